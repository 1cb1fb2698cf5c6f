import PyProof.Rows.All
import Wide.All
import OpenK.AllK
import Wide.FinOn
import HandS.ForMost
import HandS.Wide
import HandS.IsInst
import HandS.Flow
import HandS.Exc
import HandS.ExcOwn
import HandS.ExcInit
import HandS.ExcField
import HandS.TryOnly
import HandS.CallSlots
import HandS.WordsExc
import HandS.Walk
import HandS.Zip
import HandS.Defaults
import HandS.EndBits
import PySem.Challenge.RW_whichpass_k21_fixed_numbers
set_option Elab.async false
set_option linter.all false
set_option maxRecDepth 100000
set_option maxHeartbeats 4000000
namespace Py
open PySem L2

/-! ## 1. Values, objects, results -/
inductive D where
  | non | bl (b : Bool) | int (i : Int) | str (x : Str) | tup (xs : List D) | ref (n : Nat)
instance : Inhabited D := ⟨.non⟩

/-- an object of the store: a list that may change, one that is only read, a dict whose keys are ints and texts -/
inductive Ob where
  | lst (xs : List D) | ro (xs : List D) | dK (kvs : List (Key × D))
abbrev Sto := List Ob
abbrev En := List (Option D)
structure Exn where
  cls : Str
  fs : List (Str × D)

inductive R (α : Type) where
  | ok (a : α) (S : Sto) | exc (x : Exn) (S : Sto) | no
inductive O where
  | nx (e : En) (S : Sto) | ret (d : D) (S : Sto) | brk (e : En) (S : Sto) | cnt (e : En) (S : Sto) | exc (x : Exn) (e : En) (S : Sto) | no
abbrev M (α : Type) := En → Sto → R α
abbrev SM := En → Sto → O

def R.bind {α β : Type} (r : R α) (f : α → Sto → R β) : R β :=
  match r with
  | .ok a S => f a S
  | .exc x S => .exc x S
  | .no => .no
@[simp] theorem R.bind_ok {α β : Type} {a : α} {S : Sto} {f : α → Sto → R β} : (R.ok a S).bind f = f a S := rfl
@[simp] theorem R.bind_exc {α β : Type} {x : Exn} {S : Sto} {f : α → Sto → R β} : (R.exc x S : R α).bind f = .exc x S := rfl
@[simp] theorem R.bind_no {α β : Type} {f : α → Sto → R β} : (R.no : R α).bind f = .no := rfl

/-! ## 2. Operations on values -/
/-- the data of a value: through the store, to a depth -/
def toPy (S : Sto) : Nat → D → Option PyData
  | _, .non => some .none
  | _, .bl b => some (.bool b)
  | _, .int i => some (.int i)
  | _, .str x => some (.str x)
  | n + 1, .tup xs => (xs.mapM (toPy S n)).map .tuple
  | n + 1, .ref r => match S[r]? with
    | some (.lst xs) => (xs.mapM (toPy S n)).map .list
    | some (.ro xs) => (xs.mapM (toPy S n)).map .list
    | _ => none
  | 0, _ => none
def pyEq (S : Sto) (x y : D) : Option Bool :=
  match toPy S 60 x, toPy S 60 y with
  | some d, some e => if SeqAt.shaped d && SeqAt.shaped e then some (PyData.eqv d e) else none
  | _, _ => none
/-- flat values -/
def D.flat : D → Bool
  | .non | .bl _ | .int _ | .str _ => true
  | _ => false
def flatEq : D → D → Bool
  | .non, .non => true
  | .bl a, .bl b => a == b
  | .int a, .int b => a == b
  | .str a, .str b => a == b
  | .bl a, .int b => (if a then 1 else 0) == b
  | .int a, .bl b => a == (if b then 1 else 0)
  | _, _ => false
def keyOf : D → Option Key
  | .int i => some (.inl i)
  | .str x => some (.inr x)
  | _ => none
def lookK (k : Key) (kvs : List (Key × D)) : Option D := (kvs.find? fun kv => decide (kv.1 = k)).map (·.2)
def putKD (k : Key) (v : D) (kvs : List (Key × D)) : List (Key × D) :=
  if (kvs.any fun kv => decide (kv.1 = k)) = true then kvs.map (fun kv => if kv.1 = k then (kv.1, v) else kv) else kvs ++ [(k, v)]
def truth (S : Sto) : D → Option Bool
  | .non => some false
  | .bl b => some b
  | .int i => some (i != 0)
  | .str x => if x.length ≤ sizeLine then some ((x.length : Int) != 0) else none
  | .tup xs => some (!xs.isEmpty)
  | .ref r => match S[r]? with
    | some (.lst xs) => some (!xs.isEmpty)
    | some (.ro xs) => some (!xs.isEmpty)
    | some (.dK kvs) => some (!kvs.isEmpty)
    | none => none
def lenD (S : Sto) : D → Option Nat
  | .str x => if x.length ≤ sizeLine then some x.length else none
  | .tup xs => some xs.length
  | .ref r => match S[r]? with
    | some (.lst xs) => some xs.length
    | some (.ro xs) => some xs.length
    | some (.dK kvs) => some kvs.length
    | none => none
  | _ => none
def mulOk (i j : Int) : Prop := CMul i j ∨ CMulW i j
open Classical in
noncomputable def binop (op : Operator) (x y : D) (S : Sto) : R D :=
  match op, x, y with
  | .Add, .int i, .int j => .ok (.int (i + j)) S
  | .Sub, .int i, .int j => .ok (.int (i - j)) S
  | .Mult, .int i, .int j => if mulOk i j then .ok (.int (i * j)) S else .no
  | .FloorDiv, .int i, .int j => if j ≠ 0 ∧ j.natAbs.log2 < 9000 then .ok (.int (i.fdiv j)) S else .no
  | .Mod, .int i, .int j => if j ≠ 0 then .ok (.int (i.fmod j)) S else .no
  | .Pow, .int i, .int j => if CPow i j then .ok (.int (i ^ j.toNat)) S else .no
  | .LShift, .int i, .int j => if CPow i j then .ok (.int (i * 2 ^ j.toNat)) S else .no
  | .BitAnd, .int i, .int j => .ok (.int (Builtin.bitAnd i j)) S
  | .Add, .str a, .str b => if a.length + b.length ≤ sizeLine then .ok (.str (a ++ b)) S else .no
  | .Add, .tup xs, .tup ys => if xs ≠ [] ∧ xs.length + ys.length ≤ sizeLine then .ok (.tup (xs ++ ys)) S else .no
  | .Add, .ref a, .ref b => match S[a]?, S[b]? with
    | some (.lst xs), some (.lst ys) => if xs.length + ys.length ≤ sizeLine then .ok (.ref S.length) (S ++ [.lst (xs ++ ys)]) else .no
    | _, _ => .no
  | _, _, _ => .no
open Classical in
noncomputable def cmpop (op : CmpOp) (x y : D) (S : Sto) : R D :=
  match op, x, y with
  | .Eq, x, y => match pyEq S x y with
    | some b => .ok (.bl b) S
    | none => .no
  | .NotEq, x, y => match pyEq S x y with
    | some b => .ok (.bl (!b)) S
    | none => .no
  | .Lt, .int i, .int j => .ok (.bl (decide (i < j))) S
  | .LtE, .int i, .int j => .ok (.bl (decide (i ≤ j))) S
  | .Gt, .int i, .int j => .ok (.bl (decide (j < i))) S
  | .GtE, .int i, .int j => .ok (.bl (decide (j ≤ i))) S
  | .Lt, .str i, .str j => .ok (.bl (decide (i.cps.toList < j.cps.toList))) S
  | .Is, x, .non => .ok (.bl (match x with | .non => true | _ => false)) S
  | .IsNot, x, .non => .ok (.bl (match x with | .non => false | _ => true)) S
  | .In, x, .ref r => match S[r]? with
    | some (.dK kvs) => match keyOf x with
      | some k => .ok (.bl (lookK k kvs).isSome) S
      | none => .no
    | some (.lst ys) => if x.flat ∧ ys.all D.flat then .ok (.bl (ys.any fun y => flatEq y x)) S else .no
    | some (.ro ys) => if x.flat ∧ ys.all D.flat then .ok (.bl (ys.any fun y => flatEq y x)) S else .no
    | none => .no
  | .NotIn, x, .ref r => match S[r]? with
    | some (.dK kvs) => match keyOf x with
      | some k => .ok (.bl (!(lookK k kvs).isSome)) S
      | none => .no
    | some (.lst ys) => if x.flat ∧ ys.all D.flat then .ok (.bl (!ys.any fun y => flatEq y x)) S else .no
    | some (.ro ys) => if x.flat ∧ ys.all D.flat then .ok (.bl (!ys.any fun y => flatEq y x)) S else .no
    | none => .no
  | .In, x, .tup ys => if x.flat ∧ ys.all D.flat then .ok (.bl (ys.any fun y => flatEq y x)) S else .no
  | .NotIn, x, .tup ys => if x.flat ∧ ys.all D.flat then .ok (.bl (!ys.any fun y => flatEq y x)) S else .no
  | .In, .str x, .str y => .ok (.bl (!(Builtin.Str.occurrences y x 0 y.length 1).isEmpty)) S
  | .NotIn, .str x, .str y => .ok (.bl (!(!(Builtin.Str.occurrences y x 0 y.length 1).isEmpty))) S
  | _, _, _ => .no
open Classical in
noncomputable def getIx (x i : D) (S : Sto) : R D :=
  match x, i with
  | .tup xs, .int i => match atI xs i with
    | some v => .ok v S
    | none => .no
  | .str z, .int i => if z.length ≤ sizeLine then match atI z.cps.toList i with
    | some c => .ok (.str ⟨#[c]⟩) S
    | none => .no else .no
  | .ref r, k => match S[r]? with
    | some (.lst xs) => match k with
      | .int i => match atI xs i with
        | some v => .ok v S
        | none => .no
      | _ => .no
    | some (.ro xs) => match k with
      | .int i => match atI xs i with
        | some v => .ok v S
        | none => .no
      | _ => .no
    | some (.dK kvs) => match keyOf k with
      | some q => match lookK q kvs with
        | some v => .ok v S
        | none => .no
      | none => .no
    | none => .no
  | _, _ => .no
/-- a slice's part -/
def cutD {α : Type} (xs : List α) (lo hi : Option Int) : List α := (xs.drop (HT.sIx xs.length 0 lo)).take (HT.sIx xs.length xs.length hi - HT.sIx xs.length 0 lo)
open Classical in
noncomputable def getSl (x : D) (lo hi : Option Int) (S : Sto) : R D :=
  match x with
  | .tup xs => if HT.sIx xs.length 0 lo = 0 ∧ HT.sIx xs.length xs.length hi = xs.length then .no else .ok (.tup (cutD xs lo hi)) S
  | .str z => if z.length ≤ sizeLine then .ok (.str (cutS z lo hi)) S else .no
  | .ref r => match S[r]? with
    | some (.lst xs) => .ok (.ref S.length) (S ++ [.lst (cutD xs lo hi)])
    | some (.ro xs) => .ok (.ref S.length) (S ++ [.lst (cutD xs lo hi)])
    | _ => .no
  | _ => .no
/-- o[i] = v -/
def setIx (o i v : D) (S : Sto) : Option Sto :=
  match o with
  | .ref r => match S[r]? with
    | some (.lst xs) => match i with
      | .int k => match ixN xs.length k with
        | some j => some (S.set r (.lst (xs.set j v)))
        | none => none
      | _ => none
    | some (.dK kvs) => match keyOf i with
      | some q => if kvs.length < sizeLine then some (S.set r (.dK (putKD q v kvs))) else none
      | none => none
    | _ => none
  | _ => none

/-! ## 3. Garbage: what a call made and does not hand on is forgotten -/
mutual
def closedD (n : Nat) : D → Bool
  | .ref k => decide (k < n)
  | .tup xs => closedDs n xs
  | .non => true
  | .bl _ => true
  | .int _ => true
  | .str _ => true
def closedDs (n : Nat) : List D → Bool
  | [] => true
  | x :: xs => closedD n x && closedDs n xs
end
def closedO (n : Nat) : Ob → Bool
  | .lst xs => closedDs n xs
  | .ro xs => closedDs n xs
  | .dK kvs => closedDs n (kvs.map (·.2))
/-- the first n objects are as they were, or lean on none behind -/
def Stands (n : Nat) (S S' : Sto) : Prop := n ≤ S'.length ∧ ∀ i, i < n → S'[i]? = S[i]? ∨ ∃ o, S'[i]? = some o ∧ closedO n o = true
open Classical in
noncomputable def gc (S : Sto) (r : R D) : R D :=
  match r with
  | .ok d S' =>
    if S'.length = S.length then .ok d S'
    else if Stands S.length S S' then
      if closedD S.length d = true then .ok d (S'.take S.length)
      else match d with
        | .ref k => match S'[k]? with
          | some o => if S.length ≤ k ∧ closedO S.length o = true then .ok (.ref S.length) (S'.take S.length ++ [o]) else .ok d S'
          | none => .ok d S'
        | _ => .ok d S'
    else .ok d S'
  | r => r

/-! ## 4. The words of the denotation -/
noncomputable section
def cE (d : D) : M D := fun _ S => .ok d S
def noE {α : Type} : M α := fun _ _ => .no
def vE (i : Nat) : M D := fun e S => match e[i]? with
  | some (some d) => .ok d S
  | _ => .no
def bE (op : Operator) (a b : M D) : M D := fun e S => (a e S).bind fun x S1 => (b e S1).bind fun y S2 => binop op x y S2
/-- the same, what the operands made is let go -/
def bgE (op : Operator) (a b : M D) : M D := fun e S => gc S (bE op a b e S)
def kE (op : CmpOp) (a b : M D) : M D := fun e S => (a e S).bind fun x S1 => (b e S1).bind fun y S2 => cmpop op x y S2
def kgE (op : CmpOp) (a b : M D) : M D := fun e S => gc S (kE op a b e S)
def isBl : D → Option Bool
  | .bl b => some b
  | _ => none
def chE (op op' : CmpOp) (a b c : M D) : M D := fun e S => (a e S).bind fun x S1 => (b e S1).bind fun y S2 => (cmpop op x y S2).bind fun z S3 => match isBl z with
  | some true => (c e S3).bind fun w S4 => cmpop op' y w S4
  | some false => .ok (.bl false) S3
  | none => .no
def negD (x : D) (S : Sto) : R D := match x with
  | .int i => .ok (.int (-i)) S
  | _ => .no
def negE (a : M D) : M D := fun e S => (a e S).bind negD
/-- a value's truth -/
def trR (S : Sto) (x : D) : R Bool := match truth S x with
  | some b => .ok b S
  | none => .no
def trT (a : M D) : M Bool := fun e S => (a e S).bind fun x S1 => trR S1 x
def ktT (a : M D) : M Bool := fun e S => (a e S).bind fun x S1 => match isBl x with
  | some b => .ok b S1
  | none => .no
def notT (t : M Bool) : M Bool := fun e S => (t e S).bind fun b S1 => .ok (!b) S1
def andT (t u : M Bool) : M Bool := fun e S => (t e S).bind fun b S1 => bif b then u e S1 else .ok false S1
def orT (t u : M Bool) : M Bool := fun e S => (t e S).bind fun b S1 => bif b then .ok true S1 else u e S1
def ifT (c t u : M Bool) : M Bool := fun e S => (c e S).bind fun b S1 => bif b then t e S1 else u e S1
def andE (a b : M D) : M D := fun e S => (a e S).bind fun x S1 => (trR S1 x).bind fun k S2 => bif k then b e S2 else .ok x S2
def orE (a b : M D) : M D := fun e S => (a e S).bind fun x S1 => (trR S1 x).bind fun k S2 => bif k then .ok x S2 else b e S2
def notE (a : M D) : M D := fun e S => (a e S).bind fun x S1 => (trR S1 x).bind fun k S2 => .ok (.bl (!k)) S2
def ifE (t : M Bool) (a b : M D) : M D := fun e S => (t e S).bind fun k S1 => bif k then a e S1 else b e S1
/-- argument lists -/
def nilA : M (List D) := fun _ S => .ok [] S
def consA (a : M D) (r : M (List D)) : M (List D) := fun e S => (a e S).bind fun x S1 => (r e S1).bind fun xs S2 => .ok (x :: xs) S2
open Classical in
def tupE (r : M (List D)) : M D := fun e S => (r e S).bind fun xs S1 => if xs.length ≤ sizeLine then .ok (.tup xs) S1 else .no
open Classical in
def lstE (r : M (List D)) : M D := fun e S => (r e S).bind fun xs S1 => if xs.length ≤ sizeLine then .ok (.ref S1.length) (S1 ++ [.lst xs]) else .no
def dctE : M D := fun _ S => .ok (.ref S.length) (S ++ [.dK []])
def ixE (a b : M D) : M D := fun e S => (a e S).bind fun x S1 => (b e S1).bind fun y S2 => getIx x y S2
def noP : M (Option Int) := fun _ S => .ok none S
def intOf : D → Option Int
  | .int i => some i
  | _ => none
def someP (a : M D) : M (Option Int) := fun e S => (a e S).bind fun x S1 => match intOf x with
  | some i => .ok (some i) S1
  | none => .no
def slE (a : M D) (lo hi : M (Option Int)) : M D := fun e S => (a e S).bind fun x S1 => (lo e S1).bind fun l S2 => (hi e S2).bind fun u S3 => getSl x l u S3
/-- a call of a def of the text: its meaning f; what it made is let go -/
def caE (f : List D → Sto → R D) (r : M (List D)) : M D := fun e S => gc S ((r e S).bind f)
/-- .. with keywords: put into the parameters' order by g -/
def ckE (g : List D → List D → List D) (f : List D → Sto → R D) (r q : M (List D)) : M D := fun e S => gc S ((r e S).bind fun xs S1 => (q e S1).bind fun ys S2 => f (g xs ys) S2)

/-! ### built-ins -/
/-- a value's type by its datum -/
def tyS (S : Sto) : D → Option String
  | .non => some "NoneType"
  | .bl _ => some "bool"
  | .int _ => some "int"
  | .str _ => some "str"
  | .tup _ => some "tuple"
  | .ref r => match S[r]? with
    | some (.lst _) => some "list"
    | some (.dK _) => some "dict"
    | _ => none
/-- the classes that isinstance is asked for -/
def typs : List Str := ["int", "bool", "str", "tuple", "list", "dict"]
def isI (t : String) (T : Str) : Option Bool := if T ∈ typs then some (decide (Str.ofString t = T) || (t == "bool" && decide (T = "int"))) else none
def isInst (S : Sto) (T : Str) (x : D) : Option Bool := match tyS S x with
  | some t => isI t T
  | none => none
def isE (T : Str) (a : M D) : M D := fun e S => (a e S).bind fun x S1 => match isInst S1 T x with
  | some b => .ok (.bl b) S1
  | none => .no
def intsOf : List D → Option (List Int)
  | [] => some []
  | .int i :: r => (intsOf r).map (i :: ·)
  | _ => none
def blsOf : List D → Option (List Bool)
  | [] => some []
  | .bl i :: r => (blsOf r).map (i :: ·)
  | _ => none
/-- a list's items (or a read one's) -/
def listAt (S : Sto) : D → Option (List D)
  | .ref r => match S[r]? with
    | some (.lst xs) => some xs
    | some (.ro xs) => some xs
    | _ => none
  | _ => none
def bi (id : Str) (xs : List D) (S : Sto) : R D :=
  if id = "len" then (match xs with
    | [x] => match lenD S x with
      | some n => .ok (.int n) S
      | none => .no
    | _ => .no)
  else if id = "abs" then (match xs with
    | [.int i] => .ok (.int (if i < 0 then -i else i)) S
    | _ => .no)
  else if id = "int" then (match xs with
    | [.int i] => .ok (.int i) S
    | [.bl k] => .ok (.int (if k then 1 else 0)) S
    | _ => .no)
  else if id = "bool" then (match xs with
    | [.int i] => .ok (.bl (i != 0)) S
    | [.bl k] => .ok (.bl k) S
    | _ => .no)
  else if id = "max" then (match xs with
    | [.int i, .int j] => .ok (.int (if j > i then j else i)) S
    | _ => .no)
  else if id = "min" then (match xs with
    | [.int i, .int j] => .ok (.int (if j < i then j else i)) S
    | _ => .no)
  else if id = "tuple" then (match xs with
    | [.tup ys] => .ok (.tup ys) S
    | [x] => match listAt S x with
      | some ys => .ok (.tup ys) S
      | none => .no
    | _ => .no)
  else if id = "list" then (match xs with
    | [.tup ys] => .ok (.ref S.length) (S ++ [.lst ys])
    | [x] => match listAt S x with
      | some ys => .ok (.ref S.length) (S ++ [.lst ys])
      | none => .no
    | _ => .no)
  else if id = "sum" then (match xs with
    | [x] => match (listAt S x).bind intsOf with
      | some ns => .ok (.int ns.sum) S
      | none => .no
    | _ => .no)
  else if id = "all" then (match xs with
    | [x] => match (listAt S x).bind blsOf with
      | some bs => .ok (.bl (bs.all id_)) S
      | none => .no
    | _ => .no)
  else if id = "any" then (match xs with
    | [x] => match (listAt S x).bind blsOf with
      | some bs => .ok (.bl (bs.any id_)) S
      | none => .no
    | _ => .no)
  else .no
where id_ (b : Bool) : Bool := b
def biE (id : Str) (r : M (List D)) : M D := fun e S => gc S ((r e S).bind fun xs S1 => bi id xs S1)
/-- methods of built-in types -/
def mth (m : Str) (o : D) (xs : List D) (S : Sto) : R D :=
  if m = "append" then (match o, xs with
    | .ref r, [x] => match S[r]? with
      | some (.lst ys) => if ys.length < sizeLine then .ok .non (S.set r (.lst (ys ++ [x]))) else .no
      | _ => .no
    | _, _ => .no)
  else if m = "pop" then (match o, xs with
    | .ref r, [] => match S[r]? with
      | some (.lst ys) => match ys[ys.length - 1]? with
        | some y => .ok y (S.set r (.lst ys.dropLast))
        | none => .no
      | _ => .no
    | .ref r, [.int i] => match S[r]? with
      | some (.lst ys) => if -(2 ^ 63) ≤ i ∧ i < 2 ^ 63 then match seqIndex? i ys.length with
          | some k => match ys[k]? with
            | some y => .ok y (S.set r (.lst (ys.eraseIdx k)))
            | none => .no
          | none => .no
        else .no
      | _ => .no
    | _, _ => .no)
  else .no
/-- the receiver's type -/
def rcv (S : Sto) (o : D) : Bool := match o with
  | .ref r => match S[r]? with
    | some (.lst _) => true
    | _ => false
  | _ => false
def meE (m : Str) (a : M D) (r : M (List D)) : M D := fun e S => gc S ((a e S).bind fun o S1 => bif rcv S1 o then (r e S1).bind fun xs S2 => mth m o xs S2 else .no)

/-! ### what is walked -/
abbrev Guard := List (Nat × Ob)
structure Its where
  xs : List D
  g : Guard
def guardOk (g : Guard) (S : Sto) : Prop := ∀ p ∈ g, S[p.1]? = some p.2
inductive Tgt where
  | nm (i : Nat) | tp (ts : List Tgt)
mutual
def bindT : Tgt → D → En → Option En
  | .nm i, d, e => some (e.set i (some d))
  | .tp ts, .tup xs, e => bindTs ts xs e
  | .tp _, _, _ => none
def bindTs : List Tgt → List D → En → Option En
  | [], [], e => some e
  | t :: ts, x :: xs, e => match bindT t x e with
    | some e1 => bindTs ts xs e1
    | none => none
  | _, _, _ => none
end
mutual
def slotsT : Tgt → List Nat
  | .nm i => [i]
  | .tp ts => slotsTs ts
def slotsTs : List Tgt → List Nat
  | [] => []
  | t :: ts => slotsT t ++ slotsTs ts
end
def rangeL (lo : Int) (n : Nat) : List D := (List.range n).map fun (i : Nat) => D.int (lo + i)
def itsOf (x : D) (S : Sto) : R Its := match x with
  | .tup xs => .ok ⟨xs, []⟩ S
  | .str z => .ok ⟨z.cps.toList.map fun c => .str ⟨#[c]⟩, []⟩ S
  | .ref r => match S[r]? with
    | some (.lst xs) => .ok ⟨xs, [(r, .lst xs)]⟩ S
    | some (.ro xs) => .ok ⟨xs, [(r, .ro xs)]⟩ S
    | _ => .no
  | _ => .no
def itI (a : M D) : M Its := fun e S => (a e S).bind itsOf
def rgI (r : M (List D)) : M Its := fun e S => (r e S).bind fun xs S1 => match xs with
  | [.int j] => if -(2 ^ 62) ≤ j ∧ j < 2 ^ 62 then .ok ⟨rangeL 0 j.toNat, []⟩ S1 else .no
  | [.int i, .int j] => if -(2 ^ 62) ≤ i ∧ i < 2 ^ 62 ∧ -(2 ^ 62) ≤ j ∧ j < 2 ^ 62 then .ok ⟨rangeL i (j - i).toNat, []⟩ S1 else .no
  | _ => .no
def enumL : Nat → List D → List D
  | _, [] => []
  | i, x :: xs => .tup [.int (i : Nat), x] :: enumL (i + 1) xs
def enI (a : M D) : M Its := fun e S => (a e S).bind fun x S1 => match x with
  | .ref _ => (itsOf x S1).bind fun j S2 => .ok ⟨enumL 0 j.xs, j.g⟩ S2
  | _ => .no
def zipL : List D → List D → List D
  | x :: xs, y :: ys => .tup [x, y] :: zipL xs ys
  | _, _ => []
def ziI (a b : M D) : M Its := fun e S => (a e S).bind fun x S1 => (b e S1).bind fun y S2 => match x, y with
  | .ref _, .ref _ => (itsOf x S2).bind fun j S3 => (itsOf y S3).bind fun k S4 => .ok ⟨zipL j.xs k.xs, j.g ++ k.g⟩ S4
  | .tup xs, .tup ys => .ok ⟨zipL xs ys, []⟩ S2
  | _, _ => .no

/-- list comprehensions: acc what is made so far -/
def wipeE (e : En) : List Nat → En
  | [] => e
  | v :: vs => (wipeE e vs).set v none
def R.nox {α : Type} (r : R α) : R α := match r with
  | .exc _ _ => .no
  | r => r
@[simp] theorem R.nox_ok {α : Type} {a : α} {S : Sto} : (R.ok a S).nox = .ok a S := rfl
@[simp] theorem R.nox_exc {α : Type} {x : Exn} {S : Sto} : (R.exc x S : R α).nox = .no := rfl
@[simp] theorem R.nox_no {α : Type} : (R.no : R α).nox = .no := rfl
open Classical in
def lcL (t : Tgt) (tt : M Bool) (el : M D) (e : En) (g : Guard) : List D → List D → Sto → R (List D)
  | [], acc, S => if guardOk g S then .ok acc S else .no
  | x :: xs, acc, S => if guardOk g S then match bindT t x e with
    | none => .no
    | some e1 => (tt e1 S).nox.bind fun b S1 => bif b then (el e1 S1).nox.bind fun y S2 => if acc.length < sizeLine then lcL t tt el e g xs (acc ++ [y]) S2 else .no else lcL t tt el e g xs acc S1
    else .no

def lcE (it : M Its) (t : Tgt) (tt : M Bool) (el : M D) (vs : List Nat) : M D := fun e S => (it e S).bind fun j S1 => (lcL t tt el (wipeE e vs) j.g j.xs [] S1).bind fun ys S2 => .ok (.ref S2.length) (S2 ++ [.lst ys])

/-! ### statements -/
def nxS : SM := fun e S => .nx e S
def noS : SM := fun _ _ => .no
def seqS (a b : SM) : SM := fun e S => match a e S with
  | .nx e1 S1 => b e1 S1
  | r => r
/-- an expression's outcome, with what follows -/
def R.st {α : Type} (r : R α) (e : En) (f : α → Sto → O) : O := match r with
  | .ok a S => f a S
  | .exc x S => .exc x e S
  | .no => .no
@[simp] theorem R.st_ok {α : Type} {a : α} {S : Sto} {e : En} {f : α → Sto → O} : (R.ok a S).st e f = f a S := rfl
@[simp] theorem R.st_exc {α : Type} {x : Exn} {S : Sto} {e : En} {f : α → Sto → O} : (R.exc x S : R α).st e f = .exc x e S := rfl
@[simp] theorem R.st_no {α : Type} {e : En} {f : α → Sto → O} : (R.no : R α).st e f = .no := rfl
def exprS (a : M D) : SM := fun e S => (a e S).st e fun _ S1 => .nx e S1
def setS (i : Nat) (a : M D) : SM := fun e S => (a e S).st e fun x S1 => .nx (e.set i (some x)) S1
def tgtS (t : Tgt) (a : M D) : SM := fun e S => (a e S).st e fun x S1 => match bindT t x e with
  | some e1 => .nx e1 S1
  | none => .no
def parS (i j : Nat) (a b : M D) : SM := fun e S => (a e S).st e fun x S1 => (b e S1).st e fun y S2 => .nx ((e.set i (some x)).set j (some y)) S2
def putS (o i v : M D) : SM := fun e S => (v e S).st e fun x S1 => (o e S1).st e fun y S2 => (i e S2).st e fun z S3 => match setIx y z x S3 with
  | some S4 => .nx e S4
  | none => .no
def augS (i : Nat) (op : Operator) (a : M D) : SM := fun e S => match e[i]? with
  | some (some x) => (a e S).st e fun y S1 => match x, y with
    | .int m, .int n => (binop op (.int m) (.int n) S1).st e fun z S2 => .nx (e.set i (some z)) S2
    | _, _ => .no
  | _ => .no
def ifS (t : M Bool) (a b : SM) : SM := fun e S => (t e S).st e fun k S1 => bif k then a e S1 else b e S1
def retS (a : M D) : SM := fun e S => (a e S).st e fun x S1 => .ret x S1
def retN : SM := fun _ S => .ret .non S
def brkS : SM := fun e S => .brk e S
def cntS : SM := fun e S => .cnt e S
def whileN (t : M Bool) (b : SM) : Nat → SM
  | 0, _, _ => .no
  | n + 1, e, S => (t e S).st e fun k S1 => bif k then (match b e S1 with
    | .nx e2 S2 => whileN t b n e2 S2
    | .cnt e2 S2 => whileN t b n e2 S2
    | .brk e2 S2 => .nx e2 S2
    | r => r) else .nx e S1
open Classical in
def whileS (t : M Bool) (b : SM) : SM := fun e S => if h : ∃ n, whileN t b n e S ≠ .no then whileN t b h.choose e S else .no
open Classical in
/-- the guard is asked once more at the end -/
def forG (t : Tgt) (b : SM) (g : Guard) : List D → SM
  | [], e, S => if guardOk g S then .nx e S else .no
  | x :: xs, e, S => if guardOk g S then match bindT t x e with
    | none => .no
    | some e1 => match b e1 S with
      | .nx e2 S2 => forG t b g xs e2 S2
      | .cnt e2 S2 => forG t b g xs e2 S2
      | .brk e2 S2 => .nx e2 S2
      | r => r
    else .no
def forS (it : M Its) (t : Tgt) (b : SM) : SM := fun e S => (it e S).st e fun j S1 => forG t b j.g j.xs e S1
/-- raise C(..), C's __init__ keeping its arguments under the names fs -/
def raiseS (c : Str) (fs : List Str) (r : M (List D)) : SM := fun e S => (r e S).st e fun xs S1 => if xs.length = fs.length then .exc ⟨c, fs.zip xs⟩ e S1 else .no
/-- try: b except C1: h1 ..: classes told by their subclasses cs -/
def trySub (cs : List (List Str × (Exn → SM))) (x : Exn) : Option (Exn → SM) := (cs.find? fun p => decide (x.cls ∈ p.1)).map (·.2)
def tryS (b : SM) (cs : List (List Str × (Exn → SM))) : SM := fun e S => match b e S with
  | .exc x e1 S1 => match trySub cs x with
    | some h => h x e1 S1
    | none => .exc x e1 S1
  | r => r

/-! ### a def -/
def fnR (N : List Str) (n : Nat) (b : SM) (xs : List D) (S : Sto) : R D :=
  if xs.length = n then match b (xs.map some ++ List.replicate (N.length - n) none) S with
    | .nx _ S1 => .ok .non S1
    | .ret d S1 => .ok d S1
    | .exc x _ S1 => .exc x S1
    | _ => .no
  else .no
end
end Py
namespace Py
open PySem L2
/-! ## 5. The denotation of the syntax -/
structure Callee where
  ps : List Str
  kws : List (Nat × List Str × List Nat)
  run : List D → Sto → R D
structure ExcC where
  fs : List Str
  up : List Str
structure Cfg where
  N : List Str
  sc : Scope
  calm : Bool
  fns : List (Str × Callee)
  excs : List (Str × ExcC)
  cons : List (Str × D)
  err : Option (Str × Exn)

def nameOk (x : Str) : Bool := !(x == ("__debug__" : Str)) && !(x == ("__classdict__" : Str)) && !(x == ("__name__" : Str))
def ixIn : List Str → Str → Nat → Option Nat
  | [], _, _ => none
  | y :: ys, x, n => if y = x then some n else ixIn ys x (n + 1)
def isVis (k : Option NameKind) : Bool := match k with
  | some .local => true
  | some .cell => true
  | some .free => true
  | _ => false
def isLoc (k : Option NameKind) : Bool := match k with
  | some .local => true
  | _ => false
def isGlob (k : Option NameKind) : Bool := match k with
  | some .globalImplicit => true
  | _ => false
def Cfg.slot (c : Cfg) (x : Str) : Option Nat := if isVis (c.sc.names.lookup x) && nameOk x then ixIn c.N x 0 else none
/-- a slot that may be stored (in the frame's own names) -/
def Cfg.lslot (c : Cfg) (x : Str) : Option Nat := if isLoc (c.sc.names.lookup x) && nameOk x then ixIn c.N x 0 else none
def Cfg.glob (c : Cfg) (x : Str) : Bool := isGlob (c.sc.names.lookup x) && nameOk x
/-- a comprehension's block: the names that it captures, its own with their slots -/
def blkSc (scope sc : Scope) : Scope := { scope with names := scope.names.map fun (n, k) => if (k == NameKind.free && sc.kind == .function && sc.names.lookup n == some .cell) then (n, NameKind.cell) else (n, k) }
def ownOf (N : List Str) : List (Str × NameKind) → List (Str × Nat)
  | [] => []
  | (n, k) :: r => match k with
    | .local => match ixIn N n 0 with
      | some i => (n, i) :: ownOf N r
      | none => ownOf N r
    | .cell => match ixIn N n 0 with
      | some i => (n, i) :: ownOf N r
      | none => ownOf N r
    | _ => ownOf N r
/-- operands that make objects that nobody keeps -/
def makes : Expr → Bool
  | .List _ _ => true
  | .ListComp _ _ _ _ => true
  | .Call (.Name f _) _ _ _ => decide (f = "list") || decide (f = "sorted")
  | _ => false
def hasStar : List Expr → Bool
  | [] => false
  | .Starred _ _ :: _ => true
  | _ :: r => hasStar r
def bltn : List Str := ["len", "abs", "int", "bool", "max", "min", "tuple", "list", "sum", "all", "any"]
/-- of these a call asks that no exception is handled -/
def bltnC : List Str := ["max", "min", "sum", "all", "any"]
def mths : List Str := ["append", "pop"]
/-- the places of the keywords' values for the parameters left -/
def kwG (pm : List Nat) (xs ys : List D) : List D := xs ++ pm.map fun i => ys.getD i .non
def kwNames : List Keyword → Option (List Str)
  | [] => some []
  | ⟨some k, _, _⟩ :: r => (kwNames r).map (k :: ·)
  | _ => none
noncomputable section
def argsM : List (M D) → M (List D)
  | [] => nilA
  | m :: ms => consA m (argsM ms)
def andL : List (M D) → M D
  | [] => noE
  | [m] => m
  | m :: ms => andE m (andL ms)
def orL : List (M D) → M D
  | [] => noE
  | [m] => m
  | m :: ms => orE m (orL ms)
def andTL : List (M Bool) → M Bool
  | [] => noE
  | [m] => m
  | m :: ms => andT m (andTL ms)
def orTL : List (M Bool) → M Bool
  | [] => noE
  | [m] => m
  | m :: ms => orT m (orTL ms)
def yesT : M Bool := fun _ S => .ok true S
def seqL : List SM → SM
  | [] => nxS
  | s :: r => seqS s (seqL r)
def denTg (c : Cfg) (own : Bool) : Nat → Expr → Option Tgt
  | 0, _ => none
  | n + 1, e => match e with
    | .Name x _ => (c.lslot x).map .nm
    | .Tuple es _ _ => (es.mapM (denTg c own n)).map .tp
    | _ => none
def fieldOf (x : Exn) (f : Str) : M D := match x.fs.lookup f with
  | some d => cE d
  | none => noE
/-- a call by a name -/
def denCall (c : Cfg) (f : Str) (args : List Expr) (kws : List Keyword) (as ws : List (M D)) : M D :=
  if !c.glob f || hasStar args then noE
  else match c.fns.lookup f with
    | some q => if !c.calm then noE
      else match kws with
      | [] => caE q.run (argsM as)
      | _ => match kwNames kws with
        | some ks => match q.kws.find? fun p => decide (p.1 = as.length) && decide (p.2.1 = ks) with
          | some p => ckE (kwG p.2.2) q.run (argsM as) (argsM ws)
          | none => noE
        | none => noE
    | none => match kws, args with
      | [], _ :: _ => if f = "isinstance" then (match args, as with
          | [_, .Name T _], [a, _] => if decide (T ∈ typs) && c.glob T then isE T a else noE
          | _, _ => noE)
        else if decide (f ∈ bltn) && (c.calm || !decide (f ∈ bltnC)) then biE f (argsM as) else noE
      | _, _ => noE
mutual
def denE (c : Cfg) : Nat → Expr → M D
  | 0, _ => noE
  | n + 1, e => match e with
    | .Name x _ => match c.slot x with
      | some i => vE i
      | none => if c.glob x then (match c.cons.lookup x with
        | some d => cE d
        | none => noE) else noE
    | .Constant k _ _ => match k with
      | .int i => cE (.int i)
      | .bool b => cE (.bl b)
      | .none => cE .non
      | .str x => cE (.str x)
      | _ => noE
    | .BinOp a op b _ => if makes a || makes b then bgE op (denE c n a) (denE c n b) else bE op (denE c n a) (denE c n b)
    | .UnaryOp op a _ => match op with
      | .USub => negE (denE c n a)
      | .Not => notE (denE c n a)
      | _ => noE
    | .BoolOp op vs _ => match op with
      | .And => andL (vs.map (denE c n))
      | .Or => orL (vs.map (denE c n))
    | .IfExp t a b _ => ifE (denT c n t) (denE c n a) (denE c n b)
    | .Compare a ops bs _ => match ops, bs with
      | [op], [b] => if behindInMarks op b then noE else if makes a || makes b then kgE op (denE c n a) (denE c n b) else kE op (denE c n a) (denE c n b)
      | [op, op'], [b, d] => if lastMarks [op, op'] [b, d] then noE else chE op op' (denE c n a) (denE c n b) (denE c n d)
      | _, _ => noE
    | .Call f args kws pos => match f with
      | .Name x _ => denCall c x args kws (args.map (denE c n)) (kws.map fun k => denE c n k.value)
      | .Attribute o m apos => if !hasStar args && (apos.endLine == pos.line) && decide (m ∈ mths) && decide (args.length < 29) then (match kws, o with
        | [], .Name _ _ => meE m (denE c n o) (argsM (args.map (denE c n)))
        | [], .Subscript _ _ _ => meE m (denE c n o) (argsM (args.map (denE c n)))
        | _, _ => noE) else noE
      | _ => noE
    | .Attribute o f _ => match o, c.err with
      | .Name x _, some (y, q) => if x = y then fieldOf q f else noE
      | _, _ => noE
    | .Subscript a i _ => match i with
      | .Slice lo hi st _ => match st with
        | none => slE (denE c n a) (match lo with
          | none => noP
          | some l => someP (denE c n l)) (match hi with
          | none => noP
          | some l => someP (denE c n l))
        | some _ => noE
      | i => ixE (denE c n a) (denE c n i)
    | .Tuple es _ _ => if hasStar es then noE else tupE (argsM (es.map (denE c n)))
    | .List es _ => if hasStar es then noE else lstE (argsM (es.map (denE c n)))
    | .Dict ks vs _ => match ks, vs with
      | [], [] => dctE
      | _, _ => noE
    | .ListComp el gs scope _ => match gs with
      | [⟨tg, iter, ifs, 0⟩] => if c.calm && blkC c.N c.sc scope (ownOf c.N scope.names) then
          (match (denTg { c with sc := blkSc scope c.sc } true 5 tg).filter (fun t => (slotsT t).all fun i => decide (i ∈ (ownOf c.N scope.names).map (·.2))), ifs with
          | some t, [] => lcE (denI c n tg iter) t yesT (denE { c with sc := blkSc scope c.sc } n el) ((ownOf c.N scope.names).map (·.2))
          | some t, [i] => lcE (denI c n tg iter) t (denT { c with sc := blkSc scope c.sc } n i) (denE { c with sc := blkSc scope c.sc } n el) ((ownOf c.N scope.names).map (·.2))
          | _, _ => noE) else noE
      | _ => noE
    | _ => noE
def denT (c : Cfg) : Nat → Expr → M Bool
  | 0, _ => noE
  | n + 1, e => match e with
    | .UnaryOp .Not a _ => notT (denT c n a)
    | .BoolOp op vs _ => match op with
      | .And => andTL (vs.map (denT c n))
      | .Or => orTL (vs.map (denT c n))
    | .IfExp t a b _ => ifT (denT c n t) (denT c n a) (denT c n b)
    | .Compare a ops bs p => match ops, bs with
      | [op], [b] => if behindInMarks op b then noE else ktT (if makes a || makes b then kgE op (denE c n a) (denE c n b) else kE op (denE c n a) (denE c n b))
      | [op, op'], [b, d] => if lastMarks [op, op'] [b, d] then noE else ktT (chE op op' (denE c n a) (denE c n b) (denE c n d))
      | _, _ => noE
    | e => trT (denE c n e)
def denI (c : Cfg) : Nat → Expr → Expr → M Its
  | 0, _, _ => noE
  | n + 1, tg, e => match e with
    | .Call (.Name x p) [a] [] pos => if x = "range" then (if c.glob x && !hasStar [a] then rgI (argsM [denE c n a]) else noE)
      else if x = "enumerate" then (match tg with
        | .Tuple _ _ _ => if c.glob x && !hasStar [a] then enI (denE c n a) else noE
        | _ => noE)
      else if x = "reversed" then noE
      else itI (denE c n (.Call (.Name x p) [a] [] pos))
    | .Call (.Name x p) [a, b] [] pos => if x = "range" then (if c.glob x && !hasStar [a, b] then rgI (argsM [denE c n a, denE c n b]) else noE)
      else if x = "zip" then (match tg with
        | .Tuple _ _ _ => if c.glob x && !hasStar [a, b] then ziI (denE c n a) (denE c n b) else noE
        | _ => noE)
      else itI (denE c n (.Call (.Name x p) [a, b] [] pos))
    | e => itI (denE c n e)
end
def isComp : Expr → Bool
  | .ListComp _ _ _ _ => true
  | .SetComp _ _ _ _ => true
  | .DictComp _ _ _ _ _ => true
  | _ => false
/-- x, y = a, b that is stored from the right -/
def parOf (c : Cfg) (ts vs : List Expr) : Option (Nat × Nat) := match ts, vs with
  | [.Name x p, .Name y q], [a, b] => match c.lslot x, c.lslot y with
    | some i, some j => if hasStar vs || !(p.line == q.line) || decide (i = j) || decide (x = y) || vs.all (foldedForSure 8) || vs.all (constantsAlone 8) then none else some (i, j)
    | _, _ => none
  | _, _ => none
/-- targets that are not all plain names of the frame: the tuple is made and parted -/
def partOf (c : Cfg) (ts : List Expr) (v : Expr) : Bool := match v with
  | .Tuple vs _ _ => decide (4 ≤ ts.length) || decide (ts.length ≠ vs.length) || vs.all (foldedForSure 8) || ts.any (fun t => match t with
    | .Name x _ => !isLoc (c.sc.names.lookup x)
    | _ => true)
  | _ => true
def upsOf (c : Cfg) (C : Str) : List Str := (c.excs.filter fun p => decide (C ∈ p.2.up)).map (·.1)
/-- behind a suite its name is gone -/
def offS (i : Nat) (s : SM) : SM := fun e S => match s e S with
  | .nx e1 S1 => .nx (e1.set i none) S1
  | .brk e1 S1 => .brk (e1.set i none) S1
  | .cnt e1 S1 => .cnt (e1.set i none) S1
  | r => r
mutual
def denS (c : Cfg) : Nat → Stmt → SM
  | 0, _ => noS
  | n + 1, s => match s with
    | .Expr e _ => if isComp e then noS else exprS (denE c n e)
    | .Assign ts v _ => match ts with
      | [.Name x px] => match c.lslot x with
        | some i => (match v with
          | .ListComp el gs scope pv => if c.calm && (px.line == pv.line) && !(scope.names.any fun (n, k) => n == x && (k == .local || k == .cell)) then setS i (denE c n (.ListComp el gs scope pv)) else noS
          | v => if isComp v then noS else setS i (denE c n v))
        | none => noS
      | [.Tuple us k p] => if !c.calm || isComp v then noS else
        match v with
        | .Tuple vs _ _ => match parOf c us vs with
          | some (i, j) => match vs with
            | [a, b] => parS i j (denE c n a) (denE c n b)
            | _ => noS
          | none => if partOf c us v then (match denTg c false 5 (.Tuple us k p) with
            | some t => tgtS t (denE c n v)
            | none => noS) else noS
        | v => match denTg c false 5 (.Tuple us k p) with
          | some t => tgtS t (denE c n v)
          | none => noS
      | [.Subscript o i _] => match i with
        | .Slice _ _ _ _ => noS
        | i => putS (denE c n o) (denE c n i) (denE c n v)
      | _ => noS
    | .AugAssign t op v _ => match t with
      | .Name x _ => match c.lslot x with
        | some i => if decide (op = .Add) || decide (op = .Sub) || decide (op = .Mult) || decide (op = .FloorDiv) then augS i op (denE c n v) else noS
        | none => noS
      | _ => noS
    | .If t a b _ => ifS (denT c n t) (seqL (a.map (denS c n))) (seqL (b.map (denS c n)))
    | .While t a b _ => match b with
      | [] => whileS (denT c n t) (seqL (a.map (denS c n)))
      | _ => noS
    | .For tg it a b _ => match b with
      | [] => if !c.calm then noS else match denTg c false 5 tg with
        | some t => forS (denI c n tg it) t (seqL (a.map (denS c n)))
        | none => noS
      | _ => noS
    | .Return v _ => match v with
      | some e => retS (denE c n e)
      | none => retN
    | .Pass _ => nxS
    | .Break _ => brkS
    | .Continue _ => cntS
    | _ => noS
end
/-- the meaning of a def of the text -/
def denF (N : List Str) (k : Nat) (fns : List (Str × Callee)) (excs : List (Str × ExcC)) (cons : List (Str × D)) (st : Stmt) : List D → Sto → R D :=
  fnR N k (seqL ((defBody st).map (denS ⟨N, defScope st, true, fns, excs, cons, none⟩ 40)))
end
end Py
namespace Py
open PySem PySem.Spec L2
/-! ## 6. What values and objects stand for -/
mutual
def Rp (ρ : List Addr) (K : PySem.W.Frag) (H : Hp) : D → V → Prop
  | .non, v => v = .non
  | .bl b, v => v = .bl b
  | .int i, v => v = .int i
  | .str x, v => v = .str x
  | .tup xs, v => ∃ a vs, v = .ref a ∧ SqT K H a vs ∧ Rps ρ K H xs vs
  | .ref n, v => ∃ a, v = .ref a ∧ ρ[n]? = some a
def Rps (ρ : List Addr) (K : PySem.W.Frag) (H : Hp) : List D → List V → Prop
  | [], vs => vs = []
  | x :: xs, vs => ∃ v r, vs = v :: r ∧ Rp ρ K H x v ∧ Rps ρ K H xs r
end
theorem Rps.nil {ρ : List Addr} {K : PySem.W.Frag} {H : Hp} : Rps ρ K H [] [] := by simp only [Rps]
theorem Rps.cons {ρ : List Addr} {K : PySem.W.Frag} {H : Hp} {x : D} {v : V} {xs : List D} {vs : List V} (h : Rp ρ K H x v) (t : Rps ρ K H xs vs) : Rps ρ K H (x :: xs) (v :: vs) := by
  simp only [Rps]; exact ⟨v, vs, rfl, h, t⟩
theorem Rps.len {ρ : List Addr} {K : PySem.W.Frag} {H : Hp} : ∀ {xs : List D} {vs : List V}, Rps ρ K H xs vs → xs.length = vs.length
  | [], vs, h => by simp only [Rps] at h; subst h; rfl
  | x :: xs, vs, h => by
    simp only [Rps] at h
    obtain ⟨v, r, rfl, _, t⟩ := h
    simp only [List.length_cons, Rps.len t]
theorem Rps.get {ρ : List Addr} {K : PySem.W.Frag} {H : Hp} : ∀ {xs : List D} {vs : List V} {i : Nat} {x : D}, Rps ρ K H xs vs → xs[i]? = some x → ∃ v, vs[i]? = some v ∧ Rp ρ K H x v
  | [], vs, i, x, h, e => by simp at e
  | y :: xs, vs, i, x, h, e => by
    simp only [Rps] at h
    obtain ⟨v, r, rfl, h1, t⟩ := h
    cases i with
    | zero => simp at e; subst e; exact ⟨v, rfl, h1⟩
    | succ i =>
      obtain ⟨w, e2, h2⟩ := Rps.get (i := i) t (by simpa using e)
      exact ⟨w, by simpa using e2, h2⟩
theorem Rps.append {ρ : List Addr} {K : PySem.W.Frag} {H : Hp} : ∀ {xs ys : List D} {vs ws : List V}, Rps ρ K H xs vs → Rps ρ K H ys ws → Rps ρ K H (xs ++ ys) (vs ++ ws)
  | [], ys, vs, ws, h, g => by simp only [Rps] at h; subst h; exact g
  | x :: xs, ys, vs, ws, h, g => by
    simp only [Rps] at h
    obtain ⟨v, r, rfl, h1, t⟩ := h
    exact Rps.cons h1 (Rps.append t g)
theorem Rps.take {ρ : List Addr} {K : PySem.W.Frag} {H : Hp} : ∀ {xs : List D} {vs : List V} (n : Nat), Rps ρ K H xs vs → Rps ρ K H (xs.take n) (vs.take n)
  | _, _, 0, _ => by simp only [List.take_zero]; exact Rps.nil
  | [], vs, n + 1, h => by simp only [Rps] at h; subst h; exact Rps.nil
  | x :: xs, vs, n + 1, h => by
    simp only [Rps] at h
    obtain ⟨v, r, rfl, h1, t⟩ := h
    exact Rps.cons h1 (Rps.take n t)
theorem Rps.drop {ρ : List Addr} {K : PySem.W.Frag} {H : Hp} : ∀ {xs : List D} {vs : List V} (n : Nat), Rps ρ K H xs vs → Rps ρ K H (xs.drop n) (vs.drop n)
  | _, _, 0, h => h
  | [], vs, n + 1, h => by simp only [Rps] at h; subst h; exact Rps.nil
  | x :: xs, vs, n + 1, h => by
    simp only [Rps] at h
    obtain ⟨v, r, rfl, h1, t⟩ := h
    exact Rps.drop n t
theorem Rps.set {ρ : List Addr} {K : PySem.W.Frag} {H : Hp} {y : D} {w : V} (hy : Rp ρ K H y w) : ∀ {xs : List D} {vs : List V} (i : Nat), Rps ρ K H xs vs → Rps ρ K H (xs.set i y) (vs.set i w)
  | [], vs, i, h => by simp only [Rps] at h; subst h; exact Rps.nil
  | x :: xs, vs, 0, h => by
    simp only [Rps] at h
    obtain ⟨v, r, rfl, h1, t⟩ := h
    exact Rps.cons hy t
  | x :: xs, vs, i + 1, h => by
    simp only [Rps] at h
    obtain ⟨v, r, rfl, h1, t⟩ := h
    exact Rps.cons h1 (Rps.set hy i t)
theorem Rps.erase {ρ : List Addr} {K : PySem.W.Frag} {H : Hp} : ∀ {xs : List D} {vs : List V} (i : Nat), Rps ρ K H xs vs → Rps ρ K H (xs.eraseIdx i) (vs.eraseIdx i)
  | [], vs, i, h => by simp only [Rps] at h; subst h; exact Rps.nil
  | x :: xs, vs, 0, h => by
    simp only [Rps] at h
    obtain ⟨v, r, rfl, h1, t⟩ := h
    exact t
  | x :: xs, vs, i + 1, h => by
    simp only [Rps] at h
    obtain ⟨v, r, rfl, h1, t⟩ := h
    exact Rps.cons h1 (Rps.erase i t)
theorem Rps.dropLast {ρ : List Addr} {K : PySem.W.Frag} {H : Hp} {xs : List D} {vs : List V} (h : Rps ρ K H xs vs) : Rps ρ K H xs.dropLast vs.dropLast := by
  rw [List.dropLast_eq_take, List.dropLast_eq_take, ← h.len]
  exact h.take _

/-- a dict's entries -/
def KvR (ρ : List Addr) (K : PySem.W.Frag) (H : Hp) (kvs : List (Key × D)) (ws : List (Key × V)) : Prop := kvs.map (·.1) = ws.map (·.1) ∧ Rps ρ K H (kvs.map (·.2)) (ws.map (·.2))
/-- a list that is only read: locked, or of the module -/
def RoAt (K : PySem.W.Frag) (H : Hp) (a : Addr) (xs : List V) : Prop := (∃ o, H a = some (.frz o (.lst xs))) ∨ ∀ H' : Hp, SqL K H' a xs
def ObR (ρ : List Addr) (K : PySem.W.Frag) (H : Hp) : Ob → Addr → Prop
  | .lst xs, a => ∃ vs, H a = some (.lst vs) ∧ Rps ρ K H xs vs
  | .ro xs, a => ∃ vs, RoAt K H a vs ∧ Rps ρ K H xs vs
  | .dK kvs, a => ∃ ws, H a = some (.dK ws) ∧ KvR ρ K H kvs ws
def isMut : Ob → Bool
  | .lst _ => true
  | .ro _ => false
  | .dK _ => true
structure Rel (ρ : List Addr) (K : PySem.W.Frag) (H : Hp) (S : Sto) : Prop where
  len : ρ.length = S.length
  ob : ∀ (i : Nat) (o : Ob) (a : Addr), S[i]? = some o → ρ[i]? = some a → ObR ρ K H o a
  inj : ∀ (i j : Nat) (a : Addr) (o o' : Ob), ρ[i]? = some a → ρ[j]? = some a → S[i]? = some o → S[j]? = some o' → isMut o = true → isMut o' = true → i = j
def MutAt (ρ : List Addr) (S : Sto) (a : Addr) : Prop := ∃ (i : Nat) (o : Ob), ρ[i]? = some a ∧ S[i]? = some o ∧ isMut o = true
/-- what an object's kind may be -/
def isMutH : HO → Prop
  | .lst _ => True
  | .dK _ => True
  | _ => False
theorem Rel.mut {ρ : List Addr} {K : PySem.W.Frag} {H : Hp} {S : Sto} (r : Rel ρ K H S) {a : Addr} (m : MutAt ρ S a) : ∃ u, H a = some u ∧ isMutH u := by
  obtain ⟨i, o, h1, h2, h3⟩ := m
  have q := r.ob i o a h2 h1
  cases o with
  | lst xs => obtain ⟨vs, e, _⟩ := q; exact ⟨_, e, trivial⟩
  | ro xs => simp [isMut] at h3
  | dK kvs => obtain ⟨ws, e, _⟩ := q; exact ⟨_, e, trivial⟩
structure Stp (ρ : List Addr) (S : Sto) (H : Hp) (ρ' : List Addr) (S' : Sto) (H' : Hp) : Prop where
  pre : ρ <+: ρ'
  keep : ∀ a o, H a = some o → ¬ MutAt ρ S a → H' a = some o
  fresh : ∀ (i : Nat) (a : Addr), ρ.length ≤ i → ρ'[i]? = some a → H a = none
  kind : ∀ (i : Nat) (o o' : Ob), S[i]? = some o → S'[i]? = some o' → isMut o = isMut o'
  len : S.length ≤ S'.length
theorem Stp.refl (ρ : List Addr) (S : Sto) (H : Hp) : Stp ρ S H ρ S H :=
  by
  refine ⟨List.prefix_rfl, fun _ _ h _ => h, fun i a hi e => ?_, fun i o o' h h' => ?_, Nat.le_refl _⟩
  · rw [List.getElem?_eq_none hi] at e; cases e
  · rw [h] at h'; cases h'; rfl
theorem pre_get {ρ ρ' : List Addr} (p : ρ <+: ρ') {i : Nat} {a : Addr} (h : ρ[i]? = some a) : ρ'[i]? = some a := by
  obtain ⟨t, rfl⟩ := p
  rw [List.getElem?_append_left (List.getElem?_eq_some_iff.mp h).1]
  exact h
theorem pre_back {ρ ρ' : List Addr} (p : ρ <+: ρ') {i : Nat} {a : Addr} (h : ρ'[i]? = some a) (hi : i < ρ.length) : ρ[i]? = some a := by
  obtain ⟨t, rfl⟩ := p
  rwa [List.getElem?_append_left hi] at h
section
variable {ρ ρ1 ρ2 : List Addr} {S S1 S2 : Sto} {H H1 H2 : Hp} {K : PySem.W.Frag}
/-- what could not change, could not change further on either -/
theorem Stp.mutBack (r : Rel ρ K H S) (s : Stp ρ S H ρ1 S1 H1) (r1 : Rel ρ1 K H1 S1) {a : Addr} {o : HO} (h : H a = some o) (m : MutAt ρ1 S1 a) : MutAt ρ S a := by
  obtain ⟨i, ob, h1, h2, h3⟩ := m
  by_cases hi : i < ρ.length
  · have h0 := pre_back s.pre h1 hi
    have hS : i < S.length := by rw [← r.len]; exact hi
    obtain ⟨o0, e0⟩ : ∃ o0, S[i]? = some o0 := ⟨S[i], by simp [hS]⟩
    exact ⟨i, o0, h0, e0, by rw [s.kind i o0 ob e0 h2]; exact h3⟩
  · have := s.fresh i a (Nat.le_of_not_lt hi) h1
    rw [this] at h; cases h
theorem Stp.trans (r : Rel ρ K H S) (a : Stp ρ S H ρ1 S1 H1) (r1 : Rel ρ1 K H1 S1) (b : Stp ρ1 S1 H1 ρ2 S2 H2) : Stp ρ S H ρ2 S2 H2 := by
  refine ⟨a.pre.trans b.pre, fun x o h nm => b.keep x o (a.keep x o h nm) fun m => nm (a.mutBack r r1 h m), fun i x hi e => ?_, fun i o o' h h' => ?_, Nat.le_trans a.len b.len⟩
  · by_cases h1 : i < ρ1.length
    · exact a.fresh i x hi (pre_back b.pre e h1)
    · have n1 := b.fresh i x (Nat.le_of_not_lt h1) e
      cases q : H x with
      | none => rfl
      | some o =>
        by_cases m : MutAt ρ S x
        · obtain ⟨j, ob, j1, j2, j3⟩ := m
          have hj : j < S.length := (List.getElem?_eq_some_iff.mp j2).1
          obtain ⟨o1, e1⟩ : ∃ o1, S1[j]? = some o1 := ⟨S1[j]'(Nat.lt_of_lt_of_le hj a.len), by simp [Nat.lt_of_lt_of_le hj a.len]⟩
          obtain ⟨u, hu, _⟩ := r1.mut ⟨j, o1, pre_get a.pre j1, e1, by rw [← a.kind j ob o1 j2 e1]; exact j3⟩
          rw [n1] at hu; cases hu
        · rw [a.keep x o q m] at n1; cases n1
  · have hi : i < S.length := (List.getElem?_eq_some_iff.mp h).1
    obtain ⟨o1, e1⟩ : ∃ o1, S1[i]? = some o1 := ⟨S1[i]'(Nat.lt_of_lt_of_le hi a.len), by simp [Nat.lt_of_lt_of_le hi a.len]⟩
    exact (a.kind i o o1 h e1).trans (b.kind i o1 o' e1 h')
theorem rd_keep (r : Rel ρ K H S) (s : Stp ρ S H ρ1 S1 H1) {a : Addr} {u : HO} (nu : ¬ isMutH u) (h : Rd H a u) : Rd H1 a u := by
  rcases h with h | ⟨o, h⟩
  · refine .inl (s.keep a _ h fun m => ?_)
    obtain ⟨w, e, hw⟩ := r.mut m
    rw [h] at e; cases e; exact nu hw
  · refine .inr ⟨o, s.keep a _ h fun m => ?_⟩
    obtain ⟨w, e, hw⟩ := r.mut m
    rw [h] at e; cases e; exact hw
theorem sqT_keep (r : Rel ρ K H S) (s : Stp ρ S H ρ1 S1 H1) {a : Addr} {xs : List V} (h : SqT K H a xs) : SqT K H1 a xs := by
  rcases h with h | h
  · exact .inl (rd_keep r s (fun z => z) h)
  · exact .inr h
mutual
theorem Rp.keep (r : Rel ρ K H S) (s : Stp ρ S H ρ1 S1 H1) : ∀ {d : D} {v : V}, Rp ρ K H d v → Rp ρ1 K H1 d v
  | .non, v, h => by simp only [Rp] at h ⊢; exact h
  | .bl b, v, h => by simp only [Rp] at h ⊢; exact h
  | .int i, v, h => by simp only [Rp] at h ⊢; exact h
  | .str x, v, h => by simp only [Rp] at h ⊢; exact h
  | .tup xs, v, h => by
    simp only [Rp] at h ⊢
    obtain ⟨a, vs, e, q, t⟩ := h
    exact ⟨a, vs, e, sqT_keep r s q, Rps.keep r s t⟩
  | .ref n, v, h => by
    simp only [Rp] at h ⊢
    obtain ⟨a, e, q⟩ := h
    exact ⟨a, e, pre_get s.pre q⟩
theorem Rps.keep (r : Rel ρ K H S) (s : Stp ρ S H ρ1 S1 H1) : ∀ {xs : List D} {vs : List V}, Rps ρ K H xs vs → Rps ρ1 K H1 xs vs
  | [], vs, h => by simp only [Rps] at h ⊢; exact h
  | x :: xs, vs, h => by
    simp only [Rps] at h ⊢
    obtain ⟨v, t, e, h1, h2⟩ := h
    exact ⟨v, t, e, Rp.keep r s h1, Rps.keep r s h2⟩
end
/-- the slots -/
structure EnvR (ρ : List Addr) (K : PySem.W.Frag) (H : Hp) (e : En) (σ : L2.St) : Prop where
  len : e.length = σ.length
  at_ : ∀ (i : Nat) (d : D), e[i]? = some (some d) → ∃ v, σ[i]? = some (some v) ∧ Rp ρ K H d v
theorem EnvR.keep {e : En} {σ : L2.St} (r : Rel ρ K H S) (s : Stp ρ S H ρ1 S1 H1) (h : EnvR ρ K H e σ) : EnvR ρ1 K H1 e σ :=
  ⟨h.len, fun i d q => let ⟨v, e1, e2⟩ := h.at_ i d q; ⟨v, e1, e2.keep r s⟩⟩
theorem EnvR.set {e : En} {σ : L2.St} {d : D} {v : V} (i : Nat) (h : EnvR ρ K H e σ) (r : Rp ρ K H d v) : EnvR ρ K H (e.set i (some d)) (σ.set i (some v)) := by
  refine ⟨by rw [List.length_set, List.length_set, h.len], fun j x q => ?_⟩
  by_cases hj : i = j
  · subst hj
    have hi : i < e.length := by
      have := (List.getElem?_eq_some_iff.mp q).1
      rwa [List.length_set] at this
    rw [List.getElem?_set_self hi] at q
    cases q
    exact ⟨v, by rw [List.getElem?_set_self (by rw [← h.len]; exact hi)], r⟩
  · rw [List.getElem?_set_ne hj] at q
    obtain ⟨w, e1, e2⟩ := h.at_ j x q
    exact ⟨w, by rw [List.getElem?_set_ne hj]; exact e1, e2⟩
theorem EnvR.off {e : En} {σ : L2.St} (i : Nat) (w : Option V) (h : EnvR ρ K H e σ) : EnvR ρ K H (e.set i none) (σ.set i w) := by
  refine ⟨by rw [List.length_set, List.length_set, h.len], fun j x q => ?_⟩
  by_cases hj : i = j
  · subst hj
    have hi : i < e.length := by
      have := (List.getElem?_eq_some_iff.mp q).1
      rwa [List.length_set] at this
    rw [List.getElem?_set_self hi] at q
    cases q
  · rw [List.getElem?_set_ne hj] at q
    obtain ⟨w', e1, e2⟩ := h.at_ j x q
    exact ⟨w', by rw [List.getElem?_set_ne hj]; exact e1, e2⟩
/-- a new object -/
theorem Rel.alloc (r : Rel ρ K H S) {p : Addr} {o : Ob} {u : HO} (hp : H p = none) (hu : ObR (ρ ++ [p]) K (upd H p u) o p) :
    Rel (ρ ++ [p]) K (upd H p u) (S ++ [o]) ∧ Stp ρ S H (ρ ++ [p]) (S ++ [o]) (upd H p u) := by
  have st : Stp ρ S H (ρ ++ [p]) (S ++ [o]) (upd H p u) := by
    refine ⟨List.prefix_append _ _, fun a w h _ => by rw [upd_ne (ne_of_none h hp)]; exact h, fun i a hi e => ?_, fun i x y h h' => ?_, by simp⟩
    · rw [List.getElem?_append_right hi] at e
      cases hj : i - ρ.length with
      | zero => rw [hj] at e; simp at e; rw [← e]; exact hp
      | succ j => rw [hj] at e; simp at e
    · rw [List.getElem?_append_left (List.getElem?_eq_some_iff.mp h).1, h] at h'
      cases h'; rfl
  have at_ : ∀ {i : Nat} {o' : Ob} {a : Addr}, (S ++ [o])[i]? = some o' → (ρ ++ [p])[i]? = some a → (S[i]? = some o' ∧ ρ[i]? = some a) ∨ (i = S.length ∧ o' = o ∧ a = p) := by
    intro i o' a h1 h2
    by_cases hi : i < S.length
    · rw [List.getElem?_append_left hi] at h1
      rw [List.getElem?_append_left (by rw [r.len]; exact hi)] at h2
      exact .inl ⟨h1, h2⟩
    · rw [List.getElem?_append_right (Nat.le_of_not_lt hi)] at h1
      rw [List.getElem?_append_right (by rw [r.len]; exact Nat.le_of_not_lt hi), r.len] at h2
      cases hj : i - S.length with
      | zero =>
        rw [hj] at h1 h2
        simp at h1 h2
        exact .inr ⟨by omega, h1.symm, h2.symm⟩
      | succ j => rw [hj] at h1; simp at h1
  refine ⟨⟨by simp [r.len], fun i o' a h1 h2 => ?_, fun i j a o1 o2 h1 h2 h3 h4 h5 h6 => ?_⟩, st⟩
  · rcases at_ h1 h2 with ⟨g1, g2⟩ | ⟨_, rfl, rfl⟩
    · have q := r.ob i o' a g1 g2
      cases o' with
      | lst xs =>
        obtain ⟨vs, e, t⟩ := q
        exact ⟨vs, by rw [upd_ne (ne_of_none e hp)]; exact e, t.keep r st⟩
      | ro xs =>
        obtain ⟨vs, e, t⟩ := q
        refine ⟨vs, ?_, t.keep r st⟩
        rcases e with ⟨ob, e⟩ | e
        · exact .inl ⟨ob, by rw [upd_ne (ne_of_none e hp)]; exact e⟩
        · exact .inr e
      | dK kvs =>
        obtain ⟨ws, e, e1, t⟩ := q
        exact ⟨ws, by rw [upd_ne (ne_of_none e hp)]; exact e, e1, t.keep r st⟩
    · exact hu
  · rcases at_ h3 h1 with ⟨g1, g2⟩ | ⟨rfl, rfl, rfl⟩
    · rcases at_ h4 h2 with ⟨g3, g4⟩ | ⟨rfl, rfl, rfl⟩
      · exact r.inj i j a o1 o2 g2 g4 g1 g3 h5 h6
      · obtain ⟨u', hu', _⟩ := r.mut ⟨i, o1, g2, g1, h5⟩
        rw [hp] at hu'; cases hu'
    · rcases at_ h4 h2 with ⟨g3, g4⟩ | ⟨e, _, _⟩
      · obtain ⟨u', hu', _⟩ := r.mut ⟨j, o2, g4, g3, h6⟩
        rw [hp] at hu'; cases hu'
      · exact e.symm

theorem RoAt.sq {a : Addr} {xs : List V} (h : RoAt K H a xs) : SqL K H a xs := by
  rcases h with ⟨o, h⟩ | h
  · exact .inl (.inr ⟨o, h⟩)
  · exact h H
/-- an object of the store is changed -/
theorem Rel.write (r : Rel ρ K H S) {i : Nat} {a : Addr} {o o' : Ob} {u : HO} (ha : ρ[i]? = some a) (ho : S[i]? = some o) (m : isMut o = true) (m' : isMut o' = true) (mu : isMutH u)
    (hu : ∀ st : Stp ρ S H ρ (S.set i o') (upd H a u), ObR ρ K (upd H a u) o' a) : Rel ρ K (upd H a u) (S.set i o') ∧ Stp ρ S H ρ (S.set i o') (upd H a u) := by
  have hi : i < S.length := (List.getElem?_eq_some_iff.mp ho).1
  have st : Stp ρ S H ρ (S.set i o') (upd H a u) := by
    refine ⟨List.prefix_rfl, fun b w h nm => ?_, fun j b hj e => ?_, fun j x y h h' => ?_, by simp⟩
    · rw [upd_ne (fun e => nm (by rw [e]; exact ⟨i, o, ha, ho, m⟩))]
      exact h
    · rw [List.getElem?_eq_none hj] at e; cases e
    · by_cases hj : i = j
      · subst hj
        rw [List.getElem?_set_self hi] at h'
        cases h'
        rw [ho] at h; cases h
        rw [m, m']
      · rw [List.getElem?_set_ne hj, h] at h'
        cases h'; rfl
  refine ⟨⟨by simp [r.len], fun j x b h1 h2 => ?_, fun j k b x y h1 h2 h3 h4 h5 h6 => ?_⟩, st⟩
  · by_cases hj : i = j
    · subst hj
      rw [List.getElem?_set_self hi] at h1
      cases h1
      rw [ha] at h2; cases h2
      exact hu st
    · rw [List.getElem?_set_ne hj] at h1
      have q := r.ob j x b h1 h2
      have ne : isMut x = true → b ≠ a := fun mx e => hj (r.inj i j a o x ha (e ▸ h2) ho h1 m mx)
      cases x with
      | lst xs =>
        obtain ⟨vs, e, t⟩ := q
        exact ⟨vs, by rw [upd_ne (ne rfl)]; exact e, t.keep r st⟩
      | ro xs =>
        obtain ⟨vs, e, t⟩ := q
        refine ⟨vs, ?_, t.keep r st⟩
        rcases e with ⟨ob, e⟩ | e
        · refine .inl ⟨ob, ?_⟩
          rw [upd_ne]
          · exact e
          · intro z
            subst z
            obtain ⟨w, hw, mw⟩ := r.mut ⟨i, o, ha, ho, m⟩
            rw [e] at hw; cases hw; exact mw
        · exact .inr e
      | dK kvs =>
        obtain ⟨ws, e, e1, t⟩ := q
        exact ⟨ws, by rw [upd_ne (ne rfl)]; exact e, e1, t.keep r st⟩
  · have g : ∀ {n : Nat} {z : Ob}, (S.set i o')[n]? = some z → isMut z = true → ∃ z', S[n]? = some z' ∧ isMut z' = true := by
      intro n z hz mz
      by_cases hn : i = n
      · subst hn; exact ⟨o, ho, m⟩
      · rw [List.getElem?_set_ne hn] at hz; exact ⟨z, hz, mz⟩
    obtain ⟨x', hx', mx'⟩ := g h3 h5
    obtain ⟨y', hy', my'⟩ := g h4 h6
    exact r.inj j k b x' y' h1 h2 hx' hy' mx' my'
/-- forgetting: what is new and not handed on -/
theorem Rel.fresh_tup (r : Rel ρ K H S) {p : Addr} {u : HO} (hp : H p = none) : Rel ρ K (upd H p u) S ∧ Stp ρ S H ρ S (upd H p u) := by
  have st : Stp ρ S H ρ S (upd H p u) := by
    refine ⟨List.prefix_rfl, fun a w h _ => by rw [upd_ne (ne_of_none h hp)]; exact h, fun i a hi e => ?_, fun i o o' h h' => ?_, Nat.le_refl _⟩
    · rw [List.getElem?_eq_none hi] at e; cases e
    · rw [h] at h'; cases h'; rfl
  refine ⟨⟨r.len, fun i o a h1 h2 => ?_, r.inj⟩, st⟩
  have q := r.ob i o a h1 h2
  cases o with
  | lst xs =>
    obtain ⟨vs, e, t⟩ := q
    exact ⟨vs, by rw [upd_ne (ne_of_none e hp)]; exact e, t.keep r st⟩
  | ro xs =>
    obtain ⟨vs, e, t⟩ := q
    refine ⟨vs, ?_, t.keep r st⟩
    rcases e with ⟨ob, e⟩ | e
    · exact .inl ⟨ob, by rw [upd_ne (ne_of_none e hp)]; exact e⟩
    · exact .inr e
  | dK kvs =>
    obtain ⟨ws, e, e1, t⟩ := q
    exact ⟨ws, by rw [upd_ne (ne_of_none e hp)]; exact e, e1, t.keep r st⟩

/-! ### garbage -/
mutual
theorem Rp.below {n : Nat} (hn : n ≤ ρ.length) : ∀ {d : D} {v : V}, closedD n d = true → Rp ρ K H d v → Rp (ρ.take n) K H d v
  | .non, v, _, h => by simp only [Rp] at h ⊢; exact h
  | .bl b, v, _, h => by simp only [Rp] at h ⊢; exact h
  | .int i, v, _, h => by simp only [Rp] at h ⊢; exact h
  | .str x, v, _, h => by simp only [Rp] at h ⊢; exact h
  | .tup xs, v, c, h => by
    simp only [Rp] at h ⊢
    simp only [closedD] at c
    obtain ⟨a, vs, e, q, t⟩ := h
    exact ⟨a, vs, e, q, Rps.below hn c t⟩
  | .ref k, v, c, h => by
    simp only [Rp] at h ⊢
    simp only [closedD, decide_eq_true_eq] at c
    obtain ⟨a, e, q⟩ := h
    exact ⟨a, e, by rw [List.getElem?_take_of_lt c]; exact q⟩
theorem Rps.below {n : Nat} (hn : n ≤ ρ.length) : ∀ {xs : List D} {vs : List V}, closedDs n xs = true → Rps ρ K H xs vs → Rps (ρ.take n) K H xs vs
  | [], vs, _, h => by simp only [Rps] at h ⊢; exact h
  | x :: xs, vs, c, h => by
    simp only [Rps] at h ⊢
    simp only [closedDs, Bool.and_eq_true] at c
    obtain ⟨v, t, e, h1, h2⟩ := h
    exact ⟨v, t, e, Rp.below hn c.1 h1, Rps.below hn c.2 h2⟩
end
mutual
theorem Rp.more {ρ' : List Addr} (p : ρ <+: ρ') : ∀ {d : D} {v : V}, Rp ρ K H d v → Rp ρ' K H d v
  | .non, v, h => by simp only [Rp] at h ⊢; exact h
  | .bl b, v, h => by simp only [Rp] at h ⊢; exact h
  | .int i, v, h => by simp only [Rp] at h ⊢; exact h
  | .str x, v, h => by simp only [Rp] at h ⊢; exact h
  | .tup xs, v, h => by
    simp only [Rp] at h ⊢
    obtain ⟨a, vs, e, q, t⟩ := h
    exact ⟨a, vs, e, q, Rps.more p t⟩
  | .ref k, v, h => by
    simp only [Rp] at h ⊢
    obtain ⟨a, e, q⟩ := h
    exact ⟨a, e, pre_get p q⟩
theorem Rps.more {ρ' : List Addr} (p : ρ <+: ρ') : ∀ {xs : List D} {vs : List V}, Rps ρ K H xs vs → Rps ρ' K H xs vs
  | [], vs, h => by simp only [Rps] at h ⊢; exact h
  | x :: xs, vs, h => by
    simp only [Rps] at h ⊢
    obtain ⟨v, t, e, h1, h2⟩ := h
    exact ⟨v, t, e, Rp.more p h1, Rps.more p h2⟩
end
theorem ObR.below {n : Nat} (hn : n ≤ ρ.length) {o : Ob} {a : Addr} (c : closedO n o = true) (h : ObR ρ K H o a) : ObR (ρ.take n) K H o a := by
  cases o with
  | lst xs => obtain ⟨vs, e, t⟩ := h; exact ⟨vs, e, t.below hn c⟩
  | ro xs => obtain ⟨vs, e, t⟩ := h; exact ⟨vs, e, t.below hn c⟩
  | dK kvs => obtain ⟨ws, e, e1, t⟩ := h; exact ⟨ws, e, e1, t.below hn c⟩
theorem ObR.more {ρ' : List Addr} (p : ρ <+: ρ') {o : Ob} {a : Addr} (h : ObR ρ K H o a) : ObR ρ' K H o a := by
  cases o with
  | lst xs => obtain ⟨vs, e, t⟩ := h; exact ⟨vs, e, t.more p⟩
  | ro xs => obtain ⟨vs, e, t⟩ := h; exact ⟨vs, e, t.more p⟩
  | dK kvs => obtain ⟨ws, e, e1, t⟩ := h; exact ⟨ws, e, e1, t.more p⟩
end
/-! what stands for closed data of the old store -/
mutual
theorem closed_of {ρ : List Addr} {K : PySem.W.Frag} {H : Hp} : ∀ {d : D} {v : V}, Rp ρ K H d v → closedD ρ.length d = true
  | .non, v, h => rfl
  | .bl b, v, h => rfl
  | .int i, v, h => rfl
  | .str x, v, h => rfl
  | .tup xs, v, h => by
    simp only [Rp] at h
    obtain ⟨a, vs, e, q, t⟩ := h
    simp only [closedD]
    exact closeds_of t
  | .ref k, v, h => by
    simp only [Rp] at h
    obtain ⟨a, e, q⟩ := h
    simp only [closedD, decide_eq_true_eq]
    exact (List.getElem?_eq_some_iff.mp q).1
theorem closeds_of {ρ : List Addr} {K : PySem.W.Frag} {H : Hp} : ∀ {xs : List D} {vs : List V}, Rps ρ K H xs vs → closedDs ρ.length xs = true
  | [], vs, _ => rfl
  | x :: xs, vs, h => by
    simp only [Rps] at h
    obtain ⟨v, t, e, h1, h2⟩ := h
    simp only [closedDs, Bool.and_eq_true]
    exact ⟨closed_of h1, closeds_of h2⟩
end
theorem closedO_of {ρ : List Addr} {K : PySem.W.Frag} {H : Hp} {o : Ob} {a : Addr} (h : ObR ρ K H o a) : closedO ρ.length o = true := by
  cases o with
  | lst xs => obtain ⟨vs, e, t⟩ := h; exact closeds_of t
  | ro xs => obtain ⟨vs, e, t⟩ := h; exact closeds_of t
  | dK kvs => obtain ⟨ws, e, e1, t⟩ := h; exact closeds_of t
section
variable {ρ ρ1 : List Addr} {S S1 : Sto} {H H1 : Hp} {K : PySem.W.Frag}
/-- what is new is forgotten -/
theorem gc_rel (r : Rel ρ K H S) (s : Stp ρ S H ρ1 S1 H1) (r1 : Rel ρ1 K H1 S1) (h : Stands S.length S S1) : Rel (ρ1.take S.length) K H1 (S1.take S.length) ∧ Stp ρ S H (ρ1.take S.length) (S1.take S.length) H1 := by
  have hl : S.length ≤ ρ1.length := by rw [r1.len]; exact s.len
  have e0 : ρ1.take S.length = ρ := by
    obtain ⟨t, ht⟩ := s.pre
    rw [← ht, ← r.len, List.take_left]
  have gS : ∀ {i : Nat} {o : Ob}, (S1.take S.length)[i]? = some o → i < S.length ∧ S1[i]? = some o := by
    intro i o e
    by_cases hi : i < S.length
    · rw [List.getElem?_take_of_lt hi] at e; exact ⟨hi, e⟩
    · rw [List.getElem?_eq_none (by rw [List.length_take]; omega)] at e; cases e
  have gR : ∀ {i : Nat} {a : Addr}, (ρ1.take S.length)[i]? = some a → ρ1[i]? = some a := by
    intro i a e
    by_cases hi : i < S.length
    · rwa [List.getElem?_take_of_lt hi] at e
    · rw [List.getElem?_eq_none (by rw [List.length_take]; omega)] at e; cases e
  refine ⟨⟨by rw [List.length_take, List.length_take, r1.len], fun i o a h1 h2 => ?_, fun i j a o o' h1 h2 h3 h4 h5 h6 => r1.inj i j a o o' (gR h1) (gR h2) (gS h3).2 (gS h4).2 h5 h6⟩,
    ⟨by rw [e0]; exact List.prefix_rfl, s.keep, fun i a hi e => ?_, fun i o o' h1 h2 => s.kind i o o' h1 (gS h2).2, by rw [List.length_take]; have := s.len; omega⟩⟩
  · obtain ⟨hi, g1⟩ := gS h1
    have q := r1.ob i o a g1 (gR h2)
    refine q.below hl ?_
    rcases h.2 i hi with e | ⟨o2, e, c⟩
    · have e' : S[i]? = some o := by rw [← e]; exact g1
      obtain ⟨a', ha'⟩ : ∃ a', ρ[i]? = some a' := ⟨ρ[i]'(by rw [r.len]; exact hi), by simp [r.len, hi]⟩
      have := closedO_of (r.ob i o a' e' ha')
      rwa [r.len] at this
    · rw [g1] at e; cases e; exact c
  · rw [e0] at e
    rw [List.getElem?_eq_none hi] at e; cases e
end
end Py
namespace Py
open PySem PySem.Spec L2
/-! ## 7. What is wanted of a result -/
/-- an exception: its class by its name, its fields in its own dict -/
def ExR (ρ : List Addr) (K : PySem.W.Frag) (H : Hp) (mg : Str → Option Value) (x : Exn) (cls : Value) (dd : Option Addr) : Prop :=
  ∃ (C dx : Addr) (fs : List (Str × V)), cls = .ref C ∧ mg x.cls = some (.ref C) ∧ dd = some dx ∧ H dx = some (.xd fs) ∧ fs.map (·.1) = x.fs.map (·.1) ∧ Rps ρ K H (x.fs.map (·.2)) (fs.map (·.2))
/-- Rv: how the answer stands for the value -/
def Post {α β : Type} (Rv : List Addr → Hp → α → β → Prop) (K : PySem.W.Frag) (mg : Str → Option Value) (ρ : List Addr) (S : Sto) (H : Hp) (r : R α) (Q : β → Hp → Prop) (E : XK) : Prop :=
  match r with
  | .ok d S' => ∀ ρ' H' v, Stp ρ S H ρ' S' H' → Rel ρ' K H' S' → Rv ρ' H' d v → Q v H'
  | .exc x S' => ∀ ρ' H' cls dd, Stp ρ S H ρ' S' H' → Rel ρ' K H' S' → ExR ρ' K H' mg x cls dd → E cls dd H'
  | .no => False
abbrev RvD (K : PySem.W.Frag) : List Addr → Hp → D → V → Prop := fun ρ H d v => Rp ρ K H d v
abbrev RvDs (K : PySem.W.Frag) : List Addr → Hp → List D → List V → Prop := fun ρ H d v => Rps ρ K H d v
abbrev RvEq {α : Type} : List Addr → Hp → α → α → Prop := fun _ _ a b => a = b
section
variable {α β : Type} {Rv : List Addr → Hp → α → β → Prop} {K : PySem.W.Frag} {mg : Str → Option Value} {ρ ρ1 : List Addr} {S S1 : Sto} {H H1 : Hp} {r : R α} {Q : β → Hp → Prop} {E : XK}
/-- from a later state -/
theorem Post.later (r0 : Rel ρ K H S) (s : Stp ρ S H ρ1 S1 H1) (r1 : Rel ρ1 K H1 S1) (h : Post Rv K mg ρ S H r Q E) : Post Rv K mg ρ1 S1 H1 r Q E := by
  cases r with
  | ok d S' => exact fun ρ' H' v s' r' q => h ρ' H' v (s.trans r0 r1 s') r' q
  | exc x S' => exact fun ρ' H' cls dd s' r' q => h ρ' H' cls dd (s.trans r0 r1 s') r' q
  | no => exact h
theorem Post.imp {Q' : β → Hp → Prop} (h : Post Rv K mg ρ S H r Q E) (hq : ∀ ρ' H' v S', Rel ρ' K H' S' → Q v H' → Q' v H') : Post Rv K mg ρ S H r Q' E := by
  cases r with
  | ok d S' => exact fun ρ' H' v s' r' q => hq ρ' H' v S' r' (h ρ' H' v s' r' q)
  | exc x S' => exact h
  | no => exact h
end
/-- a reading: the words' meaning m from a state that stands for (e, S) -/
def tM {α β : Type} (Rv : List Addr → Hp → α → β → Prop) (K : PySem.W.Frag) (mg : Str → Option Value) (W : WX) (m : M α) (σ : L2.St) (H : Hp) (Q : β → Hp → Prop) : Prop :=
  ∃ ρ S e, EnvR ρ K H e σ ∧ Rel ρ K H S ∧ Post Rv K mg ρ S H (m e S) Q (fun cls dd H' => W cls dd σ H')
abbrev tE (X : Cx) (W : WX) (m : M D) : TE := tM (RvD X.K) X.K X.mg W m
abbrev tT (X : Cx) (W : WX) (m : M Bool) : TT := tM RvEq X.K X.mg W m
abbrev tA (X : Cx) (W : WX) (m : M (List D)) : TA := tM (RvDs X.K) X.K X.mg W m
abbrev tP (X : Cx) (W : WX) (m : M (Option Int)) : TO := tM RvEq X.K X.mg W m
section
variable {α β γ δ : Type} {Ra : List Addr → Hp → α → β → Prop} {Rc : List Addr → Hp → γ → δ → Prop} {K : PySem.W.Frag} {mg : Str → Option Value} {W : WX} {ρ : List Addr} {S : Sto} {e : En} {σ : L2.St} {H : Hp}
/-- one thing, then another -/
theorem tM_seq {m : M α} {f : α → Sto → R γ} {Q : δ → Hp → Prop} {Q' : β → Hp → Prop} (hE : EnvR ρ K H e σ) (hR : Rel ρ K H S) (hP : Post Rc K mg ρ S H ((m e S).bind f) Q (fun cls dd H' => W cls dd σ H'))
    (hk : ∀ ρ1 S1 H1 d v, m e S = .ok d S1 → Stp ρ S H ρ1 S1 H1 → Rel ρ1 K H1 S1 → EnvR ρ1 K H1 e σ → Ra ρ1 H1 d v → Post Rc K mg ρ1 S1 H1 (f d S1) Q (fun cls dd H' => W cls dd σ H') → Q' v H1) : tM Ra K mg W m σ H Q' := by
  refine ⟨ρ, S, e, hE, hR, ?_⟩
  cases q : m e S with
  | ok d S1 =>
    rw [q] at hP
    exact fun ρ1 H1 v s r1 ra => hk ρ1 S1 H1 d v q s r1 (hE.keep hR s) ra (Post.later hR s r1 hP)
  | exc x S1 =>
    rw [q] at hP
    exact hP
  | no =>
    rw [q] at hP
    exact hP
/-- the end -/
theorem Post.ok {d : α} {v : β} {Q : β → Hp → Prop} {E : XK} (h : Post Ra K mg ρ S H (.ok d S) Q E) (r : Rel ρ K H S) (q : Ra ρ H d v) : Q v H := h ρ H v (Stp.refl _ _ _) r q
end
section
variable {X : Cx} {W : WX} {e : Expr}
theorem PE.imp {t t' : TE} (h : PE X e t) (i : ∀ σ H Q, t' σ H Q → t σ H Q) : PE X e t' := ⟨fun pins s σ H Q I q => h.run pins s σ H Q I (i σ H Q q)⟩
theorem PT.imp {t t' : TT} (h : PT X e t) (i : ∀ σ H Q, t' σ H Q → t σ H Q) : PT X e t' := ⟨fun pins s σ H Q I q => h.run pins s σ H Q I (i σ H Q q)⟩
theorem PW.imp {t t' : TT} (h : PW X e t) (i : ∀ σ H Q, t' σ H Q → t σ H Q) : PW X e t' := ⟨fun wh pins s σ H Q I q => h.run wh pins s σ H Q I (i σ H Q q)⟩
theorem PS.imp {st : Stmt} {t t' : TS} (h : PS X st t) (i : ∀ D σ H, t' D σ H → t D σ H) : PS X st t' := ⟨fun pins s σ H D I q => h.run pins s σ H D I (i D σ H q)⟩
theorem PSs.imp {st : List Stmt} {t t' : TS} (h : PSs X st t) (i : ∀ D σ H, t' D σ H → t D σ H) : PSs X st t' := ⟨fun pins s σ H D I q => h.run pins s σ H D I (i D σ H q)⟩
theorem pe_no : PE X e (tE X W noE) := ⟨fun pins s σ H Q I ⟨_, _, _, _, _, h⟩ => h.elim⟩
theorem pt_no : PT X e (tT X W noE) := ⟨fun pins s σ H Q I ⟨_, _, _, _, _, h⟩ => h.elim⟩
theorem PE.or {t t' : TE} (h : PE X e t) (h' : PE X e t') : PE X e (fun σ H Q => t σ H Q ∨ t' σ H Q) := ⟨fun pins s σ H Q I q => q.elim (h.run pins s σ H Q I) (h'.run pins s σ H Q I)⟩
theorem pe_cE {d : D} {v : V} (hd : ∀ ρ K H, Rp ρ K H d v) (h : PE X e (tC v)) : PE X e (tE X W (cE d)) :=
  PE.imp h fun σ H Q ⟨ρ, S, en, hE, hR, hP⟩ => hP.ok hR (hd _ _ _)
theorem pe_vE {i : Nat} (h : PE X e (tVar i)) : PE X e (tE X W (vE i)) := PE.imp h fun σ H Q ⟨ρ, S, en, hE, hR, hP⟩ => by
  unfold vE at hP
  split at hP
  · rename_i d q
    obtain ⟨v, e1, r⟩ := hE.at_ i d q
    exact ⟨v, e1, hP.ok hR r⟩
  · exact hP.elim
/-- what was made on the way is let go -/
theorem Post.gc {K : PySem.W.Frag} {mg : Str → Option Value} {ρ : List Addr} {S : Sto} {H : Hp} {r : R D} {Q : V → Hp → Prop} {E : XK} (hR : Rel ρ K H S) (h : Post (RvD K) K mg ρ S H (Py.gc S r) Q E) : Post (RvD K) K mg ρ S H r Q E := by
  cases r with
  | no => exact h
  | exc x S1 => exact h
  | ok d S1 =>
    unfold Py.gc at h
    simp only at h
    by_cases h1 : S1.length = S.length
    · rw [if_pos h1] at h; exact h
    · rw [if_neg h1] at h
      by_cases h2 : Stands S.length S S1
      · rw [if_pos h2] at h
        by_cases h3 : closedD S.length d = true
        · rw [if_pos h3] at h
          intro ρ1 H1 v s r1 ra
          obtain ⟨g1, g2⟩ := gc_rel hR s r1 h2
          exact h (ρ1.take S.length) H1 v g2 g1 (Rp.below (by rw [r1.len]; exact s.len) h3 ra)
        · rw [if_neg h3] at h
          cases d with
          | ref k =>
            simp only at h
            cases hk : S1[k]? with
            | none => rw [hk] at h; exact h
            | some o =>
              rw [hk] at h
              simp only at h
              by_cases h4 : S.length ≤ k ∧ closedO S.length o = true
              · rw [if_pos h4] at h
                intro ρ1 H1 v s r1 ra
                obtain ⟨g1, g2⟩ := gc_rel hR s r1 h2
                simp only [Rp] at ra
                obtain ⟨a, rfl, ha⟩ := ra
                have hl : S.length ≤ ρ1.length := by rw [r1.len]; exact s.len
                have hl1 : (ρ1.take S.length).length = S.length := by rw [List.length_take]; omega
                have hl2 : (S1.take S.length).length = S.length := by rw [List.length_take]; have := s.len; omega
                have fr : H a = none := s.fresh k a (by rw [hR.len]; exact h4.1) ha
                have ob : ObR (ρ1.take S.length) K H1 o a := (r1.ob k o a hk ha).below hl h4.2
                refine h (ρ1.take S.length ++ [a]) H1 (.ref a) ?_ ?_ ?_
                · refine ⟨g2.pre.trans (List.prefix_append _ _), g2.keep, fun i b hi e => ?_, fun i o1 o2 e1 e2 => ?_, by rw [List.length_append, hl2]; simp⟩
                  · by_cases hi2 : i < S.length
                    · rw [hR.len] at hi; omega
                    · rw [List.getElem?_append_right (by rw [hl1]; omega), hl1] at e
                      cases hj : i - S.length with
                      | zero => rw [hj] at e; simp at e; rw [← e]; exact fr
                      | succ j => rw [hj] at e; simp at e
                  · have hi := (List.getElem?_eq_some_iff.mp e1).1
                    rw [List.getElem?_append_left (by rw [hl2]; exact hi)] at e2
                    exact g2.kind i o1 o2 e1 e2
                · have at_ : ∀ {i : Nat} {o' : Ob} {b : Addr}, (S1.take S.length ++ [o])[i]? = some o' → (ρ1.take S.length ++ [a])[i]? = some b → ((S1.take S.length)[i]? = some o' ∧ (ρ1.take S.length)[i]? = some b) ∨ (i = S.length ∧ o' = o ∧ b = a) := by
                    intro i o' b e1 e2
                    by_cases hi : i < S.length
                    · rw [List.getElem?_append_left (by rw [hl2]; exact hi)] at e1
                      rw [List.getElem?_append_left (by rw [hl1]; exact hi)] at e2
                      exact .inl ⟨e1, e2⟩
                    · rw [List.getElem?_append_right (by rw [hl2]; omega), hl2] at e1
                      rw [List.getElem?_append_right (by rw [hl1]; omega), hl1] at e2
                      cases hj : i - S.length with
                      | zero =>
                        rw [hj] at e1 e2
                        simp at e1 e2
                        exact .inr ⟨by omega, e1.symm, e2.symm⟩
                      | succ j => rw [hj] at e1; simp at e1
                  have up : ∀ {i : Nat} {o' : Ob}, (S1.take S.length)[i]? = some o' → i < S.length ∧ S1[i]? = some o' := by
                    intro i o' e
                    by_cases hi : i < S.length
                    · rw [List.getElem?_take_of_lt hi] at e; exact ⟨hi, e⟩
                    · rw [List.getElem?_eq_none (by rw [hl2]; omega)] at e; cases e
                  have upR : ∀ {i : Nat} {b : Addr}, (ρ1.take S.length)[i]? = some b → ρ1[i]? = some b := by
                    intro i b e
                    by_cases hi : i < S.length
                    · rwa [List.getElem?_take_of_lt hi] at e
                    · rw [List.getElem?_eq_none (by rw [hl1]; omega)] at e; cases e
                  refine ⟨by rw [List.length_append, List.length_append, hl1, hl2]; rfl, fun i o' b e1 e2 => ?_, fun i j b o1 o2 e1 e2 e3 e4 e5 e6 => ?_⟩
                  · rcases at_ e1 e2 with ⟨q1, q2⟩ | ⟨_, rfl, rfl⟩
                    · exact (g1.ob i o' b q1 q2).more (List.prefix_append _ _)
                    · exact ob.more (List.prefix_append _ _)
                  · rcases at_ e3 e1 with ⟨q1, q2⟩ | ⟨p1, p2, p3⟩
                    · rcases at_ e4 e2 with ⟨q3, q4⟩ | ⟨p1, p2, p3⟩
                      · exact g1.inj i j b o1 o2 q2 q4 q1 q3 e5 e6
                      · have z := r1.inj i k b o1 o (upR q2) (by rw [p3]; exact ha) (up q1).2 hk e5 (by rw [← p2]; exact e6)
                        have := (up q1).1
                        omega
                    · rcases at_ e4 e2 with ⟨q3, q4⟩ | ⟨z1, z2, z3⟩
                      · have z := r1.inj j k b o2 o (upR q4) (by rw [p3]; exact ha) (up q3).2 hk e6 (by rw [← p2]; exact e5)
                        have := (up q3).1
                        omega
                      · omega
                · simp only [RvD, Rp]
                  exact ⟨a, rfl, by rw [List.getElem?_append_right (by rw [hl1]; exact Nat.le_refl _), hl1, Nat.sub_self]; rfl⟩
              · rw [if_neg h4] at h; exact h
          | non => exact h
          | bl b => exact h
          | int b => exact h
          | str b => exact h
          | tup b => exact h
      · rw [if_neg h2] at h; exact h
theorem pe_gc {m : M D} (h : PE X e (tE X W m)) : PE X e (tE X W fun en S => gc S (m en S)) :=
  PE.imp h fun σ H Q ⟨ρ, S, en, hE, hR, hP⟩ => ⟨ρ, S, en, hE, hR, hP.gc hR⟩
end
end Py
namespace Py
open PySem PySem.Spec L2
/-! ## 8. Operators -/
section
variable {X : Cx} {W : WX} {a b c : Expr} {ma mb mc : M D} {pos : Pos}
/-- two operands, then a rule on values -/
theorem tOp_of {r : R2} {f : D → D → Sto → R D} {σ : L2.St} {H : Hp} {Q : VK}
    (hr : ∀ ρ S H d1 d2 v1 v2 Q E, Rel ρ X.K H S → Rp ρ X.K H d1 v1 → Rp ρ X.K H d2 v2 → Post (RvD X.K) X.K X.mg ρ S H (f d1 d2 S) Q E → r v1 v2 H Q)
    (h : tE X W (fun e S => (ma e S).bind fun x S1 => (mb e S1).bind fun y S2 => f x y S2) σ H Q) : tOp r (tE X W ma) (tE X W mb) σ H Q := by
  obtain ⟨ρ, S, e, hE, hR, hP⟩ := h
  refine tM_seq hE hR hP fun ρ1 S1 H1 d1 v1 _ s1 r1 hE1 p1 hP1 => ?_
  refine tM_seq hE1 r1 hP1 fun ρ2 S2 H2 d2 v2 _ s2 r2 hE2 p2 hP2 => ?_
  exact hr ρ2 S2 H2 d1 d2 v1 v2 Q _ r2 (Rp.keep r1 s2 p1) p2 hP2
theorem fdiv_rule {X : Cx} : OpR X (binaryOp .FloorDiv) (rI (fun _ j => j ≠ 0 ∧ j.natAbs.log2 < 9000) fun i j => .int (i.fdiv j)) :=
  opI fun _ _ _ _ _ _ _ hc q => PyProof.Rows.floordiv_int hc.1 q (.inl (PyProof.noPylong_of_log2 hc.2))
theorem ifdiv_rule {X : Cx} : OpR X (inplaceOp .FloorDiv) (rI (fun _ j => j ≠ 0 ∧ j.natAbs.log2 < 9000) fun i j => .int (i.fdiv j)) :=
  opI fun _ _ _ _ _ _ _ hc q => PyProof.Rows.ifloordiv_int hc.1 q (.inl (PyProof.noPylong_of_log2 hc.2))
theorem OpR.orI {f : Value → Value → Sem Value} {C C' : Int → Int → Prop} {g : Int → Int → V} (h : OpR X f (rI C g)) (h' : OpR X f (rI C' g)) : OpR X f (rI (fun i j => C i j ∨ C' i j) g) := by
  intro pins s σ H x y v u Q I rx ry q
  obtain ⟨i, j, e1, e2, c, q⟩ := q
  rcases c with c | c
  · exact h pins s σ H x y v u Q I rx ry ⟨i, j, e1, e2, c, q⟩
  · exact h' pins s σ H x y v u Q I rx ry ⟨i, j, e1, e2, c, q⟩
theorem mul_rule {X : Cx} : OpR X (binaryOp .Mult) (rI mulOk fun i j => .int (i * j)) := OpR.orI op_mul op_mulW
theorem imul_rule {X : Cx} : OpR X (inplaceOp .Mult) (rI mulOk fun i j => .int (i * j)) :=
  opI fun i j _ _ _ _ _ hc q => PyProof.Rows.imul_int q (hc.elim (fun z => z.ok) fun z => z.ok)
theorem intPost {K : PySem.W.Frag} {mg : Str → Option Value} {ρ : List Addr} {S : Sto} {H : Hp} {i : Int} {Q : VK} {E : XK} (r : Rel ρ K H S) (h : Post (RvD K) K mg ρ S H (.ok (.int i) S) Q E) : Q (.int i) H := h.ok r (by simp only [RvD, Rp])
theorem blPost {K : PySem.W.Frag} {mg : Str → Option Value} {ρ : List Addr} {S : Sto} {H : Hp} {i : Bool} {Q : VK} {E : XK} (r : Rel ρ K H S) (h : Post (RvD K) K mg ρ S H (.ok (.bl i) S) Q E) : Q (.bl i) H := h.ok r (by simp only [RvD, Rp])
/-- a new tuple -/
theorem tupPost {K : PySem.W.Frag} {mg : Str → Option Value} {ρ : List Addr} {S : Sto} {H : Hp} {xs : List D} {vs : List V} {Q : VK} {E : XK} (r : Rel ρ K H S) (h : Post (RvD K) K mg ρ S H (.ok (.tup xs) S) Q E) (rp : Rps ρ K H xs vs) {p : Addr} (hp : H p = none) : Q (.ref p) (upd H p (.tup vs)) := by
  obtain ⟨r1, s1⟩ := r.fresh_tup (u := .tup vs) hp
  refine h ρ _ _ s1 r1 ?_
  simp only [RvD, Rp]
  exact ⟨p, vs, rfl, .inl (.inl upd_same), Rps.keep r s1 rp⟩
/-- a new list -/
theorem lstPost {K : PySem.W.Frag} {mg : Str → Option Value} {ρ : List Addr} {S : Sto} {H : Hp} {xs : List D} {vs : List V} {Q : VK} {E : XK} (r : Rel ρ K H S) (h : Post (RvD K) K mg ρ S H (.ok (.ref S.length) (S ++ [.lst xs])) Q E) (rp : Rps ρ K H xs vs) {p : Addr} (hp : H p = none) : Q (.ref p) (upd H p (.lst vs)) := by
  have st := (r.fresh_tup (u := .lst vs) hp).2
  obtain ⟨r1, s1⟩ := r.alloc (o := .lst xs) (u := .lst vs) hp ⟨vs, upd_same, Rps.more (List.prefix_append _ _) (Rps.keep r st rp)⟩
  refine h _ _ _ s1 r1 ?_
  simp only [RvD, Rp]
  exact ⟨p, rfl, by rw [List.getElem?_append_right (by rw [r.len]; exact Nat.le_refl _), r.len, Nat.sub_self]; rfl⟩
theorem Rel.lst {ρ : List Addr} {K : PySem.W.Frag} {H : Hp} {S : Sto} (r : Rel ρ K H S) {i : Nat} {a : Addr} {xs : List D} (h : S[i]? = some (.lst xs)) (ha : ρ[i]? = some a) : ∃ vs, H a = some (.lst vs) ∧ Rps ρ K H xs vs := r.ob i _ a h ha
/-- a list that is read -/
theorem Rel.seq {ρ : List Addr} {K : PySem.W.Frag} {H : Hp} {S : Sto} (r : Rel ρ K H S) {i : Nat} {a : Addr} {xs : List D} (h : S[i]? = some (.lst xs) ∨ S[i]? = some (.ro xs)) (ha : ρ[i]? = some a) : ∃ vs, SqL K H a vs ∧ Rps ρ K H xs vs := by
  rcases h with h | h
  · obtain ⟨vs, e, t⟩ := r.ob i _ a h ha
    exact ⟨vs, SqL.of e, t⟩
  · obtain ⟨vs, e, t⟩ := r.ob i _ a h ha
    exact ⟨vs, e.sq, t⟩
theorem Rps.ne {ρ : List Addr} {K : PySem.W.Frag} {H : Hp} {xs : List D} {vs : List V} (h : Rps ρ K H xs vs) (ne : xs ≠ []) : vs ≠ [] := by
  intro e
  subst e
  have := h.len
  cases xs with
  | nil => exact ne rfl
  | cons x xs => simp at this
theorem pe_bE (op : Operator) (ha : PE X a (tE X W ma)) (hb : PE X b (tE X W mb)) : PE X (.BinOp a op b pos) (tE X W (bE op ma mb)) := by
  have never : ∀ {op : Operator}, (∀ d1 d2 S, binop op d1 d2 S = .no) → PE X (.BinOp a op b pos) (tE X W (bE op ma mb)) := fun {op} hn => by
    refine ⟨fun pins s σ H Q I ⟨ρ, S, e, hE, hR, hP⟩ => ?_⟩
    have hr : tOp (fun _ _ _ _ => False) (tE X W ma) (tE X W mb) σ H Q := tOp_of (f := binop op) (fun ρ S H d1 d2 v1 v2 Q E _ _ _ h => by rw [hn] at h; exact h) ⟨ρ, S, e, hE, hR, hP⟩
    exact (pe_op (op := op) (r := fun _ _ _ _ => False) (fun _ _ _ _ _ _ _ _ _ _ _ _ h => h.elim) ha hb).run pins s σ H Q I hr
  have byInt : ∀ {op : Operator} {C : Int → Int → Prop} {g : Int → Int → Int}, OpR X (binaryOp op) (rI C fun i j => .int (g i j)) → (∀ d1 d2 S, (∃ i j, d1 = .int i ∧ d2 = .int j ∧ ((C i j ∧ binop op d1 d2 S = .ok (.int (g i j)) S) ∨ binop op d1 d2 S = .no)) ∨ binop op d1 d2 S = .no) →
      PE X (.BinOp a op b pos) (tE X W (bE op ma mb)) := fun {op C g} hop hf => by
    refine PE.imp (pe_op hop ha hb) fun σ H Q => tOp_of (f := binop op) fun ρ S H d1 d2 v1 v2 Q E hR p1 p2 hP => ?_
    rcases hf d1 d2 S with ⟨i, j, rfl, rfl, ⟨hc, e⟩ | e⟩ | e
    · simp only [Rp] at p1 p2
      rw [e] at hP
      exact ⟨i, j, p1, p2, hc, intPost hR hP⟩
    · rw [e] at hP; exact hP.elim
    · rw [e] at hP; exact hP.elim
  cases op with
  | Add =>
    refine PE.imp (pe_op (OpR.or op_add (OpR.or op_add_str (OpR.or op_catT op_cat))) ha hb) fun σ H Q => tOp_of (f := binop .Add) fun ρ S H d1 d2 v1 v2 Q E hR p1 p2 hP => ?_
    cases d1 with
    | int i =>
      cases d2 with
      | int j => simp only [Rp] at p1 p2; exact .inl ⟨i, j, p1, p2, intPost hR hP⟩
      | _ => exact hP.elim
    | str x =>
      cases d2 with
      | str y =>
        simp only [Rp] at p1 p2
        simp only [binop] at hP
        split at hP
        · rename_i hl
          exact .inr (.inl ⟨x, y, p1, p2, hl, hP.ok hR (by simp only [RvD, Rp])⟩)
        · exact hP.elim
      | _ => exact hP.elim
    | tup xs =>
      cases d2 with
      | tup ys =>
        simp only [Rp] at p1 p2
        simp only [binop] at hP
        obtain ⟨p, vs, rfl, q1, t1⟩ := p1
        obtain ⟨p', ws, rfl, q2, t2⟩ := p2
        split at hP
        · rename_i hl
          refine .inr (.inr (.inl ⟨p, p', vs, ws, rfl, rfl, q1, q2, t1.ne hl.1, by rw [← t1.len, ← t2.len]; exact hl.2, fun e => ?_, fun _ q hq => tupPost hR hP (t1.append t2) hq⟩))
          subst e
          have e2 : ys = [] := by
            have := t2.len
            cases ys with
            | nil => rfl
            | cons _ _ => simp at this
          subst e2
          rw [List.append_nil] at hP
          exact hP.ok hR (by simp only [RvD, Rp]; exact ⟨p, vs, rfl, q1, t1⟩)
        · exact hP.elim
      | _ => exact hP.elim
    | ref m =>
      cases d2 with
      | ref n =>
        simp only [Rp] at p1 p2
        simp only [binop] at hP
        obtain ⟨p, rfl, q1⟩ := p1
        obtain ⟨p', rfl, q2⟩ := p2
        split at hP
        · rename_i xs ys h1 h2
          split at hP
          · rename_i hl
            obtain ⟨vs, e1, t1⟩ := hR.lst h1 q1
            obtain ⟨ws, e2, t2⟩ := hR.lst h2 q2
            exact .inr (.inr (.inr ⟨p, p', vs, ws, rfl, rfl, e1, e2, by rw [← t1.len, ← t2.len]; exact hl, fun q hq => lstPost hR hP (t1.append t2) hq⟩))
          · exact hP.elim
        · exact hP.elim
      | _ => exact hP.elim
    | _ => exact hP.elim
  | Sub => exact byInt (C := fun _ _ => True) (g := fun i j => i - j) (opI fun _ _ _ _ _ _ _ _ q => PyProof.Rows.sub_int q) fun d1 d2 S => by cases d1 <;> cases d2 <;> first | exact .inr rfl | exact .inl ⟨_, _, rfl, rfl, .inl ⟨trivial, rfl⟩⟩
  | Mult =>
    exact byInt mul_rule fun d1 d2 S => by
      cases d1 with
      | int i =>
        cases d2 with
        | int j =>
          refine .inl ⟨i, j, rfl, rfl, ?_⟩
          simp only [binop]
          by_cases h : mulOk i j
          · rw [if_pos h]; exact .inl ⟨h, rfl⟩
          · rw [if_neg h]; exact .inr rfl
        | _ => exact .inr rfl
      | _ => exact .inr rfl
  | FloorDiv =>
    exact byInt fdiv_rule fun d1 d2 S => by
      cases d1 with
      | int i =>
        cases d2 with
        | int j =>
          refine .inl ⟨i, j, rfl, rfl, ?_⟩
          simp only [binop]
          by_cases h : j ≠ 0 ∧ j.natAbs.log2 < 9000
          · rw [if_pos h]; exact .inl ⟨h, rfl⟩
          · rw [if_neg h]; exact .inr rfl
        | _ => exact .inr rfl
      | _ => exact .inr rfl
  | Mod =>
    exact byInt (g := fun i j => i.fmod j) op_modN fun d1 d2 S => by
      cases d1 with
      | int i =>
        cases d2 with
        | int j =>
          refine .inl ⟨i, j, rfl, rfl, ?_⟩
          simp only [binop]
          by_cases h : j ≠ 0
          · rw [if_pos h]; exact .inl ⟨h, rfl⟩
          · rw [if_neg h]; exact .inr rfl
        | _ => exact .inr rfl
      | _ => exact .inr rfl
  | Pow =>
    exact byInt (g := fun i j => i ^ j.toNat) op_pow fun d1 d2 S => by
      cases d1 with
      | int i =>
        cases d2 with
        | int j =>
          refine .inl ⟨i, j, rfl, rfl, ?_⟩
          simp only [binop]
          by_cases h : CPow i j
          · rw [if_pos h]; exact .inl ⟨h, rfl⟩
          · rw [if_neg h]; exact .inr rfl
        | _ => exact .inr rfl
      | _ => exact .inr rfl
  | LShift =>
    exact byInt (g := fun i j => i * 2 ^ j.toNat) op_shl fun d1 d2 S => by
      cases d1 with
      | int i =>
        cases d2 with
        | int j =>
          refine .inl ⟨i, j, rfl, rfl, ?_⟩
          simp only [binop]
          by_cases h : CPow i j
          · rw [if_pos h]; exact .inl ⟨h, rfl⟩
          · rw [if_neg h]; exact .inr rfl
        | _ => exact .inr rfl
      | _ => exact .inr rfl
  | BitAnd => exact byInt (C := fun _ _ => True) (g := fun i j => Builtin.bitAnd i j) (opI fun _ _ _ _ _ _ _ _ q => PyProof.Rows.and_int q) fun d1 d2 S => by cases d1 <;> cases d2 <;> first | exact .inr rfl | exact .inl ⟨_, _, rfl, rfl, .inl ⟨trivial, rfl⟩⟩
  | MatMult => exact never fun _ _ _ => rfl
  | Div => exact never fun _ _ _ => rfl
  | RShift => exact never fun _ _ _ => rfl
  | BitOr => exact never fun _ _ _ => rfl
  | BitXor => exact never fun _ _ _ => rfl
end
end Py
namespace Py
open PySem PySem.Spec L2
/-! ## 9. Data, equality -/
theorem mapM_some {α β : Type} {f : α → Option β} : ∀ {xs : List α} {ys : List β}, xs.mapM f = some ys → Paired (fun x y => f x = some y) xs ys
  | [], ys, h => by simp at h; subst h; exact .nil
  | x :: xs, ys, h => by
    rw [List.mapM_cons] at h
    cases hx : f x with
    | none => rw [hx] at h; simp at h
    | some y =>
      rw [hx] at h
      cases hr : xs.mapM f with
      | none => rw [hr] at h; simp at h
      | some r =>
        rw [hr] at h
        simp at h
        subst h
        exact .cons hx (mapM_some hr)
theorem dp_all {K : PySem.W.Frag} {H : Hp} {ρ : List Addr} {S : Sto} {n : Nat} (ih : ∀ d v p, toPy S n d = some p → Rp ρ K H d v → Dp K H v p) : ∀ {xs : List D} {vs : List V} {ps : List PyData}, Paired (fun x y => toPy S n x = some y) xs ps → Rps ρ K H xs vs → DpAll K H vs ps
  | _, vs, _, .nil, h => by simp only [Rps] at h; subst h; exact .nil
  | x :: xs, vs, _, .cons e t, h => by
    simp only [Rps] at h
    obtain ⟨v, r, rfl, h1, h2⟩ := h
    exact .cons (ih _ _ _ e h1) (dp_all ih t h2)
theorem dp_of {K : PySem.W.Frag} {H : Hp} {ρ : List Addr} {S : Sto} (r : Rel ρ K H S) : ∀ (n : Nat) (d : D) (v : V) (p : PyData), toPy S n d = some p → Rp ρ K H d v → Dp K H v p := by
  intro n
  induction n with
  | zero =>
    intro d v p h q
    cases d with
    | non => simp only [toPy] at h; cases h; simp only [Rp] at q; subst q; exact .non
    | bl b => simp only [toPy] at h; cases h; simp only [Rp] at q; subst q; exact .bl b
    | int b => simp only [toPy] at h; cases h; simp only [Rp] at q; subst q; exact .int b
    | str b => simp only [toPy] at h; cases h; simp only [Rp] at q; subst q; exact .str b
    | tup xs => simp [toPy] at h
    | ref m => simp [toPy] at h
  | succ n ih =>
    intro d v p h q
    cases d with
    | non => simp only [toPy] at h; cases h; simp only [Rp] at q; subst q; exact .non
    | bl b => simp only [toPy] at h; cases h; simp only [Rp] at q; subst q; exact .bl b
    | int b => simp only [toPy] at h; cases h; simp only [Rp] at q; subst q; exact .int b
    | str b => simp only [toPy] at h; cases h; simp only [Rp] at q; subst q; exact .str b
    | tup xs =>
      simp only [toPy] at h
      obtain ⟨ps, hp, rfl⟩ := Option.map_eq_some_iff.mp h
      simp only [Rp] at q
      obtain ⟨a, vs, rfl, q, t⟩ := q
      exact .tup q (dp_all ih (mapM_some hp) t)
    | ref m =>
      simp only [toPy] at h
      simp only [Rp] at q
      obtain ⟨a, rfl, q⟩ := q
      split at h
      · rename_i xs hm
        obtain ⟨ps, hp, rfl⟩ := Option.map_eq_some_iff.mp h
        obtain ⟨vs, e, t⟩ := r.seq (.inl hm) q
        exact .lst e (dp_all ih (mapM_some hp) t)
      · rename_i xs hm
        obtain ⟨ps, hp, rfl⟩ := Option.map_eq_some_iff.mp h
        obtain ⟨vs, e, t⟩ := r.seq (.inr hm) q
        exact .lst e (dp_all ih (mapM_some hp) t)
      · cases h
theorem flat_of {K : PySem.W.Frag} {H : Hp} {ρ : List Addr} {d : D} {v : V} (f : d.flat = true) (h : Rp ρ K H d v) : flatV v = true := by
  cases d with
  | non => simp only [Rp] at h; subst h; rfl
  | bl b => simp only [Rp] at h; subst h; rfl
  | int b => simp only [Rp] at h; subst h; rfl
  | str b => simp only [Rp] at h; subst h; rfl
  | tup xs => simp [D.flat] at f
  | ref m => simp [D.flat] at f
theorem flats_of {K : PySem.W.Frag} {H : Hp} {ρ : List Addr} : ∀ {ds : List D} {vs : List V}, ds.all D.flat = true → Rps ρ K H ds vs → vs.all flatV = true
  | [], vs, _, h => by simp only [Rps] at h; subst h; rfl
  | d :: ds, vs, f, h => by
    simp only [Rps] at h
    obtain ⟨v, r, rfl, h1, h2⟩ := h
    simp only [List.all_cons, Bool.and_eq_true] at f ⊢
    exact ⟨flat_of f.1 h1, flats_of f.2 h2⟩
theorem eq_of_flat {K : PySem.W.Frag} {H : Hp} {ρ : List Addr} {d e : D} {v u : V} (f : d.flat = true) (g : e.flat = true) (h : Rp ρ K H d v) (k : Rp ρ K H e u) : eqV v u = flatEq d e := by
  cases d <;> cases e <;> first
    | (simp only [Rp] at h k; subst h; subst k; rfl)
    | (simp [D.flat] at f; done)
    | (simp [D.flat] at g; done)
theorem in_of {K : PySem.W.Frag} {H : Hp} {ρ : List Addr} {x : D} {u : V} (f : x.flat = true) (h : Rp ρ K H x u) : ∀ {ds : List D} {vs : List V}, ds.all D.flat = true → Rps ρ K H ds vs → inV u vs = ds.any fun y => flatEq y x
  | [], vs, _, h => by simp only [Rps] at h; subst h; rfl
  | d :: ds, vs, g, k => by
    simp only [Rps] at k
    obtain ⟨v, r, rfl, h1, h2⟩ := k
    simp only [List.all_cons, Bool.and_eq_true] at g
    show (eqV v u || inV u r) = (flatEq d x || ds.any fun y => flatEq y x)
    rw [eq_of_flat g.1 f h1 h, in_of f h g.2 h2]
theorem key_of {K : PySem.W.Frag} {H : Hp} {ρ : List Addr} {d : D} {v : V} {k : Key} (f : keyOf d = some k) (h : Rp ρ K H d v) : v = kV k := by
  cases d with
  | int i => simp only [keyOf] at f; cases f; simp only [Rp] at h; subst h; rfl
  | str i => simp only [keyOf] at f; cases f; simp only [Rp] at h; subst h; rfl
  | non => simp [keyOf] at f
  | bl b => simp [keyOf] at f
  | tup b => simp [keyOf] at f
  | ref b => simp [keyOf] at f
/-- what a dict holds -/
theorem look_of {K : PySem.W.Frag} {H : Hp} {ρ : List Addr} {k : Key} : ∀ {kvs : List (Key × D)} {ws : List (Key × V)}, KvR ρ K H kvs ws → match lookK k kvs with
    | some d => ∃ v, valV ws k = some v ∧ Rp ρ K H d v
    | none => valV ws k = none
  | [], [], _ => rfl
  | [], w :: ws, h => by simp [KvR] at h
  | p :: kvs, [], h => by simp [KvR] at h
  | p :: kvs, w :: ws, h => by
    obtain ⟨h1, h2⟩ := h
    simp only [List.map_cons, List.cons.injEq] at h1
    simp only [List.map_cons, Rps] at h2
    obtain ⟨v, r, e, h3, h4⟩ := h2
    injection e with e1 e2
    by_cases c : p.1 = k
    · have : lookK k (p :: kvs) = some p.2 := by simp [lookK, List.find?_cons, c]
      rw [this]
      exact ⟨w.2, valV_pos (h1.1 ▸ c), e1 ▸ h3⟩
    · have : lookK k (p :: kvs) = lookK k kvs := by simp [lookK, List.find?_cons, c]
      rw [this]
      have ih := look_of (k := k) (kvs := kvs) (ws := ws) ⟨h1.2, e2 ▸ h4⟩
      rw [valV_neg (fun z => c (h1.1.trans z))]
      exact ih
section
variable {X : Cx} {W : WX} {a b c : Expr} {ma mb mc : M D} {pos : Pos}
theorem din_rule {X : Cx} (hu : X.A.units + 1 < cLine) : OpR X (compareOp .In) (fun y x H Q => ∃ a o, x = .ref a ∧ DGet H a y o ∧ Q (.bl o.isSome) H) := by
  intro pins s σ H y x v u Q I ry rx h
  obtain ⟨a, o, rfl, g, q⟩ := h
  obtain rfl : u = Value.ref a := rx
  exact d_in hu I g ry fun s3 I3 => ⟨.bl o.isSome, H, I3, rfl, q⟩
theorem dnin_rule {X : Cx} (hu : X.A.units + 1 < cLine) : OpR X (compareOp .NotIn) (fun y x H Q => ∃ a o, x = .ref a ∧ DGet H a y o ∧ Q (.bl (!o.isSome)) H) := by
  intro pins s σ H y x v u Q I ry rx h
  obtain ⟨a, o, rfl, g, q⟩ := h
  obtain rfl : u = Value.ref a := rx
  exact d_notIn hu I g ry fun s3 I3 => ⟨.bl (!o.isSome), H, I3, rfl, q⟩
/-- the readings of the comparisons -/
def rCmp (X : Cx) : CmpOp → R2
  | .Eq => rEqD X.K
  | .NotEq => rNeD X.K
  | .Lt => fun x y H Q => rI0 (fun i j => .bl (decide (i < j))) x y H Q ∨ (fun x y H Q => ∃ i j, x = .str i ∧ y = .str j ∧ Q (.bl (decide (i.cps.toList < j.cps.toList))) H) x y H Q
  | .LtE => rI0 (fun i j => .bl (decide (i ≤ j)))
  | .Gt => rI0 (fun i j => .bl (decide (j < i)))
  | .GtE => rI0 (fun i j => .bl (decide (j ≤ i)))
  | .Is => fun x y H Q => y = .non ∧ Q (.bl (decide (x = .non))) H
  | .IsNot => fun x y H Q => y = .non ∧ Q (.bl (!decide (x = .non))) H
  | .In => fun x y H Q => rIn X.K false x y H Q ∨ (fun y x H Q => ∃ a o, x = .ref a ∧ DGet H a y o ∧ Q (.bl o.isSome) H) x y H Q ∨ (fun x y H Q => ∃ i j, x = .str i ∧ y = .str j ∧ Q (.bl (!(Builtin.Str.occurrences j i 0 j.length 1).isEmpty)) H) x y H Q
  | .NotIn => fun x y H Q => rIn X.K true x y H Q ∨ (fun y x H Q => ∃ a o, x = .ref a ∧ DGet H a y o ∧ Q (.bl (!o.isSome)) H) x y H Q ∨ (fun x y H Q => ∃ i j, x = .str i ∧ y = .str j ∧ Q (.bl (!(!(Builtin.Str.occurrences j i 0 j.length 1).isEmpty))) H) x y H Q
theorem rCmp_rule (hu : X.A.units + 64 < cLine) : ∀ op, OpR X (compareOp op) (rCmp X op)
  | .Eq => op_eqD hu
  | .NotEq => op_neD hu
  | .Lt => OpR.or op_lt op_lt_str
  | .LtE => op_le
  | .Gt => op_gt
  | .GtE => op_ge
  | .Is => op_isN
  | .IsNot => op_notN
  | .In => OpR.or op_in_seq (OpR.or (din_rule (by omega)) op_in_str)
  | .NotIn => OpR.or op_notIn_seq (OpR.or (dnin_rule (by omega)) op_notIn_str)
theorem non_of {K : PySem.W.Frag} {H : Hp} {ρ : List Addr} {d : D} {v : V} (h : Rp ρ K H d v) : decide (v = .non) = (match d with | .non => true | _ => false) := by
  cases d with
  | non => simp only [Rp] at h; subst h; rfl
  | bl b => simp only [Rp] at h; subst h; rfl
  | int b => simp only [Rp] at h; subst h; rfl
  | str b => simp only [Rp] at h; subst h; rfl
  | tup xs => simp only [Rp] at h; obtain ⟨_, _, rfl, _⟩ := h; rfl
  | ref m => simp only [Rp] at h; obtain ⟨_, rfl, _⟩ := h; rfl
theorem cmp_of {K : PySem.W.Frag} {op : CmpOp} {ρ : List Addr} {S : Sto} {H : Hp} {d1 d2 : D} {v1 v2 : V} {Q : VK} {E : XK} (hK : K = X.K) (r : Rel ρ X.K H S) (p1 : Rp ρ X.K H d1 v1) (p2 : Rp ρ X.K H d2 v2) (hP : Post (RvD X.K) X.K X.mg ρ S H (cmpop op d1 d2 S) Q E) : rCmp X op v1 v2 H Q := by
  have eqs : ∀ {d e : D}, Rp ρ X.K H d v1 → Rp ρ X.K H e v2 → ∀ b, pyEq S d e = some b → ∃ p q, Dp X.K H v1 p ∧ Dp X.K H v2 q ∧ SeqAt.shaped p = true ∧ SeqAt.shaped q = true ∧ b = PyData.eqv p q := by
    intro d e q1 q2 b h
    unfold pyEq at h
    split at h
    · rename_i p q h1 h2
      split at h
      · rename_i sh
        simp only [Bool.and_eq_true] at sh
        cases h
        exact ⟨p, q, dp_of r 60 d v1 p h1 q1, dp_of r 60 e v2 q h2 q2, sh.1, sh.2, rfl⟩
      · cases h
    · cases h
  cases op with
  | Eq =>
    cases h : pyEq S d1 d2 with
    | none =>
      have : cmpop .Eq d1 d2 S = .no := by simp only [cmpop, h]
      rw [this] at hP; exact hP.elim
    | some b =>
      have : cmpop .Eq d1 d2 S = .ok (.bl b) S := by simp only [cmpop, h]
      rw [this] at hP
      obtain ⟨p, q, h1, h2, h3, h4, rfl⟩ := eqs p1 p2 b h
      exact ⟨p, q, h1, h2, h3, h4, blPost r hP⟩
  | NotEq =>
    cases h : pyEq S d1 d2 with
    | none =>
      have : cmpop .NotEq d1 d2 S = .no := by simp only [cmpop, h]
      rw [this] at hP; exact hP.elim
    | some b =>
      have : cmpop .NotEq d1 d2 S = .ok (.bl (!b)) S := by simp only [cmpop, h]
      rw [this] at hP
      obtain ⟨p, q, h1, h2, h3, h4, rfl⟩ := eqs p1 p2 b h
      exact ⟨p, q, h1, h2, h3, h4, blPost r hP⟩
  | Lt =>
    cases d1 with
    | int i =>
      cases d2 with
      | int j => simp only [Rp] at p1 p2; exact .inl ⟨i, j, p1, p2, blPost r hP⟩
      | _ => exact hP.elim
    | str i =>
      cases d2 with
      | str j => simp only [Rp] at p1 p2; exact .inr ⟨i, j, p1, p2, blPost r hP⟩
      | _ => exact hP.elim
    | _ => exact hP.elim
  | LtE =>
    cases d1 with
    | int i =>
      cases d2 with
      | int j => simp only [Rp] at p1 p2; exact ⟨i, j, p1, p2, blPost r hP⟩
      | _ => exact hP.elim
    | _ => exact hP.elim
  | Gt =>
    cases d1 with
    | int i =>
      cases d2 with
      | int j => simp only [Rp] at p1 p2; exact ⟨i, j, p1, p2, blPost r hP⟩
      | _ => exact hP.elim
    | _ => exact hP.elim
  | GtE =>
    cases d1 with
    | int i =>
      cases d2 with
      | int j => simp only [Rp] at p1 p2; exact ⟨i, j, p1, p2, blPost r hP⟩
      | _ => exact hP.elim
    | _ => exact hP.elim
  | Is =>
    cases d2 with
    | non =>
      simp only [Rp] at p2
      refine ⟨p2, ?_⟩
      rw [non_of p1]
      cases d1 <;> exact blPost r hP
    | _ => cases d1 <;> exact hP.elim
  | IsNot =>
    cases d2 with
    | non =>
      simp only [Rp] at p2
      refine ⟨p2, ?_⟩
      rw [non_of p1]
      cases d1 <;> exact blPost r hP
    | _ => cases d1 <;> exact hP.elim
  | In =>
    have seqs : ∀ {ys : List D}, (∃ p vs, v2 = .ref p ∧ (SqL X.K H p vs ∨ SqT X.K H p vs) ∧ Rps ρ X.K H ys vs) → Post (RvD X.K) X.K X.mg ρ S H (if d1.flat = true ∧ ys.all D.flat = true then .ok (.bl (ys.any fun y => flatEq y d1)) S else .no) Q E → rIn X.K false v1 v2 H Q := by
      intro ys ⟨p, vs, e, sq, t⟩ hP
      split at hP
      · rename_i f
        refine ⟨p, vs, e, sq, flat_of f.1 p1, flats_of f.2 t, ?_⟩
        rw [if_neg Bool.false_ne_true, in_of f.1 p1 f.2 t]
        exact blPost r hP
      · exact hP.elim
    cases d2 with
    | tup ys =>
      simp only [Rp] at p2
      obtain ⟨p, vs, e, sq, t⟩ := p2
      have hP' : Post (RvD X.K) X.K X.mg ρ S H (if d1.flat = true ∧ ys.all D.flat = true then .ok (.bl (ys.any fun y => flatEq y d1)) S else .no) Q E := by cases d1 <;> exact hP
      exact .inl (seqs ⟨p, vs, e, .inr sq, t⟩ hP')
    | ref m =>
      simp only [Rp] at p2
      obtain ⟨p, e, q⟩ := p2
      cases hm : S[m]? with
      | none =>
        have : cmpop .In d1 (.ref m) S = .no := by cases d1 <;> simp only [cmpop, hm]
        rw [this] at hP; exact hP.elim
      | some o =>
        cases o with
        | lst ys =>
          have : cmpop .In d1 (.ref m) S = (if d1.flat = true ∧ ys.all D.flat = true then .ok (.bl (ys.any fun y => flatEq y d1)) S else .no) := by cases d1 <;> simp only [cmpop, hm]
          rw [this] at hP
          obtain ⟨vs, sq, t⟩ := r.seq (.inl hm) q
          exact .inl (seqs ⟨p, vs, e, .inl sq, t⟩ hP)
        | ro ys =>
          have : cmpop .In d1 (.ref m) S = (if d1.flat = true ∧ ys.all D.flat = true then .ok (.bl (ys.any fun y => flatEq y d1)) S else .no) := by cases d1 <;> simp only [cmpop, hm]
          rw [this] at hP
          obtain ⟨vs, sq, t⟩ := r.seq (.inr hm) q
          exact .inl (seqs ⟨p, vs, e, .inl sq, t⟩ hP)
        | dK kvs =>
          have e1 : cmpop .In d1 (.ref m) S = (match keyOf d1 with | some k => .ok (.bl (lookK k kvs).isSome) S | none => .no) := by cases d1 <;> simp only [cmpop, hm] <;> rfl
          rw [e1] at hP
          cases hk : keyOf d1 with
          | none => rw [hk] at hP; exact hP.elim
          | some k =>
            rw [hk] at hP
            obtain ⟨ws, e2, kv⟩ := r.ob m _ p hm q
            have l := look_of (k := k) kv
            refine .inr (.inl ⟨p, valV ws k, e, by rw [key_of hk p1]; exact DGet.k e2, ?_⟩)
            have : (valV ws k).isSome = (lookK k kvs).isSome := by
              cases hl : lookK k kvs with
              | none => rw [hl] at l; rw [l]; rfl
              | some d => rw [hl] at l; obtain ⟨v, z, _⟩ := l; rw [z]; rfl
            rw [this]
            exact blPost r hP
    | str y =>
      cases d1 with
      | str x => simp only [Rp] at p1 p2; exact .inr (.inr ⟨x, y, p1, p2, blPost r hP⟩)
      | _ => exact hP.elim
    | _ => cases d1 <;> exact hP.elim
  | NotIn =>
    have seqs : ∀ {ys : List D}, (∃ p vs, v2 = .ref p ∧ (SqL X.K H p vs ∨ SqT X.K H p vs) ∧ Rps ρ X.K H ys vs) → Post (RvD X.K) X.K X.mg ρ S H (if d1.flat = true ∧ ys.all D.flat = true then .ok (.bl (!ys.any fun y => flatEq y d1)) S else .no) Q E → rIn X.K true v1 v2 H Q := by
      intro ys ⟨p, vs, e, sq, t⟩ hP
      split at hP
      · rename_i f
        refine ⟨p, vs, e, sq, flat_of f.1 p1, flats_of f.2 t, ?_⟩
        rw [if_pos rfl, in_of f.1 p1 f.2 t]
        exact blPost r hP
      · exact hP.elim
    cases d2 with
    | tup ys =>
      simp only [Rp] at p2
      obtain ⟨p, vs, e, sq, t⟩ := p2
      have hP' : Post (RvD X.K) X.K X.mg ρ S H (if d1.flat = true ∧ ys.all D.flat = true then .ok (.bl (!ys.any fun y => flatEq y d1)) S else .no) Q E := by cases d1 <;> exact hP
      exact .inl (seqs ⟨p, vs, e, .inr sq, t⟩ hP')
    | ref m =>
      simp only [Rp] at p2
      obtain ⟨p, e, q⟩ := p2
      cases hm : S[m]? with
      | none =>
        have : cmpop .NotIn d1 (.ref m) S = .no := by cases d1 <;> simp only [cmpop, hm]
        rw [this] at hP; exact hP.elim
      | some o =>
        cases o with
        | lst ys =>
          have : cmpop .NotIn d1 (.ref m) S = (if d1.flat = true ∧ ys.all D.flat = true then .ok (.bl (!ys.any fun y => flatEq y d1)) S else .no) := by cases d1 <;> simp only [cmpop, hm]
          rw [this] at hP
          obtain ⟨vs, sq, t⟩ := r.seq (.inl hm) q
          exact .inl (seqs ⟨p, vs, e, .inl sq, t⟩ hP)
        | ro ys =>
          have : cmpop .NotIn d1 (.ref m) S = (if d1.flat = true ∧ ys.all D.flat = true then .ok (.bl (!ys.any fun y => flatEq y d1)) S else .no) := by cases d1 <;> simp only [cmpop, hm]
          rw [this] at hP
          obtain ⟨vs, sq, t⟩ := r.seq (.inr hm) q
          exact .inl (seqs ⟨p, vs, e, .inl sq, t⟩ hP)
        | dK kvs =>
          have e1 : cmpop .NotIn d1 (.ref m) S = (match keyOf d1 with | some k => .ok (.bl (!(lookK k kvs).isSome)) S | none => .no) := by cases d1 <;> simp only [cmpop, hm] <;> rfl
          rw [e1] at hP
          cases hk : keyOf d1 with
          | none => rw [hk] at hP; exact hP.elim
          | some k =>
            rw [hk] at hP
            obtain ⟨ws, e2, kv⟩ := r.ob m _ p hm q
            have l := look_of (k := k) kv
            refine .inr (.inl ⟨p, valV ws k, e, by rw [key_of hk p1]; exact DGet.k e2, ?_⟩)
            have : (valV ws k).isSome = (lookK k kvs).isSome := by
              cases hl : lookK k kvs with
              | none => rw [hl] at l; rw [l]; rfl
              | some d => rw [hl] at l; obtain ⟨v, z, _⟩ := l; rw [z]; rfl
            rw [this]
            exact blPost r hP
    | str y =>
      cases d1 with
      | str x => simp only [Rp] at p1 p2; exact .inr (.inr ⟨x, y, p1, p2, blPost r hP⟩)
      | _ => exact hP.elim
    | _ => cases d1 <;> exact hP.elim
theorem pe_kE {op : CmpOp} (hu : X.A.units + 64 < cLine) (hm : behindInMarks op b = false) (ha : PE X a (tE X W ma)) (hb : PE X b (tE X W mb)) : PE X (.Compare a [op] [b] pos) (tE X W (kE op ma mb)) :=
  PE.imp (pe_cmpR (rCmp_rule hu op) ha hb hm) fun σ H Q => tOp_of (f := cmpop op) fun ρ S H d1 d2 v1 v2 Q E r p1 p2 hP => cmp_of rfl r p1 p2 hP
theorem isBl_some {d : D} {k : Bool} (h : isBl d = some k) : d = .bl k := by
  cases d with
  | bl b => simp only [isBl] at h; cases h; rfl
  | _ => simp [isBl] at h
theorem pt_ktT {op : CmpOp} (hu : X.A.units + 64 < cLine) (hm : behindInMarks op b = false) (ha : PE X a (tE X W ma)) (hb : PE X b (tE X W mb)) : PT X (.Compare a [op] [b] pos) (tT X W (ktT (kE op ma mb))) := by
  refine PT.imp (pt_cmpR (rCmp_rule hu op) ha hb hm) fun σ H Q h => ?_
  obtain ⟨ρ, S, e, hE, hR, hP⟩ := h
  refine tOp_of (f := cmpop op) (fun ρ S H d1 d2 v1 v2 Q E r p1 p2 hP => cmp_of rfl r p1 p2 hP) ⟨ρ, S, e, hE, hR, ?_⟩
  show Post (RvD X.K) X.K X.mg ρ S H (kE op ma mb e S) _ _
  unfold ktT at hP
  cases q : kE op ma mb e S with
  | no => rw [q] at hP; exact hP
  | exc x S1 => rw [q] at hP; exact hP
  | ok d S1 =>
    rw [q] at hP
    simp only [R.bind_ok] at hP
    cases hb : isBl d with
    | none => rw [hb] at hP; exact hP.elim
    | some k =>
      rw [hb] at hP
      have := isBl_some hb
      subst this
      intro ρ' H' v st r' rv
      simp only [RvD, Rp] at rv
      exact ⟨k, rv, hP ρ' H' k st r' rfl⟩
theorem pt_ktT_gc {op : CmpOp} (hu : X.A.units + 64 < cLine) (hm : behindInMarks op b = false) (ha : PE X a (tE X W ma)) (hb : PE X b (tE X W mb)) : PT X (.Compare a [op] [b] pos) (tT X W (ktT (kgE op ma mb))) := by
  refine PT.imp (pt_cmpR (rCmp_rule hu op) ha hb hm) fun σ H Q h => ?_
  obtain ⟨ρ, S, e, hE, hR, hP⟩ := h
  refine tOp_of (f := cmpop op) (fun ρ S H d1 d2 v1 v2 Q E r p1 p2 hP => cmp_of rfl r p1 p2 hP) ⟨ρ, S, e, hE, hR, ?_⟩
  show Post (RvD X.K) X.K X.mg ρ S H (kE op ma mb e S) _ _
  refine Post.gc hR ?_
  show Post (RvD X.K) X.K X.mg ρ S H (kgE op ma mb e S) _ _
  unfold ktT at hP
  cases q : kgE op ma mb e S with
  | no => rw [q] at hP; exact hP
  | exc x S1 => rw [q] at hP; exact hP
  | ok d S1 =>
    rw [q] at hP
    simp only [R.bind_ok] at hP
    cases hb : isBl d with
    | none => rw [hb] at hP; exact hP.elim
    | some k =>
      rw [hb] at hP
      have := isBl_some hb
      subst this
      intro ρ' H' v st r' rv
      simp only [RvD, Rp] at rv
      exact ⟨k, rv, hP ρ' H' k st r' rfl⟩
/-- a < b < c -/
theorem tChain_of {op op' : CmpOp} {σ : L2.St} {H : Hp} {Q : VK} (h : tE X W (chE op op' ma mb mc) σ H Q) : tChain (rCmp X op) (rCmp X op') (tE X W ma) (tE X W mb) (tE X W mc) σ H Q := by
  obtain ⟨ρ, S, e, hE, hR, hP⟩ := h
  refine tM_seq hE hR hP fun ρ1 S1 H1 d1 v1 _ s1 r1 hE1 p1 hP1 => ?_
  refine tM_seq hE1 r1 hP1 fun ρ2 S2 H2 d2 v2 _ s2 r2 hE2 p2 hP2 => ?_
  refine cmp_of (E := fun cls dd H' => W cls dd σ H') rfl r2 (Rp.keep r1 s2 p1) p2 ?_
  cases q : cmpop op d1 d2 S2 with
  | no => rw [q] at hP2; exact hP2
  | exc x S3 => rw [q] at hP2; exact hP2
  | ok z S3 =>
    rw [q] at hP2
    simp only [R.bind_ok] at hP2
    cases hb : isBl z with
    | none => rw [hb] at hP2; exact hP2.elim
    | some k =>
      rw [hb] at hP2
      have := isBl_some hb
      subst this
      intro ρ3 H3 v s3 r3 rv
      simp only [RvD, Rp] at rv
      refine ⟨k, rv, ?_⟩
      have hP3 := Post.later r2 s3 r3 hP2
      cases k with
      | false =>
        rw [if_neg Bool.false_ne_true]
        exact blPost r3 hP3
      | true =>
        rw [if_pos rfl]
        refine tM_seq (hE2.keep r2 s3) r3 hP3 fun ρ4 S4 H4 d4 v4 _ s4 r4 hE4 p4 hP4 => ?_
        exact cmp_of rfl r4 (Rp.keep r3 s4 (Rp.keep r2 s3 p2)) p4 hP4
theorem pe_chE {op op' : CmpOp} (hu : X.A.units + 64 < cLine) (hm : lastMarks [op, op'] [b, c] = false) (ha : PE X a (tE X W ma)) (hb : PE X b (tE X W mb)) (hc : PE X c (tE X W mc)) : PE X (.Compare a [op, op'] [b, c] pos) (tE X W (chE op op' ma mb mc)) :=
  PE.imp (pe_chain (rCmp_rule hu op) (rCmp_rule hu op') ha hb hc hm) fun σ H Q => tChain_of
theorem pt_chT {op op' : CmpOp} (hu : X.A.units + 64 < cLine) (hm : lastMarks [op, op'] [b, c] = false) (ha : PE X a (tE X W ma)) (hb : PE X b (tE X W mb)) (hc : PE X c (tE X W mc)) : PT X (.Compare a [op, op'] [b, c] pos) (tT X W (ktT (chE op op' ma mb mc))) := by
  refine PT.imp (pt_chain (rCmp_rule hu op) (rCmp_rule hu op') ha hb hc hm) fun σ H Q h => ?_
  obtain ⟨ρ, S, e, hE, hR, hP⟩ := h
  refine tChain_of ⟨ρ, S, e, hE, hR, ?_⟩
  unfold ktT at hP
  cases q : chE op op' ma mb mc e S with
  | no => rw [q] at hP; exact hP
  | exc x S1 => rw [q] at hP; exact hP
  | ok d S1 =>
    rw [q] at hP
    simp only [R.bind_ok] at hP
    cases hb : isBl d with
    | none => rw [hb] at hP; exact hP.elim
    | some k =>
      rw [hb] at hP
      have := isBl_some hb
      subst this
      intro ρ' H' v st r' rv
      simp only [RvD, Rp] at rv
      exact ⟨k, rv, hP ρ' H' k st r' rfl⟩
end
end Py
namespace Py
open PySem PySem.Spec L2
open PyProof.Rows (subscriptTail Subscript_)
/-! ## 10. Truth, and, or, displays, subscripts -/
section
variable {X : Cx} {W : WX} {a b c : Expr} {ma mb mc : M D} {mt mu mv : M Bool} {pos : Pos}
theorem pe_negE (ha : PE X a (tE X W ma)) : PE X (.UnaryOp .USub a pos) (tE X W (negE ma)) := by
  refine PE.imp (pe_un un_neg ha) fun σ H Q ⟨ρ, S, e, hE, hR, hP⟩ => ?_
  refine tM_seq hE hR hP fun ρ1 S1 H1 d1 v1 _ s1 r1 hE1 p1 hP1 => ?_
  cases d1 with
  | int i =>
    have p1 : Rp ρ1 X.K H1 (.int i) v1 := p1
    simp only [Rp] at p1
    exact ⟨i, p1, intPost r1 hP1⟩
  | _ => exact hP1.elim
theorem tru_of {K : PySem.W.Frag} {ρ : List Addr} {S : Sto} {H : Hp} {d : D} {v : V} {k : Bool} (r : Rel ρ K H S) (p : Rp ρ K H d v) (h : truth S d = some k) : TruV K v H k := by
  cases d with
  | non => simp only [Rp] at p; subst p; simp only [truth, Option.some.injEq] at h; exact h.symm
  | bl b => simp only [Rp] at p; subst p; simp only [truth, Option.some.injEq] at h; exact h.symm
  | int b => simp only [Rp] at p; subst p; simp only [truth, Option.some.injEq] at h; exact h.symm
  | str x =>
    simp only [Rp] at p; subst p
    simp only [truth] at h
    split at h
    · rename_i hl
      simp only [Option.some.injEq] at h
      exact ⟨hl, h.symm⟩
    · cases h
  | tup xs =>
    simp only [Rp] at p
    obtain ⟨q, vs, rfl, sq, t⟩ := p
    simp only [truth, Option.some.injEq] at h
    refine .inr (.inl ⟨vs, sq, ?_⟩)
    rw [← h]
    have := t.len
    cases xs <;> cases vs <;> simp at this ⊢
  | ref m =>
    simp only [Rp] at p
    obtain ⟨q, rfl, hq⟩ := p
    simp only [truth] at h
    split at h
    · rename_i xs hm
      obtain ⟨vs, sq, t⟩ := r.seq (.inl hm) hq
      simp only [Option.some.injEq] at h
      refine .inl ⟨vs, sq, ?_⟩
      rw [← h]
      have := t.len
      cases xs <;> cases vs <;> simp at this ⊢
    · rename_i xs hm
      obtain ⟨vs, sq, t⟩ := r.seq (.inr hm) hq
      simp only [Option.some.injEq] at h
      refine .inl ⟨vs, sq, ?_⟩
      rw [← h]
      have := t.len
      cases xs <;> cases vs <;> simp at this ⊢
    · rename_i kvs hm
      obtain ⟨ws, e, h1, t⟩ := r.ob m _ q hm hq
      simp only [Option.some.injEq] at h
      refine .inr (.inr ⟨ws, e, ?_⟩)
      rw [← h]
      cases kvs <;> cases ws <;> simp at h1 ⊢
    · cases h
/-- the truth of what has come, then what follows -/
theorem trR_seq {β γ : Type} {Rc : List Addr → Hp → β → γ → Prop} {ρ : List Addr} {S : Sto} {H : Hp} {d : D} {v : V} {f : Bool → Sto → R β} {Q : γ → Hp → Prop} {E : XK} (r : Rel ρ X.K H S) (p : Rp ρ X.K H d v)
    (hP : Post Rc X.K X.mg ρ S H ((trR S d).bind f) Q E) : ∃ k, TruV X.K v H k ∧ Post Rc X.K X.mg ρ S H (f k S) Q E := by
  unfold trR at hP
  cases h : truth S d with
  | none => rw [h] at hP; exact hP.elim
  | some k => rw [h] at hP; exact ⟨k, tru_of r p h, hP⟩
theorem pt_trT (ha : PE X a (tE X W ma)) (he : ∀ whole, isTrue a X.env whole = (do let v ← whole; standAt a.pos; holding [v] (truthy v))) : PT X a (tT X W (trT ma)) := by
  refine PT.imp (pt_truth ha he) fun σ H Q ⟨ρ, S, e, hE, hR, hP⟩ => ?_
  refine tM_seq hE hR hP fun ρ1 S1 H1 d1 v1 _ s1 r1 hE1 p1 hP1 => ?_
  have hP2 : Post RvEq X.K X.mg ρ1 S1 H1 ((trR S1 d1).bind fun k S => .ok k S) Q (fun cls dd H' => W cls dd σ H') := by
    cases q : trR S1 d1 with
    | ok k S2 => rw [q] at hP1; exact hP1
    | exc x S2 => rw [q] at hP1; exact hP1
    | no => rw [q] at hP1; exact hP1
  obtain ⟨k, tk, hP3⟩ := trR_seq r1 p1 hP2
  exact ⟨k, tk, hP3.ok r1 rfl⟩
theorem pt_notT (ha : PT X a (tT X W mt)) : PT X (.UnaryOp .Not a pos) (tT X W (notT mt)) := by
  refine PT.imp (pt_not ha) fun σ H Q ⟨ρ, S, e, hE, hR, hP⟩ => ?_
  refine tM_seq hE hR hP fun ρ1 S1 H1 d1 v1 _ s1 r1 hE1 p1 hP1 => ?_
  obtain rfl : d1 = v1 := p1
  exact hP1.ok r1 rfl
theorem pw_one_and (ha : PT X a (tT X W mt)) : PW X (.BoolOp .And [a] pos) (tT X W mt) := pw_and1 ha
theorem pw_cons_and {rest : List Expr} (ha : PT X a (tT X W mt)) (hb : PW X (.BoolOp .And (b :: rest) pos) (tT X W mu)) : PW X (.BoolOp .And (a :: b :: rest) pos) (tT X W (andT mt mu)) := by
  refine PW.imp (pw_and ha hb) fun σ H Q ⟨ρ, S, e, hE, hR, hP⟩ => ?_
  refine tM_seq hE hR hP fun ρ1 S1 H1 d1 v1 _ s1 r1 hE1 p1 hP1 => ?_
  obtain rfl : d1 = v1 := p1
  cases d1 with
  | true => rw [if_pos rfl]; exact ⟨ρ1, S1, e, hE1, r1, hP1⟩
  | false => rw [if_neg Bool.false_ne_true]; exact hP1.ok r1 rfl
theorem pw_cons_or {rest : List Expr} (ha : PT X a (tT X W mt)) (hb : PW X (.BoolOp .Or (b :: rest) pos) (tT X W mu)) : PW X (.BoolOp .Or (a :: b :: rest) pos) (tT X W (orT mt mu)) := by
  refine PW.imp (pw_or ha hb) fun σ H Q ⟨ρ, S, e, hE, hR, hP⟩ => ?_
  refine tM_seq hE hR hP fun ρ1 S1 H1 d1 v1 _ s1 r1 hE1 p1 hP1 => ?_
  obtain rfl : d1 = v1 := p1
  cases d1 with
  | true => rw [if_pos rfl]; exact hP1.ok r1 rfl
  | false => rw [if_neg Bool.false_ne_true]; exact ⟨ρ1, S1, e, hE1, r1, hP1⟩
/-- a if t else b, as a test -/
theorem pt_ifT (ht : PT X a (tT X W mt)) (hb : PT X b (tT X W mu)) (hc : PT X c (tT X W mv)) : PT X (.IfExp a b c pos) (tT X W (ifT mt mu mv)) := by
  refine ⟨fun pins s σ H Q I h => ?_⟩
  have e : ∀ wh, isTrue (.IfExp a b c pos) X.env wh = (do if ← isTrue a X.env (eval a X.env) then isTrue b X.env (eval b X.env) else isTrue c X.env (eval c X.env)) := fun _ => rfl
  rw [e]
  obtain ⟨ρ, S, en, hE, hR, hP⟩ := h
  refine wpAny_bind (thn (ht.run pins s σ H (fun k H1 => if k = true then tT X W mu σ H1 Q else tT X W mv σ H1 Q) I (tM_seq hE hR hP fun ρ1 S1 H1 d1 v1 _ s1 r1 hE1 p1 hP1 => ?_)) fun k s1 ⟨H1, I1, q⟩ => ?_)
  · obtain rfl : d1 = v1 := p1
    cases d1 with
    | true => rw [if_pos rfl]; exact ⟨ρ1, S1, en, hE1, r1, hP1⟩
    | false => rw [if_neg Bool.false_ne_true]; exact ⟨ρ1, S1, en, hE1, r1, hP1⟩
  · cases k with
    | true => rw [if_pos rfl] at q ⊢; exact hb.run pins s1 σ H1 Q I1 q
    | false => rw [if_neg Bool.false_ne_true] at q ⊢; exact hc.run pins s1 σ H1 Q I1 q
theorem pe_cons_and {rest : List Expr} (ha : PE X a (tE X W ma)) (hb : PE X (.BoolOp .And (b :: rest) pos) (tE X W mb)) : PE X (.BoolOp .And (a :: b :: rest) pos) (tE X W (andE ma mb)) := by
  refine PE.imp (pe_andT ha hb) fun σ H Q ⟨ρ, S, e, hE, hR, hP⟩ => ?_
  refine tM_seq hE hR hP fun ρ1 S1 H1 d1 v1 _ s1 r1 hE1 p1 hP1 => ?_
  obtain ⟨k, tk, hP2⟩ := trR_seq r1 p1 hP1
  refine ⟨k, tk, ?_⟩
  cases k with
  | true => rw [if_pos rfl]; exact ⟨ρ1, S1, e, hE1, r1, hP2⟩
  | false => rw [if_neg Bool.false_ne_true]; exact hP2.ok r1 p1
theorem pe_cons_or {rest : List Expr} (ha : PE X a (tE X W ma)) (hb : PE X (.BoolOp .Or (b :: rest) pos) (tE X W mb)) : PE X (.BoolOp .Or (a :: b :: rest) pos) (tE X W (orE ma mb)) := by
  refine PE.imp (pe_orT ha hb) fun σ H Q ⟨ρ, S, e, hE, hR, hP⟩ => ?_
  refine tM_seq hE hR hP fun ρ1 S1 H1 d1 v1 _ s1 r1 hE1 p1 hP1 => ?_
  obtain ⟨k, tk, hP2⟩ := trR_seq r1 p1 hP1
  refine ⟨k, tk, ?_⟩
  cases k with
  | true => rw [if_pos rfl]; exact hP2.ok r1 p1
  | false => rw [if_neg Bool.false_ne_true]; exact ⟨ρ1, S1, e, hE1, r1, hP2⟩
theorem pe_notE (ha : PE X a (tE X W ma)) : PE X (.UnaryOp .Not a pos) (tE X W (notE ma)) := by
  refine PE.imp (pe_notT ha) fun σ H Q ⟨ρ, S, e, hE, hR, hP⟩ => ?_
  refine tM_seq hE hR hP fun ρ1 S1 H1 d1 v1 _ s1 r1 hE1 p1 hP1 => ?_
  obtain ⟨k, tk, hP2⟩ := trR_seq r1 p1 hP1
  exact ⟨k, tk, blPost r1 hP2⟩
theorem pe_ifE (ht : PT X c (tT X W mt)) (ha : PE X a (tE X W ma)) (hb : PE X b (tE X W mb)) : PE X (.IfExp c a b pos) (tE X W (ifE mt ma mb)) := by
  refine PE.imp (pe_ifExp ht ha hb) fun σ H Q ⟨ρ, S, e, hE, hR, hP⟩ => ?_
  refine tM_seq hE hR hP fun ρ1 S1 H1 d1 v1 _ s1 r1 hE1 p1 hP1 => ?_
  obtain rfl : d1 = v1 := p1
  cases d1 with
  | true => rw [if_pos rfl]; exact ⟨ρ1, S1, e, hE1, r1, hP1⟩
  | false => rw [if_neg Bool.false_ne_true]; exact ⟨ρ1, S1, e, hE1, r1, hP1⟩
/-! ### argument lists, displays -/
theorem PA.imp {es : List Expr} {t t' : TA} (h : PA X es t) (i : ∀ σ H Q, t' σ H Q → t σ H Q) : PA X es t' := ⟨fun pos pins s σ H Q I q => h.run pos pins s σ H Q I (i σ H Q q)⟩
theorem pa_nilA : PA X [] (tA X W nilA) := PA.imp pa_nil fun σ H Q ⟨ρ, S, e, hE, hR, hP⟩ => hP.ok hR Rps.nil
theorem pa_consA {es : List Expr} {mr : M (List D)} (ha : PE X a (tE X W ma)) (hr : PA X es (tA X W mr)) (hs : starEach (a :: es) X.env = (false, eval a X.env) :: starEach es X.env) : PA X (a :: es) (tA X W (consA ma mr)) := by
  refine PA.imp (pa_cons ha hr hs) fun σ H Q ⟨ρ, S, e, hE, hR, hP⟩ => ?_
  refine tM_seq hE hR hP fun ρ1 S1 H1 d1 v1 _ s1 r1 hE1 p1 hP1 => ?_
  refine tM_seq hE1 r1 hP1 fun ρ2 S2 H2 d2 v2 _ s2 r2 hE2 p2 hP2 => ?_
  exact hP2.ok r2 (Rps.cons (Rp.keep r1 s2 p1) p2)
theorem pe_tupE {es : List Expr} {x1 : Nat} {mr : M (List D)} (h : PA X es (tA X W mr)) : PE X (.Tuple es x1 pos) (tE X W (tupE mr)) := by
  refine PE.imp (pe_tup h) fun σ H Q ⟨ρ, S, e, hE, hR, hP⟩ => ?_
  refine tM_seq hE hR hP fun ρ1 S1 H1 d1 v1 _ s1 r1 hE1 p1 hP1 => ?_
  split at hP1
  · rename_i hl
    exact ⟨by rw [← Rps.len p1]; exact hl, fun p hp => tupPost r1 hP1 p1 hp⟩
  · exact hP1.elim
theorem pe_lstE {es : List Expr} {mr : M (List D)} (h : PA X es (tA X W mr)) : PE X (.List es pos) (tE X W (lstE mr)) := by
  refine PE.imp (pe_lst h) fun σ H Q ⟨ρ, S, e, hE, hR, hP⟩ => ?_
  refine tM_seq hE hR hP fun ρ1 S1 H1 d1 v1 _ s1 r1 hE1 p1 hP1 => ?_
  split at hP1
  · rename_i hl
    exact ⟨by rw [← Rps.len p1]; exact hl, fun p hp => lstPost r1 hP1 p1 hp⟩
  · exact hP1.elim
theorem pe_dctE : PE X (.Dict [] [] pos) (tE X W dctE) := by
  refine PE.imp pe_dnewK fun σ H Q ⟨ρ, S, e, hE, hR, hP⟩ => fun p hp => ?_
  obtain ⟨r1, s1⟩ := hR.alloc (o := .dK []) (u := .dK []) hp ⟨[], upd_same, rfl, Rps.nil⟩
  refine hP _ _ _ s1 r1 ?_
  simp only [RvD, Rp]
  exact ⟨p, rfl, by rw [List.getElem?_append_right (by rw [hR.len]; exact Nat.le_refl _), hR.len, Nat.sub_self]; rfl⟩
/-! ### subscripts -/
theorem ix_dict (hu : X.A.units + 1 < cLine) : IxR X (fun x y H Q => ∃ a v, x = .ref a ∧ DGet H a y (some v) ∧ Q v H) := by
  intro value slice pins s σ H x y v u Q I rx ry q hs
  obtain ⟨a, w, rfl, g, q⟩ := q
  obtain rfl : v = Value.ref a := rx
  have hT := dict_typeIs I g
  unfold subscriptTail
  refine wpAny_bind ?_
  rw [getitemInPython_of_ne hT.not_modules]
  refine wpAny_bind (wpAny_specialOf hT PySem.F.slot_dict_getitem.lookup ?_)
  have fin : wpAny (model X.prog X.w) X.A (subscripted slice false (.ref a) u) (fun r s₃ => wpAny (model X.prog X.w) X.A (letTemporaryGo value (.ref a) r >>= fun _ => pure r) (EP X pins σ Q) X.xe s₃) X.xe s := by
    rw [hs]
    exact wpAny_operating (d_getItem hu I g ry fun w' s3 I3 rw' => wpAny_bind (wpAny_letTemporaryGo (wpAny_pure ⟨w, H, I3, rw', q⟩)))
  first
    | exact wpAny_pure (wpAny_bind fin)
    | exact wpAny_bind (wpAny_pure (wpAny_bind fin))
    | exact wpAny_bind fin
theorem ixN_len {n : Nat} {i : Int} {j : Nat} (h : ixN n i = some j) : j < n := (ixN_seq h).2.1
theorem atI_of {K : PySem.W.Frag} {ρ : List Addr} {H : Hp} {xs : List D} {vs : List V} {i : Int} {x : D} (t : Rps ρ K H xs vs) (h : atI xs i = some x) : ∃ v, atI vs i = some v ∧ Rp ρ K H x v := by
  unfold atI at h ⊢
  rw [t.len] at h
  cases q : ixN vs.length i with
  | none => rw [q] at h; cases h
  | some j =>
    rw [q] at h
    exact t.get h
theorem ix_of {ρ : List Addr} {S : Sto} {H : Hp} {d1 d2 : D} {v1 v2 : V} {Q : VK} {E : XK} (r : Rel ρ X.K H S) (p1 : Rp ρ X.K H d1 v1) (p2 : Rp ρ X.K H d2 v2) (hP : Post (RvD X.K) X.K X.mg ρ S H (getIx d1 d2 S) Q E) :
    rIx X.K v1 v2 H Q ∨ ∃ a v, v1 = .ref a ∧ DGet H a v2 (some v) ∧ Q v H := by
  cases d1 with
  | tup xs =>
    cases d2 with
    | int i =>
      simp only [Rp] at p1 p2
      obtain ⟨a, vs, rfl, sq, t⟩ := p1
      simp only [getIx] at hP
      cases q : atI xs i with
      | none => rw [q] at hP; exact hP.elim
      | some x =>
        rw [q] at hP
        obtain ⟨v, e, rv⟩ := atI_of t q
        exact .inl (.inr (.inl ⟨a, vs, i, v, rfl, p2, sq, e, hP.ok r rv⟩))
    | _ => exact hP.elim
  | str z =>
    cases d2 with
    | int i =>
      simp only [Rp] at p1 p2
      simp only [getIx] at hP
      split at hP
      · rename_i hl
        cases q : atI z.cps.toList i with
        | none => rw [q] at hP; exact hP.elim
        | some x =>
          rw [q] at hP
          exact .inl (.inr (.inr ⟨z, i, x, p1, p2, hl, q, hP.ok r (by simp only [RvD, Rp])⟩))
      · exact hP.elim
    | _ => exact hP.elim
  | ref m =>
    simp only [Rp] at p1
    obtain ⟨a, rfl, ha⟩ := p1
    cases hm : S[m]? with
    | none =>
      have : getIx (.ref m) d2 S = .no := by cases d2 <;> simp only [getIx, hm]
      rw [this] at hP; exact hP.elim
    | some o =>
      have list : ∀ {xs : List D}, (∃ vs, SqL X.K H a vs ∧ Rps ρ X.K H xs vs) → (∀ i, d2 = .int i → getIx (.ref m) d2 S = match atI xs i with | some v => .ok v S | none => .no) → ((∀ i, d2 ≠ .int i) → getIx (.ref m) d2 S = .no) → rIx X.K (.ref a) v2 H Q := by
        intro xs ⟨vs, sq, t⟩ h1 h2
        cases d2 with
        | int i =>
          simp only [Rp] at p2
          rw [h1 i rfl] at hP
          cases q : atI xs i with
          | none => rw [q] at hP; exact hP.elim
          | some x =>
            rw [q] at hP
            obtain ⟨v, e, rv⟩ := atI_of t q
            exact .inl ⟨a, vs, i, v, rfl, p2, sq, e, hP.ok r rv⟩
        | _ => rw [h2 (fun i z => nomatch z)] at hP; exact hP.elim
      cases o with
      | lst xs => exact .inl (list (r.seq (.inl hm) ha) (fun i e => by subst e; simp only [getIx, hm] <;> rfl) fun ne => by cases d2 with | int i => exact absurd rfl (ne i) | _ => simp only [getIx, hm])
      | ro xs => exact .inl (list (r.seq (.inr hm) ha) (fun i e => by subst e; simp only [getIx, hm] <;> rfl) fun ne => by cases d2 with | int i => exact absurd rfl (ne i) | _ => simp only [getIx, hm])
      | dK kvs =>
        have e1 : getIx (.ref m) d2 S = (match keyOf d2 with | some q => (match lookK q kvs with | some v => .ok v S | none => .no) | none => .no) := by cases d2 <;> simp only [getIx, hm] <;> rfl
        rw [e1] at hP
        cases hk : keyOf d2 with
        | none => rw [hk] at hP; exact hP.elim
        | some k =>
          rw [hk] at hP
          simp only at hP
          obtain ⟨ws, e2, kv⟩ := r.ob m _ a hm ha
          have l := look_of (k := k) kv
          cases hl : lookK k kvs with
          | none => rw [hl] at hP; exact hP.elim
          | some d =>
            rw [hl] at l hP
            obtain ⟨v, z, rv⟩ := l
            exact .inr ⟨a, v, rfl, by rw [key_of hk p2, ← z]; exact DGet.k e2, hP.ok r rv⟩
  | _ => exact hP.elim
theorem pe_ixE (hu : X.A.units + 64 < cLine) (ha : PE X a (tE X W ma)) (hb : PE X b (tE X W mb)) (hs : PlainIx b) : PE X (.Subscript a b pos) (tE X W (ixE ma mb)) :=
  PE.imp (pe_ix (IxR.or ix_seq (ix_dict (by omega))) ha hb hs) fun σ H Q => tOp_of (f := getIx) fun ρ S H d1 d2 v1 v2 Q E r p1 p2 hP => ix_of r p1 p2 hP
/-! ### slices -/
theorem PO.imp {o : Option Expr} {t t' : TO} (h : PO X o t) (i : ∀ σ H Q, t' σ H Q → t σ H Q) : PO X o t' := ⟨fun pins s σ H Q I q => h.run pins s σ H Q I (i σ H Q q)⟩
theorem po_noP : PO X none (tP X W noP) := PO.imp po_none fun σ H Q ⟨ρ, S, e, hE, hR, hP⟩ => hP.ok hR rfl
theorem intOf_some {d : D} {i : Int} (h : intOf d = some i) : d = .int i := by
  cases d with
  | int b => simp only [intOf] at h; cases h; rfl
  | _ => simp [intOf] at h
theorem po_someP (ha : PE X a (tE X W ma)) : PO X (some a) (tP X W (someP ma)) := by
  refine PO.imp (po_some ha) fun σ H Q ⟨ρ, S, e, hE, hR, hP⟩ => ?_
  refine tM_seq hE hR hP fun ρ1 S1 H1 d1 v1 _ s1 r1 hE1 p1 hP1 => ?_
  cases q : intOf d1 with
  | none => rw [q] at hP1; exact hP1.elim
  | some i =>
    rw [q] at hP1
    have := intOf_some q
    subst this
    simp only [Rp] at p1
    exact ⟨i, p1, hP1.ok r1 rfl⟩
theorem cut_of {K : PySem.W.Frag} {ρ : List Addr} {H : Hp} {xs : List D} {vs : List V} (t : Rps ρ K H xs vs) (lo hi : Option Int) : Rps ρ K H (cutD xs lo hi) (cutV vs lo hi) := by
  unfold cutD cutV
  rw [t.len]
  exact Rps.take _ (Rps.drop _ t)
theorem pe_slE {lo hi : Option Expr} {ml mh : M (Option Int)} {p2 : Pos} (ha : PE X a (tE X W ma)) (hl : PO X lo (tP X W ml)) (hh : PO X hi (tP X W mh)) : PE X (.Subscript a (.Slice lo hi none p2) pos) (tE X W (slE ma ml mh)) := by
  refine PE.imp (pe_slice (SlR.or sl_list (SlR.or sl_tup sl_str)) ha hl hh) fun σ H Q ⟨ρ, S, e, hE, hR, hP⟩ => ?_
  refine tM_seq hE hR hP fun ρ1 S1 H1 d1 v1 _ s1 r1 hE1 p1 hP1 => ?_
  refine tM_seq hE1 r1 hP1 fun ρ2 S2 H2 l l' _ s2 r2 hE2 p2 hP2 => ?_
  obtain rfl : l = l' := p2
  refine tM_seq hE2 r2 hP2 fun ρ3 S3 H3 u u' _ s3 r3 hE3 p3 hP3 => ?_
  obtain rfl : u = u' := p3
  have p4 : Rp ρ3 X.K H3 d1 v1 := Rp.keep r2 s3 (Rp.keep r1 s2 p1)
  cases d1 with
  | tup xs =>
    simp only [Rp] at p4
    obtain ⟨q, vs, rfl, sq, t⟩ := p4
    simp only [getSl] at hP3
    split at hP3
    · exact hP3.elim
    · rename_i nf
      exact .inr (.inl ⟨q, vs, rfl, sq, by rw [← t.len]; exact nf, fun p hp => tupPost r3 hP3 (cut_of t l u) hp⟩)
  | str z =>
    simp only [Rp] at p4
    simp only [getSl] at hP3
    split at hP3
    · rename_i hz
      exact .inr (.inr ⟨z, p4, hz, hP3.ok r3 (by simp only [RvD, Rp])⟩)
    · exact hP3.elim
  | ref m =>
    simp only [Rp] at p4
    obtain ⟨q, rfl, hq⟩ := p4
    simp only [getSl] at hP3
    split at hP3
    · rename_i xs hm
      obtain ⟨vs, sq, t⟩ := r3.seq (.inl hm) hq
      exact .inl ⟨q, vs, rfl, sq, fun p hp => lstPost r3 hP3 (cut_of t l u) hp⟩
    · rename_i xs hm
      obtain ⟨vs, sq, t⟩ := r3.seq (.inr hm) hq
      exact .inl ⟨q, vs, rfl, sq, fun p hp => lstPost r3 hP3 (cut_of t l u) hp⟩
    · exact hP3.elim
  | _ => exact hP3.elim
end
end Py
namespace Py
open PySem PySem.Spec L2
/-! ## 11. Calls -/
theorem star_cons {e : Expr} {es : List Expr} {env : Env} (h : hasStar (e :: es) = false) : starEach (e :: es) env = (false, eval e env) :: starEach es env := by
  cases e with
  | Starred x p => simp [hasStar] at h
  | _ => rfl
theorem star_tail {e : Expr} {es : List Expr} (h : hasStar (e :: es) = false) : hasStar es = false := by
  cases e with
  | Starred x p => simp [hasStar] at h
  | _ => exact h
theorem star_plain {env : Env} {pos : Pos} : ∀ {es : List Expr}, hasStar es = false → (backTo pos (starEach es env)).any (·.1) = false
  | [], _ => rfl
  | e :: es, h => by
    rw [star_cons h]
    show (false || (backTo pos (starEach es env)).any (·.1)) = false
    rw [star_plain (star_tail h)]
    rfl
theorem star_all {env : Env} {pos : Pos} : ∀ {es : List Expr}, hasStar es = false → (backTo pos (starEach es env)).all (fun x => !x.1) = true
  | [], _ => rfl
  | e :: es, h => by
    rw [star_cons h]
    show (true && (backTo pos (starEach es env)).all (fun x => !x.1)) = true
    rw [star_all (star_tail h)]
    rfl
/-- a def's promise by its meaning -/
def spM (K : PySem.W.Frag) (mg : Str → Option Value) (m : List D → Sto → R D) : Sp := fun vs H Q E =>
  ∃ ρ S ds, Rel ρ K H S ∧ Rps ρ K H ds vs ∧ Post (RvD K) K mg ρ S H (m ds S) Q E
structure FnHas (X : Cx) (f : Str) (q : Callee) : Prop where
  ex : ∃ (k : Nat) (a : Addr) (fd : FuncData), FnOk X.prog X.w X.K X.mg X.base (L2.CX X.prog X.w) k a fd q.ps (spM X.K X.mg q.run) ∧ Room k X.A ∧ X.mg f = some (.ref a) ∧ PySem.W.keepIn X.K (.ref a) = true ∧
    (∀ us : List Value, us.length = q.ps.length → bindArgs fd ⟨us, []⟩ = pure (q.ps.zip us)) ∧
    (∀ n ks pm, (n, ks, pm) ∈ q.kws → ∀ us ws : List Value, us.length = n → ws.length = ks.length → bindArgs fd ⟨us, ks.zip ws⟩ = pure (q.ps.zip (us ++ pm.map fun i => ws.getD i .none)) ∧ ∀ i ∈ pm, i < ks.length)
section
variable {X : Cx} {W : WX} {f : Str} {q : Callee} {p pos : Pos} {es : List Expr} {mr mk : M (List D)}
theorem run_any {k : Nat} {a : Addr} {fd : FuncData} {ps : List Str} {sp : Sp} {pins : List (Addr × Obj)} {σ : L2.St} {H : Hp} {s : Shared} {Q : VK} {args : List Value} {kw : List (Str × Value)} {us : List Value} {vs : List V}
    (F : FnOk X.prog X.w X.K X.mg X.base (L2.CX X.prog X.w) k a fd ps sp) (hr : Room k X.A) (hb : bindArgs fd ⟨args, kw⟩ = pure (ps.zip us)) (tk : Takes X W) (I : Inv X pins σ H s) (r : Vals vs us) (h : sp vs H Q (fun cls dd H' => W cls dd σ H')) :
    wpAny (model X.prog X.w) X.A (call (.ref a) args kw) (EP X pins σ Q) X.xe s := by
  refine wpAny_call (codeAny_mono (F.run X.A X.stack s H ⟨args, kw⟩ us vs Q (fun cls dd H' => W cls dd σ H') hr I.env0 (.of_eq hb) r h) fun r s' hq => ?_)
  cases r with
  | error e => exact passAt tk σ pins H s e s' I hq
  | ok fl =>
    cases fl with
    | ret u => exact I.after hq
    | next => exact False.elim hq
    | brk => exact False.elim hq
    | cont => exact False.elim hq
/-- f(e, ..), f a def of the text -/
theorem pe_caE (F : FnHas X f q) (tk : Takes X W) (hg : Gl X f) (hdb : (f == ("__debug__" : Str)) = false) (hst : hasStar es = false) (hnil : es = [] → mr = nilA) (ha : PA X es (tA X W mr)) :
    PE X (.Call (.Name f p) es [] pos) (tE X W (caE q.run mr)) := by
  obtain ⟨k, a, fd, F, hr, hm, hk, hb, _⟩ := F.ex
  refine ⟨fun pins s σ H Q I ⟨ρ, S, e, hE, hR, hP⟩ => ?_⟩
  have hP := hP.gc hR
  have ht : tA X W mr σ H fun vs H1 => spM X.K X.mg q.run vs H1 Q (fun cls dd H' => W cls dd σ H') :=
    tM_seq hE hR hP fun ρ1 S1 H1 d1 v1 _ s1 r1 hE1 p1 hP1 => ⟨ρ1, S1, d1, r1, p1, hP1⟩
  refine wpAny_Call_Name_kw (ld_glob I hg hm ?_ hdb)
  cases es with
  | nil =>
    refine PySem.W.callWith_K0 I.kIn hk ?_
    have e0 := hnil rfl
    subst e0
    have h3 : spM X.K X.mg q.run [] H Q (fun cls dd H' => W cls dd σ H') := ⟨ρ, S, [], hR, Rps.nil, hP⟩
    exact run_any F hr (hb [] (F.len _ _ _ _ h3)) tk I .nil h3
  | cons e0 es =>
    refine PySem.W.callWith_K (h₀ := X.base) I.ok.mod.kin hk (thn (ha.run pos pins s σ H _ I ht) fun us s1 ⟨vs, H1, I1, r, h3⟩ => ⟨I1.kIn, ?_⟩) (star_cons hst) (star_plain (star_tail hst))
    exact run_any F hr (hb us (by rw [← r.length]; exact F.len _ _ _ _ h3)) tk I1 r h3
theorem pk_nilA : PK X [] (tA X W nilA) := ⟨fun pos pins s σ H Q I ⟨ρ, S, e, hE, hR, hP⟩ => pk_nil.run pos pins s σ H Q I (hP.ok hR Rps.nil)⟩
theorem pk_consA {ma : M D} {e : Expr} {kws : List Keyword} {nm : Option Str} {kpos : Pos} (ha : PE X e (tE X W ma)) (hr : PK X kws (tA X W mr)) : PK X (⟨nm, e, kpos⟩ :: kws) (tA X W (consA ma mr)) :=
  ⟨fun pos pins s σ H Q I ⟨ρ, S, en, hE, hR, hP⟩ => (pk_cons ha hr).run pos pins s σ H Q I (by
    refine tM_seq hE hR hP fun ρ1 S1 H1 d1 v1 _ s1 r1 hE1 p1 hP1 => ?_
    refine tM_seq hE1 r1 hP1 fun ρ2 S2 H2 d2 v2 _ s2 r2 hE2 p2 hP2 => ?_
    exact hP2.ok r2 (Rps.cons (Rp.keep r1 s2 p1) p2))⟩
theorem kw_names {env : Env} {pos : Pos} : ∀ {kws : List Keyword} {ks : List Str}, kwNames kws = some ks → (backToKw pos (keywordEach kws env)).all (·.1.isSome) = true ∧ (backToKw pos (keywordEach kws env)).filterMap (·.1) = ks ∧ (backToKw pos (keywordEach kws env)).any (·.1.isNone) = false ∧ kws.length = ks.length
  | [], ks, h => by simp only [kwNames] at h; cases h; exact ⟨rfl, rfl, rfl, rfl⟩
  | ⟨nm, v, kp⟩ :: kws, ks, h => by
    cases nm with
    | none => simp [kwNames] at h
    | some k =>
      simp only [kwNames] at h
      obtain ⟨r, hr, rfl⟩ := Option.map_eq_some_iff.mp h
      obtain ⟨h1, h2, h3, h4⟩ := kw_names (env := env) (pos := pos) hr
      refine ⟨?_, ?_, ?_, by simp [h4]⟩
      · show (true && (backToKw pos (keywordEach kws env)).all (·.1.isSome)) = true
        rw [h1]; rfl
      · show k :: (backToKw pos (keywordEach kws env)).filterMap (·.1) = _
        rw [h2]
      · show (false || (backToKw pos (keywordEach kws env)).any (·.1.isNone)) = false
        rw [h3]; rfl
theorem rps_getD {K : PySem.W.Frag} {ρ : List Addr} {H : Hp} {xs : List D} {vs : List V} (h : Rps ρ K H xs vs) {i : Nat} (hi : i < xs.length) : Rp ρ K H (xs.getD i .non) (vs.getD i .non) := by
  obtain ⟨v, e, r⟩ := h.get (i := i) (x := xs[i]) (by simp [hi])
  rw [List.getD_eq_getElem?_getD, List.getD_eq_getElem?_getD, e]
  simp only [hi, List.getElem?_eq_getElem, Option.getD_some]
  exact r
theorem rps_kwG {K : PySem.W.Frag} {ρ : List Addr} {H : Hp} {xs ys : List D} {vs ws : List V} (h : Rps ρ K H xs vs) (g : Rps ρ K H ys ws) : ∀ {pm : List Nat}, (∀ i ∈ pm, i < ys.length) → Rps ρ K H (kwG pm xs ys) (vs ++ pm.map fun i => ws.getD i .non) := by
  intro pm hp
  refine h.append ?_
  induction pm with
  | nil => exact Rps.nil
  | cons i pm ih => exact Rps.cons (rps_getD g (hp i List.mem_cons_self)) (ih fun j hj => hp j (List.mem_cons_of_mem _ hj))
theorem vals_kwG {vs zs : List V} {us ws : List Value} (h : Vals vs us) (g : Vals zs ws) : ∀ {pm : List Nat}, (∀ i ∈ pm, i < zs.length) → Vals (vs ++ pm.map fun i => zs.getD i .non) (us ++ pm.map fun i => ws.getD i .none) := by
  intro pm hp
  refine h.append ?_
  induction pm with
  | nil => exact .nil
  | cons i pm ih =>
    refine .cons ?_ (ih fun j hj => hp j (List.mem_cons_of_mem _ hj))
    have hi := hp i List.mem_cons_self
    obtain ⟨u, e, r⟩ := Vals.get (i := i) (x := zs[i]) g (by simp [hi])
    show RelV (zs.getD i V.non) (ws.getD i Value.none)
    rw [List.getD_eq_getElem?_getD, List.getD_eq_getElem?_getD, e]
    simp only [hi, List.getElem?_eq_getElem, Option.getD_some]
    exact r
/-- f(e, .., k = v, ..) -/
theorem pe_ckE {kws : List Keyword} {ks : List Str} {pm : List Nat} (F : FnHas X f q) (hkw : (es.length, ks, pm) ∈ q.kws) (tk : Takes X W) (hg : Gl X f) (hdb : (f == ("__debug__" : Str)) = false) (hst : hasStar es = false) (hn : kwNames kws = some ks) (hnil : es = [] → mr = nilA)
    (ha : PA X es (tA X W mr)) (hak : PK X kws (tA X W mk)) (hla : ∀ en S d S', mr en S = .ok d S' → d.length = es.length) (hlk : ∀ en S d S', mk en S = .ok d S' → d.length = kws.length) : PE X (.Call (.Name f p) es kws pos) (tE X W (ckE (kwG pm) q.run mr mk)) := by
  obtain ⟨k, a, fd, F, hr, hm, hk, _, hb⟩ := F.ex
  refine ⟨fun pins s σ H Q I ⟨ρ, S, e, hE, hR, hP⟩ => ?_⟩
  have hP := hP.gc hR
  obtain ⟨k1, k2, k3, k4⟩ := kw_names (env := X.env) (pos := pos) hn
  have pmk : ∀ i ∈ pm, i < ks.length := (hb _ _ _ hkw (List.replicate es.length .none) (List.replicate ks.length .none) (by simp) (by simp)).2
  have ht : tA X W mr σ H fun vs H1 => tA X W mk σ H1 fun zs H2 => vs.length = es.length ∧ zs.length = ks.length ∧ spM X.K X.mg q.run (vs ++ pm.map fun i => zs.getD i .non) H2 Q (fun cls dd H' => W cls dd σ H') :=
    tM_seq hE hR hP fun ρ1 S1 H1 d1 v1 e1 s1 r1 hE1 p1 hP1 => tM_seq hE1 r1 hP1 fun ρ2 S2 H2 d2 v2 e2 s2 r2 hE2 p2 hP2 =>
      ⟨by rw [← Rps.len p1]; exact hla _ _ _ _ e1, by rw [← Rps.len p2, hlk _ _ _ _ e2, k4], ρ2, S2, kwG pm d1 d2, r2, rps_kwG (Rps.keep r1 s2 p1) p2 (fun i hi => by rw [hlk _ _ _ _ e2, k4]; exact pmk i hi), hP2⟩
  refine wpAny_Call_Name_kw (ld_glob I hg hm ?_ hdb)
  have fin : ∀ {s2 : Shared} {us ws : List Value} {vs zs : List V} {H2 : Hp}, Inv X pins σ H2 s2 → Vals vs us → Vals zs ws → vs.length = es.length → zs.length = ks.length → spM X.K X.mg q.run (vs ++ pm.map fun i => zs.getD i .non) H2 Q (fun cls dd H' => W cls dd σ H') →
      wpAny (model X.prog X.w) X.A (call (.ref a) us (((backToKw pos (keywordEach kws X.env)).filterMap (·.1)).zip ws)) (EP X pins σ Q) X.xe s2 := by
    intro s2 us ws vs zs H2 I2 r1 r2 l1 l2 h3
    rw [k2]
    exact run_any F hr (hb _ _ _ hkw us ws (by rw [← r1.length]; exact l1) (by rw [← r2.length]; exact l2)).1 tk I2 (vals_kwG r1 r2 (fun i hi => by rw [l2]; exact pmk i hi)) h3
  cases es with
  | nil =>
    refine PySem.W.callWith_KW0 (h₀ := X.base) I.ok.mod.kin hk k1 ?_ (by show (false || _) = false; rw [k3]; rfl)
    have e0 := hnil rfl
    subst e0
    have h2 : tA X W mk σ H fun zs H2 => ([] : List V).length = ([] : List Expr).length ∧ zs.length = ks.length ∧ spM X.K X.mg q.run ([] ++ pm.map fun i => zs.getD i .non) H2 Q (fun cls dd H' => W cls dd σ H') :=
      tM_seq hE hR hP fun ρ2 S2 H2 d2 v2 e2 s2 r2 hE2 p2 hP2 => ⟨rfl, by rw [← Rps.len p2, hlk _ _ _ _ e2, k4], ρ2, S2, kwG pm [] d2, r2, rps_kwG Rps.nil p2 (fun i hi => by rw [hlk _ _ _ _ e2, k4]; exact pmk i hi), hP2⟩
    exact thn (hak.run pos pins s σ H _ I h2) fun ws s2 ⟨zs, H2, I2, rz, l1, l2, h3⟩ => ⟨I2.kIn, fin I2 .nil rz l1 l2 h3⟩
  | cons e0 es =>
    refine PySem.W.callWith_KW (h₀ := X.base) I.ok.mod.kin hk k1 (thn (ha.run pos pins s σ H _ I ht) fun us s1 ⟨vs, H1, I1, r, q1⟩ => thn (hak.run pos pins s1 σ H1 _ I1 q1) fun ws s2 ⟨zs, H2, I2, rz, l1, l2, h3⟩ => ⟨I2.kIn, fin I2 r rz l1 l2 h3⟩) ?_ (star_cons hst)
    rw [star_plain hst, k3]; rfl
end
end Py
namespace Py
open PySem PySem.Spec L2
/-! ## 12. Built-ins -/
section
variable {X : Cx} {W : WX} {f : Str} {p pos : Pos} {e0 : Expr} {es : List Expr} {mr : M (List D)} {a : Expr} {ma : M D}
theorem lenV_of {K : PySem.W.Frag} {ρ : List Addr} {S : Sto} {H : Hp} {d : D} {v : V} {n : Nat} (r : Rel ρ K H S) (p : Rp ρ K H d v) (h : lenD S d = some n) : LenV K v H n ∨ ∃ a kvs, v = .ref a ∧ H a = some (.dK kvs) ∧ n = kvs.length := by
  cases d with
  | str x =>
    simp only [Rp] at p; subst p
    simp only [lenD] at h
    split at h
    · rename_i hl
      simp only [Option.some.injEq] at h
      exact .inl ⟨hl, h.symm⟩
    · cases h
  | tup xs =>
    simp only [Rp] at p
    obtain ⟨q, vs, rfl, sq, t⟩ := p
    simp only [lenD, Option.some.injEq] at h
    exact .inl (.inr ⟨vs, sq, by rw [← h, t.len]⟩)
  | ref m =>
    simp only [Rp] at p
    obtain ⟨q, rfl, hq⟩ := p
    simp only [lenD] at h
    split at h
    · rename_i xs hm
      obtain ⟨vs, sq, t⟩ := r.seq (.inl hm) hq
      simp only [Option.some.injEq] at h
      exact .inl (.inl ⟨vs, sq, by rw [← h, t.len]⟩)
    · rename_i xs hm
      obtain ⟨vs, sq, t⟩ := r.seq (.inr hm) hq
      simp only [Option.some.injEq] at h
      exact .inl (.inl ⟨vs, sq, by rw [← h, t.len]⟩)
    · rename_i kvs hm
      obtain ⟨ws, e, h1, t⟩ := r.ob m _ q hm hq
      simp only [Option.some.injEq] at h
      refine .inr ⟨q, ws, rfl, e, ?_⟩
      rw [← h, ← List.length_map (f := (·.1)), h1, List.length_map]
    · cases h
  | _ => cases h
theorem listAt_of {K : PySem.W.Frag} {ρ : List Addr} {S : Sto} {H : Hp} {d : D} {v : V} {xs : List D} (r : Rel ρ K H S) (p : Rp ρ K H d v) (h : listAt S d = some xs) : ∃ a vs, v = .ref a ∧ SqL K H a vs ∧ Rps ρ K H xs vs := by
  cases d with
  | ref m =>
    simp only [Rp] at p
    obtain ⟨q, rfl, hq⟩ := p
    simp only [listAt] at h
    split at h
    · rename_i ys hm
      cases h
      obtain ⟨vs, sq, t⟩ := r.seq (.inl hm) hq
      exact ⟨q, vs, rfl, sq, t⟩
    · rename_i ys hm
      cases h
      obtain ⟨vs, sq, t⟩ := r.seq (.inr hm) hq
      exact ⟨q, vs, rfl, sq, t⟩
    · cases h
  | _ => cases h
theorem ints_of {K : PySem.W.Frag} {ρ : List Addr} {H : Hp} : ∀ {xs : List D} {vs : List V} {ns : List Int}, intsOf xs = some ns → Rps ρ K H xs vs → vs = ns.map V.int
  | [], vs, ns, h, r => by simp only [intsOf] at h; cases h; simp only [Rps] at r; subst r; rfl
  | .int i :: xs, vs, ns, h, r => by
    simp only [intsOf] at h
    obtain ⟨t, ht, rfl⟩ := Option.map_eq_some_iff.mp h
    simp only [Rps] at r
    obtain ⟨v, w, rfl, h1, h2⟩ := r
    simp only [Rp] at h1
    subst h1
    rw [ints_of ht h2]; rfl
  | .non :: xs, vs, ns, h, r => by simp [intsOf] at h
  | .bl _ :: xs, vs, ns, h, r => by simp [intsOf] at h
  | .str _ :: xs, vs, ns, h, r => by simp [intsOf] at h
  | .tup _ :: xs, vs, ns, h, r => by simp [intsOf] at h
  | .ref _ :: xs, vs, ns, h, r => by simp [intsOf] at h
theorem bls_of {K : PySem.W.Frag} {ρ : List Addr} {H : Hp} : ∀ {xs : List D} {vs : List V} {ns : List Bool}, blsOf xs = some ns → Rps ρ K H xs vs → vs = ns.map V.bl
  | [], vs, ns, h, r => by simp only [blsOf] at h; cases h; simp only [Rps] at r; subst r; rfl
  | .bl i :: xs, vs, ns, h, r => by
    simp only [blsOf] at h
    obtain ⟨t, ht, rfl⟩ := Option.map_eq_some_iff.mp h
    simp only [Rps] at r
    obtain ⟨v, w, rfl, h1, h2⟩ := r
    simp only [Rp] at h1
    subst h1
    rw [bls_of ht h2]; rfl
  | .non :: xs, vs, ns, h, r => by simp [blsOf] at h
  | .int _ :: xs, vs, ns, h, r => by simp [blsOf] at h
  | .str _ :: xs, vs, ns, h, r => by simp [blsOf] at h
  | .tup _ :: xs, vs, ns, h, r => by simp [blsOf] at h
  | .ref _ :: xs, vs, ns, h, r => by simp [blsOf] at h
theorem id_eq : bi.id_ = id := by funext b; rfl
/-- the readings of the built-ins -/
def rBi (X : Cx) (f : Str) : List V → Hp → VK → Prop :=
  if f = "len" then fun xs H Q => (∃ x n, xs = [x] ∧ LenV X.K x H n ∧ Q (.int n) H) ∨ ∃ p kvs, xs = [.ref p] ∧ H p = some (.dK kvs) ∧ Q (.int kvs.length) H
  else if f = "abs" then fun xs H Q => ∃ i, xs = [.int i] ∧ Q (.int (if i < 0 then -i else i)) H
  else if f = "int" then fun xs H Q => (∃ i, xs = [.int i] ∧ Q (.int i) H) ∨ ∃ k, xs = [.bl k] ∧ Q (.int (if k then 1 else 0)) H
  else if f = "bool" then fun xs H Q => (∃ i, xs = [.int i] ∧ Q (.bl (i != 0)) H) ∨ ∃ k, xs = [.bl k] ∧ Q (.bl k) H
  else if f = "max" then fun xs H Q => ∃ i j, xs = [.int i, .int j] ∧ Q (.int (if j > i then j else i)) H
  else if f = "min" then fun xs H Q => ∃ i j, xs = [.int i, .int j] ∧ Q (.int (if j < i then j else i)) H
  else if f = "tuple" then fun xs H Q => ∃ p ys, xs = [.ref p] ∧ ((SqL X.K H p ys ∧ ∀ l, H l = none → Q (.ref l) (upd H l (.tup ys))) ∨ (SqT X.K H p ys ∧ Q (.ref p) H))
  else if f = "list" then fun xs H Q => ∃ p ys, xs = [.ref p] ∧ (SqL X.K H p ys ∨ SqT X.K H p ys) ∧ ∀ l, H l = none → Q (.ref l) (upd H l (.lst ys))
  else if f = "sum" then rSum X.K
  else if f = "all" then rAll X.K
  else if f = "any" then rAny X.K
  else fun _ _ _ => False
theorem bi_of {ρ : List Addr} {S : Sto} {H : Hp} {ds : List D} {vs : List V} {Q : VK} {E : XK} (r : Rel ρ X.K H S) (p : Rps ρ X.K H ds vs) (hP : Post (RvD X.K) X.K X.mg ρ S H (bi f ds S) Q E) : rBi X f vs H Q := by
  have one : ∀ {d : D}, Rps ρ X.K H [d] vs → ∃ v, vs = [v] ∧ Rp ρ X.K H d v := by
    intro d h
    simp only [Rps] at h
    obtain ⟨v, r, rfl, h1, rfl⟩ := h
    exact ⟨v, rfl, h1⟩
  have two : ∀ {d e : D}, Rps ρ X.K H [d, e] vs → ∃ v w, vs = [v, w] ∧ Rp ρ X.K H d v ∧ Rp ρ X.K H e w := by
    intro d e h
    simp only [Rps] at h
    obtain ⟨v, r, rfl, h1, w, r', rfl, h2, rfl⟩ := h
    exact ⟨v, w, rfl, h1, h2⟩
  unfold bi at hP
  unfold rBi
  by_cases c1 : f = "len"
  · rw [if_pos c1] at hP ⊢
    split at hP
    · rename_i d
      obtain ⟨v, rfl, h1⟩ := one p
      cases hl : lenD S d with
      | none => rw [hl] at hP; exact hP.elim
      | some n =>
        rw [hl] at hP
        rcases lenV_of r h1 hl with h | ⟨a, kvs, rfl, h2, rfl⟩
        · exact .inl ⟨v, n, rfl, h, intPost r hP⟩
        · exact .inr ⟨a, kvs, rfl, h2, intPost r hP⟩
    · exact hP.elim
  rw [if_neg c1] at hP ⊢
  by_cases c2 : f = "abs"
  · rw [if_pos c2] at hP ⊢
    split at hP
    · rename_i i
      obtain ⟨v, rfl, h1⟩ := one p
      simp only [Rp] at h1
      exact ⟨i, by rw [h1], intPost r hP⟩
    · exact hP.elim
  rw [if_neg c2] at hP ⊢
  by_cases c3 : f = "int"
  · rw [if_pos c3] at hP ⊢
    split at hP
    · rename_i i
      obtain ⟨v, rfl, h1⟩ := one p
      simp only [Rp] at h1
      exact .inl ⟨i, by rw [h1], intPost r hP⟩
    · rename_i i
      obtain ⟨v, rfl, h1⟩ := one p
      simp only [Rp] at h1
      exact .inr ⟨i, by rw [h1], intPost r hP⟩
    · exact hP.elim
  rw [if_neg c3] at hP ⊢
  by_cases c4 : f = "bool"
  · rw [if_pos c4] at hP ⊢
    split at hP
    · rename_i i
      obtain ⟨v, rfl, h1⟩ := one p
      simp only [Rp] at h1
      exact .inl ⟨i, by rw [h1], blPost r hP⟩
    · rename_i i
      obtain ⟨v, rfl, h1⟩ := one p
      simp only [Rp] at h1
      exact .inr ⟨i, by rw [h1], blPost r hP⟩
    · exact hP.elim
  rw [if_neg c4] at hP ⊢
  by_cases c5 : f = "max"
  · rw [if_pos c5] at hP ⊢
    split at hP
    · rename_i i j
      obtain ⟨v, w, rfl, h1, h2⟩ := two p
      simp only [Rp] at h1 h2
      exact ⟨i, j, by rw [h1, h2], intPost r hP⟩
    · exact hP.elim
  rw [if_neg c5] at hP ⊢
  by_cases c6 : f = "min"
  · rw [if_pos c6] at hP ⊢
    split at hP
    · rename_i i j
      obtain ⟨v, w, rfl, h1, h2⟩ := two p
      simp only [Rp] at h1 h2
      exact ⟨i, j, by rw [h1, h2], intPost r hP⟩
    · exact hP.elim
  rw [if_neg c6] at hP ⊢
  by_cases c7 : f = "tuple"
  · rw [if_pos c7] at hP ⊢
    split at hP
    · rename_i ys
      obtain ⟨v, rfl, h1⟩ := one p
      have h1' := h1
      simp only [Rp] at h1
      obtain ⟨a, ws, rfl, sq, t⟩ := h1
      exact ⟨a, ws, rfl, .inr ⟨sq, hP.ok r h1'⟩⟩
    · rename_i d _
      obtain ⟨v, rfl, h1⟩ := one p
      cases hl : listAt S d with
      | none => rw [hl] at hP; exact hP.elim
      | some ys =>
        rw [hl] at hP
        obtain ⟨a, ws, rfl, sq, t⟩ := listAt_of r h1 hl
        exact ⟨a, ws, rfl, .inl ⟨sq, fun l hl => tupPost r hP t hl⟩⟩
    · exact hP.elim
  rw [if_neg c7] at hP ⊢
  by_cases c8 : f = "list"
  · rw [if_pos c8] at hP ⊢
    split at hP
    · rename_i ys
      obtain ⟨v, rfl, h1⟩ := one p
      simp only [Rp] at h1
      obtain ⟨a, ws, rfl, sq, t⟩ := h1
      exact ⟨a, ws, rfl, .inr sq, fun l hl => lstPost r hP t hl⟩
    · rename_i d _
      obtain ⟨v, rfl, h1⟩ := one p
      cases hl : listAt S d with
      | none => rw [hl] at hP; exact hP.elim
      | some ys =>
        rw [hl] at hP
        obtain ⟨a, ws, rfl, sq, t⟩ := listAt_of r h1 hl
        exact ⟨a, ws, rfl, .inl sq, fun l hl => lstPost r hP t hl⟩
    · exact hP.elim
  rw [if_neg c8] at hP ⊢
  by_cases c9 : f = "sum"
  · rw [if_pos c9] at hP ⊢
    split at hP
    · rename_i d
      obtain ⟨v, rfl, h1⟩ := one p
      cases hl : listAt S d with
      | none => rw [hl] at hP; exact hP.elim
      | some ys =>
        rw [hl] at hP
        simp only [Option.bind_some] at hP
        obtain ⟨a, ws, rfl, sq, t⟩ := listAt_of r h1 hl
        cases hn : intsOf ys with
        | none => rw [hn] at hP; exact hP.elim
        | some ns =>
          rw [hn] at hP
          exact ⟨a, ns, rfl, by rw [← ints_of hn t]; exact sq, intPost r hP⟩
    · exact hP.elim
  rw [if_neg c9] at hP ⊢
  by_cases c10 : f = "all"
  · rw [if_pos c10] at hP ⊢
    split at hP
    · rename_i d
      obtain ⟨v, rfl, h1⟩ := one p
      cases hl : listAt S d with
      | none => rw [hl] at hP; exact hP.elim
      | some ys =>
        rw [hl] at hP
        simp only [Option.bind_some] at hP
        obtain ⟨a, ws, rfl, sq, t⟩ := listAt_of r h1 hl
        cases hn : blsOf ys with
        | none => rw [hn] at hP; exact hP.elim
        | some ns =>
          rw [hn] at hP
          rw [id_eq] at hP
          exact ⟨a, ns, rfl, by rw [← bls_of hn t]; exact sq, blPost r hP⟩
    · exact hP.elim
  rw [if_neg c10] at hP ⊢
  by_cases c11 : f = "any"
  · rw [if_pos c11] at hP ⊢
    split at hP
    · rename_i d
      obtain ⟨v, rfl, h1⟩ := one p
      cases hl : listAt S d with
      | none => rw [hl] at hP; exact hP.elim
      | some ys =>
        rw [hl] at hP
        simp only [Option.bind_some] at hP
        obtain ⟨a, ws, rfl, sq, t⟩ := listAt_of r h1 hl
        cases hn : blsOf ys with
        | none => rw [hn] at hP; exact hP.elim
        | some ns =>
          rw [hn] at hP
          rw [id_eq] at hP
          exact ⟨a, ns, rfl, by rw [← bls_of hn t]; exact sq, blPost r hP⟩
    · exact hP.elim
  rw [if_neg c11] at hP
  exact hP.elim
theorem bt_len : bootBuiltins "len" = some (.builtin "len") := PySem.boot_len
theorem bt_abs : bootBuiltins "abs" = some (.builtin "abs") := by decide +kernel
theorem bt_int : bootBuiltins "int" = some (.type "int") := by decide +kernel
theorem bt_bool : bootBuiltins "bool" = some (.type "bool") := by decide +kernel
theorem bt_max : bootBuiltins "max" = some (.builtin "max") := by decide +kernel
theorem bt_min : bootBuiltins "min" = some (.builtin "min") := by decide +kernel
theorem bt_tuple : bootBuiltins "tuple" = some (.type "tuple") := by decide +kernel
theorem bt_list : bootBuiltins "list" = some (.type "list") := by decide +kernel
theorem bt_sum : bootBuiltins "sum" = some (.builtin "sum") := by decide +kernel
theorem bt_all : bootBuiltins "all" = some (.builtin "all") := by decide +kernel
theorem bt_any : bootBuiltins "any" = some (.builtin "any") := by decide +kernel
theorem bt_str : bootBuiltins "str" = some (.type "str") := by decide +kernel
theorem bt_dict : bootBuiltins "dict" = some (.type "dict") := by decide +kernel
theorem bt_isi : bootBuiltins "isinstance" = some (.builtin "isinstance") := by decide +kernel
theorem callR_cast {f : Value} {r r' : List V → Hp → VK → Prop} (h : CallR X f r) (e : r = r') : CallR X f r' := e ▸ h
/-- how a built-in stands among the names -/
theorem bi_rule (hf : f ∈ bltn) (hc : f ∈ bltnC → X.calm = true) : (∃ i, bootBuiltins f = some (.builtin i) ∧ CallR X (.builtin i) (rBi X f)) ∨ ∃ T, bootBuiltins f = some (.type T) ∧ CallR X (.type T) (rBi X f) := by
  unfold bltn at hf
  simp only [List.mem_cons, List.not_mem_nil, or_false] at hf
  rcases hf with rfl | rfl | rfl | rfl | rfl | rfl | rfl | rfl | rfl | rfl | rfl
  · exact .inl ⟨_, bt_len, callR_cast ((CallR.or call_len call_lenD)) (by unfold rBi; rw [if_pos rfl])⟩
  · exact .inl ⟨_, bt_abs, callR_cast (call_abs) (by unfold rBi; rw [if_neg (by decide +kernel), if_pos rfl])⟩
  · exact .inr ⟨_, bt_int, callR_cast (call_int1) (by unfold rBi; rw [if_neg (by decide +kernel), if_neg (by decide +kernel), if_pos rfl])⟩
  · exact .inr ⟨_, bt_bool, callR_cast (call_bool1) (by unfold rBi; rw [if_neg (by decide +kernel), if_neg (by decide +kernel), if_neg (by decide +kernel), if_pos rfl])⟩
  · exact .inl ⟨_, bt_max, callR_cast ((call_max2 (hc (by decide +kernel)))) (by unfold rBi; (iterate 4 rw [if_neg (by decide +kernel)]); rw [if_pos rfl])⟩
  · exact .inl ⟨_, bt_min, callR_cast ((call_min2 (hc (by decide +kernel)))) (by unfold rBi; (iterate 5 rw [if_neg (by decide +kernel)]); rw [if_pos rfl])⟩
  · exact .inr ⟨_, bt_tuple, callR_cast (call_tuple_of) (by unfold rBi; (iterate 6 rw [if_neg (by decide +kernel)]); rw [if_pos rfl])⟩
  · exact .inr ⟨_, bt_list, callR_cast (call_list_of) (by unfold rBi; (iterate 7 rw [if_neg (by decide +kernel)]); rw [if_pos rfl])⟩
  · exact .inl ⟨_, bt_sum, callR_cast ((cr_sum (hc (by decide +kernel)))) (by unfold rBi; (iterate 8 rw [if_neg (by decide +kernel)]); rw [if_pos rfl])⟩
  · exact .inl ⟨_, bt_all, callR_cast ((cr_all (hc (by decide +kernel)))) (by unfold rBi; (iterate 9 rw [if_neg (by decide +kernel)]); rw [if_pos rfl])⟩
  · exact .inl ⟨_, bt_any, callR_cast ((cr_any (hc (by decide +kernel)))) (by unfold rBi; (iterate 10 rw [if_neg (by decide +kernel)]); rw [if_pos rfl])⟩
theorem nameOk_d {x : Str} (h : nameOk x = true) : (x == ("__debug__" : Str)) = false ∧ (x == ("__classdict__" : Str)) = false ∧ x ≠ "__name__" := by
  unfold nameOk at h
  simp only [Bool.and_eq_true, Bool.not_eq_true'] at h
  refine ⟨h.1.1, h.1.2, fun e => ?_⟩
  have := h.2
  rw [e] at this
  revert this
  decide +kernel
theorem pe_biE (hf : f ∈ bltn) (hc : f ∈ bltnC → X.calm = true) (hn : nameOk f = true) (hg : Gl X f) (hm : X.mg f = none) (hst : hasStar (e0 :: es) = false) (ha : PA X (e0 :: es) (tA X W mr)) : PE X (.Call (.Name f p) (e0 :: es) [] pos) (tE X W (biE f mr)) := by
  obtain ⟨n1, n2, n3⟩ := nameOk_d hn
  have ht : ∀ σ H Q, tE X W (biE f mr) σ H Q → tCB (rBi X f) (tA X W mr) σ H Q := fun σ H Q ⟨ρ, S, e, hE, hR, hP⟩ =>
    tM_seq hE hR (hP.gc hR) fun ρ1 S1 H1 d1 v1 _ s1 r1 hE1 p1 hP1 => bi_of r1 p1 hP1
  rcases bi_rule (X := X) hf hc with ⟨i, hv, hr⟩ | ⟨T, hv, hr⟩
  · exact PE.imp (pe_callB hr hg hm hv ha n3 n1 (star_cons hst) (star_plain (star_tail hst))) ht
  · exact PE.imp (pe_callTy hr hg hm hv ha n3 n1 (star_cons hst) (star_plain (star_tail hst))) ht
/-! ### isinstance -/
theorem tyX_tup {K : PySem.W.Frag} {H : Hp} {a : Addr} {vs : List V} (h : SqT K H a vs) : TyX K H (.ref a) (.type "tuple") := by
  rcases h with (h | ⟨o, h⟩) | ⟨o, its, n, h, c, _⟩
  · exact .base (.tup h)
  · exact .fTuple h
  · exact .kTuple h c
theorem tyX_of {K : PySem.W.Frag} {ρ : List Addr} {S : Sto} {H : Hp} {d : D} {v : V} {t : String} (r : Rel ρ K H S) (p : Rp ρ K H d v) (h : tyS S d = some t) : TyX K H v (.type t) := by
  cases d with
  | non => simp only [Rp] at p; subst p; simp only [tyS] at h; cases h; exact .base .non
  | bl b => simp only [Rp] at p; subst p; simp only [tyS] at h; cases h; exact .base (.bl b)
  | int b => simp only [Rp] at p; subst p; simp only [tyS] at h; cases h; exact .base (.int b)
  | str b => simp only [Rp] at p; subst p; simp only [tyS] at h; cases h; exact .base (.str b)
  | tup xs =>
    simp only [Rp] at p
    obtain ⟨a, vs, rfl, sq, _⟩ := p
    simp only [tyS] at h; cases h
    exact tyX_tup sq
  | ref m =>
    simp only [Rp] at p
    obtain ⟨a, rfl, ha⟩ := p
    simp only [tyS] at h
    split at h
    · rename_i xs hm
      cases h
      obtain ⟨vs, e, _⟩ := r.lst hm ha
      exact .base (.lst e)
    · rename_i kvs hm
      cases h
      obtain ⟨ws, e, _⟩ := r.ob m _ a hm ha
      exact .base (.dK e)
    · cases h
theorem tyS_in {S : Sto} {d : D} {t : String} (h : tyS S d = some t) : t ∈ ["NoneType", "bool", "int", "str", "tuple", "list", "dict"] := by
  cases d with
  | ref m =>
    simp only [tyS] at h
    split at h <;> cases h <;> decide
  | _ => simp only [tyS] at h; cases h; decide
theorem isI_kit {T : Str} (hT : T ∈ typs) : ∃ t : String, bootBuiltins T = some (.type t) ∧ ∀ s ∈ ["NoneType", "bool", "int", "str", "tuple", "list", "dict"], isI s T = kitB s t := by
  unfold typs at hT
  simp only [List.mem_cons, List.not_mem_nil, or_false] at hT
  rcases hT with rfl | rfl | rfl | rfl | rfl | rfl
  · exact ⟨_, bt_int, by decide +kernel⟩
  · exact ⟨_, bt_bool, by decide +kernel⟩
  · exact ⟨_, bt_str, by decide +kernel⟩
  · exact ⟨_, bt_tuple, by decide +kernel⟩
  · exact ⟨_, bt_list, by decide +kernel⟩
  · exact ⟨_, bt_dict, by decide +kernel⟩
theorem pe_isE {T : Str} {pT : Pos} (hT : T ∈ typs) (hnT : nameOk T = true) (hgT : Gl X T) (hmT : X.mg T = none) (hg : Gl X "isinstance") (hm : X.mg "isinstance" = none) (hst : hasStar [a] = false) (ha : PE X a (tE X W ma)) :
    PE X (.Call (.Name "isinstance" p) [a, .Name T pT] [] pos) (tE X W (isE T ma)) := by
  obtain ⟨t, hv, hk⟩ := isI_kit hT
  obtain ⟨n1, n2, n3⟩ := nameOk_d hnT
  have hs : starEach [a, .Name T pT] X.env = (false, eval a X.env) :: starEach [.Name T pT] X.env := by
    cases a with
    | Starred x q => simp [hasStar] at hst
    | _ => rfl
  refine PE.imp (pe_callB call_isi hg hm bt_isi (pa_cons ha (pa_cons (pe_bltn (v := .ty t) hgT hmT hv rfl n3 n1) pa_nil rfl) hs) (by decide) (by decide) hs rfl) fun σ H Q ⟨ρ, S, e, hE, hR, hP⟩ => ?_
  refine tM_seq hE hR hP fun ρ1 S1 H1 d1 v1 _ s1 r1 hE1 p1 hP1 => ?_
  cases q : tyS S1 d1 with
  | none =>
    simp only [isInst, q] at hP1
    exact hP1.elim
  | some s =>
    simp only [isInst, q] at hP1
    rw [hk s (tyS_in q)] at hP1
    cases z : kitB s t with
    | none => rw [z] at hP1; exact hP1.elim
    | some b =>
      rw [z] at hP1
      exact ⟨v1, .ty t, .type s, .type t, b, rfl, .ty t, tyX_of r1 p1 q, kit_ty z, blPost r1 hP1⟩
/-! ### methods -/
def rMth (m : Str) : V → List V → Hp → VK → Prop := if m = "append" then rAppend else fun x xs H Q => rPop x xs H Q ∨ rPopAt x xs H Q
theorem setPost {K : PySem.W.Frag} {mg : Str → Option Value} {ρ : List Addr} {S : Sto} {H : Hp} {i : Nat} {q : Addr} {xs ys : List D} {vs : List V} {d : D} {v : V} {Q : VK} {E : XK} (r : Rel ρ K H S) (hq : ρ[i]? = some q) (hi : S[i]? = some (.lst xs))
    (h : Post (RvD K) K mg ρ S H (.ok d (S.set i (.lst ys))) Q E) (t : Rps ρ K H ys vs) (rv : Rp ρ K H d v) : Q v (upd H q (.lst vs)) := by
  obtain ⟨r1, s1⟩ := r.write (o' := .lst ys) (u := .lst vs) hq hi rfl rfl trivial fun st => ⟨vs, upd_same, Rps.keep r st t⟩
  exact h ρ _ _ s1 r1 (Rp.keep r s1 rv)
theorem mth_of {m : Str} (hm : m ∈ mths) {ρ : List Addr} {S : Sto} {H : Hp} {o : D} {v : V} {ds : List D} {vs : List V} {Q : VK} {E : XK} (r : Rel ρ X.K H S) (po : Rp ρ X.K H o v) (p : Rps ρ X.K H ds vs) (hP : Post (RvD X.K) X.K X.mg ρ S H (mth m o ds S) Q E) : rMth m v vs H Q := by
  unfold mths at hm
  simp only [List.mem_cons, List.not_mem_nil, or_false] at hm
  rcases hm with rfl | rfl
  · unfold mth at hP
    unfold rMth
    rw [if_pos rfl] at hP ⊢
    split at hP
    · rename_i i x
      simp only [Rp] at po
      obtain ⟨q, rfl, hq⟩ := po
      simp only [Rps] at p
      obtain ⟨w, r', rfl, h1, rfl⟩ := p
      split at hP
      · rename_i ys hy
        split at hP
        · rename_i hl
          obtain ⟨us, e, t⟩ := r.lst hy hq
          exact ⟨q, us, w, rfl, rfl, e, by rw [← t.len]; exact hl, setPost r hq hy hP (t.append (Rps.cons h1 Rps.nil)) (by simp only [Rp])⟩
        · exact hP.elim
      · exact hP.elim
    · exact hP.elim
  · unfold mth at hP
    unfold rMth
    rw [if_neg (by decide +kernel), if_pos rfl] at hP
    rw [if_neg (by decide +kernel)]
    split at hP
    · rename_i i
      simp only [Rp] at po
      obtain ⟨q, rfl, hq⟩ := po
      simp only [Rps] at p
      subst p
      split at hP
      · rename_i ys hy
        obtain ⟨us, e, t⟩ := r.lst hy hq
        split at hP
        · rename_i y h1
          obtain ⟨w, h2, rv⟩ := t.get h1
          exact .inl ⟨q, us, w, rfl, rfl, e, by rw [← t.len]; exact h2, setPost r hq hy hP t.dropLast rv⟩
        · exact hP.elim
      · exact hP.elim
    · rename_i i k
      simp only [Rp] at po
      obtain ⟨q, rfl, hq⟩ := po
      simp only [Rps] at p
      obtain ⟨w, r', rfl, h1, rfl⟩ := p
      simp only [Rp] at h1
      split at hP
      · rename_i ys hy
        obtain ⟨us, e, t⟩ := r.lst hy hq
        split at hP
        · rename_i hb
          split at hP
          · rename_i n hn
            split at hP
            · rename_i y h2
              obtain ⟨w2, h3, rv⟩ := t.get h2
              exact .inr ⟨q, us, k, n, w2, rfl, by rw [h1], e, hb.1, hb.2, by rw [← t.len]; exact hn, h3, setPost r hq hy hP (t.erase n) rv⟩
            · exact hP.elim
          · exact hP.elim
        · exact hP.elim
      · exact hP.elim
    · exact hP.elim
end
section
variable {X : Cx} {W : WX} {o : Expr} {mo : M D} {m : Str} {apos pos : Pos} {es : List Expr} {mr : M (List D)}
theorem mt_pops : MtR X "list.pop" (fun x xs H Q => rPop x xs H Q ∨ rPopAt x xs H Q) := MtR.or mt_pop mt_popAt
theorem rcv_ty {ρ : List Addr} {S : Sto} {H : Hp} {d : D} {v : V} (r : Rel ρ X.K H S) (p : Rp ρ X.K H d v) (h : rcv S d = true) : tyV X.K "list" v H := by
  cases d with
  | ref n =>
    simp only [Rp] at p
    obtain ⟨a, rfl, ha⟩ := p
    simp only [rcv] at h
    split at h
    · rename_i xs hm
      obtain ⟨vs, e, _⟩ := r.lst hm ha
      exact .inl ⟨rfl, vs, SqL.of e⟩
    · cases h
  | _ => simp [rcv] at h
theorem pe_meE (hm : m ∈ mths) (hbase : attributeBase o m X.env (eval o X.env) = eval o X.env) (hline : (apos.endLine == pos.line) = true) (hst : hasStar es = false) (hlen : es.length < 29) (hnil : es = [] → mr = nilA) (ho : PE X o (tE X W mo)) (ha : PA X es (tA X W mr)) :
    PE X (.Call (.Attribute o m apos) es [] pos) (tE X W (meE m mo mr)) := by
  have rule : (∃ id, MtR X id (rMth m) ∧ Slot "list" m id ∧ typeOf (.builtin id) = pure (.type "method_descriptor")) := by
    have hm' := hm
    unfold mths at hm'
    simp only [List.mem_cons, List.not_mem_nil, or_false] at hm'
    rcases hm' with rfl | rfl
    · exact ⟨"list.append", by unfold rMth; rw [if_pos rfl]; exact mt_append, PySem.F.slot_list_append, PySem.F.type_list_append⟩
    · exact ⟨"list.pop", by unfold rMth; rw [if_neg (by decide +kernel)]; exact mt_pops, PySem.F.slot_list_pop, PySem.F.type_list_pop⟩
  obtain ⟨id, hr, sl, ty⟩ := rule
  cases es with
  | nil =>
    have e0 := hnil rfl
    subst e0
    refine PE.imp (pe_bm0 PySem.F.plainAttrs_list sl ty hr ho hbase hline) fun σ H Q ⟨ρ, S, e, hE, hR, hP⟩ => ?_
    refine tM_seq hE hR (hP.gc hR) fun ρ1 S1 H1 d1 v1 _ s1 r1 hE1 p1 hP1 => ?_
    cases hc : rcv S1 d1 with
    | false => rw [hc] at hP1; exact hP1.elim
    | true =>
      rw [hc] at hP1
      exact ⟨rcv_ty r1 p1 hc, mth_of hm r1 p1 Rps.nil hP1⟩
  | cons e0 es =>
    refine PE.imp (pe_bm PySem.F.plainAttrs_list sl ty hr ho ha hbase ?_ hline (star_cons hst) (star_plain (star_tail hst))) fun σ H Q ⟨ρ, S, e, hE, hR, hP⟩ => ?_
    · rw [star_all hst]
      show (true && true && decide ((e0 :: es).length + 0 + 0 < 30)) = true
      simp only [Bool.and_self, Bool.true_and, decide_eq_true_eq]
      omega
    · refine tM_seq hE hR (hP.gc hR) fun ρ1 S1 H1 d1 v1 _ s1 r1 hE1 p1 hP1 => ?_
      cases hc : rcv S1 d1 with
      | false => rw [hc] at hP1; exact hP1.elim
      | true =>
        rw [hc] at hP1
        refine ⟨rcv_ty r1 p1 hc, ?_⟩
        refine tM_seq hE1 r1 hP1 fun ρ2 S2 H2 d2 v2 _ s2 r2 hE2 p2 hP2 => ?_
        exact mth_of hm r2 (Rp.keep r1 s2 p1) p2 hP2
end
end Py
namespace Py
open PySem PySem.Spec L2
/-! ## 13. Targets -/
def gM (K : PySem.W.Frag) (t : Tgt) : TG := fun v σ H Q => ∃ ρ S e d e1, EnvR ρ K H e σ ∧ Rel ρ K H S ∧ Rp ρ K H d v ∧ bindT t d e = some e1 ∧
  ∀ σ', EnvR ρ K H e1 σ' → σ'.length = σ.length → (∀ j, j ∉ slotsT t → σ'[j]? = σ[j]?) → Q σ' H
def gMs (K : PySem.W.Frag) (ts : List Tgt) : TGs := fun vs σ H Q => ∃ ρ S e ds e1, EnvR ρ K H e σ ∧ Rel ρ K H S ∧ Rps ρ K H ds vs ∧ bindTs ts ds e = some e1 ∧
  ∀ σ', EnvR ρ K H e1 σ' → σ'.length = σ.length → (∀ j, j ∉ slotsTs ts → σ'[j]? = σ[j]?) → Q σ' H
theorem PG.imp {X : Cx} {tg : Expr} {t t' : TG} (h : PG X tg t) (i : ∀ v σ H Q, t' v σ H Q → t v σ H Q) : PG X tg t' := ⟨fun pins s σ H v u Q I r q => h.run pins s σ H v u Q I r (i v σ H Q q)⟩
theorem PGs.imp {X : Cx} {tg : List Expr} {t t' : TGs} (h : PGs X tg t) (i : ∀ v σ H Q, t' v σ H Q → t v σ H Q) : PGs X tg t' := ⟨fun pins s σ H v u Q I r q => h.run pins s σ H v u Q I r (i v σ H Q q)⟩
theorem ixIn_get : ∀ {N : List Str} {x : Str} {n i : Nat}, ixIn N x n = some i → n ≤ i ∧ N[i - n]? = some x
  | [], x, n, i, h => by simp [ixIn] at h
  | y :: N, x, n, i, h => by
    simp only [ixIn] at h
    split at h
    · rename_i e
      cases h
      subst e
      exact ⟨Nat.le_refl _, by simp⟩
    · obtain ⟨h1, h2⟩ := ixIn_get h
      refine ⟨by omega, ?_⟩
      have : i - n = (i - (n + 1)) + 1 := by omega
      rw [this, List.getElem?_cons_succ]
      exact h2
theorem isLoc_eq {k : Option NameKind} (h : isLoc k = true) : k = some .local := by
  cases k with
  | none => cases h
  | some k => cases k <;> first | rfl | cases h
theorem isGlob_eq {k : Option NameKind} (h : isGlob k = true) : k = some .globalImplicit := by
  cases k with
  | none => cases h
  | some k => cases k <;> first | rfl | cases h
theorem isVis_eq {sc : Scope} {x : Str} (h : isVis (sc.names.lookup x) = true) : Vis sc x := by
  unfold Vis
  cases e : sc.names.lookup x with
  | none => rw [e] at h; cases h
  | some k =>
    rw [e] at h
    cases k with
    | «local» => exact .inl rfl
    | cell => exact .inr (.inl rfl)
    | free => exact .inr (.inr rfl)
    | globalExplicit => cases h
    | globalImplicit => cases h
/-- the names and the scope -/
structure NmOk (X : Cx) (c : Cfg) : Prop where
  N : X.N = c.N
  sc : X.env.scope = c.sc
  nd : c.N.Nodup
theorem lslot_of {X : Cx} {c : Cfg} (h : NmOk X c) {x : Str} {i : Nat} (e : c.lslot x = some i) : X.N[i]? = some x ∧ X.env.scope.names.lookup x = some .local ∧ nameOk x = true := by
  unfold Cfg.lslot at e
  split at e
  · rename_i q
    simp only [Bool.and_eq_true] at q
    have := ixIn_get e
    exact ⟨by rw [h.N]; simpa using this.2, by rw [h.sc]; exact isLoc_eq q.1, q.2⟩
  · cases e
theorem slot_of {X : Cx} {c : Cfg} (h : NmOk X c) {x : Str} {i : Nat} (e : c.slot x = some i) : X.N[i]? = some x ∧ Vis X.env.scope x ∧ nameOk x = true := by
  unfold Cfg.slot at e
  split at e
  · rename_i q
    simp only [Bool.and_eq_true] at q
    have := ixIn_get e
    exact ⟨by rw [h.N]; simpa using this.2, by rw [h.sc]; exact isVis_eq q.1, q.2⟩
  · cases e
theorem glob_of {X : Cx} {c : Cfg} (h : NmOk X c) {x : Str} (e : c.glob x = true) : Gl X x ∧ nameOk x = true := by
  unfold Cfg.glob at e
  simp only [Bool.and_eq_true] at e
  refine ⟨?_, e.2⟩
  show X.env.scope.names.lookup x = some .globalImplicit
  rw [h.sc]
  exact isGlob_eq e.1
def notStar : Expr → Bool
  | .Starred _ _ => false
  | _ => true
theorem each_cons {X : Cx} {e : Expr} {es : List Expr} (h : notStar e = true) : assignEach (e :: es) X.env = (false, assign e X.env) :: assignEach es X.env := by
  cases e <;> first | rfl | cases h
theorem pg_tg {X : Cx} {c : Cfg} {own : Bool} (h : NmOk X c) (hc : X.calm = true) : ∀ (n : Nat) (tg : Expr) (t : Tgt), denTg c own n tg = some t → PG X tg (gM X.K t) := by
  intro n
  induction n with
  | zero => intro tg t e; simp [denTg] at e
  | succ n ih =>
    intro tg t e
    cases tg with
    | Name x p =>
      simp only [denTg] at e
      obtain ⟨i, hi, rfl⟩ := Option.map_eq_some_iff.mp e
      obtain ⟨h1, h2, h3⟩ := lslot_of h hi
      refine PG.imp (pg_name (by rw [h.N]; exact h.nd) h1 (.inl h2) (.inr h2)) fun v σ H Q ⟨ρ, S, e, d, e1, hE, hR, rp, hb, k⟩ => ?_
      simp only [bindT] at hb
      cases hb
      refine k _ (hE.set i rp) (by rw [List.length_set]) fun j hj => ?_
      simp only [slotsT, List.mem_singleton] at hj
      rw [List.getElem?_set_ne (fun z => hj z.symm)]
    | Tuple es k p =>
      simp only [denTg] at e
      obtain ⟨ts, hts, rfl⟩ := Option.map_eq_some_iff.mp e
      have all : ∀ {es : List Expr} {ts : List Tgt}, Paired (fun e t => denTg c own n e = some t) es ts → PGs X es (gMs X.K ts) ∧ (assignEach es X.env).length = ts.length ∧ (assignEach es X.env).findIdx? (·.1) = none := by
        intro es ts pr
        induction pr with
        | nil =>
          refine ⟨PGs.imp pgs_nil fun vs σ H Q ⟨ρ, S, e, ds, e1, hE, hR, rp, hb, k⟩ => ?_, rfl, rfl⟩
          cases ds with
          | nil =>
            simp only [bindTs] at hb
            cases hb
            simp only [Rps] at rp
            exact ⟨rp, k _ hE rfl fun _ _ => rfl⟩
          | cons d ds => simp [bindTs] at hb
        | @cons e0 t0 es0 ts0 h0 pr ih2 =>
          obtain ⟨q1, q2, q3⟩ := ih2
          have ns : notStar e0 = true := by
            cases e0 with
            | Starred x p => cases n <;> simp [denTg] at h0
            | _ => rfl
          refine ⟨PGs.imp (pgs_cons (ih e0 t0 h0) q1 (by rw [each_cons ns]; rfl)) fun vs σ H Q ⟨ρ, S, e, ds, e1, hE, hR, rp, hb, k⟩ => ?_, by rw [each_cons ns, List.length_cons, q2, List.length_cons], by
            rw [each_cons ns, List.findIdx?_cons, q3]; rfl⟩
          cases ds with
          | nil => simp [bindTs] at hb
          | cons d ds =>
            simp only [bindTs] at hb
            simp only [Rps] at rp
            obtain ⟨v, r, rfl, h1, h2⟩ := rp
            cases hb1 : bindT t0 d e with
            | none => rw [hb1] at hb; cases hb
            | some e2 =>
              rw [hb1] at hb
              refine ⟨v, r, rfl, ρ, S, e, d, e2, hE, hR, h1, hb1, fun σ1 hE1 l1 k1 => ?_⟩
              refine ⟨ρ, S, e2, ds, e1, hE1, hR, h2, hb, fun σ2 hE2 l2 k2 => k σ2 hE2 (l2.trans l1) fun j hj => ?_⟩
              simp only [slotsTs, List.mem_append, not_or] at hj
              rw [k2 j hj.2, k1 j hj.1]
      obtain ⟨q1, q2, q3⟩ := all (mapM_some hts)
      refine PG.imp (pg_tup hc q1 q2 q3) fun v σ H Q ⟨ρ, S, e, d, e1, hE, hR, rp, hb, k⟩ => ?_
      cases d with
      | tup xs =>
        simp only [bindT] at hb
        simp only [Rp] at rp
        obtain ⟨a, vs, rfl, sq, t⟩ := rp
        refine ⟨a, vs, rfl, sq, ?_, ρ, S, e, xs, e1, hE, hR, t, hb, fun σ' h1 h2 h3 => k σ' h1 h2 (by simpa only [slotsT] using h3)⟩
        rw [← t.len]
        have lens : ∀ {ts : List Tgt} {xs : List D} {e e1 : En}, bindTs ts xs e = some e1 → xs.length = ts.length := by
          intro ts
          induction ts with
          | nil => intro xs e e1 h; cases xs with | nil => rfl | cons _ _ => simp [bindTs] at h
          | cons t ts ih3 =>
            intro xs e e1 h
            cases xs with
            | nil => simp [bindTs] at h
            | cons x xs =>
              simp only [bindTs] at h
              cases hb1 : bindT t x e with
              | none => rw [hb1] at h; cases h
              | some e2 => rw [hb1] at h; simp [ih3 h]
        exact lens hb
      | _ => simp [bindT] at hb
    | _ => simp [denTg] at e
/-! ## 14. What is walked -/
/-- J walks the items of j from the state (ρ, S, H) on, while its guard stands -/
def WalkI (K : PySem.W.Frag) (ρ : List Addr) (S : Sto) (H : Hp) (j : Its) (J : It) : Prop :=
  ∃ (G : Hp → Prop) (Y : Nat → Hp → V → Hp → Prop), Walk J j.xs.length G Y ∧
    (∀ ρ2 S2 H2, Stp ρ S H ρ2 S2 H2 → Rel ρ2 K H2 S2 → guardOk j.g S2 → G H2) ∧
    (∀ i H2 x H3 ρ2 S2 d, j.xs[i]? = some d → Stp ρ S H ρ2 S2 H2 → Rel ρ2 K H2 S2 → guardOk j.g S2 → Y i H2 x H3 → Rel ρ2 K H3 S2 ∧ Stp ρ2 S2 H2 ρ2 S2 H3 ∧ Rp ρ2 K H3 d x ∧ (∀ a o, H2 a = some o → H3 a = some o))
def tI (X : Cx) (W : WX) (m : M Its) : TI := fun σ H R => ∃ ρ S e, EnvR ρ X.K H e σ ∧ Rel ρ X.K H S ∧ match m e S with
  | .ok j S' => ∀ ρ' H' J, Stp ρ S H ρ' S' H' → Rel ρ' X.K H' S' → WalkI X.K ρ' S' H' j J → R J H'
  | .exc x S' => ∀ ρ' H' cls dd, Stp ρ S H ρ' S' H' → Rel ρ' X.K H' S' → ExR ρ' X.K H' X.mg x cls dd → W cls dd σ H'
  | .no => False
theorem PI.imp {X : Cx} {tg e : Expr} {t t' : TI} (h : PI X tg e t) (i : ∀ σ H R, t' σ H R → t σ H R) : PI X tg e t' := ⟨fun pins s σ H R I q => h.run pins s σ H R I (i σ H R q)⟩
theorem PI.or {X : Cx} {tg e : Expr} {t t' : TI} (h : PI X tg e t) (h' : PI X tg e t') : PI X tg e (fun σ H R => t σ H R ∨ t' σ H R) := ⟨fun pins s σ H R I q => q.elim (h.run pins s σ H R I) (h'.run pins s σ H R I)⟩
theorem pi_no {X : Cx} {W : WX} {tg e : Expr} : PI X tg e (tI X W noE) := ⟨fun pins s σ H R I ⟨_, _, _, _, _, h⟩ => h.elim⟩
section
variable {X : Cx} {W : WX} {tg e : Expr} {K : PySem.W.Frag} {ρ : List Addr} {S : Sto} {H : Hp}
theorem sqL_inj {a : Addr} {n : Nat} : Walk (Itl K a) n (fun H => ∃ vs, SqL K H a vs ∧ vs.length = n) (fun i H x H' => H' = H ∧ ∀ vs, SqL K H a vs → vs[i]? = some x) := by
  refine ⟨fun i H hi ⟨vs, q, l⟩ => ?_, fun H ⟨vs, q, l⟩ => ⟨vs, q, Nat.le_of_eq l⟩, fun i H x H' hi g y => y⟩
  exact ⟨vs, vs[i]'(by omega), q, by simp [l, hi]⟩
theorem walk_lst {r : Nat} {a : Addr} {xs : List D} {o : Ob} (ha : ρ[r]? = some a) (ho : o = .lst xs ∨ o = .ro xs) : WalkI K ρ S H ⟨xs, [(r, o)]⟩ (Itl K a) := by
  have seq : ∀ ρ2 S2 H2, Stp ρ S H ρ2 S2 H2 → Rel ρ2 K H2 S2 → guardOk [(r, o)] S2 → ∃ vs, SqL K H2 a vs ∧ Rps ρ2 K H2 xs vs := fun ρ2 S2 H2 st r2 g => by
    have q := g (r, o) (List.mem_singleton.mpr rfl)
    refine r2.seq ?_ (pre_get st.pre ha)
    rcases ho with rfl | rfl
    · exact .inl q
    · exact .inr q
  refine ⟨_, _, sqL_inj (n := xs.length), fun ρ2 S2 H2 st r2 g => ?_, fun i H2 x H3 ρ2 S2 d hd st r2 g y => ?_⟩
  · obtain ⟨vs, sq, t⟩ := seq ρ2 S2 H2 st r2 g
    exact ⟨vs, sq, t.len.symm⟩
  · obtain ⟨rfl, y⟩ := y
    obtain ⟨vs, sq, t⟩ := seq ρ2 S2 _ st r2 g
    obtain ⟨v, e, rv⟩ := t.get hd
    have := y vs sq
    rw [e] at this; cases this
    exact ⟨r2, Stp.refl _ _ _, rv, fun _ _ h => h⟩
theorem walk_tupI {a : Addr} {xs : List D} {vs : List V} (r0 : Rel ρ K H S) (sq : SqT K H a vs) (t : Rps ρ K H xs vs) : WalkI K ρ S H ⟨xs, []⟩ (Itt K a) := by
  refine ⟨_, _, (by rw [t.len]; exact walk_tup (xs := vs)), fun ρ2 S2 H2 st r2 g => sqT_keep r0 st sq, fun i H2 x H3 ρ2 S2 d hd st r2 g y => ?_⟩
  obtain ⟨rfl, y⟩ := y
  obtain ⟨v, e, rv⟩ := (Rps.keep r0 st t).get hd
  rw [e] at y; cases y
  exact ⟨r2, Stp.refl _ _ _, rv, fun _ _ h => h⟩
theorem walk_strI {z : Str} : WalkI K ρ S H ⟨z.cps.toList.map fun c => .str ⟨#[c]⟩, []⟩ (L2.Its z) := by
  refine ⟨_, _, (by rw [List.length_map, Array.length_toList]; exact walk_str (z := z)), fun _ _ _ _ _ _ => trivial, fun i H2 x H3 ρ2 S2 d hd st r2 g y => ?_⟩
  obtain ⟨rfl, c, hc, rfl⟩ := y
  rw [List.getElem?_map, Array.getElem?_toList, hc] at hd
  cases hd
  exact ⟨r2, Stp.refl _ _ _, by simp only [Rp], fun _ _ h => h⟩
theorem walk_rngI {lo : Int} {n : Nat} : WalkI K ρ S H ⟨rangeL lo n, []⟩ (Itr lo n) := by
  refine ⟨_, _, (by unfold rangeL; rw [List.length_map, List.length_range]; exact walk_range (lo := lo) (n := n)), fun _ _ _ _ _ _ => trivial, fun i H2 x H3 ρ2 S2 d hd st r2 g y => ?_⟩
  obtain ⟨rfl, rfl⟩ := y
  unfold rangeL at hd
  rw [List.getElem?_map] at hd
  have hi : i < n := by
    rcases Nat.lt_or_ge i n with h | h
    · exact h
    · rw [List.getElem?_eq_none (by rw [List.length_range]; exact h)] at hd; cases hd
  rw [List.getElem?_range hi] at hd
  cases hd
  exact ⟨r2, Stp.refl _ _ _, by simp only [Rp], fun _ _ h => h⟩
theorem enumL_get : ∀ {xs : List D} {k i : Nat} {d : D}, (enumL k xs)[i]? = some d → ∃ x, xs[i]? = some x ∧ d = .tup [.int ((k + i : Nat) : Int), x]
  | [], k, i, d, h => by simp [enumL] at h
  | x :: xs, k, 0, d, h => by simp [enumL] at h; exact ⟨x, rfl, h.symm⟩
  | x :: xs, k, i + 1, d, h => by
    simp only [enumL, List.getElem?_cons_succ] at h
    obtain ⟨y, e, rfl⟩ := enumL_get h
    exact ⟨y, by simpa using e, by rw [show k + 1 + i = k + (i + 1) from by omega]⟩
theorem enumL_len : ∀ {xs : List D} {k : Nat}, (enumL k xs).length = xs.length
  | [], _ => rfl
  | _ :: xs, k => by simp [enumL, enumL_len (xs := xs)]
theorem zipL_get : ∀ {xs ys : List D} {i : Nat} {d : D}, (zipL xs ys)[i]? = some d → ∃ x y, xs[i]? = some x ∧ ys[i]? = some y ∧ d = .tup [x, y]
  | [], ys, i, d, h => by simp [zipL] at h
  | x :: xs, [], i, d, h => by simp [zipL] at h
  | x :: xs, y :: ys, 0, d, h => by simp [zipL] at h; exact ⟨x, y, rfl, rfl, h.symm⟩
  | x :: xs, y :: ys, i + 1, d, h => by
    simp only [zipL, List.getElem?_cons_succ] at h
    obtain ⟨u, w, e1, e2, rfl⟩ := zipL_get h
    exact ⟨u, w, by simpa using e1, by simpa using e2, rfl⟩
theorem zipL_len : ∀ {xs ys : List D}, (zipL xs ys).length = min xs.length ys.length
  | [], ys => by simp [zipL]
  | x :: xs, [] => by simp [zipL]
  | x :: xs, y :: ys => by simp [zipL, zipL_len (xs := xs)]
/-- a pair laid anew -/
theorem pair_new {T : Addr} {x y : V} {d1 d2 : D} (r2 : Rel ρ K H S) (hT : H T = none) (h1 : Rp ρ K H d1 x) (h2 : Rp ρ K H d2 y) :
    Rel ρ K (upd H T (.tup [x, y])) S ∧ Stp ρ S H ρ S (upd H T (.tup [x, y])) ∧ Rp ρ K (upd H T (.tup [x, y])) (.tup [d1, d2]) (.ref T) ∧ (∀ a o, H a = some o → upd H T (.tup [x, y]) a = some o) := by
  obtain ⟨g1, g2⟩ := r2.fresh_tup (u := .tup [x, y]) hT
  refine ⟨g1, g2, ?_, fun a o h => by rw [upd_ne (ne_of_none h hT)]; exact h⟩
  simp only [Rp]
  exact ⟨T, [x, y], rfl, .inl (.inl upd_same), Rps.cons (Rp.keep r2 g2 h1) (Rps.cons (Rp.keep r2 g2 h2) Rps.nil)⟩
theorem walk_enI {r : Nat} {a : Addr} {xs : List D} {o : Ob} (ha : ρ[r]? = some a) (ho : o = .lst xs ∨ o = .ro xs) : WalkI K ρ S H ⟨enumL 0 xs, [(r, o)]⟩ (Ite K a) := by
  have seq : ∀ ρ2 S2 H2, Stp ρ S H ρ2 S2 H2 → Rel ρ2 K H2 S2 → guardOk [(r, o)] S2 → ∃ vs, SqL K H2 a vs ∧ Rps ρ2 K H2 xs vs := fun ρ2 S2 H2 st r2 g => by
    have q := g (r, o) (List.mem_singleton.mpr rfl)
    refine r2.seq ?_ (pre_get st.pre ha)
    rcases ho with rfl | rfl
    · exact .inl q
    · exact .inr q
  have w : Walk (Ite K a) (enumL 0 xs).length (fun H => ∃ vs, SqL K H a vs ∧ vs.length = xs.length) (fun i H v H' => ∃ T x, v = .ref T ∧ H T = none ∧ H' = upd H T (.tup [.int (i : Nat), x]) ∧ ∀ vs, SqL K H a vs → vs[i]? = some x) := by
    rw [enumL_len]
    refine ⟨fun i H hi ⟨vs, q, l⟩ => ⟨vs, vs[i]'(by omega), q, by simp [l, hi]⟩, fun H ⟨vs, q, l⟩ => ⟨vs, q, Nat.le_of_eq l⟩, fun i H x H' hi g y => y⟩
  refine ⟨_, _, w, fun ρ2 S2 H2 st r2 g => ?_, fun i H2 x H3 ρ2 S2 d hd st r2 g y => ?_⟩
  · obtain ⟨vs, sq, t⟩ := seq ρ2 S2 H2 st r2 g
    exact ⟨vs, sq, t.len.symm⟩
  · obtain ⟨T, x0, rfl, hT, rfl, y⟩ := y
    obtain ⟨vs, sq, t⟩ := seq ρ2 S2 _ st r2 g
    obtain ⟨d0, hd0, rfl⟩ := enumL_get hd
    obtain ⟨v, e, rv⟩ := t.get hd0
    have := y vs sq
    rw [e] at this; cases this
    rw [Nat.zero_add]
    exact pair_new r2 hT (by simp only [Rp]) rv
theorem walk_ziI {r r' : Nat} {a b : Addr} {xs ys : List D} {o o' : Ob} (ha : ρ[r]? = some a) (hb : ρ[r']? = some b) (ho : o = .lst xs ∨ o = .ro xs) (ho' : o' = .lst ys ∨ o' = .ro ys) : WalkI K ρ S H ⟨zipL xs ys, [(r, o)] ++ [(r', o')]⟩ (Itz K a b) := by
  have seq : ∀ ρ2 S2 H2, Stp ρ S H ρ2 S2 H2 → Rel ρ2 K H2 S2 → guardOk ([(r, o)] ++ [(r', o')]) S2 → ∃ vs ws, SqL K H2 a vs ∧ Rps ρ2 K H2 xs vs ∧ SqL K H2 b ws ∧ Rps ρ2 K H2 ys ws := fun ρ2 S2 H2 st r2 g => by
    have q := g (r, o) (by simp)
    have q' := g (r', o') (by simp)
    obtain ⟨vs, s1, t1⟩ := r2.seq (xs := xs) (by rcases ho with rfl | rfl; exact .inl q; exact .inr q) (pre_get st.pre ha)
    obtain ⟨ws, s2, t2⟩ := r2.seq (xs := ys) (by rcases ho' with rfl | rfl; exact .inl q'; exact .inr q') (pre_get st.pre hb)
    exact ⟨vs, ws, s1, t1, s2, t2⟩
  have w : Walk (Itz K a b) (zipL xs ys).length (fun H => ∃ vs ws, SqL K H a vs ∧ SqL K H b ws ∧ vs.length = xs.length ∧ ws.length = ys.length) (fun i H v H' => ∃ T x y, v = .ref T ∧ H T = none ∧ H' = upd H T (.tup [x, y]) ∧ (∀ vs, SqL K H a vs → vs[i]? = some x) ∧ ∀ ws, SqL K H b ws → ws[i]? = some y) := by
    rw [zipL_len]
    refine ⟨fun i H hi ⟨vs, ws, q, q', l, l'⟩ => ?_, fun H ⟨vs, ws, q, q', l, l'⟩ => ⟨vs, ws, q, q', by omega⟩, fun i H x H' hi g y => y⟩
    have h1 : i < vs.length := by omega
    have h2 : i < ws.length := by omega
    exact ⟨vs, ws, vs[i], ws[i], q, q', by simp [h1], by simp [h2]⟩
  refine ⟨_, _, w, fun ρ2 S2 H2 st r2 g => ?_, fun i H2 x H3 ρ2 S2 d hd st r2 g y => ?_⟩
  · obtain ⟨vs, ws, s1, t1, s2, t2⟩ := seq ρ2 S2 H2 st r2 g
    exact ⟨vs, ws, s1, s2, t1.len.symm, t2.len.symm⟩
  · obtain ⟨T, x0, y0, rfl, hT, rfl, y1, y2⟩ := y
    obtain ⟨vs, ws, s1, t1, s2, t2⟩ := seq ρ2 S2 _ st r2 g
    obtain ⟨d1, d2, h1, h2, rfl⟩ := zipL_get hd
    obtain ⟨v, e, rv⟩ := t1.get h1
    obtain ⟨u, e', ru⟩ := t2.get h2
    have z1 := y1 vs s1
    have z2 := y2 ws s2
    rw [e] at z1; cases z1
    rw [e'] at z2; cases z2
    exact pair_new r2 hT rv ru
theorem walk_ziT {a b : Addr} {xs ys : List D} {vs ws : List V} (r0 : Rel ρ K H S) (sq : SqT K H a vs) (t : Rps ρ K H xs vs) (sq' : SqT K H b ws) (t' : Rps ρ K H ys ws) (inj : ∀ H2 : Hp, (∀ xs ys, SqT K H2 a xs → SqT K H2 a ys → xs = ys) ∧ (∀ xs ys, SqT K H2 b xs → SqT K H2 b ys → xs = ys) ∨ True) : WalkI K ρ S H ⟨zipL xs ys, []⟩ (RZ.ItzT K a b) := by
  have w : Walk (RZ.ItzT K a b) (zipL xs ys).length (fun H => SqT K H a vs ∧ SqT K H b ws) (fun i H v H' => ∃ T x y, v = .ref T ∧ H T = none ∧ H' = upd H T (.tup [x, y]) ∧ vs[i]? = some x ∧ ws[i]? = some y) := by
    rw [zipL_len, t.len, t'.len]
    refine ⟨fun i H hi ⟨q, q'⟩ => ?_, fun H ⟨q, q'⟩ => ⟨vs, ws, q, q', by omega⟩, fun i H x H' hi ⟨q, q'⟩ y => ?_⟩
    · have h1 : i < vs.length := by omega
      have h2 : i < ws.length := by omega
      exact ⟨vs, ws, vs[i], ws[i], q, q', by simp [h1], by simp [h2]⟩
    · obtain ⟨T, x, y, e, n, u, y1, y2⟩ := y
      exact ⟨T, x, y, e, n, u, y1 vs q, y2 ws q'⟩
  refine ⟨_, _, w, fun ρ2 S2 H2 st r2 g => ⟨sqT_keep r0 st sq, sqT_keep r0 st sq'⟩, fun i H2 x H3 ρ2 S2 d hd st r2 g y => ?_⟩
  obtain ⟨T, x0, y0, rfl, hT, rfl, y1, y2⟩ := y
  obtain ⟨d1, d2, h1, h2, rfl⟩ := zipL_get hd
  obtain ⟨v, e, rv⟩ := (Rps.keep r0 st t).get h1
  obtain ⟨u, e', ru⟩ := (Rps.keep r0 st t').get h2
  rw [e] at y1; cases y1
  rw [e'] at y2; cases y2
  exact pair_new r2 hT rv ru
/-- from an expression's reading to what walks it -/
theorem tI_seq {α β : Type} {Ra : List Addr → Hp → α → β → Prop} {m : M α} {f : α → Sto → R Its} {e : En} {σ : L2.St} {R0 : It → Hp → Prop} {Q' : β → Hp → Prop} (hE : EnvR ρ X.K H e σ) (hR : Rel ρ X.K H S)
    (hP : match (m e S).bind f with
      | .ok j S' => ∀ ρ' H' J, Stp ρ S H ρ' S' H' → Rel ρ' X.K H' S' → WalkI X.K ρ' S' H' j J → R0 J H'
      | .exc x S' => ∀ ρ' H' cls dd, Stp ρ S H ρ' S' H' → Rel ρ' X.K H' S' → ExR ρ' X.K H' X.mg x cls dd → W cls dd σ H'
      | .no => False)
    (hk : ∀ ρ1 S1 H1 d v, Stp ρ S H ρ1 S1 H1 → Rel ρ1 X.K H1 S1 → EnvR ρ1 X.K H1 e σ → Ra ρ1 H1 d v → (match f d S1 with
      | .ok j S' => ∀ ρ' H' J, Stp ρ1 S1 H1 ρ' S' H' → Rel ρ' X.K H' S' → WalkI X.K ρ' S' H' j J → R0 J H'
      | .exc x S' => ∀ ρ' H' cls dd, Stp ρ1 S1 H1 ρ' S' H' → Rel ρ' X.K H' S' → ExR ρ' X.K H' X.mg x cls dd → W cls dd σ H'
      | .no => False) → Q' v H1) : tM Ra X.K X.mg W m σ H Q' := by
  refine ⟨ρ, S, e, hE, hR, ?_⟩
  cases q : m e S with
  | ok d S1 =>
    rw [q] at hP
    simp only [R.bind_ok] at hP
    intro ρ1 H1 v s r1 ra
    refine hk ρ1 S1 H1 d v s r1 (hE.keep hR s) ra ?_
    cases z : f d S1 with
    | ok j S' => rw [z] at hP; exact fun ρ' H' J s' r' w => hP ρ' H' J (s.trans hR r1 s') r' w
    | exc x S' => rw [z] at hP; exact fun ρ' H' cls dd s' r' w => hP ρ' H' cls dd (s.trans hR r1 s') r' w
    | no => rw [z] at hP; exact hP
  | exc x S1 =>
    rw [q] at hP
    exact hP
  | no =>
    rw [q] at hP
    exact hP
theorem pi_itI {ma : M D} (ha : PE X e (tE X W ma)) : PI X tg e (tI X W (itI ma)) := by
  refine PI.imp (PI.or (pi_list ha) (PI.or (pi_tup ha) (pi_str ha))) fun σ H R0 ⟨ρ, S, en, hE, hR, hP⟩ => ?_
  cases q : ma en S with
  | no => simp only [itI, q] at hP; exact hP.elim
  | exc x S1 =>
    simp only [itI, q] at hP
    refine .inl ⟨ρ, S, en, hE, hR, ?_⟩
    rw [q]; exact hP
  | ok d S1 =>
    simp only [itI, q, R.bind_ok] at hP
    cases d with
    | tup xs =>
      refine .inr (.inl ⟨ρ, S, en, hE, hR, ?_⟩)
      rw [q]
      intro ρ' H' v s r1 rv
      simp only [RvD, Rp] at rv
      obtain ⟨a, vs, rfl, sq, t⟩ := rv
      exact ⟨a, rfl, ⟨vs, sq⟩, hP ρ' H' _ s r1 (walk_tupI r1 sq t)⟩
    | str z =>
      refine .inr (.inr ⟨ρ, S, en, hE, hR, ?_⟩)
      rw [q]
      intro ρ' H' v s r1 rv
      simp only [RvD, Rp] at rv
      exact ⟨z, rv, hP ρ' H' _ s r1 walk_strI⟩
    | ref r =>
      refine .inl ⟨ρ, S, en, hE, hR, ?_⟩
      rw [q]
      intro ρ' H' v s r1 rv
      simp only [RvD, Rp] at rv
      obtain ⟨a, rfl, ha⟩ := rv
      simp only [itsOf] at hP
      split at hP
      · rename_i j S' hj
        split at hj
        · rename_i xs hm
          cases hj
          obtain ⟨vs, sq, _⟩ := r1.seq (.inl hm) ha
          exact ⟨a, rfl, ⟨vs, sq⟩, hP ρ' H' _ s r1 (walk_lst ha (.inl rfl))⟩
        · rename_i xs hm
          cases hj
          obtain ⟨vs, sq, _⟩ := r1.seq (.inr hm) ha
          exact ⟨a, rfl, ⟨vs, sq⟩, hP ρ' H' _ s r1 (walk_lst ha (.inr rfl))⟩
        · cases hj
      · rename_i x S' hj
        split at hj <;> cases hj
      · exact hP.elim
    | non => exact hP.elim
    | bl b => exact hP.elim
    | int b => exact hP.elim
theorem pi_rgI1 {a : Expr} {mr : M (List D)} {p pos : Pos} (hg : Gl X "range") (hm : X.mg "range" = none) (hst : hasStar [a] = false) (ha : PA X [a] (tA X W mr)) (hl : ∀ en S d S', mr en S = .ok d S' → d.length = 1) : PI X tg (.Call (.Name "range" p) [a] [] pos) (tI X W (rgI mr)) := by
  refine PI.imp (pi_range1 hg hm ha (star_cons hst)) fun σ H R0 ⟨ρ, S, en, hE, hR, hP⟩ => ?_
  refine ⟨ρ, S, en, hE, hR, ?_⟩
  cases q : mr en S with
  | no => simp only [rgI, q] at hP; exact hP.elim
  | exc x S1 => simp only [rgI, q] at hP; exact hP
  | ok ds S1 =>
    simp only [rgI, q, R.bind_ok] at hP
    have l := hl _ _ _ _ q
    intro ρ' H' vs s r1 rv
    match ds, l with
    | [d], _ =>
      simp only [RvDs, Rps] at rv
      obtain ⟨v, r, rfl, h1, rfl⟩ := rv
      cases d with
      | int j =>
        simp only [Rp] at h1
        subst h1
        by_cases hb : -(2 ^ 62) ≤ j ∧ j < 2 ^ 62
        · simp only [if_pos hb] at hP
          exact ⟨j, rfl, hb.1, hb.2, hP ρ' H' _ s r1 walk_rngI⟩
        · simp only [if_neg hb] at hP
      | _ => exact hP.elim
theorem pi_rgI2 {a b : Expr} {mr : M (List D)} {p pos : Pos} (hg : Gl X "range") (hm : X.mg "range" = none) (hst : hasStar [a, b] = false) (ha : PA X [a, b] (tA X W mr)) (hl : ∀ en S d S', mr en S = .ok d S' → d.length = 2) : PI X tg (.Call (.Name "range" p) [a, b] [] pos) (tI X W (rgI mr)) := by
  have e2 := star_cons (env := X.env) (star_tail hst)
  have e1 : starEach [a, b] X.env = [(false, eval a X.env), (false, eval b X.env)] := by rw [star_cons hst, e2]; rfl
  refine PI.imp (pi_range2 hg hm ha e1 e2) fun σ H R0 ⟨ρ, S, en, hE, hR, hP⟩ => ?_
  refine ⟨ρ, S, en, hE, hR, ?_⟩
  cases q : mr en S with
  | no => simp only [rgI, q] at hP; exact hP.elim
  | exc x S1 => simp only [rgI, q] at hP; exact hP
  | ok ds S1 =>
    simp only [rgI, q, R.bind_ok] at hP
    have l := hl _ _ _ _ q
    intro ρ' H' vs s r1 rv
    match ds, l with
    | [d, d'], _ =>
      simp only [RvDs, Rps] at rv
      obtain ⟨v, r, rfl, h1, w, r', rfl, h2, rfl⟩ := rv
      cases d with
      | int i =>
        cases d' with
        | int j =>
          simp only [Rp] at h1 h2
          subst h1; subst h2
          by_cases hb : -(2 ^ 62) ≤ i ∧ i < 2 ^ 62 ∧ -(2 ^ 62) ≤ j ∧ j < 2 ^ 62
          · simp only [if_pos hb] at hP
            exact ⟨i, j, rfl, hb, hP ρ' H' _ s r1 walk_rngI⟩
          · simp only [if_neg hb] at hP
        | _ => exact hP.elim
      | _ => exact hP.elim
theorem pi_enI {a : Expr} {ma : M D} {p pos tpos : Pos} {elts : List Expr} {kk : Nat} (hg : Gl X "enumerate") (hm : X.mg "enumerate" = none) (hst : hasStar [a] = false) (ha : PE X a (tE X W ma)) : PI X (.Tuple elts kk tpos) (.Call (.Name "enumerate" p) [a] [] pos) (tI X W (enI ma)) := by
  refine PI.imp (pi_enum hg hm (pa_cons ha pa_nil (star_cons hst)) (star_cons hst)) fun σ H R0 ⟨ρ, S, en, hE, hR, hP⟩ => ?_
  refine ⟨ρ, S, en, hE, hR, ?_⟩
  cases q : ma en S with
  | no => simp only [enI, q] at hP; exact hP.elim
  | exc x S1 => simp only [enI, q] at hP; exact hP
  | ok d S1 =>
    simp only [enI, q, R.bind_ok] at hP
    intro ρ' H' v s r1 rv
    cases d with
    | ref r =>
      simp only [RvD, Rp] at rv
      obtain ⟨a, rfl, ha⟩ := rv
      simp only [itsOf] at hP
      cases hm : S1[r]? with
      | none => rw [hm] at hP; exact hP.elim
      | some o =>
        rw [hm] at hP
        cases o with
        | lst xs =>
          obtain ⟨vs, sq, _⟩ := r1.seq (.inl hm) ha
          exact ⟨a, vs, rfl, sq, hP ρ' H' _ s r1 (walk_enI ha (.inl rfl))⟩
        | ro xs =>
          obtain ⟨vs, sq, _⟩ := r1.seq (.inr hm) ha
          exact ⟨a, vs, rfl, sq, hP ρ' H' _ s r1 (walk_enI ha (.inr rfl))⟩
        | dK kvs => exact hP.elim
    | _ => exact hP.elim
theorem pi_ziI {a b : Expr} {ma mb : M D} {p pos tpos : Pos} {elts : List Expr} {kk : Nat} (hg : Gl X "zip") (hm : X.mg "zip" = none) (hst : hasStar [a, b] = false) (ha : PE X a (tE X W ma)) (hb : PE X b (tE X W mb)) : PI X (.Tuple elts kk tpos) (.Call (.Name "zip" p) [a, b] [] pos) (tI X W (ziI ma mb)) := by
  have e2 := star_cons (env := X.env) (star_tail hst)
  refine PI.imp (RZ.pi_zipA hg hm (pa_cons ha (pa_cons hb pa_nil e2) (star_cons hst)) (star_cons hst) (star_plain (star_tail hst))) fun σ H R0 ⟨ρ, S, en, hE, hR, hP⟩ => ?_
  refine tI_seq (m := ma) (f := fun x S1 => (mb en S1).bind fun y S2 => match x, y with
  | .ref _, .ref _ => (itsOf x S2).bind fun j S3 => (itsOf y S3).bind fun k S4 => .ok ⟨zipL j.xs k.xs, j.g ++ k.g⟩ S4
  | .tup xs, .tup ys => .ok ⟨zipL xs ys, []⟩ S2
  | _, _ => .no) hE hR hP fun ρ1 S1 H1 d1 v1 s1 r1 hE1 p1 hP1 => ?_
  refine tI_seq hE1 r1 hP1 fun ρ2 S2 H2 d2 v2 s2 r2 hE2 p2 hP2 => ?_
  have p1 := Rp.keep r1 s2 p1
  cases d1 with
  | tup xs =>
    cases d2 with
    | tup ys =>
      simp only [RvD, Rp] at p1 p2
      obtain ⟨q, vs, rfl, sq, t⟩ := p1
      obtain ⟨q', ws, rfl, sq', t'⟩ := p2
      exact ⟨q, q', vs, ws, rfl, .inr ⟨sq, sq', hP2 ρ2 H2 _ (Stp.refl _ _ _) r2 (walk_ziT r2 sq t sq' t' fun _ => .inr trivial)⟩⟩
    | _ => exact hP2.elim
  | ref m =>
    cases d2 with
    | ref n =>
      simp only [RvD, Rp] at p1 p2
      obtain ⟨q, rfl, hq⟩ := p1
      obtain ⟨q', rfl, hq'⟩ := p2
      simp only [itsOf] at hP2
      cases h1 : S2[m]? with
      | none => rw [h1] at hP2; exact hP2.elim
      | some o =>
        rw [h1] at hP2
        cases o with
        | dK kvs => exact hP2.elim
        | lst xs =>
          simp only [R.bind_ok] at hP2
          obtain ⟨vs, sq, _⟩ := r2.seq (.inl h1) hq
          cases h2 : S2[n]? with
          | none => rw [h2] at hP2; exact hP2.elim
          | some o' =>
            rw [h2] at hP2
            cases o' with
            | dK kvs => exact hP2.elim
            | lst ys =>
              obtain ⟨ws, sq', _⟩ := r2.seq (.inl h2) hq'
              exact ⟨q, q', vs, ws, rfl, .inl ⟨sq, sq', hP2 ρ2 H2 _ (Stp.refl _ _ _) r2 (walk_ziI hq hq' (.inl rfl) (.inl rfl))⟩⟩
            | ro ys =>
              obtain ⟨ws, sq', _⟩ := r2.seq (.inr h2) hq'
              exact ⟨q, q', vs, ws, rfl, .inl ⟨sq, sq', hP2 ρ2 H2 _ (Stp.refl _ _ _) r2 (walk_ziI hq hq' (.inl rfl) (.inr rfl))⟩⟩
        | ro xs =>
          simp only [R.bind_ok] at hP2
          obtain ⟨vs, sq, _⟩ := r2.seq (.inr h1) hq
          cases h2 : S2[n]? with
          | none => rw [h2] at hP2; exact hP2.elim
          | some o' =>
            rw [h2] at hP2
            cases o' with
            | dK kvs => exact hP2.elim
            | lst ys =>
              obtain ⟨ws, sq', _⟩ := r2.seq (.inl h2) hq'
              exact ⟨q, q', vs, ws, rfl, .inl ⟨sq, sq', hP2 ρ2 H2 _ (Stp.refl _ _ _) r2 (walk_ziI hq hq' (.inr rfl) (.inl rfl))⟩⟩
            | ro ys =>
              obtain ⟨ws, sq', _⟩ := r2.seq (.inr h2) hq'
              exact ⟨q, q', vs, ws, rfl, .inl ⟨sq, sq', hP2 ρ2 H2 _ (Stp.refl _ _ _) r2 (walk_ziI hq hq' (.inr rfl) (.inr rfl))⟩⟩
    | _ => exact hP2.elim
  | _ => exact hP2.elim
end
end Py
namespace Py
open PySem PySem.Spec L2
/-! ## 15. List comprehensions -/
section
variable {ρ ρ1 : List Addr} {S S1 : Sto} {H H1 : Hp} {K : PySem.W.Frag}
theorem sqT_bump {D0 : Addr} {vs : List V} {u : HO} (h0 : H D0 = some (.lst vs)) {a : Addr} {xs : List V} (h : SqT K H a xs) : SqT K (upd H D0 u) a xs := by
  rcases h with (h | ⟨o, h⟩) | h
  · refine .inl (.inl ?_)
    rw [upd_ne (fun e => by rw [e, h0] at h; cases h)]
    exact h
  · refine .inl (.inr ⟨o, ?_⟩)
    rw [upd_ne (fun e => by rw [e, h0] at h; cases h)]
    exact h
  · exact .inr h
mutual
theorem Rp.bump {D0 : Addr} {vs : List V} {u : HO} (h0 : H D0 = some (.lst vs)) : ∀ {d : D} {v : V}, Rp ρ K H d v → Rp ρ K (upd H D0 u) d v
  | .non, v, h => by simp only [Rp] at h ⊢; exact h
  | .bl b, v, h => by simp only [Rp] at h ⊢; exact h
  | .int i, v, h => by simp only [Rp] at h ⊢; exact h
  | .str x, v, h => by simp only [Rp] at h ⊢; exact h
  | .tup xs, v, h => by
    simp only [Rp] at h ⊢
    obtain ⟨a, vs, e, q, t⟩ := h
    exact ⟨a, vs, e, sqT_bump h0 q, Rps.bump h0 t⟩
  | .ref n, v, h => by simp only [Rp] at h ⊢; exact h
theorem Rps.bump {D0 : Addr} {vs : List V} {u : HO} (h0 : H D0 = some (.lst vs)) : ∀ {xs : List D} {ws : List V}, Rps ρ K H xs ws → Rps ρ K (upd H D0 u) xs ws
  | [], ws, h => by simp only [Rps] at h ⊢; exact h
  | x :: xs, ws, h => by
    simp only [Rps] at h ⊢
    obtain ⟨v, t, e, h1, h2⟩ := h
    exact ⟨v, t, e, Rp.bump h0 h1, Rps.bump h0 h2⟩
end
theorem Rel.bump {D0 : Addr} {vs : List V} {u : HO} (r : Rel ρ K H S) (h0 : H D0 = some (.lst vs)) (nm : ¬ MutAt ρ S D0) : Rel ρ K (upd H D0 u) S := by
  refine ⟨r.len, fun i o a h1 h2 => ?_, r.inj⟩
  have q := r.ob i o a h1 h2
  have ne : isMut o = true → a ≠ D0 := fun m e => nm ⟨i, o, by rw [← e]; exact h2, h1, m⟩
  cases o with
  | lst xs => obtain ⟨ws, e, t⟩ := q; exact ⟨ws, by rw [upd_ne (ne rfl)]; exact e, t.bump h0⟩
  | ro xs =>
    obtain ⟨ws, e, t⟩ := q
    refine ⟨ws, ?_, t.bump h0⟩
    rcases e with ⟨ob, e⟩ | e
    · refine .inl ⟨ob, ?_⟩
      rw [upd_ne (fun z => by rw [z, h0] at e; cases e)]
      exact e
    · exact .inr e
  | dK kvs => obtain ⟨ws, e, e1, t⟩ := q; exact ⟨ws, by rw [upd_ne (ne rfl)]; exact e, e1, t.bump h0⟩
end
/-! ### slots that are wiped -/
theorem wipe_get {σ : L2.St} : ∀ {vs : List Nat} {j : Nat}, (wipe σ vs)[j]? = if j ∈ vs ∧ j < σ.length then some none else σ[j]?
  | [], j => by simp [wipe]
  | v :: vs, j => by
    unfold wipe
    by_cases h : v = j
    · subst h
      by_cases hl : v < σ.length
      · rw [List.getElem?_set_self (by rw [wipe_length]; exact hl), if_pos ⟨List.mem_cons_self, hl⟩]
      · rw [List.getElem?_eq_none (by rw [List.length_set, wipe_length]; omega), if_neg (fun z => hl z.2), List.getElem?_eq_none (by omega)]
    · rw [List.getElem?_set_ne h, wipe_get (vs := vs)]
      have e : (j ∈ v :: vs ∧ j < σ.length) ↔ (j ∈ vs ∧ j < σ.length) := by simp [List.mem_cons, Ne.symm h]
      by_cases q : j ∈ vs ∧ j < σ.length
      · rw [if_pos q, if_pos (e.mpr q)]
      · rw [if_neg q, if_neg (fun z => q (e.mp z))]
theorem wipe_same {σ σ2 : L2.St} {vs : List Nat} (hl : σ2.length = σ.length) (h : ∀ j, j ∉ vs → σ2[j]? = (wipe σ vs)[j]?) : wipe σ2 vs = wipe σ vs := by
  apply List.ext_getElem?
  intro j
  by_cases hj : j ∈ vs
  · rw [wipe_get, wipe_get, hl]
    by_cases hb : j < σ.length
    · rw [if_pos ⟨hj, hb⟩, if_pos ⟨hj, hb⟩]
    · rw [if_neg (fun z => hb z.2), if_neg (fun z => hb z.2), List.getElem?_eq_none (by omega), List.getElem?_eq_none (by omega)]
  · rw [wipe_get, if_neg (fun z => hj z.1)]
    exact h j hj
theorem EnvR.wipe {ρ : List Addr} {K : PySem.W.Frag} {H : Hp} {e : En} {σ : L2.St} (h : EnvR ρ K H e σ) : ∀ vs : List Nat, EnvR ρ K H (wipeE e vs) (L2.wipe σ vs)
  | [] => h
  | v :: vs => (EnvR.wipe h vs).off v none
theorem lcL_cons {t : Tgt} {tt : M Bool} {el : M D} {e : En} {g : Guard} {x : D} {xs acc : List D} {S : Sto} (h : lcL t tt el e g (x :: xs) acc S ≠ .no) :
    guardOk g S ∧ ∃ e1, bindT t x e = some e1 ∧ ((∃ S1 y S2, tt e1 S = .ok true S1 ∧ el e1 S1 = .ok y S2 ∧ acc.length < sizeLine ∧ lcL t tt el e g (x :: xs) acc S = lcL t tt el e g xs (acc ++ [y]) S2) ∨ ∃ S1, tt e1 S = .ok false S1 ∧ lcL t tt el e g (x :: xs) acc S = lcL t tt el e g xs acc S1) := by
  simp only [lcL] at h ⊢
  by_cases hg : guardOk g S
  · rw [if_pos hg] at h ⊢
    refine ⟨hg, ?_⟩
    cases hb : bindT t x e with
    | none => rw [hb] at h; exact absurd rfl h
    | some e1 =>
      rw [hb] at h
      simp only at h ⊢
      refine ⟨e1, rfl, ?_⟩
      cases ht : tt e1 S with
      | no => rw [ht] at h; exact absurd rfl h
      | exc y S1 => rw [ht] at h; exact absurd rfl h
      | ok b S1 =>
        rw [ht] at h
        cases b with
        | false => exact .inr ⟨S1, rfl, rfl⟩
        | true =>
          simp only [R.nox_ok, R.bind_ok, cond_true] at h ⊢
          cases hel : el e1 S1 with
          | no => rw [hel] at h; exact absurd rfl h
          | exc y S2 => rw [hel] at h; exact absurd rfl h
          | ok y S2 =>
            rw [hel] at h
            simp only [R.nox_ok, R.bind_ok] at h ⊢
            by_cases hl : acc.length < sizeLine
            · refine .inl ⟨S1, y, S2, rfl, hel, hl, ?_⟩
              rw [if_pos hl]
            · rw [if_neg hl] at h; exact absurd rfl h
  · rw [if_neg hg] at h; exact absurd rfl h
theorem lcL_guard {t : Tgt} {tt : M Bool} {el : M D} {e : En} {g : Guard} {xs acc : List D} {S : Sto} (h : lcL t tt el e g xs acc S ≠ .no) : guardOk g S := by
  cases xs with
  | cons x xs => exact (lcL_cons h).1
  | nil =>
    simp only [lcL] at h
    by_cases hg : guardOk g S
    · exact hg
    · rw [if_neg hg] at h; exact absurd rfl h
/-- no exception is let out of a block -/
abbrev WF : WX := fun _ _ _ _ => False
theorem tLc_of {X : Cx} {W : WX} {it : M Its} {t : Tgt} {tt : M Bool} {el : M D} {vs : List Nat} {σ : L2.St} {H : Hp} {Q : VK} (hs : ∀ j ∈ slotsT t, j ∈ vs) (h : tE X W (lcE it t tt el vs) σ H Q) :
    tLc (tI X W it) (gM X.K t) (tT X WF tt) (tE X WF el) vs σ H Q := by
  obtain ⟨ρ, S, e, hE, hR, hP⟩ := h
  refine ⟨ρ, S, e, hE, hR, ?_⟩
  cases q : it e S with
  | no => simp only [lcE, q] at hP; exact hP
  | exc x S1 => simp only [lcE, q] at hP; exact hP
  | ok j S1 =>
    simp only [lcE, q, R.bind_ok] at hP
    intro ρ1 H1 J st1 r1 hJ D0 hD0
    obtain ⟨G, Y, w, wG, wY⟩ := hJ
    have hP1 := Post.later hR st1 r1 hP
    have nno : lcL t tt el (wipeE e vs) j.g j.xs [] S1 ≠ .no := fun z => by rw [z] at hP1; exact hP1
    have hE1 : EnvR ρ1 X.K H1 (wipeE e vs) (L2.wipe σ vs) := (hE.keep hR st1).wipe vs
    obtain ⟨r1', s1'⟩ := r1.fresh_tup (u := .lst []) hD0
    have nm0 : ¬ MutAt ρ1 S1 D0 := fun m => by
      obtain ⟨u, hu, _⟩ := r1.mut m
      rw [hD0] at hu; cases hu
    refine lc_it w (Pv := fun i H' => ∃ ρ' S' acc vacc, Stp ρ1 S1 H1 ρ' S' H' ∧ Rel ρ' X.K H' S' ∧ H' D0 = some (.lst vacc) ∧ ¬ MutAt ρ' S' D0 ∧ Rps ρ' X.K H' acc vacc ∧ lcL t tt el (wipeE e vs) j.g j.xs [] S1 = lcL t tt el (wipeE e vs) j.g (j.xs.drop i) acc S') ?_ ?_ ?_ ?_
    · exact ⟨ρ1, S1, [], [], s1', r1', upd_same, nm0, Rps.nil, rfl⟩
    · rintro i H' _ ⟨ρ', S', acc, vacc, st, r', _, _, _, eq⟩
      exact wG ρ' S' H' st r' (lcL_guard (by rw [← eq]; exact nno))
    · rintro i x H' H2 hi ⟨ρ', S', acc, vacc, st, r', hD, nm, ra, eq⟩ y
      have hx : j.xs[i]? = some j.xs[i] := by simp [hi]
      have hdrop : j.xs.drop i = j.xs[i] :: j.xs.drop (i + 1) := List.drop_eq_getElem_cons hi
      rw [hdrop] at eq
      obtain ⟨hg, e1, hb, hcase⟩ := lcL_cons (by rw [← eq]; exact nno)
      obtain ⟨r2, st2, rx, kp⟩ := wY i H' x H2 ρ' S' j.xs[i] hx st r' hg y
      have hE2 : EnvR ρ' X.K H2 (wipeE e vs) (L2.wipe σ vs) := ((hE1.keep r1 st).keep r' st2)
      have hD2 : H2 D0 = some (.lst vacc) := kp D0 _ hD
      refine ⟨ρ', S', wipeE e vs, j.xs[i], e1, hE2, r2, rx, hb, fun σ2 hE3 l3 k3 => ⟨?_, ?_⟩⟩
      · refine wipe_same (by rw [l3, wipe_length]) fun jj hjj => k3 jj fun z => hjj (hs jj z)
      refine ⟨ρ', S', e1, hE3, r2, ?_⟩
      rcases hcase with ⟨S3, yv, S4, ht, hel, hl, eq2⟩ | ⟨S3, ht, eq2⟩
      · rw [ht]
        intro ρ3 H3 b st3 r3 hb
        obtain rfl : true = b := hb
        rw [if_pos rfl]
        refine ⟨ρ3, S3, e1, hE3.keep r2 st3, r3, ?_⟩
        rw [hel]
        intro ρ4 H4 v st4 r4 rv
        have hD3 : H3 D0 = some (.lst vacc) := st3.keep D0 _ hD2 nm
        have nm3 : ¬ MutAt ρ3 S3 D0 := fun m => nm (st3.mutBack r2 r3 hD2 m)
        have hD4 : H4 D0 = some (.lst vacc) := st4.keep D0 _ hD3 nm3
        have nm4 : ¬ MutAt ρ4 S4 D0 := fun m => nm3 (st4.mutBack r3 r4 hD3 m)
        have ra4 : Rps ρ4 X.K H4 acc vacc := Rps.keep r3 st4 (Rps.keep r2 st3 (Rps.keep r' st2 ra))
        refine ⟨vacc, hD4, by rw [← ra.len]; exact hl, ρ4, S4, acc ++ [yv], vacc ++ [v], ?_, Rel.bump r4 hD4 nm4, upd_same, nm4, (Rps.append ra4 (Rps.cons rv Rps.nil)).bump hD4, by rw [eq, eq2]⟩
        have sAll : Stp ρ1 S1 H1 ρ4 S4 H4 := ((st.trans r1 r' st2).trans r1 r2 st3).trans r1 r3 st4
        exact ⟨sAll.pre, fun a o h nmm => by rw [upd_ne (fun z => by rw [z, hD0] at h; cases h)]; exact sAll.keep a o h nmm, sAll.fresh, sAll.kind, sAll.len⟩
      · rw [ht]
        intro ρ3 H3 b st3 r3 hb
        obtain rfl : false = b := hb
        rw [if_neg Bool.false_ne_true]
        exact ⟨ρ3, S3, acc, vacc, (st.trans r1 r' st2).trans r1 r2 st3, r3, st3.keep D0 _ hD2 nm, fun m => nm (st3.mutBack r2 r3 hD2 m), Rps.keep r2 st3 (Rps.keep r' st2 ra), by rw [eq, eq2]⟩
    · rintro H' ⟨ρ', S', acc, vacc, st, r', hD, nm, ra, eq⟩
      rw [List.drop_length] at eq
      have hg := lcL_guard (t := t) (tt := tt) (el := el) (e := wipeE e vs) (g := j.g) (xs := []) (acc := acc) (S := S') (by rw [← eq]; exact nno)
      have e2 : lcL t tt el (wipeE e vs) j.g [] acc S' = .ok acc S' := by simp only [lcL]; rw [if_pos hg]
      rw [eq, e2] at hP1
      simp only [R.bind_ok] at hP1
      have hl : ρ'.length = S'.length := r'.len
      refine hP1 (ρ' ++ [D0]) H' (.ref D0) ?_ ?_ ?_
      · refine ⟨st.pre.trans (List.prefix_append _ _), st.keep, fun i a hi e => ?_, fun i o o' h h' => ?_, Nat.le_trans st.len (by simp)⟩
        · by_cases h1 : i < ρ'.length
          · rw [List.getElem?_append_left h1] at e
            exact st.fresh i a hi e
          · rw [List.getElem?_append_right (Nat.le_of_not_lt h1)] at e
            cases hj : i - ρ'.length with
            | zero => rw [hj] at e; simp at e; rw [← e]; exact hD0
            | succ k => rw [hj] at e; simp at e
        · have hi := (List.getElem?_eq_some_iff.mp h).1
          rw [List.getElem?_append_left (Nat.lt_of_lt_of_le hi st.len)] at h'
          exact st.kind i o o' h h'
      · have at_ : ∀ {i : Nat} {o' : Ob} {b : Addr}, (S' ++ [Ob.lst acc])[i]? = some o' → (ρ' ++ [D0])[i]? = some b → (S'[i]? = some o' ∧ ρ'[i]? = some b) ∨ (i = S'.length ∧ o' = .lst acc ∧ b = D0) := by
          intro i o' b e1 e2
          by_cases hi : i < S'.length
          · rw [List.getElem?_append_left hi] at e1
            rw [List.getElem?_append_left (by rw [hl]; exact hi)] at e2
            exact .inl ⟨e1, e2⟩
          · rw [List.getElem?_append_right (Nat.le_of_not_lt hi)] at e1
            rw [List.getElem?_append_right (by rw [hl]; exact Nat.le_of_not_lt hi), hl] at e2
            cases hj : i - S'.length with
            | zero =>
              rw [hj] at e1 e2
              simp at e1 e2
              exact .inr ⟨by omega, e1.symm, e2.symm⟩
            | succ k => rw [hj] at e1; simp at e1
        refine ⟨by simp [hl], fun i o' b e1 e2 => ?_, fun i k b o1 o2 e1 e2 e3 e4 e5 e6 => ?_⟩
        · rcases at_ e1 e2 with ⟨q1, q2⟩ | ⟨_, rfl, rfl⟩
          · exact (r'.ob i o' b q1 q2).more (List.prefix_append _ _)
          · exact ⟨vacc, hD, Rps.more (List.prefix_append _ _) ra⟩
        · rcases at_ e3 e1 with ⟨q1, q2⟩ | ⟨p1, p2, p3⟩
          · rcases at_ e4 e2 with ⟨q3, q4⟩ | ⟨p1, p2, p3⟩
            · exact r'.inj i k b o1 o2 q2 q4 q1 q3 e5 e6
            · exact absurd ⟨i, o1, by rw [← p3]; exact q2, q1, e5⟩ nm
          · rcases at_ e4 e2 with ⟨q3, q4⟩ | ⟨z1, z2, z3⟩
            · exact absurd ⟨k, o2, by rw [← p3]; exact q4, q3, e6⟩ nm
            · omega
      · simp only [RvD, Rp]
        exact ⟨D0, rfl, by rw [List.getElem?_append_right (by rw [hl]; exact Nat.le_refl _), hl, Nat.sub_self]; rfl⟩
/-! ## 16. Statements -/
def PostO (X : Cx) (ρ : List Addr) (S : Sto) (H : Hp) (r : O) (D : Ends) (W : WX) : Prop := match r with
  | .nx e' S' => ∀ ρ' H' σ', Stp ρ S H ρ' S' H' → Rel ρ' X.K H' S' → EnvR ρ' X.K H' e' σ' → D.nx σ' H'
  | .ret d S' => ∀ ρ' H' v, Stp ρ S H ρ' S' H' → Rel ρ' X.K H' S' → Rp ρ' X.K H' d v → D.rt v H'
  | .brk e' S' => ∀ ρ' H' σ', Stp ρ S H ρ' S' H' → Rel ρ' X.K H' S' → EnvR ρ' X.K H' e' σ' → D.bk σ' H'
  | .cnt e' S' => ∀ ρ' H' σ', Stp ρ S H ρ' S' H' → Rel ρ' X.K H' S' → EnvR ρ' X.K H' e' σ' → D.ct σ' H'
  | .exc x e' S' => ∀ ρ' H' σ' cls dd, Stp ρ S H ρ' S' H' → Rel ρ' X.K H' S' → EnvR ρ' X.K H' e' σ' → ExR ρ' X.K H' X.mg x cls dd → W cls dd σ' H'
  | .no => False
def tS (X : Cx) (W : WX) (m : SM) : TS := fun D σ H => ∃ ρ S e, EnvR ρ X.K H e σ ∧ Rel ρ X.K H S ∧ PostO X ρ S H (m e S) D W
section
variable {X : Cx} {W : WX} {ρ ρ1 : List Addr} {S S1 : Sto} {H H1 : Hp} {r : O} {Dn : Ends} {σ : L2.St} {e : En}
theorem PostO.later (r0 : Rel ρ X.K H S) (s : Stp ρ S H ρ1 S1 H1) (r1 : Rel ρ1 X.K H1 S1) (h : PostO X ρ S H r Dn W) : PostO X ρ1 S1 H1 r Dn W := by
  cases r with
  | nx e' S' => exact fun ρ' H' v s' r' q => h ρ' H' v (s.trans r0 r1 s') r' q
  | ret d S' => exact fun ρ' H' v s' r' q => h ρ' H' v (s.trans r0 r1 s') r' q
  | brk e' S' => exact fun ρ' H' v s' r' q => h ρ' H' v (s.trans r0 r1 s') r' q
  | cnt e' S' => exact fun ρ' H' v s' r' q => h ρ' H' v (s.trans r0 r1 s') r' q
  | exc x e' S' => exact fun ρ' H' σ' cls dd s' r' q => h ρ' H' σ' cls dd (s.trans r0 r1 s') r' q
  | no => exact h
/-- an expression, then the rest of a statement -/
theorem tM_st {α β : Type} {Ra : List Addr → Hp → α → β → Prop} {m : M α} {f : α → Sto → O} {Q' : β → Hp → Prop} (hE : EnvR ρ X.K H e σ) (hR : Rel ρ X.K H S) (hP : PostO X ρ S H ((m e S).st e f) Dn W)
    (hk : ∀ ρ1 S1 H1 d v, m e S = .ok d S1 → Stp ρ S H ρ1 S1 H1 → Rel ρ1 X.K H1 S1 → EnvR ρ1 X.K H1 e σ → Ra ρ1 H1 d v → PostO X ρ1 S1 H1 (f d S1) Dn W → Q' v H1) : tM Ra X.K X.mg W m σ H Q' := by
  refine ⟨ρ, S, e, hE, hR, ?_⟩
  cases q : m e S with
  | ok d S1 =>
    rw [q] at hP
    exact fun ρ1 H1 v s r1 ra => hk ρ1 S1 H1 d v q s r1 (hE.keep hR s) ra (PostO.later hR s r1 hP)
  | exc x S1 =>
    rw [q] at hP
    exact fun ρ1 H1 cls dd s r1 ex => hP ρ1 H1 σ cls dd s r1 (hE.keep hR s) ex
  | no =>
    rw [q] at hP
    exact hP
theorem PostO.nx {e' : En} (h : PostO X ρ S H (.nx e' S) Dn W) (hR : Rel ρ X.K H S) (hE : EnvR ρ X.K H e' σ) : Dn.nx σ H := h ρ H σ (Stp.refl _ _ _) hR hE
variable {a b c o i v : Expr} {ma mb mo mi mv : M D} {mt : M Bool} {sa sb : SM} {pos : Pos} {st : Stmt} {sts : List Stmt}
theorem ps_no : PS X st (tS X W noS) := ⟨fun pins s σ H D I ⟨_, _, _, _, _, h⟩ => h.elim⟩
theorem pss_nilS : PSs X [] (tS X W nxS) := PSs.imp pss_nil fun D σ H ⟨ρ, S, e, hE, hR, hP⟩ => hP.nx hR hE
theorem pss_consS (h1 : PS X st (tS X W sa)) (h2 : PSs X sts (tS X W sb)) : PSs X (st :: sts) (tS X W (seqS sa sb)) := by
  refine PSs.imp (pss_cons h1 h2) fun D σ H ⟨ρ, S, e, hE, hR, hP⟩ => ⟨ρ, S, e, hE, hR, ?_⟩
  unfold seqS at hP
  cases q : sa e S with
  | nx e1 S1 =>
    rw [q] at hP
    exact fun ρ1 H1 σ1 s r1 hE1 => ⟨ρ1, S1, e1, hE1, r1, PostO.later hR s r1 hP⟩
  | ret d S1 => rw [q] at hP; exact hP
  | brk e1 S1 => rw [q] at hP; exact hP
  | cnt e1 S1 => rw [q] at hP; exact hP
  | exc x e1 S1 => rw [q] at hP; exact hP
  | no => rw [q] at hP; exact hP
theorem comp_swaps {e : Expr} {t : Option Expr} {l : Nat} {env : Env} (h : isComp e = false) : swapsWith e t l env = pure false := by
  cases e <;> first | rfl | cases h
theorem ps_exprS (hc : isComp a = false) (ha : PE X a (tE X W ma)) : PS X (.Expr a pos) (tS X W (exprS ma)) := by
  refine PS.imp (ps_expr ha (comp_swaps hc)) fun D σ H ⟨ρ, S, e, hE, hR, hP⟩ => ?_
  exact tM_st hE hR hP fun ρ1 S1 H1 d v _ s r1 hE1 rv hP1 => hP1.nx r1 hE1
theorem ps_setS {x : Str} {n : Nat} {p : Pos} (hN : X.N.Nodup) (hi : X.N[n]? = some x) (hx : X.env.scope.names.lookup x = some .local) (hc : isComp v = false) (hv : PE X v (tE X W mv)) : PS X (.Assign [.Name x p] v pos) (tS X W (setS n mv)) := by
  refine PS.imp (ps_set hN hi (.inl hx) hv (comp_swaps hc) (.inr hx)) fun D σ H ⟨ρ, S, e, hE, hR, hP⟩ => ?_
  exact tM_st hE hR hP fun ρ1 S1 H1 d v _ s r1 hE1 rv hP1 => hP1.nx r1 (hE1.set n rv)
theorem ps_tgtS {t : Tgt} {us : List Expr} {k : Nat} {p : Pos} (hg : PG X (.Tuple us k p) (gM X.K t)) (hc : isComp v = false) (hw : swappedStores [.Tuple us k p] v X.env = pure none) (hv : PE X v (tE X W mv)) : PS X (.Assign [.Tuple us k p] v pos) (tS X W (tgtS t mv)) := by
  refine PS.imp (ps_asg hv hg (show swapsWith v (some (.Tuple us k p)) pos.line X.env = pure false from comp_swaps hc) hw) fun D σ H ⟨ρ, S, e, hE, hR, hP⟩ => ?_
  refine tM_st hE hR hP fun ρ1 S1 H1 d v _ s r1 hE1 rv hP1 => ?_
  cases hb : bindT t d e with
  | none => rw [hb] at hP1; exact hP1.elim
  | some e1 =>
    rw [hb] at hP1
    exact ⟨ρ1, S1, e, d, e1, hE1, r1, rv, hb, fun σ' hE2 _ _ => hP1.nx r1 hE2⟩
theorem ps_parS {x y : Str} {n m : Nat} {p q p2 p3 : Pos} {k k2 : Nat} (hc : X.calm = true) (hN : X.N.Nodup) (hi : X.N[n]? = some x) (hj : X.N[m]? = some y) (hij : n ≠ m) (hx : X.env.scope.names.lookup x = some .local) (hy : X.env.scope.names.lookup y = some .local)
    (hst : hasStar [a, b] = false) (hw : swappedStores [.Tuple [.Name x p, .Name y q] k p2] (.Tuple [a, b] k2 p3) X.env = pure (some [x, y])) (ha : PE X a (tE X W ma)) (hb : PE X b (tE X W mb)) :
    PS X (.Assign [.Tuple [.Name x p, .Name y q] k p2] (.Tuple [a, b] k2 p3) pos) (tS X W (parS n m ma mb)) := by
  refine PS.imp (ps_par hc hN hi hj hij hx hy (pa_cons ha (pa_cons hb pa_nil (star_cons (star_tail hst))) (star_cons hst)) hw rfl) fun D σ H ⟨ρ, S, e, hE, hR, hP⟩ => ?_
  refine tM_st hE hR hP fun ρ1 S1 H1 d1 v1 _ s1 r1 hE1 rv1 hP1 => ?_
  refine tM_st hE1 r1 hP1 fun ρ2 S2 H2 d2 v2 _ s2 r2 hE2 rv2 hP2 => ?_
  exact ⟨v1, v2, rfl, hP2.nx r2 ((hE2.set n (Rp.keep r1 s2 rv1)).set m rv2)⟩
/-- o[i] = v, by values -/
theorem set_dict (hu : X.A.units + 1 < cLine) : PSet X (fun o i v H Q => ∃ a H', o = .ref a ∧ DPut H a i v H' ∧ Q H') := by
  intro pins s σ H o i v ov iv u Q I ro ri rv q
  obtain ⟨a, H', rfl, g, q⟩ := q
  obtain rfl : ov = Value.ref a := ro
  exact d_setItem hu I g ri rv fun s4 I4 => ⟨H', I4, q⟩
theorem PSet.or {t t' : TSet} (h : PSet X t) (h' : PSet X t') : PSet X (fun o i v H Q => t o i v H Q ∨ t' o i v H Q) := by
  intro pins s σ H o i v ov iv u Q I ro ri rv q
  rcases q with q | q
  · exact h pins s σ H o i v ov iv u Q I ro ri rv q
  · exact h' pins s σ H o i v ov iv u Q I ro ri rv q
theorem putK_of {K : PySem.W.Frag} {ρ : List Addr} {H : Hp} {kvs : List (Key × D)} {ws : List (Key × V)} {k : Key} {d : D} {v : V} (h : KvR ρ K H kvs ws) (r : Rp ρ K H d v) : KvR ρ K H (putKD k d kvs) (putK ws k v) := by
  have any_eq : ∀ {kvs : List (Key × D)} {ws : List (Key × V)}, kvs.map (·.1) = ws.map (·.1) → (kvs.any fun kv => decide (kv.1 = k)) = (ws.any fun kv => decide (kv.1 = k)) := by
    intro kvs
    induction kvs with
    | nil => intro ws h; cases ws with | nil => rfl | cons _ _ => simp at h
    | cons p kvs ih =>
      intro ws h
      cases ws with
      | nil => simp at h
      | cons w ws =>
        simp only [List.map_cons, List.cons.injEq] at h
        simp only [List.any_cons, h.1, ih h.2]
  unfold putKD putK
  rw [any_eq h.1]
  by_cases c : (ws.any fun kv => decide (kv.1 = k)) = true
  · rw [if_pos c, if_pos c]
    have go : ∀ {kvs : List (Key × D)} {ws : List (Key × V)}, KvR ρ K H kvs ws → KvR ρ K H (kvs.map fun kv => if kv.1 = k then (kv.1, d) else kv) (ws.map fun kv => if kv.1 = k then (kv.1, v) else kv) := by
      intro kvs
      induction kvs with
      | nil => intro ws h; cases ws with | nil => exact ⟨rfl, Rps.nil⟩ | cons _ _ => simp [KvR] at h
      | cons p kvs ih =>
        intro ws h
        cases ws with
        | nil => simp [KvR] at h
        | cons w ws =>
          obtain ⟨h1, h2⟩ := h
          simp only [List.map_cons, List.cons.injEq] at h1
          simp only [List.map_cons, Rps] at h2
          obtain ⟨u, rr, eq, h3, h4⟩ := h2
          injection eq with e1 e2
          obtain ⟨g1, g2⟩ := ih (ws := ws) ⟨h1.2, e2 ▸ h4⟩
          by_cases z : p.1 = k
          · refine ⟨?_, ?_⟩
            · simp only [List.map_cons, if_pos z, if_pos (h1.1 ▸ z : w.1 = k), h1.1, g1]
            · simp only [List.map_cons, if_pos z, if_pos (h1.1 ▸ z : w.1 = k)]
              exact Rps.cons r g2
          · have z' : ¬ w.1 = k := fun q => z (h1.1.trans q)
            refine ⟨?_, ?_⟩
            · simp only [List.map_cons, if_neg z, if_neg z', h1.1, g1]
            · simp only [List.map_cons, if_neg z, if_neg z']
              exact Rps.cons (e1 ▸ h3) g2
    exact go h
  · rw [if_neg c, if_neg c]
    refine ⟨by simp [h.1], ?_⟩
    rw [List.map_append, List.map_append]
    exact h.2.append (Rps.cons r Rps.nil)
theorem set_of {d1 d2 d3 : D} {v1 v2 v3 : V} {S2 : Sto} {Q : Hp → Prop} (r : Rel ρ X.K H S) (p1 : Rp ρ X.K H d1 v1) (p2 : Rp ρ X.K H d2 v2) (p3 : Rp ρ X.K H d3 v3) (h : setIx d1 d2 d3 S = some S2)
    (k : ∀ H2, Stp ρ S H ρ S2 H2 → Rel ρ X.K H2 S2 → Q H2) : rSetL v1 v2 v3 H Q ∨ ∃ a H', v1 = .ref a ∧ DPut H a v2 v3 H' ∧ Q H' := by
  cases d1 with
  | ref m =>
    simp only [Rp] at p1
    obtain ⟨a, rfl, ha⟩ := p1
    simp only [setIx] at h
    cases hm : S[m]? with
    | none => rw [hm] at h; cases h
    | some ob =>
      rw [hm] at h
      cases ob with
      | lst xs =>
        cases d2 with
        | int kk =>
          simp only at h
          simp only [Rp] at p2
          cases hx : ixN xs.length kk with
          | none => rw [hx] at h; cases h
          | some jj =>
            rw [hx] at h
            simp only [Option.some.injEq] at h
            subst h
            obtain ⟨vs, e, t⟩ := r.lst hm ha
            obtain ⟨r1, s1⟩ := r.write (o' := .lst (xs.set jj d3)) (u := .lst (vs.set jj v3)) ha hm rfl rfl trivial fun st => ⟨_, upd_same, Rps.keep r st (t.set p3 jj)⟩
            exact .inl ⟨a, vs, kk, jj, rfl, p2, e, by rw [← t.len]; exact hx, k _ s1 r1⟩
        | _ => cases h
      | ro xs => cases h
      | dK kvs =>
        simp only at h
        cases hk : keyOf d2 with
        | none => rw [hk] at h; cases h
        | some q =>
          rw [hk] at h
          simp only at h
          split at h
          · rename_i hl
            simp only [Option.some.injEq] at h
            subst h
            obtain ⟨ws, e, kv⟩ := r.ob m _ a hm ha
            have hl2 : ws.length < sizeLine := by
              rw [← List.length_map (f := (·.1)), ← kv.1, List.length_map]; exact hl
            obtain ⟨r1, s1⟩ := r.write (o' := .dK (putKD q d3 kvs)) (u := .dK (putK ws q v3)) ha hm rfl rfl trivial fun st => ⟨_, upd_same, by
              obtain ⟨g1, g2⟩ := putK_of (k := q) kv p3
              exact ⟨g1, Rps.keep r st g2⟩⟩
            exact .inr ⟨a, _, rfl, by rw [key_of hk p2]; exact DPut.k e hl2, k _ s1 r1⟩
          · cases h
  | _ => cases h
theorem ps_putS {p : Pos} (hu : X.A.units + 64 < cLine) (ho : PE X o (tE X W mo)) (hi : PE X i (tE X W mi)) (hv : PE X v (tE X W mv))
    (ha : ∀ v, assign (.Subscript o i p) X.env v = (do
      let ov ← holding [v] (eval o X.env)
      let iv ← holding [v, ov] (eval i X.env)
      standAt p
      holding [v, ov, iv] (setItem ov iv v)
      release [v, ov, iv] [])) : PS X (.Assign [.Subscript o i p] v pos) (tS X W (putS mo mi mv)) := by
  have hsw : swapsWithSole [.Subscript o i p] v pos.line X.env = pure false := by
    show swapsWith v (some (.Subscript o i p)) pos.line X.env = pure false
    unfold swapsWith
    cases v <;> rfl
  refine PS.imp (ps_asg hv (pg_sub ho hi (PSet.or set_list (set_dict (by omega))) ha) hsw (by unfold swappedStores; cases v <;> rfl)) fun D σ H ⟨ρ, S, e, hE, hR, hP⟩ => ?_
  refine tM_st hE hR hP fun ρ1 S1 H1 d1 v1 _ s1 r1 hE1 rv1 hP1 => ?_
  refine tM_st hE1 r1 hP1 fun ρ2 S2 H2 d2 v2 _ s2 r2 hE2 rv2 hP2 => ?_
  refine tM_st hE2 r2 hP2 fun ρ3 S3 H3 d3 v3 _ s3 r3 hE3 rv3 hP3 => ?_
  cases hs : setIx d2 d3 d1 S3 with
  | none => rw [hs] at hP3; exact hP3.elim
  | some S4 =>
    rw [hs] at hP3
    exact set_of r3 (Rp.keep r2 s3 rv2) rv3 (Rp.keep r2 s3 (Rp.keep r1 s2 rv1)) hs fun H4 s4 r4 => (PostO.later r3 s4 r4 hP3).nx r4 (hE3.keep r3 s4)
theorem ip_mul : PIp X .Mult (rI mulOk fun i j => .int (i * j)) := fun pins s σ H x y v u Q I rx ry h => imul_rule pins s σ H x y v u Q I rx ry h
theorem ip_fdiv : PIp X .FloorDiv (rI (fun _ j => j ≠ 0 ∧ j.natAbs.log2 < 9000) fun i j => .int (i.fdiv j)) := fun pins s σ H x y v u Q I rx ry h => ifdiv_rule pins s σ H x y v u Q I rx ry h
theorem ps_augS {x : Str} {n : Nat} {p : Pos} {op : Operator} (hop : op = .Add ∨ op = .Sub ∨ op = .Mult ∨ op = .FloorDiv) (hN : X.N.Nodup) (hi : X.N[n]? = some x) (hx : X.env.scope.names.lookup x = some .local) (hv : PE X v (tE X W mv)) : PS X (.AugAssign (.Name x p) op v pos) (tS X W (augS n op mv)) := by
  have go : ∀ {ti : TIp}, PIp X op ti → (∀ {ρ : List Addr} {S : Sto} {H : Hp} {D : Ends} {W : WX} {e : En} {i j : Int} {Q : VK}, Rel ρ X.K H S → PostO X ρ S H ((binop op (.int i) (.int j) S).st e fun z S2 => .nx (e.set n (some z)) S2) D W → (∀ z, PostO X ρ S H (.nx (e.set n (some (.int z))) S) D W → Q (.int z) H) → ti (.int i) (.int j) H Q) →
      PS X (.AugAssign (.Name x p) op v pos) (tS X W (augS n op mv)) := by
    intro ti hti hr
    refine PS.imp (ps_aug hN hi (.inl hx) hv hti (.inr hx)) fun D σ H ⟨ρ, S, e, hE, hR, hP⟩ => ?_
    unfold augS at hP
    cases q : e[n]? with
    | none => rw [q] at hP; exact hP.elim
    | some od =>
      cases od with
      | none => rw [q] at hP; exact hP.elim
      | some d0 =>
        rw [q] at hP
        simp only at hP
        obtain ⟨v0, e0, rv0⟩ := hE.at_ n d0 q
        refine ⟨v0, e0, ?_⟩
        refine tM_st hE hR hP fun ρ1 S1 H1 d1 v1 _ s1 r1 hE1 rv1 hP1 => ?_
        have rv0' := Rp.keep hR s1 rv0
        cases d0 with
        | int i =>
          cases d1 with
          | int j =>
            simp only [RvD, Rp] at rv0' rv1
            subst rv0'
            subst rv1
            exact hr r1 hP1 fun z hz => hz.nx r1 (hE1.set n (by simp only [Rp]))
          | _ => exact hP1.elim
        | _ => exact hP1.elim
  rcases hop with rfl | rfl | rfl | rfl
  · exact go L2.ip_add fun r h k => ⟨_, _, rfl, rfl, k _ h⟩
  · exact go L2.ip_sub fun r h k => ⟨_, _, rfl, rfl, k _ h⟩
  · refine go ip_mul fun {ρ S H D W e i j Q} r h k => ?_
    simp only [binop] at h
    by_cases c : mulOk i j
    · rw [if_pos c] at h; exact ⟨i, j, rfl, rfl, c, k _ h⟩
    · rw [if_neg c] at h; exact h.elim
  · refine go ip_fdiv fun {ρ S H D W e i j Q} r h k => ?_
    simp only [binop] at h
    by_cases c : j ≠ 0 ∧ j.natAbs.log2 < 9000
    · rw [if_pos c] at h; exact ⟨i, j, rfl, rfl, c, k _ h⟩
    · rw [if_neg c] at h; exact h.elim
theorem ps_ifS {as bs : List Stmt} (ht : PT X c (tT X W mt)) (ha : PSs X as (tS X W sa)) (hb : PSs X bs (tS X W sb)) : PS X (.If c as bs pos) (tS X W (ifS mt sa sb)) := by
  refine PS.imp (ps_if ht ha hb) fun D σ H ⟨ρ, S, e, hE, hR, hP⟩ => ?_
  refine tM_st hE hR hP fun ρ1 S1 H1 d1 v1 _ s1 r1 hE1 rv1 hP1 => ?_
  obtain rfl : d1 = v1 := rv1
  cases d1 with
  | true => rw [if_pos rfl]; exact ⟨ρ1, S1, e, hE1, r1, hP1⟩
  | false => rw [if_neg Bool.false_ne_true]; exact ⟨ρ1, S1, e, hE1, r1, hP1⟩
theorem ps_retS (ha : PE X a (tE X W ma)) : PS X (.Return (some a) pos) (tS X W (retS ma)) := by
  refine PS.imp (ps_ret ha) fun D σ H ⟨ρ, S, e, hE, hR, hP⟩ => ?_
  exact tM_st hE hR hP fun ρ1 S1 H1 d1 v1 _ s1 r1 hE1 rv1 hP1 => hP1 ρ1 H1 v1 (Stp.refl _ _ _) r1 rv1
theorem ps_retNS : PS X (.Return none pos) (tS X W retN) := PS.imp ps_retN fun D σ H ⟨ρ, S, e, hE, hR, hP⟩ => hP ρ H .non (Stp.refl _ _ _) hR (by simp only [Rp])
theorem ps_passS : PS X (.Pass pos) (tS X W nxS) := PS.imp ps_pass fun D σ H ⟨ρ, S, e, hE, hR, hP⟩ => hP.nx hR hE
theorem ps_brkS : PS X (.Break pos) (tS X W brkS) := PS.imp ps_break fun D σ H ⟨ρ, S, e, hE, hR, hP⟩ => hP ρ H σ (Stp.refl _ _ _) hR hE
theorem ps_cntS : PS X (.Continue pos) (tS X W cntS) := PS.imp ps_continue fun D σ H ⟨ρ, S, e, hE, hR, hP⟩ => hP ρ H σ (Stp.refl _ _ _) hR hE
theorem ps_whileS {as : List Stmt} (hp : PassesOwn (model X.prog X.w) X.A X.env X.xe) (ht : PT X c (tT X W mt)) (ha : PSs X as (tS X W sa)) : PS X (.While c as [] pos) (tS X W (whileS mt sa)) := by
  refine PS.imp (ps_while hp ht ha) fun D σ H ⟨ρ, S, e, hE, hR, hP⟩ => ?_
  unfold whileS at hP
  split at hP
  · rename_i hn
    obtain ⟨n, hn'⟩ : ∃ n, n = hn.choose := ⟨_, rfl⟩
    have hns := hn.choose_spec
    rw [← hn'] at hP hns
    refine ⟨fun m σ' H' => ∃ ρ' S' e', Stp ρ S H ρ' S' H' ∧ Rel ρ' X.K H' S' ∧ EnvR ρ' X.K H' e' σ' ∧ whileN mt sa m e' S' = whileN mt sa n e S, ⟨n, ρ, S, e, Stp.refl _ _ _, hR, hE, rfl⟩, ?_⟩
    rintro m σ' H' ⟨ρ', S', e', st, r', hE', eq⟩
    cases m with
    | zero => exact absurd (eq.symm.trans (by simp only [whileN])) hns
    | succ m =>
      rw [← eq] at hP hns
      have hP' := PostO.later hR st r' hP
      simp only [whileN] at hP' hns eq
      refine tM_st hE' r' hP' fun ρ1 S1 H1 k v1 q s1 r1 hE1 rv1 hP1 => ?_
      obtain rfl : k = v1 := rv1
      rw [q] at eq
      simp only [R.st_ok] at eq
      cases k with
      | false =>
        simp only [if_neg Bool.false_ne_true]
        exact hP1.nx r1 hE1
      | true =>
        simp only [cond_true] at eq hP1
        rw [if_pos rfl]
        refine ⟨fun σ' H' => ∃ ρ' S' e', Stp ρ S H ρ' S' H' ∧ Rel ρ' X.K H' S' ∧ EnvR ρ' X.K H' e' σ' ∧ whileN mt sa m e' S' = whileN mt sa n e S, fun σ' H' z => ⟨m, Nat.lt_succ_self m, z⟩, ρ1, S1, e', hE1, r1, ?_⟩
        cases hb : sa e' S1 with
        | nx e2 S2 =>
          rw [hb] at eq
          exact fun ρ2 H2 σ2 s2 r2 hE2 => ⟨ρ2, S2, e2, ((st.trans hR r' s1).trans hR r1 s2), r2, hE2, eq⟩
        | cnt e2 S2 =>
          rw [hb] at eq
          exact fun ρ2 H2 σ2 s2 r2 hE2 => ⟨ρ2, S2, e2, ((st.trans hR r' s1).trans hR r1 s2), r2, hE2, eq⟩
        | brk e2 S2 => rw [hb] at hP1; exact hP1
        | ret d S2 => rw [hb] at hP1; exact hP1
        | exc x e2 S2 => rw [hb] at hP1; exact hP1
        | no => rw [hb] at hP1; exact hP1
  · exact hP.elim
end
end Py
namespace Py
open PySem PySem.Spec L2
section
variable {env : Env}
theorem fold_any_star : ∀ {vs : List Expr}, hasStar vs = false → (vs.any fun | .Starred .. => true | _ => false) = false
  | [], _ => rfl
  | v :: vs, h => by
    cases v <;> first | (simp only [List.any_cons, Bool.false_or]; exact fold_any_star (vs := vs) h) | cases h
theorem swap_two {x y : Str} {p q p2 p3 : Pos} {k k2 : Nat} {a b : Expr} (hk : env.scope.kind = .function) (hx : env.scope.names.lookup x = some .local) (hy : env.scope.names.lookup y = some .local) (hl : (p.line == q.line) = true) (hxy : x ≠ y)
    (hs : hasStar [a, b] = false) (hf : [a, b].all (foldedForSure 8) = false) (hc : [a, b].all (constantsAlone 8) = false) : swappedStores [.Tuple [.Name x p, .Name y q] k p2] (.Tuple [a, b] k2 p3) env = pure (some [x, y]) := by
  have hb : env.blockKind = .function := by unfold Env.blockKind; rw [hk]; rfl
  have kx : env.kindOf x = some .local := hx
  have ky : env.kindOf y = some .local := hy
  have st := fold_any_star hs
  have e1 : ([Expr.Name x p, Expr.Name y q].filterMap fun
    | .Name id pos => if env.kindOf id == some .local && pos.line == p.line then some id else none
    | _ => none) = [x, y] := by
    have hl' : q.line = p.line := by simp at hl; exact hl.symm
    simp [List.filterMap_cons, kx, ky, hl']
  have e2 : [x, y].eraseDups.length = 2 := by
    have : (x == y) = false := by simpa using hxy
    simp [List.eraseDups_cons, List.filter_cons, this, hxy, Ne.symm hxy]
  unfold swappedStores
  simp only [hf, hc, hb]
  generalize hq : List.any [a, b] _ = zz
  have eq : zz = false := hq.symm.trans st
  subst eq
  generalize hz : List.filterMap _ [Expr.Name x p, Expr.Name y q] = z
  have ez : z = [x, y] := hz.symm.trans e1
  subst ez
  simp [e2]
theorem part_none {ts vs : List Expr} {k k2 : Nat} {p p2 : Pos} (h : (decide (4 ≤ ts.length) || decide (ts.length ≠ vs.length) || vs.all (foldedForSure 8) || ts.any (fun t => match t with
    | .Name x _ => !isLoc (env.scope.names.lookup x)
    | _ => true)) = true) : swappedStores [.Tuple ts k p] (.Tuple vs k2 p2) env = pure none := by
  unfold swappedStores
  simp only [pure_bind]
  split
  · rfl
  rename_i h1
  split
  · rfl
  rename_i h2
  split
  · rfl
  rename_i h3
  split
  · rfl
  rename_i h4
  exfalso
  simp only [Bool.or_eq_true, decide_eq_true_eq] at h
  rcases h with ((h | h) | h) | h
  · apply h1
    simp
    omega
  · apply h1
    simp
    omega
  · exact h4 h
  · apply h3
    have lt : ∀ {f : Expr → Option Str} {ts : List Expr}, (∃ t ∈ ts, f t = none) → (ts.filterMap f).length < ts.length := by
      intro f ts
      induction ts with
      | nil => rintro ⟨t, ht, _⟩; cases ht
      | cons t ts ih =>
        rintro ⟨u, hu, e⟩
        rw [List.filterMap_cons]
        rcases List.mem_cons.mp hu with rfl | hu
        · rw [e]
          exact Nat.lt_succ_of_le (List.length_filterMap_le _ _)
        · have := ih ⟨u, hu, e⟩
          cases f t with
          | none => exact Nat.lt_succ_of_lt this
          | some z => exact Nat.succ_lt_succ this
    obtain ⟨t, ht, q⟩ := List.any_eq_true.mp h
    simp only [Bool.or_eq_true, bne_iff_ne, ne_eq]
    refine .inl (Nat.ne_of_lt (lt ⟨t, ht, ?_⟩))
    cases t <;> first | rfl | skip
    rename_i x px
    simp only at q
    have : ¬ (env.kindOf x = some .local) := fun z => by
      have z' : List.lookup x env.scope.names = some .local := z
      rw [z'] at q
      cases q
    simp [this]
end
end Py
namespace Py
open PySem PySem.Spec L2
/-! ## 17. The expressions of a def -/
/-- the names of builtins that a law's module leaves alone -/
def blNames : List Str := bltn ++ typs ++ ([("isinstance" : Str), ("range" : Str), ("enumerate" : Str), ("zip" : Str)] : List Str)
structure CfgE (X : Cx) (c : Cfg) (W : WX) : Prop where
  nm : NmOk X c
  kind : c.sc.kind = .function
  calm : X.calm = true
  units : X.A.units + 64 < cLine
  tk : Takes X W
  fns : ∀ f q, c.fns.lookup f = some q → FnHas X f q
  bl : ∀ f ∈ blNames, X.mg f = none
  cons : ∀ x d, c.cons.lookup x = some d → ∃ (v : V) (u : Value), X.mg x = some u ∧ RelV v u ∧ ∀ ρ H S, Rel ρ X.K H S → Rp ρ X.K H d v
  err : c.err = none
theorem CfgE.blk {X : Cx} {c : Cfg} {W : WX} (h : CfgE X c W) {scope : Scope} (hk : scope.kind = .function) (s : Shared) (H : Hp) (C : Addr) (cl : List (Str × Addr)) (fp : List Addr) :
    CfgE (X.blk s H scope (compEnvC scope cl C X.env) fp) { c with sc := blkSc scope c.sc } WF where
  nm := ⟨h.nm.N, by
    show relabel scope X.env = blkSc scope c.sc
    unfold relabel blkSc Env.kindOf
    rw [h.nm.sc], h.nm.nd⟩
  kind := hk
  calm := h.calm
  units := h.units
  tk := fun u s' ⟨a, B, sI, pins, σ, H, cls, d, e, I, nb, up, sky, na, os, ag, w⟩ => w.elim
  fns := fun f q e => ⟨(h.fns f q e).ex⟩
  bl := h.bl
  cons := h.cons
  err := h.err
section
variable {X : Cx} {c : Cfg} {W : WX}
theorem pa_argsM {f : Expr → M D} (h : ∀ e, PE X e (tE X W (f e))) : ∀ {es : List Expr}, hasStar es = false → PA X es (tA X W (argsM (es.map f)))
  | [], _ => pa_nilA
  | e :: es, hs => pa_consA (h e) (pa_argsM h (es := es) (star_tail hs)) (star_cons hs)
theorem pk_argsM {f : Expr → M D} (h : ∀ e, PE X e (tE X W (f e))) : ∀ {kws : List Keyword}, PK X kws (tA X W (argsM (kws.map fun k => f k.value)))
  | [] => pk_nilA
  | ⟨nm, v, kp⟩ :: kws => pk_consA (h v) (pk_argsM h (kws := kws))
theorem argsM_len : ∀ {ms : List (M D)} {en : En} {S S' : Sto} {d : List D}, argsM ms en S = .ok d S' → d.length = ms.length
  | [], en, S, S', d, h => by simp only [argsM, nilA] at h; cases h; rfl
  | m :: ms, en, S, S', d, h => by
    simp only [argsM, consA] at h
    cases q : m en S with
    | no => rw [q] at h; cases h
    | exc x S1 => rw [q] at h; cases h
    | ok y S1 =>
      rw [q] at h
      simp only [R.bind_ok] at h
      cases q2 : argsM ms en S1 with
      | no => rw [q2] at h; cases h
      | exc x S1 => rw [q2] at h; cases h
      | ok ys S2 =>
        rw [q2] at h
        simp only [R.bind_ok] at h
        cases h
        simp [argsM_len q2]
theorem pe_and {f : Expr → M D} (h : ∀ e, PE X e (tE X W (f e))) (pos : Pos) : ∀ (vs : List Expr), PE X (.BoolOp .And vs pos) (tE X W (andL (vs.map f)))
  | [] => pe_no
  | [a] => pe_one (h a)
  | a :: b :: r => pe_cons_and (h a) (pe_and h pos (b :: r))
theorem pe_or {f : Expr → M D} (h : ∀ e, PE X e (tE X W (f e))) (pos : Pos) : ∀ (vs : List Expr), PE X (.BoolOp .Or vs pos) (tE X W (orL (vs.map f)))
  | [] => pe_no
  | [a] => pe_one (h a)
  | a :: b :: r => pe_cons_or (h a) (pe_or h pos (b :: r))
theorem pw_and' {f : Expr → M Bool} (h : ∀ e, PT X e (tT X W (f e))) (pos : Pos) : ∀ (vs : List Expr), vs ≠ [] → PW X (.BoolOp .And vs pos) (tT X W (andTL (vs.map f)))
  | [], h => absurd rfl h
  | [a], _ => pw_and1 (h a)
  | a :: b :: r, _ => pw_cons_and (h a) (pw_and' h pos (b :: r) (by simp))
theorem pw_or' {f : Expr → M Bool} (h : ∀ e, PT X e (tT X W (f e))) (pos : Pos) : ∀ (vs : List Expr), vs ≠ [] → PW X (.BoolOp .Or vs pos) (tT X W (orTL (vs.map f)))
  | [], h => absurd rfl h
  | [a], _ => pw_or1 (h a)
  | a :: b :: r, _ => pw_cons_or (h a) (pw_or' h pos (b :: r) (by simp))
theorem pt_andL {f : Expr → M Bool} (h : ∀ e, PT X e (tT X W (f e))) (pos : Pos) (vs : List Expr) : PT X (.BoolOp .And vs pos) (tT X W (andTL (vs.map f))) := by
  cases vs with
  | nil => exact pt_no
  | cons a r => exact (pw_and' h pos (a :: r) (by simp)).pt
theorem pt_orL {f : Expr → M Bool} (h : ∀ e, PT X e (tT X W (f e))) (pos : Pos) (vs : List Expr) : PT X (.BoolOp .Or vs pos) (tT X W (orTL (vs.map f))) := by
  cases vs with
  | nil => exact pt_no
  | cons a r => exact (pw_or' h pos (a :: r) (by simp)).pt
theorem denCall_ok (h : CfgE X c W) {g : Expr → M D} (hg : ∀ e, PE X e (tE X W (g e))) (x : Str) (p pos : Pos) (args : List Expr) (kws : List Keyword) :
    PE X (.Call (.Name x p) args kws pos) (tE X W (denCall c x args kws (args.map g) (kws.map fun k => g k.value))) := by
  unfold denCall
  by_cases hc : (!c.glob x || hasStar args) = true
  · rw [if_pos hc]; exact pe_no
  rw [if_neg hc]
  simp only [Bool.or_eq_true, Bool.not_eq_true', not_or, Bool.not_eq_false, Bool.not_eq_true] at hc
  obtain ⟨hG, hst⟩ := hc
  obtain ⟨gl, nk⟩ := glob_of h.nm hG
  have hdb := (nameOk_d nk).1
  have pa := pa_argsM hg hst
  have hnil : args = [] → argsM (args.map g) = nilA := fun e => by subst e; rfl
  cases hq : c.fns.lookup x with
  | some q =>
    simp only
    by_cases cc : (!c.calm) = true
    · rw [if_pos cc]; exact pe_no
    rw [if_neg cc]
    have F := h.fns x q hq
    cases kws with
    | nil => exact pe_caE F h.tk gl hdb hst hnil pa
    | cons kw kws =>
      simp only
      cases hk : kwNames (kw :: kws) with
      | none => exact pe_no
      | some ks =>
        simp only
        cases hf : q.kws.find? fun p => decide (p.1 = (args.map g).length) && decide (p.2.1 = ks) with
        | none => exact pe_no
        | some pp =>
          obtain ⟨n, ks', pm⟩ := pp
          have e1 := List.find?_some hf
          have e2 := List.mem_of_find?_eq_some hf
          simp only [Bool.and_eq_true, decide_eq_true_eq, List.length_map] at e1
          obtain ⟨rfl, rfl⟩ := e1
          exact pe_ckE F e2 h.tk gl hdb hst hk hnil pa (pk_argsM hg) (fun en S d S' e => by have := argsM_len e; simpa using this) (fun en S d S' e => by have := argsM_len e; simpa using this)
  | none =>
    simp only
    cases kws with
    | cons kw kws => exact pe_no
    | nil =>
      cases args with
      | nil => exact pe_no
      | cons e0 es =>
        simp only
        by_cases hi : x = "isinstance"
        · rw [if_pos hi]
          subst hi
          cases es with
          | nil => exact pe_no
          | cons e1 es =>
            cases es with
            | cons e2 es => cases e1 <;> exact pe_no
            | nil =>
              cases e1 with
              | Name T pT =>
                simp only [List.map_cons, List.map_nil]
                by_cases ht : (decide (T ∈ typs) && c.glob T) = true
                · rw [if_pos ht]
                  simp only [Bool.and_eq_true, decide_eq_true_eq] at ht
                  obtain ⟨gT, nT⟩ := glob_of h.nm ht.2
                  have hs1 : hasStar [e0] = false := by
                    cases e0 <;> first | rfl | (simp [hasStar] at hst)
                  exact pe_isE ht.1 nT gT (h.bl _ (by simp [blNames, ht.1])) gl (h.bl _ (by simp [blNames])) hs1 (hg e0)
                · rw [if_neg ht]; exact pe_no
              | _ => exact pe_no
        · rw [if_neg hi]
          by_cases hb : (decide (x ∈ bltn) && (c.calm || !decide (x ∈ bltnC))) = true
          · rw [if_pos hb]
            simp only [Bool.and_eq_true, decide_eq_true_eq] at hb
            exact pe_biE hb.1 (fun _ => h.calm) nk gl (h.bl _ (by simp [blNames, hb.1])) hst pa
          · rw [if_neg hb]; exact pe_no

structure DenOk (n : Nat) : Prop where
  e : ∀ (X : Cx) (c : Cfg) (W : WX), CfgE X c W → ∀ e, PE X e (tE X W (denE c n e))
  t : ∀ (X : Cx) (c : Cfg) (W : WX), CfgE X c W → ∀ e, PT X e (tT X W (denT c n e))
  i : ∀ (X : Cx) (c : Cfg) (W : WX), CfgE X c W → ∀ tg e, PI X tg e (tI X W (denI c n tg e))
theorem isTrue_plain (e : Expr) (h : (match e with
    | .UnaryOp .Not _ _ => false
    | .BoolOp _ _ _ => false
    | .IfExp _ _ _ _ => false
    | .Compare _ _ _ _ => false
    | _ => true) = true) (env : Env) (whole : Sem Value) : isTrue e env whole = (do let v ← whole; standAt e.pos; holding [v] (truthy v)) := by
  cases e <;> first | rfl | cases h | skip
  rename_i op a p
  cases op <;> first | rfl | cases h
theorem step_sub {n : Nat} (ih : DenOk n) (h : CfgE X c W) (a i : Expr) (p : Pos) : PE X (.Subscript a i p) (tE X W (denE c (n + 1) (.Subscript a i p))) := by
  have g := ih.e X c W h
  cases i with
  | Slice lo hi st p2 =>
    cases st with
    | some z => exact pe_no
    | none =>
      refine pe_slE (g a) ?_ ?_
      · cases lo with
        | none => exact po_noP
        | some l => exact po_someP (g l)
      · cases hi with
        | none => exact po_noP
        | some l => exact po_someP (g l)
  | _ => exact pe_ixE h.units (g a) (g _) (fun _ _ => rfl)
theorem step_call {n : Nat} (ih : DenOk n) (h : CfgE X c W) (f : Expr) (args : List Expr) (kws : List Keyword) (pos : Pos) : PE X (.Call f args kws pos) (tE X W (denE c (n + 1) (.Call f args kws pos))) := by
  have g := ih.e X c W h
  cases f with
  | Name x p => exact denCall_ok h g x p pos args kws
  | Attribute o m apos =>
    simp only [denE]
    by_cases hc : (!hasStar args && (apos.endLine == pos.line) && decide (m ∈ mths) && decide (args.length < 29)) = true
    · rw [if_pos hc]
      simp only [Bool.and_eq_true, Bool.not_eq_true', decide_eq_true_eq] at hc
      obtain ⟨⟨⟨h1, h2⟩, h3⟩, hl⟩ := hc
      have hnil : args = [] → argsM (args.map (denE c n)) = nilA := fun e => by subst e; rfl
      cases kws with
      | cons _ _ => exact pe_no
      | nil =>
        cases o with
        | Name x px => exact pe_meE h3 rfl h2 h1 hl hnil (g _) (pa_argsM g h1)
        | Subscript x y px => exact pe_meE h3 rfl h2 h1 hl hnil (g _) (pa_argsM g h1)
        | _ => exact pe_no
    · rw [if_neg hc]; exact pe_no
  | _ => exact pe_no
def isSet : Expr → Bool
  | .Set _ _ _ => true
  | _ => false
theorem fold_plain {e : Expr} (h : isSet e = false) (env : Env) (x : Value) : foldedSetIterable e env x = pure x := by
  cases e <;> first | rfl | cases h
theorem denI_set {e : Expr} (h : isSet e = true) (n : Nat) (tg : Expr) (en : En) (S : Sto) : denI c n tg e en S = .no := by
  cases e <;> first | (cases h) | skip
  cases n with
  | zero => rfl
  | succ n => cases n <;> rfl
theorem PTs.imp {es : List Expr} {t t' : TT} (h : PTs X es t) (i : ∀ σ H Q, t' σ H Q → t σ H Q) : PTs X es t' := ⟨fun pins s σ H Q I q => h.run pins s σ H Q I (i σ H Q q)⟩
theorem lc_parts {n : Nat} (ih : DenOk n) (h : CfgE X c W) (el : Expr) (gs : List Comprehension) (scope : Scope) (pos : Pos) :
    denE c (n + 1) (.ListComp el gs scope pos) = noE ∨ ∃ tg iter ifs t tt, gs = [⟨tg, iter, ifs, 0⟩] ∧
      denE c (n + 1) (.ListComp el gs scope pos) = lcE (denI c n tg iter) t tt (denE { c with sc := blkSc scope c.sc } n el) ((ownOf c.N scope.names).map (·.2)) ∧ BlkOk X.N X.env.scope scope (ownOf c.N scope.names) ∧
      (∀ j ∈ slotsT t, j ∈ (ownOf c.N scope.names).map (·.2)) ∧
      (∀ (s : Shared) (H : Hp) (C : Addr) (cl : List (Str × Addr)) (fp : List Addr), PG (X.blk s H scope (compEnvC scope cl C X.env) fp) tg (gM X.K t)) ∧
      (∀ (s : Shared) (H : Hp) (C : Addr) (cl : List (Str × Addr)) (fp : List Addr), PTs (X.blk s H scope (compEnvC scope cl C X.env) fp) ifs (tT X WF tt)) ∧
      (∀ (s : Shared) (H : Hp) (C : Addr) (cl : List (Str × Addr)) (fp : List Addr), PE (X.blk s H scope (compEnvC scope cl C X.env) fp) el (tE X WF (denE { c with sc := blkSc scope c.sc } n el))) := by
  rcases gs with _ | ⟨⟨tg, iter, ifs, k⟩, _ | ⟨g2, gr⟩⟩
  · exact .inl rfl
  · by_cases hk : k = 0
    · subst hk
      simp only [denE]
      by_cases hb : (c.calm && blkC c.N c.sc scope (ownOf c.N scope.names)) = true
      · rw [if_pos hb]
        simp only [Bool.and_eq_true] at hb
        have ok : BlkOk X.N X.env.scope scope (ownOf c.N scope.names) := by
          rw [h.nm.N, h.nm.sc]; exact blkOk_by hb.2
        cases hf : (denTg { c with sc := blkSc scope c.sc } true 5 tg).filter (fun t => (slotsT t).all fun i => decide (i ∈ (ownOf c.N scope.names).map (·.2))) with
        | none => rcases ifs with _ | ⟨i, _ | ⟨i2, ir⟩⟩ <;> exact .inl rfl
        | some t =>
          obtain ⟨ht, hs⟩ := Option.filter_eq_some_iff.mp hf
          have hs' : ∀ j ∈ slotsT t, j ∈ (ownOf c.N scope.names).map (·.2) := by
            simpa only [List.all_eq_true, decide_eq_true_eq] using hs
          have cb := fun s H C cl fp => h.blk (scope := scope) ok.kind s H C cl fp
          have hg : ∀ (s : Shared) (H : Hp) (C : Addr) (cl : List (Str × Addr)) (fp : List Addr), PG (X.blk s H scope (compEnvC scope cl C X.env) fp) tg (gM X.K t) := fun s H C cl fp => pg_tg (cb s H C cl fp).nm (cb s H C cl fp).calm 5 tg t ht
          have he : ∀ (s : Shared) (H : Hp) (C : Addr) (cl : List (Str × Addr)) (fp : List Addr), PE (X.blk s H scope (compEnvC scope cl C X.env) fp) el (tE X WF (denE { c with sc := blkSc scope c.sc } n el)) := fun s H C cl fp => ih.e _ _ _ (cb s H C cl fp) el
          rcases ifs with _ | ⟨i, _ | ⟨i2, ir⟩⟩
          · refine .inr ⟨tg, iter, [], t, yesT, rfl, rfl, ok, hs', hg, fun s H C cl fp => PTs.imp pts_nil fun σ H Q ⟨ρ, S, e, hE, hR, hP⟩ => ?_, he⟩
            exact hP.ok hR rfl
          · exact .inr ⟨tg, iter, [i], t, _, rfl, rfl, ok, hs', hg, fun s H C cl fp => pts_one (ih.t _ _ _ (cb s H C cl fp) i), he⟩
          · exact .inl rfl
      · rw [if_neg hb]; exact .inl rfl
    · rcases k with (_ | k) | k
      · exact absurd rfl hk
      · exact .inl rfl
      · exact .inl rfl
  · rcases k with (_ | k) | k <;> exact .inl rfl
theorem step_lc {n : Nat} (ih : DenOk n) (h : CfgE X c W) (el : Expr) (gs : List Comprehension) (scope : Scope) (pos : Pos) :
    PE X (.ListComp el gs scope pos) (tE X W (denE c (n + 1) (.ListComp el gs scope pos))) := by
  rcases lc_parts ih h el gs scope pos with e | ⟨tg, iter, ifs, t, tt, rfl, e, ok, hs, hg, ht, he⟩
  · rw [e]; exact pe_no
  · rw [e]
    cases hi : isSet iter with
    | true =>
      refine PE.imp (pe_no (W := W)) fun σ H Q ⟨ρ, S, en, hE, hR, hP⟩ => ?_
      simp only [lcE, denI_set hi] at hP
      exact hP.elim
    | false => exact PE.imp (pe_lc h.calm (h.nm.N ▸ h.nm.nd) (ih.i X c W h tg iter) ok hg ht he (fold_plain hi X.env)) fun σ H Q q => tLc_of hs q
theorem step_e {n : Nat} (ih : DenOk n) (h : CfgE X c W) (e : Expr) : PE X e (tE X W (denE c (n + 1) e)) := by
  have g := ih.e X c W h
  have gt := ih.t X c W h
  cases e with
  | Name x p =>
    simp only [denE]
    cases hs : c.slot x with
    | some i =>
      obtain ⟨h1, h2, h3⟩ := slot_of h.nm hs
      exact pe_vE (pe_var h1 h2 (nameOk_d h3).1 (nameOk_d h3).2.1)
    | none =>
      simp only
      by_cases hg : c.glob x = true
      · rw [if_pos hg]
        obtain ⟨gl, nk⟩ := glob_of h.nm hg
        cases hd : c.cons.lookup x with
        | none => exact pe_no
        | some d =>
          obtain ⟨v, u, m1, r1, r2⟩ := h.cons x d hd
          refine PE.imp (pe_glob gl m1 r1 (nameOk_d nk).1) fun σ H Q ⟨ρ, S, en, hE, hR, hP⟩ => ?_
          exact hP.ok hR (r2 ρ H S hR)
      · rw [if_neg hg]; exact pe_no
  | Constant k j p =>
    cases k with
    | int i => exact pe_cE (fun ρ K H => by simp only [Rp]) pe_int
    | bool b => exact pe_cE (fun ρ K H => by simp only [Rp]) pe_bl
    | none => exact pe_cE (fun ρ K H => by simp only [Rp]) pe_non
    | str x => exact pe_cE (fun ρ K H => by simp only [Rp]) pe_str
    | _ => exact pe_no
  | BinOp a op b p =>
    simp only [denE]
    by_cases hm : (makes a || makes b) = true
    · rw [if_pos hm]; exact pe_gc (pe_bE op (g a) (g b))
    · rw [if_neg hm]; exact pe_bE op (g a) (g b)
  | UnaryOp op a p =>
    cases op with
    | USub => exact pe_negE (g a)
    | Not => exact pe_notE (g a)
    | _ => exact pe_no
  | BoolOp op vs p =>
    cases op with
    | And => exact pe_and g p vs
    | Or => exact pe_or g p vs
  | IfExp t a b p => exact pe_ifE (gt t) (g a) (g b)
  | Compare a ops bs p =>
    simp only [denE]
    split
    · rename_i op b
      by_cases hm : behindInMarks op b = true
      · rw [if_pos hm]; exact pe_no
      · rw [if_neg hm]
        have hm' : behindInMarks op b = false := by simpa using hm
        by_cases hk : (makes a || makes b) = true
        · rw [if_pos hk]; exact pe_gc (pe_kE h.units hm' (g a) (g b))
        · rw [if_neg hk]; exact pe_kE h.units hm' (g a) (g b)
    · rename_i op op' b d
      by_cases hm : lastMarks [op, op'] [b, d] = true
      · rw [if_pos hm]; exact pe_no
      · rw [if_neg hm]
        exact pe_chE h.units (by simpa using hm) (g a) (g b) (g d)
    · exact pe_no
  | Call f args kws pos => exact step_call ih h f args kws pos
  | Attribute o f p =>
    cases o with
    | Name x px => simp only [denE, h.err]; exact pe_no
    | _ => exact pe_no
  | Subscript a i p => exact step_sub ih h a i p
  | Tuple es k p =>
    simp only [denE]
    by_cases hs : hasStar es = true
    · rw [if_pos hs]; exact pe_no
    · rw [if_neg hs]; exact pe_tupE (pa_argsM g (by simpa using hs))
  | List es p =>
    simp only [denE]
    by_cases hs : hasStar es = true
    · rw [if_pos hs]; exact pe_no
    · rw [if_neg hs]; exact pe_lstE (pa_argsM g (by simpa using hs))
  | Dict ks vs p =>
    cases ks with
    | nil =>
      cases vs with
      | nil => exact pe_dctE
      | cons _ _ => exact pe_no
    | cons _ _ => exact pe_no
  | ListComp el gs scope p => exact step_lc ih h el gs scope p
  | _ => exact pe_no
theorem step_t {n : Nat} (ih : DenOk n) (h : CfgE X c W) (e : Expr) : PT X e (tT X W (denT c (n + 1) e)) := by
  have g := ih.e X c W h
  have gt := ih.t X c W h
  cases e with
  | UnaryOp op a p =>
    cases op with
    | Not => exact pt_notT (gt a)
    | _ => exact pt_trT (g _) (fun w => isTrue_plain _ rfl _ w)
  | BoolOp op vs p =>
    cases op with
    | And => exact pt_andL gt p vs
    | Or => exact pt_orL gt p vs
  | IfExp t a b p => exact pt_ifT (gt t) (gt a) (gt b)
  | Compare a ops bs p =>
    simp only [denT]
    split
    · rename_i op b
      by_cases hm : behindInMarks op b = true
      · rw [if_pos hm]; exact pt_no
      · rw [if_neg hm]
        have hm' : behindInMarks op b = false := by simpa using hm
        by_cases hk : (makes a || makes b) = true
        · rw [if_pos hk]; exact pt_ktT_gc h.units hm' (g a) (g b)
        · rw [if_neg hk]; exact pt_ktT h.units hm' (g a) (g b)
    · rename_i op op' b d
      by_cases hm : lastMarks [op, op'] [b, d] = true
      · rw [if_pos hm]; exact pt_no
      · rw [if_neg hm]
        exact pt_chT h.units (by simpa using hm) (g a) (g b) (g d)
    · exact pt_no
  | _ => exact pt_trT (g _) (fun w => isTrue_plain _ rfl _ w)
theorem step_i {n : Nat} (ih : DenOk n) (h : CfgE X c W) (tg e : Expr) : PI X tg e (tI X W (denI c (n + 1) tg e)) := by
  have g := ih.e X c W h
  simp only [denI]
  split
  · rename_i x p a pos
    by_cases h1 : x = "range"
    · rw [if_pos h1]
      subst h1
      by_cases hg : (c.glob "range" && !hasStar [a]) = true
      · rw [if_pos hg]
        simp only [Bool.and_eq_true, Bool.not_eq_true'] at hg
        obtain ⟨hg, hst⟩ := hg
        exact pi_rgI1 (glob_of h.nm hg).1 (h.bl _ (by simp [blNames])) hst (pa_consA (g a) pa_nilA (star_cons hst)) (fun en S d S' e => argsM_len (ms := [denE c n a]) e)
      · rw [if_neg hg]; exact pi_no
    · rw [if_neg h1]
      by_cases h2 : x = "enumerate"
      · rw [if_pos h2]
        subst h2
        cases tg with
        | Tuple us k tp =>
          simp only
          by_cases hg : (c.glob "enumerate" && !hasStar [a]) = true
          · rw [if_pos hg]
            simp only [Bool.and_eq_true, Bool.not_eq_true'] at hg
            obtain ⟨hg, hst⟩ := hg
            exact pi_enI (glob_of h.nm hg).1 (h.bl _ (by simp [blNames])) hst (g a)
          · rw [if_neg hg]; exact pi_no
        | _ => exact pi_no
      · rw [if_neg h2]
        by_cases h3 : x = "reversed"
        · rw [if_pos h3]; exact pi_no
        · rw [if_neg h3]; exact pi_itI (g _)
  · rename_i x p a b pos
    by_cases h1 : x = "range"
    · rw [if_pos h1]
      subst h1
      by_cases hg : (c.glob "range" && !hasStar [a, b]) = true
      · rw [if_pos hg]
        simp only [Bool.and_eq_true, Bool.not_eq_true'] at hg
        obtain ⟨hg, hst⟩ := hg
        exact pi_rgI2 (glob_of h.nm hg).1 (h.bl _ (by simp [blNames])) hst (pa_consA (g a) (pa_consA (g b) pa_nilA (star_cons (star_tail hst))) (star_cons hst)) (fun en S d S' e => argsM_len (ms := [denE c n a, denE c n b]) e)
      · rw [if_neg hg]; exact pi_no
    · rw [if_neg h1]
      by_cases h2 : x = "zip"
      · rw [if_pos h2]
        subst h2
        cases tg with
        | Tuple us k tp =>
          simp only
          by_cases hg : (c.glob "zip" && !hasStar [a, b]) = true
          · rw [if_pos hg]
            simp only [Bool.and_eq_true, Bool.not_eq_true'] at hg
            obtain ⟨hg, hst⟩ := hg
            exact pi_ziI (glob_of h.nm hg).1 (h.bl _ (by simp [blNames])) hst (g a) (g b)
          · rw [if_neg hg]; exact pi_no
        | _ => exact pi_no
      · rw [if_neg h2]; exact pi_itI (g _)
  · exact pi_itI (g _)
theorem den_ok : ∀ n : Nat, DenOk n
  | 0 => ⟨fun _ _ _ _ _ => pe_no, fun _ _ _ _ _ => pt_no, fun _ _ _ _ _ _ => pi_no⟩
  | n + 1 => ⟨fun _ _ _ h e => step_e (den_ok n) h e, fun _ _ _ h e => step_t (den_ok n) h e, fun _ _ _ h tg e => step_i (den_ok n) h tg e⟩
end
end Py
namespace Py
open PySem PySem.Spec L2
/-! ## 18. Statements of a def -/
theorem forG_cons {t : Tgt} {b : SM} {g : Guard} {x : D} {xs : List D} {e : En} {S : Sto} (h : forG t b g (x :: xs) e S ≠ .no) :
    guardOk g S ∧ ∃ e1, bindT t x e = some e1 ∧ forG t b g (x :: xs) e S = (match b e1 S with
      | .nx e2 S2 => forG t b g xs e2 S2
      | .cnt e2 S2 => forG t b g xs e2 S2
      | .brk e2 S2 => .nx e2 S2
      | r => r) := by
  simp only [forG] at h ⊢
  by_cases hg : guardOk g S
  · rw [if_pos hg] at h ⊢
    refine ⟨hg, ?_⟩
    cases hb : bindT t x e with
    | none => rw [hb] at h; exact absurd rfl h
    | some e1 => exact ⟨e1, rfl, rfl⟩
  · rw [if_neg hg] at h; exact absurd rfl h
theorem forG_guard {t : Tgt} {b : SM} {g : Guard} {xs : List D} {e : En} {S : Sto} (h : forG t b g xs e S ≠ .no) : guardOk g S := by
  cases xs with
  | cons x xs => exact (forG_cons h).1
  | nil =>
    simp only [forG] at h
    by_cases hg : guardOk g S
    · exact hg
    · rw [if_neg hg] at h; exact absurd rfl h
section
variable {X : Cx} {W : WX} {tg iter : Expr} {it : M Its} {t : Tgt} {as : List Stmt} {sa : SM} {pos : Pos}
theorem ps_forS (hp : PassesOwn (model X.prog X.w) X.A X.env X.xe) (hc : X.calm = true) (hi : PI X tg iter (tI X W it)) (hg : PG X tg (gM X.K t)) (hb : PSs X as (tS X W sa)) (hs : isSet iter = false) :
    PS X (.For tg iter as [] pos) (tS X W (forS it t sa)) := by
  refine PS.imp (ps_for hp hc hi hg hb (fold_plain hs X.env)) fun D σ H ⟨ρ, S, e, hE, hR, hP⟩ => ?_
  refine ⟨ρ, S, e, hE, hR, ?_⟩
  cases q : it e S with
  | no => simp only [forS, q] at hP; exact hP
  | exc x S1 =>
    simp only [forS, q] at hP
    exact fun ρ' H' cls dd s r ex => hP ρ' H' σ cls dd s r (hE.keep hR s) ex
  | ok j S1 =>
    simp only [forS, q, R.st_ok] at hP
    intro ρ1 H1 J st1 r1 hJ
    obtain ⟨G, Y, w, wG, wY⟩ := hJ
    have hP1 := PostO.later hR st1 r1 hP
    have nno : forG t sa j.g j.xs e S1 ≠ .no := fun z => by rw [z] at hP1; exact hP1
    refine for_it w (Pv := fun i σ' H' => ∃ ρ' S' e', Stp ρ1 S1 H1 ρ' S' H' ∧ Rel ρ' X.K H' S' ∧ EnvR ρ' X.K H' e' σ' ∧ forG t sa j.g j.xs e S1 = forG t sa j.g (j.xs.drop i) e' S') ?_ ?_ ?_ ?_
    · exact ⟨ρ1, S1, e, Stp.refl _ _ _, r1, hE.keep hR st1, rfl⟩
    · rintro i σ' H' _ ⟨ρ', S', e', st, r', _, eq⟩
      exact wG ρ' S' H' st r' (forG_guard (by rw [← eq]; exact nno))
    · rintro i x σ' H' H2 hi ⟨ρ', S', e', st, r', hE', eq⟩ y
      have hx : j.xs[i]? = some j.xs[i] := by simp [hi]
      have hdrop : j.xs.drop i = j.xs[i] :: j.xs.drop (i + 1) := List.drop_eq_getElem_cons hi
      rw [hdrop] at eq
      obtain ⟨hg, e1, hb, eq2⟩ := forG_cons (by rw [← eq]; exact nno)
      obtain ⟨r2, st2, rx, kp⟩ := wY i H' x H2 ρ' S' j.xs[i] hx st r' hg y
      have hE2 : EnvR ρ' X.K H2 e' σ' := hE'.keep r' st2
      have st3 := st.trans r1 r' st2
      have hP2 := PostO.later r1 st3 r2 hP1
      rw [eq, eq2] at hP2
      rw [eq2] at eq
      refine ⟨ρ', S', e', j.xs[i], e1, hE2, r2, rx, hb, fun σ2 hE3 l3 k3 => ⟨ρ', S', e1, hE3, r2, ?_⟩⟩
      cases hsa : sa e1 S' with
      | nx e2 S2 =>
        rw [hsa] at eq
        exact fun ρ2 H3 σ3 s2 r3 hE4 => ⟨ρ2, S2, e2, st3.trans r1 r2 s2, r3, hE4, eq⟩
      | cnt e2 S2 =>
        rw [hsa] at eq
        exact fun ρ2 H3 σ3 s2 r3 hE4 => ⟨ρ2, S2, e2, st3.trans r1 r2 s2, r3, hE4, eq⟩
      | brk e2 S2 => rw [hsa] at hP2; exact hP2
      | ret d S2 => rw [hsa] at hP2; exact hP2
      | exc z e2 S2 => rw [hsa] at hP2; exact hP2
      | no => rw [hsa] at hP2; exact hP2
    · rintro σ' H' ⟨ρ', S', e', st, r', hE', eq⟩
      rw [List.drop_length] at eq
      have hg := forG_guard (t := t) (b := sa) (xs := []) (g := j.g) (e := e') (S := S') (by rw [← eq]; exact nno)
      have e2 : forG t sa j.g [] e' S' = .nx e' S' := by simp only [forG]; rw [if_pos hg]
      rw [eq, e2] at hP1
      exact hP1 ρ' H' σ' st r' hE'
end
section
variable {X : Cx} {c : Cfg} {W : WX}
theorem pss_seqL {f : Stmt → SM} (h : ∀ st, PS X st (tS X W (f st))) : ∀ {sts : List Stmt}, PSs X sts (tS X W (seqL (sts.map f)))
  | [] => pss_nilS
  | st :: sts => pss_consS (h st) (pss_seqL h (sts := sts))
theorem ps_noS {st : Stmt} : PS X st (tS X W noS) := ps_no
theorem parOf_ok {ts vs : List Expr} {i j : Nat} (e : parOf c ts vs = some (i, j)) : ∃ x p y q a b, ts = [.Name x p, .Name y q] ∧ vs = [a, b] ∧ c.lslot x = some i ∧ c.lslot y = some j ∧ hasStar [a, b] = false ∧ (p.line == q.line) = true ∧ i ≠ j ∧ x ≠ y ∧
    [a, b].all (foldedForSure 8) = false ∧ [a, b].all (constantsAlone 8) = false := by
  unfold parOf at e
  split at e
  · rename_i x p y q a b
    split at e
    · rename_i i' j' h1 h2
      split at e
      · cases e
      · rename_i hn
        simp only [Option.some.injEq, Prod.mk.injEq] at e
        obtain ⟨rfl, rfl⟩ := e
        simp only [Bool.or_eq_true, Bool.not_eq_true', not_or, Bool.not_eq_true, decide_eq_true_eq, Bool.not_eq_false] at hn
        obtain ⟨⟨⟨⟨⟨n1, n2⟩, n3⟩, n4⟩, n5⟩, n6⟩ := hn
        exact ⟨x, p, y, q, a, b, rfl, rfl, h1, h2, n1, n2, n3, n4, n5, n6⟩
    · cases e
  · cases e
def plainV : Expr → Bool
  | .Tuple _ _ _ => false
  | _ => true
theorem swap_plain {us : List Expr} {k : Nat} {p : Pos} {v : Expr} {env : Env} (h : plainV v = true) : swappedStores [.Tuple us k p] v env = pure none := by
  unfold swappedStores
  cases v <;> first | rfl | cases h
theorem step_s {n : Nat} (h : CfgE X c W) (hp : PassesOwn (model X.prog X.w) X.A X.env X.xe) (ih : ∀ st, PS X st (tS X W (denS c n st))) (st : Stmt) : PS X st (tS X W (denS c (n + 1) st)) := by
  have g := (den_ok n).e X c W h
  have gt := (den_ok n).t X c W h
  have gi := (den_ok n).i X c W h
  have gs : ∀ sts : List Stmt, PSs X sts (tS X W (seqL (sts.map (denS c n)))) := fun sts => pss_seqL ih
  have hN : X.N.Nodup := h.nm.N ▸ h.nm.nd
  have hsc : X.env.scope = c.sc := h.nm.sc
  have tgt : ∀ {tg : Expr} {t : Tgt}, denTg c false 5 tg = some t → PG X tg (gM X.K t) := fun e => pg_tg h.nm h.calm 5 _ _ e
  cases st with
  | Expr e p =>
    simp only [denS]
    by_cases hc : isComp e = true
    · rw [if_pos hc]; exact ps_noS
    · rw [if_neg hc]; exact ps_exprS (by simpa using hc) (g e)
  | Assign ts v p =>
    rcases ts with _ | ⟨t, _ | ⟨t2, tr⟩⟩
    · exact ps_noS
    · cases t with
      | Name x px =>
        simp only [denS]
        cases hl : c.lslot x with
        | none => exact ps_noS
        | some i =>
          obtain ⟨l1, l2, l3⟩ := lslot_of h.nm hl
          have plain : ∀ {v : Expr}, isComp v = false → PS X (.Assign [.Name x px] v p) (tS X W (setS i (denE c n v))) := fun {v} hv => ps_setS hN l1 l2 hv (g v)
          cases v with
          | ListComp el gens scope pv =>
            simp only
            by_cases hc : (c.calm && (px.line == pv.line) && !(scope.names.any fun (n, k) => n == x && (k == .local || k == .cell))) = true
            · rw [if_pos hc]
              simp only [Bool.and_eq_true, Bool.not_eq_true'] at hc
              obtain ⟨⟨_, h2⟩, h3⟩ := hc
              have sw : ∀ gl, swapsWith (.ListComp el gl scope pv) (some (.Name x px)) p.line X.env = pure true := fun gl => sw_true (by rw [hsc]; exact h.kind) l2 h2 h3
              cases n with
              | zero => exact PS.imp (ps_no (W := W)) fun D σ H ⟨ρ, S, en, hE, hR, hP⟩ => ⟨ρ, S, en, hE, hR, hP⟩
              | succ n =>
                rcases lc_parts (den_ok n) h el gens scope pv with e | ⟨tg, iter, ifs, t, tt, rfl, e, ok, hs, hg, ht, he⟩
                · rw [e]
                  exact PS.imp (ps_no (W := W)) fun D σ H ⟨ρ, S, en, hE, hR, hP⟩ => ⟨ρ, S, en, hE, hR, hP⟩
                · rw [e]
                  cases hi : isSet iter with
                  | true =>
                    refine PS.imp (ps_no (W := W)) fun D σ H ⟨ρ, S, en, hE, hR, hP⟩ => ?_
                    simp only [setS, lcE, denI_set hi] at hP
                    exact hP.elim
                  | false =>
                    exact PS.imp (ps_setLc h.calm hN l1 l2 (sw _) ((den_ok n).i X c W h tg iter) ok hg ht he (fold_plain hi X.env)) fun D σ H ⟨ρ, S, en, hE, hR, hP⟩ =>
                      tLc_of hs (tM_st hE hR hP fun ρ1 S1 H1 d v _ s r1 hE1 rv hP1 => hP1.nx r1 (hE1.set i rv))
            · rw [if_neg hc]; exact ps_noS
          | SetComp _ _ _ _ => exact ps_noS
          | DictComp _ _ _ _ _ => exact ps_noS
          | _ => exact plain rfl
      | Tuple us k pt =>
        simp only [denS]
        by_cases hc : (!c.calm || isComp v) = true
        · rw [if_pos hc]; exact ps_noS
        · rw [if_neg hc]
          simp only [Bool.or_eq_true, Bool.not_eq_true', not_or, Bool.not_eq_false, Bool.not_eq_true] at hc
          have plain : ∀ {v : Expr}, isComp v = false → plainV v = true → PS X (.Assign [.Tuple us k pt] v p) (tS X W (match denTg c false 5 (.Tuple us k pt) with
              | some t => tgtS t (denE c n v)
              | none => noS)) := fun {v} hv hpl => by
            cases ht : denTg c false 5 (.Tuple us k pt) with
            | none => exact ps_noS
            | some t => exact ps_tgtS (tgt ht) hv (swap_plain hpl) (g v)
          cases v with
          | Tuple vs k2 p2 =>
            simp only
            cases hpar : parOf c us vs with
            | some ij =>
              obtain ⟨i, j⟩ := ij
              obtain ⟨x, px, y, py, a, b, rfl, rfl, h1, h2, n1, n2, n3, n4, n5, n6⟩ := parOf_ok hpar
              obtain ⟨a1, a2, a3⟩ := lslot_of h.nm h1
              obtain ⟨b1, b2, b3⟩ := lslot_of h.nm h2
              exact ps_parS h.calm hN a1 b1 n3 a2 b2 n1 (swap_two (by rw [hsc]; exact h.kind) a2 b2 n2 n4 n1 n5 n6) (g a) (g b)
            | none =>
              simp only
              by_cases hq : partOf c us (.Tuple vs k2 p2) = true
              · rw [if_pos hq]
                cases ht : denTg c false 5 (.Tuple us k pt) with
                | none => exact ps_noS
                | some t => exact ps_tgtS (tgt ht) rfl (part_none (by rw [hsc]; exact hq)) (g _)
              · rw [if_neg hq]; exact ps_noS
          | _ => exact plain hc.2 rfl
      | Subscript o i pt =>
        cases i with
        | Slice _ _ _ _ => exact ps_noS
        | _ => exact ps_putS h.units (g o) (g _) (g v) (fun _ => rfl)
      | _ => exact ps_noS
    · cases t <;> exact ps_noS
  | AugAssign t op v p =>
    cases t with
    | Name x px =>
      simp only [denS]
      cases hl : c.lslot x with
      | none => exact ps_noS
      | some i =>
        obtain ⟨l1, l2, l3⟩ := lslot_of h.nm hl
        simp only
        by_cases ho : (decide (op = .Add) || decide (op = .Sub) || decide (op = .Mult) || decide (op = .FloorDiv)) = true
        · rw [if_pos ho]
          simp only [Bool.or_eq_true, decide_eq_true_eq] at ho
          exact ps_augS (by rcases ho with ((ho | ho) | ho) | ho <;> simp [ho]) hN l1 l2 (g v)
        · rw [if_neg ho]; exact ps_noS
    | _ => exact ps_noS
  | If t a b p => exact ps_ifS (gt t) (gs a) (gs b)
  | While t a b p =>
    cases b with
    | nil => exact ps_whileS hp (gt t) (gs a)
    | cons _ _ => exact ps_noS
  | For tg it a b p =>
    cases b with
    | cons _ _ => exact ps_noS
    | nil =>
      simp only [denS]
      by_cases hc : (!c.calm) = true
      · rw [if_pos hc]; exact ps_noS
      · rw [if_neg hc]
        cases ht : denTg c false 5 tg with
        | none => exact ps_noS
        | some t =>
          cases hi : isSet it with
          | true =>
            refine PS.imp (ps_no (W := W)) fun D σ H ⟨ρ, S, en, hE, hR, hP⟩ => ?_
            simp only [forS, denI_set hi] at hP
            exact hP.elim
          | false => exact ps_forS hp h.calm (gi tg it) (tgt ht) (gs a) hi
  | Return v p =>
    cases v with
    | none => exact ps_retNS
    | some e => exact ps_retS (g e)
  | Pass p => exact ps_passS
  | Break p => exact ps_brkS
  | Continue p => exact ps_cntS
  | _ => exact ps_noS
theorem denS_ok (h : CfgE X c W) (hp : PassesOwn (model X.prog X.w) X.A X.env X.xe) : ∀ (n : Nat) (st : Stmt), PS X st (tS X W (denS c n st))
  | 0, _ => ps_noS
  | n + 1, st => step_s h hp (denS_ok h hp n) st
end
end Py
namespace Py
open PySem PySem.Spec L2 PyProof.Rows
/-! ## 19. Defs, and the law -/
section
variable {P : Program} {w : World} {K : PySem.W.Frag} {mg : Str → Option Value} {base : Heap}
/-- a def of the module as it may be called -/
structure FnAt (P : Program) (w : World) (K : PySem.W.Frag) (mg : Str → Option Value) (base : Heap) (k : Nat) (x : Str) (q : Callee) : Prop where
  ex : ∃ (a : Addr) (fd : FuncData), FnOk P w K mg base (L2.CX P w) k a fd q.ps (spM K mg q.run) ∧ mg x = some (.ref a) ∧ PySem.W.keepIn K (.ref a) = true ∧
    (∀ us : List Value, us.length = q.ps.length → bindArgs fd ⟨us, []⟩ = pure (q.ps.zip us)) ∧
    (∀ n ks pm, (n, ks, pm) ∈ q.kws → ∀ us ws : List Value, us.length = n → ws.length = ks.length → bindArgs fd ⟨us, ks.zip ws⟩ = pure (q.ps.zip (us ++ pm.map fun i => ws.getD i .none)) ∧ ∀ i ∈ pm, i < ks.length)
theorem FnAt.mono {j k : Nat} {x : Str} {q : Callee} (h : FnAt P w K mg base j x q) (l : j ≤ k) : FnAt P w K mg base k x q := by
  obtain ⟨a, fd, F, r⟩ := h.ex
  exact ⟨a, fd, F.mono l, r⟩
def Lib (P : Program) (w : World) (K : PySem.W.Frag) (mg : Str → Option Value) (base : Heap) (k : Nat) (fns : List (Str × Callee)) : Prop := ∀ p ∈ fns, FnAt P w K mg base k p.1 p.2
theorem Lib.nil {k : Nat} : Lib P w K mg base k [] := fun _ h => by cases h
theorem Lib.cons {j k : Nat} {x : Str} {q : Callee} {fns : List (Str × Callee)} (h : FnAt P w K mg base j x q) (l : Lib P w K mg base k fns) (hj : j ≤ k) : Lib P w K mg base k ((x, q) :: fns) := fun p hp => by
  rcases List.mem_cons.mp hp with rfl | hp
  · exact h.mono hj
  · exact l p hp
theorem Lib.mono {j k : Nat} {fns : List (Str × Callee)} (l : Lib P w K mg base j fns) (hj : j ≤ k) : Lib P w K mg base k fns := fun p hp => (l p hp).mono hj
theorem lookup_mem {β : Type} : ∀ {l : List (Str × β)} {x : Str} {b : β}, l.lookup x = some b → (x, b) ∈ l
  | (y, c) :: l, x, b, h => by
    rw [List.lookup_cons] at h
    split at h
    · rename_i e
      cases h
      have := eq_of_beq e
      subst this
      exact List.mem_cons_self
    · exact List.mem_cons_of_mem _ (lookup_mem h)
/-- what a module gives besides its defs -/
structure Mdl (K : PySem.W.Frag) (mg : Str → Option Value) (cons : List (Str × D)) : Prop where
  bl : ∀ f ∈ blNames, mg f = none
  cons : ∀ x d, cons.lookup x = some d → ∃ (v : V) (u : Value), mg x = some u ∧ RelV v u ∧ ∀ ρ H S, Rel ρ K H S → Rp ρ K H d v
theorem ok_den {x qual : Str} {st : Stmt} {f : Addr} {fd : FuncData} {N ps : List Str} {k : Nat} {fns : List (Str × Callee)} {cons : List (Str × D)} (F : Fun K x qual st f fd) (S : FnScope N ps (defScope st)) (L : Lib P w K mg base k fns) (M : Mdl K mg cons) :
    FnOk P w K mg base (L2.CX P w) (k + 1) f fd ps (spM K mg (denF N ps.length fns [] cons st)) := by
  have hlen : ∀ vs H Q E, spM K mg (denF N ps.length fns [] cons st) vs H Q E → vs.length = ps.length := fun vs H Q E ⟨ρ, T, ds, hR, hds, hP⟩ => by
    unfold denF fnR at hP
    by_cases hl : ds.length = ps.length
    · rw [← hds.len]; exact hl
    · rw [if_neg hl] at hP; exact hP.elim
  refine F.okX S hlen fun cdv A outer s H vs Q E hr h => ?_
  have hC : CfgE (cxOf (L2.CX P w) P w K mg base N qual (defScope st) f cdv A outer s H E) ⟨N, defScope st, true, fns, [], cons, none⟩ (fun cls d _ H' => E cls d H') :=
    { nm := ⟨rfl, rfl, S.nd⟩, kind := S.kind, calm := rfl, units := by have := hr.un; show (A.deeper _).units + 64 < cLine; omega, tk := takes_of rfl rfl rfl rfl,
      fns := fun g q e => by
        obtain ⟨a, fd', F', m, kp, b1, b2⟩ := (L _ (lookup_mem e)).ex
        exact ⟨k, a, fd', F', hr, m, kp, b1, b2⟩
      bl := M.bl, cons := M.cons, err := rfl }
  have hown : PassesOwn (model P w) (A.deeper (envOfC qual (defScope st) s.heap.objs.size f cdv)) (envOfC qual (defScope st) s.heap.objs.size f cdv) (cxOf (L2.CX P w) P w K mg base N qual (defScope st) f cdv A outer s H E).xe :=
    passes_of (X := cxOf (L2.CX P w) P w K mg base N qual (defScope st) f cdv A outer s H E) (K := fun e s'' => L2.CX P w outer H s E e s'') (E₁ := fun e' s'' => L2.CX P w outer H s E e' s'') rfl
  refine ⟨_, pss_seqL (fun st => denS_ok hC hown 40 st), ?_⟩
  have hvl := hlen _ _ _ _ h
  obtain ⟨ρ, T, ds, hR, hds, hP⟩ := h
  have hl : ds.length = ps.length := by rw [hds.len]; exact hvl
  refine ⟨ρ, T, ds.map some ++ List.replicate (N.length - ps.length) none, ⟨?_, ?_⟩, hR, ?_⟩
  · show _ = (vs.map some ++ List.replicate (N.length - vs.length) none).length
    simp [hl, hvl]
  · intro i d hi
    show ∃ v, (vs.map some ++ List.replicate (N.length - vs.length) none)[i]? = some (some v) ∧ _
    by_cases hil : i < ds.length
    · rw [List.getElem?_append_left (by simpa using hil), List.getElem?_map] at hi
      cases hd : ds[i]? with
      | none => rw [hd] at hi; cases hi
      | some d' =>
        rw [hd] at hi
        simp only [Option.map_some, Option.some.injEq] at hi
        subst hi
        obtain ⟨v, e, rv⟩ := hds.get hd
        refine ⟨v, ?_, rv⟩
        rw [List.getElem?_append_left (by rw [List.length_map, ← hds.len]; exact hil), List.getElem?_map, e]
        rfl
    · rw [List.getElem?_append_right (by simpa using Nat.le_of_not_lt hil)] at hi
      have := List.mem_of_getElem? hi
      have := (List.mem_replicate.mp this).2
      cases this
  · unfold denF fnR at hP
    rw [if_pos hl] at hP
    revert hP
    generalize seqL _ _ _ = r
    intro hP
    cases r with
    | nx e' S' => exact fun ρ' H' σ' s' r' _ => hP ρ' H' .non s' r' (by simp only [RvD, Rp])
    | ret d S' => exact fun ρ' H' v s' r' rv => hP ρ' H' v s' r' rv
    | brk _ _ => exact hP.elim
    | cnt _ _ => exact hP.elim
    | exc z e' S' => exact fun ρ' H' σ' cls dd s' r' _ ex => hP ρ' H' cls dd s' r' ex
    | no => exact hP.elim
/-- a def of the module: the facts of the top -/
structure DefAt (K : PySem.W.Frag) (x : Str) (st : Stmt) : Prop where
  ex : ∃ (f : Addr) (fd : FuncData), PySem.W.nsIn K mainGlobals x = some (some (.ref f)) ∧ Fun K x x st f fd ∧ ∃ (kV dc pm : Value) (an : Option Addr) (cd ct : Value), fd = PySem.W.fnOf x x (defArgs st) (defBody st) (defScope st) .none kV dc pm an cd ct
theorem defAt_mk {x : Str} {st : Stmt} {f : Addr} {od an : Option Addr} {sl : Array (Option Value)} {oc kV dc pm cd ct : Value} (a : PySem.W.nsIn K mainGlobals x = some (some (.ref f)))
    (l : K.lookup f = some ⟨oc, od, .func (PySem.W.fnOf x x (defArgs st) (defBody st) (defScope st) .none kV dc pm an cd ct), sl⟩) (c : PySem.W.codeIn K cd x = true) (k : PySem.W.keepIn K (.ref f) = true) : DefAt K x st :=
  ⟨f, _, a, fun_mk l c k, kV, dc, pm, an, cd, ct, rfl⟩
/-- how its arguments are bound -/
def BindOk (x : Str) (st : Stmt) (ps : List Str) : Prop := ∀ (kV dc pm : Value) (an : Option Addr) (cd ct : Value) (us : List Value), us.length = ps.length → bindArgs (PySem.W.fnOf x x (defArgs st) (defBody st) (defScope st) .none kV dc pm an cd ct) ⟨us, []⟩ = pure (ps.zip us)
def BindKw (x : Str) (st : Stmt) (ps : List Str) (kws : List (Nat × List Str × List Nat)) : Prop := ∀ n ks pm', (n, ks, pm') ∈ kws → ∀ (kV dc pm : Value) (an : Option Addr) (cd ct : Value) (us ws : List Value), us.length = n → ws.length = ks.length →
  bindArgs (PySem.W.fnOf x x (defArgs st) (defBody st) (defScope st) .none kV dc pm an cd ct) ⟨us, ks.zip ws⟩ = pure (ps.zip (us ++ pm'.map fun i => ws.getD i .none)) ∧ ∀ i ∈ pm', i < ks.length
theorem BindKw.nil {x : Str} {st : Stmt} {ps : List Str} : BindKw x st ps [] := fun _ _ _ h => by cases h
theorem fnAt_den {x : Str} {st : Stmt} {N ps : List Str} {k : Nat} {fns : List (Str × Callee)} {cons : List (Str × D)} {kws : List (Nat × List Str × List Nat)} {h : Heap} (X : K.In h) (G : h.Ns mainGlobals mg) (D : DefAt K x st) (S : FnScope N ps (defScope st))
    (b : BindOk x st ps) (b2 : BindKw x st ps kws) (L : Lib P w K mg base k fns) (M : Mdl K mg cons) : FnAt P w K mg base (k + 1) x ⟨ps, kws, denF N ps.length fns [] cons st⟩ := by
  obtain ⟨f, fd, a, F, kV, dc, pm, an, cd, ct, rfl⟩ := D.ex
  exact ⟨f, _, ok_den F S L M, PySem.W.mg_of X G a, F.kp, fun us hl => b kV dc pm an cd ct us hl, fun n ks pm' hm us ws h1 h2 => b2 n ks pm' hm kV dc pm an cd ct us ws h1 h2⟩
/-- a def that calls itself: n calls deep -/
theorem fnAt_zero {x : Str} {st : Stmt} {ps : List Str} {k : Nat} {kws : List (Nat × List Str × List Nat)} {h : Heap} (X : K.In h) (G : h.Ns mainGlobals mg) (D : DefAt K x st) (b : BindOk x st ps) (b2 : BindKw x st ps kws) :
    FnAt P w K mg base k x ⟨ps, kws, fun _ _ => .no⟩ := by
  obtain ⟨f, fd, a, F, kV, dc, pm, an, cd, ct, rfl⟩ := D.ex
  refine ⟨f, _, ⟨?_, ?_⟩, PySem.W.mg_of X G a, F.kp, fun us hl => b kV dc pm an cd ct us hl, fun n ks pm' hm us ws h1 h2 => b2 n ks pm' hm kV dc pm an cd ct us ws h1 h2⟩
  · intro vs H Q E ⟨ρ, T, ds, hR, hds, hP⟩; exact hP.elim
  · intro A outer s H args us vs Q E hr e0 hb r ⟨ρ, T, ds, hR, hds, hP⟩; exact hP.elim
/-- the law's promise, read off its meaning -/
theorem law_sp {ns : List Int} {H : Hp} {a : Addr} {run : List D → Sto → R D} (hO : Only H) (hS : SqL K H a (ns.map V.int)) (h : ∃ S', run [.ref 0] [.ro (ns.map D.int)] = .ok (.bl true) S') :
    spM K mg run [.ref a] H (fun v _ => v = .bl true) fun _ _ _ => False := by
  obtain ⟨S', e⟩ := h
  have rps : ∀ ns : List Int, Rps [a] K H (ns.map D.int) (ns.map V.int) := fun ns => by
    induction ns with
    | nil => exact Rps.nil
    | cons n ns ih => exact Rps.cons (by simp only [Rp]) ih
  refine ⟨[a], [.ro (ns.map D.int)], [.ref 0], ⟨rfl, ?_, ?_⟩, ?_, ?_⟩
  · intro i o b h1 h2
    cases i with
    | zero =>
      simp at h1 h2
      subst h1 h2
      refine ⟨ns.map V.int, ?_, rps ns⟩
      rcases hS with hS | ⟨o, its, n, k⟩
      · rcases hS with hS | ⟨o, hS⟩
        · rcases hO a with z | ⟨_, _, z⟩ <;> rw [z] at hS <;> cases hS
        · exact .inl ⟨o, hS⟩
      · exact .inr fun H' => .inr ⟨o, its, n, k⟩
    | succ i => simp at h1
  · intro i j b o1 o2 h1 h2 h3 h4 h5 h6
    cases i with
    | zero => simp at h3; subst h3; cases h5
    | succ i => simp at h3
  · exact Rps.cons (by simp only [Rp]; exact ⟨a, rfl, rfl⟩) Rps.nil
  · rw [e]
    intro ρ' H' v s' r' rv
    simp only [RvD, Rp] at rv
    exact rv
end
end Py
namespace Py
open PySem PySem.Spec L2 PyProof.Rows
/-- the law's promise, whatever the module's names stand for -/
def spL (K : PySem.W.Frag) (run : List D → Sto → R D) : Sp := fun vs H Q _ =>
  ∃ ρ S ds d S', Rel ρ K H S ∧ Rps ρ K H ds vs ∧ run ds S = .ok d S' ∧ ∀ ρ' H' v, Stp ρ S H ρ' S' H' → Rel ρ' K H' S' → Rp ρ' K H' d v → Q v H'
theorem spL_M {K : PySem.W.Frag} {mg : Str → Option Value} {run : List D → Sto → R D} (vs : List V) (H : Hp) (Q : VK) (E : XK) (h : spL K run vs H Q E) : spM K mg run vs H Q E := by
  obtain ⟨ρ, S, ds, d, S', hR, hds, e, q⟩ := h
  exact ⟨ρ, S, ds, hR, hds, by rw [e]; exact q⟩
theorem law_spL {K : PySem.W.Frag} {ns : List Int} {H : Hp} {a : Addr} {run : List D → Sto → R D} (hO : Only H) (hS : SqL K H a (ns.map V.int)) (h : ∃ S', run [.ref 0] [.ro (ns.map D.int)] = .ok (.bl true) S') :
    spL K run [.ref a] H (fun v _ => v = .bl true) fun _ _ _ => False := by
  obtain ⟨S', e⟩ := h
  have rps : ∀ ns : List Int, Rps [a] K H (ns.map D.int) (ns.map V.int) := fun ns => by
    induction ns with
    | nil => exact Rps.nil
    | cons n ns ih => exact Rps.cons (by simp only [Rp]) ih
  refine ⟨[a], [.ro (ns.map D.int)], [.ref 0], .bl true, S', ⟨rfl, ?_, ?_⟩, ?_, e, ?_⟩
  · intro i o b h1 h2
    cases i with
    | zero =>
      simp at h1 h2
      subst h1 h2
      refine ⟨ns.map V.int, ?_, rps ns⟩
      rcases hS with hS | ⟨o, its, n, k⟩
      · rcases hS with hS | ⟨o, hS⟩
        · rcases hO a with z | ⟨_, _, z⟩ <;> rw [z] at hS <;> cases hS
        · exact .inl ⟨o, hS⟩
      · exact .inr fun H' => .inr ⟨o, its, n, k⟩
    | succ i => simp at h1
  · intro i j b o1 o2 h1 h2 h3 h4 h5 h6
    cases i with
    | zero => simp at h3; subst h3; cases h5
    | succ i => simp at h3
  · exact Rps.cons (by simp only [Rp]; exact ⟨a, rfl, rfl⟩) Rps.nil
  · intro ρ' H' v s' r' rv
    simp only [Rp] at rv
    exact rv
theorem law_end {l : PySem.W.OpenLaw} {n k : Nat} {q : Program} {loose : List Str} {XP : (Str → Option Value) → Heap → Prop} {YP : World → Heap → Prop} {d : DefRec} {K : Params → PySem.W.Frag} {st : Stmt} {N : List Str} {fns : List (Str × Callee)} {cons : List (Str × D)}
    (hn : l.most = some n) (hn2 : n ≤ sizeLine) (hdf : d.params.defaults = []) (hr : Room (k + 1) callerA) (hY : ∀ (w : World) (h : Heap), YP w h → (K w.params).In h)
    (F : ∀ (w : World) (mg : Str → Option Value) (h : Heap), (K w.params).In h → h.Ns mainGlobals mg → DefAt (K w.params) d.name st ∧ Mdl (K w.params) mg cons ∧ ∀ base : Heap, Lib l.prog w (K w.params) mg base k fns)
    (S : FnScope N ["script"] (defScope st)) (b : BindOk d.name st ["script"])
    (math : ∀ ns : List Int, ns.length ≤ n → (∀ z ∈ ns, Builtin.Int.intBits z ≤ 1048576) → ∃ S', denF N 1 fns [] cons st [.ref 0] [.ro (ns.map D.int)] = .ok (.bl true) S') :
    PySem.W.WalkO q loose XP YP l.row.toRowW d [] (fun f vs => PySem.call f vs) := by
  refine L2.walk_ofB (n := n) (k := k + 1) (x := "script") (CX := fun w => L2.CX l.prog w) (sp := fun w => spL (K w.params) (denF N 1 fns [] cons st)) hn hn2 hdf hr hY ?_ ?_ ?_
  · intro w mg fa h KX G hmg
    obtain ⟨D, M, L⟩ := F w mg h KX G
    obtain ⟨f, fd, a, F, kV, dc, pm, an, cd, ct, rfl⟩ := D.ex
    have e := hmg.symm.trans (PySem.W.mg_of KX G a)
    cases e
    refine ⟨_, fun s u => .of_eq (b kV dc pm an cd ct [u] rfl), fun base _ _ => ?_⟩
    exact FnOk.imp (ok_den F S (L base) M) fun vs H Q E h => spL_M vs H Q E h
  · intro w H a ns h1 h2 h3 h4
    exact law_spL h3 h4 (math ns h1 h2)
  · intro w H s e s' h
    obtain ⟨_, _, _, _, _, _, _, _, _, _, _, _, z⟩ := h
    exact z
theorem bl_mk {K : PySem.W.Frag} {mg : Str → Option Value} {h : Heap} (X : K.In h) (G : h.Ns mainGlobals mg)
    (b1 : PySem.W.nsIn K mainGlobals "len" = some none) (b2 : PySem.W.nsIn K mainGlobals "abs" = some none) (b3 : PySem.W.nsIn K mainGlobals "int" = some none) (b4 : PySem.W.nsIn K mainGlobals "bool" = some none)
    (b5 : PySem.W.nsIn K mainGlobals "max" = some none) (b6 : PySem.W.nsIn K mainGlobals "min" = some none) (b7 : PySem.W.nsIn K mainGlobals "tuple" = some none) (b8 : PySem.W.nsIn K mainGlobals "list" = some none)
    (b9 : PySem.W.nsIn K mainGlobals "sum" = some none) (b10 : PySem.W.nsIn K mainGlobals "all" = some none) (b11 : PySem.W.nsIn K mainGlobals "any" = some none) (b12 : PySem.W.nsIn K mainGlobals "str" = some none)
    (b13 : PySem.W.nsIn K mainGlobals "dict" = some none) (b14 : PySem.W.nsIn K mainGlobals "isinstance" = some none) (b15 : PySem.W.nsIn K mainGlobals "range" = some none) (b16 : PySem.W.nsIn K mainGlobals "enumerate" = some none)
    (b17 : PySem.W.nsIn K mainGlobals "zip" = some none) : ∀ f ∈ blNames, mg f = none := by
  intro f hf
  simp only [blNames, bltn, typs, List.cons_append, List.nil_append, List.mem_cons, List.not_mem_nil, or_false] at hf
  rcases hf with rfl | rfl | rfl | rfl | rfl | rfl | rfl | rfl | rfl | rfl | rfl | rfl | rfl | rfl | rfl | rfl | rfl | rfl | rfl | rfl | rfl
  all_goals (refine PySem.W.mg_none_of X G ?_; assumption)
end Py
namespace Py
open PySem PySem.Spec L2 PyProof.Rows
/-! ## 20. The words at given values -/
section
variable {e e1 : En} {S S1 S2 : Sto} {i j k : Int} {d d1 d2 x y : D} {xs ys : List D} {n m : Nat}
@[simp] theorem gc_same (h : S1.length = S.length) : gc S (.ok d S1) = .ok d S1 := if_pos h
@[simp] theorem gc_no : gc S .no = .no := rfl
@[simp] theorem gc_exc {x : Exn} : gc S (.exc x S1) = .exc x S1 := rfl
theorem fnR_ok {N : List Str} {b : SM} (h : xs.length = n) : fnR N n b xs S = match b (xs.map some ++ List.replicate (N.length - n) none) S with
    | .nx _ S1 => .ok .non S1
    | .ret d S1 => .ok d S1
    | .exc x _ S1 => .exc x S1
    | _ => .no := by unfold fnR; rw [if_pos h] <;> rfl
/-! ### names, constants -/
theorem vE_at (h : e[n]? = some (some d)) : vE n e S = .ok d S := by unfold vE; rw [h]
@[simp] theorem vE_0 : vE 0 (some d :: e) S = .ok d S := rfl
@[simp] theorem vE_s {o : Option D} : vE (n + 1) (o :: e) S = vE n e S := rfl
@[simp] theorem vE_1 {o : Option D} : vE 1 (o :: some d :: e) S = .ok d S := rfl
@[simp] theorem cE_d : cE d e S = .ok d S := rfl
/-! ### statements -/
theorem seqS_eq {a b : SM} : seqS a b e S = match a e S with
  | .nx e1 S1 => b e1 S1
  | r => r := rfl
@[simp] theorem nxS_eq : nxS e S = .nx e S := rfl
/-! ### ints -/
@[simp] theorem op_add : binop .Add (.int i) (.int j) S = .ok (.int (i + j)) S := rfl
@[simp] theorem op_sub : binop .Sub (.int i) (.int j) S = .ok (.int (i - j)) S := rfl
theorem op_mul (h : mulOk i j) : binop .Mult (.int i) (.int j) S = .ok (.int (i * j)) S := if_pos h
theorem op_fdiv (h : j ≠ 0 ∧ j.natAbs.log2 < 9000) : binop .FloorDiv (.int i) (.int j) S = .ok (.int (i.fdiv j)) S := if_pos h
theorem op_mod (h : j ≠ 0) : binop .Mod (.int i) (.int j) S = .ok (.int (i.fmod j)) S := if_pos h
theorem op_pow (h : CPow i j) : binop .Pow (.int i) (.int j) S = .ok (.int (i ^ j.toNat)) S := if_pos h
@[simp] theorem cmp_lt : cmpop .Lt (.int i) (.int j) S = .ok (.bl (decide (i < j))) S := rfl
@[simp] theorem cmp_le : cmpop .LtE (.int i) (.int j) S = .ok (.bl (decide (i ≤ j))) S := rfl
@[simp] theorem cmp_gt : cmpop .Gt (.int i) (.int j) S = .ok (.bl (decide (j < i))) S := rfl
@[simp] theorem cmp_ge : cmpop .GtE (.int i) (.int j) S = .ok (.bl (decide (j ≤ i))) S := rfl
theorem eq_int : pyEq S (.int i) (.int j) = some (decide (i = j)) := by
  have : pyEq S (.int i) (.int j) = some (i == j) := rfl
  rw [this]; congr 1
@[simp] theorem cmp_eq : cmpop .Eq (.int i) (.int j) S = .ok (.bl (decide (i = j))) S := by
  show (match pyEq S (.int i) (.int j) with
    | some b => R.ok (D.bl b) S
    | none => .no) = _
  rw [eq_int]
@[simp] theorem cmp_ne : cmpop .NotEq (.int i) (.int j) S = .ok (.bl (!decide (i = j))) S := by
  show (match pyEq S (.int i) (.int j) with
    | some b => R.ok (D.bl (!b)) S
    | none => .no) = _
  rw [eq_int]
/-! ### None -/
@[simp] theorem cmp_is_int : cmpop .Is (.int i) .non S = .ok (.bl false) S := rfl
@[simp] theorem cmp_is_tup : cmpop .Is (.tup xs) .non S = .ok (.bl false) S := rfl
@[simp] theorem cmp_is_ref : cmpop .Is (.ref n) .non S = .ok (.bl false) S := rfl
@[simp] theorem cmp_is_bl {b : Bool} : cmpop .Is (.bl b) .non S = .ok (.bl false) S := rfl
@[simp] theorem cmp_is_str {b : Str} : cmpop .Is (.str b) .non S = .ok (.bl false) S := rfl
@[simp] theorem cmp_is_non : cmpop .Is .non .non S = .ok (.bl true) S := rfl
@[simp] theorem cmp_isn_int : cmpop .IsNot (.int i) .non S = .ok (.bl true) S := rfl
@[simp] theorem cmp_isn_tup : cmpop .IsNot (.tup xs) .non S = .ok (.bl true) S := rfl
@[simp] theorem cmp_isn_ref : cmpop .IsNot (.ref n) .non S = .ok (.bl true) S := rfl
@[simp] theorem cmp_isn_non : cmpop .IsNot .non .non S = .ok (.bl false) S := rfl
/-! ### places -/
theorem ixN_nat {k n : Nat} : ixN n (k : Int) = if k < n then some k else none := by
  unfold ixN
  rw [if_pos (Int.natCast_nonneg k)]
  by_cases h : k < n
  · rw [if_pos (by omega), if_pos h, Int.toNat_natCast]
  · rw [if_neg (by omega), if_neg h]
theorem atI_nat {α : Type} {xs : List α} {k : Nat} : atI xs (k : Int) = xs[k]? := by
  unfold atI
  rw [ixN_nat]
  by_cases h : k < xs.length
  · rw [if_pos h]; rfl
  · rw [if_neg h, List.getElem?_eq_none (Nat.le_of_not_lt h)]; rfl
theorem ix_tup (h : atI xs i = some d) : getIx (.tup xs) (.int i) S = .ok d S := by unfold getIx; simp only [h]
theorem ix_lst {r : Nat} (hS : S[r]? = some (.lst xs)) (h : atI xs i = some d) : getIx (.ref r) (.int i) S = .ok d S := by unfold getIx; simp only [hS, h]
theorem ix_ro {r : Nat} (hS : S[r]? = some (.ro xs)) (h : atI xs i = some d) : getIx (.ref r) (.int i) S = .ok d S := by unfold getIx; simp only [hS, h]
@[simp] theorem ix_0 : getIx (.tup (d :: xs)) (.int 0) S = .ok d S := ix_tup (atI_nat (k := 0))
@[simp] theorem ix_1 : getIx (.tup (d1 :: d :: xs)) (.int 1) S = .ok d S := ix_tup (atI_nat (k := 1))
@[simp] theorem ix_2 : getIx (.tup (d1 :: d2 :: d :: xs)) (.int 2) S = .ok d S := ix_tup (atI_nat (k := 2))
@[simp] theorem ix_3 : getIx (.tup (d1 :: d2 :: x :: d :: xs)) (.int 3) S = .ok d S := ix_tup (atI_nat (k := 3))
end
/-! ### loops -/
theorem whileN_mono {t : M Bool} {b : SM} : ∀ {n : Nat} {e : En} {S : Sto}, whileN t b n e S ≠ .no → whileN t b (n + 1) e S = whileN t b n e S
  | 0, e, S, h => absurd rfl h
  | n + 1, e, S, h => by
    have eqs : ∀ (m : Nat) (e : En) (S : Sto), whileN t b (m + 1) e S = (t e S).st e fun k S1 => bif k then (match b e S1 with
      | .nx e2 S2 => whileN t b m e2 S2
      | .cnt e2 S2 => whileN t b m e2 S2
      | .brk e2 S2 => .nx e2 S2
      | r => r) else .nx e S1 := fun _ _ _ => rfl
    rw [eqs (n + 1), eqs n]
    rw [eqs n] at h
    cases q : t e S with
    | no => rfl
    | exc x S1 => rfl
    | ok k S1 =>
      rw [q] at h
      simp only [R.st_ok] at h ⊢
      cases k with
      | false => rfl
      | true =>
        simp only [cond_true] at h ⊢
        cases q2 : b e S1 with
        | nx e2 S2 => rw [q2] at h; exact whileN_mono h
        | cnt e2 S2 => rw [q2] at h; exact whileN_mono h
        | _ => rfl
theorem whileN_le {t : M Bool} {b : SM} {n m : Nat} {e : En} {S : Sto} (h : whileN t b n e S ≠ .no) (l : n ≤ m) : whileN t b m e S = whileN t b n e S := by
  induction l with
  | refl => rfl
  | step l ih => rw [whileN_mono (by rw [ih]; exact h), ih]
theorem whileS_of {t : M Bool} {b : SM} {n : Nat} {e : En} {S : Sto} (h : whileN t b n e S ≠ .no) : whileS t b e S = whileN t b n e S := by
  unfold whileS
  have hx : ∃ n, whileN t b n e S ≠ .no := ⟨n, h⟩
  rw [dif_pos hx]
  have hc := hx.choose_spec
  rcases Nat.le_total n hx.choose with l | l
  · exact whileN_le h l
  · exact (whileN_le hc l).symm
theorem whileS_eq {t : M Bool} {b : SM} {e : En} {S : Sto} : whileS t b e S = (t e S).st e fun k S1 => bif k then (match b e S1 with
      | .nx e2 S2 => whileS t b e2 S2
      | .cnt e2 S2 => whileS t b e2 S2
      | .brk e2 S2 => .nx e2 S2
      | r => r) else .nx e S1 := by
  have eqs : ∀ (m : Nat) (e : En) (S : Sto), whileN t b (m + 1) e S = (t e S).st e fun k S1 => bif k then (match b e S1 with
      | .nx e2 S2 => whileN t b m e2 S2
      | .cnt e2 S2 => whileN t b m e2 S2
      | .brk e2 S2 => .nx e2 S2
      | r => r) else .nx e S1 := fun _ _ _ => rfl
  have stop : ∀ {e : En} {S : Sto}, (¬ ∃ n, whileN t b n e S ≠ .no) → whileS t b e S = .no := fun h => by unfold whileS; rw [dif_neg h]
  have inner : ∀ {e : En} {S S1 : Sto} {e2 : En} {S2 : Sto}, t e S = .ok true S1 → (b e S1 = .nx e2 S2 ∨ b e S1 = .cnt e2 S2) → whileS t b e S = whileS t b e2 S2 := fun {e S S1 e2 S2} q q2 => by
    have step : ∀ m, whileN t b (m + 1) e S = whileN t b m e2 S2 := fun m => by
      rw [eqs, q]
      simp only [R.st_ok, cond_true]
      rcases q2 with q2 | q2 <;> rw [q2]
    by_cases h : ∃ n, whileN t b n e2 S2 ≠ .no
    · obtain ⟨n, hn⟩ := h
      rw [whileS_of hn, whileS_of (n := n + 1) (by rw [step]; exact hn), step]
    · rw [stop h, stop]
      rintro ⟨n, hn⟩
      cases n with
      | zero => exact hn rfl
      | succ n => exact h ⟨n, by rw [← step]; exact hn⟩
  have one : ∀ {r : O}, whileN t b 1 e S = r → r ≠ .no → whileS t b e S = r := fun {r} h hr => by
    rw [whileS_of (n := 1) (by rw [h]; exact hr), h]
  have none_ : (∀ m, whileN t b (m + 1) e S = .no) → whileS t b e S = .no := fun h => stop (by
    rintro ⟨n, hn⟩
    cases n with
    | zero => exact hn rfl
    | succ n => exact hn (h n))
  cases q : t e S with
  | no => exact none_ fun m => by rw [eqs, q]; rfl
  | exc x S1 => exact one (by rw [eqs, q]; rfl) (by simp)
  | ok k S1 =>
    simp only [R.st_ok]
    cases k with
    | false => exact one (by rw [eqs, q]; rfl) (by simp)
    | true =>
      simp only [cond_true]
      cases q2 : b e S1 with
      | nx e2 S2 => exact inner q (.inl q2)
      | cnt e2 S2 => exact inner q (.inr q2)
      | brk e2 S2 => exact one (by rw [eqs, q]; simp only [R.st_ok, cond_true]; rw [q2]) (by simp)
      | ret d S2 => exact one (by rw [eqs, q]; simp only [R.st_ok, cond_true]; rw [q2]) (by simp)
      | exc x e2 S2 => exact one (by rw [eqs, q]; simp only [R.st_ok, cond_true]; rw [q2]) (by simp)
      | no => exact none_ fun m => by rw [eqs, q]; simp only [R.st_ok, cond_true]; rw [q2]
/-! ### how wide an integer is -/
def W (n : Nat) (i : Int) : Prop := i.natAbs < 2 ^ n
theorem W.mono {n m : Nat} {i : Int} (h : W n i) (l : n ≤ m) : W m i := Nat.lt_of_lt_of_le h (Nat.pow_le_pow_right (by decide) l)
theorem W.mul {n m : Nat} {i j : Int} (h : W n i) (k : W m j) : W (n + m) (i * j) := by
  unfold W at *
  rw [Int.natAbs_mul, Nat.pow_add]
  exact Nat.mul_lt_mul'' h k
theorem W.add {n m : Nat} {i j : Int} (h : W n i) (k : W m j) : W (max n m + 1) (i + j) := by
  have h' : W (max n m) i := h.mono (Nat.le_max_left _ _)
  have k' : W (max n m) j := k.mono (Nat.le_max_right _ _)
  unfold W at *
  have := Int.natAbs_add_le i j
  rw [Nat.pow_succ]
  omega
theorem W.neg {n : Nat} {i : Int} (h : W n i) : W n (-i) := by unfold W at *; rw [Int.natAbs_neg]; exact h
theorem W.sub {n m : Nat} {i j : Int} (h : W n i) (k : W m j) : W (max n m + 1) (i - j) := by rw [Int.sub_eq_add_neg]; exact h.add k.neg
theorem W.le {n : Nat} {i j : Int} (h : W n i) (k : j.natAbs ≤ i.natAbs) : W n j := Nat.lt_of_le_of_lt k h
theorem W.log {n : Nat} {i : Int} (h : W n i) : i.natAbs.log2 ≤ n := by
  by_cases z : i.natAbs = 0
  · rw [z]; exact Nat.zero_le _
  · exact Nat.le_of_lt ((Nat.log2_lt z).mpr h)
theorem W.ok {n m : Nat} {i j : Int} (h : W n i) (k : W m j) (l : n + m < 1000000) : mulOk i j := .inr (by
  have := h.log; have := k.log
  show _ < _
  omega)
theorem W.dv {n : Nat} {j : Int} (h : W n j) (z : j ≠ 0) (l : n < 9000) : j ≠ 0 ∧ j.natAbs.log2 < 9000 := ⟨z, Nat.lt_of_le_of_lt h.log l⟩
theorem mulOk_small {i j : Int} (h1 : -(2 ^ 64) < i) (h2 : i < 2 ^ 64) : mulOk i j := .inl (.inl ⟨h1, h2⟩)
theorem mulOk_small' {i j : Int} (h1 : -(2 ^ 64) < j) (h2 : j < 2 ^ 64) : mulOk i j := .inl (.inr ⟨h1, h2⟩)
theorem natAbs_fdiv_le (i j : Int) (hj : 0 < j) : (i.fdiv j).natAbs ≤ i.natAbs := by
  rw [Int.fdiv_eq_ediv_of_nonneg _ (Int.le_of_lt hj)]
  exact Int.natAbs_ediv_le_natAbs _ _
end Py
namespace Py
open PySem PySem.Spec L2 PyProof.Rows
/-! ## 21. The words unfolded (simp) -/
section
variable {e e1 : En} {S S1 S2 : Sto} {i j k : Int} {d d1 d2 x y : D} {xs ys : List D} {n m : Nat} {a b c : M D} {t u v : M Bool} {r q : M (List D)} {op op' : Operator} {cop cop' : CmpOp} {sa sb : SM} {f : List D → Sto → R D}
@[simp] theorem bE_eq : bE op a b e S = (a e S).bind fun x S1 => (b e S1).bind fun y S2 => binop op x y S2 := rfl
@[simp] theorem kE_eq : kE cop a b e S = (a e S).bind fun x S1 => (b e S1).bind fun y S2 => cmpop cop x y S2 := rfl
@[simp] theorem kgE_eq : kgE cop a b e S = gc S (kE cop a b e S) := rfl
@[simp] theorem bgE_eq : bgE op a b e S = gc S (bE op a b e S) := rfl
@[simp] theorem negE_eq : negE a e S = (a e S).bind negD := rfl
@[simp] theorem negD_int : negD (.int i) S = .ok (.int (-i)) S := rfl
@[simp] theorem isBl_bl {b : Bool} : isBl (.bl b) = some b := rfl
@[simp] theorem ktT_eq : ktT a e S = (a e S).bind fun x S1 => match isBl x with
  | some b => .ok b S1
  | none => .no := rfl
@[simp] theorem trT_eq : trT a e S = (a e S).bind fun x S1 => trR S1 x := rfl
@[simp] theorem notT_eq : notT t e S = (t e S).bind fun b S1 => .ok (!b) S1 := rfl
@[simp] theorem andT_eq : andT t u e S = (t e S).bind fun b S1 => bif b then u e S1 else .ok false S1 := rfl
@[simp] theorem orT_eq : orT t u e S = (t e S).bind fun b S1 => bif b then .ok true S1 else u e S1 := rfl
@[simp] theorem ifT_eq : ifT t u v e S = (t e S).bind fun b S1 => bif b then u e S1 else v e S1 := rfl
@[simp] theorem andE_eq : andE a b e S = (a e S).bind fun x S1 => (trR S1 x).bind fun k S2 => bif k then b e S2 else .ok x S2 := rfl
@[simp] theorem orE_eq : orE a b e S = (a e S).bind fun x S1 => (trR S1 x).bind fun k S2 => bif k then .ok x S2 else b e S2 := rfl
@[simp] theorem notE_eq : notE a e S = (a e S).bind fun x S1 => (trR S1 x).bind fun k S2 => .ok (.bl (!k)) S2 := rfl
@[simp] theorem ifE_eq : ifE t a b e S = (t e S).bind fun k S1 => bif k then a e S1 else b e S1 := rfl
@[simp] theorem nilA_eq : nilA e S = .ok [] S := rfl
@[simp] theorem consA_eq : consA a r e S = (a e S).bind fun x S1 => (r e S1).bind fun xs S2 => .ok (x :: xs) S2 := rfl
@[simp] theorem trR_bl {b : Bool} : trR S (.bl b) = .ok b S := rfl
@[simp] theorem trR_int : trR S (.int i) = .ok (i != 0) S := rfl
@[simp] theorem trR_non : trR S .non = .ok false S := rfl
@[simp] theorem ixE_eq : ixE a b e S = (a e S).bind fun x S1 => (b e S1).bind fun y S2 => getIx x y S2 := rfl
@[simp] theorem noP_eq : noP e S = .ok none S := rfl
@[simp] theorem intOf_int : intOf (.int i) = some i := rfl
@[simp] theorem someP_eq : someP a e S = (a e S).bind fun x S1 => match intOf x with
  | some i => .ok (some i) S1
  | none => .no := rfl
@[simp] theorem slE_eq {lo hi : M (Option Int)} : slE a lo hi e S = (a e S).bind fun x S1 => (lo e S1).bind fun l S2 => (hi e S2).bind fun u S3 => getSl x l u S3 := rfl
@[simp] theorem caE_eq : caE f r e S = gc S ((r e S).bind f) := rfl
@[simp] theorem ckE_eq {g : List D → List D → List D} : ckE g f r q e S = gc S ((r e S).bind fun xs S1 => (q e S1).bind fun ys S2 => f (g xs ys) S2) := rfl
@[simp] theorem biE_eq {id : Str} : biE id r e S = gc S ((r e S).bind fun xs S1 => bi id xs S1) := rfl
theorem big : 1000 ≤ sizeLine := by decide
theorem tupE_ok (h : r e S = .ok xs S1) (l : xs.length ≤ 1000) : tupE r e S = .ok (.tup xs) S1 := by
  unfold tupE; rw [h]; simp only [R.bind_ok]; rw [if_pos (Nat.le_trans l big)]
@[simp] theorem tupE_eq : tupE r e S = (r e S).bind fun xs S1 => if xs.length ≤ sizeLine then .ok (.tup xs) S1 else .no := by
  unfold tupE; congr
@[simp] theorem lstE_eq : lstE r e S = (r e S).bind fun xs S1 => if xs.length ≤ sizeLine then .ok (.ref S1.length) (S1 ++ [.lst xs]) else .no := by
  unfold lstE; congr
@[simp] theorem len0 : 0 ≤ sizeLine := by decide
@[simp] theorem len1 : 1 ≤ sizeLine := by decide
@[simp] theorem len2 : 2 ≤ sizeLine := by decide
@[simp] theorem len3 : 3 ≤ sizeLine := by decide
@[simp] theorem len4 : 4 ≤ sizeLine := by decide
@[simp] theorem len5 : 5 ≤ sizeLine := by decide
@[simp] theorem len6 : 6 ≤ sizeLine := by decide
@[simp] theorem chE_eq : chE cop cop' a b c e S = (a e S).bind fun x S1 => (b e S1).bind fun y S2 => (cmpop cop x y S2).bind fun z S3 => match isBl z with
  | some true => (c e S3).bind fun w S4 => cmpop cop' y w S4
  | some false => .ok (.bl false) S3
  | none => .no := rfl
/-! statements -/
@[simp] theorem exprS_eq : exprS a e S = (a e S).st e fun _ S1 => .nx e S1 := rfl
@[simp] theorem setS_eq : setS n a e S = (a e S).st e fun x S1 => .nx (e.set n (some x)) S1 := rfl
@[simp] theorem tgtS_eq {t : Tgt} : tgtS t a e S = (a e S).st e fun x S1 => match bindT t x e with
  | some e1 => .nx e1 S1
  | none => .no := rfl
@[simp] theorem parS_eq : parS n m a b e S = (a e S).st e fun x S1 => (b e S1).st e fun y S2 => .nx ((e.set n (some x)).set m (some y)) S2 := rfl
@[simp] theorem ifS_eq : ifS t sa sb e S = (t e S).st e fun k S1 => bif k then sa e S1 else sb e S1 := rfl
@[simp] theorem retS_eq : retS a e S = (a e S).st e fun x S1 => .ret x S1 := rfl
@[simp] theorem retN_eq : retN e S = .ret .non S := rfl
@[simp] theorem brkS_eq : brkS e S = .brk e S := rfl
@[simp] theorem cntS_eq : cntS e S = .cnt e S := rfl
@[simp] theorem augS_eq (h : e[n]? = some (some (.int i))) : augS n op a e S = (a e S).st e fun y S1 => match y with
    | .int m => (binop op (.int i) (.int m) S1).st e fun z S2 => .nx (e.set n (some z)) S2
    | _ => .no := by
  unfold augS; rw [h]; simp only
  congr 1
  funext y S1
  cases y <;> rfl
@[simp] theorem bindT_nm : bindT (.nm n) d e = some (e.set n (some d)) := by simp only [bindT]
@[simp] theorem bindT_tp {ts : List Tgt} : bindT (.tp ts) (.tup xs) e = bindTs ts xs e := by simp only [bindT]
@[simp] theorem bindTs_nil : bindTs [] [] e = some e := by simp only [bindTs]
@[simp] theorem bindTs_cons {t : Tgt} {ts : List Tgt} : bindTs (t :: ts) (x :: xs) e = (match bindT t x e with
    | some e1 => bindTs ts xs e1
    | none => none) := by
  simp only [bindTs]
  all_goals (cases bindT t x e <;> rfl)
/-! builtins -/
@[simp] theorem bi_abs : bi "abs" [.int i] S = .ok (.int (i.natAbs : Int)) S := by
  have : bi "abs" [.int i] S = .ok (.int (if i < 0 then -i else i)) S := rfl
  rw [this]
  congr 2
  split <;> omega
@[simp] theorem bi_int : bi "int" [.int i] S = .ok (.int i) S := rfl
@[simp] theorem bi_int_bl {b : Bool} : bi "int" [.bl b] S = .ok (.int (if b then 1 else 0)) S := rfl
@[simp] theorem bi_bool_int : bi "bool" [.int i] S = .ok (.bl (i != 0)) S := rfl
@[simp] theorem bi_bool_bl {b : Bool} : bi "bool" [.bl b] S = .ok (.bl b) S := rfl
@[simp] theorem bi_max : bi "max" [.int i, .int j] S = .ok (.int (if j > i then j else i)) S := rfl
@[simp] theorem bi_min : bi "min" [.int i, .int j] S = .ok (.int (if j < i then j else i)) S := rfl
theorem bi_len (h : lenD S x = some n) : bi "len" [x] S = .ok (.int n) S := by
  have : bi "len" [x] S = (match lenD S x with
      | some n => R.ok (D.int n) S
      | none => .no) := rfl
  rw [this, h]
@[simp] theorem bi_len_tup : bi "len" [.tup xs] S = .ok (.int xs.length) S := rfl
/-! what follows a statement, the end of a def -/
def O.sq (r : O) (b : SM) : O := match r with
  | .nx e1 S1 => b e1 S1
  | r => r
def O.fin (r : O) : R D := match r with
  | .nx _ S1 => .ok .non S1
  | .ret d S1 => .ok d S1
  | .exc x _ S1 => .exc x S1
  | _ => .no
@[simp] theorem sq_nx {b : SM} : (O.nx e S).sq b = b e S := rfl
@[simp] theorem sq_ret {b : SM} : (O.ret d S).sq b = .ret d S := rfl
@[simp] theorem sq_brk {b : SM} : (O.brk e S).sq b = .brk e S := rfl
@[simp] theorem sq_cnt {b : SM} : (O.cnt e S).sq b = .cnt e S := rfl
@[simp] theorem sq_exc {b : SM} {z : Exn} : (O.exc z e S).sq b = .exc z e S := rfl
@[simp] theorem sq_no {b : SM} : O.no.sq b = .no := rfl
@[simp] theorem fin_nx : (O.nx e S).fin = .ok .non S := rfl
@[simp] theorem fin_ret : (O.ret d S).fin = .ok d S := rfl
@[simp] theorem fin_exc {z : Exn} : (O.exc z e S).fin = .exc z S := rfl
@[simp] theorem fin_no : O.no.fin = .no := rfl
@[simp] theorem seqS_sq {a b : SM} : seqS a b e S = (a e S).sq b := rfl
theorem fn_fin {N : List Str} {b : SM} {z : En} (h : xs.length = n) (hz : xs.map some ++ List.replicate (N.length - n) none = z) : fnR N n b xs S = (b z S).fin := by
  subst hz
  unfold fnR; rw [if_pos h]; rfl
theorem whileS_false {t : M Bool} {b : SM} (h : t e S = .ok false S1) : whileS t b e S = .nx e S1 := by rw [whileS_eq, h]; rfl
theorem whileS_true {t : M Bool} {b : SM} (h : t e S = .ok true S1) (h2 : b e S1 = .nx e1 S2) : whileS t b e S = whileS t b e1 S2 := by
  rw [whileS_eq, h]; simp only [R.st_ok, cond_true, h2]
theorem whileS_ret {t : M Bool} {b : SM} (h : t e S = .ok true S1) (h2 : b e S1 = .ret d S2) : whileS t b e S = .ret d S2 := by
  rw [whileS_eq, h]; simp only [R.st_ok, cond_true, h2]
theorem whileS_brk {t : M Bool} {b : SM} (h : t e S = .ok true S1) (h2 : b e S1 = .brk e1 S2) : whileS t b e S = .nx e1 S2 := by
  rw [whileS_eq, h]; simp only [R.st_ok, cond_true, h2]
theorem fn_def {N : List Str} {b : SM} : fnR N n b xs S = if xs.length = n then (b (xs.map some ++ List.replicate (N.length - n) none) S).fin else .no := by
  unfold fnR
  by_cases h : xs.length = n
  · rw [if_pos h, if_pos h]; rfl
  · rw [if_neg h, if_neg h]
theorem op_modP (h : 0 < j) : binop .Mod (.int i) (.int j) S = .ok (.int (i % j)) S := by
  rw [op_mod (by omega), Int.fmod_eq_emod_of_nonneg _ (by omega)]
theorem op_divP (h : 0 < j) (w : W 8000 j) : binop .FloorDiv (.int i) (.int j) S = .ok (.int (i / j)) S := by
  rw [op_fdiv (w.dv (by omega) (by decide)), Int.fdiv_eq_ediv_of_nonneg _ (by omega)]
theorem op_mulW {a b : Nat} (h : W a i) (k : W b j) (l : a + b < 1000000) : binop .Mult (.int i) (.int j) S = .ok (.int (i * j)) S := op_mul (h.ok k l)
end
end Py
namespace Py
open PySem PySem.Spec L2 PyProof.Rows
/-! ## 22. Lists made within, comprehensions, isinstance -/
section
variable {e e1 : En} {S S1 S2 X : Sto} {i j k : Int} {d d1 d2 x y : D} {xs ys : List D} {n m : Nat} {a b c : M D} {t u v : M Bool} {r q : M (List D)} {sa sb : SM} {o o' : Ob}
theorem stands_app : Stands S.length S (S ++ X) := ⟨by simp, fun i hi => .inl (List.getElem?_append_left hi)⟩
/-- what is made and not handed on is forgotten -/
theorem gc_drop (h : closedD S.length d = true) : gc S (.ok d (S ++ X)) = .ok d S := by
  cases X with
  | nil => rw [List.append_nil]; exact gc_same rfl
  | cons o X =>
    unfold gc
    simp only
    rw [if_neg (by simp), if_pos stands_app, if_pos h]
    simp
@[simp] theorem gc_int : gc S (.ok (.int i) (S ++ X)) = .ok (.int i) S := gc_drop (by simp only [closedD])
@[simp] theorem gc_bl {b : Bool} : gc S (.ok (.bl b) (S ++ X)) = .ok (.bl b) S := gc_drop (by simp only [closedD])
@[simp] theorem gc_non : gc S (.ok .non (S ++ X)) = .ok .non S := gc_drop (by simp only [closedD])
@[simp] theorem get_end : (S ++ [o])[S.length]? = some o := by simp
@[simp] theorem set_end : (S ++ [o]).set S.length o' = S ++ [o'] := by simp
theorem big62 : (1000 : Int) < 2 ^ 62 := by decide
@[simp] theorem isE_eq {T : Str} : isE T a e S = (a e S).bind fun x S1 => match isInst S1 T x with
  | some b => .ok (.bl b) S1
  | none => .no := rfl
@[simp] theorem is_tup_tup : isInst S "tuple" (.tup xs) = some true := rfl
@[simp] theorem is_tup_int : isInst S "tuple" (.int i) = some false := rfl
@[simp] theorem is_tup_non : isInst S "tuple" .non = some false := rfl
@[simp] theorem is_tup_str {z : Str} : isInst S "tuple" (.str z) = some false := rfl
@[simp] theorem is_tup_bl {z : Bool} : isInst S "tuple" (.bl z) = some false := rfl
@[simp] theorem is_int_int : isInst S "int" (.int i) = some true := rfl
@[simp] theorem is_int_bl {z : Bool} : isInst S "int" (.bl z) = some true := rfl
@[simp] theorem is_int_tup : isInst S "int" (.tup xs) = some false := rfl
@[simp] theorem is_int_non : isInst S "int" .non = some false := rfl
@[simp] theorem is_int_str {z : Str} : isInst S "int" (.str z) = some false := rfl
@[simp] theorem is_bl_int : isInst S "bool" (.int i) = some false := rfl
@[simp] theorem is_bl_bl {z : Bool} : isInst S "bool" (.bl z) = some true := rfl
@[simp] theorem is_str_str {z : Str} : isInst S "str" (.str z) = some true := rfl
@[simp] theorem is_str_int : isInst S "str" (.int i) = some false := rfl
@[simp] theorem is_str_tup : isInst S "str" (.tup xs) = some false := rfl
@[simp] theorem is_str_non : isInst S "str" .non = some false := rfl
@[simp] theorem is_str_bl {z : Bool} : isInst S "str" (.bl z) = some false := rfl
/-! what is walked -/
@[simp] theorem itI_eq : itI a e S = (a e S).bind itsOf := rfl
@[simp] theorem itsOf_tup : itsOf (.tup xs) S = .ok ⟨xs, []⟩ S := rfl
theorem itsOf_lst (h : S[n]? = some (.lst xs)) : itsOf (.ref n) S = .ok ⟨xs, [(n, .lst xs)]⟩ S := by unfold itsOf; simp only [h]
theorem itsOf_ro (h : S[n]? = some (.ro xs)) : itsOf (.ref n) S = .ok ⟨xs, [(n, .ro xs)]⟩ S := by unfold itsOf; simp only [h]
theorem rgI_1 (h : r e S = .ok [.int j] S1) (h1 : -(2 ^ 62) ≤ j) (h2 : j < 2 ^ 62) : rgI r e S = .ok ⟨rangeL 0 j.toNat, []⟩ S1 := by
  unfold rgI; rw [h]; simp only [R.bind_ok]; rw [if_pos ⟨h1, h2⟩]
theorem rgI_2 (h : r e S = .ok [.int i, .int j] S1) (h1 : -(2 ^ 62) ≤ i ∧ i < 2 ^ 62 ∧ -(2 ^ 62) ≤ j ∧ j < 2 ^ 62) : rgI r e S = .ok ⟨rangeL i (j - i).toNat, []⟩ S1 := by
  unfold rgI; rw [h]; simp only [R.bind_ok]; rw [if_pos h1]
theorem guard_nil : guardOk [] S := fun p h => by cases h
theorem forS_of {it : M Its} {t : Tgt} {b : SM} {z : Its} (h : it e S = .ok z S1) : forS it t b e S = forG t b z.g z.xs e S1 := by unfold forS; rw [h]; rfl
theorem forG_nil0 {t : Tgt} {b : SM} : forG t b [] [] e S = .nx e S := by simp only [forG]; rw [if_pos guard_nil]
/-- one turn -/
theorem forG_step {t : Tgt} {b : SM} {g : Guard} (hg : guardOk g S) (hb : bindT t x e = some e1) : forG t b g (x :: xs) e S = (match b e1 S with
      | .nx e2 S2 => forG t b g xs e2 S2
      | .cnt e2 S2 => forG t b g xs e2 S2
      | .brk e2 S2 => .nx e2 S2
      | r => r) := by
  simp only [forG]
  rw [if_pos hg, hb]
  all_goals rfl
theorem forG_nx {t : Tgt} {b : SM} {g : Guard} {e2 : En} (hg : guardOk g S) (hb : bindT t x e = some e1) (h : b e1 S = .nx e2 S2) : forG t b g (x :: xs) e S = forG t b g xs e2 S2 := by rw [forG_step hg hb, h]
theorem forG_ret {t : Tgt} {b : SM} {g : Guard} (hg : guardOk g S) (hb : bindT t x e = some e1) (h : b e1 S = .ret d S2) : forG t b g (x :: xs) e S = .ret d S2 := by rw [forG_step hg hb, h]
theorem forG_end {t : Tgt} {b : SM} {g : Guard} (hg : guardOk g S) : forG t b g [] e S = .nx e S := by simp only [forG]; rw [if_pos hg]
theorem lcE_of {it : M Its} {t : Tgt} {tt : M Bool} {el : M D} {vs : List Nat} {z : Its} (h : it e S = .ok z S1) (h2 : lcL t tt el (wipeE e vs) z.g z.xs [] S1 = .ok ys S2) : lcE it t tt el vs e S = .ok (.ref S2.length) (S2 ++ [.lst ys]) := by
  unfold lcE; rw [h]; simp only [R.bind_ok, h2]
theorem lcL_skip {t : Tgt} {tt : M Bool} {el : M D} {g : Guard} {acc : List D} (hg : guardOk g S) (hb : bindT t x e = some e1) (h : tt e1 S = .ok false S1) : lcL t tt el e g (x :: xs) acc S = lcL t tt el e g xs acc S1 := by
  simp only [lcL]; rw [if_pos hg, hb]; simp only [h, R.nox_ok, R.bind_ok, cond_false]
theorem lcL_take {t : Tgt} {tt : M Bool} {el : M D} {g : Guard} {acc : List D} (hg : guardOk g S) (hb : bindT t x e = some e1) (h : tt e1 S = .ok true S1) (h2 : el e1 S1 = .ok y S2) (hl : acc.length < sizeLine) : lcL t tt el e g (x :: xs) acc S = lcL t tt el e g xs (acc ++ [y]) S2 := by
  simp only [lcL]; rw [if_pos hg, hb]; simp only [h, R.nox_ok, R.bind_ok, cond_true, h2]; rw [if_pos hl]
theorem lcL_end {t : Tgt} {tt : M Bool} {el : M D} {g : Guard} {acc : List D} (hg : guardOk g S) : lcL t tt el e g [] acc S = .ok acc S := by simp only [lcL]; rw [if_pos hg]
@[simp] theorem yesT_eq : yesT e S = .ok true S := rfl
/-! methods -/
@[simp] theorem meE_eq {z : Str} : meE z a r e S = gc S ((a e S).bind fun o S1 => bif rcv S1 o then (r e S1).bind fun xs S2 => mth z o xs S2 else .no) := rfl
theorem rcv_lst (h : S[n]? = some (.lst xs)) : rcv S (.ref n) = true := by unfold rcv; simp only [h]
theorem mth_append (h : S[n]? = some (.lst xs)) (hl : xs.length < sizeLine) : mth "append" (.ref n) [x] S = .ok .non (S.set n (.lst (xs ++ [x]))) := by
  have : mth "append" (.ref n) [x] S = (match S[n]? with
      | some (.lst ys) => if ys.length < sizeLine then R.ok D.non (S.set n (.lst (ys ++ [x]))) else .no
      | _ => .no) := rfl
  rw [this, h]
  exact if_pos hl
theorem bi_tuple_lst (h : S[n]? = some (.lst xs)) : bi "tuple" [.ref n] S = .ok (.tup xs) S := by
  have : bi "tuple" [.ref n] S = (match listAt S (.ref n) with
      | some ys => R.ok (D.tup ys) S
      | none => .no) := rfl
  rw [this]
  simp only [listAt, h]
@[simp] theorem bi_len_lst (h : S[n]? = some (.lst xs)) : bi "len" [.ref n] S = .ok (.int xs.length) S := bi_len (by unfold lenD; simp only [h])
@[simp] theorem bi_len_ro (h : S[n]? = some (.ro xs)) : bi "len" [.ref n] S = .ok (.int xs.length) S := bi_len (by unfold lenD; simp only [h])
end
end Py
namespace Py
open PySem PySem.Spec L2 PyProof.Rows
def top (i : Nat) : Stmt := PySem.Challenge.pw_whichpass_k21_fixed_numbers.main.body.getD i (.Pass ⟨0, 0, 0, 0⟩)
/-! _law_quarry -/
theorem sc__law_quarry : FnScope ["script", "told", "cell", "size"] ["script"] (defScope (top 28)) := ⟨rfl, rfl, rfl, by decide +kernel, rfl, by decide +kernel, by decide +kernel⟩
theorem bi__law_quarry : BindOk "_law_quarry" (top 28) ["script"] := fun _ _ _ _ _ _ us hl => match us, hl with | [_], _ => rfl
def k__law_quarry : List (Nat × List Str × List Nat) := []
theorem bk__law_quarry : BindKw "_law_quarry" (top 28) ["script"] k__law_quarry := BindKw.nil
noncomputable def m__law_quarry : List D → Sto → R D := denF ["script", "told", "cell", "size"] 1 [] [] [] (top 28)
noncomputable def c__law_quarry : Callee := ⟨["script"], k__law_quarry, m__law_quarry⟩
/-! _law_gcd -/
theorem sc__law_gcd : FnScope ["one", "other"] ["one", "other"] (defScope (top 31)) := ⟨rfl, rfl, rfl, by decide +kernel, rfl, by decide +kernel, by decide +kernel⟩
theorem bi__law_gcd : BindOk "_law_gcd" (top 31) ["one", "other"] := fun _ _ _ _ _ _ us hl => match us, hl with | [_, _], _ => rfl
def k__law_gcd : List (Nat × List Str × List Nat) := []
theorem bk__law_gcd : BindKw "_law_gcd" (top 31) ["one", "other"] k__law_gcd := BindKw.nil
noncomputable def m__law_gcd : List D → Sto → R D := denF ["one", "other"] 2 [] [] [] (top 31)
noncomputable def c__law_gcd : Callee := ⟨["one", "other"], k__law_gcd, m__law_gcd⟩
/-! _law_behind -/
theorem sc__law_behind : FnScope ["one", "other", "part", "t", "down", "r", "m", "s", "n", "a", "b", "e", "c", "step", "n0", "first", "second", "old", "new", "many"] ["one", "other"] (defScope (top 32)) := ⟨rfl, rfl, rfl, by decide +kernel, rfl, by decide +kernel, by decide +kernel⟩
theorem bi__law_behind : BindOk "_law_behind" (top 32) ["one", "other"] := fun _ _ _ _ _ _ us hl => match us, hl with | [_, _], _ => rfl
def k__law_behind : List (Nat × List Str × List Nat) := []
theorem bk__law_behind : BindKw "_law_behind" (top 32) ["one", "other"] k__law_behind := BindKw.nil
noncomputable def m__law_behind : List D → Sto → R D := denF ["one", "other", "part", "t", "down", "r", "m", "s", "n", "a", "b", "e", "c", "step", "n0", "first", "second", "old", "new", "many"] 2 [("_law_gcd", c__law_gcd)] [] [] (top 32)
noncomputable def c__law_behind : Callee := ⟨["one", "other"], k__law_behind, m__law_behind⟩
/-! _law_wedge -/
theorem sc__law_wedge : FnScope ["store", "place", "many", "told", "habit", "kept"] ["store", "place", "many"] (defScope (top 29)) := ⟨rfl, rfl, rfl, by decide +kernel, rfl, by decide +kernel, by decide +kernel⟩
theorem bi__law_wedge : BindOk "_law_wedge" (top 29) ["store", "place", "many"] := fun _ _ _ _ _ _ us hl => match us, hl with | [_, _, _], _ => rfl
def k__law_wedge : List (Nat × List Str × List Nat) := []
theorem bk__law_wedge : BindKw "_law_wedge" (top 29) ["store", "place", "many"] k__law_wedge := BindKw.nil
noncomputable def m__law_wedge : List D → Sto → R D := denF ["store", "place", "many", "told", "habit", "kept"] 3 [] [] [] (top 29)
noncomputable def c__law_wedge : Callee := ⟨["store", "place", "many"], k__law_wedge, m__law_wedge⟩
/-! _law_of -/
theorem sc__law_of : FnScope ["store", "place", "things"] ["store", "place", "things"] (defScope (top 30)) := ⟨rfl, rfl, rfl, by decide +kernel, rfl, by decide +kernel, by decide +kernel⟩
theorem bi__law_of : BindOk "_law_of" (top 30) ["store", "place", "things"] := fun _ _ _ _ _ _ us hl => match us, hl with | [_, _, _], _ => rfl
def k__law_of : List (Nat × List Str × List Nat) := []
theorem bk__law_of : BindKw "_law_of" (top 30) ["store", "place", "things"] k__law_of := BindKw.nil
noncomputable def m__law_of : List D → Sto → R D := denF ["store", "place", "things"] 3 [("_law_wedge", c__law_wedge)] [] [] (top 30)
noncomputable def c__law_of : Callee := ⟨["store", "place", "things"], k__law_of, m__law_of⟩
/-! _law_wide -/
theorem sc__law_wide : FnScope ["quarry", "place", "great"] ["quarry", "place", "great"] (defScope (top 34)) := ⟨rfl, rfl, rfl, by decide +kernel, rfl, by decide +kernel, by decide +kernel⟩
theorem bi__law_wide : BindOk "_law_wide" (top 34) ["quarry", "place", "great"] := fun _ _ _ _ _ _ us hl => match us, hl with | [_, _, _], _ => rfl
def k__law_wide : List (Nat × List Str × List Nat) := []
theorem bk__law_wide : BindKw "_law_wide" (top 34) ["quarry", "place", "great"] k__law_wide := BindKw.nil
noncomputable def m__law_wide : List D → Sto → R D := denF ["quarry", "place", "great"] 3 [("_law_wedge", c__law_wedge)] [] [] (top 34)
noncomputable def c__law_wide : Callee := ⟨["quarry", "place", "great"], k__law_wide, m__law_wide⟩
/-! _law_form -/
theorem sc__law_form : FnScope ["quarry", "wide", "m", "n", "x", "r", "s", "way"] ["quarry"] (defScope (top 35)) := ⟨rfl, rfl, rfl, by decide +kernel, rfl, by decide +kernel, by decide +kernel⟩
theorem bi__law_form : BindOk "_law_form" (top 35) ["quarry"] := fun _ _ _ _ _ _ us hl => match us, hl with | [_], _ => rfl
def k__law_form : List (Nat × List Str × List Nat) := []
theorem bk__law_form : BindKw "_law_form" (top 35) ["quarry"] k__law_form := BindKw.nil
noncomputable def m__law_form : List D → Sto → R D := denF ["quarry", "wide", "m", "n", "x", "r", "s", "way"] 1 [("_law_of", c__law_of), ("_law_wide", c__law_wide), ("_law_wedge", c__law_wedge)] [] [] (top 35)
noncomputable def c__law_form : Callee := ⟨["quarry"], k__law_form, m__law_form⟩
/-! _law_same -/
theorem sc__law_same : FnScope ["told", "due", "at"] ["told", "due"] (defScope (top 36)) := ⟨rfl, rfl, rfl, by decide +kernel, rfl, by decide +kernel, by decide +kernel⟩
theorem bi__law_same : BindOk "_law_same" (top 36) ["told", "due"] := fun _ _ _ _ _ _ us hl => match us, hl with | [_, _], _ => rfl
def k__law_same : List (Nat × List Str × List Nat) := []
theorem bk__law_same : BindKw "_law_same" (top 36) ["told", "due"] k__law_same := BindKw.nil
noncomputable def r__law_same : Nat → List D → Sto → R D
  | 0 => fun _ _ => .no
  | n + 1 => denF ["told", "due", "at"] 2 [("_law_same", ⟨["told", "due"], k__law_same, r__law_same n⟩)] [] [] (top 36)
noncomputable def m__law_same : List D → Sto → R D := r__law_same 4
noncomputable def c__law_same : Callee := ⟨["told", "due"], k__law_same, m__law_same⟩
/-! _law_fixed -/
theorem sc__law_fixed : FnScope ["form", "r", "m", "s", "n"] ["form"] (defScope (top 33)) := ⟨rfl, rfl, rfl, by decide +kernel, rfl, by decide +kernel, by decide +kernel⟩
theorem bi__law_fixed : BindOk "_law_fixed" (top 33) ["form"] := fun _ _ _ _ _ _ us hl => match us, hl with | [_], _ => rfl
def k__law_fixed : List (Nat × List Str × List Nat) := []
theorem bk__law_fixed : BindKw "_law_fixed" (top 33) ["form"] k__law_fixed := BindKw.nil
noncomputable def m__law_fixed : List D → Sto → R D := denF ["form", "r", "m", "s", "n"] 1 [] [] [] (top 33)
noncomputable def c__law_fixed : Callee := ⟨["form"], k__law_fixed, m__law_fixed⟩
/-! _law_may -/
theorem sc__law_may : FnScope ["form"] ["form"] (defScope (top 38)) := ⟨rfl, rfl, rfl, by decide +kernel, rfl, by decide +kernel, by decide +kernel⟩
theorem bi__law_may : BindOk "_law_may" (top 38) ["form"] := fun _ _ _ _ _ _ us hl => match us, hl with | [_], _ => rfl
def k__law_may : List (Nat × List Str × List Nat) := []
theorem bk__law_may : BindKw "_law_may" (top 38) ["form"] k__law_may := BindKw.nil
noncomputable def m__law_may : List D → Sto → R D := denF ["form"] 1 [] [] [] (top 38)
noncomputable def c__law_may : Callee := ⟨["form"], k__law_may, m__law_may⟩
/-! gcd_of -/
theorem sc_gcd_of : FnScope ["one", "other"] ["one", "other"] (defScope (top 1)) := ⟨rfl, rfl, rfl, by decide +kernel, rfl, by decide +kernel, by decide +kernel⟩
theorem bi_gcd_of : BindOk "gcd_of" (top 1) ["one", "other"] := fun _ _ _ _ _ _ us hl => match us, hl with | [_, _], _ => rfl
def k_gcd_of : List (Nat × List Str × List Nat) := []
theorem bk_gcd_of : BindKw "gcd_of" (top 1) ["one", "other"] k_gcd_of := BindKw.nil
noncomputable def m_gcd_of : List D → Sto → R D := denF ["one", "other"] 2 [] [] [] (top 1)
noncomputable def c_gcd_of : Callee := ⟨["one", "other"], k_gcd_of, m_gcd_of⟩
/-! inverse_of -/
theorem sc_inverse_of : FnScope ["number", "modulus", "one", "other", "factor", "next_factor", "times"] ["number", "modulus"] (defScope (top 2)) := ⟨rfl, rfl, rfl, by decide +kernel, rfl, by decide +kernel, by decide +kernel⟩
theorem bi_inverse_of : BindOk "inverse_of" (top 2) ["number", "modulus"] := fun _ _ _ _ _ _ us hl => match us, hl with | [_, _], _ => rfl
def k_inverse_of : List (Nat × List Str × List Nat) := []
theorem bk_inverse_of : BindKw "inverse_of" (top 2) ["number", "modulus"] k_inverse_of := BindKw.nil
noncomputable def m_inverse_of : List D → Sto → R D := denF ["number", "modulus", "one", "other", "factor", "next_factor", "times"] 2 [] [] [] (top 2)
noncomputable def c_inverse_of : Callee := ⟨["number", "modulus"], k_inverse_of, m_inverse_of⟩
/-! solved -/
theorem sc_solved : FnScope ["factor", "wanted", "modulus", "common", "rest"] ["factor", "wanted", "modulus"] (defScope (top 3)) := ⟨rfl, rfl, rfl, by decide +kernel, rfl, by decide +kernel, by decide +kernel⟩
theorem bi_solved : BindOk "solved" (top 3) ["factor", "wanted", "modulus"] := fun _ _ _ _ _ _ us hl => match us, hl with | [_, _, _], _ => rfl
def k_solved : List (Nat × List Str × List Nat) := []
theorem bk_solved : BindKw "solved" (top 3) ["factor", "wanted", "modulus"] k_solved := BindKw.nil
noncomputable def m_solved : List D → Sto → R D := denF ["factor", "wanted", "modulus", "common", "rest"] 3 [("gcd_of", c_gcd_of), ("inverse_of", c_inverse_of)] [] [] (top 3)
noncomputable def c_solved : Callee := ⟨["factor", "wanted", "modulus"], k_solved, m_solved⟩
/-! in_lot -/
theorem sc_in_lot : FnScope ["lot", "number", "first", "step"] ["lot", "number"] (defScope (top 10)) := ⟨rfl, rfl, rfl, by decide +kernel, rfl, by decide +kernel, by decide +kernel⟩
theorem bi_in_lot : BindOk "in_lot" (top 10) ["lot", "number"] := fun _ _ _ _ _ _ us hl => match us, hl with | [_, _], _ => rfl
def k_in_lot : List (Nat × List Str × List Nat) := []
theorem bk_in_lot : BindKw "in_lot" (top 10) ["lot", "number"] k_in_lot := BindKw.nil
noncomputable def m_in_lot : List D → Sto → R D := denF ["lot", "number", "first", "step"] 2 [] [] [] (top 10)
noncomputable def c_in_lot : Callee := ⟨["lot", "number"], k_in_lot, m_in_lot⟩
/-! met -/
theorem sc_met : FnScope ["one", "other", "told", "step"] ["one", "other"] (defScope (top 11)) := ⟨rfl, rfl, rfl, by decide +kernel, rfl, by decide +kernel, by decide +kernel⟩
theorem bi_met : BindOk "met" (top 11) ["one", "other"] := fun _ _ _ _ _ _ us hl => match us, hl with | [_, _], _ => rfl
def k_met : List (Nat × List Str × List Nat) := []
theorem bk_met : BindKw "met" (top 11) ["one", "other"] k_met := BindKw.nil
noncomputable def m_met : List D → Sto → R D := denF ["one", "other", "told", "step"] 2 [("solved", c_solved), ("in_lot", c_in_lot)] [] [] (top 11)
noncomputable def c_met : Callee := ⟨["one", "other"], k_met, m_met⟩
/-! narrowed_so -/
theorem sc_narrowed_so : FnScope ["form", "turns", "here", "at", "first", "step", "behind", "step_behind", "by"] ["form", "turns"] (defScope (top 17)) := ⟨rfl, rfl, rfl, by decide +kernel, rfl, by decide +kernel, by decide +kernel⟩
theorem bi_narrowed_so : BindOk "narrowed_so" (top 17) ["form", "turns"] := fun _ _ _ _ _ _ us hl => match us, hl with | [_, _], _ => rfl
def k_narrowed_so : List (Nat × List Str × List Nat) := []
theorem bk_narrowed_so : BindKw "narrowed_so" (top 17) ["form", "turns"] k_narrowed_so := BindKw.nil
noncomputable def m_narrowed_so : List D → Sto → R D := denF ["form", "turns", "here", "at", "first", "step", "behind", "step_behind", "by"] 2 [] [] [] (top 17)
noncomputable def c_narrowed_so : Callee := ⟨["form", "turns"], k_narrowed_so, m_narrowed_so⟩
/-! turn_of -/
theorem sc_turn_of : FnScope ["form", "number"] ["form", "number"] (defScope (top 14)) := ⟨rfl, rfl, rfl, by decide +kernel, rfl, by decide +kernel, by decide +kernel⟩
theorem bi_turn_of : BindOk "turn_of" (top 14) ["form", "number"] := fun _ _ _ _ _ _ us hl => match us, hl with | [_, _], _ => rfl
def k_turn_of : List (Nat × List Str × List Nat) := []
theorem bk_turn_of : BindKw "turn_of" (top 14) ["form", "number"] k_turn_of := BindKw.nil
noncomputable def m_turn_of : List D → Sto → R D := denF ["form", "number"] 2 [] [] [] (top 14)
noncomputable def c_turn_of : Callee := ⟨["form", "number"], k_turn_of, m_turn_of⟩
/-! image -/
theorem sc_image : FnScope ["form", "number"] ["form", "number"] (defScope (top 15)) := ⟨rfl, rfl, rfl, by decide +kernel, rfl, by decide +kernel, by decide +kernel⟩
theorem bi_image : BindOk "image" (top 15) ["form", "number"] := fun _ _ _ _ _ _ us hl => match us, hl with | [_, _], _ => rfl
def k_image : List (Nat × List Str × List Nat) := []
theorem bk_image : BindKw "image" (top 15) ["form", "number"] k_image := BindKw.nil
noncomputable def m_image : List D → Sto → R D := denF ["form", "number"] 2 [("turn_of", c_turn_of)] [] [] (top 15)
noncomputable def c_image : Callee := ⟨["form", "number"], k_image, m_image⟩
/-! narrowed -/
theorem sc_narrowed : FnScope ["form", "lot", "told"] ["form", "lot"] (defScope (top 18)) := ⟨rfl, rfl, rfl, by decide +kernel, rfl, by decide +kernel, by decide +kernel⟩
theorem bi_narrowed : BindOk "narrowed" (top 18) ["form", "lot"] := fun _ _ _ _ _ _ us hl => match us, hl with | [_, _], _ => rfl
def k_narrowed : List (Nat × List Str × List Nat) := []
theorem bk_narrowed : BindKw "narrowed" (top 18) ["form", "lot"] k_narrowed := BindKw.nil
noncomputable def m_narrowed : List D → Sto → R D := denF ["form", "lot", "told"] 2 [("met", c_met), ("narrowed_so", c_narrowed_so), ("solved", c_solved), ("image", c_image)] [] [] (top 18)
noncomputable def c_narrowed : Callee := ⟨["form", "lot"], k_narrowed, m_narrowed⟩
/-! joined -/
theorem sc_joined : FnScope ["one", "other", "turns", "there", "first", "step", "behind", "step_behind"] ["one", "other"] (defScope (top 25)) := ⟨rfl, rfl, rfl, by decide +kernel, rfl, by decide +kernel, by decide +kernel⟩
theorem bi_joined : BindOk "joined" (top 25) ["one", "other"] := fun _ _ _ _ _ _ us hl => match us, hl with | [_, _], _ => rfl
def k_joined : List (Nat × List Str × List Nat) := [(0, ["other", "one"], [1, 0])]
theorem bk_joined : BindKw "joined" (top 25) ["one", "other"] k_joined := by
  intro n ks pm hm
  simp only [k_joined, List.mem_cons, List.not_mem_nil, or_false, Prod.mk.injEq] at hm
  rcases hm with ⟨rfl, rfl, rfl⟩
  · intro _ _ _ _ _ _ us ws h1 h2
    match us, h1, ws, h2 with
    | [], _, [_, _], _ => exact ⟨rfl, by decide⟩
noncomputable def m_joined : List D → Sto → R D := denF ["one", "other", "turns", "there", "first", "step", "behind", "step_behind"] 2 [("solved", c_solved), ("narrowed_so", c_narrowed_so), ("image", c_image), ("in_lot", c_in_lot)] [] [] (top 25)
noncomputable def c_joined : Callee := ⟨["one", "other"], k_joined, m_joined⟩
/-! crossing -/
theorem sc_crossing : FnScope ["one", "other", "slope", "rise", "top", "bottom", "other_top", "other_bottom"] ["one", "other"] (defScope (top 21)) := ⟨rfl, rfl, rfl, by decide +kernel, rfl, by decide +kernel, by decide +kernel⟩
theorem bi_crossing : BindOk "crossing" (top 21) ["one", "other"] := fun _ _ _ _ _ _ us hl => match us, hl with | [_, _], _ => rfl
def k_crossing : List (Nat × List Str × List Nat) := []
theorem bk_crossing : BindKw "crossing" (top 21) ["one", "other"] k_crossing := BindKw.nil
noncomputable def m_crossing : List D → Sto → R D := denF ["one", "other", "slope", "rise", "top", "bottom", "other_top", "other_bottom"] 2 [] [] [] (top 21)
noncomputable def c_crossing : Callee := ⟨["one", "other"], k_crossing, m_crossing⟩
/-! single_meeting -/
theorem sc_single_meeting : FnScope ["one", "other", "number"] ["one", "other", "number"] (defScope (top 20)) := ⟨rfl, rfl, rfl, by decide +kernel, rfl, by decide +kernel, by decide +kernel⟩
theorem bi_single_meeting : BindOk "single_meeting" (top 20) ["one", "other", "number"] := fun _ _ _ _ _ _ us hl => match us, hl with | [_, _, _], _ => rfl
def k_single_meeting : List (Nat × List Str × List Nat) := []
theorem bk_single_meeting : BindKw "single_meeting" (top 20) ["one", "other", "number"] k_single_meeting := BindKw.nil
noncomputable def m_single_meeting : List D → Sto → R D := denF ["one", "other", "number"] 3 [("in_lot", c_in_lot), ("image", c_image)] [] [] (top 20)
noncomputable def c_single_meeting : Callee := ⟨["one", "other", "number"], k_single_meeting, m_single_meeting⟩
/-! fraction_of -/
theorem sc_fraction_of : FnScope ["top", "bottom", "common", "sign"] ["top", "bottom"] (defScope (top 4)) := ⟨rfl, rfl, rfl, by decide +kernel, rfl, by decide +kernel, by decide +kernel⟩
theorem bi_fraction_of : BindOk "fraction_of" (top 4) ["top", "bottom"] := fun _ _ _ _ _ _ us hl => match us, hl with | [_, _], _ => rfl
def k_fraction_of : List (Nat × List Str × List Nat) := []
theorem bk_fraction_of : BindKw "fraction_of" (top 4) ["top", "bottom"] k_fraction_of := BindKw.nil
noncomputable def m_fraction_of : List D → Sto → R D := denF ["top", "bottom", "common", "sign"] 2 [("gcd_of", c_gcd_of)] [] [] (top 4)
noncomputable def c_fraction_of : Callee := ⟨["top", "bottom"], k_fraction_of, m_fraction_of⟩
/-! line_of -/
theorem sc_line_of : FnScope ["form", "first", "step", "behind", "step_behind"] ["form"] (defScope (top 13)) := ⟨rfl, rfl, rfl, by decide +kernel, rfl, by decide +kernel, by decide +kernel⟩
theorem bi_line_of : BindOk "line_of" (top 13) ["form"] := fun _ _ _ _ _ _ us hl => match us, hl with | [_], _ => rfl
def k_line_of : List (Nat × List Str × List Nat) := []
theorem bk_line_of : BindKw "line_of" (top 13) ["form"] k_line_of := BindKw.nil
noncomputable def m_line_of : List D → Sto → R D := denF ["form", "first", "step", "behind", "step_behind"] 1 [("fraction_of", c_fraction_of)] [] [] (top 13)
noncomputable def c_line_of : Callee := ⟨["form"], k_line_of, m_line_of⟩
/-! meeting -/
theorem sc_meeting : FnScope ["one", "other", "number"] ["one", "other"] (defScope (top 22)) := ⟨rfl, rfl, rfl, by decide +kernel, rfl, by decide +kernel, by decide +kernel⟩
theorem bi_meeting : BindOk "meeting" (top 22) ["one", "other"] := fun _ _ _ _ _ _ us hl => match us, hl with | [_, _], _ => rfl
def k_meeting : List (Nat × List Str × List Nat) := []
theorem bk_meeting : BindKw "meeting" (top 22) ["one", "other"] k_meeting := BindKw.nil
noncomputable def m_meeting : List D → Sto → R D := denF ["one", "other", "number"] 2 [("crossing", c_crossing), ("single_meeting", c_single_meeting), ("line_of", c_line_of), ("met", c_met)] [] [] (top 22)
noncomputable def c_meeting : Callee := ⟨["one", "other"], k_meeting, m_meeting⟩
/-! fixed_number -/
theorem sc_fixed_number : FnScope ["form", "told"] ["form"] (defScope (top 23)) := ⟨rfl, rfl, rfl, by decide +kernel, rfl, by decide +kernel, by decide +kernel⟩
theorem bi_fixed_number : BindOk "fixed_number" (top 23) ["form"] := fun _ _ _ _ _ _ us hl => match us, hl with | [_], _ => rfl
def k_fixed_number : List (Nat × List Str × List Nat) := [(0, ["form"], [0])]
theorem bk_fixed_number : BindKw "fixed_number" (top 23) ["form"] k_fixed_number := by
  intro n ks pm hm
  simp only [k_fixed_number, List.mem_cons, List.not_mem_nil, or_false, Prod.mk.injEq] at hm
  rcases hm with ⟨rfl, rfl, rfl⟩
  · intro _ _ _ _ _ _ us ws h1 h2
    match us, h1, ws, h2 with
    | [], _, [_], _ => exact ⟨rfl, by decide⟩
noncomputable def m_fixed_number : List D → Sto → R D := denF ["form", "told"] 1 [("meeting", c_meeting)] [] [] (top 23)
noncomputable def c_fixed_number : Callee := ⟨["form"], k_fixed_number, m_fixed_number⟩
/-! _law_line -/
theorem sc__law_line : FnScope ["form", "told", "top", "r", "m", "s", "n", "part"] ["form"] (defScope (top 37)) := ⟨rfl, rfl, rfl, by decide +kernel, rfl, by decide +kernel, by decide +kernel⟩
theorem bi__law_line : BindOk "_law_line" (top 37) ["form"] := fun _ _ _ _ _ _ us hl => match us, hl with | [_], _ => rfl
def k__law_line : List (Nat × List Str × List Nat) := []
theorem bk__law_line : BindKw "_law_line" (top 37) ["form"] k__law_line := BindKw.nil
noncomputable def m__law_line : List D → Sto → R D := denF ["form", "told", "top", "r", "m", "s", "n", "part"] 1 [("_law_gcd", c__law_gcd)] [] [] (top 37)
noncomputable def c__law_line : Callee := ⟨["form"], k__law_line, m__law_line⟩
/-! led -/
theorem sc_led : FnScope ["form", "number"] ["form", "number"] (defScope (top 16)) := ⟨rfl, rfl, rfl, by decide +kernel, rfl, by decide +kernel, by decide +kernel⟩
theorem bi_led : BindOk "led" (top 16) ["form", "number"] := fun _ _ _ _ _ _ us hl => match us, hl with | [_, _], _ => rfl
def k_led : List (Nat × List Str × List Nat) := [(0, ["number", "form"], [1, 0])]
theorem bk_led : BindKw "led" (top 16) ["form", "number"] k_led := by
  intro n ks pm hm
  simp only [k_led, List.mem_cons, List.not_mem_nil, or_false, Prod.mk.injEq] at hm
  rcases hm with ⟨rfl, rfl, rfl⟩
  · intro _ _ _ _ _ _ us ws h1 h2
    match us, h1, ws, h2 with
    | [], _, [_, _], _ => exact ⟨rfl, by decide⟩
noncomputable def m_led : List D → Sto → R D := denF ["form", "number"] 2 [("image", c_image), ("in_lot", c_in_lot)] [] [] (top 16)
noncomputable def c_led : Callee := ⟨["form", "number"], k_led, m_led⟩
/-! undone -/
theorem sc_undone : FnScope ["form", "sign", "size", "there", "at", "first", "step", "behind", "step_behind"] ["form"] (defScope (top 26)) := ⟨rfl, rfl, rfl, by decide +kernel, rfl, by decide +kernel, by decide +kernel⟩
theorem bi_undone : BindOk "undone" (top 26) ["form"] := fun _ _ _ _ _ _ us hl => match us, hl with | [_], _ => rfl
def k_undone : List (Nat × List Str × List Nat) := []
theorem bk_undone : BindKw "undone" (top 26) ["form"] k_undone := BindKw.nil
noncomputable def m_undone : List D → Sto → R D := denF ["form", "sign", "size", "there", "at", "first", "step", "behind", "step_behind"] 1 [] [] [] (top 26)
noncomputable def c_undone : Callee := ⟨["form"], k_undone, m_undone⟩
/-! _law_roads -/
theorem sc__law_roads : FnScope ["quarry", "form", "x", "back", "down", "c", "ahead", "moved", "b", "lot", "less", "twice", "r", "m", "s", "n"] ["quarry", "form"] (defScope (top 39)) := ⟨rfl, rfl, rfl, by decide +kernel, rfl, by decide +kernel, by decide +kernel⟩
theorem bi__law_roads : BindOk "_law_roads" (top 39) ["quarry", "form"] := fun _ _ _ _ _ _ us hl => match us, hl with | [_, _], _ => rfl
def k__law_roads : List (Nat × List Str × List Nat) := []
theorem bk__law_roads : BindKw "_law_roads" (top 39) ["quarry", "form"] k__law_roads := BindKw.nil
noncomputable def m__law_roads : List D → Sto → R D := denF ["quarry", "form", "x", "back", "down", "c", "ahead", "moved", "b", "lot", "less", "twice", "r", "m", "s", "n"] 2 [("_law_fixed", c__law_fixed), ("_law_of", c__law_of), ("_law_behind", c__law_behind), ("_law_same", c__law_same), ("_law_may", c__law_may), ("_law_wedge", c__law_wedge), ("narrowed", c_narrowed), ("joined", c_joined), ("fixed_number", c_fixed_number), ("line_of", c_line_of), ("_law_line", c__law_line), ("meeting", c_meeting), ("led", c_led), ("undone", c_undone)] [] [] (top 39)
noncomputable def c__law_roads : Callee := ⟨["quarry", "form"], k__law_roads, m__law_roads⟩
/-! law -/
theorem sc_law : FnScope ["script", "quarry", "told", "lap", "both", "form"] ["script"] (defScope (top 40)) := ⟨rfl, rfl, rfl, by decide +kernel, rfl, by decide +kernel, by decide +kernel⟩
theorem bi_law : BindOk "law" (top 40) ["script"] := fun _ _ _ _ _ _ us hl => match us, hl with | [_], _ => rfl
def k_law : List (Nat × List Str × List Nat) := []
theorem bk_law : BindKw "law" (top 40) ["script"] k_law := BindKw.nil
noncomputable def m_law : List D → Sto → R D := denF ["script", "quarry", "told", "lap", "both", "form"] 1 [("_law_quarry", c__law_quarry), ("_law_behind", c__law_behind), ("_law_form", c__law_form), ("_law_same", c__law_same), ("_law_roads", c__law_roads), ("joined", c_joined), ("_law_may", c__law_may)] [] [] (top 40)
noncomputable def c_law : Callee := ⟨["script"], k_law, m_law⟩
structure Tops (K : PySem.W.Frag) : Prop where
  _law_quarry : DefAt K "_law_quarry" (top 28)
  _law_gcd : DefAt K "_law_gcd" (top 31)
  _law_behind : DefAt K "_law_behind" (top 32)
  _law_wedge : DefAt K "_law_wedge" (top 29)
  _law_of : DefAt K "_law_of" (top 30)
  _law_wide : DefAt K "_law_wide" (top 34)
  _law_form : DefAt K "_law_form" (top 35)
  _law_same : DefAt K "_law_same" (top 36)
  _law_fixed : DefAt K "_law_fixed" (top 33)
  _law_may : DefAt K "_law_may" (top 38)
  gcd_of : DefAt K "gcd_of" (top 1)
  inverse_of : DefAt K "inverse_of" (top 2)
  solved : DefAt K "solved" (top 3)
  in_lot : DefAt K "in_lot" (top 10)
  met : DefAt K "met" (top 11)
  narrowed_so : DefAt K "narrowed_so" (top 17)
  turn_of : DefAt K "turn_of" (top 14)
  image : DefAt K "image" (top 15)
  narrowed : DefAt K "narrowed" (top 18)
  joined : DefAt K "joined" (top 25)
  crossing : DefAt K "crossing" (top 21)
  single_meeting : DefAt K "single_meeting" (top 20)
  fraction_of : DefAt K "fraction_of" (top 4)
  line_of : DefAt K "line_of" (top 13)
  meeting : DefAt K "meeting" (top 22)
  fixed_number : DefAt K "fixed_number" (top 23)
  _law_line : DefAt K "_law_line" (top 37)
  led : DefAt K "led" (top 16)
  undone : DefAt K "undone" (top 26)
  _law_roads : DefAt K "_law_roads" (top 39)
  law : DefAt K "law" (top 40)
section
variable {P : Program} {w : World} {K : PySem.W.Frag} {mg : Str → Option Value} {base h : Heap}
structure Env1 (K : PySem.W.Frag) (mg : Str → Option Value) (h : Heap) : Prop where
  X : K.In h
  G : h.Ns mainGlobals mg
  M : Mdl K mg []
  T : Tops K
theorem at__law_quarry (E : Env1 K mg h) : FnAt P w K mg base 1 "_law_quarry" c__law_quarry := fnAt_den E.X E.G E.T._law_quarry sc__law_quarry bi__law_quarry bk__law_quarry Lib.nil E.M
theorem at__law_gcd (E : Env1 K mg h) : FnAt P w K mg base 1 "_law_gcd" c__law_gcd := fnAt_den E.X E.G E.T._law_gcd sc__law_gcd bi__law_gcd bk__law_gcd Lib.nil E.M
theorem at__law_behind (E : Env1 K mg h) : FnAt P w K mg base 2 "_law_behind" c__law_behind := fnAt_den E.X E.G E.T._law_behind sc__law_behind bi__law_behind bk__law_behind (Lib.cons (at__law_gcd E) Lib.nil (by decide)) E.M
theorem at__law_wedge (E : Env1 K mg h) : FnAt P w K mg base 1 "_law_wedge" c__law_wedge := fnAt_den E.X E.G E.T._law_wedge sc__law_wedge bi__law_wedge bk__law_wedge Lib.nil E.M
theorem at__law_of (E : Env1 K mg h) : FnAt P w K mg base 2 "_law_of" c__law_of := fnAt_den E.X E.G E.T._law_of sc__law_of bi__law_of bk__law_of (Lib.cons (at__law_wedge E) Lib.nil (by decide)) E.M
theorem at__law_wide (E : Env1 K mg h) : FnAt P w K mg base 2 "_law_wide" c__law_wide := fnAt_den E.X E.G E.T._law_wide sc__law_wide bi__law_wide bk__law_wide (Lib.cons (at__law_wedge E) Lib.nil (by decide)) E.M
theorem at__law_form (E : Env1 K mg h) : FnAt P w K mg base 3 "_law_form" c__law_form := fnAt_den E.X E.G E.T._law_form sc__law_form bi__law_form bk__law_form (Lib.cons (at__law_of E) (Lib.cons (at__law_wide E) (Lib.cons (at__law_wedge E) Lib.nil (by decide)) (by decide)) (by decide)) E.M
theorem ar__law_same (E : Env1 K mg h) : ∀ n, FnAt P w K mg base (n + 0) "_law_same" ⟨["told", "due"], k__law_same, r__law_same n⟩
  | 0 => fnAt_zero E.X E.G E.T._law_same bi__law_same bk__law_same
  | n + 1 => (fnAt_den (k := n + 0) E.X E.G E.T._law_same sc__law_same bi__law_same bk__law_same (Lib.cons (ar__law_same E n) Lib.nil (by omega)) E.M).mono (by omega)
theorem at__law_same (E : Env1 K mg h) : FnAt P w K mg base 4 "_law_same" c__law_same := ar__law_same E 4
theorem at__law_fixed (E : Env1 K mg h) : FnAt P w K mg base 1 "_law_fixed" c__law_fixed := fnAt_den E.X E.G E.T._law_fixed sc__law_fixed bi__law_fixed bk__law_fixed Lib.nil E.M
theorem at__law_may (E : Env1 K mg h) : FnAt P w K mg base 1 "_law_may" c__law_may := fnAt_den E.X E.G E.T._law_may sc__law_may bi__law_may bk__law_may Lib.nil E.M
theorem at_gcd_of (E : Env1 K mg h) : FnAt P w K mg base 1 "gcd_of" c_gcd_of := fnAt_den E.X E.G E.T.gcd_of sc_gcd_of bi_gcd_of bk_gcd_of Lib.nil E.M
theorem at_inverse_of (E : Env1 K mg h) : FnAt P w K mg base 1 "inverse_of" c_inverse_of := fnAt_den E.X E.G E.T.inverse_of sc_inverse_of bi_inverse_of bk_inverse_of Lib.nil E.M
theorem at_solved (E : Env1 K mg h) : FnAt P w K mg base 2 "solved" c_solved := fnAt_den E.X E.G E.T.solved sc_solved bi_solved bk_solved (Lib.cons (at_gcd_of E) (Lib.cons (at_inverse_of E) Lib.nil (by decide)) (by decide)) E.M
theorem at_in_lot (E : Env1 K mg h) : FnAt P w K mg base 1 "in_lot" c_in_lot := fnAt_den E.X E.G E.T.in_lot sc_in_lot bi_in_lot bk_in_lot Lib.nil E.M
theorem at_met (E : Env1 K mg h) : FnAt P w K mg base 3 "met" c_met := fnAt_den E.X E.G E.T.met sc_met bi_met bk_met (Lib.cons (at_solved E) (Lib.cons (at_in_lot E) Lib.nil (by decide)) (by decide)) E.M
theorem at_narrowed_so (E : Env1 K mg h) : FnAt P w K mg base 1 "narrowed_so" c_narrowed_so := fnAt_den E.X E.G E.T.narrowed_so sc_narrowed_so bi_narrowed_so bk_narrowed_so Lib.nil E.M
theorem at_turn_of (E : Env1 K mg h) : FnAt P w K mg base 1 "turn_of" c_turn_of := fnAt_den E.X E.G E.T.turn_of sc_turn_of bi_turn_of bk_turn_of Lib.nil E.M
theorem at_image (E : Env1 K mg h) : FnAt P w K mg base 2 "image" c_image := fnAt_den E.X E.G E.T.image sc_image bi_image bk_image (Lib.cons (at_turn_of E) Lib.nil (by decide)) E.M
theorem at_narrowed (E : Env1 K mg h) : FnAt P w K mg base 4 "narrowed" c_narrowed := fnAt_den E.X E.G E.T.narrowed sc_narrowed bi_narrowed bk_narrowed (Lib.cons (at_met E) (Lib.cons (at_narrowed_so E) (Lib.cons (at_solved E) (Lib.cons (at_image E) Lib.nil (by decide)) (by decide)) (by decide)) (by decide)) E.M
theorem at_joined (E : Env1 K mg h) : FnAt P w K mg base 3 "joined" c_joined := fnAt_den E.X E.G E.T.joined sc_joined bi_joined bk_joined (Lib.cons (at_solved E) (Lib.cons (at_narrowed_so E) (Lib.cons (at_image E) (Lib.cons (at_in_lot E) Lib.nil (by decide)) (by decide)) (by decide)) (by decide)) E.M
theorem at_crossing (E : Env1 K mg h) : FnAt P w K mg base 1 "crossing" c_crossing := fnAt_den E.X E.G E.T.crossing sc_crossing bi_crossing bk_crossing Lib.nil E.M
theorem at_single_meeting (E : Env1 K mg h) : FnAt P w K mg base 3 "single_meeting" c_single_meeting := fnAt_den E.X E.G E.T.single_meeting sc_single_meeting bi_single_meeting bk_single_meeting (Lib.cons (at_in_lot E) (Lib.cons (at_image E) Lib.nil (by decide)) (by decide)) E.M
theorem at_fraction_of (E : Env1 K mg h) : FnAt P w K mg base 2 "fraction_of" c_fraction_of := fnAt_den E.X E.G E.T.fraction_of sc_fraction_of bi_fraction_of bk_fraction_of (Lib.cons (at_gcd_of E) Lib.nil (by decide)) E.M
theorem at_line_of (E : Env1 K mg h) : FnAt P w K mg base 3 "line_of" c_line_of := fnAt_den E.X E.G E.T.line_of sc_line_of bi_line_of bk_line_of (Lib.cons (at_fraction_of E) Lib.nil (by decide)) E.M
theorem at_meeting (E : Env1 K mg h) : FnAt P w K mg base 4 "meeting" c_meeting := fnAt_den E.X E.G E.T.meeting sc_meeting bi_meeting bk_meeting (Lib.cons (at_crossing E) (Lib.cons (at_single_meeting E) (Lib.cons (at_line_of E) (Lib.cons (at_met E) Lib.nil (by decide)) (by decide)) (by decide)) (by decide)) E.M
theorem at_fixed_number (E : Env1 K mg h) : FnAt P w K mg base 5 "fixed_number" c_fixed_number := fnAt_den E.X E.G E.T.fixed_number sc_fixed_number bi_fixed_number bk_fixed_number (Lib.cons (at_meeting E) Lib.nil (by decide)) E.M
theorem at__law_line (E : Env1 K mg h) : FnAt P w K mg base 2 "_law_line" c__law_line := fnAt_den E.X E.G E.T._law_line sc__law_line bi__law_line bk__law_line (Lib.cons (at__law_gcd E) Lib.nil (by decide)) E.M
theorem at_led (E : Env1 K mg h) : FnAt P w K mg base 3 "led" c_led := fnAt_den E.X E.G E.T.led sc_led bi_led bk_led (Lib.cons (at_image E) (Lib.cons (at_in_lot E) Lib.nil (by decide)) (by decide)) E.M
theorem at_undone (E : Env1 K mg h) : FnAt P w K mg base 1 "undone" c_undone := fnAt_den E.X E.G E.T.undone sc_undone bi_undone bk_undone Lib.nil E.M
theorem at__law_roads (E : Env1 K mg h) : FnAt P w K mg base 6 "_law_roads" c__law_roads := fnAt_den E.X E.G E.T._law_roads sc__law_roads bi__law_roads bk__law_roads (Lib.cons (at__law_fixed E) (Lib.cons (at__law_of E) (Lib.cons (at__law_behind E) (Lib.cons (at__law_same E) (Lib.cons (at__law_may E) (Lib.cons (at__law_wedge E) (Lib.cons (at_narrowed E) (Lib.cons (at_joined E) (Lib.cons (at_fixed_number E) (Lib.cons (at_line_of E) (Lib.cons (at__law_line E) (Lib.cons (at_meeting E) (Lib.cons (at_led E) (Lib.cons (at_undone E) Lib.nil (by decide)) (by decide)) (by decide)) (by decide)) (by decide)) (by decide)) (by decide)) (by decide)) (by decide)) (by decide)) (by decide)) (by decide)) (by decide)) (by decide)) E.M
theorem lib_law (E : Env1 K mg h) : Lib P w K mg base 6 [("_law_quarry", c__law_quarry), ("_law_behind", c__law_behind), ("_law_form", c__law_form), ("_law_same", c__law_same), ("_law_roads", c__law_roads), ("joined", c_joined), ("_law_may", c__law_may)] := (Lib.cons (at__law_quarry E) (Lib.cons (at__law_behind E) (Lib.cons (at__law_form E) (Lib.cons (at__law_same E) (Lib.cons (at__law_roads E) (Lib.cons (at_joined E) (Lib.cons (at__law_may E) Lib.nil (by decide)) (by decide)) (by decide)) (by decide)) (by decide)) (by decide)) (by decide))
end
end Py
namespace Py
open PySem PySem.Spec L2 PyProof.Rows
noncomputable def b__law_quarry_1 : SM := (seqS (setS 3 (bE .Mod (biE "abs" (consA (biE "int" (consA (vE 2) nilA)) nilA)) (bE .Mult (bE .Mult (bE .Pow (cE (.int 10)) (cE (.int 60))) (bE .Pow (cE (.int 10)) (cE (.int 60)))) (bE .Pow (cE (.int 10)) (cE (.int 60))))))
    (seqS (putS (vE 1) (cE (.int 1)) (bE .Mod (biE "int" (consA (bE .Add (bE .Add (bE .Add (bE .Mult (ixE (vE 1) (cE (.int 1))) (cE (.int 8707))) (bE .Mod (vE 3) (cE (.int 19013)))) (cE (.int 461))) (bE .Mult (cE (.int 3)) (biE "int" (consA (kE .Lt (biE "int" (consA (vE 2) nilA)) (cE (.int 0))) nilA)))) nilA)) (cE (.int 2147470379))))
    (seqS (ifS (ktT (kE .GtE (vE 3) (bE .Pow (cE (.int 10)) (cE (.int 16))))) (seqS (putS (vE 1) (cE (.int 0)) (bE .Add (bE .Mult (ixE (vE 1) (cE (.int 0))) (bE .Mult (bE .Mult (bE .Pow (cE (.int 10)) (cE (.int 60))) (bE .Pow (cE (.int 10)) (cE (.int 60)))) (bE .Pow (cE (.int 10)) (cE (.int 60))))) (vE 3)))
    nxS) nxS)
    nxS)))
noncomputable def s__law_quarry_2 : SM := seqS (retS (vE 1)) nxS
noncomputable def s__law_quarry_1 : SM := seqS (forS (itI (slE (vE 0) noP (someP (cE (.int 48))))) (.nm 2) b__law_quarry_1) s__law_quarry_2
noncomputable def s__law_quarry_0 : SM := seqS (setS 1 (lstE (consA (cE (.int 0)) (consA (bE .Add (cE (.int 467009)) (bE .Mult (cE (.int 431)) (biE "len" (consA (slE (vE 0) noP (someP (cE (.int 64)))) nilA)))) (consA (cE (.int 0)) (consA dctE nilA)))))) s__law_quarry_1
theorem e__law_quarry : m__law_quarry = fnR ["script", "told", "cell", "size"] 1 s__law_quarry_0 := by rfl
noncomputable def t__law_gcd_1 : M Bool := (ktT (kE .NotEq (vE 1) (cE (.int 0))))
noncomputable def b__law_gcd_2 : SM := (seqS (parS 0 1 (vE 1) (bE .Mod (biE "int" (consA (vE 0) nilA)) (vE 1)))
    nxS)
theorem e__law_gcd : m__law_gcd = fnR ["one", "other"] 2 (seqS (parS 0 1 (biE "abs" (consA (vE 0) nilA)) (biE "abs" (consA (vE 1) nilA)))
    (seqS (whileS t__law_gcd_1 b__law_gcd_2)
    (seqS (retS (vE 0))
    nxS))) := by rfl
noncomputable def t__law_behind_1 : M Bool := (ktT (kE .NotEq (vE 16) (cE (.int 0))))
noncomputable def b__law_behind_2 : SM := (seqS (setS 19 (bE .FloorDiv (vE 15) (vE 16)))
    (seqS (tgtS (.tp [(.nm 15), (.nm 16), (.nm 17), (.nm 18)]) (tupE (consA (vE 16) (consA (bE .Sub (vE 15) (bE .Mult (vE 19) (vE 16))) (consA (vE 18) (consA (bE .Sub (vE 17) (bE .Mult (vE 19) (vE 18))) nilA))))))
    nxS))
theorem e__law_behind : m__law_behind = fnR ["one", "other", "part", "t", "down", "r", "m", "s", "n", "a", "b", "e", "c", "step", "n0", "first", "second", "old", "new", "many"] 2 (seqS (tgtS (.tp [(.nm 5), (.nm 6), (.nm 7), (.nm 8)]) (vE 0))
    (seqS (tgtS (.tp [(.nm 9), (.nm 10), (.nm 11), (.nm 12)]) (vE 1))
    (seqS (setS 2 (caE m__law_gcd (consA (vE 8) (consA (vE 10) nilA))))
    (seqS (ifS (ktT (kE .NotEq (bE .Mod (biE "int" (consA (bE .Sub (vE 9) (vE 7)) nilA)) (vE 2)) (cE (.int 0)))) (seqS (retS (cE .non))
    nxS) nxS)
    (seqS (parS 13 14 (bE .FloorDiv (vE 10) (vE 2)) (bE .FloorDiv (vE 8) (vE 2)))
    (seqS (setS 3 (cE (.int 0)))
    (seqS (ifS (ktT (kE .Gt (vE 13) (cE (.int 1)))) (seqS (tgtS (.tp [(.nm 15), (.nm 16), (.nm 17), (.nm 18)]) (tupE (consA (vE 13) (consA (bE .Mod (biE "int" (consA (vE 14) nilA)) (vE 13)) (consA (cE (.int 0)) (consA (cE (.int 1)) nilA))))))
    (seqS (whileS t__law_behind_1 b__law_behind_2)
    (seqS (setS 3 (bE .Mod (biE "int" (consA (bE .Mult (vE 17) (bE .FloorDiv (bE .Sub (vE 9) (vE 7)) (vE 2))) nilA)) (vE 13)))
    nxS))) nxS)
    (seqS (tgtS (.tp [(.nm 5), (.nm 7), (.nm 6), (.nm 8)]) (tupE (consA (bE .Add (vE 5) (bE .Mult (vE 6) (vE 3))) (consA (bE .Add (vE 11) (bE .Mult (vE 12) (bE .FloorDiv (bE .Sub (bE .Add (vE 7) (bE .Mult (vE 8) (vE 3))) (vE 9)) (vE 10)))) (consA (bE .Mult (vE 6) (vE 13)) (consA (bE .Mult (vE 12) (bE .FloorDiv (bE .Mult (vE 8) (vE 13)) (vE 10))) nilA))))))
    (seqS (setS 4 (bE .FloorDiv (vE 5) (vE 6)))
    (seqS (retS (tupE (consA (bE .Sub (vE 5) (bE .Mult (vE 4) (vE 6))) (consA (vE 6) (consA (bE .Sub (vE 7) (bE .Mult (vE 4) (vE 8))) (consA (vE 8) nilA))))))
    nxS)))))))))) := by rfl
theorem e__law_wedge : m__law_wedge = fnR ["store", "place", "many", "told", "habit", "kept"] 3 (seqS (ifS (ktT (kE .GtE (ixE (vE 0) (cE (.int 0))) (vE 2))) (seqS (setS 3 (bE .Mod (biE "int" (consA (ixE (vE 0) (cE (.int 0))) nilA)) (vE 2)))
    (seqS (putS (vE 0) (cE (.int 0)) (bE .FloorDiv (ixE (vE 0) (cE (.int 0))) (vE 2)))
    (seqS (retS (vE 3))
    nxS))) nxS)
    (seqS (putS (vE 0) (cE (.int 2)) (bE .Add (ixE (vE 0) (cE (.int 2))) (cE (.int 1))))
    (seqS (putS (vE 0) (cE (.int 1)) (bE .Mod (biE "int" (consA (bE .Add (bE .Add (bE .Mult (ixE (vE 0) (cE (.int 1))) (cE (.int 101))) (bE .Mult (ixE (vE 0) (cE (.int 2))) (cE (.int 90944)))) (cE (.int 29))) nilA)) (cE (.int 2147470379))))
    (seqS (setS 3 (biE "int" (consA (bE .FloorDiv (ixE (vE 0) (cE (.int 1))) (cE (.int 577))) nilA)))
    (seqS (ifS (ktT (kE .NotIn (vE 1) (ixE (vE 0) (cE (.int 3))))) (seqS (putS (ixE (vE 0) (cE (.int 3))) (vE 1) (tupE (consA (bE .Mod (biE "int" (consA (bE .FloorDiv (vE 3) (cE (.int 431))) nilA)) (cE (.int 19))) (consA (bE .FloorDiv (vE 3) (cE (.int 7))) nilA))))
    nxS) nxS)
    (seqS (tgtS (.tp [(.nm 4), (.nm 5)]) (ixE (ixE (vE 0) (cE (.int 3))) (vE 1)))
    (seqS (retS (ifE (ktT (kE .Lt (vE 4) (cE (.int 3)))) (ixE (tupE (consA (cE (.int 0)) (consA (bE .Sub (vE 2) (cE (.int 1))) (consA (bE .Mod (biE "int" (consA (vE 5) nilA)) (vE 2)) nilA)))) (vE 4)) (bE .Mod (biE "int" (consA (vE 3) nilA)) (vE 2))))
    nxS))))))) := by rfl
theorem e__law_of : m__law_of = fnR ["store", "place", "things"] 3 (seqS (retS (ixE (vE 2) (caE m__law_wedge (consA (vE 0) (consA (vE 1) (consA (biE "len" (consA (vE 2) nilA)) nilA))))))
    nxS) := by rfl
theorem e__law_wide : m__law_wide = fnR ["quarry", "place", "great"] 3 (seqS (retS (bE .Sub (caE m__law_wedge (consA (vE 0) (consA (vE 1) (consA (bE .Add (bE .Mult (cE (.int 2)) (vE 2)) (cE (.int 1))) nilA)))) (vE 2)))
    nxS) := by rfl
noncomputable def s__law_form_9 : SM := seqS (retS (ifE (ktT (kE .LtE (biE "abs" (consA (vE 6) nilA)) (bE .Pow (cE (.int 10)) (cE (.int 12))))) (tupE (consA (vE 5) (consA (vE 2) (consA (vE 6) (consA (vE 3) nilA))))) (tupE (consA (vE 5) (consA (vE 2) (consA (bE .Mod (biE "int" (consA (vE 6) nilA)) (bE .Pow (cE (.int 10)) (cE (.int 6)))) (consA (vE 3) nilA))))))) nxS
noncomputable def s__law_form_8 : SM := seqS (ifS (ktT (kE .Eq (vE 7) (cE (.int 0)))) (seqS (setS 6 (bE .Add (vE 6) (caE m__law_of (consA (vE 0) (consA (cE (.str "beside")) (consA (tupE (consA (cE (.int 1)) (consA (negE (cE (.int 1))) (consA (cE (.int 2)) (consA (bE .Sub (vE 2) (vE 3)) (consA (bE .Sub (vE 3) (vE 2)) (consA (cE (.int 7)) nilA))))))) nilA))))))
    nxS) (seqS (ifS (ktT (kE .Eq (vE 7) (cE (.int 1)))) (seqS (setS 6 (caE m__law_wide (consA (vE 0) (consA (cE (.str "any s")) (consA (caE m__law_of (consA (vE 0) (consA (cE (.str "s wide")) (consA (tupE (consA (cE (.int 9)) (consA (bE .Pow (cE (.int 10)) (cE (.int 12))) nilA))) nilA)))) nilA)))))
    nxS) nxS)
    nxS)) s__law_form_9
noncomputable def s__law_form_7 : SM := seqS (setS 7 (caE m__law_wedge (consA (vE 0) (consA (cE (.str "form way")) (consA (cE (.int 4)) nilA))))) s__law_form_8
noncomputable def s__law_form_6 : SM := seqS (setS 6 (bE .Sub (vE 4) (bE .Mult (vE 3) (bE .FloorDiv (bE .Sub (vE 4) (vE 5)) (vE 2))))) s__law_form_7
noncomputable def s__law_form_5 : SM := seqS (setS 5 (bE .Mod (biE "int" (consA (vE 4) nilA)) (vE 2))) s__law_form_6
noncomputable def s__law_form_4 : SM := seqS (setS 4 (caE m__law_wide (consA (vE 0) (consA (cE (.str "x")) (consA (caE m__law_of (consA (vE 0) (consA (cE (.str "x wide")) (consA (tupE (consA (cE (.int 5)) (consA (bE .Pow (cE (.int 10)) (cE (.int 6))) (consA (bE .Pow (cE (.int 10)) (cE (.int 11))) nilA)))) nilA)))) nilA))))) s__law_form_5
noncomputable def s__law_form_3 : SM := seqS (setS 3 (ifE (ktT (kE .NotEq (bE .Mod (biE "int" (consA (vE 3) nilA)) (vE 2)) (cE (.int 0)))) (vE 3) (bE .Mult (caE m__law_of (consA (vE 0) (consA (cE (.str "n sign")) (consA (tupE (consA (cE (.int 1)) (consA (negE (cE (.int 1))) nilA))) nilA)))) (ifE (ktT (kE .Gt (vE 2) (cE (.int 2)))) (bE .Sub (vE 2) (cE (.int 1))) (cE (.int 1)))))) s__law_form_4
noncomputable def s__law_form_2 : SM := seqS (setS 3 (bE .Mult (caE m__law_of (consA (vE 0) (consA (cE (.str "n sign")) (consA (tupE (consA (cE (.int 1)) (consA (negE (cE (.int 1))) nilA))) nilA)))) (bE .Add (cE (.int 1)) (caE m__law_wedge (consA (vE 0) (consA (cE (.str "n")) (consA (vE 1) nilA))))))) s__law_form_3
noncomputable def s__law_form_1 : SM := seqS (setS 2 (bE .Add (cE (.int 2)) (caE m__law_wedge (consA (vE 0) (consA (cE (.str "m")) (consA (bE .Sub (vE 1) (cE (.int 1))) nilA)))))) s__law_form_2
noncomputable def s__law_form_0 : SM := seqS (setS 1 (caE m__law_of (consA (vE 0) (consA (cE (.str "wide")) (consA (tupE (consA (cE (.int 12)) (consA (cE (.int 1000)) (consA (bE .Pow (cE (.int 10)) (cE (.int 6))) nilA)))) nilA))))) s__law_form_1
theorem e__law_form : m__law_form = fnR ["quarry", "wide", "m", "n", "x", "r", "s", "way"] 1 s__law_form_0 := by rfl
noncomputable def q__law_same_1 (n : Nat) : M Bool := (notT (trT (caE (r__law_same n) (consA (ixE (vE 0) (vE 2)) (consA (ixE (vE 1) (vE 2)) nilA)))))
noncomputable def y__law_same_2 (n : Nat) : M D := (cE (.int 1))
theorem e__law_same (n : Nat) : r__law_same (n + 1) = fnR ["told", "due", "at"] 2 (seqS (ifS (trT (isE "tuple" (vE 1))) (seqS (retS (andE (isE "tuple" (vE 0)) (andE (kE .Eq (biE "len" (consA (vE 0) nilA)) (biE "len" (consA (vE 1) nilA))) (kE .Eq (biE "len" (consA (lcE (rgI (consA (biE "len" (consA (vE 1) nilA)) nilA)) (.nm 2) (q__law_same_1 n) (y__law_same_2 n) [2]) nilA)) (cE (.int 0))))))
    nxS) nxS)
    (seqS (ifS (ktT (kE .Is (vE 1) (cE .non))) (seqS (retS (kE .Is (vE 0) (cE .non)))
    nxS) nxS)
    (seqS (retS (andE (isE "int" (vE 0)) (andE (notE (isE "bool" (vE 0))) (kE .Eq (vE 0) (vE 1)))))
    nxS))) := by rfl
theorem e__law_fixed : m__law_fixed = fnR ["form", "r", "m", "s", "n"] 1 (seqS (tgtS (.tp [(.nm 1), (.nm 2), (.nm 3), (.nm 4)]) (vE 0))
    (seqS (retS (ifE (andT (ktT (kE .NotEq (vE 2) (vE 4))) (ktT (kE .Eq (bE .Mod (biE "int" (consA (bE .Sub (vE 3) (vE 1)) nilA)) (bE .Sub (vE 2) (vE 4))) (cE (.int 0))))) (bE .Add (vE 1) (bE .Mult (vE 2) (bE .FloorDiv (bE .Sub (vE 3) (vE 1)) (bE .Sub (vE 2) (vE 4))))) (cE .non)))
    nxS)) := by rfl
theorem e__law_may : m__law_may = fnR ["form"] 1 (seqS (retS (andE (kE .IsNot (vE 0) (cE .non)) (andE (kE .LtE (biE "max" (consA (ixE (vE 0) (cE (.int 1))) (consA (biE "abs" (consA (ixE (vE 0) (cE (.int 3))) nilA)) nilA))) (bE .Pow (cE (.int 10)) (cE (.int 6)))) (andE (kE .LtE (biE "max" (consA (ixE (vE 0) (cE (.int 0))) (consA (biE "abs" (consA (ixE (vE 0) (cE (.int 2))) nilA)) nilA))) (bE .Pow (cE (.int 10)) (cE (.int 12)))) (kE .NotEq (bE .Mod (biE "int" (consA (ixE (vE 0) (cE (.int 3))) nilA)) (ixE (vE 0) (cE (.int 1)))) (cE (.int 0)))))))
    nxS) := by rfl
noncomputable def t_gcd_of_1 : M Bool := (ktT (kE .NotEq (vE 1) (cE (.int 0))))
noncomputable def b_gcd_of_2 : SM := (seqS (parS 0 1 (vE 1) (bE .Mod (vE 0) (vE 1)))
    nxS)
theorem e_gcd_of : m_gcd_of = fnR ["one", "other"] 2 (seqS (whileS t_gcd_of_1 b_gcd_of_2)
    (seqS (retS (biE "abs" (consA (vE 0) nilA)))
    nxS)) := by rfl
noncomputable def t_inverse_of_1 : M Bool := (ktT (kE .NotEq (vE 3) (cE (.int 0))))
noncomputable def b_inverse_of_2 : SM := (seqS (setS 6 (bE .FloorDiv (vE 2) (vE 3)))
    (seqS (parS 2 3 (vE 3) (bE .Sub (vE 2) (bE .Mult (vE 6) (vE 3))))
    (seqS (parS 4 5 (vE 5) (bE .Sub (vE 4) (bE .Mult (vE 6) (vE 5))))
    nxS)))
theorem e_inverse_of : m_inverse_of = fnR ["number", "modulus", "one", "other", "factor", "next_factor", "times"] 2 (seqS (parS 2 3 (vE 1) (bE .Mod (vE 0) (vE 1)))
    (seqS (tgtS (.tp [(.nm 4), (.nm 5)]) (tupE (consA (cE (.int 0)) (consA (cE (.int 1)) nilA))))
    (seqS (whileS t_inverse_of_1 b_inverse_of_2)
    (seqS (retS (bE .Mod (vE 4) (vE 1)))
    nxS)))) := by rfl
theorem e_solved : m_solved = fnR ["factor", "wanted", "modulus", "common", "rest"] 3 (seqS (setS 3 (caE m_gcd_of (consA (vE 0) (consA (vE 2) nilA))))
    (seqS (ifS (ktT (kE .NotEq (bE .Mod (vE 1) (vE 3)) (cE (.int 0)))) (seqS (retS (cE .non))
    nxS) nxS)
    (seqS (setS 4 (bE .FloorDiv (vE 2) (vE 3)))
    (seqS (retS (tupE (consA (bE .Mod (bE .Mult (bE .FloorDiv (vE 1) (vE 3)) (caE m_inverse_of (consA (bE .FloorDiv (vE 0) (vE 3)) (consA (vE 4) nilA)))) (vE 4)) (consA (vE 4) nilA))))
    nxS)))) := by rfl
theorem e_in_lot : m_in_lot = fnR ["lot", "number", "first", "step"] 2 (seqS (tgtS (.tp [(.nm 2), (.nm 3)]) (vE 0))
    (seqS (retS (ifE (ktT (kE .Eq (vE 3) (cE (.int 0)))) (kE .Eq (vE 1) (vE 2)) (kE .Eq (bE .Mod (bE .Sub (vE 1) (vE 2)) (vE 3)) (cE (.int 0)))))
    nxS)) := by rfl
theorem e_met : m_met = fnR ["one", "other", "told", "step"] 2 (seqS (ifS (ktT (kE .Eq (ixE (vE 0) (cE (.int 1))) (cE (.int 0)))) (seqS (retS (ifE (trT (caE m_in_lot (consA (vE 1) (consA (ixE (vE 0) (cE (.int 0))) nilA)))) (vE 0) (cE .non)))
    nxS) nxS)
    (seqS (ifS (ktT (kE .Eq (ixE (vE 1) (cE (.int 1))) (cE (.int 0)))) (seqS (retS (ifE (trT (caE m_in_lot (consA (vE 0) (consA (ixE (vE 1) (cE (.int 0))) nilA)))) (vE 1) (cE .non)))
    nxS) nxS)
    (seqS (setS 2 (caE m_solved (consA (ixE (vE 0) (cE (.int 1))) (consA (bE .Sub (ixE (vE 1) (cE (.int 0))) (ixE (vE 0) (cE (.int 0)))) (consA (ixE (vE 1) (cE (.int 1))) nilA)))))
    (seqS (ifS (ktT (kE .Is (vE 2) (cE .non))) (seqS (retS (cE .non))
    nxS) nxS)
    (seqS (setS 3 (bE .Mult (ixE (vE 0) (cE (.int 1))) (ixE (vE 2) (cE (.int 1)))))
    (seqS (retS (tupE (consA (bE .Mod (bE .Add (ixE (vE 0) (cE (.int 0))) (bE .Mult (ixE (vE 0) (cE (.int 1))) (ixE (vE 2) (cE (.int 0))))) (vE 3)) (consA (vE 3) nilA))))
    nxS)))))) := by rfl
theorem e_narrowed_so : m_narrowed_so = fnR ["form", "turns", "here", "at", "first", "step", "behind", "step_behind", "by"] 2 (seqS (tgtS (.tp [(.nm 4), (.nm 5), (.nm 6), (.nm 7)]) (vE 0))
    (seqS (tgtS (.tp [(.nm 3), (.nm 8)]) (vE 1))
    (seqS (setS 2 (bE .Add (vE 4) (bE .Mult (vE 5) (vE 3))))
    (seqS (ifS (ktT (kE .Eq (bE .Mult (vE 5) (vE 8)) (cE (.int 0)))) (seqS (retS (tupE (consA (vE 2) (consA (cE (.int 0)) (consA (bE .Add (vE 6) (bE .Mult (vE 7) (vE 3))) (consA (cE (.int 0)) nilA))))))
    nxS) nxS)
    (seqS (augS 3 .Add (bE .FloorDiv (bE .Sub (bE .Mod (vE 2) (bE .Mult (vE 5) (vE 8))) (vE 2)) (vE 5)))
    (seqS (retS (tupE (consA (bE .Add (vE 4) (bE .Mult (vE 5) (vE 3))) (consA (bE .Mult (vE 5) (vE 8)) (consA (bE .Add (vE 6) (bE .Mult (vE 7) (vE 3))) (consA (bE .Mult (vE 7) (vE 8)) nilA))))))
    nxS)))))) := by rfl
theorem e_turn_of : m_turn_of = fnR ["form", "number"] 2 (seqS (retS (ifE (ktT (kE .Eq (ixE (vE 0) (cE (.int 1))) (cE (.int 0)))) (cE (.int 0)) (bE .FloorDiv (bE .Sub (vE 1) (ixE (vE 0) (cE (.int 0)))) (ixE (vE 0) (cE (.int 1))))))
    nxS) := by rfl
theorem e_image : m_image = fnR ["form", "number"] 2 (seqS (retS (bE .Add (ixE (vE 0) (cE (.int 2))) (bE .Mult (ixE (vE 0) (cE (.int 3))) (caE m_turn_of (consA (vE 0) (consA (vE 1) nilA))))))
    nxS) := by rfl
theorem e_narrowed : m_narrowed = fnR ["form", "lot", "told"] 2 (seqS (setS 2 (caE m_met (consA (slE (vE 0) noP (someP (cE (.int 2)))) (consA (vE 1) nilA))))
    (seqS (ifS (ktT (kE .Is (vE 2) (cE .non))) (seqS (retS (cE .non))
    nxS) nxS)
    (seqS (ifS (ktT (kE .Eq (ixE (vE 2) (cE (.int 1))) (cE (.int 0)))) (seqS (retS (tupE (consA (ixE (vE 2) (cE (.int 0))) (consA (cE (.int 0)) (consA (caE m_image (consA (vE 0) (consA (ixE (vE 2) (cE (.int 0))) nilA))) (consA (cE (.int 0)) nilA))))))
    nxS) nxS)
    (seqS (retS (caE m_narrowed_so (consA (vE 0) (consA (caE m_solved (consA (ixE (vE 0) (cE (.int 1))) (consA (bE .Sub (ixE (vE 2) (cE (.int 0))) (ixE (vE 0) (cE (.int 0)))) (consA (ixE (vE 2) (cE (.int 1))) nilA)))) nilA))))
    nxS)))) := by rfl
theorem e_joined : m_joined = fnR ["one", "other", "turns", "there", "first", "step", "behind", "step_behind"] 2 (seqS (ifS (ktT (kE .Eq (ixE (vE 0) (cE (.int 1))) (cE (.int 0)))) (seqS (retS (ifE (trT (caE m_in_lot (consA (slE (vE 1) noP (someP (cE (.int 2)))) (consA (ixE (vE 0) (cE (.int 2))) nilA)))) (tupE (consA (ixE (vE 0) (cE (.int 0))) (consA (cE (.int 0)) (consA (caE m_image (consA (vE 1) (consA (ixE (vE 0) (cE (.int 2))) nilA))) (consA (cE (.int 0)) nilA))))) (cE .non)))
    nxS) nxS)
    (seqS (ifS (ktT (kE .Eq (ixE (vE 1) (cE (.int 1))) (cE (.int 0)))) (seqS (ifS (ktT (kE .NotEq (bE .Mod (bE .Sub (ixE (vE 1) (cE (.int 0))) (ixE (vE 0) (cE (.int 2)))) (ixE (vE 0) (cE (.int 3)))) (cE (.int 0)))) (seqS (retS (cE .non))
    nxS) nxS)
    (seqS (retS (tupE (consA (bE .Add (ixE (vE 0) (cE (.int 0))) (bE .Mult (ixE (vE 0) (cE (.int 1))) (bE .FloorDiv (bE .Sub (ixE (vE 1) (cE (.int 0))) (ixE (vE 0) (cE (.int 2)))) (ixE (vE 0) (cE (.int 3)))))) (consA (cE (.int 0)) (consA (ixE (vE 1) (cE (.int 2))) (consA (cE (.int 0)) nilA))))))
    nxS)) nxS)
    (seqS (setS 2 (caE m_solved (consA (ixE (vE 0) (cE (.int 3))) (consA (bE .Sub (ixE (vE 1) (cE (.int 0))) (ixE (vE 0) (cE (.int 2)))) (consA (ixE (vE 1) (cE (.int 1))) nilA)))))
    (seqS (ifS (ktT (kE .Is (vE 2) (cE .non))) (seqS (retS (cE .non))
    nxS) nxS)
    (seqS (tgtS (.tp [(.nm 4), (.nm 5), (.nm 6), (.nm 7)]) (caE m_narrowed_so (consA (vE 0) (consA (vE 2) nilA))))
    (seqS (setS 3 (caE m_image (consA (vE 1) (consA (vE 6) nilA))))
    (seqS (retS (tupE (consA (vE 4) (consA (vE 5) (consA (vE 3) (consA (bE .Mult (ixE (vE 1) (cE (.int 3))) (bE .FloorDiv (vE 7) (ixE (vE 1) (cE (.int 1))))) nilA))))))
    nxS))))))) := by rfl
theorem e_crossing : m_crossing = fnR ["one", "other", "slope", "rise", "top", "bottom", "other_top", "other_bottom"] 2 (seqS (tgtS (.tp [(.nm 4), (.nm 5)]) (ixE (vE 0) (cE (.int 0))))
    (seqS (tgtS (.tp [(.nm 6), (.nm 7)]) (ixE (vE 1) (cE (.int 0))))
    (seqS (setS 2 (bE .Sub (bE .Mult (vE 4) (vE 7)) (bE .Mult (vE 6) (vE 5))))
    (seqS (ifS (ktT (kE .Eq (vE 2) (cE (.int 0)))) (seqS (retS (cE .non))
    nxS) nxS)
    (seqS (setS 3 (bE .Sub (bE .Mult (ixE (ixE (vE 1) (cE (.int 1))) (cE (.int 0))) (ixE (ixE (vE 0) (cE (.int 1))) (cE (.int 1)))) (bE .Mult (ixE (ixE (vE 0) (cE (.int 1))) (cE (.int 0))) (ixE (ixE (vE 1) (cE (.int 1))) (cE (.int 1))))))
    (seqS (augS 3 .Mult (bE .Mult (vE 5) (vE 7)))
    (seqS (augS 2 .Mult (bE .Mult (ixE (ixE (vE 0) (cE (.int 1))) (cE (.int 1))) (ixE (ixE (vE 1) (cE (.int 1))) (cE (.int 1)))))
    (seqS (retS (ifE (ktT (kE .Eq (bE .Mod (vE 3) (vE 2)) (cE (.int 0)))) (bE .FloorDiv (vE 3) (vE 2)) (cE .non)))
    nxS)))))))) := by rfl
theorem e_single_meeting : m_single_meeting = fnR ["one", "other", "number"] 3 (seqS (ifS (orT (notT (trT (caE m_in_lot (consA (slE (vE 0) noP (someP (cE (.int 2)))) (consA (vE 2) nilA))))) (notT (trT (caE m_in_lot (consA (slE (vE 1) noP (someP (cE (.int 2)))) (consA (vE 2) nilA)))))) (seqS (retS (cE .non))
    nxS) nxS)
    (seqS (retS (ifE (ktT (kE .Eq (caE m_image (consA (vE 0) (consA (vE 2) nilA))) (caE m_image (consA (vE 1) (consA (vE 2) nilA))))) (tupE (consA (vE 2) (consA (cE (.int 0)) nilA))) (cE .non)))
    nxS)) := by rfl
theorem e_fraction_of : m_fraction_of = fnR ["top", "bottom", "common", "sign"] 2 (seqS (setS 2 (caE m_gcd_of (consA (vE 0) (consA (vE 1) nilA))))
    (seqS (setS 3 (ifE (ktT (kE .Lt (vE 1) (cE (.int 0)))) (negE (cE (.int 1))) (cE (.int 1))))
    (seqS (retS (tupE (consA (bE .FloorDiv (bE .Mult (vE 3) (vE 0)) (vE 2)) (consA (bE .FloorDiv (bE .Mult (vE 3) (vE 1)) (vE 2)) nilA))))
    nxS))) := by rfl
theorem e_line_of : m_line_of = fnR ["form", "first", "step", "behind", "step_behind"] 1 (seqS (tgtS (.tp [(.nm 1), (.nm 2), (.nm 3), (.nm 4)]) (vE 0))
    (seqS (retS (tupE (consA (caE m_fraction_of (consA (vE 4) (consA (vE 2) nilA))) (consA (caE m_fraction_of (consA (bE .Sub (bE .Mult (vE 3) (vE 2)) (bE .Mult (vE 4) (vE 1))) (consA (vE 2) nilA))) nilA))))
    nxS)) := by rfl
theorem e_meeting : m_meeting = fnR ["one", "other", "number"] 2 (seqS (ifS (ktT (kE .Eq (ixE (vE 0) (cE (.int 1))) (cE (.int 0)))) (seqS (retS (caE m_single_meeting (consA (vE 0) (consA (vE 1) (consA (ixE (vE 0) (cE (.int 0))) nilA)))))
    nxS) nxS)
    (seqS (ifS (ktT (kE .Eq (ixE (vE 1) (cE (.int 1))) (cE (.int 0)))) (seqS (retS (caE m_single_meeting (consA (vE 0) (consA (vE 1) (consA (ixE (vE 1) (cE (.int 0))) nilA)))))
    nxS) nxS)
    (seqS (ifS (ktT (kE .Eq (caE m_line_of (consA (vE 0) nilA)) (caE m_line_of (consA (vE 1) nilA)))) (seqS (retS (caE m_met (consA (slE (vE 0) noP (someP (cE (.int 2)))) (consA (slE (vE 1) noP (someP (cE (.int 2)))) nilA))))
    nxS) nxS)
    (seqS (setS 2 (caE m_crossing (consA (caE m_line_of (consA (vE 0) nilA)) (consA (caE m_line_of (consA (vE 1) nilA)) nilA))))
    (seqS (retS (ifE (ktT (kE .Is (vE 2) (cE .non))) (cE .non) (caE m_single_meeting (consA (vE 0) (consA (vE 1) (consA (vE 2) nilA))))))
    nxS))))) := by rfl
theorem e_fixed_number : m_fixed_number = fnR ["form", "told"] 1 (seqS (setS 1 (caE m_meeting (consA (vE 0) (consA (tupE (consA (cE (.int 0)) (consA (cE (.int 1)) (consA (cE (.int 0)) (consA (cE (.int 1)) nilA))))) nilA))))
    (seqS (retS (ifE (ktT (kE .Is (vE 1) (cE .non))) (cE .non) (ixE (vE 1) (cE (.int 0)))))
    nxS)) := by rfl
noncomputable def b__law_line_1 : SM := (seqS (setS 7 (caE m__law_gcd (consA (vE 2) (consA (vE 4) nilA))))
    (seqS (exprS (meE "append" (vE 1) (consA (tupE (consA (bE .FloorDiv (vE 2) (vE 7)) (consA (bE .FloorDiv (vE 4) (vE 7)) nilA))) nilA)))
    nxS))
theorem e__law_line : m__law_line = fnR ["form", "told", "top", "r", "m", "s", "n", "part"] 1 (seqS (tgtS (.tp [(.nm 3), (.nm 4), (.nm 5), (.nm 6)]) (vE 0))
    (seqS (setS 1 (lstE nilA))
    (seqS (forS (itI (tupE (consA (vE 6) (consA (bE .Sub (bE .Mult (vE 5) (vE 4)) (bE .Mult (vE 6) (vE 3))) nilA)))) (.nm 2) b__law_line_1)
    (seqS (retS (biE "tuple" (consA (vE 1) nilA)))
    nxS)))) := by rfl
theorem e_led : m_led = fnR ["form", "number"] 2 (seqS (ifS (notT (trT (caE m_in_lot (consA (slE (vE 0) noP (someP (cE (.int 2)))) (consA (vE 1) nilA))))) (seqS noS
    nxS) nxS)
    (seqS (retS (caE m_image (consA (vE 0) (consA (vE 1) nilA))))
    nxS)) := by rfl
theorem e_undone : m_undone = fnR ["form", "sign", "size", "there", "at", "first", "step", "behind", "step_behind"] 1 (seqS (tgtS (.tp [(.nm 5), (.nm 6), (.nm 7), (.nm 8)]) (vE 0))
    (seqS (ifS (ktT (kE .Eq (vE 6) (cE (.int 0)))) (seqS (retS (tupE (consA (vE 7) (consA (cE (.int 0)) (consA (vE 5) (consA (cE (.int 0)) nilA))))))
    nxS) nxS)
    (seqS (setS 1 (ifE (ktT (kE .Lt (vE 8) (cE (.int 0)))) (negE (cE (.int 1))) (cE (.int 1))))
    (seqS (setS 2 (bE .Mult (vE 1) (vE 8)))
    (seqS (setS 3 (bE .Mod (vE 7) (vE 2)))
    (seqS (setS 4 (bE .FloorDiv (bE .Sub (vE 3) (vE 7)) (vE 2)))
    (seqS (retS (tupE (consA (vE 3) (consA (vE 2) (consA (bE .Add (vE 5) (bE .Mult (bE .Mult (vE 1) (vE 6)) (vE 4))) (consA (bE .Mult (vE 1) (vE 6)) nilA))))))
    nxS))))))) := by rfl
noncomputable def s__law_roads_22 : SM := seqS (retS (orE (kE .Is (vE 11) (cE .non)) (orE (notE (caE m__law_may (consA (vE 11) nilA))) (caE m__law_same (consA (caE m_fixed_number (consA (vE 11) nilA)) (consA (caE m__law_fixed (consA (vE 11) nilA)) nilA)))))) nxS
noncomputable def s__law_roads_21 : SM := seqS (ifS (notT (trT (caE m__law_same (consA (caE m_joined (consA (vE 1) (consA (vE 1) nilA))) (consA (vE 11) nilA))))) (seqS (retS (cE (.bl false)))
    nxS) nxS) s__law_roads_22
noncomputable def s__law_roads_20 : SM := seqS (setS 11 (caE m__law_behind (consA (vE 1) (consA (vE 1) nilA)))) s__law_roads_21
noncomputable def s__law_roads_19 : SM := seqS (ifS (andT (ktT (kE .IsNot (vE 10) (cE .non))) (andT (trT (caE m__law_may (consA (vE 10) nilA))) (notT (trT (caE m__law_same (consA (caE m_fixed_number (consA (vE 10) nilA)) (consA (ifE (andT (ktT (kE .IsNot (vE 2) (cE .non))) (ktT (kE .Eq (bE .Mod (biE "int" (consA (bE .Sub (vE 2) (ixE (vE 9) (cE (.int 0)))) nilA)) (vE 8)) (cE (.int 0))))) (vE 2) (cE .non)) nilA))))))) (seqS (retS (cE (.bl false)))
    nxS) nxS) s__law_roads_20
noncomputable def s__law_roads_18 : SM := seqS (ifS (notT (trT (caE m__law_same (consA (caE m_narrowed (consA (vE 1) (consA (vE 9) nilA))) (consA (vE 10) nilA))))) (seqS (retS (cE (.bl false)))
    nxS) nxS) s__law_roads_19
noncomputable def s__law_roads_17 : SM := seqS (setS 10 (caE m__law_behind (consA (bE .Add (vE 9) (vE 9)) (consA (vE 1) nilA)))) s__law_roads_18
noncomputable def s__law_roads_16 : SM := seqS (ifS (andT (ktT (kE .IsNot (vE 2) (cE .non))) (ktT (kE .Eq (caE m__law_wedge (consA (vE 0) (consA (cE (.str "lot of x")) (consA (cE (.int 2)) nilA)))) (cE (.int 0))))) (seqS (setS 9 (tupE (consA (bE .Mod (biE "int" (consA (vE 2) nilA)) (vE 8)) (consA (vE 8) nilA))))
    nxS) nxS) s__law_roads_17
noncomputable def s__law_roads_15 : SM := seqS (setS 9 (tupE (consA (caE m__law_wedge (consA (vE 0) (consA (cE (.str "lot r")) (consA (vE 8) nilA)))) (consA (vE 8) nilA)))) s__law_roads_16
noncomputable def s__law_roads_14 : SM := seqS (setS 8 (bE .Add (cE (.int 2)) (caE m__law_wedge (consA (vE 0) (consA (cE (.str "lot m")) (consA (cE (.int 6)) nilA)))))) s__law_roads_15
noncomputable def s__law_roads_13 : SM := seqS (ifS (andT (trT (caE m__law_may (consA (vE 7) nilA))) (notT (trT (caE m__law_same (consA (ckE (kwG [0]) m_fixed_number nilA (consA (vE 7) nilA)) (consA (ifE (ktT (kE .IsNot (vE 2) (cE .non))) (bE .Add (vE 2) (vE 5)) (cE .non)) nilA)))))) (seqS (retS (cE (.bl false)))
    nxS) nxS) s__law_roads_14
noncomputable def s__law_roads_12 : SM := seqS (ifS (orT (notT (trT (caE m__law_same (consA (caE m_joined (consA (tupE (consA (cE (.int 0)) (consA (cE (.int 1)) (consA (bE .Sub (cE (.int 0)) (vE 5)) (consA (cE (.int 1)) nilA))))) (consA (vE 1) nilA))) (consA (vE 6) nilA))))) (andT (ktT (kE .LtE (biE "abs" (consA (ixE (vE 6) (cE (.int 2))) nilA)) (bE .Pow (cE (.int 10)) (cE (.int 12))))) (notT (trT (caE m__law_same (consA (caE m_joined (consA (vE 6) (consA (tupE (consA (cE (.int 0)) (consA (cE (.int 1)) (consA (vE 5) (consA (cE (.int 1)) nilA))))) nilA))) (consA (vE 7) nilA))))))) (seqS (retS (cE (.bl false)))
    nxS) nxS) s__law_roads_13
noncomputable def s__law_roads_11 : SM := seqS (setS 7 (caE m__law_behind (consA (vE 6) (consA (tupE (consA (cE (.int 0)) (consA (cE (.int 1)) (consA (vE 5) (consA (cE (.int 1)) nilA))))) nilA)))) s__law_roads_12
noncomputable def s__law_roads_10 : SM := seqS (setS 6 (caE m__law_behind (consA (tupE (consA (cE (.int 0)) (consA (cE (.int 1)) (consA (bE .Sub (cE (.int 0)) (vE 5)) (consA (cE (.int 1)) nilA))))) (consA (vE 1) nilA)))) s__law_roads_11
noncomputable def s__law_roads_9 : SM := seqS (setS 5 (caE m__law_of (consA (vE 0) (consA (cE (.str "moved by")) (consA (tupE (consA (cE (.int 1)) (consA (negE (cE (.int 3))) (consA (bE .Pow (cE (.int 10)) (cE (.int 5))) (consA (negE (bE .Pow (cE (.int 10)) (cE (.int 9)))) nilA))))) nilA))))) s__law_roads_10
noncomputable def s__law_roads_8 : SM := seqS (ifS (orT (notT (trT (caE m__law_same (consA (caE m_undone (consA (vE 1) nilA)) (consA (vE 3) nilA))))) (andT (trT (caE m__law_may (consA (vE 3) nilA))) (notT (trT (caE m__law_same (consA (caE m_fixed_number (consA (vE 3) nilA)) (consA (vE 2) nilA))))))) (seqS (retS (cE (.bl false)))
    nxS) nxS) s__law_roads_9
noncomputable def s__law_roads_7 : SM := seqS (setS 3 (bE .Add (bE .Add (slE (vE 3) noP (someP (cE (.int 2)))) (tupE (consA (bE .Sub (vE 12) (bE .Mult (vE 13) (vE 4))) nilA))) (slE (vE 3) (someP (cE (.int 3))) noP))) s__law_roads_8
noncomputable def s__law_roads_6 : SM := seqS (setS 4 (bE .FloorDiv (bE .Sub (vE 14) (ixE (vE 3) (cE (.int 0)))) (vE 15))) s__law_roads_7
noncomputable def s__law_roads_5 : SM := seqS (setS 3 (tupE (consA (bE .Mod (biE "int" (consA (vE 14) nilA)) (biE "abs" (consA (vE 15) nilA))) (consA (biE "abs" (consA (vE 15) nilA)) (consA (cE (.int 0)) (consA (ifE (ktT (kE .Gt (vE 15) (cE (.int 0)))) (vE 13) (bE .Sub (cE (.int 0)) (vE 13))) nilA)))))) s__law_roads_6
noncomputable def s__law_roads_4 : SM := seqS (tgtS (.tp [(.nm 12), (.nm 13), (.nm 14), (.nm 15)]) (vE 1)) s__law_roads_5
noncomputable def s__law_roads_3 : SM := seqS (ifS (andT (ktT (kE .IsNot (vE 2) (cE .non))) (notT (trT (caE m__law_same (consA (ckE (kwG [1, 0]) m_led nilA (consA (vE 2) (consA (vE 1) nilA))) (consA (vE 2) nilA)))))) (seqS (retS (cE (.bl false)))
    nxS) nxS) s__law_roads_4
noncomputable def s__law_roads_2 : SM := seqS (ifS (notT (trT (caE m__law_same (consA (tupE (consA (caE m_meeting (consA (vE 1) (consA (tupE (consA (cE (.int 0)) (consA (cE (.int 1)) (consA (cE (.int 0)) (consA (cE (.int 1)) nilA))))) nilA))) (consA (caE m_meeting (consA (tupE (consA (cE (.int 0)) (consA (cE (.int 1)) (consA (cE (.int 0)) (consA (cE (.int 1)) nilA))))) (consA (vE 1) nilA))) nilA))) (consA (ifE (ktT (kE .IsNot (vE 2) (cE .non))) (tupE (consA (tupE (consA (vE 2) (consA (cE (.int 0)) nilA))) (consA (tupE (consA (vE 2) (consA (cE (.int 0)) nilA))) nilA))) (tupE (consA (cE .non) (consA (cE .non) nilA)))) nilA))))) (seqS (retS (cE (.bl false)))
    nxS) nxS) s__law_roads_3
noncomputable def s__law_roads_1 : SM := seqS (ifS (notT (trT (caE m__law_same (consA (tupE (consA (caE m_fixed_number (consA (vE 1) nilA)) (consA (caE m_line_of (consA (vE 1) nilA)) nilA))) (consA (tupE (consA (vE 2) (consA (caE m__law_line (consA (vE 1) nilA)) nilA))) nilA))))) (seqS (retS (cE (.bl false)))
    nxS) nxS) s__law_roads_2
noncomputable def s__law_roads_0 : SM := seqS (setS 2 (caE m__law_fixed (consA (vE 1) nilA))) s__law_roads_1
theorem e__law_roads : m__law_roads = fnR ["quarry", "form", "x", "back", "down", "c", "ahead", "moved", "b", "lot", "less", "twice", "r", "m", "s", "n"] 2 s__law_roads_0 := by rfl
noncomputable def b_law_1 : SM := (seqS (setS 5 (caE m__law_form (consA (vE 1) nilA)))
    (seqS (ifS (notT (trT (caE m__law_roads (consA (vE 1) (consA (vE 5) nilA))))) (seqS (retS (cE (.bl false)))
    nxS) nxS)
    (seqS (exprS (meE "append" (vE 2) (consA (vE 5) nilA)))
    nxS)))
noncomputable def s_law_5 : SM := seqS (retS (orE (kE .Is (vE 4) (cE .non)) (orE (notE (caE m__law_may (consA (vE 4) nilA))) (caE m__law_roads (consA (vE 1) (consA (vE 4) nilA)))))) nxS
noncomputable def s_law_4 : SM := seqS (ifS (notT (trT (caE m__law_same (consA (ckE (kwG [1, 0]) m_joined nilA (consA (ixE (vE 2) (cE (.int 1))) (consA (ixE (vE 2) (cE (.int 0))) nilA))) (consA (vE 4) nilA))))) (seqS (retS (cE (.bl false)))
    nxS) nxS) s_law_5
noncomputable def s_law_3 : SM := seqS (setS 4 (caE m__law_behind (consA (ixE (vE 2) (cE (.int 0))) (consA (ixE (vE 2) (cE (.int 1))) nilA)))) s_law_4
noncomputable def s_law_2 : SM := seqS (forS (rgI (consA (cE (.int 5)) nilA)) (.nm 3) b_law_1) s_law_3
noncomputable def s_law_1 : SM := seqS (setS 2 (lstE nilA)) s_law_2
noncomputable def s_law_0 : SM := seqS (setS 1 (caE m__law_quarry (consA (vE 0) nilA))) s_law_1
theorem e_law : m_law = fnR ["script", "quarry", "told", "lap", "both", "form"] 1 s_law_0 := by rfl
end Py
namespace Py
open PySem PySem.Spec L2 PyProof.Rows
theorem gcd_emod (x y : Int) : Int.gcd y (x % y) = Int.gcd x y := by
  have h : x % y = x - y * (x / y) := by have := Int.mul_ediv_add_emod x y; omega
  rw [h, Int.gcd_comm x y]
  apply Nat.dvd_antisymm
  · apply Int.dvd_gcd 
    · exact Int.gcd_dvd_left _ _
    · have h1 := Int.gcd_dvd_left y (x - y * (x / y))
      have h2 := Int.gcd_dvd_right y (x - y * (x / y))
      have := Int.dvd_add h2 (Int.dvd_mul_of_dvd_left (c := x / y) h1)
      simpa using this
  · apply Int.dvd_gcd
    · exact Int.gcd_dvd_left _ _
    · exact Int.dvd_sub (Int.gcd_dvd_right _ _) (Int.dvd_mul_of_dvd_left (Int.gcd_dvd_left _ _))
theorem run_gcd_of (x y : Int) (hy : 0 ≤ y) (S : Sto) : m_gcd_of [.int x, .int y] S = .ok (.int (Int.gcd x y)) S := by
  have loop : ∀ (n : Nat) (x y : Int), 0 ≤ y → y.natAbs ≤ n → ∃ g : Int, whileS t_gcd_of_1 b_gcd_of_2 [some (.int x), some (.int y)] S = .nx [some (.int g), some (.int 0)] S ∧ g.natAbs = Int.gcd x y := by
    intro n
    induction n with
    | zero =>
      intro x y h0 h
      have : y = 0 := by omega
      subst this
      exact ⟨x, whileS_false (by simp [t_gcd_of_1]), by simp⟩
    | succ n ih =>
      intro x y h0 h
      by_cases hy : y = 0
      · subst hy
        exact ⟨x, whileS_false (by simp [t_gcd_of_1]), by simp⟩
      · have h1 := Int.emod_nonneg x hy
        have h2 := Int.emod_lt_of_pos x (show 0 < y by omega)
        obtain ⟨g, e, hg⟩ := ih y (x % y) h1 (by omega)
        refine ⟨g, ?_, by rw [hg, gcd_emod]⟩
        rw [whileS_true (S1 := S) (S2 := S) (e1 := [some (.int y), some (.int (x % y))]) (by simp [t_gcd_of_1, hy]) (by simp [b_gcd_of_2, op_modP (show 0 < y by omega)])]
        exact e
  obtain ⟨g, e, hg⟩ := loop _ x y hy (Nat.le_refl _)
  rw [e_gcd_of]
  simp [fn_def, e, hg]
/-! the extended one -/
def eg (a b f g : Int) : Int := if h : 0 < b then eg b (a % b) g (f - a / b * g) else f
termination_by b.toNat
decreasing_by
  have h1 := Int.emod_nonneg a (show b ≠ 0 by omega)
  have h2 := Int.emod_lt_of_pos a h
  omega
theorem eg_zero (a f g : Int) : eg a 0 f g = f := by rw [eg]; simp
theorem eg_pos {a b f g : Int} (h : 0 < b) : eg a b f g = eg b (a % b) g (f - a / b * g) := by rw [eg]; simp [h]
/-- the invariant of the extended one: no factor is wider than the modulus -/
structure EgI (M a b f g : Int) : Prop where
  pa : 0 < a
  nb : 0 ≤ b
  aM : a ≤ M
  ba : b ≤ a
  fM : f.natAbs ≤ M.natAbs
  gM : g.natAbs ≤ M.natAbs
  s : (0 ≤ f ∧ g ≤ 0 ∧ f * b - g * a = M) ∨ (f ≤ 0 ∧ 0 ≤ g ∧ g * a - f * b = M)
theorem EgI.step {M a b f g : Int} (h : EgI M a b f g) (hb : 0 < b) : EgI M b (a % b) g (f - a / b * g) := by
  have h1 := Int.emod_nonneg a (show b ≠ 0 by omega)
  have h2 := Int.emod_lt_of_pos a hb
  have h3 := Int.mul_ediv_add_emod a b
  have h4 : 0 ≤ a / b := Int.ediv_nonneg (Int.le_of_lt h.pa) h.nb
  have e : a % b = a - b * (a / b) := by omega
  have hM := h.aM
  have hpa := h.pa
  have hba := h.ba
  have hgM := h.gM
  have main : (0 ≤ g ∧ f - a / b * g ≤ 0 ∧ g * (a % b) - (f - a / b * g) * b = M) ∨ (g ≤ 0 ∧ 0 ≤ f - a / b * g ∧ (f - a / b * g) * b - g * (a % b) = M) := by
    rcases h.s with ⟨s1, s2, s3⟩ | ⟨s1, s2, s3⟩
    · refine .inr ⟨s2, ?_, ?_⟩
      · have := Int.mul_nonpos_of_nonneg_of_nonpos h4 s2
        omega
      · rw [e, ← s3, Int.sub_mul, Int.mul_sub]
        have : a / b * g * b = g * (b * (a / b)) := by
          rw [Int.mul_comm (a / b) g, Int.mul_assoc, Int.mul_comm (a / b) b]
        omega
    · refine .inl ⟨s2, ?_, ?_⟩
      · have := Int.mul_nonneg h4 s2
        omega
      · rw [e, ← s3, Int.sub_mul, Int.mul_sub]
        have : a / b * g * b = g * (b * (a / b)) := by
          rw [Int.mul_comm (a / b) g, Int.mul_assoc, Int.mul_comm (a / b) b]
        omega
  refine ⟨hb, h1, by omega, by omega, hgM, ?_, ?_⟩
  · rcases main with ⟨m1, m2, m3⟩ | ⟨m1, m2, m3⟩
    · have a1 := Int.mul_nonneg m1 h1
      have a2 : -(f - a / b * g) * 1 ≤ -(f - a / b * g) * b := Int.mul_le_mul_of_nonneg_left (by omega) (by omega)
      rw [Int.neg_mul, Int.neg_mul] at a2
      omega
    · have a1 := Int.mul_nonneg (show 0 ≤ -g by omega) h1
      have a2 : (f - a / b * g) * 1 ≤ (f - a / b * g) * b := Int.mul_le_mul_of_nonneg_left (by omega) (by omega)
      rw [Int.neg_mul] at a1
      omega
  · rcases main with ⟨m1, m2, m3⟩ | ⟨m1, m2, m3⟩
    · exact .inl ⟨m1, m2, m3⟩
    · exact .inr ⟨m1, m2, m3⟩
theorem EgI.start {M n : Int} (hM : 0 < M) : EgI M M (n % M) 0 1 := by
  have h1 := Int.emod_nonneg n (show M ≠ 0 by omega)
  have h2 := Int.emod_lt_of_pos n hM
  exact ⟨hM, h1, by omega, by omega, by simp, by omega, .inr ⟨by omega, by omega, by omega⟩⟩
/-- what it finds: f n ≡ gcd -/
theorem eg_spec {M n : Int} : ∀ (k : Nat) (a b f g : Int), b.natAbs ≤ k → 0 ≤ b → 0 ≤ a → M ∣ f * n - a → M ∣ g * n - b → M ∣ eg a b f g * n - Int.gcd a b := by
  intro k
  induction k with
  | zero =>
    intro a b f g h0 h1 h2 h3 h4
    obtain rfl : b = 0 := by omega
    rw [eg_zero]
    have : (Int.gcd a 0 : Int) = a := by simp; omega
    rw [this]; exact h3
  | succ k ih =>
    intro a b f g h0 h1 h2 h3 h4
    by_cases hb : b = 0
    · subst hb
      rw [eg_zero]
      have : (Int.gcd a 0 : Int) = a := by simp; omega
      rw [this]; exact h3
    · have p1 := Int.emod_nonneg a hb
      have p2 := Int.emod_lt_of_pos a (show 0 < b by omega)
      have h5 := Int.mul_ediv_add_emod a b
      rw [eg_pos (by omega), ← gcd_emod a b]
      refine ih b (a % b) g (f - a / b * g) (by omega) p1 h1 h4 ?_
      have e : (f - a / b * g) * n - a % b = (f * n - a) - (a / b) * (g * n - b) := by
        have e1 : a % b = a - b * (a / b) := by omega
        rw [e1, Int.sub_mul, Int.mul_sub, Int.mul_assoc, Int.mul_comm b (a / b)]
        omega
      rw [e]
      exact Int.dvd_sub h3 (Int.dvd_mul_of_dvd_right h4)
/-- an inverse by the way of inverse_of -/
def inv (n M : Int) : Int := eg M (n % M) 0 1 % M
theorem inv_spec {n M : Int} (hM : 0 < M) : M ∣ inv n M * n - Int.gcd n M := by
  have h1 := Int.emod_nonneg n (show M ≠ 0 by omega)
  have h := eg_spec (M := M) (n := n) _ M (n % M) 0 1 (Nat.le_refl _) h1 (by omega) (by simp) (by
    have := Int.mul_ediv_add_emod n M
    exact ⟨n / M, by omega⟩)
  rw [gcd_emod] at h
  have e : inv n M * n - Int.gcd n M = (eg M (n % M) 0 1 * n - Int.gcd n M) - M * (eg M (n % M) 0 1 / M) * n := by
    have := Int.mul_ediv_add_emod (eg M (n % M) 0 1) M
    have e1 : inv n M = eg M (n % M) 0 1 - M * (eg M (n % M) 0 1 / M) := by unfold inv; omega
    rw [e1, Int.sub_mul]; omega
  rw [e]
  exact Int.dvd_sub h (by rw [Int.mul_assoc]; exact Int.dvd_mul_right _ _)
theorem inv_range {n M : Int} (hM : 0 < M) : 0 ≤ inv n M ∧ inv n M < M := ⟨Int.emod_nonneg _ (by omega), Int.emod_lt_of_pos _ hM⟩
theorem W.abs {n : Nat} {i : Int} (h : W n i) : W n (i.natAbs : Int) := by unfold W at *; simpa using h
theorem W.of_le {n : Nat} {i M : Int} (h : W n M) (h1 : 0 ≤ i) (h2 : i ≤ M) : W n i := h.le (by omega)
theorem run_inverse_of (n M : Int) (hM : 0 < M) (hW : W 4000 M) (S : Sto) : m_inverse_of [.int n, .int M] S = .ok (.int (inv n M)) S := by
  have loop : ∀ (k : Nat) (a b f g : Int) (o : Option D), b.natAbs ≤ k → EgI M a b f g → ∃ (a' g' : D) (o' : Option D), whileS t_inverse_of_1 b_inverse_of_2 [some (.int n), some (.int M), some (.int a), some (.int b), some (.int f), some (.int g), o] S =
      .nx [some (.int n), some (.int M), some a', some (.int 0), some (.int (eg a b f g)), some g', o'] S := by
    intro k
    induction k with
    | zero =>
      intro a b f g o h I
      have := I.nb
      obtain rfl : b = 0 := by omega
      exact ⟨_, _, _, by rw [whileS_false (S1 := S) (by simp [t_inverse_of_1]), eg_zero]⟩
    | succ k ih =>
      intro a b f g o h I
      have nb := I.nb
      by_cases hb : b = 0
      · subst hb
        exact ⟨_, _, _, by rw [whileS_false (S1 := S) (by simp [t_inverse_of_1]), eg_zero]⟩
      · have pb : 0 < b := by omega
        have h1 := Int.emod_nonneg a hb
        have h2 := Int.emod_lt_of_pos a pb
        have h3 := Int.mul_ediv_add_emod a b
        have pa := I.pa
        have h4 : 0 ≤ a / b := Int.ediv_nonneg (by omega) nb
        have h5 : a / b ≤ a := Int.ediv_le_self b (by omega)
        have aM := I.aM
        have ba := I.ba
        have wb : W 4000 b := hW.of_le nb (by omega)
        have wt : W 4000 (a / b) := hW.of_le h4 (by omega)
        have wg : W 4000 g := hW.le I.gM
        obtain ⟨a', g', o', e⟩ := ih b (a % b) g (f - a / b * g) (some (.int (a / b))) (by omega) (I.step pb)
        refine ⟨a', g', o', ?_⟩
        have e1 : a - a / b * b = a % b := by rw [Int.mul_comm]; omega
        rw [whileS_true (S1 := S) (S2 := S) (e1 := [some (.int n), some (.int M), some (.int b), some (.int (a % b)), some (.int g), some (.int (f - a / b * g)), some (.int (a / b))]) (by simp [t_inverse_of_1, hb])
          (by simp [b_inverse_of_2, op_divP pb (wb.mono (by decide)), op_mulW wt wb (by decide), op_mulW wt wg (by decide), e1]), e, eg_pos pb]
  obtain ⟨a', g', o', e⟩ := loop _ M (n % M) 0 1 none (Nat.le_refl _) (EgI.start hM)
  rw [e_inverse_of]
  simp [fn_def, op_modP hM, e]
  rfl
/-! solved -/
def oP : Option (Int × Int) → D
  | none => .non
  | some (a, b) => .tup [.int a, .int b]
def sol (f w M : Int) : Option (Int × Int) := if w % (Int.gcd f M : Int) = 0 then some ((w / (Int.gcd f M : Int) * inv (f / (Int.gcd f M : Int)) (M / (Int.gcd f M : Int))) % (M / (Int.gcd f M : Int)), M / (Int.gcd f M : Int)) else none
theorem gcd_pos' {f M : Int} (hM : 0 < M) : 0 < (Int.gcd f M : Int) := by
  have : Int.gcd f M ≠ 0 := fun z => by
    have := (Int.gcd_eq_zero_iff.mp z).2
    omega
  omega
theorem gcd_le' {f M : Int} (hM : 0 < M) : (Int.gcd f M : Int) ≤ M := Int.le_of_dvd hM (Int.gcd_dvd_right _ _)
theorem quo_pos {f M : Int} (hM : 0 < M) : 0 < M / (Int.gcd f M : Int) := Int.ediv_pos_of_pos_of_dvd hM (Int.le_of_lt (gcd_pos' hM)) (Int.gcd_dvd_right _ _)
theorem quo_le {f M : Int} (hM : 0 < M) : M / (Int.gcd f M : Int) ≤ M := Int.ediv_le_self _ (by omega)
theorem W.div {n : Nat} {i j : Int} (h : W n i) : W n (i / j) := h.le (Int.natAbs_ediv_le_natAbs i j)
theorem run_solved (f w M : Int) (hM : 0 < M) (hw : W 4000 w) (hW : W 4000 M) (S : Sto) : m_solved [.int f, .int w, .int M] S = .ok (oP (sol f w M)) S := by
  have g0 := gcd_pos' (f := f) hM
  have gl := gcd_le' (f := f) hM
  have q0 := quo_pos (f := f) hM
  have ql := quo_le (f := f) hM
  have wg : W 8000 (Int.gcd f M : Int) := (hW.of_le (by omega) gl).mono (by decide)
  have wq : W 4000 (M / (Int.gcd f M : Int)) := hW.of_le (by omega) ql
  have hi := inv_range (n := f / (Int.gcd f M : Int)) q0
  rw [e_solved]
  simp [fn_def, run_gcd_of f M (by omega), op_modP g0, sol]
  by_cases h : w % (Int.gcd f M : Int) = 0
  · simp [h, op_divP g0 wg, run_inverse_of _ _ q0 wq, op_mulW hw.div (wq.of_le hi.1 (by omega)), op_modP q0, oP]
  · simp [h, oP]
end Py
namespace Py
open PySem PySem.Spec L2 PyProof.Rows
theorem sol_some {f w M t q : Int} (hM : 0 < M) (h : sol f w M = some (t, q)) : 0 ≤ t ∧ t < q ∧ 0 < q ∧ q ≤ M := by
  unfold sol at h
  have q0 := quo_pos (f := f) hM
  have ql := quo_le (f := f) hM
  split at h
  · simp only [Option.some.injEq, Prod.mk.injEq] at h
    obtain ⟨rfl, rfl⟩ := h
    exact ⟨Int.emod_nonneg _ (by omega), Int.emod_lt_of_pos _ q0, q0, ql⟩
  · cases h
theorem sol_iff {f w M t q : Int} (hM : 0 < M) (h : sol f w M = some (t, q)) (k : Int) : M ∣ f * k - w ↔ q ∣ k - t := by
  unfold sol at h
  have g0 := gcd_pos' (f := f) hM
  have q0 := quo_pos (f := f) hM
  split at h
  · rename_i hw
    simp only [Option.some.injEq, Prod.mk.injEq] at h
    obtain ⟨rfl, rfl⟩ := h
    generalize hg : (Int.gcd f M : Int) = g at *
    obtain ⟨f', hf⟩ : g ∣ f := hg ▸ Int.gcd_dvd_left f M
    obtain ⟨q, hq⟩ : g ∣ M := hg ▸ Int.gcd_dvd_right f M
    obtain ⟨w', hw'⟩ := Int.dvd_of_emod_eq_zero hw
    have gne : g ≠ 0 := by omega
    have e1 : f / g = f' := by rw [hf]; exact Int.mul_ediv_cancel_left _ gne
    have e2 : M / g = q := by rw [hq]; exact Int.mul_ediv_cancel_left _ gne
    have e3 : w / g = w' := by rw [hw']; exact Int.mul_ediv_cancel_left _ gne
    rw [e1, e2, e3]
    rw [e2] at q0
    have cop : (Int.gcd f' q : Int) = 1 := by
      have h1 : (Int.gcd (g * f') (g * q) : Int) = g := by rw [← hf, ← hq]; exact hg
      rw [Int.gcd_mul_left] at h1
      have h2 : (g.natAbs : Int) = g := by omega
      rw [Int.natCast_mul, h2] at h1
      have h3 : g * (Int.gcd f' q : Int) = g * 1 := by omega
      exact Int.eq_of_mul_eq_mul_left gne h3
    have hi := inv_spec (n := f') q0
    rw [cop] at hi
    generalize inv f' q = v at *
    obtain ⟨c, hc⟩ := hi
    have ht := Int.mul_ediv_add_emod (w' * v) q
    have step1 : M ∣ f * k - w ↔ q ∣ f' * k - w' := by
      have e : f * k - w = g * (f' * k - w') := by rw [hf, hw', Int.mul_sub, Int.mul_assoc]
      rw [e, hq]
      exact Int.mul_dvd_mul_iff_left gne
    rw [step1]
    generalize hT : w' * v % q = T at *
    have e4 : T = w' * v - q * (w' * v / q) := by omega
    have e5 : k - T = v * (f' * k - w') - k * (v * f' - 1) + q * (w' * v / q) := by
      rw [e4, Int.mul_sub, Int.mul_sub]
      have : v * (f' * k) = k * (v * f') := by rw [← Int.mul_assoc, Int.mul_comm]
      have : v * w' = w' * v := Int.mul_comm _ _
      omega
    have e6 : f' * k - w' = f' * (k - T) + w' * (v * f' - 1) - f' * (q * (w' * v / q)) := by
      rw [e4]
      have : f' * (k - (w' * v - q * (w' * v / q))) = f' * k - f' * (w' * v) + f' * (q * (w' * v / q)) := by
        rw [Int.mul_sub, Int.mul_sub]; omega
      have : w' * (v * f' - 1) = f' * (w' * v) - w' := by
        rw [Int.mul_sub, ← Int.mul_assoc, Int.mul_comm (w' * v) f']; omega
      omega
    have dq : q ∣ v * f' - 1 := ⟨c, hc⟩
    constructor
    · intro h
      rw [e5]
      exact Int.dvd_add (Int.dvd_sub (Int.dvd_mul_of_dvd_right h) (Int.dvd_mul_of_dvd_right dq)) (Int.dvd_mul_right _ _)
    · intro h
      rw [e6]
      exact Int.dvd_sub (Int.dvd_add (Int.dvd_mul_of_dvd_right h) (Int.dvd_mul_of_dvd_right dq)) (Int.dvd_mul_of_dvd_right (Int.dvd_mul_right _ _))
  · cases h
theorem sol_none {f w M : Int} (h : sol f w M = none) (k : Int) : ¬ M ∣ f * k - w := by
  unfold sol at h
  split at h
  · cases h
  · rename_i hw
    intro hd
    apply hw
    apply Int.emod_eq_zero_of_dvd
    have h1 : (Int.gcd f M : Int) ∣ f * k - w := Int.dvd_trans (Int.gcd_dvd_right f M) hd
    have h2 : (Int.gcd f M : Int) ∣ f * k := Int.dvd_mul_of_dvd_left (Int.gcd_dvd_left f M)
    have := Int.dvd_sub h2 h1
    have e : f * k - (f * k - w) = w := by omega
    rwa [e] at this
/-! forms as relations -/
abbrev Fm := Int × Int × Int × Int
def R4 (F : Fm) (y z : Int) : Prop := ∃ k, y = F.1 + F.2.1 * k ∧ z = F.2.2.1 + F.2.2.2 * k
/-- normal: the first integer of the lot -/
def Nf (F : Fm) : Prop := 0 < F.2.1 ∧ 0 ≤ F.1 ∧ F.1 < F.2.1
theorem nf_unique {F G : Fm} (hF : Nf F) (hG : Nf G) (h : ∀ y z, R4 F y z ↔ R4 G y z) : F = G := by
  obtain ⟨r, m, s, n⟩ := F
  obtain ⟨r', m', s', n'⟩ := G
  obtain ⟨f1, f2, f3⟩ := hF
  obtain ⟨g1, g2, g3⟩ := hG
  simp only at f1 f2 f3 g1 g2 g3
  obtain ⟨k0, a1, a2⟩ := (h r s).mp ⟨0, by simp, by simp⟩
  obtain ⟨k1, b1, b2⟩ := (h (r + m) (s + n)).mp ⟨1, by simp, by simp⟩
  obtain ⟨l0, c1, c2⟩ := (h r' s').mpr ⟨0, by simp, by simp⟩
  obtain ⟨l1, d1, d2⟩ := (h (r' + m') (s' + n')).mpr ⟨1, by simp, by simp⟩
  simp only at a1 a2 b1 b2 c1 c2 d1 d2
  have hm : m = m' * (k1 - k0) := by rw [Int.mul_sub]; omega
  have hm' : m' = m * (l1 - l0) := by rw [Int.mul_sub]; omega
  have hme : m = m' := by
    have d1 : m' ∣ m := ⟨_, hm⟩
    have d2 : m ∣ m' := ⟨_, hm'⟩
    have := Int.le_of_dvd f1 d1
    have := Int.le_of_dvd g1 d2
    omega
  subst hme
  have hk : k1 - k0 = 1 := by
    have : m * (k1 - k0) = m * 1 := by omega
    exact Int.eq_of_mul_eq_mul_left (by omega) this
  have hr : r = r' := by
    have e : r % m = r' % m := by rw [a1]; simp
    rwa [Int.emod_eq_of_lt f2 f3, Int.emod_eq_of_lt g2 g3] at e
  subst hr
  have hk0 : k0 = 0 := by
    have : m * k0 = m * 0 := by omega
    exact Int.eq_of_mul_eq_mul_left (by omega) this
  subst hk0
  have hk1 : k1 = 1 := by omega
  subst hk1
  have : s = s' := by omega
  subst this
  have : n = n' := by omega
  subst this
  rfl
/-- the form narrowed to every by-th turn from at on -/
def nso (r m s n t q : Int) : Int × Int × Int × Int :=
  (r + m * (t + ((r + m * t) % (m * q) - (r + m * t)) / m), m * q, s + n * (t + ((r + m * t) % (m * q) - (r + m * t)) / m), n * q)
theorem nso_spec {r m s n t q : Int} (hm : 0 < m) (hq : 0 < q) : ∃ j, q ∣ j - t ∧ nso r m s n t q = (r + m * j, m * q, s + n * j, n * q) ∧ 0 ≤ r + m * j ∧ r + m * j < m * q := by
  have hmq : 0 < m * q := Int.mul_pos hm hq
  have h := Int.mul_ediv_add_emod (r + m * t) (m * q)
  have e : ((r + m * t) % (m * q) - (r + m * t)) / m = -(q * ((r + m * t) / (m * q))) := by
    have : (r + m * t) % (m * q) - (r + m * t) = m * -(q * ((r + m * t) / (m * q))) := by
      rw [Int.mul_neg, ← Int.mul_assoc]; omega
    rw [this, Int.mul_ediv_cancel_left _ (by omega)]
  refine ⟨t + -(q * ((r + m * t) / (m * q))), ⟨-((r + m * t) / (m * q)), by rw [Int.mul_neg]; omega⟩, by unfold nso; rw [e], ?_⟩
  have e2 : r + m * (t + -(q * ((r + m * t) / (m * q)))) = (r + m * t) % (m * q) := by
    rw [Int.mul_add, Int.mul_neg, ← Int.mul_assoc]; omega
  rw [e2]
  exact ⟨Int.emod_nonneg _ (by omega), Int.emod_lt_of_pos _ hmq⟩
theorem nso_rel {r m s n t q : Int} (hm : 0 < m) (hq : 0 < q) : Nf (nso r m s n t q) ∧ ∀ y z, R4 (nso r m s n t q) y z ↔ ∃ j, q ∣ j - t ∧ y = r + m * j ∧ z = s + n * j := by
  obtain ⟨j, h1, h2, h3, h4⟩ := nso_spec (r := r) (s := s) (n := n) (t := t) hm hq
  rw [h2]
  refine ⟨⟨Int.mul_pos hm hq, h3, h4⟩, fun y z => ⟨?_, ?_⟩⟩
  · rintro ⟨k, e1, e2⟩
    refine ⟨j + q * k, ?_, ?_, ?_⟩
    · obtain ⟨c, hc⟩ := h1
      exact ⟨c + k, by rw [Int.mul_add]; omega⟩
    · simp only at e1; rw [e1, Int.mul_add, Int.mul_assoc]; omega
    · simp only at e2; rw [e2, Int.mul_add, Int.mul_assoc]; omega
  · rintro ⟨i, d, e1, e2⟩
    obtain ⟨k, hk⟩ : q ∣ i - j := by
      have := Int.dvd_sub d h1
      have e : i - t - (j - t) = i - j := by omega
      rwa [e] at this
    have hi : i = j + q * k := by omega
    refine ⟨k, ?_, ?_⟩
    · simp only; rw [e1, hi, Int.mul_add, Int.mul_assoc]; omega
    · simp only; rw [e2, hi, Int.mul_add, Int.mul_assoc]; omega
/-- one deed behind the other, as the program joins them -/
def jn (F G : Fm) : Option Fm := (sol F.2.2.2 (G.1 - F.2.2.1) G.2.1).map fun p =>
  ((nso F.1 F.2.1 F.2.2.1 F.2.2.2 p.1 p.2).1, (nso F.1 F.2.1 F.2.2.1 F.2.2.2 p.1 p.2).2.1,
    G.2.2.1 + G.2.2.2 * (((nso F.1 F.2.1 F.2.2.1 F.2.2.2 p.1 p.2).2.2.1 - G.1) / G.2.1), G.2.2.2 * ((nso F.1 F.2.1 F.2.2.1 F.2.2.2 p.1 p.2).2.2.2 / G.2.1))
/-- H is G behind F -/
def Cm (F G : Fm) (H : Option Fm) : Prop := match H with
  | none => ∀ x, ¬ ((∃ y, R4 F y x) ∧ ∃ z, R4 G x z)
  | some H => Nf H ∧ ∀ y z, R4 H y z ↔ ∃ x, R4 F y x ∧ R4 G x z
theorem cm_unique {F G : Fm} {H K : Option Fm} (h : Cm F G H) (k : Cm F G K) : H = K := by
  have no : ∀ {F G H : Fm}, Cm F G none → Cm F G (some H) → False := fun {F G H} h k => by
    obtain ⟨x, h1, h2⟩ := (k.2 H.1 H.2.2.1).mp ⟨0, by simp, by simp⟩
    exact h x ⟨⟨_, h1⟩, ⟨_, h2⟩⟩
  cases H with
  | none =>
    cases K with
    | none => rfl
    | some K => exact (no h k).elim
  | some H =>
    cases K with
    | none => exact (no k h).elim
    | some K => rw [nf_unique h.1 k.1 fun y z => (h.2 y z).trans (k.2 y z).symm]
/-- the shape that both ways come to -/
theorem cm_of {r m s n a b e c t q : Int} (hm : 0 < m) (hb : 0 < b) (h : sol n (a - s) b = some (t, q)) {j : Int} (hj : q ∣ j - t) (h0 : 0 ≤ r + m * j) (h1 : r + m * j < m * q) :
    Cm (r, m, s, n) (a, b, e, c) (some (r + m * j, m * q, e + c * ((s + n * j - a) / b), c * (n * q / b))) := by
  obtain ⟨b1, b2, b3, b4⟩ := sol_some hb h
  have si := sol_iff hb h
  have hmq : 0 < m * q := Int.mul_pos hm b3
  obtain ⟨l0, hl0⟩ := (si j).mpr hj
  obtain ⟨l1, hl1⟩ := (si (j + q)).mpr (by
    obtain ⟨x, hx⟩ := hj
    exact ⟨x + 1, by rw [Int.mul_add]; omega⟩)
  have hnq : n * q = b * (l1 - l0) := by rw [Int.mul_sub, ← hl0, ← hl1, Int.mul_add]; omega
  have hsn : s + n * j - a = b * l0 := by omega
  have d1 : (s + n * j - a) / b = l0 := by rw [hsn]; exact Int.mul_ediv_cancel_left _ (by omega)
  have d2 : n * q / b = l1 - l0 := by rw [hnq]; exact Int.mul_ediv_cancel_left _ (by omega)
  rw [d1, d2]
  refine ⟨⟨hmq, h0, h1⟩, fun y z => ⟨?_, ?_⟩⟩
  · rintro ⟨k, e1, e2⟩
    simp only at e1 e2
    refine ⟨s + n * (j + q * k), ⟨j + q * k, ?_, rfl⟩, ⟨l0 + (l1 - l0) * k, ?_, ?_⟩⟩
    · simp only; rw [e1, Int.mul_add, Int.mul_assoc]; omega
    · simp only
      rw [Int.mul_add, Int.mul_add, ← Int.mul_assoc, hnq, Int.mul_assoc]; omega
    · simp only; rw [e2, Int.mul_add, Int.mul_assoc]; omega
  · rintro ⟨x, ⟨k, e1, e2⟩, ⟨l, e3, e4⟩⟩
    simp only at e1 e2 e3 e4
    have hk : q ∣ k - t := (si k).mp ⟨l, by omega⟩
    obtain ⟨i, hi⟩ : q ∣ k - j := by
      have := Int.dvd_sub hk hj
      have e : k - t - (j - t) = k - j := by omega
      rwa [e] at this
    have hk' : k = j + q * i := by omega
    refine ⟨i, ?_, ?_⟩
    · simp only; rw [e1, hk', Int.mul_add, Int.mul_assoc]; omega
    · simp only
      have : b * l = b * (l0 + (l1 - l0) * i) := by
        rw [Int.mul_add, ← Int.mul_assoc, ← hnq, Int.mul_assoc, ← hsn]
        have : n * k = n * j + n * (q * i) := by rw [hk', Int.mul_add]
        omega
      have := Int.eq_of_mul_eq_mul_left (by omega) this
      rw [e4, this, Int.mul_add, Int.mul_assoc]; omega
theorem cm_none {r m s n a b e c : Int} (h : sol n (a - s) b = none) : Cm (r, m, s, n) (a, b, e, c) none := by
  rintro x ⟨⟨y, k, e1, e2⟩, ⟨z, l, e3, e4⟩⟩
  simp only at e2 e3
  exact sol_none h k ⟨l, by omega⟩
theorem jn_cm {F G : Fm} (hm : 0 < F.2.1) (hb : 0 < G.2.1) : Cm F G (jn F G) := by
  obtain ⟨r, m, s, n⟩ := F
  obtain ⟨a, b, e, c⟩ := G
  simp only at hm hb
  unfold jn
  simp only
  cases h : sol n (a - s) b with
  | none => exact cm_none h
  | some p =>
    obtain ⟨t, q⟩ := p
    obtain ⟨b1, b2, b3, b4⟩ := sol_some hb h
    obtain ⟨j, j1, j2, j3, j4⟩ := nso_spec (r := r) (s := s) (n := n) (t := t) hm b3
    simp only [Option.map_some, j2]
    exact cm_of hm hb h j1 j3 j4
/-! fixed integers -/
theorem fix_unique {F : Fm} (h : F.2.1 ≠ F.2.2.2) {x y : Int} (hx : R4 F x x) (hy : R4 F y y) : x = y := by
  obtain ⟨r, m, s, n⟩ := F
  obtain ⟨k, a1, a2⟩ := hx
  obtain ⟨l, b1, b2⟩ := hy
  simp only at h a1 a2 b1 b2
  have : (m - n) * (k - l) = 0 := by rw [Int.mul_sub, Int.sub_mul, Int.sub_mul]; omega
  rcases Int.mul_eq_zero.mp this with z | z
  · omega
  · have : k = l := by omega
    subst this
    omega
/-- x is the fixed integer -/
def Fx (F : Fm) (x : Option Int) : Prop := match x with
  | none => ∀ y, ¬ R4 F y y
  | some x => R4 F x x
theorem fx_unique {F : Fm} (h : F.2.1 ≠ F.2.2.2) {x y : Option Int} (hx : Fx F x) (hy : Fx F y) : x = y := by
  cases x with
  | none =>
    cases y with
    | none => rfl
    | some y => exact (hx y hy).elim
  | some x =>
    cases y with
    | none => exact (hy x hx).elim
    | some y => rw [fix_unique h hx hy]
end Py
namespace Py
open PySem PySem.Spec L2 PyProof.Rows
abbrev fD (r m s n : Int) : D := .tup [.int r, .int m, .int s, .int n]
abbrev pD (a b : Int) : D := .tup [.int a, .int b]
theorem run_in_lot (a m z : Int) (hm : 0 < m) (S : Sto) : m_in_lot [pD a m, .int z] S = .ok (.bl (decide ((z - a) % m = 0))) S := by
  rw [e_in_lot]
  have : ¬ m = 0 := by omega
  simp [fn_def, op_modP hm, this]
theorem run_turn_of (r m s n z : Int) (hm : 0 < m) (hW : W 4000 m) (S : Sto) : m_turn_of [fD r m s n, .int z] S = .ok (.int ((z - r) / m)) S := by
  rw [e_turn_of]
  have : ¬ m = 0 := by omega
  simp [fn_def, op_divP hm (hW.mono (by decide)), this]
theorem run_image (r m s n z : Int) (hm : 0 < m) (hW : W 4000 m) (hn : W 4000 n) (hz : W 4000 (z - r)) (S : Sto) : m_image [fD r m s n, .int z] S = .ok (.int (s + n * ((z - r) / m))) S := by
  rw [e_image]
  simp [fn_def, run_turn_of r m s n z hm hW, op_mulW hn hz.div (by decide)]
theorem cut2 {a b c d : D} {S : Sto} : getSl (.tup [a, b, c, d]) none (some 2) S = .ok (.tup [a, b]) S := by
  have : getSl (.tup [a, b, c, d]) none (some 2) S = (if HT.sIx 4 0 none = 0 ∧ HT.sIx 4 4 (some 2) = 4 then R.no else .ok (.tup (cutD [a, b, c, d] none (some 2))) S) := by
    unfold getSl; rfl
  rw [this, if_neg (by decide)]
  rfl
abbrev f4 (f : Int × Int × Int × Int) : D := fD f.1 f.2.1 f.2.2.1 f.2.2.2
theorem W.modP {n : Nat} {i j : Int} (h : W n j) (p : 0 < j) : W n (i % j) := h.of_le (Int.emod_nonneg _ (by omega)) (Int.le_of_lt (Int.emod_lt_of_pos _ p))
theorem run_narrowed_so (r m s n t q : Int) (hm : 0 < m) (hq : 0 < q) (hr : W 1000 r) (hW : W 1000 m) (hs : W 1000 s) (hn : W 1000 n) (ht : W 1000 t) (hQ : W 1000 q) (S : Sto) :
    m_narrowed_so [fD r m s n, pD t q] S = .ok (f4 (nso r m s n t q)) S := by
  have hmq : 0 < m * q := Int.mul_pos hm hq
  have wmt := hW.mul ht
  have wh := hr.add wmt
  have wmq := hW.mul hQ
  have w1 := ((wmq.modP hmq (i := r + m * t)).sub wh).div (j := m)
  have w2 := ht.add w1
  have hne : ¬ (m = 0 ∨ q = 0) := by omega
  have hne2 : ¬ m * q = 0 := by omega
  rw [e_narrowed_so]
  simp [fn_def, op_mulW hW ht (by decide), op_mulW hW hQ (by decide), hne, hne2, op_modP hmq, op_divP hm (hW.mono (by decide)), op_mulW hW w2 (by decide), op_mulW hn w2 (by decide), op_mulW hn hQ (by decide), nso]
theorem run_met (a m c k : Int) (hm : 0 < m) (hk : 0 < k) (ha : W 1000 a) (hM : W 1000 m) (hc : W 1000 c) (hK : W 1000 k) (S : Sto) :
    m_met [pD a m, pD c k] S = .ok (oP ((sol m (c - a) k).map fun p => ((a + m * p.1) % (m * p.2), m * p.2))) S := by
  have h1 : ¬ m = 0 := by omega
  have h2 : ¬ k = 0 := by omega
  rw [e_met]
  simp [fn_def, h1, h2, run_solved m (c - a) k hk ((hc.sub ha).mono (by decide)) (hK.mono (by decide))]
  cases h : sol m (c - a) k with
  | none => simp [oP]
  | some p =>
    obtain ⟨t, q⟩ := p
    obtain ⟨b1, b2, b3, b4⟩ := sol_some hk h
    have wq : W 1000 q := hK.of_le (by omega) b4
    have wt : W 1000 t := wq.of_le b1 (by omega)
    simp [oP, op_mulW hM wq (by decide), op_mulW hM wt (by decide), op_modP (Int.mul_pos hm b3)]
theorem run_narrowed (r m s n a k : Int) (hm : 0 < m) (hk : 0 < k) (hr : W 300 r) (hM : W 300 m) (hs : W 300 s) (hn : W 300 n) (ha : W 300 a) (hK : W 300 k) (S : Sto) :
    m_narrowed [fD r m s n, pD a k] S = .ok (match sol m (a - r) k with
      | none => .non
      | some (t, q) => match sol m ((r + m * t) % (m * q) - r) (m * q) with
        | none => .non
        | some (t', q') => f4 (nso r m s n t' q')) S := by
  rw [e_narrowed]
  simp [fn_def, cut2, run_met r m a k hm hk (hr.mono (by decide)) (hM.mono (by decide)) (ha.mono (by decide)) (hK.mono (by decide))]
  cases h : sol m (a - r) k with
  | none => simp [oP]
  | some p =>
    obtain ⟨t, q⟩ := p
    obtain ⟨b1, b2, b3, b4⟩ := sol_some hk h
    have wq : W 300 q := hK.of_le (by omega) b4
    have hmq : 0 < m * q := Int.mul_pos hm b3
    have wmq : W 600 (m * q) := hM.mul wq
    have wx : W 600 ((r + m * t) % (m * q)) := wmq.modP hmq
    have hne : ¬ (m = 0 ∨ q = 0) := by omega
    have hne2 : ¬ m * q = 0 := by omega
    simp [oP, hne, hne2, run_solved m ((r + m * t) % (m * q) - r) (m * q) hmq ((wx.sub hr).mono (by decide)) (wmq.mono (by decide))]
    cases h2 : sol m ((r + m * t) % (m * q) - r) (m * q) with
    | none =>
      refine (sol_none h2 (t - q * ((r + m * t) / (m * q))) ⟨0, ?_⟩).elim
      have := Int.mul_ediv_add_emod (r + m * t) (m * q)
      rw [Int.mul_sub, ← Int.mul_assoc]; omega
    | some p2 =>
      obtain ⟨t', q'⟩ := p2
      obtain ⟨c1, c2, c3, c4⟩ := sol_some hmq h2
      have wq' : W 600 q' := wmq.of_le (by omega) c4
      have wt' : W 600 t' := wq'.of_le c1 (by omega)
      simp [oP, run_narrowed_so r m s n t' q' hm c3 (hr.mono (by decide)) (hM.mono (by decide)) (hs.mono (by decide)) (hn.mono (by decide)) (wt'.mono (by decide)) (wq'.mono (by decide))]
end Py
namespace Py
open PySem PySem.Spec L2 PyProof.Rows
theorem run__law_gcd (x y : Int) (S : Sto) : m__law_gcd [.int x, .int y] S = .ok (.int (Int.gcd x y)) S := by
  have loop : ∀ (n : Nat) (x y : Int), 0 ≤ x → 0 ≤ y → y.natAbs ≤ n → whileS t__law_gcd_1 b__law_gcd_2 [some (.int x), some (.int y)] S = .nx [some (.int (Int.gcd x y)), some (.int 0)] S := by
    intro n
    induction n with
    | zero =>
      intro x y hx h0 h
      obtain rfl : y = 0 := by omega
      have : (Int.gcd x 0 : Int) = x := by simp; omega
      rw [this]
      exact whileS_false (by simp [t__law_gcd_1])
    | succ n ih =>
      intro x y hx h0 h
      by_cases hy : y = 0
      · subst hy
        have : (Int.gcd x 0 : Int) = x := by simp; omega
        rw [this]
        exact whileS_false (by simp [t__law_gcd_1])
      · have h1 := Int.emod_nonneg x hy
        have h2 := Int.emod_lt_of_pos x (show 0 < y by omega)
        rw [whileS_true (S1 := S) (S2 := S) (e1 := [some (.int y), some (.int (x % y))]) (by simp [t__law_gcd_1, hy]) (by simp [b__law_gcd_2, op_modP (show 0 < y by omega)]), ← gcd_emod x y]
        exact ih y (x % y) (by omega) h1 (by omega)
  rw [e__law_gcd]
  have := loop _ x.natAbs y.natAbs (by omega) (by omega) (Nat.le_refl _)
  have e : Int.gcd (x.natAbs : Int) (y.natAbs : Int) = Int.gcd x y := by simp [Int.gcd]
  simp [fn_def, this, e]
def bhT (s n a b : Int) : Int := if 1 < b / (Int.gcd n b : Int) then eg (b / (Int.gcd n b : Int)) (n / (Int.gcd n b : Int) % (b / (Int.gcd n b : Int))) 0 1 * ((a - s) / (Int.gcd n b : Int)) % (b / (Int.gcd n b : Int)) else 0
def bh (F G : Fm) : Option Fm := if (G.1 - F.2.2.1) % (Int.gcd F.2.2.2 G.2.1 : Int) ≠ 0 then none else
  some (F.1 + F.2.1 * bhT F.2.2.1 F.2.2.2 G.1 G.2.1 - (F.1 + F.2.1 * bhT F.2.2.1 F.2.2.2 G.1 G.2.1) / (F.2.1 * (G.2.1 / (Int.gcd F.2.2.2 G.2.1 : Int))) * (F.2.1 * (G.2.1 / (Int.gcd F.2.2.2 G.2.1 : Int))),
    F.2.1 * (G.2.1 / (Int.gcd F.2.2.2 G.2.1 : Int)),
    G.2.2.1 + G.2.2.2 * ((F.2.2.1 + F.2.2.2 * bhT F.2.2.1 F.2.2.2 G.1 G.2.1 - G.1) / G.2.1) - (F.1 + F.2.1 * bhT F.2.2.1 F.2.2.2 G.1 G.2.1) / (F.2.1 * (G.2.1 / (Int.gcd F.2.2.2 G.2.1 : Int))) * (G.2.2.2 * (F.2.2.2 * (G.2.1 / (Int.gcd F.2.2.2 G.2.1 : Int)) / G.2.1)),
    G.2.2.2 * (F.2.2.2 * (G.2.1 / (Int.gcd F.2.2.2 G.2.1 : Int)) / G.2.1))
theorem bh_cm {F G : Fm} (hm : 0 < F.2.1) (hb : 0 < G.2.1) : Cm F G (bh F G) := by
  obtain ⟨r, m, s, n⟩ := F
  obtain ⟨a, b, e, c⟩ := G
  simp only at hm hb
  unfold bh
  simp only
  by_cases h : (a - s) % (Int.gcd n b : Int) = 0
  · rw [if_neg (by simpa using h)]
    have q0 := quo_pos (f := n) hb
    have hs : sol n (a - s) b = some (bhT s n a b, b / (Int.gcd n b : Int)) := by
      unfold sol bhT
      rw [if_pos h]
      congr 2
      by_cases h1 : 1 < b / (Int.gcd n b : Int)
      · rw [if_pos h1]
        unfold inv
        generalize eg _ _ 0 1 = E
        rw [Int.mul_emod, Int.emod_emod_of_dvd _ (Int.dvd_refl _), ← Int.mul_emod, Int.mul_comm]
      · rw [if_neg h1]
        have : b / (Int.gcd n b : Int) = 1 := by omega
        rw [this]; exact Int.emod_one _
    generalize hq : b / (Int.gcd n b : Int) = q at *
    generalize ht : bhT s n a b = t at *
    have hmq : 0 < m * q := Int.mul_pos hm q0
    have hbn : b ∣ n * q := by
      rw [← hq]
      obtain ⟨u, hu⟩ := Int.gcd_dvd_left n b
      obtain ⟨v, hv⟩ := Int.gcd_dvd_right n b
      have g0 := gcd_pos' (f := n) hb
      have : b / (Int.gcd n b : Int) = v := by
        generalize (Int.gcd n b : Int) = g at *
        rw [hv]; exact Int.mul_ediv_cancel_left _ (by omega)
      rw [this]
      refine ⟨u, ?_⟩
      generalize (Int.gcd n b : Int) = g at *
      rw [hv, hu, Int.mul_assoc, Int.mul_assoc, Int.mul_comm u v]
    obtain ⟨u, hu⟩ := hbn
    have key := cm_of (r := r) (m := m) (s := s) (n := n) (a := a) (b := b) (e := e) (c := c) hm hb hs (j := t - q * ((r + m * t) / (m * q))) ⟨-((r + m * t) / (m * q)), by rw [Int.mul_neg]; omega⟩
    have e1 : r + m * (t - q * ((r + m * t) / (m * q))) = r + m * t - (r + m * t) / (m * q) * (m * q) := by
      rw [Int.mul_sub, Int.mul_comm ((r + m * t) / (m * q)), Int.mul_assoc]; omega
    have e2 : r + m * t - (r + m * t) / (m * q) * (m * q) = (r + m * t) % (m * q) := by
      have := Int.mul_ediv_add_emod (r + m * t) (m * q)
      rw [Int.mul_comm ((r + m * t) / (m * q))]; omega
    have e3 : (s + n * (t - q * ((r + m * t) / (m * q))) - a) / b = (s + n * t - a) / b - u * ((r + m * t) / (m * q)) := by
      have : s + n * (t - q * ((r + m * t) / (m * q))) - a = s + n * t - a + b * -(u * ((r + m * t) / (m * q))) := by
        rw [Int.mul_sub, ← Int.mul_assoc n, hu, Int.mul_neg, Int.mul_assoc]; omega
      rw [this, Int.add_mul_ediv_left _ _ (by omega)]; omega
    have e4 : n * q / b = u := by rw [hu]; exact Int.mul_ediv_cancel_left _ (by omega)
    rw [e1, e2] at key
    have key := key (Int.emod_nonneg _ (by omega)) (Int.emod_lt_of_pos _ hmq)
    rw [e3, e4] at key
    rw [e2, e4]
    have e5 : e + c * ((s + n * t - a) / b - u * ((r + m * t) / (m * q))) = e + c * ((s + n * t - a) / b) - (r + m * t) / (m * q) * (c * u) := by
      rw [Int.mul_sub, ← Int.mul_assoc c u, Int.mul_comm ((r + m * t) / (m * q))]; omega
    rw [e5] at key
    exact key
  · rw [if_pos h]
    exact cm_none (by unfold sol; rw [if_neg h])
theorem joined_eq {F G : Fm} (hm : 0 < F.2.1) (hb : 0 < G.2.1) : jn F G = bh F G := cm_unique (jn_cm hm hb) (bh_cm hm hb)
def oF : Option Fm → D
  | none => .non
  | some F => f4 F
end Py
namespace Py
open PySem PySem.Spec L2 PyProof.Rows
theorem loop__law_behind {S : Sto} {M : Int} (hW : W 4000 M) {o0 o1 o2 o3 o4 o5 o6 o7 o8 o9 o10 o11 o12 o13 o14 : Option D} : ∀ (k : Nat) (a b f g : Int) (o : Option D), b.natAbs ≤ k → EgI M a b f g → ∃ (a' g' : D) (o' : Option D),
    whileS t__law_behind_1 b__law_behind_2 [o0, o1, o2, o3, o4, o5, o6, o7, o8, o9, o10, o11, o12, o13, o14, some (.int a), some (.int b), some (.int f), some (.int g), o] S =
      .nx [o0, o1, o2, o3, o4, o5, o6, o7, o8, o9, o10, o11, o12, o13, o14, some a', some (.int 0), some (.int (eg a b f g)), some g', o'] S := by
  intro k
  induction k with
  | zero =>
    intro a b f g o h I
    have := I.nb
    obtain rfl : b = 0 := by omega
    exact ⟨_, _, _, by rw [whileS_false (S1 := S) (by simp [t__law_behind_1]), eg_zero]⟩
  | succ k ih =>
    intro a b f g o h I
    have nb := I.nb
    by_cases hb : b = 0
    · subst hb
      exact ⟨_, _, _, by rw [whileS_false (S1 := S) (by simp [t__law_behind_1]), eg_zero]⟩
    · have pb : 0 < b := by omega
      have h1 := Int.emod_nonneg a hb
      have h2 := Int.emod_lt_of_pos a pb
      have h3 := Int.mul_ediv_add_emod a b
      have pa := I.pa
      have h4 : 0 ≤ a / b := Int.ediv_nonneg (by omega) nb
      have h5 : a / b ≤ a := Int.ediv_le_self b (by omega)
      have aM := I.aM
      have ba := I.ba
      have wb : W 4000 b := hW.of_le nb (by omega)
      have wt : W 4000 (a / b) := hW.of_le h4 (by omega)
      have wg : W 4000 g := hW.le I.gM
      obtain ⟨a', g', o', e⟩ := ih b (a % b) g (f - a / b * g) (some (.int (a / b))) (by omega) (I.step pb)
      refine ⟨a', g', o', ?_⟩
      have e1 : a - a / b * b = a % b := by rw [Int.mul_comm]; omega
      rw [whileS_true (S1 := S) (S2 := S) (e1 := [o0, o1, o2, o3, o4, o5, o6, o7, o8, o9, o10, o11, o12, o13, o14, some (.int b), some (.int (a % b)), some (.int g), some (.int (f - a / b * g)), some (.int (a / b))]) (by simp [t__law_behind_1, hb])
        (by simp [b__law_behind_2, op_divP pb (wb.mono (by decide)), op_mulW wt wb (by decide), op_mulW wt wg (by decide), e1]), e, eg_pos pb]
/-- entries of at most k bits -/
structure WF4 (k : Nat) (F : Fm) : Prop where
  r : W k F.1
  m : W k F.2.1
  s : W k F.2.2.1
  n : W k F.2.2.2
theorem WF4.mono {k l : Nat} {F : Fm} (h : WF4 k F) (i : k ≤ l) : WF4 l F := ⟨h.r.mono i, h.m.mono i, h.s.mono i, h.n.mono i⟩
theorem bhT_W {s n a b : Int} {k : Nat} (hb : 0 < b) (h : W k b) : W k (bhT s n a b) ∧ 0 ≤ bhT s n a b := by
  have q0 := quo_pos (f := n) hb
  have wq : W k (b / (Int.gcd n b : Int)) := h.of_le (by omega) (quo_le hb)
  unfold bhT
  split
  · exact ⟨wq.modP q0, Int.emod_nonneg _ (by omega)⟩
  · refine ⟨?_, Int.le_refl _⟩
    exact h.of_le (by omega) (by omega)
theorem eg_le {M : Int} : ∀ (k : Nat) (a b f g : Int), b.natAbs ≤ k → EgI M a b f g → (eg a b f g).natAbs ≤ M.natAbs := by
  intro k
  induction k with
  | zero =>
    intro a b f g h I
    have := I.nb
    obtain rfl : b = 0 := by omega
    rw [eg_zero]; exact I.fM
  | succ k ih =>
    intro a b f g h I
    have nb := I.nb
    by_cases hb : b = 0
    · subst hb; rw [eg_zero]; exact I.fM
    · have h2 := Int.emod_lt_of_pos a (show 0 < b by omega)
      have h1 := Int.emod_nonneg a hb
      rw [eg_pos (by omega)]
      exact ih _ _ _ _ (by omega) (I.step (by omega))
noncomputable def tl_lb : SM := (seqS (tgtS (.tp [(.nm 5), (.nm 7), (.nm 6), (.nm 8)]) (tupE (consA (bE .Add (vE 5) (bE .Mult (vE 6) (vE 3))) (consA (bE .Add (vE 11) (bE .Mult (vE 12) (bE .FloorDiv (bE .Sub (bE .Add (vE 7) (bE .Mult (vE 8) (vE 3))) (vE 9)) (vE 10)))) (consA (bE .Mult (vE 6) (vE 13)) (consA (bE .Mult (vE 12) (bE .FloorDiv (bE .Mult (vE 8) (vE 13)) (vE 10))) nilA))))))
    (seqS (setS 4 (bE .FloorDiv (vE 5) (vE 6)))
    (seqS (retS (tupE (consA (bE .Sub (vE 5) (bE .Mult (vE 4) (vE 6))) (consA (vE 6) (consA (bE .Sub (vE 7) (bE .Mult (vE 4) (vE 8))) (consA (vE 8) nilA))))))
    nxS)))
theorem e2__law_behind : m__law_behind = fnR ["one", "other", "part", "t", "down", "r", "m", "s", "n", "a", "b", "e", "c", "step", "n0", "first", "second", "old", "new", "many"] 2 (seqS (tgtS (.tp [(.nm 5), (.nm 6), (.nm 7), (.nm 8)]) (vE 0))
    (seqS (tgtS (.tp [(.nm 9), (.nm 10), (.nm 11), (.nm 12)]) (vE 1))
    (seqS (setS 2 (caE m__law_gcd (consA (vE 8) (consA (vE 10) nilA))))
    (seqS (ifS (ktT (kE .NotEq (bE .Mod (biE "int" (consA (bE .Sub (vE 9) (vE 7)) nilA)) (vE 2)) (cE (.int 0)))) (seqS (retS (cE .non))
    nxS) nxS)
    (seqS (parS 13 14 (bE .FloorDiv (vE 10) (vE 2)) (bE .FloorDiv (vE 8) (vE 2)))
    (seqS (setS 3 (cE (.int 0)))
    (seqS (ifS (ktT (kE .Gt (vE 13) (cE (.int 1)))) (seqS (tgtS (.tp [(.nm 15), (.nm 16), (.nm 17), (.nm 18)]) (tupE (consA (vE 13) (consA (bE .Mod (biE "int" (consA (vE 14) nilA)) (vE 13)) (consA (cE (.int 0)) (consA (cE (.int 1)) nilA))))))
    (seqS (whileS t__law_behind_1 b__law_behind_2)
    (seqS (setS 3 (bE .Mod (biE "int" (consA (bE .Mult (vE 17) (bE .FloorDiv (bE .Sub (vE 9) (vE 7)) (vE 2))) nilA)) (vE 13)))
    nxS))) nxS)
    tl_lb))))))) := e__law_behind
theorem run__law_behind (F G : Fm) (hm : 0 < F.2.1) (hb : 0 < G.2.1) (wF : WF4 300 F) (wG : WF4 300 G) (S : Sto) : m__law_behind [f4 F, f4 G] S = .ok (oF (bh F G)) S := by
  obtain ⟨r, m, s, n⟩ := F
  obtain ⟨a, b, e, c⟩ := G
  have hr := wF.r; have hM := wF.m; have hs := wF.s; have hn := wF.n
  have ha := wG.r; have hB := wG.m; have he := wG.s; have hc := wG.n
  simp only at hm hb hr hM hs hn ha hB he hc
  have g0 := gcd_pos' (f := n) hb
  have wg : W 300 (Int.gcd n b : Int) := hB.of_le (by omega) (gcd_le' hb)
  have q0 := quo_pos (f := n) hb
  have wq : W 300 (b / (Int.gcd n b : Int)) := hB.of_le (by omega) (quo_le hb)
  rw [e2__law_behind]
  simp only [f4, fD]
  unfold bh
  by_cases h : (a - s) % (Int.gcd n b : Int) = 0
  · rw [if_neg (by simpa using h)]
    have hmq : 0 < m * (b / (Int.gcd n b : Int)) := Int.mul_pos hm q0
    have wmq := hM.mul wq
    obtain ⟨wt, t0⟩ := bhT_W (s := s) (n := n) (a := a) hb hB
    have wmt := hM.mul wt
    have wnt := hn.mul wt
    have wx := ((hs.add wnt).sub ha).div (j := b)
    have wcx := hc.mul wx
    have wnq := (hn.mul wq).div (j := b)
    have wcn := hc.mul wnq
    have wd := (hr.add wmt).div (j := m * (b / (Int.gcd n b : Int)))
    have tail : ∀ (o15 o16 o17 o18 o19 : Option D), ∀ T, T = bhT s n a b →
      (tl_lb [some (.tup [.int r, .int m, .int s, .int n]), some (.tup [.int a, .int b, .int e, .int c]), some (.int (Int.gcd n b)), some (.int T), none, some (.int r), some (.int m), some (.int s), some (.int n), some (.int a), some (.int b), some (.int e), some (.int c),
        some (.int (b / (Int.gcd n b : Int))), some (.int (n / (Int.gcd n b : Int))), o15, o16, o17, o18, o19] S).fin = .ok (oF (some
  (r + m * bhT s n a b - (r + m * bhT s n a b) / (m * (b / (Int.gcd n b : Int))) * (m * (b / (Int.gcd n b : Int))),
    m * (b / (Int.gcd n b : Int)),
    e + c * ((s + n * bhT s n a b - a) / b) - (r + m * bhT s n a b) / (m * (b / (Int.gcd n b : Int))) * (c * (n * (b / (Int.gcd n b : Int)) / b)),
    c * (n * (b / (Int.gcd n b : Int)) / b)))) S := by
      intro o15 o16 o17 o18 o19 T hT
      subst hT
      simp [tl_lb, op_mulW hM wt (by decide), op_mulW hn wt (by decide), op_divP hb (hB.mono (by decide)), op_mulW hc wx (by decide), op_mulW hM wq (by decide), op_mulW hn wq (by decide), op_mulW hc wnq (by decide), op_divP hmq (wmq.mono (by decide)),
        op_mulW wd wmq (by decide), op_mulW wd wcn (by decide), oF]
    by_cases h1 : 1 < b / (Int.gcd n b : Int)
    · have wE : W 300 (eg (b / (Int.gcd n b : Int)) (n / (Int.gcd n b : Int) % (b / (Int.gcd n b : Int))) 0 1) := wq.le (eg_le _ _ _ _ _ (Nat.le_refl _) (EgI.start q0))
      have wa := (ha.sub hs).div (j := (Int.gcd n b : Int))
      obtain ⟨a', g', o', el⟩ := loop__law_behind (S := S) (wq.mono (by decide)) (o0 := some (.tup [.int r, .int m, .int s, .int n])) (o1 := some (.tup [.int a, .int b, .int e, .int c])) (o2 := some (.int (Int.gcd n b))) (o3 := some (.int 0)) (o4 := none) (o5 := some (.int r)) (o6 := some (.int m)) (o7 := some (.int s))
        (o8 := some (.int n)) (o9 := some (.int a)) (o10 := some (.int b)) (o11 := some (.int e)) (o12 := some (.int c)) (o13 := some (.int (b / (Int.gcd n b : Int)))) (o14 := some (.int (n / (Int.gcd n b : Int)))) _ (b / (Int.gcd n b : Int)) (n / (Int.gcd n b : Int) % (b / (Int.gcd n b : Int))) 0 1 none (Nat.le_refl _) (EgI.start q0)
      have tl := tail (some a') (some (.int 0)) (some (.int (eg (b / (Int.gcd n b : Int)) (n / (Int.gcd n b : Int) % (b / (Int.gcd n b : Int))) 0 1))) (some g') o' (eg (b / (Int.gcd n b : Int)) (n / (Int.gcd n b : Int) % (b / (Int.gcd n b : Int))) 0 1 * ((a - s) / (Int.gcd n b : Int)) % (b / (Int.gcd n b : Int))) (by unfold bhT; rw [if_pos h1])
      simp [fn_def, run__law_gcd n b, op_modP g0, h, op_divP g0 (wg.mono (by decide)), h1, op_modP q0, el, op_mulW wE wa (by decide)]
      exact tl
    · have tl := tail none none none none none 0 (by unfold bhT; rw [if_neg h1])
      simp [fn_def, run__law_gcd n b, op_modP g0, h, op_divP g0 (wg.mono (by decide)), h1]
      exact tl
  · rw [if_pos h]
    simp [fn_def, run__law_gcd n b, op_modP g0, h, oF]
end Py
namespace Py
open PySem PySem.Spec L2 PyProof.Rows
theorem run_joined (F G : Fm) (hm : 0 < F.2.1) (hb : 0 < G.2.1) (wF : WF4 300 F) (wG : WF4 300 G) (S : Sto) : m_joined [f4 F, f4 G] S = .ok (oF (jn F G)) S := by
  obtain ⟨r, m, s, n⟩ := F
  obtain ⟨a, b, e, c⟩ := G
  have hr := wF.r; have hM := wF.m; have hs := wF.s; have hn := wF.n
  have ha := wG.r; have hB := wG.m; have he := wG.s; have hc := wG.n
  simp only at hm hb hr hM hs hn ha hB he hc
  have h1 : ¬ m = 0 := by omega
  have h2 : ¬ b = 0 := by omega
  rw [e_joined]
  unfold jn
  simp [fn_def, h1, h2, run_solved n (a - s) b hb ((ha.sub hs).mono (by decide)) (hB.mono (by decide))]
  cases h : sol n (a - s) b with
  | none => simp [oP, oF]
  | some p =>
    obtain ⟨t, q⟩ := p
    obtain ⟨b1, b2, b3, b4⟩ := sol_some hb h
    have wq : W 300 q := hB.of_le (by omega) b4
    have wt : W 300 t := wq.of_le b1 (by omega)
    have wm := hM.mul wt
    have wmq := hM.mul wq
    have wj := (wt.add ((((wmq.modP (Int.mul_pos hm b3) (i := r + m * t))).sub (hr.add wm)).div (j := m)))
    have wx : W 2000 (s + n * (t + ((r + m * t) % (m * q) - (r + m * t)) / m)) := (hs.add (hn.mul wj)).mono (by decide)
    have wi : W 3000 (s + n * (t + ((r + m * t) % (m * q) - (r + m * t)) / m) - a) := (wx.sub ha).mono (by decide)
    have wn : W 3000 (n * q / b) := (hn.mul wq).div.mono (by decide)
    simp [oP, oF, run_narrowed_so r m s n t q hm b3 (hr.mono (by decide)) (hM.mono (by decide)) (hs.mono (by decide)) (hn.mono (by decide)) (wt.mono (by decide)) (wq.mono (by decide)), nso,
      run_image a b e c _ hb (hB.mono (by decide)) (hc.mono (by decide)) (wi.mono (by decide)), op_divP hb (hB.mono (by decide)), op_mulW hc wn (by decide)]
/-- narrowed -/
def nr (F : Fm) (a k : Int) : Option Fm := match sol F.2.1 (a - F.1) k with
  | none => none
  | some (t, q) => match sol F.2.1 ((F.1 + F.2.1 * t) % (F.2.1 * q) - F.1) (F.2.1 * q) with
    | none => none
    | some (t', q') => some (nso F.1 F.2.1 F.2.2.1 F.2.2.2 t' q')
theorem run_narrowed' (F : Fm) (a k : Int) (hm : 0 < F.2.1) (hk : 0 < k) (wF : WF4 300 F) (ha : W 300 a) (hK : W 300 k) (S : Sto) : m_narrowed [f4 F, pD a k] S = .ok (oF (nr F a k)) S := by
  obtain ⟨r, m, s, n⟩ := F
  rw [show f4 (r, m, s, n) = fD r m s n from rfl, run_narrowed r m s n a k hm hk wF.r wF.m wF.s wF.n ha hK]
  unfold nr
  simp only
  cases sol m (a - r) k with
  | none => rfl
  | some p =>
    obtain ⟨t, q⟩ := p
    simp only
    cases sol m ((r + m * t) % (m * q) - r) (m * q) with
    | none => rfl
    | some p => rfl
theorem nr_cm {F : Fm} {a k : Int} (hm : 0 < F.2.1) (hk : 0 < k) : Cm (a, k, a, k) F (nr F a k) := by
  obtain ⟨r, m, s, n⟩ := F
  simp only at hm
  unfold nr
  simp only
  cases h : sol m (a - r) k with
  | none =>
    rintro x ⟨⟨y, i, e1, e2⟩, ⟨z, j, e3, e4⟩⟩
    simp only at e2 e3
    exact sol_none h j ⟨i, by omega⟩
  | some p =>
    obtain ⟨t, q⟩ := p
    obtain ⟨b1, b2, b3, b4⟩ := sol_some hk h
    have hmq : 0 < m * q := Int.mul_pos hm b3
    have hx := Int.mul_ediv_add_emod (r + m * t) (m * q)
    have ex : (r + m * t) % (m * q) - r = m * (t - q * ((r + m * t) / (m * q))) := by
      rw [Int.mul_sub, ← Int.mul_assoc]; omega
    simp only
    cases h2 : sol m ((r + m * t) % (m * q) - r) (m * q) with
    | none => exact (sol_none h2 (t - q * ((r + m * t) / (m * q))) ⟨0, by rw [ex]; omega⟩).elim
    | some p2 =>
      obtain ⟨t', q'⟩ := p2
      obtain ⟨c1, c2, c3, c4⟩ := sol_some hmq h2
      obtain ⟨nf, rel⟩ := nso_rel (r := r) (s := s) (n := n) (t := t') hm c3
      refine ⟨nf, fun y z => (rel y z).trans ⟨?_, ?_⟩⟩
      · rintro ⟨j, d, e1, e2⟩
        have d2 := (sol_iff hmq h2 j).mpr d
        rw [ex, ← Int.mul_sub] at d2
        have d3 : q ∣ j - (t - q * ((r + m * t) / (m * q))) := (Int.mul_dvd_mul_iff_left (by omega)).mp d2
        have d4 : q ∣ j - t := by
          have := Int.dvd_sub d3 (Int.dvd_mul_right q ((r + m * t) / (m * q)))
          have e : j - (t - q * ((r + m * t) / (m * q))) - q * ((r + m * t) / (m * q)) = j - t := by omega
          rwa [e] at this
        obtain ⟨i, hi⟩ := (sol_iff hk h j).mpr d4
        exact ⟨y, ⟨i, by simp only; omega, by simp only; omega⟩, ⟨j, e1, e2⟩⟩
      · rintro ⟨x, ⟨i, e1, e2⟩, ⟨j, e3, e4⟩⟩
        simp only at e1 e2 e3 e4
        refine ⟨j, ?_, by omega, e4⟩
        have d4 : q ∣ j - t := (sol_iff hk h j).mp ⟨i, by omega⟩
        apply (sol_iff hmq h2 j).mp
        rw [ex, ← Int.mul_sub]
        apply (Int.mul_dvd_mul_iff_left (by omega)).mpr
        have := Int.dvd_add d4 (Int.dvd_mul_right q ((r + m * t) / (m * q)))
        have e : j - t + q * ((r + m * t) / (m * q)) = j - (t - q * ((r + m * t) / (m * q))) := by omega
        rwa [e] at this
theorem narrowed_eq {F : Fm} {a k : Int} (hm : 0 < F.2.1) (hk : 0 < k) : nr F a k = bh (a, k, a, k) F := cm_unique (nr_cm hm hk) (bh_cm hk hm)
/-! lines -/
def frac (t b : Int) : Int × Int := (t / (Int.gcd t b : Int), b / (Int.gcd t b : Int))
abbrev p2 (p : Int × Int) : D := pD p.1 p.2
theorem run_fraction_of (t b : Int) (hb : 0 < b) (wt : W 3000 t) (wb : W 3000 b) (S : Sto) : m_fraction_of [.int t, .int b] S = .ok (p2 (frac t b)) S := by
  have g0 := gcd_pos' (f := t) hb
  have wg : W 3000 (Int.gcd t b : Int) := wb.of_le (by omega) (gcd_le' hb)
  have h1 : ¬ b < 0 := by omega
  have w1 : W 2 1 := by unfold W; decide
  rw [e_fraction_of]
  simp [fn_def, run_gcd_of t b (by omega), h1, op_mulW w1 wt (by decide), op_mulW w1 wb (by decide), op_divP g0 (wg.mono (by decide)), frac]
def ln (F : Fm) : (Int × Int) × (Int × Int) := (frac F.2.2.2 F.2.1, frac (F.2.2.1 * F.2.1 - F.2.2.2 * F.1) F.2.1)
abbrev lD (l : (Int × Int) × (Int × Int)) : D := .tup [p2 l.1, p2 l.2]
theorem run_line_of (F : Fm) (hm : 0 < F.2.1) (w : WF4 300 F) (S : Sto) : m_line_of [f4 F] S = .ok (lD (ln F)) S := by
  obtain ⟨r, m, s, n⟩ := F
  have hr := w.r; have hM := w.m; have hs := w.s; have hn := w.n
  simp only at hm hr hM hs hn
  rw [e_line_of]
  simp [fn_def, run_fraction_of n m hm (hn.mono (by decide)) (hM.mono (by decide)), op_mulW hs hM (by decide), op_mulW hn hr (by decide), run_fraction_of (s * m - n * r) m hm (((hs.mul hM).sub (hn.mul hr)).mono (by decide)) (hM.mono (by decide)), ln]
end Py
namespace Py
open PySem PySem.Spec L2 PyProof.Rows
def oI : Option Int → D
  | none => .non
  | some i => .int i
def oM : Option Int → D
  | none => .non
  | some i => pD i 0
abbrev Ln := (Int × Int) × (Int × Int)
def slp (a b : Ln) : Int := (a.1.1 * b.1.2 - b.1.1 * a.1.2) * (a.2.2 * b.2.2)
def ris (a b : Ln) : Int := (b.2.1 * a.2.2 - a.2.1 * b.2.2) * (a.1.2 * b.1.2)
def crs (a b : Ln) : Option Int := if a.1.1 * b.1.2 - b.1.1 * a.1.2 = 0 then none else if (ris a b).fmod (slp a b) = 0 then some ((ris a b).fdiv (slp a b)) else none
structure WL (k : Nat) (a : Ln) : Prop where
  t : W k a.1.1
  b : W k a.1.2
  u : W k a.2.1
  d : W k a.2.2
  pb : 0 < a.1.2
  pd : 0 < a.2.2
theorem run_crossing (a b : Ln) (ha : WL 1000 a) (hb : WL 1000 b) (S : Sto) : m_crossing [lD a, lD b] S = .ok (oI (crs a b)) S := by
  obtain ⟨⟨t1, b1⟩, ⟨u1, d1⟩⟩ := a
  obtain ⟨⟨t2, b2⟩, ⟨u2, d2⟩⟩ := b
  obtain ⟨a1, a2, a3, a4, a5, a6⟩ := ha
  obtain ⟨c1, c2, c3, c4, c5, c6⟩ := hb
  simp only at a1 a2 a3 a4 a5 a6 c1 c2 c3 c4 c5 c6
  rw [e_crossing]
  unfold crs
  have wbb := a2.mul c2
  have wdd := a4.mul c4
  have ws := (a1.mul c2).sub (c1.mul a2)
  have wr := (c3.mul a4).sub (a3.mul c4)
  have wsl := ws.mul wdd
  simp [fn_def, op_mulW a1 c2 (by decide), op_mulW c1 a2 (by decide)]
  by_cases h : t1 * b2 - t2 * b1 = 0
  · simp [h, oI]
  · have hdd : d1 * d2 ≠ 0 := by have := Int.mul_pos a6 c6; omega
    have hne : (t1 * b2 - t2 * b1) * (d1 * d2) ≠ 0 := fun z => by
      rcases Int.mul_eq_zero.mp z with z | z
      · exact h z
      · exact hdd z
    simp [h, op_mulW c3 a4 (by decide), op_mulW a3 c4 (by decide), op_mulW a2 c2 (by decide), op_mulW a4 c4 (by decide), op_mulW wr wbb (by decide), op_mulW ws wdd (by decide), op_mod hne, op_fdiv (wsl.dv hne (by decide))]
    by_cases h2 : ((u2 * d1 - u1 * d2) * (b1 * b2)).fmod ((t1 * b2 - t2 * b1) * (d1 * d2)) = 0
    · simp [h2, ris, slp, oI]
    · simp [h2, ris, slp, oI]
theorem crs_some {a b : Ln} {y : Int} (h : crs a b = some y) : slp a b * y = ris a b := by
  unfold crs at h
  split at h
  · cases h
  · split at h
    · rename_i h2
      cases h
      have := Int.mul_fdiv_add_fmod (ris a b) (slp a b)
      omega
    · cases h
theorem crs_none {a b : Ln} (h : crs a b = none) (h0 : a.1.1 * b.1.2 - b.1.1 * a.1.2 ≠ 0) (y : Int) : slp a b * y ≠ ris a b := by
  unfold crs at h
  rw [if_neg h0] at h
  split at h
  · cases h
  · rename_i h2
    intro e
    apply h2
    rw [← e]
    exact Int.mul_fmod_right _ _
/-- whether both forms lead z to one integer -/
def sm (F G : Fm) (z : Int) : Bool := decide ((z - F.1) % F.2.1 = 0) && decide ((z - G.1) % G.2.1 = 0) && decide (F.2.2.1 + F.2.2.2 * ((z - F.1) / F.2.1) = G.2.2.1 + G.2.2.2 * ((z - G.1) / G.2.1))
theorem run_single_meeting (F G : Fm) (z : Int) (hm : 0 < F.2.1) (hb : 0 < G.2.1) (wF : WF4 300 F) (wG : WF4 300 G) (wz : W 3500 z) (S : Sto) : m_single_meeting [f4 F, f4 G, .int z] S = .ok (oM (if sm F G z = true then some z else none)) S := by
  obtain ⟨r, m, s, n⟩ := F
  obtain ⟨a, b, e, c⟩ := G
  have hr := wF.r; have hM := wF.m; have hs := wF.s; have hn := wF.n
  have ha := wG.r; have hB := wG.m; have he := wG.s; have hc := wG.n
  simp only at hm hb hr hM hs hn ha hB he hc
  show m_single_meeting [fD r m s n, fD a b e c, .int z] S = _
  rw [e_single_meeting]
  have i1 := run_image r m s n z hm (hM.mono (by decide)) (hn.mono (by decide)) ((wz.sub hr).mono (by decide))
  have i2 := run_image a b e c z hb (hB.mono (by decide)) (hc.mono (by decide)) ((wz.sub ha).mono (by decide))
  simp [fn_def, cut2, run_in_lot r m z hm, run_in_lot a b z hb]
  by_cases h1 : (z - r) % m = 0
  · by_cases h2 : (z - a) % b = 0
    · by_cases h3 : s + n * ((z - r) / m) = e + c * ((z - a) / b)
      · simp [h1, h2, h3, sm, oM, i1, i2]
      · simp [h1, h2, h3, sm, oM, i1, i2]
    · simp [h1, h2, sm, oM]
  · simp [h1, sm, oM]
theorem eq_ln (a b : Ln) (S : Sto) : cmpop .Eq (lD a) (lD b) S = .ok (.bl (decide (a = b))) S := by
  obtain ⟨⟨t1, b1⟩, ⟨u1, d1⟩⟩ := a
  obtain ⟨⟨t2, b2⟩, ⟨u2, d2⟩⟩ := b
  have e : pyEq S (lD ((t1, b1), (u1, d1))) (lD ((t2, b2), (u2, d2))) = some (((t1 == t2) && ((b1 == b2) && true)) && (((u1 == u2) && ((d1 == d2) && true)) && true)) := rfl
  show (match pyEq S (lD ((t1, b1), (u1, d1))) (lD ((t2, b2), (u2, d2))) with
    | some b => R.ok (D.bl b) S
    | none => .no) = _
  rw [e]
  simp only [R.ok.injEq, D.bl.injEq, and_true]
  rw [Bool.eq_iff_iff]
  simp [and_assoc]
/-! the fixed integer -/
abbrev idF : Fm := (0, 1, 0, 1)
theorem w0 : W 2 0 := by unfold W; decide
theorem w1 : W 2 1 := by unfold W; decide
theorem wid : WF4 300 idF := ⟨w0.mono (by decide), w1.mono (by decide), w0.mono (by decide), w1.mono (by decide)⟩
theorem frac_mul {t b : Int} (hb : 0 < b) : ∃ g, 0 < g ∧ (frac t b).1 * g = t ∧ (frac t b).2 * g = b ∧ 0 < (frac t b).2 := by
  refine ⟨Int.gcd t b, gcd_pos' hb, Int.ediv_mul_cancel (Int.gcd_dvd_left t b), Int.ediv_mul_cancel (Int.gcd_dvd_right t b), quo_pos hb⟩
theorem frac_W {t b : Int} {k : Nat} (hb : 0 < b) (h1 : W k t) (h2 : W k b) : W k (frac t b).1 ∧ W k (frac t b).2 := ⟨h1.div, h2.div⟩
theorem WL.mono {k l : Nat} {a : Ln} (h : WL k a) (i : k ≤ l) : WL l a := ⟨h.t.mono i, h.b.mono i, h.u.mono i, h.d.mono i, h.pb, h.pd⟩
theorem ln_W {F : Fm} (hm : 0 < F.2.1) (w : WF4 300 F) : WL 700 (ln F) := by
  have h2 : W 700 (F.2.2.1 * F.2.1 - F.2.2.2 * F.1) := ((w.s.mul w.m).sub (w.n.mul w.r)).mono (by decide)
  have a := frac_W hm w.n w.m
  have b := frac_W hm h2 (w.m.mono (by decide))
  obtain ⟨_, _, _, _, p1⟩ := frac_mul (t := F.2.2.2) hm
  obtain ⟨_, _, _, _, p2⟩ := frac_mul (t := F.2.2.1 * F.2.1 - F.2.2.2 * F.1) hm
  exact ⟨a.1.mono (by decide), a.2.mono (by decide), b.1.mono (by decide), b.2.mono (by decide), p1, p2⟩
theorem ln_id : ln idF = ((1, 1), (0, 1)) := by decide
theorem sm_id {F : Fm} (hm : 0 < F.2.1) {z : Int} : (sm F idF z = true ↔ R4 F z z) ∧ (sm idF F z = true ↔ R4 F z z) := by
  obtain ⟨r, m, s, n⟩ := F
  simp only at hm
  have key : ((z - r) % m = 0 ∧ s + n * ((z - r) / m) = z) ↔ R4 (r, m, s, n) z z := by
    constructor
    · rintro ⟨h1, h2⟩
      obtain ⟨k, hk⟩ := Int.dvd_of_emod_eq_zero h1
      have e : (z - r) / m = k := by rw [hk]; exact Int.mul_ediv_cancel_left _ (by omega)
      rw [e] at h2
      exact ⟨k, by simp only; omega, by simp only; omega⟩
    · rintro ⟨k, h1, h2⟩
      simp only at h1 h2
      have hk : z - r = m * k := by omega
      refine ⟨by rw [hk]; exact Int.mul_emod_right _ _, ?_⟩
      rw [hk, Int.mul_ediv_cancel_left _ (by omega)]; omega
  have e1 : (z - 0) / 1 = z := by simp
  have e2 : (z - 0) % 1 = 0 := Int.emod_one _
  have e3 : (0 : Int) + 1 * ((z - 0) / 1) = z := by rw [e1]; omega
  unfold sm
  simp only [Bool.and_eq_true, decide_eq_true_eq, e2, e3, and_true, true_and]
  refine ⟨key, ?_⟩
  rw [← key]
  constructor
  · rintro ⟨h1, h2⟩; exact ⟨h1, h2.symm⟩
  · rintro ⟨h1, h2⟩; exact ⟨h1, h2.symm⟩
theorem cross_key {F : Fm} (hm : 0 < F.2.1) (y : Int) : (slp (ln F) (ln idF) * y = ris (ln F) (ln idF) ↔ (F.2.1 - F.2.2.2) * y = F.2.2.1 * F.2.1 - F.2.2.2 * F.1) ∧
    (slp (ln idF) (ln F) * y = ris (ln idF) (ln F) ↔ (F.2.1 - F.2.2.2) * y = F.2.2.1 * F.2.1 - F.2.2.2 * F.1) := by
  obtain ⟨r, m, s, n⟩ := F
  simp only at hm ⊢
  obtain ⟨g, g0, g1, g2, g3⟩ := frac_mul (t := n) hm
  obtain ⟨h, h0, h1, h2, h3⟩ := frac_mul (t := s * m - n * r) hm
  rw [ln_id]
  unfold slp ris ln
  simp only
  generalize (frac n m).1 = T at *
  generalize (frac n m).2 = B at *
  generalize (frac (s * m - n * r) m).1 = U at *
  generalize (frac (s * m - n * r) m).2 = V at *
  have hgh : g * h * m ≠ 0 := by
    have := Int.mul_pos (Int.mul_pos g0 h0) hm; omega
  have hgh' : g * h ≠ 0 := by
    have := Int.mul_pos g0 h0; omega
  generalize hd : s * m - n * r = d at *
  have a1 : (T * 1 - 1 * B) * (V * 1) * y * (g * h) = (n - m) * y * m := by
    have : (T * 1 - 1 * B) * (V * 1) * y * (g * h) = (T * g - B * g) * y * (V * h) := by
      rw [Int.mul_one, Int.one_mul, Int.mul_one, ← Int.sub_mul]
      ac_rfl
    rw [this, g1, g2, h2]
  have a2 : (0 * V - U * 1) * (B * 1) * (g * h) = -d * m := by
    have : (0 * V - U * 1) * (B * 1) * (g * h) = -(U * h) * (B * g) := by
      rw [Int.zero_mul, Int.mul_one, Int.mul_one, Int.zero_sub, ← Int.neg_mul]
      ac_rfl
    rw [this, h1, g2]
  have a3 : (1 * B - T * 1) * (1 * V) * y * (g * h) = (m - n) * y * m := by
    have : (1 * B - T * 1) * (1 * V) * y * (g * h) = (B * g - T * g) * y * (V * h) := by
      rw [Int.mul_one, Int.one_mul, Int.one_mul, ← Int.sub_mul]
      ac_rfl
    rw [this, g1, g2, h2]
  have a4 : (U * 1 - 0 * V) * (1 * B) * (g * h) = d * m := by
    have : (U * 1 - 0 * V) * (1 * B) * (g * h) = (U * h) * (B * g) := by
      rw [Int.zero_mul, Int.mul_one, Int.one_mul, Int.sub_zero]
      ac_rfl
    rw [this, h1, g2]
  have b1 : (n - m) * y * m = -((m - n) * y * m) := by rw [← Int.neg_mul, ← Int.neg_mul]; congr 2; omega
  have b2 : -d * m = -(d * m) := Int.neg_mul _ _
  have c : ∀ x y : Int, x = y ↔ x * (g * h) = y * (g * h) := fun x y => ⟨fun e => by rw [e], fun e => Int.eq_of_mul_eq_mul_right hgh' e⟩
  have c2 : ∀ x y : Int, x = y ↔ x * m = y * m := fun x y => ⟨fun e => by rw [e], fun e => Int.eq_of_mul_eq_mul_right (by omega) e⟩
  constructor
  · rw [c, a1, a2, c2 ((m - n) * y) d, b1, b2]
    omega
  · rw [c, a3, a4, c2 ((m - n) * y) d]
theorem fix_key {F : Fm} {y : Int} (h : R4 F y y) : (F.2.1 - F.2.2.2) * y = F.2.2.1 * F.2.1 - F.2.2.2 * F.1 := by
  obtain ⟨r, m, s, n⟩ := F
  obtain ⟨k, h1, h2⟩ := h
  simp only at h1 h2 ⊢
  have e1 : m * y = m * s + n * (m * k) := by
    rw [h2, Int.mul_add, ← Int.mul_assoc, ← Int.mul_assoc, Int.mul_comm m n]
  have e2 : n * y = n * r + n * (m * k) := by
    rw [h1, Int.mul_add]
  rw [Int.sub_mul, e1, e2, Int.mul_comm s m]; omega
theorem ln_ne {F : Fm} (hm : 0 < F.2.1) (hn : F.2.1 ≠ F.2.2.2) : (ln F).1.1 * (ln idF).1.2 - (ln idF).1.1 * (ln F).1.2 ≠ 0 ∧ (ln idF).1.1 * (ln F).1.2 - (ln F).1.1 * (ln idF).1.2 ≠ 0 ∧ ln F ≠ ln idF ∧ ln idF ≠ ln F := by
  obtain ⟨r, m, s, n⟩ := F
  simp only at hm hn
  obtain ⟨g, g0, g1, g2, g3⟩ := frac_mul (t := n) hm
  rw [ln_id]
  have h : (ln (r, m, s, n)).1.1 - (ln (r, m, s, n)).1.2 ≠ 0 := by
    show (frac n m).1 - (frac n m).2 ≠ 0
    intro z
    have : (frac n m).1 = (frac n m).2 := by omega
    rw [this, g2] at g1
    exact hn g1
  refine ⟨by simp only; omega, by simp only; omega, fun z => ?_, fun z => ?_⟩
  · rw [z] at h; exact h rfl
  · rw [← z] at h; exact h rfl
/-- by the crossing -/
def fx1 (F : Fm) : Option Int := (crs (ln F) (ln idF)).bind fun y => if sm F idF y = true then some y else none
def fx2 (F : Fm) : Option Int := (crs (ln idF) (ln F)).bind fun y => if sm idF F y = true then some y else none
theorem fx1_ok {F : Fm} (hm : 0 < F.2.1) (hn : F.2.1 ≠ F.2.2.2) : Fx F (fx1 F) := by
  unfold fx1
  have uniq : ∀ {y z : Int}, (F.2.1 - F.2.2.2) * y = (F.2.1 - F.2.2.2) * z → y = z := fun e => Int.eq_of_mul_eq_mul_left (by omega) e
  cases h : crs (ln F) (ln idF) with
  | none =>
    intro y hy
    exact crs_none h (ln_ne hm hn).1 y ((cross_key hm y).1.mpr (fix_key hy))
  | some y =>
    simp only [Option.bind_some]
    by_cases hs : sm F idF y = true
    · rw [if_pos hs]; exact (sm_id hm).1.mp hs
    · rw [if_neg hs]
      intro z hz
      have := uniq (((cross_key hm y).1.mp (crs_some h)).trans (fix_key hz).symm)
      subst this
      exact hs ((sm_id hm).1.mpr hz)
theorem fx2_ok {F : Fm} (hm : 0 < F.2.1) (hn : F.2.1 ≠ F.2.2.2) : Fx F (fx2 F) := by
  unfold fx2
  have uniq : ∀ {y z : Int}, (F.2.1 - F.2.2.2) * y = (F.2.1 - F.2.2.2) * z → y = z := fun e => Int.eq_of_mul_eq_mul_left (by omega) e
  cases h : crs (ln idF) (ln F) with
  | none =>
    intro y hy
    exact crs_none h (ln_ne hm hn).2.1 y ((cross_key hm y).2.mpr (fix_key hy))
  | some y =>
    simp only [Option.bind_some]
    by_cases hs : sm idF F y = true
    · rw [if_pos hs]; exact (sm_id hm).2.mp hs
    · rw [if_neg hs]
      intro z hz
      have := uniq (((cross_key hm y).2.mp (crs_some h)).trans (fix_key hz).symm)
      subst this
      exact hs ((sm_id hm).2.mpr hz)
/-- the law's own -/
def fl (F : Fm) : Option Int := if F.2.1 ≠ F.2.2.2 ∧ (F.2.2.1 - F.1).fmod (F.2.1 - F.2.2.2) = 0 then some (F.1 + F.2.1 * (F.2.2.1 - F.1).fdiv (F.2.1 - F.2.2.2)) else none
theorem fl_ok {F : Fm} (hm : 0 < F.2.1) (hn : F.2.1 ≠ F.2.2.2) : Fx F (fl F) := by
  obtain ⟨r, m, s, n⟩ := F
  simp only at hm hn
  unfold fl
  simp only
  have hx := Int.mul_fdiv_add_fmod (s - r) (m - n)
  by_cases h : m ≠ n ∧ (s - r).fmod (m - n) = 0
  · rw [if_pos h]
    rw [h.2, Int.sub_mul] at hx
    exact ⟨(s - r).fdiv (m - n), rfl, by simp only; omega⟩
  · rw [if_neg h]
    rintro y ⟨k, h1, h2⟩
    simp only at h1 h2
    apply h
    refine ⟨hn, ?_⟩
    have : s - r = (m - n) * k := by rw [Int.sub_mul]; omega
    rw [this]; exact Int.mul_fmod_right _ _
theorem fx1_eq {F : Fm} (hm : 0 < F.2.1) (hn : F.2.1 ≠ F.2.2.2) : fx1 F = fl F := fx_unique hn (fx1_ok hm hn) (fl_ok hm hn)
theorem fx2_eq {F : Fm} (hm : 0 < F.2.1) (hn : F.2.1 ≠ F.2.2.2) : fx2 F = fl F := fx_unique hn (fx2_ok hm hn) (fl_ok hm hn)
end Py
namespace Py
open PySem PySem.Spec L2 PyProof.Rows
theorem crs_W {a b : Ln} (ha : WL 700 a) (hb : WL 700 b) {y : Int} (h : crs a b = some y) : W 3500 y := by
  have e := crs_some h
  have wr : W 3500 (ris a b) := (((hb.u.mul ha.d).sub (ha.u.mul hb.d)).mul (ha.b.mul hb.b)).mono (by decide)
  unfold crs at h
  split at h
  · cases h
  · rename_i h0
    have hs : slp a b ≠ 0 := fun z => by
      unfold slp at z
      rcases Int.mul_eq_zero.mp z with z | z
      · exact h0 z
      · have := Int.mul_pos ha.pd hb.pd; omega
    refine wr.le ?_
    rw [← e, Int.natAbs_mul]
    exact Nat.le_mul_of_pos_left _ (by omega)
theorem run_meeting (F G : Fm) (hm : 0 < F.2.1) (hb : 0 < G.2.1) (wF : WF4 300 F) (wG : WF4 300 G) (hne : ln F ≠ ln G) (S : Sto) :
    m_meeting [f4 F, f4 G] S = .ok (oM ((crs (ln F) (ln G)).bind fun y => if sm F G y = true then some y else none)) S := by
  have hl := run_line_of F hm wF
  have hi := run_line_of G hb wG
  have hc := run_crossing (ln F) (ln G) ((ln_W hm wF).mono (by decide)) ((ln_W hb wG).mono (by decide))
  have hsm := fun z wz => run_single_meeting F G z hm hb wF wG wz
  have hq := eq_ln (ln F) (ln G)
  have cw := fun y => crs_W (ln_W hm wF) (ln_W hb wG) (y := y)
  generalize ln F = a at *
  generalize ln G = b at *
  generalize hF : f4 F = dF at *
  generalize hG : f4 G = dG at *
  have h1 : ∀ S, getIx dF (.int 1) S = .ok (.int F.2.1) S := fun S => by rw [← hF]; exact ix_1
  have h2 : ∀ S, getIx dG (.int 1) S = .ok (.int G.2.1) S := fun S => by rw [← hG]; exact ix_1
  have h3 : ¬ F.2.1 = 0 := by omega
  have h4 : ¬ G.2.1 = 0 := by omega
  rw [e_meeting]
  simp [fn_def, h1, h2, h3, h4, hl, hi, hq, hne, hc]
  cases h : crs a b with
  | none => simp [oI, oM]
  | some y => simp [oI, hsm y (cw y h)]
theorem run_fixed_number (F : Fm) (hm : 0 < F.2.1) (hn : F.2.1 ≠ F.2.2.2) (w : WF4 300 F) (S : Sto) : m_fixed_number [f4 F] S = .ok (oI (fl F)) S := by
  have h := fun S => (run_meeting F idF hm (by decide) w wid (ln_ne hm hn).2.2.1 S).trans (by rw [show ((crs (ln F) (ln idF)).bind fun y => if sm F idF y = true then some y else none) = fx1 F from rfl, fx1_eq hm hn])
  have h' : ∀ S, m_meeting [f4 F, .tup [.int 0, .int 1, .int 0, .int 1]] S = .ok (oM (fl F)) S := h
  generalize f4 F = dF at *
  rw [e_fixed_number]
  simp [fn_def, h']
  cases fl F with
  | none => simp [oM, oI]
  | some y => simp [oM, oI]
theorem run_meetingR (F : Fm) (hm : 0 < F.2.1) (hn : F.2.1 ≠ F.2.2.2) (w : WF4 300 F) (S : Sto) : m_meeting [f4 F, .tup [.int 0, .int 1, .int 0, .int 1]] S = .ok (oM (fl F)) S :=
  (run_meeting F idF hm (by decide) w wid (ln_ne hm hn).2.2.1 S).trans (by rw [show ((crs (ln F) (ln idF)).bind fun y => if sm F idF y = true then some y else none) = fx1 F from rfl, fx1_eq hm hn])
theorem run_meetingL (F : Fm) (hm : 0 < F.2.1) (hn : F.2.1 ≠ F.2.2.2) (w : WF4 300 F) (S : Sto) : m_meeting [.tup [.int 0, .int 1, .int 0, .int 1], f4 F] S = .ok (oM (fl F)) S :=
  (run_meeting idF F (by decide) hm wid w (ln_ne hm hn).2.2.2 S).trans (by rw [show ((crs (ln idF) (ln F)).bind fun y => if sm idF F y = true then some y else none) = fx2 F from rfl, fx2_eq hm hn])
/-- it is led to itself -/
theorem fl_W {F : Fm} (hm : 0 < F.2.1) (hn : F.2.1 ≠ F.2.2.2) (w : WF4 300 F) {x : Int} (h : fl F = some x) : W 3500 x := by
  rw [← fx1_eq hm hn] at h
  unfold fx1 at h
  cases hc : crs (ln F) (ln idF) with
  | none => rw [hc] at h; cases h
  | some y =>
    rw [hc] at h
    simp only [Option.bind_some] at h
    split at h
    · cases h; exact crs_W (ln_W hm w) (ln_W (F := idF) (by decide) wid) hc
    · cases h
theorem run_led (F : Fm) (hm : 0 < F.2.1) (w : WF4 300 F) {x : Int} (hx : R4 F x x) (wx : W 3500 x) (S : Sto) : m_led [f4 F, .int x] S = .ok (.int x) S := by
  obtain ⟨r, m, s, n⟩ := F
  obtain ⟨k, h1, h2⟩ := hx
  have hr := w.r; have hM := w.m; have hs := w.s; have hn := w.n
  simp only at hm hr hM hs hn h1 h2
  have hk : x - r = m * k := by omega
  have e1 : (x - r) % m = 0 := by rw [hk]; exact Int.mul_emod_right _ _
  have e2 : s + n * ((x - r) / m) = x := by rw [hk, Int.mul_ediv_cancel_left _ (by omega)]; omega
  show m_led [fD r m s n, .int x] S = _
  rw [e_led]
  simp [fn_def, cut2, run_in_lot r m x hm, e1, run_image r m s n x hm (hM.mono (by decide)) (hn.mono (by decide)) ((wx.sub hr).mono (by decide)), e2]
/-! undone -/
def un (F : Fm) : Fm := (F.2.2.1 % (F.2.2.2.natAbs : Int), F.2.2.2.natAbs, F.1 + (if F.2.2.2 < 0 then -1 else 1) * F.2.1 * ((F.2.2.1 % (F.2.2.2.natAbs : Int) - F.2.2.1) / (F.2.2.2.natAbs : Int)), (if F.2.2.2 < 0 then -1 else 1) * F.2.1)
theorem wm1 : W 2 (-1) := by unfold W; decide
theorem run_undone (F : Fm) (hm : 0 < F.2.1) (hn : F.2.2.2 ≠ 0) (w : WF4 300 F) (S : Sto) : m_undone [f4 F] S = .ok (f4 (un F)) S := by
  obtain ⟨r, m, s, n⟩ := F
  have hr := w.r; have hM := w.m; have hs := w.s; have hN := w.n
  simp only at hm hn hr hM hs hN
  have h1 : ¬ m = 0 := by omega
  have np : 0 < (n.natAbs : Int) := by omega
  have wn : W 300 (n.natAbs : Int) := hN.abs
  show m_undone [fD r m s n] S = _
  rw [e_undone]
  by_cases h : n < 0
  · have e : -1 * n = (n.natAbs : Int) := by omega
    have wd : W 600 ((s % (n.natAbs : Int) - s) / (n.natAbs : Int)) := ((wn.modP np).sub hs).div.mono (by decide)
    simp [fn_def, h1, h, op_mulW wm1 hN (by decide), op_mulW wm1 hM (by decide), e, op_modP np, op_divP np (wn.mono (by decide)), un, op_mulW hM.neg wd (by decide)]
  · have e : (n.natAbs : Int) = n := by omega
    have np' : 0 < n := by omega
    have wd : W 600 ((s % n - s) / n) := ((hN.modP np').sub hs).div.mono (by decide)
    simp [fn_def, h1, h, op_mulW w1 hN (by decide), op_mulW w1 hM (by decide), e, op_modP np', op_divP np' (hN.mono (by decide)), un, op_mulW hM wd (by decide)]
/-- the inverse relation -/
theorem un_rel {F : Fm} (hn : F.2.2.2 ≠ 0) (y z : Int) : R4 (un F) y z ↔ R4 F z y := by
  obtain ⟨r, m, s, n⟩ := F
  simp only at hn
  unfold un
  simp only
  generalize hN : (n.natAbs : Int) = N
  have np : 0 < N := by omega
  have hx := Int.mul_ediv_add_emod s N
  have e : (s % N - s) / N = -(s / N) := by
    have : s % N - s = N * -(s / N) := by rw [Int.mul_neg]; omega
    rw [this, Int.mul_ediv_cancel_left _ (by omega)]
  rw [e]
  by_cases h : n < 0
  · simp only [if_pos h]
    have hn' : n = -N := by omega
    constructor
    · rintro ⟨k, h1, h2⟩
      simp only at h1 h2
      refine ⟨-(k - s / N), ?_, ?_⟩
      · simp only
        simp only [h2, Int.mul_neg, Int.mul_sub, Int.neg_mul, Int.one_mul, Int.neg_neg]; omega
      · simp only
        simp only [h1, hn', Int.mul_neg, Int.mul_sub, Int.neg_mul, Int.one_mul, Int.neg_neg]; omega
    · rintro ⟨k, h1, h2⟩
      simp only at h1 h2
      refine ⟨s / N - k, ?_, ?_⟩
      · simp only
        simp only [h2, hn', Int.mul_neg, Int.mul_sub, Int.neg_mul, Int.one_mul, Int.neg_neg]; omega
      · simp only
        simp only [h1, Int.mul_neg, Int.mul_sub, Int.neg_mul, Int.one_mul, Int.neg_neg]; omega
  · simp only [if_neg h]
    have hn' : n = N := by omega
    constructor
    · rintro ⟨k, h1, h2⟩
      simp only at h1 h2
      refine ⟨k - s / N, ?_, ?_⟩
      · simp only
        simp only [h2, Int.mul_neg, Int.mul_sub, Int.neg_mul, Int.one_mul, Int.neg_neg]; omega
      · simp only
        simp only [h1, hn', Int.mul_neg, Int.mul_sub, Int.neg_mul, Int.one_mul, Int.neg_neg]; omega
    · rintro ⟨k, h1, h2⟩
      simp only at h1 h2
      refine ⟨k + s / N, ?_, ?_⟩
      · simp only
        simp only [h2, hn', Int.mul_add]; omega
      · simp only
        simp only [h1, Int.one_mul, Int.mul_neg, Int.mul_add]; omega
end Py
namespace Py
open PySem PySem.Spec L2 PyProof.Rows
theorem run__law_fixed (F : Fm) (w : WF4 300 F) (S : Sto) : m__law_fixed [f4 F] S = .ok (oI (fl F)) S := by
  obtain ⟨r, m, s, n⟩ := F
  have hr := w.r; have hM := w.m; have hs := w.s; have hN := w.n
  simp only at hr hM hs hN
  show m__law_fixed [fD r m s n] S = _
  rw [e__law_fixed]
  unfold fl
  simp only
  by_cases h : m = n
  · simp [fn_def, h, oI]
  · have hne : m - n ≠ 0 := by omega
    by_cases h2 : (s - r).fmod (m - n) = 0
    · have hx := Int.mul_fdiv_add_fmod (s - r) (m - n)
      have wq : W 301 ((s - r).fdiv (m - n)) := by
        refine ((hs.sub hr)).le ?_
        have e : s - r = (m - n) * (s - r).fdiv (m - n) := by omega
        have e2 : (s - r).natAbs = (m - n).natAbs * ((s - r).fdiv (m - n)).natAbs := by rw [← Int.natAbs_mul, ← e]
        rw [e2]; exact Nat.le_mul_of_pos_left _ (by omega)
      simp [fn_def, h, op_mod hne, h2, op_fdiv ((hM.sub hN).dv hne (by decide)), op_mulW hM wq (by decide), oI]
    · simp [fn_def, h, op_mod hne, h2, oI]
def mayB (F : Fm) : Bool := decide (F.2.1 ≤ 1000000 ∧ F.2.2.2.natAbs ≤ 1000000) && decide (F.1 ≤ 1000000000000 ∧ F.2.2.1.natAbs ≤ 1000000000000) && decide (F.2.2.2 % F.2.1 ≠ 0)
@[simp] theorem pow6 {S : Sto} : binop .Pow (.int 10) (.int 6) S = .ok (.int 1000000) S := op_pow ⟨by decide, by decide, by decide⟩
@[simp] theorem pow12 {S : Sto} : binop .Pow (.int 10) (.int 12) S = .ok (.int 1000000000000) S := op_pow ⟨by decide, by decide, by decide⟩
@[simp] theorem pow5 {S : Sto} : binop .Pow (.int 10) (.int 5) S = .ok (.int 100000) S := op_pow ⟨by decide, by decide, by decide⟩
@[simp] theorem pow9 {S : Sto} : binop .Pow (.int 10) (.int 9) S = .ok (.int 1000000000) S := op_pow ⟨by decide, by decide, by decide⟩
@[simp] theorem pow11 {S : Sto} : binop .Pow (.int 10) (.int 11) S = .ok (.int 100000000000) S := op_pow ⟨by decide, by decide, by decide⟩
theorem run__law_may (F : Fm) (hm : 0 < F.2.1) (S : Sto) : m__law_may [f4 F] S = .ok (.bl (mayB F)) S := by
  obtain ⟨r, m, s, n⟩ := F
  simp only at hm
  show m__law_may [fD r m s n] S = _
  rw [e__law_may]
  unfold mayB
  simp only
  have e1 : ((if (n.natAbs : Int) > m then (n.natAbs : Int) else m) ≤ 1000000) ↔ (m ≤ 1000000 ∧ n.natAbs ≤ 1000000) := by split <;> omega
  have e2 : ((if (s.natAbs : Int) > r then (s.natAbs : Int) else r) ≤ 1000000000000) ↔ (r ≤ 1000000000000 ∧ s.natAbs ≤ 1000000000000) := by split <;> omega
  simp only [← e1, ← e2]
  by_cases h1 : (if (n.natAbs : Int) > m then (n.natAbs : Int) else m) ≤ 1000000
  · by_cases h2 : (if (s.natAbs : Int) > r then (s.natAbs : Int) else r) ≤ 1000000000000
    · simp [fn_def, h1, h2, op_modP hm]
    · simp [fn_def, h1, h2, op_modP hm]
  · simp [fn_def, h1]
theorem run__law_may0 (S : Sto) : m__law_may [.non] S = .ok (.bl false) S := by
  rw [e__law_may]
  simp [fn_def]
end Py
namespace Py
open PySem PySem.Spec L2 PyProof.Rows
theorem run__law_line (F : Fm) (hm : 0 < F.2.1) (w : WF4 300 F) (S : Sto) : ∃ X, m__law_line [f4 F] S = .ok (lD (ln F)) (S ++ X) := by
  obtain ⟨r, m, s, n⟩ := F
  have hr := w.r; have hM := w.m; have hs := w.s; have hN := w.n
  simp only at hm hr hM hs hN
  have turn : ∀ (top : Int) (ys : List D) (o2 o7 : Option D), ys.length < 3 → b__law_line_1 [some (fD r m s n), some (.ref S.length), some (.int top), some (.int r), some (.int m), some (.int s), some (.int n), o7] (S ++ [.lst ys]) =
      .nx [some (fD r m s n), some (.ref S.length), some (.int top), some (.int r), some (.int m), some (.int s), some (.int n), some (.int (Int.gcd top m))] (S ++ [.lst (ys ++ [p2 (frac top m)])]) := by
    intro top ys o2 o7 hy
    have g0 := gcd_pos' (f := top) hm
    have wg : W 300 (Int.gcd top m : Int) := hM.of_le (by omega) (gcd_le' hm)
    have ha := mth_append (x := p2 (frac top m)) (get_end (S := S) (o := .lst ys)) (Nat.lt_trans hy (by decide))
    rw [set_end] at ha
    unfold b__law_line_1
    simp [run__law_gcd, op_divP g0 (wg.mono (by decide)), rcv_lst get_end]
    rw [show D.tup [D.int (top / (Int.gcd top m : Int)), D.int (m / (Int.gcd top m : Int))] = p2 (frac top m) from rfl, ha]
    simp
  show ∃ X, m__law_line [fD r m s n] S = _
  rw [e__law_line]
  refine ⟨[.lst [p2 (frac n m), p2 (frac (s * m - n * r) m)]], ?_⟩
  have it : itI (tupE (consA (vE 6) (consA (bE .Sub (bE .Mult (vE 5) (vE 4)) (bE .Mult (vE 6) (vE 3))) nilA))) [some (fD r m s n), some (.ref S.length), none, some (.int r), some (.int m), some (.int s), some (.int n), none] (S ++ [.lst []]) =
      .ok ⟨[.int n, .int (s * m - n * r)], []⟩ (S ++ [.lst []]) := by
    simp [op_mulW hs hM (by decide), op_mulW hN hr (by decide)]
  have loop : forS (itI (tupE (consA (vE 6) (consA (bE .Sub (bE .Mult (vE 5) (vE 4)) (bE .Mult (vE 6) (vE 3))) nilA)))) (.nm 2) b__law_line_1 [some (fD r m s n), some (.ref S.length), none, some (.int r), some (.int m), some (.int s), some (.int n), none] (S ++ [.lst []]) =
      .nx [some (fD r m s n), some (.ref S.length), some (.int (s * m - n * r)), some (.int r), some (.int m), some (.int s), some (.int n), some (.int (Int.gcd (s * m - n * r) m))] (S ++ [.lst [p2 (frac n m), p2 (frac (s * m - n * r) m)]]) := by
    rw [forS_of it]
    simp only
    rw [forG_nx guard_nil bindT_nm (turn n [] none none (by decide)), forG_nx guard_nil bindT_nm (turn (s * m - n * r) _ none _ (by simp)), forG_end guard_nil]
    rfl
  simp [fn_def]
  rw [loop]
  simp [bi_tuple_lst get_end, lD, ln]
/-! _law_same of a datum and itself -/
def PD : Nat → D → Prop
  | 0, _ => False
  | _ + 1, .int _ => True
  | _ + 1, .non => True
  | n + 1, .tup xs => xs.length ≤ 1000 ∧ ∀ x ∈ xs, PD n x
  | _ + 1, _ => False
theorem run__law_same : ∀ (n : Nat) (d : D), PD n d → ∀ S : Sto, r__law_same n [d, d] S = .ok (.bl true) S
  | 0, d, h, S => h.elim
  | n + 1, .int i, h, S => by
    rw [e__law_same]
    simp [fn_def]
  | n + 1, .non, h, S => by
    rw [e__law_same]
    simp [fn_def]
  | n + 1, .bl _, h, S => h.elim
  | n + 1, .str _, h, S => h.elim
  | n + 1, .ref _, h, S => h.elim
  | n + 1, .tup xs, h, S => by
    obtain ⟨hl, hx⟩ := h
    have ih := fun x hx' => run__law_same n x (hx x hx')
    have it : rgI (consA (biE "len" (consA (vE 1) nilA)) nilA) [some (.tup xs), some (.tup xs), none] S = .ok ⟨rangeL 0 xs.length, []⟩ S := by
      have := rgI_1 (r := consA (biE "len" (consA (vE 1) nilA)) nilA) (e := [some (.tup xs), some (.tup xs), none]) (S := S) (S1 := S) (j := xs.length) (by simp) (by omega) (Int.lt_of_le_of_lt (show (xs.length : Int) ≤ 1000 by omega) big62)
      rw [this]; simp
    have loop : ∀ (k : Nat) (ys : List D), ys = (List.range' k (xs.length - k)).map (fun (i : Nat) => D.int (0 + i)) → lcL (.nm 2) (q__law_same_1 n) (y__law_same_2 n) [some (.tup xs), some (.tup xs), none] [] ys [] S = .ok [] S := by
      intro k ys hy
      have : ∀ (c k : Nat), k + c ≤ xs.length → lcL (.nm 2) (q__law_same_1 n) (y__law_same_2 n) [some (.tup xs), some (.tup xs), none] [] ((List.range' k c).map (fun (i : Nat) => D.int (0 + i))) [] S = .ok [] S := by
        intro c
        induction c with
        | zero => intro k _; simp only [List.range'_zero, List.map_nil]; exact lcL_end guard_nil
        | succ c ihc =>
          intro k hk
          rw [List.range'_succ, List.map_cons]
          have hkl : k < xs.length := by omega
          have hget : xs[k]? = some xs[k] := by simp [hkl]
          have hix : ∀ S, getIx (.tup xs) (.int (0 + (k : Int))) S = .ok xs[k] S := fun S => ix_tup (by rw [Int.zero_add, atI_nat]; exact hget)
          rw [lcL_skip guard_nil bindT_nm (S1 := S)]
          · exact ihc (k + 1) (by omega)
          · have e2 : [some (D.tup xs), some (D.tup xs), none].set 2 (some (D.int (0 + (k : Int)))) = [some (D.tup xs), some (D.tup xs), some (D.int (0 + (k : Int)))] := rfl
            rw [e2]
            unfold q__law_same_1
            simp only [notT_eq, trT_eq, caE_eq, consA_eq, ixE_eq, vE_0, vE_1, vE_s, R.bind_ok, hix, nilA_eq]
            rw [ih _ (List.getElem_mem hkl), gc_same rfl]
            simp
      subst hy
      by_cases hk : k ≤ xs.length
      · exact this _ _ (by omega)
      · have : xs.length - k = 0 := by omega
        rw [this]; simp only [List.range'_zero, List.map_nil]; exact lcL_end guard_nil
    have lc : lcE (rgI (consA (biE "len" (consA (vE 1) nilA)) nilA)) (.nm 2) (q__law_same_1 n) (y__law_same_2 n) [2] [some (.tup xs), some (.tup xs), none] S = .ok (.ref S.length) (S ++ [.lst []]) := by
      refine lcE_of it ?_
      have e : rangeL 0 xs.length = (List.range' 0 (xs.length - 0)).map (fun (i : Nat) => D.int (0 + i)) := by
        unfold rangeL; rw [List.range_eq_range']; simp
      exact loop 0 _ e
    rw [e__law_same]
    simp [fn_def, lc, bi_len_lst get_end]
end Py
namespace Py
open PySem PySem.Spec L2 PyProof.Rows
/-! the quarry -/
theorem lookK_put {k : Key} {v : D} {kvs : List (Key × D)} : lookK k (putKD k v kvs) = some v := by
  unfold putKD
  split
  · rename_i h
    unfold lookK
    induction kvs with
    | nil => simp at h
    | cons p kvs ih =>
      by_cases hp : p.1 = k
      · simp [hp]
      · have h' : (kvs.any fun kv => decide (kv.1 = k)) = true := by simpa [hp] using h
        have e : (if p.1 = k then (p.1, v) else p) = p := if_neg hp
        have e2 : decide (p.1 = k) = false := by simpa using hp
        simp only [List.map_cons, e, List.find?_cons, e2]
        exact ih h'
  · rename_i h
    unfold lookK
    have : kvs.find? (fun kv => decide (kv.1 = k)) = none := by
      rw [List.find?_eq_none]
      intro x hx hk
      exact h (List.any_eq_true.mpr ⟨x, hx, hk⟩)
    rw [List.find?_append, this]
    simp
theorem putKD_mem {k : Key} {v : D} {kvs : List (Key × D)} {p : Key × D} (h : p ∈ putKD k v kvs) : p.2 = v ∨ p ∈ kvs := by
  unfold putKD at h
  split at h
  · obtain ⟨x, hx, e⟩ := List.mem_map.mp h
    split at e
    · rw [← e]; exact .inl rfl
    · rw [← e]; exact .inr hx
  · rcases List.mem_append.mp h with h | h
    · exact .inr h
    · simp at h; rw [h]; exact .inl rfl
theorem putKD_len {k : Key} {v : D} {kvs : List (Key × D)} : (putKD k v kvs).length ≤ kvs.length + 1 := by
  unfold putKD
  split
  · simp
  · simp
theorem lookK_mem {k : Key} {v : D} {kvs : List (Key × D)} (h : lookK k kvs = some v) : ∃ p ∈ kvs, p.2 = v := by
  unfold lookK at h
  cases hf : kvs.find? fun kv => decide (kv.1 = k) with
  | none => rw [hf] at h; cases h
  | some p =>
    rw [hf] at h
    simp only [Option.map_some, Option.some.injEq] at h
    exact ⟨p, List.mem_of_find?_eq_some hf, h⟩
structure Qy (C : Nat) (S : Sto) (q dq : Nat) : Prop where
  ne : q ≠ dq
  st : ∃ (a b c : Int) (kvs : List (Key × D)), S[q]? = some (.lst [.int a, .int b, .int c, .ref dq]) ∧ S[dq]? = some (.dK kvs) ∧ 0 ≤ a ∧ W 100000 a ∧ 0 ≤ b ∧ b < 2147470379 ∧ 0 ≤ c ∧ c ≤ C ∧ kvs.length ≤ C ∧
    ∀ p ∈ kvs, ∃ h t : Int, p.2 = .tup [.int h, .int t] ∧ 0 ≤ h
theorem Qy.mono {C C' : Nat} {S : Sto} {q dq : Nat} (h : Qy C S q dq) (l : C ≤ C') : Qy C' S q dq := by
  obtain ⟨ne, a, b, c, kvs, r⟩ := h
  obtain ⟨r1, r2, r3, r4, r5, r6, r7, r8, r9, r10⟩ := r
  exact ⟨ne, a, b, c, kvs, r1, r2, r3, r4, r5, r6, r7, by omega, by omega, r10⟩
/-- from S to S': only the quarry moves -/
structure Qs (C : Nat) (S S' : Sto) (q dq : Nat) : Prop where
  y : Qy C S' q dq
  len : S'.length = S.length
  fr : ∀ i, i ≠ q → i ≠ dq → S'[i]? = S[i]?
theorem Qs.trans {C C' : Nat} {S S' S'' : Sto} {q dq : Nat} (h : Qs C S S' q dq) (h' : Qs C' S' S'' q dq) : Qs C' S S'' q dq := ⟨h'.y, h'.len.trans h.len, fun i a b => (h'.fr i a b).trans (h.fr i a b)⟩
theorem setIx_lst {S : Sto} {r : Nat} {xs : List D} {k : Nat} {v : D} (h : S[r]? = some (.lst xs)) (hk : k < xs.length) : setIx (.ref r) (.int (k : Int)) v S = some (S.set r (.lst (xs.set k v))) := by
  unfold setIx; simp only [h, ixN_nat, if_pos hk]
theorem setIx_dk {S : Sto} {r : Nat} {kvs : List (Key × D)} {z : Str} {v : D} (h : S[r]? = some (.dK kvs)) (hl : kvs.length < sizeLine) : setIx (.ref r) (.str z) v S = some (S.set r (.dK (putKD (.inr z) v kvs))) := by
  unfold setIx; simp only [h, keyOf]; exact if_pos hl
theorem ix_dk {S : Sto} {r : Nat} {kvs : List (Key × D)} {z : Str} {v : D} (h : S[r]? = some (.dK kvs)) (hl : lookK (.inr z) kvs = some v) : getIx (.ref r) (.str z) S = .ok v S := by
  unfold getIx; simp only [h, keyOf, hl]
theorem notin_dk {S : Sto} {r : Nat} {kvs : List (Key × D)} {z : Str} (h : S[r]? = some (.dK kvs)) : cmpop .NotIn (.str z) (.ref r) S = .ok (.bl (!(lookK (.inr z) kvs).isSome)) S := by
  unfold cmpop; simp only [h, keyOf]
@[simp] theorem putS_eq {o i v : M D} {e : En} {S : Sto} : putS o i v e S = (v e S).st e fun x S1 => (o e S1).st e fun y S2 => (i e S2).st e fun z S3 => match setIx y z x S3 with
  | some S4 => .nx e S4
  | none => .no := rfl
theorem run_wedge {C : Nat} {S : Sto} {q dq : Nat} (h : Qy C S q dq) (hC : C ≤ 100000) (place : Str) (many : Int) (hm : 0 < many) (hW : W 200 many) :
    ∃ k S', m__law_wedge [.ref q, .str place, .int many] S = .ok (.int k) S' ∧ 0 ≤ k ∧ k < many ∧ Qs (C + 1) S S' q dq := by
  obtain ⟨ne, a, b, c, kvs, h1, h2, h3, h4, h5, h6, h7, h8, h9, h10⟩ := h
  have lq : q < S.length := (List.getElem?_eq_some_iff.mp h1).1
  have ld : dq < S.length := (List.getElem?_eq_some_iff.mp h2).1
  have i0 : getIx (.ref q) (.int 0) S = .ok (.int a) S := ix_lst h1 (atI_nat (k := 0))
  rw [e__law_wedge]
  by_cases ha : many ≤ a
  · refine ⟨a % many, S.set q (.lst [.int (a / many), .int b, .int c, .ref dq]), ?_, Int.emod_nonneg _ (by omega), Int.emod_lt_of_pos _ hm, ?_, ?_, ?_⟩
    · have hs : setIx (.ref q) (.int 0) (.int (a / many)) S = some (S.set q (.lst [.int (a / many), .int b, .int c, .ref dq])) := setIx_lst (k := 0) h1 (by simp)
      simp [fn_def, i0, ha, op_modP hm, op_divP hm (hW.mono (by decide)), hs]
    · refine ⟨ne, a / many, b, c, kvs, by simp [lq], by rw [List.getElem?_set_ne ne]; exact h2, Int.ediv_nonneg h3 (by omega), h4.div, h5, h6, h7, by omega, by omega, h10⟩
    · simp
    · intro i hi _; rw [List.getElem?_set_ne (Ne.symm hi)]
  · generalize hb' : (b * 101 + (c + 1) * 90944 + 29) % 2147470379 = b'
    have b0 : 0 ≤ b' := by rw [← hb']; exact Int.emod_nonneg _ (by decide)
    have b1 : b' < 2147470379 := by rw [← hb']; exact Int.emod_lt_of_pos _ (by decide)
    have gq : ∀ x : Ob, (S.set q x)[q]? = some x := fun x => by simp [lq]
    have gd : ∀ x : Ob, (S.set q x)[dq]? = some (.dK kvs) := fun x => by rw [List.getElem?_set_ne ne]; exact h2
    have w577 : W 8000 577 := by refine W.mono (n := 10) ?_ (by decide); unfold W; decide
    have w431 : W 8000 431 := by refine W.mono (n := 10) ?_ (by decide); unfold W; decide
    have w7 : W 8000 7 := by refine W.mono (n := 10) ?_ (by decide); unfold W; decide
    have i2 : getIx (.ref q) (.int 2) S = .ok (.int c) S := ix_lst h1 (atI_nat (k := 2))
    have s2 : setIx (.ref q) (.int 2) (.int (c + 1)) S = some (S.set q (.lst [.int a, .int b, .int (c + 1), .ref dq])) := setIx_lst (k := 2) h1 (by simp)
    have j1 : getIx (.ref q) (.int 1) (S.set q (.lst [.int a, .int b, .int (c + 1), .ref dq])) = .ok (.int b) (S.set q (.lst [.int a, .int b, .int (c + 1), .ref dq])) := ix_lst (gq _) (atI_nat (k := 1))
    have j2 : getIx (.ref q) (.int 2) (S.set q (.lst [.int a, .int b, .int (c + 1), .ref dq])) = .ok (.int (c + 1)) (S.set q (.lst [.int a, .int b, .int (c + 1), .ref dq])) := ix_lst (gq _) (atI_nat (k := 2))
    have s1 : setIx (.ref q) (.int 1) (.int b') (S.set q (.lst [.int a, .int b, .int (c + 1), .ref dq])) = some (S.set q (.lst [.int a, .int b', .int (c + 1), .ref dq])) := by
      have := setIx_lst (k := 1) (v := .int b') (gq (.lst [.int a, .int b, .int (c + 1), .ref dq])) (by simp)
      rw [List.set_set] at this
      exact this
    have k1 : getIx (.ref q) (.int 1) (S.set q (.lst [.int a, .int b', .int (c + 1), .ref dq])) = .ok (.int b') (S.set q (.lst [.int a, .int b', .int (c + 1), .ref dq])) := ix_lst (gq _) (atI_nat (k := 1))
    have k3 : getIx (.ref q) (.int 3) (S.set q (.lst [.int a, .int b', .int (c + 1), .ref dq])) = .ok (.ref dq) (S.set q (.lst [.int a, .int b', .int (c + 1), .ref dq])) := ix_lst (gq _) (atI_nat (k := 3))
    have m1 : mulOk b 101 := mulOk_small' (by decide) (by decide)
    have m2 : mulOk (c + 1) 90944 := mulOk_small' (by decide) (by decide)
    have hkl : kvs.length < sizeLine := by have : 200000 ≤ sizeLine := by decide
                                           omega
    have ret : ∀ (S' : Sto) (hh tt : Int), 0 ≤ hh → ∃ k, retS (ifE (ktT (kE .Lt (vE 4) (cE (.int 3)))) (ixE (tupE (consA (cE (.int 0)) (consA (bE .Sub (vE 2) (cE (.int 1))) (consA (bE .Mod (biE "int" (consA (vE 5) nilA)) (vE 2)) nilA)))) (vE 4)) (bE .Mod (biE "int" (consA (vE 3) nilA)) (vE 2)))
        [some (.ref q), some (.str place), some (.int many), some (.int (b' / 577)), some (.int hh), some (.int tt)] S' = .ret (.int k) S' ∧ 0 ≤ k ∧ k < many := by
      intro S' hh tt h0
      have e1 := Int.emod_nonneg tt (show many ≠ 0 by omega)
      have e2 := Int.emod_lt_of_pos tt hm
      have e3 := Int.emod_nonneg (b' / 577) (show many ≠ 0 by omega)
      have e4 := Int.emod_lt_of_pos (b' / 577) hm
      by_cases h3 : hh < 3
      · have : hh = 0 ∨ hh = 1 ∨ hh = 2 := by omega
        rcases this with rfl | rfl | rfl
        · exact ⟨0, by simp [op_modP hm], by omega, by omega⟩
        · exact ⟨many - 1, by simp [op_modP hm], by omega, by omega⟩
        · exact ⟨tt % many, by simp [op_modP hm], e1, e2⟩
      · exact ⟨b' / 577 % many, by simp [op_modP hm, h3], e3, e4⟩
    cases hk : lookK (.inr place) kvs with
    | some v =>
      obtain ⟨p, hp, hv⟩ := lookK_mem hk
      obtain ⟨hh, tt, hv2, h0⟩ := h10 p hp
      obtain ⟨k, er, k0, k4⟩ := ret (S.set q (.lst [.int a, .int b', .int (c + 1), .ref dq])) hh tt h0
      have n1 := notin_dk (z := place) (gd (.lst [.int a, .int b', .int (c + 1), .ref dq]))
      have d1 := ix_dk (gd (.lst [.int a, .int b', .int (c + 1), .ref dq])) (hk.trans (by rw [← hv, hv2]))
      refine ⟨k, _, ?_, k0, k4, ⟨⟨ne, a, b', c + 1, kvs, gq (.lst [.int a, .int b', .int (c + 1), .ref dq]), gd _, h3, h4, b0, b1, by omega, by omega, by omega, h10⟩, by simp, fun i hi _ => List.getElem?_set_ne (Ne.symm hi)⟩⟩
      rw [hk] at n1
      simp [fn_def, i0, ha, i2, s2, j1, j2, op_mul m1, op_mul m2, op_modP (show (0 : Int) < 2147470379 by decide), hb', s1, k1, op_divP (show (0 : Int) < 577 by decide) w577, k3, n1, d1, -retS_eq, er]
    | none =>
      obtain ⟨k, er, k0, k4⟩ := ret ((S.set q (.lst [.int a, .int b', .int (c + 1), .ref dq])).set dq (.dK (putKD (.inr place) (.tup [.int (b' / 577 / 431 % 19), .int (b' / 577 / 7)]) kvs))) (b' / 577 / 431 % 19) (b' / 577 / 7) (Int.emod_nonneg _ (by decide))
      have n1 := notin_dk (z := place) (gd (.lst [.int a, .int b', .int (c + 1), .ref dq]))
      have p1 := setIx_dk (z := place) (v := .tup [.int (b' / 577 / 431 % 19), .int (b' / 577 / 7)]) (gd (.lst [.int a, .int b', .int (c + 1), .ref dq])) hkl
      have ld2 : dq < (S.set q (.lst [.int a, .int b', .int (c + 1), .ref dq])).length := by simpa using ld
      have gd2 : ((S.set q (.lst [.int a, .int b', .int (c + 1), .ref dq])).set dq (.dK (putKD (.inr place) (.tup [.int (b' / 577 / 431 % 19), .int (b' / 577 / 7)]) kvs)))[dq]? = some (.dK (putKD (.inr place) (.tup [.int (b' / 577 / 431 % 19), .int (b' / 577 / 7)]) kvs)) := List.getElem?_set_self ld2
      have gq2 : ((S.set q (.lst [.int a, .int b', .int (c + 1), .ref dq])).set dq (.dK (putKD (.inr place) (.tup [.int (b' / 577 / 431 % 19), .int (b' / 577 / 7)]) kvs)))[q]? = some (.lst [.int a, .int b', .int (c + 1), .ref dq]) := by
        rw [List.getElem?_set_ne (Ne.symm ne)]; exact gq _
      have k3' := ix_lst (xs := [.int a, .int b', .int (c + 1), .ref dq]) (i := 3) gq2 (atI_nat (k := 3))
      have d1 := ix_dk (z := place) gd2 lookK_put
      refine ⟨k, _, ?_, k0, k4, ⟨⟨ne, a, b', c + 1, _, gq2, gd2, h3, h4, b0, b1, by omega, by omega, ?_, ?_⟩, by simp, fun i hi hj => by rw [List.getElem?_set_ne (Ne.symm hj), List.getElem?_set_ne (Ne.symm hi)]⟩⟩
      · rw [hk] at n1
        simp [fn_def, i0, ha, i2, s2, j1, j2, op_mul m1, op_mul m2, op_modP (show (0 : Int) < 2147470379 by decide), hb', s1, k1, op_divP (show (0 : Int) < 577 by decide) w577, k3, n1, op_divP (show (0 : Int) < 431 by decide) w431, op_divP (show (0 : Int) < 7 by decide) w7, op_modP (show (0 : Int) < 19 by decide), p1, k3', d1, -retS_eq, er]
      · have := putKD_len (k := Sum.inr place) (v := .tup [.int (b' / 577 / 431 % 19), .int (b' / 577 / 7)]) (kvs := kvs)
        omega
      · intro p hp
        rcases putKD_mem hp with e | e
        · exact ⟨_, _, e, Int.emod_nonneg _ (by decide)⟩
        · exact h10 p e
end Py
namespace Py
open PySem PySem.Spec L2 PyProof.Rows
theorem gc_len {S S' : Sto} {d : D} (h : S'.length = S.length) : gc S (.ok d S') = .ok d S' := gc_same h
theorem run_of {C : Nat} {S : Sto} {q dq : Nat} (h : Qy C S q dq) (hC : C ≤ 100000) (place : Str) (xs : List D) (hx : xs ≠ []) (hl : xs.length ≤ 1000) :
    ∃ x S', m__law_of [.ref q, .str place, .tup xs] S = .ok x S' ∧ x ∈ xs ∧ Qs (C + 1) S S' q dq := by
  have hp : 0 < xs.length := List.length_pos_iff.mpr hx
  have wl : W 200 (xs.length : Int) := by
    refine W.mono (n := 10) ?_ (by decide)
    unfold W
    simp
    omega
  obtain ⟨k, S', e, k0, k1, Q⟩ := run_wedge h hC place (xs.length : Int) (by omega) wl
  obtain ⟨n, rfl⟩ : ∃ n : Nat, k = (n : Int) := ⟨k.toNat, by omega⟩
  have hn : n < xs.length := by omega
  refine ⟨xs[n], S', ?_, List.getElem_mem hn, Q⟩
  have hi : ∀ S, getIx (.tup xs) (.int (n : Int)) S = .ok xs[n] S := fun S => ix_tup (by rw [atI_nat]; simp [hn])
  rw [e__law_of]
  simp [fn_def, e, gc_len Q.len, hi]
theorem run_wide {C : Nat} {S : Sto} {q dq : Nat} (h : Qy C S q dq) (hC : C ≤ 100000) (place : Str) (g : Int) (h0 : 0 ≤ g) (hg : W 100 g) :
    ∃ k S', m__law_wide [.ref q, .str place, .int g] S = .ok (.int k) S' ∧ -g ≤ k ∧ k ≤ g ∧ Qs (C + 1) S S' q dq := by
  have w2 : W 2 2 := by unfold W; decide
  obtain ⟨k, S', e, k0, k1, Q⟩ := run_wedge h hC place (2 * g + 1) (by omega) (((w2.mul hg).add w1).mono (by decide))
  refine ⟨k - g, S', ?_, by omega, by omega, Q⟩
  rw [e__law_wide]
  simp [fn_def, op_mulW w2 hg (by decide), e, gc_len Q.len]
structure Good (F : Fm) : Prop where
  m : 0 < F.2.1
  r0 : 0 ≤ F.1
  rm : F.1 < F.2.1
  n : F.2.2.2 % F.2.1 ≠ 0
  w : WF4 60 F
theorem W_of {i : Int} {k : Nat} (b : Int) (h : i.natAbs ≤ b.natAbs) (hb : W k b) : W k i := hb.le h
theorem w1e12 : W 40 1000000000000 := by unfold W; decide
theorem w1e6 : W 20 1000000 := by unfold W; decide
theorem w1e11 : W 37 100000000000 := by unfold W; decide
end Py
namespace Py
open PySem PySem.Spec L2 PyProof.Rows
theorem form_9 (q : Nat) (o1 o4 o7 : Option D) (r m s n : Int) (S : Sto) : ∃ s' : Int, (s__law_form_9 [some (.ref q), o1, some (.int m), some (.int n), o4, some (.int r), some (.int s), o7] S).fin = .ok (f4 (r, m, s', n)) S ∧ W 60 s' := by
  unfold s__law_form_9
  by_cases h : (s.natAbs : Int) ≤ 1000000000000
  · exact ⟨s, by simp [h], (W_of _ (by omega) w1e12).mono (by decide)⟩
  · refine ⟨s % 1000000, by simp [h, op_modP (show (0 : Int) < 1000000 by decide)], ?_⟩
    have h1 := Int.emod_nonneg s (show (1000000 : Int) ≠ 0 by decide)
    have h2 := Int.emod_lt_of_pos s (show (0 : Int) < 1000000 by decide)
    exact (W_of _ (by omega) w1e6).mono (by decide)
theorem form_4 {C : Nat} {S : Sto} {q dq : Nat} (h : Qy C S q dq) (hC : C ≤ 90000) (o1 : Option D) (m n : Int) (hm : 0 < m) (hM : m ≤ 1000000) (hN : n.natAbs ≤ 1000000) (hn : n % m ≠ 0) :
    ∃ F S', (s__law_form_4 [some (.ref q), o1, some (.int m), some (.int n), none, none, none, none] S).fin = .ok (f4 F) S' ∧ Good F ∧ Qs (C + 10) S S' q dq := by
  have wm : W 20 m := W_of _ (by omega) w1e6
  have wn : W 20 n := W_of _ (by omega) w1e6
  obtain ⟨xw, S1, e1, x1, Q1⟩ := run_of h (by omega) "x wide" [.int 5, .int 1000000, .int 100000000000] (by simp) (by simp)
  obtain ⟨xi, rfl, xi0, xiW⟩ : ∃ i : Int, xw = .int i ∧ 0 ≤ i ∧ i ≤ 100000000000 := by
    simp at x1
    rcases x1 with rfl | rfl | rfl
    · exact ⟨_, rfl, by decide, by decide⟩
    · exact ⟨_, rfl, by decide, by decide⟩
    · exact ⟨_, rfl, by decide, by decide⟩
  obtain ⟨x, S2, e2, x2, x3, Q2⟩ := run_wide Q1.y (by omega) "x" xi xi0 ((W_of _ (by omega) w1e11).mono (by decide))
  have wx : W 40 x := (W_of _ (by omega) w1e11).mono (by decide)
  have r0 := Int.emod_nonneg x (show m ≠ 0 by omega)
  have r1 := Int.emod_lt_of_pos x hm
  have wr : W 20 (x % m) := wm.modP hm
  have wd : W 42 ((x - x % m) / m) := (wx.sub wr).div.mono (by decide)
  generalize hs : x - n * ((x - x % m) / m) = s
  have ws : W 70 s := by rw [← hs]; exact (wx.sub (wn.mul wd)).mono (by decide)
  obtain ⟨k, S3, e3, k0, k1, Q3⟩ := run_wedge Q2.y (by omega) "form way" 4 (by decide) (by refine W.mono (n := 3) ?_ (by decide); unfold W; decide)
  have Q123 := (Q1.trans Q2).trans Q3
  have head : ∀ z : R D, (s__law_form_8 [some (.ref q), o1, some (.int m), some (.int n), some (.int x), some (.int (x % m)), some (.int s), some (.int k)] S3).fin = z →
      (s__law_form_4 [some (.ref q), o1, some (.int m), some (.int n), none, none, none, none] S).fin = z := by
    intro z hz
    simp [s__law_form_4, s__law_form_5, s__law_form_6, s__law_form_7, e1, gc_len Q1.len, e2, gc_len ((Q1.trans Q2).len), op_modP hm, op_divP hm (wm.mono (by decide)), op_mulW wn wd (by decide), hs, e3, gc_len Q3.len, gc_len Q2.len]
    exact hz
  have done : ∀ (s' : Int) (o4 o7 : Option D) (S4 : Sto), Qs (C + 10) S S4 q dq → ∃ F, (s__law_form_9 [some (.ref q), o1, some (.int m), some (.int n), o4, some (.int (x % m)), some (.int s'), o7] S4).fin = .ok (f4 F) S4 ∧ Good F ∧ Qs (C + 10) S S4 q dq := by
    intro s' o4 o7 S4 Q
    obtain ⟨s2, e, w⟩ := form_9 q o1 o4 o7 (x % m) m s' n S4
    exact ⟨_, e, ⟨hm, r0, r1, hn, ⟨wr.mono (by decide), wm.mono (by decide), w, wn.mono (by decide)⟩⟩, Q⟩
  have up : ∀ {c : Nat} {S4 : Sto}, c ≤ C + 10 → Qs c S S4 q dq → Qs (C + 10) S S4 q dq := fun hc Q => ⟨Q.y.mono hc, Q.len, Q.fr⟩
  by_cases k2 : k = 0
  · subst k2
    obtain ⟨bv, S4, e4, b1, Q4⟩ := run_of Q3.y (by omega) "beside" [.int 1, .int (-1), .int 2, .int (m - n), .int (n - m), .int 7] (by simp) (by simp)
    obtain ⟨b, rfl⟩ : ∃ i : Int, bv = .int i := by
      simp at b1
      rcases b1 with rfl | rfl | rfl | rfl | rfl | rfl <;> exact ⟨_, rfl⟩
    obtain ⟨F, e, G, Q⟩ := done (s + b) (some (.int x)) (some (.int 0)) S4 (up (by omega) (Q123.trans Q4))
    refine ⟨F, S4, head _ ?_, G, Q⟩
    simp [s__law_form_8, e4, gc_len Q4.len]
    exact e
  · by_cases k3 : k = 1
    · subst k3
      obtain ⟨bv, S4, e4, b1, Q4⟩ := run_of Q3.y (by omega) "s wide" [.int 9, .int 1000000000000] (by simp) (by simp)
      obtain ⟨b, rfl, b0, bW⟩ : ∃ i : Int, bv = .int i ∧ 0 ≤ i ∧ i ≤ 1000000000000 := by
        simp at b1
        rcases b1 with rfl | rfl <;> exact ⟨_, rfl, by decide, by decide⟩
      obtain ⟨s2, S5, e5, s3, s4, Q5⟩ := run_wide Q4.y (by omega) "any s" b b0 ((W_of _ (by omega) w1e12).mono (by decide))
      obtain ⟨F, e, G, Q⟩ := done s2 (some (.int x)) (some (.int 1)) S5 (up (by omega) ((Q123.trans Q4).trans Q5))
      refine ⟨F, S5, head _ ?_, G, Q⟩
      simp [s__law_form_8, e4, gc_len Q4.len, e5, gc_len (Q4.trans Q5).len, gc_len Q5.len]
      exact e
    · obtain ⟨F, e, G, Q⟩ := done s (some (.int x)) (some (.int k)) S3 (up (by omega) Q123)
      refine ⟨F, S3, head _ ?_, G, Q⟩
      simp [s__law_form_8, k2, k3]
      exact e
theorem run_form {C : Nat} {S : Sto} {q dq : Nat} (h : Qy C S q dq) (hC : C ≤ 80000) : ∃ F S', m__law_form [.ref q] S = .ok (f4 F) S' ∧ Good F ∧ Qs (C + 20) S S' q dq := by
  obtain ⟨wv, S1, e1, w1', Q1⟩ := run_of h (by omega) "wide" [.int 12, .int 1000, .int 1000000] (by simp) (by simp)
  obtain ⟨wd, rfl, wd0, wdW⟩ : ∃ i : Int, wv = .int i ∧ 12 ≤ i ∧ i ≤ 1000000 := by
    simp at w1'
    rcases w1' with rfl | rfl | rfl <;> exact ⟨_, rfl, by decide, by decide⟩
  obtain ⟨k2, S2, e2, a0, a1, Q2⟩ := run_wedge Q1.y (by omega) "m" (wd - 1) (by omega) ((W_of _ (by omega) w1e6).mono (by decide))
  obtain ⟨sv, S3, e3, s1, Q3⟩ := run_of Q2.y (by omega) "n sign" [.int 1, .int (-1)] (by simp) (by simp)
  obtain ⟨sg, rfl, sg1⟩ : ∃ i : Int, sv = .int i ∧ (i = 1 ∨ i = -1) := by
    simp at s1
    rcases s1 with rfl | rfl
    · exact ⟨_, rfl, .inl rfl⟩
    · exact ⟨_, rfl, .inr rfl⟩
  obtain ⟨k4, S4, e4, b0, b1, Q4⟩ := run_wedge Q3.y (by omega) "n" wd (by omega) ((W_of _ (by omega) w1e6).mono (by decide))
  have Q := ((Q1.trans Q2).trans Q3).trans Q4
  have hm : 0 < 2 + k2 := by omega
  have msg : ∀ x : Int, mulOk sg x := fun x => mulOk_small (by omega) (by omega)
  have mone : ∀ x : Int, (sg * x).natAbs = x.natAbs := fun x => by rcases sg1 with rfl | rfl <;> simp
  have up : ∀ {c : Nat} {S4 : Sto}, c ≤ C + 20 → Qs c S S4 q dq → Qs (C + 20) S S4 q dq := fun hc Q => ⟨Q.y.mono hc, Q.len, Q.fr⟩
  have head : ∀ z : R D, (s__law_form_3 [some (.ref q), some (.int wd), some (.int (2 + k2)), some (.int (sg * (1 + k4))), none, none, none, none] S4).fin = z → m__law_form [.ref q] S = z := by
    intro z hz
    rw [e__law_form]
    simp [fn_def, s__law_form_0, s__law_form_1, s__law_form_2, e1, gc_len Q1.len, e2, gc_len Q2.len, e3, gc_len Q3.len, e4, gc_len Q4.len, op_mul (msg _)]
    exact hz
  by_cases hn : (sg * (1 + k4)) % (2 + k2) = 0
  · obtain ⟨sv, S5, e5, s1, Q5⟩ := run_of Q4.y (by omega) "n sign" [.int 1, .int (-1)] (by simp) (by simp)
    obtain ⟨sg', rfl, sg2⟩ : ∃ i : Int, sv = .int i ∧ (i = 1 ∨ i = -1) := by
      simp at s1
      rcases s1 with rfl | rfl
      · exact ⟨_, rfl, .inl rfl⟩
      · exact ⟨_, rfl, .inr rfl⟩
    have msg' : ∀ x : Int, mulOk sg' x := fun x => mulOk_small (by omega) (by omega)
    generalize hz : (if 2 < 2 + k2 then 2 + k2 - 1 else 1) = z
    have hz0 : 0 < z ∧ z < 2 + k2 := by rw [← hz]; split <;> omega
    have hnz : (sg' * z) % (2 + k2) ≠ 0 := by
      intro e
      have d := Int.dvd_of_emod_eq_zero e
      have d2 : (2 + k2) ∣ z := by
        rcases sg2 with rfl | rfl
        · simpa using d
        · simpa using d
      have := Int.le_of_dvd hz0.1 d2
      omega
    obtain ⟨F, S6, e6, G, Q6⟩ := form_4 Q5.y (by omega) (some (.int wd)) (2 + k2) (sg' * z) hm (by omega) (by rcases sg2 with rfl | rfl <;> simp <;> omega) hnz
    refine ⟨F, S6, head _ ?_, G, up (by omega) ((Q.trans Q5).trans Q6)⟩
    unfold s__law_form_3
    by_cases h2 : 2 < 2 + k2
    · rw [if_pos h2] at hz
      subst hz
      simp [op_modP hm, hn, e5, gc_len Q5.len, h2, op_mul (msg' _)] at e6 ⊢
      exact e6
    · rw [if_neg h2] at hz
      subst hz
      simp [op_modP hm, hn, e5, gc_len Q5.len, h2, op_mul (msg' _)] at e6 ⊢
      exact e6
  · obtain ⟨F, S6, e6, G, Q6⟩ := form_4 Q4.y (by omega) (some (.int wd)) (2 + k2) (sg * (1 + k4)) hm (by omega) (by rw [mone]; omega) hn
    refine ⟨F, S6, head _ ?_, G, up (by omega) (Q.trans Q6)⟩
    unfold s__law_form_3
    simp [op_modP hm, hn]
    exact e6
end Py
namespace Py
open PySem PySem.Spec L2 PyProof.Rows
theorem Good.ne {F : Fm} (g : Good F) : F.2.1 ≠ F.2.2.2 := fun e => g.n (by rw [← e]; exact Int.emod_self)
theorem Good.n0 {F : Fm} (g : Good F) : F.2.2.2 ≠ 0 := fun e => g.n (by rw [e]; exact Int.zero_emod _)
theorem Good.nf {F : Fm} (g : Good F) : Nf F := ⟨g.m, g.r0, g.rm⟩
theorem Good.w3 {F : Fm} (g : Good F) : WF4 300 F := g.w.mono (by decide)
theorem good_of {G : Fm} (h : Nf G) (m : mayB G = true) : Good G := by
  obtain ⟨r, m', s, n⟩ := G
  obtain ⟨h1, h2, h3⟩ := h
  unfold mayB at m
  simp only [Bool.and_eq_true, decide_eq_true_eq] at m h1 h2 h3
  obtain ⟨⟨⟨m1, m2⟩, m3, m4⟩, m5⟩ := m
  exact ⟨h1, h2, h3, m5, ⟨(W_of _ (by simp only; omega) w1e12).mono (by decide), (W_of _ (by simp only; omega) w1e6).mono (by decide), (W_of _ (by simp only; omega) w1e12).mono (by decide), (W_of _ (by simp only; omega) w1e6).mono (by decide)⟩⟩
theorem jn_W {F G H : Fm} {k : Nat} (hm : 0 < F.2.1) (hb : 0 < G.2.1) (hF : WF4 k F) (hG : WF4 k G) (h : jn F G = some H) : WF4 (4 * k + 4) H := by
  obtain ⟨r, m, s, n⟩ := F
  obtain ⟨a, b, e, c⟩ := G
  have hr := hF.r; have hM := hF.m; have hs := hF.s; have hn := hF.n
  have ha := hG.r; have hB := hG.m; have he := hG.s; have hc := hG.n
  simp only at hm hb hr hM hs hn ha hB he hc
  unfold jn at h
  simp only at h
  cases hs' : sol n (a - s) b with
  | none => rw [hs'] at h; cases h
  | some p =>
    obtain ⟨t, q⟩ := p
    rw [hs'] at h
    obtain ⟨b1, b2, b3, b4⟩ := sol_some hb hs'
    obtain ⟨j, j1, j2, j3, j4⟩ := nso_spec (r := r) (s := s) (n := n) (t := t) hm b3
    simp only [Option.map_some, Option.some.injEq, j2] at h
    subst h
    have wq : W k q := hB.of_le (by omega) b4
    have wmq := hM.mul wq
    have wr : W (k + k) (r + m * j) := wmq.of_le j3 (by omega)
    have wj : W (k + k + 1) j := by
      have : W (max (k + k) k + 1) (m * j) := by
        have := wr.sub hr
        have e : r + m * j - r = m * j := by omega
        rwa [e] at this
      refine (this.mono (by omega)).le ?_
      rw [Int.natAbs_mul]
      exact Nat.le_mul_of_pos_left _ (by omega)
    exact ⟨wr.mono (by omega), wmq.mono (by omega), (he.add (hc.mul (((hs.add (hn.mul wj)).sub ha).div (j := b)))).mono (by omega), (hc.mul ((hn.mul wq).div (j := b))).mono (by omega)⟩
/-! shifts -/
abbrev sh (c : Int) : Fm := (0, 1, c, 1)
theorem sh_rel {c y u : Int} : R4 (sh c) y u ↔ u = y + c := by
  constructor
  · rintro ⟨k, h1, h2⟩
    simp only at h1 h2
    omega
  · rintro rfl
    exact ⟨y, by simp, by simp; omega⟩
theorem moved_fx {F A M : Fm} {c : Int} (hA : Cm (sh (0 - c)) F (some A)) (hM : Cm A (sh c) (some M)) {x : Option Int} (hx : Fx F x) : Fx M (x.map (· + c)) := by
  have key : ∀ y, R4 M y y ↔ R4 F (y - c) (y - c) := fun y => by
    rw [hM.2 y y]
    constructor
    · rintro ⟨v, h1, h2⟩
      obtain ⟨u, h3, h4⟩ := (hA.2 y v).mp h1
      have e1 := sh_rel.mp h2
      have e2 := sh_rel.mp h3
      have e3 : u = y - c := by omega
      have e4 : v = y - c := by omega
      rw [e3, e4] at h4; exact h4
    · intro h
      exact ⟨y - c, (hA.2 y (y - c)).mpr ⟨y - c, sh_rel.mpr (by omega), h⟩, sh_rel.mpr (by omega)⟩
  cases x with
  | none => exact fun y hy => hx _ ((key y).mp hy)
  | some x =>
    show R4 M (x + c) (x + c)
    rw [key]
    have e : x + c - c = x := by omega
    rw [e]; exact hx
theorem less_fx {F L : Fm} {a b : Int} (hne : F.2.1 ≠ F.2.2.2) (hb : 0 < b) (hL : Cm (a, b, a, b) F (some L)) {x : Option Int} (hx : Fx F x) : Fx L (x.bind fun x => if (x - a) % b = 0 then some x else none) := by
  have key : ∀ y, R4 L y y ↔ (y - a) % b = 0 ∧ R4 F y y := fun y => by
    rw [hL.2 y y]
    constructor
    · rintro ⟨u, ⟨k, h1, h2⟩, h3⟩
      simp only at h1 h2
      have e : u = y := by omega
      subst e
      refine ⟨?_, h3⟩
      have : u - a = b * k := by omega
      rw [this]; exact Int.mul_emod_right _ _
    · rintro ⟨h1, h2⟩
      obtain ⟨k, hk⟩ := Int.dvd_of_emod_eq_zero h1
      exact ⟨y, ⟨k, by simp only; omega, by simp only; omega⟩, h2⟩
  cases x with
  | none => exact fun y hy => hx y ((key y).mp hy).2
  | some x =>
    simp only [Option.bind_some]
    by_cases h : (x - a) % b = 0
    · rw [if_pos h]; exact (key x).mpr ⟨h, hx⟩
    · rw [if_neg h]
      intro y hy
      obtain ⟨h1, h2⟩ := (key y).mp hy
      rw [fix_unique hne hx h2] at h
      exact h h1
theorem back_fx {F : Fm} (hn : F.2.2.2 ≠ 0) {x : Option Int} (hx : Fx F x) : Fx (un F) x := by
  cases x with
  | none => exact fun y hy => hx y ((un_rel hn y y).mp hy)
  | some x => exact (un_rel hn x x).mpr hx
/-- the law's way to it -/
theorem un_law {F : Fm} (hn : F.2.2.2 ≠ 0) : un F = (F.2.2.1 % (F.2.2.2.natAbs : Int), (F.2.2.2.natAbs : Int), F.1 - F.2.1 * (F.2.2.1 - F.2.2.1 % (F.2.2.2.natAbs : Int)).fdiv F.2.2.2, if 0 < F.2.2.2 then F.2.1 else 0 - F.2.1) := by
  obtain ⟨r, m, s, n⟩ := F
  simp only at hn
  unfold un
  simp only
  generalize hN : (n.natAbs : Int) = N
  have np : 0 < N := by omega
  have hx := Int.mul_ediv_add_emod s N
  have e : (s % N - s) / N = -(s / N) := by
    have : s % N - s = N * -(s / N) := by rw [Int.mul_neg]; omega
    rw [this, Int.mul_ediv_cancel_left _ (by omega)]
  have e2 : s - s % N = N * (s / N) := by omega
  rw [e, e2]
  by_cases h : n < 0
  · have hn' : n = -N := by omega
    have e3 : (N * (s / N)).fdiv n = -(s / N) := by
      have := Int.mul_fdiv_cancel_left (-(s / N)) hn
      have e4 : n * -(s / N) = N * (s / N) := by rw [hn', Int.neg_mul_neg]
      rwa [e4] at this
    rw [e3, if_pos h, if_neg (show ¬ 0 < n by omega)]
    congr 3
    · simp only [Int.mul_neg, Int.neg_mul, Int.one_mul]; omega
    · omega
  · have hn' : n = N := by omega
    have e3 : (N * (s / N)).fdiv n = s / N := by
      rw [hn']; exact Int.mul_fdiv_cancel_left _ (by omega)
    rw [e3, if_neg h, if_pos (show 0 < n by omega)]
    congr 3
    · simp only [Int.mul_neg, Int.one_mul]; omega
    · omega
end Py
namespace Py
open PySem PySem.Spec L2 PyProof.Rows
theorem same_ok {d : D} (h : PD 4 d) (S : Sto) : m__law_same [d, d] S = .ok (.bl true) S := run__law_same 4 d h S
theorem pd_oF {o : Option Fm} : PD 4 (oF o) := by
  cases o with
  | none => simp [oF, PD]
  | some F => simp [oF, PD]
theorem pd_oI {o : Option Int} {n : Nat} : PD (n + 1) (oI o) := by
  cases o <;> simp [oI, PD]
/-- twice -/
theorem roads_20 {F : Fm} (g : Good F) (E0 E2 E3 E4 E5 E6 E7 E8 E9 E10 E12 E13 E14 E15 : Option D) (S : Sto) :
    (s__law_roads_20 [E0, some (f4 F), E2, E3, E4, E5, E6, E7, E8, E9, E10, none, E12, E13, E14, E15] S).fin = .ok (.bl true) S := by
  have hb := run__law_behind F F g.m g.m g.w3 g.w3
  have hj := run_joined F F g.m g.m g.w3 g.w3
  rw [joined_eq g.m g.m] at hj
  have hs := same_ok (d := oF (bh F F)) pd_oF
  have cm := bh_cm (F := F) (G := F) g.m g.m
  generalize hd : f4 F = dF at *
  simp [s__law_roads_20, s__law_roads_21, s__law_roads_22, hb, hj, hs]
  cases ho : bh F F with
  | none => simp [oF]
  | some H =>
    rw [ho] at cm
    have hm : 0 < H.2.1 := cm.1.1
    have hmay := run__law_may H hm
    simp only [oF]
    rw [show f4 H = D.tup [.int H.1, .int H.2.1, .int H.2.2.1, .int H.2.2.2] from rfl] at hmay ⊢
    cases hq : mayB H with
    | false => simp [hmay, hq]
    | true =>
      have gH := good_of cm.1 hq
      have hf := run_fixed_number H gH.m gH.ne gH.w3
      have hl := run__law_fixed H gH.w3
      rw [show f4 H = D.tup [.int H.1, .int H.2.1, .int H.2.2.1, .int H.2.2.2] from rfl] at hf hl
      have hs2 := same_ok (d := oI (fl H)) pd_oI
      simp [hmay, hq, hf, hl, hs2]
/-- narrowed -/
theorem roads_17 {F : Fm} (g : Good F) (a b : Int) (hb : 0 < b) (wa : W 60 a) (wb : W 60 b) (E0 E3 E4 E5 E6 E7 E12 E13 E14 E15 : Option D) (S : Sto) :
    (s__law_roads_17 [E0, some (f4 F), some (oI (fl F)), E3, E4, E5, E6, E7, some (.int b), some (pD a b), none, none, E12, E13, E14, E15] S).fin = .ok (.bl true) S := by
  have wl : WF4 60 (a, b, a, b) := ⟨wa, wb, wa, wb⟩
  have hB := run__law_behind (a, b, a, b) F hb g.m (wl.mono (by decide)) g.w3
  have hN := run_narrowed' F a b g.m hb g.w3 (wa.mono (by decide)) (wb.mono (by decide))
  rw [narrowed_eq g.m hb] at hN
  have hs := same_ok (d := oF (bh (a, b, a, b) F)) pd_oF
  have cm := bh_cm (F := (a, b, a, b)) (G := F) hb g.m
  have t20 := fun E10 => roads_20 g E0 (some (oI (fl F))) E3 E4 E5 E6 E7 (some (.int b)) (some (pD a b)) E10 E12 E13 E14 E15 S
  have hx := fl_ok g.m g.ne
  rw [show f4 (a, b, a, b) = D.tup [.int a, .int b, .int a, .int b] from rfl] at hB
  generalize hd : f4 F = dF at *
  have cat : ∀ S, binop .Add (.tup [.int a, .int b]) (.tup [.int a, .int b]) S = .ok (.tup [.int a, .int b, .int a, .int b]) S := fun S => by
    have : binop .Add (.tup [.int a, .int b]) (.tup [.int a, .int b]) S = (if [D.int a, D.int b] ≠ [] ∧ [D.int a, D.int b].length + [D.int a, D.int b].length ≤ sizeLine then R.ok (.tup ([D.int a, D.int b] ++ [D.int a, D.int b])) S else .no) := by
      unfold binop; rfl
    rw [this, if_pos ⟨by simp, by simp⟩]; rfl
  simp [s__law_roads_17, s__law_roads_18, cat, hB, hN, hs]
  cases ho : bh (a, b, a, b) F with
  | none =>
    simp [s__law_roads_19, oF]
    exact t20 _
  | some H =>
    rw [ho] at cm
    have hm : 0 < H.2.1 := cm.1.1
    have hmay := run__law_may H hm
    simp only [oF]
    rw [show f4 H = D.tup [.int H.1, .int H.2.1, .int H.2.2.1, .int H.2.2.2] from rfl] at hmay ⊢
    cases hq : mayB H with
    | false =>
      simp [s__law_roads_19, hmay, hq]
      exact t20 _
    | true =>
      have gH := good_of cm.1 hq
      have hf := run_fixed_number H gH.m gH.ne gH.w3
      have e := fx_unique gH.ne (fl_ok gH.m gH.ne) (less_fx g.ne hb cm hx)
      rw [e] at hf
      rw [show f4 H = D.tup [.int H.1, .int H.2.1, .int H.2.2.1, .int H.2.2.2] from rfl] at hf
      have hs2 := same_ok (d := oI ((fl F).bind fun x => if (x - a) % b = 0 then some x else none)) pd_oI
      cases hfl : fl F with
      | none =>
        simp only [hfl, Option.bind_none] at hf hs2
        simp [s__law_roads_19, hmay, hq, hf, oI] at hs2 ⊢
        simp [hs2]
        simp only [hfl, oI] at t20
        exact t20 _
      | some x =>
        by_cases hxx : (x - a) % b = 0
        · simp only [hfl, Option.bind_some, if_pos hxx] at hf hs2
          simp [s__law_roads_19, hmay, hq, hf, oI, op_modP hb, hxx] at hs2 ⊢
          simp [hs2]
          simp only [hfl, oI] at t20
          exact t20 _
        · simp only [hfl, Option.bind_some, if_neg hxx] at hf hs2
          simp [s__law_roads_19, hmay, hq, hf, oI, op_modP hb, hxx] at hs2 ⊢
          simp [hs2]
          simp only [hfl, oI] at t20
          exact t20 _
/-- the lot -/
theorem roads_14 {F : Fm} (g : Good F) {C : Nat} {S : Sto} {q dq : Nat} (h : Qy C S q dq) (hC : C ≤ 90000) (E3 E4 E5 E6 E7 E12 E13 E14 E15 : Option D) :
    ∃ S', (s__law_roads_14 [some (.ref q), some (f4 F), some (oI (fl F)), E3, E4, E5, E6, E7, none, none, none, none, E12, E13, E14, E15] S).fin = .ok (.bl true) S' ∧ Qs (C + 3) S S' q dq := by
  obtain ⟨k1, S1, e1, a0, a1, Q1⟩ := run_wedge h (by omega) "lot m" 6 (by decide) (by refine W.mono (n := 3) ?_ (by decide); unfold W; decide)
  have wb : W 60 (2 + k1) := (W_of _ (show _ ≤ (1000000 : Int).natAbs by omega) w1e6).mono (by decide)
  obtain ⟨k2, S2, e2, b0, b1, Q2⟩ := run_wedge Q1.y (by omega) "lot r" (2 + k1) (by omega) (wb.mono (by decide))
  have wa : W 60 k2 := (W_of _ (show _ ≤ (1000000 : Int).natAbs by omega) w1e6).mono (by decide)
  have up : ∀ {c : Nat} {S4 : Sto}, c ≤ C + 3 → Qs c S S4 q dq → Qs (C + 3) S S4 q dq := fun hc Q => ⟨Q.y.mono hc, Q.len, Q.fr⟩
  have t17 := fun a wa' S => roads_17 g a (2 + k1) (by omega) wa' wb (some (.ref q)) E3 E4 E5 E6 E7 E12 E13 E14 E15 S
  cases hfl : fl F with
  | none =>
    refine ⟨S2, ?_, up (by omega) (Q1.trans Q2)⟩
    have := t17 k2 wa S2
    simp only [hfl, oI] at this
    simp [s__law_roads_14, s__law_roads_15, s__law_roads_16, e1, gc_len Q1.len, e2, gc_len Q2.len, oI]
    exact this
  | some x =>
    obtain ⟨k3, S3, e3, c0, c1, Q3⟩ := run_wedge Q2.y (by omega) "lot of x" 2 (by decide) (by refine W.mono (n := 3) ?_ (by decide); unfold W; decide)
    refine ⟨S3, ?_, up (by omega) ((Q1.trans Q2).trans Q3)⟩
    by_cases hk : k3 = 0
    · have hx0 := Int.emod_nonneg x (show 2 + k1 ≠ 0 by omega)
      have hx1 := Int.emod_lt_of_pos x (show 0 < 2 + k1 by omega)
      have := t17 (x % (2 + k1)) ((W_of _ (show _ ≤ (1000000 : Int).natAbs by omega) w1e6).mono (by decide)) S3
      simp only [hfl, oI] at this
      subst hk
      simp [s__law_roads_14, s__law_roads_15, s__law_roads_16, e1, gc_len Q1.len, e2, gc_len Q2.len, e3, gc_len Q3.len, oI, op_modP (show 0 < 2 + k1 by omega)]
      exact this
    · have := t17 k2 wa S3
      simp only [hfl, oI] at this
      simp [s__law_roads_14, s__law_roads_15, s__law_roads_16, e1, gc_len Q1.len, e2, gc_len Q2.len, e3, gc_len Q3.len, oI, hk]
      exact this
end Py
namespace Py
open PySem PySem.Spec L2 PyProof.Rows
theorem one_pos' : (0 : Int) < 1 := by decide
abbrev tD (H : Fm) : D := .tup [.int H.1, .int H.2.1, .int H.2.2.1, .int H.2.2.2]
theorem roads_9 {F : Fm} (g : Good F) {C : Nat} {S : Sto} {q dq : Nat} (h : Qy C S q dq) (hC : C ≤ 80000) (E3 E4 E12 E13 E14 E15 : Option D) :
    ∃ S', (s__law_roads_9 [some (.ref q), some (f4 F), some (oI (fl F)), E3, E4, none, none, none, none, none, none, none, E12, E13, E14, E15] S).fin = .ok (.bl true) S' ∧ Qs (C + 4) S S' q dq := by
  obtain ⟨cv, S1, e1, c1, Q1⟩ := run_of h (by omega) "moved by" [.int 1, .int (-3), .int 100000, .int (-1000000000)] (by simp) (by simp)
  obtain ⟨c, rfl, cW⟩ : ∃ i : Int, cv = .int i ∧ i.natAbs ≤ 1000000000 := by
    simp at c1
    rcases c1 with rfl | rfl | rfl | rfl <;> exact ⟨_, rfl, by decide⟩
  have wc : W 40 c := W_of _ (show _ ≤ (1000000000000 : Int).natAbs by omega) w1e12
  have wsh : WF4 60 (sh c) := ⟨w0.mono (by decide), w1.mono (by decide), wc.mono (by decide), w1.mono (by decide)⟩
  have wsh' : WF4 60 (sh (0 - c)) := ⟨w0.mono (by decide), w1.mono (by decide), (w0.sub wc).mono (by decide), w1.mono (by decide)⟩
  have cA := bh_cm (F := sh (0 - c)) (G := F) one_pos' g.m
  have rA := run__law_behind (sh (0 - c)) F one_pos' g.m (wsh'.mono (by decide)) g.w3
  have jA := run_joined (sh (0 - c)) F one_pos' g.m (wsh'.mono (by decide)) g.w3
  have wA := fun H => jn_W (F := sh (0 - c)) (G := F) (H := H) one_pos' g.m wsh' g.w
  rw [joined_eq one_pos' g.m] at jA wA
  cases hA : bh (sh (0 - c)) F with
  | none =>
    rw [hA] at cA
    exact (cA F.1 ⟨⟨F.1 - (0 - c), sh_rel.mpr (by omega)⟩, ⟨F.2.2.1, 0, by simp, by simp⟩⟩).elim
  | some A =>
    rw [hA] at cA rA jA
    have wA := wA A hA
    have mA : 0 < A.2.1 := cA.1.1
    have cM := bh_cm (F := A) (G := sh c) mA one_pos'
    have rM := run__law_behind A (sh c) mA one_pos' (wA.mono (by decide)) (wsh.mono (by decide))
    have jM := run_joined A (sh c) mA one_pos' (wA.mono (by decide)) (wsh.mono (by decide))
    rw [joined_eq mA one_pos'] at jM
    cases hM : bh A (sh c) with
    | none =>
      rw [hM] at cM
      exact (cM A.2.2.1 ⟨⟨A.1, 0, by simp, by simp⟩, ⟨A.2.2.1 + c, sh_rel.mpr rfl⟩⟩).elim
    | some M =>
      rw [hM] at cM rM jM
      have mM : 0 < M.2.1 := cM.1.1
      have hmay := run__law_may M mM
      have s1 := same_ok (d := oF (some A)) pd_oF
      have s2 := same_ok (d := oF (some M)) pd_oF
      obtain ⟨S2, e14, Q2⟩ := roads_14 g Q1.y (by omega) E3 E4 (some (.int c)) (some (tD A)) (some (tD M)) E12 E13 E14 E15
      refine ⟨S2, ?_, ⟨(Q1.trans Q2).y.mono (by omega), (Q1.trans Q2).len, (Q1.trans Q2).fr⟩⟩
      rw [show f4 (sh (0 - c)) = D.tup [.int 0, .int 1, .int (0 - c), .int 1] from rfl] at rA jA
      rw [show f4 (sh c) = D.tup [.int 0, .int 1, .int c, .int 1] from rfl] at rM jM
      simp only [oF] at rA jA rM jM s1 s2
      rw [show f4 A = tD A from rfl] at rA jA rM jM s1
      rw [show f4 M = tD M from rfl] at rM jM s2 hmay
      have x13 : (s__law_roads_13 [some (.ref q), some (f4 F), some (oI (fl F)), E3, E4, some (.int c), some (tD A), some (tD M), none, none, none, none, E12, E13, E14, E15] S1).fin = .ok (.bl true) S2 := by
        cases hq : mayB M with
        | false =>
          rw [hq] at hmay
          simp [s__law_roads_13, hmay]
          exact e14
        | true =>
          rw [hq] at hmay
          have gM := good_of cM.1 hq
          have hf := run_fixed_number M gM.m gM.ne gM.w3
          have e := fx_unique gM.ne (fl_ok gM.m gM.ne) (moved_fx cA cM (fl_ok g.m g.ne))
          rw [e, show f4 M = tD M from rfl] at hf
          have s3 := same_ok (d := oI ((fl F).map (· + c))) pd_oI
          cases hfl : fl F with
          | none =>
            simp only [hfl, Option.map_none, oI] at hf s3 e14
            simp [s__law_roads_13, hmay, kwG, hf, s3, oI]
            exact e14
          | some x =>
            simp only [hfl, Option.map_some, oI] at hf s3 e14
            simp [s__law_roads_13, hmay, kwG, hf, s3, oI]
            exact e14
      generalize f4 F = dF at *
      simp only [Int.zero_sub] at rA jA
      by_cases hl : (A.2.2.1.natAbs : Int) ≤ 1000000000000
      · simp [s__law_roads_9, s__law_roads_10, s__law_roads_11, s__law_roads_12, e1, gc_len Q1.len, rA, jA, rM, jM, s1, s2, hl]
        exact x13
      · simp [s__law_roads_9, s__law_roads_10, s__law_roads_11, s__law_roads_12, e1, gc_len Q1.len, rA, jA, rM, jM, s1, s2, hl]
        exact x13
end Py
namespace Py
open PySem PySem.Spec L2 PyProof.Rows
theorem cut3 {a b c d : D} {S : Sto} : getSl (.tup [a, b, c, d]) (some 3) none S = .ok (.tup [d]) S := by
  have : getSl (.tup [a, b, c, d]) (some 3) none S = (if HT.sIx 4 0 (some 3) = 0 ∧ HT.sIx 4 4 none = 4 then R.no else .ok (.tup (cutD [a, b, c, d] (some 3) none)) S) := by
    unfold getSl; rfl
  rw [this, if_neg (by decide)]
  rfl
theorem cat_tup {xs ys : List D} {S : Sto} (h : xs ≠ []) (hl : xs.length + ys.length ≤ 1000) : binop .Add (.tup xs) (.tup ys) S = .ok (.tup (xs ++ ys)) S := by
  have : binop .Add (.tup xs) (.tup ys) S = (if xs ≠ [] ∧ xs.length + ys.length ≤ sizeLine then R.ok (.tup (xs ++ ys)) S else .no) := by unfold binop; rfl
  rw [this, if_pos ⟨h, Nat.le_trans hl big⟩]
theorem un_nf {F : Fm} (hn : F.2.2.2 ≠ 0) : Nf (un F) := by
  have np : 0 < (F.2.2.2.natAbs : Int) := by omega
  exact ⟨np, Int.emod_nonneg _ (by omega), Int.emod_lt_of_pos _ np⟩
/-- undone -/
theorem roads_4 {F : Fm} (g : Good F) {C : Nat} {S : Sto} {q dq : Nat} (h : Qy C S q dq) (hC : C ≤ 80000) :
    ∃ S', (s__law_roads_4 [some (.ref q), some (f4 F), some (oI (fl F)), none, none, none, none, none, none, none, none, none, none, none, none, none] S).fin = .ok (.bl true) S' ∧ Qs (C + 4) S S' q dq := by
  have hb := run_undone F g.m g.n0 g.w3
  have nf := un_nf (F := F) g.n0
  have hmay := run__law_may (un F) nf.1
  have hs := same_ok (d := tD (un F)) (by simp [PD])
  have e := un_law (F := F) g.n0
  have hfx : mayB (un F) = true → ∀ S, m_fixed_number [f4 (un F)] S = .ok (oI (fl F)) S := fun hq S => by
    have gU := good_of nf hq
    have := run_fixed_number (un F) gU.m gU.ne gU.w3 S
    rwa [fx_unique gU.ne (fl_ok gU.m gU.ne) (back_fx g.n0 (fl_ok g.m g.ne))] at this
  have hs2 := same_ok (d := oI (fl F)) pd_oI
  obtain ⟨r, m, s, n⟩ := F
  have hr := g.w.r; have hM := g.w.m; have hS := g.w.s; have hN := g.w.n
  have n0 := g.n0
  simp only at hr hM hS hN n0 e
  have np : 0 < (n.natAbs : Int) := by omega
  have wn : W 60 (n.natAbs : Int) := hN.abs
  obtain ⟨S2, e9, Q⟩ := roads_9 g h hC (some (tD (un (r, m, s, n)))) (some (.int ((s - s % (n.natAbs : Int)).fdiv n))) (some (.int r)) (some (.int m)) (some (.int s)) (some (.int n))
  refine ⟨S2, ?_, Q⟩
  have wd : W 70 ((s - s % (n.natAbs : Int)).fdiv n) := by
    have hx := Int.mul_ediv_add_emod s (n.natAbs : Int)
    have d : n ∣ s - s % (n.natAbs : Int) := by
      have d1 : n ∣ (n.natAbs : Int) := Int.dvd_natAbs_self
      have : s - s % (n.natAbs : Int) = (n.natAbs : Int) * (s / (n.natAbs : Int)) := by omega
      rw [this]; exact Int.dvd_mul_of_dvd_left d1
    rw [Int.fdiv_eq_ediv_of_dvd d]
    exact ((hS.sub (wn.modP np)).div (j := n)).mono (by decide)
  have tU : tD (un (r, m, s, n)) = D.tup [.int (s % (n.natAbs : Int)), .int (n.natAbs : Int), .int (r - m * (s - s % (n.natAbs : Int)).fdiv n), .int (if 0 < n then m else 0 - m)] := by
    unfold tD; rw [e]
  rw [show f4 (un (r, m, s, n)) = tD (un (r, m, s, n)) from rfl] at hb hmay hfx
  have w0' : (8 : Nat) ≤ 9 := by decide
  generalize hT : tD (un (r, m, s, n)) = T at *
  generalize hq : mayB (un (r, m, s, n)) = b at *
  have tail : (s__law_roads_8 [some (.ref q), some (f4 (r, m, s, n)), some (oI (fl (r, m, s, n))), some T, some (.int ((s - s % (n.natAbs : Int)).fdiv n)), none, none, none, none, none, none, none, some (.int r), some (.int m), some (.int s), some (.int n)] S).fin = .ok (.bl true) S2 := by
    generalize f4 (r, m, s, n) = dF at *
    generalize oI (fl (r, m, s, n)) = dX at *
    cases b with
    | false =>
      simp [s__law_roads_8, hb, hs, hmay]
      exact e9
    | true =>
      have hfx := hfx rfl
      simp [s__law_roads_8, hb, hs, hmay, hfx, hs2]
      exact e9
  generalize oI (fl (r, m, s, n)) = dX at *
  show (s__law_roads_4 [some (.ref q), some (D.tup [.int r, .int m, .int s, .int n]), some dX, none, none, none, none, none, none, none, none, none, none, none, none, none] S).fin = _
  rw [tU] at tail
  by_cases hn : 0 < n
  · simp [hn] at tail
    simp [s__law_roads_4, s__law_roads_5, s__law_roads_6, s__law_roads_7, op_modP np, hn, op_fdiv (hN.dv n0 (by decide)), cut2, cut3, op_mulW hM wd (by decide), cat_tup]
    exact tail
  · simp [hn] at tail
    simp [s__law_roads_4, s__law_roads_5, s__law_roads_6, s__law_roads_7, op_modP np, hn, op_fdiv (hN.dv n0 (by decide)), cut2, cut3, op_mulW hM wd (by decide), cat_tup]
    exact tail
end Py
namespace Py
open PySem PySem.Spec L2 PyProof.Rows
theorem closed_lD {n : Nat} {l : Ln} : closedD n (lD l) = true := by simp [closedD, closedDs]
abbrev rE (q : Nat) (dF dX : D) : En := [some (.ref q), some dF, some dX, none, none, none, none, none, none, none, none, none, none, none, none, none]
theorem roads_3 {q : Nat} {dF : D} {x : Option Int} {S : Sto} {z : R D} (hl : ∀ y, x = some y → m_led [dF, .int y] S = .ok (.int y) S) (e : (s__law_roads_4 (rE q dF (oI x)) S).fin = z) : (s__law_roads_3 (rE q dF (oI x)) S).fin = z := by
  cases x with
  | none =>
    simp [s__law_roads_3, oI]
    exact e
  | some y =>
    have hl := hl y rfl
    have s3 := same_ok (d := .int y) (by simp [PD]) S
    simp [s__law_roads_3, oI, kwG, hl, s3]
    exact e
theorem roads_2 {q : Nat} {dF : D} {x : Option Int} {S : Sto} {z : R D} (h4 : ∀ S, m_meeting [dF, .tup [.int 0, .int 1, .int 0, .int 1]] S = .ok (oM x) S) (h5 : ∀ S, m_meeting [.tup [.int 0, .int 1, .int 0, .int 1], dF] S = .ok (oM x) S)
    (e : (s__law_roads_3 (rE q dF (oI x)) S).fin = z) : (s__law_roads_2 (rE q dF (oI x)) S).fin = z := by
  have s2 := same_ok (d := .tup [oM x, oM x]) (by cases x <;> simp [PD, oM]) S
  cases x with
  | none =>
    simp only [oM] at h4 h5 s2
    simp [s__law_roads_2, oI, h4, h5, s2]
    exact e
  | some y =>
    simp only [oM] at h4 h5 s2
    simp [s__law_roads_2, oI, h4, h5, s2]
    exact e
theorem roads_1 {q : Nat} {dF dL : D} {x : Option Int} {S : Sto} {z : R D} (h1 : ∀ S, m_fixed_number [dF] S = .ok (oI x) S) (h2 : ∀ S, m_line_of [dF] S = .ok dL S) (h3 : ∀ S, gc S (m__law_line [dF] S) = .ok dL S) (s1 : m__law_same [.tup [oI x, dL], .tup [oI x, dL]] S = .ok (.bl true) S)
    (e : (s__law_roads_2 (rE q dF (oI x)) S).fin = z) : (s__law_roads_1 (rE q dF (oI x)) S).fin = z := by
  simp [s__law_roads_1, h1, h2, h3, s1]
  exact e
theorem run_roads {F : Fm} (g : Good F) {C : Nat} {S : Sto} {q dq : Nat} (h : Qy C S q dq) (hC : C ≤ 80000) :
    ∃ S', m__law_roads [.ref q, f4 F] S = .ok (.bl true) S' ∧ Qs (C + 4) S S' q dq := by
  obtain ⟨S2, e4, Q⟩ := roads_4 g h hC
  refine ⟨S2, ?_, Q⟩
  have h0 := run__law_fixed F g.w3
  have h1 := run_fixed_number F g.m g.ne g.w3
  have h2 := run_line_of F g.m g.w3
  have h3 : ∀ S, gc S (m__law_line [f4 F] S) = .ok (lD (ln F)) S := fun S => by
    obtain ⟨X, e⟩ := run__law_line F g.m g.w3 S
    rw [e]; exact gc_drop closed_lD
  have h4 := run_meetingR F g.m g.ne g.w3
  have h5 := run_meetingL F g.m g.ne g.w3
  have s1 := same_ok (d := .tup [oI (fl F), lD (ln F)]) (by simp [PD]; exact pd_oI) S
  have hl : ∀ x, fl F = some x → m_led [f4 F, .int x] S = .ok (.int x) S := fun x hx => by
    have := fl_ok g.m g.ne
    rw [hx] at this
    exact run_led F g.m g.w3 this (fl_W g.m g.ne g.w3 hx) S
  have step := roads_1 (q := q) h1 h2 h3 s1 (roads_2 h4 h5 (roads_3 hl e4))
  generalize lD (ln F) = dL at *
  generalize f4 F = dF at *
  rw [e__law_roads]
  simp only [fn_def, List.length_cons, List.length_nil, Nat.zero_add, Nat.reduceAdd, if_true]
  simp [s__law_roads_0, h0]
  exact step
end Py
namespace Py
open PySem PySem.Spec L2 PyProof.Rows
def P60 : Int := 10 ^ 60
theorem p60_eq : (10 : Int) ^ (60 : Int).toNat = P60 := rfl
theorem p60_W : W 200 P60 := by unfold W P60; decide
theorem p60_pos : 0 < P60 := by unfold P60; decide
theorem pow60 {S : Sto} : binop .Pow (.int 10) (.int 60) S = .ok (.int P60) S := by rw [← p60_eq]; exact op_pow ⟨by decide, by decide, by decide⟩
theorem pow16 {S : Sto} : binop .Pow (.int 10) (.int 16) S = .ok (.int 10000000000000000) S := op_pow ⟨by decide, by decide, by decide⟩
def P180 : Int := P60 * P60 * P60
theorem p180_W : W 600 P180 := ((p60_W.mul p60_W).mul p60_W).mono (by decide)
theorem p180_pos : 0 < P180 := Int.mul_pos (Int.mul_pos p60_pos p60_pos) p60_pos
theorem p120_ok : mulOk P60 P60 := p60_W.ok p60_W (by decide)
theorem p180_ok : mulOk (P60 * P60) P60 := (p60_W.mul p60_W).ok p60_W (by decide)
abbrev qS (o : Ob) (a b : Int) (xs : List D) : Sto := [o, .dK [], .lst [.int a, .int b, .int 0, .ref 1], .lst xs]
theorem quarry_turn (o : Ob) (xs : List D) (a b x : Int) (n : Nat) (ha : 0 ≤ a) (wa : W n a) (hn : n + 700 < 200000) (hb : 0 ≤ b) (hb2 : b < 2147470379) (o2 o3 : Option D) :
    ∃ a' b' o3', b__law_quarry_1 [some (.ref 0), some (.ref 2), some (.int x), o3] (qS o a b xs) = .nx [some (.ref 0), some (.ref 2), some (.int x), o3'] (qS o a' b' xs) ∧ 0 ≤ a' ∧ W (n + 601) a' ∧ 0 ≤ b' ∧ b' < 2147470379 := by
  have sz0 := Int.emod_nonneg (x.natAbs : Int) (show P180 ≠ 0 from Int.ne_of_gt p180_pos)
  have wsz : W 600 ((x.natAbs : Int) % P180) := p180_W.modP p180_pos
  generalize hsz : (x.natAbs : Int) % P180 = sz at *
  have m1 : mulOk b 8707 := mulOk_small' (by decide) (by decide)
  have m2 : ∀ y : Int, mulOk 3 y := fun y => mulOk_small (by decide) (by decide)
  have g1 : ∀ a b : Int, getIx (.ref 2) (.int 1) (qS o a b xs) = .ok (.int b) (qS o a b xs) := fun a b => ix_lst (xs := [.int a, .int b, .int 0, .ref 1]) rfl (atI_nat (k := 1))
  have g0 : ∀ a b : Int, getIx (.ref 2) (.int 0) (qS o a b xs) = .ok (.int a) (qS o a b xs) := fun a b => ix_lst (xs := [.int a, .int b, .int 0, .ref 1]) rfl (atI_nat (k := 0))
  have s1 : ∀ a b v : Int, setIx (.ref 2) (.int 1) (.int v) (qS o a b xs) = some (qS o a v xs) := fun a b v => setIx_lst (k := 1) (xs := [.int a, .int b, .int 0, .ref 1]) rfl (by simp)
  have s0 : ∀ a b v : Int, setIx (.ref 2) (.int 0) (.int v) (qS o a b xs) = some (qS o v b xs) := fun a b v => setIx_lst (k := 0) (xs := [.int a, .int b, .int 0, .ref 1]) rfl (by simp)
  have q180 : P60 * P60 * P60 = P180 := rfl
  generalize hv : (b * 8707 + sz % 19013 + 461 + 3 * (if x < 0 then (1 : Int) else 0)) % 2147470379 = v
  have v0 : 0 ≤ v := by rw [← hv]; exact Int.emod_nonneg _ (by decide)
  have v1 : v < 2147470379 := by rw [← hv]; exact Int.emod_lt_of_pos _ (by decide)
  by_cases hge : 10000000000000000 ≤ sz
  · refine ⟨a * P180 + sz, v, some (.int sz), ?_, ?_, ?_, v0, v1⟩
    · simp [b__law_quarry_1, pow60, pow16, op_mul p120_ok, op_mul p180_ok, q180, op_modP p180_pos, hsz, g1, g0, s1, s0, op_mul m1, op_mul (m2 _), op_modP (show (0 : Int) < 19013 by decide), op_modP (show (0 : Int) < 2147470379 by decide), hv, hge, op_mulW wa p180_W (show n + 600 < 1000000 by omega)]
    · have := Int.mul_nonneg ha (Int.le_of_lt p180_pos); omega
    · exact ((wa.mul p180_W).add wsz).mono (by omega)
  · refine ⟨a, v, some (.int sz), ?_, ha, wa.mono (by omega), v0, v1⟩
    simp [b__law_quarry_1, pow60, pow16, op_mul p120_ok, op_mul p180_ok, q180, op_modP p180_pos, hsz, g1, g0, s1, s0, op_mul m1, op_mul (m2 _), op_modP (show (0 : Int) < 19013 by decide), op_modP (show (0 : Int) < 2147470379 by decide), hv, hge]
theorem quarry_loop (o : Ob) (xs : List D) : ∀ (ys : List Int) (a b : Int) (n : Nat) (o2 o3 : Option D), 0 ≤ a → W n a → n + 700 * (ys.length + 1) < 200000 → 0 ≤ b → b < 2147470379 →
    ∃ a' b' o2' o3', forG (.nm 2) b__law_quarry_1 [(3, .lst xs)] (ys.map D.int) [some (.ref 0), some (.ref 2), o2, o3] (qS o a b xs) = .nx [some (.ref 0), some (.ref 2), o2', o3'] (qS o a' b' xs) ∧ 0 ≤ a' ∧ W (n + 601 * ys.length) a' ∧ 0 ≤ b' ∧ b' < 2147470379
  | [], a, b, n, o2, o3, ha, wa, hn, hb, hb2 => ⟨a, b, o2, o3, by rw [List.map_nil]; exact forG_end (fun p hp => by simp at hp; subst hp; rfl), ha, wa, hb, hb2⟩
  | y :: ys, a, b, n, o2, o3, ha, wa, hn, hb, hb2 => by
    simp only [List.length_cons] at hn ⊢
    obtain ⟨a1, b1, o31, e, ha1, wa1, hb1, hb12⟩ := quarry_turn o xs a b y n ha wa (by omega) hb hb2 o2 o3
    obtain ⟨a2, b2, o22, o32, e2, ha2, wa2, hb2', hb22⟩ := quarry_loop o xs ys a1 b1 (n + 601) (some (.int y)) o31 ha1 wa1 (by omega) hb1 hb12
    refine ⟨a2, b2, o22, o32, ?_, ha2, wa2.mono (by omega), hb2', hb22⟩
    rw [List.map_cons, forG_nx (fun p hp => by simp at hp; subst hp; rfl) bindT_nm e]
    exact e2
theorem run__law_quarry (ns : List Int) (hl : ns.length ≤ 63) : ∃ a b xs, gc [.ro (ns.map D.int)] (m__law_quarry [.ref 0] [.ro (ns.map D.int)]) = .ok (.ref 2) (qS (.ro (ns.map D.int)) a b xs) ∧ Qy 0 (qS (.ro (ns.map D.int)) a b xs) 2 1 := by
  have sl64 : ∀ X : Sto, getSl (.ref 0) none (some 64) (.ro (ns.map D.int) :: X) = .ok (.ref (X.length + 1)) (.ro (ns.map D.int) :: X ++ [.lst (cutD (ns.map D.int) none (some 64))]) := fun X => rfl
  have sl48 : ∀ X : Sto, getSl (.ref 0) none (some 48) (.ro (ns.map D.int) :: X) = .ok (.ref (X.length + 1)) (.ro (ns.map D.int) :: X ++ [.lst (cutD (ns.map D.int) none (some 48))]) := fun X => rfl
  have cut48 : ∃ ys : List Int, cutD (ns.map D.int) none (some 48) = ys.map D.int ∧ ys.length ≤ 48 := by
    refine ⟨ns.take (min 48 ns.length), ?_, by rw [List.length_take]; omega⟩
    unfold cutD
    rw [HT.sIx_none, List.drop_zero, show (some (48 : Int)) = some ((48 : Nat) : Int) from rfl, HT.sIx_nat, List.length_map, Nat.sub_zero, List.map_take]
  obtain ⟨ys, hy, hyl⟩ := cut48
  generalize hL : (cutD (ns.map D.int) none (some 64)).length = L
  have hL2 : L ≤ 64 := by
    rw [← hL]; unfold cutD
    rw [HT.sIx_none, List.drop_zero, show (some (64 : Int)) = some ((64 : Nat) : Int) from rfl, HT.sIx_nat, List.length_take]; omega
  have m1 : mulOk 431 (L : Int) := mulOk_small (by decide) (by decide)
  obtain ⟨a', b', o2', o3', e, ha, wa, hb, hb2⟩ := quarry_loop (.ro (ns.map D.int)) (ys.map D.int) ys 0 (467009 + 431 * (L : Int)) 2 none none (by decide) w0 (by omega) (by omega) (by omega)
  refine ⟨a', b', ys.map D.int, ?_, ⟨by decide, a', b', 0, [], rfl, rfl, ha, wa.mono (by omega), hb, hb2, by decide, by decide, by decide, fun p hp => by cases hp⟩⟩
  have it : itI (slE (vE 0) noP (someP (cE (.int 48)))) [some (.ref 0), some (.ref 2), none, none] (.ro (ns.map D.int) :: [.dK [], .lst [.int 0, .int (467009 + 431 * (L : Int)), .int 0, .ref 1]]) =
      .ok ⟨ys.map D.int, [(3, .lst (ys.map D.int))]⟩ (qS (.ro (ns.map D.int)) 0 (467009 + 431 * (L : Int)) (ys.map D.int)) := by
    simp only [itI_eq, slE_eq, vE_0, R.bind_ok, noP_eq, someP_eq, cE_d, intOf_int, sl48, hy]
    exact itsOf_lst rfl
  have fr : forS (itI (slE (vE 0) noP (someP (cE (.int 48))))) (.nm 2) b__law_quarry_1 [some (.ref 0), some (.ref 2), none, none] (.ro (ns.map D.int) :: [.dK [], .lst [.int 0, .int (467009 + 431 * (L : Int)), .int 0, .ref 1]]) =
      .nx [some (.ref 0), some (.ref 2), o2', o3'] (qS (.ro (ns.map D.int)) a' b' (ys.map D.int)) := by rw [forS_of it]; exact e
  have ln64 : biE "len" (consA (slE (vE 0) noP (someP (cE (.int 64)))) nilA) [some (.ref 0), none, none, none] [.ro (ns.map D.int)] = .ok (.int L) [.ro (ns.map D.int)] := by
    have s := sl64 []
    have b := bi_len_lst (S := [.ro (ns.map D.int)] ++ [.lst (cutD (ns.map D.int) none (some 64))]) (n := 1) (xs := cutD (ns.map D.int) none (some 64)) rfl
    rw [hL] at b
    simp only [biE_eq, consA_eq, slE_eq, vE_0, R.bind_ok, noP_eq, someP_eq, cE_d, intOf_int, nilA_eq, s]
    rw [show ([] : Sto).length + 1 = 1 from rfl, b]
    exact gc_int
  have body : m__law_quarry [.ref 0] [.ro (ns.map D.int)] = .ok (.ref 2) (qS (.ro (ns.map D.int)) a' b' (ys.map D.int)) := by
    rw [e__law_quarry]
    have st : s__law_quarry_0 [some (.ref 0), none, none, none] [.ro (ns.map D.int)] = s__law_quarry_1 [some (.ref 0), some (.ref 2), none, none] (.ro (ns.map D.int) :: [.dK [], .lst [.int 0, .int (467009 + 431 * (L : Int)), .int 0, .ref 1]]) := by
      unfold s__law_quarry_0
      rw [seqS_sq]
      simp only [setS_eq, lstE_eq, consA_eq, cE_d, R.bind_ok, bE_eq, ln64, op_mul m1, op_add, nilA_eq, dctE]
      simp
    simp only [fn_def, List.length_cons, List.length_nil, Nat.zero_add, Nat.reduceAdd, if_true, List.map_cons, List.map_nil, Nat.reduceSub, List.replicate, List.cons_append, List.nil_append, st]
    unfold s__law_quarry_1 s__law_quarry_2
    rw [seqS_sq, fr]
    simp
  rw [body]
  unfold gc
  simp only
  rw [if_neg (by simp), if_pos ⟨by simp, fun i hi => .inl (by
    have : i = 0 := by simpa using hi
    subst this; rfl)⟩, if_neg (by simp [closedD])]
  simp [closedO, closedDs, closedD]
end Py
namespace Py
open PySem PySem.Spec L2 PyProof.Rows
theorem Qy.set {C : Nat} {S : Sto} {q dq i : Nat} {o : Ob} (h : Qy C S q dq) (h1 : i ≠ q) (h2 : i ≠ dq) : Qy C (S.set i o) q dq := by
  obtain ⟨ne, a, b, c, kvs, r1, r2, r⟩ := h
  exact ⟨ne, a, b, c, kvs, by rw [List.getElem?_set_ne h1]; exact r1, by rw [List.getElem?_set_ne h2]; exact r2, r⟩
theorem law_turn {C : Nat} {S : Sto} (fs : List Fm) (hf : fs.length ≤ 100) (hS : S[4]? = some (.lst (fs.map f4))) (h : Qy C S 2 1) (hC : C ≤ 70000) (o3 o4 o5 : Option D) :
    ∃ F S', b_law_1 [some (.ref 0), some (.ref 2), some (.ref 4), o3, o4, o5] S = .nx [some (.ref 0), some (.ref 2), some (.ref 4), o3, o4, some (f4 F)] S' ∧ Good F ∧ S'[4]? = some (.lst ((fs ++ [F]).map f4)) ∧ Qy (C + 30) S' 2 1 ∧ S'.length = S.length := by
  obtain ⟨F, S1, e1, g, Q1⟩ := run_form h (by omega)
  obtain ⟨S2, e2, Q2⟩ := run_roads g Q1.y (by omega)
  have Q := Q1.trans Q2
  have h4 : S2[4]? = some (.lst (fs.map f4)) := (Q.fr 4 (by decide) (by decide)).trans hS
  have l4 : 4 < S2.length := (List.getElem?_eq_some_iff.mp h4).1
  have ap := mth_append (x := f4 F) h4 (by rw [List.length_map]; exact Nat.lt_of_le_of_lt hf (by decide))
  refine ⟨F, S2.set 4 (.lst (fs.map f4 ++ [f4 F])), ?_, g, ?_, (Q.y.set (by decide) (by decide)).mono (by omega), by rw [List.length_set]; exact Q.len⟩
  · generalize f4 F = dF at *
    unfold b_law_1
    have hg : gc S2 (.ok .non (S2.set 4 (.lst (fs.map f4 ++ [dF])))) = .ok .non (S2.set 4 (.lst (fs.map f4 ++ [dF]))) := gc_same (by simp)
    simp [e1, gc_len Q1.len, e2, gc_len Q2.len, rcv_lst h4, ap, hg]
  · rw [List.getElem?_set_self l4]; simp
theorem law_loop : ∀ (ys : List D) {C : Nat} {S : Sto} (fs : List Fm), fs.length + ys.length ≤ 100 → (∀ F ∈ fs, Good F) → S[4]? = some (.lst (fs.map f4)) → Qy C S 2 1 → C + 30 * ys.length ≤ 60000 → ∀ (o3 o4 o5 : Option D),
    ∃ (gs : List Fm) (S' : Sto) (o3' o5' : Option D), forG (.nm 3) b_law_1 [] ys [some (.ref 0), some (.ref 2), some (.ref 4), o3, o4, o5] S = .nx [some (.ref 0), some (.ref 2), some (.ref 4), o3', o4, o5'] S' ∧ gs.length = fs.length + ys.length ∧ (∀ F ∈ gs, Good F) ∧ S'[4]? = some (.lst (gs.map f4)) ∧ Qy (C + 30 * ys.length) S' 2 1
  | [], C, S, fs, hl, hg, hS, h, hC, o3, o4, o5 => ⟨fs, S, o3, o5, forG_end guard_nil, by simp, hg, hS, by simpa using h⟩
  | y :: ys, C, S, fs, hl, hg, hS, h, hC, o3, o4, o5 => by
    simp only [List.length_cons] at hl hC ⊢
    obtain ⟨F, S1, e, g, hS1, h1, _⟩ := law_turn fs (by omega) hS h (by omega) (some y) o4 o5
    obtain ⟨gs, S2, o3', o5', e2, hl2, hg2, hS2, h2⟩ := law_loop ys (fs ++ [F]) (by simp; omega) (fun G hG => by
      rcases List.mem_append.mp hG with hG | hG
      · exact hg G hG
      · simp at hG; rw [hG]; exact g) hS1 h1 (by omega) (some y) o4 (some (f4 F))
    refine ⟨gs, S2, o3', o5', ?_, by rw [hl2]; simp; omega, hg2, hS2, h2.mono (by omega)⟩
    rw [forG_nx guard_nil bindT_nm e]
    exact e2
theorem law_true (ns : List Int) (hl : ns.length ≤ 63) (hb : ∀ z ∈ ns, Builtin.Int.intBits z ≤ 1048576) : ∃ S', m_law [.ref 0] [.ro (ns.map D.int)] = .ok (.bl true) S' := by
  obtain ⟨a, b, xs, eq, hq⟩ := run__law_quarry ns hl
  have hq4 : Qy 0 (qS (.ro (ns.map D.int)) a b xs ++ [.lst []]) 2 1 := by
    obtain ⟨ne, a', b', c', kvs, r1, r2, r⟩ := hq
    exact ⟨ne, a', b', c', kvs, r1, r2, r⟩
  obtain ⟨gs, S1, o3', o5', e1, l1, g1, s1, q1⟩ := law_loop (rangeL 0 5) (S := qS (.ro (ns.map D.int)) a b xs ++ [.lst []]) [] (by decide) (fun _ h => by cases h) rfl hq4 (by decide) none none none
  have hgs : ∃ F0 F1 gr, gs = F0 :: F1 :: gr := by
    match gs, l1 with
    | F0 :: F1 :: gr, _ => exact ⟨F0, F1, gr, rfl⟩
  obtain ⟨F0, F1, gr, rfl⟩ := hgs
  have G0 := g1 F0 (by simp)
  have G1 := g1 F1 (by simp)
  have rb := run__law_behind F0 F1 G0.m G1.m G0.w3 G1.w3
  have rj := run_joined F0 F1 G0.m G1.m G0.w3 G1.w3
  rw [joined_eq G0.m G1.m] at rj
  have hs := same_ok (d := oF (bh F0 F1)) pd_oF
  have cm := bh_cm (F := F0) (G := F1) G0.m G1.m
  have i0 : getIx (.ref 4) (.int 0) S1 = .ok (f4 F0) S1 := ix_lst s1 (atI_nat (k := 0))
  have i1 : getIx (.ref 4) (.int 1) S1 = .ok (f4 F1) S1 := ix_lst s1 (atI_nat (k := 1))
  have it : rgI (consA (cE (.int 5)) nilA) [some (.ref 0), some (.ref 2), some (.ref 4), none, none, none] (qS (.ro (ns.map D.int)) a b xs ++ [.lst []]) = .ok ⟨rangeL 0 5, []⟩ (qS (.ro (ns.map D.int)) a b xs ++ [.lst []]) := rgI_1 (j := 5) (by simp) (by decide) (by decide)
  have fr : forS (rgI (consA (cE (.int 5)) nilA)) (.nm 3) b_law_1 [some (.ref 0), some (.ref 2), some (.ref 4), none, none, none] (qS (.ro (ns.map D.int)) a b xs ++ [.lst []]) = .nx [some (.ref 0), some (.ref 2), some (.ref 4), o3', none, o5'] S1 := by rw [forS_of it]; exact e1
  have head : ∀ z, (s_law_3 [some (.ref 0), some (.ref 2), some (.ref 4), o3', none, o5'] S1).fin = z → m_law [.ref 0] [.ro (ns.map D.int)] = z := by
    intro z hz
    have h0 : s_law_0 [some (.ref 0), none, none, none, none, none] [.ro (ns.map D.int)] = s_law_1 [some (.ref 0), some (.ref 2), none, none, none, none] (qS (.ro (ns.map D.int)) a b xs) := by
      unfold s_law_0
      rw [seqS_sq]
      simp only [setS_eq, caE_eq, consA_eq, nilA_eq, vE_0, R.bind_ok, eq, R.st_ok, sq_nx]
      rfl
    have h1 : s_law_1 [some (.ref 0), some (.ref 2), none, none, none, none] (qS (.ro (ns.map D.int)) a b xs) = s_law_2 [some (.ref 0), some (.ref 2), some (.ref 4), none, none, none] (qS (.ro (ns.map D.int)) a b xs ++ [.lst []]) := by
      unfold s_law_1
      rw [seqS_sq]
      simp only [setS_eq, lstE_eq, nilA_eq, R.bind_ok, List.length_nil, if_pos len0, R.st_ok, sq_nx]
      rfl
    have h2 : s_law_2 [some (.ref 0), some (.ref 2), some (.ref 4), none, none, none] (qS (.ro (ns.map D.int)) a b xs ++ [.lst []]) = s_law_3 [some (.ref 0), some (.ref 2), some (.ref 4), o3', none, o5'] S1 := by
      unfold s_law_2
      rw [seqS_sq, fr]
      rfl
    have e : m_law [.ref 0] [.ro (ns.map D.int)] = (s_law_0 [some (.ref 0), none, none, none, none, none] [.ro (ns.map D.int)]).fin := by rw [e_law, fn_def]; rfl
    rw [e, h0, h1, h2]
    exact hz
  cases hB : bh F0 F1 with
  | none =>
    simp only [hB, oF] at rb rj hs
    refine ⟨S1, head _ ?_⟩
    generalize f4 F0 = d0 at *
    generalize f4 F1 = d1 at *
    simp [s_law_3, s_law_4, s_law_5, i0, i1, rb, kwG, rj, hs]
  | some H =>
    rw [hB] at cm
    simp only [hB, oF] at rb rj hs
    rw [show f4 H = tD H from rfl] at rb rj hs
    have hmay := run__law_may H cm.1.1
    rw [show f4 H = tD H from rfl] at hmay
    cases hm : mayB H with
    | false =>
      rw [hm] at hmay
      refine ⟨S1, head _ ?_⟩
      generalize f4 F0 = d0 at *
      generalize f4 F1 = d1 at *
      simp [s_law_3, s_law_4, s_law_5, i0, i1, rb, kwG, rj, hs, hmay]
    | true =>
      rw [hm] at hmay
      obtain ⟨S2, e2, Q2⟩ := run_roads (good_of cm.1 hm) q1 (by decide)
      rw [show f4 H = tD H from rfl] at e2
      refine ⟨S2, head _ ?_⟩
      generalize f4 F0 = d0 at *
      generalize f4 F1 = d1 at *
      simp [s_law_3, s_law_4, s_law_5, i0, i1, rb, kwG, rj, hs, hmay, e2, gc_len Q2.len]
end Py
namespace Py
open PySem PySem.Spec L2 PyProof.Rows
theorem walk {q : Program} {loose : List Str} {XP : (Str → Option Value) → Heap → Prop} {YP : World → Heap → Prop} {d : DefRec} {K : Params → PySem.W.Frag} (hd : d.name = "law") (hdf : d.params.defaults = [])
    (hY : ∀ (w : World) (h : Heap), YP w h → (K w.params).In h) (F : ∀ (w : World) (mg : Str → Option Value) (h : Heap), (K w.params).In h → h.Ns mainGlobals mg → Env1 (K w.params) mg h) :
    PySem.W.WalkO q loose XP YP PySem.Challenge.rw_whichpass_k21_fixed_numbers.row.toRowW d [] (fun f vs => PySem.call f vs) :=
  law_end (n := 63) (k := 6) (N := ["script", "quarry", "told", "lap", "both", "form"]) (st := top 40) (fns := [("_law_quarry", c__law_quarry), ("_law_behind", c__law_behind), ("_law_form", c__law_form), ("_law_same", c__law_same), ("_law_roads", c__law_roads), ("joined", c_joined), ("_law_may", c__law_may)]) (cons := []) rfl (by decide) hdf ⟨rfl, by decide, by decide⟩ hY
    (fun w mg h KX G => let E := F w mg h KX G; ⟨hd ▸ E.T.law, E.M, fun base => lib_law E⟩) sc_law (hd ▸ bi_law) law_true
theorem env_mk {K : PySem.W.Frag} {mg : Str → Option Value} {h : Heap} (X : K.In h) (G : h.Ns mainGlobals mg) (bl : ∀ f ∈ blNames, mg f = none) (T : Tops K) : Env1 K mg h :=
  ⟨X, G, ⟨bl, fun x d e => by cases e⟩, T⟩
end Py
open PySem PySem.W PyProof.Rows in
set_option maxRecDepth 100000 in
set_option maxHeartbeats 0 in
theorem PySem.Challenge.cw_whichpass_k21_fixed_numbers_holds : PySem.Challenge.rw_whichpass_k21_fixed_numbers.Holds := by
  w_on; o_law; k_head; (case hw => w_witness2)
  k_fill
  refine Py.walk rfl rfl (fun w h Y => PySem.W.kIn_of Y) ?F
  case F =>
    intro w mg h KX G
    refine Py.env_mk KX G ?bl ?tops
    case bl =>
      refine' Py.bl_mk KX G ?b1 ?b2 ?b3 ?b4 ?b5 ?b6 ?b7 ?b8 ?b9 ?b10 ?b11 ?b12 ?b13 ?b14 ?b15 ?b16 ?b17
      (case b1 => k_is)
      (case b2 => k_is)
      (case b3 => k_is)
      (case b4 => k_is)
      (case b5 => k_is)
      (case b6 => k_is)
      (case b7 => k_is)
      (case b8 => k_is)
      (case b9 => k_is)
      (case b10 => k_is)
      (case b11 => k_is)
      (case b12 => k_is)
      (case b13 => k_is)
      (case b14 => k_is)
      (case b15 => k_is)
      (case b16 => k_is)
      (case b17 => k_is)
    case tops =>
      refine Py.Tops.mk ?t0 ?t1 ?t2 ?t3 ?t4 ?t5 ?t6 ?t7 ?t8 ?t9 ?t10 ?t11 ?t12 ?t13 ?t14 ?t15 ?t16 ?t17 ?t18 ?t19 ?t20 ?t21 ?t22 ?t23 ?t24 ?t25 ?t26 ?t27 ?t28 ?t29 ?t30
      case t0 =>
        refine' Py.defAt_mk ?a ?l ?c ?k
        (case a => k_is)
        (case l => k_is)
        (case c => k_is)
        (case k => k_is)
      case t1 =>
        refine' Py.defAt_mk ?a ?l ?c ?k
        (case a => k_is)
        (case l => k_is)
        (case c => k_is)
        (case k => k_is)
      case t2 =>
        refine' Py.defAt_mk ?a ?l ?c ?k
        (case a => k_is)
        (case l => k_is)
        (case c => k_is)
        (case k => k_is)
      case t3 =>
        refine' Py.defAt_mk ?a ?l ?c ?k
        (case a => k_is)
        (case l => k_is)
        (case c => k_is)
        (case k => k_is)
      case t4 =>
        refine' Py.defAt_mk ?a ?l ?c ?k
        (case a => k_is)
        (case l => k_is)
        (case c => k_is)
        (case k => k_is)
      case t5 =>
        refine' Py.defAt_mk ?a ?l ?c ?k
        (case a => k_is)
        (case l => k_is)
        (case c => k_is)
        (case k => k_is)
      case t6 =>
        refine' Py.defAt_mk ?a ?l ?c ?k
        (case a => k_is)
        (case l => k_is)
        (case c => k_is)
        (case k => k_is)
      case t7 =>
        refine' Py.defAt_mk ?a ?l ?c ?k
        (case a => k_is)
        (case l => k_is)
        (case c => k_is)
        (case k => k_is)
      case t8 =>
        refine' Py.defAt_mk ?a ?l ?c ?k
        (case a => k_is)
        (case l => k_is)
        (case c => k_is)
        (case k => k_is)
      case t9 =>
        refine' Py.defAt_mk ?a ?l ?c ?k
        (case a => k_is)
        (case l => k_is)
        (case c => k_is)
        (case k => k_is)
      case t10 =>
        refine' Py.defAt_mk ?a ?l ?c ?k
        (case a => k_is)
        (case l => k_is)
        (case c => k_is)
        (case k => k_is)
      case t11 =>
        refine' Py.defAt_mk ?a ?l ?c ?k
        (case a => k_is)
        (case l => k_is)
        (case c => k_is)
        (case k => k_is)
      case t12 =>
        refine' Py.defAt_mk ?a ?l ?c ?k
        (case a => k_is)
        (case l => k_is)
        (case c => k_is)
        (case k => k_is)
      case t13 =>
        refine' Py.defAt_mk ?a ?l ?c ?k
        (case a => k_is)
        (case l => k_is)
        (case c => k_is)
        (case k => k_is)
      case t14 =>
        refine' Py.defAt_mk ?a ?l ?c ?k
        (case a => k_is)
        (case l => k_is)
        (case c => k_is)
        (case k => k_is)
      case t15 =>
        refine' Py.defAt_mk ?a ?l ?c ?k
        (case a => k_is)
        (case l => k_is)
        (case c => k_is)
        (case k => k_is)
      case t16 =>
        refine' Py.defAt_mk ?a ?l ?c ?k
        (case a => k_is)
        (case l => k_is)
        (case c => k_is)
        (case k => k_is)
      case t17 =>
        refine' Py.defAt_mk ?a ?l ?c ?k
        (case a => k_is)
        (case l => k_is)
        (case c => k_is)
        (case k => k_is)
      case t18 =>
        refine' Py.defAt_mk ?a ?l ?c ?k
        (case a => k_is)
        (case l => k_is)
        (case c => k_is)
        (case k => k_is)
      case t19 =>
        refine' Py.defAt_mk ?a ?l ?c ?k
        (case a => k_is)
        (case l => k_is)
        (case c => k_is)
        (case k => k_is)
      case t20 =>
        refine' Py.defAt_mk ?a ?l ?c ?k
        (case a => k_is)
        (case l => k_is)
        (case c => k_is)
        (case k => k_is)
      case t21 =>
        refine' Py.defAt_mk ?a ?l ?c ?k
        (case a => k_is)
        (case l => k_is)
        (case c => k_is)
        (case k => k_is)
      case t22 =>
        refine' Py.defAt_mk ?a ?l ?c ?k
        (case a => k_is)
        (case l => k_is)
        (case c => k_is)
        (case k => k_is)
      case t23 =>
        refine' Py.defAt_mk ?a ?l ?c ?k
        (case a => k_is)
        (case l => k_is)
        (case c => k_is)
        (case k => k_is)
      case t24 =>
        refine' Py.defAt_mk ?a ?l ?c ?k
        (case a => k_is)
        (case l => k_is)
        (case c => k_is)
        (case k => k_is)
      case t25 =>
        refine' Py.defAt_mk ?a ?l ?c ?k
        (case a => k_is)
        (case l => k_is)
        (case c => k_is)
        (case k => k_is)
      case t26 =>
        refine' Py.defAt_mk ?a ?l ?c ?k
        (case a => k_is)
        (case l => k_is)
        (case c => k_is)
        (case k => k_is)
      case t27 =>
        refine' Py.defAt_mk ?a ?l ?c ?k
        (case a => k_is)
        (case l => k_is)
        (case c => k_is)
        (case k => k_is)
      case t28 =>
        refine' Py.defAt_mk ?a ?l ?c ?k
        (case a => k_is)
        (case l => k_is)
        (case c => k_is)
        (case k => k_is)
      case t29 =>
        refine' Py.defAt_mk ?a ?l ?c ?k
        (case a => k_is)
        (case l => k_is)
        (case c => k_is)
        (case k => k_is)
      case t30 =>
        refine' Py.defAt_mk ?a ?l ?c ?k
        (case a => k_is)
        (case l => k_is)
        (case c => k_is)
        (case k => k_is)
#print axioms PySem.Challenge.cw_whichpass_k21_fixed_numbers_holds
