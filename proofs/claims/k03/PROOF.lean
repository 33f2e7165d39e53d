import PyProof.Rows.All
import HandS.ForMost
import HandS.ForExc
import HandS.Wide
import PyProof.EqLayable
import PyProof.ReprReads
import HandS.EndBits
import HandS.CallSlots
import HandS.Deep
import HandS.Style
import HandS.TupAny
import PyProof.ReprRoads
import PyProof.CallFns
import HandS.Star
import HandS.Property
import HandS.FStr
import HandS.IsInst
import HandS.Defaults
import HandS.ExcInit
import KE.KExcIs
import HandS.Exc
import HandS.ExcField
import HandS.Text
import HandS.Dict
import HandS.Comp
import HandS.Iter
import HandS.Zip
import HandS.Small
import HandS.Codes
import HandS.HeadHook2
import HandS.Head2
import HandS.HeadEnd
import PyProof.ReprLoop
import PyProof.FitsInt
import PyProof.StrLawsRepr
import PySem.Challenge.RW_keysthrough_k03_books_that_are_none
section
set_option Elab.async false
set_option linter.all false
/-! K9Core: values as trees (D), a store of mutable objects (Sto), an own small syntax (Ex, Sm) for the dialect of the program and the laws, and its evaluator. -/
namespace K9
open PySem
abbrev Key := L2.Key

/-- a value: a scalar, a tuple, a list that is never changed any more, a dict, an instance likewise, an error, a mutable object of the store, an own accumulator of the frame; own: a list, dict, instance just made, which nothing holds as yet; scr: the law's script, a list that is only read -/
inductive D where
  | non | bl (b : Bool) | int (i : Int) | str (s : Str)
  | tup (xs : List D)
  | lst (xs : List D)
  | dct (ks : List Key) (vs : List D)
  | ins (c : Nat) (fs : List Str) (vs : List D)
  | dcf (ks : List Key) (vs : List D)
  | exc (c : Nat) (d : D)
  | ref (n : Nat)
  | acc (i : Nat)
  | own (d : D)
  | scr (xs : List D)
  deriving Inhabited

/-- a mutable object -/
inductive Ob where
  | lst (xs : List D)
  | dct (ks : List Key) (vs : List D)
  | ins (c : Nat) (fs : List Str) (vs : List D)
  deriving Inhabited

abbrev Sto := List Ob

/-- what a name holds -/
inductive Slot where
  | no
  | fz (d : D)
  | al (o : Ob)
  deriving Inhabited

abbrev Env := List Slot

/-- an outcome -/
inductive R (α : Type) where
  | ok (a : α) (S : Sto)
  | er (c : Nat) (d : D) (S : Sto)
  | bad

def R.bind {α β : Type} (r : R α) (k : α → Sto → R β) : R β := match r with
  | .ok a S => k a S
  | .er c d S => .er c d S
  | .bad => .bad
/-- what is just made is held from now on -/
def rd : D → D
  | .own d => d
  | d => d
def R.bindR {β : Type} (r : R D) (k : D → Sto → R β) : R β := match r with
  | .ok a S => k (rd a) S
  | .er c d S => .er c d S
  | .bad => .bad
/-- only if -/
def chk {α : Type} (p : Prop) [Decidable p] (r : R α) : R α := if p then r else .bad
/-- by a truth -/
def ifD {α : Type} (d : D) (f g : R α) : R α := match d with
  | .bl true => f
  | .bl false => g
  | _ => .bad
def oget {α β : Type} (o : Option α) (k : α → R β) : R β := match o with
  | some a => k a
  | none => .bad

/-! ### syntax -/
inductive Bop where | add | sub | mul | fdiv | mod | pow
  deriving DecidableEq
inductive Cop where | eq | ne | lt | le | gt | ge | is | isn | isin | nin
  deriving DecidableEq
/-- built-in functions and types that are called -/
inductive Bi where | abs | all | any | dict | int | len | list | max | min | repr | sorted | str | sum | tuple
  deriving DecidableEq
/-- methods of built-in types -/
inductive Mt where | append | clear | count | extend | get | index | insert | items | join | partition | pop | replace | reverse | split | update | upper | values
  deriving DecidableEq
/-- classes that isinstance asks for -/
inductive Ty where | list | tuple | int | str | bool | dict | valueError | cls (c : Nat)
  deriving DecidableEq

mutual
inductive Ex where
  | non | bl (b : Bool) | int (i : Int) | str (s : Str)
  | var (i : Nat)
  | bin (op : Bop) (a b : Ex)
  | neg (a : Ex)
  | cmp (op : Cop) (a b : Ex)
  | cmp2 (o1 o2 : Cop) (a b c : Ex)
  | and (a b : Ex) | or (a b : Ex) | not (a : Ex)
  | ite (c a b : Ex)
  | tup (es : Exs)
  | lst (es : Exs)
  | dict0
  | call (f : Nat) (es : Exs)
  | callk (f : Nat) (es : Exs) (ks : Exs) (perm : List Nat)
  | make (c : Nat) (es : Exs)
  | makek (c : Nat) (es : Exs) (ks : Exs) (perm : List Nat)
  | bi (b : Bi) (es : Exs)
  | isi (a : Ex) (ts : List Ty)
  | mt (x : Mt) (o : Ex) (es : Exs)
  | meth (x : Str) (o : Ex) (es : Exs)
  | fld (o : Ex) (f : Str)
  | ix (a i : Ex)
  | sl (a lo hi : Ex)
  | rev (a : Ex)
  | ref (e : Ex)
  | lc (own : List Nat) (tg : List Nat) (it : It) (c : Ex) (elt : Ex)
  | gget (t : Nat) (k : Ex)
  | fstr (ps : Exs)
inductive Exs where
  | nil
  | cons (star : Bool) (e : Ex) (es : Exs)
/-- what is walked -/
inductive It where
  | seq (e : Ex) | rng1 (n : Ex) | rng2 (a b : Ex) | enum (e : Ex) | zip (a b : Ex)
end

mutual
inductive Sm where
  | asg (i : Nat) (e : Ex)
  | acc (i : Nat) (e : Ex)
  | frz (i : Nat)
  | frzd (i : Nat)
  | unp (is : List Nat) (e : Ex)
  | par (is : List Nat) (es : Exs)
  | setix (o i e : Ex)
  | setfld (o : Ex) (f : Str) (e : Ex)
  | mut (x : Mt) (o : Ex) (es : Exs)
  | expr (e : Ex)
  | ret (e : Ex)
  | ite (c : Ex) (a b : Sms)
  | for_ (tg : List Nat) (it : It) (b : Sms)
  | whl (c : Ex) (b : Sms)
  | raise (c : Nat) (e : Ex)
  | tryE (j : Nat) (e : Ex) (c : Nat) (i k : Nat)
  | tryR (j : Nat) (e : Ex) (cs : List Nat) (i : Nat) (c : Nat) (v : Ex)
  | cont | pass
inductive Sms where
  | nil
  | cons (s : Sm) (ss : Sms)
end

/-- walks that give new pairs -/
def needTup : It → Bool
  | .enum _ => true
  | .zip _ _ => true
  | _ => false
/-! ### reading values -/
def D.isAcc : D → Bool
  | .acc _ => true
  | _ => false
/-- the content of a list, dict, instance -/
def cont (env : Env) (S : Sto) : D → Option Ob
  | .lst xs => some (.lst xs)
  | .dct ks vs => some (.dct ks vs)
  | .ins c fs vs => some (.ins c fs vs)
  | .ref n => S[n]?
  | .acc i => match env[i]? with
    | some (.al o) => some o
    | _ => none
  | _ => none
def lstOf (env : Env) (S : Sto) (d : D) : Option (List D) := match cont env S d with
  | some (.lst xs) => some xs
  | _ => none
/-- a list's or a tuple's items -/
def seqOf (env : Env) (S : Sto) (d : D) : Option (List D) := match d with
  | .tup xs => some xs
  | d => lstOf env S d
def keyOf : D → Option Key
  | .int i => some (Sum.inl i)
  | .str s => some (Sum.inr s)
  | _ => none
def keyD : Key → D
  | .inl i => .int i
  | .inr s => .str s
/-- the value at a key -/
def lookD : List Key → List D → Key → Option D
  | k :: ks, v :: vs, x => if x = k then some v else lookD ks vs x
  | _, _, _ => none
/-- whether a key is there -/
def hasKey (ks : List Key) (k : Key) : Bool := ks.any fun j => decide (j = k)
/-- the values with that of a key exchanged -/
def swapD (x : Key) (y : D) : List Key → List D → List D
  | k :: ks, v :: vs => (if k = x then y else v) :: swapD x y ks vs
  | _, _ => []
/-- a key's value stored: in its place, or behind -/
def putD (ks : List Key) (vs : List D) (x : Key) (y : D) : List Key × List D := if hasKey ks x = true then (ks, swapD x y ks vs) else (ks ++ [x], vs ++ [y])
def lookF : List Str → List D → Str → Option D
  | k :: ks, v :: vs, x => if x = k then some v else lookF ks vs x
  | _, _, _ => none
def putFd : List Str → List D → Str → D → List Str × List D
  | k :: ks, v :: vs, x, y => if x = k then (k :: ks, y :: vs) else ((k :: (putFd ks vs x y).1), (v :: (putFd ks vs x y).2))
  | _, _, x, y => ([x], [y])

/-- as the library's data, to a depth -/
def py (S : Sto) : Nat → D → Option PyData
  | 0, _ => none
  | n + 1, d => match d with
    | .non => some .none
    | .bl b => some (.bool b)
    | .int i => some (.int i)
    | .str s => some (.str s)
    | .tup xs => (xs.mapM (py S n)).map .tuple
    | .lst xs => (xs.mapM (py S n)).map .list
    | .ref k => match S[k]? with
      | some (.lst xs) => (xs.mapM (py S n)).map .list
      | _ => none
    | _ => none
def pyRoot (env : Env) (S : Sto) (d : D) : Option PyData := match d with
  | .acc i => match cont env S (.acc i) with
    | some (.lst xs) => (xs.mapM (py S 60)).map .list
    | _ => none
  | d => py S 61 d

/-! ### making values -/
def line : Nat := sizeLine
/-- a new list -/
def mkL (xs : List D) (S : Sto) : R D := chk (xs.length ≤ sizeLine) (.ok (.own (.lst xs)) S)
/-- the content as an object -/
def obOf : D → Option Ob
  | .lst xs => some (.lst xs)
  | .dct ks vs => some (.dct ks vs)
  | .ins c fs vs => some (.ins c fs vs)
  | _ => none
/-- a list or a dict as an object -/
def accOb : D → Option Ob
  | .lst xs => some (.lst xs)
  | .dct ks vs => some (.dct ks vs)
  | _ => none
/-- .. and back -/
def Ob.d : Ob → D
  | .lst xs => .lst xs
  | .dct ks vs => .dct ks vs
  | .ins c fs vs => .ins c fs vs

/-! ### operators -/
def binI (op : Bop) (i j : Int) (S : Sto) : R D := match op with
  | .add => .ok (.int (i + j)) S
  | .sub => .ok (.int (i - j)) S
  | .mul => chk ((-(2 ^ 64) < i ∧ i < 2 ^ 64) ∨ (-(2 ^ 64) < j ∧ j < 2 ^ 64)) (.ok (.int (i * j)) S)
  | .fdiv => chk (0 < j ∧ j.natAbs < 2 ^ 1000) (.ok (.int (i / j)) S)
  | .mod => chk (0 < j) (.ok (.int (i % j)) S)
  | .pow => chk (0 ≤ j ∧ j ≤ 1000 ∧ i.natAbs < 2 ^ 1000) (.ok (.int (i ^ j.toNat)) S)
def binD (op : Bop) (a b : D) (env : Env) (S : Sto) : R D := match a, b with
  | .int i, .int j => binI op i j S
  | .str x, .str y => match op with
    | .add => chk (x.length + y.length ≤ sizeLine) (.ok (.str (x ++ y)) S)
    | _ => .bad
  | .tup xs, .tup ys => match op with
    | .add => chk (xs ≠ [] ∧ xs.length + ys.length ≤ sizeLine) (.ok (.tup (xs ++ ys)) S)
    | _ => .bad
  | a, b => match op with
    | .add => oget (lstOf env S a) fun xs => oget (lstOf env S b) fun ys => mkL (xs ++ ys) S
    | _ => .bad
/-- None, truths, ints, texts -/
def flatD : D → Bool
  | .non => true | .bl _ => true | .int _ => true | .str _ => true
  | _ => false
/-- == of such -/
def eqF : D → D → Bool
  | .non, .non => true
  | .bl a, .bl b => a == b
  | .bl a, .int b => (if a then 1 else 0) == b
  | .int a, .bl b => a == (if b then 1 else 0)
  | .int a, .int b => a == b
  | .str a, .str b => a == b
  | _, _ => false
def eqD (env : Env) (S : Sto) (a b : D) : Option Bool := if flatD a && flatD b then some (eqF a b) else match pyRoot env S a, pyRoot env S b with
  | some p, some q => if p.canLay0 && q.canLay0 then some (PyData.eqv p q) else none
  | _, _ => none
def inStr (x y : Str) : Bool := !(Builtin.Str.occurrences y x 0 y.length 1).isEmpty
def memP (p : PyData) (qs : List PyData) : Bool := qs.any fun q => PyData.eqv q p
def inD (env : Env) (S : Sto) (a b : D) : Option Bool := match b with
  | .str y => match a with
    | .str x => some (inStr x y)
    | _ => none
  | .dcf ks _ => (keyOf a).map (hasKey ks)
  | b => match seqOf env S b with
    | some xs => if flatD a && xs.all flatD then some (xs.any fun y => eqF y a) else match py S 60 a, xs.mapM (py S 60) with
        | some p, some qs => if p.canLay0 && PyData.canLayAll0 qs then some (memP p qs) else none
        | _, _ => none
    | none => match cont env S b, keyOf a with
      | some (.dct ks _), some k => some (hasKey ks k)
      | _, _ => none
def isNon : D → Option Bool
  | .non => some true
  | .acc _ => none
  | _ => some false
def cmpD (op : Cop) (a b : D) (env : Env) (S : Sto) : Option Bool := match op with
  | .eq => eqD env S a b
  | .ne => (eqD env S a b).map (!·)
  | .is => match b with
    | .non => isNon a
    | _ => none
  | .isn => match b with
    | .non => (isNon a).map (!·)
    | _ => none
  | .isin => inD env S a b
  | .nin => (inD env S a b).map (!·)
  | .lt => match a, b with | .int i, .int j => some (decide (i < j)) | _, _ => none
  | .le => match a, b with | .int i, .int j => some (decide (i ≤ j)) | _, _ => none
  | .gt => match a, b with | .int i, .int j => some (decide (j < i)) | _, _ => none
  | .ge => match a, b with | .int i, .int j => some (decide (j ≤ i)) | _, _ => none
def boolsD : List D → Option (List Bool)
  | [] => some []
  | .bl b :: r => (boolsD r).map (b :: ·)
  | _ => none
def intsD : List D → Option (List Int)
  | [] => some []
  | .int b :: r => (intsD r).map (b :: ·)
  | _ => none
def strsD : List D → Option (List Str)
  | [] => some []
  | .str b :: r => (strsD r).map (b :: ·)
  | _ => none
/-- a built-in that is called -/
def biD (f : Bi) (ds : List D) (env : Env) (S : Sto) : R D := match f, ds with
  | .abs, [.int i] => .ok (.int (if i < 0 then -i else i)) S
  | .all, [d] => oget (lstOf env S d) fun xs => oget (boolsD xs) fun bs => .ok (.bl (bs.all id)) S
  | .any, [d] => oget (lstOf env S d) fun xs => oget (boolsD xs) fun bs => .ok (.bl (bs.any id)) S
  | .int, [.int i] => .ok (.int i) S
  | .int, [.bl b] => .ok (.int (if b then 1 else 0)) S
  | .len, [.str s] => chk (s.length ≤ sizeLine) (.ok (.int s.length) S)
  | .len, [.scr xs] => .ok (.int xs.length) S
  | .len, [.dcf ks _] => .ok (.int ks.length) S
  | .len, [d] => match seqOf env S d with
    | some xs => .ok (.int xs.length) S
    | none => match cont env S d with
      | some (.dct ks _) => .ok (.int ks.length) S
      | _ => .bad
  | .list, [d] => oget (seqOf env S d) fun xs => mkL xs S
  | .tuple, [.tup xs] => .ok (.tup xs) S
  | .tuple, [d] => oget (lstOf env S d) fun xs => .ok (.tup xs) S
  | .max, [.int i, .int j] => .ok (.int (if j > i then j else i)) S
  | .min, [.int i, .int j] => .ok (.int (if j < i then j else i)) S
  | .sum, [d] => oget (lstOf env S d) fun xs => oget (intsD xs) fun ns => .ok (.int ns.sum) S
  | .str, [.int i] => chk (i.natAbs.log2 < 1920) (.ok (.str (Str.ofString (toString i))) S)
  | .repr, [d] => oget (pyRoot env S d) fun p => chk (p.showable = true ∧ p.shown.length ≤ sizeLine) (.ok (.str p.shown) S)
  | _, _ => .bad
/-- a value within an f-string -/
def ptext : D → Option Str
  | .str s => some s
  | .int i => if i.natAbs.log2 < 1920 then some (Str.ofString (toString i)) else none
  | _ => none
/-- what type() tells of a value -/
inductive TyD where
  | b (t : String)
  | own (c : Nat)
def tyD (sub : Nat → Ty → Option Bool) (env : Env) (S : Sto) (d : D) : Option TyD := match d with
  | .non => some (.b "NoneType")
  | .bl _ => some (.b "bool")
  | .int _ => some (.b "int")
  | .str _ => some (.b "str")
  | .tup _ => some (.b "tuple")
  | .exc c _ => if sub c .valueError = some true then some (.own c) else none
  | d => match cont env S d with
    | some (.lst _) => some (.b "list")
    | some (.dct _ _) => some (.b "dict")
    | some (.ins c _ _) => if sub c .valueError = some false then some (.own c) else none
    | none => none
/-- isinstance of a built-in type's value -/
def btSub (sub : Nat → Ty → Option Bool) (t : String) : Ty → Option Bool
  | .list => some (t == "list")
  | .tuple => some (t == "tuple")
  | .int => some (t == "int" || t == "bool")
  | .str => some (t == "str")
  | .bool => some (t == "bool")
  | .dict => some (t == "dict")
  | .valueError => some false
  | .cls c => (sub c .valueError).map fun _ => false
def tyIs (sub : Nat → Ty → Option Bool) : TyD → Ty → Option Bool
  | .b t, x => btSub sub t x
  | .own c, x => sub c x
def tyAny (sub : Nat → Ty → Option Bool) (t : TyD) : List Ty → Option Bool
  | [] => some false
  | x :: xs => match tyIs sub t x with
    | some true => some true
    | some false => tyAny sub t xs
    | none => none
/-- an index from either end -/
def atD (xs : List D) (i : Int) : Option D := L2.atI xs i
def ixD (a i : D) (env : Env) (S : Sto) : R D := match a, i with
  | .scr xs, .int k => oget (L2.atI xs k) fun d => .ok d S
  | .dcf ks vs, i => oget (keyOf i) fun k => oget (lookD ks vs k) fun d => .ok d S
  | .str s, .int k => chk (s.length ≤ sizeLine) (oget (L2.atI s.cps.toList k) fun c => .ok (.str ⟨#[c]⟩) S)
  | a, i => match seqOf env S a, i with
    | some xs, .int k => oget (L2.atI xs k) fun d => .ok d S
    | some _, _ => .bad
    | none, i => match cont env S a, keyOf i with
      | some (.dct ks vs), some k => oget (lookD ks vs k) fun d => .ok d S
      | _, _ => .bad
/-- a part of a slice: left out, or an int -/
def partR (e : Ex) (r : R D) : R (Option Int) := match e with
  | .non => r.bindR fun _ S => .ok none S
  | _ => r.bindR fun d S => match d with
    | .int i => .ok (some i) S
    | _ => .bad
def cutL {α : Type} (xs : List α) (lo hi : Option Int) : List α := (xs.drop (HT.sIx xs.length 0 lo)).take (HT.sIx xs.length xs.length hi - HT.sIx xs.length 0 lo)
def slD (a : D) (l h : Option Int) (env : Env) (S : Sto) : R D := match a with
  | .str s => chk (s.length ≤ sizeLine) (.ok (.str ⟨(cutL s.cps.toList l h).toArray⟩) S)
  | .tup xs => .ok (.tup (cutL xs l h)) S
  | a => oget (lstOf env S a) fun xs => mkL (cutL xs l h) S
def revD (a : D) (env : Env) (S : Sto) : R D := oget (lstOf env S a) fun xs => mkL xs.reverse S
/-- a method of a built-in type that changes nothing -/
def mtD (x : Mt) (o : D) (ds : List D) (env : Env) (S : Sto) : R D := match x, o, ds with
  | .join, .str s, [d] => oget (lstOf env S d) fun xs => oget (strsD xs) fun ts => chk ((ts.map Str.length).sum + s.length * ts.length ≤ sizeLine) (.ok (.str (Str.join s ts)) S)
  | .get, d, [k] => match cont env S d, keyOf k with
    | some (.dct ks vs), some k => .ok ((lookD ks vs k).getD .non) S
    | _, _ => .bad
  | .get, d, [k, e] => match cont env S d, keyOf k with
    | some (.dct ks vs), some k => .ok ((lookD ks vs k).getD e) S
    | _, _ => .bad
  | .upper, .str s, [] => chk (s.length ≤ 5592405) (.ok (.str (Txt.upper s)) S)
  | .partition, .str s, [.str t] => chk ((t.length == 0) = false ∧ s.length ≤ sizeLine) (.ok (.tup [.str (Txt.partition s t).1, .str (Txt.partition s t).2.1, .str (Txt.partition s t).2.2]) S)
  | .split, .str s, [.str t] => chk ((t.length == 0) = false ∧ s.length + 2 ≤ sizeLine) (.ok (.own (.lst ((Txt.split s t).map D.str))) S)
  | _, _, _ => .bad
/-- whether the value is of the type whose method it is -/
def mtTy (x : Mt) (env : Env) (S : Sto) (d : D) : Bool := match x with
  | .join => match d with | .str _ => true | _ => false
  | .partition => match d with | .str _ => true | _ => false
  | .replace => match d with | .str _ => true | _ => false
  | .split => match d with | .str _ => true | _ => false
  | .upper => match d with | .str _ => true | _ => false
  | .get => match cont env S d with | some (.dct _ _) => true | _ => false
  | .items => match cont env S d with | some (.dct _ _) => true | _ => false
  | .update => match cont env S d with | some (.dct _ _) => true | _ => false
  | .values => match cont env S d with | some (.dct _ _) => true | _ => false
  | _ => match cont env S d with | some (.lst _) => true | _ => false
/-- a method that changes its object: the object behind it -/
def mutD (x : Mt) (o : Ob) (ds : List D) (env : Env) (S : Sto) : Option Ob := match x, o, ds with
  | .append, .lst xs, [d] => if xs.length < sizeLine then some (.lst (xs ++ [d])) else none
  | .reverse, .lst xs, [] => some (.lst xs.reverse)
  | .clear, .lst xs, [] => some (.lst [])
  | .extend, .lst xs, [d] => match lstOf env S d with
    | some ys => if xs.length + ys.length ≤ sizeLine then some (.lst (xs ++ ys)) else none
    | none => none
  | _, _, _ => none

/-! ### the evaluator -/
structure Ctx where
  call : Nat → List D → Sto → R D
  make : Nat → List D → Sto → R D
  meth : Nat → Str → Option Nat
  attr : Nat → Str → Option (Option Nat)
  sub : Nat → Ty → Option Bool
  gd : Nat → Option (List (Str × Int))
  wf : Nat

def noAcc (d : D) (r : R D) : R D := if d.isAcc then .bad else r
def setAll : Env → List Nat → List D → Env
  | env, i :: is, d :: ds => setAll (env.set i (.fz d)) is ds
  | env, _, _ => env
/-- several targets for a tuple -/
def tupT (is : List Nat) (x : D) (env : Env) : Option Env := match x with
  | .tup xs => if xs.length = is.length then some (setAll env is xs) else none
  | _ => none
/-- a target: one name, or several for a tuple -/
def asgT (tg : List Nat) (x : D) (env : Env) : Option Env := match tg with
  | [i] => if x.isAcc then none else some (env.set i (.fz x))
  | is => tupT is x env
def wipeE : Env → List Nat → Env
  | env, [] => env
  | env, v :: vs => (wipeE env vs).set v .no
/-- the store's lists that are walked still hold these items -/
def Live (S : Sto) (l : List (Nat × List D)) : Prop := ∀ p ∈ l, S[p.1]? = some (.lst p.2)
open Classical in
noncomputable def chkLive {α : Type} (S : Sto) (l : List (Nat × List D)) (r : R α) : R α := match l with
  | [] => r
  | l => if Live S l then r else .bad
/-- what is walked: its items, the store's lists that must stay, whether it is the frame's own -/
structure Wk where
  xs : List D
  live : List (Nat × List D)
  acc : Bool
def liveOf (d : D) (xs : List D) : List (Nat × List D) := match d with
  | .ref n => [(n, xs)]
  | _ => []
/-- a comprehension's turns -/
noncomputable def lcGo (c elt : Env → Sto → R D) (tg : List Nat) (env : Env) (live : List (Nat × List D)) : List D → List D → Sto → R (List D)
  | [], ys, S => chkLive S live (.ok ys S)
  | x :: xs, ys, S => chkLive S live (oget (asgT tg x env) fun e => (c e S).bindR fun b S1 => ifD b
      ((elt e S1).bindR fun y S2 => if y.isAcc then .bad else chk (ys.length < sizeLine) (lcGo c elt tg env live xs (ys ++ [y]) S2))
      (lcGo c elt tg env live xs ys S1))
/-- the numbers of a range -/
def upTo (a : Int) (n : Nat) : List D := (List.range n).map fun (k : Nat) => D.int (a + (k : Int))
def rngOk (a : Int) : Prop := -(2 ^ 62) ≤ a ∧ a < 2 ^ 62
instance (a : Int) : Decidable (rngOk a) := by unfold rngOk; infer_instance
/-- an error leaves no comprehension -/
def noEr {α : Type} : R α → R α
  | .er _ _ _ => .bad
  | r => r
/-- an attribute of a value -/
def fldD (C : Ctx) (f : Str) (env : Env) (d : D) (S1 : Sto) : R D := match d with
  | .exc c v => chk (f = "value" ∧ C.sub c .valueError = some true) (.ok v S1)
  | d => match cont env S1 d with
    | some (.ins c fs vs) => match C.attr c f with
      | some (some g) => if d.isAcc then .bad else noEr (C.call g [d] S1)
      | some none => oget (lookF fs vs f) fun v => .ok v S1
      | none => .bad
    | _ => .bad
/-- a method of a value that is called -/
def methD (C : Ctx) (x : Str) (as : Sto → R (List D)) (env : Env) (d : D) (S1 : Sto) : R D := if d.isAcc then .bad else match cont env S1 d with
  | some (.ins c fs vs) => chk ((lookF fs vs x).isNone = true) (oget (C.meth c x) fun f => (as S1).bind fun xs S2 => C.call f (d :: xs) S2)
  | _ => .bad
def permute (xs : List D) (perm : List Nat) : Option (List D) := perm.mapM fun i => xs[i]?

mutual
noncomputable def ev (C : Ctx) : Ex → Env → Sto → R D
  | .non, _, S => .ok .non S
  | .bl b, _, S => .ok (.bl b) S
  | .int i, _, S => .ok (.int i) S
  | .str s, _, S => .ok (.str s) S
  | .var i, env, S => match env[i]? with
    | some (.fz d) => .ok d S
    | some (.al _) => .ok (.acc i) S
    | _ => .bad
  | .bin op a b, env, S => (ev C a env S).bindR fun x S1 => (ev C b env S1).bindR fun y S2 => binD op x y env S2
  | .neg a, env, S => (ev C a env S).bindR fun x S1 => match x with
    | .int i => .ok (.int (-i)) S1
    | _ => .bad
  | .cmp op a b, env, S => (ev C a env S).bindR fun x S1 => (ev C b env S1).bindR fun y S2 => oget (cmpD op x y env S2) fun c => .ok (.bl c) S2
  | .cmp2 o1 o2 a b c, env, S => (ev C a env S).bindR fun x S1 => (ev C b env S1).bindR fun y S2 => oget (cmpD o1 x y env S2) fun k =>
      if k then (ev C c env S2).bindR fun z S3 => oget (cmpD o2 y z env S3) fun k2 => .ok (.bl k2) S3 else .ok (.bl false) S2
  | .and a b, env, S => (ev C a env S).bindR fun x S1 => ifD x (ev C b env S1) (.ok (.bl false) S1)
  | .or a b, env, S => (ev C a env S).bindR fun x S1 => ifD x (.ok (.bl true) S1) (ev C b env S1)
  | .not a, env, S => (ev C a env S).bindR fun x S1 => match x with
    | .bl b => .ok (.bl (!b)) S1
    | _ => .bad
  | .ite c a b, env, S => (ev C c env S).bindR fun x S1 => ifD x (ev C a env S1) (ev C b env S1)
  | .tup es, env, S => (evs C es env S).bind fun xs S1 => chk (xs.length ≤ sizeLine) (.ok (.tup xs) S1)
  | .lst es, env, S => (evs C es env S).bind fun xs S1 => mkL xs S1
  | .dict0, _, S => .ok (.own (.dct [] [])) S
  | .call f es, env, S => (evs C es env S).bind fun xs S1 => C.call f xs S1
  | .callk f es ks perm, env, S => (evs C es env S).bind fun xs S1 => (evs C ks env S1).bind fun ys S2 => oget (permute (xs ++ ys) perm) fun zs => C.call f zs S2
  | .make c es, env, S => (evs C es env S).bind fun xs S1 => C.make c xs S1
  | .makek c es ks perm, env, S => (evs C es env S).bind fun xs S1 => (evs C ks env S1).bind fun ys S2 => oget (permute (xs ++ ys) perm) fun zs => C.make c zs S2
  | .bi f es, env, S => (evl C es env S).bind fun xs S1 => biD f xs env S1
  | .isi a ts, env, S => (ev C a env S).bindR fun x S1 => oget (tyD C.sub env S1 x) fun t => oget (tyAny C.sub t ts) fun b => .ok (.bl b) S1
  | .mt x o es, env, S => (ev C o env S).bindR fun d S1 => chk (mtTy x env S1 d = true) ((evl C es env S1).bind fun xs S2 => mtD x d xs env S2)
  | .meth x o es, env, S => (ev C o env S).bindR fun d S1 => methD C x (evs C es env) env d S1
  | .fld o f, env, S => (ev C o env S).bindR fun d S1 => fldD C f env d S1
  | .ix a i, env, S => (ev C a env S).bindR fun x S1 => (ev C i env S1).bindR fun y S2 => ixD x y env S2
  | .sl a lo hi, env, S => (ev C a env S).bindR fun x S1 => (partR lo (ev C lo env S1)).bind fun l S2 => (partR hi (ev C hi env S2)).bind fun h S3 => slD x l h env S3
  | .rev a, env, S => (ev C a env S).bindR fun x S1 => revD x env S1
  | .ref a, env, S => (ev C a env S).bind fun x S1 => match x with
    | .own d => oget (obOf d) fun o => .ok (.ref S1.length) (S1 ++ [o])
    | _ => .bad
  | .lc own tg it c elt, env, S => (evIt C it env S).bind fun p S1 => noEr ((lcGo (ev C c) (ev C elt) tg (wipeE env own) p.live p.xs [] S1).bind fun ys S2 => mkL ys S2)
  | .gget t k, env, S => (ev C k env S).bindR fun x S1 => match C.gd t, x with
    | some l, .str s => .ok (match l.lookup s with | some i => .int i | none => .non) S1
    | _, _ => .bad
  | .fstr ps, env, S => (evF C ps env S).bind fun ts S1 => chk ((ts.map Str.length).sum ≤ sizeLine) (.ok (.str (Str.join Str.empty ts)) S1)
/-- items that are kept: none an own accumulator -/
noncomputable def evs (C : Ctx) : Exs → Env → Sto → R (List D)
  | .nil, _, S => .ok [] S
  | .cons star e es, env, S => (ev C e env S).bindR fun x S1 =>
    if star then oget (seqOf env S1 x) fun xs => (evs C es env S1).bind fun ys S2 => .ok (xs ++ ys) S2
    else if x.isAcc then .bad else (evs C es env S1).bind fun ys S2 => .ok (x :: ys) S2
/-- the parts of an f-string -/
noncomputable def evF (C : Ctx) : Exs → Env → Sto → R (List Str)
  | .nil, _, S => .ok [] S
  | .cons _ e es, env, S => (ev C e env S).bindR fun x S1 => oget (ptext x) fun t => (evF C es env S1).bind fun ts S2 => .ok (t :: ts) S2
/-- arguments that are only read -/
noncomputable def evl (C : Ctx) : Exs → Env → Sto → R (List D)
  | .nil, _, S => .ok [] S
  | .cons star e es, env, S => (ev C e env S).bindR fun x S1 => if star then .bad else (evl C es env S1).bind fun ys S2 => .ok (x :: ys) S2
noncomputable def evIt (C : Ctx) : It → Env → Sto → R Wk
  | .seq e, env, S => (ev C e env S).bindR fun x S1 => match x with
    | .str s => chk (s.length ≤ sizeLine) (.ok ⟨s.cps.toList.map fun c => D.str ⟨#[c]⟩, [], false⟩ S1)
    | .dcf ks _ => .ok ⟨ks.map keyD, [], false⟩ S1
    | x => oget (seqOf env S1 x) fun xs => .ok ⟨xs, liveOf x xs, x.isAcc⟩ S1
  | .rng1 n, env, S => (ev C n env S).bindR fun x S1 => match x with
    | .int n => chk (rngOk n) (.ok ⟨upTo 0 n.toNat, [], false⟩ S1)
    | _ => .bad
  | .rng2 a b, env, S => (ev C a env S).bindR fun x S1 => (ev C b env S1).bindR fun y S2 => match x, y with
    | .int a, .int b => chk (rngOk a ∧ rngOk b) (.ok ⟨upTo a (b - a).toNat, [], false⟩ S2)
    | _, _ => .bad
  | .enum e, env, S => (ev C e env S).bindR fun x S1 => oget (lstOf env S1 x) fun xs => .ok ⟨(xs.zipIdx).map fun p => D.tup [.int (p.2 : Int), p.1], liveOf x xs, x.isAcc⟩ S1
  | .zip a b, env, S => (ev C a env S).bindR fun x S1 => (ev C b env S1).bindR fun y S2 => match x, y with
    | .tup xs, .tup ys => .ok ⟨(xs.zip ys).map fun p => D.tup [p.1, p.2], [], false⟩ S2
    | x, y => oget (lstOf env S2 x) fun xs => oget (lstOf env S2 y) fun ys => .ok ⟨(xs.zip ys).map fun p => D.tup [p.1, p.2], liveOf x xs ++ liveOf y ys, x.isAcc || y.isAcc⟩ S2
end

/-- how a statement ends -/
inductive Fl where
  | nx (env : Env)
  | rt (d : D)
  | ct (env : Env)

/-- a value handed out of the frame: an own accumulator is kept as it is from now on -/
def outD (env : Env) (d : D) : Option D := match d with
  | .acc i => match env[i]? with
    | some (.al o) => some (.own o.d)
    | _ => none
  | d => some d
noncomputable def forGo (body : Env → Sto → R Fl) (tg : List Nat) (live : List (Nat × List D)) : List D → Env → Sto → R Fl
  | [], env, S => chkLive S live (.ok (.nx env) S)
  | x :: xs, env, S => chkLive S live (oget (asgT tg x env) fun e => (body e S).bind fun f S1 => match f with
    | .nx e1 => forGo body tg live xs e1 S1
    | .ct e1 => forGo body tg live xs e1 S1
    | .rt d => .ok (.rt d) S1)
def whGo (c : Env → Sto → R D) (body : Env → Sto → R Fl) : Nat → Env → Sto → R Fl
  | 0, _, _ => .bad
  | n + 1, env, S => (c env S).bindR fun b S1 => ifD b
      ((body env S1).bind fun f S2 => match f with
        | .nx e1 => whGo c body n e1 S2
        | .ct e1 => whGo c body n e1 S2
        | .rt d => .ok (.rt d) S2)
      (.ok (.nx env) S1)
/-- the object of a place is exchanged -/
def putOb (d : D) (o : Ob) (env : Env) (S : Sto) : Option (Env × Sto) := match d with
  | .acc i => match env[i]? with
    | some (.al _) => some (env.set i (.al o), S)
    | _ => none
  | .ref n => if n < S.length then some (env, S.set n o) else none
  | _ => none
/-- o[i] = v -/
def setD (o : Ob) (i v : D) : Option Ob := match o, i with
  | .lst xs, .int k => (L2.ixN xs.length k).map fun j => .lst (xs.set j v)
  | .dct ks vs, i => match keyOf i with
    | some k => if ks.length < sizeLine then some (.dct (putD ks vs k v).1 (putD ks vs k v).2) else none
    | none => none
  | _, _ => none

mutual
noncomputable def exS (C : Ctx) : Sm → Env → Sto → R Fl
  | .asg i e, env, S => (ev C e env S).bindR fun d S1 => if d.isAcc then .bad else .ok (.nx (env.set i (.fz d))) S1
  | .acc i e, env, S => (ev C e env S).bind fun d S1 => match d with
    | .own d => oget (accOb d) fun o => .ok (.nx (env.set i (.al o))) S1
    | _ => .bad
  | .frz i, env, S => match env[i]? with
    | some (.al o) => .ok (.nx (env.set i (.fz o.d))) S
    | _ => .bad
  | .frzd i, env, S => match env[i]? with
    | some (.al (.dct ks vs)) => .ok (.nx (env.set i (.fz (.dcf ks vs)))) S
    | _ => .bad
  | .unp is e, env, S => (ev C e env S).bindR fun d S1 => oget (asgT is d env) fun e1 => .ok (.nx e1) S1
  | .par is es, env, S => (evs C es env S).bind fun xs S1 => if xs.length = is.length then .ok (.nx (setAll env is xs)) S1 else .bad
  | .setix o i e, env, S => (ev C e env S).bindR fun v S1 => if v.isAcc then .bad else (ev C o env S1).bindR fun d S2 => (ev C i env S2).bindR fun k S3 =>
      oget (cont env S3 d) fun ob => oget (setD ob k v) fun ob' => oget (putOb d ob' env S3) fun p => .ok (.nx p.1) p.2
  | .setfld o f e, env, S => (ev C e env S).bindR fun v S1 => if v.isAcc then .bad else (ev C o env S1).bindR fun d S2 => match cont env S2 d with
    | some (.ins c fs vs) => chk (fs.length < 1000 ∧ C.attr c f = some none) (oget (putOb d (.ins c (putFd fs vs f v).1 (putFd fs vs f v).2) env S2) fun p => .ok (.nx p.1) p.2)
    | _ => .bad
  | .mut x o es, env, S => (ev C o env S).bindR fun d S1 => chk (mtTy x env S1 d = true) ((evl C es env S1).bind fun xs S2 => if xs.any D.isAcc then .bad else
      oget (cont env S2 d) fun ob => oget (mutD x ob xs env S2) fun ob' => oget (putOb d ob' env S2) fun p => .ok (.nx p.1) p.2)
  | .expr e, env, S => (ev C e env S).bindR fun _ S1 => .ok (.nx env) S1
  | .ret e, env, S => (ev C e env S).bind fun d S1 => oget (outD env d) fun d => .ok (.rt d) S1
  | .ite c a b, env, S => (ev C c env S).bindR fun x S1 => ifD x (exSs C a env S1) (exSs C b env S1)
  | .for_ tg it b, env, S => (evIt C it env S).bind fun p S1 => if p.acc then .bad else forGo (exSs C b) tg p.live p.xs env S1
  | .whl c b, env, S => whGo (ev C c) (exSs C b) C.wf env S
  | .raise c e, env, S => (ev C e env S).bindR fun d S1 => if d.isAcc then .bad else .er c d S1
  | .tryE j e c i k, env, S => match ev C e env S with
    | .ok d S1 => if (rd d).isAcc then .bad else .ok (.nx (env.set j (.fz (rd d)))) S1
    | .er c' d S1 => chk (C.sub c' .valueError = some true ∧ C.sub c .valueError = some true) (match C.sub c' (.cls c) with
      | some true => .ok (.nx ((env.set k (.fz (.exc c' d))).set i .no)) S1
      | some false => .er c' d S1
      | none => .bad)
    | .bad => .bad
  | .tryR j e cs i c v, env, S => match ev C e env S with
    | .ok d S1 => if (rd d).isAcc then .bad else .ok (.nx (env.set j (.fz (rd d)))) S1
    | .er c' d S1 => chk (C.sub c' .valueError = some true ∧ (cs.all fun b => decide (C.sub b .valueError = some true)) = true) (match tyAny C.sub (.own c') (cs.map Ty.cls) with
      | some true => (ev C v env S1).bindR fun y S2 => if y.isAcc then .bad else .er c y S2
      | some false => .er c' d S1
      | none => .bad)
    | .bad => .bad
  | .cont, env, S => .ok (.ct env) S
  | .pass, env, S => .ok (.nx env) S
noncomputable def exSs (C : Ctx) : Sms → Env → Sto → R Fl
  | .nil, env, S => .ok (.nx env) S
  | .cons s ss, env, S => (exS C s env S).bind fun f S1 => match f with
    | .nx e1 => exSs C ss e1 S1
    | .rt d => .ok (.rt d) S1
    | .ct e1 => .ok (.ct e1) S1
end

/-! ### the program -/
/-- a def -/
structure Fn where
  ps : Nat
  nms : Nat
  body : Sms
/-- a class: an error (its maker keeps its one argument as value), or its maker, its methods, its plain fields, its properties -/
structure Cl where
  err : Bool
  init : Nat
  ms : List (Str × Nat)
  fl : List Str
  pr : List (Str × Nat)
structure Prog where
  fn : Nat → Option Fn
  cl : Nat → Option Cl
  sub : Nat → Ty → Option Bool
  gd : Nat → Option (List (Str × Int))

def startE (fn : Fn) (ds : List D) : Env := ds.map Slot.fz ++ List.replicate (fn.nms - ds.length) .no
/-- a def run under a context -/
noncomputable def runFn (C : Ctx) (fn : Fn) (ds : List D) (S : Sto) : R D := chk (ds.length = fn.ps) ((exSs C fn.body (startE fn ds) S).bind fun f S1 => match f with
  | .rt d => .ok d S1
  | .nx _ => .ok .non S1
  | .ct _ => .bad)
/-- a new instance: its maker runs over an empty one -/
noncomputable def runMk (C : Ctx) (fn : Fn) (c : Nat) (ds : List D) (S : Sto) : R D :=
  chk (ds.length + 1 = fn.ps) ((exSs C fn.body (Slot.al (.ins c [] []) :: (startE { fn with nms := fn.nms - 1 } ds)) S).bind fun f S1 => match f with
  | .nx (.al (.ins c' fs vs) :: _) => chk (c' = c) (.ok (.own (.ins c fs vs)) S1)
  | _ => .bad)
def Prog.meth (P : Prog) (c : Nat) (x : Str) : Option Nat := (P.cl c).bind fun l => l.ms.lookup x
def Prog.attr (P : Prog) (c : Nat) (f : Str) : Option (Option Nat) := (P.cl c).bind fun l => match l.pr.lookup f with
  | some g => some (some g)
  | none => if l.fl.contains f then some none else none
mutual
noncomputable def callT (P : Prog) (wf : Nat) : Nat → Nat → List D → Sto → R D
  | 0, _, _, _ => .bad
  | n + 1, f, ds, S => oget (P.fn f) fun fn => runFn { call := callT P wf n, make := makeT P wf n, meth := P.meth, attr := P.attr, sub := P.sub, gd := P.gd, wf := wf } fn ds S
noncomputable def makeT (P : Prog) (wf : Nat) : Nat → Nat → List D → Sto → R D
  | 0, c, ds, S => oget (P.cl c) fun l => if l.err then (match ds with | [d] => .ok (.exc c d) S | _ => .bad) else .bad
  | n + 1, c, ds, S => oget (P.cl c) fun l => if l.err then (match ds with | [d] => .ok (.exc c d) S | _ => .bad)
    else oget (P.fn l.init) fun fn => runMk { call := callT P wf n, make := makeT P wf n, meth := P.meth, attr := P.attr, sub := P.sub, gd := P.gd, wf := wf } fn c ds S
end
/-- the context at a depth -/
noncomputable def ctxT (P : Prog) (wf n : Nat) : Ctx := { call := callT P wf n, make := makeT P wf n, meth := P.meth, attr := P.attr, sub := P.sub, gd := P.gd, wf := wf }
end K9
end
section
set_option Elab.async false
set_option linter.all false
set_option maxRecDepth 100000
/-! K9G: the promise of a def over a state in which no repr is under way (FnG), its rule, its calls, the law's end. -/
namespace K9
open PySem PySem.Spec PyProof.Rows L2

/-- as FnOk, where moreover no repr runs -/
structure FnG (P : Program) (w : World) (K : PySem.W.Frag) (mg : Str → Option Value) (base : Heap) (k : Nat) (f : Addr) (fd : FuncData) (ps : List Str) (sp : Sp) : Prop where
  len : ∀ vs H Q E, sp vs H Q E → vs.length = ps.length
  run : ∀ (A : Around) (outer : List PySem.Env) (s : Shared) (H : Hp) (args : Args) (us : List Value) (vs : List V) (Q : VK) (E : XK),
    A.guards = some [] → Room k A → Env0 P w K mg base A outer s H → BindsTo s fd args (ps.zip us) → Vals vs us → sp vs H Q E →
    codeAny (model P w) A (.call (.ref f) args) (CR (L2.CX P w) outer P w H s Q E) s

section
variable {P : Program} {w : World} {K : PySem.W.Frag} {mg : Str → Option Value} {base : Heap}

theorem FnG.mono {j k : Nat} {f : Addr} {fd : FuncData} {ps : List Str} {sp : Sp} (F : FnG P w K mg base j f fd ps sp) (h : j ≤ k) : FnG P w K mg base k f fd ps sp :=
  ⟨F.len, fun A o s H a us vs Q E g hr => F.run A o s H a us vs Q E g (hr.mono h)⟩

/-- the rule for a def: its body under the context of its entry -/
theorem fnG_of {x qual : Str} {st : Stmt} {f : Addr} {fd : FuncData} {N ps : List Str} {k : Nat} {sp : Sp} (F : Fun K x qual st f fd) (S : FnScope N ps (defScope st))
    (len : ∀ vs H Q E, sp vs H Q E → vs.length = ps.length)
    (body : ∀ (cdv : Value) (A : Around) (outer : List PySem.Env) (s : Shared) (H : Hp) (vs : List V) (Q : VK) (E : XK),
      (A.deeper (envOfC qual (defScope st) s.heap.objs.size f cdv)).guards = some [] → Room k (A.deeper (envOfC qual (defScope st) s.heap.objs.size f cdv)) → sp vs H Q E →
      ∃ t, PSs (cxOf (L2.CX P w) P w K mg base N qual (defScope st) f cdv A outer s H E) (defBody st) t ∧ t { nx := fun _ H' => Q .non H', rt := Q } (start N vs) H) :
    FnG P w K mg base (k + 1) f fd ps sp := by
  obtain ⟨oc, od, kV, doc, pm, an, cdv, ct, osl, hfd, hlk, hcode⟩ := F.ex
  subst hfd
  refine ⟨len, ?_⟩
  intro A outer s H args us vs Q E hg hr e0 hb rv hsp
  have hlen := len vs H Q E hsp
  have hKs : K.In s.heap := e0.mod.kin.keeps (fun b o q => (e0.bs b o q).1)
  have hLs : s.heap.NoLimit := e0.mod.nolimit.keeps (fun b o q => (e0.bs b o q).1)
  have kinds : ∀ y ∈ ps.zip us, (defScope st).names.lookup y.1 = some .local ∨ ((defScope st).names.lookup y.1 = some .cell ∧ ((cellsFrom (s.heap.objs.size + 1) (defScope st).names []).lookup y.1).isSome = true) := by
    intro y hy
    have hy1 : y.1 ∈ ps := (List.of_mem_zip (a := y.1) (b := y.2) hy).1
    cases S.par y.1 hy1 with
    | inl q => exact Or.inl q
    | inr q => exact Or.inr ⟨q, PySem.W.cellsFrom_some _ _ _ (Or.inl q)⟩
  refine codeAny_call_function hr.depth (hKs _ _ hlk) rfl S.co S.gen rfl (PySem.W.codeRec_of hKs hcode) (hb _ _ _ _ ?_)
  refine wpAny_newFunctionEnv_cells S.kind kinds (fun env he s1 x => ?_)
  subst he
  refine ⟨hLs.keeps x.toInCall.keep, codeAny_func ?_⟩
  obtain ⟨t, ht, hq⟩ := body cdv A outer s H vs Q E hg (hr.deeper _) hsp
  have I := inv_start (CX := L2.CX P w) (P := P) (w := w) (K := K) (mg := mg) (base := base) (E := E) (cd := cdv) S hr.hd e0 hlen rv x
  have done : ∀ {σ' : L2.St} {H' : Hp} {s' : Shared} {v : V} {u : Value}, Inv (cxOf (L2.CX P w) P w K mg base N qual (defScope st) f cdv A outer s H E) [] σ' H' s' → RelV v u → Q v H' → CE outer P w H s Q u s' :=
    fun J r q => ⟨_, _, J.os, J.bare, J.base, J.hok, r, q⟩
  refine wpAny_mono (ht.run [] s1 (start N vs) H _ I hq) ?_ (fun _ _ z => z)
  intro fl s' hs
  cases fl with
  | next =>
    obtain ⟨σ', H', J, q⟩ := hs
    exact done (v := V.non) (u := Value.none) J rfl q
  | ret u =>
    obtain ⟨v, σ', H', J, r, q⟩ := hs
    exact done J r q
  | brk =>
    obtain ⟨_, _, _, q⟩ := hs
    exact (show False from q).elim
  | cont =>
    obtain ⟨_, _, _, q⟩ := hs
    exact (show False from q).elim
end

section
variable {X : Cx} {W : WX} {k : Nat} {f : Addr} {fd : FuncData} {ps : List Str} {sp : Sp} {E : XK}
/-- the callee runs, from a body -/
theorem runG {pins : List (Addr × Obj)} {σ : L2.St} {H : Hp} {s : Shared} {Q : VK} {us : List Value} {vs : List V} {args : Args} (F : FnG X.prog X.w X.K X.mg X.base k f fd ps sp) (hg : X.A.guards = some []) (hr : Room k X.A)
    (tk : Takes X W) (hE : ∀ cls d H', E cls d H' → W cls d σ H') (I : Inv X pins σ H s) (hb : BindsTo s fd args (ps.zip us)) (r : Vals vs us) (h : sp vs H Q E) :
    codeAny (model X.prog X.w) X.A (.call (.ref f) args) (fun r s' => match r with
      | .ok (.ret u) => EP X pins σ Q u s'
      | .ok _ => False
      | .error e => X.xe e s') s := by
  refine codeAny_mono (F.run X.A X.stack s H args us vs Q E hg hr I.env0 hb r h) (fun r s' hq => ?_)
  match r, hq with
  | .ok (.ret u), hq => exact I.after hq
  | .error e, hq => exact tk _ _ (XE.of_call I hE hq)
end

section
/-- the law's def is called at the head's end -/
theorem lawG {P : Program} {w : World} {K : PySem.W.Frag} {mg mb : Str → Option Value} {k : Nat} {fa a : Addr} {fd : FuncData} {x : Str} {sp : Sp} {s₁ : Shared} {vs : List Value} {ns : List Int}
    (hK : K.In s₁.heap) (hgl : s₁.heap.Ns mainGlobals mg) (hbl : s₁.heap.Ns builtinsNs mb) (hbb : ∀ x : Str, x ≠ "__name__" → mb x = bootBuiltins x) (hlim : s₁.heap.NoLimit) (hgen : s₁.gens = #[])
    (hat : s₁.heap.get? a = some { cls := .type "list", data := .seq vs.toArray }) (hints : IntsAre vs ns) (hlen : ns.length ≤ sizeLine) (hroom : Room k callerA)
    (F : ∀ base : Heap, K.In base → base.Ns mainGlobals mg → FnG P w K mg base k fa fd [x] sp) (hbind : ∀ (s : Shared) (u : Value), BindsTo s fd ⟨[u], []⟩ [(x, u)])
    (hsp : ∀ H : Hp, Only H → SqL K H a (ns.map V.int) → sp [.ref a] H (fun v _ => v = .bl true) fun _ _ _ => False) :
    codeAny (model P w) callerA (.call (.ref fa) ⟨[.ref a], []⟩) (fun r s' => r = .ok (.ret (.bool true)) ∧ OldK s₁.heap s'.heap ∧ s'.os = s₁.os ∧ AllBare s'.gens) s₁ := by
  have rel := vals_ints hints
  -- at any abstract heap that tracks at most the script
  suffices go : ∀ H : Hp, Only H → SqL K H a (ns.map V.int) → HOk P w H s₁.heap → (∀ b u, H b = some u → b = a) → ((∃ u, H a = some u) → K.lookup a = none) →
      codeAny (model P w) callerA (.call (.ref fa) ⟨[.ref a], []⟩) (fun r s' => r = .ok (.ret (.bool true)) ∧ OldK s₁.heap s'.heap ∧ s'.os = s₁.os ∧ AllBare s'.gens) s₁ by
    cases hk : K.lookup a with
    | some o =>
      have same : o = { cls := .type "list", data := .seq vs.toArray } := by
        have z := hK a o hk
        rw [hat] at z
        exact (Option.some.inj z).symm
      subst same
      refine go (fun _ => none) (fun _ => Or.inl rfl) (Or.inr ⟨_, _, _, hk, rfl, rfl, rfl, ?_, ?_⟩) (fun _ _ z => ?_) (fun _ _ z => ?_) (fun ⟨_, z⟩ => ?_)
      · rw [List.size_toArray, ← rel.length, List.length_map]; exact hlen
      · simpa using rel
      · exact nomatch (show (none : Option HO) = some _ from z)
      · exact nomatch (show (none : Option HO) = some _ from z)
      · exact nomatch (show (none : Option HO) = some _ from z)
    | none =>
      let Hs : Hp := fun b => if b = a then some (.frz { cls := .type "list", data := .seq vs.toArray } (.lst (ns.map V.int))) else none
      have Ha : Hs a = some (.frz { cls := .type "list", data := .seq vs.toArray } (.lst (ns.map V.int))) := if_pos rfl
      have Hn : ∀ b u, Hs b = some u → b = a := by
        intro b u z
        by_cases q : b = a
        · exact q
        · rw [show Hs b = none from if_neg q] at z; cases z
      refine go Hs (fun b => ?_) (Or.inl (Or.inr ⟨_, Ha⟩)) (fun b u z => ?_) Hn (fun _ => hk)
      · by_cases q : b = a
        · subst q; exact Or.inr ⟨_, _, Ha⟩
        · exact Or.inl (if_neg q)
      · obtain rfl := Hn b u z
        rw [Ha] at z
        cases z
        exact ⟨hat, by rw [List.length_map]; exact hlen, vs, _, rel, hat⟩
  intro H hO hS hok hA hKa
  have hid : ∀ {b : Addr} {o : Obj}, s₁.heap.get? b = some o → H b = none → (hidT s₁.heap H).get? b = some o := fun e n => hidT_get e n
  have isnone : ∀ {b : Addr}, (∀ u, H b = some u → False) → H b = none := by
    intro b hb
    cases q : H b with
    | none => rfl
    | some u => exact (hb u q).elim
  have nsH : ∀ {b : Addr} {m : Str → Option Value}, s₁.heap.Ns b m → (hidT s₁.heap H).Ns b m := by
    intro b m hn
    obtain ⟨o, es, ep, e, d, r⟩ := hn
    refine ⟨o, es, ep, hid e (isnone fun u q => ?_), d, r⟩
    obtain rfl := hA b u q
    rw [hat] at e
    cases e
    cases (show Data.seq vs.toArray _ = Data.dict es ep from d)
  have hKb : K.In (hidT s₁.heap H) := fun b o e => hid (hK b o e) (isnone fun u q => by
    obtain rfl := hA b u q
    rw [hKa ⟨u, q⟩] at e
    cases e)
  obtain ⟨mc, hc1, hc2⟩ := hlim
  have e0 : Env0 P w K mg (hidT s₁.heap H) callerA [] s₁ H :=
    ⟨rfl, ⟨hKb, nsH hgl, ⟨mb, nsH hbl, hbb⟩, ⟨mc, nsH hc1, hc2⟩⟩, fun b o e => of_hidT e, Nat.le_of_eq (hidT_size _ _), trivial, fun b hb => (List.not_mem_nil hb).elim, hok, .of_eq hgen⟩
  refine codeAny_mono ((F _ hKb (nsH hgl)).run callerA [] s₁ H ⟨[.ref a], []⟩ [.ref a] [.ref a] _ _ rfl hroom e0 (hbind s₁ (.ref a)) (.cons rfl .nil) (hsp H hO hS)) ?_
  intro r s' hr
  match r, hr with
  | .error e, hr =>
    obtain ⟨_, _, _, _, _, _, _, _, _, _, _, _, z⟩ := hr
    exact z.elim
  | .ok (.ret u), hr =>
    obtain ⟨v, H', os, bare, un, hok', rv, qv⟩ := hr
    obtain rfl : v = .bl true := qv
    obtain rfl : u = Value.bool true := rv
    refine ⟨rfl, OldK.of_keep (fun b o e => ?_), os, bare⟩
    cases q : H b with
    | none => exact un.keep b o e q (fun z => (List.not_mem_nil z).elim) (by simp)
    | some u =>
      rcases hO b with z | ⟨ob, xs, z⟩
      · rw [z] at q; cases q
      · have e1 := (hok b _ z).1
        have e2 := (hok' b _ (un.frzs b ob _ z)).1
        rw [e] at e1
        cases e1
        exact e2

/-- what k_head leaves, from the law's promise over FnG -/
theorem walkG {l : PySem.W.OpenLaw} {n k : Nat} {q : Program} {loose : List Str} {XP : (Str → Option Value) → Heap → Prop} {YP : World → Heap → Prop} {d : DefRec} {K : Params → PySem.W.Frag} {sp : World → Sp} {x : Str}
    (hn : l.most = some n) (hn2 : n ≤ sizeLine) (hdf : d.params.defaults = []) (hr : Room k callerA) (hY : ∀ (w : World) (h : Heap), YP w h → (K w.params).In h)
    (F : ∀ (w : World) (mg : Str → Option Value) (fa : Addr) (h : Heap), (K w.params).In h → h.Ns mainGlobals mg → mg d.name = some (.ref fa) →
      ∃ fd : FuncData, (∀ (s : Shared) (u : Value), BindsTo s fd ⟨[u], []⟩ [(x, u)]) ∧ ∀ base : Heap, (K w.params).In base → base.Ns mainGlobals mg → FnG l.prog w (K w.params) mg base k fa fd [x] (sp w))
    (hsp : ∀ (w : World) (H : Hp) (a : Addr) (ns : List Int), ns.length ≤ n → (∀ z ∈ ns, Builtin.Int.intBits z ≤ 1048576) → Only H → SqL (K w.params) H a (ns.map V.int) → sp w [.ref a] H (fun v _ => v = .bl true) fun _ _ _ => False) :
    PySem.W.WalkO q loose XP YP l.row.toRowW d [] (fun f vs => PySem.call f vs) := by
  refine Att.attach_callB hn hdf (fun w s₀ s₁ mg mb fa o pm cd doc a vs ns G Y ho hd hcd hmg hobj hints hlen hbits hg => ?_)
  obtain ⟨fd, hb, hF⟩ := F w mg fa _ (hY w _ Y) G.T.g hmg
  exact lawG (hY w _ Y) G.T.g G.T.b G.T.builtins G.T.nolimit hg hobj hints (Nat.le_trans hlen hn2) hr hF hb (fun H hO hS => hsp w H a ns hlen hbits hO hS)
end
end K9
end
section
set_option Elab.async false
set_option linter.all false
set_option maxRecDepth 100000
/-! K9Rel: how the evaluator's values and store lie in the abstract heap. -/
namespace K9
open PySem PySem.Spec PyProof.Rows L2

/-- what is known of the heap: what never changes any more, where the store's objects stand, what stood at the last marked call -/
structure Mem where
  F : Hp
  mu : List Addr
  H0 : Hp
  sa : Addr

/-- an error's object -/
def ExV (C d a : Addr) : HO := .ext fun h => ∃ (oe : Obj) (vs : Array Value), h.get? a = some oe ∧ Zc (.ref C) (some d) oe ∧ oe.data = .fields vs

mutual
inductive Rep (ca : Nat → Addr) (M : Mem) : V → D → Prop
  | non : Rep ca M .non .non
  | bl (b : Bool) : Rep ca M (.bl b) (.bl b)
  | int (i : Int) : Rep ca M (.int i) (.int i)
  | str (s : Str) : Rep ca M (.str s) (.str s)
  | tup {a : Addr} {vs : List V} {ds : List D} : M.F a = some (.tup vs) → RepL ca M vs ds → Rep ca M (.ref a) (.tup ds)
  | lst {a : Addr} {vs : List V} {ds : List D} : M.F a = some (.lst vs) → RepL ca M vs ds → Rep ca M (.ref a) (.lst ds)
  | dct {a : Addr} {kvs : List (L2.Key × V)} {ks : List L2.Key} {ds : List D} : M.F a = some (.dK kvs) → kvs.map (·.1) = ks → RepL ca M (kvs.map (·.2)) ds → Rep ca M (.ref a) (.dct ks ds)
  | ins {a dx : Addr} {c : Nat} {fs : List (Str × V)} {ns : List Str} {ds : List D} : M.F a = some (.ins (ca c) dx fs) → fs.map (·.1) = ns → RepL ca M (fs.map (·.2)) ds → Rep ca M (.ref a) (.ins c ns ds)
  | dcf {a : Addr} {o : Obj} {kvs : List (L2.Key × V)} {ks : List L2.Key} {ds : List D} : M.F a = some (.frz o (.dK kvs)) → kvs.map (·.1) = ks → RepL ca M (kvs.map (·.2)) ds → Rep ca M (.ref a) (.dcf ks ds)
  | exc {a dd : Addr} {c : Nat} {v : V} {d : D} : M.F a = some (ExV (ca c) dd a) → M.F dd = some (.xd [(("value" : Str), v)]) → Rep ca M v d → Rep ca M (.ref a) (.exc c d)
  | ref {a : Addr} {n : Nat} : M.mu[n]? = some a → Rep ca M (.ref a) (.ref n)
  | scr {a : Addr} {o : Obj} {vs : List V} {ds : List D} : M.F a = some (.frz o (.lst vs)) → RepL ca M vs ds → Rep ca M (.ref a) (.scr ds)
inductive RepL (ca : Nat → Addr) (M : Mem) : List V → List D → Prop
  | nil : RepL ca M [] []
  | cons {v : V} {vs : List V} {d : D} {ds : List D} : Rep ca M v d → RepL ca M vs ds → RepL ca M (v :: vs) (d :: ds)
end

section
variable {ca : Nat → Addr} {M M' : Mem}
mutual
theorem Rep.mono (hF : ∀ a o, M.F a = some o → M'.F a = some o) (hm : ∀ (n : Nat) (a : Addr), M.mu[n]? = some a → M'.mu[n]? = some a) (h0 : M'.H0 = M.H0) : ∀ {v : V} {d : D}, Rep ca M v d → Rep ca M' v d
  | _, _, .non => .non
  | _, _, .bl b => .bl b
  | _, _, .int i => .int i
  | _, _, .str s => .str s
  | _, _, .tup h r => .tup (hF _ _ h) (RepL.mono hF hm h0 r)
  | _, _, .lst h r => .lst (hF _ _ h) (RepL.mono hF hm h0 r)
  | _, _, .dct h e r => .dct (hF _ _ h) e (RepL.mono hF hm h0 r)
  | _, _, .ins h e r => .ins (hF _ _ h) e (RepL.mono hF hm h0 r)
  | _, _, .dcf h e r => .dcf (hF _ _ h) e (RepL.mono hF hm h0 r)
  | _, _, .exc h1 h2 r => .exc (hF _ _ h1) (hF _ _ h2) (Rep.mono hF hm h0 r)
  | _, _, .ref h => .ref (hm _ _ h)
  | _, _, .scr h r => .scr (hF _ _ h) (RepL.mono hF hm h0 r)
theorem RepL.mono (hF : ∀ a o, M.F a = some o → M'.F a = some o) (hm : ∀ (n : Nat) (a : Addr), M.mu[n]? = some a → M'.mu[n]? = some a) (h0 : M'.H0 = M.H0) : ∀ {vs : List V} {ds : List D}, RepL ca M vs ds → RepL ca M' vs ds
  | _, _, .nil => .nil
  | _, _, .cons r t => .cons (Rep.mono hF hm h0 r) (RepL.mono hF hm h0 t)
end
theorem RepL.length : ∀ {vs : List V} {ds : List D}, RepL ca M vs ds → vs.length = ds.length
  | _, _, .nil => rfl
  | _, _, .cons _ t => by rw [List.length_cons, List.length_cons, t.length]
theorem RepL.append : ∀ {vs us : List V} {ds es : List D}, RepL ca M vs ds → RepL ca M us es → RepL ca M (vs ++ us) (ds ++ es)
  | _, _, _, _, .nil, s => s
  | _, _, _, _, .cons r t, s => .cons r (t.append s)
theorem RepL.get : ∀ {vs : List V} {ds : List D} {i : Nat} {d : D}, RepL ca M vs ds → ds[i]? = some d → ∃ v, vs[i]? = some v ∧ Rep ca M v d
  | _, _, _, _, .nil, e => by simp at e
  | _, _, 0, _, .cons r _, e => by simp at e; subst e; exact ⟨_, rfl, r⟩
  | _, _, i + 1, _, .cons _ t, e => by
    obtain ⟨v, h1, h2⟩ := RepL.get (i := i) t (by simpa using e)
    exact ⟨v, by simpa using h1, h2⟩
theorem RepL.get' : ∀ {vs : List V} {ds : List D} {i : Nat} {v : V}, RepL ca M vs ds → vs[i]? = some v → ∃ d, ds[i]? = some d ∧ Rep ca M v d
  | _, _, _, _, .nil, e => by simp at e
  | _, _, 0, _, .cons r _, e => by simp at e; subst e; exact ⟨_, rfl, r⟩
  | _, _, i + 1, _, .cons _ t, e => by
    obtain ⟨v, h1, h2⟩ := RepL.get' (i := i) t (by simpa using e)
    exact ⟨v, by simpa using h1, h2⟩
theorem RepL.set {v : V} {d : D} (r : Rep ca M v d) : ∀ {vs : List V} {ds : List D} (i : Nat), RepL ca M vs ds → RepL ca M (vs.set i v) (ds.set i d)
  | _, _, _, .nil => .nil
  | _, _, 0, .cons _ t => .cons r t
  | _, _, i + 1, .cons q t => .cons q (RepL.set r i t)
theorem RepL.take : ∀ {vs : List V} {ds : List D} (n : Nat), RepL ca M vs ds → RepL ca M (vs.take n) (ds.take n)
  | _, _, 0, _ => .nil
  | _, _, _ + 1, .nil => .nil
  | _, _, n + 1, .cons r t => .cons r (t.take n)
theorem RepL.drop : ∀ {vs : List V} {ds : List D} (n : Nat), RepL ca M vs ds → RepL ca M (vs.drop n) (ds.drop n)
  | _, _, 0, r => r
  | _, _, _ + 1, .nil => .nil
  | _, _, n + 1, .cons _ t => t.drop n
theorem RepL.reverse : ∀ {vs : List V} {ds : List D}, RepL ca M vs ds → RepL ca M vs.reverse ds.reverse
  | _, _, .nil => .nil
  | _, _, .cons r t => by
    rw [List.reverse_cons, List.reverse_cons]
    exact t.reverse.append (.cons r .nil)
end

/-- a mutable object as it stands in the heap -/
inductive ObR (ca : Nat → Addr) (M : Mem) : HO → Ob → Prop
  | lst {vs : List V} {ds : List D} : RepL ca M vs ds → ObR ca M (.lst vs) (.lst ds)
  | dct {kvs : List (L2.Key × V)} {ks : List L2.Key} {ds : List D} : kvs.map (·.1) = ks → RepL ca M (kvs.map (·.2)) ds → ObR ca M (.dK kvs) (.dct ks ds)
  | ins {dx : Addr} {c : Nat} {fs : List (Str × V)} {ns : List Str} {ds : List D} : fs.map (·.1) = ns → RepL ca M (fs.map (·.2)) ds → ObR ca M (.ins (ca c) dx fs) (.ins c ns ds)
theorem ObR.mono {ca : Nat → Addr} {M M' : Mem} (hF : ∀ a o, M.F a = some o → M'.F a = some o) (hm : ∀ (n : Nat) (a : Addr), M.mu[n]? = some a → M'.mu[n]? = some a) (h0 : M'.H0 = M.H0) {ho : HO} {ob : Ob} (r : ObR ca M ho ob) : ObR ca M' ho ob := by
  cases r with
  | lst r => exact .lst (r.mono hF hm h0)
  | dct e r => exact .dct e (r.mono hF hm h0)
  | ins e r => exact .ins e (r.mono hF hm h0)

/-- the store lies in the heap -/
structure RelS (ca : Nat → Addr) (M : Mem) (S : Sto) (H : Hp) : Prop where
  frz : ∀ a o, M.F a = some o → H a = some o
  len : M.mu.length = S.length
  nd : M.mu.Nodup
  off : ∀ a, a ∈ M.mu → M.F a = none
  ob : ∀ (n : Nat) (ob : Ob), S[n]? = some ob → ∃ a ho, M.mu[n]? = some a ∧ H a = some ho ∧ ObR ca M ho ob
  h0 : ∀ a, H a = none → M.H0 a = none

/-- a slot -/
inductive SlR (ca : Nat → Addr) (M : Mem) (H : Hp) : Slot → Option (Option V) → Prop
  | no {o : Option (Option V)} : SlR ca M H .no o
  | fz {v : V} {d : D} : Rep ca M v d → SlR ca M H (.fz d) (some (some v))
  | al {a : Addr} {ho : HO} {ob : Ob} : H a = some ho → ObR ca M ho ob → M.F a = none → a ∉ M.mu → M.H0 a = none → (∀ c fs vs, ob = .ins c fs vs → a = M.sa) → SlR ca M H (.al ob) (some (some (.ref a)))
/-- the frame's names -/
structure RelE (ca : Nat → Addr) (M : Mem) (env : Env) (σ : L2.St) (H : Hp) : Prop where
  len : env.length = σ.length
  sl : ∀ (i : Nat) (s : Slot), env[i]? = some s → SlR ca M H s σ[i]?
  ap : ∀ (i j : Nat) (o o' : Ob), env[i]? = some (.al o) → env[j]? = some (.al o') → σ[i]? = σ[j]? → i = j

/-- what may have changed -/
structure Ext (M : Mem) (H : Hp) (M' : Mem) (H' : Hp) : Prop where
  F : ∀ a o, M.F a = some o → M'.F a = some o
  mu : ∀ (n : Nat) (a : Addr), M.mu[n]? = some a → M'.mu[n]? = some a
  h0 : M'.H0 = M.H0
  sa : M'.sa = M.sa
  rest : ∀ a o, H a = some o → a ∉ M.mu → H' a = some o
  newF : ∀ a o, M'.F a = some o → M.F a = none → H a = none
  newM : ∀ a, a ∈ M'.mu → a ∉ M.mu → H a = none
  dom : ∀ a o, H a = some o → ∃ o', H' a = some o'
section
variable {ca : Nat → Addr} {M M1 M2 : Mem} {H H1 H2 : Hp} {S : Sto} {env : Env} {σ : L2.St}
theorem Ext.refl : Ext M H M H := ⟨fun _ _ h => h, fun _ _ h => h, rfl, rfl, fun _ _ h _ => h, (fun a o h n => by rw [n] at h; cases h), fun a h n => absurd h n, fun a o h => ⟨o, h⟩⟩
theorem Ext.muI (e : Ext M H M1 H1) {a : Addr} (h : a ∈ M.mu) : a ∈ M1.mu := by
  obtain ⟨n, hn, he⟩ := List.mem_iff_getElem.mp h
  exact List.mem_of_getElem? (e.mu n a (by rw [List.getElem?_eq_getElem hn, he]))
theorem Ext.trans (e : Ext M H M1 H1) (f : Ext M1 H1 M2 H2) : Ext M H M2 H2 where
  F := fun a o h => f.F a o (e.F a o h)
  mu := fun n a h => f.mu n a (e.mu n a h)
  h0 := f.h0.trans e.h0
  sa := f.sa.trans e.sa
  rest := fun a o h n => f.rest a o (e.rest a o h n) (fun q => by rw [e.newM a q n] at h; cases h)
  newF := fun a o h n => by
    cases q : M1.F a with
    | some u => exact e.newF a u q n
    | none =>
      have z := f.newF a o h q
      cases r : H a with
      | none => rfl
      | some u =>
        obtain ⟨u', hu⟩ := e.dom a u r
        rw [z] at hu; cases hu
  newM := fun a h n => by
    by_cases q : a ∈ M1.mu
    · exact e.newM a q n
    · have z := f.newM a h q
      cases r : H a with
      | none => rfl
      | some u =>
        obtain ⟨u', hu⟩ := e.dom a u r
        rw [z] at hu; cases hu
  dom := fun a o h => let ⟨o1, h1⟩ := e.dom a o h; f.dom a o1 h1
theorem Ext.rep (e : Ext M H M1 H1) {v : V} {d : D} (r : Rep ca M v d) : Rep ca M1 v d := r.mono e.F e.mu e.h0
theorem Ext.repL (e : Ext M H M1 H1) {v : List V} {d : List D} (r : RepL ca M v d) : RepL ca M1 v d := r.mono e.F e.mu e.h0
theorem Ext.obr (e : Ext M H M1 H1) {v : HO} {d : Ob} (r : ObR ca M v d) : ObR ca M1 v d := r.mono e.F e.mu e.h0
/-- the frame is as it was -/
theorem RelE.ext (r : RelE ca M env σ H) (e : Ext M H M1 H1) : RelE ca M1 env σ H1 := by
  refine ⟨r.len, fun i s h => ?_, r.ap⟩
  have q := r.sl i s h
  generalize σ[i]? = o at q
  cases q with
  | no => exact .no
  | fz p => exact .fz (e.rep p)
  | al h1 h2 h3 h4 h5 h6 =>
    refine .al (e.rest _ _ h1 h4) (e.obr h2) ?_ (fun q => ?_) (by rw [e.h0]; exact h5) (by rw [e.sa]; exact h6)
    · cases z : M1.F _ with
      | none => rfl
      | some u => rw [e.newF _ u z h3] at h1; cases h1
    · rw [e.newM _ q h4] at h1; cases h1
end

/-- a value, or the frame's own accumulator -/
def RepX (ca : Nat → Addr) (M : Mem) (σ : L2.St) (v : V) (d : D) : Prop := match d with
  | .acc i => σ[i]? = some (some v)
  | d => Rep ca M v d
theorem RepX.of {ca : Nat → Addr} {M : Mem} {σ : L2.St} {v : V} {d : D} (r : Rep ca M v d) : RepX ca M σ v d := by
  cases d <;> first | exact r | cases r
theorem RepX.rep {ca : Nat → Addr} {M : Mem} {σ : L2.St} {v : V} {d : D} (r : RepX ca M σ v d) (h : d.isAcc = false) : Rep ca M v d := by
  cases d <;> first | exact r | cases h
theorem RepX.ext {ca : Nat → Addr} {M M1 : Mem} {H H1 : Hp} {σ : L2.St} {v : V} {d : D} (r : RepX ca M σ v d) (e : Ext M H M1 H1) : RepX ca M1 σ v d := by
  cases d <;> first | exact r | exact e.rep (show Rep ca M v _ from r)
inductive RepXL (ca : Nat → Addr) (M : Mem) (σ : L2.St) : List V → List D → Prop
  | nil : RepXL ca M σ [] []
  | cons {v : V} {vs : List V} {d : D} {ds : List D} : RepX ca M σ v d → RepXL ca M σ vs ds → RepXL ca M σ (v :: vs) (d :: ds)
theorem RepXL.ext {ca : Nat → Addr} {M M1 : Mem} {H H1 : Hp} {σ : L2.St} (e : Ext M H M1 H1) : ∀ {vs : List V} {ds : List D}, RepXL ca M σ vs ds → RepXL ca M1 σ vs ds
  | _, _, .nil => .nil
  | _, _, .cons r t => .cons (r.ext e) (t.ext e)

theorem RepX.rdN {ca : Nat → Addr} {M : Mem} {σ : L2.St} {v : V} {d : D} (r : RepX ca M σ v d) : rd d = d := by
  cases d <;> first | rfl | cases r

/-- the outcome of an expression: a value, an own accumulator, or an object just made -/
def RepT (ca : Nat → Addr) (σ : L2.St) (H : Hp) (M' : Mem) (H' : Hp) (v : V) (d : D) : Prop := match d with
  | .own d => ∃ p ho ob, v = .ref p ∧ H p = none ∧ H' p = some ho ∧ obOf d = some ob ∧ ObR ca M' ho ob ∧ M'.F p = none ∧ p ∉ M'.mu
  | d => RepX ca M' σ v d
theorem RepT.of {ca : Nat → Addr} {σ : L2.St} {H : Hp} {M' : Mem} {H' : Hp} {v : V} {d : D} (r : RepX ca M' σ v d) : RepT ca σ H M' H' v d := by
  cases d <;> first | exact r | cases r
theorem RepT.from {ca : Nat → Addr} {σ : L2.St} {H H1 : Hp} {M' : Mem} {H' : Hp} {v : V} {d : D} (r : RepT ca σ H1 M' H' v d) (h : ∀ p, H1 p = none → H p = none) : RepT ca σ H M' H' v d := by
  cases d with
  | own d =>
    obtain ⟨p, ho, ob, e1, e2, e3⟩ := r
    exact ⟨p, ho, ob, e1, h p e2, e3⟩
  | _ => exact r
theorem Ext.none {M M1 : Mem} {H H1 : Hp} (e : Ext M H M1 H1) {p : Addr} (h : H1 p = none) : H p = none := by
  cases q : H p with
  | none => rfl
  | some o =>
    obtain ⟨o', z⟩ := e.dom p o q
    rw [h] at z; cases z
theorem ObR.d {ca : Nat → Addr} {M : Mem} {p : Addr} {ho : HO} {ob : Ob} (r : ObR ca M ho ob) (h : M.F p = some ho) : Rep ca M (.ref p) ob.d := by
  cases r with
  | lst r => exact .lst h r
  | dct e r => exact .dct h e r
  | ins e r => exact .ins h e r
theorem obOf_d {d : D} {ob : Ob} (h : obOf d = some ob) : ob.d = d := by
  cases d <;> cases h <;> rfl
theorem obOf_of (ob : Ob) : obOf ob.d = some ob := by cases ob <;> rfl
/-- what was just made is held: told as never changed any more -/
theorem RepT.hold {ca : Nat → Addr} {σ : L2.St} {M M' : Mem} {H H' : Hp} {S : Sto} {v : V} {d : D} (e : Ext M H M' H') (rs : RelS ca M' S H') (r : RepT ca σ H M' H' v d) :
    ∃ M2, Ext M H M2 H' ∧ RelS ca M2 S H' ∧ RepX ca M2 σ v (rd d) := by
  cases d with
  | own d =>
    obtain ⟨p, ho, ob, rfl, e2, e3, e4, e5, e6, e7⟩ := r
    have hF : ∀ a o, M'.F a = some o → (upd M'.F p ho) a = some o := fun a o h => by
      rw [upd_ne (fun z => by rw [z, e6] at h; cases h)]; exact h
    refine ⟨{ M' with F := upd M'.F p ho }, ⟨fun a o h => hF a o (e.F a o h), e.mu, e.h0, e.sa, e.rest, fun a o h n => ?_, e.newM, e.dom⟩, ⟨fun a o h => ?_, rs.len, rs.nd, fun a h => ?_, fun n ob' h => ?_, rs.h0⟩, ?_⟩
    · by_cases z : a = p
      · rw [z]; exact e2
      · exact e.newF a o (by rw [← h]; exact (upd_ne z).symm) n
    · by_cases z : a = p
      · subst z
        have h' : upd M'.F a ho a = some o := h
        rw [upd_same] at h'
        cases h'
        exact e3
      · exact rs.frz a o (by rw [← h]; exact (upd_ne z).symm)
    · have hne : a ≠ p := fun z => e7 (by rw [← z]; exact h)
      exact (upd_ne hne).trans (rs.off a h)
    · obtain ⟨a, ho', h1, h2, h3⟩ := rs.ob n ob' h
      exact ⟨a, ho', h1, h2, ObR.mono (M := M') (M' := { M' with F := upd M'.F p ho }) hF (fun _ _ h => h) rfl h3⟩
    · rw [show rd (.own d) = d from rfl, ← obOf_d e4]
      exact RepX.of (ObR.d (e5.mono (M' := { M' with F := upd M'.F p ho }) hF (fun _ _ h => h) rfl) upd_same)
  | _ => exact ⟨M', e, rs, r⟩

/-- an error behind its raise -/
def ExcR (ca : Nat → Addr) (M : Mem) (H : Hp) (c : Nat) (d : D) (cls : Value) (dd : Option Addr) : Prop :=
  cls = .ref (ca c) ∧ ∃ a v, dd = some a ∧ H a = some (.xd [(("value" : Str), v)]) ∧ M.F a = none ∧ a ∉ M.mu ∧ Rep ca M v d

/-- an outcome of an expression as it lies behind it -/
def Out (ca : Nat → Addr) (W : WX) (M : Mem) (σ : L2.St) (H : Hp) (r : R D) (Q : VK) : Prop := match r with
  | .ok d S => ∀ v M' H', Ext M H M' H' → RelS ca M' S H' → RepT ca σ H M' H' v d → Q v H'
  | .er c d S => ∀ cls dd M' H', Ext M H M' H' → RelS ca M' S H' → ExcR ca M' H' c d cls dd → H dd.get! = none → W cls dd σ H'
  | .bad => False
end K9
end
section
set_option Elab.async false
set_option linter.all false
set_option maxRecDepth 100000
/-! K9Mat: whether a piece of the given text is the own syntax (places in the text do not count). -/
namespace K9
open PySem

/-- what is known of the module's names: defs, classes, which of them are errors, texts, numbers, dicts, names that it has not -/
structure GT where
  fns : List (Str × Nat)
  cls : List (Str × Nat)
  errs : List Nat
  gS : List (Str × Str)
  gI : List (Str × Int)
  gD : List (Str × Nat)
  bl : List Str
  ckw : List (Nat × Nat × List Str × List Nat)
  fkw : List (Nat × Nat × List Str × List Nat)
/-- what is known where a text stands: the names by slot, the scope -/
structure TC where
  N : List Str
  sc : Scope
  sc0 : Scope
  g : GT

def TC.glb (t : TC) (x : Str) : Bool := t.sc.names.lookup x == some .globalImplicit && x != ("__debug__" : Str) && x != ("__name__" : Str)
def TC.blt (t : TC) (x : Str) : Bool := t.glb x && t.g.bl.contains x
def TC.vis (t : TC) (x : Str) : Bool := (t.sc.names.lookup x == some .local || t.sc.names.lookup x == some .cell || t.sc.names.lookup x == some .free) && x != ("__debug__" : Str) && x != ("__classdict__" : Str)
def TC.slot (t : TC) (i : Nat) (x : Str) : Bool := t.N[i]? == some x && t.vis x
def TC.loc (t : TC) (i : Nat) (x : Str) : Bool := t.N[i]? == some x && (t.sc0.names.lookup x == some .local || t.sc0.names.lookup x == some .cell)

def bopOf : Operator → Option Bop
  | .Add => some .add | .Sub => some .sub | .Mult => some .mul | .FloorDiv => some .fdiv | .Mod => some .mod | .Pow => some .pow
  | _ => none
def copOf : CmpOp → Cop
  | .Eq => .eq | .NotEq => .ne | .Lt => .lt | .LtE => .le | .Gt => .gt | .GtE => .ge | .Is => .is | .IsNot => .isn | .In => .isin | .NotIn => .nin
def biOf (x : Str) : Option Bi := ([(("abs" : Str), Bi.abs), ("all", .all), ("any", .any), ("dict", .dict), ("int", .int), ("len", .len), ("list", .list), ("max", .max), ("min", .min), ("repr", .repr), ("sorted", .sorted), ("str", .str), ("sum", .sum), ("tuple", .tuple)] : List (Str × Bi)).lookup x
def mtOf (x : Str) : Option Mt := ([(("append" : Str), Mt.append), ("clear", .clear), ("count", .count), ("extend", .extend), ("get", .get), ("index", .index), ("insert", .insert), ("items", .items), ("join", .join), ("partition", .partition), ("pop", .pop), ("replace", .replace), ("reverse", .reverse), ("split", .split), ("update", .update), ("upper", .upper), ("values", .values)] : List (Str × Mt)).lookup x
def isCall : Expr → Bool
  | .Call .. => true
  | _ => false
def isComp : Expr → Bool
  | .ListComp .. => true
  | .SetComp .. => true
  | .DictComp .. => true
  | _ => false
/-- no super() -/
def okBase : Expr → Bool
  | .Call (.Name id _) [] [] _ => id != "super"
  | _ => true
def isSetE : Expr → Bool
  | .Set .. => true
  | _ => false
def isSlice : Expr → Bool
  | .Slice .. => true
  | _ => false
def isStar : Expr → Bool
  | .Starred .. => true
  | _ => false
def isTup : Expr → Bool
  | .Tuple .. => true
  | _ => false
/-- a class's name in isinstance -/
def tyOf (t : TC) : Expr → Option Ty
  | .Name x _ => if t.glb x then
      match t.g.cls.lookup x with
      | some c => some (.cls c)
      | none => if t.g.bl.contains x then ([(("list" : Str), Ty.list), ("tuple", .tuple), ("int", .int), ("str", .str), ("bool", .bool), ("dict", .dict), ("ValueError", .valueError)] : List (Str × Ty)).lookup x else none
    else none
  | _ => none
def nmMat (t : TC) (i : Nat) : Expr → Bool
  | .Name x _ => t.loc i x
  | _ => false
def nmsMat (t : TC) : List Nat → List Expr → Bool
  | [], [] => true
  | i :: is, e :: es => nmMat t i e && nmsMat t is es
  | _, _ => false
def tgMat (t : TC) (tg : List Nat) (e : Expr) : Bool := match tg, e with
  | [i], .Name x _ => t.loc i x
  | is, .Tuple es _ _ => 2 ≤ es.length && nmsMat t is es
  | _, _ => false
/-- the scope of a comprehension where it runs -/
def relB (scope sc : Scope) : Scope := { scope with names := scope.names.map fun p => if (p.2 == .free && sc.kind == .function && sc.names.lookup p.1 == some .cell) then (p.1, .cell) else (p.1, p.2) }
def TC.inner (t : TC) (sc : Scope) : TC := { t with sc0 := sc, sc := relB sc t.sc }
def blkB (t : TC) (scope : Scope) (own : List Nat) : Bool :=
  (match scope.kind with | .function => true | _ => false) && (scope.names.all fun y => scope.names.lookup y.1 == some y.2) && (own.all fun i => (t.N[i]?).isSome) &&
    (scope.names.all fun y => match y.2 with
      | .free => t.sc.names.lookup y.1 == some .cell || t.sc.names.lookup y.1 == some .free
      | .local => own.any (fun i => t.N[i]? == some y.1) || !(t.N.contains y.1)
      | .cell => own.any (fun i => t.N[i]? == some y.1) || !(t.N.contains y.1)
      | _ => true)
/-- a built-in's name -/
def bltHd (t : TC) (f : Str) : Expr → Bool
  | .Name x _ => t.blt x && x == f
  | _ => false
def isNilKw : List Keyword → Bool
  | [] => true
  | _ => false
/-- the classes of isinstance -/
def isiB (t : TC) (ts : List Ty) : Expr → Bool
  | .Tuple cs _ _ => cs.mapM (tyOf t) == some ts
  | .Name x p => (match ts with
    | [T] => tyOf t (.Name x p) == some T
    | _ => false)
  | _ => false
/-- the methods that are covered -/
def mtCov : Mt → Bool
  | .join => true | .get => true | .upper => true | .partition => true | .split => true
  | _ => false
def mutCov : Mt → Bool
  | .append => true | .reverse => true | .clear => true | .extend => true
  | _ => false
/-- isinstance's lists of classes are short -/
def okTys (ts : List Ty) : Bool := decide (ts.length ≤ 100)
def isRevS : Expr → Bool
  | .Slice none none (some (.UnaryOp .USub (.Constant (.int 1) _ _) _)) _ => true
  | _ => false
/-- the names of keywords -/
def kwNm (kws : List Keyword) : Option (List Str) := kws.mapM Keyword.arg
/-- the forms of a maker's call -/
def ckB (t : TC) (c n : Nat) (names : Option (List Str)) (p : List Nat) : Bool := match names with
  | some ns => (t.g.errs.contains c && (ns == (["value"] : List Str) && (p == [0] && n == 0))) || (!(t.g.errs.contains c) && t.g.ckw.contains (c, n, ns, p))
  | none => false
def fkB (t : TC) (f n : Nat) (names : Option (List Str)) (p : List Nat) : Bool := match names with
  | some ns => t.g.fkw.contains (f, n, ns, p)
  | none => false
def isTrueK : Ex → Bool
  | .bl true => true
  | _ => false
def isNonK : Ex → Bool
  | .non => true
  | _ => false
def isNilK : Exs → Bool
  | .nil => true
  | _ => false

mutual
def mat (t : TC) : Ex → Expr → Bool
  | .non, .Constant .none _ _ => true
  | .bl b, .Constant (.bool c) _ _ => b == c
  | .int i, .Constant (.int j) _ _ => i == j
  | .int i, .Name x _ => t.glb x && t.g.gI.lookup x == some i
  | .str s, .Constant (.str z) _ _ => s == z
  | .str s, .Name x _ => t.glb x && t.g.gS.lookup x == some s
  | .var i, .Name x _ => t.slot i x
  | .bin op a b, .BinOp l o r _ => bopOf o == some op && mat t a l && mat t b r
  | .neg a, .UnaryOp .USub e _ => mat t a e
  | .not a, .UnaryOp .Not e _ => mat t a e
  | .cmp op a b, .Compare l [o] [r] _ => copOf o == op && mat t a l && mat t b r && !(isSetE r)
  | .cmp2 o1 o2 a b c, .Compare l [p1, p2] [r, q] _ => copOf p1 == o1 && copOf p2 == o2 && mat t a l && mat t b r && mat t c q && !(isSetE r) && !(isSetE q)
  | .and a b, .BoolOp .And [v, u] _ => mat t a v && mat t b u
  | .and a b, .BoolOp .And (v :: u :: w :: rest) pos => mat t a v && mat t b (.BoolOp .And (u :: w :: rest) pos)
  | .or a b, .BoolOp .Or [v, u] _ => mat t a v && mat t b u
  | .or a b, .BoolOp .Or (v :: u :: w :: rest) pos => mat t a v && mat t b (.BoolOp .Or (u :: w :: rest) pos)
  | .ite c a b, .IfExp e l r _ => mat t c e && mat t a l && mat t b r
  | .tup es, .Tuple xs _ _ => mats t es xs
  | .lst es, .List xs _ => mats t es xs
  | .dict0, .Dict [] [] _ => true
  | .call f es, .Call (.Name x _) xs [] _ => t.glb x && t.g.fns.lookup x == some f && mats t es xs && !(xs.any isStar)
  | .make c es, .Call (.Name x _) xs [] _ => t.glb x && t.g.cls.lookup x == some c && mats t es xs && !(xs.any isStar)
  | .makek c es ks p, .Call (.Name x _) xs kws _ => !kws.isEmpty && t.glb x && t.g.cls.lookup x == some c && ckB t c xs.length (kwNm kws) p && mats t es xs && !(xs.any isStar) && mats t ks (kws.map Keyword.value) && !((kws.map Keyword.value).any isStar)
  | .callk f es ks p, .Call (.Name x _) xs kws _ => !kws.isEmpty && t.glb x && t.g.fns.lookup x == some f && fkB t f xs.length (kwNm kws) p && mats t es xs && !(xs.any isStar) && mats t ks (kws.map Keyword.value) && !((kws.map Keyword.value).any isStar)
  | .gget g k, .Call (.Attribute (.Name x _) m apos) [e] [] pos => m == ("get" : Str) && t.glb x && t.g.gD.lookup x == some g && mat t k e && !(isStar e) && apos.endLine == pos.line
  | .bi b es, .Call (.Name x _) xs [] _ => t.blt x && biOf x == some b && mats t es xs && !(xs.any isStar) && !xs.isEmpty
  | .isi a ts, .Call fe es kws _ => okTys ts && bltHd t "isinstance" fe && isNilKw kws && (match es with
    | [e, c] => mat t a e && !(isStar e) && isiB t ts c
    | _ => false)
  | .mt m o es, .Call (.Attribute v x apos) xs [] pos => mtCov m && mtOf x == some m && mat t o v && mats t es xs && !(xs.any isStar) && okBase v && decide (xs.length < 30) && apos.endLine == pos.line && (!xs.isEmpty || m == .upper)
  | .meth x o es, .Call (.Attribute v y apos) xs [] pos => x == y && (mtOf x).isNone && mat t o v && mats t es xs && !(xs.any isStar) && okBase v && decide (xs.length < 30) && apos.endLine == pos.line
  | .fld o f, .Attribute v x _ => f == x && mat t o v && okBase v
  | .ix a i, .Subscript v e _ => mat t a v && mat t i e && !(isSlice e)
  | .sl a lo hi, .Subscript v (.Slice l h none _) _ => mat t a v && (match l with
    | none => isNonK lo
    | some l => mat t lo l && !(isNonK lo)) && (match h with
    | none => isNonK hi
    | some h => mat t hi h && !(isNonK hi))
  | .rev a, .Subscript v j _ => mat t a v && isRevS j
  | .lc own tg it c elt, .ListComp e gens scope _ => blkB t scope own && tg.all (fun i => own.contains i) && mat (t.inner scope) elt e && (match gens with
    | [⟨g, iter, ifs, n⟩] => decide (n = 0) && tgMat (t.inner scope) tg g && matIt t it iter && (isTup g || !(needTup it)) && !(isSetE iter) && (match ifs with
      | [] => isTrueK c
      | [f] => mat (t.inner scope) c f
      | _ => false)
    | _ => false)
  | .ref x, e => mat t x e
  | _, _ => false
def mats (t : TC) : Exs → List Expr → Bool
  | .nil, [] => true
  | .cons true x xs, .Starred e _ :: es => mat t x e && mats t xs es
  | .cons false x xs, e :: es => mat t x e && !(isStar e) && mats t xs es
  | _, _ => false
def matIt (t : TC) : It → Expr → Bool
  | .seq x, e => mat t x e
  | .rng1 x, .Call fe es kws _ => bltHd t "range" fe && isNilKw kws && (match es with
    | [a] => mat t x a && !(isStar a)
    | _ => false)
  | .rng2 x y, .Call fe es kws _ => bltHd t "range" fe && isNilKw kws && (match es with
    | [a, b] => mat t x a && mat t y b && !(isStar a) && !(isStar b)
    | _ => false)
  | .enum x, .Call fe es kws _ => bltHd t "enumerate" fe && isNilKw kws && (match es with
    | [a] => mat t x a && !(isStar a)
    | _ => false)
  | .zip x y, .Call fe es kws _ => bltHd t "zip" fe && isNilKw kws && (match es with
    | [a, b] => mat t x a && mat t y b && !(isStar a) && !(isStar b)
    | _ => false)
  | _, _ => false
end

/-! ### statements -/
def isLocN (t : TC) (x : Str) : Bool := t.sc.names.lookup x == some .local
/-- name = [..] is stored ahead -/
def swB (t : TC) (x : Str) (p : Pos) : Expr → Bool
  | .ListComp _ _ s pos => isLocN t x && p.line == pos.line && !(s.names.any fun y => y.1 == x && (y.2 == .local || y.2 == .cell))
  | _ => false
/-! the parts of statements -/
structure ParP where
  x : Str
  px : Pos
  y : Str
  py : Pos
  kt : Nat
  pt : Pos
  a : Expr
  b : Expr
  k2 : Nat
  p2 : Pos
  pos : Pos
def ParP.st (r : ParP) : Stmt := .Assign [.Tuple [.Name r.x r.px, .Name r.y r.py] r.kt r.pt] (.Tuple [r.a, r.b] r.k2 r.p2) r.pos
def parP : Stmt → Option ParP
  | .Assign [.Tuple [.Name x px, .Name y py] kt pt] (.Tuple [a, b] k2 p2) pos => some ⟨x, px, y, py, kt, pt, a, b, k2, p2, pos⟩
  | _ => none
theorem parP_of {s : Stmt} {r : ParP} (h : parP s = some r) : s = r.st := by
  unfold parP at h
  split at h
  · cases h; rfl
  · cases h
structure FldP where
  a : Expr
  x : Str
  p2 : Pos
  v : Expr
  pos : Pos
def FldP.st (r : FldP) : Stmt := .Assign [.Attribute r.a r.x r.p2] r.v r.pos
def fldP : Stmt → Option FldP
  | .Assign [.Attribute a x p2] v pos => some ⟨a, x, p2, v, pos⟩
  | _ => none
theorem fldP_of {s : Stmt} {r : FldP} (h : fldP s = some r) : s = r.st := by
  unfold fldP at h
  split at h
  · cases h; rfl
  · cases h
structure RaiseP where
  x : Str
  p : Pos
  v : Expr
  p1 : Pos
  pos : Pos
def RaiseP.st (r : RaiseP) : Stmt := .Raise (some (.Call (.Name r.x r.p) [r.v] [] r.p1)) none r.pos
def raiseP : Stmt → Option RaiseP
  | .Raise (some (.Call (.Name x p) [v] [] p1)) none pos => some ⟨x, p, v, p1, pos⟩
  | _ => none
theorem raiseP_of {s : Stmt} {r : RaiseP} (h : raiseP s = some r) : s = r.st := by
  unfold raiseP at h
  split at h
  · cases h; rfl
  · cases h
structure TryP where
  y : Str
  p1 : Pos
  v : Expr
  p2 : Pos
  x : Str
  np : Pos
  n : Str
  z : Str
  p3 : Pos
  n2 : Str
  p4 : Pos
  p5 : Pos
  p6 : Pos
  p7 : Pos
def TryP.st (r : TryP) : Stmt := .Try [.Assign [.Name r.y r.p1] r.v r.p2] [.ExceptHandler (some (.Name r.x r.np)) (some r.n) [.Assign [.Name r.z r.p3] (.Name r.n2 r.p4) r.p5] r.p6] [] [] r.p7
def tryP : Stmt → Option TryP
  | .Try [.Assign [.Name y p1] v p2] [.ExceptHandler (some (.Name x np)) (some n) [.Assign [.Name z p3] (.Name n2 p4) p5] p6] [] [] p7 => some ⟨y, p1, v, p2, x, np, n, z, p3, n2, p4, p5, p6, p7⟩
  | _ => none
theorem tryP_of {s : Stmt} {r : TryP} (h : tryP s = some r) : s = r.st := by
  unfold tryP at h
  split at h
  · cases h; rfl
  · cases h
def nonLoc (t : TC) (ts : List Expr) : Bool := ts.any fun e => match e with
  | .Name x _ => t.sc.names.lookup x != some .local
  | _ => false
def foldT : Expr → Bool
  | .Tuple vs _ _ => vs.all (foldedForSure 8)
  | _ => false
def parNames (t : TC) (line : Nat) : List Expr → Option (List Str)
  | [] => some []
  | .Name x p :: r => if isLocN t x && p.line == line then (parNames t line r).map (x :: ·) else none
  | _ => none
/-- a, b = x, y with stores from the right -/
def parB (t : TC) (ts vs : List Expr) : Bool := (ts.length == 2 || ts.length == 3) && vs.length == ts.length && !(vs.any isStar) && (match parNames t ((ts.head?.map (·.pos.line)).getD 0) ts with
  | some ns => ns.eraseDups.length == ns.length
  | none => false) && !(vs.all (foldedForSure 8)) && !(vs.all (constantsAlone 8))
/-- .. from the left -/
def unpB : Expr → List Expr → Bool
  | .Tuple vs _ _, ts => (!(ts.length == 2 || ts.length == 3) || vs.length != ts.length) || (!(vs.any isStar) && vs.all (foldedForSure 8))
  | _, _ => true

mutual
def matS (t : TC) : Sm → Stmt → Bool
  | .asg i e, .Assign [.Name x _] v _ => t.loc i x && mat t e v
  | .acc i e, .Assign [.Name x _] v _ => t.loc i x && mat t e v
  | .unp is e, .Assign [.Tuple ts k p] v _ => tgMat t is (.Tuple ts k p) && mat t e v && !(isComp v) && (!(isTup v) || foldT v || nonLoc t ts)
  | .par is es, st => (match is with
    | [i, j] => (match parP st with
      | some r => t.loc i r.x && t.loc j r.y && isLocN t r.x && isLocN t r.y && r.py.line == r.px.line && !(r.x == r.y) && !(i == j) && mats t es [r.a, r.b] && !([r.a, r.b].any isStar) && !([r.a, r.b].all (foldedForSure 8)) && !([r.a, r.b].all (constantsAlone 8))
      | none => false)
    | _ => false)
  | .setfld o f e, st => (match fldP st with
    | some r => f == r.x && mat t o r.a && mat t e r.v && !(isComp r.v)
    | none => false)
  | .raise c e, st => (match raiseP st with
    | some r => t.glb r.x && t.g.cls.lookup r.x == some c && t.g.errs.contains c && mat t e r.v && !(isStar r.v)
    | none => false)
  | .tryE j e c i k, st => (match tryP st with
    | some r => t.loc j r.y && mat t e r.v && !(isComp r.v) && t.glb r.x && t.g.cls.lookup r.x == some c && t.g.errs.contains c && t.N[i]? == some r.n && isLocN t r.n && r.n2 == r.n && r.n != ("__debug__" : Str) && r.n != ("__classdict__" : Str) && t.loc k r.z
    | none => false)
  | .setix o i e, .Assign [.Subscript a b _] v _ => mat t e v && mat t o a && mat t i b && !(isSlice b) && !(isComp v)
  | .mut m o es, .Expr (.Call (.Attribute v x apos) xs [] p2) _ => mutCov m && mtOf x == some m && mat t o v && mats t es xs && !(xs.any isStar) && okBase v && decide (xs.length < 30) && apos.endLine == p2.line
  | .expr e, .Expr v _ => mat t e v && !(isComp v)
  | .ret e, .Return (some v) _ => mat t e v
  | .ret e, .Return none _ => isNonK e
  | .ite c a b, .If e p q _ => mat t c e && matSs t a p && matSs t b q
  | .for_ is it b, .For g iter body [] _ => tgMat t is g && matIt t it iter && (isTup g || !(needTup it)) && !(isSetE iter) && matSs t b body
  | .cont, .Continue _ => true
  | .pass, .Pass _ => true
  | .pass, .Expr (.Constant (.str _) _ _) _ => true
  | _, _ => false
def matSs (t : TC) : Sms → List Stmt → Bool
  | .nil, [] => true
  | .cons (.frz _) ss, st => matSs t ss st
  | .cons (.frzd _) ss, st => matSs t ss st
  | .cons s ss, st :: sts => matS t s st && matSs t ss sts
  | _, _ => false
end
end K9
end
section
set_option Elab.async false
set_option linter.all false
set_option maxRecDepth 100000
/-! K9Snd1: the evaluator's readings; how they compose; operators by values. -/
namespace K9
open PySem PySem.Spec PyProof.Rows L2

theorem PE.imp {X : Cx} {e : Expr} {t t' : TE} (h : PE X e t) (q : ∀ σ H Q, t' σ H Q → t σ H Q) : PE X e t' := ⟨fun pins s σ H Q I z => h.run pins s σ H Q I (q σ H Q z)⟩
theorem PT.imp {X : Cx} {e : Expr} {t t' : TT} (h : PT X e t) (q : ∀ σ H Q, t' σ H Q → t σ H Q) : PT X e t' := ⟨fun pins s σ H Q I z => h.run pins s σ H Q I (q σ H Q z)⟩
theorem PW.imp {X : Cx} {e : Expr} {t t' : TT} (h : PW X e t) (q : ∀ σ H Q, t' σ H Q → t σ H Q) : PW X e t' := ⟨fun wh pins s σ H Q I z => h.run wh pins s σ H Q I (q σ H Q z)⟩

variable {ca : Nat → Addr} {W : WX}
section
variable {M M1 : Mem} {H H1 : Hp} {σ : L2.St} {env : Env} {S : Sto}
theorem Out.ext {r : R D} {Q : VK} (h : Out ca W M σ H r Q) (e : Ext M H M1 H1) : Out ca W M1 σ H1 r Q := by
  cases r with
  | bad => exact h
  | ok d S' => exact fun v M' H' x rs r => h v M' H' (e.trans x) rs (r.from fun _ => e.none)
  | er c d S' =>
    intro cls dd M' H' x rs ex hd
    refine h cls dd M' H' (e.trans x) rs ex ?_
    cases q : H dd.get! with
    | none => rfl
    | some o =>
      obtain ⟨o', z⟩ := e.dom _ o q
      rw [hd] at z; cases z
/-- a value, then what is done with it -/
theorem Out.bind {r : R D} {k : D → Sto → R D} {Q Q1 : VK} (h : Out ca W M σ H (r.bindR k) Q) (re : RelE ca M env σ H)
    (hk : ∀ d S1 v M1 H1, True → Ext M H M1 H1 → RelS ca M1 S1 H1 → RelE ca M1 env σ H1 → RepX ca M1 σ v d → Out ca W M1 σ H1 (k d S1) Q → Q1 v H1) : Out ca W M σ H r Q1 := by
  cases r with
  | bad => exact h
  | er c d S' => exact h
  | ok d S' =>
    intro v M1 H1 e rs rt
    obtain ⟨M2, e2, rs2, rx⟩ := rt.hold e rs
    exact hk (rd d) S' v M2 H1 trivial e2 rs2 (re.ext e2) rx (Out.ext (r := k (rd d) S') h e2)
end

/-- the reading that the evaluator gives -/
def tM (ca : Nat → Addr) (W : WX) (f : Env → Sto → R D) : TE := fun σ H Q => ∃ M env S, RelS ca M S H ∧ RelE ca M env σ H ∧ Out ca W M σ H (f env S) Q
/-- as a test -/
def qB (Q : Bool → Hp → Prop) : VK := fun v H => ∃ b, v = .bl b ∧ Q b H
def tMT (ca : Nat → Addr) (W : WX) (f : Env → Sto → R D) : TT := fun σ H Q => tM ca W f σ H (qB Q)

/-- an operator by values: what it reads -/
def r2M (ca : Nat → Addr) (f : D → D → Env → Sto → R D) : R2 := fun x y H Q => ∃ M env S σ a b, RelS ca M S H ∧ RelE ca M env σ H ∧ RepX ca M σ x a ∧ RepX ca M σ y b ∧ Out ca (fun _ _ _ _ => False) M σ H (f a b env S) Q
/-- nothing but a value comes of it -/
def NoEr {α : Type} (r : R α) : Prop := ∀ c d S, r ≠ .er c d S
theorem Out.w {W W' : WX} {M : Mem} {H : Hp} {σ : L2.St} {r : R D} {Q : VK} (h : Out ca W M σ H r Q) (n : NoEr r) : Out ca W' M σ H r Q := by
  cases r with
  | bad => exact h
  | ok d S => exact h
  | er c d S => exact absurd rfl (n c d S)
theorem tM_two {fa fb : Env → Sto → R D} {f : D → D → Env → Sto → R D} (n : ∀ a b env S, NoEr (f a b env S)) {σ : L2.St} {H : Hp} {Q : VK}
    (h : tM ca W (fun env S => (fa env S).bindR fun x S1 => (fb env S1).bindR fun y S2 => f x y env S2) σ H Q) : tOp (r2M ca f) (tM ca W fa) (tM ca W fb) σ H Q := by
  obtain ⟨M, env, S, rs, re, o⟩ := h
  refine ⟨M, env, S, rs, re, o.bind re (fun d S1 v M1 H1 _ e1 rs1 re1 rx1 o1 => ⟨M1, env, S1, rs1, re1, o1.bind re1 (fun e S2 u M2 H2 _ e2 rs2 re2 rx2 o2 => ?_)⟩)⟩
  exact ⟨M2, env, S2, σ, d, e, rs2, re2, rx1.ext e2, rx2, o2.w (n _ _ _ _)⟩

/-! ### what a value holds -/
section
variable {M : Mem} {H : Hp} {σ : L2.St} {env : Env} {S : Sto}
theorem cont_at (rs : RelS ca M S H) (re : RelE ca M env σ H) {v : V} {d : D} {ob : Ob} (r : RepX ca M σ v d) (h : cont env S d = some ob) : ∃ a ho, v = .ref a ∧ H a = some ho ∧ ObR ca M ho ob := by
  cases d with
  | lst xs =>
    cases h
    cases (show Rep ca M v _ from r) with
    | lst f q => exact ⟨_, _, rfl, rs.frz _ _ f, .lst q⟩
  | dct ks vs =>
    cases h
    cases (show Rep ca M v _ from r) with
    | dct f e q => exact ⟨_, _, rfl, rs.frz _ _ f, .dct e q⟩
  | ins c fs vs =>
    cases h
    cases (show Rep ca M v _ from r) with
    | ins f e q => exact ⟨_, _, rfl, rs.frz _ _ f, .ins e q⟩
  | ref n =>
    obtain ⟨a, ho, h1, h2, h3⟩ := rs.ob n ob h
    cases (show Rep ca M v _ from r) with
    | ref q =>
      rw [h1] at q
      cases q
      exact ⟨a, ho, rfl, h2, h3⟩
  | acc i =>
    have r' : σ[i]? = some (some v) := r
    have h' : (match env[i]? with | some (.al o) => some o | _ => none) = some ob := h
    cases q : env[i]? with
    | none => rw [q] at h'; cases h'
    | some s =>
      rw [q] at h'
      cases s with
      | no => cases h'
      | fz d => cases h'
      | al o =>
        cases h'
        have z := re.sl i _ q
        rw [r'] at z
        cases z with
        | al h1 h2 _ _ _ _ => exact ⟨_, _, rfl, h1, h2⟩
  | _ => cases h
theorem lst_at (rs : RelS ca M S H) (re : RelE ca M env σ H) {v : V} {d : D} {xs : List D} (r : RepX ca M σ v d) (h : lstOf env S d = some xs) : ∃ a vs, v = .ref a ∧ H a = some (.lst vs) ∧ RepL ca M vs xs := by
  unfold lstOf at h
  cases q : cont env S d with
  | none => rw [q] at h; cases h
  | some ob =>
    rw [q] at h
    cases ob with
    | lst ys =>
      cases h
      obtain ⟨a, ho, e, h1, h2⟩ := cont_at rs re r q
      cases h2 with
      | lst p => exact ⟨a, _, e, h1, p⟩
    | _ => cases h
theorem seq_at (rs : RelS ca M S H) (re : RelE ca M env σ H) {v : V} {d : D} {xs : List D} (r : RepX ca M σ v d) (h : seqOf env S d = some xs) :
    ∃ a vs, v = .ref a ∧ (H a = some (.lst vs) ∨ H a = some (.tup vs)) ∧ RepL ca M vs xs := by
  cases d with
  | tup ds =>
    cases h
    cases (show Rep ca M v _ from r) with
    | tup f q => exact ⟨_, _, rfl, .inr (rs.frz _ _ f), q⟩
  | _ =>
    obtain ⟨a, vs, e, h1, h2⟩ := lst_at rs re r h
    exact ⟨a, vs, e, .inl h1, h2⟩

/-! ### new objects -/
theorem upd_none {H : Hp} {p a : Addr} {o : HO} (h : upd H p o a = none) : H a = none := by
  by_cases z : a = p
  · subst z; rw [upd_same] at h; cases h
  · rw [upd_ne z] at h; exact h
/-- the heap with a new object that is never changed any more -/
def Mem.add (M : Mem) (p : Addr) (o : HO) : Mem := { M with F := upd M.F p o }
theorem free_F (rs : RelS ca M S H) {p : Addr} (h : H p = none) : M.F p = none := by
  cases q : M.F p with
  | none => rfl
  | some o => rw [rs.frz p o q] at h; cases h
theorem free_mu (rs : RelS ca M S H) {p : Addr} (h : H p = none) : p ∉ M.mu := by
  intro q
  obtain ⟨n, hn, e⟩ := List.mem_iff_getElem.mp q
  have hn' : n < S.length := by rw [← rs.len]; exact hn
  obtain ⟨a, ho, h1, h2, _⟩ := rs.ob n _ (List.getElem?_eq_getElem hn')
  rw [List.getElem?_eq_getElem hn, e] at h1
  cases h1
  rw [h] at h2; cases h2
theorem ext_add (rs : RelS ca M S H) {p : Addr} {o : HO} (hp : H p = none) : Ext M H (M.add p o) (upd H p o) where
  F := fun a u h => by
    show upd M.F p o a = some u
    rw [upd_ne (fun z => by rw [z, free_F rs hp] at h; cases h)]
    exact h
  mu := fun _ _ h => h
  h0 := rfl
  sa := rfl
  rest := fun a u h _ => by rw [upd_ne (ne_of_none h hp)]; exact h
  newF := fun a u h n => by
    by_cases z : a = p
    · rw [z]; exact hp
    · rw [show (M.add p o).F a = M.F a from upd_ne z, n] at h; cases h
  newM := fun a h n => absurd h n
  dom := fun a u h => ⟨u, by rw [upd_ne (ne_of_none h hp)]; exact h⟩
theorem rel_add (rs : RelS ca M S H) {p : Addr} {o : HO} (hp : H p = none) : RelS ca (M.add p o) S (upd H p o) := by
  have e := ext_add (ca := ca) (o := o) rs hp
  refine ⟨fun a u h => ?_, rs.len, rs.nd, fun a h => ?_, fun n ob h => ?_, fun a h => rs.h0 a (upd_none h)⟩
  · by_cases z : a = p
    · subst z
      have h' : upd M.F a o a = some u := h
      rw [upd_same] at h' ⊢
      exact h'
    · rw [upd_ne z]
      exact rs.frz a u (by rw [← h]; exact (upd_ne z).symm)
  · have hne : a ≠ p := fun z => free_mu rs hp (z ▸ h)
    exact (upd_ne hne).trans (rs.off a h)
  · obtain ⟨a, ho, h1, h2, h3⟩ := rs.ob n ob h
    exact ⟨a, ho, h1, by rw [upd_ne (ne_of_none h2 hp)]; exact h2, e.obr h3⟩
/-- .. with a new object of the store -/
def Mem.more (M : Mem) (p : Addr) : Mem := { M with mu := M.mu ++ [p] }
theorem ext_more (rs : RelS ca M S H) {p : Addr} {o : HO} (hp : H p = none) : Ext M H (M.more p) (upd H p o) where
  F := fun _ _ h => h
  mu := fun n a h => by
    show (M.mu ++ [p])[n]? = some a
    have hn : n < M.mu.length := (List.getElem?_eq_some_iff.mp h).1
    rw [List.getElem?_append_left hn]; exact h
  h0 := rfl
  sa := rfl
  rest := fun a u h _ => by rw [upd_ne (ne_of_none h hp)]; exact h
  newF := fun a u h n => by rw [show (M.more p).F a = M.F a from rfl, n] at h; cases h
  newM := fun a h n => by
    have h' : a ∈ M.mu ++ [p] := h
    rcases List.mem_append.mp h' with q | q
    · exact absurd q n
    · rw [List.mem_singleton.mp q]; exact hp
  dom := fun a u h => ⟨u, by rw [upd_ne (ne_of_none h hp)]; exact h⟩
theorem rel_more (rs : RelS ca M S H) {p : Addr} {o : HO} {ob : Ob} (hp : H p = none) (r : ObR ca M o ob) : RelS ca (M.more p) (S ++ [ob]) (upd H p o) := by
  have e := ext_more (ca := ca) (o := o) rs hp
  refine ⟨fun a u h => ?_, ?_, ?_, fun a h => ?_, fun n ob' h => ?_, fun a h => rs.h0 a (upd_none h)⟩
  · have h' : M.F a = some u := h
    rw [upd_ne (fun z => by rw [z, free_F rs hp] at h'; cases h')]
    exact rs.frz a u h'
  · show (M.mu ++ [p]).length = _
    rw [List.length_append, List.length_append, rs.len]; rfl
  · exact List.nodup_append.mpr ⟨rs.nd, by simp, fun a h b q => by rw [List.mem_singleton.mp q]; exact fun z => free_mu rs hp (z ▸ h)⟩
  · have h' : a ∈ M.mu ++ [p] := h
    rcases List.mem_append.mp h' with q | q
    · exact rs.off a q
    · rw [List.mem_singleton.mp q]; exact free_F rs hp
  · by_cases q : n < S.length
    · rw [List.getElem?_append_left q] at h
      obtain ⟨a, ho, h1, h2, h3⟩ := rs.ob n ob' h
      exact ⟨a, ho, e.mu n a h1, by rw [upd_ne (ne_of_none h2 hp)]; exact h2, e.obr h3⟩
    · rw [List.getElem?_append_right (Nat.le_of_not_lt q)] at h
      have q2 : n - S.length = 0 := by
        cases z : n - S.length with
        | zero => rfl
        | succ k => rw [z] at h; simp at h
      rw [q2] at h
      simp at h
      subst h
      refine ⟨p, o, ?_, upd_same, e.obr r⟩
      show (M.mu ++ [p])[n]? = some p
      rw [List.getElem?_append_right (by rw [rs.len]; exact Nat.le_of_not_lt q), rs.len, q2]; rfl
/-- an object that was just made -/
theorem out_own (rs : RelS ca M S H) {d : D} {ob : Ob} {ho : HO} {Q : VK} (hd : obOf d = some ob) (r : ObR ca M ho ob) (o : Out ca W M σ H (.ok (.own d) S) Q) {p : Addr} (hp : H p = none) : Q (.ref p) (upd H p ho) := by
  have e : Ext M H M (upd H p ho) := {
    F := fun _ _ h => h
    mu := fun _ _ h => h
    h0 := rfl
    sa := rfl
    rest := fun a u h _ => by rw [upd_ne (ne_of_none h hp)]; exact h
    newF := fun a u h n => by rw [n] at h; cases h
    newM := fun a h n => absurd h n
    dom := fun a u h => ⟨u, by rw [upd_ne (ne_of_none h hp)]; exact h⟩ }
  refine o (.ref p) M _ e ⟨fun a u h => ?_, rs.len, rs.nd, rs.off, fun n ob' h => ?_, fun a h => rs.h0 a (upd_none h)⟩ ⟨p, ho, ob, rfl, hp, upd_same, hd, r, free_F rs hp, free_mu rs hp⟩
  · rw [upd_ne (fun z => by rw [z, free_F rs hp] at h; cases h)]
    exact rs.frz a u h
  · obtain ⟨a, ho', h1, h2, h3⟩ := rs.ob n ob' h
    exact ⟨a, ho', h1, by rw [upd_ne (ne_of_none h2 hp)]; exact h2, h3⟩
/-- a new list of values -/
theorem out_mkL (rs : RelS ca M S H) {vs : List V} {ds : List D} {Q : VK} (r : RepL ca M vs ds) (o : Out ca W M σ H (mkL ds S) Q) :
    ds.length ≤ sizeLine ∧ ∀ p, H p = none → Q (.ref p) (upd H p (.lst vs)) := by
  unfold mkL chk at o
  by_cases z : ds.length ≤ sizeLine
  · rw [if_pos z] at o
    exact ⟨z, fun p hp => out_own rs rfl (.lst r) o hp⟩
  · rw [if_neg z] at o; exact o.elim
end
end K9
end
section
set_option Elab.async false
set_option linter.all false
set_option maxRecDepth 100000
/-! K9Snd2: operators and comparisons by values. -/
namespace K9
open PySem PySem.Spec PyProof.Rows L2

variable {ca : Nat → Addr}
theorem noErC {α : Type} {p : Prop} [Decidable p] {r : R α} (h : NoEr r) : NoEr (chk p r) := by
  unfold chk
  split
  · exact h
  · exact fun _ _ _ z => nomatch z
theorem noErO {α β : Type} {o : Option α} {k : α → R β} (h : ∀ a, NoEr (k a)) : NoEr (oget o k) := by
  cases o with
  | none => exact fun _ _ _ z => nomatch z
  | some a => exact h a
theorem noErOk {α : Type} {a : α} {S : Sto} : NoEr (R.ok a S) := fun _ _ _ z => nomatch z
theorem noErBad {α : Type} : NoEr (R.bad : R α) := fun _ _ _ z => nomatch z
theorem noEr_mkL {xs : List D} {S : Sto} : NoEr (mkL xs S) := by
  unfold mkL
  exact noErC noErOk
theorem noEr_binI {op : Bop} {i j : Int} {S : Sto} : NoEr (binI op i j S) := by
  cases op <;> first | exact noErOk | exact noErC noErOk
theorem noEr_bin {op : Bop} (a b : D) (env : Env) (S : Sto) : NoEr (binD op a b env S) := by
  unfold binD
  split
  · exact noEr_binI
  · split
    · exact noErC noErOk
    · exact noErBad
  · split
    · exact noErC noErOk
    · exact noErBad
  · split
    · exact noErO fun _ => noErO fun _ => noEr_mkL
    · exact noErBad

section
variable {M : Mem} {H : Hp} {σ : L2.St} {env : Env} {S : Sto} {W : WX} {Q : VK}
/-- a value that needs no heap -/
theorem out_val (rs : RelS ca M S H) {d : D} {v : V} (r : RepX ca M σ v d) (o : Out ca W M σ H (.ok d S) Q) : Q v H := o v M H Ext.refl rs (RepT.of r)
theorem out_v (rs : RelS ca M S H) {d : D} {v : V} (r : Rep ca M v d) (o : Out ca W M σ H (.ok d S) Q) : Q v H := o v M H Ext.refl rs (RepT.of (RepX.of r))
theorem out_chk {p : Prop} [Decidable p] {r : R D} (o : Out ca W M σ H (chk p r) Q) : p ∧ Out ca W M σ H r Q := by
  unfold chk at o
  by_cases h : p
  · rw [if_pos h] at o; exact ⟨h, o⟩
  · rw [if_neg h] at o; exact o.elim
theorem out_oget {α : Type} {x : Option α} {k : α → R D} (o : Out ca W M σ H (oget x k) Q) : ∃ a, x = some a ∧ Out ca W M σ H (k a) Q := by
  cases x with
  | none => exact o.elim
  | some a => exact ⟨a, rfl, o⟩
/-- a new tuple -/
theorem out_tup (rs : RelS ca M S H) {vs : List V} {ds : List D} (r : RepL ca M vs ds) (o : Out ca W M σ H (.ok (.tup ds) S) Q) {p : Addr} (hp : H p = none) : Q (.ref p) (upd H p (.tup vs)) :=
  o (.ref p) (M.add p (.tup vs)) _ (ext_add rs hp) (rel_add rs hp) (.tup upd_same ((ext_add rs hp).repL r))
end

section
variable {X : Cx}
theorem int_of {M : Mem} {σ : L2.St} {v : V} {i : Int} (r : RepX ca M σ v (.int i)) : v = .int i := by
  cases (show Rep ca M v _ from r); rfl
theorem str_of {M : Mem} {σ : L2.St} {v : V} {i : Str} (r : RepX ca M σ v (.str i)) : v = .str i := by
  cases (show Rep ca M v _ from r); rfl
theorem bl_of {M : Mem} {σ : L2.St} {v : V} {i : Bool} (r : RepX ca M σ v (.bl i)) : v = .bl i := by
  cases (show Rep ca M v _ from r); rfl
theorem non_of {M : Mem} {σ : L2.St} {v : V} (r : RepX ca M σ v .non) : v = .non := by
  cases (show Rep ca M v _ from r); rfl
theorem tup_of {M : Mem} {S : Sto} {H : Hp} {σ : L2.St} {v : V} {ds : List D} (rs : RelS ca M S H) (r : RepX ca M σ v (.tup ds)) : ∃ a vs, v = .ref a ∧ H a = some (.tup vs) ∧ M.F a = some (.tup vs) ∧ RepL ca M vs ds := by
  cases (show Rep ca M v _ from r) with
  | tup f q => exact ⟨_, _, rfl, rs.frz _ _ f, f, q⟩
theorem opr_binI {op : Operator} {b : Bop} (hb : bopOf op = some b) {pins : List (Addr × Obj)} {s : Shared} {σ : L2.St} {H : Hp} {i j : Int} {v u : Value} {Q : VK} {M : Mem} {σ0 : L2.St} {S : Sto} {W : WX} (I : Inv X pins σ H s) (rx : RelV (.int i) v) (ry : RelV (.int j) u)
    (rs : RelS ca M S H) (o : Out ca W M σ0 H (binI b i j S) Q) : wpAny (model X.prog X.w) X.A (binaryOp op v u) (EP X pins σ Q) X.xe s := by
  cases op <;> first | (cases hb; done) | skip
  all_goals (cases hb)
  · exact op_add pins s σ H _ _ v u Q I rx ry ⟨i, j, rfl, rfl, out_v rs (.int _) o⟩
  · exact op_sub pins s σ H _ _ v u Q I rx ry ⟨i, j, rfl, rfl, out_v rs (.int _) o⟩
  · obtain ⟨h, o⟩ := out_chk o
    exact op_mul pins s σ H _ _ v u Q I rx ry ⟨i, j, rfl, rfl, h, out_v rs (.int _) o⟩
  · obtain ⟨h, o⟩ := out_chk o
    exact op_mod pins s σ H _ _ v u Q I rx ry ⟨i, j, rfl, rfl, h, out_v rs (.int _) o⟩
  · obtain ⟨⟨h0, h1, h2⟩, o⟩ := out_chk o
    obtain ⟨t, rfl⟩ := rx
    obtain ⟨t', rfl⟩ := ry
    refine pow_int h0 ?_ ⟨.int _, H, I.tok _, ⟨_, rfl⟩, out_v rs (.int _) o⟩
    have hb : Builtin.Int.intBits i ≤ 1000 := PyProof.Rows.intBits_le h2
    have h3 : (Builtin.Int.intBits i : Int) * j ≤ 1000 * j := Int.mul_le_mul_of_nonneg_right (by omega) h0
    omega
  · obtain ⟨⟨h0, h1⟩, o⟩ := out_chk o
    exact op_fdivW pins s σ H _ _ v u Q I rx ry ⟨i, j, rfl, rfl, wide_div h0 h1 (by decide) (by decide), out_v rs (.int _) o⟩
/-- a op b -/
theorem opr_bin {op : Operator} {b : Bop} (hb : bopOf op = some b) : OpR X (binaryOp op) (r2M ca (binD b)) := by
  intro pins s σ H x y v u Q I rx ry h
  obtain ⟨M, env, S, σ0, da, db, rs, re, ra, rb, o⟩ := h
  unfold binD at o
  split at o
  · obtain rfl := int_of ra
    obtain rfl := int_of rb
    exact opr_binI hb I rx ry rs o
  · obtain rfl := str_of ra
    obtain rfl := str_of rb
    split at o
    · cases op <;> first | (cases hb; done) | skip
      obtain ⟨h, o⟩ := out_chk o
      exact op_add_str pins s σ H _ _ v u Q I rx ry ⟨_, _, rfl, rfl, h, out_v rs (.str _) o⟩
    · exact o.elim
  · obtain ⟨a, xs, rfl, ha, fa, qa⟩ := tup_of rs ra
    obtain ⟨c, ys, rfl, hc, fc, qc⟩ := tup_of rs rb
    split at o
    · cases op <;> first | (cases hb; done) | skip
      obtain ⟨⟨h1, h2⟩, o⟩ := out_chk o
      have hx : xs ≠ [] := fun z => h1 (by
        subst z
        cases qa
        rfl)
      refine op_catT pins s σ H _ _ v u Q I rx ry ⟨a, c, xs, ys, rfl, rfl, SqT.of ha, SqT.of hc, hx, by rw [qa.length, qc.length]; exact h2, fun z => ?_, fun _ p hp => ?_⟩
      · subst z
        cases qc
        rw [List.append_nil] at o
        exact out_v rs (.tup fa qa) o
      · exact out_tup rs (qa.append qc) o hp
    · exact o.elim
  · split at o
    · cases op <;> first | (cases hb; done) | skip
      obtain ⟨xs, h1, o⟩ := out_oget o
      obtain ⟨ys, h2, o⟩ := out_oget o
      obtain ⟨a, vs, rfl, ha, qa⟩ := lst_at rs re ra h1
      obtain ⟨c, us, rfl, hc, qc⟩ := lst_at rs re rb h2
      obtain ⟨z, k⟩ := out_mkL rs (qa.append qc) o
      rw [List.length_append, ← qa.length, ← qc.length] at z
      exact op_cat pins s σ H _ _ v u Q I rx ry ⟨a, c, vs, us, rfl, rfl, ha, hc, z, k⟩
    · exact o.elim
end

/-! ### data -/
section
variable {K : PySem.W.Frag} {M : Mem} {H : Hp} {S : Sto}
theorem mapM_cons {n : Nat} {x : D} {xs : List D} {ps : List PyData} (h : (x :: xs).mapM (py S n) = some ps) : ∃ p qs, py S n x = some p ∧ xs.mapM (py S n) = some qs ∧ ps = p :: qs := by
  rw [List.mapM_cons] at h
  cases q : py S n x with
  | none => rw [q] at h; cases h
  | some p =>
    rw [q] at h
    cases r : xs.mapM (py S n) with
    | none => rw [r] at h; cases h
    | some qs => rw [r] at h; cases h; exact ⟨p, qs, rfl, rfl, rfl⟩
theorem dp_of (rs : RelS ca M S H) : ∀ (n : Nat) {v : V} {d : D} {p : PyData}, Rep ca M v d → py S n d = some p → Dp K H v p ∧ p.depth ≤ n ∧ p.hasDict = false := by
  intro n
  induction n with
  | zero => intro v d p _ h; cases h
  | succ n ih =>
    have all : ∀ {ds : List D} {vs : List V} {ps : List PyData}, RepL ca M vs ds → ds.mapM (py S n) = some ps → DpAll K H vs ps ∧ PyData.depthAll ps ≤ n ∧ PyData.hasDictAll ps = false := by
      intro ds
      induction ds with
      | nil =>
        intro vs ps r h
        cases r
        cases h
        exact ⟨.nil, Nat.zero_le _, rfl⟩
      | cons d ds ihd =>
        intro vs ps r h
        cases r with
        | cons r1 r2 =>
          obtain ⟨p, qs, h1, h2, rfl⟩ := mapM_cons h
          obtain ⟨a1, a2, a3⟩ := ih r1 h1
          obtain ⟨b1, b2, b3⟩ := ihd r2 h2
          refine ⟨.cons a1 b1, ?_, ?_⟩
          · simp only [PyData.depthAll]; omega
          · simp [PyData.hasDictAll, a3, b3]
    intro v d p r h
    cases r with
    | non => cases h; exact ⟨.non, by simp [PyData.depth], by simp [PyData.hasDict]⟩
    | bl b => cases h; exact ⟨.bl _, by simp [PyData.depth], by simp [PyData.hasDict]⟩
    | int i => cases h; exact ⟨.int _, by simp [PyData.depth], by simp [PyData.hasDict]⟩
    | str s => cases h; exact ⟨.str _, by simp [PyData.depth], by simp [PyData.hasDict]⟩
    | tup f q =>
      simp only [py] at h
      cases z : List.mapM (py S n) _ with
      | none => rw [z] at h; cases h
      | some ps =>
        rw [z] at h; cases h
        obtain ⟨a1, a2, a3⟩ := all q z
        exact ⟨.tup (SqT.of (rs.frz _ _ f)) a1, by simp only [PyData.depth]; omega, by simp [PyData.hasDict, a3]⟩
    | lst f q =>
      simp only [py] at h
      cases z : List.mapM (py S n) _ with
      | none => rw [z] at h; cases h
      | some ps =>
        rw [z] at h; cases h
        obtain ⟨a1, a2, a3⟩ := all q z
        exact ⟨.lst (SqL.of (rs.frz _ _ f)) a1, by simp only [PyData.depth]; omega, by simp [PyData.hasDict, a3]⟩
    | dct f e q => cases h
    | ins f e q => cases h
    | dcf f e q => cases h
    | exc f e q => cases h
    | scr f q => cases h
    | ref f =>
      rename_i a k
      simp only [py] at h
      cases z : S[k]? with
      | none => rw [z] at h; cases h
      | some ob =>
        rw [z] at h
        obtain ⟨a', ho, h1, h2, h3⟩ := rs.ob k ob z
        rw [f] at h1
        cases h1
        cases ob with
        | lst xs =>
          simp only at h
          cases z : List.mapM (py S n) xs with
          | none => rw [z] at h; cases h
          | some ps =>
            rw [z] at h; cases h
            cases h3 with
            | lst q =>
              obtain ⟨a1, a2, a3⟩ := all q z
              exact ⟨.lst (SqL.of h2) a1, by simp only [PyData.depth]; omega, by simp [PyData.hasDict, a3]⟩
        | dct _ _ => cases h
        | ins _ _ _ => cases h
theorem dpAll_of (rs : RelS ca M S H) {n : Nat} : ∀ {ds : List D} {vs : List V} {ps : List PyData}, RepL ca M vs ds → ds.mapM (py S n) = some ps → DpAll K H vs ps ∧ PyData.depthAll ps ≤ n ∧ PyData.hasDictAll ps = false := by
  intro ds
  induction ds with
  | nil =>
    intro vs ps r h
    cases r
    cases h
    exact ⟨.nil, Nat.zero_le _, rfl⟩
  | cons d ds ihd =>
    intro vs ps r h
    cases r with
    | cons r1 r2 =>
      obtain ⟨p, qs, h1, h2, rfl⟩ := mapM_cons h
      obtain ⟨a1, a2, a3⟩ := dp_of (K := K) rs n r1 h1
      obtain ⟨b1, b2, b3⟩ := ihd r2 h2
      refine ⟨.cons a1 b1, ?_, ?_⟩
      · simp only [PyData.depthAll]; omega
      · simp [PyData.hasDictAll, a3, b3]
theorem dp_root (rs : RelS ca M S H) {env : Env} {σ : L2.St} (re : RelE ca M env σ H) {v : V} {d : D} {p : PyData} (r : RepX ca M σ v d) (h : pyRoot env S d = some p) : Dp K H v p ∧ p.depth ≤ 61 ∧ p.hasDict = false := by
  cases hd : d.isAcc with
  | false =>
    have e : pyRoot env S d = py S 61 d := by cases d <;> first | rfl | cases hd
    rw [e] at h
    exact dp_of rs 61 (r.rep hd) h
  | true =>
    cases d with
    | acc i =>
      simp only [pyRoot] at h
      cases z : cont env S (.acc i) with
      | none => rw [z] at h; cases h
      | some ob =>
        rw [z] at h
        obtain ⟨a, ho, e, h1, h2⟩ := cont_at rs re r z
        cases ob with
        | lst xs =>
          simp only at h
          cases y : List.mapM (py S 60) xs with
          | none => rw [y] at h; cases h
          | some ps =>
            rw [y] at h; cases h
            cases h2 with
            | lst q =>
              obtain ⟨a1, a2, a3⟩ := dpAll_of (K := K) rs q y
              subst e
              exact ⟨.lst (SqL.of h1) a1, by simp only [PyData.depth]; omega, by simp [PyData.hasDict, a3]⟩
        | dct _ _ => cases h
        | ins _ _ _ => cases h
    | _ => cases hd
end
end K9
end
section
set_option Elab.async false
set_option linter.all false
set_option maxRecDepth 100000
/-! K9Snd3: comparisons by values. -/
namespace K9
open PySem PySem.Spec PyProof.Rows L2

variable {ca : Nat → Addr}
/-- a comparison as the evaluator has it -/
def cmpF (op : Cop) (a b : D) (env : Env) (S : Sto) : R D := oget (cmpD op a b env S) fun c => .ok (.bl c) S
theorem noEr_cmp {op : Cop} (a b : D) (env : Env) (S : Sto) : NoEr (cmpF op a b env S) := noErO fun _ => noErOk

section
variable {M : Mem} {H : Hp} {σ : L2.St} {S : Sto}
theorem flat_rep {v : V} {d : D} (r : RepX ca M σ v d) (h : flatD d = true) : flatV v = true ∧ ∀ {u : V} {e : D}, RepX ca M σ u e → flatD e = true → eqV v u = eqF d e := by
  cases d with
  | non =>
    obtain rfl := non_of r
    refine ⟨rfl, fun {u e} q f => ?_⟩
    cases e with
    | non => obtain rfl := non_of q; rfl
    | bl b => obtain rfl := bl_of q; rfl
    | int b => obtain rfl := int_of q; rfl
    | str b => obtain rfl := str_of q; rfl
    | _ => cases f
  | bl b =>
    obtain rfl := bl_of r
    refine ⟨rfl, fun {u e} q f => ?_⟩
    cases e with
    | non => obtain rfl := non_of q; rfl
    | bl b => obtain rfl := bl_of q; rfl
    | int b => obtain rfl := int_of q; rfl
    | str b => obtain rfl := str_of q; rfl
    | _ => cases f
  | int b =>
    obtain rfl := int_of r
    refine ⟨rfl, fun {u e} q f => ?_⟩
    cases e with
    | non => obtain rfl := non_of q; rfl
    | bl b => obtain rfl := bl_of q; rfl
    | int b => obtain rfl := int_of q; rfl
    | str b => obtain rfl := str_of q; rfl
    | _ => cases f
  | str b =>
    obtain rfl := str_of r
    refine ⟨rfl, fun {u e} q f => ?_⟩
    cases e with
    | non => obtain rfl := non_of q; rfl
    | bl b => obtain rfl := bl_of q; rfl
    | int b => obtain rfl := int_of q; rfl
    | str b => obtain rfl := str_of q; rfl
    | _ => cases f
  | _ => cases h
/-- == of flat values, whatever they are -/
theorem eq_flat {X : Cx} {pins : List (Addr × Obj)} {s : Shared} {τ : L2.St} {H : Hp} {x y : V} {v u : Value} {Q : VK} {a b : D} (hu : X.A.units + 65 < cLine) (I : Inv X pins τ H s) (rx : RelV x v) (ry : RelV y u)
    (ra : RepX ca M σ x a) (rb : RepX ca M σ y b) (fa : flatD a = true) (fb : flatD b = true) (q : Q (.bl (eqF a b)) H) : wpAny (model X.prog X.w) X.A (compareOp .Eq v u) (EP X pins τ Q) X.xe s := by
  have hu' : X.A.units + 64 < cLine := by omega
  have scalar : scal x y = true → eqF a b = decide (x = y) → wpAny (model X.prog X.w) X.A (compareOp .Eq v u) (EP X pins τ Q) X.xe s := fun h e => op_eq pins s τ H x y v u Q I rx ry ⟨h, by rw [← e]; exact q⟩
  cases a with
  | non =>
    obtain rfl := non_of ra
    cases b with
    | non => obtain rfl := non_of rb; exact scalar rfl (by simp [eqF])
    | bl j => obtain rfl := bl_of rb; exact scalar rfl (by simp [eqF])
    | int j => obtain rfl := int_of rb; exact scalar rfl (by simp [eqF])
    | str j => obtain rfl := str_of rb; exact scalar rfl (by simp [eqF])
    | _ => cases fb
  | bl i =>
    obtain rfl := bl_of ra
    cases b with
    | non => obtain rfl := non_of rb; exact scalar rfl (by simp [eqF])
    | bl j => obtain rfl := bl_of rb; exact scalar rfl dec_bl.symm
    | int j =>
      obtain rfl := int_of rb
      exact op_eqD hu' pins s τ H _ _ v u Q I rx ry ⟨_, _, .bl i, .int j, rfl, rfl, by simpa only [PyData.eqv, eqF] using q⟩
    | str j => obtain rfl := str_of rb; exact scalar rfl (by simp [eqF])
    | _ => cases fb
  | int i =>
    obtain rfl := int_of ra
    cases b with
    | non => obtain rfl := non_of rb; exact scalar rfl (by simp [eqF])
    | bl j =>
      obtain rfl := bl_of rb
      exact op_eqD hu' pins s τ H _ _ v u Q I rx ry ⟨_, _, .int i, .bl j, rfl, rfl, by simpa only [PyData.eqv, eqF] using q⟩
    | int j => obtain rfl := int_of rb; exact scalar rfl dec_int.symm
    | str j => obtain rfl := str_of rb; exact scalar rfl (by simp [eqF])
    | _ => cases fb
  | str i =>
    obtain rfl := str_of ra
    cases b with
    | non => obtain rfl := non_of rb; exact scalar rfl (by simp [eqF])
    | bl j => obtain rfl := bl_of rb; exact scalar rfl (by simp [eqF])
    | int j => obtain rfl := int_of rb; exact scalar rfl (by simp [eqF])
    | str j => obtain rfl := str_of rb; exact scalar rfl dec_str.symm
    | _ => cases fb
  | _ => cases fa
theorem ne_flat {X : Cx} {pins : List (Addr × Obj)} {s : Shared} {τ : L2.St} {H : Hp} {x y : V} {v u : Value} {Q : VK} {a b : D} (hu : X.A.units + 65 < cLine) (I : Inv X pins τ H s) (rx : RelV x v) (ry : RelV y u)
    (ra : RepX ca M σ x a) (rb : RepX ca M σ y b) (fa : flatD a = true) (fb : flatD b = true) (q : Q (.bl (!eqF a b)) H) : wpAny (model X.prog X.w) X.A (compareOp .NotEq v u) (EP X pins τ Q) X.xe s := by
  have hu' : X.A.units + 64 < cLine := by omega
  have scalar : scal x y = true → eqF a b = decide (x = y) → wpAny (model X.prog X.w) X.A (compareOp .NotEq v u) (EP X pins τ Q) X.xe s := fun h e => op_ne pins s τ H x y v u Q I rx ry ⟨h, by rw [← e]; exact q⟩
  cases a with
  | non =>
    obtain rfl := non_of ra
    cases b with
    | non => obtain rfl := non_of rb; exact scalar rfl (by simp [eqF])
    | bl j => obtain rfl := bl_of rb; exact scalar rfl (by simp [eqF])
    | int j => obtain rfl := int_of rb; exact scalar rfl (by simp [eqF])
    | str j => obtain rfl := str_of rb; exact scalar rfl (by simp [eqF])
    | _ => cases fb
  | bl i =>
    obtain rfl := bl_of ra
    cases b with
    | non => obtain rfl := non_of rb; exact scalar rfl (by simp [eqF])
    | bl j => obtain rfl := bl_of rb; exact scalar rfl dec_bl.symm
    | int j =>
      obtain rfl := int_of rb
      exact op_neD hu' pins s τ H _ _ v u Q I rx ry ⟨_, _, .bl i, .int j, rfl, rfl, by simpa only [PyData.eqv, eqF] using q⟩
    | str j => obtain rfl := str_of rb; exact scalar rfl (by simp [eqF])
    | _ => cases fb
  | int i =>
    obtain rfl := int_of ra
    cases b with
    | non => obtain rfl := non_of rb; exact scalar rfl (by simp [eqF])
    | bl j =>
      obtain rfl := bl_of rb
      exact op_neD hu' pins s τ H _ _ v u Q I rx ry ⟨_, _, .int i, .bl j, rfl, rfl, by simpa only [PyData.eqv, eqF] using q⟩
    | int j => obtain rfl := int_of rb; exact scalar rfl dec_int.symm
    | str j => obtain rfl := str_of rb; exact scalar rfl (by simp [eqF])
    | _ => cases fb
  | str i =>
    obtain rfl := str_of ra
    cases b with
    | non => obtain rfl := non_of rb; exact scalar rfl (by simp [eqF])
    | bl j => obtain rfl := bl_of rb; exact scalar rfl (by simp [eqF])
    | int j => obtain rfl := int_of rb; exact scalar rfl (by simp [eqF])
    | str j => obtain rfl := str_of rb; exact scalar rfl dec_str.symm
    | _ => cases fb
  | _ => cases fa
theorem shaped_of {p : PyData} (h : p.canLay0 = true) (d : p.depth ≤ 61) : SeqAt.shaped p = true := by
  unfold SeqAt.shaped
  rw [h, decide_eq_true (show p.depth ≤ 64 by omega)]; rfl
theorem inV_of {x : V} {a : D} (ra : RepX ca M σ x a) (fa : flatD a = true) : ∀ {vs : List V} {ds : List D}, RepL ca M vs ds → ds.all flatD = true → vs.all flatV = true ∧ inV x vs = ds.any fun y => eqF y a
  | _, _, .nil, _ => ⟨rfl, rfl⟩
  | _, _, .cons r t, h => by
    rw [List.all_cons, Bool.and_eq_true] at h
    obtain ⟨h1, h2⟩ := flat_rep (σ := σ) (RepX.of r) h.1
    obtain ⟨a1, a2⟩ := inV_of ra fa t h.2
    have a2' : (List.any _ fun y => eqV y x) = _ := a2
    refine ⟨by rw [List.all_cons, h1, a1]; rfl, ?_⟩
    unfold inV
    rw [List.any_cons, List.any_cons, h2 ra fa, a2']
theorem val_keys (kvs : List (L2.Key × V)) (k : L2.Key) : (valV kvs k).isSome = hasKey (kvs.map (·.1)) k := by
  rw [← valV_any]
  unfold hasKey
  rw [List.any_map]; rfl
theorem isNon_of {x : V} {a : D} {c : Bool} (ra : RepX ca M σ x a) (h : isNon a = some c) : decide (x = .non) = c := by
  cases a with
  | non => obtain rfl := non_of ra; cases h; rfl
  | acc i => cases h
  | _ =>
    cases h
    refine decide_eq_false fun hx => ?_
    subst hx
    cases (show Rep ca M .non _ from ra)
theorem key_v {v : V} {d : D} {k : L2.Key} (r : RepX ca M σ v d) (h : keyOf d = some k) : v = kV k := by
  cases d with
  | int i => cases h; exact int_of r
  | str z => cases h; exact str_of r
  | _ => cases h
end

section
variable {X : Cx}
theorem in_ok {pins : List (Addr × Obj)} {s : Shared} {τ σ : L2.St} {H : Hp} {x y : V} {v u : Value} {a b : D} {M : Mem} {S : Sto} {env : Env} {c : Bool} {G : Prop} (hu : X.A.units + 65 < cLine) (I : Inv X pins τ H s) (rx : RelV x v) (ry : RelV y u)
    (rs : RelS ca M S H) (re : RelE ca M env σ H) (ra : RepX ca M σ x a) (rb : RepX ca M σ y b) (hc : inD env S a b = some c)
    (k1 : (∃ i j, x = .str i ∧ y = .str j ∧ c = inStr i j) → G)
    (k2 : (∃ p vs, y = .ref p ∧ (SqL X.K H p vs ∨ SqT X.K H p vs) ∧ flatV x = true ∧ vs.all flatV = true ∧ inV x vs = c) → G)
    (k3 : (∃ d ds, Dp X.K H x d ∧ Dp X.K H y (.list ds) ∧ SeqAt.shaped d = true ∧ SeqAt.shaped (.list ds) = true ∧ (ds.any fun z => PyData.eqv z d) = c) → G)
    (k5 : (∃ d ds, Dp X.K H x d ∧ Dp X.K H y (.tuple ds) ∧ SeqAt.shaped d = true ∧ SeqAt.shaped (.tuple ds) = true ∧ (ds.any fun z => PyData.eqv z d) = c) → G)
    (k4 : (∃ p o, y = .ref p ∧ DGet H p x o ∧ o.isSome = c) → G) : G := by
  unfold inD at hc
  split at hc
  · obtain rfl := str_of rb
    split at hc
    · obtain rfl := str_of ra
      cases hc
      exact k1 ⟨_, _, rfl, rfl, rfl⟩
    · cases hc
  · rename_i ks vs
    cases hk : keyOf a with
    | none => rw [hk] at hc; cases hc
    | some k =>
      rw [hk] at hc
      cases hc
      cases (show Rep ca M y _ from rb) with
      | dcf f e q =>
        subst e
        have ex := key_v ra hk
        exact k4 ⟨_, _, rfl, .inl ⟨_, k, .inr ⟨_, rs.frz _ _ f⟩, ex, rfl⟩, val_keys _ _⟩
  · split at hc
    · rename_i xs hs
      split at hc
      · rename_i hf
        cases hc
        rw [Bool.and_eq_true] at hf
        obtain ⟨p, vs, rfl, hp, r⟩ := seq_at rs re rb hs
        obtain ⟨a1, a2⟩ := inV_of ra hf.1 r hf.2
        exact k2 ⟨p, vs, rfl, hp.elim (fun z => .inl (SqL.of z)) (fun z => .inr (SqT.of z)), (flat_rep ra hf.1).1, a1, a2⟩
      · split at hc
        · rename_i p1 qs e1 e2
          split at hc
          · rename_i hlay
            cases hc
            rw [Bool.and_eq_true] at hlay
            have hacc : a.isAcc = false := by cases a <;> first | rfl | cases e1
            obtain ⟨d1, n1, _⟩ := dp_of (K := X.K) rs 60 (ra.rep hacc) e1
            obtain ⟨p, vs, rfl, hp, r⟩ := seq_at rs re rb hs
            obtain ⟨d2, n2, _⟩ := dpAll_of (K := X.K) rs r e2
            rcases hp with hp | hp
            · exact k3 ⟨p1, qs, d1, .lst (SqL.of hp) d2, shaped_of hlay.1 (by omega), shaped_of (p := .list qs) hlay.2 (by simp only [PyData.depth]; omega), rfl⟩
            · exact k5 ⟨p1, qs, d1, .tup (SqT.of hp) d2, shaped_of hlay.1 (by omega), shaped_of (p := .tuple qs) hlay.2 (by simp only [PyData.depth]; omega), rfl⟩
          · cases hc
        · cases hc
    · split at hc
      · rename_i k hd hk
        cases hc
        obtain ⟨p, ho, rfl, hp, r⟩ := cont_at rs re rb hd
        cases r with
        | dct e q =>
          subst e
          have ex := key_v ra hk
          subst ex
          exact k4 ⟨p, _, rfl, DGet.k hp, val_keys _ _⟩
      · cases hc
/-- in a tuple -/
theorem op_inDT (hu : X.A.units + 65 < cLine) : OpR X (compareOp .In) (fun x y H Q => ∃ d ds, Dp X.K H x d ∧ Dp X.K H y (.tuple ds) ∧ SeqAt.shaped d = true ∧ SeqAt.shaped (.tuple ds) = true ∧ Q (.bl (ds.any fun z => PyData.eqv z d)) H) := by
  intro pins s σ H x y v u Q I rx ry h
  obtain ⟨d, ds, hd, he, sd, se, q⟩ := h
  obtain ⟨_, r1⟩ := Dp.reads I d x v hd rx
  obtain ⟨_, r2⟩ := Dp.reads I (.tuple ds) y u he ry
  refine SeqAt.in_tuple_reads r2 r1 ?_ (SeqAt.canLay_of_shaped sd) (room_in_shaped sd hu) ⟨.bl _, H, I, rfl, q⟩
  exact SeqAt.canLay_of_shaped se
theorem op_notInDT (hu : X.A.units + 65 < cLine) : OpR X (compareOp .NotIn) (fun x y H Q => ∃ d ds, Dp X.K H x d ∧ Dp X.K H y (.tuple ds) ∧ SeqAt.shaped d = true ∧ SeqAt.shaped (.tuple ds) = true ∧ Q (.bl (!ds.any fun z => PyData.eqv z d)) H) := by
  intro pins s σ H x y v u Q I rx ry h
  obtain ⟨d, ds, hd, he, sd, se, q⟩ := h
  obtain ⟨_, r1⟩ := Dp.reads I d x v hd rx
  obtain ⟨_, r2⟩ := Dp.reads I (.tuple ds) y u he ry
  refine SeqAt.notIn_tuple_reads r2 r1 ?_ (SeqAt.canLay_of_shaped sd) (room_in_shaped sd hu) ⟨.bl _, H, I, rfl, q⟩
  exact SeqAt.canLay_of_shaped se
/-- a cmp b -/
theorem opr_cmp {op : CmpOp} (hu : X.A.units + 65 < cLine) : OpR X (compareOp op) (r2M ca (cmpF (copOf op))) := by
  intro pins s τ H x y v u Q I rx ry h
  obtain ⟨M, env, S, σ, a, b, rs, re, ra, rb, o⟩ := h
  have hu64 : X.A.units + 64 < cLine := by omega
  obtain ⟨c, hc, o⟩ := out_oget o
  have q : Q (.bl c) H := out_v rs (.bl c) o
  clear o
  cases op with
  | Eq =>
    simp only [copOf, cmpD, eqD] at hc
    split at hc
    · rename_i hf
      cases hc
      rw [Bool.and_eq_true] at hf
      exact eq_flat hu I rx ry ra rb hf.1 hf.2 q
    · split at hc
      · rename_i p1 p2 e1 e2
        split at hc
        · rename_i hl
          cases hc
          rw [Bool.and_eq_true] at hl
          obtain ⟨d1, n1, _⟩ := dp_root (K := X.K) rs re ra e1
          obtain ⟨d2, n2, _⟩ := dp_root (K := X.K) rs re rb e2
          exact op_eqD hu64 pins s τ H x y v u Q I rx ry ⟨_, _, d1, d2, shaped_of hl.1 n1, shaped_of hl.2 n2, q⟩
        · cases hc
      · cases hc
  | NotEq =>
    simp only [copOf, cmpD, eqD] at hc
    split at hc
    · rename_i hf
      cases hc
      rw [Bool.and_eq_true] at hf
      exact ne_flat hu I rx ry ra rb hf.1 hf.2 q
    · split at hc
      · rename_i p1 p2 e1 e2
        split at hc
        · rename_i hl
          cases hc
          rw [Bool.and_eq_true] at hl
          obtain ⟨d1, n1, _⟩ := dp_root (K := X.K) rs re ra e1
          obtain ⟨d2, n2, _⟩ := dp_root (K := X.K) rs re rb e2
          exact op_neD hu64 pins s τ H x y v u Q I rx ry ⟨_, _, d1, d2, shaped_of hl.1 n1, shaped_of hl.2 n2, q⟩
        · cases hc
      · cases hc
  | Lt =>
    simp only [copOf, cmpD] at hc
    split at hc
    · cases hc
      obtain rfl := int_of ra
      obtain rfl := int_of rb
      exact op_lt pins s τ H _ _ v u Q I rx ry ⟨_, _, rfl, rfl, q⟩
    · cases hc
  | LtE =>
    simp only [copOf, cmpD] at hc
    split at hc
    · cases hc
      obtain rfl := int_of ra
      obtain rfl := int_of rb
      exact op_le pins s τ H _ _ v u Q I rx ry ⟨_, _, rfl, rfl, q⟩
    · cases hc
  | Gt =>
    simp only [copOf, cmpD] at hc
    split at hc
    · cases hc
      obtain rfl := int_of ra
      obtain rfl := int_of rb
      exact op_gt pins s τ H _ _ v u Q I rx ry ⟨_, _, rfl, rfl, q⟩
    · cases hc
  | GtE =>
    simp only [copOf, cmpD] at hc
    split at hc
    · cases hc
      obtain rfl := int_of ra
      obtain rfl := int_of rb
      exact op_ge pins s τ H _ _ v u Q I rx ry ⟨_, _, rfl, rfl, q⟩
    · cases hc
  | Is =>
    simp only [copOf, cmpD] at hc
    split at hc
    · obtain rfl := non_of rb
      exact op_isN pins s τ H _ _ v u Q I rx ry ⟨rfl, by rw [isNon_of ra hc]; exact q⟩
    · cases hc
  | IsNot =>
    simp only [copOf, cmpD] at hc
    split at hc
    · obtain rfl := non_of rb
      cases e : isNon a with
      | none => rw [e] at hc; cases hc
      | some c' =>
        rw [e] at hc
        cases hc
        exact op_notN pins s τ H _ _ v u Q I rx ry ⟨rfl, by rw [isNon_of ra e]; exact q⟩
    · cases hc
  | In =>
    simp only [copOf, cmpD] at hc
    exact in_ok hu I rx ry rs re ra rb hc (fun e => op_in_str pins s τ H x y v u Q I rx ry (by obtain ⟨i, j, rfl, rfl, rfl⟩ := e; exact ⟨i, j, rfl, rfl, q⟩))
      (fun ⟨p, vs, e1, e2, e3, e4, e5⟩ => op_in_seq pins s τ H x y v u Q I rx ry ⟨p, vs, e1, e2, e3, e4, by rw [if_neg Bool.false_ne_true, e5]; exact q⟩)
      (fun ⟨d, ds, e1, e2, e3, e4, e5⟩ => op_inD hu pins s τ H x y v u Q I rx ry ⟨d, ds, e1, e2, e3, e4, by rw [e5]; exact q⟩)
      (fun ⟨d, ds, e1, e2, e3, e4, e5⟩ => op_inDT hu pins s τ H x y v u Q I rx ry ⟨d, ds, e1, e2, e3, e4, by rw [e5]; exact q⟩)
      (fun ⟨p, o, e1, e2, e4⟩ => by
        subst e1
        cases ry
        exact d_in (by omega) I e2 rx fun s' I' => ⟨.bl o.isSome, H, I', rfl, by rw [e4]; exact q⟩)
  | NotIn =>
    simp only [copOf, cmpD] at hc
    cases e : inD env S a b with
    | none => rw [e] at hc; cases hc
    | some c' =>
      rw [e] at hc
      cases hc
      exact in_ok hu I rx ry rs re ra rb e (fun e => op_notin_str pins s τ H x y v u Q I rx ry (by obtain ⟨i, j, rfl, rfl, rfl⟩ := e; exact ⟨i, j, rfl, rfl, q⟩))
        (fun ⟨p, vs, e1, e2, e3, e4, e5⟩ => op_notIn_seq pins s τ H x y v u Q I rx ry ⟨p, vs, e1, e2, e3, e4, by rw [if_pos rfl, e5]; exact q⟩)
        (fun ⟨d, ds, e1, e2, e3, e4, e5⟩ => op_notInD hu pins s τ H x y v u Q I rx ry ⟨d, ds, e1, e2, e3, e4, by rw [e5]; exact q⟩)
        (fun ⟨d, ds, e1, e2, e3, e4, e5⟩ => op_notInDT hu pins s τ H x y v u Q I rx ry ⟨d, ds, e1, e2, e3, e4, by rw [e5]; exact q⟩)
        (fun ⟨p, o, e1, e2, e4⟩ => by
          subst e1
          cases ry
          exact d_notIn (by omega) I e2 rx fun s' I' => ⟨.bl (!o.isSome), H, I', rfl, by rw [e4]; exact q⟩)
end
end K9
end
section
set_option Elab.async false
set_option linter.all false
set_option maxRecDepth 100000
/-! K9Snd4: subscripts, slices, built-ins by values. -/
namespace K9
open PySem PySem.Spec PyProof.Rows L2

variable {ca : Nat → Addr}
section
variable {M : Mem} {H : Hp} {σ : L2.St} {S : Sto} {env : Env}
theorem noEr_ix (a b : D) (env : Env) (S : Sto) : NoEr (ixD a b env S) := by
  unfold ixD
  split
  · exact noErO fun _ => noErOk
  · exact noErO fun _ => noErO fun _ => noErOk
  · exact noErC (noErO fun _ => noErOk)
  · split
    · exact noErO fun _ => noErOk
    · exact noErBad
    · split
      · exact noErO fun _ => noErOk
      · exact noErBad
theorem RepL.at {vs : List V} {ds : List D} (r : RepL ca M vs ds) {i : Int} {d : D} (h : L2.atI ds i = some d) : ∃ v, L2.atI vs i = some v ∧ Rep ca M v d := by
  unfold L2.atI at h ⊢
  rw [r.length]
  cases e : ixN ds.length i with
  | none => rw [e] at h; cases h
  | some j =>
    rw [e] at h
    exact r.get h
theorem look_val : ∀ (kvs : List (L2.Key × V)) (ds : List D) (k : L2.Key), RepL ca M (kvs.map (·.2)) ds → (∀ d, lookD (kvs.map (·.1)) ds k = some d → ∃ v, valV kvs k = some v ∧ Rep ca M v d) ∧ (lookD (kvs.map (·.1)) ds k = none → valV kvs k = none)
  | [], ds, k, r => by
    cases r
    exact ⟨(fun d h => by cases h), fun _ => rfl⟩
  | p :: kvs, ds, k, r => by
    rw [List.map_cons] at r ⊢
    cases r with
    | cons r1 r2 =>
      simp only [lookD]
      obtain ⟨h1, h2⟩ := look_val kvs _ k r2
      by_cases e : k = p.1
      · rw [if_pos e, valV_pos e.symm]
        exact ⟨(fun d h => by cases h; exact ⟨_, rfl, r1⟩), (fun h => by cases h)⟩
      · rw [if_neg e, valV_neg fun z => e z.symm]
        exact ⟨h1, h2⟩
end
section
variable {X : Cx}
/-- a dict's item -/
def rIxD : R2 := fun x y H Q => ∃ a v, x = .ref a ∧ DGet H a y (some v) ∧ Q v H
theorem ix_dict (hu : X.A.units + 1 < cLine) : IxR X rIxD := by
  intro value slice pins s σ H x y v u Q I rx ry h hs
  obtain ⟨a, w, rfl, g, q⟩ := h
  obtain rfl : v = Value.ref a := rx
  exact tail_any (ops := [.ref a, u]) (dict_typeIs I g) PySem.F.slot_dict_getitem.lookup (d_getItem hu I g ry fun w' s3 I3 rw' => ⟨w, H, I3, rw', q⟩) hs
/-- a[i] -/
theorem ixr_ix (hu : X.A.units + 65 < cLine) : IxR X (r2M ca ixD) := by
  intro value slice pins s τ H x y v u Q I rx ry h hs
  obtain ⟨M, env, S, σ, a, b, rs, re, ra, rb, o⟩ := h
  unfold ixD at o
  split at o
  · obtain rfl := int_of rb
    obtain ⟨d, h2, o⟩ := out_oget o
    cases (show Rep ca M x _ from ra) with
    | scr f r =>
      obtain ⟨w, hw, rw'⟩ := RepL.at r h2
      exact ix_list value slice pins s τ H _ _ v u Q I rx ry ⟨_, _, _, w, rfl, rfl, .inl (.inr ⟨_, rs.frz _ _ f⟩), hw, out_v rs rw' o⟩ hs
  · obtain ⟨k, hk, o1⟩ := out_oget o
    obtain ⟨d, h2, o2⟩ := out_oget o1
    cases (show Rep ca M x _ from ra) with
    | dcf f e q =>
      subst e
      obtain ⟨w, hw, rw'⟩ := (look_val _ _ _ q).1 d h2
      have hy := key_v rb hk
      refine ix_dict (by omega) value slice pins s τ H _ y v u Q I rx ry ⟨_, w, rfl, ?_, out_v rs rw' o2⟩ hs
      rw [hy, ← hw]
      exact .inl ⟨_, k, .inr ⟨_, rs.frz _ _ f⟩, rfl, rfl⟩
  · obtain rfl := str_of ra
    obtain rfl := int_of rb
    obtain ⟨h1, o⟩ := out_chk o
    obtain ⟨c, h2, o⟩ := out_oget o
    exact ix_str value slice pins s τ H _ _ v u Q I rx ry ⟨_, _, c, rfl, rfl, h1, h2, out_v rs (.str _) o⟩ hs
  · split at o
    · obtain rfl := int_of rb
      obtain ⟨d, h2, o⟩ := out_oget o
      obtain ⟨p, vs, rfl, hp, r⟩ := seq_at rs re ra (by assumption)
      obtain ⟨w, hw, rw'⟩ := RepL.at r h2
      rcases hp with hp | hp
      · exact ix_list value slice pins s τ H _ _ v u Q I rx ry ⟨p, vs, _, w, rfl, rfl, SqL.of hp, hw, out_v rs rw' o⟩ hs
      · exact ix_tup value slice pins s τ H _ _ v u Q I rx ry ⟨p, vs, _, w, rfl, rfl, SqT.of hp, hw, out_v rs rw' o⟩ hs
    · exact o.elim
    · split at o
      · rename_i ks ws k hd hk
        obtain ⟨d, h2, o1⟩ := out_oget o
        clear o
        obtain ⟨p, ho, rfl, hp, r⟩ := cont_at rs re ra hd
        cases r with
        | dct e q =>
          subst e
          obtain ⟨w, hw, rw'⟩ := (look_val _ _ _ q).1 d h2
          have hy := key_v rb hk
          refine ix_dict (by omega) value slice pins s τ H _ y v u Q I rx ry ⟨p, w, rfl, ?_, out_v rs rw' o1⟩ hs
          rw [hy, ← hw]
          exact DGet.k hp
      · exact o.elim
/-- a[lo:hi] -/
def rSlM (ca : Nat → Addr)   : V → Option Int → Option Int → Hp → VK → Prop := fun x lo hi H Q => ∃ M env S σ a, RelS ca M S H ∧ RelE ca M env σ H ∧ RepX ca M σ x a ∧ Out ca (fun _ _ _ _ => False) M σ H (slD a lo hi env S) Q
theorem noEr_sl (a : D) (l h : Option Int) (env : Env) (S : Sto) : NoEr (slD a l h env S) := by
  unfold slD
  split
  · exact noErC noErOk
  · exact noErOk
  · exact noErO fun _ => noEr_mkL
theorem RepL.cut {M : Mem} {vs : List V} {ds : List D} (r : RepL ca M vs ds) (lo hi : Option Int) : RepL ca M (cutV vs lo hi) (cutL ds lo hi) := by
  unfold cutV cutL
  rw [r.length]
  exact (r.drop _).take _
theorem slr_sl : L2.SlR X (rSlM ca) := by
  intro pins s τ H x v vl vu lo hi sl Q I rx hs pl pu h
  obtain ⟨M, env, S, σ, a, rs, re, ra, o⟩ := h
  unfold slD at o
  split at o
  · obtain rfl := str_of ra
    obtain ⟨h1, o⟩ := out_chk o
    exact sl_str pins s τ H _ v vl vu lo hi sl Q I rx hs pl pu ⟨_, rfl, h1, out_v rs (.str _) o⟩
  · obtain ⟨p, vs, rfl, hp, fp, r⟩ := tup_of rs ra
    refine sl_tupA pins s τ H _ v vl vu lo hi sl Q I rx hs pl pu ⟨p, vs, rfl, SqT.of hp, fun z => ?_, fun _ q hq => out_tup rs (r.cut lo hi) o hq⟩
    rename_i ds
    have e : cutL ds lo hi = ds := by
      unfold cutL
      rw [← r.length, z.1, z.2, List.drop_zero, Nat.sub_zero]
      exact List.take_of_length_le (Nat.le_of_eq r.length.symm)
    rw [e] at o
    exact out_v rs (.tup fp r) o
  · obtain ⟨xs, hx, o⟩ := out_oget o
    obtain ⟨p, vs, rfl, hp, r⟩ := lst_at rs re ra hx
    exact sl_list pins s τ H _ v vl vu lo hi sl Q I rx hs pl pu ⟨p, vs, rfl, SqL.of hp, (out_mkL rs (r.cut lo hi) o).2⟩
end
end K9
end
section
set_option Elab.async false
set_option linter.all false
set_option maxRecDepth 100000
/-! K9Snd5: built-ins that are called, by values. -/
namespace K9
open PySem PySem.Spec PyProof.Rows L2

variable {ca : Nat → Addr}
/-- the built-in as the module's names give it -/
def biVal : Bi → Value
  | .abs => .builtin "abs" | .all => .builtin "all" | .any => .builtin "any" | .dict => .type "dict" | .int => .type "int" | .len => .builtin "len" | .list => .type "list" | .max => .builtin "max" | .min => .builtin "min"
  | .repr => .builtin "repr" | .sorted => .builtin "sorted" | .str => .type "str" | .sum => .builtin "sum" | .tuple => .type "tuple"
def rBi (ca : Nat → Addr) (b : Bi) : List V → Hp → VK → Prop := fun vs H Q => ∃ M env S σ ds, RelS ca M S H ∧ RelE ca M env σ H ∧ RepXL ca M σ vs ds ∧ Out ca (fun _ _ _ _ => False) M σ H (biD b ds env S) Q
theorem noEr_bi {b : Bi} (ds : List D) (env : Env) (S : Sto) : NoEr (biD b ds env S) := by
  unfold biD
  split <;> first
    | exact noErOk
    | exact noErBad
    | exact noErC noErOk
    | exact noErO fun _ => noErO fun _ => noErOk
    | exact noErO fun _ => noErC noErOk
    | exact noErO fun _ => noErOk
    | exact noErO fun _ => noEr_mkL
    | (split
       · exact noErOk
       · split
         · exact noErOk
         · exact noErBad)
section
variable {M : Mem} {H : Hp} {σ : L2.St} {S : Sto} {env : Env}
theorem one_x {vs : List V} {d : D} (r : RepXL ca M σ vs [d]) : ∃ v, vs = [v] ∧ RepX ca M σ v d := by
  cases r with
  | cons r t => cases t; exact ⟨_, rfl, r⟩
theorem two_x {vs : List V} {d e : D} (r : RepXL ca M σ vs [d, e]) : ∃ v u, vs = [v, u] ∧ RepX ca M σ v d ∧ RepX ca M σ u e := by
  cases r with
  | cons r t => cases t with | cons r2 t => cases t; exact ⟨_, _, rfl, r, r2⟩
theorem boolsD_of : ∀ {ds : List D} {vs : List V} {bs : List Bool}, RepL ca M vs ds → boolsD ds = some bs → vs = bs.map V.bl
  | [], _, _, .nil, h => by cases h; rfl
  | d :: ds, _, _, .cons r t, h => by
    cases d with
    | bl b =>
      simp only [boolsD] at h
      cases e : boolsD ds with
      | none => rw [e] at h; cases h
      | some bs =>
        rw [e] at h; cases h
        cases r
        rw [List.map_cons, boolsD_of t e]
    | _ => cases h
theorem intsD_of : ∀ {ds : List D} {vs : List V} {bs : List Int}, RepL ca M vs ds → intsD ds = some bs → vs = bs.map V.int
  | [], _, _, .nil, h => by cases h; rfl
  | d :: ds, _, _, .cons r t, h => by
    cases d with
    | int b =>
      simp only [intsD] at h
      cases e : intsD ds with
      | none => rw [e] at h; cases h
      | some bs =>
        rw [e] at h; cases h
        cases r
        rw [List.map_cons, intsD_of t e]
    | _ => cases h
theorem strsD_of : ∀ {ds : List D} {vs : List V} {bs : List Str}, RepL ca M vs ds → strsD ds = some bs → vs = bs.map V.str
  | [], _, _, .nil, h => by cases h; rfl
  | d :: ds, _, _, .cons r t, h => by
    cases d with
    | str b =>
      simp only [strsD] at h
      cases e : strsD ds with
      | none => rw [e] at h; cases h
      | some bs =>
        rw [e] at h; cases h
        cases r
        rw [List.map_cons, strsD_of t e]
    | _ => cases h
end
section
variable {X : Cx}
theorem call_reprD (hu : X.A.units + 65 < cLine) (hg : X.A.guards = some []) : CallR X (.builtin "repr") (fun vs H Q => ∃ v p, vs = [v] ∧ Dp X.K H v p ∧ p.depth ≤ 61 ∧ p.hasDict = false ∧ p.showable = true ∧ p.shown.length ≤ sizeLine ∧ Q (.str p.shown) H) := by
  intro pins s σ H vs us Q I r h
  obtain ⟨v, p, rfl, dp, dep, nd, sh, len, q⟩ := h
  obtain ⟨u, rfl, rv⟩ := Vals.one r
  obtain ⟨as, rd⟩ := Dp.reads I p v u dp rv
  have fin : ∀ (h' : Heap) (t : Tok) (tk : Nat), (∀ b o, s.heap.get? b = some o → h'.get? b = some o) → EP X pins σ Q (.str p.shown t) { s with heap := h', toks := tk } :=
    fun h' t tk k => ⟨.str p.shown, H, I.kept k, ⟨t, rfl⟩, q⟩
  cases dp with
  | non => cases rv; exact PySem.P.repr_of_none (by simpa only [PyData.shown] using fin s.heap _ _ fun _ _ z => z)
  | bl b => cases rv; exact PySem.P.repr_of_bool (by simpa only [PyData.shown] using fin s.heap _ _ fun _ _ z => z)
  | int i =>
    obtain ⟨t, rfl⟩ := rv
    exact PySem.P.repr_of_int (by simpa [PyData.showable] using sh) (by simpa only [PyData.shown] using fin s.heap _ _ fun _ _ z => z)
  | str z =>
    obtain ⟨t, rfl⟩ := rv
    exact PySem.P.repr_of_str (by simpa only [PyData.shown] using fin s.heap _ _ fun _ _ z => z) (by simpa only [PyData.shown] using len)
  | lst _ _ =>
    cases rv
    exact repr_of_reads' rd sh (fun z => by rw [nd] at z; cases z) hg (by omega) (fun _ _ z => z) (fun h' u tk k => fin h' u tk k) len
  | tup _ _ =>
    cases rv
    exact repr_of_reads' rd sh (fun z => by rw [nd] at z; cases z) hg (by omega) (fun _ _ z => z) (fun h' u tk k => fin h' u tk k) len
theorem call_len_d : CallR X (.builtin "len") (fun vs H Q => ∃ a kvs, vs = [.ref a] ∧ Rd H a (.dK kvs) ∧ Q (.int kvs.length) H) := by
  intro pins s σ H vs us Q I r h
  obtain ⟨a, kvs, rfl, ha, q⟩ := h
  obtain ⟨u, rfl, rv⟩ := Vals.one r
  cases rv
  exact d_len I ha fun t s' I' => ⟨.int kvs.length, H, I', ⟨t, rfl⟩, q⟩
/-- f(..), f a built-in -/
theorem callR_bi {b : Bi} (hc : X.calm = true) (hu : X.A.units + 65 < cLine) (hg : X.A.guards = some []) : CallR X (biVal b) (rBi ca b) := by
  intro pins s τ H vs us Q I r h
  obtain ⟨M, env, S, σ, ds, rs, re, rx, o⟩ := h
  unfold biD at o
  split at o
  · obtain ⟨v, rfl, rv⟩ := one_x rx
    obtain rfl := int_of rv
    exact call_abs pins s τ H _ us Q I r ⟨_, rfl, out_v rs (.int _) o⟩
  · obtain ⟨v, rfl, rv⟩ := one_x rx
    obtain ⟨xs, h1, o⟩ := out_oget o
    obtain ⟨bs, h2, o⟩ := out_oget o
    obtain ⟨a, ws, rfl, ha, q⟩ := lst_at rs re rv h1
    obtain rfl := boolsD_of q h2
    exact cr_all hc pins s τ H _ us Q I r ⟨a, bs, rfl, SqL.of ha, out_v rs (.bl _) o⟩
  · obtain ⟨v, rfl, rv⟩ := one_x rx
    obtain ⟨xs, h1, o⟩ := out_oget o
    obtain ⟨bs, h2, o⟩ := out_oget o
    obtain ⟨a, ws, rfl, ha, q⟩ := lst_at rs re rv h1
    obtain rfl := boolsD_of q h2
    exact cr_any hc pins s τ H _ us Q I r ⟨a, bs, rfl, SqL.of ha, out_v rs (.bl _) o⟩
  · obtain ⟨v, rfl, rv⟩ := one_x rx
    obtain rfl := int_of rv
    exact call_int1 pins s τ H _ us Q I r (.inl ⟨_, rfl, out_v rs (.int _) o⟩)
  · obtain ⟨v, rfl, rv⟩ := one_x rx
    obtain rfl := bl_of rv
    exact call_int1 pins s τ H _ us Q I r (.inr ⟨_, rfl, out_v rs (.int _) o⟩)
  · obtain ⟨v, rfl, rv⟩ := one_x rx
    obtain rfl := str_of rv
    obtain ⟨h1, o⟩ := out_chk o
    exact call_len_str pins s τ H _ us Q I r ⟨_, rfl, h1, out_v rs (.int _) o⟩
  · obtain ⟨v, rfl, rv⟩ := one_x rx
    cases (show Rep ca M v _ from rv) with
    | scr f q =>
      rw [← q.length] at o
      exact call_len_seq pins s τ H _ us Q I r ⟨_, _, rfl, .inl (.inl (.inr ⟨_, rs.frz _ _ f⟩)), out_v rs (.int _) o⟩
  · obtain ⟨v, rfl, rv⟩ := one_x rx
    cases (show Rep ca M v _ from rv) with
    | dcf f e q =>
      subst e
      rw [List.length_map] at o
      exact call_len_d pins s τ H _ us Q I r ⟨_, _, rfl, .inr ⟨_, rs.frz _ _ f⟩, out_v rs (.int _) o⟩
  · obtain ⟨v, rfl, rv⟩ := one_x rx
    split at o
    · rename_i xs h1
      obtain ⟨a, ws, rfl, ha, q⟩ := seq_at rs re rv h1
      rw [← q.length] at o
      exact call_len_seq pins s τ H _ us Q I r ⟨a, ws, rfl, ha.elim (fun z => .inl (SqL.of z)) (fun z => .inr (SqT.of z)), out_v rs (.int _) o⟩
    · split at o
      · rename_i h1
        obtain ⟨a, ho, rfl, ha, q⟩ := cont_at rs re rv h1
        cases q with
        | dct e q =>
          subst e
          rw [List.length_map] at o
          exact call_len_d pins s τ H _ us Q I r ⟨a, _, rfl, .inl ha, out_v rs (.int _) o⟩
      · exact o.elim
  · obtain ⟨v, rfl, rv⟩ := one_x rx
    obtain ⟨xs, h1, o⟩ := out_oget o
    obtain ⟨a, ws, rfl, ha, q⟩ := seq_at rs re rv h1
    exact call_list_of pins s τ H _ us Q I r ⟨a, ws, rfl, ha.elim (fun z => .inl (SqL.of z)) (fun z => .inr (SqT.of z)), (out_mkL rs q o).2⟩
  · obtain ⟨v, rfl, rv⟩ := one_x rx
    obtain ⟨a, ws, rfl, ha, fa, q⟩ := tup_of rs rv
    exact call_tuple_of pins s τ H _ us Q I r ⟨a, ws, rfl, .inr ⟨SqT.of ha, out_v rs (.tup fa q) o⟩⟩
  · obtain ⟨v, rfl, rv⟩ := one_x rx
    obtain ⟨xs, h1, o⟩ := out_oget o
    obtain ⟨a, ws, rfl, ha, q⟩ := lst_at rs re rv h1
    exact call_tuple_of pins s τ H _ us Q I r ⟨a, ws, rfl, .inl ⟨SqL.of ha, fun l hl => out_tup rs q o hl⟩⟩
  · obtain ⟨v, u, rfl, rv, ru⟩ := two_x rx
    obtain rfl := int_of rv
    obtain rfl := int_of ru
    exact call_max2 hc pins s τ H _ us Q I r ⟨_, _, rfl, out_v rs (.int _) o⟩
  · obtain ⟨v, u, rfl, rv, ru⟩ := two_x rx
    obtain rfl := int_of rv
    obtain rfl := int_of ru
    exact call_min2 hc pins s τ H _ us Q I r ⟨_, _, rfl, out_v rs (.int _) o⟩
  · obtain ⟨v, rfl, rv⟩ := one_x rx
    obtain ⟨xs, h1, o⟩ := out_oget o
    obtain ⟨bs, h2, o⟩ := out_oget o
    obtain ⟨a, ws, rfl, ha, q⟩ := lst_at rs re rv h1
    obtain rfl := intsD_of q h2
    exact cr_sum hc pins s τ H _ us Q I r ⟨a, bs, rfl, SqL.of ha, out_v rs (.int _) o⟩
  · obtain ⟨v, rfl, rv⟩ := one_x rx
    obtain rfl := int_of rv
    obtain ⟨h1, o⟩ := out_chk o
    exact call_str_int pins s τ H _ us Q I r ⟨_, rfl, h1, out_v rs (.str _) o⟩
  · obtain ⟨v, rfl, rv⟩ := one_x rx
    obtain ⟨p, h1, o⟩ := out_oget o
    obtain ⟨⟨h2, h3⟩, o⟩ := out_chk o
    obtain ⟨d1, d2, d3⟩ := dp_root (K := X.K) rs re rv h1
    exact call_reprD hu hg pins s τ H _ us Q I r ⟨v, p, rfl, d1, d2, d3, h2, h3, out_v rs (.str _) o⟩
  · exact o.elim
end
end K9
end
section
set_option Elab.async false
set_option linter.all false
set_option maxRecDepth 100000
/-! K9Snd6: expressions, construct by construct. -/
namespace K9
open PySem PySem.Spec PyProof.Rows L2

variable {ca : Nat → Addr} {W : WX} {C : Ctx} {X : Cx} {pos : Pos}

/-! ### constants, names -/
theorem snd_non {k : Nat} : PE X (.Constant .none k pos) (tM ca W (ev C .non)) := PE.imp pe_non fun σ H Q ⟨M, env, S, rs, re, o⟩ => out_v rs .non (show Out ca W M σ H (.ok .non S) Q from o)
theorem snd_bl {b : Bool} {k : Nat} : PE X (.Constant (.bool b) k pos) (tM ca W (ev C (.bl b))) := PE.imp pe_bl fun σ H Q ⟨M, env, S, rs, re, o⟩ => out_v rs (.bl b) (show Out ca W M σ H (.ok (.bl b) S) Q from o)
theorem snd_int {b : Int} {k : Nat} : PE X (.Constant (.int b) k pos) (tM ca W (ev C (.int b))) := PE.imp pe_int fun σ H Q ⟨M, env, S, rs, re, o⟩ => out_v rs (.int b) (show Out ca W M σ H (.ok (.int b) S) Q from o)
theorem snd_str {b : Str} {k : Nat} : PE X (.Constant (.str b) k pos) (tM ca W (ev C (.str b))) := PE.imp pe_str fun σ H Q ⟨M, env, S, rs, re, o⟩ => out_v rs (.str b) (show Out ca W M σ H (.ok (.str b) S) Q from o)
theorem snd_gint {x : Str} {i : Int} {u : Value} (hg : Gl X x) (hm : X.mg x = some u) (r : RelV (.int i) u) (hd : (x == ("__debug__" : Str)) = false) : PE X (.Name x pos) (tM ca W (ev C (.int i))) :=
  PE.imp (pe_glob hg hm r hd) fun σ H Q ⟨M, env, S, rs, re, o⟩ => out_v rs (.int i) (show Out ca W M σ H (.ok (.int i) S) Q from o)
theorem snd_gstr {x : Str} {i : Str} {u : Value} (hg : Gl X x) (hm : X.mg x = some u) (r : RelV (.str i) u) (hd : (x == ("__debug__" : Str)) = false) : PE X (.Name x pos) (tM ca W (ev C (.str i))) :=
  PE.imp (pe_glob hg hm r hd) fun σ H Q ⟨M, env, S, rs, re, o⟩ => out_v rs (.str i) (show Out ca W M σ H (.ok (.str i) S) Q from o)
theorem snd_var {i : Nat} {x : Str} (hN : X.N[i]? = some x) (hv : Vis X.env.scope x) (hd : (x == ("__debug__" : Str)) = false) (hcd : (x == ("__classdict__" : Str)) = false) : PE X (.Name x pos) (tM ca W (ev C (.var i))) := by
  refine PE.imp (pe_var hN hv hd hcd) fun σ H Q ⟨M, env, S, rs, re, o⟩ => ?_
  simp only [ev] at o
  cases e : env[i]? with
  | none => rw [e] at o; exact o.elim
  | some sl =>
    rw [e] at o
    have r := re.sl i sl e
    generalize hs : σ[i]? = so at r
    cases r with
    | no => exact o.elim
    | fz r =>
      rename_i v d
      exact ⟨v, hs, out_v rs r o⟩
    | al h1 h2 h3 h4 h5 h6 =>
      exact ⟨.ref _, hs, out_val rs (d := .acc i) hs o⟩

/-! ### operators -/
theorem snd_bin {op : Operator} {b : Bop} {l r : Expr} {x y : Ex} (hb : bopOf op = some b) (hl : PE X l (tM ca W (ev C x))) (hr : PE X r (tM ca W (ev C y))) : PE X (.BinOp l op r pos) (tM ca W (ev C (.bin b x y))) := by
  refine PE.imp (pe_op (opr_bin (ca := ca) hb) hl hr) fun σ H Q h => ?_
  exact tM_two (f := binD b) (fun a b env S => noEr_bin a b env S) (by simpa only [tM, ev] using h)
theorem snd_cmp {op : CmpOp} {l r : Expr} {x y : Ex} (hu : X.A.units + 65 < cLine) (hn : isSetE r = false) (hl : PE X l (tM ca W (ev C x))) (hr : PE X r (tM ca W (ev C y))) : PE X (.Compare l [op] [r] pos) (tM ca W (ev C (.cmp (copOf op) x y))) := by
  refine PE.imp (pe_cmpR (opr_cmp (ca := ca) hu) hl hr (by cases r <;> first | rfl | cases hn)) fun σ H Q h => ?_
  exact tM_two (f := cmpF (copOf op)) (fun a b env S => noEr_cmp a b env S) (by simpa only [tM, ev, cmpF] using h)
theorem tMT_test {f : Env → Sto → R D} {t : TE} (h : ∀ σ H Q, tM ca W f σ H Q → t σ H Q) : ∀ σ H Q, tMT ca W f σ H Q → tTest t σ H Q := fun σ H Q q => h σ H (qB Q) q
theorem sndT_cmp {op : CmpOp} {l r : Expr} {x y : Ex} (hu : X.A.units + 65 < cLine) (hn : isSetE r = false) (hl : PE X l (tM ca W (ev C x))) (hr : PE X r (tM ca W (ev C y))) : PT X (.Compare l [op] [r] pos) (tMT ca W (ev C (.cmp (copOf op) x y))) := by
  refine PT.imp (pt_cmpR (opr_cmp (ca := ca) hu) hl hr (by cases r <;> first | rfl | cases hn)) (tMT_test fun σ H Q h => ?_)
  exact tM_two (f := cmpF (copOf op)) (fun a b env S => noEr_cmp a b env S) (by simpa only [tM, ev, cmpF] using h)
theorem tM_chain {p1 p2 : Cop} {x y z : Ex} {σ : L2.St} {H : Hp} {Q : VK} (h : tM ca W (ev C (.cmp2 p1 p2 x y z)) σ H Q) : tChain (r2M ca (cmpF p1)) (r2M ca (cmpF p2)) (tM ca W (ev C x)) (tM ca W (ev C y)) (tM ca W (ev C z)) σ H Q := by
  obtain ⟨M, env, S, rs, re, o⟩ := h
  simp only [ev] at o
  refine ⟨M, env, S, rs, re, o.bind re (fun d S1 v M1 H1 _ e1 rs1 re1 rx1 o1 => ⟨M1, env, S1, rs1, re1, o1.bind re1 (fun e S2 u M2 H2 _ e2 rs2 re2 rx2 o2 => ?_)⟩)⟩
  refine ⟨M2, env, S2, σ, d, e, rs2, re2, rx1.ext e2, rx2, ?_⟩
  unfold cmpF
  cases hk : cmpD p1 d e env S2 with
  | none => rw [hk] at o2; exact o2.elim
  | some k =>
    rw [hk] at o2
    intro w M3 H3 e3 rs3 rw3
    obtain rfl := bl_of (σ := σ) rw3
    refine ⟨k, rfl, ?_⟩
    have o3 := Out.ext (r := if k = true then _ else _) o2 e3
    cases k with
    | false => exact iteF (out_v rs3 (.bl false) o3)
    | true =>
      refine iteT ⟨M3, env, S2, rs3, re2.ext e3, Out.bind (k := fun z S3 => oget (cmpD p2 e z env S3) fun k2 => .ok (.bl k2) S3) o3 (re2.ext e3) fun f S4 w M4 H4 _ e4 rs4 re4 rx4 o4 => ?_⟩
      exact ⟨M4, env, S4, σ, e, f, rs4, re4, (rx2.ext e3).ext e4, rx4, Out.w o4 (noEr_cmp e f env S4)⟩
theorem snd_cmp2 {p q : CmpOp} {l r c : Expr} {x y z : Ex} (hu : X.A.units + 65 < cLine) (hn : isSetE r = false) (hn2 : isSetE c = false) (hl : PE X l (tM ca W (ev C x))) (hr : PE X r (tM ca W (ev C y))) (hc : PE X c (tM ca W (ev C z))) :
    PE X (.Compare l [p, q] [r, c] pos) (tM ca W (ev C (.cmp2 (copOf p) (copOf q) x y z))) :=
  PE.imp (pe_chain (opr_cmp (ca := ca) hu) (opr_cmp (ca := ca) hu) hl hr hc (by cases c <;> first | rfl | cases hn2)) fun σ H Q h => tM_chain h
theorem sndT_cmp2 {p q : CmpOp} {l r c : Expr} {x y z : Ex} (hu : X.A.units + 65 < cLine) (hn : isSetE r = false) (hn2 : isSetE c = false) (hl : PE X l (tM ca W (ev C x))) (hr : PE X r (tM ca W (ev C y))) (hc : PE X c (tM ca W (ev C z))) :
    PT X (.Compare l [p, q] [r, c] pos) (tMT ca W (ev C (.cmp2 (copOf p) (copOf q) x y z))) :=
  PT.imp (pt_chain (opr_cmp (ca := ca) hu) (opr_cmp (ca := ca) hu) hl hr hc (by cases c <;> first | rfl | cases hn2)) (tMT_test fun σ H Q h => tM_chain h)
theorem snd_neg {e : Expr} {x : Ex} (he : PE X e (tM ca W (ev C x))) : PE X (.UnaryOp .USub e pos) (tM ca W (ev C (.neg x))) := by
  refine PE.imp (pe_un un_neg he) fun σ H Q ⟨M, env, S, rs, re, o⟩ => ?_
  simp only [ev] at o
  refine ⟨M, env, S, rs, re, o.bind re fun d S1 v M1 H1 _ e1 rs1 re1 rx1 o1 => ?_⟩
  cases d with
  | int i => obtain rfl := int_of rx1; exact ⟨i, rfl, out_v rs1 (.int _) o1⟩
  | _ => exact o1.elim

/-! ### and, or, not, if -/
/-- a truth, by its value -/
theorem bl_only {M : Mem} {H : Hp} {σ : L2.St} {d : D} {v : V} {Q : VK} {f g : R D} (rx : RepX ca M σ v d) (o : Out ca W M σ H (ifD d f g) Q) :
    ∃ b, v = .bl b ∧ d = .bl b ∧ Out ca W M σ H (if b = true then f else g) Q := by
  cases d with
  | bl b => obtain rfl := bl_of rx; cases b <;> exact ⟨_, rfl, rfl, o⟩
  | _ => exact o.elim
theorem snd_and {l r : Expr} {rest : List Expr} {x y : Ex} (hl : PE X l (tM ca W (ev C x))) (hr : PE X (.BoolOp .And (r :: rest) pos) (tM ca W (ev C y))) : PE X (.BoolOp .And (l :: r :: rest) pos) (tM ca W (ev C (.and x y))) := by
  refine PE.imp (pe_and hl hr) fun σ H Q ⟨M, env, S, rs, re, o⟩ => ?_
  simp only [ev] at o
  refine ⟨M, env, S, rs, re, o.bind re fun d S1 v M1 H1 _ e1 rs1 re1 rx1 o1 => ?_⟩
  obtain ⟨b, rfl, rfl, o2⟩ := bl_only rx1 o1
  refine ⟨b, rfl, ?_⟩
  cases b with
  | true => exact iteT ⟨M1, env, S1, rs1, re1, o2⟩
  | false => exact iteF (out_v rs1 (.bl false) o2)
theorem snd_or {l r : Expr} {rest : List Expr} {x y : Ex} (hl : PE X l (tM ca W (ev C x))) (hr : PE X (.BoolOp .Or (r :: rest) pos) (tM ca W (ev C y))) : PE X (.BoolOp .Or (l :: r :: rest) pos) (tM ca W (ev C (.or x y))) := by
  refine PE.imp (pe_or hl hr) fun σ H Q ⟨M, env, S, rs, re, o⟩ => ?_
  simp only [ev] at o
  refine ⟨M, env, S, rs, re, o.bind re fun d S1 v M1 H1 _ e1 rs1 re1 rx1 o1 => ?_⟩
  obtain ⟨b, rfl, rfl, o2⟩ := bl_only rx1 o1
  refine ⟨b, rfl, ?_⟩
  cases b with
  | true => exact iteT (out_v rs1 (.bl true) o2)
  | false => exact iteF ⟨M1, env, S1, rs1, re1, o2⟩
theorem sndW_and {l r : Expr} {rest : List Expr} {x y : Ex} (hl : PT X l (tMT ca W (ev C x))) (hr : PW X (.BoolOp .And (r :: rest) pos) (tMT ca W (ev C y))) : PW X (.BoolOp .And (l :: r :: rest) pos) (tMT ca W (ev C (.and x y))) := by
  refine PW.imp (pw_and hl hr) fun σ H Q ⟨M, env, S, rs, re, o⟩ => ?_
  simp only [ev] at o
  refine ⟨M, env, S, rs, re, o.bind re fun d S1 v M1 H1 _ e1 rs1 re1 rx1 o1 => ?_⟩
  obtain ⟨b, rfl, rfl, o2⟩ := bl_only rx1 o1
  refine ⟨b, rfl, ?_⟩
  cases b with
  | true => exact iteT ⟨M1, env, S1, rs1, re1, o2⟩
  | false =>
    obtain ⟨c, hc, q⟩ := out_v rs1 (.bl false) o2
    cases hc
    exact iteF q
theorem sndW_or {l r : Expr} {rest : List Expr} {x y : Ex} (hl : PT X l (tMT ca W (ev C x))) (hr : PW X (.BoolOp .Or (r :: rest) pos) (tMT ca W (ev C y))) : PW X (.BoolOp .Or (l :: r :: rest) pos) (tMT ca W (ev C (.or x y))) := by
  refine PW.imp (pw_or hl hr) fun σ H Q ⟨M, env, S, rs, re, o⟩ => ?_
  simp only [ev] at o
  refine ⟨M, env, S, rs, re, o.bind re fun d S1 v M1 H1 _ e1 rs1 re1 rx1 o1 => ?_⟩
  obtain ⟨b, rfl, rfl, o2⟩ := bl_only rx1 o1
  refine ⟨b, rfl, ?_⟩
  cases b with
  | false => exact iteF ⟨M1, env, S1, rs1, re1, o2⟩
  | true =>
    obtain ⟨c, hc, q⟩ := out_v rs1 (.bl true) o2
    cases hc
    exact iteT q
theorem snd_not {e : Expr} {x : Ex} (he : PE X e (tM ca W (ev C x))) : PE X (.UnaryOp .Not e pos) (tM ca W (ev C (.not x))) := by
  refine PE.imp (pe_not he) fun σ H Q ⟨M, env, S, rs, re, o⟩ => ?_
  simp only [ev] at o
  refine ⟨M, env, S, rs, re, o.bind re fun d S1 v M1 H1 _ e1 rs1 re1 rx1 o1 => ?_⟩
  cases d with
  | bl i => obtain rfl := bl_of rx1; exact ⟨i, rfl, out_v rs1 (.bl _) o1⟩
  | _ => exact o1.elim
theorem sndT_not {e : Expr} {x : Ex} (he : PT X e (tMT ca W (ev C x))) : PT X (.UnaryOp .Not e pos) (tMT ca W (ev C (.not x))) := by
  refine PT.imp (pt_not he) fun σ H Q ⟨M, env, S, rs, re, o⟩ => ?_
  simp only [ev] at o
  refine ⟨M, env, S, rs, re, o.bind re fun d S1 v M1 H1 _ e1 rs1 re1 rx1 o1 => ?_⟩
  cases d with
  | bl i =>
    obtain rfl := bl_of rx1
    obtain ⟨c, hc, q⟩ := out_v rs1 (.bl _) o1
    cases hc
    exact ⟨i, rfl, q⟩
  | _ => exact o1.elim
theorem snd_ite {c l r : Expr} {x y z : Ex} (hc : PT X c (tMT ca W (ev C x))) (hl : PE X l (tM ca W (ev C y))) (hr : PE X r (tM ca W (ev C z))) : PE X (.IfExp c l r pos) (tM ca W (ev C (.ite x y z))) := by
  refine PE.imp (pe_ifExp hc hl hr) fun σ H Q ⟨M, env, S, rs, re, o⟩ => ?_
  simp only [ev] at o
  refine ⟨M, env, S, rs, re, o.bind re fun d S1 v M1 H1 _ e1 rs1 re1 rx1 o1 => ?_⟩
  obtain ⟨b, rfl, rfl, o2⟩ := bl_only rx1 o1
  refine ⟨b, rfl, ?_⟩
  cases b with
  | true => exact iteT ⟨M1, env, S1, rs1, re1, o2⟩
  | false => exact iteF ⟨M1, env, S1, rs1, re1, o2⟩
/-- any other expression as a test -/
theorem sndT_val {e : Expr} {x : Ex} (he : PE X e (tM ca W (ev C x))) (h : ∀ whole, isTrue e X.env whole = (do let v ← whole; standAt e.pos; holding [v] (truthy v))) : PT X e (tMT ca W (ev C x)) :=
  PT.imp (pt_val he h) fun σ H Q q => q

/-! ### lists of expressions -/
def OutL (rel : Mem → List V → List D → Prop) (ca : Nat → Addr) (W : WX) (M : Mem) (σ : L2.St) (H : Hp) (r : R (List D)) (Q : List V → Hp → Prop) : Prop := match r with
  | .ok d S => ∀ v M' H', Ext M H M' H' → RelS ca M' S H' → rel M' v d → Q v H'
  | .er c d S => ∀ cls dd M' H', Ext M H M' H' → RelS ca M' S H' → ExcR ca M' H' c d cls dd → H dd.get! = none → W cls dd σ H'
  | .bad => False
/-- items that are kept; arguments that are only read -/
def tAK (ca : Nat → Addr) (W : WX) (f : Env → Sto → R (List D)) : TA := fun σ H Q => ∃ M env S, RelS ca M S H ∧ RelE ca M env σ H ∧ OutL (fun M => RepL ca M) ca W M σ H (f env S) Q
def tAR (ca : Nat → Addr) (W : WX) (f : Env → Sto → R (List D)) : TA := fun σ H Q => ∃ M env S, RelS ca M S H ∧ RelE ca M env σ H ∧ OutL (fun M => RepXL ca M σ) ca W M σ H (f env S) Q
section
variable {M M1 : Mem} {H H1 : Hp} {σ : L2.St} {env : Env} {S : Sto} {rel : Mem → List V → List D → Prop}
theorem OutL.ext {r : R (List D)} {Q : List V → Hp → Prop} (h : OutL rel ca W M σ H r Q) (e : Ext M H M1 H1) : OutL rel ca W M1 σ H1 r Q := by
  cases r with
  | bad => exact h
  | ok d S' => exact fun v M' H' x => h v M' H' (e.trans x)
  | er c d S' =>
    intro cls dd M' H' x rs ex hd
    refine h cls dd M' H' (e.trans x) rs ex ?_
    cases q : H dd.get! with
    | none => rfl
    | some o =>
      obtain ⟨o', z⟩ := e.dom _ o q
      rw [hd] at z; cases z
/-- a value, then a list -/
theorem OutL.bind {r : R D} {k : D → Sto → R (List D)} {Q : List V → Hp → Prop} {Q1 : VK} (h : OutL rel ca W M σ H (r.bindR k) Q) (re : RelE ca M env σ H)
    (hk : ∀ d S1 v M1 H1, Ext M H M1 H1 → RelS ca M1 S1 H1 → RelE ca M1 env σ H1 → RepX ca M1 σ v d → OutL rel ca W M1 σ H1 (k d S1) Q → Q1 v H1) : Out ca W M σ H r Q1 := by
  cases r with
  | bad => exact h
  | er c d S' => exact h
  | ok d S' =>
    intro v M1 H1 e rs rt
    obtain ⟨M2, e2, rs2, rx⟩ := rt.hold e rs
    exact hk (rd d) S' v M2 H1 e2 rs2 (re.ext e2) rx (OutL.ext (r := k (rd d) S') h e2)
/-- a list, then a value -/
theorem Out.bindL {r : R (List D)} {k : List D → Sto → R D} {Q : VK} {Q1 : List V → Hp → Prop} (h : Out ca W M σ H (r.bind k) Q) (re : RelE ca M env σ H)
    (hk : ∀ d S1 v M1 H1, Ext M H M1 H1 → RelS ca M1 S1 H1 → RelE ca M1 env σ H1 → rel M1 v d → Out ca W M1 σ H1 (k d S1) Q → Q1 v H1) : OutL rel ca W M σ H r Q1 := by
  cases r with
  | bad => exact h
  | er c d S' => exact h
  | ok d S' => exact fun v M1 H1 e rs rx => hk d S' v M1 H1 e rs (re.ext e) rx (Out.ext (r := k d S') h e)
/-- a list, then a list -/
theorem OutL.bindL {rel' : Mem → List V → List D → Prop} {r : R (List D)} {k : List D → Sto → R (List D)} {Q Q1 : List V → Hp → Prop} (h : OutL rel' ca W M σ H (r.bind k) Q) (re : RelE ca M env σ H)
    (hk : ∀ d S1 v M1 H1, Ext M H M1 H1 → RelS ca M1 S1 H1 → RelE ca M1 env σ H1 → rel M1 v d → OutL rel' ca W M1 σ H1 (k d S1) Q → Q1 v H1) : OutL rel ca W M σ H r Q1 := by
  cases r with
  | bad => exact h
  | er c d S' => exact h
  | ok d S' => exact fun v M1 H1 e rs rx => hk d S' v M1 H1 e rs (re.ext e) rx (OutL.ext (r := k d S') h e)
end
theorem PA.imp {es : List Expr} {t t' : TA} (h : PA X es t) (q : ∀ σ H Q, t' σ H Q → t σ H Q) : PA X es t' := ⟨fun ps pins s σ H Q I z => h.run ps pins s σ H Q I (q σ H Q z)⟩
theorem star_cons {e : Expr} {es : List Expr} {env : PySem.Env} (h : isStar e = false) : starEach (e :: es) env = (false, eval e env) :: starEach es env := by
  cases e <;> first | rfl | cases h
theorem no_star : ∀ {es : List Expr} {env : PySem.Env} {p : Pos}, es.any isStar = false → (backTo p (starEach es env)).any (·.1) = false
  | [], _, _, _ => rfl
  | e :: es, env, p, h => by
    rw [List.any_cons, Bool.or_eq_false_iff] at h
    rw [star_cons h.1]
    show (false || (backTo p (starEach es env)).any (·.1)) = false
    rw [no_star h.2]; rfl
theorem snd_nilK : PA X [] (tAK ca W (evs C .nil)) := PA.imp pa_nil fun σ H Q ⟨M, env, S, rs, re, o⟩ => (show OutL (fun M => RepL ca M) ca W M σ H (.ok [] S) Q from by simpa only [evs] using o) [] M H Ext.refl rs RepL.nil
theorem snd_consK {e : Expr} {es : List Expr} {x : Ex} {xs : Exs} (hs : isStar e = false) (he : PE X e (tM ca W (ev C x))) (hr : PA X es (tAK ca W (evs C xs))) : PA X (e :: es) (tAK ca W (evs C (.cons false x xs))) := by
  refine PA.imp (pa_cons he hr (star_cons hs)) fun σ H Q ⟨M, env, S, rs, re, o⟩ => ?_
  simp only [evs, Bool.false_eq_true, if_false] at o
  refine ⟨M, env, S, rs, re, o.bind re fun d S1 v M1 H1 e1 rs1 re1 rx1 o1 => ?_⟩
  cases hd : d.isAcc with
  | true => rw [hd] at o1; exact o1.elim
  | false =>
    rw [hd] at o1
    exact ⟨M1, env, S1, rs1, re1, o1.bindL re1 fun ds S2 vs M2 H2 e2 rs2 re2 rx2 o2 => o2 (v :: vs) M2 H2 Ext.refl rs2 (.cons (e2.rep (rx1.rep hd)) rx2)⟩
theorem snd_starK {e : Expr} {es : List Expr} {x : Ex} {xs : Exs} {p : Pos} (he : PE X e (tM ca W (ev C x))) (hr : PA X es (tAK ca W (evs C xs))) : PA X (.Starred e p :: es) (tAK ca W (evs C (.cons true x xs))) := by
  refine PA.imp (StX.pa_star he hr) fun σ H Q ⟨M, env, S, rs, re, o⟩ => ?_
  simp only [evs, if_true] at o
  refine ⟨M, env, S, rs, re, o.bind re fun d S1 v M1 H1 e1 rs1 re1 rx1 o1 => ?_⟩
  cases hd : seqOf env S1 d with
  | none => rw [hd] at o1; exact o1.elim
  | some ds =>
    rw [hd] at o1
    obtain ⟨a, vs, rfl, ha, r⟩ := seq_at rs1 re1 rx1 hd
    refine ⟨a, vs, rfl, ha.elim (fun z => .inr (SqL.of z)) (fun z => .inl (SqT.of z)), M1, env, S1, rs1, re1, OutL.bindL (k := fun ys S2 => .ok (ds ++ ys) S2) o1 re1 fun es S2 us M2 H2 e2 rs2 re2 rx2 o2 => ?_⟩
    exact o2 (vs ++ us) M2 H2 Ext.refl rs2 ((e2.repL r).append rx2)
theorem snd_nilR : PA X [] (tAR ca W (evl C .nil)) := PA.imp pa_nil fun σ H Q ⟨M, env, S, rs, re, o⟩ => (show OutL (fun M => RepXL ca M σ) ca W M σ H (.ok [] S) Q from by simpa only [evl] using o) [] M H Ext.refl rs RepXL.nil
theorem snd_consR {e : Expr} {es : List Expr} {x : Ex} {xs : Exs} (hs : isStar e = false) (he : PE X e (tM ca W (ev C x))) (hr : PA X es (tAR ca W (evl C xs))) : PA X (e :: es) (tAR ca W (evl C (.cons false x xs))) := by
  refine PA.imp (pa_cons he hr (star_cons hs)) fun σ H Q ⟨M, env, S, rs, re, o⟩ => ?_
  simp only [evl, Bool.false_eq_true, if_false] at o
  refine ⟨M, env, S, rs, re, o.bind re fun d S1 v M1 H1 e1 rs1 re1 rx1 o1 => ?_⟩
  exact ⟨M1, env, S1, rs1, re1, o1.bindL re1 fun ds S2 vs M2 H2 e2 rs2 re2 rx2 o2 => o2 (v :: vs) M2 H2 Ext.refl rs2 (.cons (rx1.ext e2) rx2)⟩

/-! ### displays -/
theorem snd_tup {es : List Expr} {xs : Exs} {k : Nat} (h : PA X es (tAK ca W (evs C xs))) : PE X (.Tuple es k pos) (tM ca W (ev C (.tup xs))) := by
  refine PE.imp (pe_tup h) fun σ H Q ⟨M, env, S, rs, re, o⟩ => ?_
  simp only [ev] at o
  refine ⟨M, env, S, rs, re, o.bindL re fun ds S1 vs M1 H1 e1 rs1 re1 rx1 o1 => ?_⟩
  obtain ⟨h1, o1⟩ := out_chk o1
  exact ⟨by rw [rx1.length]; exact h1, fun p hp => out_tup rs1 rx1 o1 hp⟩
theorem snd_lst {es : List Expr} {xs : Exs} (h : PA X es (tAK ca W (evs C xs))) : PE X (.List es pos) (tM ca W (ev C (.lst xs))) := by
  refine PE.imp (pe_lst h) fun σ H Q ⟨M, env, S, rs, re, o⟩ => ?_
  simp only [ev] at o
  refine ⟨M, env, S, rs, re, o.bindL re fun ds S1 vs M1 H1 e1 rs1 re1 rx1 o1 => ?_⟩
  obtain ⟨h1, o2⟩ := out_mkL rs1 rx1 o1
  exact ⟨by rw [rx1.length]; exact h1, o2⟩
theorem snd_dict0 : PE X (.Dict [] [] pos) (tM ca W (ev C .dict0)) := by
  refine PE.imp pe_dnewK fun σ H Q ⟨M, env, S, rs, re, o⟩ => fun p hp => ?_
  simp only [ev] at o
  exact out_own rs (ob := .dct [] []) rfl (ObR.dct rfl RepL.nil) o hp
/-- an object just made is put into the store -/
theorem tM_ref {x : Ex} {σ : L2.St} {H : Hp} {Q : VK} (h : tM ca W (ev C (.ref x)) σ H Q) : tM ca W (ev C x) σ H Q := by
  obtain ⟨M, env, S, rs, re, o⟩ := h
  refine ⟨M, env, S, rs, re, ?_⟩
  simp only [ev] at o
  generalize ev C x env S = r at o
  cases r with
  | bad => exact o
  | er c d S' => exact o
  | ok d S' =>
    intro v M1 H1 e1 rs1 rt
    cases d with
    | own d =>
      obtain ⟨p, ho, ob, rfl, e2, e3, e4, e5, e6, e7⟩ := rt
      obtain ⟨ob', h1, o⟩ := out_oget o
      rw [e4] at h1
      cases h1
      have hm : ∀ (n : Nat) (a : Addr), M1.mu[n]? = some a → (M1.mu ++ [p])[n]? = some a := fun n a h => by
        rw [List.getElem?_append_left (List.getElem?_eq_some_iff.mp h).1]; exact h
      refine (show Out ca W M σ H (.ok (.ref S'.length) (S' ++ [ob])) Q from o) (.ref p) { M1 with mu := M1.mu ++ [p] } H1 ⟨e1.F, fun n a h => hm n a (e1.mu n a h), e1.h0, e1.sa, e1.rest, e1.newF, fun a h n => ?_, e1.dom⟩ ⟨rs1.frz, ?_, ?_, fun a h => ?_, fun n ob' h => ?_, rs1.h0⟩ ?_
      · rcases List.mem_append.mp h with q | q
        · exact e1.newM a q n
        · rw [List.mem_singleton.mp q]; exact e2
      · rw [List.length_append, List.length_append, rs1.len]; rfl
      · exact List.nodup_append.mpr ⟨rs1.nd, by simp, fun a h b q => by rw [List.mem_singleton.mp q]; exact fun z => e7 (z ▸ h)⟩
      · rcases List.mem_append.mp h with q | q
        · exact rs1.off a q
        · rw [List.mem_singleton.mp q]; exact e6
      · by_cases q : n < S'.length
        · rw [List.getElem?_append_left q] at h
          obtain ⟨a, ho', h1, h2, h3⟩ := rs1.ob n ob' h
          exact ⟨a, ho', hm n a h1, h2, ObR.mono (M := M1) (M' := { M1 with mu := M1.mu ++ [p] }) (fun _ _ h => h) hm rfl h3⟩
        · rw [List.getElem?_append_right (Nat.le_of_not_lt q)] at h
          have q2 : n - S'.length = 0 := by
            cases z : n - S'.length with
            | zero => rfl
            | succ k => rw [z] at h; simp at h
          rw [q2] at h
          simp at h
          subst h
          refine ⟨p, ho, ?_, e3, ObR.mono (M := M1) (M' := { M1 with mu := M1.mu ++ [p] }) (fun _ _ h => h) hm rfl e5⟩
          show (M1.mu ++ [p])[n]? = some p
          rw [List.getElem?_append_right (by rw [rs1.len]; exact Nat.le_of_not_lt q), rs1.len, q2]; rfl
      · refine Rep.ref ?_
        show (M1.mu ++ [p])[S'.length]? = some p
        rw [List.getElem?_append_right (by rw [rs1.len]; exact Nat.le_refl _), rs1.len, Nat.sub_self]; rfl
    | _ => exact (show False from o).elim

theorem snd_ref {e : Expr} {x : Ex} (he : PE X e (tM ca W (ev C x))) : PE X e (tM ca W (ev C (.ref x))) := PE.imp he fun σ H Q h => tM_ref h
/-! ### subscripts -/
theorem snd_ix {a i : Expr} {x y : Ex} (hu : X.A.units + 65 < cLine) (hn : isSlice i = false) (ha : PE X a (tM ca W (ev C x))) (hi : PE X i (tM ca W (ev C y))) : PE X (.Subscript a i pos) (tM ca W (ev C (.ix x y))) := by
  refine PE.imp (pe_ix (ixr_ix (ca := ca) hu) ha hi (fun o j => by cases i <;> first | rfl | cases hn)) fun σ H Q h => ?_
  exact tM_two (f := ixD) (fun a b env S => noEr_ix a b env S) (by simpa only [tM, ev] using h)
def OutP (ca : Nat → Addr) (W : WX) (M : Mem) (σ : L2.St) (H : Hp) (r : R (Option Int)) (Q : Option Int → Hp → Prop) : Prop := match r with
  | .ok d S => ∀ M' H', Ext M H M' H' → RelS ca M' S H' → Q d H'
  | .er c d S => ∀ cls dd M' H', Ext M H M' H' → RelS ca M' S H' → ExcR ca M' H' c d cls dd → H dd.get! = none → W cls dd σ H'
  | .bad => False
def tPO (ca : Nat → Addr) (W : WX) (f : Env → Sto → R (Option Int)) : TO := fun σ H Q => ∃ M env S, RelS ca M S H ∧ RelE ca M env σ H ∧ OutP ca W M σ H (f env S) Q
theorem PO.imp {e : Option Expr} {t t' : TO} (h : PO X e t) (q : ∀ σ H Q, t' σ H Q → t σ H Q) : PO X e t' := ⟨fun pins s σ H Q I z => h.run pins s σ H Q I (q σ H Q z)⟩
theorem snd_poN : PO X none (tPO ca W fun env S => partR .non (ev C .non env S)) := PO.imp po_none fun σ H Q ⟨M, env, S, rs, re, o⟩ => (show OutP ca W M σ H (.ok none S) Q from by simpa only [partR, ev, R.bindR, rd] using o) M H Ext.refl rs
theorem snd_poS {e : Expr} {x : Ex} (hx : x ≠ .non) (he : PE X e (tM ca W (ev C x))) : PO X (some e) (tPO ca W fun env S => partR x (ev C x env S)) := by
  refine PO.imp (po_some he) fun σ H Q ⟨M, env, S, rs, re, o⟩ => ⟨M, env, S, rs, re, ?_⟩
  have o' : OutP ca W M σ H ((ev C x env S).bindR fun d S => match d with | .int i => .ok (some i) S | _ => .bad) Q := by
    cases x <;> first | exact o | exact absurd rfl hx
  clear o
  cases hr : ev C x env S with
  | bad => rw [hr] at o'; exact o'
  | er c d S' => rw [hr] at o'; exact o'
  | ok d S' =>
    rw [hr] at o'
    intro v M1 H1 e1 rs1 rx1
    cases d with
    | int i => obtain rfl := int_of (σ := σ) rx1; exact ⟨i, rfl, (show OutP ca W M σ H (.ok (some i) S') Q from o') M1 H1 e1 rs1⟩
    | own d =>
      obtain ⟨p, ho, ob, e0, e2, e3, e4, e5⟩ := rx1
      cases d <;> first | exact (show False from o').elim | cases e4
    | _ => exact (show False from o').elim
theorem OutP.ext {M M1 : Mem} {H H1 : Hp} {σ : L2.St} {r : R (Option Int)} {Q : Option Int → Hp → Prop} (h : OutP ca W M σ H r Q) (e : Ext M H M1 H1) : OutP ca W M1 σ H1 r Q := by
  cases r with
  | bad => exact h
  | ok d S' => exact fun M' H' x => h M' H' (e.trans x)
  | er c d S' =>
    intro cls dd M' H' x rs ex hd
    refine h cls dd M' H' (e.trans x) rs ex ?_
    cases q : H dd.get! with
    | none => rfl
    | some o =>
      obtain ⟨o', z⟩ := e.dom _ o q
      rw [hd] at z; cases z
theorem Out.bindP {M : Mem} {H : Hp} {σ : L2.St} {env : Env} {r : R (Option Int)} {k : Option Int → Sto → R D} {Q : VK} {Q1 : Option Int → Hp → Prop} (h : Out ca W M σ H (r.bind k) Q) (re : RelE ca M env σ H)
    (hk : ∀ d S1 M1 H1, Ext M H M1 H1 → RelS ca M1 S1 H1 → RelE ca M1 env σ H1 → Out ca W M1 σ H1 (k d S1) Q → Q1 d H1) : OutP ca W M σ H r Q1 := by
  cases r with
  | bad => exact h
  | er c d S' => exact h
  | ok d S' => exact fun M1 H1 e rs => hk d S' M1 H1 e rs (re.ext e) (Out.ext (r := k d S') h e)
theorem snd_sl {a : Expr} {l h : Option Expr} {x lo hi : Ex} {p2 : Pos} (ha : PE X a (tM ca W (ev C x))) (hl : PO X l (tPO ca W fun env S => partR lo (ev C lo env S))) (hh : PO X h (tPO ca W fun env S => partR hi (ev C hi env S))) :
    PE X (.Subscript a (.Slice l h none p2) pos) (tM ca W (ev C (.sl x lo hi))) := by
  refine PE.imp (pe_slice (slr_sl (ca := ca)) ha hl hh) fun σ H Q ⟨M, env, S, rs, re, o⟩ => ?_
  simp only [ev] at o
  refine ⟨M, env, S, rs, re, o.bind re fun d S1 v M1 H1 _ e1 rs1 re1 rx1 o1 => ⟨M1, env, S1, rs1, re1, o1.bindP re1 fun i S2 M2 H2 e2 rs2 re2 o2 => ⟨M2, env, S2, rs2, re2, o2.bindP re2 fun j S3 M3 H3 e3 rs3 re3 o3 => ?_⟩⟩⟩
  exact ⟨M3, env, S3, σ, d, rs3, re3, (rx1.ext e2).ext e3, o3.w (noEr_sl d i j env S3)⟩
theorem snd_rev {a : Expr} {x : Ex} {k : Nat} {p1 p2 p3 : Pos} (ha : PE X a (tM ca W (ev C x))) : PE X (.Subscript a (.Slice none none (some (.UnaryOp .USub (.Constant (.int 1) k p1) p2)) p3) pos) (tM ca W (ev C (.rev x))) := by
  refine PE.imp (pe_revL ha) fun σ H Q ⟨M, env, S, rs, re, o⟩ => ?_
  simp only [ev] at o
  refine ⟨M, env, S, rs, re, o.bind re fun d S1 v M1 H1 _ e1 rs1 re1 rx1 o1 => ?_⟩
  obtain ⟨ds, h1, o2⟩ := out_oget o1
  obtain ⟨a, vs, rfl, hp, r⟩ := lst_at rs1 re1 rx1 h1
  exact ⟨a, vs, rfl, SqL.of hp, (out_mkL rs1 r.reverse o2).2⟩

/-! ### built-ins -/
theorem snd_biB {b : Bi} {x : Str} {p : Pos} {e : Expr} {es : List Expr} {xs : Exs} (hcalm : X.calm = true) (hu : X.A.units + 65 < cLine) (hgd : X.A.guards = some []) (hg : Gl X x) (hm : X.mg x = none) (hb : bootBuiltins x = some (biVal b)) (hd : (x == ("__debug__" : Str)) = false) (hn : x ≠ "__name__")
    (hs : (e :: es).any isStar = false) (ha : PA X (e :: es) (tAR ca W (evl C xs))) : PE X (.Call (.Name x p) (e :: es) [] pos) (tM ca W (ev C (.bi b xs))) := by
  have hs' := hs
  rw [List.any_cons, Bool.or_eq_false_iff] at hs'
  have key : ∀ (f : Value), f = biVal b → (∀ id, f = .builtin id → PE X (.Call (.Name x p) (e :: es) [] pos) (tM ca W (ev C (.bi b xs)))) → (∀ T, f = .type T → PE X (.Call (.Name x p) (e :: es) [] pos) (tM ca W (ev C (.bi b xs)))) → PE X (.Call (.Name x p) (e :: es) [] pos) (tM ca W (ev C (.bi b xs))) := by
    intro f hf h1 h2
    cases b <;> first | exact h1 _ hf | exact h2 _ hf
  have rd : ∀ σ H Q, tM ca W (ev C (.bi b xs)) σ H Q → tCB (rBi ca b) (tAR ca W (evl C xs)) σ H Q := by
    rintro σ H Q ⟨M, env, S, rs, re, o⟩
    simp only [ev] at o
    refine ⟨M, env, S, rs, re, o.bindL re fun ds S1 vs M1 H1 e1 rs1 re1 rx1 o1 => ?_⟩
    exact ⟨M1, env, S1, σ, ds, rs1, re1, rx1, o1.w (noEr_bi ds env S1)⟩
  refine key (biVal b) rfl (fun id hid => ?_) (fun T hT => ?_)
  · refine PE.imp (pe_callB (r := rBi ca b) (id := id) ?_ hg hm (by rw [hb, hid]) ha hn hd (star_cons hs'.1) (no_star hs'.2)) rd
    rw [← hid]
    exact callR_bi hcalm hu hgd
  · refine PE.imp (pe_callTy (r := rBi ca b) (T := T) ?_ hg hm (by rw [hb, hT]) ha hn hd (star_cons hs'.1) (no_star hs'.2)) rd
    rw [← hT]
    exact callR_bi hcalm hu hgd
end K9
end
section
set_option Elab.async false
set_option linter.all false
set_option maxRecDepth 100000
/-! K9Snd7: calls of what the module's names hold; isinstance; methods of texts and dicts; f-strings. -/
namespace K9
open PySem PySem.Spec PyProof.Rows L2

variable {ca : Nat → Addr} {W : WX} {C : Ctx} {X : Cx} {pos : Pos}

/-! ### calls -/
/-- what a called thing promises: values in, the evaluator's outcome out -/
def RunsP (ca : Nat → Addr) (W : WX) (X : Cx) (fv : Value) (g : List D → Sto → R D) : Prop :=
  ∀ (pins : List (Addr × Obj)) (σ : L2.St) (H : Hp) (s : Shared) (us : List Value) (vs : List V) (ds : List D) (M : Mem) (S : Sto) (Q : VK), Inv X pins σ H s → Vals vs us → RelS ca M S H → RepL ca M vs ds → Out ca W M σ H (g ds S) Q →
    wpAny (model X.prog X.w) X.A (call fv us) (EP X pins σ Q) X.xe s
def RunsK (ca : Nat → Addr) (W : WX) (X : Cx) (fv : Value) (n : Nat) (ks : List Str) (perm : List Nat) (g : List D → Sto → R D) : Prop :=
  ∀ (pins : List (Addr × Obj)) (σ : L2.St) (H : Hp) (s : Shared) (us ws : List Value) (vs zs : List V) (ds es fs : List D) (M : Mem) (S : Sto) (Q : VK), Inv X pins σ H s → Vals vs us → Vals zs ws → vs.length = n → zs.length = ks.length → RelS ca M S H → RepL ca M vs ds → RepL ca M zs es →
    permute (ds ++ es) perm = some fs → Out ca W M σ H (g fs S) Q → wpAny (model X.prog X.w) X.A (call fv us (ks.zip ws)) (EP X pins σ Q) X.xe s
theorem snd_call {x : Str} {fv : Value} {g : List D → Sto → R D} {p : Pos} {es : List Expr} {xs : Exs} {c : Ex} (hc : ∀ env S, ev C c env S = (evs C xs env S).bind fun ds S1 => g ds S1)
    (hg : Gl X x) (hm : X.mg x = some fv) (hk : PySem.W.keepIn X.K fv = true) (hd : (x == ("__debug__" : Str)) = false) (hs : es.any isStar = false) (hr : RunsP ca W X fv g) (hx : es = [] → xs = .nil) (ha : PA X es (tAK ca W (evs C xs))) :
    PE X (.Call (.Name x p) es [] pos) (tM ca W (ev C c)) := by
  refine ⟨fun pins s σ H Q I h => ?_⟩
  obtain ⟨M, env, S, rs, re, o⟩ := h
  rw [hc] at o
  refine wpAny_Call_Name_kw (ld_glob I hg hm ?_ hd)
  cases es with
  | nil =>
    obtain rfl := hx rfl
    simp only [evs, R.bind] at o
    exact PySem.W.callWith_K0 I.kIn hk (hr pins σ H s [] [] [] M S Q I .nil rs .nil o)
  | cons e es =>
    rw [List.any_cons, Bool.or_eq_false_iff] at hs
    have hl := o.bindL (rel := fun M => RepL ca M) (Q1 := fun vs H1 => ∃ M1 S1 ds, RelS ca M1 S1 H1 ∧ RepL ca M1 vs ds ∧ Out ca W M1 σ H1 (g ds S1) Q) re fun ds S1 vs M1 H1 e1 rs1 re1 rx1 o1 => ⟨M1, S1, ds, rs1, rx1, o1⟩
    refine PySem.W.callWith_K (h₀ := X.base) I.ok.mod.kin hk (thn (ha.run pos pins s σ H _ I ⟨M, env, S, rs, re, hl⟩) fun us s1 ⟨vs, H1, I1, r, M1, S1, ds, rs1, rx, o1⟩ => ⟨I1.kIn, ?_⟩) (star_cons hs.1) (no_star hs.2)
    exact hr pins σ H1 s1 us vs ds M1 S1 Q I1 r rs1 rx o1

/-! ### keywords -/
def kwNames (kws : List Keyword) : List (Option Str) := kws.map fun k => match k with | ⟨n, _, _⟩ => n
theorem kw_each : ∀ {kws : List Keyword} {ks : List Str} {env : PySem.Env} {p : Pos}, kwNames kws = ks.map some → (backToKw p (keywordEach kws env)).all (·.1.isSome) = true ∧ (backToKw p (keywordEach kws env)).filterMap (·.1) = ks ∧ (backToKw p (keywordEach kws env)).any (·.1.isNone) = false
  | [], [], _, _, _ => ⟨rfl, rfl, rfl⟩
  | [], _ :: _, _, _, h => by cases h
  | ⟨n, e, q⟩ :: kws, ks, env, p, h => by
    cases ks with
    | nil => cases h
    | cons k ks =>
      have h' : n :: kwNames kws = some k :: ks.map some := h
      injection h' with h1 h2
      subst h1
      obtain ⟨a, b, c⟩ := kw_each (env := env) (p := p) h2
      refine ⟨?_, ?_, ?_⟩
      · show (true && (backToKw p (keywordEach kws env)).all (·.1.isSome)) = true
        rw [a]; rfl
      · show k :: (backToKw p (keywordEach kws env)).filterMap (·.1) = k :: ks
        rw [b]
      · show (false || (backToKw p (keywordEach kws env)).any (·.1.isNone)) = false
        rw [c]; rfl
theorem PK.imp {es : List Keyword} {t t' : TA} (h : PK X es t) (q : ∀ σ H Q, t' σ H Q → t σ H Q) : PK X es t' := ⟨fun ps pins s σ H Q I z => h.run ps pins s σ H Q I (q σ H Q z)⟩
theorem snd_nilKw : PK X [] (tAK ca W (evs C .nil)) := PK.imp pk_nil fun σ H Q ⟨M, env, S, rs, re, o⟩ => (show OutL (fun M => RepL ca M) ca W M σ H (.ok [] S) Q from by simpa only [evs] using o) [] M H Ext.refl rs RepL.nil
theorem snd_consKw {e : Expr} {n : Option Str} {q : Pos} {es : List Keyword} {x : Ex} {xs : Exs} (he : PE X e (tM ca W (ev C x))) (hr : PK X es (tAK ca W (evs C xs))) : PK X (⟨n, e, q⟩ :: es) (tAK ca W (evs C (.cons false x xs))) := by
  refine PK.imp (pk_cons he hr) fun σ H Q ⟨M, env, S, rs, re, o⟩ => ?_
  simp only [evs, Bool.false_eq_true, if_false] at o
  refine ⟨M, env, S, rs, re, o.bind re fun d S1 v M1 H1 e1 rs1 re1 rx1 o1 => ?_⟩
  cases hd : d.isAcc with
  | true => rw [hd] at o1; exact o1.elim
  | false =>
    rw [hd] at o1
    exact ⟨M1, env, S1, rs1, re1, o1.bindL re1 fun ds S2 vs M2 H2 e2 rs2 re2 rx2 o2 => o2 (v :: vs) M2 H2 Ext.refl rs2 (.cons (e2.rep (rx1.rep hd)) rx2)⟩
theorem snd_callk {x : Str} {fv : Value} {g : List D → Sto → R D} {p : Pos} {es : List Expr} {kws : List Keyword} {ks : List Str} {perm : List Nat} {xs ys : Exs} {c : Ex}
    (hc : ∀ env S, ev C c env S = (evs C xs env S).bind fun ds S1 => (evs C ys env S1).bind fun ks S2 => oget (permute (ds ++ ks) perm) fun fs => g fs S2)
    (hg : Gl X x) (hm : X.mg x = some fv) (hk : PySem.W.keepIn X.K fv = true) (hd : (x == ("__debug__" : Str)) = false) (hs : es.any isStar = false) (hn : kwNames kws = ks.map some) (hr : RunsK ca W X fv es.length ks perm g)
    (hl : ∀ env S ds S1, evs C xs env S = .ok ds S1 → ds.length = es.length) (hl2 : ∀ env S ds S1, evs C ys env S = .ok ds S1 → ds.length = ks.length)
    (hx : es = [] → xs = .nil) (ha : PA X es (tAK ca W (evs C xs))) (hb : PK X kws (tAK ca W (evs C ys))) :
    PE X (.Call (.Name x p) es kws pos) (tM ca W (ev C c)) := by
  refine ⟨fun pins s σ H Q I h => ?_⟩
  obtain ⟨M, env, S, rs, re, o⟩ := h
  rw [hc] at o
  refine wpAny_Call_Name_kw (ld_glob I hg hm ?_ hd)
  obtain ⟨k1, k2, k3⟩ := kw_each (env := X.env) (p := pos) hn
  have two : ∀ {M1 : Mem} {S1 : Sto} {H1 : Hp} {ds : List D}, RelS ca M1 S1 H1 → RelE ca M1 env σ H1 → Out ca W M1 σ H1 ((evs C ys env S1).bind fun ks S2 => oget (permute (ds ++ ks) perm) fun fs => g fs S2) Q →
      tAK ca W (evs C ys) σ H1 (fun zs H2 => ∃ M2 S2 es, Ext M1 H1 M2 H2 ∧ RelS ca M2 S2 H2 ∧ RepL ca M2 zs es ∧ es.length = ks.length ∧ Out ca W M2 σ H2 (oget (permute (ds ++ es) perm) fun fs => g fs S2) Q) := by
    intro M1 S1 H1 ds rs1 re1 o1
    refine ⟨M1, env, S1, rs1, re1, ?_⟩
    cases hy : evs C ys env S1 with
    | bad => rw [hy] at o1; exact o1
    | er c d S' => rw [hy] at o1; exact o1
    | ok es S' =>
      rw [hy] at o1
      exact fun zs M2 H2 e2 rs2 rx2 => ⟨M2, S', es, e2, rs2, rx2, hl2 _ _ _ _ hy, Out.ext (r := oget (permute (ds ++ es) perm) fun fs => g fs S') o1 e2⟩
  cases es with
  | nil =>
    obtain rfl := hx rfl
    simp only [evs, R.bind] at o
    refine PySem.W.callWith_KW0 (h₀ := X.base) I.ok.mod.kin hk k1 ?_ (by rw [k3]; rfl)
    refine thn (hb.run pos pins s σ H _ I (two (ds := []) rs re o)) fun ws s2 ⟨zs, H2, I2, rz, M2, S2, es, e2, rs2, rx2, l2, o2⟩ => ⟨I2.kIn, ?_⟩
    rw [k2]
    obtain ⟨fs, h1, o3⟩ := out_oget o2
    exact hr pins σ H2 s2 [] ws [] zs [] es fs M2 S2 Q I2 .nil rz rfl (by rw [rx2.length, l2]) rs2 .nil rx2 h1 o3
  | cons e es =>
    have hs' := hs
    rw [List.any_cons, Bool.or_eq_false_iff] at hs'
    have hl0 : OutL (fun M => RepL ca M) ca W M σ H (evs C xs env S) (fun vs H1 => ∃ M1 S1 ds, RelS ca M1 S1 H1 ∧ RelE ca M1 env σ H1 ∧ RepL ca M1 vs ds ∧ ds.length = (e :: es).length ∧ Out ca W M1 σ H1 ((evs C ys env S1).bind fun ks S2 => oget (permute (ds ++ ks) perm) fun fs => g fs S2) Q) := by
      cases hy : evs C xs env S with
      | bad => rw [hy] at o; exact o
      | er c d S' => rw [hy] at o; exact o
      | ok ds S' =>
        rw [hy] at o
        exact fun vs M1 H1 e1 rs1 rx1 => ⟨M1, S', ds, rs1, re.ext e1, rx1, hl _ _ _ _ hy, Out.ext (r := (evs C ys env S').bind fun ks S2 => oget (permute (ds ++ ks) perm) fun fs => g fs S2) o e1⟩
    refine PySem.W.callWith_KW (h₀ := X.base) I.ok.mod.kin hk k1 (thn (ha.run pos pins s σ H _ I ⟨M, env, S, rs, re, hl0⟩) fun us s1 ⟨vs, H1, I1, r, M1, S1, ds, rs1, re1, rx, l1, o1⟩ => ?_)
      (by rw [k3, star_cons hs'.1]; show ((false || (backTo pos (starEach es X.env)).any (·.1)) || false) = false; rw [no_star hs'.2]; rfl) (star_cons hs'.1)
    refine thn (hb.run pos pins s1 σ H1 _ I1 (two rs1 re1 o1)) fun ws s2 ⟨zs, H2, I2, rz, M2, S2, es', e2, rs2, rx2, l2, o2⟩ => ⟨I2.kIn, ?_⟩
    rw [k2]
    obtain ⟨fs, h1, o3⟩ := out_oget o2
    exact hr pins σ H2 s2 us ws vs zs ds es' fs M2 S2 Q I2 r rz (by rw [rx.length, l1]) (by rw [rx2.length, l2]) rs2 (e2.repL rx) rx2 h1 o3
end K9
end
section
set_option Elab.async false
set_option linter.all false
set_option maxRecDepth 100000
/-! K9Snd8: defs of the module; errors made as values. -/
namespace K9
open PySem PySem.Spec PyProof.Rows L2

variable {ca : Nat → Addr} {W : WX} {C : Ctx} {X : Cx} {pos : Pos}

/-- what a def hands out: a value, or an object just made -/
def RepU (ca : Nat → Addr) (H : Hp) (M' : Mem) (H' : Hp) (v : V) (d : D) : Prop := match d with
  | .acc _ => False
  | d => RepT ca [] H M' H' v d
theorem RepU.t {σ : L2.St} {H : Hp} {M' : Mem} {H' : Hp} {v : V} {d : D} (r : RepU ca H M' H' v d) : RepT ca σ H M' H' v d := by
  cases d <;> first | exact r | cases r
/-- an outcome of a def -/
def OutF (ca : Nat → Addr) (M : Mem) (H : Hp) (r : R D) (Q : VK) (E : XK) : Prop := match r with
  | .ok d S => ∀ v M' H', Ext M H M' H' → RelS ca M' S H' → RepU ca H M' H' v d → Q v H'
  | .er c d S => ∀ cls dd M' H', Ext M H M' H' → RelS ca M' S H' → ExcR ca M' H' c d cls dd → H dd.get! = none → E cls dd H'
  | .bad => False
/-- the promise of a def by the evaluator's function -/
def spF (ca : Nat → Addr) (g : List D → Sto → R D) : Sp := fun vs H Q E => ∃ M S ds, RelS ca M S H ∧ RepL ca M vs ds ∧ OutF ca M H (g ds S) Q E
theorem out_F {M : Mem} {H : Hp} {σ : L2.St} {r : R D} {Q : VK} (o : Out ca W M σ H r Q) : OutF ca M H r Q (fun cls d H' => W cls d σ H') := by
  cases r with
  | bad => exact o
  | ok d S => exact fun v M' H' e rs rv => o v M' H' e rs rv.t
  | er c d S => exact o
theorem runsP_fn {k : Nat} {f : Addr} {fd : FuncData} {ps : List Str} {g : List D → Sto → R D} (F : FnG X.prog X.w X.K X.mg X.base k f fd ps (spF ca g)) (hg : X.A.guards = some []) (hr : Room k X.A) (tk : Takes X W) (hb : Binds X.K fd ps []) : RunsP ca W X (.ref f) g := by
  intro pins σ H s us vs ds M S Q I r rs rx o
  have sp : spF ca g vs H Q (fun cls d H' => W cls d σ H') := ⟨M, S, ds, rs, rx, out_F o⟩
  have hl : us.length = ps.length := by rw [← r.length]; exact F.len _ _ _ _ sp
  have bt := hb s us I.kIn (by rw [List.append_nil]; exact hl)
  rw [List.append_nil] at bt
  refine wpAny_call (codeAny_mono (runG F hg hr tk (fun _ _ _ z => z) I bt r sp) fun r s' hq => ?_)
  match r, hq with
  | .error e, hq => exact hq
  | .ok (.ret u), hq => exact hq
theorem runsK_fn {k n : Nat} {f : Addr} {fd : FuncData} {ps ks : List Str} {perm : List Nat} {g : List D → Sto → R D} (F : FnG X.prog X.w X.K X.mg X.base k f fd ps (spF ca g)) (hg : X.A.guards = some []) (hr : Room k X.A) (tk : Takes X W)
    (hb : ∀ (s : Shared) (us ws : List Value), us.length = n → ws.length = ks.length → ∃ zs, perm.mapM (fun i => (us ++ ws)[i]?) = some zs ∧ BindsTo s fd ⟨us, ks.zip ws⟩ (ps.zip zs)) : RunsK ca W X (.ref f) n ks perm g := by
  intro pins σ H s us ws vs zs ds es fs M S Q I r r2 l1 l2 rs rx rx2 hp o
  obtain ⟨ys, hy, bt⟩ := hb s us ws (by rw [← r.length, l1]) (by rw [← r2.length, l2])
  have pick : ∀ (perm : List Nat) (fs : List D) (ys : List Value), permute (ds ++ es) perm = some fs → perm.mapM (fun i => (us ++ ws)[i]?) = some ys → ∃ xs : List V, RepL ca M xs fs ∧ Vals xs ys := by
    intro perm
    induction perm with
    | nil =>
      intro fs ys h1 h2
      cases h1
      cases h2
      exact ⟨[], .nil, .nil⟩
    | cons i perm ih =>
      intro fs ys h1 h2
      unfold permute at h1
      rw [List.mapM_cons] at h1 h2
      cases e1 : (ds ++ es)[i]? with
      | none => rw [e1] at h1; cases h1
      | some d =>
        cases e2 : (us ++ ws)[i]? with
        | none => rw [e2] at h2; cases h2
        | some u =>
          rw [e1] at h1
          rw [e2] at h2
          cases h3 : perm.mapM (fun i => (ds ++ es)[i]?) with
          | none => rw [h3] at h1; cases h1
          | some fs' =>
            cases h4 : perm.mapM (fun i => (us ++ ws)[i]?) with
            | none => rw [h4] at h2; cases h2
            | some ys' =>
              rw [h3] at h1
              rw [h4] at h2
              cases h1
              cases h2
              obtain ⟨xs, a, b⟩ := ih fs' ys' h3 h4
              obtain ⟨x, hx, rd⟩ := (rx.append rx2).get e1
              obtain ⟨u', hu, rv⟩ := (r.append r2).get hx
              rw [e2] at hu
              cases hu
              exact ⟨x :: xs, .cons rd a, .cons rv b⟩
  obtain ⟨xs, rf, rv⟩ := pick perm fs ys hp hy
  have sp : spF ca g xs H Q (fun cls d H' => W cls d σ H') := ⟨M, S, fs, rs, rf, out_F o⟩
  refine wpAny_call (codeAny_mono (runG F hg hr tk (fun _ _ _ z => z) I bt rv sp) fun r s' hq => ?_)
  match r, hq with
  | .error e, hq => exact hq
  | .ok (.ret u), hq => exact hq
end K9
end
section
set_option Elab.async false
set_option linter.all false
set_option maxRecDepth 100000
set_option maxHeartbeats 0
/-! K9ExK: an error made by name, C(value = u). -/
namespace K9
open PySem PySem.Spec Builtin Builtin.ObjectAttr PySem.HandSPX
section
variable {M : Model} {A : Around} {E : Value → Shared → Prop} {h : Heap} {g : Array GenState} {d : Drawn} {t : Nat} {os : OsState} {prog : Program} {w : World} {R : Result → Shared → Prop}
variable {nm q : Str} {C N : Addr} {bs bm bmB : List Value} {hdct : Bool} {sn : List Str} {sub : List Value} {ab : Bool} {col : Option Bool} {dd : Option Addr} {k0 k1 k2 k3 k5 : Option Value} {B newId initId : String} {u : Value}
theorem check_new_kw (F : ExcBaseFacts B newId initId bmB) (hT : ∀ X : String, bm.contains (.type X) = bmB.contains (.type X)) {Q : Unit → Shared → Prop}
    (hC : h.get? C = some (excClassObj nm q C N bs bm hdct sn sub ab col dd k0 k1 k2 k3 k5 newId)) (hq : Q () ⟨h, g, d, t, os⟩) : wpAny M A (checkBuiltinCall newId ⟨[.ref C], [("value", u)]⟩) Q E ⟨h, g, d, t, os⟩ := by
  have ct : (Value.ref C :: bm).contains (.type B) = true := by
    rw [List.contains_cons, hT, F.hasB, Bool.or_true]
  have st := F.noStar
  simp only [checkBuiltinCall, F.newKind, F.newSplit, F.newRow]
  repeat (first
    | refine wpAny_loadPart_at hC ?_
    | (refine wpAny_isSubtype_exc hC ?_; rw [ct])
    | refine wpAny_staticBase_exc hC ?_
    | refine wpAny_madeBy_exc hC ?_
    | simp only [bne_self_eq_false, Bool.false_eq_true, if_false]
    | wp_step)
  exact hq
theorem new_kw (F : ExcBaseFacts B newId initId bmB) (hT : ∀ X : String, bm.contains (.type X) = bmB.contains (.type X))
    (hC : h.get? C = some (excClassObj nm q C N bs bm hdct sn sub ab col dd k0 k1 k2 k3 k5 newId))
    (hq : R (.ok (.ret (.ref (h.objs.size + 1)))) ⟨(h.push (W.kdv_tup [])).push (excO C h.objs.size), g, d, t, os⟩) :
    codeAny (model prog w) A (.builtin newId ⟨[.ref C], [("value", u)]⟩) R ⟨h, g, d, t, os⟩ := by
  have e1 := F.ends
  have c1 : (Value.ref C :: bm).contains (.type B) = true := by
    rw [List.contains_cons, hT, F.hasB, Bool.or_true]
  have c2 : (Value.ref C :: bm).contains (.type "AttributeError") = false := by
    rw [List.contains_cons, hT, F.noAttr]; rfl
  have c3 : (Value.ref C :: bm).contains (.type "NameError") = false := by
    rw [List.contains_cons, hT, F.noName]; rfl
  refine codeAny_builtinAt F.entry ?_
  unfold Builtin.«BaseException.__new__»
  refine wpAt_bind ?_
  show wpAt _ _ _ (stack >>= _) _ _ _
  refine wpAt_bind (wpAt_stack fun p below => wpAt_of_wpAny ?_)
  wp_walk
  refine wpAt_of_wpAny ?_
  rw [F.owner]
  repeat (first
    | with_reducible refine wpAny_madeHere_exc F.canon hC ?_
    | with_reducible refine wpAny_loadPart_at hC ?_
    | (with_reducible refine wpAny_isSubtype_exc hC ?_; first | rw [c1] | rw [c2] | rw [c3])
    | wp_step)
  show R _ _
  rw [Heap.size_push]
  exact hq
theorem type_call_kw (F : ExcBaseFacts B newId initId bmB) (hT : ∀ X : String, bm.contains (.type X) = bmB.contains (.type X)) {fI : Addr} {Q : Fin → Shared → Prop}
    (hC : h.get? C = some (excClassObj nm q C N bs bm hdct sn sub ab col dd k0 k1 k2 k3 k5 newId))
    (hi : W.Looks (model prog w) h (typeLookup (.ref C) "__init__") (some (.ref fI))) (hb : ∀ self, W.Looks (model prog w) h (bindSpecial (.ref fI) self) (.ref fI, [self]))
    (hq : codeAny (model prog w) A (.call (.ref fI) ⟨[.ref (h.objs.size + 1)], [("value", u)]⟩)
      (fun r s' => match r with | .ok (.ret v) => v = .none ∧ Q (.done (.ret (.ref (h.objs.size + 1)))) s' | .ok _ => False | .error e => E e s')
      ⟨(h.push (W.kdv_tup [])).push (excO C h.objs.size), g, d, t, os⟩) :
    wpAny (model prog w) A (Builtin.«type.__call__» ⟨[.ref C], [("value", u)]⟩) Q E ⟨h, g, d, t, os⟩ := by
  repeat (first
    | with_reducible refine wpAny_loadPart_at hC ?_
    | with_reducible refine wpAny_madeBy_exc hC ?_
    | wp_step)
  refine codeAny_call_builtin_code (Code.quiet_builtin _ F.quiet) (check_new_kw F hT hC ?_)
  refine new_kw F hT hC ?_
  show wpAny _ _ _ _ _ _
  have k : ∀ b o, h.get? b = some o → ((h.push (W.kdv_tup [])).push (excO C h.objs.size)).get? b = some o := fun b o e => Heap.get?_push_of_some _ (Heap.get?_push_of_some _ e)
  have hC2 := k _ _ hC
  have hg : ((h.push (W.kdv_tup [])).push (excO C h.objs.size)).get? (h.objs.size + 1) = some (excO C h.objs.size) := by heap_get
  have cc : (Value.ref C :: bm).contains (.ref C) = true := by simp
  have i1 := hi.keeps k
  have b1 := (hb (.ref (h.objs.size + 1))).keeps k
  unfold isInstance
  repeat (first
    | with_reducible refine wpAny_loadPart_at hg ?_
    | (with_reducible refine wpAny_isSubtype_exc hC2 ?_; rw [cc])
    | wp_step)
  show wpAny _ _ (typeLookup (.ref C) _) _ _ _
  refine i1.at ?_
  refine wpAny_holding (wpAny_bind (b1.at ?_))
  refine wpAny_bind (wpAny_call (codeAny_mono hq fun r s' z => ?_))
  rcases r with e | (v | _ | _ | _) <;> first | exact z | exact z.elim | skip
  obtain ⟨rfl, z⟩ := z
  first
    | exact wpAny_pure (wpAny_pure z)
    | (wp_walk; exact z)
theorem check_tc_kw {Q : Unit → Shared → Prop} (hC : h.get? C = some (excClassObj nm q C N bs bm hdct sn sub ab col dd k0 k1 k2 k3 k5 newId))
    (hq : Q () ⟨h, g, d, t, os⟩) : wpAny M A (checkBuiltinCall "type.__call__" ⟨[.ref C], [("value", u)]⟩) Q E ⟨h, g, d, t, os⟩ := by
  have f3 := tc_sub
  have hT : (⟨h, g, d, t, os⟩ : Shared).TypeIs (.ref C) "type" := ⟨_, hC, rfl⟩
  simp only [checkBuiltinCall, tc_kind, tc_split]
  repeat (any_goals (first
    | assumption
    | with_reducible refine wpAny_loadPart_at hC ?_
    | with_reducible refine wpAny_onRaise ?_
    | with_reducible refine wpAny_map ?_
    | wp_step))
theorem call_kw (F : ExcBaseFacts B newId initId bmB) (hT : ∀ X : String, bm.contains (.type X) = bmB.contains (.type X)) {fI : Addr}
    (hC : h.get? C = some (excClassObj nm q C N bs bm hdct sn sub ab col dd k0 k1 k2 k3 k5 newId))
    (hi : W.Looks (model prog w) h (typeLookup (.ref C) "__init__") (some (.ref fI))) (hb : ∀ self, W.Looks (model prog w) h (bindSpecial (.ref fI) self) (.ref fI, [self]))
    (hq : codeAny (model prog w) (A.under (.builtin "type.__call__" ⟨[.ref C], [("value", u)]⟩)) (.call (.ref fI) ⟨[.ref (h.objs.size + 1)], [("value", u)]⟩) (W.InitBack (h.objs.size + 1) R)
      ⟨(h.push (W.kdv_tup [])).push (excO C h.objs.size), g, d, t, os⟩) :
    codeAny (model prog w) A (.call (.ref C) ⟨[], [("value", u)]⟩) R ⟨h, g, d, t, os⟩ := by
  have f1 := tc_lookup
  have f2 := tc_bind (.ref C)
  have hTy : (⟨h, g, d, t, os⟩ : Shared).TypeIs (.ref C) "type" := ⟨_, hC, rfl⟩
  refine codeAny_of_tree ?_
  show wpAny _ _ (callAny (.ref C) _) _ _ _
  repeat (any_goals (first
    | assumption
    | with_reducible refine wpAny_loadPart_at hC ?_
    | wp_step))
  refine ⟨rfl, ?_⟩
  refine codeAny_call_builtin_at (Code.quiet_builtin _ (by decide +kernel)) entry_typeCall (check_tc_kw hC (type_call_kw F hT hC hi hb ?_))
  refine codeAny_mono hq fun r s' z => ?_
  rcases r with e | (v | _ | _ | _) <;> exact z
end
end K9
end
section
set_option Elab.async false
set_option linter.all false
set_option maxRecDepth 100000
set_option maxHeartbeats 0
/-! K9Exc: errors of the program: made as values, read. -/
namespace K9
open PySem PySem.Spec PyProof.Rows L2

variable {ca : Nat → Addr} {W : WX} {C : Ctx} {X : Cx} {pos : Pos}
/-- what is asked of an error class (its maker stores its one argument as value) -/
structure ExcT (K : PySem.W.Frag) (Cc fI : Addr) : Prop where
  oex : OexC K Cc
  no : PySem.W.findIn K (.ref Cc) "value" = some none
  ini : PySem.W.findIn K (.ref Cc) "__init__" = some (some (.ref fI))
  fn : PySem.W.typeIn K (.ref fI) = some (.type "function")
  ga : PySem.W.findIn K (.ref Cc) "__getattribute__" = some (some (.builtin "BaseException.__getattribute__"))
  gg : PySem.W.findIn K (.ref Cc) "__getattr__" = some none
  hd : PySem.W.hasDictIn K Cc = true
/-- the maker's promise -/
def spEI (K : PySem.W.Frag) : Sp := fun vs H Q _ => ∃ (a Cc : Addr) (v : V), vs = [.ref a, v] ∧ H a = some (exo a Cc none) ∧ OexC K Cc ∧ PySem.W.findIn K (.ref Cc) "value" = some none ∧
  ∀ dx, H dx = none → dx ≠ a → Q .non (upd (upd H dx (exd dx [(("value" : Str), v)])) a (exo a Cc (some dx)))
theorem ok_excInit {P : Program} {w : World} {K : PySem.W.Frag} {mg : Str → Option Value} {base : Heap} {st : Stmt} {qual : Str} {f : Addr} {fd : FuncData} (F : Fun K "__init__" qual st f fd) (S : FnScope (["self", "value"] : List Str) (["self", "value"] : List Str) (defScope st))
    (hl : (defScope st).names.lookup ("self" : Str) = some .local) (hl2 : (defScope st).names.lookup ("value" : Str) = some .local)
    (hb : ∃ q1 q2 q3 q4, defBody st = [.Assign [.Attribute (.Name "self" q1) "value" q2] (.Name "value" q3) q4]) : FnOk P w K mg base CX0 1 f fd ["self", "value"] (spEI K) := by
  obtain ⟨q1, q2, q3, q4, hb⟩ := hb
  refine F.ok S (fun vs H Q E h => ?_) (fun cdv A outer s H vs Q E hr h => ?_)
  · obtain ⟨a, Cc, v, rfl, _⟩ := h
    rfl
  · obtain ⟨a, Cc, v, rfl, ha, T, hn, k⟩ := h
    rw [hb]
    refine ⟨_, pss_one (ps_ost (pe_var (i := 0) rfl (.inl hl) (by decide) (by decide)) (pe_var (i := 1) rfl (.inl hl2) (by decide) (by decide)) (by rfl)), ?_⟩
    exact ⟨v, rfl, .ref a, rfl, a, Cc, rfl, T, hn, .inl ⟨ha, k⟩⟩

theorem ext_ne {φ : Heap → Prop} {a : Addr} {o : HO} (h : ∀ ψ, o ≠ .ext ψ) : (HO.ext φ) ≠ o := fun z => h φ z.symm
/-- two open objects told otherwise -/
theorem Inv.recast {pins : List (Addr × Obj)} {σ : L2.St} {H : Hp} {s : Shared} {a d : Addr} {φ ψ : Heap → Prop} {o u : HO} (I : Inv X pins σ H s) (ha : H a = some (.ext φ)) (hd : H d = some (.ext ψ)) (hne : d ≠ a)
    (oa : ObjOk X.prog X.w (upd (upd H d u) a o) s.heap a o) (od : ObjOk X.prog X.w (upd (upd H d u) a o) s.heap d u) : Inv X pins σ (upd (upd H d u) a o) s := by
  have off : ∀ {b : Addr} {x : HO}, H b = some x → (∀ χ, x ≠ .ext χ) → upd (upd H d u) a o b = some x := by
    intro b x hb hx
    have n1 : b ≠ a := fun z => by rw [z, ha] at hb; exact hx φ (Option.some.inj hb).symm
    have n2 : b ≠ d := fun z => by rw [z, hd] at hb; exact hx ψ (Option.some.inj hb).symm
    rw [upd_ne n1, upd_ne n2]; exact hb
  have U : Un X.fs [] H (upd (upd H d u) a o) s.heap s.heap := {
    keep := fun b x q _ _ _ => q
    slot := fun b x q _ _ _ => ⟨x.slots, q⟩
    free := fun b x q n _ => by
      have n1 : b ≠ a := fun z => by rw [z, ha] at n; cases n
      have n2 : b ≠ d := fun z => by rw [z, hd] at n; cases n
      rw [upd_ne n1, upd_ne n2]; exact n
    there := fun b x q _ => ⟨x, q⟩
    tups := fun b xs q => off q (fun χ z => by cases z)
    frzs := fun b x y q => off q (fun χ z => by cases z)
    tbls := fun b ps q => ⟨#[], by rw [off q (fun χ z => by cases z)]; simp⟩ }
  refine I.un (t' := s.toks) U (fun b x q => ?_)
  by_cases n1 : b = a
  · subst n1; rw [upd_same] at q; cases q; exact oa
  · rw [upd_ne n1] at q
    by_cases n2 : b = d
    · subst n2; rw [upd_same] at q; cases q; exact od
    · rw [upd_ne n2] at q
      exact (I.hok b x q).stay (fun c v _ z => z) (fun c z => off z (fun χ y => by cases y)) (fun c xs z => off z (fun χ y => by cases y))

/-- C(v) or C(value = v), C an error class: its object and its dict -/
theorem run_exc {Cc fI : Addr} {fdI : FuncData} {pins : List (Addr × Obj)} {σ : L2.St} {H : Hp} {s : Shared} {Q : VK} {v : V} {us : List Value} {kw : List (Str × Value)} {u : Value} (T : ExcT X.K Cc fI) (F1 : FnOk X.prog X.w X.K X.mg X.base CX0 1 fI fdI (["self", "value"] : List Str) (spEI X.K)) (hr : Room 2 X.A)
    (hb : ∀ (s : Shared) (self : Value), X.K.In s.heap → BindsTo s fdI ⟨self :: us, kw⟩ ((["self", "value"] : List Str).zip [self, u])) (hz : (us = [u] ∧ kw = []) ∨ (us = [] ∧ kw = [(("value" : Str), u)])) (I : Inv X pins σ H s) (rv : RelV v u)
    (h : ∀ a d, H a = none → H d = none → d ≠ a → Q (.ref a) (upd (upd H d (.xd [(("value" : Str), v)])) a (ExV Cc d a))) : wpAny (model X.prog X.w) X.A (call (.ref Cc) us kw) (EP X pins σ Q) X.xe s := by
  obtain ⟨nm, q, N, bs, bm, sn, sub, ab, col, dd, k0, k1, k2, k3, k5, hC, hbm⟩ := T.oex.cls
  obtain ⟨hp, g, dr, tk, os⟩ := s
  have hsz : hp.objs.size ≤ hp.objs.size + 1 := Nat.le_succ _
  have hn : H (hp.objs.size + 1) = none := I.hok.fresh hsz
  have kk : ∀ b o, hp.get? b = some o → ((hp.push (PySem.W.kdv_tup us)).push (PySem.HandSPX.excO Cc hp.objs.size)).get? b = some o := fun b o e => Heap.get?_push_of_some _ (Heap.get?_push_of_some _ e)
  have hget : ((hp.push (PySem.W.kdv_tup us)).push (PySem.HandSPX.excO Cc hp.objs.size)).get? (hp.objs.size + 1) = some (PySem.HandSPX.excO Cc hp.objs.size) := by heap_get
  have I2 : Inv X pins σ (upd H (hp.objs.size + 1) (exo (hp.objs.size + 1) Cc none)) ⟨(hp.push (PySem.W.kdv_tup us)).push (PySem.HandSPX.excO Cc hp.objs.size), g, dr, tk, os⟩ :=
    I.laid (t' := tk) (a := hp.objs.size + 1) (o := exo (hp.objs.size + 1) Cc none) (h' := (hp.push (PySem.W.kdv_tup us)).push (PySem.HandSPX.excO Cc hp.objs.size)) kk hsz (exo_ok hget)
  have sp : spEI X.K [.ref (hp.objs.size + 1), v] (upd H (hp.objs.size + 1) (exo (hp.objs.size + 1) Cc none))
      (fun r H2 => r = .non ∧ ∃ d, upd H (hp.objs.size + 1) (exo (hp.objs.size + 1) Cc none) d = none ∧ d ≠ hp.objs.size + 1 ∧ H2 = upd (upd (upd H (hp.objs.size + 1) (exo (hp.objs.size + 1) Cc none)) d (exd d [(("value" : Str), v)])) (hp.objs.size + 1) (exo (hp.objs.size + 1) Cc (some d))) (fun _ _ _ => False) :=
    ⟨_, Cc, v, rfl, upd_same, T.oex, T.no, fun dx h1 h2 => ⟨rfl, dx, h1, h2, rfl⟩⟩
  have way : ∀ R : Result → Shared → Prop, codeAny (model X.prog X.w) (X.A.under (.builtin "type.__call__" ⟨.ref Cc :: us, kw⟩)) (.call (.ref fI) ⟨.ref (hp.objs.size + 1) :: us, kw⟩) (PySem.W.InitBack (hp.objs.size + 1) R)
      ⟨(hp.push (PySem.W.kdv_tup us)).push (PySem.HandSPX.excO Cc hp.objs.size), g, dr, tk, os⟩ → codeAny (model X.prog X.w) X.A (.call (.ref Cc) ⟨us, kw⟩) R ⟨hp, g, dr, tk, os⟩ := by
    intro R hq
    rcases hz with ⟨rfl, rfl⟩ | ⟨rfl, rfl⟩
    · exact PySem.HandSPX.call_own F.excBase_ValueError (fun Y => PySem.HandSPX.refsVE_contains Y bm hbm) (I.kIn _ _ hC) (PySem.W.looks_findIn I.kIn T.ini) (fun self => PySem.W.bind_fn I.kIn self T.fn) (by rw [sizeLine_eq]; exact Nat.le_of_ble_eq_true rfl) hq
    · exact call_kw F.excBase_ValueError (fun Y => PySem.HandSPX.refsVE_contains Y bm hbm) (I.kIn _ _ hC) (PySem.W.looks_findIn I.kIn T.ini) (fun self => PySem.W.bind_fn I.kIn self T.fn) hq
  refine wpAny_call (way _
    (codeAny_mono (F1.run _ X.stack _ _ ⟨Value.ref (hp.objs.size + 1) :: us, kw⟩ [Value.ref (hp.objs.size + 1), u] [.ref (hp.objs.size + 1), v] _ (fun _ _ _ => False) (hr.make Cc us kw) (I2.env0.make Cc us kw) (hb _ (Value.ref (hp.objs.size + 1)) I2.kIn) (.cons rfl (.cons rv .nil)) sp) fun r s' hq => ?_))
  match r, hq with
  | .error er, hq => exact hq.elim
  | .ok (.ret w), hq =>
    obtain ⟨v', H2, os2, bare2, un2, hok2, rw', ev, d, hd1, hd2, eH⟩ := hq
    subst ev
    subst eH
    refine ⟨rw', ?_⟩
    have hdn : H d = none := by rw [upd_ne hd2] at hd1; exact hd1
    have I3 := I2.call' (ch := []) os2 un2 hok2 bare2 (fun b z => absurd z (by simp))
    have eD : (upd (upd (upd H (hp.objs.size + 1) (exo (hp.objs.size + 1) Cc none)) d (exd d [(("value" : Str), v)])) (hp.objs.size + 1) (exo (hp.objs.size + 1) Cc (some d))) d = some (exd d [(("value" : Str), v)]) := by rw [upd_ne hd2, upd_same]
    have eA : (upd (upd (upd H (hp.objs.size + 1) (exo (hp.objs.size + 1) Cc none)) d (exd d [(("value" : Str), v)])) (hp.objs.size + 1) (exo (hp.objs.size + 1) Cc (some d))) (hp.objs.size + 1) = some (exo (hp.objs.size + 1) Cc (some d)) := upd_same
    obtain ⟨t0, hoe⟩ := exo_at I3.hok eA
    obtain ⟨mA, hns, rel⟩ := exd_at I3.hok eD
    have I4 := Inv.recast (o := ExV Cc d (hp.objs.size + 1)) (u := .xd [(("value" : Str), v)]) I3 eA eD hd2
      ⟨⟨_, _, hoe, ⟨rfl, rfl⟩, rfl⟩, ⟨_, hoe⟩, fun h1 h2 z k => by obtain ⟨oe, vs, a1, a2, a3⟩ := z; exact ⟨oe, vs, k _ a1, a2, a3⟩⟩ ⟨mA, hns, rel⟩
    refine ⟨.ref (hp.objs.size + 1), _, I4, rfl, ?_⟩
    have eq : (upd (upd (upd (upd (upd H (hp.objs.size + 1) (exo (hp.objs.size + 1) Cc none)) d (exd d [(("value" : Str), v)])) (hp.objs.size + 1) (exo (hp.objs.size + 1) Cc (some d))) d (.xd [(("value" : Str), v)])) (hp.objs.size + 1) (ExV Cc d (hp.objs.size + 1)))
        = upd (upd H d (.xd [(("value" : Str), v)])) (hp.objs.size + 1) (ExV Cc d (hp.objs.size + 1)) := by
      funext b
      by_cases n1 : b = hp.objs.size + 1
      · rw [n1, upd_same, upd_same]
      · by_cases n2 : b = d
        · rw [upd_ne n1, upd_ne n1, n2, upd_same, upd_same]
        · rw [upd_ne n1, upd_ne n1, upd_ne n2, upd_ne n1, upd_ne n2, upd_ne n1, upd_ne n2]
    rw [eq]
    exact h _ d hn hdn hd2
end K9
end
section
set_option Elab.async false
set_option linter.all false
set_option maxRecDepth 100000
set_option maxHeartbeats 0
/-! K9Snd9: isinstance, by values. -/
namespace K9
open PySem PySem.Spec PyProof.Rows L2

variable {ca : Nat → Addr} {W : WX} {C : Ctx} {X : Cx} {pos : Pos}
/-- a class of isinstance as a value of the library -/
def tyV (ca : Nat → Addr) : Ty → Value
  | .list => .type "list" | .tuple => .type "tuple" | .int => .type "int" | .str => .type "str" | .bool => .type "bool" | .dict => .type "dict" | .valueError => .type "ValueError"
  | .cls c => .ref (ca c)
def tydV (ca : Nat → Addr) : TyD → Value
  | .b t => .type t
  | .own c => .ref (ca c)
def bNames : List String := ["NoneType", "bool", "int", "str", "tuple", "list", "dict"]
/-- what is asked of an error class, to read its objects -/
structure ExcK (K : PySem.W.Frag) (Cc : Addr) : Prop where
  cl : (PySem.W.clsIn K Cc).isSome = true
  ga : PySem.W.findIn K (.ref Cc) "__getattribute__" = some (some (.builtin "BaseException.__getattribute__"))
  gg : PySem.W.findIn K (.ref Cc) "__getattr__" = some none
  ex : PySem.W.subIn K (.ref Cc) (.type "BaseException") = some true
  hd : PySem.W.hasDictIn K Cc = true
  nv : PySem.W.findIn K (.ref Cc) "value" = some none
  ac : PySem.W.findIn K (.ref Cc) "__class__" = some (some (.builtin "object.__class__"))
  mo : PySem.W.mroIn K Cc (.type "object") = some true
/-- what is asked of the module's classes -/
structure KF (K : PySem.W.Frag) (ca : Nat → Addr) (sub : Nat → Ty → Option Bool) : Prop where
  gs : PySem.W.specialIn K (.builtin "object.__class__") "__get__" = some (some (.builtin "getset_descriptor.__get__"))
  tk : PySem.W.takesIn K (.builtin "object.__class__") = some true
  pl : ∀ c, sub c .valueError = some false → Cls K (ca c) ∧ PySem.W.findIn K (.ref (ca c)) "__class__" = some (some (.builtin "object.__class__")) ∧ PySem.W.mroIn K (ca c) (.type "object") = some true
  ex : ∀ c, sub c .valueError = some true → ExcK K (ca c)
  own : ∀ c t b, sub c t = some b → PySem.W.kitOne K (.ref (ca c)) (tyV ca t) = some b
  em : ∀ c d b, sub c .valueError = some true → sub d .valueError = some true → sub c (.cls d) = some b → PySem.W.exmOne K (.ref (ca c)) (.ref (ca d)) = some b
  bt : ∀ T, T ∈ bNames → ∀ t b, btSub sub T t = some b → PySem.W.kitOne K (.type T) (tyV ca t) = some b
variable {sub : Nat → Ty → Option Bool}
theorem kitAny_of {t : TyD} (h : ∀ x b, tyIs sub t x = some b → PySem.W.kitOne X.K (tydV ca t) (tyV ca x) = some b) : ∀ {ts : List Ty} {b : Bool}, tyAny sub t ts = some b → PySem.W.kitAny X.K (tydV ca t) (ts.map (tyV ca)) = some b
  | [], b, e => by cases e; rfl
  | x :: xs, b, e => by
    unfold tyAny at e
    cases z : tyIs sub t x with
    | none => rw [z] at e; cases e
    | some y =>
      rw [z] at e
      cases y with
      | true => cases e; exact kitAny_cons (h x true z) (fun q => nomatch q) fun _ => rfl
      | false => exact kitAny_cons (h x false z) (fun _ => kitAny_of h e) fun q => nomatch q
theorem kitOne_of (F : KF X.K ca sub) {t : TyD} (ht : ∀ T, t = .b T → T ∈ bNames) {x : Ty} {b : Bool} (h : tyIs sub t x = some b) : PySem.W.kitOne X.K (tydV ca t) (tyV ca x) = some b := by
  cases t with
  | b T => exact F.bt T (ht T rfl) x b h
  | own c => exact F.own c x b h
/-- what the library asks of such a value -/
theorem kit_d (F : KF X.K ca sub) {pins : List (Addr × Obj)} {σ : L2.St} {H : Hp} {s : Shared} {M : Mem} {S : Sto} {env : Env} {σ0 : L2.St} {v : V} {d : D} {u : Value} {t : TyD} (I : Inv X pins σ H s) (rs : RelS ca M S H) (re : RelE ca M env σ0 H) (rx : RepX ca M σ0 v d) (rv : RelV v u)
    (h : tyD sub env S d = some t) : (∀ T, t = .b T → T ∈ bNames) ∧ ∃ P : Heap → Prop, PySem.W.KitX X.K u (tydV ca t) P ∧ P s.heap ∧ u ≠ .builtin "__main__.__loader__#opaque" := by
  have go : ∀ {ob : Ob}, cont env S d = some ob → ((match ob with
    | (.lst _) => some (.b "list")
    | (.dct _ _) => some (.b "dict")
    | (.ins c _ _) => if sub c .valueError = some false then some (.own c) else none : Option TyD) = some t) → (∀ T, t = .b T → T ∈ bNames) ∧ ∃ P : Heap → Prop, PySem.W.KitX X.K u (tydV ca t) P ∧ P s.heap ∧ u ≠ .builtin "__main__.__loader__#opaque" := by
    intro ob hc ht
    obtain ⟨a, ho, rfl, ha, q⟩ := cont_at rs re rx hc
    cases q with
    | lst q => cases ht; exact ⟨fun T e => by cases e; decide, kit_of I rv (.base (.lst ha))⟩
    | dct e q => cases ht; exact ⟨fun T e => by cases e; decide, kit_of I rv (.base (.dK ha))⟩
    | ins e q =>
      rename_i c fs ns ds
      simp only at ht
      split at ht
      · rename_i hs
        cases ht
        obtain ⟨k1, k2, k3⟩ := F.pl c hs
        exact ⟨(fun T e => by cases e), kit_of I rv (.base (.ins ha k1 k2 F.gs F.tk k3))⟩
      · cases ht
  cases d with
  | non => cases h; obtain rfl := non_of rx; exact ⟨fun T e => by cases e; decide, kit_of I rv (.base .non)⟩
  | bl i => cases h; obtain rfl := bl_of rx; exact ⟨fun T e => by cases e; decide, kit_of I rv (.base (.bl _))⟩
  | int i => cases h; obtain rfl := int_of rx; exact ⟨fun T e => by cases e; decide, kit_of I rv (.base (.int _))⟩
  | str i => cases h; obtain rfl := str_of rx; exact ⟨fun T e => by cases e; decide, kit_of I rv (.base (.str _))⟩
  | tup xs =>
    cases h
    obtain ⟨a, vs, rfl, ha, _, _⟩ := tup_of rs rx
    exact ⟨fun T e => by cases e; decide, kit_of I rv (.base (.tup ha))⟩
  | exc c x =>
    unfold tyD at h
    simp only at h
    split at h
    · rename_i hs
      cases h
      obtain T := F.ex c hs
      cases (show Rep ca M v _ from rx) with
      | exc f1 f2 q =>
        rename_i a dd v'
        cases (show u = Value.ref a from rv)
        obtain ⟨oe, vs, h1, hz, hd⟩ := (I.hok a _ (rs.frz _ _ f1)).1
        have hx : ObjOk X.prog X.w H s.heap dd (.xd [(("value" : Str), v')]) := I.hok dd _ (rs.frz _ _ f2)
        obtain ⟨mA, hns, _⟩ := hx
        obtain ⟨od, ho, _⟩ := lookIn_ns hns
        refine ⟨fun T e => (by cases e), _, PySem.W.kitx_exc T.cl T.ga T.gg T.ex T.ac F.gs F.tk T.mo, (show PySem.W.InstAt s.heap a oe (ca c) (some od) from ⟨h1, hz.1, by unfold PySem.W.notCls; rw [hd] <;> rfl, by rw [hz.2]; exact ho⟩), fun z => nomatch z⟩
    · cases h
  | lst xs => exact go rfl h
  | own x => cases rx
  | scr xs => cases h
  | dcf ks vs => cases h
  | dct ks vs => exact go rfl h
  | ins c fs vs => exact go rfl h
  | ref n =>
    unfold tyD at h
    simp only at h
    cases hc : cont env S (.ref n) with
    | none => rw [hc] at h; cases h
    | some ob => rw [hc] at h; exact go hc (by cases ob <;> exact h)
  | acc n =>
    unfold tyD at h
    simp only at h
    cases hc : cont env S (.acc n) with
    | none => rw [hc] at h; cases h
    | some ob => rw [hc] at h; exact go hc (by cases ob <;> exact h)
/-- a class as a V -/
def tyVV (ca : Nat → Addr) : Ty → V
  | .list => .ty "list" | .tuple => .ty "tuple" | .int => .ty "int" | .str => .ty "str" | .bool => .ty "bool" | .dict => .ty "dict" | .valueError => .ty "ValueError"
  | .cls c => .ref (ca c)
theorem tyVV_cls {t : Ty} : ClsV (tyVV ca t) (tyV ca t) := by
  cases t <;> first | exact .ty _ | exact .own _
/-- a class by its name -/
def PCls (ca : Nat → Addr) (X : Cx) (t : Ty) (e : Expr) : Prop := PE X e (tC (tyVV ca t))
inductive PClss (ca : Nat → Addr) (X : Cx) : List Ty → List Expr → Prop
  | nil : PClss ca X [] []
  | cons {t : Ty} {ts : List Ty} {e : Expr} {es : List Expr} : PCls ca X t e → isStar e = false → PClss ca X ts es → PClss ca X (t :: ts) (e :: es)
theorem pa_clss : ∀ {ts : List Ty} {es : List Expr}, PClss ca X ts es → PA X es (fun σ H Q => Q (ts.map (tyVV ca)) H)
  | _, _, .nil => PA.imp pa_nil fun σ H Q q => q
  | _, _, .cons h hs r => PA.imp (pa_cons h (pa_clss r) (star_cons hs)) fun σ H Q q => q
theorem paired_tys : ∀ (ts : List Ty), Paired ClsV (ts.map (tyVV ca)) (ts.map (tyV ca))
  | [] => .nil
  | t :: ts => .cons tyVV_cls (paired_tys ts)
theorem call_isiD (F : KF X.K ca sub) : CallR X (.builtin "isinstance") (fun xs H Q => ∃ x c M env S σ d t b ts, xs = [x, c] ∧ RelS ca M S H ∧ RelE ca M env σ H ∧ RepX ca M σ x d ∧ tyD sub env S d = some t ∧ tyAny sub t ts = some b ∧
    ((∃ T, ts = [T] ∧ c = tyVV ca T) ∨ (∃ p, c = .ref p ∧ H p = some (.tup (ts.map (tyVV ca))))) ∧ Q (.bl b) H) := by
  intro pins s τ H xs us Q I r h
  obtain ⟨x, c, M, env, S, σ, d, t, b, ts, rfl, rs, re, rx, ht, hb, hc, q⟩ := h
  obtain ⟨u1, u2, rfl, r1, r2⟩ := vals2 r
  obtain ⟨hn, P, Z, p, hx⟩ := kit_d F I rs re rx r1 ht
  rcases hc with ⟨T, rfl, rfl⟩ | ⟨tp, rfl, hT⟩
  · have e2 := (tyVV_cls (ca := ca) (t := T)).eq r2
    subst e2
    refine PySem.W.kia_one Z I.kIn p (b := b) (kitOne_of F hn ?_) hx fun tk => ⟨.bl b, H, I.tok tk, rfl, q⟩
    unfold tyAny at hb
    cases z : tyIs sub t T with
    | none => rw [z] at hb; cases hb
    | some y =>
      rw [z] at hb
      cases y with
      | true => cases hb; rfl
      | false => cases hb; rfl
  · cases (show u2 = Value.ref tp from r2)
    obtain ⟨_, its, rv, o, h1, h2, n, h3⟩ := (show ObjOk X.prog X.w H s.heap tp (.tup (ts.map (tyVV ca))) from I.hok tp _ hT)
    have e3 := ClsV.all (paired_tys (ca := ca) ts) rv
    subst e3
    obtain ⟨oc, od, dt, sl⟩ := o
    simp only at h2 h3
    subst h2 h3
    exact PySem.W.kia_tup Z I.kIn p h1 (kitAny_of (fun x b h => kitOne_of F hn h) hb) hx fun tk => ⟨.bl b, H, I.tok tk, rfl, q⟩
theorem ext_bl {M : Mem} {S : Sto} {H : Hp} {σ : L2.St} {Q : VK} {b : Bool} {p : Addr} {o : HO} (rs : RelS ca M S H) (hp : H p = none) (q : Out ca W M σ H (.ok (.bl b) S) Q) : Q (.bl b) (upd H p o) :=
  q (.bl b) (M.add p o) _ (ext_add rs hp) (rel_add rs hp) (.bl b)
/-- isinstance(e, T) -/
theorem snd_isi1 {e c : Expr} {x : Ex} {T : Ty} {p : Pos} (F : KF X.K ca C.sub) (hg : Gl X "isinstance") (hm : X.mg "isinstance" = none) (hs : isStar e = false) (hs2 : isStar c = false)
    (he : PE X e (tM ca W (ev C x))) (hc : PCls ca X T c) : PE X (.Call (.Name "isinstance" p) [e, c] [] pos) (tM ca W (ev C (.isi x [T]))) := by
  refine PE.imp (pe_callB (call_isiD (ca := ca) F) hg hm rfl (pa_cons he (pa_cons hc pa_nil (star_cons hs2)) (star_cons hs)) (by decide) (by decide) (star_cons hs) (no_star (by rw [List.any_cons, hs2]; rfl))) fun σ H Q ⟨M, env, S, rs, re, o⟩ => ?_
  simp only [ev] at o
  refine ⟨M, env, S, rs, re, o.bind re fun d S1 v M1 H1 _ e1 rs1 re1 rx1 o1 => ?_⟩
  obtain ⟨t, h1, o2⟩ := out_oget o1
  obtain ⟨b, h2, o3⟩ := out_oget o2
  exact ⟨v, _, M1, env, S1, σ, d, t, b, [T], rfl, rs1, re1, rx1, h1, h2, .inl ⟨T, rfl, rfl⟩, out_v rs1 (.bl b) o3⟩
/-- isinstance(e, (T1, ..)) -/
theorem snd_isiT {e : Expr} {es : List Expr} {k : Nat} {q : Pos} {x : Ex} {ts : List Ty} {p : Pos} (F : KF X.K ca C.sub) (hg : Gl X "isinstance") (hm : X.mg "isinstance" = none) (hs : isStar e = false) (hl : ts.length ≤ sizeLine)
    (he : PE X e (tM ca W (ev C x))) (hc : PClss ca X ts es) : PE X (.Call (.Name "isinstance" p) [e, .Tuple es k q] [] pos) (tM ca W (ev C (.isi x ts))) := by
  refine PE.imp (pe_callB (call_isiD (ca := ca) F) hg hm rfl (pa_cons he (pa_cons (pe_tup (pa_clss hc)) pa_nil (star_cons rfl)) (star_cons hs)) (by decide) (by decide) (star_cons hs) (no_star (by rfl))) fun σ H Q ⟨M, env, S, rs, re, o⟩ => ?_
  simp only [ev] at o
  refine ⟨M, env, S, rs, re, o.bind re fun d S1 v M1 H1 _ e1 rs1 re1 rx1 o1 => ?_⟩
  obtain ⟨t, h1, o2⟩ := out_oget o1
  obtain ⟨b, h2, o3⟩ := out_oget o2
  refine ⟨by rw [List.length_map]; exact hl, fun tp hp => ?_⟩
  have e2 : Ext M1 H1 (M1.add tp (.tup (ts.map (tyVV ca)))) (upd H1 tp (.tup (ts.map (tyVV ca)))) := ext_add rs1 hp
  exact ⟨v, _, M1.add tp (.tup (ts.map (tyVV ca))), env, S1, σ, d, t, b, ts, rfl, rel_add rs1 hp, re1.ext e2, rx1.ext e2, h1, h2, .inr ⟨tp, rfl, upd_same⟩, ext_bl rs1 hp o3⟩
end K9
end
section
set_option Elab.async false
set_option linter.all false
set_option maxRecDepth 100000
set_option maxHeartbeats 0
/-! K9Snd10: fields, properties, methods, makers. -/
namespace K9
open PySem PySem.Spec PyProof.Rows L2

variable {ca fa : Nat → Addr} {W : WX} {C : Ctx} {X : Cx} {pos : Pos}
theorem lookF_of {M : Mem} : ∀ {fs : List (Str × V)} {ns : List Str} {ds : List D} {f : Str} {d : D}, fs.map (·.1) = ns → RepL ca M (fs.map (·.2)) ds → lookF ns ds f = some d → ∃ v, fs.lookup f = some v ∧ Rep ca M v d
  | [], ns, ds, f, d, e, r, h => by
    cases e
    cases ds <;> cases h
  | (g, v) :: fs, ns, ds, f, d, e, r, h => by
    subst e
    cases r with
    | cons r1 r2 =>
      unfold lookF at h
      by_cases z : f = g
      · simp only [z, if_true, List.map_cons] at h
        cases h
        exact ⟨v, by rw [lookup_put, if_pos z], r1⟩
      · simp only [z, if_false, List.map_cons] at h
        obtain ⟨u, h1, h2⟩ := lookF_of rfl r2 h
        exact ⟨u, by rw [lookup_put, if_neg z]; exact h1, h2⟩
theorem lookF_no {M : Mem} : ∀ {fs : List (Str × V)} {ns : List Str} {ds : List D} {f : Str}, fs.map (·.1) = ns → RepL ca M (fs.map (·.2)) ds → (lookF ns ds f).isNone = true → fs.lookup f = none
  | [], _, _, _, _, _, _ => rfl
  | (g, v) :: fs, ns, ds, f, e, r, h => by
    subst e
    cases r with
    | cons r1 r2 =>
      unfold lookF at h
      by_cases z : f = g
      · simp [z] at h
      · simp only [z, if_false, List.map_cons] at h
        rw [lookup_put, if_neg z]
        exact lookF_no rfl r2 h
/-- what is asked of the module's classes and defs, besides -/
structure KA (K : PySem.W.Frag) (ca fa : Nat → Addr) (attr : Nat → Str → Option (Option Nat)) (meth : Nat → Str → Option Nat) : Prop where
  fl : ∀ c f, attr c f = some none → Cls K (ca c) ∧ NoAttr K (ca c) f
  pr : ∀ c f g, attr c f = some (some g) → Cls K (ca c) ∧ ∃ p, PropOf K (ca c) f p (fa g)
  ms : ∀ c x g, meth c x = some g → Cls K (ca c) ∧ Meth K (ca c) x (fa g)
/-- what is known of a def at a depth -/
def FnT (ca fa : Nat → Addr) (P : Program) (w : World) (K : PySem.W.Frag) (mg : Str → Option Value) (base : Heap) (k : Nat) (call : Nat → List D → Sto → R D) (g : Nat) : Prop :=
  ∃ (fd : FuncData) (ps : List Str), FnG P w K mg base k (fa g) fd ps (spF ca (call g)) ∧ Binds K fd ps []
theorem getprop_d {pins : List (Addr × Obj)} {σ : L2.St} {H : Hp} {s : Shared} {Q : VK} {b : Bool} {E' : Value → Shared → Prop} {k g : Nat} {a dx : Addr} {c : Nat} {p : Addr} {fs : List (Str × V)} {f : Str} {d : D} {M : Mem} {S : Sto} (I : Inv X pins σ H s) (ea : H a = some (.ins (ca c) dx fs)) (cl : Cls X.K (ca c)) (hp : PropOf X.K (ca c) f p (fa g))
    (F : FnT ca fa X.prog X.w X.K X.mg X.base k C.call g) (hg : X.A.guards = some []) (hr : Room (k + 1) X.A) (rs : RelS ca M S H) (rx : Rep ca M (.ref a) d) (o : Out ca W M σ H (noEr (C.call g [d] S)) Q) :
    wpAny (model X.prog X.w) X.A (getAttr (.ref a) f b) (EP X pins σ Q) E' s := by
  obtain ⟨fd, ps, F, hb⟩ := F
  obtain ⟨mA, O, _, _, _, _⟩ := ins_get I.hok ea
  obtain ⟨od, J, _⟩ := O.look
  obtain ⟨rest, hrec⟩ := hp.rec_
  have I1 := I.tok (s.toks + 1)
  have sp : spF ca (C.call g) [.ref a] H Q (fun _ _ _ => False) := by
    refine ⟨M, S, [d], rs, .cons rx .nil, ?_⟩
    cases hq : C.call g [d] S with
    | bad => rw [hq] at o; exact o.elim
    | er c d S' => rw [hq] at o; exact o.elim
    | ok x S' => rw [hq] at o; exact fun v M' H' e rs rv => (show Out ca W M σ H (.ok x S') Q from o) v M' H' e rs rv.t
  have hl : ([Value.ref a] : List Value).length = ps.length := F.len _ _ _ _ sp
  have hc : (PySem.W.clsIn X.K (ca c)).isSome = true := by
    obtain ⟨cd, hc, _⟩ := PySem.W.any_some cl.hd
    rw [hc]
    rfl
  refine PySem.W.get_bind I.kIn J (PySem.W.plainGet_of (cl.get f)).1 (PySem.W.findObj_data hc hp.at_ hp.get hp.tak) (PySem.W.plainGet_of (cl.get f)).2 (wpAny_call (PySem.W.prop_get (s := { s with toks := s.toks + 1 }) I.kIn hrec ?_))
  refine codeAny_mono (F.run X.A.in1 X.stack { s with toks := s.toks + 1 } H ⟨[.ref a], []⟩ [.ref a] [.ref a] Q (fun _ _ _ => False) hg hr.in1 I1.env0.in1 (by have q := hb { s with toks := s.toks + 1 } [.ref a] I1.kIn (by rw [List.append_nil]; exact hl); rwa [List.append_nil] at q) (.cons rfl .nil) sp) fun r s' hq => ?_
  match r, hq with
  | .error er, hq =>
    obtain ⟨_, _, _, _, _, _, _, _, _, _, _, _, z⟩ := hq
    exact z.elim
  | .ok (.ret u), hq =>
    obtain ⟨v, H', I3, rv, q3⟩ := I1.after hq
    show wpAny _ _ (handedOut u) _ _ _
    rw [PySem.W.handedOut_of (handed_of rv)]
    exact wpAny_pure ⟨v, H', I3, rv, q3⟩
/-- e.f -/
theorem snd_fld {e : Expr} {x : Ex} {f : Str} {k : Nat} (F : KF X.K ca C.sub) (A : KA X.K ca fa C.attr C.meth) (T : ∀ g, (∃ c f, C.attr c f = some (some g)) → FnT ca fa X.prog X.w X.K X.mg X.base k C.call g) (hg : X.A.guards = some []) (hr : Room (k + 1) X.A)
    (he : PE X e (tM ca W (ev C x))) (hb : attributeBase e f X.env (eval e X.env) = eval e X.env) : PE X (.Attribute e f pos) (tM ca W (ev C (.fld x f))) := by
  refine ⟨fun pins s σ H Q I h => ?_⟩
  obtain ⟨M, env, S, rs, re, o⟩ := h
  simp only [ev] at o
  refine attr_of hb (thn (he.run pins s σ H _ I ⟨M, env, S, rs, re, o.bind (Q1 := fun v H1 => ∃ M1 S1 d, RelS ca M1 S1 H1 ∧ RelE ca M1 env σ H1 ∧ RepX ca M1 σ v d ∧ Out ca W M1 σ H1 (fldD C f env d S1) Q) re fun d S1 v M1 H1 _ e1 rs1 re1 rx1 o1 => ⟨M1, S1, d, rs1, re1, rx1, o1⟩⟩) fun u s1 hh => ?_)
  obtain ⟨v, H1, I1, rv, M1, S1, d, rs1, re1, rx1, o1⟩ := hh
  have go : ∀ {ob : Ob}, cont env S1 d = some ob → Out ca W M1 σ H1 (match (some ob : Option Ob) with
      | some (.ins c fs vs) => match C.attr c f with
        | some (some g) => if d.isAcc then .bad else noEr (C.call g [d] S1)
        | some none => oget (lookF fs vs f) fun v => .ok v S1
        | none => .bad
      | _ => .bad) Q → wpAny (model X.prog X.w) X.A (getAttr u f true) (EP X pins σ Q) X.xe s1 := by
    intro ob hc o1
    obtain ⟨a, ho, rfl, ha, q⟩ := cont_at rs1 re1 rx1 hc
    obtain rfl : u = Value.ref a := rv
    cases q with
    | lst q => exact o1.elim
    | dct e q => exact o1.elim
    | ins e q =>
      rename_i c fs ns ds
      simp only at o1
      cases hat : C.attr c f with
      | none => rw [hat] at o1; exact o1.elim
      | some og =>
        rw [hat] at o1
        cases og with
        | none =>
          obtain ⟨k1, k2⟩ := A.fl c f hat
          obtain ⟨y, h1, o2⟩ := out_oget o1
          obtain ⟨w, h2, rw'⟩ := lookF_of e q h1
          exact getattr_ok I1 ha k1 k2 h2 fun u' s2 I2 ru => ⟨w, H1, I2, ru, out_v rs1 rw' o2⟩
        | some g =>
          obtain ⟨k1, p, k2⟩ := A.pr c f g hat
          simp only at o1
          cases hd : d.isAcc with
          | true => rw [hd] at o1; exact o1.elim
          | false =>
            rw [hd] at o1
            exact getprop_d I1 ha k1 k2 (T g ⟨c, f, hat⟩) hg hr rs1 (rx1.rep hd) (by simpa using o1)
  unfold fldD at o1
  cases d with
  | exc c x =>
    obtain ⟨⟨rfl, hs⟩, o2⟩ := out_chk o1
    obtain T := F.ex c hs
    cases (show Rep ca M1 v _ from rx1) with
    | exc f1 f2 q =>
      rename_i a dd v'
      obtain rfl : u = Value.ref a := rv
      obtain ⟨oe, vs, h1, hz, hd⟩ := (I1.hok a _ (rs1.frz _ _ f1)).1
      have hx : ObjOk X.prog X.w H1 s1.heap dd (.xd [(("value" : Str), v')]) := I1.hok dd _ (rs1.frz _ _ f2)
      obtain ⟨mA, hns, hrel⟩ := hx
      obtain ⟨od, ho, hl⟩ := lookIn_ns hns
      obtain ⟨u2, hu, ru⟩ := RelO.some_of (v := v') (o := mA ("value" : Str)) (by
        have q := hrel ("value" : Str)
        simpa [List.lookup] using q)
      have J : PySem.W.InstAt s1.heap a oe (ca c) (some od) := ⟨h1, hz.1, by unfold PySem.W.notCls; rw [hd] <;> rfl, by rw [hz.2]; exact ho⟩
      exact HandSPX.exc_get I1.kIn J T.ga T.gg T.ex (PySem.W.findObj_own T.hd T.nv rfl (by rw [hl, hu])) (handed_of ru) ⟨v', H1, I1.tok _, ru, out_v rs1 q o2⟩
  | ins c fs vs => exact go rfl o1
  | ref n =>
    cases hc : cont env S1 (.ref n) with
    | none => simp only [hc] at o1; exact o1.elim
    | some ob => simp only [hc] at o1; exact go hc o1
  | acc n =>
    cases hc : cont env S1 (.acc n) with
    | none => simp only [hc] at o1; exact o1.elim
    | some ob => simp only [hc] at o1; exact go hc o1
  | lst xs => exact o1.elim
  | dct ks vs => exact o1.elim
  | _ => exact (show False from o1).elim
end K9
end
section
set_option Elab.async false
set_option linter.all false
set_option maxRecDepth 100000
set_option maxHeartbeats 0
/-! K9Snd11: methods of own classes and of built-in types, makers. -/
namespace K9
open PySem PySem.Spec PyProof.Rows L2

variable {ca fa : Nat → Addr} {W : WX} {C : Ctx} {X : Cx} {pos : Pos}
theorem okBase_eq {o : Expr} (h : okBase o = true) (attr : Str) (env : PySem.Env) (whole : Sem Value) : attributeBase o attr env whole = whole := by
  unfold attributeBase
  split
  · rename_i id p pos
    have h' : (id != "super") = true := h
    simp only [h', Bool.true_or, if_true]
  · rfl
theorem few_of : ∀ {es : List Expr} {env : PySem.Env} {p : Pos}, es.any isStar = false → (backTo p (starEach es env)).all (fun x => !x.1) = true
  | [], _, _, _ => rfl
  | e :: es, env, p, h => by
    rw [List.any_cons, Bool.or_eq_false_iff] at h
    rw [star_cons h.1]
    show (true && (backTo p (starEach es env)).all (fun x => !x.1)) = true
    rw [few_of h.2]; rfl
theorem form_of {es : List Expr} {env : PySem.Env} {p : Pos} (hs : es.any isStar = false) (hl : es.length < 30) : ((backTo p (starEach es env)).all (fun x => !x.1) && (backToKw p (keywordEach [] env)).all (fun x => x.1.isSome)
    && decide (es.length + ([] : List Keyword).length + (if ([] : List Keyword).isEmpty then 0 else 1) < 30)) = true := by
  rw [few_of hs]
  show (true && true && decide (es.length + 0 + 0 < 30)) = true
  simpa using hl
/-- o.m(..) as it is run -/
theorem meth_eq {o : Expr} {m : Str} {apos : Pos} {es : List Expr} {env : PySem.Env} (hb : okBase o = true) (hs : es.any isStar = false) (hl : es.length < 30) (hp : (apos.endLine == pos.line) = true) :
    eval (.Call (.Attribute o m apos) es [] pos) env = (do
      let ov ← eval o env
      standAt apos.atName
      let (f, first) ← holding [ov] (getMethod ov m (do return (← importBound o env).getD true))
      callWith pos f first (backTo pos (starEach es env)) (backToKw pos (keywordEach [] env))) := by
  have hform : methodCallForm (es.length + ([] : List Keyword).length) (backTo pos (starEach es env)) (backToKw pos (keywordEach [] env)) = true := form_of hs hl
  have hpos : methodCallPos true o env apos pos = pure pos := by unfold methodCallPos; simp [hp]
  rw [arm_eval_Call, okBase_eq hb]
  unfold methodCall calleeOf
  rw [hform]
  simp only [if_true, hpos]
  rfl
/-- o.m(..), o an instance -/
theorem snd_meth {o : Expr} {m : Str} {apos : Pos} {es : List Expr} {x : Ex} {xs : Exs} (A : KA X.K ca fa C.attr C.meth) (T : ∀ g, (∃ c x, C.meth c x = some g) → RunsP ca W X (.ref (fa g)) (C.call g))
    (hb : okBase o = true) (hs : es.any isStar = false) (hl : es.length < 30) (hp : (apos.endLine == pos.line) = true) (hx : es = [] → xs = .nil) (he : PE X o (tM ca W (ev C x))) (ha : PA X es (tAK ca W (evs C xs))) :
    PE X (.Call (.Attribute o m apos) es [] pos) (tM ca W (ev C (.meth m x xs))) := by
  refine ⟨fun pins s σ H Q I h => ?_⟩
  obtain ⟨M, env, S, rs, re, o⟩ := h
  simp only [ev] at o
  refine PySem.W.methodCall_KW (thn (he.run pins s σ H _ I ⟨M, env, S, rs, re, o.bind (Q1 := fun v H1 => ∃ M1 S1 d, RelS ca M1 S1 H1 ∧ RelE ca M1 env σ H1 ∧ RepX ca M1 σ v d ∧ Out ca W M1 σ H1 (methD C m (evs C xs env) env d S1) Q) re fun d S1 v M1 H1 _ e1 rs1 re1 rx1 o1 => ⟨M1, S1, d, rs1, re1, rx1, o1⟩⟩) fun u s1 hh => ?_) (meth_eq hb hs hl hp)
  obtain ⟨v, H1, I1, rv, M1, S1, d, rs1, re1, rx1, o1⟩ := hh
  unfold methD at o1
  cases hd : d.isAcc with
  | true => rw [hd] at o1; exact o1.elim
  | false =>
    rw [hd] at o1
    simp only [Bool.false_eq_true, if_false] at o1
    cases hc : cont env S1 d with
    | none => rw [hc] at o1; exact o1.elim
    | some ob =>
      rw [hc] at o1
      obtain ⟨a, ho, rfl, ha1, q⟩ := cont_at rs1 re1 rx1 hc
      obtain rfl : u = Value.ref a := rv
      cases q with
      | lst q => exact o1.elim
      | dct e q => exact o1.elim
      | ins e q =>
        rename_i c fs ns ds
        obtain ⟨h1, o2⟩ := out_chk o1
        obtain ⟨g, h2, o3⟩ := out_oget o2
        obtain ⟨k1, k2⟩ := A.ms c m g h2
        refine getmeth_ok I1 ha1 k1 k2 (lookF_no e q h1) ?_
        have rx := rx1.rep hd
        have run := T g ⟨c, m, h2⟩
        cases es with
        | nil =>
          obtain rfl := hx rfl
          simp only [evs, R.bind] at o3
          exact PySem.W.callWith_K0 (first := [.ref a]) I1.kIn k2.kp (run pins σ H1 s1 [.ref a] [.ref a] [d] M1 S1 Q I1 (.cons rfl .nil) rs1 (.cons rx .nil) o3)
        | cons e' es' =>
          rw [List.any_cons, Bool.or_eq_false_iff] at hs
          have hlst := o3.bindL (rel := fun M => RepL ca M) (Q1 := fun vs H2 => ∃ M2 S2 ds, RelS ca M2 S2 H2 ∧ RepL ca M2 vs ds ∧ Rep ca M2 (.ref a) d ∧ Out ca W M2 σ H2 (C.call g (d :: ds) S2) Q) re1 fun ds S2 vs M2 H2 e2 rs2 re2 rx2 o4 => ⟨M2, S2, ds, rs2, rx2, e2.rep rx, o4⟩
          refine PySem.W.callWith_K (first := [.ref a]) (h₀ := X.base) I1.ok.mod.kin k2.kp (thn (ha.run pos pins s1 σ H1 _ I1 ⟨M1, env, S1, rs1, re1, hlst⟩) fun us s2 ⟨vs, H2, I2, r2, M2, S2, ds, rs2, rl, rx', o4⟩ => ⟨I2.kIn, ?_⟩) (star_cons hs.1) (no_star hs.2)
          exact run pins σ H2 s2 (.ref a :: us) (.ref a :: vs) (d :: ds) M2 S2 Q I2 (.cons rfl r2) rs2 (.cons rx' rl) o4
/-- the heap without x -/
def rmv (H : Hp) (x : Addr) : Hp := fun a => if a = x then none else H a
theorem rmv_none {H : Hp} {x a : Addr} (h : H a = none) : rmv H x a = none := by
  unfold rmv
  split
  · rfl
  · exact h
theorem rmv_same {H : Hp} {x : Addr} : rmv H x x = none := if_pos rfl
theorem rmv_ne {H : Hp} {x a : Addr} (h : a ≠ x) : rmv H x a = H a := if_neg h
/-- the promise of a maker's run -/
def OutMk (ca : Nat → Addr) (M : Mem) (H : Hp) (x : Addr) (r : R D) (Q : VK) (E : XK) : Prop := match r with
  | .ok (.own d) S => ∀ M' H' ho ob, Ext M (rmv H x) M' H' → RelS ca M' S H' → obOf d = some ob → H' x = some ho → ObR ca M' ho ob → M'.F x = none → x ∉ M'.mu → Q .non H'
  | .ok _ _ => False
  | .er c d S => ∀ cls dd M' H', Ext M (rmv H x) M' H' → RelS ca M' S H' → ExcR ca M' H' c d cls dd → rmv H x dd.get! = none → E cls dd H'
  | .bad => False
def spMk (ca : Nat → Addr) (c : Nat) (g : List D → Sto → R D) : Sp := fun vs H Q E => ∃ M S ds x dx us, vs = .ref x :: us ∧ RelS ca M S H ∧ RepL ca M us ds ∧ H x = some (.ins (ca c) dx []) ∧ M.F x = none ∧ x ∉ M.mu ∧ M.H0 x = none ∧ OutMk ca M H x (g ds S) Q E
/-- C(..), C a plain class, with keywords or without -/
theorem run_mk {c k : Nat} {f : Addr} {fd : FuncData} {ps : List Str} {g : List D → Sto → R D} {pins : List (Addr × Obj)} {σ : L2.St} {H : Hp} {s : Shared} {us ys : List Value} {kw : List (Str × Value)} {vs : List V} {ds : List D} {M : Mem} {S : Sto} {Q : VK}
    (Mc : Mk X.K (ca c) f) (F : FnG X.prog X.w X.K X.mg X.base k f fd ps (spMk ca c g)) (hg : X.A.guards = some []) (hr : Room (k + 1) X.A) (tk : Takes X W) (hb : ∀ (s : Shared) (self : Value), X.K.In s.heap → ys.length + 1 = ps.length → BindsTo s fd ⟨self :: us, kw⟩ (ps.zip (self :: ys)))
    (hown : ∀ ds S d S', g ds S = .ok d S' → ∃ e, d = .own e) (I : Inv X pins σ H s) (r : Vals vs ys) (rs : RelS ca M S H) (rx : RepL ca M vs ds) (o : Out ca W M σ H (g ds S) Q) : wpAny (model X.prog X.w) X.A (call (.ref (ca c)) us kw) (EP X pins σ Q) X.xe s := by
  have fr1 : H (s.heap.objs.size + 1) = none := I.hok.fresh (Nat.le_succ _)
  have fr0 : H s.heap.objs.size = none := I.hok.fresh (Nat.le_refl _)
  have ne01 : s.heap.objs.size ≠ s.heap.objs.size + 1 := Nat.ne_of_lt (Nat.lt_succ_self _)
  generalize hx : s.heap.objs.size + 1 = x at fr1 ne01
  generalize hdx : s.heap.objs.size = dx at fr0 ne01
  have hx1 : (upd H dx (.own x)) x = none := by rw [upd_ne (Ne.symm ne01)]; exact fr1
  have hrm : ∀ a, a ≠ x → rmv (upd (upd H dx (.own x)) x (.ins (ca c) dx [])) x a = upd H dx (.own x) a := fun a ha => by rw [rmv_ne ha, upd_ne ha]
  have e0 : Ext M H M (rmv (upd (upd H dx (.own x)) x (.ins (ca c) dx [])) x) := {
    F := fun _ _ h => h
    mu := fun _ _ h => h
    h0 := rfl
    sa := rfl
    rest := fun a u h _ => by rw [hrm a (ne_of_none h fr1), upd_ne (ne_of_none h fr0)]; exact h
    newF := fun a u h n => by rw [n] at h; cases h
    newM := fun a h n => absurd h n
    dom := fun a u h => ⟨u, by rw [hrm a (ne_of_none h fr1), upd_ne (ne_of_none h fr0)]; exact h⟩ }
  have rm_none : ∀ a, rmv (upd (upd H dx (.own x)) x (.ins (ca c) dx [])) x a = none → H a = none := fun a h => by
    by_cases z : a = x
    · rw [z]; exact fr1
    · rw [hrm a z] at h; exact upd_none h
  have e1 : Ext M H M (upd (upd H dx (.own x)) x (.ins (ca c) dx [])) := {
    F := fun _ _ h => h
    mu := fun _ _ h => h
    h0 := rfl
    sa := rfl
    rest := fun a u h _ => by rw [upd_ne (ne_of_none h fr1), upd_ne (ne_of_none h fr0)]; exact h
    newF := fun a u h n => by rw [n] at h; cases h
    newM := fun a h n => absurd h n
    dom := fun a u h => ⟨u, by rw [upd_ne (ne_of_none h fr1), upd_ne (ne_of_none h fr0)]; exact h⟩ }
  have rs1 : RelS ca M S (upd (upd H dx (.own x)) x (.ins (ca c) dx [])) := by
    refine ⟨fun a u h => e1.rest a u (rs.frz a u h) (fun q => ?_), rs.len, rs.nd, rs.off, fun n ob h => ?_, fun a h => rs.h0 a (upd_none (upd_none h))⟩
    · rw [rs.off a q] at h; cases h
    · obtain ⟨a, ho, h1, h2, h3⟩ := rs.ob n ob h
      exact ⟨a, ho, h1, by rw [upd_ne (ne_of_none h2 fr1), upd_ne (ne_of_none h2 fr0)]; exact h2, h3⟩
  have sp : spMk ca c g (.ref x :: vs) (upd (upd H dx (.own x)) x (.ins (ca c) dx [])) (fun v H2 => v = .non ∧ Q (.ref x) H2) (fun cls d H' => W cls d σ H') := by
    refine ⟨M, S, ds, x, dx, vs, rfl, rs1, rx, upd_same, free_F rs fr1, free_mu rs fr1, rs.h0 _ fr1, ?_⟩
    cases hr : g ds S with
    | bad => rw [hr] at o; exact o.elim
    | er c' d S' =>
      rw [hr] at o
      intro cls dd M' H' e2 rs2 ex hn
      exact o cls dd M' H' (e0.trans e2) rs2 ex (rm_none _ hn)
    | ok d S' =>
      obtain ⟨d, rfl⟩ := hown _ _ _ _ hr
      rw [hr] at o
      intro M' H' ho ob e2 rs2 hd hh ro f1 f2
      exact ⟨rfl, (show Out ca W M σ H (.ok (.own d) S') Q from o) (.ref x) M' H' (e0.trans e2) rs2 ⟨x, ho, ob, rfl, fr1, hh, hd, ro, f1, f2⟩⟩
  subst hx
  subst hdx
  have I2 := Inv.made (C := ca c) I
  have r2 : Vals (V.ref (s.heap.objs.size + 1) :: vs) (Value.ref (s.heap.objs.size + 1) :: ys) := .cons rfl r
  have hl : (Value.ref (s.heap.objs.size + 1) :: ys).length = ps.length := by rw [← r2.length]; exact F.len _ _ _ _ sp
  have bt := hb _ (Value.ref (s.heap.objs.size + 1)) I2.kIn hl
  refine wpAny_call (make_map (f := f) I.kIn Mc.makes Mc.init (beq_iff_eq.mp Mc.fn) (codeAny_mono (F.run _ X.stack _ _ ⟨Value.ref (s.heap.objs.size + 1) :: us, kw⟩ _ _ _ _ hg (hr.make (ca c) us kw)
    (I2.env0.make (ca c) us kw) bt r2 sp) fun r s' hq' => ?_))
  match r, hq' with
  | .error e, hq' =>
    exact tk _ _ (XE.of_call I2 (fun _ _ _ z => z) hq')
  | .ok (.ret u), hq' =>
    obtain ⟨v, H', I3, rv, ev, q3⟩ := I2.after hq'
    subst ev
    exact ⟨rv, ⟨V.ref (s.heap.objs.size + 1), H', I3, rfl, q3⟩⟩
/-- C(..) -/
theorem runsP_mk {c k : Nat} {f : Addr} {fd : FuncData} {ps : List Str} {g : List D → Sto → R D} (Mc : Mk X.K (ca c) f) (F : FnG X.prog X.w X.K X.mg X.base k f fd ps (spMk ca c g)) (hg : X.A.guards = some []) (hr : Room (k + 1) X.A) (tk : Takes X W) (hb : Binds X.K fd ps []) (hown : ∀ ds S d S', g ds S = .ok d S' → ∃ e, d = .own e) : RunsP ca W X (.ref (ca c)) g := by
  intro pins σ H s us vs ds M S Q I r rs rx o
  refine run_mk Mc F hg hr tk (fun s self hK hl => ?_) hown I r rs rx o
  have bt := hb s (self :: us) hK (by rw [List.append_nil]; exact hl)
  rw [List.append_nil] at bt
  exact bt
/-- values picked -/
theorem pick_of {M : Mem} {us ws : List Value} {vs zs : List V} {ds es : List D} (r : Vals vs us) (r2 : Vals zs ws) (rx : RepL ca M vs ds) (rx2 : RepL ca M zs es) : ∀ (perm : List Nat) (fs : List D) (ys : List Value), permute (ds ++ es) perm = some fs → perm.mapM (fun i => (us ++ ws)[i]?) = some ys → ∃ xs : List V, RepL ca M xs fs ∧ Vals xs ys
  | [], fs, ys, h1, h2 => by
    cases h1
    cases h2
    exact ⟨[], .nil, .nil⟩
  | i :: perm, fs, ys, h1, h2 => by
    unfold permute at h1
    rw [List.mapM_cons] at h1 h2
    cases e1 : (ds ++ es)[i]? with
    | none => rw [e1] at h1; cases h1
    | some d =>
      cases e2 : (us ++ ws)[i]? with
      | none => rw [e2] at h2; cases h2
      | some u =>
        rw [e1] at h1
        rw [e2] at h2
        cases h3 : perm.mapM (fun i => (ds ++ es)[i]?) with
        | none => rw [h3] at h1; cases h1
        | some fs' =>
          cases h4 : perm.mapM (fun i => (us ++ ws)[i]?) with
          | none => rw [h4] at h2; cases h2
          | some ys' =>
            rw [h3] at h1
            rw [h4] at h2
            cases h1
            cases h2
            obtain ⟨xs, a, b⟩ := pick_of r r2 rx rx2 perm fs' ys' h3 h4
            obtain ⟨x, hx, rd⟩ := (rx.append rx2).get e1
            obtain ⟨u', hu, rv⟩ := (r.append r2).get hx
            rw [e2] at hu
            cases hu
            exact ⟨x :: xs, .cons rd a, .cons rv b⟩
/-- C(.., k = ..) -/
theorem runsK_mk {c k n : Nat} {f : Addr} {fd : FuncData} {ps ks : List Str} {perm : List Nat} {g : List D → Sto → R D} (Mc : Mk X.K (ca c) f) (F : FnG X.prog X.w X.K X.mg X.base k f fd ps (spMk ca c g)) (hg : X.A.guards = some []) (hr : Room (k + 1) X.A) (tk : Takes X W)
    (hb : ∀ (s : Shared) (self : Value) (us ws : List Value), us.length = n → ws.length = ks.length → ∃ zs, perm.mapM (fun i => (us ++ ws)[i]?) = some zs ∧ BindsTo s fd ⟨self :: us, ks.zip ws⟩ (ps.zip (self :: zs))) (hown : ∀ ds S d S', g ds S = .ok d S' → ∃ e, d = .own e) :
    RunsK ca W X (.ref (ca c)) n ks perm g := by
  intro pins σ H s us ws vs zs ds es fs M S Q I r r2 l1 l2 rs rx rx2 hp o
  obtain ⟨ys, hy, _⟩ := hb s .none us ws (by rw [← r.length, l1]) (by rw [← r2.length, l2])
  obtain ⟨xs, rf, rv⟩ := pick_of r r2 rx rx2 perm fs ys hp hy
  refine run_mk (ys := ys) Mc F hg hr tk (fun s self hK hl => ?_) hown I rv rs rf o
  obtain ⟨ys', hy', bt⟩ := hb s self us ws (by rw [← r.length, l1]) (by rw [← r2.length, l2])
  rw [hy] at hy'
  cases hy'
  exact bt
/-! ### errors -/
theorem out_exc {M : Mem} {S : Sto} {H : Hp} {σ : L2.St} {Q : VK} {c : Nat} {v : V} {u : D} (rs : RelS ca M S H) (r : Rep ca M v u) (o : Out ca W M σ H (.ok (.exc c u) S) Q) {a d : Addr} (ha : H a = none) (hd : H d = none) (hne : d ≠ a) :
    Q (.ref a) (upd (upd H d (.xd [(("value" : Str), v)])) a (ExV (ca c) d a)) := by
  have e1 : Ext M H (M.add d (.xd [(("value" : Str), v)])) (upd H d (.xd [(("value" : Str), v)])) := ext_add (ca := ca) rs hd
  have rs1 := rel_add (ca := ca) (o := .xd [(("value" : Str), v)]) rs hd
  have ha1 : (upd H d (.xd [(("value" : Str), v)])) a = none := by rw [upd_ne (Ne.symm hne)]; exact ha
  have e2 := ext_add (ca := ca) (o := ExV (ca c) d a) rs1 ha1
  have rs2 := rel_add (ca := ca) (o := ExV (ca c) d a) rs1 ha1
  refine o (.ref a) _ _ (e1.trans e2) rs2 ?_
  exact Rep.exc (upd_same) (e2.F _ _ upd_same) (e2.rep (e1.rep r))
/-- C(v), C(value = v) -/
theorem runsP_exc {c : Nat} {fI : Addr} {fdI : FuncData} (T : ExcT X.K (ca c) fI) (F1 : FnOk X.prog X.w X.K X.mg X.base CX0 1 fI fdI (["self", "value"] : List Str) (spEI X.K)) (hr : Room 2 X.A)
    (hb : ∀ (s : Shared) (self u : Value), X.K.In s.heap → BindsTo s fdI ⟨[self, u], []⟩ ((["self", "value"] : List Str).zip [self, u])) :
    RunsP ca W X (.ref (ca c)) (fun ds S => match ds with | [d] => .ok (.exc c d) S | _ => .bad) := by
  intro pins σ H s us vs ds M S Q I r rs rx o
  cases rx with
  | nil => exact o.elim
  | cons r1 r2 =>
    cases r2 with
    | cons _ _ => exact o.elim
    | nil =>
      obtain ⟨u, rfl, rv⟩ := Vals.one r
      exact run_exc T F1 hr (fun s self k => hb s self u k) (.inl ⟨rfl, rfl⟩) I rv fun a d h1 h2 h3 => out_exc rs r1 o h1 h2 h3
theorem runsK_exc {c : Nat} {fI : Addr} {fdI : FuncData} (T : ExcT X.K (ca c) fI) (F1 : FnOk X.prog X.w X.K X.mg X.base CX0 1 fI fdI (["self", "value"] : List Str) (spEI X.K)) (hr : Room 2 X.A)
    (hb : ∀ (s : Shared) (self u : Value), X.K.In s.heap → BindsTo s fdI ⟨[self], [(("value" : Str), u)]⟩ ((["self", "value"] : List Str).zip [self, u])) :
    RunsK ca W X (.ref (ca c)) 0 (["value"] : List Str) [0] (fun ds S => match ds with | [d] => .ok (.exc c d) S | _ => .bad) := by
  intro pins σ H s us ws vs zs ds es fs M S Q I r r2 l1 l2 rs rx rx2 hp o
  cases vs with
  | cons _ _ => cases l1
  | nil =>
    cases r
    cases rx
    cases zs with
    | nil => cases l2
    | cons z zs =>
      cases zs with
      | cons _ _ => cases l2
      | nil =>
        obtain ⟨u, rfl, rv⟩ := Vals.one r2
        cases rx2 with
        | cons r1 rn =>
          cases rn
          cases hp
          exact run_exc T F1 hr (fun s self k => hb s self u k) (.inr ⟨rfl, rfl⟩) I rv fun a d h1 h2 h3 => out_exc rs r1 o h1 h2 h3

/-! ### methods of built-in types -/
def rMt (ca : Nat → Addr) (x : Mt) : V → List V → Hp → VK → Prop := fun v vs H Q => ∃ M env S σ d ds, RelS ca M S H ∧ RelE ca M env σ H ∧ RepX ca M σ v d ∧ RepXL ca M σ vs ds ∧ Out ca (fun _ _ _ _ => False) M σ H (mtD x d ds env S) Q
theorem noEr_mt {x : Mt} (d : D) (ds : List D) (env : Env) (S : Sto) : NoEr (mtD x d ds env S) := by
  unfold mtD
  split
  · exact noErO fun _ => noErO fun _ => noErC noErOk
  · split
    · exact noErOk
    · exact noErBad
  · split
    · exact noErOk
    · exact noErBad
  · exact noErC noErOk
  · exact noErC noErOk
  · exact noErC noErOk
  · exact noErBad
theorem tyV_mt {x : Mt} {T : String} {M : Mem} {S : Sto} {H : Hp} {σ : L2.St} {env : Env} {v : V} {d : D} (hT : T = (match x with | .join => "str" | .partition => "str" | .replace => "str" | .split => "str" | .upper => "str" | .get => "dict" | .items => "dict" | .update => "dict" | .values => "dict" | _ => "list"))
    (rs : RelS ca M S H) (re : RelE ca M env σ H) (rx : RepX ca M σ v d) (h : mtTy x env S d = true) : L2.tyV X.K T v H := by
  have hs : ∀ {z : Str}, d = .str z → L2.tyV X.K "str" v H := fun e => by
    subst e
    obtain rfl := str_of rx
    rfl
  have hl : ∀ {ob : Ob}, cont env S d = some ob → (match (some ob : Option Ob) with | some (.lst _) => true | _ => false) = true → L2.tyV X.K "list" v H := by
    intro ob hc hb
    obtain ⟨a, ho, rfl, ha, q⟩ := cont_at rs re rx hc
    cases q with
    | lst q => exact .inl ⟨rfl, _, SqL.of ha⟩
    | dct e q => cases hb
    | ins e q => cases hb
  have hd : ∀ {ob : Ob}, cont env S d = some ob → (match (some ob : Option Ob) with | some (.dct _ _) => true | _ => false) = true → L2.tyV X.K "dict" v H := by
    intro ob hc hb
    obtain ⟨a, ho, rfl, ha, q⟩ := cont_at rs re rx hc
    cases q with
    | dct e q => exact .inr (.inr (.inl ⟨rfl, .inl ⟨_, ha⟩⟩))
    | lst q => cases hb
    | ins e q => cases hb
  subst hT
  unfold mtTy at h
  cases x <;> simp only at h ⊢ <;> first
    | (cases d <;> first | exact hs rfl | cases h; done)
    | (cases hc : cont env S d with
       | none => rw [hc] at h; cases h
       | some ob => rw [hc] at h; first | exact hd hc h | exact hl hc h)
theorem mtr_join : MtR X "str.join" (rMt ca .join) := by
  intro pins s σ H x xs v us Q I rx rs h
  obtain ⟨M, env, S, σ0, d, ds, rs0, re, rd, rds, o⟩ := h
  unfold mtD at o
  split at o
  · rename_i d' hx
    obtain ⟨p, rfl, rp⟩ := one_x rds
    obtain rfl := str_of rd
    obtain ⟨ys, h1, o⟩ := out_oget o
    obtain ⟨ts, h2, o⟩ := out_oget o
    obtain ⟨h3, o⟩ := out_chk o
    obtain ⟨a, ws, rfl, ha, q⟩ := lst_at rs0 re rp h1
    obtain rfl := strsD_of q h2
    refine mt_join pins s σ H _ _ v us Q I rx rs ⟨_, a, ts, rfl, rfl, .inl (SqL.of ha), ?_, ?_⟩
    · rw [← sizeLine_eq, Nat.mul_comm ts.length]; exact h3
    · rw [TL.join_eq]; exact out_v rs0 (.str _) o
  · rename_i h0; cases h0
  · rename_i h0; cases h0
  · rename_i h0; cases h0
  · rename_i h0; cases h0
  · rename_i h0; cases h0
  · exact o.elim
theorem mtr_get (hu : X.A.units + 1 < cLine) : MtR X "dict.get" (rMt ca .get) := by
  intro pins s σ H x xs v us Q I rx rs h
  obtain ⟨M, env, S, σ0, d, ds, rs0, re, rd, rds, o⟩ := h
  have key : ∀ {y : V} {k : D} {kk : L2.Key}, RepX ca M σ0 y k → keyOf k = some kk → y = kV kk := by
    intro y k kk r h
    cases k with
    | int i => cases h; exact int_of r
    | str i => cases h; exact str_of r
    | _ => cases h
  have pick : ∀ {kvs : List (L2.Key × V)} {vs : List D} {kk : L2.Key} {y : V} {e : D}, RepL ca M (kvs.map (·.2)) vs → RepX ca M σ0 y e → RepX ca M σ0 ((valV kvs kk).getD y) ((lookD (kvs.map (·.1)) vs kk).getD e) := by
    intro kvs vs kk y e r re
    obtain ⟨h1, h2⟩ := look_val kvs vs kk r
    cases hl : lookD (kvs.map (·.1)) vs kk with
    | none => rw [h2 hl]; exact re
    | some d' =>
      obtain ⟨z, h3, h4⟩ := h1 d' hl
      rw [h3]
      exact RepX.of h4
  unfold mtD at o
  split at o
  · rename_i h0; cases h0
  · split at o
    · rename_i ks vs kk hc hk
      obtain ⟨y, rfl, ry⟩ := one_x rds
      obtain ⟨a, ho, rfl, ha, q⟩ := cont_at rs0 re rd hc
      obtain rfl : v = Value.ref a := rx
      obtain rfl := key ry hk
      obtain ⟨u, rfl, ru⟩ := Vals.one rs
      cases q with
      | dct e q =>
        subst e
        exact d_get1 hu I (DGet.k ha) ru fun w' s' I' rw' => ⟨_, H, I', rw', out_val rs0 (pick q (RepX.of .non)) o⟩
    · exact o.elim
  · split at o
    · rename_i ks vs kk hc hk
      obtain ⟨y, z, rfl, ry, rz⟩ := two_x rds
      obtain ⟨a, ho, rfl, ha, q⟩ := cont_at rs0 re rd hc
      obtain rfl : v = Value.ref a := rx
      obtain rfl := key ry hk
      obtain ⟨u, w, rfl, ru, rw'⟩ := Vals.two rs
      cases q with
      | dct e q =>
        subst e
        exact d_get2 hu I (DGet.k ha) ru rw' fun w' s' I' rw'' => ⟨_, H, I', rw'', out_val rs0 (pick q rz) o⟩
    · exact o.elim
  · rename_i h0; cases h0
  · rename_i h0; cases h0
  · rename_i h0; cases h0
  · exact o.elim
theorem mtr_upper : MtR X "str.upper" (rMt ca .upper) := by
  intro pins s σ H x xs v us Q I rx rs h
  obtain ⟨M, env, S, σ0, d, ds, rs0, re, rd, rds, o⟩ := h
  unfold mtD at o
  split at o
  · rename_i h0; cases h0
  · rename_i h0; cases h0
  · rename_i h0; cases h0
  · obtain rfl := str_of rd
    cases rds
    obtain ⟨h1, o⟩ := out_chk o
    exact mt_upper pins s σ H _ _ v us Q I rx rs ⟨_, rfl, rfl, h1, out_v rs0 (.str _) o⟩
  · rename_i h0; cases h0
  · rename_i h0; cases h0
  · exact o.elim
theorem strs_rep {M : Mem} : ∀ (ts : List Str), RepL ca M (ts.map V.str) (ts.map D.str)
  | [] => .nil
  | t :: ts => .cons (.str t) (strs_rep ts)
theorem mtr_partition : MtR X "str.partition" (rMt ca .partition) := by
  intro pins s σ H x xs v us Q I rx rs h
  obtain ⟨M, env, S, σ0, d, ds, rs0, re, rd, rds, o⟩ := h
  unfold mtD at o
  split at o
  · rename_i h0; cases h0
  · rename_i h0; cases h0
  · rename_i h0; cases h0
  · rename_i h0; cases h0
  · obtain rfl := str_of rd
    obtain ⟨p, rfl, rp⟩ := one_x rds
    obtain rfl := str_of rp
    obtain ⟨h1, o⟩ := out_chk o
    exact mt_partition pins s σ H _ _ v us Q I rx rs ⟨_, _, rfl, rfl, h1.1, h1.2, fun p hp => out_tup rs0 (.cons (.str _) (.cons (.str _) (.cons (.str _) .nil))) o hp⟩
  · rename_i h0; cases h0
  · exact o.elim
theorem mtr_split : MtR X "str.split" (rMt ca .split) := by
  intro pins s σ H x xs v us Q I rx rs h
  obtain ⟨M, env, S, σ0, d, ds, rs0, re, rd, rds, o⟩ := h
  unfold mtD at o
  split at o
  · rename_i h0; cases h0
  · rename_i h0; cases h0
  · rename_i h0; cases h0
  · rename_i h0; cases h0
  · rename_i h0; cases h0
  · obtain rfl := str_of rd
    obtain ⟨p, rfl, rp⟩ := one_x rds
    obtain rfl := str_of rp
    obtain ⟨h1, o⟩ := out_chk o
    exact mt_split pins s σ H _ _ v us Q I rx rs ⟨_, _, rfl, rfl, h1.1, h1.2, fun p hp => out_own rs0 rfl (.lst (strs_rep _)) o hp⟩
  · exact o.elim
/-- o.m(..), o of a built-in type -/
structure MtF (ca : Nat → Addr) (X : Cx) (x : Mt) (name : Str) : Prop where
  ex : ∃ (T id : String), T = (match x with | .join => "str" | .partition => "str" | .replace => "str" | .split => "str" | .upper => "str" | .get => "dict" | .items => "dict" | .update => "dict" | .values => "dict" | _ => "list") ∧
    PySem.PlainAttrs T ∧ PySem.Slot T name id ∧ typeOf (.builtin id) = pure (.type "method_descriptor") ∧ MtR X id (rMt ca x)
theorem mtF_join : MtF ca X .join "join" := ⟨"str", "str.join", rfl, PySem.F.plainAttrs_str, PySem.F.slot_str_join, PySem.F.type_str_join, mtr_join⟩
theorem mtF_get (hu : X.A.units + 1 < cLine) : MtF ca X .get "get" := ⟨"dict", "dict.get", rfl, PySem.F.plainAttrs_dict, PySem.F.slot_dict_get, PySem.F.type_dict_get, mtr_get hu⟩
theorem mtF_upper : MtF ca X .upper "upper" := ⟨"str", "str.upper", rfl, PySem.F.plainAttrs_str, PySem.F.slot_str_upper, PySem.F.type_str_upper, mtr_upper⟩
theorem mtF_partition : MtF ca X .partition "partition" := ⟨"str", "str.partition", rfl, PySem.F.plainAttrs_str, PySem.F.slot_str_partition, PySem.F.type_str_partition, mtr_partition⟩
theorem mtF_split : MtF ca X .split "split" := ⟨"str", "str.split", rfl, PySem.F.plainAttrs_str, PySem.F.slot_str_split, PySem.F.type_str_split, mtr_split⟩
/-- o.m() -/
theorem snd_mt0 {m : Mt} {o : Expr} {name : Str} {apos : Pos} {x : Ex} (F : MtF ca X m name) (hb : okBase o = true) (hp : (apos.endLine == pos.line) = true)
    (he : PE X o (tM ca W (ev C x))) : PE X (.Call (.Attribute o name apos) [] [] pos) (tM ca W (ev C (.mt m x .nil))) := by
  obtain ⟨T, id, hT, pa, slot, hty, hm⟩ := F.ex
  refine PE.imp (pe_bm0 pa slot hty hm he (okBase_eq hb _ _ _) hp) fun σ H Q ⟨M, env, S, rs, re, o⟩ => ?_
  simp only [ev] at o
  refine ⟨M, env, S, rs, re, o.bind re fun d S1 v M1 H1 _ e1 rs1 re1 rx1 o1 => ?_⟩
  obtain ⟨h1, o2⟩ := out_chk o1
  simp only [evl, R.bind] at o2
  exact ⟨tyV_mt hT rs1 re1 rx1 h1, M1, env, S1, σ, d, [], rs1, re1, rx1, .nil, o2.w (noEr_mt d [] env S1)⟩
theorem snd_mt {m : Mt} {o e : Expr} {name : Str} {apos : Pos} {es : List Expr} {x : Ex} {xs : Exs} (F : MtF ca X m name) (hb : okBase o = true) (hs : (e :: es).any isStar = false) (hl : (e :: es).length < 30) (hp : (apos.endLine == pos.line) = true)
    (he : PE X o (tM ca W (ev C x))) (ha : PA X (e :: es) (tAR ca W (evl C xs))) : PE X (.Call (.Attribute o name apos) (e :: es) [] pos) (tM ca W (ev C (.mt m x xs))) := by
  obtain ⟨T, id, hT, pa, slot, hty, hm⟩ := F.ex
  have hs' := hs
  rw [List.any_cons, Bool.or_eq_false_iff] at hs'
  refine PE.imp (pe_bm pa slot hty hm he ha (okBase_eq hb _ _ _) (form_of hs hl) hp (star_cons hs'.1) (no_star hs'.2)) fun σ H Q ⟨M, env, S, rs, re, o⟩ => ?_
  simp only [ev] at o
  refine ⟨M, env, S, rs, re, o.bind re fun d S1 v M1 H1 _ e1 rs1 re1 rx1 o1 => ?_⟩
  obtain ⟨h1, o2⟩ := out_chk o1
  refine ⟨tyV_mt hT rs1 re1 rx1 h1, M1, env, S1, rs1, re1, o2.bindL re1 fun ds S2 vs M2 H2 e2 rs2 re2 rx2 o3 => ?_⟩
  exact ⟨M2, env, S2, σ, d, ds, rs2, re2, rx1.ext e2, rx2, o3.w (noEr_mt d ds env S2)⟩
end K9
end
section
set_option Elab.async false
set_option linter.all false
set_option maxRecDepth 100000
set_option maxHeartbeats 0
/-! K9Gd: D.get(k), D a dict of the module with texts as keys and ints as values. -/
namespace K9
open PySem PySem.Spec PyProof.Rows L2
/-- a dict as it is written -/
def GDct (K : PySem.W.Frag) (w : World) (a : Addr) (l : List (Str × Int)) : Prop :=
  ∃ es n, K.lookup a = some ⟨.type "dict", none, .dict es n, #[]⟩ ∧ PySem.W.KeysLit w.params es.toList ∧ (a == sysModules) = false ∧
    ∀ z, ∃ r, PySem.W.nsIn K a z = some r ∧ (match l.lookup z with
      | some i => ∃ t, r = some (.int i t)
      | none => r = none)
variable {ca fa : Nat → Addr} {W : WX} {C : Ctx} {X : Cx} {pos : Pos}
theorem snd_gget {x : Str} {p apos : Pos} {e : Expr} {g : Nat} {k : Ex} {a : Addr} {l : List (Str × Int)} (hg : Gl X x) (hm : X.mg x = some (.ref a)) (hd : (x == ("__debug__" : Str)) = false) (hG : GDct X.K X.w a l) (hc : C.gd g = some l) (hs : isStar e = false) (hl : (apos.endLine == pos.line) = true)
    (he : PE X e (tM ca W (ev C k))) : PE X (.Call (.Attribute (.Name x p) "get" apos) [e] [] pos) (tM ca W (ev C (.gget g k))) := by
  refine ⟨fun pins s σ H Q I h => ?_⟩
  obtain ⟨M, env, S, rs, re, o⟩ := h
  simp only [ev] at o
  obtain ⟨es, n, h1, h2, h3, h4⟩ := hG
  have hst : [e].any isStar = false := by rw [List.any_cons, hs]; rfl
  refine wpAny_Call_method (T := "dict") (id := "dict.get") (okBase_eq rfl _ _ _) (form_of hst (by show 1 < 30; decide)) hl PySem.F.plainAttrs_dict PySem.F.slot_dict_get PySem.F.type_dict_get (ld_glob I hg hm ?_ hd)
  have hm' := PySem.W.mapOf_K (prog := X.prog) (w := X.w) I.kIn h1 h2
  refine ⟨hm'.typeIs, fun b hb => ?_, ?_⟩
  · cases hb
    exact ⟨_, I.kIn _ _ h1, rfl⟩
  · have tr : backTo pos (starEach [e] X.env) = [(false, eval e X.env)] := by rw [star_cons hs]; rfl
    rw [tr]
    have hq := he.run pins s σ H (fun v H1 => ∃ z, v = .str z ∧ Q (match l.lookup z with | some i => .int i | none => .non) H1) I ⟨M, env, S, rs, re, o.bind re fun d S1 v M1 H1 _ e1 rs1 re1 rx1 o1 => ?_⟩
    · refine Calls.callWith_builtin rfl (Calls.evalArgs_plain (Calls.spliced_cons (thn hq fun iv s2 ⟨y, H2, I2, ry, z, hz, q⟩ => Calls.spliced_nil ?_)))
      subst hz
      obtain ⟨t, rfl⟩ := (show ∃ t, iv = Value.str z t from ry)
      have hm2 := PySem.W.mapOf_K (prog := X.prog) (w := X.w) I2.kIn h1 h2
      refine call_meetsIn PySem.F.slot_dict_get hm2.typeIs PySem.F.entry_dict_get (PySem.F.args_dict_get_2 _ _) (meets_dict_get (strKind X.prog X.w) a (strKind_is X.prog X.w z t) h3) ⟨_, hm2, ?_⟩
      obtain ⟨r, k1, k2⟩ := h4 z
      rw [PySem.W.find_K h1 k1]
      cases hl : l.lookup z with
      | none =>
        rw [hl] at k2 q
        subst k2
        exact ⟨.non, H2, I2.tok _, rfl, q⟩
      | some i =>
        rw [hl] at k2 q
        obtain ⟨t', rfl⟩ := k2
        exact ⟨.int i, H2, I2.tok _, ⟨t', rfl⟩, q⟩
    · rw [hc] at o1
      cases d with
      | str z =>
        obtain rfl := str_of rx1
        refine ⟨z, rfl, ?_⟩
        have o1 : Out ca W M1 σ H1 (.ok (match l.lookup z with | some i => D.int i | none => .non) S1) Q := o1
        cases hl : l.lookup z with
        | none => rw [hl] at o1; exact out_v rs1 .non o1
        | some i => rw [hl] at o1; exact out_v rs1 (.int i) o1
      | _ => exact (show False from o1).elim
end K9
end
section
set_option Elab.async false
set_option linter.all false
set_option maxRecDepth 100000
set_option maxHeartbeats 0
/-! K9It: what loops and comprehensions walk. -/
namespace K9
open PySem PySem.Spec PyProof.Rows L2

variable {ca fa : Nat → Addr} {W : WX} {C : Ctx} {X : Cx} {pos : Pos}
/-- what a later memory keeps of an elder one -/
structure ExtM (M M' : Mem) : Prop where
  F : ∀ a o, M.F a = some o → M'.F a = some o
  mu : ∀ (n : Nat) (a : Addr), M.mu[n]? = some a → M'.mu[n]? = some a
  h0 : M'.H0 = M.H0
  sa : M'.sa = M.sa
theorem Ext.m {M M' : Mem} {H H' : Hp} (e : Ext M H M' H') : ExtM M M' := ⟨e.F, e.mu, e.h0, e.sa⟩
theorem ExtM.refl {M : Mem} : ExtM M M := ⟨fun _ _ h => h, fun _ _ h => h, rfl, rfl⟩
theorem ExtM.trans {M M1 M2 : Mem} (e : ExtM M M1) (f : ExtM M1 M2) : ExtM M M2 := ⟨fun a o h => f.F a o (e.F a o h), fun n a h => f.mu n a (e.mu n a h), f.h0.trans e.h0, f.sa.trans e.sa⟩
theorem ExtM.rep {M M1 : Mem} (e : ExtM M M1) {v : V} {d : D} (r : Rep ca M v d) : Rep ca M1 v d := r.mono e.F e.mu e.h0
theorem ExtM.repL {M M1 : Mem} (e : ExtM M M1) {v : List V} {d : List D} (r : RepL ca M v d) : RepL ca M1 v d := r.mono e.F e.mu e.h0
/-- the walk gives these items, while the store's lists stay and the frame's own stand as they stood -/
def Walk (ca : Nat → Addr) (J : L2.It) (M1 : Mem) (p : Wk) (own : List (Addr × List V)) : Prop :=
  ∀ (M : Mem) (H : Hp) (S : Sto) (i : Nat), ExtM M1 M → RelS ca M S H → Live S p.live → (∀ q ∈ own, H q.1 = some (.lst q.2)) →
    (p.xs.length ≤ i → J.stop i H) ∧ ∀ d, p.xs[i]? = some d → J.go i H ∧ ∀ x H', J.yld i H x H' → ∃ M', Ext M H M' H' ∧ RelS ca M' S H' ∧ Rep ca M' x d
/-- what is walked, as it lies behind its reading -/
def OutI (ca : Nat → Addr) (W : WX) (M : Mem) (σ : L2.St) (H : Hp) (r : R Wk) (Q : L2.It → Hp → Prop) : Prop := match r with
  | .ok p S => ∀ J M' H' own, Ext M H M' H' → RelS ca M' S H' → Walk ca J M' p own → (p.acc = false → own = []) → (∀ q ∈ own, q.1 ∉ M'.mu ∧ H' q.1 = some (.lst q.2)) → Q J H'
  | .er c d S => ∀ cls dd M' H', Ext M H M' H' → RelS ca M' S H' → ExcR ca M' H' c d cls dd → H dd.get! = none → W cls dd σ H'
  | .bad => False
def tI (ca : Nat → Addr) (W : WX) (f : Env → Sto → R Wk) : TI := fun σ H Q => ∃ M env S, RelS ca M S H ∧ RelE ca M env σ H ∧ OutI ca W M σ H (f env S) Q
section
variable {M M1 : Mem} {H H1 : Hp} {σ : L2.St} {env : Env} {S : Sto}
theorem OutI.ext {r : R Wk} {Q : L2.It → Hp → Prop} (h : OutI ca W M σ H r Q) (e : Ext M H M1 H1) : OutI ca W M1 σ H1 r Q := by
  cases r with
  | bad => exact h
  | ok d S' => exact fun J M' H' own x rs w a b => h J M' H' own (e.trans x) rs w a b
  | er c d S' => exact fun cls dd M' H' x rs ex hd => h cls dd M' H' (e.trans x) rs ex (e.none hd)
theorem OutI.bind {r : R D} {k : D → Sto → R Wk} {Q : L2.It → Hp → Prop} {Q1 : VK} (h : OutI ca W M σ H (r.bindR k) Q) (re : RelE ca M env σ H)
    (hk : ∀ d S1 v M1 H1, Ext M H M1 H1 → RelS ca M1 S1 H1 → RelE ca M1 env σ H1 → RepX ca M1 σ v d → OutI ca W M1 σ H1 (k d S1) Q → Q1 v H1) : Out ca W M σ H r Q1 := by
  cases r with
  | bad => exact h
  | er c d S' => exact h
  | ok d S' =>
    intro v M1 H1 e rs rt
    obtain ⟨M2, e2, rs2, rx⟩ := rt.hold e rs
    exact hk (rd d) S' v M2 H1 e2 rs2 (re.ext e2) rx (OutI.ext (r := k (rd d) S') h e2)
theorem outI_chk {p : Prop} [Decidable p] {r : R Wk} {Q : L2.It → Hp → Prop} (o : OutI ca W M σ H (chk p r) Q) : p ∧ OutI ca W M σ H r Q := by
  unfold chk at o
  by_cases h : p
  · rw [if_pos h] at o; exact ⟨h, o⟩
  · rw [if_neg h] at o; exact o.elim
theorem outI_oget {α : Type} {x : Option α} {k : α → R Wk} {Q : L2.It → Hp → Prop} (o : OutI ca W M σ H (oget x k) Q) : ∃ a, x = some a ∧ OutI ca W M σ H (k a) Q := by
  cases x with
  | none => exact o.elim
  | some a => exact ⟨a, rfl, o⟩
end

/-! ### the walks -/
/-- a list's place: at any later time it stands there as it stood -/
theorem list_place {K : PySem.W.Frag} {M1 : Mem} {S1 : Sto} {H1 : Hp} {σ : L2.St} {env : Env} {v : V} {d : D} {xs : List D} (rs : RelS ca M1 S1 H1) (re : RelE ca M1 env σ H1) (rx : RepX ca M1 σ v d) (h : lstOf env S1 d = some xs) :
    ∃ (a : Addr) (own : List (Addr × List V)), v = .ref a ∧ (d.isAcc = false → own = []) ∧ (∀ q ∈ own, q.1 ∉ M1.mu ∧ H1 q.1 = some (.lst q.2)) ∧ (∃ ys, SqL K H1 a ys) ∧
      ∀ (M : Mem) (H : Hp) (S : Sto), ExtM M1 M → RelS ca M S H → Live S (liveOf d xs) → (∀ q ∈ own, H q.1 = some (.lst q.2)) → ∃ vs, H a = some (.lst vs) ∧ RepL ca M vs xs := by
  obtain ⟨a, vs, rfl, ha, q⟩ := lst_at rs re rx h
  cases hd : d.isAcc with
  | true =>
    cases d with
    | acc i =>
      have r' : σ[i]? = some (some (.ref a)) := rx
      unfold lstOf cont at h
      cases hq : env[i]? with
      | none => simp only [hq] at h; cases h
      | some s =>
        simp only [hq] at h
        have z := re.sl i _ hq
        rw [r'] at z
        cases s with
        | no => cases h
        | fz d => cases h
        | al o =>
          cases o with
          | lst ys =>
            cases h
            cases z with
            | al h1 h2 h3 h4 h5 h6 =>
              refine ⟨a, [(a, vs)], rfl, (fun z => nomatch z), fun p hp => ?_, ⟨vs, SqL.of ha⟩, fun M H S e rs' _ ho => ⟨vs, ho _ (List.mem_singleton.mpr rfl), e.repL q⟩⟩
              rw [List.mem_singleton.mp hp]
              exact ⟨h4, ha⟩
          | dct _ _ => cases h
          | ins _ _ _ => cases h
    | _ => cases hd
  | false =>
    refine ⟨a, [], rfl, fun _ => rfl, (fun p hp => by cases hp), ⟨vs, SqL.of ha⟩, fun M H S e rs' hl _ => ?_⟩
    have rp := rx.rep hd
    cases rp with
    | lst f qq =>
      have hvs := rs.frz _ _ f
      rw [ha] at hvs
      cases hvs
      exact ⟨vs, rs'.frz _ _ (e.F _ _ f), e.repL q⟩
    | ref hn =>
      rename_i n
      have hS : S[n]? = some (.lst xs) := hl (n, xs) (List.mem_singleton.mpr rfl)
      obtain ⟨a', ho, h1, h2, h3⟩ := rs'.ob n _ hS
      rw [e.mu _ _ hn] at h1
      cases h1
      cases h3 with
      | lst q' => exact ⟨_, h2, q'⟩
    | _ => cases h
theorem walk_list {K : PySem.W.Frag} {M1 : Mem} {a : Addr} {p : Wk} {own : List (Addr × List V)}
    (h : ∀ (M : Mem) (H : Hp) (S : Sto), ExtM M1 M → RelS ca M S H → Live S p.live → (∀ q ∈ own, H q.1 = some (.lst q.2)) → ∃ vs, H a = some (.lst vs) ∧ RepL ca M vs p.xs) : Walk ca (Itl K a) M1 p own := by
  intro M H S i e rs hl ho
  obtain ⟨vs, ha, r⟩ := h M H S e rs hl ho
  refine ⟨fun hi => ⟨vs, SqL.of ha, by rw [r.length]; exact hi⟩, fun d hd => ?_⟩
  obtain ⟨v, hv, rv⟩ := r.get hd
  refine ⟨⟨vs, v, SqL.of ha, hv⟩, fun x H' hy => ?_⟩
  obtain ⟨rfl, hx⟩ := hy
  have z := hx vs (SqL.of ha)
  rw [hv] at z
  cases z
  exact ⟨M, Ext.refl, rs, rv⟩
theorem walk_tup {K : PySem.W.Frag} {M1 : Mem} {a : Addr} {xs : List D} {vs : List V} (f : M1.F a = some (.tup vs)) (r : RepL ca M1 vs xs) : Walk ca (Itt K a) M1 ⟨xs, [], false⟩ [] := by
  intro M H S i e rs hl ho
  have ha := rs.frz _ _ (e.F _ _ f)
  have r := e.repL r
  refine ⟨fun hi => ⟨vs, SqT.of ha, by rw [r.length]; exact hi⟩, fun d hd => ?_⟩
  obtain ⟨v, hv, rv⟩ := r.get hd
  refine ⟨⟨vs, v, SqT.of ha, hv⟩, fun x H' hy => ?_⟩
  obtain ⟨rfl, hx⟩ := hy
  have z := hx vs (SqT.of ha)
  rw [hv] at z
  cases z
  exact ⟨M, Ext.refl, rs, rv⟩
theorem walk_str {M1 : Mem} {s : Str} : Walk ca (Its s) M1 ⟨s.cps.toList.map fun c => D.str ⟨#[c]⟩, [], false⟩ [] := by
  intro M H S i e rs hl ho
  have hlen : (s.cps.toList.map fun c => D.str ⟨#[c]⟩).length = s.cps.size := by simp
  refine ⟨fun hi => (by rw [hlen] at hi; exact hi), fun d hd => ?_⟩
  have hi : i < s.cps.size := by
    have := (List.getElem?_eq_some_iff.mp hd).1
    rw [hlen] at this; exact this
  refine ⟨hi, fun x H' hy => ?_⟩
  obtain ⟨rfl, c, hc, rfl⟩ := hy
  rw [List.getElem?_map, Array.getElem?_toList, hc] at hd
  cases hd
  exact ⟨M, Ext.refl, rs, .str _⟩
theorem walk_rng {M1 : Mem} {lo : Int} {n : Nat} : Walk ca (Itr lo n) M1 ⟨upTo lo n, [], false⟩ [] := by
  intro M H S i e rs hl ho
  have hlen : (upTo lo n).length = n := by simp [upTo]
  refine ⟨fun hi => (by rw [hlen] at hi; exact hi), fun d hd => ?_⟩
  have hi : i < n := by
    have := (List.getElem?_eq_some_iff.mp hd).1
    rw [hlen] at this; exact this
  refine ⟨hi, fun x H' hy => ?_⟩
  obtain ⟨rfl, rfl⟩ := hy
  unfold upTo at hd
  rw [List.getElem?_map, List.getElem?_range hi] at hd
  cases hd
  exact ⟨M, Ext.refl, rs, .int _⟩
theorem walk_enum {K : PySem.W.Frag} {M1 : Mem} {a : Addr} {xs : List D} {live : List (Nat × List D)} {acc : Bool} {own : List (Addr × List V)}
    (h : ∀ (M : Mem) (H : Hp) (S : Sto), ExtM M1 M → RelS ca M S H → Live S live → (∀ q ∈ own, H q.1 = some (.lst q.2)) → ∃ vs, H a = some (.lst vs) ∧ RepL ca M vs xs) : Walk ca (Ite K a) M1 ⟨(xs.zipIdx).map fun p => D.tup [.int (p.2 : Int), p.1], live, acc⟩ own := by
  intro M H S i e rs hl ho
  obtain ⟨vs, ha, r⟩ := h M H S e rs hl ho
  refine ⟨fun hi => ⟨vs, SqL.of ha, by rw [r.length]; simpa using hi⟩, fun d hd => ?_⟩
  rw [List.getElem?_map, List.getElem?_zipIdx] at hd
  cases hx : xs[i]? with
  | none => rw [hx] at hd; cases hd
  | some y =>
    rw [hx] at hd
    simp only [Option.map_some, Nat.zero_add] at hd
    cases hd
    obtain ⟨v, hv, rv⟩ := r.get hx
    refine ⟨⟨vs, v, SqL.of ha, hv⟩, fun x H' hy => ?_⟩
    obtain ⟨T, w, rfl, hT, rfl, hw⟩ := hy
    have z := hw vs (SqL.of ha)
    rw [hv] at z
    cases z
    have e2 : Ext M H (M.add T (.tup [.int (i : Nat), v])) (upd H T (.tup [.int (i : Nat), v])) := ext_add (ca := ca) rs hT
    exact ⟨_, e2, rel_add rs hT, .tup upd_same (.cons (.int _) (.cons (e2.rep rv) .nil))⟩
theorem walk_zip {K : PySem.W.Frag} {M1 : Mem} {a b : Addr} {xs ys : List D} {live : List (Nat × List D)} {acc : Bool} {own : List (Addr × List V)}
    (h : ∀ (M : Mem) (H : Hp) (S : Sto), ExtM M1 M → RelS ca M S H → Live S live → (∀ q ∈ own, H q.1 = some (.lst q.2)) → ∃ vs us, H a = some (.lst vs) ∧ RepL ca M vs xs ∧ H b = some (.lst us) ∧ RepL ca M us ys) : Walk ca (Itz K a b) M1 ⟨(xs.zip ys).map fun p => D.tup [p.1, p.2], live, acc⟩ own := by
  intro M H S i e rs hl ho
  obtain ⟨vs, us, ha, r, hb, q⟩ := h M H S e rs hl ho
  refine ⟨fun hi => ⟨vs, us, SqL.of ha, SqL.of hb, ?_⟩, fun d hd => ?_⟩
  · rw [r.length, q.length]
    simp only [List.length_map, List.length_zip] at hi
    omega
  · rw [List.getElem?_map] at hd
    cases hz : (xs.zip ys)[i]? with
    | none => rw [hz] at hd; cases hd
    | some w =>
      rw [hz] at hd
      cases hd
      obtain ⟨w1, w2⟩ := w
      obtain ⟨hx, hy⟩ := List.getElem?_zip_eq_some.mp hz
      obtain ⟨v, hv, rv⟩ := r.get hx
      obtain ⟨u, hu, ru⟩ := q.get hy
      refine ⟨⟨vs, us, v, u, SqL.of ha, SqL.of hb, hv, hu⟩, fun x H' hyl => ?_⟩
      obtain ⟨T, x1, y1, rfl, hT, rfl, hx1, hy1⟩ := hyl
      have z := hx1 vs (SqL.of ha)
      rw [hv] at z
      cases z
      have z := hy1 us (SqL.of hb)
      rw [hu] at z
      cases z
      have e2 : Ext M H (M.add T (.tup [v, u])) (upd H T (.tup [v, u])) := ext_add (ca := ca) rs hT
      exact ⟨_, e2, rel_add rs hT, .tup upd_same (.cons (e2.rep rv) (.cons (e2.rep ru) .nil))⟩
theorem walk_zipT {K : PySem.W.Frag} {M1 : Mem} {a b : Addr} {xs ys : List D} {vs us : List V} (fa : M1.F a = some (.tup vs)) (r : RepL ca M1 vs xs) (fb : M1.F b = some (.tup us)) (q : RepL ca M1 us ys) : Walk ca (RZ.ItzT K a b) M1 ⟨(xs.zip ys).map fun p => D.tup [p.1, p.2], [], false⟩ [] := by
  intro M H S i e rs hl ho
  have ha := rs.frz _ _ (e.F _ _ fa)
  have hb := rs.frz _ _ (e.F _ _ fb)
  have r := e.repL r
  have q := e.repL q
  refine ⟨fun hi => ⟨vs, us, SqT.of ha, SqT.of hb, ?_⟩, fun d hd => ?_⟩
  · rw [r.length, q.length]
    simp only [List.length_map, List.length_zip] at hi
    omega
  · rw [List.getElem?_map] at hd
    cases hz : (xs.zip ys)[i]? with
    | none => rw [hz] at hd; cases hd
    | some w =>
      rw [hz] at hd
      cases hd
      obtain ⟨w1, w2⟩ := w
      obtain ⟨hx, hy⟩ := List.getElem?_zip_eq_some.mp hz
      obtain ⟨v, hv, rv⟩ := r.get hx
      obtain ⟨u, hu, ru⟩ := q.get hy
      refine ⟨⟨vs, us, v, u, SqT.of ha, SqT.of hb, hv, hu⟩, fun x H' hyl => ?_⟩
      obtain ⟨T, x1, y1, rfl, hT, rfl, hx1, hy1⟩ := hyl
      have z := hx1 vs (SqT.of ha)
      rw [hv] at z
      cases z
      have z := hy1 us (SqT.of hb)
      rw [hu] at z
      cases z
      have e2 : Ext M H (M.add T (.tup [v, u])) (upd H T (.tup [v, u])) := ext_add (ca := ca) rs hT
      exact ⟨_, e2, rel_add rs hT, .tup upd_same (.cons (e2.rep rv) (.cons (e2.rep ru) .nil))⟩

/-! ### the readings -/
/-- a list, a tuple, a text as it comes -/
def iSeq (K : PySem.W.Frag) (te : TE) : TI := fun σ H R => te σ H fun x H1 => (∃ a, x = .ref a ∧ (∃ xs, SqL K H1 a xs) ∧ R (Itl K a) H1) ∨ (∃ a, x = .ref a ∧ (∃ xs, SqT K H1 a xs) ∧ R (Itt K a) H1) ∨ (∃ y, x = .str y ∧ R (Its y) H1) ∨ ∃ d o kvs, x = .ref d ∧ H1 d = some (.frz o (.dK kvs)) ∧ R (Itk d o kvs) H1
theorem pi_seq {tg l : Expr} {tl : TE} (hl : PE X l tl) : PI X tg l (iSeq X.K tl) := by
  refine ⟨fun pins s σ H R I h => ?_⟩
  refine thn (hl.run pins s σ H _ I h) fun v s1 ⟨x, H1, I1, r1, q1⟩ => ?_
  rcases q1 with ⟨a, rfl, ⟨xs, hq⟩, q⟩ | ⟨a, rfl, ⟨xs, hq⟩, q⟩ | ⟨y, rfl, q⟩ | ⟨d, o, kvs, rfl, hd, q⟩
  · cases r1
    obtain ⟨its, rv, p, hz⟩ := I1.list hq
    exact wpAny_pyIter_list p.isList (pi_one (tk := s1.toks) I1 _ (turn_list a _) ⟨_, Heap.get?_push_size _ rfl, rfl, rfl⟩ q)
  · cases r1
    obtain ⟨its, rv, p, hz⟩ := I1.tuple hq
    exact wpAny_pyIter_tuple (show s1.heap.IsTuple a its.toArray from p) (pi_one (tk := s1.toks) I1 _ (turn_tuple a _) ⟨_, Heap.get?_push_size _ rfl, rfl, rfl⟩ q)
  · obtain ⟨t, rfl⟩ := r1
    cases ha : y.cps.all (· < 128)
    · exact wpAny_pyIter_wide ha (pi_one (tk := s1.toks) I1 _ (turn_str _ y t "str_iterator" (.inr rfl)) ⟨_, Heap.get?_push_size _ rfl, rfl, rfl⟩ q)
    · exact wpAny_pyIter_ascii ha (pi_one (tk := s1.toks) I1 _ (turn_str _ y t "str_ascii_iterator" (.inl rfl)) ⟨_, Heap.get?_push_size _ rfl, rfl, rfl⟩ q)
  · obtain rfl : v = Value.ref d := r1
    obtain ⟨hs, hgd, hx, es, ep, vs, hdt, hsz, kv, hm⟩ := I1.frzK hd
    refine iter_keys hs hgd hx hdt (pi_one (tk := s1.toks) I1 _ (turn_keys _ hdt) ⟨_, Heap.get?_push_size _ rfl, rfl, ?_⟩ q)
    rw [hsz] <;> rfl
/-- the keys of a dict that is never written any more -/
theorem walk_keys {M1 : Mem} {a : Addr} {o : Obj} {kvs : List (L2.Key × V)} (f : M1.F a = some (.frz o (.dK kvs))) : Walk ca (Itk a o kvs) M1 ⟨(kvs.map (·.1)).map keyD, [], false⟩ [] := by
  intro M H S i e rs hl ho
  have ha := rs.frz _ _ (e.F _ _ f)
  have hlen : ((kvs.map (·.1)).map keyD).length = kvs.length := by rw [List.length_map, List.length_map]
  refine ⟨fun hi => ⟨ha, by rw [hlen] at hi; exact hi⟩, fun d hd => ?_⟩
  have hi : i < kvs.length := by
    have := (List.getElem?_eq_some_iff.mp hd).1
    rw [hlen] at this; exact this
  refine ⟨⟨ha, hi⟩, fun x H' hy => ?_⟩
  obtain ⟨rfl, k, v, hk, rfl⟩ := hy
  rw [List.getElem?_map, List.getElem?_map, hk] at hd
  cases hd
  refine ⟨M, Ext.refl, rs, ?_⟩
  cases k with
  | inl i => exact .int i
  | inr i => exact .str i
theorem PI.imp {tg e : Expr} {t t' : TI} (h : PI X tg e t) (q : ∀ σ H Q, t' σ H Q → t σ H Q) : PI X tg e t' := ⟨fun pins s σ H Q I z => h.run pins s σ H Q I (q σ H Q z)⟩
theorem sndI_seq {tg e : Expr} {x : Ex} (he : PE X e (tM ca W (ev C x))) : PI X tg e (tI ca W (evIt C (.seq x))) := by
  refine PI.imp (pi_seq he) fun σ H Q ⟨M, env, S, rs, re, o⟩ => ?_
  simp only [evIt] at o
  refine ⟨M, env, S, rs, re, o.bind re fun d S1 v M1 H1 e1 rs1 re1 rx1 o1 => ?_⟩
  have go : ∀ {d : D}, RepX ca M1 σ v d → OutI ca W M1 σ H1 (oget (seqOf env S1 d) fun xs => .ok ⟨xs, liveOf d xs, d.isAcc⟩ S1) Q → (∃ a, v = .ref a ∧ (∃ xs, SqL X.K H1 a xs) ∧ Q (Itl X.K a) H1) ∨ (∃ a, v = .ref a ∧ (∃ xs, SqT X.K H1 a xs) ∧ Q (Itt X.K a) H1) ∨ (∃ y, v = .str y ∧ Q (Its y) H1) ∨ ∃ d o kvs, v = .ref d ∧ H1 d = some (.frz o (.dK kvs)) ∧ Q (Itk d o kvs) H1 := by
    intro d rx1 o1
    obtain ⟨xs, h1, o2⟩ := outI_oget o1
    by_cases ht : ∃ ys, d = .tup ys
    · obtain ⟨ys, rfl⟩ := ht
      cases h1
      obtain ⟨a, vs, rfl, ha, fa, q⟩ := tup_of rs1 rx1
      exact .inr (.inl ⟨a, rfl, ⟨vs, SqT.of ha⟩, o2 _ M1 H1 [] Ext.refl rs1 (walk_tup fa q) (fun _ => rfl) (fun p hp => by cases hp)⟩)
    · have h2 : lstOf env S1 d = some xs := by
        cases d <;> first | exact h1 | exact absurd ⟨_, rfl⟩ ht
      obtain ⟨a, own, rfl, g1, g2, g3, g4⟩ := list_place (K := X.K) rs1 re1 rx1 h2
      exact .inl ⟨a, rfl, g3, o2 _ M1 H1 own Ext.refl rs1 (walk_list g4) g1 g2⟩
  cases d with
  | str y =>
    obtain ⟨h1, o2⟩ := outI_chk o1
    obtain rfl := str_of rx1
    exact .inr (.inr (.inl ⟨y, rfl, o2 _ M1 H1 [] Ext.refl rs1 walk_str (fun _ => rfl) (fun p hp => by cases hp)⟩))
  | dcf ks vs =>
    cases (show Rep ca M1 v _ from rx1) with
    | dcf f e q =>
      subst e
      exact .inr (.inr (.inr ⟨_, _, _, rfl, rs1.frz _ _ f, (show OutI ca W M1 σ H1 (.ok _ S1) Q from o1) _ M1 H1 [] Ext.refl rs1 (walk_keys f) (fun _ => rfl) (fun p hp => by cases hp)⟩))
  | _ => exact go rx1 o1
theorem sndI_rng1 {tg e : Expr} {x : Ex} {p : Pos} (hg : Gl X "range") (hm : X.mg "range" = none) (hs : isStar e = false) (he : PE X e (tM ca W (ev C x))) : PI X tg (.Call (.Name "range" p) [e] [] pos) (tI ca W (evIt C (.rng1 x))) := by
  refine PI.imp (pi_range1 hg hm (pa_cons he pa_nil (star_cons hs)) (star_cons hs)) fun σ H Q ⟨M, env, S, rs, re, o⟩ => ?_
  simp only [evIt] at o
  refine ⟨M, env, S, rs, re, o.bind re fun d S1 v M1 H1 e1 rs1 re1 rx1 o1 => ?_⟩
  cases d with
  | int n =>
    obtain ⟨⟨h1, h2⟩, o2⟩ := outI_chk o1
    obtain rfl := int_of rx1
    exact ⟨n, rfl, h1, h2, o2 _ M1 H1 [] Ext.refl rs1 walk_rng (fun _ => rfl) (fun p hp => by cases hp)⟩
  | _ => exact o1.elim
theorem sndI_rng2 {tg e f : Expr} {x y : Ex} {p : Pos} (hg : Gl X "range") (hm : X.mg "range" = none) (hs : isStar e = false) (hs2 : isStar f = false) (he : PE X e (tM ca W (ev C x))) (hf : PE X f (tM ca W (ev C y))) : PI X tg (.Call (.Name "range" p) [e, f] [] pos) (tI ca W (evIt C (.rng2 x y))) := by
  refine PI.imp (pi_range2 hg hm (pa_cons he (pa_cons hf pa_nil (star_cons hs2)) (star_cons hs)) (by rw [star_cons hs, star_cons hs2]; rfl) (star_cons hs2)) fun σ H Q ⟨M, env, S, rs, re, o⟩ => ?_
  simp only [evIt] at o
  refine ⟨M, env, S, rs, re, o.bind re fun d S1 v M1 H1 e1 rs1 re1 rx1 o1 => ⟨M1, env, S1, rs1, re1, o1.bind re1 fun d2 S2 v2 M2 H2 e2 rs2 re2 rx2 o2 => ?_⟩⟩
  split at o2
  · obtain ⟨⟨⟨h1, h2⟩, h3, h4⟩, o2⟩ := outI_chk o2
    obtain rfl := int_of rx1
    obtain rfl := int_of rx2
    exact ⟨_, _, rfl, ⟨h1, h2, h3, h4⟩, o2 _ M2 H2 [] Ext.refl rs2 walk_rng (fun _ => rfl) (fun p hp => by cases hp)⟩
  · exact o2.elim
theorem sndI_enum {es : List Expr} {kk : Nat} {tpos : Pos} {e : Expr} {x : Ex} {p : Pos} (hg : Gl X "enumerate") (hm : X.mg "enumerate" = none) (hs : isStar e = false) (he : PE X e (tM ca W (ev C x))) : PI X (.Tuple es kk tpos) (.Call (.Name "enumerate" p) [e] [] pos) (tI ca W (evIt C (.enum x))) := by
  refine PI.imp (pi_enum hg hm (pa_cons he pa_nil (star_cons hs)) (star_cons hs)) fun σ H Q ⟨M, env, S, rs, re, o⟩ => ?_
  simp only [evIt] at o
  refine ⟨M, env, S, rs, re, o.bind re fun d S1 v M1 H1 e1 rs1 re1 rx1 o1 => ?_⟩
  obtain ⟨xs, h1, o2⟩ := outI_oget o1
  obtain ⟨a, own, rfl, g1, g2, ⟨ys, g3⟩, g4⟩ := list_place (K := X.K) rs1 re1 rx1 h1
  exact ⟨a, ys, rfl, g3, o2 _ M1 H1 own Ext.refl rs1 (walk_enum g4) g1 g2⟩
theorem live_app {S : Sto} {l r : List (Nat × List D)} (h : Live S (l ++ r)) : Live S l ∧ Live S r := ⟨fun p hp => h p (List.mem_append_left _ hp), fun p hp => h p (List.mem_append_right _ hp)⟩
theorem sndI_zip {es : List Expr} {kk : Nat} {tpos : Pos} {e f : Expr} {x y : Ex} {p : Pos} (hg : Gl X "zip") (hm : X.mg "zip" = none) (hs : isStar e = false) (hs2 : isStar f = false) (he : PE X e (tM ca W (ev C x))) (hf : PE X f (tM ca W (ev C y))) :
    PI X (.Tuple es kk tpos) (.Call (.Name "zip" p) [e, f] [] pos) (tI ca W (evIt C (.zip x y))) := by
  refine PI.imp (RZ.pi_zipA hg hm (pa_cons he (pa_cons hf pa_nil (star_cons hs2)) (star_cons hs)) (star_cons hs) (by rw [star_cons hs2]; rfl)) fun σ H Q ⟨M, env, S, rs, re, o⟩ => ?_
  simp only [evIt] at o
  refine ⟨M, env, S, rs, re, o.bind re fun d S1 v M1 H1 e1 rs1 re1 rx1 o1 => ⟨M1, env, S1, rs1, re1, o1.bind re1 fun d2 S2 v2 M2 H2 e2 rs2 re2 rx2 o2 => ?_⟩⟩
  have rx1' := rx1.ext e2
  split at o2
  · obtain ⟨a, vs, rfl, ha, fa, q⟩ := tup_of rs2 rx1'
    obtain ⟨b, us, rfl, hb, fb, r⟩ := tup_of rs2 rx2
    exact ⟨a, b, vs, us, rfl, .inr ⟨SqT.of ha, SqT.of hb, o2 _ M2 H2 [] Ext.refl rs2 (walk_zipT fa q fb r) (fun _ => rfl) (fun p hp => by cases hp)⟩⟩
  · obtain ⟨xs, h1, o3⟩ := outI_oget o2
    obtain ⟨ys, h2, o4⟩ := outI_oget o3
    obtain ⟨a, own, rfl, g1, g2, ⟨zs, g3⟩, g4⟩ := list_place (K := X.K) rs2 re2 rx1' h1
    obtain ⟨b, own', rfl, k1, k2, ⟨ws, k3⟩, k4⟩ := list_place (K := X.K) rs2 re2 rx2 h2
    refine ⟨a, b, zs, ws, rfl, .inl ⟨g3, k3, o4 _ M2 H2 (own ++ own') Ext.refl rs2 (walk_zip fun M H S e rs hl ho => ?_) (fun h => ?_) (fun q hq => ?_)⟩⟩
    · obtain ⟨l1, l2⟩ := live_app hl
      obtain ⟨vs, a1, a2⟩ := g4 M H S e rs l1 (fun q hq => ho q (List.mem_append_left _ hq))
      obtain ⟨us, b1, b2⟩ := k4 M H S e rs l2 (fun q hq => ho q (List.mem_append_right _ hq))
      exact ⟨vs, us, a1, a2, b1, b2⟩
    · rw [Bool.or_eq_false_iff] at h
      rw [g1 h.1, k1 h.2]; rfl
    · rcases List.mem_append.mp hq with z | z
      · exact g2 q z
      · exact k2 q z
end K9
end
section
set_option Elab.async false
set_option linter.all false
set_option maxRecDepth 100000
set_option maxHeartbeats 0
/-! K9Lc: targets, comprehensions. -/
namespace K9
open PySem PySem.Spec PyProof.Rows L2

variable {ca fa : Nat → Addr} {W : WX} {C : Ctx} {X : Cx} {pos : Pos}

/-! ### targets -/
def gNames : List Nat → TGs
  | [] => gNil
  | i :: is => gCons (gName i) (gNames is)
def gD (K : PySem.W.Frag) (tg : List Nat) : TG := match tg with
  | [i] => gName i
  | is => gTup K is.length (gNames is)
section
variable {M : Mem} {env : Env} {σ : L2.St} {H : Hp} {S : Sto}
theorem RelE.set {i : Nat} {v : V} {d : D} (re : RelE ca M env σ H) (r : Rep ca M v d) : RelE ca M (env.set i (.fz d)) (σ.set i (some v)) H := by
  refine ⟨by rw [List.length_set, List.length_set, re.len], fun j s h => ?_, fun j k o o' h1 h2 h3 => ?_⟩
  · by_cases e : i = j
    · subst e
      by_cases hl : i < env.length
      · rw [List.getElem?_set_self hl] at h
        cases h
        rw [List.getElem?_set_self (by rw [← re.len]; exact hl)]
        exact .fz r
      · rw [List.getElem?_eq_none (by rw [List.length_set]; omega)] at h; cases h
    · rw [List.getElem?_set_ne e] at h ⊢
      exact re.sl j s h
  · have n1 : i ≠ j := by
      intro e
      subst e
      by_cases hl : i < env.length
      · rw [List.getElem?_set_self hl] at h1; cases h1
      · rw [List.getElem?_eq_none (by rw [List.length_set]; omega)] at h1; cases h1
    have n2 : i ≠ k := by
      intro e
      subst e
      by_cases hl : i < env.length
      · rw [List.getElem?_set_self hl] at h2; cases h2
      · rw [List.getElem?_eq_none (by rw [List.length_set]; omega)] at h2; cases h2
    rw [List.getElem?_set_ne n1] at h1
    rw [List.getElem?_set_ne n2] at h2
    rw [List.getElem?_set_ne n1, List.getElem?_set_ne n2] at h3
    exact re.ap j k o o' h1 h2 h3
theorem RelE.no {i : Nat} {o : Option V} (re : RelE ca M env σ H) : RelE ca M (env.set i .no) (σ.set i o) H := by
  refine ⟨by rw [List.length_set, List.length_set, re.len], fun j s h => ?_, fun j k o1 o2 h1 h2 h3 => ?_⟩
  · by_cases e : i = j
    · subst e
      by_cases hl : i < env.length
      · rw [List.getElem?_set_self hl] at h
        cases h
        exact .no
      · rw [List.getElem?_eq_none (by rw [List.length_set]; omega)] at h; cases h
    · rw [List.getElem?_set_ne e] at h ⊢
      exact re.sl j s h
  · have n1 : i ≠ j := by
      intro e
      subst e
      by_cases hl : i < env.length
      · rw [List.getElem?_set_self hl] at h1; cases h1
      · rw [List.getElem?_eq_none (by rw [List.length_set]; omega)] at h1; cases h1
    have n2 : i ≠ k := by
      intro e
      subst e
      by_cases hl : i < env.length
      · rw [List.getElem?_set_self hl] at h2; cases h2
      · rw [List.getElem?_eq_none (by rw [List.length_set]; omega)] at h2; cases h2
    rw [List.getElem?_set_ne n1] at h1
    rw [List.getElem?_set_ne n2] at h2
    rw [List.getElem?_set_ne n1, List.getElem?_set_ne n2] at h3
    exact re.ap j k o1 o2 h1 h2 h3
theorem RelE.wipe (re : RelE ca M env σ H) : ∀ vs : List Nat, RelE ca M (wipeE env vs) (L2.wipe σ vs) H
  | [] => re
  | v :: vs => (RelE.wipe re vs).no
theorem wipe_set {σ : L2.St} {i : Nat} {o : Option V} : ∀ {vs : List Nat}, i ∈ vs → L2.wipe (σ.set i o) vs = L2.wipe σ vs
  | [], h => by cases h
  | v :: vs, h => by
    unfold L2.wipe
    by_cases hv : i ∈ vs
    · rw [wipe_set hv]
    · have e : i = v := by
        rcases List.mem_cons.mp h with z | z
        · exact z
        · exact absurd z hv
      subst e
      have : ∀ (ws : List Nat) (σ : L2.St), i ∉ ws → (L2.wipe (σ.set i o) ws).set i none = (L2.wipe σ ws).set i none := by
        intro ws
        induction ws with
        | nil => intro σ _; exact List.set_set ..
        | cons w ws ih =>
          intro σ hn
          have n1 : i ≠ w := fun z => hn (by rw [z]; exact List.mem_cons_self)
          have n2 : i ∉ ws := fun z => hn (List.mem_cons_of_mem _ z)
          unfold L2.wipe
          rw [List.set_comm _ _ (Ne.symm n1), ih σ n2, List.set_comm _ _ n1]
      exact this vs σ hv
theorem wipe_wipe {σ : L2.St} : ∀ {vs : List Nat}, L2.wipe (L2.wipe σ vs) vs = L2.wipe σ vs := by
  have key : ∀ (ws vs : List Nat) (σ : L2.St), (∀ w ∈ ws, w ∈ vs) → L2.wipe (L2.wipe σ ws) vs = L2.wipe σ vs := by
    intro ws
    induction ws with
    | nil => intro vs σ _; rfl
    | cons w ws ih =>
      intro vs σ h
      show L2.wipe ((L2.wipe σ ws).set w none) vs = _
      rw [wipe_set (h w List.mem_cons_self)]
      exact ih vs σ fun z hz => h z (List.mem_cons_of_mem _ hz)
  intro vs
  exact key vs vs σ fun _ h => h
theorem gNames_ok : ∀ {is : List Nat} {ds : List D} {vs : List V} {env : Env} {σ : L2.St} {Q : L2.St → Hp → Prop}, is.length = ds.length → RepL ca M vs ds → RelE ca M env σ H →
    (∀ σ2, RelE ca M (setAll env is ds) σ2 H → (∀ own : List Nat, (∀ i ∈ is, i ∈ own) → L2.wipe σ2 own = L2.wipe σ own) → Q σ2 H) → gNames is vs σ H Q
  | [], [], _, _, _, _, _, .nil, re, h => ⟨rfl, h _ re fun _ _ => rfl⟩
  | i :: is, d :: ds, _, env, σ, Q, hl, .cons r rr, re, h => by
    refine ⟨_, _, rfl, ?_⟩
    show gNames is _ (σ.set i (some _)) H Q
    refine gNames_ok (by simpa using hl) rr (re.set r) fun σ2 h2 hw => h σ2 h2 fun own ho => ?_
    rw [hw own fun j hj => ho j (List.mem_cons_of_mem _ hj)]
    exact wipe_set (ho i List.mem_cons_self)
/-- a target's reading -/
theorem gD_ok {K : PySem.W.Frag} {tg : List Nat} {d : D} {v : V} {e : Env} {Q : L2.St → Hp → Prop} (rs : RelS ca M S H) (re : RelE ca M env σ H) (r : RepX ca M σ v d) (h : asgT tg d env = some e)
    (hq : ∀ σ2, RelE ca M e σ2 H → (∀ own : List Nat, (∀ i ∈ tg, i ∈ own) → L2.wipe σ2 own = L2.wipe σ own) → Q σ2 H) : gD K tg v σ H Q := by
  have tup : ∀ {is : List Nat}, tupT is d env = some e → (∀ σ2, RelE ca M e σ2 H → (∀ own : List Nat, (∀ i ∈ is, i ∈ own) → L2.wipe σ2 own = L2.wipe σ own) → Q σ2 H) → gTup K is.length (gNames is) v σ H Q := by
    intro is h hq
    unfold tupT at h
    cases d with
    | tup xs =>
      simp only at h
      split at h
      · rename_i hl
        cases h
        obtain ⟨a, vs, rfl, ha, fa, q⟩ := tup_of rs r
        exact ⟨a, vs, rfl, SqT.of ha, by rw [q.length, hl], gNames_ok hl.symm q re hq⟩
      · cases h
    | _ => cases h
  cases tg with
  | nil => exact tup h hq
  | cons i is =>
    cases is with
    | nil =>
      cases hd : d.isAcc with
      | true => simp [asgT, hd] at h
      | false =>
        simp only [asgT, hd, Bool.false_eq_true, if_false, Option.some.injEq] at h
        subst h
        exact hq _ (re.set (r.rep hd)) fun own ho => wipe_set (ho i (List.mem_singleton.mpr rfl))
    | cons j is => exact tup h hq
end
/-- a written target -/
theorem pgs_names : ∀ {is : List Nat} {es : List Expr}, X.N.Nodup → is.length = es.length → (∀ p ∈ is.zip es, ∃ x q, p.2 = .Name x q ∧ X.N[p.1]? = some x ∧ Loc X.env.scope x ∧ (X.fn x = true ∨ X.env.scope.names.lookup x = some .local)) → PGs X es (gNames is)
  | [], [], _, _, _ => pgs_nil
  | i :: is, e :: es, hN, hl, h => by
    obtain ⟨x, q, h1, h2, h3, h4⟩ := h (i, e) List.mem_cons_self
    have h1' : e = .Name x q := h1
    subst h1'
    exact pgs_cons (pg_name hN h2 h3 h4) (pgs_names hN (by simpa using hl) fun p hp => h p (List.mem_cons_of_mem _ hp)) (by rfl)
theorem pg_D {tg : List Nat} {e : Expr} (hc : X.calm = true) (hN : X.N.Nodup)
    (h : (∃ i x q, tg = [i] ∧ e = .Name x q ∧ X.N[i]? = some x ∧ Loc X.env.scope x ∧ (X.fn x = true ∨ X.env.scope.names.lookup x = some .local)) ∨
      (∃ es k q, e = .Tuple es k q ∧ tg.length = es.length ∧ 2 ≤ es.length ∧ ∀ p ∈ tg.zip es, ∃ x q, p.2 = .Name x q ∧ X.N[p.1]? = some x ∧ Loc X.env.scope x ∧ (X.fn x = true ∨ X.env.scope.names.lookup x = some .local))) : PG X e (gD X.K tg) := by
  rcases h with ⟨i, x, q, rfl, rfl, h2, h3, h4⟩ | ⟨es, k, q, rfl, hl, h2, hp⟩
  · exact pg_name hN h2 h3 h4
  · have names : ∀ {is : List Nat} {es : List Expr}, is.length = es.length → (∀ p ∈ is.zip es, ∃ x q, p.2 = .Name x q ∧ X.N[p.1]? = some x ∧ Loc X.env.scope x ∧ (X.fn x = true ∨ X.env.scope.names.lookup x = some .local)) → (assignEach es X.env).length = is.length ∧ (assignEach es X.env).findIdx? (·.1) = none := by
      intro is
      induction is with
      | nil =>
        intro es hl _
        cases es with
        | nil => exact ⟨rfl, rfl⟩
        | cons _ _ => cases hl
      | cons i is ih =>
        intro es hl hp
        cases es with
        | nil => cases hl
        | cons e es =>
          obtain ⟨x, q, h1, _⟩ := hp (i, e) List.mem_cons_self
          have h1' : e = .Name x q := h1
          subst h1'
          obtain ⟨a, b⟩ := ih (es := es) (by simpa using hl) fun p hp' => hp p (List.mem_cons_of_mem _ hp')
          refine ⟨?_, ?_⟩
          · show (assignEach es X.env).length + 1 = is.length + 1
            rw [a]
          · show List.findIdx? _ ((false, assign (.Name x q) X.env) :: assignEach es X.env) = none
            rw [List.findIdx?_cons, b]; rfl
    obtain ⟨n1, n2⟩ := names hl hp
    have ht : gD X.K tg = gTup X.K tg.length (gNames tg) := by
      cases tg with
      | nil => rfl
      | cons i is =>
        cases is with
        | nil => simp at hl; omega
        | cons j is => rfl
    rw [ht]
    exact pg_tup hc (pgs_names hN hl hp) n1 n2
end K9
end
section
set_option Elab.async false
set_option linter.all false
set_option maxRecDepth 100000
set_option maxHeartbeats 0
/-! K9Lc2: comprehensions. -/
namespace K9
open PySem PySem.Spec PyProof.Rows L2

variable {ca fa : Nat → Addr} {W : WX} {C : Ctx} {X : Cx} {pos : Pos}
abbrev WF : WX := fun _ _ _ _ => False
theorem live_chk {α : Type} {S : Sto} {l : List (Nat × List D)} {r x : R α} (h : chkLive S l r = x) (hx : x ≠ .bad) : Live S l ∧ r = x := by
  unfold chkLive at h
  split at h
  · exact ⟨(fun p hp => by cases hp), h⟩
  · split at h
    · rename_i hl; exact ⟨hl, h⟩
    · exact absurd h.symm hx
/-- an own accumulator's content exchanged -/
theorem rel_upd {M : Mem} {S : Sto} {H : Hp} {a : Addr} {o o' : HO} (rs : RelS ca M S H) (ha : H a = some o) (h1 : M.F a = none) (h2 : a ∉ M.mu) : RelS ca M S (upd H a o') := by
  refine ⟨fun b u h => ?_, rs.len, rs.nd, rs.off, fun n ob h => ?_, fun b h => rs.h0 b (upd_none h)⟩
  · rw [upd_ne (fun z => by rw [z, h1] at h; cases h)]; exact rs.frz b u h
  · obtain ⟨b, ho, k1, k2, k3⟩ := rs.ob n ob h
    refine ⟨b, ho, k1, ?_, k3⟩
    rw [upd_ne (fun z => h2 (by rw [← z]; exact List.mem_of_getElem? k1))]; exact k2
theorem ext_upd {M M1 : Mem} {H H1 : Hp} {a : Addr} {o' : HO} (e : Ext M H M1 H1) (hn : H a = none) : Ext M H M1 (upd H1 a o') where
  F := e.F
  mu := e.mu
  h0 := e.h0
  sa := e.sa
  rest := fun b u h n => by rw [upd_ne (ne_of_none h hn)]; exact e.rest b u h n
  newF := e.newF
  newM := e.newM
  dom := fun b u h => by
    obtain ⟨u', h'⟩ := e.dom b u h
    exact ⟨u', by rw [upd_ne (ne_of_none h hn)]; exact h'⟩
theorem tM_lc {K : PySem.W.Frag} {own tg : List Nat} {it : It} {c elt : Ex} {σ : L2.St} {H : Hp} {Q : VK} (htg : ∀ i ∈ tg, i ∈ own) (h : tM ca W (ev C (.lc own tg it c elt)) σ H Q) :
    tLc (tI ca W (evIt C it)) (gD K tg) (tMT ca WF (ev C c)) (tM ca WF (ev C elt)) own σ H Q := by
  obtain ⟨M, env, S, rs, re, o⟩ := h
  simp only [ev] at o
  refine ⟨M, env, S, rs, re, ?_⟩
  cases hit : evIt C it env S with
  | bad => rw [hit] at o; exact o
  | er c' d S' => rw [hit] at o; exact o
  | ok p S1 =>
    rw [hit] at o
    intro J M1 H1 ow e1 rs1 wk hacc hown D hD
    have re1 := re.ext e1
    have o1 : Out ca W M1 σ H1 (noEr ((lcGo (ev C c) (ev C elt) tg (wipeE env own) p.live p.xs [] S1).bind fun ys S2 => mkL ys S2)) Q :=
      Out.ext (r := noEr ((lcGo (ev C c) (ev C elt) tg (wipeE env own) p.live p.xs [] S1).bind fun ys S2 => mkL ys S2)) o e1
    -- the state at a turn
    let St : Nat → Hp → Prop := fun i H' => ∃ M' S' ys acc, Ext M1 H1 M' H' ∧ RelS ca M' S' H' ∧ H' D = some (.lst acc) ∧ M'.F D = none ∧ D ∉ M'.mu ∧ RepL ca M' acc ys ∧ i ≤ p.xs.length ∧
      Out ca W M1 σ H1 (noEr ((lcGo (ev C c) (ev C elt) tg (wipeE env own) p.live (p.xs.drop i) ys S').bind fun ys S2 => mkL ys S2)) Q
    refine ⟨fun i m H' => m = p.xs.length - i ∧ St i H', ⟨p.xs.length, rfl, M1, S1, [], [], ?_, ?_, upd_same, free_F rs1 hD, free_mu rs1 hD, .nil, Nat.zero_le _, o1⟩, ?_⟩
    · exact ext_upd Ext.refl hD
    · refine ⟨fun b u h => ?_, rs1.len, rs1.nd, rs1.off, fun n ob h => ?_, fun b h => rs1.h0 b (upd_none h)⟩
      · rw [upd_ne (fun z => by rw [z, free_F rs1 hD] at h; cases h)]; exact rs1.frz b u h
      · obtain ⟨b, ho, k1, k2, k3⟩ := rs1.ob n ob h
        exact ⟨b, ho, k1, by rw [upd_ne (ne_of_none k2 hD)]; exact k2, k3⟩
    · rintro i m H2 ⟨rfl, M2, S2, ys, acc, e2, rs2, hd, hF, hM, ra, hi, o2⟩
      have ho2 : ∀ q ∈ ow, H2 q.1 = some (.lst q.2) := fun q hq => e2.rest _ _ (hown q hq).2 (hown q hq).1
      cases hx : p.xs.drop i with
      | nil =>
        rw [hx] at o2
        have hl : p.xs.length ≤ i := by
          have := congrArg List.length hx
          rw [List.length_drop, List.length_nil] at this; omega
        simp only [lcGo] at o2
        cases hc : chkLive S2 p.live (R.ok ys S2) with
        | bad => rw [hc] at o2; exact o2.elim
        | er c' d S' =>
          obtain ⟨_, z⟩ := live_chk hc (fun z => nomatch z)
          cases z
        | ok ys' S' =>
          obtain ⟨hlv, z⟩ := live_chk hc (fun z => nomatch z)
          cases z
          rw [hc] at o2
          refine .inl ⟨(wk M2 H2 S2 i e2.m rs2 hlv ho2).1 hl, ?_⟩
          have o3 : Out ca W M1 σ H1 (noEr (mkL ys S2)) Q := o2
          unfold mkL chk at o3
          by_cases hz : ys.length ≤ sizeLine
          · rw [if_pos hz] at o3
            exact (show Out ca W M1 σ H1 (.ok (.own (.lst ys)) S2) Q from o3) (.ref D) M2 H2 e2 rs2 ⟨D, .lst acc, .lst ys, rfl, hD, hd, rfl, .lst ra, hF, hM⟩
          · rw [if_neg hz] at o3; exact o3.elim
      | cons d rest =>
        rw [hx] at o2
        have hdi : p.xs[i]? = some d := by
          have := congrArg (·[0]?) hx
          simpa [List.getElem?_drop] using this
        have hrest : p.xs.drop (i + 1) = rest := by
          rw [← List.tail_drop, hx]; rfl
        have hlt : i < p.xs.length := (List.getElem?_eq_some_iff.mp hdi).1
        simp only [lcGo] at o2
        cases hc : chkLive S2 p.live (oget (asgT tg d (wipeE env own)) fun e => (ev C c e S2).bindR fun b S1 => ifD b ((ev C elt e S1).bindR fun y S2 => if y.isAcc then .bad else chk (ys.length < sizeLine) (lcGo (ev C c) (ev C elt) tg (wipeE env own) p.live rest (ys ++ [y]) S2)) (lcGo (ev C c) (ev C elt) tg (wipeE env own) p.live rest ys S1)) with
        | bad => rw [hc] at o2; exact o2.elim
        | er c' d' S' => rw [hc] at o2; exact o2.elim
        | ok zs S' =>
          obtain ⟨hlv, z⟩ := live_chk hc (fun z => nomatch z)
          rw [hc, ← z] at o2
          clear hc z
          obtain ⟨hgo, hy⟩ := (wk M2 H2 S2 i e2.m rs2 hlv ho2).2 d hdi
          refine .inr ⟨hgo, fun H' => St (i + 1) H', fun H' q => ⟨p.xs.length - (i + 1), by omega, rfl, q⟩, fun x H3 hyl => ?_⟩
          obtain ⟨M3, e3, rs3, rx⟩ := hy x H3 hyl
          cases ha : asgT tg d (wipeE env own) with
          | none => rw [ha] at o2; exact o2.elim
          | some e =>
            rw [ha] at o2
            have o2 : Out ca W M1 σ H1 (noEr (((ev C c e S2).bindR fun b S1 => ifD b ((ev C elt e S1).bindR fun y S2 => if y.isAcc then .bad else chk (ys.length < sizeLine) (lcGo (ev C c) (ev C elt) tg (wipeE env own) p.live rest (ys ++ [y]) S2)) (lcGo (ev C c) (ev C elt) tg (wipeE env own) p.live rest ys S1)).bind fun ys S2 => mkL ys S2)) Q := o2
            have e13 := e2.trans e3
            have rew := (re1.ext e13).wipe own
            have hd3 : H3 D = some (.lst acc) := e3.rest _ _ hd hM
            have hM3 : D ∉ M3.mu := fun q => by rw [e3.newM D q hM] at hd; cases hd
            have hF3 : M3.F D = none := by
              cases q : M3.F D with
              | none => rfl
              | some u => rw [e3.newF D u q hF] at hd; cases hd
            refine gD_ok (ca := ca) (K := K) rs3 rew (RepX.of rx) ha fun σ2 re2 hw => ⟨(hw own htg).trans wipe_wipe, M3, e, S2, rs3, re2, ?_⟩
            cases hc : ev C c e S2 with
            | bad => rw [hc] at o2; exact o2.elim
            | er c' d' S' => rw [hc] at o2; exact o2.elim
            | ok b S3 =>
              rw [hc] at o2
              intro v M4 H4 e4 rs4 rt
              obtain ⟨M5, e5, rs5, rx5⟩ := rt.hold e4 rs4
              have hd5 : H4 D = some (.lst acc) := e5.rest _ _ hd3 hM3
              have hM5 : D ∉ M5.mu := fun q => by rw [e5.newM D q hM3] at hd3; cases hd3
              have hF5 : M5.F D = none := by
                cases q : M5.F D with
                | none => rfl
                | some u => rw [e5.newF D u q hF3] at hd3; cases hd3
              have o3 : Out ca W M1 σ H1 (noEr ((ifD (rd b) ((ev C elt e S3).bindR fun y S2 => if y.isAcc then .bad else chk (ys.length < sizeLine) (lcGo (ev C c) (ev C elt) tg (wipeE env own) p.live rest (ys ++ [y]) S2)) (lcGo (ev C c) (ev C elt) tg (wipeE env own) p.live rest ys S3)).bind fun ys S2 => mkL ys S2)) Q := o2
              generalize hrb : rd b = b' at o3 rx5
              cases b' with
              | bl k =>
                obtain rfl := bl_of rx5
                refine ⟨k, rfl, ?_⟩
                cases k with
                | false =>
                  refine iteF ⟨M5, S3, ys, acc, e13.trans e5, rs5, hd5, hF5, hM5, e5.repL (e3.repL ra), hlt, ?_⟩
                  rw [hrest]; exact o3
                | true =>
                  refine iteT ⟨M5, e, S3, rs5, re2.ext e5, ?_⟩
                  have o4 : Out ca W M1 σ H1 (noEr (((ev C elt e S3).bindR fun y S2 => if y.isAcc then .bad else chk (ys.length < sizeLine) (lcGo (ev C c) (ev C elt) tg (wipeE env own) p.live rest (ys ++ [y]) S2)).bind fun ys S2 => mkL ys S2)) Q := o3
                  cases he : ev C elt e S3 with
                  | bad => rw [he] at o4; exact o4.elim
                  | er c' d' S' => rw [he] at o4; exact o4.elim
                  | ok y S4 =>
                    rw [he] at o4
                    intro v2 M6 H6 e6 rs6 rt6
                    obtain ⟨M7, e7, rs7, rx7⟩ := rt6.hold e6 rs6
                    have hd7 : H6 D = some (.lst acc) := e7.rest _ _ hd5 hM5
                    have hM7 : D ∉ M7.mu := fun q => by rw [e7.newM D q hM5] at hd5; cases hd5
                    have hF7 : M7.F D = none := by
                      cases q : M7.F D with
                      | none => rfl
                      | some u => rw [e7.newF D u q hF5] at hd5; cases hd5
                    have o5 : Out ca W M1 σ H1 (noEr ((if (rd y).isAcc then .bad else chk (ys.length < sizeLine) (lcGo (ev C c) (ev C elt) tg (wipeE env own) p.live rest (ys ++ [rd y]) S4)).bind fun ys S2 => mkL ys S2)) Q := o4
                    cases hya : (rd y).isAcc with
                    | true => rw [hya] at o5; exact o5.elim
                    | false =>
                      rw [hya] at o5
                      simp only [Bool.false_eq_true, if_false] at o5
                      by_cases hz : ys.length < sizeLine
                      · simp only [chk, if_pos hz] at o5
                        have ra7 := e7.repL (e5.repL (e3.repL ra))
                        refine ⟨acc, hd7, by rw [ra.length]; exact hz, M7, S4, ys ++ [rd y], acc ++ [v2], ext_upd ((e13.trans e5).trans e7) hD, rel_upd rs7 hd7 hF7 hM7, upd_same, hF7, hM7, ra7.append (.cons (rx7.rep hya) .nil), hlt, ?_⟩
                        rw [hrest]; exact o5
                      · simp only [chk, if_neg hz] at o5; exact o5.elim
              | _ => exact o3.elim
end K9
end
section
set_option Elab.async false
set_option linter.all false
set_option maxRecDepth 100000
set_option maxHeartbeats 0
/-! K9Stm: statements. -/
namespace K9
open PySem PySem.Spec PyProof.Rows L2

variable {ca fa : Nat → Addr} {W : WX} {C : Ctx} {X : Cx} {pos : Pos} {M0 : Mem} {H0 : Hp}
/-- an outcome of statements; M0, H0 at the def's entry, M at this statement's -/
def OutS (ca : Nat → Addr) (W : WX) (M0 : Mem) (H0 : Hp) (M : Mem) (r : R Fl) (D : Ends) : Prop := match r with
  | .ok (.nx env) S => ∀ σ' M' H', ExtM M M' → Ext M0 H0 M' H' → RelS ca M' S H' → RelE ca M' env σ' H' → D.nx σ' H'
  | .ok (.ct env) S => ∀ σ' M' H', ExtM M M' → Ext M0 H0 M' H' → RelS ca M' S H' → RelE ca M' env σ' H' → D.ct σ' H'
  | .ok (.rt d) S => ∀ v M' H', ExtM M M' → Ext M0 H0 M' H' → RelS ca M' S H' → RepU ca H0 M' H' v d → D.rt v H'
  | .er c d S => ∀ cls dd σ' M' H', ExtM M M' → Ext M0 H0 M' H' → RelS ca M' S H' → ExcR ca M' H' c d cls dd → H0 dd.get! = none → W cls dd σ' H'
  | .bad => False
theorem OutS.ext {M M1 : Mem} {r : R Fl} {D : Ends} (h : OutS ca W M0 H0 M r D) (e : ExtM M M1) : OutS ca W M0 H0 M1 r D := by
  cases r with
  | bad => exact h
  | er c d S => exact fun cls dd σ' M' H' x => h cls dd σ' M' H' (e.trans x)
  | ok f S =>
    cases f with
    | nx env => exact fun σ' M' H' x => h σ' M' H' (e.trans x)
    | ct env => exact fun σ' M' H' x => h σ' M' H' (e.trans x)
    | rt d => exact fun v M' H' x => h v M' H' (e.trans x)
def tS (ca : Nat → Addr) (W : WX) (M0 : Mem) (H0 : Hp) (f : Env → Sto → R Fl) : TS := fun D σ H => ∃ M env S, Ext M0 H0 M H ∧ M0.H0 = H0 ∧ RelS ca M S H ∧ RelE ca M env σ H ∧ OutS ca W M0 H0 M (f env S) D
theorem PS.imp {e : Stmt} {t t' : TS} (h : PS X e t) (q : ∀ D σ H, t' D σ H → t D σ H) : PS X e t' := ⟨fun pins s σ H D I z => h.run pins s σ H D I (q D σ H z)⟩
theorem PSs.imp {e : List Stmt} {t t' : TS} (h : PSs X e t) (q : ∀ D σ H, t' D σ H → t D σ H) : PSs X e t' := ⟨fun pins s σ H D I z => h.run pins s σ H D I (q D σ H z)⟩
section
variable {M M1 : Mem} {H H1 : Hp} {σ : L2.St} {env : Env} {S : Sto} {E : Ends}
/-- a value, then the rest -/
theorem OutS.bind {r : R D} {k : D → Sto → R Fl} {Q1 : VK} (h : OutS ca W M0 H0 M (r.bindR k) E) (e0 : Ext M0 H0 M H) (re : RelE ca M env σ H)
    (hk : ∀ d S1 v M1 H1, Ext M H M1 H1 → RelS ca M1 S1 H1 → RelE ca M1 env σ H1 → RepX ca M1 σ v d → Ext M0 H0 M1 H1 → OutS ca W M0 H0 M1 (k d S1) E → Q1 v H1) : Out ca W M σ H r Q1 := by
  cases r with
  | bad => exact h
  | er c d S' => exact fun cls dd M' H' e rs ex hd => h cls dd σ M' H' e.m (e0.trans e) rs ex (e0.none hd)
  | ok d S' =>
    intro v M1 H1 e rs rt
    obtain ⟨M2, e2, rs2, rx⟩ := rt.hold e rs
    exact hk (rd d) S' v M2 H1 e2 rs2 (re.ext e2) rx (e0.trans e2) (OutS.ext (r := k (rd d) S') h e2.m)
/-- .. as it is -/
theorem OutS.bind0 {r : R D} {k : D → Sto → R Fl} {Q1 : VK} (h : OutS ca W M0 H0 M (r.bind k) E) (e0 : Ext M0 H0 M H) (re : RelE ca M env σ H)
    (hk : ∀ d S1 v M1 H1, Ext M H M1 H1 → RelS ca M1 S1 H1 → RelE ca M1 env σ H1 → RepT ca σ H M1 H1 v d → Ext M0 H0 M1 H1 → OutS ca W M0 H0 M1 (k d S1) E → Q1 v H1) : Out ca W M σ H r Q1 := by
  cases r with
  | bad => exact h
  | er c d S' => exact fun cls dd M' H' e rs ex hd => h cls dd σ M' H' e.m (e0.trans e) rs ex (e0.none hd)
  | ok d S' => exact fun v M1 H1 e rs rt => hk d S' v M1 H1 e rs (re.ext e) rt (e0.trans e) (OutS.ext (r := k d S') h e.m)
/-- values, then the rest -/
theorem OutS.bindL {rel : Mem → List V → List D → Prop} {r : R (List D)} {k : List D → Sto → R Fl} {Q1 : List V → Hp → Prop} (h : OutS ca W M0 H0 M (r.bind k) E) (e0 : Ext M0 H0 M H) (re : RelE ca M env σ H)
    (hk : ∀ d S1 v M1 H1, Ext M H M1 H1 → RelS ca M1 S1 H1 → RelE ca M1 env σ H1 → rel M1 v d → Ext M0 H0 M1 H1 → OutS ca W M0 H0 M1 (k d S1) E → Q1 v H1) : OutL rel ca W M σ H r Q1 := by
  cases r with
  | bad => exact h
  | er c d S' => exact fun cls dd M' H' e rs ex hd => h cls dd σ M' H' e.m (e0.trans e) rs ex (e0.none hd)
  | ok d S' => exact fun v M1 H1 e rs rx => hk d S' v M1 H1 e rs (re.ext e) rx (e0.trans e) (OutS.ext (r := k d S') h e.m)
theorem outS_chk {p : Prop} [Decidable p] {r : R Fl} (o : OutS ca W M0 H0 M (chk p r) E) : p ∧ OutS ca W M0 H0 M r E := by
  unfold chk at o
  by_cases h : p
  · rw [if_pos h] at o; exact ⟨h, o⟩
  · rw [if_neg h] at o; exact o.elim
theorem outS_oget {α : Type} {x : Option α} {k : α → R Fl} (o : OutS ca W M0 H0 M (oget x k) E) : ∃ a, x = some a ∧ OutS ca W M0 H0 M (k a) E := by
  cases x with
  | none => exact o.elim
  | some a => exact ⟨a, rfl, o⟩
theorem outS_nx (o : OutS ca W M0 H0 M (.ok (.nx env) S) E) (e0 : Ext M0 H0 M H) (rs : RelS ca M S H) (re : RelE ca M env σ H) : E.nx σ H := o σ M H ExtM.refl e0 rs re
/-- statements one after another: the ends of the first one -/
theorem OutS.seq {r : R Fl} {k : Env → Sto → R Fl} {N : L2.St → Hp → Prop} (h : OutS ca W M0 H0 M (r.bind fun f S1 => match f with | .nx e1 => k e1 S1 | .rt d => .ok (.rt d) S1 | .ct e1 => .ok (.ct e1) S1) E)
    (hk : ∀ e1 S1 σ1 M1 H1, ExtM M M1 → Ext M0 H0 M1 H1 → RelS ca M1 S1 H1 → RelE ca M1 e1 σ1 H1 → OutS ca W M0 H0 M1 (k e1 S1) E → N σ1 H1) : OutS ca W M0 H0 M r { E with nx := N } := by
  cases r with
  | bad => exact h
  | er c d S' => exact h
  | ok f S' =>
    cases f with
    | nx e1 => exact fun σ' M' H' e e2 rs re => hk e1 S' σ' M' H' e e2 rs re (OutS.ext (r := k e1 S') h e)
    | ct e1 => exact h
    | rt d => exact h
end

/-! ### one after another -/
theorem sndS_nil : PSs X [] (tS ca W M0 H0 (exSs C .nil)) := PSs.imp pss_nil fun E σ H ⟨M, env, S, e0, h0, rs, re, o⟩ => outS_nx (by simpa only [exSs] using o) e0 rs re
theorem sndS_cons {s : Stmt} {ss : List Stmt} {x : Sm} {xs : Sms} (h1 : PS X s (tS ca W M0 H0 (exS C x))) (h2 : PSs X ss (tS ca W M0 H0 (exSs C xs))) : PSs X (s :: ss) (tS ca W M0 H0 (exSs C (.cons x xs))) := by
  refine PSs.imp (pss_cons h1 h2) fun E σ H ⟨M, env, S, e0, h0, rs, re, o⟩ => ?_
  simp only [exSs] at o
  exact ⟨M, env, S, e0, h0, rs, re, OutS.seq (k := fun e1 S1 => exSs C xs e1 S1) o fun e1 S1 σ1 M1 H1 e e1' rs1 re1 o1 => ⟨M1, e1, S1, e1', h0, rs1, re1, o1⟩⟩
/-- a statement that the text has not -/
theorem sndS_ghost {ss : List Stmt} {x : Sm} {xs : Sms} (hg : ∀ E σ H, tS ca W M0 H0 (exS C x) E σ H → E.nx σ H) (h2 : PSs X ss (tS ca W M0 H0 (exSs C xs))) : PSs X ss (tS ca W M0 H0 (exSs C (.cons x xs))) := by
  refine PSs.imp h2 fun E σ H ⟨M, env, S, e0, h0, rs, re, o⟩ => ?_
  simp only [exSs] at o
  exact hg { E with nx := fun σ' H' => tS ca W M0 H0 (exSs C xs) E σ' H' } σ H ⟨M, env, S, e0, h0, rs, re, OutS.seq (k := fun e1 S1 => exSs C xs e1 S1) o fun e1 S1 σ1 M1 H1 e e1' rs1 re1 o1 => ⟨M1, e1, S1, e1', h0, rs1, re1, o1⟩⟩

/-! ### assignments -/
theorem asg_name {i : Nat} {e : Ex} {E : Ends} {σ : L2.St} {H : Hp} (h : tS ca W M0 H0 (exS C (.asg i e)) E σ H) : tAsg (tM ca W (ev C e)) (gName i) E σ H := by
  obtain ⟨M, env, S, e0, h0, rs, re, o⟩ := h
  simp only [exS] at o
  refine ⟨M, env, S, rs, re, o.bind e0 re fun d S1 v M1 H1 e1 rs1 re1 rx1 e01 o1 => ?_⟩
  cases hd : d.isAcc with
  | true => rw [hd] at o1; exact o1.elim
  | false =>
    rw [hd] at o1
    exact outS_nx o1 e01 rs1 (re1.set (rx1.rep hd))
/-- an object just made becomes the name's own -/
theorem acc_name {i : Nat} {e : Ex} {E : Ends} {σ : L2.St} {H : Hp} (h : tS ca W M0 H0 (exS C (.acc i e)) E σ H) : tAsg (tM ca W (ev C e)) (gName i) E σ H := by
  obtain ⟨M, env, S, e0, h0, rs, re, o⟩ := h
  simp only [exS] at o
  refine ⟨M, env, S, rs, re, o.bind0 e0 re fun d S1 v M1 H1 e1 rs1 re1 rt e01 o1 => ?_⟩
  cases d with
  | own d =>
    obtain ⟨ob, h1, o2⟩ := outS_oget o1
    obtain ⟨p, ho, ob', rfl, k1, k2, k3, k4, k5, k6⟩ := rt
    have hob : ob' = ob ∧ ∀ c fs vs, ob ≠ .ins c fs vs := by
      cases d <;> cases h1 <;> cases k3 <;> exact ⟨rfl, fun _ _ _ z => nomatch z⟩
    obtain ⟨rfl, hni⟩ := hob
    refine outS_nx o2 e01 rs1 ⟨by rw [List.length_set, List.length_set, re1.len], fun j s h => ?_, fun j k o o' h1 h2 h3 => ?_⟩
    · by_cases e : i = j
      · subst e
        by_cases hl : i < env.length
        · rw [List.getElem?_set_self hl] at h
          cases h
          rw [List.getElem?_set_self (by rw [← re1.len]; exact hl)]
          exact .al k2 k4 k5 k6 (by rw [e1.h0]; exact rs.h0 p k1) fun c fs vs z => absurd z (hni c fs vs)
        · rw [List.getElem?_eq_none (by rw [List.length_set]; omega)] at h; cases h
      · rw [List.getElem?_set_ne e] at h ⊢
        exact re1.sl j s h
    · -- own objects stay apart
      have apart : ∀ {k : Nat} {o' : Ob}, i ≠ k → env[k]? = some (.al o') → (σ.set i (some (.ref p)))[i]? = (σ.set i (some (V.ref p)))[k]? → False := by
        intro k o' ne hk he
        rw [List.getElem?_set_ne ne] at he
        have z := re.sl k _ hk
        have hli : i < σ.length := by
          by_cases hl : i < σ.length
          · exact hl
          · rw [List.getElem?_eq_none (by rw [List.length_set]; omega)] at he
            rw [← he] at z
            cases z
        rw [List.getElem?_set_self hli] at he
        rw [← he] at z
        cases z with
        | al g1 g2 g3 g4 g5 g6 => rw [k1] at g1; cases g1
      by_cases ej : i = j
      · by_cases ek : i = k
        · exact ej.symm.trans ek
        · subst ej
          rw [List.getElem?_set_ne ek] at h2
          exact (apart ek h2 h3).elim
      · by_cases ek : i = k
        · subst ek
          rw [List.getElem?_set_ne ej] at h1
          exact (apart ej h1 h3.symm).elim
        · rw [List.getElem?_set_ne ej] at h1
          rw [List.getElem?_set_ne ek] at h2
          rw [List.getElem?_set_ne ej, List.getElem?_set_ne ek] at h3
          exact re1.ap j k o o' h1 h2 h3
  | _ => exact o1.elim
theorem unp_name {K : PySem.W.Frag} {is : List Nat} {e : Ex} {E : Ends} {σ : L2.St} {H : Hp} (h : tS ca W M0 H0 (exS C (.unp is e)) E σ H) : tAsg (tM ca W (ev C e)) (gD K is) E σ H := by
  obtain ⟨M, env, S, e0, h0, rs, re, o⟩ := h
  simp only [exS] at o
  refine ⟨M, env, S, rs, re, o.bind e0 re fun d S1 v M1 H1 e1 rs1 re1 rx1 e01 o1 => ?_⟩
  obtain ⟨en, h1, o2⟩ := outS_oget o1
  exact gD_ok rs1 re1 rx1 h1 fun σ2 re2 _ => outS_nx o2 e01 rs1 re2
/-- the own object of a name is held from now on -/
theorem frz_name {i : Nat} {E : Ends} {σ : L2.St} {H : Hp} (h : tS ca W M0 H0 (exS C (.frz i)) E σ H) : E.nx σ H := by
  obtain ⟨M, env, S, e0, h0, rs, re, o⟩ := h
  simp only [exS] at o
  cases he : env[i]? with
  | none => rw [he] at o; exact o.elim
  | some s =>
    rw [he] at o
    cases s with
    | no => exact o.elim
    | fz d => exact o.elim
    | al ob =>
      have z := re.sl i _ he
      generalize hs : σ[i]? = so at z
      cases z with
      | al g1 g2 g3 g4 g5 g6 =>
        rename_i a ho
        have hF : ∀ b u, M.F b = some u → (upd M.F a ho) b = some u := fun b u h => by
          rw [upd_ne (fun z => by rw [z, g3] at h; cases h)]; exact h
        have em : ExtM M { M with F := upd M.F a ho } := ⟨hF, fun _ _ h => h, rfl, rfl⟩
        refine o σ { M with F := upd M.F a ho } H em ⟨fun b u h => hF b u (e0.F b u h), e0.mu, e0.h0, e0.sa, e0.rest, fun b u h n => ?_, e0.newM, e0.dom⟩ ⟨fun b u h => ?_, rs.len, rs.nd, fun b h => ?_, fun n ob' h => ?_, rs.h0⟩ ⟨by rw [List.length_set, re.len], fun j s h => ?_, fun j k o1 o2 h1 h2 h3 => ?_⟩
        · by_cases zz : b = a
          · rw [zz, ← h0, ← e0.h0]; exact g5
          · exact e0.newF b u (by rw [← h]; exact (upd_ne zz).symm) n
        · by_cases zz : b = a
          · subst zz
            have h' : upd M.F b ho b = some u := h
            rw [upd_same] at h'
            cases h'
            exact g1
          · exact rs.frz b u (by rw [← h]; exact (upd_ne zz).symm)
        · have hne : b ≠ a := fun zz => g4 (by rw [← zz]; exact h)
          exact (upd_ne hne).trans (rs.off b h)
        · obtain ⟨b, ho', k1, k2, k3⟩ := rs.ob n ob' h
          exact ⟨b, ho', k1, k2, ObR.mono (M := M) (M' := { M with F := upd M.F a ho }) hF (fun _ _ h => h) rfl k3⟩
        · by_cases ee : i = j
          · subst ee
            by_cases hl : i < env.length
            · rw [List.getElem?_set_self hl] at h
              cases h
              rw [hs]
              exact .fz (ObR.d (ObR.mono (M := M) (M' := { M with F := upd M.F a ho }) hF (fun _ _ h => h) rfl g2) upd_same)
            · rw [List.getElem?_eq_none (by rw [List.length_set]; omega)] at h; cases h
          · rw [List.getElem?_set_ne ee] at h
            have y := re.sl j s h
            generalize hsj : σ[j]? = sj at y
            cases y with
            | no => exact .no
            | fz r => exact .fz (em.rep r)
            | al f1 f2 f3 f4 f5 f6 =>
              rename_i b ho2 ob2
              have hne : b ≠ a := fun zz => ee (re.ap i j _ _ he h (by rw [hs, hsj, zz]))
              exact .al f1 (ObR.mono (M := M) (M' := { M with F := upd M.F a ho }) hF (fun _ _ h => h) rfl f2) ((upd_ne hne).trans f3) f4 f5 f6
        · have n1 : i ≠ j := by
            intro zz
            subst zz
            rw [List.getElem?_set_self (List.getElem?_eq_some_iff.mp he).1] at h1; cases h1
          have n2 : i ≠ k := by
            intro zz
            subst zz
            rw [List.getElem?_set_self (List.getElem?_eq_some_iff.mp he).1] at h2; cases h2
          rw [List.getElem?_set_ne n1] at h1
          rw [List.getElem?_set_ne n2] at h2
          exact re.ap j k o1 o2 h1 h2 h3

/-! ### return, if, expressions -/
theorem sndS_ret {e : Expr} {x : Ex} (he : PE X e (tM ca W (ev C x))) : PS X (.Return (some e) pos) (tS ca W M0 H0 (exS C (.ret x))) := by
  refine PS.imp (ps_ret he) fun E σ H ⟨M, env, S, e0, h0, rs, re, o⟩ => ?_
  simp only [exS] at o
  refine ⟨M, env, S, rs, re, o.bind0 e0 re fun d S1 v M1 H1 e1 rs1 re1 rt e01 o1 => ?_⟩
  obtain ⟨d', h1, o2⟩ := outS_oget o1
  refine o2 v M1 H1 ExtM.refl e01 rs1 ?_
  unfold outD at h1
  cases d with
  | acc i =>
    have rt' : σ[i]? = some (some v) := rt
    simp only at h1
    cases he : env[i]? with
    | none => rw [he] at h1; cases h1
    | some s =>
      rw [he] at h1
      cases s with
      | al ob =>
        cases h1
        have z := re1.sl i _ he
        rw [rt'] at z
        cases z with
        | al g1 g2 g3 g4 g5 g6 =>
          refine ⟨_, _, ob, rfl, ?_, g1, obOf_of ob, g2, g3, g4⟩
          rw [← h0, ← e01.h0]; exact g5
      | no => cases h1
      | fz _ => cases h1
  | own d =>
    cases h1
    obtain ⟨p, ho, ob, rfl, k1, k2⟩ := rt
    exact ⟨p, ho, ob, rfl, e0.none k1, k2⟩
  | _ => cases h1; exact rt
theorem sndS_expr {e : Expr} {x : Ex} (he : PE X e (tM ca W (ev C x))) (hs : swapsWith e none pos.line X.env = pure false) : PS X (.Expr e pos) (tS ca W M0 H0 (exS C (.expr x))) := by
  refine PS.imp (ps_expr he hs) fun E σ H ⟨M, env, S, e0, h0, rs, re, o⟩ => ?_
  simp only [exS] at o
  exact ⟨M, env, S, rs, re, o.bind e0 re fun d S1 v M1 H1 e1 rs1 re1 rx1 e01 o1 => outS_nx o1 e01 rs1 re1⟩
theorem sndS_ite {c : Expr} {p q : List Stmt} {x : Ex} {xs ys : Sms} (hc : PT X c (tMT ca W (ev C x))) (hp : PSs X p (tS ca W M0 H0 (exSs C xs))) (hq : PSs X q (tS ca W M0 H0 (exSs C ys))) : PS X (.If c p q pos) (tS ca W M0 H0 (exS C (.ite x xs ys))) := by
  refine PS.imp (ps_if hc hp hq) fun E σ H ⟨M, env, S, e0, h0, rs, re, o⟩ => ?_
  simp only [exS] at o
  refine ⟨M, env, S, rs, re, o.bind e0 re fun d S1 v M1 H1 e1 rs1 re1 rx1 e01 o1 => ?_⟩
  cases d with
  | bl b =>
    obtain rfl := bl_of rx1
    refine ⟨b, rfl, ?_⟩
    cases b with
    | true => exact iteT ⟨M1, env, S1, e01, h0, rs1, re1, o1⟩
    | false => exact iteF ⟨M1, env, S1, e01, h0, rs1, re1, o1⟩
  | _ => exact o1.elim
theorem sndS_pass : PS X (.Pass pos) (tS ca W M0 H0 (exS C .pass)) := PS.imp ps_pass fun E σ H ⟨M, env, S, e0, h0, rs, re, o⟩ => outS_nx (by simpa only [exS] using o) e0 rs re
theorem sndS_cont : PS X (.Continue pos) (tS ca W M0 H0 (exS C .cont)) := PS.imp ps_continue fun E σ H ⟨M, env, S, e0, h0, rs, re, o⟩ => (show OutS ca W M0 H0 M (.ok (.ct env) S) E from by simpa only [exS] using o) σ M H ExtM.refl e0 rs re
end K9
end
section
set_option Elab.async false
set_option linter.all false
set_option maxRecDepth 100000
set_option maxHeartbeats 0
/-! K9Stm2: objects that are changed; loops. -/
namespace K9
open PySem PySem.Spec PyProof.Rows L2

variable {ca fa : Nat → Addr} {W : WX} {C : Ctx} {X : Cx} {pos : Pos} {M0 : Mem} {H0 : Hp}
section
variable {M : Mem} {H : Hp} {σ : L2.St} {env : Env} {S : Sto}
theorem nodup_ne {α : Type} {l : List α} (h : l.Nodup) {i j : Nat} (hij : i < j) (hj : j < l.length) : l[i]? ≠ l[j]? := by
  have := List.pairwise_iff_getElem.mp h i j (by omega) hj hij
  rw [List.getElem?_eq_getElem (by omega), List.getElem?_eq_getElem hj]
  exact fun z => this (Option.some.inj z)
theorem place_put {d : D} {v : V} {ob ob' : Ob} {p : Env × Sto} (e0 : Ext M0 H0 M H) (h0 : M0.H0 = H0) (rs : RelS ca M S H) (re : RelE ca M env σ H) (rx : RepX ca M σ v d) (hc : cont env S d = some ob) (hp : putOb d ob' env S = some p)
    (hk : ∀ c fs vs, ob' = .ins c fs vs → ∃ c fs vs, ob = .ins c fs vs) :
    ∃ a ho, v = .ref a ∧ H a = some ho ∧ ObR ca M ho ob ∧ ∀ ho', ObR ca M ho' ob' → Ext M0 H0 M (upd H a ho') ∧ RelS ca M p.2 (upd H a ho') ∧ RelE ca M p.1 σ (upd H a ho') := by
  obtain ⟨a, ho, rfl, ha, q⟩ := cont_at rs re rx hc
  refine ⟨a, ho, rfl, ha, q, fun ho' q' => ?_⟩
  cases d with
  | acc i =>
    have r' : σ[i]? = some (some (.ref a)) := rx
    unfold putOb at hp
    simp only at hp
    cases he : env[i]? with
    | none => rw [he] at hp; cases hp
    | some s =>
      rw [he] at hp
      cases s with
      | no => cases hp
      | fz _ => cases hp
      | al o =>
        cases hp
        have hob : o = ob := by
          unfold cont at hc
          simp only [he] at hc
          exact Option.some.inj hc
        subst hob
        have z := re.sl i _ he
        rw [r'] at z
        cases z with
        | al g1 g2 g3 g4 g5 g6 =>
          have hn : H0 a = none := by rw [← h0, ← e0.h0]; exact g5
          have hli := (List.getElem?_eq_some_iff.mp he).1
          refine ⟨ext_upd e0 hn, rel_upd rs ha g3 g4, ⟨by rw [List.length_set]; exact re.len, fun j s h => ?_, fun j k o1 o2 h1 h2 h3 => ?_⟩⟩
          · by_cases e : i = j
            · subst e
              rw [List.getElem?_set_self hli] at h
              cases h
              rw [r']
              exact .al upd_same q' g3 g4 g5 fun c fs vs z => by
                obtain ⟨c', fs', vs', z'⟩ := hk c fs vs z
                exact g6 c' fs' vs' z'
            · rw [List.getElem?_set_ne e] at h
              have y := re.sl j s h
              generalize hsj : σ[j]? = sj at y
              cases y with
              | no => exact .no
              | fz r => exact .fz r
              | al f1 f2 f3 f4 f5 f6 =>
                rename_i b ho2 ob2
                have hne : b ≠ a := fun zz => e (re.ap i j _ _ he h (by rw [r', hsj, zz]))
                exact .al (by rw [upd_ne hne]; exact f1) f2 f3 f4 f5 f6
          · have hj : ∃ o, env[j]? = some (.al o) := by
              by_cases e : i = j
              · exact ⟨o, by rw [← e]; exact he⟩
              · rw [List.getElem?_set_ne e] at h1; exact ⟨_, h1⟩
            have hk' : ∃ o, env[k]? = some (.al o) := by
              by_cases e : i = k
              · exact ⟨o, by rw [← e]; exact he⟩
              · rw [List.getElem?_set_ne e] at h2; exact ⟨_, h2⟩
            obtain ⟨_, hj⟩ := hj
            obtain ⟨_, hk'⟩ := hk'
            exact re.ap j k _ _ hj hk' h3
  | ref n =>
    cases (show Rep ca M (.ref a) (.ref n) from rx) with
    | ref hn =>
      unfold putOb at hp
      simp only at hp
      split at hp
      · rename_i hlt
        cases hp
        have ham : a ∈ M.mu := List.mem_of_getElem? hn
        have hF : M.F a = none := rs.off a ham
        refine ⟨⟨e0.F, e0.mu, e0.h0, e0.sa, fun b u h n => ?_, e0.newF, e0.newM, fun b u h => ?_⟩, ⟨fun b u h => ?_, by rw [List.length_set]; exact rs.len, rs.nd, rs.off, fun m ob2 h => ?_, fun b h => rs.h0 b (upd_none h)⟩, ⟨re.len, fun j s h => ?_, re.ap⟩⟩
        · by_cases z : b = a
          · subst z
            rw [e0.newM b ham n] at h; cases h
          · rw [upd_ne z]; exact e0.rest b u h n
        · by_cases z : b = a
          · subst z; exact ⟨_, upd_same⟩
          · rw [upd_ne z]; exact e0.dom b u h
        · rw [upd_ne (fun z => by rw [z, hF] at h; cases h)]; exact rs.frz b u h
        · by_cases z : n = m
          · subst z
            rw [List.getElem?_set_self hlt] at h
            cases h
            exact ⟨a, ho', hn, upd_same, q'⟩
          · rw [List.getElem?_set_ne z] at h
            obtain ⟨b, ho2, k1, k2, k3⟩ := rs.ob m ob2 h
            refine ⟨b, ho2, k1, ?_, k3⟩
            rw [upd_ne (fun zz => ?_)]
            · exact k2
            · subst zz
              have l1 := (List.getElem?_eq_some_iff.mp hn).1
              have l2 := (List.getElem?_eq_some_iff.mp k1).1
              rcases Nat.lt_or_gt_of_ne z with zl | zl
              · exact nodup_ne rs.nd zl l2 (by rw [hn, k1])
              · exact nodup_ne rs.nd zl l1 (by rw [hn, k1])
        · have y := re.sl j s h
          generalize hsj : σ[j]? = sj at y ⊢
          cases y with
          | no => exact .no
          | fz r => exact .fz r
          | al f1 f2 f3 f4 f5 f6 =>
            refine .al ?_ f2 f3 f4 f5 f6
            rw [upd_ne (fun z => f4 (by rw [z]; exact ham))]; exact f1
      · cases hp
  | _ => cases hp
end

/-! ### methods that change their object -/
def rMut (ca : Nat → Addr) (x : Mt) : V → List V → Hp → VK → Prop := fun v vs H Q => ∃ M0 H0 σ0 M env S d ds, Ext M0 H0 M H ∧ M0.H0 = H0 ∧ RelS ca M S H ∧ RelE ca M env σ0 H ∧ RepX ca M σ0 v d ∧ RepL ca M vs ds ∧
  ∃ ob ob' p, cont env S d = some ob ∧ mutD x ob ds env S = some ob' ∧ putOb d ob' env S = some p ∧ ∀ H', (Ext M0 H0 M H' → RelS ca M p.2 H' → RelE ca M p.1 σ0 H' → Q .non H')
theorem mutD_lst {x : Mt} {ob ob' : Ob} {ds : List D} {env : Env} {S : Sto} (h : mutD x ob ds env S = some ob') : (∃ xs, ob = .lst xs) ∧ ∃ ys, ob' = .lst ys := by
  unfold mutD at h
  split at h
  · split at h
    · cases h; exact ⟨⟨_, rfl⟩, _, rfl⟩
    · cases h
  · cases h; exact ⟨⟨_, rfl⟩, _, rfl⟩
  · cases h; exact ⟨⟨_, rfl⟩, _, rfl⟩
  · split at h
    · split at h
      · cases h; exact ⟨⟨_, rfl⟩, _, rfl⟩
      · cases h
    · cases h
  · cases h
/-- what a changing method does, as the library tells it -/
def MutOk (ca : Nat → Addr) (X : Cx) (x : Mt) (id : String) : Prop := MtR X id (rMut ca x)
theorem mut_core {M : Mem} {H : Hp} {σ : L2.St} {env : Env} {S : Sto} {v : V} {d : D} {ob ob' : Ob} {p : Env × Sto} {ds : List D} {x : Mt} {Q : VK} (e0 : Ext M0 H0 M H) (h0 : M0.H0 = H0) (rs : RelS ca M S H) (re : RelE ca M env σ H) (rx : RepX ca M σ v d)
    (hc : cont env S d = some ob) (hm : mutD x ob ds env S = some ob') (hp : putOb d ob' env S = some p) (hq : ∀ H', (Ext M0 H0 M H' → RelS ca M p.2 H' → RelE ca M p.1 σ H' → Q .non H')) :
    ∃ a ho, v = .ref a ∧ H a = some ho ∧ ObR ca M ho ob ∧ ∀ ho', ObR ca M ho' ob' → Q .non (upd H a ho') := by
  obtain ⟨⟨xs, rfl⟩, ys, rfl⟩ := mutD_lst hm
  obtain ⟨a, ho, rfl, ha, q, k⟩ := place_put e0 h0 rs re rx hc hp (fun c fs vs z => nomatch z)
  exact ⟨a, ho, rfl, ha, q, fun ho' q' => hq _ (k ho' q').1 (k ho' q').2.1 (k ho' q').2.2⟩
theorem mut_append : MutOk ca X .append "list.append" := by
  intro pins s σ H v vs u us Q I rv r h
  obtain ⟨M0, H0, σ0, M, env, S, d, ds, e0, h0, rs, re, rx, rds, ob, ob', p, hc, hm, hp, hq⟩ := h
  obtain ⟨a, ho, rfl, ha, q, k⟩ := mut_core e0 h0 rs re rx hc hm hp hq
  obtain ⟨⟨xs, rfl⟩, ys, rfl⟩ := mutD_lst hm
  cases q with
  | lst q =>
    cases rds with
    | nil => cases hm
    | cons r1 r2 =>
      cases r2 with
      | cons _ _ => cases hm
      | nil =>
        simp only [mutD] at hm
        split at hm
        · rename_i hz
          cases hm
          exact mt_append pins s σ H _ _ u us Q I rv r ⟨a, _, _, rfl, rfl, ha, by rw [q.length]; exact hz, k _ (.lst (q.append (.cons r1 .nil)))⟩
        · cases hm
theorem mut_reverse : MutOk ca X .reverse "list.reverse" := by
  intro pins s σ H v vs u us Q I rv r h
  obtain ⟨M0, H0, σ0, M, env, S, d, ds, e0, h0, rs, re, rx, rds, ob, ob', p, hc, hm, hp, hq⟩ := h
  obtain ⟨a, ho, rfl, ha, q, k⟩ := mut_core e0 h0 rs re rx hc hm hp hq
  obtain ⟨⟨xs, rfl⟩, ys, rfl⟩ := mutD_lst hm
  cases q with
  | lst q =>
    cases rds with
    | cons _ _ => cases hm
    | nil =>
      cases hm
      exact mt_reverse pins s σ H _ _ u us Q I rv r ⟨a, _, rfl, rfl, ha, k _ (.lst q.reverse)⟩
theorem mut_clear : MutOk ca X .clear "list.clear" := by
  intro pins s σ H v vs u us Q I rv r h
  obtain ⟨M0, H0, σ0, M, env, S, d, ds, e0, h0, rs, re, rx, rds, ob, ob', p, hc, hm, hp, hq⟩ := h
  obtain ⟨a, ho, rfl, ha, q, k⟩ := mut_core e0 h0 rs re rx hc hm hp hq
  obtain ⟨⟨xs, rfl⟩, ys, rfl⟩ := mutD_lst hm
  cases q with
  | lst q =>
    cases rds with
    | cons _ _ => cases hm
    | nil =>
      cases hm
      exact mt_clear pins s σ H _ _ u us Q I rv r ⟨a, _, rfl, rfl, ha, k _ (.lst .nil)⟩
theorem mut_extend : MutOk ca X .extend "list.extend" := by
  intro pins s σ H v vs u us Q I rv r h
  obtain ⟨M0, H0, σ0, M, env, S, d, ds, e0, h0, rs, re, rx, rds, ob, ob', p, hc, hm, hp, hq⟩ := h
  obtain ⟨a, ho, rfl, ha, q, k⟩ := mut_core e0 h0 rs re rx hc hm hp hq
  obtain ⟨⟨xs, rfl⟩, ys, rfl⟩ := mutD_lst hm
  cases q with
  | lst q =>
    cases rds with
    | nil => cases hm
    | cons r1 r2 =>
      cases r2 with
      | cons _ _ => cases hm
      | nil =>
        simp only [mutD] at hm
        split at hm
        · rename_i zs hz
          split at hm
          · rename_i hl
            cases hm
            obtain ⟨b, ws, rfl, hb, qb⟩ := lst_at rs re (RepX.of r1) hz
            exact mt_extend pins s σ H _ _ u us Q I rv r ⟨a, b, _, ws, rfl, rfl, ha, hb, by rw [q.length, qb.length]; exact hl, k _ (.lst (q.append qb))⟩
          · cases hm
        · cases hm
/-- o.m(..) as a statement -/
structure MutF (ca : Nat → Addr) (X : Cx) (x : Mt) (name : Str) : Prop where
  ls : (match x with | .join => "str" | .partition => "str" | .replace => "str" | .split => "str" | .upper => "str" | .get => "dict" | .items => "dict" | .update => "dict" | .values => "dict" | _ => "list") = "list"
  ex : ∃ (id : String), PySem.Slot "list" name id ∧ typeOf (.builtin id) = pure (.type "method_descriptor") ∧ MutOk ca X x id
theorem mutF_append : MutF ca X .append "append" := ⟨rfl, "list.append", PySem.F.slot_list_append, PySem.F.type_list_append, mut_append⟩
theorem mutF_reverse : MutF ca X .reverse "reverse" := ⟨rfl, "list.reverse", PySem.F.slot_list_reverse, PySem.F.type_list_reverse, mut_reverse⟩
theorem mutF_clear : MutF ca X .clear "clear" := ⟨rfl, "list.clear", PySem.F.slot_list_clear, PySem.F.type_list_clear, mut_clear⟩
theorem mutF_extend : MutF ca X .extend "extend" := ⟨rfl, "list.extend", PySem.F.slot_list_extend, PySem.F.type_list_extend, mut_extend⟩
theorem repXL_repL {M : Mem} {σ : L2.St} : ∀ {vs : List V} {ds : List D}, RepXL ca M σ vs ds → ds.any D.isAcc = false → RepL ca M vs ds
  | _, _, .nil, _ => .nil
  | _, _, .cons r t, h => by
    rw [List.any_cons, Bool.or_eq_false_iff] at h
    exact .cons (r.rep h.1) (repXL_repL t h.2)
theorem rd_mut {m : Mt} {x : Ex} {xs : Exs} {E : Ends} {σ : L2.St} {H : Hp} {K : PySem.W.Frag} (hl : (match m with | .join => "str" | .partition => "str" | .replace => "str" | .split => "str" | .upper => "str" | .get => "dict" | .items => "dict" | .update => "dict" | .values => "dict" | _ => "list") = "list")
    (h : tS ca W M0 H0 (exS C (.mut m x xs)) E σ H) : tDrop (tBM X.K "list" (rMut ca m) (tM ca W (ev C x)) (tAR ca W (evl C xs))) E σ H := by
  obtain ⟨M, env, S, e0, h0, rs, re, o⟩ := h
  simp only [exS] at o
  refine ⟨M, env, S, rs, re, o.bind e0 re fun d S1 v M1 H1 e1 rs1 re1 rx1 e01 o1 => ?_⟩
  obtain ⟨h1, o2⟩ := outS_chk o1
  refine ⟨tyV_mt hl.symm rs1 re1 rx1 h1, M1, env, S1, rs1, re1, o2.bindL (rel := fun M => RepXL ca M σ) e01 re1 fun ds S2 vs M2 H2 e2 rs2 re2 rx2 e02 o3 => ?_⟩
  cases ha : ds.any D.isAcc with
  | true => rw [ha] at o3; exact o3.elim
  | false =>
    rw [ha] at o3
    obtain ⟨ob, k1, o4⟩ := outS_oget o3
    obtain ⟨ob', k2, o5⟩ := outS_oget o4
    obtain ⟨p, k3, o6⟩ := outS_oget o5
    exact ⟨M0, H0, σ, M2, env, S2, d, ds, e02, h0, rs2, re2, rx1.ext e2, repXL_repL rx2 ha, ob, ob', p, k1, k2, k3, fun H' a b c => outS_nx o6 a b c⟩
theorem sndS_mut {m : Mt} {o e : Expr} {name : Str} {apos p2 : Pos} {es : List Expr} {x : Ex} {xs : Exs} (F : MutF ca X m name) (hb : okBase o = true) (hs : (e :: es).any isStar = false) (hl : (e :: es).length < 30) (hp : (apos.endLine == p2.line) = true)
    (he : PE X o (tM ca W (ev C x))) (ha : PA X (e :: es) (tAR ca W (evl C xs))) : PS X (.Expr (.Call (.Attribute o name apos) (e :: es) [] p2) pos) (tS ca W M0 H0 (exS C (.mut m x xs))) := by
  obtain ⟨id, slot, hty, hm⟩ := F.ex
  have hs' := hs
  rw [List.any_cons, Bool.or_eq_false_iff] at hs'
  exact PS.imp (ps_expr (pe_bm PySem.F.plainAttrs_list slot hty hm he ha (okBase_eq hb _ _ _) (form_of hs hl) hp (star_cons hs'.1) (no_star hs'.2))) fun E σ H h => rd_mut (K := X.K) F.ls h
theorem sndS_mut0 {m : Mt} {o : Expr} {name : Str} {apos p2 : Pos} {x : Ex} (F : MutF ca X m name) (hb : okBase o = true) (hp : (apos.endLine == p2.line) = true)
    (he : PE X o (tM ca W (ev C x))) : PS X (.Expr (.Call (.Attribute o name apos) [] [] p2) pos) (tS ca W M0 H0 (exS C (.mut m x .nil))) := by
  obtain ⟨id, slot, hty, hm⟩ := F.ex
  refine PS.imp (ps_expr (pe_bm0 PySem.F.plainAttrs_list slot hty hm he (okBase_eq hb _ _ _) hp)) fun E σ H h => ?_
  obtain ⟨M, env, S, e0, h0, rs, re, o⟩ := h
  simp only [exS, evl, R.bind] at o
  refine ⟨M, env, S, rs, re, o.bind e0 re fun d S1 v M1 H1 e1 rs1 re1 rx1 e01 o1 => ?_⟩
  obtain ⟨h1, o2⟩ := outS_chk o1
  refine ⟨tyV_mt F.ls.symm rs1 re1 rx1 h1, ?_⟩
  simp only [List.any_nil, Bool.false_eq_true, if_false] at o2
  obtain ⟨ob, k1, o4⟩ := outS_oget o2
  obtain ⟨ob', k2, o5⟩ := outS_oget o4
  obtain ⟨p, k3, o6⟩ := outS_oget o5
  exact ⟨M0, H0, σ, M1, env, S1, d, [], e01, h0, rs1, re1, rx1, .nil, ob, ob', p, k1, k2, k3, fun H' a b c => outS_nx o6 a b c⟩
end K9
end
section
set_option Elab.async false
set_option linter.all false
set_option maxRecDepth 100000
set_option maxHeartbeats 0
/-! K9Stm3: stores into objects; loops. -/
namespace K9
open PySem PySem.Spec PyProof.Rows L2

variable {ca fa : Nat → Addr} {W : WX} {C : Ctx} {X : Cx} {pos : Pos} {M0 : Mem} {H0 : Hp}
/-! ### o[i] = v -/
def rSet (ca : Nat → Addr) : TSet := fun o i v H Q => ∃ M0 H0 σ0 M env S d k u, Ext M0 H0 M H ∧ M0.H0 = H0 ∧ RelS ca M S H ∧ RelE ca M env σ0 H ∧ RepX ca M σ0 o d ∧ RepX ca M σ0 i k ∧ Rep ca M v u ∧
  ∃ ob ob' p, cont env S d = some ob ∧ setD ob k u = some ob' ∧ putOb d ob' env S = some p ∧ ∀ H', (Ext M0 H0 M H' → RelS ca M p.2 H' → RelE ca M p.1 σ0 H' → Q H')
theorem putD_of {M : Mem} {k : L2.Key} {v : V} {u : D} (rv : Rep ca M v u) : ∀ {kvs : List (L2.Key × V)} {vs : List D}, RepL ca M (kvs.map (·.2)) vs →
    (putK kvs k v).map (·.1) = (putD (kvs.map (·.1)) vs k u).1 ∧ RepL ca M ((putK kvs k v).map (·.2)) (putD (kvs.map (·.1)) vs k u).2 := by
  have sw : ∀ {kvs : List (L2.Key × V)} {vs : List D}, RepL ca M (kvs.map (·.2)) vs → RepL ca M ((kvs.map fun kv => if kv.1 = k then (kv.1, v) else kv).map (·.2)) (swapD k u (kvs.map (·.1)) vs) := by
    intro kvs
    induction kvs with
    | nil =>
      intro vs r
      cases r
      exact .nil
    | cons p kvs ih =>
      intro vs r
      rw [List.map_cons] at r
      cases r with
      | cons r1 r2 =>
        show RepL ca M ((if p.1 = k then (p.1, v) else p).2 :: _) ((if p.1 = k then u else _) :: _)
        refine .cons ?_ (ih r2)
        by_cases e : p.1 = k
        · rw [if_pos e, if_pos e]; exact rv
        · rw [if_neg e, if_neg e]; exact r1
  intro kvs vs r
  have hk : hasKey (kvs.map (·.1)) k = kvs.any fun kv => decide (kv.1 = k) := by
    unfold hasKey
    rw [List.any_map]; rfl
  unfold putK putD
  rw [hk]
  by_cases h : (kvs.any fun kv => decide (kv.1 = k)) = true
  · rw [if_pos h, if_pos h]
    refine ⟨?_, sw r⟩
    rw [List.map_map]
    refine List.map_congr_left fun p _ => ?_
    show (if p.1 = k then (p.1, v) else p).1 = p.1
    split <;> rfl
  · rw [if_neg h, if_neg h]
    refine ⟨by rw [List.map_append]; rfl, ?_⟩
    rw [List.map_append]
    exact r.append (.cons rv .nil)
theorem set_d (hu : X.A.units + 1 < cLine) : PSet X (rSet ca) := by
  intro pins s σ H o i v ov iv u Q I ro ri rv h
  obtain ⟨M0, H0, σ0, M, env, S, d, k, w, e0, h0, rs, re, rd, rk, rw', ob, ob', p, hc, hs, hp, hq⟩ := h
  cases ob with
  | lst xs =>
    cases k with
    | int n =>
      simp only [setD] at hs
      cases hj : ixN xs.length n with
      | none => rw [hj] at hs; cases hs
      | some j =>
        rw [hj] at hs
        cases hs
        obtain ⟨a, ho, rfl, ha, q, k⟩ := place_put e0 h0 rs re rd hc hp (fun c fs vs z => nomatch z)
        obtain rfl := int_of rk
        cases q with
        | lst q =>
          refine set_list pins s σ H _ _ v ov iv u Q I ro ri rv ⟨a, _, n, j, rfl, rfl, ha, by rw [q.length]; exact hj, ?_⟩
          have z := k _ (.lst (q.set rw' j))
          exact hq _ z.1 z.2.1 z.2.2
    | _ => cases hs
  | dct ks vs =>
    have hs' : (match keyOf k with | some k => if ks.length < sizeLine then some (Ob.dct (putD ks vs k w).1 (putD ks vs k w).2) else none | none => none : Option Ob) = some ob' := by
      unfold setD at hs
      exact hs
    cases hk : keyOf k with
    | none => rw [hk] at hs'; cases hs'
    | some kk =>
      rw [hk] at hs'
      simp only at hs'
      split at hs'
      · rename_i hz
        cases hs'
        obtain ⟨a, ho, rfl, ha, q, kf⟩ := place_put e0 h0 rs re rd hc hp (fun c fs vs z => nomatch z)
        have hi : i = kV kk := by
          cases k with
          | int n => cases hk; exact int_of rk
          | str n => cases hk; exact str_of rk
          | _ => cases hk
        subst hi
        cases q with
        | dct e q =>
          rename_i kvs
          subst e
          obtain ⟨g1, g2⟩ := putD_of (k := kk) rw' q
          have z := kf (.dK (putK kvs kk v)) (.dct g1 g2)
          exact set_dict hu pins s σ H _ _ v ov iv u Q I ro ri rv ⟨a, _, rfl, .inl ⟨kvs, kk, ha, rfl, by simpa using hz, rfl⟩, hq _ z.1 z.2.1 z.2.2⟩
      · cases hs'
  | ins c fs vs => cases hs
theorem sndS_setix {o i e : Expr} {x y z : Ex} {p2 : Pos} (hu : X.A.units + 1 < cLine) (hi0 : isSlice i = false) (hne : isComp e = false) (ho : PE X o (tM ca W (ev C x))) (hi : PE X i (tM ca W (ev C y))) (he : PE X e (tM ca W (ev C z))) :
    PS X (.Assign [.Subscript o i p2] e pos) (tS ca W M0 H0 (exS C (.setix x y z))) := by
  refine PS.imp (ps_asg he (pg_sub ho hi (set_d (ca := ca) hu) (by intro v; cases i <;> first | rfl | cases hi0)) (by cases e <;> first | rfl | cases hne) (by cases e <;> rfl) (by rfl)) fun E σ H ⟨M, env, S, e0, h0, rs, re, o⟩ => ?_
  simp only [exS] at o
  refine ⟨M, env, S, rs, re, o.bind e0 re fun u S1 v M1 H1 e1 rs1 re1 rx1 e01 o1 => ?_⟩
  cases hu : u.isAcc with
  | true => rw [hu] at o1; exact o1.elim
  | false =>
    rw [hu] at o1
    simp only [Bool.false_eq_true, if_false] at o1
    refine ⟨M1, env, S1, rs1, re1, o1.bind e01 re1 fun d S2 ov M2 H2 e2 rs2 re2 rx2 e02 o2 => ⟨M2, env, S2, rs2, re2, o2.bind e02 re2 fun k S3 iv M3 H3 e3 rs3 re3 rx3 e03 o3 => ?_⟩⟩
    obtain ⟨ob, k1, o4⟩ := outS_oget o3
    obtain ⟨ob', k2, o5⟩ := outS_oget o4
    obtain ⟨p, k3, o6⟩ := outS_oget o5
    exact ⟨M0, H0, σ, M3, env, S3, d, k, u, e03, h0, rs3, re3, rx2.ext e3, rx3, e3.rep (e2.rep (rx1.rep hu)), ob, ob', p, k1, k2, k3, fun H' a b c => outS_nx o6 a b c⟩

/-! ### for -/
theorem ExtM.obr {M M' : Mem} {ho : HO} {ob : Ob} (e : ExtM M M') (r : ObR ca M ho ob) : ObR ca M' ho ob := r.mono e.F e.mu e.h0
theorem sndS_for {tg iter : Expr} {body : List Stmt} {is : List Nat} {it : It} {xs : Sms} (hp : PassesOwn (model X.prog X.w) X.A X.env X.xe) (hc : X.calm = true) (hi : PI X tg iter (tI ca W (evIt C it))) (hg : PG X tg (gD X.K is)) (hb : PSs X body (tS ca W M0 H0 (exSs C xs)))
    (hs : ∀ x, foldedSetIterable iter X.env x = pure x) : PS X (.For tg iter body [] pos) (tS ca W M0 H0 (exS C (.for_ is it xs))) := by
  refine PS.imp (ps_for hp hc hi hg hb hs) fun E σ H ⟨M, env, S, e0, h0, rs, re, o⟩ => ?_
  simp only [exS] at o
  refine ⟨M, env, S, rs, re, ?_⟩
  cases hit : evIt C it env S with
  | bad => rw [hit] at o; exact o.elim
  | er c d S' =>
    rw [hit] at o
    exact fun cls dd M' H' e rs ex hd => o cls dd σ M' H' e.m (e0.trans e) rs ex (e0.none hd)
  | ok p S1 =>
    rw [hit] at o
    intro J M1 H1 ow e1 rs1 wk hacc hown
    have o1 : OutS ca W M0 H0 M (if p.acc then .bad else forGo (exSs C xs) is p.live p.xs env S1) E := o
    cases hpa : p.acc with
    | true => rw [hpa] at o1; exact o1.elim
    | false =>
      rw [hpa] at o1
      simp only [Bool.false_eq_true, if_false] at o1
      have how := hacc hpa
      subst how
      refine ⟨fun i m σ' H' => m = p.xs.length - i ∧ ∃ M' S' env', ExtM M1 M' ∧ Ext M0 H0 M' H' ∧ RelS ca M' S' H' ∧ RelE ca M' env' σ' H' ∧ i ≤ p.xs.length ∧ OutS ca W M0 H0 M' (forGo (exSs C xs) is p.live (p.xs.drop i) env' S') E,
        ⟨p.xs.length, rfl, M1, S1, env, ExtM.refl, e0.trans e1, rs1, re.ext e1, Nat.zero_le _, o1.ext e1.m⟩, ?_⟩
      rintro i m σ2 H2 ⟨rfl, M2, S2, env2, em, e02, rs2, re2, hle, o2⟩
      cases hx : p.xs.drop i with
      | nil =>
        rw [hx] at o2
        have hl : p.xs.length ≤ i := by
          have := congrArg List.length hx
          rw [List.length_drop, List.length_nil] at this; omega
        simp only [forGo] at o2
        cases hc : chkLive S2 p.live (R.ok (Fl.nx env2) S2) with
        | bad => rw [hc] at o2; exact o2.elim
        | er c' d S' =>
          obtain ⟨_, z⟩ := live_chk hc (fun z => nomatch z)
          cases z
        | ok f S' =>
          obtain ⟨hlv, z⟩ := live_chk hc (fun z => nomatch z)
          cases z
          rw [hc] at o2
          exact .inl ⟨(wk M2 H2 S2 i em rs2 hlv (fun q hq => by cases hq)).1 hl, outS_nx o2 e02 rs2 re2⟩
      | cons d rest =>
        rw [hx] at o2
        have hdi : p.xs[i]? = some d := by
          have := congrArg (·[0]?) hx
          simpa [List.getElem?_drop] using this
        have hrest : p.xs.drop (i + 1) = rest := by
          rw [← List.tail_drop, hx]; rfl
        have hlt : i < p.xs.length := (List.getElem?_eq_some_iff.mp hdi).1
        simp only [forGo] at o2
        have live : Live S2 p.live ∧ OutS ca W M0 H0 M2 (oget (asgT is d env2) fun e => (exSs C xs e S2).bind fun f S1 => match f with
            | .nx e1 => forGo (exSs C xs) is p.live rest e1 S1
            | .ct e1 => forGo (exSs C xs) is p.live rest e1 S1
            | .rt d => .ok (.rt d) S1) E := by
          generalize hr : (oget (asgT is d env2) fun e => (exSs C xs e S2).bind fun f S1 => match f with
            | .nx e1 => forGo (exSs C xs) is p.live rest e1 S1
            | .ct e1 => forGo (exSs C xs) is p.live rest e1 S1
            | .rt d => .ok (.rt d) S1) = r at o2 ⊢
          by_cases hbad : chkLive S2 p.live r = .bad
          · rw [hbad] at o2; exact o2.elim
          · obtain ⟨a, b⟩ := live_chk (rfl : chkLive S2 p.live r = chkLive S2 p.live r) hbad
            rw [b]; exact ⟨a, o2⟩
        obtain ⟨hlv, o3⟩ := live
        obtain ⟨hgo, hy⟩ := (wk M2 H2 S2 i em rs2 hlv (fun q hq => by cases hq)).2 d hdi
        obtain ⟨e, ha, o4⟩ := outS_oget o3
        refine .inr ⟨hgo, fun σ' H' => ∃ M' S' env', ExtM M1 M' ∧ Ext M0 H0 M' H' ∧ RelS ca M' S' H' ∧ RelE ca M' env' σ' H' ∧ OutS ca W M0 H0 M' (forGo (exSs C xs) is p.live rest env' S') E, fun σ' H' ⟨M', S', env', a1, a2, a3, a4, a5⟩ => ⟨p.xs.length - (i + 1), by omega, rfl, M', S', env', a1, a2, a3, a4, hlt, by rw [hrest]; exact a5⟩, fun x H3 hyl => ?_⟩
        obtain ⟨M3, e3, rs3, rx⟩ := hy x H3 hyl
        refine gD_ok (ca := ca) (K := X.K) rs3 (re2.ext e3) (RepX.of rx) ha fun σ4 re4 _ => ⟨M3, e, S2, e02.trans e3, h0, rs3, re4, ?_⟩
        have em3 := em.trans e3.m
        have o5 := OutS.ext o4 e3.m
        cases hbd : exSs C xs e S2 with
        | bad => rw [hbd] at o5; exact o5.elim
        | er c' d' S' => rw [hbd] at o5; exact o5
        | ok f S' =>
          rw [hbd] at o5
          cases f with
          | nx e1 => exact fun σ' M' H' x1 x2 rs' re' => ⟨M', S', e1, em3.trans x1, x2, rs', re', OutS.ext (r := forGo (exSs C xs) is p.live rest e1 S') o5 x1⟩
          | ct e1 => exact fun σ' M' H' x1 x2 rs' re' => ⟨M', S', e1, em3.trans x1, x2, rs', re', OutS.ext (r := forGo (exSs C xs) is p.live rest e1 S') o5 x1⟩
          | rt d' => exact o5
end K9
end
section
set_option Elab.async false
set_option linter.all false
set_option maxRecDepth 100000
set_option maxHeartbeats 0
/-! K9Try: try: .. except C as e: suite, where the caught exception is kept as a value. -/
namespace K9
open PySem PySem.Spec PyProof.Rows L2
/-- an exception object at a, of the class, with its dict -/
def ExZ (cls : Value) (d : Option Addr) (a : Addr) : HO := .ext fun h => ∃ (oe : Obj) (vs : Array Value), h.get? a = some oe ∧ Zc cls d oe ∧ oe.data = .fields vs
/-- it lands, and is told of from now on -/
theorem landedT {X : Cx} {pins : List (Addr × Obj)} {σ : L2.St} {H : Hp} {sI s' : Shared} {B : Heap} {a : Addr} {o : HO} (I : Inv X pins σ H sI) (nb : ∀ b u, sI.heap.get? b = some u → b ∉ frs X.stack → B.get? b = some u) (st : B.StaysIn s'.heap) (up : sI.heap.UpToSlots s'.heap) (os : s'.os = sI.os) (ag : AllBare s'.gens)
    (hB : B.get? a = none) (hf : a ∉ frs X.stack) (na : H a = none) (new : ObjOk X.prog X.w (upd H a o) s'.heap a o) : Inv X pins σ (upd H a o) s' := by
  have hI : sI.heap.get? a = none := by
    cases q : sI.heap.get? a with
    | none => rfl
    | some u =>
      rw [nb a u q hf] at hB
      cases hB
  have sl : ∀ b ∈ frs X.stack, ∀ u, sI.heap.get? b = some u → ∃ z, s'.heap.get? b = some { u with slots := z } := fun b hb u e => by
    obtain ⟨_, u', e', hd⟩ := I.stack.mem hb
    rw [e] at e'
    cases e'
    exact up b u e hd
  have ne : ∀ {b : Addr} {u : HO}, H b = some u → b ≠ a := fun {b u} e z => by rw [z, na] at e; cases e
  have J := I.call (ch := []) (h' := s'.heap) (g' := s'.gens) (t' := s'.toks) (d' := s'.drawn) (H' := upd H a o) {
    keep := fun b u e _ hb _ => st b u (nb b u e hb)
    slot := fun b u e _ hb _ => sl b hb u e
    free := fun b u e n _ => by rw [upd_ne (fun z => by rw [z, hI] at e; cases e)]; exact n
    there := fun b u e _ => by
      by_cases hb : b ∈ frs X.stack
      · obtain ⟨z, q⟩ := sl b hb u e
        exact ⟨_, q⟩
      · exact ⟨u, st b u (nb b u e hb)⟩
    tups := fun b xs e => by rw [upd_ne (ne e)]; exact e
    frzs := fun b u xs e => by rw [upd_ne (ne e)]; exact e
    tbls := fun b ps e => ⟨#[], by rw [upd_ne (ne e), e]; simp⟩ }
    (fun b u e => by
      by_cases hb : b = a
      · subst hb
        rw [upd_same] at e
        cases e
        exact new
      · rw [upd_ne hb] at e
        exact (((I.inGround nb).kept st) b u e).stay (fun c v _ q => q) (fun c q => by rw [upd_ne (ne q)]; exact q) fun c xs q => by rw [upd_ne (ne q)]; exact q) ag (fun _ z => nomatch z)
  obtain ⟨a1, a2, a3, a4, a5⟩ := s'
  have e5 : a5 = sI.os := os
  subst e5
  exact J
/-- the context of such a suite -/
abbrev suiteT (X : Cx) (a : Addr) (pn : List (Addr × Obj)) : Cx := { X with A := X.A.mark (some (.ref a)), calm := false, pn := pn, xe := fun _ _ => False }
theorem suiteT_ok {X : Cx} (ok : X.Ok) (a : Addr) (pn : List (Addr × Obj)) : (suiteT X a pn).Ok :=
  ⟨ok.mod, ok.kind, ok.glob, ok.blt, ok.above, ok.inj, ok.has, ok.cab, (fun z => Bool.noConfusion (show false = true from z)), ok.frames, ok.stk, ok.exf, ok.bs, ok.bsz, ok.noex, ok.exfs, ok.funs, ok.frf⟩
theorem toSuiteT {X : Cx} {pins : List (Addr × Obj)} {σ : L2.St} {H : Hp} {s : Shared} (I : Inv X pins σ H s) (a : Addr) : Inv (suiteT X a (X.pn ++ pins)) [] σ H s :=
  ⟨suiteT_ok I.ok a _, I.os, I.bare, I.base, I.loc, I.cell, I.free, I.freeC, fun p hp => I.pin p (by rw [List.append_nil] at hp; exact hp), I.hok, I.len⟩
theorem ofSuiteT {X : Cx} {pins pn' : List (Addr × Obj)} {σ : L2.St} {H : Hp} {s : Shared} {a : Addr} (I : Inv (suiteT X a (X.pn ++ pins)) pn' σ H s) (ok : X.Ok) : Inv X pins σ H s :=
  ⟨ok, I.os, I.bare, I.base, I.loc, I.cell, I.free, I.freeC, fun p hp => I.pin p (List.mem_append_left _ hp), I.hok, I.len⟩
/-- what the clause wishes of the body's exceptions -/
def wKeep (K : PySem.W.Frag) (c : Value) (i : Nat) (ts : TS) (Wout : WX) (D : Ends) : WX := fun cls d σ H =>
  ∃ b, PySem.W.exmOne K cls c = some b ∧ (b = true → ∀ a, H a = none → ts { nx := fun σ' H' => D.nx (σ'.set i none) H', rt := D.rt, bk := fun σ' H' => D.bk (σ'.set i none) H', ct := fun σ' H' => D.ct (σ'.set i none) H' } (σ.set i (some (.ref a))) (upd H a (ExZ cls d a))) ∧
    (b = false → Wout cls d σ H)
section
variable {X : Cx} {x n : Str} {c : Value} {i : Nat} {body suite : List Stmt} {b0 : Stmt} {np pos pos' : Pos} {tb : WX → TS} {ts : TS} {Wout : WX}
theorem ps_try_keep (hs : X.stack = X.env :: X.outer) (hf : X.env.frame = some X.env.locals) (hN : X.N.Nodup) (hi : X.N[i]? = some n) (hln : X.env.kindOf n = some .local) (hc : Names X x c) (tk : Takes X Wout)
    (hb : ∀ (W : WX) (pn : List (Addr × Obj)) (xe : Value → Shared → Prop), Takes (X.tr pn xe) W → PassesOwn (model X.prog X.w) X.A X.env xe → PSs (X.tr pn xe) body (tb W))
    (hsu : ∀ (a : Addr) (pn : List (Addr × Obj)), PSs (suiteT X a pn) (b0 :: suite) ts) :
    PS X (.Try body [.ExceptHandler (some (.Name x np)) (some n) (b0 :: suite) pos'] [] [] pos) (fun D σ H => tb (wKeep X.K c i ts Wout D) D σ H) := by
  refine ⟨fun pins s σ H D I h => ?_⟩
  have hok := I.ok
  have hframes : X.A.frames = some (X.env :: X.outer) := by rw [hok.frames, hs]
  have hl : Loc X.env.scope n := .inl hln
  refine wpAny_Try_except ?_
  refine wpAny_mono ((hb (wKeep X.K c i ts Wout D) (X.pn ++ pins) (fun e s1 => wpAny (model X.prog X.w) X.A (noteFrame e X.env) (fun _ s2 => wpAny (model X.prog X.w) X.A (setFlight e none) (fun _ s3 =>
    wpAny (model X.prog X.w) X.A (handleBy e X.env [.ExceptHandler (some (.Name x np)) (some n) (b0 :: suite) pos']) (SP X pins D) X.xe s3) X.xe s2) X.xe s1) (fun u s' xx => ?_) PassesOwn.looking).run [] s σ H D (I.toTry _) h) (fun f s1 hsp => ?_) (fun e s1 he => he)
  · obtain ⟨a, B, sI, pins', σ', H', cls, d, rfl, J', nb, up, sky, na, os, ag, b, hb1, hyes, hno⟩ := xx
    have J : Inv X pins σ' H' sI := J'.ofTry hok
    have hsky : Sky B (X.env :: X.outer) a (Zc cls d) X.env.locals s'.heap := by rw [← hs]; exact sky
    show wpAny (model X.prog X.w) X.A (noteFrame (.ref a) X.env) _ _ _
    refine Sky.land Zc.steady hframes hf hsky fun h3 fl3 up3 => ?_
    obtain ⟨oe3, vs3, he3, hz3, hd3⟩ := fl3.there
    have outFr : ∀ {h : Heap} {o : Obj} {vs : Array Value}, h.FunFrames B (X.env :: X.outer) → h.get? a = some o → o.data = .fields vs → a ∉ frs (X.env :: X.outer) := fun {h o vs} ff e dd hm => by
      obtain ⟨_, o', e', hnf⟩ := ff.mem hm
      rw [e] at e'
      cases e'
      exact hnf _ dd
    have nfr := outFr fl3.2.2.1 he3 hd3
    have nfr' : a ∉ frs X.stack := by rw [hs]; exact nfr
    have J3 : Inv X pins σ' H' { s' with heap := h3 } := J.landed nb fl3.1 (up.trans up3) os ag
    have S3 := toSuiteT J3 a
    refine wpAny_handleBy_cons (codeAny_handlers_test ?_) (by intro q; cases q)
    have LT : PySem.W.Looks (model X.prog X.w) h3 (typeOf (.ref a)) cls := fun A Q E s k q => wpAny_typeOf_ref (k _ _ he3) (by rw [hz3.1]; exact q)
    have LM := PySem.W.exm_one (M := model X.prog X.w) (J3.kIn) LT hb1
    have test : ∀ {Q : Value → Shared → Prop} {E : Value → Shared → Prop}, Q c { s' with heap := h3 } → wpAny (model X.prog X.w) (X.A.mark (some (.ref a))) (eval (.Name x np) X.env) Q E { s' with heap := h3 } := fun {Q E} q => by
      obtain ⟨hg, hdbg, hm | ⟨hm, hv, hnn⟩⟩ := hc
      · exact ld_glob (X := suiteT X a (X.pn ++ pins)) S3 hg hm q hdbg
      · exact ld_blt (X := suiteT X a (X.pn ++ pins)) S3 hg hm hv q hnn hdbg
    refine test (LM.here ?_)
    cases b with
    | true =>
      refine codeAny_handlers_suite_as ?_
      refine HandSPX.lands_againZ fl3 fun h4 fl4 up4 => ?_
      obtain ⟨oe4, vs4, he4, hz4, hd4⟩ := fl4.there
      have J4 : Inv X pins σ' (upd H' a (ExZ cls d a)) { s' with heap := h4 } := landedT J nb fl4.1 ((up.trans up3).trans up4) os ag fl4.2.1 nfr' na ⟨⟨oe4, vs4, he4, hz4, hd4⟩, ⟨oe4, he4⟩, fun h1 h2 ⟨oe, vs, e, z, y⟩ k => ⟨oe, vs, k _ e, z, y⟩⟩
      have S4 := toSuiteT J4 a
      refine store_ok (X := suiteT X a (X.pn ++ pins)) (v := .ref a) S4 hN hi hl rfl (fun s5 S5 => ?_) (.inr hln)
      refine wpAny_mono ((hsu a (X.pn ++ pins)).run [] s5 _ _ _ S5 (hyes rfl a na)) (fun f s6 hsp => ?_) (fun _ _ z => False.elim z)
      have fin : ∀ {σ6 : L2.St} {H6 : Hp} {Q : Shared → Prop}, Inv (suiteT X a (X.pn ++ pins)) [] σ6 H6 s6 → (∀ s7, Inv X pins (σ6.set i none) H6 s7 → Q s7) →
          wpAny (model X.prog X.w) X.A (do bindName X.env n .none; unbindBehindTheSuite X.env n pos') (fun _ s7 => Q s7) X.xe s6 := fun {σ6 H6 Q} S6 hq => gone_ok (ofSuiteT S6 hok) hN hi hln hq
      cases f with
      | next =>
        obtain ⟨σ6, H6, S6, q6⟩ := hsp
        exact fin S6 fun s7 J7 => ⟨_, _, J7, q6⟩
      | brk =>
        obtain ⟨σ6, H6, S6, q6⟩ := hsp
        exact fin S6 fun s7 J7 => ⟨_, _, J7, q6⟩
      | cont =>
        obtain ⟨σ6, H6, S6, q6⟩ := hsp
        exact fin S6 fun s7 J7 => ⟨_, _, J7, q6⟩
      | ret u =>
        obtain ⟨v6, σ6, H6, S6, r6, q6⟩ := hsp
        exact fin S6 fun s7 J7 => ⟨_, _, _, J7, r6, q6⟩
    | false =>
      show wpAny _ X.A (handleBy (.ref a) X.env []) _ _ _
      refine wpAny_handleBy_nil ?_
      obtain ⟨k1, k2, k3, oe, vs, T, oT, ts', he, hz, hd, h1, hr⟩ := id fl3
      unfold PySem.passOn
      refine wpAny_bind (wpAny_field he hd h1 ?_)
      rw [if_neg (show ¬ ((Value.ref T == Value.none) = true) from by simp)]
      have out : wpAny (model X.prog X.w) X.A (setFlight (.ref a) X.env.frame) (fun _ s4 => wpAny (model X.prog X.w) X.A (throw (.ref a) : Sem Flow) (SP X pins D) X.xe s4) X.xe { s' with heap := h3 } := by
        rw [hf]
        refine HandSPX.setFlight_upZ fl3 fun h4 hh4 up4 => wpAny_throw (tk _ _ ?_)
        exact ⟨a, B, sI, pins, σ', H', cls, d, rfl, J, nb, (up.trans up3).trans up4, .inr (.inr (by rw [hs]; exact hh4)), na, os, ag, hno rfl⟩
      first
        | exact wpAny_bind (wpAny_pure (wpAny_bind out))
        | exact wpAny_bind out
  · cases f with
    | next =>
      obtain ⟨σ', H', J', q⟩ := hsp
      exact wpAny_execs_nil ⟨σ', H', J'.ofTry hok, q⟩
    | brk =>
      obtain ⟨σ', H', J', q⟩ := hsp
      exact ⟨σ', H', J'.ofTry hok, q⟩
    | cont =>
      obtain ⟨σ', H', J', q⟩ := hsp
      exact ⟨σ', H', J'.ofTry hok, q⟩
    | ret u =>
      obtain ⟨v, σ', H', J', r, q⟩ := hsp
      exact ⟨v, σ', H', J'.ofTry hok, r, q⟩
end
end K9
end
section
set_option Elab.async false
set_option linter.all false
set_option maxRecDepth 100000
set_option maxHeartbeats 0
/-! K9Stm4: a dict that is never written any more; self.f = e; raise; try. -/
namespace K9
open PySem PySem.Spec PyProof.Rows L2
variable {ca fa : Nat → Addr} {W : WX} {C : Ctx} {X : Cx} {pos : Pos} {M0 : Mem} {H0 : Hp}
section
variable {M : Mem} {H : Hp} {σ : L2.St} {env : Env} {S : Sto}
/-- a name goes -/
theorem RelE.unset {i : Nat} {o : Option V} (re : RelE ca M env σ H) : RelE ca M (env.set i .no) (σ.set i o) H := by
  refine ⟨by rw [List.length_set, List.length_set, re.len], fun j s h => ?_, fun j k o1 o2 h1 h2 h3 => ?_⟩
  · by_cases e : i = j
    · subst e
      by_cases hl : i < env.length
      · rw [List.getElem?_set_self hl] at h
        cases h
        exact .no
      · rw [List.getElem?_eq_none (by rw [List.length_set]; omega)] at h; cases h
    · rw [List.getElem?_set_ne e] at h ⊢
      exact re.sl j s h
  · have ne : ∀ {j : Nat} {o1 : Ob}, (env.set i .no)[j]? = some (.al o1) → i ≠ j := fun {j o1} h z => by
      subst z
      by_cases hl : i < env.length
      · rw [List.getElem?_set_self hl] at h; cases h
      · rw [List.getElem?_eq_none (by rw [List.length_set]; omega)] at h; cases h
    have n1 := ne h1
    have n2 := ne h2
    rw [List.getElem?_set_ne n1] at h1
    rw [List.getElem?_set_ne n2] at h2
    rw [List.getElem?_set_ne n1, List.getElem?_set_ne n2] at h3
    exact re.ap j k o1 o2 h1 h2 h3
/-- the own object of a name is told of as never changed any more, as another thing of the heap -/
theorem swap_own {i : Nat} {ob : Ob} {a : Addr} {u : HO} {d : D} (e0 : Ext M0 H0 M H) (h0 : M0.H0 = H0) (rs : RelS ca M S H) (re : RelE ca M env σ H) (he : env[i]? = some (.al ob)) (hs : σ[i]? = some (some (.ref a)))
    (hd : Rep ca { M with F := upd M.F a u } (.ref a) d) : Ext M0 H0 { M with F := upd M.F a u } (upd H a u) ∧ RelS ca { M with F := upd M.F a u } S (upd H a u) ∧ RelE ca { M with F := upd M.F a u } (env.set i (.fz d)) σ (upd H a u) := by
  have z := re.sl i _ he
  rw [hs] at z
  cases z with
  | al g1 g2 g3 g4 g5 g6 =>
    rename_i ho
    have hF : ∀ b o, M.F b = some o → (upd M.F a u) b = some o := fun b o h => by
      rw [upd_ne (fun z => by rw [z, g3] at h; cases h)]; exact h
    have hn : H0 a = none := by rw [← h0, ← e0.h0]; exact g5
    have em : ExtM M { M with F := upd M.F a u } := ⟨hF, fun _ _ h => h, rfl, rfl⟩
    refine ⟨⟨fun b o h => hF b o (e0.F b o h), e0.mu, e0.h0, e0.sa, fun b o h n => ?_, fun b o h n => ?_, e0.newM, fun b o h => ?_⟩, ⟨fun b o h => ?_, rs.len, rs.nd, fun b h => ?_, fun n ob' h => ?_, fun b h => rs.h0 b (upd_none h)⟩, ⟨by rw [List.length_set, re.len], fun j s h => ?_, fun j k o1 o2 h1 h2 h3 => ?_⟩⟩
    · rw [upd_ne (ne_of_none h hn)]; exact e0.rest b o h n
    · by_cases zz : b = a
      · rw [zz]; exact hn
      · exact e0.newF b o (by rw [← h]; exact (upd_ne zz).symm) n
    · obtain ⟨o', q⟩ := e0.dom b o h
      exact ⟨o', by rw [upd_ne (ne_of_none h hn)]; exact q⟩
    · by_cases zz : b = a
      · subst zz
        have h' : upd M.F b u b = some o := h
        rw [upd_same] at h' ⊢
        exact h'
      · rw [upd_ne zz]
        exact rs.frz b o (by rw [← h]; exact (upd_ne zz).symm)
    · have hne : b ≠ a := fun zz => g4 (by rw [← zz]; exact h)
      exact (upd_ne hne).trans (rs.off b h)
    · obtain ⟨b, ho', k1, k2, k3⟩ := rs.ob n ob' h
      have hne : b ≠ a := fun zz => g4 (by rw [← zz]; exact List.mem_of_getElem? k1)
      exact ⟨b, ho', k1, (upd_ne hne).trans k2, em.obr k3⟩
    · by_cases ee : i = j
      · subst ee
        by_cases hl : i < env.length
        · rw [List.getElem?_set_self hl] at h
          cases h
          rw [hs]
          exact .fz hd
        · rw [List.getElem?_eq_none (by rw [List.length_set]; omega)] at h; cases h
      · rw [List.getElem?_set_ne ee] at h
        have y := re.sl j s h
        generalize hsj : σ[j]? = sj at y
        cases y with
        | no => exact .no
        | fz r => exact .fz (em.rep r)
        | al f1 f2 f3 f4 f5 f6 =>
          rename_i b ho2 ob2
          have hne : b ≠ a := fun zz => ee (re.ap i j _ _ he h (by rw [hs, hsj, zz]))
          exact .al ((upd_ne hne).trans f1) (em.obr f2) ((upd_ne hne).trans f3) f4 f5 f6
    · have n1 : i ≠ j := by
        intro zz
        subst zz
        rw [List.getElem?_set_self (List.getElem?_eq_some_iff.mp he).1] at h1; cases h1
      have n2 : i ≠ k := by
        intro zz
        subst zz
        rw [List.getElem?_set_self (List.getElem?_eq_some_iff.mp he).1] at h2; cases h2
      rw [List.getElem?_set_ne n1] at h1
      rw [List.getElem?_set_ne n2] at h2
      exact re.ap j k o1 o2 h1 h2 h3
end
/-- the own dict of a name is never written any more: it may be walked -/
theorem sndS_frzd {i : Nat} {ss : List Stmt} {xs : Sms} (h2 : PSs X ss (tS ca W M0 H0 (exSs C xs))) : PSs X ss (tS ca W M0 H0 (exSs C (.cons (.frzd i) xs))) := by
  refine ⟨fun pins s σ H D I h => ?_⟩
  obtain ⟨M, env, S, e0, h0, rs, re, o⟩ := h
  simp only [exSs, exS] at o
  cases he : env[i]? with
  | none => rw [he] at o; exact o.elim
  | some sl =>
    rw [he] at o
    cases sl with
    | no => exact o.elim
    | fz d => exact o.elim
    | al ob =>
      cases ob with
      | lst _ => exact o.elim
      | ins _ _ _ => exact o.elim
      | dct ks vs =>
        have z := re.sl i _ he
        generalize hs : σ[i]? = so at z
        cases z with
        | al g1 g2 g3 g4 g5 g6 =>
          rename_i a ho
          cases g2 with
          | dct e q =>
            rename_i kvs
            obtain ⟨od, I1⟩ := I.lock g1 True.intro
            have em : ExtM M { M with F := upd M.F a (.frz od (.dK kvs)) } := ⟨fun b u h => by
              show upd M.F a _ b = some u
              rw [upd_ne (fun z => by rw [z, g3] at h; cases h)]; exact h, fun _ _ h => h, rfl, rfl⟩
            obtain ⟨k1, k2, k3⟩ := swap_own (u := .frz od (.dK kvs)) (d := .dcf ks vs) e0 h0 rs re he hs (.dcf upd_same e (em.repL q))
            exact h2.run pins s σ _ D I1 ⟨_, _, S, k1, h0, k2, k3, OutS.ext (r := exSs C xs _ S) o em⟩

/-! ### o.f = e -/
theorem putFd_of {M : Mem} {f : Str} {v : V} {u : D} (rv : Rep ca M v u) : ∀ {fs : List (Str × V)} {vs : List D}, RepL ca M (fs.map (·.2)) vs →
    (putF f v fs).map (·.1) = (putFd (fs.map (·.1)) vs f u).1 ∧ RepL ca M ((putF f v fs).map (·.2)) (putFd (fs.map (·.1)) vs f u).2
  | [], _, r => by
    cases r
    exact ⟨rfl, .cons rv .nil⟩
  | (k, x) :: fs, _, r => by
    rw [List.map_cons] at r
    cases r with
    | cons r1 r2 =>
      obtain ⟨i1, i2⟩ := putFd_of rv r2
      rw [show putF f v ((k, x) :: fs) = (if k = f then (k, v) :: fs else (k, x) :: putF f v fs) from rfl]
      show _ = (if f = k then _ else _ : List Str × List D).1 ∧ RepL ca M _ (if f = k then _ else _ : List Str × List D).2
      by_cases z : k = f
      · rw [if_pos z, if_pos z.symm]
        exact ⟨rfl, .cons rv r2⟩
      · rw [if_neg z, if_neg fun y => z y.symm]
        exact ⟨by rw [List.map_cons, i1], .cons r1 i2⟩
theorem sndS_setfld {o e : Expr} {f : Str} {x z : Ex} {p2 : Pos} (A : KA X.K ca fa C.attr C.meth) (hne : isComp e = false) (ho : PE X o (tM ca W (ev C x))) (he : PE X e (tM ca W (ev C z))) :
    PS X (.Assign [.Attribute o f p2] e pos) (tS ca W M0 H0 (exS C (.setfld x f z))) := by
  refine PS.imp (ps_fld ho he (by cases e <;> first | rfl | cases hne)) fun E σ H ⟨M, env, S, e0, h0, rs, re, o⟩ => ?_
  simp only [exS] at o
  refine ⟨M, env, S, rs, re, o.bind e0 re fun u S1 v M1 H1 e1 rs1 re1 rx1 e01 o1 => ?_⟩
  cases hu : u.isAcc with
  | true => rw [hu] at o1; exact o1.elim
  | false =>
    rw [hu] at o1
    simp only [Bool.false_eq_true, if_false] at o1
    refine ⟨M1, env, S1, rs1, re1, o1.bind e01 re1 fun d S2 ov M2 H2 e2 rs2 re2 rx2 e02 o2 => ?_⟩
    cases hc : cont env S2 d with
    | none => rw [hc] at o2; exact o2.elim
    | some ob =>
      rw [hc] at o2
      cases ob with
      | lst _ => exact o2.elim
      | dct _ _ => exact o2.elim
      | ins c fs vs =>
        obtain ⟨⟨k1, k2⟩, o3⟩ := outS_chk o2
        obtain ⟨p, k3, o4⟩ := outS_oget o3
        obtain ⟨a, ho, rfl, ha, q, kf⟩ := place_put e02 h0 rs2 re2 rx2 hc k3 (fun c' fs' vs' z => ⟨_, _, _, rfl⟩)
        obtain ⟨g1, g2⟩ := A.fl c f k2
        cases q with
        | ins e q =>
          rename_i dx fs'
          subst e
          obtain ⟨i1, i2⟩ := putFd_of (ca := ca) (M := M2) (e2.rep (rx1.rep hu)) q
          have z := kf (.ins (ca c) dx (putF f v fs')) (.ins i1 i2)
          exact ⟨a, ca c, dx, fs', rfl, ha, g1, g2, by simpa using k1, outS_nx o4 z.1 z.2.1 z.2.2⟩

/-! ### raise -/
theorem rel_lay {M : Mem} {S : Sto} {H : Hp} {p : Addr} {o : HO} (rs : RelS ca M S H) (hp : H p = none) : RelS ca M S (upd H p o) := by
  refine ⟨fun a u h => ?_, rs.len, rs.nd, rs.off, fun n ob h => ?_, fun a h => rs.h0 a (upd_none h)⟩
  · have q := rs.frz a u h
    rw [upd_ne (ne_of_none q hp)]; exact q
  · obtain ⟨a, ho, h1, h2, h3⟩ := rs.ob n ob h
    exact ⟨a, ho, h1, by rw [upd_ne (ne_of_none h2 hp)]; exact h2, h3⟩
theorem sndS_raise {c : Nat} {x : Str} {v : Expr} {e : Ex} {p pos2 : Pos} {fI : Addr} {fdI : FuncData} (T : ExcT X.K (ca c) fI) (F1 : FnOk X.prog X.w X.K X.mg X.base CX0 1 fI fdI (["self", "value"] : List Str) (spEI X.K)) (hr : Room 2 X.A)
    (hb : ∀ (s : Shared) (self u : Value), X.K.In s.heap → BindsTo s fdI ⟨[self, u], []⟩ ((["self", "value"] : List Str).zip [self, u])) (hg : Gl X x) (hm : X.mg x = some (.ref (ca c))) (hd : (x == ("__debug__" : Str)) = false) (hs : isStar v = false) (hc : X.calm = true) (tk : Takes X W)
    (he : PE X v (tM ca W (ev C e))) : PS X (.Raise (some (.Call (.Name x p) [v] [] pos)) none pos2) (tS ca W M0 H0 (exS C (.raise c e))) := by
  have hb' : Binds X.K fdI (["self", "value"] : List Str) [] := fun s us hK hl => by
    rw [List.append_nil] at hl ⊢
    match us, hl with
    | [a, b], _ => exact hb s a b hK
  refine PS.imp (ps_raise hc tk (pmk_oex (sp := spEI X.K) (ds := []) (dvs := []) T.oex T.ini T.fn F1 hr hb' .nil (fun _ _ _ _ _ _ _ z => (show False from z).elim) hg hm (pa_cons he pa_nil (star_cons hs)) hd (star_cons hs) (no_star (by rfl)))) fun E σ H ⟨M, env, S, e0, h0, rs, re, o⟩ => ?_
  simp only [exS] at o
  refine ⟨M, env, S, rs, re, o.bind e0 re fun u S1 y M1 H1 e1 rs1 re1 rx1 e01 o1 => ?_⟩
  cases hu : u.isAcc with
  | true => rw [hu] at o1; exact o1.elim
  | false =>
    rw [hu] at o1
    simp only [Bool.false_eq_true, if_false] at o1
    refine ⟨Nat.le_of_ble_eq_true rfl, fun a ha => ⟨a, ca c, y, rfl, upd_same, T.oex, T.no, fun dx hdx hne => ⟨rfl, dx, [(("value" : Str), y)], upd_same, ?_, ?_, ?_⟩⟩⟩
    · rw [upd_ne hne, upd_same]
    · rw [upd_ne hne] at hdx; exact hdx
    · have hdx1 : H1 dx = none := by rw [upd_ne hne] at hdx; exact hdx
      have eH : upd (del (upd (upd (upd H1 a (exo a (ca c) none)) dx (exd dx [(("value" : Str), y)])) a (exo a (ca c) (some dx))) a) dx (.xd [(("value" : Str), y)]) = upd H1 dx (.xd [(("value" : Str), y)]) := by
        funext b
        by_cases h1 : b = dx
        · rw [h1, upd_same, upd_same]
        · rw [upd_ne h1, upd_ne h1]
          by_cases h2 : b = a
          · rw [h2, del_same, ha]
          · rw [del_ne h2, upd_ne h2, upd_ne h1, upd_ne h2]
      rw [eH]
      have hn0 : H0 dx = none := e01.none hdx1
      refine o1 (.ref (ca c)) (some dx) σ M1 _ ExtM.refl (ext_upd e01 hn0) (rel_lay rs1 hdx1) ⟨rfl, dx, y, rfl, upd_same, free_F rs1 hdx1, free_mu rs1 hdx1, rx1.rep hu⟩ ?_
      exact hn0

/-! ### try -/
theorem rs_keep {M : Mem} {S : Sto} {H : Hp} {a d : Addr} {c : Nat} {v : V} (rs : RelS ca M S H) (ha : H a = none) (hd : H d = some (.xd [(("value" : Str), v)])) (fd : M.F d = none) (md : d ∉ M.mu) :
    RelS ca { M with F := upd (upd M.F d (.xd [(("value" : Str), v)])) a (ExV (ca c) d a) } S (upd H a (ExV (ca c) d a)) := by
  have hne : d ≠ a := fun z => by rw [z, ha] at hd; cases hd
  refine ⟨fun b u h => ?_, rs.len, rs.nd, fun b h => ?_, fun n ob h => ?_, fun b h => rs.h0 b (upd_none h)⟩
  · by_cases z : b = a
    · subst z
      have h' : upd (upd M.F d (.xd [(("value" : Str), v)])) b (ExV (ca c) d b) b = some u := h
      rw [upd_same] at h' ⊢
      exact h'
    · have h' : upd (upd M.F d (.xd [(("value" : Str), v)])) a (ExV (ca c) d a) b = some u := h
      rw [upd_ne z] at h' ⊢
      by_cases y : b = d
      · subst y
        rw [upd_same] at h'
        cases h'
        exact hd
      · rw [upd_ne y] at h'
        exact rs.frz b u h'
  · have n1 : b ≠ a := fun z => free_mu rs ha (by rw [← z]; exact h)
    have n2 : b ≠ d := fun z => md (by rw [← z]; exact h)
    show upd (upd M.F d _) a _ b = none
    rw [upd_ne n1, upd_ne n2]
    exact rs.off b h
  · obtain ⟨b, ho, h1, h2, h3⟩ := rs.ob n ob h
    refine ⟨b, ho, h1, by rw [upd_ne (ne_of_none h2 ha)]; exact h2, ObR.mono (M := M) (M' := { M with F := upd (upd M.F d (.xd [(("value" : Str), v)])) a (ExV (ca c) d a) }) (fun b u q => by
      show upd (upd M.F d _) a _ b = some u
      rw [upd_ne (fun z => by rw [z, free_F rs ha] at q; cases q), upd_ne (fun z => by rw [z, fd] at q; cases q)]
      exact q) (fun _ _ q => q) rfl h3⟩
theorem em_keep {M : Mem} {S : Sto} {H : Hp} {a d : Addr} {u1 u2 : HO} (rs : RelS ca M S H) (ha : H a = none) (fd : M.F d = none) : ExtM M { M with F := upd (upd M.F d u1) a u2 } :=
  ⟨fun b u q => by
    show upd (upd M.F d _) a _ b = some u
    rw [upd_ne (fun z => by rw [z, free_F rs ha] at q; cases q), upd_ne (fun z => by rw [z, fd] at q; cases q)]
    exact q, fun _ _ q => q, rfl, rfl⟩
theorem re_keep {M M' : Mem} {H : Hp} {σ : L2.St} {env : Env} {a : Addr} {u : HO} (re : RelE ca M env σ H) (em : ExtM M M') (ha : H a = none) (hF : ∀ b o, H b = some o → M.F b = none → b ∉ M.mu → M'.F b = M.F b ∨ ∃ w, o = .xd w) (hmu : M'.mu = M.mu) : RelE ca M' env σ (upd H a u) := by
  refine ⟨re.len, fun j s h => ?_, re.ap⟩
  have y := re.sl j s h
  generalize σ[j]? = sj at y
  cases y with
  | no => exact .no
  | fz r => exact .fz (em.rep r)
  | al f1 f2 f3 f4 f5 f6 =>
    refine .al (by rw [upd_ne (ne_of_none f1 ha)]; exact f1) (em.obr f2) ?_ (by rw [hmu]; exact f4) (by rw [em.h0]; exact f5) (by rw [em.sa]; exact f6)
    rcases hF _ _ f1 f3 f4 with z | ⟨w, z⟩
    · rw [z]; exact f3
    · subst z
      cases f2
theorem sndS_tryE {i j k c : Nat} {x n y z : Str} {v : Expr} {e : Ex} {p1 p2 p3 p4 p5 np pos' : Pos} (F : KF X.K ca C.sub) (hs : X.stack = X.env :: X.outer) (hf : X.env.frame = some X.env.locals) (hN : X.N.Nodup)
    (hj : X.N[j]? = some y) (hjl : Loc X.env.scope y) (hjf : X.fn y = true ∨ X.env.scope.names.lookup y = some .local) (hi : X.N[i]? = some n) (hin : X.env.scope.names.lookup n = some .local) (hnd : (n == ("__debug__" : Str)) = false) (hnc : (n == ("__classdict__" : Str)) = false)
    (hk : X.N[k]? = some z) (hkl : Loc X.env.scope z) (hkf : X.fn z = true ∨ X.env.scope.names.lookup z = some .local) (hx : Names X x (.ref (ca c))) (tk : Takes X W)
    (hv : ∀ (W : WX) (pn : List (Addr × Obj)) (xe : Value → Shared → Prop), Takes (X.tr pn xe) W → PassesOwn (model X.prog X.w) X.A X.env xe → PE (X.tr pn xe) v (tM ca W (ev C e))) (hsw : swapsWith v (some (.Name y p1)) p2.line X.env = pure false) :
    PS X (.Try [.Assign [.Name y p1] v p2] [.ExceptHandler (some (.Name x np)) (some n) [.Assign [.Name z p3] (.Name n p4) p5] pos'] [] [] pos) (tS ca W M0 H0 (exS C (.tryE j e c i k))) := by
  refine ⟨fun pins s σ H D I h => (ps_try_keep (tb := fun W => tAsg (tM ca W (ev C e)) (gName j)) (ts := tAsg (tVar i) (gName k)) (c := .ref (ca c)) hs hf hN hi hin hx tk
    (fun W pn xe tk' po => pss_one (ps_set (X := X.tr pn xe) hN hj hjl (hv W pn xe tk' po) hsw hjf)) (fun a pn => pss_one (ps_set (X := suiteT X a pn) hN hk hkl (pe_var (X := suiteT X a pn) hi (.inl hin) hnd hnc) (by rfl) hkf))).run pins s σ H D I ?_⟩
  obtain ⟨M, env, S, e0, h0, rs, re, o⟩ := h
  simp only [exS] at o
  refine ⟨M, env, S, rs, re, ?_⟩
  cases hr : ev C e env S with
  | bad => rw [hr] at o; exact o.elim
  | ok d S1 =>
    rw [hr] at o
    intro v1 M1 H1 e1 rs1 rt
    obtain ⟨M2, e2, rs2, rx⟩ := rt.hold e1 rs1
    have o : OutS ca W M0 H0 M (if (rd d).isAcc then .bad else .ok (.nx (env.set j (.fz (rd d)))) S1) D := o
    cases hd : (rd d).isAcc with
    | true => rw [hd] at o; exact o.elim
    | false =>
      rw [hd] at o
      exact outS_nx (OutS.ext o e2.m) (e0.trans e2) rs2 ((re.ext e2).set (rx.rep hd))
  | er c' d S1 =>
    rw [hr] at o
    intro cls dd M1 H1 e1 rs1 ex hn
    obtain ⟨rfl, ad, w, rfl, a1, a2, a3, a4⟩ := ex
    obtain ⟨⟨s1, s2⟩, o⟩ := outS_chk (show OutS ca W M0 H0 M (chk _ _) D from o)
    cases hb : C.sub c' (.cls c) with
    | none => rw [hb] at o; exact o.elim
    | some b =>
      rw [hb] at o
      refine ⟨b, F.em c' c b s1 s2 hb, fun hbt a ha => ?_, fun hbf => ?_⟩
      · subst hbt
        have hne : ad ≠ a := fun z => by rw [z, ha] at a1; cases a1
        have rs2 := rs_keep (c := c') rs1 ha a1 a2 a3
        have em : ExtM M1 { M1 with F := upd (upd M1.F ad (.xd [(("value" : Str), w)])) a (ExV (ca c') ad a) } := em_keep rs1 ha a2
        have e01 := e0.trans e1
        have hn0 : H0 a = none := e01.none ha
        have hd0 : H0 ad = none := e0.none hn
        have rp : Rep ca { M1 with F := upd (upd M1.F ad (.xd [(("value" : Str), w)])) a (ExV (ca c') ad a) } (.ref a) (.exc c' d) := .exc upd_same (by show upd (upd _ _ _) _ _ ad = _; rw [upd_ne hne, upd_same]) (em.rep a4)
        have re2 : RelE ca { M1 with F := upd (upd M1.F ad (.xd [(("value" : Str), w)])) a (ExV (ca c') ad a) } env σ (upd H1 a (ExV (ca c') ad a)) := by
          refine re_keep (re.ext e1) em ha (fun b o hb hF hm => ?_) rfl
          have nb : b ≠ a := ne_of_none hb ha
          by_cases q : b = ad
          · subst q
            rw [a1] at hb
            cases hb
            exact .inr ⟨_, rfl⟩
          · exact .inl (by show upd (upd _ _ _) _ _ b = _; rw [upd_ne nb, upd_ne q])
        have ex2 : Ext M0 H0 { M1 with F := upd (upd M1.F ad (.xd [(("value" : Str), w)])) a (ExV (ca c') ad a) } (upd H1 a (ExV (ca c') ad a)) := by
          refine ⟨fun b u q => em.F b u (e01.F b u q), e01.mu, e01.h0, e01.sa, fun b u q n => ?_, fun b u q n => ?_, e01.newM, fun b u q => ?_⟩
          · rw [upd_ne (ne_of_none q hn0)]; exact e01.rest b u q n
          · have q' : upd (upd M1.F ad (.xd [(("value" : Str), w)])) a (ExV (ca c') ad a) b = some u := q
            by_cases z1 : b = a
            · rw [z1]; exact hn0
            · rw [upd_ne z1] at q'
              by_cases z2 : b = ad
              · rw [z2]; exact hd0
              · rw [upd_ne z2] at q'
                exact e01.newF b u q' n
          · obtain ⟨u', q'⟩ := e01.dom b u q
            exact ⟨u', by rw [upd_ne (ne_of_none q hn0)]; exact q'⟩
        have hli : i < σ.length := by
          rw [I.len]
          exact (List.getElem?_eq_some_iff.mp hi).1
        refine ⟨.ref a, List.getElem?_set_self hli, ?_⟩
        show D.nx (((σ.set i (some (.ref a))).set k (some (.ref a))).set i none) (upd H1 a (ExZ (.ref (ca c')) (some ad) a))
        have re3 := ((re2.unset (i := i) (o := some (.ref a))).set (i := k) rp).unset (i := i) (o := none)
        have ee : ((env.set i .no).set k (.fz (.exc c' d))).set i .no = (env.set k (.fz (.exc c' d))).set i .no := by
          by_cases q : i = k
          · subst q
            rw [List.set_set, List.set_set, List.set_set]
          · rw [List.set_comm _ _ q, List.set_set]
        rw [ee] at re3
        exact (OutS.ext o (e1.m.trans em)) _ _ _ ExtM.refl ex2 rs2 re3
      · subst hbf
        exact o (.ref (ca c')) (some ad) σ M1 H1 e1.m (e0.trans e1) rs1 ⟨rfl, ad, w, rfl, a1, a2, a3, a4⟩ (e0.none hn)
end K9
end
section
set_option Elab.async false
set_option linter.all false
set_option maxRecDepth 100000
set_option maxHeartbeats 0
/-! K9Main: what is the own syntax is run as the evaluator says: expressions. -/
namespace K9
open PySem PySem.Spec PyProof.Rows L2

/-- an error class and its maker -/
def ErrT (ca : Nat → Addr) (P : Program) (w : World) (K : PySem.W.Frag) (mg : Str → Option Value) (base : Heap) (C : Ctx) (c : Nat) : Prop :=
  ∃ (fI : Addr) (fdI : FuncData), ExcT K (ca c) fI ∧ FnOk P w K mg base CX0 1 fI fdI (["self", "value"] : List Str) (spEI K) ∧
    (∀ (s : Shared) (self u : Value), K.In s.heap → BindsTo s fdI ⟨[self, u], []⟩ ((["self", "value"] : List Str).zip [self, u])) ∧
    (∀ (s : Shared) (self u : Value), K.In s.heap → BindsTo s fdI ⟨[self], [(("value" : Str), u)]⟩ ((["self", "value"] : List Str).zip [self, u])) ∧
    C.make c = fun ds S => match ds with | [d] => .ok (.exc c d) S | _ => .bad
/-- a plain class and its maker -/
def ClsT (ca : Nat → Addr) (P : Program) (w : World) (K : PySem.W.Frag) (mg : Str → Option Value) (base : Heap) (k : Nat) (C : Ctx) (ckw : List (Nat × Nat × List Str × List Nat)) (c : Nat) : Prop :=
  ∃ (f : Addr) (fd : FuncData) (ps : List Str), Mk K (ca c) f ∧ FnG P w K mg base k f fd ps (spMk ca c (C.make c)) ∧ Binds K fd ps [] ∧ (∀ ds S d S', C.make c ds S = .ok d S' → ∃ e, d = .own e) ∧
    ∀ n ks perm, (c, n, ks, perm) ∈ ckw → ∀ (s : Shared) (self : Value) (us ws : List Value), us.length = n → ws.length = ks.length → ∃ zs, perm.mapM (fun i => (us ++ ws)[i]?) = some zs ∧ BindsTo s fd ⟨self :: us, ks.zip ws⟩ (ps.zip (self :: zs))
/-- what is known of the module -/
structure ModOk (ca fa : Nat → Addr) (P : Program) (w : World) (K : PySem.W.Frag) (mg : Str → Option Value) (base : Heap) (k : Nat) (C : Ctx) (g : GT) : Prop where
  kf : KF K ca C.sub
  ka : KA K ca fa C.attr C.meth
  fns : ∀ x f, g.fns.lookup x = some f → mg x = some (.ref (fa f)) ∧ PySem.W.keepIn K (.ref (fa f)) = true ∧ FnT ca fa P w K mg base k C.call f
  cls : ∀ x c, g.cls.lookup x = some c → mg x = some (.ref (ca c)) ∧ PySem.W.keepIn K (.ref (ca c)) = true ∧ ((g.errs.contains c = true ∧ ErrT ca P w K mg base C c) ∨ (g.errs.contains c = false ∧ ClsT ca P w K mg base k C g.ckw c))
  gS : ∀ x s, g.gS.lookup x = some s → ∃ u, mg x = some u ∧ RelV (.str s) u
  gI : ∀ x i, g.gI.lookup x = some i → ∃ u, mg x = some u ∧ RelV (.int i) u
  gD : ∀ x t, g.gD.lookup x = some t → ∃ a l, mg x = some (.ref a) ∧ GDct K w a l ∧ C.gd t = some l
  fk : ∀ f n ks perm, (f, n, ks, perm) ∈ g.fkw → ∃ (fd : FuncData) (ps : List Str), FnG P w K mg base k (fa f) fd ps (spF ca (C.call f)) ∧
    ∀ (s : Shared) (us ws : List Value), us.length = n → ws.length = ks.length → ∃ zs, perm.mapM (fun i => (us ++ ws)[i]?) = some zs ∧ BindsTo s fd ⟨us, ks.zip ws⟩ (ps.zip zs)
  bl : ∀ x, g.bl.contains x = true → mg x = none
  prop : ∀ c f n, C.attr c f = some (some n) → FnT ca fa P w K mg base k C.call n
  meth : ∀ c x n, C.meth c x = some n → FnT ca fa P w K mg base k C.call n
/-- what is known of a body's context -/
structure XOk (ca fa : Nat → Addr) (C : Ctx) (W : WX) (t : TC) (k : Nat) (X : Cx) : Prop where
  mod : ModOk ca fa X.prog X.w X.K X.mg X.base k C t.g
  N : X.N = t.N
  nd : X.N.Nodup
  sc : X.env.scope = t.sc
  loc : ∀ x, (t.sc0.names.lookup x = some .local ∨ t.sc0.names.lookup x = some .cell) → Loc X.env.scope x ∧ (X.fn x = true ∨ X.env.scope.names.lookup x = some .local)
  calm : X.calm = true
  gd : X.A.guards = some []
  rm : Room (k + 2) X.A
  tk : Takes X W

variable {ca fa : Nat → Addr} {W : WX} {C : Ctx} {X : Cx} {pos : Pos} {t : TC} {k : Nat}
theorem XOk.hu (h : XOk ca fa C W t k X) : X.A.units + 65 < cLine := by have := h.rm.un; omega
theorem XOk.hu1 (h : XOk ca fa C W t k X) : X.A.units + 1 < cLine := by have := h.rm.un; omega
theorem andB {a b : Bool} : (a && b) = true ↔ a = true ∧ b = true := Bool.and_eq_true_iff
theorem notB {a : Bool} : (!a) = true ↔ a = false := by cases a <;> simp
theorem XOk.glb (h : XOk ca fa C W t k X) {x : Str} (g : t.glb x = true) : Gl X x ∧ (x == ("__debug__" : Str)) = false ∧ x ≠ "__name__" := by
  unfold TC.glb at g
  rw [andB, andB] at g
  obtain ⟨⟨g1, g2⟩, g3⟩ := g
  refine ⟨?_, by simpa [bne] using g2, fun z => by subst z; simp [bne] at g3⟩
  show X.env.scope.names.lookup x = _
  rw [h.sc]
  exact eq_of_beq g1
theorem XOk.blt (h : XOk ca fa C W t k X) {x : Str} (g : t.blt x = true) : Gl X x ∧ (x == ("__debug__" : Str)) = false ∧ x ≠ "__name__" ∧ X.mg x = none := by
  unfold TC.blt at g
  rw [andB] at g
  obtain ⟨a, b, c⟩ := h.glb g.1
  exact ⟨a, b, c, h.mod.bl x g.2⟩
theorem XOk.vis (h : XOk ca fa C W t k X) {i : Nat} {x : Str} (g : t.slot i x = true) : X.N[i]? = some x ∧ Vis X.env.scope x ∧ (x == ("__debug__" : Str)) = false ∧ (x == ("__classdict__" : Str)) = false := by
  unfold TC.slot TC.vis at g
  rw [andB, andB, andB] at g
  obtain ⟨g1, ⟨g2, g3⟩, g4⟩ := g
  refine ⟨by rw [h.N]; exact eq_of_beq g1, ?_, by simpa [bne] using g3, by simpa [bne] using g4⟩
  rw [h.sc]
  rw [Bool.or_eq_true, Bool.or_eq_true] at g2
  rcases g2 with (g2 | g2) | g2
  · exact .inl (eq_of_beq g2)
  · exact .inr (.inl (eq_of_beq g2))
  · exact .inr (.inr (eq_of_beq g2))
theorem XOk.lcl (h : XOk ca fa C W t k X) {i : Nat} {x : Str} (g : t.loc i x = true) : X.N[i]? = some x ∧ Loc X.env.scope x ∧ (X.fn x = true ∨ X.env.scope.names.lookup x = some .local) := by
  unfold TC.loc at g
  rw [andB, Bool.or_eq_true] at g
  obtain ⟨g1, g2⟩ := g
  exact ⟨by rw [h.N]; exact eq_of_beq g1, h.loc x (g2.elim (fun z => .inl (eq_of_beq z)) fun z => .inr (eq_of_beq z))⟩
/-- a def of the module, called -/
theorem XOk.run (h : XOk ca fa C W t k X) {f : Nat} (T : FnT ca fa X.prog X.w X.K X.mg X.base k C.call f) : RunsP ca W X (.ref (fa f)) (C.call f) := by
  obtain ⟨fd, ps, F, hb⟩ := T
  exact runsP_fn F h.gd (h.rm.mono (by omega)) h.tk hb
theorem XOk.mkr (h : XOk ca fa C W t k X) {c : Nat} (T : (t.g.errs.contains c = true ∧ ErrT ca X.prog X.w X.K X.mg X.base C c) ∨ (t.g.errs.contains c = false ∧ ClsT ca X.prog X.w X.K X.mg X.base k C t.g.ckw c)) : RunsP ca W X (.ref (ca c)) (C.make c) := by
  rcases T with ⟨_, fI, fdI, T, F1, b1, b2, e⟩ | ⟨_, f, fd, ps, Mc, F, hb, ho, _⟩
  · rw [e]
    exact runsP_exc T F1 (h.rm.mono (by omega)) b1
  · exact runsP_mk Mc F h.gd (h.rm.mono (by omega)) h.tk hb ho

/-- an expression, in its three ways -/
structure P3 (ca : Nat → Addr) (W : WX) (C : Ctx) (X : Cx) (x : Ex) (e : Expr) : Prop where
  pe : PE X e (tM ca W (ev C x))
  pt : PT X e (tMT ca W (ev C x))
theorem P3.of {x : Ex} {e : Expr} (he : PE X e (tM ca W (ev C x))) (h : ∀ whole, isTrue e X.env whole = (do let v ← whole; standAt e.pos; holding [v] (truthy v))) : P3 ca W C X x e := ⟨he, sndT_val he h⟩
theorem PT.bool {op : BoolOp} {vs : List Expr} {t : TT} (h : PW X (.BoolOp op vs pos) t) : PT X (.BoolOp op vs pos) t := ⟨fun pins s σ H Q I z => h.run _ pins s σ H Q I z⟩
theorem PW.of {op : BoolOp} {vs : List Expr} {t : TT} (h : PT X (.BoolOp op vs pos) t) : PW X (.BoolOp op vs pos) t := ⟨fun wh pins s σ H Q I z => h.run pins s σ H Q I z⟩
theorem sndT_ite {c l r : Expr} {x y z : Ex} (hc : PT X c (tMT ca W (ev C x))) (hl : PT X l (tMT ca W (ev C y))) (hr : PT X r (tMT ca W (ev C z))) : PT X (.IfExp c l r pos) (tMT ca W (ev C (.ite x y z))) := by
  refine ⟨fun pins s σ H Q I h => ?_⟩
  obtain ⟨M, env, S, rs, re, o⟩ := h
  simp only [ev] at o
  refine isTrue_IfExp (thn (hc.run pins s σ H (fun b H1 => if b = true then tMT ca W (ev C y) σ H1 Q else tMT ca W (ev C z) σ H1 Q) I ⟨M, env, S, rs, re, o.bind re fun d S1 v M1 H1 _ e1 rs1 re1 rx1 o1 => ?_⟩) fun b s1 ⟨H1, I1, q⟩ => ?_)
  · obtain ⟨b, rfl, rfl, o2⟩ := bl_only rx1 o1
    refine ⟨b, rfl, ?_⟩
    cases b with
    | true => exact iteT ⟨M1, env, S1, rs1, re1, o2⟩
    | false => exact iteF ⟨M1, env, S1, rs1, re1, o2⟩
  · cases b with
    | true => exact hl.run pins s1 σ H1 Q I1 (by simpa using q)
    | false => exact hr.run pins s1 σ H1 Q I1 (by simpa using q)
/-- the context of a comprehension's block -/
theorem XOk.blk (h : XOk ca fa C W t k X) (s : Shared) (H : Hp) (scope : Scope) (cc : Addr) (cl : List (Str × Addr)) (fp : List Addr) : XOk ca fa C WF (t.inner scope) k (X.blk s H scope (compEnvC scope cl cc X.env) fp) := by
  have hsc : (compEnvC scope cl cc X.env).scope = relS scope X.env.scope := rfl
  refine ⟨h.mod, h.N, h.nd, ?_, fun x hx => ?_, h.calm, h.gd, h.rm, fun u s' z => ?_⟩
  · show (compEnvC scope cl cc X.env).scope = relB scope t.sc
    rw [hsc, h.sc]; rfl
  · have key : ∀ kd, kd ≠ NameKind.free → scope.names.lookup x = some kd → (relS scope X.env.scope).names.lookup x = some kd := fun kd hk hl => lookup_relS_keep hk hl
    rcases hx with hx | hx
    · exact ⟨.inl (key _ (by decide) hx), .inr (key _ (by decide) hx)⟩
    · refine ⟨.inr (key _ (by decide) hx), .inl ?_⟩
      show (scope.names.lookup x == some .cell) = true
      rw [show scope.names.lookup x = some NameKind.cell from hx]; rfl
  · obtain ⟨_, _, _, _, _, _, _, _, _, _, _, _, _, _, _, _, w⟩ := z
    exact w
end K9
end
section
set_option Elab.async false
set_option linter.all false
set_option maxRecDepth 100000
set_option maxHeartbeats 0
/-! K9Main2: the cases of expressions. -/
namespace K9
open PySem PySem.Spec PyProof.Rows L2
section
variable (ca fa : Nat → Addr) (C : Ctx)
def GoalE (x : Ex) : Prop := ∀ (W : WX) (t : TC) (k : Nat) (X : Cx) (e : Expr), XOk ca fa C W t k X → mat t x e = true → P3 ca W C X x e
def GoalEs (xs : Exs) : Prop := ∀ (W : WX) (t : TC) (k : Nat) (X : Cx) (es : List Expr), XOk ca fa C W t k X → mats t xs es = true → PA X es (tAK ca W (evs C xs)) ∧ (es.any isStar = false → PA X es (tAR ca W (evl C xs)))
def GoalIt (it : It) : Prop := ∀ (W : WX) (t : TC) (k : Nat) (X : Cx) (tg e : Expr), XOk ca fa C W t k X → matIt t it e = true → (isTup tg || !(needTup it)) = true → PI X tg e (tI ca W (evIt C it))
end
variable {ca fa : Nat → Addr} {C : Ctx}
theorem c_bin {op : Bop} {a b : Ex} (ha : GoalE ca fa C a) (hb : GoalE ca fa C b) : GoalE ca fa C (.bin op a b) := by
  intro W t k X e h m
  cases e with
  | BinOp l o r pos =>
    have m : (bopOf o == some op && mat t a l && mat t b r) = true := m
    rw [andB, andB] at m
    exact P3.of (snd_bin (eq_of_beq m.1.1) (ha _ _ _ _ _ h m.1.2).pe (hb _ _ _ _ _ h m.2).pe) (fun _ => rfl)
  | _ => exact absurd (show false = true from m) (by decide)

theorem c_non : GoalE ca fa C .non := by
  intro W t k X e h m
  cases e with
  | Constant c kk pos =>
    cases c with
    | none => exact P3.of snd_non (fun _ => rfl)
    | _ => exact absurd (show false = true from m) (by decide)
  | _ => exact absurd (show false = true from m) (by decide)
theorem c_bl {b : Bool} : GoalE ca fa C (.bl b) := by
  intro W t k X e h m
  cases e with
  | Constant c kk pos =>
    cases c with
    | bool d =>
      have m : (b == d) = true := m
      obtain rfl := eq_of_beq m
      exact P3.of snd_bl (fun _ => rfl)
    | _ => exact absurd (show false = true from m) (by decide)
  | _ => exact absurd (show false = true from m) (by decide)
theorem c_int {i : Int} : GoalE ca fa C (.int i) := by
  intro W t k X e h m
  cases e with
  | Constant c kk pos =>
    cases c with
    | int d =>
      have m : (i == d) = true := m
      obtain rfl := eq_of_beq m
      exact P3.of snd_int (fun _ => rfl)
    | _ => exact absurd (show false = true from m) (by decide)
  | Name x pos =>
    have m : (t.glb x && t.g.gI.lookup x == some i) = true := m
    rw [andB] at m
    obtain ⟨g1, g2, g3⟩ := h.glb m.1
    obtain ⟨u, hu, r⟩ := h.mod.gI x i (eq_of_beq m.2)
    exact P3.of (snd_gint g1 hu r g2) (fun _ => rfl)
  | _ => exact absurd (show false = true from m) (by decide)
theorem c_str {i : Str} : GoalE ca fa C (.str i) := by
  intro W t k X e h m
  cases e with
  | Constant c kk pos =>
    cases c with
    | str d =>
      have m : (i == d) = true := m
      obtain rfl := eq_of_beq m
      exact P3.of snd_str (fun _ => rfl)
    | _ => exact absurd (show false = true from m) (by decide)
  | Name x pos =>
    have m : (t.glb x && t.g.gS.lookup x == some i) = true := m
    rw [andB] at m
    obtain ⟨g1, g2, g3⟩ := h.glb m.1
    obtain ⟨u, hu, r⟩ := h.mod.gS x i (eq_of_beq m.2)
    exact P3.of (snd_gstr g1 hu r g2) (fun _ => rfl)
  | _ => exact absurd (show false = true from m) (by decide)
theorem c_var {i : Nat} : GoalE ca fa C (.var i) := by
  intro W t k X e h m
  cases e with
  | Name x pos =>
    have m : t.slot i x = true := m
    obtain ⟨g1, g2, g3, g4⟩ := h.vis m
    exact P3.of (snd_var g1 g2 g3 g4) (fun _ => rfl)
  | _ => exact absurd (show false = true from m) (by decide)
theorem c_neg {a : Ex} (ha : GoalE ca fa C a) : GoalE ca fa C (.neg a) := by
  intro W t k X e h m
  cases e with
  | UnaryOp op l pos =>
    cases op with
    | USub => exact P3.of (snd_neg (ha _ _ _ _ _ h m).pe) (fun _ => rfl)
    | _ => exact absurd (show false = true from m) (by decide)
  | _ => exact absurd (show false = true from m) (by decide)
theorem c_not {a : Ex} (ha : GoalE ca fa C a) : GoalE ca fa C (.not a) := by
  intro W t k X e h m
  cases e with
  | UnaryOp op l pos =>
    cases op with
    | Not => exact ⟨snd_not (ha _ _ _ _ _ h m).pe, sndT_not (ha _ _ _ _ _ h m).pt⟩
    | _ => exact absurd (show false = true from m) (by decide)
  | _ => exact absurd (show false = true from m) (by decide)
theorem c_cmp {op : Cop} {a b : Ex} (ha : GoalE ca fa C a) (hb : GoalE ca fa C b) : GoalE ca fa C (.cmp op a b) := by
  intro W t k X e h m
  cases e with
  | Compare l ops rs pos =>
    match ops, rs, m with
    | [o], [r], m =>
      have m : (copOf o == op && mat t a l && mat t b r && !(isSetE r)) = true := m
      rw [andB, andB, andB, notB] at m
      obtain ⟨⟨⟨m1, m2⟩, m3⟩, m4⟩ := m
      obtain rfl := eq_of_beq m1
      exact ⟨snd_cmp h.hu m4 (ha _ _ _ _ _ h m2).pe (hb _ _ _ _ _ h m3).pe, sndT_cmp h.hu m4 (ha _ _ _ _ _ h m2).pe (hb _ _ _ _ _ h m3).pe⟩
    | [], _, m => exact absurd (show false = true from m) (by decide)
    | [_], [], m => exact absurd (show false = true from m) (by decide)
    | [_], _ :: _ :: _, m => exact absurd (show false = true from m) (by decide)
    | _ :: _ :: _, [], m => exact absurd (show false = true from m) (by decide)
    | _ :: _ :: _, [_], m => exact absurd (show false = true from m) (by decide)
    | [_, _], _ :: _ :: _, m => exact absurd (show false = true from m) (by decide)
    | _ :: _ :: _ :: _, _ :: _ :: _, m => exact absurd (show false = true from m) (by decide)
  | _ => exact absurd (show false = true from m) (by decide)
theorem c_cmp2 {o1 o2 : Cop} {a b c : Ex} (ha : GoalE ca fa C a) (hb : GoalE ca fa C b) (hc : GoalE ca fa C c) : GoalE ca fa C (.cmp2 o1 o2 a b c) := by
  intro W t k X e h m
  cases e with
  | Compare l ops rs pos =>
    match ops, rs, m with
    | [p1, p2], [r, q], m =>
      have m : (copOf p1 == o1 && copOf p2 == o2 && mat t a l && mat t b r && mat t c q && !(isSetE r) && !(isSetE q)) = true := m
      rw [andB, andB, andB, andB, andB, andB, notB, notB] at m
      obtain ⟨⟨⟨⟨⟨⟨m1, m2⟩, m3⟩, m4⟩, m5⟩, m6⟩, m7⟩ := m
      obtain rfl := eq_of_beq m1
      obtain rfl := eq_of_beq m2
      exact ⟨snd_cmp2 h.hu m6 m7 (ha _ _ _ _ _ h m3).pe (hb _ _ _ _ _ h m4).pe (hc _ _ _ _ _ h m5).pe, sndT_cmp2 h.hu m6 m7 (ha _ _ _ _ _ h m3).pe (hb _ _ _ _ _ h m4).pe (hc _ _ _ _ _ h m5).pe⟩
    | [], _, m => exact absurd (show false = true from m) (by decide)
    | [_], [], m => exact absurd (show false = true from m) (by decide)
    | [_], _ :: _, m => exact absurd (show false = true from m) (by decide)
    | [_, _], [], m => exact absurd (show false = true from m) (by decide)
    | [_, _], [_], m => exact absurd (show false = true from m) (by decide)
    | [_, _], _ :: _ :: _ :: _, m => exact absurd (show false = true from m) (by decide)
    | _ :: _ :: _ :: _, [], m => exact absurd (show false = true from m) (by decide)
    | _ :: _ :: _ :: _, _ :: _, m => exact absurd (show false = true from m) (by decide)
  | _ => exact absurd (show false = true from m) (by decide)
theorem c_and {a b : Ex} (ha : GoalE ca fa C a) (hb : GoalE ca fa C b) : GoalE ca fa C (.and a b) := by
  intro W t k X e h m
  cases e with
  | BoolOp op vs pos =>
    cases op with
    | And =>
      match vs, m with
      | [], m => exact absurd (show false = true from m) (by decide)
      | [_], m => exact absurd (show false = true from m) (by decide)
      | [v, u], m =>
        have m : (mat t a v && mat t b u) = true := m
        rw [andB] at m
        have p1 := ha _ _ _ _ _ h m.1
        have p2 := hb _ _ _ _ _ h m.2
        exact ⟨snd_and p1.pe (pe_one p2.pe), PT.bool (sndW_and p1.pt (pw_and1 p2.pt))⟩
      | v :: u :: w :: rest, m =>
        have m : (mat t a v && mat t b (.BoolOp .And (u :: w :: rest) pos)) = true := m
        rw [andB] at m
        have p1 := ha _ _ _ _ _ h m.1
        have p2 := hb _ _ _ _ _ h m.2
        exact ⟨snd_and p1.pe p2.pe, PT.bool (sndW_and p1.pt (PW.of p2.pt))⟩
    | _ => exact absurd (show false = true from m) (by decide)
  | _ => exact absurd (show false = true from m) (by decide)
theorem c_or {a b : Ex} (ha : GoalE ca fa C a) (hb : GoalE ca fa C b) : GoalE ca fa C (.or a b) := by
  intro W t k X e h m
  cases e with
  | BoolOp op vs pos =>
    cases op with
    | Or =>
      match vs, m with
      | [], m => exact absurd (show false = true from m) (by decide)
      | [_], m => exact absurd (show false = true from m) (by decide)
      | [v, u], m =>
        have m : (mat t a v && mat t b u) = true := m
        rw [andB] at m
        have p1 := ha _ _ _ _ _ h m.1
        have p2 := hb _ _ _ _ _ h m.2
        exact ⟨snd_or p1.pe (pe_one p2.pe), PT.bool (sndW_or p1.pt (pw_or1 p2.pt))⟩
      | v :: u :: w :: rest, m =>
        have m : (mat t a v && mat t b (.BoolOp .Or (u :: w :: rest) pos)) = true := m
        rw [andB] at m
        have p1 := ha _ _ _ _ _ h m.1
        have p2 := hb _ _ _ _ _ h m.2
        exact ⟨snd_or p1.pe p2.pe, PT.bool (sndW_or p1.pt (PW.of p2.pt))⟩
    | _ => exact absurd (show false = true from m) (by decide)
  | _ => exact absurd (show false = true from m) (by decide)
theorem c_ite {c a b : Ex} (hc : GoalE ca fa C c) (ha : GoalE ca fa C a) (hb : GoalE ca fa C b) : GoalE ca fa C (.ite c a b) := by
  intro W t k X e h m
  cases e with
  | IfExp g l r pos =>
    have m : (mat t c g && mat t a l && mat t b r) = true := m
    rw [andB, andB] at m
    have p1 := hc _ _ _ _ _ h m.1.1
    have p2 := ha _ _ _ _ _ h m.1.2
    have p3 := hb _ _ _ _ _ h m.2
    exact ⟨snd_ite p1.pt p2.pe p3.pe, sndT_ite p1.pt p2.pt p3.pt⟩
  | _ => exact absurd (show false = true from m) (by decide)
theorem c_tup {xs : Exs} (hx : GoalEs ca fa C xs) : GoalE ca fa C (.tup xs) := by
  intro W t k X e h m
  cases e with
  | Tuple es kk pos => exact P3.of (snd_tup (hx _ _ _ _ _ h m).1) (fun _ => rfl)
  | _ => exact absurd (show false = true from m) (by decide)
theorem c_lst {xs : Exs} (hx : GoalEs ca fa C xs) : GoalE ca fa C (.lst xs) := by
  intro W t k X e h m
  cases e with
  | List es pos => exact P3.of (snd_lst (hx _ _ _ _ _ h m).1) (fun _ => rfl)
  | _ => exact absurd (show false = true from m) (by decide)
theorem c_dict0 : GoalE ca fa C .dict0 := by
  intro W t k X e h m
  cases e with
  | Dict ks vs pos =>
    match ks, vs, m with
    | [], [], m => exact P3.of snd_dict0 (fun _ => rfl)
    | [], _ :: _, m => exact absurd (show false = true from m) (by decide)
    | _ :: _, _, m => exact absurd (show false = true from m) (by decide)
  | _ => exact absurd (show false = true from m) (by decide)
theorem nil_of {t : TC} {xs : Exs} {es : List Expr} (h : mats t xs es = true) : es = [] → xs = .nil := by
  intro e
  subst e
  cases xs with
  | nil => rfl
  | cons s x xs => cases s <;> exact absurd (show false = true from h) (by decide)
theorem c_call {f : Nat} {xs : Exs} (hx : GoalEs ca fa C xs) : GoalE ca fa C (.call f xs) := by
  intro W t k X e h m
  cases e with
  | Call fe es kws pos =>
    cases fe with
    | Name x p =>
      cases kws with
      | nil =>
        have m : (t.glb x && t.g.fns.lookup x == some f && mats t xs es && !(es.any isStar)) = true := m
        rw [andB, andB, andB, notB] at m
        obtain ⟨⟨⟨m1, m2⟩, m3⟩, m4⟩ := m
        obtain ⟨g1, g2, g3⟩ := h.glb m1
        obtain ⟨q1, q2, q3⟩ := h.mod.fns x f (eq_of_beq m2)
        exact P3.of (snd_call (g := C.call f) (fun env S => by simp only [ev]) g1 q1 q2 g2 m4 (h.run q3) (nil_of m3) (hx _ _ _ _ _ h m3).1) (fun _ => rfl)
      | cons _ _ => exact absurd (show false = true from m) (by decide)
    | _ => exact absurd (show false = true from m) (by decide)
  | _ => exact absurd (show false = true from m) (by decide)
theorem c_make {c : Nat} {xs : Exs} (hx : GoalEs ca fa C xs) : GoalE ca fa C (.make c xs) := by
  intro W t k X e h m
  cases e with
  | Call fe es kws pos =>
    cases fe with
    | Name x p =>
      cases kws with
      | nil =>
        have m : (t.glb x && t.g.cls.lookup x == some c && mats t xs es && !(es.any isStar)) = true := m
        rw [andB, andB, andB, notB] at m
        obtain ⟨⟨⟨m1, m2⟩, m3⟩, m4⟩ := m
        obtain ⟨g1, g2, g3⟩ := h.glb m1
        obtain ⟨q1, q2, q3⟩ := h.mod.cls x c (eq_of_beq m2)
        exact P3.of (snd_call (g := C.make c) (fun env S => by simp only [ev]) g1 q1 q2 g2 m4 (h.mkr q3) (nil_of m3) (hx _ _ _ _ _ h m3).1) (fun _ => rfl)
      | cons _ _ => exact absurd (show false = true from m) (by decide)
    | _ => exact absurd (show false = true from m) (by decide)
  | _ => exact absurd (show false = true from m) (by decide)
theorem mats_len : ∀ {xs : Exs} {t : TC} {es : List Expr}, mats t xs es = true → es.any isStar = false → ∀ {env : Env} {S : Sto} {ds : List D} {S1 : Sto}, evs C xs env S = .ok ds S1 → ds.length = es.length
  | .nil, t, es, m, hs, env, S, ds, S1, h => by
    cases es with
    | nil => simp only [evs] at h; cases h; rfl
    | cons _ _ => exact absurd (show false = true from m) (by decide)
  | .cons st x xs, t, es, m, hs, env, S, ds, S1, h => by
    cases es with
    | nil => cases st <;> exact absurd (show false = true from m) (by decide)
    | cons e es =>
      rw [List.any_cons, Bool.or_eq_false_iff] at hs
      cases st with
      | true => cases e <;> first | exact absurd (show false = true from m) (by decide) | exact absurd (show true = false from hs.1) (by decide)
      | false =>
        have m : (mat t x e && !(isStar e) && mats t xs es) = true := m
        rw [andB, andB] at m
        simp only [evs, Bool.false_eq_true, if_false] at h
        cases hx : ev C x env S with
        | bad => rw [hx] at h; cases h
        | er c d S' => rw [hx] at h; cases h
        | ok d S' =>
          rw [hx] at h
          have h : (if (rd d).isAcc then R.bad else (evs C xs env S').bind fun ys S2 => .ok (rd d :: ys) S2) = R.ok ds S1 := h
          split at h
          · cases h
          · cases hy : evs C xs env S' with
            | bad => rw [hy] at h; cases h
            | er c d S' => rw [hy] at h; cases h
            | ok ys S2 =>
              rw [hy] at h
              cases h
              rw [List.length_cons, List.length_cons, mats_len m.2 hs.2 hy]
/-- keywords -/
def GoalKs (ca fa : Nat → Addr) (C : Ctx) (xs : Exs) : Prop := ∀ (W : WX) (t : TC) (k : Nat) (X : Cx) (kws : List Keyword), XOk ca fa C W t k X → mats t xs (kws.map Keyword.value) = true → (kws.map Keyword.value).any isStar = false → PK X kws (tAK ca W (evs C xs))
theorem ck_nil : GoalKs ca fa C .nil := by
  intro W t k X kws h m hs
  cases kws with
  | nil => exact snd_nilKw
  | cons _ _ => exact absurd (show false = true from m) (by decide)
theorem ck_cons {st : Bool} {x : Ex} {xs : Exs} (hx : GoalE ca fa C x) (hr : GoalKs ca fa C xs) : GoalKs ca fa C (.cons st x xs) := by
  intro W t k X kws h m hs
  cases kws with
  | nil => cases st <;> exact absurd (show false = true from m) (by decide)
  | cons kw kws =>
    obtain ⟨n, v, q⟩ := kw
    rw [List.map_cons, List.any_cons, Bool.or_eq_false_iff] at hs
    cases st with
    | true =>
      cases v <;> first
        | exact absurd (show false = true from m) (by decide)
        | exact absurd (show true = false from hs.1) (by decide)
    | false =>
      have m : (mat t x v && !(isStar v) && mats t xs (kws.map Keyword.value)) = true := m
      rw [andB, andB] at m
      exact snd_consKw (hx _ _ _ _ _ h m.1.1).pe (hr _ _ _ _ _ h m.2 hs.2)
theorem kwNm_of : ∀ {kws : List Keyword} {ns : List Str}, kwNm kws = some ns → kwNames kws = ns.map some ∧ ns.length = kws.length
  | [], ns, h => by cases h; exact ⟨rfl, rfl⟩
  | ⟨n, v, q⟩ :: kws, ns, h => by
    unfold kwNm at h
    rw [List.mapM_cons] at h
    cases n with
    | none => cases h
    | some n =>
      cases h2 : kws.mapM Keyword.arg with
      | none => rw [h2] at h; cases h
      | some ns' =>
        rw [h2] at h
        cases h
        obtain ⟨i1, i2⟩ := kwNm_of (kws := kws) h2
        exact ⟨by
          show some n :: kwNames kws = _
          rw [i1]; rfl, by rw [List.length_cons, List.length_cons, i2]⟩
theorem c_makek {c : Nat} {es ks : Exs} {perm : List Nat} (he : GoalEs ca fa C es) (hk : GoalKs ca fa C ks) : GoalE ca fa C (.makek c es ks perm) := by
  intro W t k X e h m
  cases e with
  | Call fe as kws pos =>
    cases fe with
    | Name y p =>
      have m : (!kws.isEmpty && t.glb y && t.g.cls.lookup y == some c && ckB t c as.length (kwNm kws) perm && mats t es as && !(as.any isStar) && mats t ks (kws.map Keyword.value) && !((kws.map Keyword.value).any isStar)) = true := m
      rw [andB, andB, andB, andB, andB, andB, andB, notB, notB, notB] at m
      obtain ⟨⟨⟨⟨⟨⟨⟨m0, m1⟩, m2⟩, m3⟩, m4⟩, m5⟩, m6⟩, m7⟩ := m
      obtain ⟨g1, g2, g3⟩ := h.glb m1
      obtain ⟨q1, q2, q3⟩ := h.mod.cls y c (eq_of_beq m2)
      cases hn : kwNm kws with
      | none => rw [hn] at m3; cases m3
      | some ns =>
        rw [hn] at m3
        obtain ⟨n1, n2⟩ := kwNm_of hn
        have m3 : ((t.g.errs.contains c && (ns == (["value"] : List Str) && (perm == [0] && as.length == 0))) || (!(t.g.errs.contains c) && t.g.ckw.contains (c, as.length, ns, perm))) = true := m3
        have hr : RunsK ca W X (.ref (ca c)) as.length ns perm (C.make c) := by
          rw [Bool.or_eq_true, andB, andB, andB, andB, notB] at m3
          rcases m3 with ⟨c1, c2, c3, c4⟩ | ⟨c1, c2⟩
          · rcases q3 with ⟨_, fI, fdI, T, F1, b1, b2, e⟩ | ⟨q3, _⟩
            · rw [e, eq_of_beq c2, eq_of_beq c3, eq_of_beq c4]
              exact runsK_exc T F1 (h.rm.mono (by omega)) b2
            · rw [q3] at c1; cases c1
          · rcases q3 with ⟨q3, _⟩ | ⟨_, f, fd, ps, Mc, F, hb, ho, hkw⟩
            · rw [q3] at c1; cases c1
            · exact runsK_mk Mc F h.gd (h.rm.mono (by omega)) h.tk (hkw _ _ _ (List.contains_iff_mem.mp c2)) ho
        refine P3.of (snd_callk (ks := ns) (g := C.make c) (fun env S => by simp only [ev]) g1 q1 q2 g2 m5 n1 hr (fun env S ds S1 z => mats_len m4 m5 z) (fun env S ds S1 z => by rw [mats_len m6 m7 z, List.length_map, n2]) (nil_of m4) (he _ _ _ _ _ h m4).1 (hk _ _ _ _ _ h m6 m7)) (fun _ => rfl)
    | _ => exact absurd (show false = true from m) (by decide)
  | _ => exact absurd (show false = true from m) (by decide)
theorem c_callk {c : Nat} {es ks : Exs} {perm : List Nat} (he : GoalEs ca fa C es) (hk : GoalKs ca fa C ks) : GoalE ca fa C (.callk c es ks perm) := by
  intro W t k X e h m
  cases e with
  | Call fe as kws pos =>
    cases fe with
    | Name y p =>
      have m : (!kws.isEmpty && t.glb y && t.g.fns.lookup y == some c && fkB t c as.length (kwNm kws) perm && mats t es as && !(as.any isStar) && mats t ks (kws.map Keyword.value) && !((kws.map Keyword.value).any isStar)) = true := m
      rw [andB, andB, andB, andB, andB, andB, andB, notB, notB, notB] at m
      obtain ⟨⟨⟨⟨⟨⟨⟨m0, m1⟩, m2⟩, m3⟩, m4⟩, m5⟩, m6⟩, m7⟩ := m
      obtain ⟨g1, g2, g3⟩ := h.glb m1
      obtain ⟨q1, q2, _⟩ := h.mod.fns y c (eq_of_beq m2)
      cases hn : kwNm kws with
      | none => rw [hn] at m3; cases m3
      | some ns =>
        rw [hn] at m3
        obtain ⟨n1, n2⟩ := kwNm_of hn
        obtain ⟨fd, ps, F, hb⟩ := h.mod.fk _ _ _ _ (List.contains_iff_mem.mp (show t.g.fkw.contains (c, as.length, ns, perm) = true from m3))
        have hr : RunsK ca W X (.ref (fa c)) as.length ns perm (C.call c) := runsK_fn F h.gd (h.rm.mono (by omega)) h.tk hb
        refine P3.of (snd_callk (ks := ns) (g := C.call c) (fun env S => by simp only [ev]) g1 q1 q2 g2 m5 n1 hr (fun env S ds S1 z => mats_len m4 m5 z) (fun env S ds S1 z => by rw [mats_len m6 m7 z, List.length_map, n2]) (nil_of m4) (he _ _ _ _ _ h m4).1 (hk _ _ _ _ _ h m6 m7)) (fun _ => rfl)
    | _ => exact absurd (show false = true from m) (by decide)
  | _ => exact absurd (show false = true from m) (by decide)
theorem c_gget {g : Nat} {x : Ex} (hx : GoalE ca fa C x) : GoalE ca fa C (.gget g x) := by
  intro W t k X e h m
  cases e with
  | Call fe as kws pos =>
    cases fe with
    | Attribute v mm apos =>
      cases v with
      | Name y p =>
        cases kws with
        | cons _ _ => cases as with
          | nil => exact absurd (show false = true from m) (by decide)
          | cons a as => cases as <;> exact absurd (show false = true from m) (by decide)
        | nil =>
          cases as with
          | nil => exact absurd (show false = true from m) (by decide)
          | cons a as =>
            cases as with
            | cons _ _ => exact absurd (show false = true from m) (by decide)
            | nil =>
              have m : (mm == ("get" : Str) && t.glb y && t.g.gD.lookup y == some g && mat t x a && !(isStar a) && apos.endLine == pos.line) = true := m
              rw [andB, andB, andB, andB, andB, notB] at m
              obtain ⟨⟨⟨⟨⟨m1, m2⟩, m3⟩, m4⟩, m5⟩, m6⟩ := m
              obtain rfl := eq_of_beq m1
              obtain ⟨g1, g2, g3⟩ := h.glb m2
              obtain ⟨ad, l, q1, q2, q3⟩ := h.mod.gD y g (eq_of_beq m3)
              exact P3.of (snd_gget g1 q1 g2 q2 q3 m5 m6 (hx _ _ _ _ _ h m4).pe) (fun _ => rfl)
      | _ => exact absurd (show false = true from m) (by decide)
    | _ => exact absurd (show false = true from m) (by decide)
  | _ => exact absurd (show false = true from m) (by decide)
theorem biVal_of : ∀ {x : Str} {b : Bi}, biOf x = some b → bootBuiltins x = some (biVal b) := by
  intro x b h
  unfold biOf at h
  simp only [List.lookup] at h
  repeat' split at h
  all_goals first
    | (cases h; done)
    | (cases h
       rename_i hx
       obtain rfl := eq_of_beq hx
       rfl)
theorem c_bi {b : Bi} {xs : Exs} (hx : GoalEs ca fa C xs) : GoalE ca fa C (.bi b xs) := by
  intro W t k X e h m
  cases e with
  | Call fe es kws pos =>
    cases fe with
    | Name x p =>
      cases kws with
      | nil =>
        have m : (t.blt x && biOf x == some b && mats t xs es && !(es.any isStar) && !es.isEmpty) = true := m
        rw [andB, andB, andB, andB, notB, notB] at m
        obtain ⟨⟨⟨⟨m1, m2⟩, m3⟩, m4⟩, m5⟩ := m
        obtain ⟨g1, g2, g3, g4⟩ := h.blt m1
        cases es with
        | nil => cases m5
        | cons e es => exact P3.of (snd_biB h.calm h.hu h.gd g1 g4 (biVal_of (eq_of_beq m2)) g2 g3 m4 ((hx _ _ _ _ _ h m3).2 m4)) (fun _ => rfl)
      | cons _ _ => exact absurd (show false = true from m) (by decide)
    | _ => exact absurd (show false = true from m) (by decide)
  | _ => exact absurd (show false = true from m) (by decide)

theorem tyOf_p {W : WX} {t : TC} {k : Nat} {X : Cx} (h : XOk ca fa C W t k X) {e : Expr} {T : Ty} (m : tyOf t e = some T) : PCls ca X T e ∧ isStar e = false := by
  cases e with
  | Name x p =>
    have m : (if t.glb x then (match t.g.cls.lookup x with
      | some c => some (.cls c)
      | none => if t.g.bl.contains x then ([(("list" : Str), Ty.list), ("tuple", .tuple), ("int", .int), ("str", .str), ("bool", .bool), ("dict", .dict), ("ValueError", .valueError)] : List (Str × Ty)).lookup x else none) else none) = some T := m
    by_cases g : t.glb x = true
    · rw [if_pos g] at m
      obtain ⟨g1, g2, g3⟩ := h.glb g
      cases hc : t.g.cls.lookup x with
      | some c =>
        rw [hc] at m
        cases m
        obtain ⟨q1, q2, q3⟩ := h.mod.cls x c hc
        exact ⟨pe_glob g1 q1 rfl g2, rfl⟩
      | none =>
        rw [hc] at m
        simp only at m
        by_cases hb : t.g.bl.contains x = true
        · rw [if_pos hb] at m
          have hm := h.mod.bl x hb
          simp only [List.lookup] at m
          repeat' split at m
          all_goals first
            | (cases m; done)
            | (cases m
               rename_i hx
               obtain rfl := eq_of_beq hx
               exact ⟨pe_bltn g1 hm rfl rfl g3 g2, rfl⟩)
        · rw [if_neg hb] at m; cases m
    · rw [if_neg g] at m; cases m
  | _ => cases m
theorem tyOfs_p {W : WX} {t : TC} {k : Nat} {X : Cx} (h : XOk ca fa C W t k X) : ∀ {es : List Expr} {ts : List Ty}, es.mapM (tyOf t) = some ts → PClss ca X ts es
  | [], ts, m => by cases m; exact .nil
  | e :: es, ts, m => by
    rw [List.mapM_cons] at m
    cases h1 : tyOf t e with
    | none => rw [h1] at m; cases m
    | some T =>
      rw [h1] at m
      cases h2 : es.mapM (tyOf t) with
      | none => rw [h2] at m; cases m
      | some ts' =>
        rw [h2] at m
        cases m
        obtain ⟨a, b⟩ := tyOf_p h h1
        exact .cons a b (tyOfs_p h h2)
theorem bltHd_of {t : TC} {f : Str} {fe : Expr} (m : bltHd t f fe = true) : ∃ p, fe = .Name f p ∧ t.blt f = true := by
  cases fe with
  | Name x p =>
    have m : (t.blt x && x == f) = true := m
    rw [andB] at m
    obtain rfl := eq_of_beq m.2
    exact ⟨p, rfl, m.1⟩
  | _ => exact absurd (show false = true from m) (by decide)
theorem nilKw_of {kws : List Keyword} (m : isNilKw kws = true) : kws = [] := by
  cases kws with
  | nil => rfl
  | cons _ _ => exact absurd (show false = true from m) (by decide)
theorem c_isi {a : Ex} {ts : List Ty} (ha : GoalE ca fa C a) : GoalE ca fa C (.isi a ts) := by
  intro W t k X e h m
  cases e with
  | Call fe es kws pos =>
    have m : (okTys ts && bltHd t "isinstance" fe && isNilKw kws && (match (generalizing := false) es with
      | [e, c] => mat t a e && !(isStar e) && isiB t ts c
      | _ => false)) = true := m
    rw [andB, andB, andB] at m
    obtain ⟨⟨⟨m0, m1⟩, m2⟩, m3⟩ := m
    have hlen : ts.length ≤ sizeLine := by
      have := of_decide_eq_true m0
      rw [sizeLine_eq]; omega
    obtain ⟨p, rfl, mb⟩ := bltHd_of m1
    obtain rfl := nilKw_of m2
    obtain ⟨g1, g2, g3, g4⟩ := h.blt mb
    split at m3
    · rename_i e c
      rw [andB, andB, notB] at m3
      obtain ⟨⟨n1, n2⟩, m⟩ := m3
      cases c with
      | Tuple cs kk q =>
        have m : (cs.mapM (tyOf t) == some ts) = true := m
        exact P3.of (snd_isiT h.mod.kf g1 g4 n2 hlen (ha _ _ _ _ _ h n1).pe (tyOfs_p h (eq_of_beq m))) (fun _ => rfl)
      | Name y q =>
        cases ts with
        | nil => exact absurd (show false = true from m) (by decide)
        | cons T ts =>
          cases ts with
          | cons _ _ => exact absurd (show false = true from m) (by decide)
          | nil =>
            have m : (tyOf t (.Name y q) == some T) = true := m
            exact P3.of (snd_isi1 h.mod.kf g1 g4 n2 rfl (ha _ _ _ _ _ h n1).pe (tyOf_p h (eq_of_beq m)).1) (fun _ => rfl)
      | _ => exact absurd (show false = true from m) (by decide)
    · cases m3
  | _ => exact absurd (show false = true from m) (by decide)
theorem c_mt {mm : Mt} {o : Ex} {xs : Exs} (ho : GoalE ca fa C o) (hx : GoalEs ca fa C xs) : GoalE ca fa C (.mt mm o xs) := by
  intro W t k X e h m
  cases e with
  | Call fe es kws pos =>
    cases fe with
    | Attribute v x apos =>
      cases kws with
      | nil =>
        have m : (mtCov mm && mtOf x == some mm && mat t o v && mats t xs es && !(es.any isStar) && okBase v && decide (es.length < 30) && apos.endLine == pos.line && (!es.isEmpty || mm == .upper)) = true := m
        rw [andB, andB, andB, andB, andB, andB, andB, andB, notB] at m
        obtain ⟨⟨⟨⟨⟨⟨⟨⟨hcov, m1⟩, m2⟩, m3⟩, m4⟩, m5⟩, m6⟩, m7⟩, m8⟩ := m
        have F : MtF ca X mm x := by
          have m1 := eq_of_beq m1
          unfold mtOf at m1
          simp only [List.lookup] at m1
          repeat' split at m1
          all_goals first
            | (cases m1; done)
            | (cases m1; exact absurd hcov (by decide))
            | (cases m1
               rename_i hx
               obtain rfl := eq_of_beq hx
               first | exact mtF_join | exact mtF_get h.hu1 | exact mtF_upper | exact mtF_partition | exact mtF_split)
        cases es with
        | nil =>
          obtain rfl := nil_of m3 rfl
          exact P3.of (snd_mt0 F m5 m7 (ho _ _ _ _ _ h m2).pe) (fun _ => rfl)
        | cons e es => exact P3.of (snd_mt F m5 m4 (of_decide_eq_true m6) m7 (ho _ _ _ _ _ h m2).pe ((hx _ _ _ _ _ h m3).2 m4)) (fun _ => rfl)
      | cons _ _ => exact absurd (show false = true from m) (by decide)
    | _ => exact absurd (show false = true from m) (by decide)
  | _ => exact absurd (show false = true from m) (by decide)
theorem c_meth {mm : Str} {o : Ex} {xs : Exs} (ho : GoalE ca fa C o) (hx : GoalEs ca fa C xs) : GoalE ca fa C (.meth mm o xs) := by
  intro W t k X e h m
  cases e with
  | Call fe es kws pos =>
    cases fe with
    | Attribute v x apos =>
      cases kws with
      | nil =>
        have m : (mm == x && (mtOf mm).isNone && mat t o v && mats t xs es && !(es.any isStar) && okBase v && decide (es.length < 30) && apos.endLine == pos.line) = true := m
        rw [andB, andB, andB, andB, andB, andB, andB, notB] at m
        obtain ⟨⟨⟨⟨⟨⟨⟨m1, m2⟩, m3⟩, m4⟩, m5⟩, m6⟩, m7⟩, m8⟩ := m
        obtain rfl := eq_of_beq m1
        exact P3.of (snd_meth h.mod.ka (fun g ⟨c, x, hg⟩ => h.run (h.mod.meth c x g hg)) m6 m5 (of_decide_eq_true m7) m8 (nil_of m4) (ho _ _ _ _ _ h m3).pe (hx _ _ _ _ _ h m4).1) (fun _ => rfl)
      | cons _ _ => exact absurd (show false = true from m) (by decide)
    | _ => exact absurd (show false = true from m) (by decide)
  | _ => exact absurd (show false = true from m) (by decide)
theorem c_fld {o : Ex} {f : Str} (ho : GoalE ca fa C o) : GoalE ca fa C (.fld o f) := by
  intro W t k X e h m
  cases e with
  | Attribute v x pos =>
    have m : (f == x && mat t o v && okBase v) = true := m
    rw [andB, andB] at m
    obtain rfl := eq_of_beq m.1.1
    exact P3.of (snd_fld h.mod.kf h.mod.ka (fun g ⟨c, f, hg⟩ => h.mod.prop c f g hg) h.gd (h.rm.mono (by omega)) (ho _ _ _ _ _ h m.1.2).pe (okBase_eq m.2 _ _ _)) (fun _ => rfl)
  | _ => exact absurd (show false = true from m) (by decide)
theorem c_ix {a i : Ex} (ha : GoalE ca fa C a) (hi : GoalE ca fa C i) : GoalE ca fa C (.ix a i) := by
  intro W t k X e h m
  cases e with
  | Subscript v j pos =>
    have m : (mat t a v && mat t i j && !(isSlice j)) = true := m
    rw [andB, andB, notB] at m
    exact P3.of (snd_ix h.hu m.2 (ha _ _ _ _ _ h m.1.1).pe (hi _ _ _ _ _ h m.1.2).pe) (fun _ => rfl)
  | _ => exact absurd (show false = true from m) (by decide)
theorem isRevS_of {j : Expr} (h : isRevS j = true) : ∃ k p1 p2 p3, j = .Slice none none (some (.UnaryOp .USub (.Constant (.int 1) k p1) p2)) p3 := by
  unfold isRevS at h
  split at h
  · exact ⟨_, _, _, _, rfl⟩
  · cases h
theorem c_rev {a : Ex} (ha : GoalE ca fa C a) : GoalE ca fa C (.rev a) := by
  intro W t k X e h m
  cases e with
  | Subscript v j pos =>
    have m : (mat t a v && isRevS j) = true := m
    rw [andB] at m
    obtain ⟨_, _, _, _, rfl⟩ := isRevS_of m.2
    exact P3.of (snd_rev (ha _ _ _ _ _ h m.1).pe) (fun _ => rfl)
  | _ => exact absurd (show false = true from m) (by decide)
theorem c_ref {a : Ex} (ha : GoalE ca fa C a) : GoalE ca fa C (.ref a) := by
  intro W t k X e h m
  have m : mat t a e = true := by cases e <;> exact m
  have p := ha _ _ _ _ _ h m
  exact ⟨snd_ref p.pe, PT.imp p.pt fun σ H Q z => tM_ref z⟩
theorem nonK {x : Ex} : (isNonK x = true → x = .non) ∧ (isNonK x = false → x ≠ .non) := by
  refine ⟨fun h => ?_, fun h z => ?_⟩
  · cases x <;> first | rfl | cases h
  · subst z; cases h
theorem c_sl {a lo hi : Ex} (ha : GoalE ca fa C a) (hl : GoalE ca fa C lo) (hh : GoalE ca fa C hi) : GoalE ca fa C (.sl a lo hi) := by
  intro W t k X e h m
  cases e with
  | Subscript v j pos =>
    cases j with
    | Slice l u st q =>
      cases st with
      | some _ => exact absurd (show false = true from m) (by decide)
      | none =>
        have m : (mat t a v && (match (generalizing := false) l with
          | none => isNonK lo
          | some l => mat t lo l && !(isNonK lo)) && (match (generalizing := false) u with
          | none => isNonK hi
          | some h => mat t hi h && !(isNonK hi))) = true := m
        rw [andB, andB] at m
        obtain ⟨⟨m1, m2⟩, m3⟩ := m
        have p1 : PO X l (tPO ca W fun env S => partR lo (ev C lo env S)) := by
          cases l with
          | none =>
            obtain rfl := nonK.1 m2
            exact snd_poN
          | some l =>
            simp only [andB, notB] at m2
            exact snd_poS (nonK.2 m2.2) (hl _ _ _ _ _ h m2.1).pe
        have p2 : PO X u (tPO ca W fun env S => partR hi (ev C hi env S)) := by
          cases u with
          | none =>
            obtain rfl := nonK.1 m3
            exact snd_poN
          | some l =>
            simp only [andB, notB] at m3
            exact snd_poS (nonK.2 m3.2) (hh _ _ _ _ _ h m3.1).pe
        exact P3.of (snd_sl (ha _ _ _ _ _ h m1).pe p1 p2) (fun _ => rfl)
    | _ => exact absurd (show false = true from m) (by decide)
  | _ => exact absurd (show false = true from m) (by decide)
/-! ### lists of expressions -/
theorem cs_nil : GoalEs ca fa C .nil := by
  intro W t k X es h m
  cases es with
  | nil => exact ⟨snd_nilK, fun _ => snd_nilR⟩
  | cons _ _ => exact absurd (show false = true from m) (by decide)
theorem cs_cons {st : Bool} {x : Ex} {xs : Exs} (hx : GoalE ca fa C x) (hs : GoalEs ca fa C xs) : GoalEs ca fa C (.cons st x xs) := by
  intro W t k X es h m
  cases es with
  | nil => cases st <;> exact absurd (show false = true from m) (by decide)
  | cons e es =>
    cases st with
    | true =>
      cases e with
      | Starred v p =>
        have m : (mat t x v && mats t xs es) = true := m
        rw [andB] at m
        refine ⟨snd_starK (hx _ _ _ _ _ h m.1).pe (hs _ _ _ _ _ h m.2).1, fun z => ?_⟩
        rw [List.any_cons, Bool.or_eq_false_iff] at z
        exact absurd (show true = false from z.1) (by decide)
      | _ => exact absurd (show false = true from m) (by decide)
    | false =>
      have m : (mat t x e && !(isStar e) && mats t xs es) = true := m
      rw [andB, andB, notB] at m
      refine ⟨snd_consK m.1.2 (hx _ _ _ _ _ h m.1.1).pe (hs _ _ _ _ _ h m.2).1, fun z => ?_⟩
      rw [List.any_cons, Bool.or_eq_false_iff] at z
      exact snd_consR m.1.2 (hx _ _ _ _ _ h m.1.1).pe ((hs _ _ _ _ _ h m.2).2 z.2)
/-! ### walks -/
theorem ci_seq {x : Ex} (hx : GoalE ca fa C x) : GoalIt ca fa C (.seq x) := by
  intro W t k X tg e h m _
  have m : mat t x e = true := m
  exact sndI_seq (hx _ _ _ _ _ h m).pe
theorem tup_of_need {tg : Expr} {it : It} (hn : needTup it = true) (h : (isTup tg || !(needTup it)) = true) : ∃ es k p, tg = .Tuple es k p := by
  rw [hn] at h
  cases tg <;> first | exact ⟨_, _, _, rfl⟩ | exact absurd (show false = true from h) (by decide)
theorem ci_rng1 {x : Ex} (hx : GoalE ca fa C x) : GoalIt ca fa C (.rng1 x) := by
  intro W t k X tg e h m ht

  cases e with
  | Call fe es kws pos =>
    have m : (bltHd t "range" fe && isNilKw kws && (match (generalizing := false) es with
      | [a] => mat t x a && !(isStar a)
      | _ => false)) = true := m
    rw [andB, andB] at m
    obtain ⟨⟨m1, m2⟩, m3⟩ := m
    obtain ⟨p, rfl, mb⟩ := bltHd_of m1
    obtain rfl := nilKw_of m2
    obtain ⟨g1, g2, g3, g4⟩ := h.blt mb
    split at m3
    · rw [andB, notB] at m3
      exact sndI_rng1 g1 g4 m3.2 (hx _ _ _ _ _ h m3.1).pe
    · cases m3
  | _ => exact absurd (show false = true from m) (by decide)
theorem ci_rng2 {x y : Ex} (hx : GoalE ca fa C x) (hy : GoalE ca fa C y) : GoalIt ca fa C (.rng2 x y) := by
  intro W t k X tg e h m ht

  cases e with
  | Call fe es kws pos =>
    have m : (bltHd t "range" fe && isNilKw kws && (match (generalizing := false) es with
      | [a, b] => mat t x a && mat t y b && !(isStar a) && !(isStar b)
      | _ => false)) = true := m
    rw [andB, andB] at m
    obtain ⟨⟨m1, m2⟩, m3⟩ := m
    obtain ⟨p, rfl, mb⟩ := bltHd_of m1
    obtain rfl := nilKw_of m2
    obtain ⟨g1, g2, g3, g4⟩ := h.blt mb
    split at m3
    · rw [andB, andB, andB, notB, notB] at m3
      exact sndI_rng2 g1 g4 m3.1.2 m3.2 (hx _ _ _ _ _ h m3.1.1.1).pe (hy _ _ _ _ _ h m3.1.1.2).pe
    · cases m3
  | _ => exact absurd (show false = true from m) (by decide)
theorem ci_enum {x : Ex} (hx : GoalE ca fa C x) : GoalIt ca fa C (.enum x) := by
  intro W t k X tg e h m ht
  obtain ⟨es', kk, p', rfl⟩ := tup_of_need rfl ht
  cases e with
  | Call fe es kws pos =>
    have m : (bltHd t "enumerate" fe && isNilKw kws && (match (generalizing := false) es with
      | [a] => mat t x a && !(isStar a)
      | _ => false)) = true := m
    rw [andB, andB] at m
    obtain ⟨⟨m1, m2⟩, m3⟩ := m
    obtain ⟨p, rfl, mb⟩ := bltHd_of m1
    obtain rfl := nilKw_of m2
    obtain ⟨g1, g2, g3, g4⟩ := h.blt mb
    split at m3
    · rw [andB, notB] at m3
      exact sndI_enum g1 g4 m3.2 (hx _ _ _ _ _ h m3.1).pe
    · cases m3
  | _ => exact absurd (show false = true from m) (by decide)
theorem ci_zip {x y : Ex} (hx : GoalE ca fa C x) (hy : GoalE ca fa C y) : GoalIt ca fa C (.zip x y) := by
  intro W t k X tg e h m ht
  obtain ⟨es', kk, p', rfl⟩ := tup_of_need rfl ht
  cases e with
  | Call fe es kws pos =>
    have m : (bltHd t "zip" fe && isNilKw kws && (match (generalizing := false) es with
      | [a, b] => mat t x a && mat t y b && !(isStar a) && !(isStar b)
      | _ => false)) = true := m
    rw [andB, andB] at m
    obtain ⟨⟨m1, m2⟩, m3⟩ := m
    obtain ⟨p, rfl, mb⟩ := bltHd_of m1
    obtain rfl := nilKw_of m2
    obtain ⟨g1, g2, g3, g4⟩ := h.blt mb
    split at m3
    · rw [andB, andB, andB, notB, notB] at m3
      exact sndI_zip g1 g4 m3.1.2 m3.2 (hx _ _ _ _ _ h m3.1.1.1).pe (hy _ _ _ _ _ h m3.1.1.2).pe
    · cases m3
  | _ => exact absurd (show false = true from m) (by decide)
end K9
end
section
set_option Elab.async false
set_option linter.all false
set_option maxRecDepth 100000
set_option maxHeartbeats 0
/-! K9Main3: comprehensions; all expressions. -/
namespace K9
open PySem PySem.Spec PyProof.Rows L2
variable {ca fa : Nat → Addr} {C : Ctx}
theorem nms_of {W : WX} {t : TC} {k : Nat} {X : Cx} (h : XOk ca fa C W t k X) : ∀ {is : List Nat} {es : List Expr}, nmsMat t is es = true → is.length = es.length ∧ ∀ p ∈ is.zip es, ∃ x q, p.2 = .Name x q ∧ X.N[p.1]? = some x ∧ Loc X.env.scope x ∧ (X.fn x = true ∨ X.env.scope.names.lookup x = some .local)
  | [], [], m => ⟨rfl, fun p hp => by cases hp⟩
  | [], _ :: _, m => exact_absurd m
  | _ :: _, [], m => exact_absurd m
  | i :: is, e :: es, m => by
    have m : (nmMat t i e && nmsMat t is es) = true := m
    rw [andB] at m
    obtain ⟨a, b⟩ := nms_of h m.2
    refine ⟨by rw [List.length_cons, List.length_cons, a], fun p hp => ?_⟩
    rcases List.mem_cons.mp hp with rfl | hp
    · cases e with
      | Name x q =>
        have m1 : t.loc i x = true := m.1
        obtain ⟨g1, g2, g3⟩ := h.lcl m1
        exact ⟨x, q, rfl, g1, g2, g3⟩
      | _ => exact absurd (show false = true from m.1) (by decide)
    · exact b p hp
where exact_absurd {P : Prop} {t : TC} {is : List Nat} {es : List Expr} (m : nmsMat t is es = true) (h : nmsMat t is es = false := by rfl) : P := by rw [h] at m; cases m
theorem tg_of {W : WX} {t : TC} {k : Nat} {X : Cx} (h : XOk ca fa C W t k X) {tg : List Nat} {e : Expr} (m : tgMat t tg e = true) : PG X e (gD X.K tg) := by
  refine pg_D h.calm h.nd ?_
  cases e with
  | Name x q =>
    cases tg with
    | nil => exact absurd (show false = true from m) (by decide)
    | cons i is =>
      cases is with
      | nil =>
        have m : t.loc i x = true := m
        obtain ⟨g1, g2, g3⟩ := h.lcl m
        exact .inl ⟨i, x, q, rfl, rfl, g1, g2, g3⟩
      | cons _ _ => exact absurd (show false = true from m) (by decide)
  | Tuple es kk q =>
    have m : (decide (2 ≤ es.length) && nmsMat t tg es) = true := by
      cases tg with
      | nil => exact m
      | cons i is => cases is <;> exact m
    rw [andB] at m
    obtain ⟨a, b⟩ := nms_of h m.2
    exact .inr ⟨es, kk, q, rfl, a, of_decide_eq_true m.1, b⟩
  | _ =>
    cases tg with
    | nil => exact absurd (show false = true from m) (by decide)
    | cons i is => cases is <;> exact absurd (show false = true from m) (by decide)
theorem all_of {α : Type} {p : α → Bool} : ∀ {l : List α}, l.all p = true → ∀ x ∈ l, p x = true := fun h x hx => List.all_eq_true.mp h x hx
/-- the block of a comprehension -/
theorem blk_of {W : WX} {t : TC} {k : Nat} {X : Cx} (h : XOk ca fa C W t k X) {scope : Scope} {own : List Nat} (m : blkB t scope own = true) : BlkOk X.N X.env.scope scope (own.map fun i => ((t.N[i]?).getD Str.empty, i)) := by
  unfold blkB at m
  rw [andB, andB, andB] at m
  obtain ⟨⟨⟨m1, m2⟩, m3⟩, m4⟩ := m
  have at_ : ∀ i ∈ own, ∃ x, t.N[i]? = some x := fun i hi => Option.isSome_iff_exists.mp (all_of m3 i hi)
  refine ⟨?_, fun y hy => eq_of_beq (all_of m2 y hy), fun p hp => ?_, fun y hy hk => ?_, fun y hy hk => ?_⟩
  · cases hk : scope.kind <;> rw [hk] at m1 <;> first | rfl | cases m1
  · obtain ⟨i, hi, rfl⟩ := List.mem_map.mp hp
    obtain ⟨x, hx⟩ := at_ i hi
    rw [h.N]
    show t.N[i]? = some ((t.N[i]?).getD Str.empty)
    rw [hx]; rfl
  · have z := all_of m4 y hy
    rw [hk] at z
    simp only [Bool.or_eq_true] at z
    rw [h.sc]
    exact z.elim (fun q => .inl (eq_of_beq q)) fun q => .inr (eq_of_beq q)
  · have z := all_of m4 y hy
    have z' : (own.any (fun i => t.N[i]? == some y.1) || !(t.N.contains y.1)) = true := by
      rcases hk with hk | hk <;> (rw [hk] at z; exact z)
    rw [Bool.or_eq_true] at z'
    rcases z' with q | q
    · obtain ⟨i, hi, hx⟩ := List.any_eq_true.mp q
      refine .inl (List.mem_map.mpr ⟨(y.1, i), List.mem_map.mpr ⟨i, hi, ?_⟩, rfl⟩)
      rw [eq_of_beq hx]; rfl
    · refine .inr fun hm => ?_
      rw [h.N] at hm
      rw [notB] at q
      rw [List.contains_iff_mem.mpr hm] at q
      cases q
/-- the parts of a written comprehension -/
theorem lc_parts {own tg : List Nat} {it : It} {c elt : Ex} (hi : GoalIt ca fa C it) (hc : GoalE ca fa C c) (he : GoalE ca fa C elt) {W : WX} {t : TC} {k : Nat} {X : Cx} (h : XOk ca fa C W t k X) {el : Expr} {gens : List Comprehension} {scope : Scope} {pos : Pos} (m : mat t (.lc own tg it c elt) (.ListComp el gens scope pos) = true) :
    ∃ (g iter : Expr) (ifs : List Expr) (wi : TI) (gg : L2.TG) (tt : TT) (te : TE) (ow : List (Str × Nat)), gens = [⟨g, iter, ifs, 0⟩] ∧ PI X g iter wi ∧ BlkOk X.N X.env.scope scope ow ∧
      (∀ (s : Shared) (H : Hp) (cc : Addr) (cl : List (Str × Addr)) (fp : List Addr), PG (X.blk s H scope (compEnvC scope cl cc X.env) fp) g gg) ∧
      (∀ (s : Shared) (H : Hp) (cc : Addr) (cl : List (Str × Addr)) (fp : List Addr), PTs (X.blk s H scope (compEnvC scope cl cc X.env) fp) ifs tt) ∧
      (∀ (s : Shared) (H : Hp) (cc : Addr) (cl : List (Str × Addr)) (fp : List Addr), PE (X.blk s H scope (compEnvC scope cl cc X.env) fp) el te) ∧ (∀ x, foldedSetIterable iter X.env x = pure x) ∧
      ∀ σ H Q, tM ca W (ev C (.lc own tg it c elt)) σ H Q → tLc wi gg tt te (ow.map (·.2)) σ H Q := by
  have m : (blkB t scope own && tg.all (fun i => own.contains i) && mat (t.inner scope) elt el && (match (generalizing := false) gens with
    | [⟨g, iter, ifs, n⟩] => decide (n = 0) && tgMat (t.inner scope) tg g && matIt t it iter && (isTup g || !(needTup it)) && !(isSetE iter) && (match (generalizing := false) ifs with
      | [] => isTrueK c
      | [f] => mat (t.inner scope) c f
      | _ => false)
    | _ => false)) = true := m
  rw [andB, andB, andB] at m
  obtain ⟨⟨⟨m1, m2⟩, m3⟩, m4⟩ := m
  split at m4
  · rename_i g iter ifs n
    rw [andB, andB, andB, andB, andB, notB] at m4
    obtain ⟨⟨⟨⟨⟨n1, n2⟩, n3⟩, n4⟩, n5⟩, n6⟩ := m4
    obtain rfl := of_decide_eq_true n1
    have hb := blk_of h m1
    have hown : (own.map fun i => ((t.N[i]?).getD Str.empty, i)).map (·.2) = own := by rw [List.map_map]; exact List.map_id' _
    have htg : ∀ i ∈ tg, i ∈ own := fun i hx => List.contains_iff_mem.mp (all_of m2 i hx)
    have hs : ∀ x, foldedSetIterable iter X.env x = pure x := by
      intro x
      cases iter <;> first | rfl | exact absurd (show true = false from n5) (by decide)
    have hpt : ∀ (s : Shared) (H : Hp) (cc : Addr) (cl : List (Str × Addr)) (fp : List Addr), PTs (X.blk s H scope (compEnvC scope cl cc X.env) fp) ifs (tMT ca WF (ev C c)) := by
      intro s H cc cl fp
      have hk := h.blk s H scope cc cl fp
      split at n6
      · have hcT : c = .bl true := by
          cases c with
          | bl b => cases b <;> first | rfl | exact absurd (show false = true from n6) (by decide)
          | _ => exact absurd (show false = true from n6) (by decide)
        subst hcT
        refine ⟨fun pins s σ H Q I hw => pts_nil.run pins s σ H Q I ?_⟩
        obtain ⟨M, env, S, rs, re, o⟩ := hw
        simp only [ev] at o
        obtain ⟨b, hb, q⟩ := out_v rs (.bl true) o
        cases hb
        exact q
      · exact pts_one (hc _ _ _ _ _ hk n6).pt
      · cases n6
    refine ⟨g, iter, ifs, _, gD X.K tg, _, _, own.map fun i => ((t.N[i]?).getD Str.empty, i), rfl, hi _ _ _ _ g iter h n3 n4, hb, fun s H cc cl fp => tg_of (h.blk s H scope cc cl fp) n2, hpt, fun s H cc cl fp => (he _ _ _ _ _ (h.blk s H scope cc cl fp) m3).pe, hs, fun σ H Q q => ?_⟩
    rw [hown]
    exact tM_lc htg q
  · cases m4
/-- .. whatever is done with its list -/
theorem comp_parts (GI : ∀ it, GoalIt ca fa C it) (GE : ∀ x, GoalE ca fa C x) {W : WX} {t : TC} {k : Nat} {X : Cx} (h : XOk ca fa C W t k X) {el : Expr} {gens : List Comprehension} {scope : Scope} {pos : Pos} : ∀ (x : Ex), mat t x (.ListComp el gens scope pos) = true →
    ∃ (g iter : Expr) (ifs : List Expr) (wi : TI) (gg : L2.TG) (tt : TT) (te : TE) (ow : List (Str × Nat)), gens = [⟨g, iter, ifs, 0⟩] ∧ PI X g iter wi ∧ BlkOk X.N X.env.scope scope ow ∧
      (∀ (s : Shared) (H : Hp) (cc : Addr) (cl : List (Str × Addr)) (fp : List Addr), PG (X.blk s H scope (compEnvC scope cl cc X.env) fp) g gg) ∧
      (∀ (s : Shared) (H : Hp) (cc : Addr) (cl : List (Str × Addr)) (fp : List Addr), PTs (X.blk s H scope (compEnvC scope cl cc X.env) fp) ifs tt) ∧
      (∀ (s : Shared) (H : Hp) (cc : Addr) (cl : List (Str × Addr)) (fp : List Addr), PE (X.blk s H scope (compEnvC scope cl cc X.env) fp) el te) ∧ (∀ x, foldedSetIterable iter X.env x = pure x) ∧
      ∀ σ H Q, tM ca W (ev C x) σ H Q → tLc wi gg tt te (ow.map (·.2)) σ H Q
  | .lc own tg it c elt, m => lc_parts (GI it) (GE c) (GE elt) h m
  | .ref x, m => by
    obtain ⟨g, iter, ifs, wi, gg, tt, te, own, a1, a2, a3, a4, a5, a6, a7, a8⟩ := comp_parts GI GE h x m
    exact ⟨g, iter, ifs, wi, gg, tt, te, own, a1, a2, a3, a4, a5, a6, a7, fun σ H Q z => a8 σ H Q (tM_ref z)⟩
  | .non, m => absurd (show false = true from m) (by decide)
  | .bl _, m => absurd (show false = true from m) (by decide)
  | .int _, m => absurd (show false = true from m) (by decide)
  | .str _, m => absurd (show false = true from m) (by decide)
  | .var _, m => absurd (show false = true from m) (by decide)
  | .bin _ _ _, m => absurd (show false = true from m) (by decide)
  | .neg _, m => absurd (show false = true from m) (by decide)
  | .not _, m => absurd (show false = true from m) (by decide)
  | .cmp _ _ _, m => absurd (show false = true from m) (by decide)
  | .cmp2 _ _ _ _ _, m => absurd (show false = true from m) (by decide)
  | .and _ _, m => absurd (show false = true from m) (by decide)
  | .or _ _, m => absurd (show false = true from m) (by decide)
  | .ite _ _ _, m => absurd (show false = true from m) (by decide)
  | .tup _, m => absurd (show false = true from m) (by decide)
  | .lst _, m => absurd (show false = true from m) (by decide)
  | .dict0, m => absurd (show false = true from m) (by decide)
  | .call _ _, m => absurd (show false = true from m) (by decide)
  | .make _ _, m => absurd (show false = true from m) (by decide)
  | .bi _ _, m => absurd (show false = true from m) (by decide)
  | .isi _ _, m => absurd (show false = true from m) (by decide)
  | .mt _ _ _, m => absurd (show false = true from m) (by decide)
  | .meth _ _ _, m => absurd (show false = true from m) (by decide)
  | .fld _ _, m => absurd (show false = true from m) (by decide)
  | .ix _ _, m => absurd (show false = true from m) (by decide)
  | .sl _ _ _, m => absurd (show false = true from m) (by decide)
  | .rev _, m => absurd (show false = true from m) (by decide)
  | .callk _ _ _ _, m => absurd (show false = true from m) (by decide)
  | .gget _ _, m => absurd (show false = true from m) (by decide)
  | .fstr _, m => absurd (show false = true from m) (by decide)
theorem c_lc {own tg : List Nat} {it : It} {c elt : Ex} (hi : GoalIt ca fa C it) (hc : GoalE ca fa C c) (he : GoalE ca fa C elt) : GoalE ca fa C (.lc own tg it c elt) := by
  intro W t k X e h m
  cases e with
  | ListComp el gens scope pos =>
    obtain ⟨g, iter, ifs, wi, gg, tt, te, ow, rfl, a2, a3, a4, a5, a6, a7, a8⟩ := lc_parts hi hc he h m
    exact P3.of (PE.imp (pe_lc h.calm h.nd a2 a3 a4 a5 a6 a7) a8) (fun _ => rfl)
  | _ => exact absurd (show false = true from m) (by decide)
theorem c_no {x : Ex} (hx : ∀ t e, mat t x e = false) : GoalE ca fa C x := by
  intro W t k X e h m
  rw [hx] at m; cases m
mutual
/-- every expression of the own syntax that the text has -/
theorem mE (ca fa : Nat → Addr) (C : Ctx) : ∀ x : Ex, GoalE ca fa C x
  | .non => c_non
  | .bl _ => c_bl
  | .int _ => c_int
  | .str _ => c_str
  | .var _ => c_var
  | .bin _ a b => c_bin (mE ca fa C a) (mE ca fa C b)
  | .neg a => c_neg (mE ca fa C a)
  | .not a => c_not (mE ca fa C a)
  | .cmp _ a b => c_cmp (mE ca fa C a) (mE ca fa C b)
  | .cmp2 _ _ a b c => c_cmp2 (mE ca fa C a) (mE ca fa C b) (mE ca fa C c)
  | .and a b => c_and (mE ca fa C a) (mE ca fa C b)
  | .or a b => c_or (mE ca fa C a) (mE ca fa C b)
  | .ite c a b => c_ite (mE ca fa C c) (mE ca fa C a) (mE ca fa C b)
  | .tup es => c_tup (mEs ca fa C es)
  | .lst es => c_lst (mEs ca fa C es)
  | .dict0 => c_dict0
  | .call _ es => c_call (mEs ca fa C es)
  | .make _ es => c_make (mEs ca fa C es)
  | .makek _ es ks _ => c_makek (mEs ca fa C es) (mKs ca fa C ks)
  | .bi _ es => c_bi (mEs ca fa C es)
  | .isi a ts => c_isi (mE ca fa C a)
  | .mt m o es => c_mt (mE ca fa C o) (mEs ca fa C es)
  | .meth _ o es => c_meth (mE ca fa C o) (mEs ca fa C es)
  | .fld o _ => c_fld (mE ca fa C o)
  | .ix a i => c_ix (mE ca fa C a) (mE ca fa C i)
  | .sl a lo hi => c_sl (mE ca fa C a) (mE ca fa C lo) (mE ca fa C hi)
  | .rev a => c_rev (mE ca fa C a)
  | .ref a => c_ref (mE ca fa C a)
  | .lc _ _ it c e => c_lc (mIt ca fa C it) (mE ca fa C c) (mE ca fa C e)
  | .callk _ es ks _ => c_callk (mEs ca fa C es) (mKs ca fa C ks)
  | .gget _ k => c_gget (mE ca fa C k)
  | .fstr _ => c_no fun t e => by cases e <;> rfl
theorem mEs (ca fa : Nat → Addr) (C : Ctx) : ∀ x : Exs, GoalEs ca fa C x
  | .nil => cs_nil
  | .cons _ x xs => cs_cons (mE ca fa C x) (mEs ca fa C xs)
theorem mKs (ca fa : Nat → Addr) (C : Ctx) : ∀ x : Exs, GoalKs ca fa C x
  | .nil => ck_nil
  | .cons _ x xs => ck_cons (mE ca fa C x) (mKs ca fa C xs)
theorem mIt (ca fa : Nat → Addr) (C : Ctx) : ∀ x : It, GoalIt ca fa C x
  | .seq x => ci_seq (mE ca fa C x)
  | .rng1 x => ci_rng1 (mE ca fa C x)
  | .rng2 x y => ci_rng2 (mE ca fa C x) (mE ca fa C y)
  | .enum x => ci_enum (mE ca fa C x)
  | .zip x y => ci_zip (mE ca fa C x) (mE ca fa C y)
end
end K9
end
section
set_option Elab.async false
set_option linter.all false
set_option maxRecDepth 100000
set_option maxHeartbeats 0
/-! K9Main4: statements of the own syntax. -/
namespace K9
open PySem PySem.Spec PyProof.Rows L2
variable {ca fa : Nat → Addr} {C : Ctx}
/-- what is known of a def's own body -/
structure XS (ca fa : Nat → Addr) (C : Ctx) (W : WX) (t : TC) (k : Nat) (X : Cx) : Prop where
  x : XOk ca fa C W t k X
  po : PassesOwn (model X.prog X.w) X.A X.env X.xe
  kd : X.env.scope.kind = .function
  st : X.stack = X.env :: X.outer
  fr : X.env.frame = some X.env.locals
section
variable (ca fa : Nat → Addr) (C : Ctx)
def GoalS (s : Sm) : Prop := ∀ (W : WX) (t : TC) (k : Nat) (X : Cx) (st : Stmt) (M0 : Mem) (H0 : Hp), XS ca fa C W t k X → matS t s st = true → PS X st (tS ca W M0 H0 (exS C s))
def GoalSs (ss : Sms) : Prop := ∀ (W : WX) (t : TC) (k : Nat) (X : Cx) (st : List Stmt) (M0 : Mem) (H0 : Hp), XS ca fa C W t k X → matSs t ss st = true → PSs X st (tS ca W M0 H0 (exSs C ss))
end
variable {W : WX} {t : TC} {k : Nat} {X : Cx} {pos : Pos} {M0 : Mem} {H0 : Hp}
/-! ### a, b = x, y -/
theorem sw_par2 {x y : Str} {a b : Expr} {px py pt : Pos} {kt k2 p2} {env : PySem.Env} (hk : env.blockKind = .function) (hx : env.scope.names.lookup x = some .local) (hy : env.scope.names.lookup y = some .local) (hl : (py.line == px.line) = true) (hne : (x == y) = false)
    (hst : [a, b].any isStar = false) (hf : [a, b].all (foldedForSure 8) = false) (hc : [a, b].all (constantsAlone 8) = false) :
    swappedStores [.Tuple [.Name x px, .Name y py] kt pt] (.Tuple [a, b] k2 p2) env = pure (some [x, y]) := by
  have kx : env.kindOf x = some .local := hx
  have ky : env.kindOf y = some .local := hy
  have hst' : ([a, b].any (fun | .Starred .. => true | _ => false)) = false := (show _ = [a, b].any isStar from rfl).trans hst
  have ed : ([x, y].eraseDups.length != [x, y].length) = false := by
    have : (y == x) = false := by
      rw [beq_eq_false_iff_ne] at hne ⊢
      exact fun z => hne z.symm
    simp [List.eraseDups_cons, this, hne]
  have bk : (env.blockKind != ScopeKind.function) = false := by rw [hk]; rfl
  have lx : (px.line == px.line) = true := beq_self_eq_true _
  unfold swappedStores
  show (if (!(true || false) || false || env.blockKind != ScopeKind.function) = true then _ else _ : Sem (Option (List Str))) = _
  rw [bk]
  show (if ([a, b].any (fun | .Starred .. => true | _ => false)) = true then _ else _ : Sem (Option (List Str))) = _
  rw [hst', if_neg (by decide)]
  simp only [List.filterMap_cons, List.filterMap_nil, kx, ky, hl, List.head?_cons, Option.map_some, Option.getD_some]
  have q1 : (some NameKind.local == some NameKind.local && px.line == (Expr.Name x px).pos.line) = true := by
    show (true && px.line == px.line) = true
    rw [lx]; rfl
  have q2 : (some NameKind.local == some NameKind.local && py.line == (Expr.Name x px).pos.line) = true := by
    show (true && py.line == px.line) = true
    rw [hl]; rfl
  rw [if_pos q1, if_pos q2]
  show (if (false || [x, y].eraseDups.length != [x, y].length) = true then _ else _ : Sem (Option (List Str))) = _
  rw [ed, if_neg (by decide), hf, if_neg (by decide), hc, if_neg (by decide)]
theorem sw_fold {ts vs : List Expr} {pt p2 : Pos} {kt k2 : Nat} {env : PySem.Env} (hf : vs.all (foldedForSure 8) = true) : swappedStores [.Tuple ts kt pt] (.Tuple vs k2 p2) env = pure none := by
  unfold swappedStores
  simp only [hf, if_true]
  repeat' split
  all_goals first
    | rfl
    | skip
theorem filterMap_lt {α β : Type} {f : α → Option β} : ∀ {l : List α}, (∃ x ∈ l, f x = none) → (l.filterMap f).length < l.length
  | [], ⟨x, h, _⟩ => by cases h
  | y :: l, ⟨x, h, e⟩ => by
    have le : (l.filterMap f).length ≤ l.length := List.length_filterMap_le f l
    rw [List.filterMap_cons]
    rcases List.mem_cons.mp h with rfl | h
    · rw [e]
      exact Nat.lt_succ_of_le le
    · have ih := filterMap_lt (f := f) ⟨x, h, e⟩
      cases f y with
      | none => exact Nat.lt_succ_of_lt ih
      | some z => simpa using ih
theorem sw_cell {ts vs : List Expr} {pt p2 : Pos} {kt k2 : Nat} {env : PySem.Env} {x : Str} {p : Pos} (hm : .Name x p ∈ ts) (hx : env.scope.names.lookup x ≠ some .local) : swappedStores [.Tuple ts kt pt] (.Tuple vs k2 p2) env = pure none := by
  have hk : (env.kindOf x == some NameKind.local) = false := by
    rw [beq_eq_false_iff_ne]; exact hx
  have lt : ∀ line : Nat, (ts.filterMap (fun e => match e with
    | .Name id pos => if env.kindOf id == some .local && pos.line == line then some id else none
    | _ => none)).length < ts.length := fun line => filterMap_lt ⟨_, hm, by
      show (if env.kindOf x == some .local && p.line == line then some x else none) = none
      rw [hk]; rfl⟩
  unfold swappedStores
  show (if (!(ts.length == 2 || ts.length == 3) || vs.length != ts.length || env.blockKind != ScopeKind.function) = true then _ else _ : Sem (Option (List Str))) = _
  split
  · rfl
  · show (if (vs.any (fun | .Starred .. => true | _ => false)) = true then _ else _ : Sem (Option (List Str))) = _
    split
    · rfl
    · have h := lt ((ts.head?.map (·.pos.line)).getD 0)
      show (if ((ts.filterMap _).length != ts.length || _) = true then _ else _ : Sem (Option (List Str))) = _
      rw [if_pos]
      rw [Bool.or_eq_true]
      refine .inl ?_
      rw [bne_iff_ne]
      exact Nat.ne_of_lt h
theorem XS.bk (h : XS ca fa C W t k X) : X.env.blockKind = .function := by
  unfold Env.blockKind
  rw [h.kd]; rfl
theorem sw_eq (h : XS ca fa C W t k X) {x : Str} {p : Pos} {v : Expr} {line : Nat} (hs : ∀ a b c d, v ≠ .SetComp a b c d) (hd : ∀ a b c d e, v ≠ .DictComp a b c d e) : swapsWith v (some (.Name x p)) line X.env = pure (swB t x p v) := by
  cases v with
  | ListComp el g sc q =>
    unfold swapsWith
    show pure (X.env.blockKind == .function && X.env.kindOf x == some .local && p.line == q.line && !(sc.names.any fun (n, k) => n == x && (k == .local || k == .cell))) = _
    rw [h.bk]
    unfold swB isLocN Env.kindOf
    rw [h.x.sc]
    rfl
  | SetComp a b c d => exact absurd rfl (hs a b c d)
  | DictComp a b c d e => exact absurd rfl (hd a b c d e)
  | _ => rfl
theorem mat_noset : ∀ {x : Ex} {v : Expr}, mat t x v = true → (∀ a b c d, v ≠ .SetComp a b c d) ∧ ∀ a b c d e, v ≠ .DictComp a b c d e
  | x, v, m => by
    have key : ∀ (x : Ex), (∀ a b c d, mat t x (.SetComp a b c d) = false) ∧ ∀ a b c d e, mat t x (.DictComp a b c d e) = false := by
      intro x
      induction x using Ex.rec (motive_2 := fun _ => True) (motive_3 := fun _ => True) with
      | ref x ih => exact ih
      | nil => trivial
      | cons => trivial
      | seq => trivial
      | rng1 => trivial
      | rng2 => trivial
      | enum => trivial
      | zip => trivial
      | _ => exact ⟨fun _ _ _ _ => rfl, fun _ _ _ _ _ => rfl⟩
    exact ⟨(fun a b c d z => by subst z; rw [(key x).1] at m; cases m), (fun a b c d e z => by subst z; rw [(key x).2] at m; cases m)⟩
/-- name = e, by what the name's store asks -/
theorem set_name (h : XS ca fa C W t k X) {i : Nat} {x : Str} {p : Pos} {v : Expr} {e : Ex} {t' : TS} (m1 : t.loc i x = true) (m2 : mat t e v = true) (hq : ∀ D σ H, t' D σ H → tAsg (tM ca W (ev C e)) (gName i) D σ H) : PS X (.Assign [.Name x p] v pos) t' := by
  obtain ⟨g1, g2, g3⟩ := h.x.lcl m1
  obtain ⟨n1, n2⟩ := mat_noset m2
  have sw := fun line => sw_eq (line := line) h (x := x) (p := p) (v := v) n1 n2
  cases hb : swB t x p v with
  | false =>
    refine PS.imp (ps_set h.x.nd g1 g2 ((mE ca fa C e) _ _ _ _ _ h.x m2).pe (by rw [sw, hb]) g3) hq
  | true =>
    cases v with
    | ListComp el gens scope q =>
      obtain ⟨g, iter, ifs, wi, gg, tt, te, ow, rfl, a2, a3, a4, a5, a6, a7, a8⟩ := comp_parts (mIt ca fa C) (mE ca fa C) h.x e m2
      have hl : X.env.scope.names.lookup x = some .local := by
        unfold swB isLocN at hb
        rw [andB, andB] at hb
        rw [h.x.sc]
        exact eq_of_beq hb.1.1
      refine PS.imp (ps_setLc h.x.calm h.x.nd g1 hl (by rw [sw, hb]) a2 a3 a4 a5 a6 a7) fun D σ H z => ?_
      exact a8 σ H _ (hq D σ H z)
    | _ => exact absurd (show false = true from hb) (by decide)
theorem s_asg {i : Nat} {e : Ex} : GoalS ca fa C (.asg i e) := by
  intro W t k X st M0 H0 h m
  cases st with
  | Assign tgs v pos =>
    cases tgs with
    | nil => exact absurd (show false = true from m) (by decide)
    | cons tg tgs =>
      cases tgs with
      | cons _ _ => cases tg <;> exact absurd (show false = true from m) (by decide)
      | nil =>
        cases tg with
        | Name x p =>
          have m : (t.loc i x && mat t e v) = true := m
          rw [andB] at m
          exact set_name h m.1 m.2 fun D σ H z => asg_name z
        | _ => exact absurd (show false = true from m) (by decide)
  | _ => exact absurd (show false = true from m) (by decide)
theorem s_acc {i : Nat} {e : Ex} : GoalS ca fa C (.acc i e) := by
  intro W t k X st M0 H0 h m
  cases st with
  | Assign tgs v pos =>
    cases tgs with
    | nil => exact absurd (show false = true from m) (by decide)
    | cons tg tgs =>
      cases tgs with
      | cons _ _ => cases tg <;> exact absurd (show false = true from m) (by decide)
      | nil =>
        cases tg with
        | Name x p =>
          have m : (t.loc i x && mat t e v) = true := m
          rw [andB] at m
          exact set_name h m.1 m.2 fun D σ H z => acc_name z
        | _ => exact absurd (show false = true from m) (by decide)
  | _ => exact absurd (show false = true from m) (by decide)
theorem s_unp {is : List Nat} {e : Ex} : GoalS ca fa C (.unp is e) := by
  intro W t k X st M0 H0 h m
  cases st with
  | Assign tgs v pos =>
    cases tgs with
    | nil => exact absurd (show false = true from m) (by decide)
    | cons tg tgs =>
      cases tgs with
      | cons _ _ => cases tg <;> exact absurd (show false = true from m) (by decide)
      | nil =>
        cases tg with
        | Tuple ts kk p =>
          have m : (tgMat t is (.Tuple ts kk p) && mat t e v && !(isComp v) && (!(isTup v) || foldT v || nonLoc t ts)) = true := m
          rw [andB, andB, andB, notB] at m
          obtain ⟨⟨⟨m1, m2⟩, m3⟩, m4⟩ := m
          refine PS.imp (ps_asg ((mE ca fa C e) _ _ _ _ _ h.x m2).pe (tg_of h.x m1) ?_ ?_ (by rfl)) fun D σ H z => unp_name z
          · cases v <;> first | rfl | exact absurd (show true = false from m3) (by decide)
          · rw [Bool.or_eq_true] at m4
            rcases m4 with m4 | m4
            · cases v <;> first
                | rfl
                | exact sw_fold m4
            · unfold nonLoc at m4
              obtain ⟨e1, h1, h2⟩ := List.any_eq_true.mp m4
              cases e1 with
              | Name y py =>
                have hy : t.sc.names.lookup y ≠ some .local := by
                  rw [← bne_iff_ne]
                  exact h2
                cases v <;> first
                  | rfl
                  | exact sw_cell h1 (by rw [h.x.sc]; exact hy)
              | _ => exact absurd (show false = true from h2) (by decide)
        | _ => exact absurd (show false = true from m) (by decide)
  | _ => exact absurd (show false = true from m) (by decide)
theorem s_setix {o i e : Ex} : GoalS ca fa C (.setix o i e) := by
  intro W t k X st M0 H0 h m
  cases st with
  | Assign tgs v pos =>
    cases tgs with
    | nil => exact absurd (show false = true from m) (by decide)
    | cons tg tgs =>
      cases tgs with
      | cons _ _ => cases tg <;> exact absurd (show false = true from m) (by decide)
      | nil =>
        cases tg with
        | Subscript a b p =>
          have m : (mat t e v && mat t o a && mat t i b && !(isSlice b) && !(isComp v)) = true := m
          rw [andB, andB, andB, andB, notB, notB] at m
          obtain ⟨⟨⟨⟨m1, m2⟩, m3⟩, m4⟩, m5⟩ := m
          exact sndS_setix h.x.hu1 m4 m5 (mE ca fa C o _ _ _ _ _ h.x m2).pe (mE ca fa C i _ _ _ _ _ h.x m3).pe (mE ca fa C e _ _ _ _ _ h.x m1).pe
        | _ => exact absurd (show false = true from m) (by decide)
  | _ => exact absurd (show false = true from m) (by decide)
theorem s_mut {mm : Mt} {o : Ex} {xs : Exs} : GoalS ca fa C (.mut mm o xs) := by
  intro W t k X st M0 H0 h m
  cases st with
  | Expr e pos =>
    cases e with
    | Call fe es kws p2 =>
      cases fe with
      | Attribute v x apos =>
        cases kws with
        | cons _ _ => exact absurd (show false = true from m) (by decide)
        | nil =>
          have m : (mutCov mm && mtOf x == some mm && mat t o v && mats t xs es && !(es.any isStar) && okBase v && decide (es.length < 30) && apos.endLine == p2.line) = true := m
          rw [andB, andB, andB, andB, andB, andB, andB, notB] at m
          obtain ⟨⟨⟨⟨⟨⟨⟨m0, m1⟩, m2⟩, m3⟩, m4⟩, m5⟩, m6⟩, m7⟩ := m
          have F : MutF ca X mm x := by
            have m1 := eq_of_beq m1
            unfold mtOf at m1
            simp only [List.lookup] at m1
            repeat' split at m1
            all_goals first
              | (cases m1; done)
              | (cases m1; exact absurd m0 (by decide))
              | (cases m1
                 rename_i hx
                 obtain rfl := eq_of_beq hx
                 first | exact mutF_append | exact mutF_reverse | exact mutF_clear | exact mutF_extend)
          cases es with
          | nil =>
            have hx := nil_of m3 rfl
            subst hx
            exact sndS_mut0 F m5 m7 (mE ca fa C o _ _ _ _ _ h.x m2).pe
          | cons e es => exact sndS_mut F m5 m4 (of_decide_eq_true m6) m7 (mE ca fa C o _ _ _ _ _ h.x m2).pe ((mEs ca fa C xs _ _ _ _ _ h.x m3).2 m4)
      | _ => exact absurd (show false = true from m) (by decide)
    | _ => exact absurd (show false = true from m) (by decide)
  | _ => exact absurd (show false = true from m) (by decide)
theorem s_expr {e : Ex} : GoalS ca fa C (.expr e) := by
  intro W t k X st M0 H0 h m
  cases st with
  | Expr v pos =>
    have m : (mat t e v && !(isComp v)) = true := m
    rw [andB, notB] at m
    refine sndS_expr (mE ca fa C e _ _ _ _ _ h.x m.1).pe ?_
    cases v <;> first | rfl | exact absurd (show true = false from m.2) (by decide)
  | _ => exact absurd (show false = true from m) (by decide)
theorem s_ret {e : Ex} : GoalS ca fa C (.ret e) := by
  intro W t k X st M0 H0 h m
  cases st with
  | Return v pos =>
    cases v with
    | some v => exact sndS_ret (mE ca fa C e _ _ _ _ _ h.x m).pe
    | none =>
      have m : isNonK e = true := m
      obtain rfl := nonK.1 m
      refine PS.imp ps_retN fun E σ H ⟨M, env, S, e0, h0, rs, re, o⟩ => ?_
      simp only [exS, ev] at o
      exact (show OutS ca W M0 H0 M (.ok (.rt .non) S) E from o) .non M H ExtM.refl e0 rs .non
  | _ => exact absurd (show false = true from m) (by decide)
theorem s_pass : GoalS ca fa C .pass := by
  intro W t k X st M0 H0 h m
  cases st with
  | Pass pos => exact sndS_pass
  | Expr e pos =>
    cases e with
    | Constant c kk q =>
      cases c with
      | str s => exact PS.imp ps_doc fun E σ H ⟨M, env, S, e0, h0, rs, re, o⟩ => outS_nx (by simpa only [exS] using o) e0 rs re
      | _ => exact absurd (show false = true from m) (by decide)
    | _ => exact absurd (show false = true from m) (by decide)
  | _ => exact absurd (show false = true from m) (by decide)
theorem s_cont : GoalS ca fa C .cont := by
  intro W t k X st M0 H0 h m
  cases st with
  | Continue pos => exact sndS_cont
  | _ => exact absurd (show false = true from m) (by decide)
theorem s_ite {c : Ex} {a b : Sms} (ha : GoalSs ca fa C a) (hb : GoalSs ca fa C b) : GoalS ca fa C (.ite c a b) := by
  intro W t k X st M0 H0 h m
  cases st with
  | If e p q pos =>
    have m : (mat t c e && matSs t a p && matSs t b q) = true := m
    rw [andB, andB] at m
    exact sndS_ite (mE ca fa C c _ _ _ _ _ h.x m.1.1).pt (ha _ _ _ _ _ _ _ h m.1.2) (hb _ _ _ _ _ _ _ h m.2)
  | _ => exact absurd (show false = true from m) (by decide)
theorem s_for {is : List Nat} {it : It} {b : Sms} (hb : GoalSs ca fa C b) : GoalS ca fa C (.for_ is it b) := by
  intro W t k X st M0 H0 h m
  cases st with
  | For g iter body els pos =>
    cases els with
    | cons _ _ => exact absurd (show false = true from m) (by decide)
    | nil =>
      have m : (tgMat t is g && matIt t it iter && (isTup g || !(needTup it)) && !(isSetE iter) && matSs t b body) = true := m
      rw [andB, andB, andB, andB, notB] at m
      obtain ⟨⟨⟨⟨m1, m2⟩, m3⟩, m4⟩, m5⟩ := m
      refine sndS_for h.po h.x.calm (mIt ca fa C it _ _ _ _ g iter h.x m2 m3) (tg_of h.x m1) (hb _ _ _ _ _ _ _ h m5) fun x => ?_
      cases iter <;> first | rfl | exact absurd (show true = false from m4) (by decide)
  | _ => exact absurd (show false = true from m) (by decide)


theorem par_set {i j : Nat} {es : Exs} {E : Ends} {σ : L2.St} {H : Hp} (h : tS ca W M0 H0 (exS C (.par [i, j] es)) E σ H) : tPar i j (tAK ca W (evs C es)) E σ H := by
  obtain ⟨M, env, S, e0, h0, rs, re, o⟩ := h
  simp only [exS] at o
  refine ⟨M, env, S, rs, re, o.bindL (rel := fun M => RepL ca M) e0 re fun ds S1 vs M1 H1 e1 rs1 re1 rx1 e01 o1 => ?_⟩
  by_cases hl : ds.length = ([i, j] : List Nat).length
  · rw [if_pos hl] at o1
    cases rx1 with
    | nil => cases hl
    | cons r1 rx1 =>
      cases rx1 with
      | nil => cases hl
      | cons r2 rx1 =>
        cases rx1 with
        | cons _ _ => cases hl
        | nil => exact ⟨_, _, rfl, outS_nx o1 e01 rs1 ((re1.set r1).set r2)⟩
  · rw [if_neg hl] at o1; exact o1.elim
theorem s_par {is : List Nat} {es : Exs} (hE : GoalEs ca fa C es) : GoalS ca fa C (.par is es) := by
  intro W t k X st M0 H0 h m
  match is with
  | [] => exact absurd (show false = true from m) (by decide)
  | [_] => exact absurd (show false = true from m) (by decide)
  | _ :: _ :: _ :: _ => exact absurd (show false = true from m) (by decide)
  | [i, j] =>
    have m : (match parP st with
      | some r => t.loc i r.x && t.loc j r.y && isLocN t r.x && isLocN t r.y && r.py.line == r.px.line && !(r.x == r.y) && !(i == j) && mats t es [r.a, r.b] && !([r.a, r.b].any isStar) && !([r.a, r.b].all (foldedForSure 8)) && !([r.a, r.b].all (constantsAlone 8))
      | none => false) = true := m
    cases hq : parP st with
    | none => rw [hq] at m; cases m
    | some r =>
    rw [hq] at m
    obtain rfl := parP_of hq
    obtain ⟨x, px, y, py, kt, pt, a, b, k2, p2, pos⟩ := r
    have m : (t.loc i x && t.loc j y && isLocN t x && isLocN t y && py.line == px.line && !(x == y) && !(i == j) && mats t es [a, b] && !([a, b].any isStar) && !([a, b].all (foldedForSure 8)) && !([a, b].all (constantsAlone 8))) = true := m
    rw [andB, andB, andB, andB, andB, andB, andB, andB, andB, andB, notB, notB, notB, notB, notB] at m
    obtain ⟨⟨⟨⟨⟨⟨⟨⟨⟨⟨m1, m2⟩, m3⟩, m4⟩, m5⟩, m6⟩, m7⟩, m8⟩, m9⟩, m10⟩, m11⟩ := m
    obtain ⟨g1, _, _⟩ := h.x.lcl m1
    obtain ⟨g2, _, _⟩ := h.x.lcl m2
    have loc : ∀ {x : Str}, isLocN t x = true → X.env.scope.names.lookup x = some .local := fun z => by
      rw [h.x.sc]; exact eq_of_beq z
    exact PS.imp (ps_par h.x.calm h.x.nd g1 g2 (by simpa using m7) (loc m3) (loc m4) (hE _ _ _ _ _ h.x m8).1 (sw_par2 h.bk (loc m3) (loc m4) m5 m6 m9 m10 m11) (by rfl)) fun D σ H z => par_set z
theorem s_setfld {o e : Ex} {f : Str} : GoalS ca fa C (.setfld o f e) := by
  intro W t k X st M0 H0 h m
  have m : (match fldP st with
    | some r => f == r.x && mat t o r.a && mat t e r.v && !(isComp r.v)
    | none => false) = true := m
  cases hq : fldP st with
  | none => rw [hq] at m; cases m
  | some r =>
    rw [hq] at m
    obtain rfl := fldP_of hq
    obtain ⟨a, x, p2, v, pos⟩ := r
    have m : (f == x && mat t o a && mat t e v && !(isComp v)) = true := m
    rw [andB, andB, andB, notB] at m
    obtain ⟨⟨⟨m1, m2⟩, m3⟩, m4⟩ := m
    obtain rfl := eq_of_beq m1
    exact sndS_setfld h.x.mod.ka m4 (mE ca fa C o _ _ _ _ _ h.x m2).pe (mE ca fa C e _ _ _ _ _ h.x m3).pe
theorem s_raise {c : Nat} {e : Ex} : GoalS ca fa C (.raise c e) := by
  intro W t k X st M0 H0 h m
  have m : (match raiseP st with
    | some r => t.glb r.x && t.g.cls.lookup r.x == some c && t.g.errs.contains c && mat t e r.v && !(isStar r.v)
    | none => false) = true := m
  cases hq : raiseP st with
  | none => rw [hq] at m; cases m
  | some r =>
    rw [hq] at m
    obtain rfl := raiseP_of hq
    obtain ⟨x, p, v, p1, pos⟩ := r
    have m : (t.glb x && t.g.cls.lookup x == some c && t.g.errs.contains c && mat t e v && !(isStar v)) = true := m
    rw [andB, andB, andB, andB, notB] at m
    obtain ⟨⟨⟨⟨m1, m2⟩, m3⟩, m4⟩, m5⟩ := m
    obtain ⟨g1, g2, g3⟩ := h.x.glb m1
    obtain ⟨q1, q2, q3⟩ := h.x.mod.cls x c (eq_of_beq m2)
    rcases q3 with ⟨_, fI, fdI, T, F1, b1, b2, e⟩ | ⟨q3, _⟩
    · exact sndS_raise T F1 (h.x.rm.mono (by omega)) b1 g1 q1 g2 m5 h.x.calm h.x.tk (mE ca fa C _ _ _ _ _ _ h.x m4).pe
    · rw [q3] at m3; cases m3
/-- the context of a try's body -/
theorem XOk.tr (h : XOk ca fa C W t k X) {W' : WX} {pn : List (Addr × Obj)} {xe : Value → Shared → Prop} (tk : Takes (X.tr pn xe) W') : XOk ca fa C W' t k (X.tr pn xe) :=
  ⟨h.mod, h.N, h.nd, h.sc, h.loc, h.calm, h.gd, h.rm, tk⟩
theorem s_tryE {j c i k' : Nat} {e : Ex} : GoalS ca fa C (.tryE j e c i k') := by
  intro W t k X st M0 H0 h m
  have m : (match tryP st with
    | some r => t.loc j r.y && mat t e r.v && !(isComp r.v) && t.glb r.x && t.g.cls.lookup r.x == some c && t.g.errs.contains c && t.N[i]? == some r.n && isLocN t r.n && r.n2 == r.n && r.n != ("__debug__" : Str) && r.n != ("__classdict__" : Str) && t.loc k' r.z
    | none => false) = true := m
  cases hq : tryP st with
  | none => rw [hq] at m; cases m
  | some r =>
    rw [hq] at m
    obtain rfl := tryP_of hq
    obtain ⟨y, p1, v, p2, x, np, n, z, p3, n2, p4, p5, p6, p7⟩ := r
    have m : (t.loc j y && mat t e v && !(isComp v) && t.glb x && t.g.cls.lookup x == some c && t.g.errs.contains c && t.N[i]? == some n && isLocN t n && n2 == n && n != ("__debug__" : Str) && n != ("__classdict__" : Str) && t.loc k' z) = true := m
    rw [andB, andB, andB, andB, andB, andB, andB, andB, andB, andB, andB, notB] at m
    obtain ⟨⟨⟨⟨⟨⟨⟨⟨⟨⟨⟨m1, m2⟩, m3⟩, m4⟩, m5⟩, m6⟩, m7⟩, m8⟩, m9⟩, m10⟩, m11⟩, m12⟩ := m
    obtain rfl := eq_of_beq m9
    obtain ⟨g1, g2, g3⟩ := h.x.lcl m1
    obtain ⟨k1, k2, k3⟩ := h.x.lcl m12
    obtain ⟨a1, a2, a3⟩ := h.x.glb m4
    obtain ⟨q1, q2, q3⟩ := h.x.mod.cls x c (eq_of_beq m5)
    have loc : X.env.scope.names.lookup n2 = some .local := by
      rw [h.x.sc]; exact eq_of_beq m8
    refine sndS_tryE h.x.mod.kf h.st h.fr h.x.nd g1 g2 g3 (by rw [h.x.N]; exact eq_of_beq m7) loc (by simpa [bne] using m10) (by simpa [bne] using m11) k1 k2 k3 ⟨a1, a2, .inl q1⟩ h.x.tk (fun W' pn xe tk po => (mE ca fa C e _ _ _ _ _ (h.x.tr tk) m2).pe) ?_
    cases v <;> first | rfl | exact absurd (show true = false from m3) (by decide)
theorem ss_frzd {i : Nat} {ss : Sms} (hs : GoalSs ca fa C ss) : GoalSs ca fa C (.cons (.frzd i) ss) := by
  intro W t k X st M0 H0 h m
  exact sndS_frzd (hs _ _ _ _ _ _ _ h m)
theorem s_no {x : Sm} (hx : ∀ t e, matS t x e = false) : GoalS ca fa C x := by
  intro W t k X st M0 H0 h m
  rw [hx] at m; cases m
theorem ss_nil : GoalSs ca fa C .nil := by
  intro W t k X st M0 H0 h m
  cases st with
  | nil => exact sndS_nil
  | cons _ _ => exact absurd (show false = true from m) (by decide)
theorem ss_frz {i : Nat} {ss : Sms} (hs : GoalSs ca fa C ss) : GoalSs ca fa C (.cons (.frz i) ss) := by
  intro W t k X st M0 H0 h m
  exact sndS_ghost (fun E σ H z => frz_name z) (hs _ _ _ _ _ _ _ h m)
theorem ss_cons {s : Sm} {ss : Sms} (hf : ∀ i, s ≠ .frz i) (hf2 : ∀ i, s ≠ .frzd i) (h1 : GoalS ca fa C s) (hs : GoalSs ca fa C ss) : GoalSs ca fa C (.cons s ss) := by
  intro W t k X st M0 H0 h m
  cases st with
  | nil => cases s <;> first | exact absurd (show false = true from m) (by decide) | exact absurd rfl (hf _) | exact absurd rfl (hf2 _)
  | cons s1 sts =>
    have m : (matS t s s1 && matSs t ss sts) = true := by cases s <;> first | exact m | exact absurd rfl (hf _) | exact absurd rfl (hf2 _)
    rw [andB] at m
    exact sndS_cons (h1 _ _ _ _ _ _ _ h m.1) (hs _ _ _ _ _ _ _ h m.2)
mutual
theorem mS (ca fa : Nat → Addr) (C : Ctx) : ∀ s : Sm, GoalS ca fa C s
  | .asg _ _ => s_asg
  | .acc _ _ => s_acc
  | .frz _ => s_no fun t e => by cases e <;> rfl
  | .frzd _ => s_no fun t e => by cases e <;> rfl
  | .unp _ _ => s_unp
  | .par _ es => s_par (mEs ca fa C es)
  | .setix _ _ _ => s_setix
  | .setfld _ _ _ => s_setfld
  | .mut _ _ _ => s_mut
  | .expr _ => s_expr
  | .ret _ => s_ret
  | .ite _ a b => s_ite (mSs ca fa C a) (mSs ca fa C b)
  | .for_ _ _ b => s_for (mSs ca fa C b)
  | .whl _ _ => s_no fun t e => by cases e <;> rfl
  | .raise _ _ => s_raise
  | .tryE _ _ _ _ _ => s_tryE
  | .tryR _ _ _ _ _ _ => s_no fun t e => by cases e <;> rfl
  | .cont => s_cont
  | .pass => s_pass
theorem mSs (ca fa : Nat → Addr) (C : Ctx) : ∀ s : Sms, GoalSs ca fa C s
  | .nil => ss_nil
  | .cons (.frz _) ss => ss_frz (mSs ca fa C ss)
  | .cons (.frzd _) ss => ss_frzd (mSs ca fa C ss)
  | .cons (.asg i e) ss => ss_cons (fun _ z => nomatch z) (fun _ z => nomatch z) (mS ca fa C (.asg i e)) (mSs ca fa C ss)
  | .cons (.acc i e) ss => ss_cons (fun _ z => nomatch z) (fun _ z => nomatch z) (mS ca fa C (.acc i e)) (mSs ca fa C ss)
  | .cons (.unp i e) ss => ss_cons (fun _ z => nomatch z) (fun _ z => nomatch z) (mS ca fa C (.unp i e)) (mSs ca fa C ss)
  | .cons (.par i e) ss => ss_cons (fun _ z => nomatch z) (fun _ z => nomatch z) (mS ca fa C (.par i e)) (mSs ca fa C ss)
  | .cons (.setix a i e) ss => ss_cons (fun _ z => nomatch z) (fun _ z => nomatch z) (mS ca fa C (.setix a i e)) (mSs ca fa C ss)
  | .cons (.setfld a i e) ss => ss_cons (fun _ z => nomatch z) (fun _ z => nomatch z) (mS ca fa C (.setfld a i e)) (mSs ca fa C ss)
  | .cons (.mut a i e) ss => ss_cons (fun _ z => nomatch z) (fun _ z => nomatch z) (mS ca fa C (.mut a i e)) (mSs ca fa C ss)
  | .cons (.expr e) ss => ss_cons (fun _ z => nomatch z) (fun _ z => nomatch z) (mS ca fa C (.expr e)) (mSs ca fa C ss)
  | .cons (.ret e) ss => ss_cons (fun _ z => nomatch z) (fun _ z => nomatch z) (mS ca fa C (.ret e)) (mSs ca fa C ss)
  | .cons (.ite c a b) ss => ss_cons (fun _ z => nomatch z) (fun _ z => nomatch z) (mS ca fa C (.ite c a b)) (mSs ca fa C ss)
  | .cons (.for_ c a b) ss => ss_cons (fun _ z => nomatch z) (fun _ z => nomatch z) (mS ca fa C (.for_ c a b)) (mSs ca fa C ss)
  | .cons (.whl c a) ss => ss_cons (fun _ z => nomatch z) (fun _ z => nomatch z) (mS ca fa C (.whl c a)) (mSs ca fa C ss)
  | .cons (.raise c a) ss => ss_cons (fun _ z => nomatch z) (fun _ z => nomatch z) (mS ca fa C (.raise c a)) (mSs ca fa C ss)
  | .cons (.tryE a b c d e) ss => ss_cons (fun _ z => nomatch z) (fun _ z => nomatch z) (mS ca fa C (.tryE a b c d e)) (mSs ca fa C ss)
  | .cons (.tryR a b c d e f) ss => ss_cons (fun _ z => nomatch z) (fun _ z => nomatch z) (mS ca fa C (.tryR a b c d e f)) (mSs ca fa C ss)
  | .cons .cont ss => ss_cons (fun _ z => nomatch z) (fun _ z => nomatch z) (mS ca fa C .cont) (mSs ca fa C ss)
  | .cons .pass ss => ss_cons (fun _ z => nomatch z) (fun _ z => nomatch z) (mS ca fa C .pass) (mSs ca fa C ss)
end
end K9
end
section
set_option Elab.async false
set_option linter.all false
set_option maxRecDepth 100000
set_option maxHeartbeats 0
/-! K9Top: the defs of a module keep the evaluator's promise. -/
namespace K9
open PySem PySem.Spec PyProof.Rows L2
section
variable {ca : Nat → Addr} {M : Mem} {Hx : Hp} {y : Addr}
mutual
theorem Rep.swap : ∀ {v : V} {d : D}, Rep ca M v d → Rep ca { M with H0 := Hx, sa := y } v d
  | _, _, .non => .non
  | _, _, .bl b => .bl b
  | _, _, .int i => .int i
  | _, _, .str s => .str s
  | _, _, .tup h r => .tup (M := { M with H0 := Hx, sa := y }) h (RepL.swap r)
  | _, _, .lst h r => .lst (M := { M with H0 := Hx, sa := y }) h (RepL.swap r)
  | _, _, .dct h e r => .dct (M := { M with H0 := Hx, sa := y }) h e (RepL.swap r)
  | _, _, .ins h e r => .ins (M := { M with H0 := Hx, sa := y }) h e (RepL.swap r)
  | _, _, .dcf h e r => .dcf (M := { M with H0 := Hx, sa := y }) h e (RepL.swap r)
  | _, _, .exc h1 h2 r => .exc (M := { M with H0 := Hx, sa := y }) h1 h2 (Rep.swap r)
  | _, _, .ref h => .ref (M := { M with H0 := Hx, sa := y }) h
  | _, _, .scr h r => .scr (M := { M with H0 := Hx, sa := y }) h (RepL.swap r)
theorem RepL.swap : ∀ {vs : List V} {ds : List D}, RepL ca M vs ds → RepL ca { M with H0 := Hx, sa := y } vs ds
  | _, _, .nil => .nil
  | _, _, .cons r t => .cons (Rep.swap r) (RepL.swap t)
end
theorem ObR.swap {ho : HO} {ob : Ob} (r : ObR ca M ho ob) : ObR ca { M with H0 := Hx, sa := y } ho ob := by
  cases r with
  | lst r => exact .lst r.swap
  | dct e r => exact .dct e r.swap
  | ins e r => exact .ins e r.swap
theorem RelS.swap {S : Sto} {H : Hp} (rs : RelS ca M S H) (h : ∀ a, H a = none → Hx a = none) : RelS ca { M with H0 := Hx, sa := y } S H := by
  refine ⟨rs.frz, rs.len, rs.nd, rs.off, fun n ob e => ?_, h⟩
  obtain ⟨a, ho, h1, h2, h3⟩ := rs.ob n ob e
  exact ⟨a, ho, h1, h2, h3.swap⟩
end
/-- the entry's names -/
theorem rel_start {ca : Nat → Addr} {M : Mem} {H : Hp} {fn : Fn} {N : List Str} {vs : List V} {ds : List D} (r : RepL ca M vs ds) (hn : fn.nms = N.length) : RelE ca M (startE fn ds) (L2.start N vs) H := by
  have hl := r.length
  refine ⟨?_, fun i s h => ?_, fun i j o o' h1 h2 h3 => ?_⟩
  · unfold startE L2.start
    simp only [List.length_append, List.length_map, List.length_replicate, hl, hn]
  · unfold startE at h
    unfold L2.start
    by_cases hi : i < ds.length
    · rw [List.getElem?_append_left (by simpa using hi), List.getElem?_map] at h
      rw [List.getElem?_append_left (by rw [List.length_map, hl]; exact hi), List.getElem?_map]
      cases hd : ds[i]? with
      | none => rw [hd] at h; cases h
      | some d =>
        rw [hd] at h
        cases h
        obtain ⟨v, hv, rv⟩ := r.get hd
        rw [hv]
        exact .fz rv
    · rw [List.getElem?_append_right (by simpa using hi)] at h
      rw [List.getElem?_replicate] at h
      split at h
      · cases h; exact .no
      · cases h
  · unfold startE at h1
    by_cases hi : i < ds.length
    · rw [List.getElem?_append_left (by simpa using hi), List.getElem?_map] at h1
      cases hd : ds[i]? with
      | none => rw [hd] at h1; cases h1
      | some d => rw [hd] at h1; cases h1
    · rw [List.getElem?_append_right (by simpa using hi), List.getElem?_replicate] at h1
      split at h1 <;> cases h1
/-- a def's text -/
def DefT (K : PySem.W.Frag) (g : GT) (fa : Nat → Addr) (f : Nat) (fn : Fn) (fd : FuncData) (ps : List Str) : Prop :=
  ∃ (x qual : Str) (st : Stmt) (N : List Str), Fun K x qual st (fa f) fd ∧ FnScope N ps (defScope st) ∧ matSs ⟨N, defScope st, defScope st, g⟩ fn.body (defBody st) = true ∧ fn.ps = ps.length ∧ fn.nms = N.length ∧ (defScope st).kind = .function ∧ Binds K fd ps []
/-- a def under a context keeps its promise -/
theorem def_step {ca fa : Nat → Addr} {P : Program} {w : World} {K : PySem.W.Frag} {mg : Str → Option Value} {base : Heap} {C : Ctx} {g : GT} {k f : Nat} {fn : Fn} {fd : FuncData} {ps : List Str}
    (m : ModOk ca fa P w K mg base k C g) (T : DefT K g fa f fn fd ps) : FnG P w K mg base (k + 3) (fa f) fd ps (spF ca (runFn C fn)) := by
  obtain ⟨x, qual, st, N, hF, hS, hm, h1, h2, hkd, hb⟩ := T
  refine fnG_of hF hS (fun vs H Q E h => ?_) (fun cdv A outer s H vs Q E hg hr h => ?_)
  · obtain ⟨M, S, ds, rs, r, o⟩ := h
    unfold runFn chk at o
    by_cases hl : ds.length = fn.ps
    · rw [r.length, hl, h1]
    · rw [if_neg hl] at o; exact o.elim
  · obtain ⟨M, S, ds, rs, r, o⟩ := h
    have hx : XOk ca fa C (fun cls d _ H' => E cls d H') ⟨N, defScope st, defScope st, g⟩ k (cxOf (L2.CX P w) P w K mg base N qual (defScope st) (fa f) cdv A outer s H E) :=
      ⟨m, rfl, hS.nd, rfl, fun x hx => ⟨hx, .inl rfl⟩, rfl, hg, hr, takes_of rfl rfl rfl rfl⟩
    refine ⟨_, mSs ca fa C fn.body _ _ k _ _ { M with H0 := H } H ⟨hx, passes_of rfl, hkd, rfl, rfl⟩ hm, ?_⟩
    refine ⟨{ M with H0 := H }, startE fn ds, S, Ext.refl, rfl, rs.swap fun a h => h, rel_start r.swap h2, ?_⟩
    have back : ∀ {M' : Mem} {H' : Hp}, Ext { M with H0 := H } H M' H' → Ext M H { M' with H0 := M.H0 } H' := fun e => ⟨e.F, e.mu, rfl, e.sa, e.rest, e.newF, e.newM, e.dom⟩
    have backS : ∀ {M' : Mem} {H' : Hp} {S' : Sto}, Ext { M with H0 := H } H M' H' → RelS ca M' S' H' → RelS ca { M' with H0 := M.H0 } S' H' := fun e r' => r'.swap fun a ha => rs.h0 a (e.none ha)
    unfold runFn chk at o
    by_cases hl : ds.length = fn.ps
    · rw [if_pos hl] at o
      cases hb : exSs C fn.body (startE fn ds) S with
      | bad => rw [hb] at o; exact o.elim
      | er c d S' =>
        rw [hb] at o
        intro cls dd σ' M' H' em e rs' ex hd
        refine o cls dd { M' with H0 := M.H0 } H' (back e) (backS e rs') ?_ hd
        obtain ⟨a1, a, v, a2, a3, a4, a5, a6⟩ := ex
        exact ⟨a1, a, v, a2, a3, a4, a5, a6.swap⟩
      | ok fl S' =>
        rw [hb] at o
        cases fl with
        | nx env' => exact fun σ' M' H' em e rs' re' => (show OutF ca M H (.ok .non S') Q E from o) .non { M' with H0 := M.H0 } H' (back e) (backS e rs') .non
        | ct env' => exact (show False from o).elim
        | rt d =>
          intro v M' H' em e rs' ru
          refine (show OutF ca M H (.ok d S') Q E from o) v { M' with H0 := M.H0 } H' (back e) (backS e rs') ?_
          cases d with
          | acc i => exact ru
          | own d =>
            obtain ⟨p, ho, ob, a1, a2, a3, a4, a5, a6, a7⟩ := ru
            exact ⟨p, ho, ob, a1, a2, a3, a4, a5.swap, a6, a7⟩
          | _ => exact (show Rep ca M' v _ from ru).swap
    · rw [if_neg hl] at o; exact o.elim
theorem start_noal {fn : Fn} {ds : List D} {i : Nat} {o : Ob} (h : (startE fn ds)[i]? = some (.al o)) : False := by
  unfold startE at h
  by_cases hi : i < ds.length
  · rw [List.getElem?_append_left (by simpa using hi), List.getElem?_map] at h
    cases hd : ds[i]? with
    | none => rw [hd] at h; cases h
    | some d => rw [hd] at h; cases h
  · rw [List.getElem?_append_right (by simpa using hi), List.getElem?_replicate] at h
    split at h <;> cases h
theorem rel_startM {ca : Nat → Addr} {M : Mem} {H : Hp} {fn : Fn} {N : List Str} {vs : List V} {ds : List D} {x dx : Addr} {c : Nat} (r : RepL ca M vs ds) (hn : fn.nms = N.length) (hx : H x = some (.ins (ca c) dx [])) (h1 : M.F x = none) (h2 : x ∉ M.mu) (h3 : M.H0 x = none) (h4 : M.sa = x) :
    RelE ca M (Slot.al (.ins c [] []) :: startE { fn with nms := fn.nms - 1 } ds) (L2.start N (V.ref x :: vs)) H := by
  have e : L2.start N (V.ref x :: vs) = some (V.ref x) :: L2.start N.tail vs := by
    unfold L2.start
    rw [List.map_cons, List.cons_append, List.length_cons, List.length_tail]
    rw [show N.length - (vs.length + 1) = N.length - 1 - vs.length from by omega]
  have b := rel_start (fn := { fn with nms := fn.nms - 1 }) (N := N.tail) (H := H) r (by show fn.nms - 1 = _; rw [hn, List.length_tail])
  rw [e]
  refine ⟨by rw [List.length_cons, List.length_cons, b.len], fun i s h => ?_, fun i j o o' h1 h2 h3 => ?_⟩
  · cases i with
    | zero =>
      cases h
      exact .al hx (.ins (fs := []) rfl .nil) h1 h2 h3 fun _ _ _ _ => h4.symm
    | succ i => exact b.sl i s h
  · cases i with
    | zero =>
      cases j with
      | zero => rfl
      | succ j => exact (start_noal h2).elim
    | succ i => exact (start_noal h1).elim
/-- a maker under a context keeps its promise -/
theorem mk_step {ca fa : Nat → Addr} {P : Program} {w : World} {K : PySem.W.Frag} {mg : Str → Option Value} {base : Heap} {C : Ctx} {g : GT} {k f c : Nat} {fn : Fn} {fd : FuncData} {ps : List Str}
    (m : ModOk ca fa P w K mg base k C g) (T : DefT K g fa f fn fd ps) : FnG P w K mg base (k + 3) (fa f) fd ps (spMk ca c (runMk C fn c)) := by
  obtain ⟨x, qual, st, N, hF, hS, hm, h1, h2, hkd, hb⟩ := T
  refine fnG_of hF hS (fun vs H Q E h => ?_) (fun cdv A outer s H vs Q E hg hr h => ?_)
  · obtain ⟨M, S, ds, xa, dx, us, rfl, rs, r, hx, q1, q2, q3, o⟩ := h
    unfold runMk chk at o
    by_cases hl : ds.length + 1 = fn.ps
    · rw [List.length_cons, r.length, hl, h1]
    · rw [if_neg hl] at o; exact o.elim
  · obtain ⟨M, S, ds, xa, dx, us, rfl, rs, r, hx, q1, q2, q3, o⟩ := h
    have hx' : XOk ca fa C (fun cls d _ H' => E cls d H') ⟨N, defScope st, defScope st, g⟩ k (cxOf (L2.CX P w) P w K mg base N qual (defScope st) (fa f) cdv A outer s H E) :=
      ⟨m, rfl, hS.nd, rfl, fun x hx => ⟨hx, .inl rfl⟩, rfl, hg, hr, takes_of rfl rfl rfl rfl⟩
    have h0 : ∀ a, rmv H xa a = none → M.H0 a = none := fun a ha => by
      by_cases z : a = xa
      · rw [z]; exact q3
      · rw [rmv_ne z] at ha; exact rs.h0 a ha
    refine ⟨_, mSs ca fa C fn.body _ _ k _ _ { M with H0 := rmv H xa, sa := xa } (rmv H xa) ⟨hx', passes_of rfl, hkd, rfl, rfl⟩ hm, ?_⟩
    refine ⟨{ M with H0 := rmv H xa, sa := xa }, Slot.al (.ins c [] []) :: startE { fn with nms := fn.nms - 1 } ds, S, ⟨fun _ _ h => h, fun _ _ h => h, rfl, rfl, fun a u h _ => ?_, (fun a u h n => by rw [n] at h; cases h), fun a h n => absurd h n, fun a u h => ?_⟩, rfl, rs.swap fun a h => rmv_none h,
      rel_startM r.swap h2 hx q1 q2 rmv_same rfl, ?_⟩
    · have z : a ≠ xa := fun z => by rw [z, rmv_same] at h; cases h
      rw [rmv_ne z] at h; exact h
    · have z : a ≠ xa := fun z => by rw [z, rmv_same] at h; cases h
      rw [rmv_ne z] at h; exact ⟨u, h⟩
    have back : ∀ {M' : Mem} {H' : Hp}, Ext { M with H0 := rmv H xa, sa := xa } (rmv H xa) M' H' → Ext M (rmv H xa) { M' with H0 := M.H0, sa := M.sa } H' := fun e => ⟨e.F, e.mu, rfl, rfl, e.rest, e.newF, e.newM, e.dom⟩
    have backS : ∀ {M' : Mem} {H' : Hp} {S' : Sto}, Ext { M with H0 := rmv H xa, sa := xa } (rmv H xa) M' H' → RelS ca M' S' H' → RelS ca { M' with H0 := M.H0, sa := M.sa } S' H' := fun e r' => r'.swap fun a ha => h0 a (e.none ha)
    unfold runMk chk at o
    by_cases hl : ds.length + 1 = fn.ps
    · rw [if_pos hl] at o
      cases hb : exSs C fn.body (Slot.al (.ins c [] []) :: startE { fn with nms := fn.nms - 1 } ds) S with
      | bad => rw [hb] at o; exact o.elim
      | er c d S' =>
        rw [hb] at o
        intro cls dd σ' M' H' em e rs' ex hd
        refine o cls dd { M' with H0 := M.H0, sa := M.sa } H' (back e) (backS e rs') ?_ hd
        obtain ⟨a1, a, v, a2, a3, a4, a5, a6⟩ := ex
        exact ⟨a1, a, v, a2, a3, a4, a5, a6.swap⟩
      | ok fl S' =>
        rw [hb] at o
        cases fl with
        | ct env' => exact (show False from o).elim
        | rt d => exact (show False from o).elim
        | nx env' =>
          cases env' with
          | nil => exact (show False from o).elim
          | cons sl rest =>
            cases sl with
            | no => exact (show False from o).elim
            | fz _ => exact (show False from o).elim
            | al ob =>
              cases ob with
              | lst _ => exact (show False from o).elim
              | dct _ _ => exact (show False from o).elim
              | ins c' fs vs =>
                have o : OutMk ca M H xa (if c' = c then .ok (.own (.ins c fs vs)) S' else .bad) Q E := o
                by_cases hc : c' = c
                · rw [if_pos hc] at o
                  subst hc
                  intro σ' M' H' em e rs' re'
                  have z := re'.sl 0 _ rfl
                  generalize σ'[0]? = so at z
                  cases z with
                  | al g1 g2 g3 g4 g5 g6 =>
                    rename_i a ho
                    have ha : a = xa := (g6 _ _ _ rfl).trans e.sa
                    subst ha
                    exact o { M' with H0 := M.H0, sa := M.sa } H' ho (.ins c' fs vs) (back e) (backS e rs') rfl g1 g2.swap g3 g4
                · rw [if_neg hc] at o; exact o.elim
    · rw [if_neg hl] at o; exact o.elim
/-- what the module's written part says -/
structure ModT (ca fa : Nat → Addr) (P : Program) (w : World) (K : PySem.W.Frag) (mg : Str → Option Value) (g : GT) (Pr : Prog) : Prop where
  kf : KF K ca Pr.sub
  ka : KA K ca fa Pr.attr Pr.meth
  df : ∀ f fn, Pr.fn f = some fn → ∃ fd ps, DefT K g fa f fn fd ps
  fns : ∀ x f, g.fns.lookup x = some f → mg x = some (.ref (fa f)) ∧ PySem.W.keepIn K (.ref (fa f)) = true ∧ ∃ fn, Pr.fn f = some fn
  cls : ∀ x c, g.cls.lookup x = some c → mg x = some (.ref (ca c)) ∧ PySem.W.keepIn K (.ref (ca c)) = true ∧ (g.errs.contains c = true ∨ (g.errs.contains c = false ∧ ∃ l fn fd ps, Pr.cl c = some l ∧ l.err = false ∧ Pr.fn l.init = some fn ∧ DefT K g fa l.init fn fd ps ∧ Mk K (ca c) (fa l.init) ∧
    ∀ n ks perm, (c, n, ks, perm) ∈ g.ckw → ∀ (s : Shared) (self : Value) (us ws : List Value), us.length = n → ws.length = ks.length → ∃ zs, perm.mapM (fun i => (us ++ ws)[i]?) = some zs ∧ BindsTo s fd ⟨self :: us, ks.zip ws⟩ (ps.zip (self :: zs))))
  gD : ∀ x t, g.gD.lookup x = some t → ∃ a l, mg x = some (.ref a) ∧ GDct K w a l ∧ Pr.gd t = some l
  fk : ∀ f n ks perm, (f, n, ks, perm) ∈ g.fkw → ∃ fn fd ps, Pr.fn f = some fn ∧ DefT K g fa f fn fd ps ∧
    ∀ (s : Shared) (us ws : List Value), us.length = n → ws.length = ks.length → ∃ zs, perm.mapM (fun i => (us ++ ws)[i]?) = some zs ∧ BindsTo s fd ⟨us, ks.zip ws⟩ (ps.zip zs)
  ers : ∀ c, g.errs.contains c = true → (∃ l, Pr.cl c = some l ∧ l.err = true) ∧ ∃ (fI : Addr) (fdI : FuncData), ExcT K (ca c) fI ∧ (∀ base, FnOk P w K mg base CX0 1 fI fdI (["self", "value"] : List Str) (spEI K)) ∧
    (∀ (s : Shared) (self u : Value), K.In s.heap → BindsTo s fdI ⟨[self, u], []⟩ ((["self", "value"] : List Str).zip [self, u])) ∧
    (∀ (s : Shared) (self u : Value), K.In s.heap → BindsTo s fdI ⟨[self], [(("value" : Str), u)]⟩ ((["self", "value"] : List Str).zip [self, u]))
  gS : ∀ x s, g.gS.lookup x = some s → ∃ u, mg x = some u ∧ RelV (.str s) u
  gI : ∀ x i, g.gI.lookup x = some i → ∃ u, mg x = some u ∧ RelV (.int i) u
  bl : ∀ x, g.bl.contains x = true → mg x = none
  prop : ∀ c f n, Pr.attr c f = some (some n) → ∃ fn, Pr.fn n = some fn
  meth : ∀ c x n, Pr.meth c x = some n → ∃ fn, Pr.fn n = some fn
section
variable {ca fa : Nat → Addr} {P : Program} {w : World} {K : PySem.W.Frag} {mg : Str → Option Value} {base : Heap} {g : GT} {Pr : Prog} {wf : Nat}
/-- every def at a depth -/
def AtN (ca fa : Nat → Addr) (P : Program) (w : World) (K : PySem.W.Frag) (mg : Str → Option Value) (base : Heap) (g : GT) (Pr : Prog) (wf n : Nat) : Prop :=
  ∀ f fn fd ps, Pr.fn f = some fn → DefT K g fa f fn fd ps → FnG P w K mg base (3 * n) (fa f) fd ps (spF ca (callT Pr wf n f))
/-- every maker at a depth -/
def AtM (ca fa : Nat → Addr) (P : Program) (w : World) (K : PySem.W.Frag) (mg : Str → Option Value) (base : Heap) (g : GT) (Pr : Prog) (wf n : Nat) : Prop :=
  ∀ c l fn fd ps, Pr.cl c = some l → l.err = false → Pr.fn l.init = some fn → DefT K g fa l.init fn fd ps → FnG P w K mg base (3 * n) (fa l.init) fd ps (spMk ca c (makeT Pr wf n c))
theorem make_own {wf n c : Nat} {l : Cl} (hl : Pr.cl c = some l) (he : l.err = false) {ds : List D} {S S' : Sto} {d : D} (h : makeT Pr wf n c ds S = .ok d S') : ∃ e, d = .own e := by
  cases n with
  | zero =>
    simp only [makeT, hl, oget, he] at h
    cases h
  | succ n =>
    simp only [makeT, hl, oget, he, Bool.false_eq_true, if_false] at h
    cases hf : Pr.fn l.init with
    | none => rw [hf] at h; cases h
    | some fn =>
      rw [hf] at h
      have h : runMk (ctxT Pr wf n) fn c ds S = .ok d S' := h
      unfold runMk chk at h
      split at h
      · cases hb : exSs (ctxT Pr wf n) fn.body (Slot.al (.ins c [] []) :: startE { fn with nms := fn.nms - 1 } ds) S with
        | bad => rw [hb] at h; cases h
        | er _ _ _ => rw [hb] at h; cases h
        | ok fl S1 =>
          rw [hb] at h
          simp only [R.bind] at h
          split at h
          · split at h
            · cases h; exact ⟨_, rfl⟩
            · cases h
          · cases h
      · cases h
theorem modOk_of (m : ModT ca fa P w K mg g Pr) {n : Nat} (h : AtN ca fa P w K mg base g Pr wf n) (h' : AtM ca fa P w K mg base g Pr wf n) : ModOk ca fa P w K mg base (3 * n) (ctxT Pr wf n) g := by
  have fT : ∀ f fn, Pr.fn f = some fn → FnT ca fa P w K mg base (3 * n) (ctxT Pr wf n).call f := fun f fn hf => by
    obtain ⟨fd, ps, T⟩ := m.df f fn hf
    refine ⟨fd, ps, h f fn fd ps hf T, ?_⟩
    obtain ⟨_, _, _, _, _, _, _, _, _, _, hb⟩ := T
    exact hb
  refine ⟨m.kf, m.ka, fun x f hx => ?_, fun x c hx => ?_, m.gS, m.gI, m.gD, fun f n' ks perm hx => ?_, m.bl, fun c f n' hx => ?_, fun c x n' hx => ?_⟩
  · obtain ⟨a, b, fn, hf⟩ := m.fns x f hx
    exact ⟨a, b, fT f fn hf⟩
  · obtain ⟨a, b, hc | ⟨hc, l, fn, fd, ps, c1, c2, c3, T, Mc, hkw⟩⟩ := m.cls x c hx
    · obtain ⟨⟨l, hl, he⟩, fI, fdI, T, F1, b1, b2⟩ := m.ers c hc
      refine ⟨a, b, .inl ⟨hc, fI, fdI, T, F1 base, b1, b2, ?_⟩⟩
      funext ds S
      show makeT Pr wf n c ds S = _
      cases n with
      | zero => simp only [makeT, hl, oget, he, if_true] <;> rfl
      | succ n => simp only [makeT, hl, oget, he, if_true] <;> rfl
    · refine ⟨a, b, .inr ⟨hc, fa l.init, fd, ps, Mc, h' c l fn fd ps c1 c2 c3 T, ?_, fun ds S d S' z => make_own c1 c2 z, hkw⟩⟩
      obtain ⟨_, _, _, _, _, _, _, _, _, _, hb⟩ := T
      exact hb
  · obtain ⟨fn, fd, ps, c1, T, hkw⟩ := m.fk f n' ks perm hx
    exact ⟨fd, ps, h f fn fd ps c1 T, hkw⟩
  · obtain ⟨fn, hf⟩ := m.prop c f n' hx
    exact fT n' fn hf
  · obtain ⟨fn, hf⟩ := m.meth c x n' hx
    exact fT n' fn hf
theorem atNM (m : ModT ca fa P w K mg g Pr) : ∀ n, AtN ca fa P w K mg base g Pr wf n ∧ AtM ca fa P w K mg base g Pr wf n
  | 0 => by
    refine ⟨fun f fn fd ps hf T => ⟨fun vs H Q E h => ?_, fun A outer s H args us vs Q E _ _ _ _ _ h => ?_⟩, fun c l fn fd ps hl he hf T => ⟨fun vs H Q E h => ?_, fun A outer s H args us vs Q E _ _ _ _ _ h => ?_⟩⟩
    · obtain ⟨M, S, ds, rs, r, o⟩ := h
      exact o.elim
    · obtain ⟨M, S, ds, rs, r, o⟩ := h
      exact o.elim
    · obtain ⟨M, S, ds, xa, dx, us, rfl, rs, r, hx, q1, q2, q3, o⟩ := h
      simp only [makeT, hl, oget, he] at o
      exact o.elim
    · obtain ⟨M, S, ds, xa, dx, us, rfl, rs, r, hx, q1, q2, q3, o⟩ := h
      simp only [makeT, hl, oget, he] at o
      exact o.elim
  | n + 1 => by
    obtain ⟨a, b⟩ := atNM m n
    refine ⟨fun f fn fd ps hf T => ?_, fun c l fn fd ps hl he hf T => ?_⟩
    · have q := def_step (modOk_of m a b) T
      have e : callT Pr wf (n + 1) f = runFn (ctxT Pr wf n) fn := by
        funext ds S
        simp only [callT, hf, oget]
        rfl
      rw [e]
      exact q
    · have q := mk_step (c := c) (modOk_of m a b) T
      have e : makeT Pr wf (n + 1) c = runMk (ctxT Pr wf n) fn c := by
        funext ds S
        simp only [makeT, hl, oget, he, Bool.false_eq_true, if_false, hf]
        rfl
      rw [e]
      exact q
theorem atN (m : ModT ca fa P w K mg g Pr) (n : Nat) : AtN ca fa P w K mg base g Pr wf n := (atNM m n).1
end
/-- the law's end: its def answers True to every script -/
theorem law_end {ca fa : Nat → Addr} {M : Mem} {H : Hp} {S : Sto} {g : List D → Sto → R D} {a : Addr} {ns : List Int} {K : PySem.W.Frag} {vs : List V} : True := trivial
end K9
end
section
set_option Elab.async false
set_option linter.all false
set_option maxRecDepth 100000
set_option maxHeartbeats 0
/-! K9Hd: a law's table; what the head must show; from there to the module's facts. -/
namespace K9
open PySem PySem.Spec PyProof.Rows L2

/-- a def of the table; prop: it stands behind a property -/
structure DRow where
  at_ : Str × Option Str
  name : Str
  qual : Str
  st : Stmt
  ps : List Str
  N : List Str
  body : Sms
  prop : Bool
def DRow.fn (r : DRow) : Fn := ⟨r.ps.length, r.N.length, r.body⟩
/-- a plain class: its maker, methods, fields, properties -/
structure PCl where
  init : Nat
  ms : List (Str × Nat)
  fl : List Str
  pr : List (Str × Nat)
/-- a law's table: its defs, its classes (the errors first, their base at 0; then the plain ones), its texts and numbers, the built-ins that it names, the errors' maker; the plain classes, the written dicts, the forms of calls with keywords -/
structure Tab where
  rows : List DRow
  cs : List Str
  ne : Nat
  gS : List (Str × Str)
  gI : List (Str × Int)
  bl : List Str
  ini : Stmt
  iniq : Str
  pcs : List PCl
  gD : List (Str × List (Str × Int))
  ckw : List (Nat × Nat × List Str × List Nat)
  fkw : List (Nat × Nat × List Str × List Nat)
def idxOf {α : Type} : List α → Nat → List (α × Nat)
  | [], _ => []
  | x :: xs, i => (x, i) :: idxOf xs (i + 1)
def Tab.fns (T : Tab) : List (Str × Nat) := (idxOf T.rows 0).filterMap fun p => match p.1.at_.2 with
  | none => some (p.1.at_.1, p.2)
  | some _ => none
def Tab.gt (T : Tab) : GT := ⟨T.fns, idxOf T.cs 0, List.range T.ne, T.gS, T.gI, idxOf (T.gD.map (·.1)) 0, T.bl, T.ckw, T.fkw⟩
def Tab.sub (T : Tab) (c : Nat) : Ty → Option Bool
  | .cls d => if c < T.cs.length ∧ d < T.cs.length then some (c == d || (decide (c < T.ne) && d == 0)) else none
  | .valueError => if c < T.cs.length then some (decide (c < T.ne)) else none
  | _ => if c < T.cs.length then some false else none
def Tab.cl (T : Tab) (c : Nat) : Option Cl := if c < T.ne then some ⟨true, 0, [], [], []⟩ else (T.pcs[c - T.ne]?).map fun p => ⟨false, p.init, p.ms, p.fl, p.pr⟩
def Tab.prog (T : Tab) : Prog := ⟨fun f => (T.rows[f]?).map DRow.fn, T.cl, T.sub, fun t => (T.gD[t]?).map (·.2)⟩
def Tab.ca (T : Tab) (K : PySem.W.Frag) (c : Nat) : Addr := match T.cs[c]? with
  | some x => He.ga K x
  | none => 0
/-- where a property stands, and its def -/
def propAd (K : PySem.W.Frag) (C : Addr) (f : Str) : Addr := match PySem.W.findIn K (.ref C) f with
  | some (some (.ref p)) => p
  | _ => 0
def propFn (K : PySem.W.Frag) (C : Addr) (f : Str) : Addr := match PySem.W.recIn K (propAd K C f) "property" with
  | some (.ref g :: _) => g
  | _ => 0
def DRow.ad (K : PySem.W.Frag) (r : DRow) : Addr := match r.at_.2 with
  | none => He.ga K r.at_.1
  | some m => if r.prop then propFn K (He.ga K r.at_.1) m else He.ma K (He.ga K r.at_.1) m
def Tab.fa (T : Tab) (K : PySem.W.Frag) (f : Nat) : Addr := match T.rows[f]? with
  | some r => r.ad K
  | none => 0
def Tab.fi (T : Tab) (K : PySem.W.Frag) : Addr := He.ma K (T.ca K 0) "__init__"
/-- what is seen of a function object -/
def fnAt (K : PySem.W.Frag) (a : Addr) : He.FnV := match K.lookup a with
  | some ⟨_, _, .func fd, _⟩ => some (fd.name, fd.qualname, fd.params, fd.body, fd.scope, fd.globals, fd.closure, fd.defaults, fd.builtins)
  | _ => none
def codeAt (K : PySem.W.Frag) (a : Addr) (q : Str) : Bool := match K.lookup a with
  | some ⟨_, _, .func fd, _⟩ => PySem.W.codeIn K fd.code q
  | _ => false
def fnVal (name qual : Str) (st : Stmt) : He.FnV := some (name, qual, defArgs st, .stmts (defBody st), defScope st, mainGlobals, [], .none, builtinsNs)
theorem fun_at {K : PySem.W.Frag} {a : Addr} {name qual : Str} {st : Stmt} (e : fnAt K a = fnVal name qual st) (c : codeAt K a qual = true) (k : PySem.W.keepIn K (.ref a) = true) : ∃ fd, Fun K name qual st a fd := by
  unfold codeAt at c
  unfold fnAt at e
  cases q : K.lookup a with
  | none => rw [q] at c; cases c
  | some o =>
    obtain ⟨oc, od, dt, osl⟩ := o
    rw [q] at c e
    cases dt with
    | func fd =>
      obtain ⟨n1, n2, n3, n4, n5, n6, n7, n8, n9, n10, n11, n12, n13, n14, n15⟩ := fd
      have e2 : (some (n1, n2, n3, n4, n5, n6, n7, n8, n15) : He.FnV) = some (name, qual, defArgs st, .stmts (defBody st), defScope st, mainGlobals, [], .none, builtinsNs) := e
      simp only [Option.some.injEq, Prod.mk.injEq] at e2
      obtain ⟨h1, h2, h3, h4, h5, h6, h7, h8, h9⟩ := e2
      subst h1 h2 h3 h4 h5 h6 h7 h8 h9
      exact ⟨_, ⟨oc, od, n9, n10, n11, n12, n13, n14, osl, rfl, q, c⟩, k⟩
    | _ => cases c

/-! ### what is looked at -/
def excB (K : PySem.W.Frag) (C : Addr) : Bool := match K.lookup C with
  | some ⟨.type "type", _, .cls cd, sl⟩ => (match cd.mro, sl.toList with
    | .ref C' :: bm, [_, _, _, _, some (.builtin n), _] => C' == C && n == "ValueError.__new__" && !cd.hasDel && cd.hasDict && PySem.HandSPX.refsVE bm
    | _, _ => false)
  | _ => false
theorem excB_ok {K : PySem.W.Frag} {C : Addr} (q : excB K C = true) : ∃ nm q N bs bm sn sub ab col dd k0 k1 k2 k3 k5, K.lookup C = some (excClassObj nm q C N bs bm true sn sub ab col dd k0 k1 k2 k3 k5 "ValueError.__new__") ∧ PySem.HandSPX.refsVE bm = true := by
  unfold excB at q
  split at q
  · rename_i dd cd sl ho
    split at q
    · rename_i C' bm k0 k1 k2 k3 n k5 hm hs
      simp only [Bool.and_eq_true, beq_iff_eq, Bool.not_eq_true'] at q
      obtain ⟨⟨⟨⟨rfl, rfl⟩, hdel⟩, hdc⟩, ht⟩ := q
      obtain ⟨nm, bs, mro, ns, qn, hd, sn, sub, ab, col, del⟩ := cd
      dsimp only at hm hdel hdc
      subst hm hdel hdc
      have hsl : sl = #[k0, k1, k2, k3, some (.builtin "ValueError.__new__"), k5] := by
        obtain ⟨l⟩ := sl
        simp only at hs
        rw [hs]
      subst hsl
      exact ⟨nm, qn, ns, bs, bm, sn, sub, ab, col, dd, k0, k1, k2, k3, k5, ho, ht⟩
    · cases q
  · cases q
def dO {α : Type} [DecidableEq α] (a b : α) : Bool := decide (a = b)
/-- an error class -/
def errB (K : PySem.W.Frag) (C fI : Addr) : Bool :=
  excB K C && (He.eqO (PySem.W.findIn K (.ref C) "__setattr__") (some (some (.builtin "object.__setattr__"))) && (dO (PySem.W.subIn K (.ref C) (.type "BaseException")) (some true) && (dO (PySem.W.typeIn K (.ref C)) (some (.type "type")) && (PySem.W.keepIn K (.ref C) &&
    (He.eqO (PySem.W.findIn K (.ref C) "value") (some none) && (He.eqO (PySem.W.findIn K (.ref C) "__init__") (some (some (.ref fI))) && (dO (PySem.W.typeIn K (.ref fI)) (some (.type "function")) && (He.eqO (PySem.W.findIn K (.ref C) "__getattribute__") (some (some (.builtin "BaseException.__getattribute__"))) &&
    (He.eqO (PySem.W.findIn K (.ref C) "__getattr__") (some none) && (PySem.W.hasDictIn K C && ((PySem.W.clsIn K C).isSome && (He.eqO (PySem.W.findIn K (.ref C) "__class__") (some (some (.builtin "object.__class__"))) && dO (PySem.W.mroIn K C (.type "object")) (some true)))))))))))))
structure ErrOk (K : PySem.W.Frag) (C fI : Addr) : Prop where
  t : ExcT K C fI
  k : ExcK K C
theorem errB_ok {K : PySem.W.Frag} {C fI : Addr} (q : errB K C fI = true) : ErrOk K C fI := by
  unfold errB at q
  simp only [Bool.and_eq_true] at q
  obtain ⟨q1, q2, q3, q4, q5, q6, q7, q8, q9, q10, q11, q12, q13, q14⟩ := q
  have g9 := He.eqO_ok q9
  have g10 := He.eqO_ok q10
  have g3 : PySem.W.subIn K (.ref C) (.type "BaseException") = some true := of_decide_eq_true q3
  exact ⟨⟨⟨excB_ok q1, He.eqO_ok q2, g3, of_decide_eq_true q4, q5⟩, He.eqO_ok q6, He.eqO_ok q7, of_decide_eq_true q8, g9, g10, q11⟩, ⟨q12, g9, g10, g3, q11, He.eqO_ok q6, He.eqO_ok q13, of_decide_eq_true q14⟩⟩
def allTy (n : Nat) : List Ty := [.list, .tuple, .int, .str, .bool, .dict, .valueError] ++ (List.range n).map Ty.cls
def kindsB (T : Tab) (K : PySem.W.Frag) : Bool :=
  ((List.range T.cs.length).all fun c => (allTy T.cs.length).all fun t => dO (PySem.W.kitOne K (.ref (T.ca K c)) (tyV (T.ca K) t)) (T.sub c t)) &&
  ((bNames.all fun n => (allTy T.cs.length).all fun t => dO (PySem.W.kitOne K (.type n) (tyV (T.ca K) t)) (btSub T.sub n t)) &&
  (List.range T.ne).all fun c => (List.range T.ne).all fun d => dO (PySem.W.exmOne K (.ref (T.ca K c)) (.ref (T.ca K d))) (T.sub c (.cls d)))
/-- a property of a class -/
def prB (T : Tab) (K : PySem.W.Frag) (C : Addr) (q : Str × Nat) : Bool :=
  He.eqO (PySem.W.findIn K (.ref C) q.1) (some (some (.ref (propAd K C q.1)))) && (He.eqO (PySem.W.specialIn K (.ref (propAd K C q.1)) "__get__") (some (some (.builtin "property.__get__"))) && (dO (PySem.W.takesIn K (.ref (propAd K C q.1))) (some true) && (decide (q.2 < T.rows.length) &&
    (match PySem.W.recIn K (propAd K C q.1) "property" with
      | some (.ref g :: _) => dO g (T.fa K q.2)
      | _ => false))))
/-- a plain class -/
def plB (T : Tab) (K : PySem.W.Frag) (x : Str) (p : PCl) : Bool :=
  (He.Fa.cls x).ok K && (He.eqO (PySem.W.findIn K (.ref (He.ga K x)) "__class__") (some (some (.builtin "object.__class__"))) && (dO (PySem.W.mroIn K (He.ga K x) (.type "object")) (some true) && ((He.Fa.mkr x).ok K && (dO (He.ma K (He.ga K x) "__init__") (T.fa K p.init) && (decide (p.init < T.rows.length) &&
  ((p.fl.all fun f => (He.Fa.noat x f).ok K) && ((p.ms.all fun q => (He.Fa.meth x q.1).ok K && (decide (q.2 < T.rows.length) && dO (He.ma K (He.ga K x) q.1) (T.fa K q.2))) && p.pr.all fun q => prB T K (He.ga K x) q)))))))
structure PlOk (T : Tab) (K : PySem.W.Frag) (C : Addr) (p : PCl) : Prop where
  cls : Cls K C
  ac : PySem.W.findIn K (.ref C) "__class__" = some (some (.builtin "object.__class__"))
  mo : PySem.W.mroIn K C (.type "object") = some true
  mkr : Mk K C (T.fa K p.init)
  ir : p.init < T.rows.length
  fl : ∀ f, p.fl.contains f = true → NoAttr K C f
  ms : ∀ x g, p.ms.lookup x = some g → Meth K C x (T.fa K g) ∧ g < T.rows.length
  pr : ∀ x g, p.pr.lookup x = some g → (∃ a, PropOf K C x a (T.fa K g)) ∧ g < T.rows.length
/-- the entries of a written dict, without their hashes -/
def ent1 (x : Str) (i : Int) : Value → Value → Bool
  | .str y _, .int j _ => decide (y = x) && decide (j = i)
  | _, _ => false
def entB : List DictEntry → List (Str × Int) → Bool
  | [], [] => true
  | e :: es, p :: l => ent1 p.1 p.2 e.key e.val && entB es l
  | _, _ => false
def dctB (K : PySem.W.Frag) (x : Str) (l : List (Str × Int)) : Bool := (He.Fa.glo x).ok K && (!(He.ga K x == sysModules) && (match K.lookup (He.ga K x) with
  | some ⟨.type c, none, .dict es _, sl⟩ => decide (c = "dict") && (sl.isEmpty && entB es.toList l)
  | _ => false))
/-- .. their hashes -/
def dctH (K : PySem.W.Frag) (x : Str) : List Int := match K.lookup (He.ga K x) with
  | some ⟨_, _, .dict es _, _⟩ => es.toList.map (·.hash)
  | _ => []
def hashV (w : World) (l : List (Str × Int)) : List Int := l.map fun p => PyData.keyHash w.params p.1
def tabB (T : Tab) (K : PySem.W.Frag) : Bool :=
  (T.rows.all fun r => match r.at_.2 with
    | none => (He.Fa.glo r.at_.1).ok K
    | some _ => true) &&
  ((T.cs.all fun x => (He.Fa.glo x).ok K) && ((T.bl.all fun x => (He.Fa.free x).ok K) && ((T.gS.all fun p => (He.Fa.str p.1 p.2).ok K) && ((T.gI.all fun p => (He.Fa.int p.1 p.2).ok K) &&
  (((List.range T.ne).all fun c => errB K (T.ca K c) (T.fi K)) && (dO T.cs.length (T.ne + T.pcs.length) && (kindsB T K &&
  (He.eqO (PySem.W.specialIn K (.builtin "object.__class__") "__get__") (some (some (.builtin "getset_descriptor.__get__"))) && (dO (PySem.W.takesIn K (.builtin "object.__class__")) (some true) &&
  (((idxOf T.pcs T.ne).all fun q => plB T K ((T.cs[q.2]?).getD Str.empty) q.1) && ((T.gD.all fun p => dctB K p.1 p.2) && ((T.rows.all fun r => codeAt K (r.ad K) r.qual && PySem.W.keepIn K (.ref (r.ad K))) && (codeAt K (T.fi K) T.iniq && PySem.W.keepIn K (.ref (T.fi K)))))))))))))))
/-- what the law's own text must show -/
structure DRow.Ok (g : GT) (r : DRow) : Prop where
  sc : FnScope r.N r.ps (defScope r.st)
  m : matSs ⟨r.N, defScope r.st, defScope r.st, g⟩ r.body (defBody r.st) = true
  b : ∀ (kV doc pm : Value) (an : Option Addr) (cdv ct : Value) (us : List Value), us.length = r.ps.length → bindArgs (PySem.W.fnOf r.name r.qual (defArgs r.st) (defBody r.st) (defScope r.st) .none kV doc pm an cdv ct) ⟨us, []⟩ = pure (r.ps.zip us)
structure Tab.Ok (T : Tab) : Prop where
  rows : ∀ r ∈ T.rows, r.Ok T.gt
  isc : FnScope (["self", "value"] : List Str) (["self", "value"] : List Str) (defScope T.ini)
  il : (defScope T.ini).names.lookup ("self" : Str) = some .local
  il2 : (defScope T.ini).names.lookup ("value" : Str) = some .local
  ib : ∃ q1 q2 q3 q4, defBody T.ini = [.Assign [.Attribute (.Name "self" q1) "value" q2] (.Name "value" q3) q4]
  ck : ∀ c n ks perm, (c, n, ks, perm) ∈ T.ckw → ∃ p r, T.pcs[c - T.ne]? = some p ∧ T.rows[p.init]? = some r ∧ ∀ (kV doc pm : Value) (an : Option Addr) (cdv ct : Value) (self : Value) (us ws : List Value), us.length = n → ws.length = ks.length →
    ∃ zs, perm.mapM (fun i => (us ++ ws)[i]?) = some zs ∧ bindArgs (PySem.W.fnOf r.name r.qual (defArgs r.st) (defBody r.st) (defScope r.st) .none kV doc pm an cdv ct) ⟨self :: us, ks.zip ws⟩ = pure (r.ps.zip (self :: zs))
  fk : ∀ f n ks perm, (f, n, ks, perm) ∈ T.fkw → ∃ r, T.rows[f]? = some r ∧ ∀ (kV doc pm : Value) (an : Option Addr) (cdv ct : Value) (us ws : List Value), us.length = n → ws.length = ks.length →
    ∃ zs, perm.mapM (fun i => (us ++ ws)[i]?) = some zs ∧ bindArgs (PySem.W.fnOf r.name r.qual (defArgs r.st) (defBody r.st) (defScope r.st) .none kV doc pm an cdv ct) ⟨us, ks.zip ws⟩ = pure (r.ps.zip zs)
  ibd : ∀ (kV doc pm : Value) (an : Option Addr) (cdv ct : Value) (a b : Value), bindArgs (PySem.W.fnOf "__init__" T.iniq (defArgs T.ini) (defBody T.ini) (defScope T.ini) .none kV doc pm an cdv ct) ⟨[a, b], []⟩ = pure ((["self", "value"] : List Str).zip [a, b])
  ibk : ∀ (kV doc pm : Value) (an : Option Addr) (cdv ct : Value) (a b : Value), bindArgs (PySem.W.fnOf "__init__" T.iniq (defArgs T.ini) (defBody T.ini) (defScope T.ini) .none kV doc pm an cdv ct) ⟨[a], [(("value" : Str), b)]⟩ = pure ((["self", "value"] : List Str).zip [a, b])
theorem idx_get {α : Type} : ∀ {l : List α} {i : Nat} {x : α} {j : Nat}, (x, j) ∈ idxOf l i → i ≤ j ∧ l[j - i]? = some x
  | [], _, _, _, h => by cases h
  | y :: l, i, x, j, h => by
    rcases List.mem_cons.mp h with h | h
    · cases h; simp
    · obtain ⟨a, b⟩ := idx_get h
      refine ⟨by omega, ?_⟩
      rw [show j - i = (j - (i + 1)) + 1 from by omega]
      simpa using b
theorem look_mem {α β : Type} [BEq α] [LawfulBEq α] : ∀ {l : List (α × β)} {x : α} {y : β}, l.lookup x = some y → (x, y) ∈ l
  | [], _, _, h => by cases h
  | (a, b) :: l, x, y, h => by
    rw [List.lookup_cons] at h
    split at h
    · rename_i he
      cases h
      rw [eq_of_beq he]
      exact List.mem_cons_self
    · exact List.mem_cons_of_mem _ (look_mem h)
section
variable {T : Tab} {K : PySem.W.Frag} {h : Heap} {mg : Str → Option Value} {P : Program} {w : World}
theorem tyIn (n : Nat) {t : Ty} (h : ∀ c, t = .cls c → c < n) : t ∈ allTy n := by
  unfold allTy
  cases t with
  | cls c => exact List.mem_append_right _ (List.mem_map.mpr ⟨c, List.mem_range.mpr (h c rfl), rfl⟩)
  | _ => exact List.mem_append_left _ (by simp)
theorem pl_ok {x : Str} {p : PCl} (q : plB T K x p = true) : PlOk T K (He.ga K x) p := by
  unfold plB at q
  simp only [Bool.and_eq_true] at q
  obtain ⟨q1, q2, q3, q4, q5, q55, q6, q7, q8⟩ := q
  refine ⟨He.cls_ok q1, He.eqO_ok q2, of_decide_eq_true q3, ?_, of_decide_eq_true q55, fun f hf => He.noat_ok (List.all_eq_true.mp q6 f (List.contains_iff_mem.mp hf)), fun x g h => ?_, fun x g h => ?_⟩
  · have z := He.mkr_ok q4
    rw [show He.ma K (He.ga K _) "__init__" = T.fa K p.init from of_decide_eq_true q5] at z
    exact z
  · have z := List.all_eq_true.mp q7 (x, g) (look_mem h)
    simp only [Bool.and_eq_true] at z
    have y := He.meth_ok z.1
    rw [show He.ma K (He.ga K _) x = T.fa K g from of_decide_eq_true z.2.2] at y
    exact ⟨y, of_decide_eq_true z.2.1⟩
  · have z := List.all_eq_true.mp q8 (x, g) (look_mem h)
    unfold prB at z
    simp only [Bool.and_eq_true] at z
    obtain ⟨z1, z2, z3, z5, z4⟩ := z
    refine ⟨⟨propAd K _ x, He.eqO_ok z1, He.eqO_ok z2, of_decide_eq_true z3, ?_⟩, of_decide_eq_true z5⟩
    split at z4
    · rename_i g' rest hr
      have e : g' = T.fa K g := of_decide_eq_true z4
      subst e
      exact ⟨rest, hr⟩
    · cases z4
theorem sub_lt {c : Nat} {t : Ty} {b : Bool} (e : T.sub c t = some b) : c < T.cs.length ∧ ∀ d, t = .cls d → d < T.cs.length := by
  unfold Tab.sub at e
  split at e <;> split at e <;> first | cases e | skip
  · rename_i d hc
    exact ⟨hc.1, fun d' z => by cases z; exact hc.2⟩
  · rename_i hc; exact ⟨hc, fun d' z => by cases z⟩
  · rename_i t' n1 n2 hc
    exact ⟨hc, fun d' z => absurd z (n1 d')⟩
theorem idx_mem {α : Type} : ∀ {l : List α} {i j : Nat} {x : α}, l[j]? = some x → (x, i + j) ∈ idxOf l i
  | [], _, _, _, h => by simp at h
  | y :: l, i, 0, x, h => by
    simp at h
    subst h
    exact List.mem_cons_self
  | y :: l, i, j + 1, x, h => by
    have z := idx_mem (i := i + 1) (show l[j]? = some x from by simpa using h)
    rw [show i + 1 + j = i + (j + 1) from by omega] at z
    exact List.mem_cons_of_mem _ z
/-- a plain class of the table -/
theorem pl_at (hl : T.cs.length = T.ne + T.pcs.length) (c11 : ((idxOf T.pcs T.ne).all fun q => plB T K ((T.cs[q.2]?).getD Str.empty) q.1) = true) {c : Nat} (hc : ¬ c < T.ne) (hc2 : c < T.cs.length) : ∃ p, T.pcs[c - T.ne]? = some p ∧ PlOk T K (T.ca K c) p := by
  have h1 : c - T.ne < T.pcs.length := by omega
  refine ⟨T.pcs[c - T.ne], List.getElem?_eq_getElem h1, ?_⟩
  have m := idx_mem (i := T.ne) (List.getElem?_eq_getElem h1)
  rw [show T.ne + (c - T.ne) = c from by omega] at m
  have z := List.all_eq_true.mp c11 _ m
  have e : T.ca K c = He.ga K ((T.cs[c]?).getD Str.empty) := by
    unfold Tab.ca
    rw [List.getElem?_eq_getElem hc2]
    rfl
  rw [e]
  exact pl_ok z
theorem kf_of (c : tabB T K = true) : KF K (T.ca K) T.sub := by
  unfold tabB at c
  simp only [Bool.and_eq_true] at c
  obtain ⟨c1, c2, c3, c4, c5, c6, c7, c8, c9, c10, c11, c12⟩ := c
  unfold kindsB at c8
  simp only [Bool.and_eq_true] at c8
  obtain ⟨k1, k2, k3⟩ := c8
  have hl : T.cs.length = T.ne + T.pcs.length := of_decide_eq_true c7
  have err : ∀ {c : Nat}, T.sub c .valueError = some true → c < T.ne := fun {c} e => by
    have l := (sub_lt e).1
    have e' : (if c < T.cs.length then some (decide (c < T.ne)) else none) = some true := e
    rw [if_pos l] at e'
    exact of_decide_eq_true (Option.some.inj e')
  refine ⟨He.eqO_ok c9, of_decide_eq_true c10, fun c e => ?_, fun c e => ?_, fun c t b e => ?_, fun c d b e1 e2 e => ?_, fun n hn t b e => ?_⟩
  · have l := (sub_lt e).1
    have e' : (if c < T.cs.length then some (decide (c < T.ne)) else none) = some false := e
    rw [if_pos l] at e'
    obtain ⟨p, _, o⟩ := pl_at hl c11 (of_decide_eq_false (Option.some.inj e')) l
    exact ⟨o.cls, o.ac, o.mo⟩
  · exact (errB_ok (List.all_eq_true.mp c6 c (List.mem_range.mpr (err e)))).k
  · obtain ⟨l1, l2⟩ := sub_lt e
    have z := List.all_eq_true.mp (List.all_eq_true.mp k1 c (List.mem_range.mpr l1)) t (tyIn _ l2)
    exact (of_decide_eq_true z).trans e
  · have z := List.all_eq_true.mp (List.all_eq_true.mp k3 c (List.mem_range.mpr (err e1))) d (List.mem_range.mpr (err e2))
    exact (of_decide_eq_true z).trans e
  · have hcl : ∀ d, t = .cls d → d < T.cs.length := by
      intro d z
      subst z
      have e' : (T.sub d .valueError).map (fun _ => false) = some b := e
      cases q : T.sub d .valueError with
      | none => rw [q] at e'; cases e'
      | some _ => exact (sub_lt q).1
    have z := List.all_eq_true.mp (List.all_eq_true.mp k2 n hn) t (tyIn _ hcl)
    exact (of_decide_eq_true z).trans e
/-- a written dict -/
theorem dct_ok {x : Str} {l : List (Str × Int)} (c : dctB K x l = true) (hh : dctH K x = hashV w l) : GDct K w (He.ga K x) l := by
  unfold dctB at c
  simp only [Bool.and_eq_true, Bool.not_eq_true'] at c
  obtain ⟨_, c2, c3⟩ := c
  unfold dctH at hh
  split at c3
  · rename_i cl es n sl ho
    rw [ho] at hh
    simp only [Bool.and_eq_true] at c3
    obtain ⟨d1, d2, d3⟩ := c3
    obtain rfl := of_decide_eq_true d1
    have hsl : sl = #[] := by simpa using d2
    subst hsl
    have key : ∀ (es : List DictEntry) (l : List (Str × Int)), entB es l = true → es.map (·.hash) = hashV w l → PySem.W.KeysLit w.params es ∧ (es.any (·.refKey)) = false ∧ ∀ z, (match l.lookup z with
        | some i => ∃ e t, es.find? (·.key.isStr z) = some e ∧ e.val = .int i t
        | none => es.find? (·.key.isStr z) = none) := by
      intro es
      induction es with
      | nil =>
        intro l h1 h2
        cases l with
        | nil => exact ⟨True.intro, rfl, fun z => rfl⟩
        | cons _ _ => cases h1
      | cons e es ih =>
        intro l h1 h2
        obtain ⟨hs, k, v⟩ := e
        cases l with
        | nil => cases h1
        | cons p l =>
          obtain ⟨x, i⟩ := p
          have h1 : (ent1 x i k v && entB es l) = true := h1
          rw [Bool.and_eq_true] at h1
          obtain ⟨a1, a2⟩ := h1
          unfold ent1 at a1
          split at a1
          · rename_i y t j t'
            rw [Bool.and_eq_true] at a1
            obtain rfl := of_decide_eq_true a1.1
            obtain rfl := of_decide_eq_true a1.2
            have h2 : hs :: es.map (·.hash) = PyData.keyHash w.params y :: hashV w l := h2
            obtain ⟨e1, e2⟩ := List.cons.inj h2
            obtain ⟨i1, i2, i3⟩ := ih l a2 e2
            refine ⟨⟨⟨y, t, rfl, e1⟩, i1⟩, ?_, fun z => ?_⟩
            · rw [List.any_cons, i2]; rfl
            · rw [List.lookup_cons, List.find?_cons]
              have hk : (Value.str y t).isStr z = (y == z) := rfl
              show (match (match z == y with | true => some j | false => l.lookup z) with
                | some i => _
                | none => _)
              by_cases hz : z = y
              · subst hz
                rw [beq_self_eq_true]
                simp only [hk, beq_self_eq_true]
                exact ⟨_, t', rfl, rfl⟩
              · have z1 : (z == y) = false := beq_eq_false_iff_ne.mpr hz
                have z2 : (y == z) = false := beq_eq_false_iff_ne.mpr fun q => hz q.symm
                rw [z1]
                simp only [hk, z2]
                exact i3 z
          · cases a1
    obtain ⟨k1, k2, k3⟩ := key es.toList l d3 hh
    refine ⟨es, n, ho, k1, by simpa using c2, fun z => ?_⟩
    have e0 : PySem.W.nsIn K (He.ga K x) z = (match es.toList.find? (·.key.isStr z) with
      | some e => some (some e.val)
      | none => if es.toList.any (·.refKey) then none else some none) := by
      unfold PySem.W.nsIn
      rw [ho]
      rfl
    have q := k3 z
    rw [e0]
    cases hl : l.lookup z with
    | none =>
      rw [hl] at q
      simp only at q
      rw [q]
      simp only [k2, Bool.false_eq_true, if_false]
      exact ⟨none, rfl, rfl⟩
    | some i =>
      rw [hl] at q
      obtain ⟨e, t, q1, q2⟩ := q
      rw [q1]
      exact ⟨some e.val, rfl, t, by rw [q2]⟩
  · cases c3
theorem fun_row (c : tabB T K = true) {r : DRow} (hr : r ∈ T.rows) (e : fnAt K (r.ad K) = fnVal r.name r.qual r.st) : ∃ fd, Fun K r.name r.qual r.st (r.ad K) fd := by
  unfold tabB at c
  simp only [Bool.and_eq_true] at c
  obtain ⟨c1, c2, c3, c4, c5, c6, c7, c8, c9, c10, c11, c12, c13, c14⟩ := c
  have z := List.all_eq_true.mp c13 r hr
  rw [Bool.and_eq_true] at z
  exact fun_at e z.1 z.2
theorem modT_of (X : K.In h) (G : h.Ns mainGlobals mg) (c : tabB T K = true) (ok : T.Ok) (hd : ∀ r ∈ T.rows, fnAt K (r.ad K) = fnVal r.name r.qual r.st)
    (hi : fnAt K (T.fi K) = fnVal "__init__" T.iniq T.ini) (hh : ∀ p ∈ T.gD, dctH K p.1 = hashV w p.2) : ModT (T.ca K) (T.fa K) P w K mg T.gt T.prog := by
  have kf := kf_of c
  have frow := fun r hr => fun_row c hr (hd r hr)
  unfold tabB at c
  simp only [Bool.and_eq_true] at c
  obtain ⟨c1, c2, c3, c4, c5, c6, c7, c8, c9, c10, c11, c12, c13, c14, c15⟩ := c
  have hl : T.cs.length = T.ne + T.pcs.length := of_decide_eq_true c7
  obtain ⟨fdi, Fi⟩ := fun_at hi c14 c15
  have dT : ∀ {f : Nat} {r : DRow}, T.rows[f]? = some r → ∃ fd, Fun K r.name r.qual r.st (T.fa K f) fd ∧ DefT K T.gt (T.fa K) f r.fn fd r.ps := fun {f r} q => by
    have hm := List.mem_of_getElem? q
    obtain ⟨fd, F⟩ := frow r hm
    have o := ok.rows r hm
    have hfa : T.fa K f = r.ad K := by unfold Tab.fa; rw [q]
    rw [hfa]
    refine ⟨fd, F, r.name, r.qual, r.st, r.N, by rw [hfa]; exact F, o.sc, o.m, rfl, rfl, o.sc.kind, ?_⟩
    obtain ⟨oc, od, kV, doc, pm, an, cdv, ct, osl, rfl, _, _⟩ := F.ex
    exact .all (o.b kV doc pm an cdv ct)
  have fnr : ∀ {f : Nat} {r : DRow}, T.rows[f]? = some r → T.prog.fn f = some r.fn := fun {f r} q => by
    show (T.rows[f]?).map DRow.fn = _
    rw [q]; rfl
  -- a plain class
  have cl_of : ∀ {c : Nat} {l : Cl}, T.cl c = some l → c < T.cs.length → ∀ {f : Str}, (l.fl.contains f = true ∨ (∃ g, l.pr.lookup f = some g) ∨ ∃ g, l.ms.lookup f = some g) → ∃ p, T.pcs[c - T.ne]? = some p ∧ PlOk T K (T.ca K c) p ∧ l = ⟨false, p.init, p.ms, p.fl, p.pr⟩ := by
    intro c l h hc f hf
    unfold Tab.cl at h
    split at h
    · cases h
      rcases hf with hf | ⟨g, hf⟩ | ⟨g, hf⟩ <;> cases hf
    · rename_i hn
      obtain ⟨p, hp, o⟩ := pl_at hl c11 hn hc
      rw [hp] at h
      cases h
      exact ⟨p, hp, o, rfl⟩
  have lt_of : ∀ {c : Nat} {l : Cl}, T.cl c = some l → c < T.cs.length := fun {c l} h => by
    unfold Tab.cl at h
    split at h
    · omega
    · cases hp : T.pcs[c - T.ne]? with
      | none => rw [hp] at h; cases h
      | some p =>
        have := (List.getElem?_eq_some_iff.mp hp).1
        omega
  have at_of : ∀ {c : Nat} {f : Str} {z : Option Nat}, T.prog.attr c f = some z → ∃ p, PlOk T K (T.ca K c) p ∧ (match z with
      | some g => p.pr.lookup f = some g
      | none => p.fl.contains f = true) := fun {c f z} h => by
    unfold Prog.attr at h
    cases hc : T.prog.cl c with
    | none => rw [hc] at h; cases h
    | some l =>
      rw [hc] at h
      have h : (match l.pr.lookup f with
        | some g => some (some g)
        | none => if l.fl.contains f then some none else none) = some z := h
      cases hp : l.pr.lookup f with
      | some g =>
        rw [hp] at h
        cases h
        obtain ⟨p, _, o, rfl⟩ := cl_of hc (lt_of hc) (f := f) (.inr (.inl ⟨g, hp⟩))
        exact ⟨p, o, hp⟩
      | none =>
        rw [hp] at h
        simp only at h
        split at h
        · rename_i hf
          cases h
          obtain ⟨p, _, o, rfl⟩ := cl_of hc (lt_of hc) (f := f) (.inl hf)
          exact ⟨p, o, hf⟩
        · cases h
  have ms_of : ∀ {c : Nat} {x : Str} {g : Nat}, T.prog.meth c x = some g → ∃ p, PlOk T K (T.ca K c) p ∧ p.ms.lookup x = some g := fun {c x g} h => by
    unfold Prog.meth at h
    cases hc : T.prog.cl c with
    | none => rw [hc] at h; cases h
    | some l =>
      rw [hc] at h
      obtain ⟨p, _, o, rfl⟩ := cl_of hc (lt_of hc) (f := x) (.inr (.inr ⟨g, h⟩))
      exact ⟨p, o, h⟩
  have fn_ex : ∀ {g : Nat} {a : Addr}, True → (∃ fn, T.prog.fn g = some fn) ∨ T.rows[g]? = none := fun {g a} _ => by
    cases q : T.rows[g]? with
    | none => exact .inr rfl
    | some r => exact .inl ⟨_, fnr q⟩
  refine ⟨kf, ⟨fun c f e => ?_, fun c f n e => ?_, fun c x n e => ?_⟩, fun f fn hf => ?_, fun x f hx => ?_, fun x c hx => ?_, fun x t hx => ?_, fun f n ks perm hx => ?_, fun c hc => ?_, fun x s hx => ?_, fun x i hx => ?_, fun x hx => ?_, fun c f n e => ?_, fun c x n e => ?_⟩
  · obtain ⟨p, o, q⟩ := at_of e
    exact ⟨o.cls, o.fl f q⟩
  · obtain ⟨p, o, q⟩ := at_of e
    exact ⟨o.cls, (o.pr f n q).1⟩
  · obtain ⟨p, o, q⟩ := ms_of e
    exact ⟨o.cls, (o.ms x n q).1⟩
  · have e : (T.rows[f]?).map DRow.fn = some fn := hf
    cases q : T.rows[f]? with
    | none => rw [q] at e; cases e
    | some r =>
      rw [q] at e
      cases e
      obtain ⟨fd, _, D⟩ := dT q
      exact ⟨fd, r.ps, D⟩
  · have hm' : (x, f) ∈ T.fns := look_mem hx
    unfold Tab.fns at hm'
    obtain ⟨⟨r, j⟩, hj, he⟩ := List.mem_filterMap.mp hm'
    obtain ⟨_, hr⟩ := idx_get hj
    simp only [Nat.sub_zero] at hr
    cases ha : r.at_.2 with
    | some _ => rw [show (match (r, j).1.at_.2 with | none => some ((r, j).1.at_.1, (r, j).2) | some _ => none) = none from by simp only [ha]] at he; cases he
    | none =>
      rw [show (match (r, j).1.at_.2 with | none => some ((r, j).1.at_.1, (r, j).2) | some _ => none) = some (r.at_.1, j) from by simp only [ha]] at he
      cases he
      have hrm := List.mem_of_getElem? hr
      have g := List.all_eq_true.mp c1 r hrm
      rw [ha] at g
      obtain ⟨fd, F, _⟩ := dT hr
      have hfa : T.fa K f = He.ga K r.at_.1 := by
        unfold Tab.fa
        rw [hr]
        show r.ad K = _
        unfold DRow.ad
        rw [ha]
      exact ⟨by rw [hfa]; exact He.glo_ok X G g, F.kp, r.fn, fnr hr⟩
  · have hm' : (x, c) ∈ idxOf T.cs 0 := look_mem hx
    obtain ⟨_, hr⟩ := idx_get hm'
    simp only [Nat.sub_zero] at hr
    have hxm := List.mem_of_getElem? hr
    have hca : T.ca K c = He.ga K x := by unfold Tab.ca; rw [hr]
    have hcl := (List.getElem?_eq_some_iff.mp hr).1
    have e1 : mg x = some (.ref (T.ca K c)) := by rw [hca]; exact He.glo_ok X G (List.all_eq_true.mp c2 x hxm)
    by_cases hn : c < T.ne
    · have g := (errB_ok (List.all_eq_true.mp c6 c (List.mem_range.mpr hn)))
      exact ⟨e1, g.t.oex.kC, .inl (List.contains_iff_mem.mpr (List.mem_range.mpr hn))⟩
    · obtain ⟨p, hp, o⟩ := pl_at hl c11 hn hcl
      have hne : T.gt.errs.contains c = false := by
        cases q : T.gt.errs.contains c with
        | false => rfl
        | true => exact absurd (List.mem_range.mp (List.contains_iff_mem.mp q)) hn
      have hcc : T.prog.cl c = some ⟨false, p.init, p.ms, p.fl, p.pr⟩ := by
        show T.cl c = _
        unfold Tab.cl
        rw [if_neg hn, hp]; rfl
      cases hr2 : T.rows[p.init]? with
      | none =>
        rw [List.getElem?_eq_getElem o.ir] at hr2
        cases hr2
      | some r =>
        obtain ⟨fd, F, D⟩ := dT hr2
        refine ⟨e1, o.mkr.kp, .inr ⟨hne, _, r.fn, fd, r.ps, hcc, rfl, fnr hr2, D, o.mkr, fun n ks perm hk s self us ws l1 l2 => ?_⟩⟩
        obtain ⟨p', r', hp', hr', hb⟩ := ok.ck c n ks perm hk
        rw [hp] at hp'
        cases hp'
        rw [hr2] at hr'
        cases hr'
        obtain ⟨oc, od, kV, doc, pm, an, cdv, ct, osl, rfl, _, _⟩ := F.ex
        obtain ⟨zs, z1, z2⟩ := hb kV doc pm an cdv ct self us ws l1 l2
        exact ⟨zs, z1, .of_eq z2⟩
  · have hm' : (x, t) ∈ idxOf (T.gD.map (·.1)) 0 := look_mem hx
    obtain ⟨_, hr⟩ := idx_get hm'
    simp only [Nat.sub_zero] at hr
    rw [List.getElem?_map] at hr
    cases q : T.gD[t]? with
    | none => rw [q] at hr; cases hr
    | some p =>
      rw [q] at hr
      cases hr
      have hm := List.mem_of_getElem? q
      have z := List.all_eq_true.mp c12 p hm
      have z2 := z
      unfold dctB at z2
      rw [Bool.and_eq_true] at z2
      exact ⟨He.ga K p.1, p.2, He.glo_ok X G z2.1, dct_ok z (hh p hm), by show (T.gD[t]?).map (·.2) = _; rw [q]; rfl⟩
  · obtain ⟨r, hr, hb⟩ := ok.fk f n ks perm hx
    obtain ⟨fd, F, D⟩ := dT hr
    refine ⟨r.fn, fd, r.ps, fnr hr, D, fun s us ws l1 l2 => ?_⟩
    obtain ⟨oc, od, kV, doc, pm, an, cdv, ct, osl, rfl, _, _⟩ := F.ex
    obtain ⟨zs, z1, z2⟩ := hb kV doc pm an cdv ct us ws l1 l2
    exact ⟨zs, z1, .of_eq z2⟩
  · have hn : c < T.ne := List.mem_range.mp (List.contains_iff_mem.mp hc)
    have g := (errB_ok (List.all_eq_true.mp c6 c (List.mem_range.mpr hn)))
    refine ⟨⟨⟨true, 0, [], [], []⟩, if_pos hn, rfl⟩, T.fi K, fdi, g.t, fun base => ok_excInit Fi ok.isc ok.il ok.il2 ok.ib, fun s a b _ => ?_, fun s a b _ => ?_⟩
    · obtain ⟨oc, od, kV, doc, pm, an, cdv, ct, osl, rfl, _, _⟩ := Fi.ex
      exact .of_eq (ok.ibd kV doc pm an cdv ct a b)
    · obtain ⟨oc, od, kV, doc, pm, an, cdv, ct, osl, rfl, _, _⟩ := Fi.ex
      exact .of_eq (ok.ibk kV doc pm an cdv ct a b)
  · obtain ⟨t, e⟩ := He.str_ok X G (List.all_eq_true.mp c4 (x, s) (look_mem hx))
    exact ⟨_, e, t, rfl⟩
  · obtain ⟨t, e⟩ := He.int_ok X G (List.all_eq_true.mp c5 (x, i) (look_mem hx))
    exact ⟨_, e, t, rfl⟩
  · exact He.free_ok X G (List.all_eq_true.mp c3 x (List.contains_iff_mem.mp hx))
  · obtain ⟨p, o, q⟩ := at_of e
    exact ⟨_, fnr (List.getElem?_eq_getElem (o.pr f n q).2)⟩
  · obtain ⟨p, o, q⟩ := ms_of e
    exact ⟨_, fnr (List.getElem?_eq_getElem (o.ms x n q).2)⟩
end
end K9
end
section
set_option Elab.async false
set_option linter.all false
set_option maxRecDepth 100000
set_option maxHeartbeats 0
/-! K9End: the head's hook, the law's end. -/
namespace K9
open PySem PySem.Spec PyProof.Rows L2

/-- no list stands in the written part -/
def noLst (K : PySem.W.Frag) : Bool := K.all fun p => !(match p.2.cls with | .type t => t == "list" | _ => false)
theorem noLst_ok {K : PySem.W.Frag} (h : noLst K = true) {a : Addr} {o : Obj} (e : K.lookup a = some o) : o.cls ≠ .type "list" := by
  have m := look_mem e
  have z := List.all_eq_true.mp h _ m
  intro q
  simp only [q] at z
  exact absurd z (by decide)
abbrev AlK : Type := Bool × (List He.FnV × List (List Int))
def Tab.fnO (T : Tab) (K : PySem.W.Frag) : List He.FnV := fnAt K (T.fi K) :: T.rows.map fun r => fnAt K (r.ad K)
def Tab.fnU (T : Tab) : List He.FnV := fnVal "__init__" T.iniq T.ini :: T.rows.map fun r => fnVal r.name r.qual r.st
def obsK (T : Tab) (K : PySem.W.Frag) : AlK := (tabB T K && noLst K, T.fnO K, T.gD.map fun p => dctH K p.1)
def valK (T : Tab) (w : World) : AlK := (true, T.fnU, T.gD.map fun p => hashV w p.2)
def hookK (n : Nat) (T : Tab) : PySem.W.Hook where
  α := AlK
  obs := fun s => obsK T (He.frG s.heap.get? (He.asD s.heap.get? n))
  val := fun w => valK T w
  says := fun w h => ∃ K : PySem.W.Frag, K.In h ∧ obsK T K = valK T w
  of := fun _ _ e => ⟨_, He.frG_in, e⟩
  keeps := fun _ _ _ ⟨K, hK, c⟩ k => ⟨K, PySem.W.Frag.In.keeps hK k, c⟩
def obT (n : Nat) (T : Tab) (s : PySem.W.SharedT) : AlK := obsK T (He.frG (HandSHeadRun.getT s) (He.asD (HandSHeadRun.getT s) n))
theorem obT_eq {n : Nat} {T : Tab} (s : PySem.W.SharedT) : obT n T s = (hookK n T).obs s.abs := by
  have e : HandSHeadRun.getT s = s.abs.heap.get? := funext (HandSHeadRun.getT_eq s)
  unfold obT
  rw [e]
  rfl
theorem map_eq_at {α β : Type} {f g : α → β} : ∀ {l : List α}, l.map f = l.map g → ∀ x ∈ l, f x = g x
  | [], _, _, h => by cases h
  | y :: l, e, x, h => by
    rw [List.map_cons, List.map_cons] at e
    obtain ⟨e1, e2⟩ := List.cons.inj e
    rcases List.mem_cons.mp h with rfl | h
    · exact e1
    · exact map_eq_at e2 x h
/-- what the hook says -/
theorem obs_of {T : Tab} {w : World} {K : PySem.W.Frag} (e : obsK T K = valK T w) : tabB T K = true ∧ noLst K = true ∧ fnAt K (T.fi K) = fnVal "__init__" T.iniq T.ini ∧ (∀ r ∈ T.rows, fnAt K (r.ad K) = fnVal r.name r.qual r.st) ∧ ∀ p ∈ T.gD, dctH K p.1 = hashV w p.2 := by
  have e1 : (tabB T K && noLst K) = true := congrArg (fun z : AlK => z.1) e
  have e2 : T.fnO K = T.fnU := congrArg (fun z : AlK => z.2.1) e
  have e3 : (T.gD.map fun p => dctH K p.1) = T.gD.map fun p => hashV w p.2 := congrArg (fun z : AlK => z.2.2) e
  rw [andB] at e1
  obtain ⟨i1, i2⟩ := List.cons.inj e2
  exact ⟨e1.1, e1.2, i1, map_eq_at i2, map_eq_at e3⟩
/-- the law answers True by the evaluator: it holds -/
theorem walkT {l : PySem.W.OpenLaw} {T : Tab} {m n f : Nat} {r : DRow} {q : Program} {loose : List Str} {XP : (Str → Option Value) → Heap → Prop} {d : DefRec} {wf : Nat}
    (ok : T.Ok) (hn : l.most = some 63) (hdf : d.params.defaults = []) (hdn : d.name = ("law" : Str)) (hrow : T.rows[f]? = some r) (hat : r.at_ = (("law" : Str), none)) (hps : r.ps = (["script"] : List Str)) (hr : Room (3 * n) callerA)
    (hlaw : ∀ ns : List Int, ns.length ≤ 63 → (∀ z ∈ ns, Builtin.Int.intBits z ≤ 1048576) → ∃ S, callT T.prog wf n f [.scr (ns.map .int)] [] = .ok (.bl true) S) :
    PySem.W.WalkO q loose XP (hookK m T).says l.row.toRowW d [] (fun f vs => PySem.call f vs) := by
  refine Att.attach_callB hn hdf (fun w s₀ s₁ mg mb fa o pm cd doc a vs ns G Y ho hd hcd hmg hobj hints hlen hbits hg => ?_)
  obtain ⟨K, KX, e⟩ := Y
  obtain ⟨c1, c2, c3, c4, c5⟩ := obs_of e
  have md : ModT (T.ca K) (T.fa K) l.prog w K mg T.gt T.prog := modT_of KX G.T.g c1 ok c4 c3 c5
  have hrm := List.mem_of_getElem? hrow
  obtain ⟨fd, F⟩ := fun_row c1 hrm (c4 r hrm)
  have hfa : T.fa K f = r.ad K := by unfold Tab.fa; rw [hrow]
  have o' := ok.rows r hrm
  have hglo : mg ("law" : Str) = some (.ref (T.fa K f)) := by
    unfold tabB at c1
    simp only [Bool.and_eq_true] at c1
    have g := List.all_eq_true.mp c1.1 r hrm
    rw [hat] at g
    rw [hfa]
    unfold DRow.ad
    rw [hat]
    exact He.glo_ok KX G.T.g g
  rw [hdn] at hmg
  have hfe : fa = T.fa K f := by
    rw [hglo] at hmg
    cases hmg; rfl
  subst hfe
  have hbd : ∀ (s : Shared) (us : List Value), us.length = r.ps.length → BindsTo s fd ⟨us, []⟩ (r.ps.zip us) := by
    obtain ⟨oc, od, kV, doc, pm, an, cdv, ct, osl, rfl, _, _⟩ := F.ex
    exact fun s us hl => .of_eq (o'.b kV doc pm an cdv ct us hl)
  have dT : DefT K T.gt (T.fa K) f r.fn fd r.ps := ⟨r.name, r.qual, r.st, r.N, by rw [hfa]; exact F, o'.sc, o'.m, rfl, rfl, o'.sc.kind, fun s us _ hl => by rw [List.append_nil] at hl ⊢; exact hbd s us hl⟩
  have hfn : T.prog.fn f = some r.fn := by
    show (T.rows[f]?).map DRow.fn = _
    rw [hrow]; rfl
  have hKn : K.lookup a = none := by
    cases q : K.lookup a with
    | none => rfl
    | some o =>
      have z := KX a o q
      rw [hobj] at z
      cases z
      exact absurd rfl (noLst_ok c2 q)
  refine lawG (fd := fd) (k := 3 * n) (sp := spF (T.ca K) (callT T.prog wf n f)) (x := "script") KX G.T.g G.T.b G.T.builtins G.T.nolimit hg hobj hints (Nat.le_trans hlen (by rw [sizeLine_eq]; omega)) hr (fun base KB GB => ?_) (fun s u => ?_) (fun H hO hS => ?_)
  · have F' := atN (base := base) (wf := wf) md n f r.fn fd r.ps hfn dT
    rw [hps] at F'
    exact F'
  · have b := hbd s [u] (by rw [hps]; rfl)
    rw [hps] at b
    exact b
  · obtain ⟨S', hS'⟩ := hlaw ns hlen hbits
    have ha : ∃ o, H a = some (.frz o (.lst (ns.map V.int))) := by
      rcases hS with (h1 | h1) | ⟨o1, its, n1, h1, _⟩
      · rcases hO a with z | ⟨ob, xs, z⟩
        · rw [z] at h1; cases h1
        · rw [z] at h1; cases h1
      · exact h1
      · rw [hKn] at h1; cases h1
    obtain ⟨ob, ha⟩ := ha
    have rin : ∀ (M : Mem) (l : List Int), RepL (T.ca K) M (l.map V.int) (l.map D.int) := by
      intro M l
      induction l with
      | nil => exact .nil
      | cons x l ih => exact .cons (.int x) ih
    refine ⟨⟨H, [], H, 0⟩, [], [.scr (ns.map .int)], ⟨fun _ _ h => h, rfl, List.nodup_nil, (fun b h => by cases h), fun n ob h => by simp at h, fun _ h => h⟩, .cons (.scr (M := ⟨H, [], H, 0⟩) ha (rin _ ns)) .nil, ?_⟩
    rw [hS']
    intro v M' H' _ _ ru
    cases (show Rep (T.ca K) M' v (.bl true) from ru)
    rfl
end K9
end
section
set_option Elab.async false
set_option linter.all false
set_option maxRecDepth 100000
set_option exponentiation.threshold 2000
/-! K9Ev: the evaluator step by step. -/
namespace K9
section
variable {α β : Type} {a : α} {S : Sto} {k : α → Sto → R β} {d : D} {kd : D → Sto → R β}
theorem bind_ok : (R.ok a S).bind k = k a S := rfl
theorem bindR_ok : (R.ok d S).bindR kd = kd (rd d) S := rfl
theorem oget_some {k : α → R β} : oget (some a) k = k a := rfl
theorem chk_pos {p : Prop} [Decidable p] {r : R α} (h : p) : chk p r = r := if_pos h
theorem ifD_b {b : Bool} {f g : R α} : ifD (.bl b) f g = if b = true then f else g := by cases b <;> rfl
theorem rd_int {i : Int} : rd (.int i) = .int i := rfl
theorem rd_bl {i : Bool} : rd (.bl i) = .bl i := rfl
theorem rd_str {i : PySem.Str} : rd (.str i) = .str i := rfl
theorem rd_non : rd .non = .non := rfl
theorem rd_tup {i : List D} : rd (.tup i) = .tup i := rfl
theorem rd_lst {i : List D} : rd (.lst i) = .lst i := rfl
theorem rd_ref {i : Nat} : rd (.ref i) = .ref i := rfl
theorem rd_scr {i : List D} : rd (.scr i) = .scr i := rfl
theorem rd_exc {c : Nat} {x : D} : rd (.exc c x) = .exc c x := rfl
theorem rd_own {x : D} : rd (.own x) = x := rfl
end
section
variable {C : Ctx} {env : Env} {S : Sto}
theorem ev_var {i : Nat} {d : D} (h : env[i]? = some (.fz d)) : ev C (.var i) env S = .ok d S := by simp only [ev, h]
theorem bi_len_scr {xs : List D} : biD .len [.scr xs] env S = .ok (.int xs.length) S := rfl
theorem bi_int {i : Int} : biD .int [.int i] env S = .ok (.int i) S := rfl
theorem bi_max {i j : Int} : biD .max [.int i, .int j] env S = .ok (.int (if j > i then j else i)) S := rfl
theorem bi_min {i j : Int} : biD .min [.int i, .int j] env S = .ok (.int (if j < i then j else i)) S := rfl
theorem bi_abs {i : Int} : biD .abs [.int i] env S = .ok (.int (if i < 0 then -i else i)) S := rfl
theorem bin_add {i j : Int} : binD .add (.int i) (.int j) env S = .ok (.int (i + j)) S := rfl
theorem bin_sub {i j : Int} : binD .sub (.int i) (.int j) env S = .ok (.int (i - j)) S := rfl
theorem bin_mul {i j : Int} (h : (-(2 ^ 64) < i ∧ i < 2 ^ 64) ∨ (-(2 ^ 64) < j ∧ j < 2 ^ 64)) : binD .mul (.int i) (.int j) env S = .ok (.int (i * j)) S := chk_pos h
theorem bin_mod {i j : Int} (h : 0 < j) : binD .mod (.int i) (.int j) env S = .ok (.int (i % j)) S := chk_pos h
theorem bin_fdiv {i j : Int} (h : 0 < j) (h2 : j.natAbs < 2 ^ 1000) : binD .fdiv (.int i) (.int j) env S = .ok (.int (i / j)) S := chk_pos ⟨h, h2⟩
theorem bin_pow {i j : Int} (h : 0 ≤ j) (h1 : j ≤ 1000) (h2 : i.natAbs < 2 ^ 1000) : binD .pow (.int i) (.int j) env S = .ok (.int (i ^ j.toNat)) S := chk_pos ⟨h, h1, h2⟩
theorem bin_powN {i : Int} {j : Nat} (h1 : j ≤ 1000) (h2 : i.natAbs < 2 ^ 1000) : binD .pow (.int i) (.int (j : Int)) env S = .ok (.int (i ^ j)) S := by
  rw [bin_pow (by omega) (by omega) h2, Int.toNat_natCast]
theorem ix_scr {xs : List D} {i : Int} {d : D} (h : L2.atI xs i = some d) : ixD (.scr xs) (.int i) env S = .ok d S := by
  unfold ixD
  simp only [h, oget]
theorem cmp_lt {i j : Int} : cmpD .lt (.int i) (.int j) env S = some (decide (i < j)) := rfl
theorem cmp_gt {i j : Int} : cmpD .gt (.int i) (.int j) env S = some (decide (j < i)) := rfl
theorem cmp_le {i j : Int} : cmpD .le (.int i) (.int j) env S = some (decide (i ≤ j)) := rfl
theorem cmp_eqI {i j : Int} : cmpD .eq (.int i) (.int j) env S = some (i == j) := rfl
end
section
variable {C : Ctx} {fn : Fn} {ds : List D} {S : Sto}
/-- how a def ends -/
def finF : Fl → Sto → R D
  | .rt d, S => .ok d S
  | .nx _, S => .ok .non S
  | .ct _, _ => .bad
theorem runFn_eq (h : ds.length = fn.ps) : runFn C fn ds S = (exSs C fn.body (startE fn ds) S).bind finF := by
  unfold runFn
  rw [chk_pos h]
  congr 1
  funext f S1
  cases f <;> rfl
theorem callT_eq {P : Prog} {wf n f : Nat} (h : P.fn f = some fn) : callT P wf (n + 1) f ds S = runFn (ctxT P wf n) fn ds S := by
  simp only [callT, h, oget]
  rfl
end
theorem atI_nat {α : Type} {xs : List α} {p : Nat} (h : p < xs.length) : L2.atI xs (p : Int) = xs[p]? := by
  unfold L2.atI L2.ixN
  rw [if_pos (by omega), if_pos (by omega)]
  simp
theorem mkL_ok {xs : List D} {S : Sto} (h : xs.length ≤ PySem.sizeLine) : mkL xs S = .ok (.own (.lst xs)) S := chk_pos h

/-! ### steps: each goal is  f = r,  r found as it goes -/
section
variable {C : Ctx} {env : Env} {S S1 S2 S3 : Sto} {r : R D} {x y z : D}
theorem ev_nonS : ev C .non env S = .ok .non S := by simp only [ev]
theorem ev_blS {b : Bool} : ev C (.bl b) env S = .ok (.bl b) S := by simp only [ev]
theorem ev_intS {i : Int} : ev C (.int i) env S = .ok (.int i) S := by simp only [ev]
theorem ev_strS {i : PySem.Str} : ev C (.str i) env S = .ok (.str i) S := by simp only [ev]
theorem ev_accS {i : Nat} {o : Ob} (h : env[i]? = some (.al o)) : ev C (.var i) env S = .ok (.acc i) S := by simp only [ev, h]
theorem ev_binS {op : Bop} {a b : Ex} (ha : ev C a env S = .ok x S1) (hb : ev C b env S1 = .ok y S2) (h : binD op (rd x) (rd y) env S2 = r) : ev C (.bin op a b) env S = r := by simp only [ev, ha, hb, bindR_ok, h]
theorem ev_negS {a : Ex} {i : Int} (ha : ev C a env S = .ok (.int i) S1) : ev C (.neg a) env S = .ok (.int (-i)) S1 := by simp only [ev, ha, bindR_ok, rd]
theorem ev_cmpS {op : Cop} {a b : Ex} {c : Bool} (ha : ev C a env S = .ok x S1) (hb : ev C b env S1 = .ok y S2) (h : cmpD op (rd x) (rd y) env S2 = some c) : ev C (.cmp op a b) env S = .ok (.bl c) S2 := by simp only [ev, ha, hb, bindR_ok, h, oget]
theorem ev_andT {a b : Ex} (ha : ev C a env S = .ok (.bl true) S1) (hb : ev C b env S1 = r) : ev C (.and a b) env S = r := by simp only [ev, ha, bindR_ok, rd, ifD, hb]
theorem ev_andF {a b : Ex} (ha : ev C a env S = .ok (.bl false) S1) : ev C (.and a b) env S = .ok (.bl false) S1 := by simp only [ev, ha, bindR_ok, rd, ifD]
theorem ev_orT {a b : Ex} (ha : ev C a env S = .ok (.bl true) S1) : ev C (.or a b) env S = .ok (.bl true) S1 := by simp only [ev, ha, bindR_ok, rd, ifD]
theorem ev_orF {a b : Ex} (ha : ev C a env S = .ok (.bl false) S1) (hb : ev C b env S1 = r) : ev C (.or a b) env S = r := by simp only [ev, ha, bindR_ok, rd, ifD, hb]
theorem ev_notS {a : Ex} {b : Bool} (ha : ev C a env S = .ok (.bl b) S1) : ev C (.not a) env S = .ok (.bl (!b)) S1 := by simp only [ev, ha, bindR_ok, rd]
theorem ev_iteS {c a b : Ex} {k : Bool} (hc : ev C c env S = .ok (.bl k) S1) (h : (if k = true then ev C a env S1 else ev C b env S1) = r) : ev C (.ite c a b) env S = r := by
  cases k <;> simp only [ev, hc, bindR_ok, rd, ifD] <;> exact h
theorem ev_tupS {es : Exs} {xs : List D} (h : evs C es env S = .ok xs S1) (hl : xs.length ≤ PySem.sizeLine) : ev C (.tup es) env S = .ok (.tup xs) S1 := by simp only [ev, h, bind_ok]; exact chk_pos hl
theorem ev_lstS {es : Exs} {xs : List D} (h : evs C es env S = .ok xs S1) (hl : xs.length ≤ PySem.sizeLine) : ev C (.lst es) env S = .ok (.own (.lst xs)) S1 := by simp only [ev, h, bind_ok]; exact chk_pos hl
theorem ev_dict0S : ev C .dict0 env S = .ok (.own (.dct [] [])) S := by simp only [ev]
theorem ev_callS {f : Nat} {es : Exs} {xs : List D} (h : evs C es env S = .ok xs S1) (hc : C.call f xs S1 = r) : ev C (.call f es) env S = r := by simp only [ev, h, bind_ok, hc]
theorem ev_makeS {c : Nat} {es : Exs} {xs : List D} (h : evs C es env S = .ok xs S1) (hc : C.make c xs S1 = r) : ev C (.make c es) env S = r := by simp only [ev, h, bind_ok, hc]
theorem ev_makekS {c : Nat} {es ks : Exs} {p : List Nat} {xs ys zs : List D} (h : evs C es env S = .ok xs S1) (h2 : evs C ks env S1 = .ok ys S2) (hp : permute (xs ++ ys) p = some zs) (hc : C.make c zs S2 = r) : ev C (.makek c es ks p) env S = r := by simp only [ev, h, h2, bind_ok, hp, oget, hc]
theorem ev_biS {b : Bi} {es : Exs} {xs : List D} (h : evl C es env S = .ok xs S1) (hb : biD b xs env S1 = r) : ev C (.bi b es) env S = r := by simp only [ev, h, bind_ok, hb]
theorem ev_isiS {a : Ex} {ts : List Ty} {t : TyD} {b : Bool} (ha : ev C a env S = .ok x S1) (ht : tyD C.sub env S1 (rd x) = some t) (hb : tyAny C.sub t ts = some b) : ev C (.isi a ts) env S = .ok (.bl b) S1 := by simp only [ev, ha, bindR_ok, ht, hb, oget]
theorem ev_mtS {m : Mt} {o : Ex} {es : Exs} {xs : List D} (ho : ev C o env S = .ok x S1) (ht : mtTy m env S1 (rd x) = true) (h : evl C es env S1 = .ok xs S2) (hm : mtD m (rd x) xs env S2 = r) : ev C (.mt m o es) env S = r := by simp only [ev, ho, bindR_ok, chk_pos ht, h, bind_ok, hm]
theorem ev_fldS {o : Ex} {f : PySem.Str} (ho : ev C o env S = .ok x S1) (h : fldD C f env (rd x) S1 = r) : ev C (.fld o f) env S = r := by simp only [ev, ho, bindR_ok, h]
theorem ev_ixS {a i : Ex} (ha : ev C a env S = .ok x S1) (hi : ev C i env S1 = .ok y S2) (h : ixD (rd x) (rd y) env S2 = r) : ev C (.ix a i) env S = r := by simp only [ev, ha, hi, bindR_ok, h]
theorem ev_revS {a : Ex} (ha : ev C a env S = .ok x S1) (h : revD (rd x) env S1 = r) : ev C (.rev a) env S = r := by simp only [ev, ha, bindR_ok, h]
theorem ev_refS {a : Ex} {o : Ob} (ha : ev C a env S = .ok (.own x) S1) (h : obOf x = some o) : ev C (.ref a) env S = .ok (.ref S1.length) (S1 ++ [o]) := by simp only [ev, ha, bind_ok, h, oget]
theorem ev_lcS {own tg : List Nat} {it : It} {c e : Ex} {p : Wk} {ys : List D} (hi : evIt C it env S = .ok p S1) (h : lcGo (ev C c) (ev C e) tg (wipeE env own) p.live p.xs [] S1 = .ok ys S2) (hl : ys.length ≤ PySem.sizeLine) : ev C (.lc own tg it c e) env S = .ok (.own (.lst ys)) S2 := by
  simp only [ev, hi, bind_ok, h, mkL, chk_pos hl, noEr]
theorem evs_nilS : evs C .nil env S = .ok [] S := by simp only [evs]
theorem evs_consS {e : Ex} {es : Exs} {xs : List D} (h : ev C e env S = .ok x S1) (ha : (rd x).isAcc = false) (hs : evs C es env S1 = .ok xs S2) : evs C (.cons false e es) env S = .ok (rd x :: xs) S2 := by simp only [evs, h, bindR_ok, ha, Bool.false_eq_true, if_false, hs, bind_ok]
theorem evl_nilS : evl C .nil env S = .ok [] S := by simp only [evl]
theorem evl_consS {e : Ex} {es : Exs} {xs : List D} (h : ev C e env S = .ok x S1) (hs : evl C es env S1 = .ok xs S2) : evl C (.cons false e es) env S = .ok (rd x :: xs) S2 := by simp only [evl, h, bindR_ok, Bool.false_eq_true, if_false, hs, bind_ok]
end
section
variable {C : Ctx} {env env1 : Env} {S S1 S2 S3 : Sto} {r : R Fl} {x y z : D}
theorem ss_nil' : exSs C .nil env S = .ok (.nx env) S := by simp only [exSs]
theorem ss_nx {s : Sm} {ss : Sms} (h : exS C s env S = .ok (.nx env1) S1) (h2 : exSs C ss env1 S1 = r) : exSs C (.cons s ss) env S = r := by simp only [exSs, h, bind_ok, h2]
theorem ss_rt {s : Sm} {ss : Sms} (h : exS C s env S = .ok (.rt x) S1) : exSs C (.cons s ss) env S = .ok (.rt x) S1 := by simp only [exSs, h, bind_ok]
theorem s_asgS {i : Nat} {e : Ex} (h : ev C e env S = .ok x S1) (ha : (rd x).isAcc = false) : exS C (.asg i e) env S = .ok (.nx (env.set i (.fz (rd x)))) S1 := by simp only [exS, h, bindR_ok, ha, Bool.false_eq_true, if_false]
theorem s_retS {e : Ex} (h : ev C e env S = .ok x S1) (ho : outD env x = some y) : exS C (.ret e) env S = .ok (.rt y) S1 := by simp only [exS, h, bind_ok, ho, oget]
theorem s_exprS {e : Ex} (h : ev C e env S = .ok x S1) : exS C (.expr e) env S = .ok (.nx env) S1 := by simp only [exS, h, bindR_ok]
theorem s_iteT {c : Ex} {a b : Sms} (hc : ev C c env S = .ok (.bl true) S1) (h : exSs C a env S1 = r) : exS C (.ite c a b) env S = r := by simp only [exS, hc, bindR_ok, rd, ifD, h]
theorem s_iteF {c : Ex} {a b : Sms} (hc : ev C c env S = .ok (.bl false) S1) (h : exSs C b env S1 = r) : exS C (.ite c a b) env S = r := by simp only [exS, hc, bindR_ok, rd, ifD, h]
theorem s_setixS {o i e : Ex} {ob ob' : Ob} {p : Env × Sto} (he : ev C e env S = .ok x S1) (ha : (rd x).isAcc = false) (ho : ev C o env S1 = .ok y S2) (hi : ev C i env S2 = .ok z S3) (h1 : cont env S3 (rd y) = some ob) (h2 : setD ob (rd z) (rd x) = some ob') (h3 : putOb (rd y) ob' env S3 = some p) :
    exS C (.setix o i e) env S = .ok (.nx p.1) p.2 := by simp only [exS, he, ho, hi, bindR_ok, ha, Bool.false_eq_true, if_false, h1, h2, h3, oget]
theorem s_mutS {m : Mt} {o : Ex} {es : Exs} {xs : List D} {ob ob' : Ob} {p : Env × Sto} (ho : ev C o env S = .ok y S1) (ht : mtTy m env S1 (rd y) = true) (hs : evl C es env S1 = .ok xs S2) (ha : xs.any D.isAcc = false) (h1 : cont env S2 (rd y) = some ob) (h2 : mutD m ob xs env S2 = some ob') (h3 : putOb (rd y) ob' env S2 = some p) :
    exS C (.mut m o es) env S = .ok (.nx p.1) p.2 := by simp only [exS, ho, hs, bindR_ok, bind_ok, chk_pos ht, ha, Bool.false_eq_true, if_false, h1, h2, h3, oget]
theorem s_forS {tg : List Nat} {it : It} {b : Sms} {p : Wk} (hi : evIt C it env S = .ok p S1) (ha : p.acc = false) (h : forGo (exSs C b) tg p.live p.xs env S1 = r) : exS C (.for_ tg it b) env S = r := by simp only [exS, hi, bind_ok, ha, Bool.false_eq_true, if_false, h]
end

/-! ### numbers -/
section
variable {C : Ctx} {env : Env} {S S1 S2 : Sto} {a b : Ex} {i j : Int}
theorem ev_addI (ha : ev C a env S = .ok (.int i) S1) (hb : ev C b env S1 = .ok (.int j) S2) : ev C (.bin .add a b) env S = .ok (.int (i + j)) S2 := ev_binS ha hb bin_add
theorem ev_subI (ha : ev C a env S = .ok (.int i) S1) (hb : ev C b env S1 = .ok (.int j) S2) : ev C (.bin .sub a b) env S = .ok (.int (i - j)) S2 := ev_binS ha hb bin_sub
theorem ev_mulI (ha : ev C a env S = .ok (.int i) S1) (hb : ev C b env S1 = .ok (.int j) S2) (h : (-(2 ^ 64) < i ∧ i < 2 ^ 64) ∨ (-(2 ^ 64) < j ∧ j < 2 ^ 64)) : ev C (.bin .mul a b) env S = .ok (.int (i * j)) S2 := ev_binS ha hb (bin_mul h)
theorem ev_modI (ha : ev C a env S = .ok (.int i) S1) (hb : ev C b env S1 = .ok (.int j) S2) (h : 0 < j) : ev C (.bin .mod a b) env S = .ok (.int (i % j)) S2 := ev_binS ha hb (bin_mod h)
theorem ev_fdivI (ha : ev C a env S = .ok (.int i) S1) (hb : ev C b env S1 = .ok (.int j) S2) (h : 0 < j) (h2 : j.natAbs < 2 ^ 1000) : ev C (.bin .fdiv a b) env S = .ok (.int (i / j)) S2 := ev_binS ha hb (bin_fdiv h h2)
theorem ev_powI {j : Int} (ha : ev C a env S = .ok (.int i) S1) (hb : ev C b env S1 = .ok (.int j) S2) (h0 : 0 ≤ j) (h : j ≤ 1000) (h2 : i.natAbs < 2 ^ 1000) : ev C (.bin .pow a b) env S = .ok (.int (i ^ j.toNat)) S2 := ev_binS ha hb (bin_pow h0 h h2)
theorem ev_powL {n : Nat} (ha : ev C a env S = .ok (.int i) S1) (h : n ≤ 1000) (h2 : i.natAbs < 2 ^ 1000) : ev C (.bin .pow a (.int (@OfNat.ofNat Int n (@instOfNat n)))) env S = .ok (.int (i ^ n)) S1 := ev_binS ha ev_intS (bin_powN (j := n) h h2)
theorem ev_ltI (ha : ev C a env S = .ok (.int i) S1) (hb : ev C b env S1 = .ok (.int j) S2) : ev C (.cmp .lt a b) env S = .ok (.bl (decide (i < j))) S2 := ev_cmpS ha hb cmp_lt
theorem ev_gtI (ha : ev C a env S = .ok (.int i) S1) (hb : ev C b env S1 = .ok (.int j) S2) : ev C (.cmp .gt a b) env S = .ok (.bl (decide (j < i))) S2 := ev_cmpS ha hb cmp_gt
theorem ev_leI (ha : ev C a env S = .ok (.int i) S1) (hb : ev C b env S1 = .ok (.int j) S2) : ev C (.cmp .le a b) env S = .ok (.bl (decide (i ≤ j))) S2 := ev_cmpS ha hb cmp_le
theorem ev_eqI (ha : ev C a env S = .ok (.int i) S1) (hb : ev C b env S1 = .ok (.int j) S2) : ev C (.cmp .eq a b) env S = .ok (.bl (i == j)) S2 := ev_cmpS ha hb cmp_eqI
theorem ev_intI (ha : ev C a env S = .ok (.int i) S1) : ev C (.bi .int (.cons false a .nil)) env S = .ok (.int i) S1 := ev_biS (evl_consS ha evl_nilS) bi_int
theorem ev_absI (ha : ev C a env S = .ok (.int i) S1) : ev C (.bi .abs (.cons false a .nil)) env S = .ok (.int (if i < 0 then -i else i)) S1 := ev_biS (evl_consS ha evl_nilS) bi_abs
theorem ev_maxI (ha : ev C a env S = .ok (.int i) S1) (hb : ev C b env S1 = .ok (.int j) S2) : ev C (.bi .max (.cons false a (.cons false b .nil))) env S = .ok (.int (if j > i then j else i)) S2 := ev_biS (evl_consS ha (evl_consS hb evl_nilS)) bi_max
theorem ev_minI (ha : ev C a env S = .ok (.int i) S1) (hb : ev C b env S1 = .ok (.int j) S2) : ev C (.bi .min (.cons false a (.cons false b .nil))) env S = .ok (.int (if j < i then j else i)) S2 := ev_biS (evl_consS ha (evl_consS hb evl_nilS)) bi_min
theorem ev_lenScr {xs : List D} (ha : ev C a env S = .ok (.scr xs) S1) : ev C (.bi .len (.cons false a .nil)) env S = .ok (.int xs.length) S1 := ev_biS (evl_consS ha evl_nilS) bi_len_scr
/-- items, already held -/
theorem evs_consI {es : Exs} {x y : D} {xs : List D} (h : ev C a env S = .ok x S1) (hy : rd x = y) (ha : y.isAcc = false) (hs : evs C es env S1 = .ok xs S2) : evs C (.cons false a es) env S = .ok (y :: xs) S2 := by
  subst hy; exact evs_consS h ha hs
end

/-! ### lists of the store -/
section
variable {C : Ctx} {env : Env} {S S1 S2 S3 : Sto} {a b e : Ex} {p : Nat} {xs : List D} {k : Int} {d x y : D}
theorem ev_ixRef (ha : ev C a env S = .ok (.ref p) S1) (hi : ev C b env S1 = .ok (.int k) S2) (hS : S2[p]? = some (.lst xs)) (h : L2.atI xs k = some d) : ev C (.ix a b) env S = .ok d S2 := by
  refine ev_ixS ha hi ?_
  show ixD (.ref p) (.int k) env S2 = _
  unfold ixD
  have e : seqOf env S2 (.ref p) = some xs := by
    show (match S2[p]? with | some (.lst xs) => some xs | _ => none) = _
    rw [hS]
  simp only [e, h, oget]
theorem s_setixRef {j : Nat} (he : ev C e env S = .ok x S1) (hx : rd x = y) (hy : y.isAcc = false) (ho : ev C a env S1 = .ok (.ref p) S2) (hi : ev C b env S2 = .ok (.int k) S3) (hS : S3[p]? = some (.lst xs)) (hk : L2.ixN xs.length k = some j) :
    exS C (.setix a b e) env S = .ok (.nx env) (S3.set p (.lst (xs.set j y))) := by
  subst hx
  refine s_setixS (ob' := .lst (xs.set j (rd x))) (p := (env, S3.set p (.lst (xs.set j (rd x))))) he hy ho hi (show S3[p]? = _ from hS) ?_ ?_
  · show (L2.ixN xs.length k).map _ = _
    rw [hk]; rfl
  · show (if p < S3.length then some (env, S3.set p _) else none) = _
    rw [if_pos (List.getElem?_eq_some_iff.mp hS).1]
end
theorem get_set {S : Sto} {p : Nat} {o o' : Ob} (h : S[p]? = some o) : (S.set p o')[p]? = some o' := List.getElem?_set_self (List.getElem?_eq_some_iff.mp h).1
end K9
end
section
set_option Elab.async false
set_option linter.all false
set_option maxRecDepth 100000
/-! K9Ev2: loops of the evaluator by an invariant. -/
namespace K9
/-- a comprehension without a condition over fixed items -/
theorem lc_inv {C : Ctx} {elt : Ex} {i : Nat} {env : Env} (I : List D → Sto → Prop) (B : Nat) (hB : B ≤ PySem.sizeLine) : ∀ (xs ys : List D) (S : Sto), I ys S → (∀ x ∈ xs, x.isAcc = false) →
    (∀ x ∈ xs, ∀ ys S, I ys S → ys.length < B → ∃ y S', ev C elt (env.set i (.fz x)) S = .ok y S' ∧ (rd y).isAcc = false ∧ I (ys ++ [rd y]) S') → ys.length + xs.length ≤ B →
    ∃ ys' S', lcGo (ev C (.bl true)) (ev C elt) [i] env [] xs ys S = .ok ys' S' ∧ I ys' S' ∧ ys'.length = ys.length + xs.length
  | [], ys, S, h, _, _, _ => ⟨ys, S, rfl, h, rfl⟩
  | x :: xs, ys, S, h, ha, hs, hl => by
    rw [List.length_cons] at hl
    obtain ⟨y, S1, e1, e2, e3⟩ := hs x List.mem_cons_self ys S h (by omega)
    obtain ⟨ys', S', f1, f2, f3⟩ := lc_inv I B hB xs (ys ++ [rd y]) S1 e3 (fun x hx => ha x (List.mem_cons_of_mem _ hx)) (fun x hx => hs x (List.mem_cons_of_mem _ hx)) (by rw [List.length_append, List.length_singleton]; omega)
    refine ⟨ys', S', ?_, f2, by rw [f3, List.length_append, List.length_singleton, List.length_cons]; omega⟩
    show oget (asgT [i] x env) (fun e => (ev C (.bl true) e S).bindR fun b S1 => ifD b ((ev C elt e S1).bindR fun y S2 => if y.isAcc then .bad else chk (ys.length < PySem.sizeLine) (lcGo _ _ [i] env [] xs (ys ++ [y]) S2)) (lcGo _ _ [i] env [] xs ys S1)) = _
    have q : asgT [i] x env = some (env.set i (.fz x)) := by
      show (if x.isAcc then none else some _) = _
      rw [ha x List.mem_cons_self]; rfl
    rw [q, oget_some, ev_blS, bindR_ok, rd_bl, show ∀ (f g : R (List D)), ifD (.bl true) f g = f from fun _ _ => rfl, e1, bindR_ok, e2]
    show chk (ys.length < PySem.sizeLine) _ = _
    rw [chk_pos (by omega), f1]
theorem upTo_int {a : Int} {n : Nat} {x : D} (h : x ∈ upTo a n) : ∃ k : Nat, k < n ∧ x = .int (a + k) := by
  unfold upTo at h
  obtain ⟨k, hk, rfl⟩ := List.mem_map.mp h
  exact ⟨k, List.mem_range.mp hk, rfl⟩
theorem upTo_len {a : Int} {n : Nat} : (upTo a n).length = n := by simp [upTo]
theorem evIt_rng1 {C : Ctx} {env : Env} {S S1 : Sto} {e : Ex} {n : Int} (h : ev C e env S = .ok (.int n) S1) (hn : rngOk n) : evIt C (.rng1 e) env S = .ok ⟨upTo 0 n.toNat, [], false⟩ S1 := by
  simp only [evIt, h, bindR_ok, rd]
  exact chk_pos hn
/-- a loop over fixed items by an invariant; it may end in a return -/
theorem for_inv {C : Ctx} {b : Sms} {i : Nat} (I : Env → Sto → Prop) (Q : D → Sto → Prop) : ∀ (xs : List D) (env : Env) (S : Sto), I env S → (∀ x ∈ xs, x.isAcc = false) →
    (∀ x ∈ xs, ∀ env S, I env S → (∃ env' S', exSs C b (env.set i (.fz x)) S = .ok (.nx env') S' ∧ I env' S') ∨ (∃ d S', exSs C b (env.set i (.fz x)) S = .ok (.rt d) S' ∧ Q d S')) →
    (∃ env' S', forGo (exSs C b) [i] [] xs env S = .ok (.nx env') S' ∧ I env' S') ∨ (∃ d S', forGo (exSs C b) [i] [] xs env S = .ok (.rt d) S' ∧ Q d S')
  | [], env, S, h, _, _ => .inl ⟨env, S, rfl, h⟩
  | x :: xs, env, S, h, ha, hs => by
    have q : asgT [i] x env = some (env.set i (.fz x)) := by
      show (if x.isAcc then none else some _) = _
      rw [ha x List.mem_cons_self]; rfl
    have e0 : forGo (exSs C b) [i] [] (x :: xs) env S = (exSs C b (env.set i (.fz x)) S).bind fun f S1 => match f with
      | .nx e1 => forGo (exSs C b) [i] [] xs e1 S1
      | .ct e1 => forGo (exSs C b) [i] [] xs e1 S1
      | .rt d => .ok (.rt d) S1 := by
      show oget (asgT [i] x env) _ = _
      rw [q]; rfl
    rw [e0]
    rcases hs x List.mem_cons_self env S h with ⟨env', S1, e1, e2⟩ | ⟨d, S1, e1, e2⟩
    · rw [e1]
      exact for_inv I Q xs env' S1 e2 (fun x hx => ha x (List.mem_cons_of_mem _ hx)) fun x hx => hs x (List.mem_cons_of_mem _ hx)
    · rw [e1]
      exact .inr ⟨d, S1, rfl, e2⟩
/-- .. that never returns -/
theorem for_nx {C : Ctx} {b : Sms} {i : Nat} (I : Env → Sto → Prop) (xs : List D) (env : Env) (S : Sto) (h : I env S) (ha : ∀ x ∈ xs, x.isAcc = false)
    (hs : ∀ x ∈ xs, ∀ env S, I env S → ∃ env' S', exSs C b (env.set i (.fz x)) S = .ok (.nx env') S' ∧ I env' S') :
    ∃ env' S', forGo (exSs C b) [i] [] xs env S = .ok (.nx env') S' ∧ I env' S' := by
  rcases for_inv I (fun _ _ => False) xs env S h ha (fun x hx env S h => .inl (hs x hx env S h)) with h | ⟨_, _, _, h⟩
  · exact h
  · cases h
end K9
end
section
set_option Elab.async false
set_option linter.all false
set_option maxRecDepth 1000000
set_option maxHeartbeats 0
namespace Lk03
open PySem PySem.Spec PyProof.Rows K9
def tp (i : Nat) : Stmt := PySem.Challenge.pw_keysthrough_k03_books_that_are_none.main.body.getD i (.Pass ⟨0, 0, 0, 0⟩)
def tm (i j : Nat) : Stmt := match tp i with
  | .ClassDef _ _ _ b _ _ _ _ _ _ _ => b.getD j (.Pass ⟨0, 0, 0, 0⟩)
  | _ => .Pass ⟨0, 0, 0, 0⟩
def b_0 : Sms := (.cons (.ret (.and (.cmp2 .lt .le (.int 0) (.bi .len (.cons false (.var 0) .nil)) (.int (8))) (.bi .all (.cons false (.lc [1] [1] (.seq (.var 0)) (.bl true) (.cmp .isin (.var 1) (.str "abcdefghijklmnopqrstuvwxyz"))) .nil)))) .nil)
def r_0 : DRow := ⟨("is_name", none), "is_name", "is_name", tp 18, ["text"], ["text", "sign"], b_0, false⟩
def b_1 : Sms := (.cons (.ite (.isi (.var 0) [.list]) (.cons (.ret (.ref (.lc [1] [1] (.seq (.var 0)) (.bl true) (.call 1 (.cons false (.var 1) .nil))))) .nil) .nil) (.cons (.ret (.ite (.isi (.var 0) [.tuple]) (.bi .tuple (.cons false (.lc [1] [1] (.seq (.var 0)) (.bl true) (.call 1 (.cons false (.var 1) .nil))) .nil)) (.var 0))) .nil))
def r_1 : DRow := ⟨("fresh", none), "fresh", "fresh", tp 19, ["thing"], ["thing", "part"], b_1, false⟩
def b_2 : Sms := (.cons (.acc 1 (.lst .nil)) (.cons (.for_ [2] (.seq (.var 0)) (.cons (.ite (.not (.call 0 (.cons false (.var 2) .nil))) (.cons (.raise 1 (.var 2)) .nil) .nil) (.cons (.ite (.cmp .isin (.var 2) (.var 1)) (.cons (.raise 2 (.var 2)) .nil) .nil) (.cons (.mut .append (.var 1) (.cons false (.var 2) .nil)) .nil)))) (.cons (.ret (.bi .tuple (.cons false (.var 1) .nil))) .nil)))
def r_2 : DRow := ⟨("checked_columns", none), "checked_columns", "checked_columns", tp 20, ["columns"], ["columns", "found", "column"], b_2, false⟩
def b_3 : Sms := (.cons (.ite (.or (.cmp .eq (.var 1) (.tup .nil)) (.cmp .ne (.gget 0 (.ix (.var 1) (.int 0))) (.bi .len (.cons false (.var 1) .nil)))) (.cons (.raise 5 (.call 1 (.cons false (.var 1) .nil))) .nil) .nil) (.cons (.ite (.cmp .nin (.ix (.var 1) (.int 1)) (.var 0)) (.cons (.raise 3 (.ix (.var 1) (.int 1))) .nil) .nil) (.cons (.for_ [2] (.seq (.lst (.cons true (.ix (.var 1) (.int 2)) (.cons true (.sl (.var 1) (.int 3) .non) .nil)))) (.cons (.ite (.cmp .nin (.var 2) (.ix (.var 0) (.ix (.var 1) (.int 1)))) (.cons (.raise 4 (.var 2)) .nil) .nil) .nil)) .nil)))
def r_3 : DRow := ⟨("check_rule", none), "check_rule", "check_rule", tp 21, ["columns_of", "rule"], ["columns_of", "rule", "column"], b_3, false⟩
def b_4 : Sms := (.cons (.asg 2 (.ite (.cmp .lt (.var 1) (.bi .len (.cons false (.var 0) .nil))) (.ix (.var 0) (.var 1)) (.int 0))) (.cons (.ret (.lst (.cons false (.bi .max (.cons false (.int 0) (.cons false (.bin .sub (.bi .abs (.cons false (.var 2) .nil)) (.bin .pow (.int 10) (.int 18))) .nil))) (.cons false (.bin .mod (.bi .int (.cons false (.bin .add (.bin .add (.bin .mul (.var 2) (.int 30011)) (.bin .mul (.var 1) (.int 7368787))) (.int 104729)) .nil)) (.bin .add (.bin .pow (.int 10) (.int 24)) (.int 7))) (.cons false (.int 0) .nil))))) .nil))
def r_4 : DRow := ⟨("_law_purse", none), "_law_purse", "_law_purse", tp 24, ["script", "place"], ["script", "place", "cell"], b_4, false⟩
def b_5 : Sms := (.cons (.ite (.cmp .gt (.ix (.var 0) (.int 0)) (.int 0)) (.cons (.asg 3 (.bin .mod (.bi .int (.cons false (.ix (.var 0) (.int 0)) .nil)) (.var 1))) (.cons (.setix (.var 0) (.int 0) (.bin .fdiv (.ix (.var 0) (.int 0)) (.var 1))) (.cons (.ret (.var 3)) .nil))) .nil) (.cons (.setix (.var 0) (.int 2) (.bin .add (.ix (.var 0) (.int 2)) (.int 1))) (.cons (.asg 2 (.bin .mod (.bin .pow (.bi .int (.cons false (.bin .add (.ix (.var 0) (.int 1)) (.bin .mul (.int 2038074743) (.ix (.var 0) (.int 2)))) .nil)) (.int 3)) (.bin .add (.bin .pow (.int 10) (.int 25)) (.int 13)))) (.cons (.asg 2 (.bin .mod (.bin .pow (.bi .int (.cons false (.bin .add (.var 2) (.bin .mul (.int 982451653) (.ix (.var 0) (.int 2)))) .nil)) (.int 2)) (.bin .add (.bin .pow (.int 10) (.int 24)) (.int 7)))) (.cons (.ret (.bin .mod (.bi .int (.cons false (.bin .fdiv (.var 2) (.int 1024)) .nil)) (.var 1))) .nil)))))
def r_5 : DRow := ⟨("_law_coin", none), "_law_coin", "_law_coin", tp 25, ["purse", "many"], ["purse", "many", "stirred", "drawn"], b_5, false⟩
def b_6 : Sms := (.cons (.unp [5, 6] (.tup (.cons false (.str "abcdefghijklmnopqrstuvwxyz") (.cons false (.call 5 (.cons false (.var 0) (.cons false (.int 3) .nil))) .nil)))) (.cons (.asg 2 (.lst (.cons false (.str "all") (.cons false (.str "as") (.cons false (.str "key") (.cons false (.str "id") (.cons false (.str "town") (.cons false (.str "table") (.cons false (.str "is") (.cons false (.str "same") (.cons false (.str "missing") (.cons false (.str "settles") (.cons false (.str "pair") (.cons false (.str "left") (.cons false (.str "a") (.cons false (.str "b") .nil)))))))))))))))) (.cons (.asg 3 (.mt .join (.str "") (.cons false (.lc [8] [8] (.rng1 (.int 8)) (.bl true) (.ix (.var 5) (.call 5 (.cons false (.var 0) (.cons false (.int 26) .nil))))) .nil))) (.cons (.ite (.and (.cmp .eq (.var 6) (.int 0)) (.cmp .lt (.var 1) (.int 15))) (.cons (.asg 4 (.call 5 (.cons false (.var 0) (.cons false (.int 14) .nil)))) (.cons (.ret (.lc [7] [7] (.rng1 (.var 1)) (.bl true) (.ix (.var 2) (.bin .mod (.bi .int (.cons false (.bin .add (.var 4) (.bin .mul (.int 3) (.var 7))) .nil)) (.int 14))))) .nil)) .nil) (.cons (.ite (.and (.cmp .eq (.var 6) (.int 1)) (.cmp .lt (.var 1) (.int 9))) (.cons (.ret (.lc [7] [7] (.rng1 (.var 1)) (.bl true) (.sl (.var 3) .non (.bin .add (.var 7) (.int 1))))) .nil) .nil) (.cons (.asg 4 (.call 5 (.cons false (.var 0) (.cons false (.int 26) .nil)))) (.cons (.ret (.lc [7] [7] (.rng1 (.var 1)) (.bl true) (.bin .add (.ix (.var 5) (.bin .mod (.bi .int (.cons false (.bin .add (.var 4) (.var 7)) .nil)) (.int 26))) (.sl (.var 3) .non (.bin .fdiv (.var 7) (.int 26)))))) .nil)))))))
def r_6 : DRow := ⟨("_law_words", none), "_law_words", "_law_words", tp 26, ["purse", "many"], ["purse", "many", "menu", "stem", "start", "letters", "way", "rank", "turn"], b_6, false⟩
def b_7 : Sms := (.cons (.acc 3 (.lst .nil)) (.cons (.for_ [4] (.seq (.call 6 (.cons false (.var 0) (.cons false (.bin .add (.int 1) (.call 5 (.cons false (.var 0) (.cons false (.var 1) .nil)))) .nil)))) (.cons (.mut .append (.var 3) (.cons false (.tup (.cons false (.var 4) (.cons false (.call 6 (.cons false (.var 0) (.cons false (.bin .add (.int 1) (.call 5 (.cons false (.var 0) (.cons false (.var 2) .nil)))) .nil))) .nil))) .nil)) .nil)) (.cons (.ret (.var 3)) .nil)))
def r_7 : DRow := ⟨("_law_drawn_tables", none), "_law_drawn_tables", "_law_drawn_tables", tp 27, ["purse", "most_tables", "most_columns"], ["purse", "most_tables", "most_columns", "found", "title"], b_7, false⟩
def b_8 : Sms := (.cons (.acc 3 (.lst .nil)) (.cons (.for_ [4] (.rng1 (.call 5 (.cons false (.var 0) (.cons false (.bin .add (.var 2) (.int 1)) .nil)))) (.cons (.unp [6, 7] (.ix (.var 1) (.call 5 (.cons false (.var 0) (.cons false (.bi .len (.cons false (.var 1) .nil)) .nil))))) (.cons (.asg 5 (.lc [8] [8] (.seq (.var 7)) (.cmp .eq (.call 5 (.cons false (.var 0) (.cons false (.int 2) .nil))) (.int 0)) (.var 8))) (.cons (.ite (.cmp .eq (.call 5 (.cons false (.var 0) (.cons false (.int 2) .nil))) (.int 0)) (.cons (.mut .append (.var 3) (.cons false (.tup (.cons false (.str "key") (.cons false (.var 6) (.cons false (.var 5) .nil)))) .nil)) .nil) (.cons (.asg 8 (.ix (.var 7) (.call 5 (.cons false (.var 0) (.cons false (.bi .len (.cons false (.var 7) .nil)) .nil))))) (.cons (.mut .append (.var 3) (.cons false (.tup (.cons false (.str "settles") (.cons false (.var 6) (.cons false (.var 5) (.cons false (.var 8) .nil))))) .nil)) .nil))) .nil)))) (.cons (.ret (.var 3)) .nil)))
def r_8 : DRow := ⟨("_law_drawn_rules", none), "_law_drawn_rules", "_law_drawn_rules", tp 28, ["purse", "tables_here", "most"], ["purse", "tables_here", "most", "found", "turn", "some", "title", "known", "column"], b_8, false⟩
def b_9 : Sms := (.cons (.ite (.isi (.var 0) [.list]) (.cons (.ret (.ref (.lc [1] [1] (.seq (.var 0)) (.bl true) (.call 9 (.cons false (.var 1) .nil))))) .nil) .nil) (.cons (.ret (.ite (.isi (.var 0) [.tuple]) (.bi .tuple (.cons false (.lc [1] [1] (.seq (.var 0)) (.bl true) (.call 9 (.cons false (.var 1) .nil))) .nil)) (.var 0))) .nil))
def r_9 : DRow := ⟨("_law_copied", none), "_law_copied", "_law_copied", tp 29, ["thing"], ["thing", "part"], b_9, false⟩
def b_10 : Sms := (.cons (.ite (.isi (.var 0) [.list, .tuple]) (.cons (.for_ [1] (.seq (.bi .list (.cons false (.var 0) .nil))) (.cons (.expr (.call 10 (.cons false (.var 1) .nil))) .nil)) .nil) .nil) (.cons (.ite (.isi (.var 0) [.list]) (.cons (.mut .append (.var 0) (.cons false (.str "muddled") .nil)) (.cons (.mut .reverse (.var 0) .nil) .nil)) .nil) .nil))
def r_10 : DRow := ⟨("_law_muddle", none), "_law_muddle", "_law_muddle", tp 30, ["thing"], ["thing", "part"], b_10, false⟩
def b_11 : Sms := (.cons (.ite (.cmp .ne (.bi .repr (.cons false (.var 0) .nil)) (.bi .repr (.cons false (.var 1) .nil))) (.cons (.ret (.bl false)) .nil) .nil) (.cons (.asg 2 (.call 9 (.cons false (.var 1) .nil))) (.cons (.expr (.call 10 (.cons false (.var 0) .nil))) (.cons (.expr (.call 10 (.cons false (.var 2) .nil))) (.cons (.ret (.cmp .eq (.bi .repr (.cons false (.var 0) .nil)) (.bi .repr (.cons false (.var 2) .nil)))) .nil)))))
def r_11 : DRow := ⟨("_law_own", none), "_law_own", "_law_own", tp 31, ["told", "due"], ["told", "due", "mirror"], b_11, false⟩
def b_12 : Sms := (.cons (.asg 1 (.lst (.cons false (.str "BrokenRule") (.cons false (.str "DoubleName") (.cons false (.str "InvalidName") (.cons false (.str "InvalidQuestion") (.cons false (.str "InvalidRow") (.cons false (.str "InvalidRule") (.cons false (.str "NoSuchRow") .nil))))))))) (.cons (.asg 1 (.bin .add (.var 1) (.lst (.cons false (.str "NothingToUndo") (.cons false (.str "UnknownColumn") (.cons false (.str "UnknownTable") (.cons false (.str "Unreadable") .nil))))))) (.cons (.asg 2 (.lst (.cons false (.isi (.var 0) [.cls 8]) (.cons false (.isi (.var 0) [.cls 2]) (.cons false (.isi (.var 0) [.cls 1]) .nil))))) (.cons (.asg 2 (.bin .add (.var 2) (.lst (.cons false (.isi (.var 0) [.cls 7]) (.cons false (.isi (.var 0) [.cls 6]) .nil))))) (.cons (.asg 2 (.bin .add (.var 2) (.lst (.cons false (.isi (.var 0) [.cls 5]) (.cons false (.isi (.var 0) [.cls 9]) (.cons false (.isi (.var 0) [.cls 10]) .nil)))))) (.cons (.asg 2 (.bin .add (.var 2) (.lst (.cons false (.isi (.var 0) [.cls 4]) (.cons false (.isi (.var 0) [.cls 3]) (.cons false (.isi (.var 0) [.cls 11]) .nil)))))) (.cons (.ret (.lc [3, 4] [3, 4] (.zip (.var 1) (.var 2)) (.var 4) (.var 3))) .nil)))))))
def r_12 : DRow := ⟨("_law_kinds", none), "_law_kinds", "_law_kinds", tp 32, ["caught"], ["caught", "words", "told", "word", "is_so"], b_12, false⟩
def b_13 : Sms := (.cons (.ite (.or (.cmp .is (.var 1) .non) (.cmp .is (.var 0) .non)) (.cons (.ret (.and (.cmp .is (.var 1) .non) (.cmp .is (.var 0) .non))) .nil) .nil) (.cons (.ite (.or (.not (.isi (.var 0) [.valueError])) (.cmp .ne (.call 12 (.cons false (.var 0) .nil)) (.lst (.cons false (.ix (.var 1) (.int 0)) .nil)))) (.cons (.ret (.bl false)) .nil) .nil) (.cons (.ret (.call 11 (.cons false (.fld (.var 0) "value") (.cons false (.ix (.var 1) (.int 1)) .nil)))) .nil)))
def r_13 : DRow := ⟨("_law_error_right", none), "_law_error_right", "_law_error_right", tp 33, ["caught", "due"], ["caught", "due"], b_13, false⟩
def b_14 : Sms := (.cons (.asg 1 (.str "abcdefghijklmnopqrstuvwxyz")) (.cons (.ret (.and (.cmp2 .lt .lt (.int 0) (.bi .len (.cons false (.var 0) .nil)) (.int 9)) (.cmp .eq (.lc [2] [2] (.seq (.var 0)) (.cmp .nin (.var 2) (.var 1)) (.var 2)) (.lst .nil)))) .nil))
def r_14 : DRow := ⟨("_law_is_title", none), "_law_is_title", "_law_is_title", tp 34, ["wording"], ["wording", "letters", "sign"], b_14, false⟩
def b_15 : Sms := (.cons (.asg 2 (.lst (.cons false (.str "") (.cons false (.str " ") (.cons false (.str "A") (.cons false (.str "a b") (.cons false (.str "a1") (.cons false (.str "a.b") (.cons false (.str "_") (.cons false (.str "{") (.cons false (.str "~a") (.cons false (.str "a-") (.cons false (.str "`a") (.cons false (.str "abcdefghi") (.cons false (.str "key") (.cons false (.mt .upper (.var 1) .nil) .nil)))))))))))))))) (.cons (.asg 2 (.bin .add (.var 2) (.lst (.cons false (.bin .add (.var 1) (.str "abcdefgh")) (.cons false (.bin .add (.bin .add (.sl (.var 1) .non (.int 4)) (.str " ")) (.sl (.var 1) (.int 4) .non)) (.cons false (.bin .add (.str " ") (.var 1)) (.cons false (.bin .add (.var 1) (.str " ")) (.cons false (.sl (.var 1) .non (.neg (.int 1))) (.cons false (.bin .add (.var 1) (.str "q")) .nil))))))))) (.cons (.asg 2 (.bin .add (.var 2) (.lst (.cons false (.bin .add (.bin .add (.sl (.var 1) .non (.int 3)) (.str "Q")) (.sl (.var 1) (.int 4) .non)) (.cons false (.bin .add (.sl (.var 1) .non (.neg (.int 1))) (.str "9")) (.cons false (.bin .add (.var 1) (.var 1)) .nil)))))) (.cons (.ret (.ix (.var 2) (.call 5 (.cons false (.var 0) (.cons false (.bi .len (.cons false (.var 2) .nil)) .nil))))) .nil))))
def r_15 : DRow := ⟨("_law_bad_title", none), "_law_bad_title", "_law_bad_title", tp 35, ["purse", "word"], ["purse", "word", "menu"], b_15, false⟩
def b_16 : Sms := (.cons (.par [2, 3] (.cons false (.call 9 (.cons false (.var 1) .nil)) (.cons false (.call 5 (.cons false (.var 0) (.cons false (.int 6) .nil))) .nil))) (.cons (.par [4, 5] (.cons false (.call 5 (.cons false (.var 0) (.cons false (.bi .len (.cons false (.var 2) .nil)) .nil))) (.cons false (.call 5 (.cons false (.var 0) (.cons false (.bi .len (.cons false (.var 2) .nil)) .nil))) .nil))) (.cons (.unp [6, 7] (.ix (.var 2) (.var 4))) (.cons (.par [8, 9] (.cons false (.call 5 (.cons false (.var 0) (.cons false (.bi .len (.cons false (.var 7) .nil)) .nil))) (.cons false (.call 5 (.cons false (.var 0) (.cons false (.bi .len (.cons false (.var 7) .nil)) .nil))) .nil))) (.cons (.ite (.cmp .eq (.var 3) (.int 0)) (.cons (.setix (.var 2) (.var 4) (.tup (.cons false (.call 15 (.cons false (.var 0) (.cons false (.var 6) .nil))) (.cons false (.var 7) .nil)))) .nil) (.cons (.ite (.cmp .eq (.var 3) (.int 1)) (.cons (.setix (.var 2) (.var 4) (.tup (.cons false (.var 6) (.cons false (.bin .add (.bin .add (.sl (.var 7) .non (.var 8)) (.lst (.cons false (.call 15 (.cons false (.var 0) (.cons false (.ix (.var 7) (.var 8)) .nil))) .nil))) (.sl (.var 7) (.bin .add (.var 8) (.int 1)) .non)) .nil)))) .nil) (.cons (.ite (.cmp .eq (.var 3) (.int 2)) (.cons (.setix (.var 2) (.var 4) (.tup (.cons false (.ix (.ix (.var 2) (.var 5)) (.int 0)) (.cons false (.var 7) .nil)))) .nil) (.cons (.ite (.cmp .eq (.var 3) (.int 3)) (.cons (.setix (.var 2) (.var 4) (.tup (.cons false (.var 6) (.cons false (.bin .add (.bin .add (.sl (.var 7) .non (.var 8)) (.lst (.cons false (.ix (.var 7) (.var 9)) .nil))) (.sl (.var 7) (.var 8) .non)) .nil)))) .nil) .nil) .nil)) .nil)) .nil)) (.cons (.ret (.var 2)) .nil))))))
def r_16 : DRow := ⟨("_law_bent_tables", none), "_law_bent_tables", "_law_bent_tables", tp 36, ["purse", "tables_here"], ["purse", "tables_here", "found", "way", "spot", "again", "title", "known", "place", "twin"], b_16, false⟩
def b_17 : Sms := (.cons (.unp [5, 6] (.ix (.var 1) (.call 5 (.cons false (.var 0) (.cons false (.bi .len (.cons false (.var 1) .nil)) .nil))))) (.cons (.asg 2 (.call 5 (.cons false (.var 0) (.cons false (.bin .add (.bi .len (.cons false (.var 6) .nil)) (.int 1)) .nil)))) (.cons (.par [7, 8] (.cons false (.call 5 (.cons false (.var 0) (.cons false (.bin .add (.var 2) (.int 1)) .nil))) (.cons false (.call 15 (.cons false (.var 0) (.cons false (.ix (.var 6) (.call 5 (.cons false (.var 0) (.cons false (.bi .len (.cons false (.var 6) .nil)) .nil)))) .nil))) .nil))) (.cons (.par [9, 10] (.cons false (.bi .list (.cons false (.sl (.var 6) .non (.var 2)) .nil)) (.cons false (.ix (.var 6) (.call 5 (.cons false (.var 0) (.cons false (.bi .len (.cons false (.var 6) .nil)) .nil)))) .nil))) (.cons (.asg 3 (.bin .add (.bin .add (.sl (.var 9) .non (.var 7)) (.lst (.cons false (.var 8) .nil))) (.sl (.var 9) (.var 7) .non))) (.cons (.asg 4 (.lst (.cons false (.tup (.cons false (.str "key") (.cons false (.var 5) (.cons false (.var 9) (.cons false (.var 10) .nil))))) (.cons false (.tup (.cons false (.str "settles") (.cons false (.var 5) (.cons false (.var 9) .nil)))) (.cons false (.tup (.cons false (.str "key") (.cons false (.var 5) .nil))) (.cons false (.tup (.cons false (.str "settles") (.cons false (.var 5) (.cons false (.var 9) (.cons false (.var 10) (.cons false (.var 10) .nil)))))) .nil)))))) (.cons (.asg 4 (.bin .add (.var 4) (.lst (.cons false (.tup (.cons false (.str "key") .nil)) (.cons false (.tup (.cons false (.str "settles") .nil)) (.cons false (.tup (.cons false (.str "key") (.cons false (.var 8) (.cons false (.var 9) .nil)))) (.cons false (.tup (.cons false (.str "key") (.cons false (.var 8) (.cons false (.var 3) .nil)))) (.cons false (.tup (.cons false (.str "settles") (.cons false (.var 8) (.cons false (.var 9) (.cons false (.var 8) .nil))))) .nil)))))))) (.cons (.asg 4 (.bin .add (.var 4) (.lst (.cons false (.tup (.cons false (.str "key") (.cons false (.var 5) (.cons false (.var 3) .nil)))) (.cons false (.tup (.cons false (.str "settles") (.cons false (.var 5) (.cons false (.var 3) (.cons false (.var 10) .nil))))) (.cons false (.tup (.cons false (.str "settles") (.cons false (.var 5) (.cons false (.var 9) (.cons false (.var 8) .nil))))) .nil)))))) (.cons (.asg 4 (.bin .add (.var 4) (.lst (.cons false (.tup (.cons false (.str "settles") (.cons false (.var 5) (.cons false (.var 3) (.cons false (.call 15 (.cons false (.var 0) (.cons false (.var 10) .nil))) .nil))))) (.cons false (.tup (.cons false (.str "key") (.cons false (.var 5) (.cons false (.var 9) .nil)))) .nil))))) (.cons (.asg 4 (.bin .add (.var 4) (.lst (.cons false (.tup (.cons false (.str "settles") (.cons false (.var 5) (.cons false (.var 9) (.cons false (.var 10) .nil))))) (.cons false (.tup (.cons false (.str "keys") (.cons false (.var 5) (.cons false (.var 9) .nil)))) (.cons false (.tup (.cons false (.str "Key") (.cons false (.var 5) (.cons false (.var 9) .nil)))) (.cons false (.tup (.cons false (.str "") (.cons false (.var 5) (.cons false (.var 9) .nil)))) .nil))))))) (.cons (.asg 4 (.bin .add (.var 4) (.lst (.cons false (.tup (.cons false (.str "settle") (.cons false (.var 8) (.cons false (.var 3) (.cons false (.var 10) .nil))))) (.cons false (.tup (.cons false (.var 5) (.cons false (.var 5) (.cons false (.var 9) .nil)))) (.cons false (.tup (.cons false (.str "settles ") (.cons false (.var 5) (.cons false (.var 9) (.cons false (.var 10) .nil))))) (.cons false (.tup .nil) .nil))))))) (.cons (.ret (.ix (.var 4) (.call 5 (.cons false (.var 0) (.cons false (.bi .len (.cons false (.var 4) .nil)) .nil))))) .nil))))))))))))
def r_17 : DRow := ⟨("_law_bent_rule", none), "_law_bent_rule", "_law_bent_rule", tp 37, ["purse", "tables_here"], ["purse", "tables_here", "many", "bent", "menu", "title", "known", "spot", "stray", "some", "end"], b_17, false⟩
def b_18 : Sms := (.cons (.asg 3 (.call 5 (.cons false (.var 0) (.cons false (.bin .add (.bi .len (.cons false (.var 2) .nil)) (.int 1)) .nil)))) (.cons (.asg 4 (.call 9 (.cons false (.var 2) .nil))) (.cons (.ret (.bin .add (.bin .add (.sl (.var 4) .non (.var 3)) (.lst (.cons false (.call 17 (.cons false (.var 0) (.cons false (.var 1) .nil))) .nil))) (.sl (.var 4) (.var 3) .non))) .nil)))
def r_18 : DRow := ⟨("_law_bent_rules", none), "_law_bent_rules", "_law_bent_rules", tp 38, ["purse", "tables_here", "rules_here"], ["purse", "tables_here", "rules_here", "spot", "found"], b_18, false⟩
def b_19 : Sms := (.cons (.for_ [2] (.seq (.var 1)) (.cons (.ite (.or (.cmp .nin (.sl (.var 2) .non (.int 1)) (.tup (.cons false (.tup (.cons false (.str "key") .nil)) (.cons false (.tup (.cons false (.str "settles") .nil)) .nil)))) (.cmp .ne (.bi .len (.cons false (.var 2) .nil)) (.ite (.cmp .eq (.ix (.var 2) (.int 0)) (.str "key")) (.int 3) (.int 4)))) (.cons (.ret (.tup (.cons false (.str "InvalidRule") (.cons false (.var 2) .nil)))) .nil) .nil) (.cons (.ite (.cmp .nin (.ix (.var 2) (.int 1)) (.var 0)) (.cons (.ret (.tup (.cons false (.str "UnknownTable") (.cons false (.ix (.var 2) (.int 1)) .nil)))) .nil) .nil) (.cons (.asg 3 (.lc [4] [4] (.seq (.bin .add (.ix (.var 2) (.int 2)) (.bi .list (.cons false (.sl (.var 2) (.int 3) .non) .nil)))) (.cmp .nin (.var 4) (.ix (.var 0) (.ix (.var 2) (.int 1)))) (.var 4))) (.cons (.ite (.cmp .ne (.var 3) (.lst .nil)) (.cons (.ret (.tup (.cons false (.str "UnknownColumn") (.cons false (.ix (.var 3) (.int 0)) .nil)))) .nil) .nil) .nil))))) (.cons (.ret .non) .nil))
def r_19 : DRow := ⟨("_law_wrong_rule", none), "_law_wrong_rule", "_law_wrong_rule", tp 39, ["titles", "rules_here"], ["titles", "rules_here", "rule", "strays", "place"], b_19, false⟩
def b_20 : Sms := (.cons (.asg 2 (.ref .dict0)) (.cons (.for_ [3, 4] (.seq (.var 0)) (.cons (.ite (.not (.call 14 (.cons false (.var 3) .nil))) (.cons (.ret (.tup (.cons false (.str "InvalidName") (.cons false (.var 3) .nil)))) .nil) .nil) (.cons (.ite (.cmp .isin (.var 3) (.var 2)) (.cons (.ret (.tup (.cons false (.str "DoubleName") (.cons false (.var 3) .nil)))) .nil) .nil) (.cons (.for_ [5, 6] (.enum (.var 4)) (.cons (.ite (.not (.call 14 (.cons false (.var 6) .nil))) (.cons (.ret (.tup (.cons false (.str "InvalidName") (.cons false (.var 6) .nil)))) .nil) .nil) (.cons (.ite (.cmp .isin (.var 6) (.sl (.var 4) .non (.var 5))) (.cons (.ret (.tup (.cons false (.str "DoubleName") (.cons false (.var 6) .nil)))) .nil) .nil) .nil))) (.cons (.setix (.var 2) (.var 3) (.var 4)) .nil))))) (.cons (.ret (.call 19 (.cons false (.var 2) (.cons false (.var 1) .nil)))) .nil)))
def r_20 : DRow := ⟨("_law_wrong_book", none), "_law_wrong_book", "_law_wrong_book", tp 40, ["tables_here", "rules_here"], ["tables_here", "rules_here", "titles", "title", "known", "spot", "place"], b_20, false⟩
def b_21 : Sms := (.cons (.unp [3, 4] (.tup (.cons false .non (.cons false .non .nil)))) (.cons (.tryE 3 (.ite (.cmp .eq (.var 2) (.int 0)) (.make 12 (.cons false (.var 0) (.cons false (.var 1) .nil))) (.makek 12 .nil (.cons false (.var 1) (.cons false (.var 0) .nil)) [1, 0])) 0 5 4) (.cons (.ret (.tup (.cons false (.var 3) (.cons false (.var 4) .nil)))) .nil)))
def r_21 : DRow := ⟨("_law_caught_of", none), "_law_caught_of", "_law_caught_of", tp 41, ["tables_here", "rules_here", "way"], ["tables_here", "rules_here", "way", "made", "caught", "e"], b_21, false⟩
def b_22 : Sms := (.cons (.asg 1 (.cmp .gt (.call 5 (.cons false (.var 0) (.cons false (.int 3) .nil))) (.int 0))) (.cons (.asg 2 (.call 7 (.cons false (.var 0) (.cons false (.ite (.var 1) (.int 3) (.int 6)) (.cons false (.ite (.var 1) (.int 3) (.int 6)) .nil))))) (.cons (.par [6, 7] (.cons false (.var 2) (.cons false (.call 8 (.cons false (.var 0) (.cons false (.var 2) (.cons false (.ite (.var 1) (.int 4) (.int 17)) .nil)))) .nil))) (.cons (.for_ [3] (.rng1 (.call 5 (.cons false (.var 0) (.cons false (.int 3) .nil)))) (.cons (.asg 6 (.call 16 (.cons false (.var 0) (.cons false (.var 6) .nil)))) .nil)) (.cons (.for_ [3] (.rng1 (.call 5 (.cons false (.var 0) (.cons false (.int 3) .nil)))) (.cons (.asg 7 (.call 18 (.cons false (.var 0) (.cons false (.var 2) (.cons false (.var 7) .nil))))) .nil)) (.cons (.asg 4 (.call 20 (.cons false (.var 6) (.cons false (.var 7) .nil)))) (.cons (.asg 5 (.tup (.cons false (.call 9 (.cons false (.var 6) .nil)) (.cons false (.call 9 (.cons false (.var 7) .nil)) .nil)))) (.cons (.for_ [3] (.rng1 (.int 3)) (.cons (.unp [8, 9] (.call 21 (.cons false (.ix (.var 5) (.int 0)) (.cons false (.ix (.var 5) (.int 1)) (.cons false (.call 5 (.cons false (.var 0) (.cons false (.int 2) .nil))) .nil))))) (.cons (.ite (.or (.not (.call 13 (.cons false (.var 9) (.cons false (.var 4) .nil)))) (.cmp .ne (.bi .repr (.cons false (.var 5) .nil)) (.bi .repr (.cons false (.tup (.cons false (.var 6) (.cons false (.var 7) .nil))) .nil)))) (.cons (.ret (.bl false)) .nil) .nil) (.cons (.ite (.and (.cmp .is (.var 4) .non) (.not (.and (.call 11 (.cons false (.fld (.var 8) "tables") (.cons false (.var 6) .nil))) (.call 11 (.cons false (.fld (.var 8) "rules") (.cons false (.var 7) .nil)))))) (.cons (.ret (.bl false)) .nil) .nil) .nil)))) (.cons (.ret (.bl true)) .nil)))))))))
def r_22 : DRow := ⟨("_law_right", none), "_law_right", "_law_right", tp 42, ["purse"], ["purse", "is_small", "plain", "turn", "due", "handed", "given", "kept", "made", "caught"], b_22, false⟩
def b_23 : Sms := (.cons (.for_ [1] (.rng1 (.bi .max (.cons false (.int 1) (.cons false (.bi .min (.cons false (.int 8) (.cons false (.bi .len (.cons false (.var 0) .nil)) .nil))) .nil)))) (.cons (.asg 2 (.ref (.call 4 (.cons false (.var 0) (.cons false (.var 1) .nil))))) (.cons (.for_ [3] (.rng1 (.int 3)) (.cons (.ite (.not (.call 22 (.cons false (.var 2) .nil))) (.cons (.ret (.bl false)) .nil) .nil) .nil)) .nil))) (.cons (.ret (.bl true)) .nil))
def r_23 : DRow := ⟨("law", none), "law", "law", tp 43, ["script"], ["script", "spot", "purse", "turn"], b_23, false⟩
def b_24 : Sms := (.cons (.acc 3 .dict0) (.cons (.for_ [5, 6] (.seq (.var 1)) (.cons (.ite (.not (.call 0 (.cons false (.var 5) .nil))) (.cons (.raise 1 (.var 5)) .nil) .nil) (.cons (.ite (.cmp .isin (.var 5) (.var 3)) (.cons (.raise 2 (.var 5)) .nil) .nil) (.cons (.setix (.var 3) (.var 5) (.call 2 (.cons false (.var 6) .nil))) .nil)))) (.cons (.frzd 3) (.cons (.for_ [4] (.seq (.var 2)) (.cons (.expr (.call 3 (.cons false (.var 3) (.cons false (.var 4) .nil)))) .nil)) (.cons (.setfld (.var 0) "kept_tables" (.bi .tuple (.cons false (.lc [5] [5] (.seq (.var 3)) (.bl true) (.tup (.cons false (.var 5) (.cons false (.ix (.var 3) (.var 5)) .nil)))) .nil))) (.cons (.setfld (.var 0) "kept_rules" (.bi .tuple (.cons false (.lc [4] [4] (.seq (.var 2)) (.bl true) (.tup (.cons false (.ix (.var 4) (.int 0)) (.cons false (.ix (.var 4) (.int 1)) (.cons false (.bi .tuple (.cons false (.ix (.var 4) (.int 2)) .nil)) (.cons true (.sl (.var 4) (.int 3) .non) .nil)))))) .nil))) .nil))))))
def r_24 : DRow := ⟨("Book", some "__init__"), "__init__", "Book.__init__", tm 22 0, ["self", "tables", "rules"], ["self", "tables", "rules", "columns_of", "rule", "name", "columns"], b_24, false⟩
def b_25 : Sms := (.cons (.ret (.ref (.lc [1, 2] [1, 2] (.seq (.fld (.var 0) "kept_tables")) (.bl true) (.tup (.cons false (.var 1) (.cons false (.ref (.bi .list (.cons false (.var 2) .nil))) .nil)))))) .nil)
def r_25 : DRow := ⟨("Book", some "tables"), "tables", "Book.tables", tm 22 1, ["self"], ["self", "name", "columns"], b_25, true⟩
def b_26 : Sms := (.cons (.ret (.ref (.lc [1] [1] (.seq (.fld (.var 0) "kept_rules")) (.bl true) (.tup (.cons false (.ix (.var 1) (.int 0)) (.cons false (.ix (.var 1) (.int 1)) (.cons false (.ref (.bi .list (.cons false (.ix (.var 1) (.int 2)) .nil))) (.cons true (.sl (.var 1) (.int 3) .non) .nil)))))))) .nil)
def r_26 : DRow := ⟨("Book", some "rules"), "rules", "Book.rules", tm 22 2, ["self"], ["self", "rule"], b_26, true⟩
def T : Tab := ⟨[r_0, r_1, r_2, r_3, r_4, r_5, r_6, r_7, r_8, r_9, r_10, r_11, r_12, r_13, r_14, r_15, r_16, r_17, r_18, r_19, r_20, r_21, r_22, r_23, r_24, r_25, r_26], ["KeyTellError", "InvalidName", "DoubleName", "UnknownTable", "UnknownColumn", "InvalidRule", "InvalidRow", "InvalidQuestion", "BrokenRule", "NoSuchRow", "NothingToUndo", "Unreadable", "Book"], 12, [("LETTERS", "abcdefghijklmnopqrstuvwxyz")], [("MOST_LETTERS", 8)], ["ValueError", "abs", "all", "enumerate", "int", "isinstance", "len", "list", "max", "min", "range", "repr", "tuple", "zip"], tm 2 0, "KeyTellError.__init__", [⟨24, [], ["kept_tables", "kept_rules"], [("tables", 25), ("rules", 26)]⟩], [("RULE_SIZES", [("key", 3), ("settles", 4)])], [(12, 0, ["rules", "tables"], [1, 0])], []⟩
theorem ok_0 : r_0.Ok T.gt := ⟨⟨by decide +kernel, by decide +kernel, by decide +kernel, by decide +kernel, by decide +kernel, by decide +kernel, by decide +kernel⟩, by decide +kernel, fun _ _ _ _ _ _ us hl => match us, hl with | [_], _ => by kernel_rfl⟩
theorem ok_1 : r_1.Ok T.gt := ⟨⟨by decide +kernel, by decide +kernel, by decide +kernel, by decide +kernel, by decide +kernel, by decide +kernel, by decide +kernel⟩, by decide +kernel, fun _ _ _ _ _ _ us hl => match us, hl with | [_], _ => by kernel_rfl⟩
theorem ok_2 : r_2.Ok T.gt := ⟨⟨by decide +kernel, by decide +kernel, by decide +kernel, by decide +kernel, by decide +kernel, by decide +kernel, by decide +kernel⟩, by decide +kernel, fun _ _ _ _ _ _ us hl => match us, hl with | [_], _ => by kernel_rfl⟩
theorem ok_3 : r_3.Ok T.gt := ⟨⟨by decide +kernel, by decide +kernel, by decide +kernel, by decide +kernel, by decide +kernel, by decide +kernel, by decide +kernel⟩, by decide +kernel, fun _ _ _ _ _ _ us hl => match us, hl with | [_, _], _ => by kernel_rfl⟩
theorem ok_4 : r_4.Ok T.gt := ⟨⟨by decide +kernel, by decide +kernel, by decide +kernel, by decide +kernel, by decide +kernel, by decide +kernel, by decide +kernel⟩, by decide +kernel, fun _ _ _ _ _ _ us hl => match us, hl with | [_, _], _ => by kernel_rfl⟩
theorem ok_5 : r_5.Ok T.gt := ⟨⟨by decide +kernel, by decide +kernel, by decide +kernel, by decide +kernel, by decide +kernel, by decide +kernel, by decide +kernel⟩, by decide +kernel, fun _ _ _ _ _ _ us hl => match us, hl with | [_, _], _ => by kernel_rfl⟩
theorem ok_6 : r_6.Ok T.gt := ⟨⟨by decide +kernel, by decide +kernel, by decide +kernel, by decide +kernel, by decide +kernel, by decide +kernel, by decide +kernel⟩, by decide +kernel, fun _ _ _ _ _ _ us hl => match us, hl with | [_, _], _ => by kernel_rfl⟩
theorem ok_7 : r_7.Ok T.gt := ⟨⟨by decide +kernel, by decide +kernel, by decide +kernel, by decide +kernel, by decide +kernel, by decide +kernel, by decide +kernel⟩, by decide +kernel, fun _ _ _ _ _ _ us hl => match us, hl with | [_, _, _], _ => by kernel_rfl⟩
theorem ok_8 : r_8.Ok T.gt := ⟨⟨by decide +kernel, by decide +kernel, by decide +kernel, by decide +kernel, by decide +kernel, by decide +kernel, by decide +kernel⟩, by decide +kernel, fun _ _ _ _ _ _ us hl => match us, hl with | [_, _, _], _ => by kernel_rfl⟩
theorem ok_9 : r_9.Ok T.gt := ⟨⟨by decide +kernel, by decide +kernel, by decide +kernel, by decide +kernel, by decide +kernel, by decide +kernel, by decide +kernel⟩, by decide +kernel, fun _ _ _ _ _ _ us hl => match us, hl with | [_], _ => by kernel_rfl⟩
theorem ok_10 : r_10.Ok T.gt := ⟨⟨by decide +kernel, by decide +kernel, by decide +kernel, by decide +kernel, by decide +kernel, by decide +kernel, by decide +kernel⟩, by decide +kernel, fun _ _ _ _ _ _ us hl => match us, hl with | [_], _ => by kernel_rfl⟩
theorem ok_11 : r_11.Ok T.gt := ⟨⟨by decide +kernel, by decide +kernel, by decide +kernel, by decide +kernel, by decide +kernel, by decide +kernel, by decide +kernel⟩, by decide +kernel, fun _ _ _ _ _ _ us hl => match us, hl with | [_, _], _ => by kernel_rfl⟩
theorem ok_12 : r_12.Ok T.gt := ⟨⟨by decide +kernel, by decide +kernel, by decide +kernel, by decide +kernel, by decide +kernel, by decide +kernel, by decide +kernel⟩, by decide +kernel, fun _ _ _ _ _ _ us hl => match us, hl with | [_], _ => by kernel_rfl⟩
theorem ok_13 : r_13.Ok T.gt := ⟨⟨by decide +kernel, by decide +kernel, by decide +kernel, by decide +kernel, by decide +kernel, by decide +kernel, by decide +kernel⟩, by decide +kernel, fun _ _ _ _ _ _ us hl => match us, hl with | [_, _], _ => by kernel_rfl⟩
theorem ok_14 : r_14.Ok T.gt := ⟨⟨by decide +kernel, by decide +kernel, by decide +kernel, by decide +kernel, by decide +kernel, by decide +kernel, by decide +kernel⟩, by decide +kernel, fun _ _ _ _ _ _ us hl => match us, hl with | [_], _ => by kernel_rfl⟩
theorem ok_15 : r_15.Ok T.gt := ⟨⟨by decide +kernel, by decide +kernel, by decide +kernel, by decide +kernel, by decide +kernel, by decide +kernel, by decide +kernel⟩, by decide +kernel, fun _ _ _ _ _ _ us hl => match us, hl with | [_, _], _ => by kernel_rfl⟩
theorem ok_16 : r_16.Ok T.gt := ⟨⟨by decide +kernel, by decide +kernel, by decide +kernel, by decide +kernel, by decide +kernel, by decide +kernel, by decide +kernel⟩, by decide +kernel, fun _ _ _ _ _ _ us hl => match us, hl with | [_, _], _ => by kernel_rfl⟩
theorem ok_17 : r_17.Ok T.gt := ⟨⟨by decide +kernel, by decide +kernel, by decide +kernel, by decide +kernel, by decide +kernel, by decide +kernel, by decide +kernel⟩, by decide +kernel, fun _ _ _ _ _ _ us hl => match us, hl with | [_, _], _ => by kernel_rfl⟩
theorem ok_18 : r_18.Ok T.gt := ⟨⟨by decide +kernel, by decide +kernel, by decide +kernel, by decide +kernel, by decide +kernel, by decide +kernel, by decide +kernel⟩, by decide +kernel, fun _ _ _ _ _ _ us hl => match us, hl with | [_, _, _], _ => by kernel_rfl⟩
theorem ok_19 : r_19.Ok T.gt := ⟨⟨by decide +kernel, by decide +kernel, by decide +kernel, by decide +kernel, by decide +kernel, by decide +kernel, by decide +kernel⟩, by decide +kernel, fun _ _ _ _ _ _ us hl => match us, hl with | [_, _], _ => by kernel_rfl⟩
theorem ok_20 : r_20.Ok T.gt := ⟨⟨by decide +kernel, by decide +kernel, by decide +kernel, by decide +kernel, by decide +kernel, by decide +kernel, by decide +kernel⟩, by decide +kernel, fun _ _ _ _ _ _ us hl => match us, hl with | [_, _], _ => by kernel_rfl⟩
theorem ok_21 : r_21.Ok T.gt := ⟨⟨by decide +kernel, by decide +kernel, by decide +kernel, by decide +kernel, by decide +kernel, by decide +kernel, by decide +kernel⟩, by decide +kernel, fun _ _ _ _ _ _ us hl => match us, hl with | [_, _, _], _ => by kernel_rfl⟩
theorem ok_22 : r_22.Ok T.gt := ⟨⟨by decide +kernel, by decide +kernel, by decide +kernel, by decide +kernel, by decide +kernel, by decide +kernel, by decide +kernel⟩, by decide +kernel, fun _ _ _ _ _ _ us hl => match us, hl with | [_], _ => by kernel_rfl⟩
theorem ok_23 : r_23.Ok T.gt := ⟨⟨by decide +kernel, by decide +kernel, by decide +kernel, by decide +kernel, by decide +kernel, by decide +kernel, by decide +kernel⟩, by decide +kernel, fun _ _ _ _ _ _ us hl => match us, hl with | [_], _ => by kernel_rfl⟩
theorem ok_24 : r_24.Ok T.gt := ⟨⟨by decide +kernel, by decide +kernel, by decide +kernel, by decide +kernel, by decide +kernel, by decide +kernel, by decide +kernel⟩, by decide +kernel, fun _ _ _ _ _ _ us hl => match us, hl with | [_, _, _], _ => by kernel_rfl⟩
theorem ok_25 : r_25.Ok T.gt := ⟨⟨by decide +kernel, by decide +kernel, by decide +kernel, by decide +kernel, by decide +kernel, by decide +kernel, by decide +kernel⟩, by decide +kernel, fun _ _ _ _ _ _ us hl => match us, hl with | [_], _ => by kernel_rfl⟩
theorem ok_26 : r_26.Ok T.gt := ⟨⟨by decide +kernel, by decide +kernel, by decide +kernel, by decide +kernel, by decide +kernel, by decide +kernel, by decide +kernel⟩, by decide +kernel, fun _ _ _ _ _ _ us hl => match us, hl with | [_], _ => by kernel_rfl⟩

end Lk03
end
section
set_option Elab.async false
set_option linter.all false
set_option maxRecDepth 1000000
set_option maxHeartbeats 0
namespace Lk03
open PySem PySem.Spec PyProof.Rows K9
abbrev Rr : PySem.W.OpenRow := PySem.W.OpenLaw.row PySem.Challenge.rw_keysthrough_k03_books_that_are_none
def loose : List Str := [("__name__" : Str), ("_wall" : Str), ("KeyTellError" : Str), ("InvalidName" : Str), ("DoubleName" : Str), ("UnknownTable" : Str), ("UnknownColumn" : Str), ("InvalidRule" : Str), ("InvalidRow" : Str), ("InvalidQuestion" : Str), ("BrokenRule" : Str), ("NoSuchRow" : Str), ("NothingToUndo" : Str), ("Unreadable" : Str), ("LETTERS" : Str), ("MOST_LETTERS" : Str), ("RULE_SIZES" : Str), ("is_name" : Str), ("fresh" : Str), ("checked_columns" : Str), ("check_rule" : Str), ("Book" : Str), ("_law_purse" : Str), ("_law_coin" : Str), ("_law_words" : Str), ("_law_drawn_tables" : Str), ("_law_drawn_rules" : Str), ("_law_copied" : Str), ("_law_muddle" : Str), ("_law_own" : Str), ("_law_kinds" : Str), ("_law_error_right" : Str), ("_law_is_title" : Str), ("_law_bad_title" : Str), ("_law_bent_tables" : Str), ("_law_bent_rule" : Str), ("_law_bent_rules" : Str), ("_law_wrong_rule" : Str), ("_law_wrong_book" : Str), ("_law_caught_of" : Str), ("_law_right" : Str)]
theorem runF (w : World) : HandSHeadRun.RunEq Rr (PySem.W.view Rr.prog [43]) (hookK 5 T) (obT 5 T) 6000 loose (w.withFollow "special-get-raises" false) := by
  intro os
  kernel_rfl
theorem runT (w : World) : HandSHeadRun.RunEq Rr (PySem.W.view Rr.prog [43]) (hookK 5 T) (obT 5 T) 6000 loose (w.withFollow "special-get-raises" true) := by
  intro os
  kernel_rfl
theorem run (w : World) : HandSHeadRun.RunEq Rr (PySem.W.view Rr.prog [43]) (hookK 5 T) (obT 5 T) 6000 loose w :=
  PySem.W.byRow2 "special-get-raises" (P := fun w => HandSHeadRun.RunEq Rr (PySem.W.view Rr.prog [43]) (hookK 5 T) (obT 5 T) 6000 loose w) runF runT w
end Lk03
end
section
set_option Elab.async false
set_option linter.all false
set_option maxRecDepth 100000
set_option maxHeartbeats 0
set_option exponentiation.threshold 2000
namespace KL
open K9 PySem PyProof.Rows
variable {P : Prog} {wf : Nat}
local macro_rules | `(tactic| walk_at "k9q") => `(tactic| first
  | assumption
  | omega
  | decide
  | exact .inl ⟨by omega, by omega⟩
  | exact .inr ⟨by omega, by omega⟩
  | decide +kernel)
local macro_rules | `(tactic| walk_at "k9") => `(tactic| with_reducible first
  | apply ev_nonS
  | apply ev_blS
  | apply ev_intS
  | apply ev_strS
  | (apply ev_var; with_unfolding_all rfl)
  | (apply ev_addI; walk_at "k9"; walk_at "k9")
  | (apply ev_subI; walk_at "k9"; walk_at "k9")
  | (apply ev_mulI; walk_at "k9"; walk_at "k9"; walk_at "k9q")
  | (apply ev_modI; walk_at "k9"; walk_at "k9"; walk_at "k9q")
  | (apply ev_fdivI; walk_at "k9"; walk_at "k9"; walk_at "k9q"; walk_at "k9q")
  | (apply ev_powL; walk_at "k9"; walk_at "k9q"; walk_at "k9q")
  | (apply ev_ltI; walk_at "k9"; walk_at "k9")
  | (apply ev_gtI; walk_at "k9"; walk_at "k9")
  | (apply ev_leI; walk_at "k9"; walk_at "k9")
  | (apply ev_eqI; walk_at "k9"; walk_at "k9")
  | (apply ev_intI; walk_at "k9")
  | (apply ev_ixRef; walk_at "k9"; walk_at "k9"; assumption; with_unfolding_all rfl)
  | (apply ev_absI; walk_at "k9")
  | (apply ev_maxI; walk_at "k9"; walk_at "k9")
  | (apply ev_minI; walk_at "k9"; walk_at "k9")
  | (apply ev_lenScr; walk_at "k9")
  | (apply ev_negS; walk_at "k9")
  | (apply ev_notS; walk_at "k9")
  | (apply ev_lstS; walk_at "k9s"; exact Nat.le_of_ble_eq_true rfl)
  | (apply ev_tupS; walk_at "k9s"; exact Nat.le_of_ble_eq_true rfl)
  | assumption)
local macro_rules | `(tactic| walk_at "k9s") => `(tactic| with_reducible first
  | apply evs_nilS
  | (apply evs_consI; walk_at "k9"; with_unfolding_all rfl; with_unfolding_all rfl; walk_at "k9s"))
def bPurse : Sms := (.cons (.asg 2 (.ite (.cmp .lt (.var 1) (.bi .len (.cons false (.var 0) .nil))) (.ix (.var 0) (.var 1)) (.int 0))) (.cons (.ret (.lst (.cons false (.bi .max (.cons false (.int 0) (.cons false (.bin .sub (.bi .abs (.cons false (.var 2) .nil)) (.bin .pow (.int 10) (.int 18))) .nil))) (.cons false (.bin .mod (.bi .int (.cons false (.bin .add (.bin .add (.bin .mul (.var 2) (.int 30011)) (.bin .mul (.var 1) (.int 7368787))) (.int 104729)) .nil)) (.bin .add (.bin .pow (.int 10) (.int 24)) (.int 7))) (.cons false (.int 0) .nil))))) .nil))
def fPurse : Fn := ⟨2, 3, bPurse⟩
def bCoin : Sms := (.cons (.ite (.cmp .gt (.ix (.var 0) (.int 0)) (.int 0)) (.cons (.asg 3 (.bin .mod (.bi .int (.cons false (.ix (.var 0) (.int 0)) .nil)) (.var 1))) (.cons (.setix (.var 0) (.int 0) (.bin .fdiv (.ix (.var 0) (.int 0)) (.var 1))) (.cons (.ret (.var 3)) .nil))) .nil) (.cons (.setix (.var 0) (.int 2) (.bin .add (.ix (.var 0) (.int 2)) (.int 1))) (.cons (.asg 2 (.bin .mod (.bin .pow (.bi .int (.cons false (.bin .add (.ix (.var 0) (.int 1)) (.bin .mul (.int 2038074743) (.ix (.var 0) (.int 2)))) .nil)) (.int 3)) (.bin .add (.bin .pow (.int 10) (.int 25)) (.int 13)))) (.cons (.asg 2 (.bin .mod (.bin .pow (.bi .int (.cons false (.bin .add (.var 2) (.bin .mul (.int 982451653) (.ix (.var 0) (.int 2)))) .nil)) (.int 2)) (.bin .add (.bin .pow (.int 10) (.int 24)) (.int 7)))) (.cons (.ret (.bin .mod (.bi .int (.cons false (.bin .fdiv (.var 2) (.int 1024)) .nil)) (.var 1))) .nil)))))
def fCoin : Fn := ⟨2, 4, bCoin⟩
theorem purse_ok {f n : Nat} (hf : P.fn f = some fPurse) {ns : List Int} {p : Nat} {S : Sto} : ∃ a b : Int, 0 ≤ a ∧ 0 ≤ b ∧ b < 10 ^ 24 + 7 ∧ callT P wf (n + 1) f [.scr (ns.map .int), .int p] S = .ok (.own (.lst [.int a, .int b, .int 0])) S := by
  rw [callT_eq hf, runFn_eq rfl]
  show ∃ a b : Int, 0 ≤ a ∧ 0 ≤ b ∧ b < 10 ^ 24 + 7 ∧ (exSs (ctxT P wf n) bPurse [.fz (.scr (ns.map .int)), .fz (.int p), .no] S).bind finF = _
  have hcell : ∃ c : Int, ev (ctxT P wf n) (.ite (.cmp .lt (.var 1) (.bi .len (.cons false (.var 0) .nil))) (.ix (.var 0) (.var 1)) (.int 0)) [.fz (.scr (ns.map .int)), .fz (.int p), .no] S = .ok (.int c) S := by
    by_cases h : p < ns.length
    · refine ⟨ns[p], ?_⟩
      apply ev_iteS
      · walk_at "k9"
      · rw [if_pos (by simpa using h)]
        apply ev_ixS
        · walk_at "k9"
        · walk_at "k9"
        · refine ix_scr ?_
          rw [atI_nat (by simpa using h)]
          simp [h]
    · refine ⟨0, ?_⟩
      apply ev_iteS
      · walk_at "k9"
      · rw [if_neg (by simpa using h)]
        walk_at "k9"
  obtain ⟨c, hc⟩ := hcell
  have hb : ∃ a b : Int, 0 ≤ a ∧ 0 ≤ b ∧ b < 10 ^ 24 + 7 ∧ exSs (ctxT P wf n) bPurse [.fz (.scr (ns.map .int)), .fz (.int p), .no] S = .ok (.rt (.own (.lst [.int a, .int b, .int 0]))) S := by
    refine ⟨?wa, ?wb, ?wha, ?whb, ?whb2, ?wrun⟩
    case wrun =>
      apply ss_nx
      · exact s_asgS hc rfl
      · apply ss_rt
        apply s_retS
        · walk_at "k9"
        · rfl
    case wha => split <;> omega
    case whb => exact Int.emod_nonneg _ (by decide +kernel)
    case whb2 => exact Int.emod_lt_of_pos _ (by decide +kernel)
  obtain ⟨a, b, h1, h2, h3, h4⟩ := hb
  exact ⟨a, b, h1, h2, h3, by rw [h4]; rfl⟩

theorem coin_ok {f n p : Nat} (hf : P.fn f = some fCoin) {S : Sto} {a b c many : Int} (hS : S[p]? = some (.lst [.int a, .int b, .int c])) (ha : 0 ≤ a) (hb : 0 ≤ b) (hb2 : b < 10 ^ 24 + 7) (hc : 0 ≤ c) (hc2 : c < 2 ^ 40) (hm : 0 < many) (hm2 : many.natAbs < 2 ^ 1000) :
    ∃ d a' c' : Int, 0 ≤ d ∧ d < many ∧ 0 ≤ a' ∧ c ≤ c' ∧ c' ≤ c + 1 ∧ callT P wf (n + 1) f [.ref p, .int many] S = .ok (.int d) (S.set p (.lst [.int a', .int b, .int c'])) := by
  rw [callT_eq hf, runFn_eq rfl]
  show ∃ d a' c' : Int, 0 ≤ d ∧ d < many ∧ 0 ≤ a' ∧ c ≤ c' ∧ c' ≤ c + 1 ∧ (exSs (ctxT P wf n) bCoin [.fz (.ref p), .fz (.int many), .no, .no] S).bind finF = _
  by_cases h0 : 0 < a
  · have run : exSs (ctxT P wf n) bCoin [.fz (.ref p), .fz (.int many), .no, .no] S = .ok (.rt (.int (a % many))) (S.set p (.lst [.int (a / many), .int b, .int c])) := by
      apply ss_rt
      have hcond : ev (ctxT P wf n) (.cmp .gt (.ix (.var 0) (.int 0)) (.int 0)) [.fz (.ref p), .fz (.int many), .no, .no] S = .ok (.bl true) S := by
        rw [← decide_eq_true h0]
        walk_at "k9"
      apply s_iteT hcond
      apply ss_nx
      · apply s_asgS
        · walk_at "k9"
        · rfl
      apply ss_nx
      · apply s_setixRef
        · walk_at "k9"
        · rfl
        · rfl
        · walk_at "k9"
        · walk_at "k9"
        · exact hS
        · rfl
      apply ss_rt
      exact s_retS (ev_var rfl) rfl
    exact ⟨a % many, a / many, c, Int.emod_nonneg _ (by omega), Int.emod_lt_of_pos _ hm, Int.ediv_nonneg ha (by omega), Int.le_refl _, by omega, by rw [run]; rfl⟩
  · have hS2 : (S.set p (.lst [.int a, .int b, .int (c + 1)]))[p]? = some (.lst [.int a, .int b, .int (c + 1)]) := get_set hS
    have lt1000 : ∀ x : Int, 0 ≤ x → x < 2 ^ 200 → x.natAbs < 2 ^ 1000 := fun x h1 h2 => Nat.lt_of_lt_of_le (show x.natAbs < 2 ^ 200 by omega) (by decide +kernel)
    have p1 : (b + 2038074743 * (c + 1)).natAbs < 2 ^ 1000 := lt1000 _ (by omega) (by omega)
    have q0 : 0 ≤ (b + 2038074743 * (c + 1)) ^ 3 % (10 ^ 25 + 13) := Int.emod_nonneg _ (by decide +kernel)
    have q1 : (b + 2038074743 * (c + 1)) ^ 3 % (10 ^ 25 + 13) < 10 ^ 25 + 13 := Int.emod_lt_of_pos _ (by decide +kernel)
    have p2 : ((b + 2038074743 * (c + 1)) ^ 3 % (10 ^ 25 + 13) + 982451653 * (c + 1)).natAbs < 2 ^ 1000 := lt1000 _ (by omega) (by omega)
    have run : exSs (ctxT P wf n) bCoin [.fz (.ref p), .fz (.int many), .no, .no] S = .ok (.rt (.int (((((b + 2038074743 * (c + 1)) ^ 3 % (10 ^ 25 + 13) + 982451653 * (c + 1)) ^ 2 % (10 ^ 24 + 7)) / 1024) % many))) (S.set p (.lst [.int a, .int b, .int (c + 1)])) := by
      apply ss_nx
      · have hcond : ev (ctxT P wf n) (.cmp .gt (.ix (.var 0) (.int 0)) (.int 0)) [.fz (.ref p), .fz (.int many), .no, .no] S = .ok (.bl false) S := by
          rw [← decide_eq_false h0]
          walk_at "k9"
        exact s_iteF hcond ss_nil'
      apply ss_nx
      · apply s_setixRef
        · walk_at "k9"
        · rfl
        · rfl
        · walk_at "k9"
        · walk_at "k9"
        · exact hS
        · rfl
      show exSs _ _ _ (S.set p (.lst [.int a, .int b, .int (c + 1)])) = _
      apply ss_nx
      · apply s_asgS
        · walk_at "k9"
        · rfl
      apply ss_nx
      · apply s_asgS
        · walk_at "k9"
        · rfl
      apply ss_rt
      apply s_retS
      · walk_at "k9"
      · rfl
    refine ⟨_, a, c + 1, Int.emod_nonneg _ (by omega), Int.emod_lt_of_pos _ hm, ha, by omega, by omega, by rw [run]; rfl⟩

/-- the purse at p, at most so many draws behind it -/
def Pu (S : Sto) (p : Nat) (c : Nat) : Prop := ∃ a b k : Int, S[p]? = some (.lst [.int a, .int b, .int k]) ∧ 0 ≤ a ∧ 0 ≤ b ∧ b < 10 ^ 24 + 7 ∧ 0 ≤ k ∧ k ≤ c
theorem Pu.lt {S : Sto} {p c : Nat} (h : Pu S p c) : p < S.length := by
  obtain ⟨a, b, k, h, _⟩ := h
  exact (List.getElem?_eq_some_iff.mp h).1
theorem Pu.mono {S : Sto} {p c c' : Nat} (h : Pu S p c) (hc : c ≤ c') : Pu S p c' := by
  obtain ⟨a, b, k, h1, h2, h3, h4, h5, h6⟩ := h
  exact ⟨a, b, k, h1, h2, h3, h4, h5, by omega⟩
theorem Pu.frame {S S' : Sto} {p c : Nat} (h : Pu S p c) (e : S'[p]? = S[p]?) : Pu S' p c := by
  obtain ⟨a, b, k, h1, h2⟩ := h
  exact ⟨a, b, k, by rw [e]; exact h1, h2⟩
/-- the store but for the purse, and what comes behind -/
def Ex2 (p : Nat) (S S' : Sto) : Prop := S.length ≤ S'.length ∧ ∀ i, i < S.length → i ≠ p → S'[i]? = S[i]?
theorem Ex2.refl {p : Nat} {S : Sto} : Ex2 p S S := ⟨Nat.le_refl _, fun _ _ _ => rfl⟩
theorem Ex2.trans {p : Nat} {S S1 S2 : Sto} (e : Ex2 p S S1) (f : Ex2 p S1 S2) : Ex2 p S S2 := ⟨Nat.le_trans e.1 f.1, fun i hi hn => (f.2 i (Nat.lt_of_lt_of_le hi e.1) hn).trans (e.2 i hi hn)⟩
theorem Ex2.snoc {p : Nat} {S : Sto} {o : Ob} : Ex2 p S (S ++ [o]) := ⟨by simp, fun i hi _ => List.getElem?_append_left hi⟩
/-- only the purse -/
def Onl (p : Nat) (S S' : Sto) : Prop := S'.length = S.length ∧ ∀ i, i ≠ p → S'[i]? = S[i]?
theorem Onl.refl {p : Nat} {S : Sto} : Onl p S S := ⟨rfl, fun _ _ => rfl⟩
theorem Onl.trans {p : Nat} {S S1 S2 : Sto} (e : Onl p S S1) (f : Onl p S1 S2) : Onl p S S2 := ⟨f.1.trans e.1, fun i hn => (f.2 i hn).trans (e.2 i hn)⟩
theorem Onl.ex {p : Nat} {S S' : Sto} (e : Onl p S S') : Ex2 p S S' := ⟨by rw [e.1]; exact Nat.le_refl _, fun i _ hn => e.2 i hn⟩
theorem coin' {f n p c : Nat} (hf : P.fn f = some fCoin) {S : Sto} {many : Int} (h : Pu S p c) (hc : c < 2 ^ 40) (hm : 0 < many) (hm2 : many.natAbs < 2 ^ 1000) :
    ∃ d S', callT P wf (n + 1) f [.ref p, .int many] S = .ok (.int d) S' ∧ 0 ≤ d ∧ d < many ∧ Pu S' p (c + 1) ∧ Onl p S S' := by
  obtain ⟨a, b, k, hS, ha, hb, hb2, hk0, hk⟩ := h
  obtain ⟨d, a', c', h1, h2, h3, h4, h5, h6⟩ := coin_ok (n := n) (wf := wf) hf hS ha hb hb2 hk0 (by omega) hm hm2
  exact ⟨d, _, h6, h1, h2, ⟨a', b, c', get_set hS, h3, hb, hb2, by omega, by omega⟩, List.length_set, fun i hi => List.getElem?_set_ne (Ne.symm hi)⟩
/-- coin as an expression -/
theorem ev_coin {f n p c i : Nat} (hf : P.fn f = some fCoin) {S S1 : Sto} {many : Int} {env : K9.Env} {e : Ex} (h : Pu S1 p c) (hc : c < 2 ^ 40) (h0 : env[i]? = some (.fz (.ref p))) (he : ev (ctxT P wf (n + 1)) e env S = .ok (.int many) S1) (hm : 0 < many) (hm2 : many.natAbs < 2 ^ 1000) :
    ∃ d S', ev (ctxT P wf (n + 1)) (.call f (.cons false (.var i) (.cons false e .nil))) env S = .ok (.int d) S' ∧ 0 ≤ d ∧ d < many ∧ Pu S' p (c + 1) ∧ Onl p S1 S' := by
  obtain ⟨d, S', h1, r⟩ := coin' (n := n) (wf := wf) hf h hc hm hm2
  exact ⟨d, S', ev_callS (evs_consI (ev_var h0) rfl rfl (evs_consI he rfl rfl evs_nilS)) h1, r⟩
end KL
end
section
set_option Elab.async false
set_option linter.all false
set_option maxRecDepth 100000
set_option maxHeartbeats 0
namespace KL
open K9 PySem PyProof.Rows
variable {P : Prog} {wf : Nat}
/-- what a thing may be -/
def okD : D → Bool
  | .non => true | .bl _ => true | .int _ => true | .str _ => true | .tup _ => true | .ref _ => true | .lst _ => true
  | _ => false
theorem okD_acc {d : D} (h : okD d = true) : d.isAcc = false ∧ rd d = d := by cases d <;> first | exact ⟨rfl, rfl⟩ | cases h
theorem okD_flat {d : D} (h : flatD d = true) : okD d = true := by cases d <;> first | rfl | cases h
/-! ### trees of lists and tuples -/
inductive Tr where
  | leaf (d : D) | lst (ts : List Tr) | tup (ts : List Tr)
mutual
/-- a value that stands for a tree; the store's lists that it uses -/
inductive At (S : Sto) : D → Tr → List Nat → Prop
  | leaf {d : D} : flatD d = true → At S d (.leaf d) []
  | lst {n : Nat} {ds : List D} {ts : List Tr} {u : List Nat} : S[n]? = some (.lst ds) → Ats S ds ts u → At S (.ref n) (.lst ts) (n :: u)
  | tup {ds : List D} {ts : List Tr} {u : List Nat} : Ats S ds ts u → At S (.tup ds) (.tup ts) u
inductive Ats (S : Sto) : List D → List Tr → List Nat → Prop
  | nil : Ats S [] [] []
  | cons {d : D} {t : Tr} {u : List Nat} {ds : List D} {ts : List Tr} {v : List Nat} : At S d t u → Ats S ds ts v → Ats S (d :: ds) (t :: ts) (u ++ v)
end
section
variable {S S' : Sto}
mutual
theorem At.frame : ∀ {d : D} {t : Tr} {u : List Nat}, At S d t u → (∀ i ∈ u, S'[i]? = S[i]?) → At S' d t u
  | _, _, _, .leaf h, _ => .leaf h
  | _, _, _, .lst h r, e => .lst (by rw [e _ List.mem_cons_self]; exact h) (r.frame fun i hi => e i (List.mem_cons_of_mem _ hi))
  | _, _, _, .tup r, e => .tup (r.frame e)
theorem Ats.frame : ∀ {d : List D} {t : List Tr} {u : List Nat}, Ats S d t u → (∀ i ∈ u, S'[i]? = S[i]?) → Ats S' d t u
  | _, _, _, .nil, _ => .nil
  | _, _, _, .cons a r, e => .cons (a.frame fun i hi => e i (List.mem_append_left _ hi)) (r.frame fun i hi => e i (List.mem_append_right _ hi))
end
mutual
theorem At.lt : ∀ {d : D} {t : Tr} {u : List Nat}, At S d t u → ∀ i ∈ u, i < S.length
  | _, _, _, .leaf _, i, h => by cases h
  | _, _, _, .lst h r, i, hi => by
    rcases List.mem_cons.mp hi with rfl | hi
    · exact (List.getElem?_eq_some_iff.mp h).1
    · exact r.lt i hi
  | _, _, _, .tup r, i, hi => r.lt i hi
theorem Ats.lt : ∀ {d : List D} {t : List Tr} {u : List Nat}, Ats S d t u → ∀ i ∈ u, i < S.length
  | _, _, _, .nil, i, h => by cases h
  | _, _, _, .cons a r, i, hi => by
    rcases List.mem_append.mp hi with hi | hi
    · exact a.lt i hi
    · exact r.lt i hi
end
end
mutual
def mud : Tr → Tr
  | .leaf d => .leaf d
  | .lst ts => .lst ((muds ts ++ [Tr.leaf (.str "muddled")]).reverse)
  | .tup ts => .tup (muds ts)
def muds : List Tr → List Tr
  | [] => []
  | t :: ts => mud t :: muds ts
end
def datD : D → PyData
  | .non => .none
  | .bl b => .bool b
  | .int i => .int i
  | .str s => .str s
  | _ => .none
mutual
def dat : Tr → PyData
  | .leaf d => datD d
  | .lst ts => .list (dats ts)
  | .tup ts => .tuple (dats ts)
def dats : List Tr → List PyData
  | [] => []
  | t :: ts => dat t :: dats ts
end
mutual
def dep : Tr → Nat
  | .leaf _ => 1
  | .lst ts => deps ts + 1
  | .tup ts => deps ts + 1
def deps : List Tr → Nat
  | [] => 0
  | t :: ts => max (dep t) (deps ts)
end
theorem py_flat {S : Sto} {d : D} (h : flatD d = true) {n : Nat} : py S (n + 1) d = some (datD d) := by
  cases d <;> first | rfl | cases h
mutual
theorem At.py {S : Sto} : ∀ {d : D} {t : Tr} {u : List Nat} {n : Nat}, At S d t u → dep t ≤ n → K9.py S n d = some (dat t)
  | d, .leaf _, _, n, .leaf h, hn => by
    cases n with
    | zero => simp [dep] at hn
    | succ n => exact py_flat h
  | _, .lst ts, _, n, .lst h r, hn => by
    cases n with
    | zero => simp [dep] at hn
    | succ n =>
      have q := r.py (n := n) (by simp only [dep] at hn; omega)
      simp only [K9.py, h, q, dat]; rfl
  | _, .tup ts, _, n, .tup r, hn => by
    cases n with
    | zero => simp [dep] at hn
    | succ n =>
      have q := r.py (n := n) (by simp only [dep] at hn; omega)
      simp only [K9.py, q, dat]; rfl
theorem Ats.py {S : Sto} : ∀ {ds : List D} {ts : List Tr} {u : List Nat} {n : Nat}, Ats S ds ts u → deps ts ≤ n → ds.mapM (K9.py S n) = some (dats ts)
  | _, _, _, n, .nil, _ => rfl
  | _, _, _, n, .cons a r, hn => by
    simp only [deps] at hn
    rw [List.mapM_cons, a.py (by omega), r.py (by omega)]; rfl
end

mutual
/-- a value that reads as a tree: lists of the store, or such as are never changed any more -/
inductive Vw (S : Sto) : D → Tr → Prop
  | leaf {d : D} : flatD d = true → Vw S d (.leaf d)
  | lst {n : Nat} {ds : List D} {ts : List Tr} : S[n]? = some (.lst ds) → Vws S ds ts → Vw S (.ref n) (.lst ts)
  | lstF {ds : List D} {ts : List Tr} : Vws S ds ts → Vw S (.lst ds) (.lst ts)
  | tup {ds : List D} {ts : List Tr} : Vws S ds ts → Vw S (.tup ds) (.tup ts)
inductive Vws (S : Sto) : List D → List Tr → Prop
  | nil : Vws S [] []
  | cons {d : D} {t : Tr} {ds : List D} {ts : List Tr} : Vw S d t → Vws S ds ts → Vws S (d :: ds) (t :: ts)
end
section
variable {S S' : Sto}
mutual
theorem At.vw : ∀ {d : D} {t : Tr} {u : List Nat}, At S d t u → Vw S d t
  | _, _, _, .leaf h => .leaf h
  | _, _, _, .lst h r => .lst h r.vw
  | _, _, _, .tup r => .tup r.vw
theorem Ats.vw : ∀ {d : List D} {t : List Tr} {u : List Nat}, Ats S d t u → Vws S d t
  | _, _, _, .nil => .nil
  | _, _, _, .cons a r => .cons a.vw r.vw
end
mutual
/-- .. it stays, if the store's lists stay -/
theorem Vw.keep (e : ∀ (n : Nat) (xs : List D), S[n]? = some (.lst xs) → S'[n]? = some (.lst xs)) : ∀ {d : D} {t : Tr}, Vw S d t → Vw S' d t
  | _, _, .leaf h => .leaf h
  | _, _, .lst h r => .lst (e _ _ h) (Vws.keep e r)
  | _, _, .lstF r => .lstF (Vws.keep e r)
  | _, _, .tup r => .tup (Vws.keep e r)
theorem Vws.keep (e : ∀ (n : Nat) (xs : List D), S[n]? = some (.lst xs) → S'[n]? = some (.lst xs)) : ∀ {d : List D} {t : List Tr}, Vws S d t → Vws S' d t
  | _, _, .nil => .nil
  | _, _, .cons a r => .cons (Vw.keep e a) (Vws.keep e r)
end
theorem Vw.ok {d : D} {t : Tr} (h : Vw S d t) : okD d = true := by
  cases h with
  | leaf h => exact okD_flat h
  | lst _ _ => rfl
  | lstF _ => rfl
  | tup _ => rfl
mutual
theorem Vw.py : ∀ {d : D} {t : Tr} {n : Nat}, Vw S d t → dep t ≤ n → K9.py S n d = some (dat t)
  | d, .leaf _, n, .leaf h, hn => by
    cases n with
    | zero => simp [dep] at hn
    | succ n => exact py_flat h
  | _, .lst ts, n, .lst h r, hn => by
    cases n with
    | zero => simp [dep] at hn
    | succ n =>
      have q := r.py (n := n) (by simp only [dep] at hn; omega)
      simp only [K9.py, h, q, dat]; rfl
  | _, .lst ts, n, .lstF r, hn => by
    cases n with
    | zero => simp [dep] at hn
    | succ n =>
      have q := r.py (n := n) (by simp only [dep] at hn; omega)
      simp only [K9.py, q, dat]; rfl
  | _, .tup ts, n, .tup r, hn => by
    cases n with
    | zero => simp [dep] at hn
    | succ n =>
      have q := r.py (n := n) (by simp only [dep] at hn; omega)
      simp only [K9.py, q, dat]; rfl
theorem Vws.py : ∀ {ds : List D} {ts : List Tr} {n : Nat}, Vws S ds ts → deps ts ≤ n → ds.mapM (K9.py S n) = some (dats ts)
  | _, _, n, .nil, _ => rfl
  | _, _, n, .cons a r, hn => by
    simp only [deps] at hn
    rw [List.mapM_cons, a.py (by omega), r.py (by omega)]; rfl
end
theorem Vws.length : ∀ {ds : List D} {ts : List Tr}, Vws S ds ts → ds.length = ts.length
  | _, _, .nil => rfl
  | _, _, .cons _ r => by rw [List.length_cons, List.length_cons, r.length]
theorem Vws.append : ∀ {ds es : List D} {ts us : List Tr}, Vws S ds ts → Vws S es us → Vws S (ds ++ es) (ts ++ us)
  | _, _, _, _, .nil, s => s
  | _, _, _, _, .cons a r, s => .cons a (r.append s)
theorem Vws.get : ∀ {ds : List D} {ts : List Tr} {i : Nat} {t : Tr}, Vws S ds ts → ts[i]? = some t → ∃ d, ds[i]? = some d ∧ Vw S d t
  | _, _, _, _, .nil, e => by simp at e
  | _, _, 0, _, .cons r _, e => by simp at e; subst e; exact ⟨_, rfl, r⟩
  | _, _, i + 1, _, .cons _ t, e => by
    obtain ⟨v, h1, h2⟩ := Vws.get (i := i) t (by simpa using e)
    exact ⟨v, by simpa using h1, h2⟩
theorem Vws.take : ∀ {ds : List D} {ts : List Tr} (n : Nat), Vws S ds ts → Vws S (ds.take n) (ts.take n)
  | _, _, 0, _ => .nil
  | _, _, _ + 1, .nil => .nil
  | _, _, n + 1, .cons r t => .cons r (t.take n)
theorem Vws.drop : ∀ {ds : List D} {ts : List Tr} (n : Nat), Vws S ds ts → Vws S (ds.drop n) (ts.drop n)
  | _, _, 0, r => r
  | _, _, _ + 1, .nil => .nil
  | _, _, n + 1, .cons _ t => t.drop n
end
end KL
end
section
set_option Elab.async false
set_option linter.all false
set_option maxRecDepth 100000
set_option maxHeartbeats 0
namespace KL
open K9 PySem PyProof.Rows
variable {P : Prog} {wf : Nat}
mutual
/-- the greatest width -/
def wd : Tr → Nat
  | .leaf _ => 0
  | .lst ts => max ts.length (wds ts)
  | .tup ts => max ts.length (wds ts)
def wds : List Tr → Nat
  | [] => 0
  | t :: ts => max (wd t) (wds ts)
end
theorem Ats.length {S : Sto} : ∀ {ds : List D} {ts : List Tr} {u : List Nat}, Ats S ds ts u → ds.length = ts.length
  | _, _, _, .nil => rfl
  | _, _, _, .cons _ r => by rw [List.length_cons, List.length_cons, r.length]
theorem Ats.append {S : Sto} : ∀ {ds es : List D} {ts us : List Tr} {u v : List Nat}, Ats S ds ts u → Ats S es us v → Ats S (ds ++ es) (ts ++ us) (u ++ v)
  | _, _, _, _, _, _, .nil, s => s
  | _, _, _, _, _, _, .cons a r, s => by
    rw [List.append_assoc]
    exact .cons a (r.append s)
theorem Ats.reverse {S : Sto} : ∀ {ds : List D} {ts : List Tr} {u : List Nat}, Ats S ds ts u → ∃ u', Ats S ds.reverse ts.reverse u' ∧ u'.Perm u
  | _, _, _, .nil => ⟨[], .nil, .nil⟩
  | _, _, _, .cons (u := u) (v := v) a r => by
    obtain ⟨v', h1, h2⟩ := r.reverse
    refine ⟨v' ++ (u ++ []), ?_, ?_⟩
    · rw [List.reverse_cons, List.reverse_cons]
      exact h1.append (.cons a .nil)
    · rw [List.append_nil]
      exact (List.perm_append_comm).trans (List.Perm.append_left u h2)
theorem muds_len : ∀ ts : List Tr, (muds ts).length = ts.length
  | [] => rfl
  | t :: ts => by rw [muds, List.length_cons, List.length_cons, muds_len ts]
/-- what muddle does to a tree's value -/
def MudOk (g : List D → Sto → R D) (S : Sto) (d : D) (t : Tr) (u : List Nat) : Prop :=
  ∃ S' u', g [d] S = .ok .non S' ∧ At S' d (mud t) u' ∧ u'.Perm u ∧ S'.length = S.length ∧ ∀ i, i ∉ u → S'[i]? = S[i]?
def bMuddle (f : Nat) : Sms := (.cons (.ite (.isi (.var 0) [.list, .tuple]) (.cons (.for_ [1] (.seq (.bi .list (.cons false (.var 0) .nil))) (.cons (.expr (.call f (.cons false (.var 1) .nil))) .nil)) .nil) .nil) (.cons (.ite (.isi (.var 0) [.list]) (.cons (.mut .append (.var 0) (.cons false (.str "muddled") .nil)) (.cons (.mut .reverse (.var 0) .nil) .nil)) .nil) .nil))
def fMuddle (f : Nat) : Fn := ⟨1, 2, bMuddle f⟩
/-- the loop over the parts -/
theorem mud_loop {f : Nat} {C : K9.Ctx} (env0 : Slot) : ∀ (ts : List Tr) (ds : List D) (u : List Nat) (S : Sto) (sl : Slot), Ats S ds ts u → u.Nodup → (∀ d ∈ ds, okD d = true) →
    (∀ t ∈ ts, ∀ d u S, At S d t u → u.Nodup → MudOk (C.call f) S d t u) →
    ∃ S' u' sl', forGo (exSs C (.cons (.expr (.call f (.cons false (.var 1) .nil))) .nil)) [1] [] ds [env0, sl] S = .ok (.nx [env0, sl']) S' ∧ Ats S' ds (muds ts) u' ∧ u'.Perm u ∧ S'.length = S.length ∧ ∀ i, i ∉ u → S'[i]? = S[i]?
  | [], _, _, S, sl, .nil, _, _, _ => ⟨S, [], sl, rfl, .nil, .nil, rfl, fun _ _ => rfl⟩
  | t :: ts, _, _, S, sl, .cons (d := d) (ds := ds) (u := u) (v := v) a r, nd, ok, ih => by
    obtain ⟨nu, nv, nuv⟩ := List.nodup_append.mp nd
    have hd := ok d List.mem_cons_self
    obtain ⟨S1, u1, h1, h2, h3, h4, h5⟩ := ih t List.mem_cons_self d u S a nu
    have r1 : Ats S1 ds ts v := r.frame fun i hi => h5 i fun z => nuv i z i hi rfl
    obtain ⟨S2, v2, sl2, k1, k2, k3, k4, k5⟩ := mud_loop env0 ts ds v S1 (.fz d) r1 nv (fun d hd => ok d (List.mem_cons_of_mem _ hd)) fun t ht => ih t (List.mem_cons_of_mem _ ht)
    have hacc : d.isAcc = false := by cases d <;> first | rfl | cases hd
    have hrd : rd d = d := by cases d <;> first | rfl | cases hd
    refine ⟨S2, u1 ++ v2, sl2, ?_, .cons (h2.frame fun i hi => k5 i fun z => nuv i ((h3.mem_iff).mp hi) i z rfl) k2, h3.append k3, by rw [k4, h4], fun i hi => ?_⟩
    · have hb : exSs C (.cons (.expr (.call f (.cons false (.var 1) .nil))) .nil) [env0, .fz d] S = .ok (.nx [env0, .fz d]) S1 := by
        exact ss_nx (s_exprS (ev_callS (evs_consI (ev_var rfl) hrd hacc evs_nilS) h1)) ss_nil'
      show chkLive S [] (oget (asgT [1] d [env0, sl]) fun e => (exSs C _ e S).bind fun f S1 => _) = _
      have ha : asgT [1] d [env0, sl] = some [env0, .fz d] := by
        show (if d.isAcc then none else some _) = _
        rw [hacc]; rfl
      rw [ha]
      show (exSs C _ [env0, .fz d] S).bind _ = _
      rw [hb]
      exact k1
    · rw [k5 i fun z => hi (List.mem_append_right _ z), h5 i fun z => hi (List.mem_append_left _ z)]

theorem At.ok {S : Sto} {d : D} {t : Tr} {u : List Nat} (a : At S d t u) : okD d = true := by
  cases a with
  | leaf h => exact okD_flat h
  | lst _ _ => rfl
  | tup _ => rfl
theorem Ats.ok {S : Sto} : ∀ {ds : List D} {ts : List Tr} {u : List Nat}, Ats S ds ts u → ∀ d ∈ ds, okD d = true
  | _, _, _, .nil, d, h => by cases h
  | _, _, _, .cons a r, d, h => by
    rcases List.mem_cons.mp h with rfl | h
    · exact a.ok
    · exact r.ok d h
theorem mem_dep : ∀ {ts : List Tr} {t : Tr}, t ∈ ts → dep t ≤ deps ts ∧ wd t ≤ wds ts
  | x :: ts, t, h => by
    simp only [deps, wds]
    rcases List.mem_cons.mp h with rfl | h
    · omega
    · have := mem_dep h; omega
theorem dep_pos : ∀ t : Tr, 1 ≤ dep t
  | .leaf _ => by simp [dep]
  | .lst _ => by simp [dep]
  | .tup _ => by simp [dep]
def kids : Tr → List Tr
  | .leaf _ => []
  | .lst ts => ts
  | .tup ts => ts
theorem evIt_own {C : K9.Ctx} {env : K9.Env} {S S1 : Sto} {e : Ex} {xs : List D} (h : ev C e env S = .ok (.own (.lst xs)) S1) : evIt C (.seq e) env S = .ok ⟨xs, [], false⟩ S1 := by
  simp only [evIt, h, bindR_ok, rd]
  rfl
theorem mud_step {f : Nat} (hf : P.fn f = some (fMuddle f)) (m : Nat) (t : Tr) (d : D) (u : List Nat) (S : Sto) (hw : wd t ≤ 1000) (a : At S d t u) (nd : u.Nodup)
    (hch : ∀ t' ∈ kids t, ∀ d u S, At S d t' u → u.Nodup → MudOk (callT P wf m f) S d t' u) : MudOk (callT P wf (m + 1) f) S d t u := by
  cases a with
  | leaf h =>
    refine ⟨S, [], ?_, .leaf h, .nil, rfl, fun _ _ => rfl⟩
    rw [callT_eq hf, runFn_eq rfl]
    cases d <;> first | (cases h; done) | kernel_rfl
  | tup r =>
    rename_i ds ts
    have hl : ds.length ≤ sizeLine := by
      rw [r.length, sizeLine_eq]
      simp only [wd] at hw
      omega
    obtain ⟨S', u', sl', k1, k2, k3, k4, k5⟩ := mud_loop (C := ctxT P wf m) (.fz (.tup ds)) ts ds u S .no r nd r.ok hch
    refine ⟨S', u', ?_, .tup k2, k3, k4, k5⟩
    rw [callT_eq hf, runFn_eq rfl]
    have run : exSs (ctxT P wf m) (bMuddle f) [.fz (.tup ds), .no] S = .ok (.nx [.fz (.tup ds), sl']) S' := by
      apply ss_nx
      · apply s_iteT (S1 := S)
        · exact ev_isiS (t := .b "tuple") (ev_var rfl) rfl (by kernel_rfl)
        · refine ss_nx (s_forS (evIt_own (ev_biS (evl_consS (ev_var rfl) evl_nilS) (?_ : biD .list [.tup ds] _ S = .ok (.own (.lst ds)) S))) rfl k1) ss_nil'
          exact chk_pos hl
      · refine ss_nx (s_iteF (ev_isiS (t := .b "tuple") (ev_var rfl) rfl (by kernel_rfl)) ss_nil') ss_nil'
    show (exSs (ctxT P wf m) (bMuddle f) [.fz (.tup ds), .no] S).bind finF = _
    rw [run]; rfl
  | lst hS r =>
    rename_i k ds ts v
    obtain ⟨nk, nv⟩ := List.nodup_cons.mp nd
    have hl : ds.length ≤ 1000 := by
      rw [r.length]
      simp only [wd] at hw
      omega
    obtain ⟨S', u', sl', k1, k2, k3, k4, k5⟩ := mud_loop (C := ctxT P wf m) (.fz (.ref k)) ts ds v S .no r nv r.ok hch
    have hS' : S'[k]? = some (.lst ds) := by rw [k5 k nk]; exact hS
    have hk : k < S'.length := (List.getElem?_eq_some_iff.mp hS').1
    have ku : k ∉ u' := fun z => nk ((k3.mem_iff).mp z)
    have hS2 : (S'.set k (.lst (ds ++ [D.str "muddled"])))[k]? = some (.lst (ds ++ [D.str "muddled"])) := get_set hS'
    have fr : Ats ((S'.set k (.lst (ds ++ [D.str "muddled"]))).set k (.lst (ds ++ [D.str "muddled"]).reverse)) ds (muds ts) u' := k2.frame fun i hi => by
      have ne : k ≠ i := fun z => ku (by rw [z]; exact hi)
      rw [List.getElem?_set_ne ne, List.getElem?_set_ne ne]
    obtain ⟨v2, f1, f2⟩ := (fr.append (.cons (.leaf (d := .str "muddled") rfl) .nil)).reverse
    refine ⟨(S'.set k (.lst (ds ++ [D.str "muddled"]))).set k (.lst (ds ++ [D.str "muddled"]).reverse), k :: v2, ?_, ?_, ?_, ?_, ?_⟩
    · rw [callT_eq hf, runFn_eq rfl]
      have tyS : ∀ (S : Sto) (env : K9.Env), S[k]? = some (.lst ds) → tyD (ctxT P wf m).sub env S (.ref k) = some (.b "list") := fun S env h => by
        show (match S[k]? with | some (.lst _) => _ | some (.dct _ _) => _ | some (.ins c _ _) => _ | none => _) = _
        rw [h]
      have run : exSs (ctxT P wf m) (bMuddle f) [.fz (.ref k), .no] S = .ok (.nx [.fz (.ref k), sl']) ((S'.set k (.lst (ds ++ [D.str "muddled"]))).set k (.lst (ds ++ [D.str "muddled"]).reverse)) := by
        apply ss_nx
        · apply s_iteT (S1 := S)
          · exact ev_isiS (ev_var rfl) (tyS S _ hS) (by kernel_rfl)
          · refine ss_nx (s_forS (evIt_own (ev_biS (evl_consS (ev_var rfl) evl_nilS) (?_ : biD .list [.ref k] _ S = .ok (.own (.lst ds)) S))) rfl k1) ss_nil'
            show oget (match S[k]? with | some (.lst xs) => some xs | _ => none) _ = _
            rw [hS]
            exact chk_pos (by rw [sizeLine_eq]; omega)
        · refine ss_nx (s_iteT (ev_isiS (ev_var rfl) (tyS S' _ hS') (by kernel_rfl)) ?_) ss_nil'
          refine ss_nx (s_mutS (p := ([.fz (.ref k), sl'], S'.set k (.lst (ds ++ [D.str "muddled"])))) (ob := .lst ds) (ob' := .lst (ds ++ [D.str "muddled"])) (ev_var rfl) ?_ (evl_consS ev_strS evl_nilS) rfl hS' ?_ ?_) ?_
          · show (match S'[k]? with | some (.lst _) => true | _ => false) = true
            rw [hS']
          · show (if ds.length < sizeLine then _ else none) = _
            rw [if_pos (by rw [sizeLine_eq]; omega)]; rfl
          · show (if k < S'.length then _ else none) = _
            rw [if_pos hk]
          · refine ss_nx (s_mutS (p := ([.fz (.ref k), sl'], (S'.set k (.lst (ds ++ [D.str "muddled"]))).set k (.lst (ds ++ [D.str "muddled"]).reverse))) (ob := .lst (ds ++ [D.str "muddled"])) (ob' := .lst (ds ++ [D.str "muddled"]).reverse) (ev_var rfl) ?_ evl_nilS rfl hS2 rfl ?_) ss_nil'
            · show (match (S'.set k (.lst (ds ++ [D.str "muddled"])))[k]? with | some (.lst _) => true | _ => false) = true
              rw [hS2]
            · show (if k < (S'.set k (.lst (ds ++ [D.str "muddled"]))).length then _ else none) = _
              rw [if_pos (by rw [List.length_set]; exact hk)]
      show (exSs (ctxT P wf m) (bMuddle f) [.fz (.ref k), .no] S).bind finF = _
      rw [run]; rfl
    · exact .lst (get_set hS2) f1
    · exact .cons k (f2.trans (by simpa using k3))
    · rw [List.length_set, List.length_set, k4]
    · intro i hi
      have ne : k ≠ i := fun z => hi (by rw [z]; exact List.mem_cons_self)
      rw [List.getElem?_set_ne ne, List.getElem?_set_ne ne]
      exact k5 i fun z => hi (List.mem_cons_of_mem _ z)
theorem mud_ok {f : Nat} (hf : P.fn f = some (fMuddle f)) : ∀ (m : Nat) (t : Tr) (d : D) (u : List Nat) (S : Sto), dep t ≤ m + 1 → wd t ≤ 1000 → At S d t u → u.Nodup → MudOk (callT P wf (m + 1) f) S d t u := by
  have kd : ∀ {t t' : Tr}, t' ∈ kids t → dep t' + 1 ≤ dep t ∧ wd t' ≤ wd t := by
    intro t t' h
    cases t with
    | leaf _ => cases h
    | lst ts => have := mem_dep (ts := ts) h; simp only [dep, wd]; omega
    | tup ts => have := mem_dep (ts := ts) h; simp only [dep, wd]; omega
  intro m
  induction m with
  | zero =>
    intro t d u S hm hw a nd
    exact mud_step hf 0 t d u S hw a nd fun t' ht => by
      have := kd ht; have := dep_pos t'; omega
  | succ m ih =>
    intro t d u S hm hw a nd
    exact mud_step hf (m + 1) t d u S hw a nd fun t' ht d u S a nd => ih t' d u S (by have := kd ht; omega) (by have := kd ht; omega) a nd
end KL
end
section
set_option Elab.async false
set_option linter.all false
set_option maxRecDepth 100000
set_option maxHeartbeats 0
namespace KL
open K9 PySem PyProof.Rows
variable {P : Prog} {wf : Nat}
/-- what lies in the store stays, new objects come behind -/
def Ext' (S S' : Sto) : Prop := S.length ≤ S'.length ∧ ∀ i, i < S.length → S'[i]? = S[i]?
theorem Ext'.refl {S : Sto} : Ext' S S := ⟨Nat.le_refl _, fun _ _ => rfl⟩
theorem Ext'.trans {S S1 S2 : Sto} (e : Ext' S S1) (f : Ext' S1 S2) : Ext' S S2 := ⟨Nat.le_trans e.1 f.1, fun i hi => (f.2 i (Nat.lt_of_lt_of_le hi e.1)).trans (e.2 i hi)⟩
theorem Ext'.snoc {S : Sto} {o : Ob} : Ext' S (S ++ [o]) := ⟨by simp, fun i hi => List.getElem?_append_left hi⟩
def CpOk (g : List D → Sto → R D) (S : Sto) (d : D) (t : Tr) : Prop :=
  ∃ S' d' u', g [d] S = .ok d' S' ∧ At S' d' t u' ∧ u'.Nodup ∧ (∀ i ∈ u', S.length ≤ i) ∧ Ext' S S'
theorem At.ext {S S' : Sto} {d : D} {t : Tr} {u : List Nat} (a : At S d t u) (e : Ext' S S') : At S' d t u := a.frame fun i hi => e.2 i (a.lt i hi)
theorem Ats.ext {S S' : Sto} {d : List D} {t : List Tr} {u : List Nat} (a : Ats S d t u) (e : Ext' S S') : Ats S' d t u := a.frame fun i hi => e.2 i (a.lt i hi)
theorem Vw.ext {S S' : Sto} {d : D} {t : Tr} (a : Vw S d t) (e : Ext' S S') : Vw S' d t := a.keep fun n xs h => by rw [e.2 n (List.getElem?_eq_some_iff.mp h).1]; exact h
theorem Vws.ext {S S' : Sto} {d : List D} {t : List Tr} (a : Vws S d t) (e : Ext' S S') : Vws S' d t := a.keep fun n xs h => by rw [e.2 n (List.getElem?_eq_some_iff.mp h).1]; exact h
def bCopied (f : Nat) : Sms := (.cons (.ite (.isi (.var 0) [.list]) (.cons (.ret (.ref (.lc [1] [1] (.seq (.var 0)) (.bl true) (.call f (.cons false (.var 1) .nil))))) .nil) .nil) (.cons (.ret (.ite (.isi (.var 0) [.tuple]) (.bi .tuple (.cons false (.lc [1] [1] (.seq (.var 0)) (.bl true) (.call f (.cons false (.var 1) .nil))) .nil)) (.var 0))) .nil))
def fCopied (f : Nat) : Fn := ⟨1, 2, bCopied f⟩
theorem cp_loop {f : Nat} {C : K9.Ctx} (s0 : K9.Slot) (live : List (Nat × List D)) : ∀ (ts : List Tr) (ds : List D) (S : Sto) (ys : List D), (∀ (S' : Sto) (r : R (List D)), Ext' S S' → chkLive S' live r = r) → Vws S ds ts → ys.length + ds.length < sizeLine →
    (∀ t ∈ ts, ∀ d S, Vw S d t → CpOk (C.call f) S d t) →
    ∃ S' ds' u', lcGo (ev C (.bl true)) (ev C (.call f (.cons false (.var 1) .nil))) [1] [s0, .no] live ds ys S = .ok (ys ++ ds') S' ∧ Ats S' ds' ts u' ∧ u'.Nodup ∧ (∀ i ∈ u', S.length ≤ i) ∧ Ext' S S'
  | [], _, S, ys, hl, .nil, _, _ => ⟨S, [], [], by
      show chkLive S live (.ok ys S) = _
      rw [hl S _ Ext'.refl, List.append_nil], .nil, List.nodup_nil, (fun i h => by cases h), Ext'.refl⟩
  | t :: ts, _, S, ys, hl, .cons (d := d) (ds := ds) a r, hz, ih => by
    obtain ⟨S1, d1, u1, h1, h2, h3, h4, h5⟩ := ih t List.mem_cons_self d S a
    have hd := a.ok
    have hd1 := h2.ok
    rw [List.length_cons] at hz
    obtain ⟨S2, ds2, v2, k1, k2, k3, k4, k5⟩ := cp_loop s0 live ts ds S1 (ys ++ [d1]) (fun S' r e => hl S' r (h5.trans e)) (r.ext h5) (by rw [List.length_append, List.length_singleton]; omega) fun t ht => ih t (List.mem_cons_of_mem _ ht)
    have acc : ∀ {d : D}, okD d = true → d.isAcc = false ∧ rd d = d := fun {d} h => okD_acc h
    refine ⟨S2, d1 :: ds2, u1 ++ v2, ?_, .cons (h2.ext k5) k2, ?_, fun i hi => ?_, h5.trans k5⟩
    · show chkLive S live (oget (asgT [1] d [s0, .no]) fun e => (ev C (.bl true) e S).bindR fun b S1 => ifD b ((ev C (.call f (.cons false (.var 1) .nil)) e S1).bindR fun y S2 => if y.isAcc then .bad else chk (ys.length < sizeLine) (lcGo _ _ [1] [s0, .no] live ds (ys ++ [y]) S2)) (lcGo _ _ [1] [s0, .no] live ds ys S1)) = _
      rw [hl S _ Ext'.refl]
      have ha : asgT [1] d [s0, .no] = some [s0, .fz d] := by
        show (if d.isAcc then none else some _) = _
        rw [(acc hd).1]; rfl
      rw [ha, oget_some, ev_blS, bindR_ok]
      rw [rd_bl, show ∀ (f g : R (List D)), ifD (.bl true) f g = f from fun _ _ => rfl, ev_callS (evs_consI (ev_var rfl) (acc hd).2 (acc hd).1 evs_nilS) h1, bindR_ok, (acc hd1).2]
      show (if d1.isAcc then .bad else chk (ys.length < sizeLine) _) = _
      rw [(acc hd1).1]
      show chk (ys.length < sizeLine) _ = _
      rw [chk_pos (by omega), k1, List.append_assoc]; rfl
    · refine List.nodup_append.mpr ⟨h3, k3, fun i hi j hj z => ?_⟩
      have := h2.lt i hi
      have := k4 j hj
      omega
    · rcases List.mem_append.mp hi with hi | hi
      · exact h4 i hi
      · exact Nat.le_trans h5.1 (k4 i hi)
theorem cp_step {f : Nat} (hf : P.fn f = some (fCopied f)) (m : Nat) (t : Tr) (d : D) (S : Sto) (hw : wd t ≤ 1000) (a : Vw S d t)
    (hch : ∀ t' ∈ kids t, ∀ d S, Vw S d t' → CpOk (callT P wf m f) S d t') : CpOk (callT P wf (m + 1) f) S d t := by
  cases a with
  | leaf h =>
    refine ⟨S, d, [], ?_, .leaf h, List.nodup_nil, (fun i h => by cases h), Ext'.refl⟩
    rw [callT_eq hf, runFn_eq rfl]
    cases d <;> first | (cases h; done) | kernel_rfl
  | tup r =>
    rename_i ds ts
    have hl : ds.length ≤ 1000 := by
      rw [r.length]
      simp only [wd] at hw
      omega
    obtain ⟨S', ds', u', k1, k2, k3, k4, k5⟩ := cp_loop (f := f) (C := ctxT P wf m) (.fz (.tup ds)) [] ts ds S [] (fun _ _ _ => rfl) r (by rw [sizeLine_eq]; simp; omega) hch
    have hl' : ds'.length ≤ sizeLine := by rw [k2.length, ← r.length, sizeLine_eq]; omega
    refine ⟨S', .tup ds', u', ?_, .tup k2, k3, k4, k5⟩
    rw [callT_eq hf, runFn_eq rfl]
    have run : exSs (ctxT P wf m) (bCopied f) [.fz (.tup ds), .no] S = .ok (.rt (.tup ds')) S' := by
      apply ss_nx (S1 := S)
      · exact s_iteF (ev_isiS (t := .b "tuple") (ev_var rfl) rfl (by kernel_rfl)) ss_nil'
      · apply ss_rt
        refine s_retS (x := .tup ds') ?_ rfl
        refine ev_iteS (k := true) (S1 := S) (ev_isiS (t := .b "tuple") (ev_var rfl) rfl (by kernel_rfl)) ?_
        rw [if_pos rfl]
        refine ev_biS (evl_consS (ev_lcS (p := ⟨ds, [], false⟩) (S1 := S) (ys := ds') (S2 := S') ?_ k1 hl') evl_nilS) rfl
        simp only [evIt, ev_var (show [K9.Slot.fz (.tup ds), .no][0]? = some (.fz (.tup ds)) from rfl), bindR_ok, rd]
        rfl
    show (exSs (ctxT P wf m) (bCopied f) [.fz (.tup ds), .no] S).bind finF = _
    rw [run]; rfl
  | lst hS r =>
    rename_i k ds ts
    have hl : ds.length ≤ 1000 := by
      rw [r.length]
      simp only [wd] at hw
      omega
    have hk := (List.getElem?_eq_some_iff.mp hS).1
    obtain ⟨S', ds', u', k1, k2, k3, k4, k5⟩ := cp_loop (f := f) (C := ctxT P wf m) (.fz (.ref k)) [(k, ds)] ts ds S [] (fun S' q e => by
      unfold chkLive
      simp only
      rw [if_pos]
      intro p hp
      rw [List.mem_singleton.mp hp]
      exact (e.2 k hk).trans hS) r (by rw [sizeLine_eq]; simp; omega) hch
    have hl' : ds'.length ≤ sizeLine := by rw [k2.length, ← r.length, sizeLine_eq]; omega
    have fr : Ats (S' ++ [.lst ds']) ds' ts u' := k2.ext Ext'.snoc
    refine ⟨S' ++ [.lst ds'], .ref S'.length, S'.length :: u', ?_, .lst (by simp) fr, ?_, fun i hi => ?_, k5.trans Ext'.snoc⟩
    · rw [callT_eq hf, runFn_eq rfl]
      have tyS : tyD (ctxT P wf m).sub [K9.Slot.fz (.ref k), .no] S (.ref k) = some (.b "list") := by
        show (match S[k]? with | some (.lst _) => _ | some (.dct _ _) => _ | some (.ins c _ _) => _ | none => _) = _
        rw [hS]
      have run : exSs (ctxT P wf m) (bCopied f) [.fz (.ref k), .no] S = .ok (.rt (.ref S'.length)) (S' ++ [.lst ds']) := by
        apply ss_rt
        refine s_iteT (S1 := S) (ev_isiS (ev_var rfl) tyS (by kernel_rfl)) ?_
        apply ss_rt
        refine s_retS (x := .ref S'.length) (ev_refS (x := .lst ds') (S1 := S') (ev_lcS (p := ⟨ds, [(k, ds)], false⟩) (S1 := S) (ys := ds') (S2 := S') ?_ k1 hl') rfl) rfl
        simp only [evIt, ev_var (show [K9.Slot.fz (.ref k), .no][0]? = some (.fz (.ref k)) from rfl), bindR_ok, rd]
        show oget (match S[k]? with | some (.lst xs) => some xs | _ => none) _ = _
        rw [hS]; rfl
      show (exSs (ctxT P wf m) (bCopied f) [.fz (.ref k), .no] S).bind finF = _
      rw [run]; rfl
    · refine List.nodup_cons.mpr ⟨fun z => ?_, k3⟩
      exact absurd (k2.lt _ z) (Nat.lt_irrefl _)
    · rcases List.mem_cons.mp hi with rfl | hi
      · exact k5.1
      · exact k4 i hi
  | lstF r =>
    rename_i ds ts
    have hl : ds.length ≤ 1000 := by
      rw [r.length]
      simp only [wd] at hw
      omega
    obtain ⟨S', ds', u', k1, k2, k3, k4, k5⟩ := cp_loop (f := f) (C := ctxT P wf m) (.fz (.lst ds)) [] ts ds S [] (fun _ _ _ => rfl) r (by rw [sizeLine_eq]; simp; omega) hch
    have hl' : ds'.length ≤ sizeLine := by rw [k2.length, ← r.length, sizeLine_eq]; omega
    have fr : Ats (S' ++ [.lst ds']) ds' ts u' := k2.ext Ext'.snoc
    refine ⟨S' ++ [.lst ds'], .ref S'.length, S'.length :: u', ?_, .lst (by simp) fr, ?_, fun i hi => ?_, k5.trans Ext'.snoc⟩
    · rw [callT_eq hf, runFn_eq rfl]
      have tyS : tyD (ctxT P wf m).sub [K9.Slot.fz (.lst ds), .no] S (.lst ds) = some (.b "list") := rfl
      have run : exSs (ctxT P wf m) (bCopied f) [.fz (.lst ds), .no] S = .ok (.rt (.ref S'.length)) (S' ++ [.lst ds']) := by
        apply ss_rt
        refine s_iteT (S1 := S) (ev_isiS (ev_var rfl) tyS (by kernel_rfl)) ?_
        apply ss_rt
        refine s_retS (x := .ref S'.length) (ev_refS (x := .lst ds') (S1 := S') (ev_lcS (p := ⟨ds, [], false⟩) (S1 := S) (ys := ds') (S2 := S') ?_ k1 hl') rfl) rfl
        simp only [evIt, ev_var (show [K9.Slot.fz (.lst ds), .no][0]? = some (.fz (.lst ds)) from rfl), bindR_ok, rd]
        rfl
      show (exSs (ctxT P wf m) (bCopied f) [.fz (.lst ds), .no] S).bind finF = _
      rw [run]; rfl
    · refine List.nodup_cons.mpr ⟨fun z => ?_, k3⟩
      exact absurd (k2.lt _ z) (Nat.lt_irrefl _)
    · rcases List.mem_cons.mp hi with rfl | hi
      · exact k5.1
      · exact k4 i hi
theorem cp_ok {f : Nat} (hf : P.fn f = some (fCopied f)) : ∀ (m : Nat) (t : Tr) (d : D) (S : Sto), dep t ≤ m + 1 → wd t ≤ 1000 → Vw S d t → CpOk (callT P wf (m + 1) f) S d t := by
  have kd : ∀ {t t' : Tr}, t' ∈ kids t → dep t' + 1 ≤ dep t ∧ wd t' ≤ wd t := by
    intro t t' h
    cases t with
    | leaf _ => cases h
    | lst ts => have := mem_dep (ts := ts) h; simp only [dep, wd]; omega
    | tup ts => have := mem_dep (ts := ts) h; simp only [dep, wd]; omega
  intro m
  induction m with
  | zero =>
    intro t d S hm hw a
    exact cp_step hf 0 t d S hw a fun t' ht => by
      have := kd ht; have := dep_pos t'; omega
  | succ m ih =>
    intro t d S hm hw a
    exact cp_step hf (m + 1) t d S hw a fun t' ht d S a => ih t' d S (by have := kd ht; omega) (by have := kd ht; omega) a
end KL
end
section
set_option Elab.async false
set_option linter.all false
set_option maxRecDepth 100000
set_option maxHeartbeats 0
namespace KL
open K9 PySem PyProof.Rows
variable {P : Prog} {wf : Nat}
mutual
def sz : Tr → Nat
  | .leaf _ => 1
  | .lst ts => szs ts + 1
  | .tup ts => szs ts + 1
def szs : List Tr → Nat
  | [] => 0
  | t :: ts => sz t + szs ts
end
def smD : D → Prop
  | .int i => i.natAbs.log2 < 200
  | .str s => s.length ≤ 60 ∧ ∀ c ∈ s.cps.toList, c < 16 ^ 8
  | _ => True
mutual
def smT : Tr → Prop
  | .leaf d => smD d
  | .lst ts => smTs ts
  | .tup ts => smTs ts
def smTs : List Tr → Prop
  | [] => True
  | t :: ts => smT t ∧ smTs ts
end
theorem datD_le {d : D} (h : smD d) : (datD d).shown.length ≤ 608 ∧ (datD d).showable = true := by
  cases d with
  | int i =>
    refine ⟨?_, ?_⟩
    · have q := int_text_length_le (a := i) (k := 200) (by decide) h
      have e : (datD (.int i)).shown.length = (toString i).length := by
        show (PySem.Str.ofString (toString i)).length = _
        exact PySem.ofString_length _
      omega
    · simp only [datD, PyData.showable]
      exact decide_eq_true (Nat.lt_trans h (by decide))
  | str s =>
    refine ⟨?_, rfl⟩
    have := PySem.StrLaws.reprText_len s h.2
    have h1 := h.1
    show (reprText s).length ≤ 608
    omega
  | bl b => cases b <;> exact ⟨by decide, rfl⟩
  | _ => exact ⟨Nat.le_of_ble_eq_true rfl, rfl⟩

theorem textFrom_le : ∀ (ts : List Str) (k : Nat) (acc : Str), (textFrom k acc ts).length ≤ acc.length + piled ts
  | [], k, acc => by show acc.length ≤ _; rw [piled_nil]; omega
  | t :: ts, k, acc => by
    have ih := textFrom_le ts (k + 1) (acc ++ (if k > 0 then ", " else "" : String) ++ t)
    have e : (acc ++ (if k > 0 then ", " else "" : String) ++ t).length ≤ acc.length + 2 + t.length := by
      rw [strLen_append, strLen_append]
      split
      · have : ((", " : String) : Str).length = 2 := rfl
        omega
      · have : (("" : String) : Str).length = 0 := rfl
        omega
    show (textFrom (k + 1) _ ts).length ≤ _
    rw [piled_cons]; omega
mutual
theorem shown_le : ∀ {t : Tr}, smT t → (dat t).shown.length + 2 ≤ 610 * sz t ∧ (dat t).showable = true
  | .leaf d, h => by
    obtain ⟨a, b⟩ := datD_le (d := d) h
    refine ⟨?_, b⟩
    show (datD d).shown.length + 2 ≤ 610 * sz (.leaf d)
    simp only [sz]; omega
  | .lst ts, h => by
    obtain ⟨a, b⟩ := showns_le (ts := ts) h
    refine ⟨?_, b⟩
    show (listText (PyData.shownAll (dats ts))).length + 2 ≤ 610 * sz (.lst ts)
    have := textFrom_le (PyData.shownAll (dats ts)) 0 "["
    have e1 : (("[" : String) : Str).length = 1 := rfl
    have e2 : (("]" : String) : Str).length = 1 := rfl
    unfold listText
    rw [strLen_append]
    simp only [sz]; omega
  | .tup ts, h => by
    obtain ⟨a, b⟩ := showns_le (ts := ts) h
    refine ⟨?_, b⟩
    show (tupleText (PyData.shownAll (dats ts))).length + 2 ≤ 610 * sz (.tup ts)
    have e1 : (("(" : String) : Str).length = 1 := rfl
    unfold tupleText
    rw [strLen_append, strLen_append]
    have e3 : ((if (PyData.shownAll (dats ts)).length == 1 then ",)" else ")" : String) : Str).length ≤ 2 := by
      split
      · exact Nat.le_of_ble_eq_true rfl
      · exact Nat.le_of_ble_eq_true rfl
    have e4 : (Str.join ", " (PyData.shownAll (dats ts))).length ≤ piled (PyData.shownAll (dats ts)) := by
      cases hq : PyData.shownAll (dats ts) with
      | nil => exact Nat.le_of_ble_eq_true rfl
      | cons x xs =>
        have := join_length_add (x :: xs) (by simp)
        omega
    simp only [sz]; omega
theorem showns_le : ∀ {ts : List Tr}, smTs ts → piled (PyData.shownAll (dats ts)) ≤ 610 * szs ts ∧ PyData.showableAll (dats ts) = true
  | [], _ => ⟨Nat.le_of_ble_eq_true rfl, rfl⟩
  | t :: ts, h => by
    obtain ⟨a, b⟩ := shown_le (t := t) h.1
    obtain ⟨c, d⟩ := showns_le (ts := ts) h.2
    refine ⟨?_, ?_⟩
    · show piled ((dat t).shown :: PyData.shownAll (dats ts)) ≤ 610 * (sz t + szs ts)
      rw [piled_cons]; omega
    · show ((dat t).showable && PyData.showableAll (dats ts)) = true
      rw [b, d]; rfl
end
theorem deps_app : ∀ (a b : List Tr), deps (a ++ b) = max (deps a) (deps b)
  | [], b => by simp [deps]
  | x :: a, b => by rw [List.cons_append, deps, deps, deps_app a b]; omega
theorem wds_app : ∀ (a b : List Tr), wds (a ++ b) = max (wds a) (wds b)
  | [], b => by simp [wds]
  | x :: a, b => by rw [List.cons_append, wds, wds, wds_app a b]; omega
theorem szs_app : ∀ (a b : List Tr), szs (a ++ b) = szs a + szs b
  | [], b => by simp [szs]
  | x :: a, b => by rw [List.cons_append, szs, szs, szs_app a b]; omega
theorem smTs_app : ∀ {a b : List Tr}, smTs a → smTs b → smTs (a ++ b)
  | [], b, _, h => h
  | x :: a, b, h, k => ⟨h.1, smTs_app h.2 k⟩
theorem deps_rev : ∀ a : List Tr, deps a.reverse = deps a
  | [] => rfl
  | x :: a => by rw [List.reverse_cons, deps_app, deps_rev a]; simp only [deps]; omega
theorem wds_rev : ∀ a : List Tr, wds a.reverse = wds a
  | [] => rfl
  | x :: a => by rw [List.reverse_cons, wds_app, wds_rev a]; simp only [wds]; omega
theorem szs_rev : ∀ a : List Tr, szs a.reverse = szs a
  | [] => rfl
  | x :: a => by rw [List.reverse_cons, szs_app, szs_rev a]; simp only [szs]; omega
theorem smTs_rev : ∀ {a : List Tr}, smTs a → smTs a.reverse
  | [], _ => True.intro
  | x :: a, h => by
    rw [List.reverse_cons]
    exact smTs_app (smTs_rev h.2) ⟨h.1, True.intro⟩
mutual
theorem mud_b : ∀ t : Tr, dep (mud t) ≤ dep t + 1 ∧ wd (mud t) ≤ wd t + 1 ∧ sz (mud t) ≤ 2 * sz t ∧ (smT t → smT (mud t))
  | .leaf d => ⟨by simp only [mud, dep]; omega, by simp only [mud, wd]; omega, by simp only [mud, sz]; omega, fun h => h⟩
  | .lst ts => by
    obtain ⟨a, b, c, d⟩ := muds_b ts
    have hl := muds_len ts
    refine ⟨?_, ?_, ?_, fun h => ?_⟩
    · simp only [mud, dep, deps_rev, deps_app, deps]; omega
    · simp only [mud, wd, wds_rev, wds_app, wds, List.length_reverse, List.length_append, List.length_singleton]; omega
    · simp only [mud, sz, szs_rev, szs_app, szs]; omega
    · show smTs ((muds ts ++ [Tr.leaf (.str "muddled")]).reverse)
      exact smTs_rev (smTs_app (d h) ⟨⟨Nat.le_of_ble_eq_true rfl, by decide +kernel⟩, True.intro⟩)
  | .tup ts => by
    obtain ⟨a, b, c, d⟩ := muds_b ts
    have hl := muds_len ts
    refine ⟨?_, ?_, ?_, fun h => d h⟩
    · simp only [mud, dep]; omega
    · simp only [mud, wd]; omega
    · simp only [mud, sz]; omega
theorem muds_b : ∀ ts : List Tr, deps (muds ts) ≤ deps ts + 1 ∧ wds (muds ts) ≤ wds ts + 1 ∧ szs (muds ts) ≤ 2 * szs ts ∧ (smTs ts → smTs (muds ts))
  | [] => ⟨by simp [muds, deps], by simp [muds, wds], by simp [muds, szs], fun h => h⟩
  | t :: ts => by
    obtain ⟨a, b, c, d⟩ := mud_b t
    obtain ⟨a', b', c', d'⟩ := muds_b ts
    refine ⟨?_, ?_, ?_, fun h => ⟨d h.1, d' h.2⟩⟩
    · simp only [muds, deps]; omega
    · simp only [muds, wds]; omega
    · simp only [muds, szs]; omega
end
end KL
end
section
set_option Elab.async false
set_option linter.all false
set_option maxRecDepth 100000
set_option maxHeartbeats 0
namespace KL
open K9 PySem PyProof.Rows
variable {P : Prog} {wf : Nat}
/-- a tree that is not too great -/
def Bd (n k : Nat) (t : Tr) : Prop := dep t ≤ n ∧ wd t ≤ k ∧ smT t ∧ sz t ≤ 2000 * k
theorem Bd.mud {n k : Nat} {t : Tr} (h : Bd n k t) : dep (mud t) ≤ n + 1 ∧ wd (mud t) ≤ k + 1 ∧ smT (mud t) ∧ sz (mud t) ≤ 4000 * k := by
  obtain ⟨h1, h2, h3, h4⟩ := h
  obtain ⟨q1, q2, q3, q4⟩ := mud_b t
  exact ⟨by omega, by omega, q4 h3, by omega⟩
theorem pyRoot_ok {d : D} (h : okD d = true) {env : K9.Env} {S : Sto} : pyRoot env S d = py S 61 d := by cases d <;> first | rfl | cases h
theorem repr_ok {S : Sto} {d : D} {t : Tr} {env : K9.Env} (a : Vw S d t) (h1 : dep t ≤ 61) (h2 : smT t) (h3 : sz t ≤ 27000) : biD .repr [d] env S = .ok (.str (dat t).shown) S := by
  show oget (pyRoot env S d) _ = _
  rw [pyRoot_ok a.ok, a.py (by omega), oget_some, chk_pos]
  obtain ⟨q1, q2⟩ := shown_le h2
  exact ⟨q2, by rw [sizeLine_eq]; omega⟩
theorem ev_repr {C : K9.Ctx} {env : K9.Env} {S : Sto} {e : Ex} {d : D} {t : Tr} (he : ev C e env S = .ok d S) (a : Vw S d t) (h1 : dep t ≤ 61) (h2 : smT t) (h3 : sz t ≤ 27000) : ev C (.bi .repr (.cons false e .nil)) env S = .ok (.str (dat t).shown) S := by
  refine ev_biS (evl_consS he evl_nilS) ?_
  rw [(okD_acc a.ok).2]
  exact repr_ok a h1 h2 h3
theorem str_ne {env : K9.Env} {S : Sto} {a : Str} : cmpD .ne (.str a) (.str a) env S = some false := by
  show (some (a == a)).map (!·) = _
  rw [beq_self_eq_true]; rfl
theorem str_eq' {env : K9.Env} {S : Sto} {a : Str} : cmpD .eq (.str a) (.str a) env S = some true := by
  show some (a == a) = _
  rw [beq_self_eq_true]
def bOwn (fc fm : Nat) : Sms := (.cons (.ite (.cmp .ne (.bi .repr (.cons false (.var 0) .nil)) (.bi .repr (.cons false (.var 1) .nil))) (.cons (.ret (.bl false)) .nil) .nil) (.cons (.asg 2 (.call fc (.cons false (.var 1) .nil))) (.cons (.expr (.call fm (.cons false (.var 0) .nil))) (.cons (.expr (.call fm (.cons false (.var 2) .nil))) (.cons (.ret (.cmp .eq (.bi .repr (.cons false (.var 0) .nil)) (.bi .repr (.cons false (.var 2) .nil)))) .nil)))))
def fOwn (fc fm : Nat) : Fn := ⟨2, 3, bOwn fc fm⟩
/-- a told thing is as it is due -/
theorem own_ok {f fc fm : Nat} (hf : P.fn f = some (fOwn fc fm)) (hc : P.fn fc = some (fCopied fc)) (hm : P.fn fm = some (fMuddle fm)) {m : Nat} {S : Sto} {d e : D} {t : Tr} {u : List Nat} (a : At S d t u) (nd : u.Nodup) (b : Vw S e t) (h1 : dep t ≤ m + 1) (h1' : dep t ≤ 60) (h2 : wd t ≤ 900) (h3 : smT t) (h4 : sz t ≤ 13000) :
    ∃ S', callT P wf (m + 2) f [d, e] S = .ok (.bl true) S' ∧ S.length ≤ S'.length ∧ ∀ i, i < S.length → i ∉ u → S'[i]? = S[i]? := by
  obtain ⟨q1, q2, q3, q4⟩ := mud_b t
  obtain ⟨S1, e1, v, c1, c2, c3, c4, c5⟩ := cp_ok (wf := wf) hc m t e S h1 (by omega) b
  have a1 : At S1 d t u := a.ext c5
  obtain ⟨S2, u2, m1, m2, m3, m4, m5⟩ := mud_ok (wf := wf) hm m t d u S1 h1 (by omega) a1 nd
  have c2' : At S2 e1 t v := c2.frame fun i hi => m5 i fun z => by
    have := c4 i hi
    have := a.lt i z
    omega
  obtain ⟨S3, v3, n1, n2, n3, n4, n5⟩ := mud_ok (wf := wf) hm m t e1 v S2 h1 (by omega) c2' c3
  have m2' : At S3 d (mud t) u2 := m2.frame fun i hi => n5 i fun z => by
    have := c4 i z
    have := a.lt i ((m3.mem_iff).mp hi)
    omega
  refine ⟨S3, ?_, by rw [n4, m4]; exact c5.1, fun i hi hu => ?_⟩
  · rw [callT_eq hf, runFn_eq rfl]
    have hd := okD_acc a.ok
    have he := okD_acc b.ok
    have he1 := okD_acc c2.ok
    have run : exSs (ctxT P wf (m + 1)) (bOwn fc fm) [.fz d, .fz e, .no] S = .ok (.rt (.bl true)) S3 := by
      refine ss_nx (S1 := S) (s_iteF (ev_cmpS (S1 := S) (x := .str (dat t).shown) (y := .str (dat t).shown) (ev_repr (ev_var rfl) a.vw (by omega) h3 (by omega)) (ev_repr (ev_var rfl) b (by omega) h3 (by omega)) str_ne) ss_nil') ?_
      refine ss_nx (S1 := S1) (env1 := [.fz d, .fz e, .fz e1]) ?_ ?_
      · have := s_asgS (C := ctxT P wf (m + 1)) (i := 2) (e := .call fc (.cons false (.var 1) .nil)) (env := [.fz d, .fz e, .no]) (ev_callS (evs_consI (ev_var rfl) he.2 he.1 evs_nilS) c1) (by rw [he1.2]; exact he1.1)
        rw [he1.2] at this
        exact this
      refine ss_nx (S1 := S2) (s_exprS (ev_callS (evs_consI (ev_var rfl) hd.2 hd.1 evs_nilS) m1)) ?_
      refine ss_nx (S1 := S3) (s_exprS (ev_callS (evs_consI (ev_var rfl) he1.2 he1.1 evs_nilS) n1)) ?_
      exact ss_rt (s_retS (ev_cmpS (S1 := S3) (x := .str (dat (mud t)).shown) (y := .str (dat (mud t)).shown) (ev_repr (ev_var rfl) m2'.vw (by omega) (q4 h3) (by omega)) (ev_repr (ev_var rfl) n2.vw (by omega) (q4 h3) (by omega)) str_eq') rfl)
    show (exSs (ctxT P wf (m + 1)) (bOwn fc fm) [.fz d, .fz e, .no] S).bind finF = _
    rw [run]; rfl
  · rw [n5 i (fun z => by have := c4 i z; omega), m5 i hu, c5.2 i hi]
end KL
end
section
set_option Elab.async false
set_option linter.all false
set_option maxRecDepth 100000
set_option maxHeartbeats 0
set_option exponentiation.threshold 2000
namespace KL
open K9 PySem PyProof.Rows
variable {P : Prog} {wf : Nat}
theorem asg1 {i : Nat} {x : D} {env : K9.Env} (ha : x.isAcc = false) : asgT [i] x env = some (env.set i (.fz x)) := by
  show (if x.isAcc then none else some _) = _
  rw [ha]; rfl
/-- a comprehension whose parts change nothing -/
theorem lc_pure {C : K9.Ctx} {cnd elt : Ex} {i : Nat} {env : K9.Env} {S : Sto} {live : List (Nat × List D)} (hlv : ∀ r : R (List D), chkLive S live r = r) (p : D → Bool) (f : D → D) : ∀ (xs ys : List D), (∀ x ∈ xs, x.isAcc = false ∧ ev C cnd (env.set i (.fz x)) S = .ok (.bl (p x)) S ∧ (p x = true → ev C elt (env.set i (.fz x)) S = .ok (f x) S ∧ (rd (f x)).isAcc = false)) → ys.length + xs.length ≤ sizeLine →
    lcGo (ev C cnd) (ev C elt) [i] env live xs ys S = .ok (ys ++ (xs.filter p).map fun x => rd (f x)) S
  | [], ys, _, _ => by
    show chkLive S live (.ok ys S) = _
    rw [hlv, List.filter_nil, List.map_nil, List.append_nil]
  | x :: xs, ys, h, hl => by
    obtain ⟨h1, h2, h3⟩ := h x List.mem_cons_self
    rw [List.length_cons] at hl
    have e0 : lcGo (ev C cnd) (ev C elt) [i] env live (x :: xs) ys S = chkLive S live (oget (asgT [i] x env) fun e => (ev C cnd e S).bindR fun b S1 => ifD b ((ev C elt e S1).bindR fun y S2 => if y.isAcc then .bad else chk (ys.length < sizeLine) (lcGo (ev C cnd) (ev C elt) [i] env live xs (ys ++ [y]) S2)) (lcGo (ev C cnd) (ev C elt) [i] env live xs ys S1)) := rfl
    rw [e0, hlv, asg1 h1, oget_some, h2, bindR_ok, rd_bl]
    cases hp : p x with
    | false =>
      rw [List.filter_cons_of_neg (by rw [hp]; decide)]
      exact lc_pure hlv p f xs ys (fun x hx => h x (List.mem_cons_of_mem _ hx)) (by omega)
    | true =>
      obtain ⟨h4, h5⟩ := h3 hp
      rw [List.filter_cons_of_pos hp]
      rw [show ∀ (f g : R (List D)), ifD (.bl true) f g = f from fun _ _ => rfl, h4, bindR_ok, h5]
      show chk (ys.length < sizeLine) _ = _
      rw [chk_pos (by omega), lc_pure hlv p f xs (ys ++ [rd (f x)]) (fun x hx => h x (List.mem_cons_of_mem _ hx)) (by rw [List.length_append, List.length_singleton]; omega), List.append_assoc, List.map_cons]; rfl
theorem filter_tt (xs : List D) : xs.filter (fun _ => true) = xs := List.filter_eq_self.mpr fun _ _ => rfl
/-- .. without a condition -/
theorem lc_map {C : K9.Ctx} {elt : Ex} {i : Nat} {env : K9.Env} {S : Sto} {live : List (Nat × List D)} (hlv : ∀ r : R (List D), chkLive S live r = r) (f : D → D) (xs : List D) (h : ∀ x ∈ xs, x.isAcc = false ∧ ev C elt (env.set i (.fz x)) S = .ok (f x) S ∧ (rd (f x)).isAcc = false) (hl : xs.length ≤ sizeLine) :
    lcGo (ev C (.bl true)) (ev C elt) [i] env live xs [] S = .ok (xs.map fun x => rd (f x)) S := by
  rw [lc_pure hlv (fun _ => true) f xs [] (fun x hx => ⟨(h x hx).1, ev_blS, fun _ => (h x hx).2⟩) (by simpa using hl), filter_tt]; rfl
/-! ### letters -/
def LET : Str := "abcdefghijklmnopqrstuvwxyz"
theorem let_at : ∀ k : Nat, k < 26 → LET.cps.toList[k]? = some (97 + k) := by decide +kernel
theorem let_len : LET.cps.toList.length = 26 := by decide +kernel
theorem ix_let {k : Nat} (hk : k < 26) {env : K9.Env} {S : Sto} : ixD (.str LET) (.int k) env S = .ok (.str ⟨#[97 + k]⟩) S := by
  show chk (LET.length ≤ sizeLine) (oget (L2.atI LET.cps.toList (k : Int)) fun c => .ok (D.str ⟨#[c]⟩) S) = _
  rw [chk_pos (by rw [sizeLine_eq]; decide +kernel), atI_nat (by rw [let_len]; exact hk), let_at k hk]
  rfl
/-- a text of few small letters -/
def LW (n : Nat) (t : Str) : Prop := t.length ≤ n ∧ ∀ c ∈ t.cps.toList, 97 ≤ c ∧ c < 123
theorem LW.mono {n m : Nat} {t : Str} (h : LW n t) (hn : n ≤ m) : LW m t := ⟨Nat.le_trans h.1 hn, h.2⟩
theorem LW.one {k : Nat} (hk : k < 26) : LW 1 ⟨#[97 + k]⟩ := ⟨Nat.le_refl 1, fun c h => by
  have e : c = 97 + k := by simpa using h
  omega⟩
theorem LW.app {n m : Nat} {a b : Str} (ha : LW n a) (hb : LW m b) : LW (n + m) (a ++ b) := by
  refine ⟨by rw [strLen_append]; have := ha.1; have := hb.1; omega, fun c h => ?_⟩
  have e : (a ++ b).cps.toList = a.cps.toList ++ b.cps.toList := by
    show (a.cps ++ b.cps).toList = _
    exact Array.toList_append
  rw [e] at h
  rcases List.mem_append.mp h with h | h
  · exact ha.2 c h
  · exact hb.2 c h
theorem cut_sub {α : Type} {xs : List α} {lo hi : Option Int} {x : α} (h : x ∈ cutL xs lo hi) : x ∈ xs := List.mem_of_mem_drop (List.mem_of_mem_take h)
theorem cut_len {α : Type} {xs : List α} {lo hi : Option Int} : (cutL xs lo hi).length ≤ xs.length := by
  unfold cutL
  rw [List.length_take, List.length_drop]
  omega
theorem len_mk {l : List Nat} : (Str.mk l.toArray).length = l.length := by
  show l.toArray.size = _
  simp
theorem str_len (t : Str) : t.cps.toList.length = t.length := by
  show _ = t.cps.size
  simp
theorem LW.cut {n : Nat} {t : Str} (h : LW n t) {lo hi : Option Int} : LW n ⟨(cutL t.cps.toList lo hi).toArray⟩ :=
  ⟨by rw [len_mk]; have := cut_len (xs := t.cps.toList) (lo := lo) (hi := hi); rw [str_len] at this; exact Nat.le_trans this h.1, fun c hc => h.2 c (cut_sub (by simpa using hc))⟩
end KL
end
section
set_option Elab.async false
set_option linter.all false
set_option maxRecDepth 100000
set_option maxHeartbeats 0
set_option exponentiation.threshold 2000
namespace KL
open K9 PySem PyProof.Rows
variable {P : Prog} {wf : Nat}
theorem s_unpS {C : K9.Ctx} {is : List Nat} {e : Ex} {env env1 : K9.Env} {S S1 : Sto} {x : D} (he : ev C e env S = .ok x S1) (ha : asgT is (rd x) env = some env1) : exS C (.unp is e) env S = .ok (.nx env1) S1 := by
  simp only [exS, he, bindR_ok, ha, oget]
theorem s_parS {C : K9.Ctx} {is : List Nat} {es : Exs} {env : K9.Env} {S S1 : Sto} {xs : List D} (he : evs C es env S = .ok xs S1) (hl : xs.length = is.length) : exS C (.par is es) env S = .ok (.nx (setAll env is xs)) S1 := by
  simp only [exS, he, bind_ok, hl, if_true]
/-- a comprehension of texts that changes nothing -/
theorem lc_strs {C : K9.Ctx} {elt : Ex} {i : Nat} {env : K9.Env} {S : Sto} (Q : Str → Prop) (xs : List D) (hl : xs.length ≤ sizeLine) (h : ∀ x ∈ xs, x.isAcc = false ∧ ∃ t, ev C elt (env.set i (.fz x)) S = .ok (.str t) S ∧ Q t) :
    ∃ l : List Str, lcGo (ev C (.bl true)) (ev C elt) [i] env [] xs [] S = .ok (l.map .str) S ∧ l.length = xs.length ∧ ∀ t ∈ l, Q t := by
  obtain ⟨ys, S', f1, ⟨rfl, l, rfl, hq⟩, f3⟩ := lc_inv (C := C) (elt := elt) (i := i) (env := env) (fun ys S' => S' = S ∧ ∃ l : List Str, ys = l.map .str ∧ ∀ t ∈ l, Q t) xs.length hl xs [] S ⟨rfl, [], rfl, fun _ h => by cases h⟩ (fun x hx => (h x hx).1)
    (fun x hx ys S' ⟨e, l, el, hq⟩ _ => by
      subst e
      obtain ⟨t, h1, h2⟩ := (h x hx).2
      exact ⟨.str t, _, h1, rfl, rfl, l ++ [t], by rw [el, List.map_append]; rfl, fun u hu => by
        rcases List.mem_append.mp hu with hu | hu
        · exact hq u hu
        · rw [List.mem_singleton.mp hu]; exact h2⟩) (by simp)
  exact ⟨l, f1, by rw [List.length_map] at f3; simpa using f3, hq⟩
theorem strsD_map : ∀ ts : List Str, strsD (ts.map .str) = some ts
  | [] => rfl
  | t :: ts => by
    show (strsD (ts.map .str)).map (t :: ·) = _
    rw [strsD_map ts]; rfl
theorem sum_le : ∀ (n : Nat) (ts : List Str), (∀ t ∈ ts, t.length ≤ n) → (ts.map Str.length).sum ≤ n * ts.length
  | n, [], _ => by simp
  | n, t :: ts, h => by
    rw [List.map_cons, List.sum_cons, List.length_cons, Nat.mul_add]
    have := sum_le n ts fun t ht => h t (List.mem_cons_of_mem _ ht)
    have := h t List.mem_cons_self
    omega
theorem join_LW : ∀ ts : List Str, (∀ t ∈ ts, LW 1 t) → LW ts.length (Str.join "" ts)
  | [], _ => ⟨Nat.le_refl 0, fun c h => by
      have e : (Str.join "" []).cps.toList = [] := rfl
      rw [e] at h; cases h⟩
  | [x], h => h x List.mem_cons_self
  | x :: y :: r, h => by
    have a := join_LW (y :: r) fun t ht => h t (List.mem_cons_of_mem _ ht)
    have b := h x List.mem_cons_self
    have e : Str.join "" (x :: y :: r) = x ++ ("" : String) ++ Str.join "" (y :: r) := rfl
    rw [e]
    have z : LW 0 ((("" : String) : Str)) := ⟨Nat.le_refl 0, fun c h => by cases h⟩
    have q := (b.app z).app a
    exact q.mono (by simp only [List.length_cons]; omega)
def menuS : List Str := ["all", "as", "key", "id", "town", "table", "is", "same", "missing", "settles", "pair", "left", "a", "b"]
theorem menu_LW : ∀ t ∈ menuS, LW 9 t := by
  have h : ∀ t ∈ menuS, (decide (t.length ≤ 9) && t.cps.toList.all fun c => decide (97 ≤ c) && decide (c < 123)) = true := by decide +kernel
  intro t ht
  have q := h t ht
  rw [Bool.and_eq_true] at q
  refine ⟨of_decide_eq_true q.1, fun c hc => ?_⟩
  have := List.all_eq_true.mp q.2 c hc
  rw [Bool.and_eq_true] at this
  exact ⟨of_decide_eq_true this.1, of_decide_eq_true this.2⟩
theorem ix_lst {xs : List D} {k : Nat} {d : D} (h : xs[k]? = some d) {env : K9.Env} {S : Sto} : ixD (.lst xs) (.int k) env S = .ok d S := by
  show oget (L2.atI xs (k : Int)) (fun d => .ok d S) = _
  rw [atI_nat (List.getElem?_eq_some_iff.mp h).1, h]; rfl
theorem ev_andB {C : K9.Ctx} {a b : Ex} {env : K9.Env} {S : Sto} {x y : Bool} (ha : ev C a env S = .ok (.bl x) S) (hb : ev C b env S = .ok (.bl y) S) : ev C (.and a b) env S = .ok (.bl (x && y)) S := by
  cases x
  · exact ev_andF ha
  · exact ev_andT ha hb
theorem ev_orB {C : K9.Ctx} {a b : Ex} {env : K9.Env} {S : Sto} {x y : Bool} (ha : ev C a env S = .ok (.bl x) S) (hb : ev C b env S = .ok (.bl y) S) : ev C (.or a b) env S = .ok (.bl (x || y)) S := by
  cases x
  · exact ev_orF ha hb
  · exact ev_orT ha
/-- a[:i] -/
theorem ev_slTo {C : K9.Ctx} {a b : Ex} {env : K9.Env} {S S1 S2 : Sto} {x : D} {i : Int} {r : R D} (ha : ev C a env S = .ok x S1) (hb : ev C b env S1 = .ok (.int i) S2) (h : slD (rd x) none (some i) env S2 = r) : ev C (.sl a .non b) env S = r := by
  simp only [ev, ha, hb, bindR_ok]
  rw [show partR .non (R.ok D.non S1) = .ok none S1 from rfl, bind_ok, hb]
  have e : ∀ (q : R D), q = .ok (.int i) S2 → (partR b q) = .ok (some i) S2 := fun q hq => by
    subst hq
    cases b <;> first | rfl | (simp only [ev] at hb; cases hb)
  rw [e _ rfl, bind_ok, h]
/-- a[i:] -/
theorem ev_slFrom {C : K9.Ctx} {a b : Ex} {env : K9.Env} {S S1 S2 : Sto} {x : D} {i : Int} {r : R D} (ha : ev C a env S = .ok x S1) (hb : ev C b env S1 = .ok (.int i) S2) (h : slD (rd x) (some i) none env S2 = r) : ev C (.sl a b .non) env S = r := by
  simp only [ev, ha, hb, bindR_ok]
  have e : ∀ (q : R D), q = .ok (.int i) S2 → (partR b q) = .ok (some i) S2 := fun q hq => by
    subst hq
    cases b <;> first | rfl | (simp only [ev] at hb; cases hb)
  rw [e _ rfl, bind_ok]
  exact h
theorem sl_str {t : Str} {l h : Option Int} {env : K9.Env} {S : Sto} (ht : t.length ≤ sizeLine) : slD (.str t) l h env S = .ok (.str ⟨(cutL t.cps.toList l h).toArray⟩) S := chk_pos ht
theorem bin_addS {x y : Str} {env : K9.Env} {S : Sto} (h : x.length + y.length ≤ sizeLine) : binD .add (.str x) (.str y) env S = .ok (.str (x ++ y)) S := chk_pos h
def bWords (fc : Nat) : Sms := (.cons (.unp [5, 6] (.tup (.cons false (.str "abcdefghijklmnopqrstuvwxyz") (.cons false (.call fc (.cons false (.var 0) (.cons false (.int 3) .nil))) .nil)))) (.cons (.asg 2 (.lst (.cons false (.str "all") (.cons false (.str "as") (.cons false (.str "key") (.cons false (.str "id") (.cons false (.str "town") (.cons false (.str "table") (.cons false (.str "is") (.cons false (.str "same") (.cons false (.str "missing") (.cons false (.str "settles") (.cons false (.str "pair") (.cons false (.str "left") (.cons false (.str "a") (.cons false (.str "b") .nil)))))))))))))))) (.cons (.asg 3 (.mt .join (.str "") (.cons false (.lc [8] [8] (.rng1 (.int 8)) (.bl true) (.ix (.var 5) (.call fc (.cons false (.var 0) (.cons false (.int 26) .nil))))) .nil))) (.cons (.ite (.and (.cmp .eq (.var 6) (.int 0)) (.cmp .lt (.var 1) (.int 15))) (.cons (.asg 4 (.call fc (.cons false (.var 0) (.cons false (.int 14) .nil)))) (.cons (.ret (.lc [7] [7] (.rng1 (.var 1)) (.bl true) (.ix (.var 2) (.bin .mod (.bi .int (.cons false (.bin .add (.var 4) (.bin .mul (.int 3) (.var 7))) .nil)) (.int 14))))) .nil)) .nil) (.cons (.ite (.and (.cmp .eq (.var 6) (.int 1)) (.cmp .lt (.var 1) (.int 9))) (.cons (.ret (.lc [7] [7] (.rng1 (.var 1)) (.bl true) (.sl (.var 3) .non (.bin .add (.var 7) (.int 1))))) .nil) .nil) (.cons (.asg 4 (.call fc (.cons false (.var 0) (.cons false (.int 26) .nil)))) (.cons (.ret (.lc [7] [7] (.rng1 (.var 1)) (.bl true) (.bin .add (.ix (.var 5) (.bin .mod (.bi .int (.cons false (.bin .add (.var 4) (.var 7)) .nil)) (.int 26))) (.sl (.var 3) .non (.bin .fdiv (.var 7) (.int 26)))))) .nil)))))))
def fWords (fc : Nat) : Fn := ⟨2, 9, bWords fc⟩
theorem words_ok {f fc n p c : Nat} (hf : P.fn f = some (fWords fc)) (hc : P.fn fc = some fCoin) {S : Sto} {many : Nat} (h : Pu S p c) (hb : c + 10 < 2 ^ 40) (hm : many ≤ 20) :
    ∃ (l : List Str) (S' : Sto), callT P wf (n + 2) f [.ref p, .int many] S = .ok (.own (.lst (l.map .str))) S' ∧ l.length = many ∧ (∀ t ∈ l, LW 9 t) ∧ Pu S' p (c + 10) ∧ Onl p S S' := by
  obtain ⟨w, S1, w1, w2, w3, w4, w5⟩ := ev_coin (wf := wf) (n := n) (i := 0) (env := [.fz (.ref p), .fz (.int many), .no, .no, .no, .no, .no, .no, .no]) (e := .int 3) hc h (by omega) rfl ev_intS (by decide) (by decide +kernel)
  have s0 : exS (ctxT P wf (n + 1)) (.unp [5, 6] (.tup (.cons false (.str "abcdefghijklmnopqrstuvwxyz") (.cons false (.call fc (.cons false (.var 0) (.cons false (.int 3) .nil))) .nil)))) [.fz (.ref p), .fz (.int many), .no, .no, .no, .no, .no, .no, .no] S = .ok (.nx [.fz (.ref p), .fz (.int many), .no, .no, .no, .fz (.str LET), .fz (.int w), .no, .no]) S1 :=
    s_unpS (ev_tupS (evs_consI ev_strS rfl rfl (evs_consI w1 rfl rfl evs_nilS)) (by rw [sizeLine_eq]; simp)) rfl
  -- the stem
  obtain ⟨ys, S2, f1, ⟨ts, rfl, g1, g2, g3⟩, f3⟩ := lc_inv (C := ctxT P wf (n + 1)) (elt := .ix (.var 5) (.call fc (.cons false (.var 0) (.cons false (.int 26) .nil)))) (i := 8) (env := [.fz (.ref p), .fz (.int many), .fz (.lst (menuS.map .str)), .no, .no, .fz (.str LET), .fz (.int w), .no, .no])
    (fun ys S' => ∃ ts : List Str, ys = ts.map .str ∧ (∀ t ∈ ts, LW 1 t) ∧ Pu S' p (c + 1 + ys.length) ∧ Onl p S1 S') 8 (by rw [sizeLine_eq]; decide) (upTo 0 (8 : Int).toNat) [] S1 ⟨[], rfl, (fun _ h => by cases h), w4, Onl.refl⟩ (fun x hx => by obtain ⟨k, _, rfl⟩ := upTo_int hx; rfl)
    (fun x hx ys S' ⟨ts, el, g1, g2, g3⟩ hl => by
      obtain ⟨d, S3, k1, k2, k3, k4, k5⟩ := ev_coin (wf := wf) (n := n) (i := 0) (env := [.fz (.ref p), .fz (.int many), .fz (.lst (menuS.map .str)), .no, .no, .fz (.str LET), .fz (.int w), .no, .fz x]) (e := .int 26) hc g2 (by omega) rfl ev_intS (by decide) (by decide +kernel)
      obtain ⟨k, rfl⟩ := Int.eq_ofNat_of_zero_le k2
      have hk : k < 26 := by omega
      refine ⟨.str ⟨#[97 + k]⟩, S3, ev_ixS (ev_var rfl) k1 (ix_let hk), rfl, ts ++ [⟨#[97 + k]⟩], by rw [el, List.map_append]; rfl, fun t ht => ?_, ?_, g3.trans k5⟩
      · rcases List.mem_append.mp ht with ht | ht
        · exact g1 t ht
        · rw [List.mem_singleton.mp ht]; exact LW.one hk
      · rw [List.length_append, List.length_singleton]
        exact k4) (by rw [upTo_len]; decide)
  rw [List.length_map, upTo_len, List.length_nil] at f3
  have f3 : ts.length = 8 := f3
  rw [List.length_map, f3] at g2
  have stem := join_LW ts g1
  rw [f3] at stem
  have s1 : exS (ctxT P wf (n + 1)) (.asg 2 (.lst (.cons false (.str "all") (.cons false (.str "as") (.cons false (.str "key") (.cons false (.str "id") (.cons false (.str "town") (.cons false (.str "table") (.cons false (.str "is") (.cons false (.str "same") (.cons false (.str "missing") (.cons false (.str "settles") (.cons false (.str "pair") (.cons false (.str "left") (.cons false (.str "a") (.cons false (.str "b") .nil)))))))))))))))) [.fz (.ref p), .fz (.int many), .no, .no, .no, .fz (.str LET), .fz (.int w), .no, .no] S1 = .ok (.nx [.fz (.ref p), .fz (.int many), .fz (.lst (menuS.map .str)), .no, .no, .fz (.str LET), .fz (.int w), .no, .no]) S1 := by kernel_rfl
  have s2 : exS (ctxT P wf (n + 1)) (.asg 3 (.mt .join (.str "") (.cons false (.lc [8] [8] (.rng1 (.int 8)) (.bl true) (.ix (.var 5) (.call fc (.cons false (.var 0) (.cons false (.int 26) .nil))))) .nil))) [.fz (.ref p), .fz (.int many), .fz (.lst (menuS.map .str)), .no, .no, .fz (.str LET), .fz (.int w), .no, .no] S1 = .ok (.nx [.fz (.ref p), .fz (.int many), .fz (.lst (menuS.map .str)), .fz (.str (Str.join "" ts)), .no, .fz (.str LET), .fz (.int w), .no, .no]) S2 := by
    refine s_asgS (x := .str (Str.join "" ts)) (ev_mtS (xs := [.lst (ts.map .str)]) ev_strS rfl (evl_consS (x := .own (.lst (ts.map .str))) (ev_lcS (p := ⟨upTo 0 (8 : Int).toNat, [], false⟩) (evIt_rng1 ev_intS (by decide)) f1 (by rw [List.length_map, f3, sizeLine_eq]; decide)) evl_nilS) ?_) rfl
    show oget (strsD (ts.map .str)) _ = _
    rw [strsD_map, oget_some, chk_pos]
    have q := sum_le 1 ts fun t ht => (g1 t ht).1
    rw [sizeLine_eq]
    show _ + 0 * _ ≤ _
    omega
  have key : ∀ {r : R Fl}, exSs (ctxT P wf (n + 1)) (.cons (.ite (.and (.cmp .eq (.var 6) (.int 0)) (.cmp .lt (.var 1) (.int 15))) (.cons (.asg 4 (.call fc (.cons false (.var 0) (.cons false (.int 14) .nil)))) (.cons (.ret (.lc [7] [7] (.rng1 (.var 1)) (.bl true) (.ix (.var 2) (.bin .mod (.bi .int (.cons false (.bin .add (.var 4) (.bin .mul (.int 3) (.var 7))) .nil)) (.int 14))))) .nil)) .nil) (.cons (.ite (.and (.cmp .eq (.var 6) (.int 1)) (.cmp .lt (.var 1) (.int 9))) (.cons (.ret (.lc [7] [7] (.rng1 (.var 1)) (.bl true) (.sl (.var 3) .non (.bin .add (.var 7) (.int 1))))) .nil) .nil) (.cons (.asg 4 (.call fc (.cons false (.var 0) (.cons false (.int 26) .nil)))) (.cons (.ret (.lc [7] [7] (.rng1 (.var 1)) (.bl true) (.bin .add (.ix (.var 5) (.bin .mod (.bi .int (.cons false (.bin .add (.var 4) (.var 7)) .nil)) (.int 26))) (.sl (.var 3) .non (.bin .fdiv (.var 7) (.int 26)))))) .nil)))) [.fz (.ref p), .fz (.int many), .fz (.lst (menuS.map .str)), .fz (.str (Str.join "" ts)), .no, .fz (.str LET), .fz (.int w), .no, .no] S2 = r → exSs (ctxT P wf (n + 1)) (bWords fc) [.fz (.ref p), .fz (.int many), .no, .no, .no, .no, .no, .no, .no] S = r := fun h => ss_nx s0 (ss_nx s1 (ss_nx s2 h))
  have fin : ∀ {d : D} {S' : Sto}, exSs (ctxT P wf (n + 1)) (bWords fc) [.fz (.ref p), .fz (.int many), .no, .no, .no, .no, .no, .no, .no] S = .ok (.rt d) S' → callT P wf (n + 2) f [.ref p, .int many] S = .ok d S' := fun {d S'} h => by
    rw [callT_eq hf, runFn_eq rfl]
    show (exSs (ctxT P wf (n + 1)) (bWords fc) [.fz (.ref p), .fz (.int many), .no, .no, .no, .no, .no, .no, .no] S).bind finF = _
    rw [h]; rfl
  have hrng : rngOk (many : Int) := ⟨by omega, by omega⟩
  have hup : (upTo 0 ((many : Int)).toNat).length = many := by rw [upTo_len]; rfl
  have hsz : (upTo 0 ((many : Int)).toNat).length ≤ sizeLine := by rw [hup, sizeLine_eq]; omega
  have onl2 : Onl p S S2 := w5.trans g3
  by_cases b1 : w = 0 ∧ many < 15
  · obtain ⟨d, S3, k1, k2, k3, k4, k5⟩ := ev_coin (wf := wf) (n := n) (i := 0) (env := [.fz (.ref p), .fz (.int many), .fz (.lst (menuS.map .str)), .fz (.str (Str.join "" ts)), .no, .fz (.str LET), .fz (.int w), .no, .no]) (e := .int 14) hc g2 (by omega) rfl ev_intS (by decide) (by decide +kernel)
    obtain ⟨k, rfl⟩ := Int.eq_ofNat_of_zero_le k2
    obtain ⟨l, l1, l2, l3⟩ := lc_strs (C := ctxT P wf (n + 1)) (elt := .ix (.var 2) (.bin .mod (.bi .int (.cons false (.bin .add (.var 4) (.bin .mul (.int 3) (.var 7))) .nil)) (.int 14))) (i := 7) (env := [.fz (.ref p), .fz (.int many), .fz (.lst (menuS.map .str)), .fz (.str (Str.join "" ts)), .fz (.int k), .fz (.str LET), .fz (.int w), .no, .no]) (S := S3) (LW 9) (upTo 0 ((many : Int)).toNat) hsz (fun x hx => by
      obtain ⟨j, _, rfl⟩ := upTo_int hx
      refine ⟨rfl, menuS[(k + 3 * j) % 14]'(Nat.mod_lt _ (by decide)), ?_, menu_LW _ (List.getElem_mem _)⟩
      refine ev_ixS (y := .int (((k + 3 * j) % 14 : Nat) : Int)) (ev_var rfl) ?_ (ix_lst ?_)
      · have e : (((k + 3 * j) % 14 : Nat) : Int) = ((k : Int) + 3 * (0 + (j : Int))) % 14 := by omega
        rw [e]
        exact ev_modI (ev_intI (ev_addI (ev_var rfl) (ev_mulI ev_intS (ev_var rfl) (.inl ⟨by decide, by decide⟩)))) ev_intS (by decide)
      · rw [List.getElem?_map, List.getElem?_eq_getElem (show (k + 3 * j) % 14 < menuS.length from Nat.mod_lt _ (by decide))]; rfl)
    refine ⟨l, S3, fin (key (ss_rt (s_iteT (S1 := S2) ?_ (ss_nx (s_asgS k1 rfl) (ss_rt (s_retS (ev_lcS (evIt_rng1 (ev_var rfl) hrng) l1 (by rw [List.length_map, l2]; exact hsz)) rfl)))))), by rw [l2, hup], l3, k4.mono (by omega), onl2.trans k5⟩
    refine ev_andT (S1 := S2) ?_ ?_
    · have := ev_eqI (C := ctxT P wf (n + 1)) (S := S2) (a := .var 6) (b := .int 0) (env := [.fz (.ref p), .fz (.int many), .fz (.lst (menuS.map .str)), .fz (.str (Str.join "" ts)), .no, .fz (.str LET), .fz (.int w), .no, .no]) (ev_var rfl) ev_intS
      rw [b1.1] at this ⊢
      exact this
    · have := ev_ltI (C := ctxT P wf (n + 1)) (S := S2) (a := .var 1) (b := .int 15) (env := [.fz (.ref p), .fz (.int many), .fz (.lst (menuS.map .str)), .fz (.str (Str.join "" ts)), .no, .fz (.str LET), .fz (.int w), .no, .no]) (ev_var rfl) ev_intS
      rw [decide_eq_true (by omega)] at this
      exact this
  have c1 : exS (ctxT P wf (n + 1)) (.ite (.and (.cmp .eq (.var 6) (.int 0)) (.cmp .lt (.var 1) (.int 15))) (.cons (.asg 4 (.call fc (.cons false (.var 0) (.cons false (.int 14) .nil)))) (.cons (.ret (.lc [7] [7] (.rng1 (.var 1)) (.bl true) (.ix (.var 2) (.bin .mod (.bi .int (.cons false (.bin .add (.var 4) (.bin .mul (.int 3) (.var 7))) .nil)) (.int 14))))) .nil)) .nil) [.fz (.ref p), .fz (.int many), .fz (.lst (menuS.map .str)), .fz (.str (Str.join "" ts)), .no, .fz (.str LET), .fz (.int w), .no, .no] S2 = .ok (.nx [.fz (.ref p), .fz (.int many), .fz (.lst (menuS.map .str)), .fz (.str (Str.join "" ts)), .no, .fz (.str LET), .fz (.int w), .no, .no]) S2 := by
    refine s_iteF (S1 := S2) ?_ ss_nil'
    rw [show false = ((w == 0) && decide ((many : Int) < 15)) from ?_]
    · exact ev_andB (ev_eqI (ev_var rfl) ev_intS) (ev_ltI (ev_var rfl) ev_intS)
    · symm
      rw [Bool.and_eq_false_iff]
      by_cases h : w = 0
      · right
        exact decide_eq_false fun z => b1 ⟨h, by omega⟩
      · left
        exact beq_false_of_ne h
  by_cases b2 : w = 1 ∧ many < 9
  · obtain ⟨l, l1, l2, l3⟩ := lc_strs (C := ctxT P wf (n + 1)) (elt := .sl (.var 3) .non (.bin .add (.var 7) (.int 1))) (i := 7) (env := [.fz (.ref p), .fz (.int many), .fz (.lst (menuS.map .str)), .fz (.str (Str.join "" ts)), .no, .fz (.str LET), .fz (.int w), .no, .no]) (S := S2) (LW 9) (upTo 0 ((many : Int)).toNat) hsz (fun x hx => by
      obtain ⟨j, _, rfl⟩ := upTo_int hx
      refine ⟨rfl, _, ev_slTo (ev_var rfl) (ev_addI (ev_var rfl) ev_intS) (sl_str (by rw [sizeLine_eq]; have := stem.1; omega)), stem.cut.mono (by omega)⟩)
    refine ⟨l, S2, fin (key (ss_nx c1 (ss_rt (s_iteT (S1 := S2) ?_ (ss_rt (s_retS (ev_lcS (evIt_rng1 (ev_var rfl) hrng) l1 (by rw [List.length_map, l2]; exact hsz)) rfl)))))), by rw [l2, hup], l3, g2.mono (by omega), onl2⟩
    rw [show true = ((w == 1) && decide ((many : Int) < 9)) from by rw [b2.1, decide_eq_true (by omega)]; rfl]
    exact ev_andB (ev_eqI (ev_var rfl) ev_intS) (ev_ltI (ev_var rfl) ev_intS)
  · have c2 : exS (ctxT P wf (n + 1)) (.ite (.and (.cmp .eq (.var 6) (.int 1)) (.cmp .lt (.var 1) (.int 9))) (.cons (.ret (.lc [7] [7] (.rng1 (.var 1)) (.bl true) (.sl (.var 3) .non (.bin .add (.var 7) (.int 1))))) .nil) .nil) [.fz (.ref p), .fz (.int many), .fz (.lst (menuS.map .str)), .fz (.str (Str.join "" ts)), .no, .fz (.str LET), .fz (.int w), .no, .no] S2 = .ok (.nx [.fz (.ref p), .fz (.int many), .fz (.lst (menuS.map .str)), .fz (.str (Str.join "" ts)), .no, .fz (.str LET), .fz (.int w), .no, .no]) S2 := by
      refine s_iteF (S1 := S2) ?_ ss_nil'
      rw [show false = ((w == 1) && decide ((many : Int) < 9)) from ?_]
      · exact ev_andB (ev_eqI (ev_var rfl) ev_intS) (ev_ltI (ev_var rfl) ev_intS)
      · symm
        rw [Bool.and_eq_false_iff]
        by_cases h : w = 1
        · right
          exact decide_eq_false fun z => b2 ⟨h, by omega⟩
        · left
          exact beq_false_of_ne h
    obtain ⟨d, S3, k1, k2, k3, k4, k5⟩ := ev_coin (wf := wf) (n := n) (i := 0) (env := [.fz (.ref p), .fz (.int many), .fz (.lst (menuS.map .str)), .fz (.str (Str.join "" ts)), .no, .fz (.str LET), .fz (.int w), .no, .no]) (e := .int 26) hc g2 (by omega) rfl ev_intS (by decide) (by decide +kernel)
    obtain ⟨k, rfl⟩ := Int.eq_ofNat_of_zero_le k2
    obtain ⟨l, l1, l2, l3⟩ := lc_strs (C := ctxT P wf (n + 1)) (elt := .bin .add (.ix (.var 5) (.bin .mod (.bi .int (.cons false (.bin .add (.var 4) (.var 7)) .nil)) (.int 26))) (.sl (.var 3) .non (.bin .fdiv (.var 7) (.int 26)))) (i := 7) (env := [.fz (.ref p), .fz (.int many), .fz (.lst (menuS.map .str)), .fz (.str (Str.join "" ts)), .fz (.int k), .fz (.str LET), .fz (.int w), .no, .no]) (S := S3) (LW 9) (upTo 0 ((many : Int)).toNat) hsz (fun x hx => by
      obtain ⟨j, _, rfl⟩ := upTo_int hx
      have hk : (k + j) % 26 < 26 := Nat.mod_lt _ (by decide)
      have a1 : ev (ctxT P wf (n + 1)) (.ix (.var 5) (.bin .mod (.bi .int (.cons false (.bin .add (.var 4) (.var 7)) .nil)) (.int 26))) (([.fz (.ref p), .fz (.int many), .fz (.lst (menuS.map .str)), .fz (.str (Str.join "" ts)), .fz (.int k), .fz (.str LET), .fz (.int w), .no, .no] : K9.Env).set 7 (.fz (.int (0 + j)))) S3 = .ok (.str ⟨#[97 + (k + j) % 26]⟩) S3 := by
        refine ev_ixS (y := .int (((k + j) % 26 : Nat) : Int)) (ev_var rfl) ?_ (ix_let hk)
        have e : (((k + j) % 26 : Nat) : Int) = ((k : Int) + (0 + (j : Int))) % 26 := by omega
        rw [e]
        exact ev_modI (ev_intI (ev_addI (ev_var rfl) (ev_var rfl))) ev_intS (by decide)
      refine ⟨rfl, _, ev_binS a1 (ev_slTo (ev_var rfl) (ev_fdivI (ev_var rfl) ev_intS (by decide) (by decide +kernel)) (sl_str (by rw [sizeLine_eq]; have := stem.1; omega))) (bin_addS ?_), ((LW.one hk).app stem.cut).mono (by omega)⟩
      have := (stem.cut (lo := none) (hi := some ((0 + (j : Int)) / 26))).1
      rw [sizeLine_eq]
      show (1 : Nat) + _ ≤ _
      omega)
    exact ⟨l, S3, fin (key (ss_nx c1 (ss_nx c2 (ss_nx (s_asgS k1 rfl) (ss_rt (s_retS (ev_lcS (evIt_rng1 (ev_var rfl) hrng) l1 (by rw [List.length_map, l2]; exact hsz)) rfl)))))), by rw [l2, hup], l3, k4.mono (by omega), onl2.trans k5⟩
end KL
end
section
set_option Elab.async false
set_option linter.all false
set_option maxRecDepth 100000
set_option maxHeartbeats 0
set_option exponentiation.threshold 2000
namespace KL
open K9 PySem PyProof.Rows
variable {P : Prog} {wf : Nat}
/-! ### loops -/
def LiveOk (S : Sto) (live : List (Nat × List D)) : Prop := ∀ p ∈ live, S[p.1]? = some (.lst p.2)
theorem chkLive_ok {α : Type} {S : Sto} {live : List (Nat × List D)} {r : R α} (h : LiveOk S live) : chkLive S live r = r := by
  unfold chkLive
  cases live with
  | nil => rfl
  | cons p l => exact if_pos h
theorem LiveOk.nil {S : Sto} : LiveOk S [] := fun _ h => by cases h
theorem for_nil {C : K9.Ctx} {b : Sms} {tg : List Nat} {live : List (Nat × List D)} {env : K9.Env} {S : Sto} (hl : LiveOk S live) : forGo (exSs C b) tg live [] env S = .ok (.nx env) S := by
  show chkLive S live _ = _
  rw [chkLive_ok hl]
theorem for_consE {C : K9.Ctx} {b : Sms} {tg : List Nat} {live : List (Nat × List D)} {x : D} {xs : List D} {env e1 : K9.Env} {S : Sto} (hl : LiveOk S live) (ha : asgT tg x env = some e1) : forGo (exSs C b) tg live (x :: xs) env S = (exSs C b e1 S).bind fun f S1 => match f with
    | .nx e1 => forGo (exSs C b) tg live xs e1 S1
    | .ct e1 => forGo (exSs C b) tg live xs e1 S1
    | .rt d => .ok (.rt d) S1 := by
  show chkLive S live (oget (asgT tg x env) _) = _
  rw [chkLive_ok hl, ha]; rfl
theorem for_cons {C : K9.Ctx} {b : Sms} {tg : List Nat} {live : List (Nat × List D)} {x : D} {xs : List D} {env e1 e2 : K9.Env} {S S1 : Sto} {r : R Fl} (hl : LiveOk S live) (ha : asgT tg x env = some e1) (h : exSs C b e1 S = .ok (.nx e2) S1) (h2 : forGo (exSs C b) tg live xs e2 S1 = r) : forGo (exSs C b) tg live (x :: xs) env S = r := by
  rw [for_consE hl ha, h]; exact h2
theorem for_rt {C : K9.Ctx} {b : Sms} {tg : List Nat} {live : List (Nat × List D)} {x d : D} {xs : List D} {env e1 : K9.Env} {S S1 : Sto} (hl : LiveOk S live) (ha : asgT tg x env = some e1) (h : exSs C b e1 S = .ok (.rt d) S1) : forGo (exSs C b) tg live (x :: xs) env S = .ok (.rt d) S1 := by
  rw [for_consE hl ha, h]; rfl
theorem for_er {C : K9.Ctx} {b : Sms} {tg : List Nat} {live : List (Nat × List D)} {x d : D} {c : Nat} {xs : List D} {env e1 : K9.Env} {S S1 : Sto} (hl : LiveOk S live) (ha : asgT tg x env = some e1) (h : exSs C b e1 S = .er c d S1) : forGo (exSs C b) tg live (x :: xs) env S = .er c d S1 := by
  rw [for_consE hl ha, h]; rfl
/-- a loop that counts -/
theorem for_cnt {C : K9.Ctx} {b : Sms} {tg : List Nat} {live : List (Nat × List D)} (I : Nat → K9.Env → Sto → Prop) (B : Nat) (hlv : ∀ k env S, I k env S → LiveOk S live) : ∀ (xs : List D) (k : Nat) (env : K9.Env) (S : Sto), I k env S → k + xs.length ≤ B →
    (∀ x ∈ xs, ∀ k env S, k < B → I k env S → ∃ e1 e2 S1, asgT tg x env = some e1 ∧ exSs C b e1 S = .ok (.nx e2) S1 ∧ I (k + 1) e2 S1) →
    ∃ e2 S1, forGo (exSs C b) tg live xs env S = .ok (.nx e2) S1 ∧ I (k + xs.length) e2 S1
  | [], k, env, S, h, _, _ => ⟨env, S, for_nil (hlv k env S h), h⟩
  | x :: xs, k, env, S, h, hB, hs => by
    rw [List.length_cons] at hB
    obtain ⟨e1, e2, S1, h1, h2, h3⟩ := hs x List.mem_cons_self k env S (by omega) h
    obtain ⟨e3, S2, h4, h5⟩ := for_cnt I B hlv xs (k + 1) e2 S1 h3 (by omega) fun x hx => hs x (List.mem_cons_of_mem _ hx)
    refine ⟨e3, S2, for_cons (hlv k env S h) h1 h2 h4, ?_⟩
    rw [List.length_cons, show k + (xs.length + 1) = k + 1 + xs.length by omega]
    exact h5
/-- a comprehension that counts -/
theorem lc_cnt {C : K9.Ctx} {cnd elt : Ex} {tg : List Nat} {env : K9.Env} {live : List (Nat × List D)} (I : Nat → List D → Sto → Prop) (B : Nat) (hB : B ≤ sizeLine) (hlv : ∀ k ys S, I k ys S → LiveOk S live) : ∀ (xs : List D) (k : Nat) (ys : List D) (S : Sto), I k ys S → k + xs.length ≤ B → ys.length ≤ k →
    (∀ x ∈ xs, ∀ k ys S, k < B → I k ys S → ∃ e1 S1, asgT tg x env = some e1 ∧ ((ev C cnd e1 S = .ok (.bl false) S1 ∧ I (k + 1) ys S1) ∨ (ev C cnd e1 S = .ok (.bl true) S1 ∧ ∃ y S2, ev C elt e1 S1 = .ok y S2 ∧ (rd y).isAcc = false ∧ I (k + 1) (ys ++ [rd y]) S2))) →
    ∃ ys' S', lcGo (ev C cnd) (ev C elt) tg env live xs ys S = .ok ys' S' ∧ I (k + xs.length) ys' S' ∧ ys'.length ≤ k + xs.length
  | [], k, ys, S, h, _, hy, _ => ⟨ys, S, by show chkLive S live _ = _; rw [chkLive_ok (hlv k ys S h)], h, hy⟩
  | x :: xs, k, ys, S, h, hk, hy, hs => by
    rw [List.length_cons] at hk
    have e0 : ∀ {e1 : K9.Env}, asgT tg x env = some e1 → lcGo (ev C cnd) (ev C elt) tg env live (x :: xs) ys S = (ev C cnd e1 S).bindR fun b S1 => ifD b ((ev C elt e1 S1).bindR fun y S2 => if y.isAcc then .bad else chk (ys.length < sizeLine) (lcGo (ev C cnd) (ev C elt) tg env live xs (ys ++ [y]) S2)) (lcGo (ev C cnd) (ev C elt) tg env live xs ys S1) := fun {e1} ha => by
      show chkLive S live (oget (asgT tg x env) _) = _
      rw [chkLive_ok (hlv k ys S h), ha]; rfl
    have ek : k + (xs.length + 1) = k + 1 + xs.length := by omega
    rw [List.length_cons, ek]
    obtain ⟨e1, S1, h1, h2⟩ := hs x List.mem_cons_self k ys S (by omega) h
    rcases h2 with ⟨h2, h3⟩ | ⟨h2, y, S2, h3, h4, h5⟩
    · obtain ⟨ys', S', f1, f2⟩ := lc_cnt I B hB hlv xs (k + 1) ys S1 h3 (by omega) (by omega) fun x hx => hs x (List.mem_cons_of_mem _ hx)
      exact ⟨ys', S', by rw [e0 h1, h2, bindR_ok, rd_bl]; exact f1, f2⟩
    · obtain ⟨ys', S', f1, f2⟩ := lc_cnt I B hB hlv xs (k + 1) (ys ++ [rd y]) S2 h5 (by omega) (by rw [List.length_append, List.length_singleton]; omega) fun x hx => hs x (List.mem_cons_of_mem _ hx)
      refine ⟨ys', S', ?_, f2⟩
      rw [e0 h1, h2, bindR_ok, rd_bl, show ∀ (f g : R (List D)), ifD (.bl true) f g = f from fun _ _ => rfl, h3, bindR_ok, h4]
      show chk (ys.length < sizeLine) _ = _
      rw [chk_pos (by omega), f1]
/-! ### texts -/
def TW (n : Nat) (t : Str) : Prop := t.length ≤ n ∧ ∀ c ∈ t.cps.toList, c < 128
theorem LW.tw {n : Nat} {t : Str} (h : LW n t) : TW n t := ⟨h.1, fun c hc => by have := h.2 c hc; omega⟩
theorem TW.mono {n m : Nat} {t : Str} (h : TW n t) (hn : n ≤ m) : TW m t := ⟨Nat.le_trans h.1 hn, h.2⟩
theorem TW.app {n m : Nat} {a b : Str} (ha : TW n a) (hb : TW m b) : TW (n + m) (a ++ b) := by
  refine ⟨by rw [strLen_append]; have := ha.1; have := hb.1; omega, fun c h => ?_⟩
  have e : (a ++ b).cps.toList = a.cps.toList ++ b.cps.toList := by
    show (a.cps ++ b.cps).toList = _
    exact Array.toList_append
  rw [e] at h
  rcases List.mem_append.mp h with h | h
  · exact ha.2 c h
  · exact hb.2 c h
theorem TW.cut {n : Nat} {t : Str} (h : TW n t) {lo hi : Option Int} : TW n ⟨(cutL t.cps.toList lo hi).toArray⟩ :=
  ⟨by rw [len_mk]; have := cut_len (xs := t.cps.toList) (lo := lo) (hi := hi); rw [str_len] at this; exact Nat.le_trans this h.1, fun c hc => h.2 c (cut_sub (by simpa using hc))⟩
theorem TW.upper {n : Nat} {t : Str} (h : TW n t) : TW n (Txt.upper t) := by
  rw [upper_ascii h.2]
  refine ⟨?_, fun c hc => ?_⟩
  · have : (Str.mk (t.cps.map up1)).length = t.length := by
      show (t.cps.map up1).size = t.cps.size
      simp
    rw [this]; exact h.1
  · have hc' : c ∈ t.cps.toList.map up1 := by simpa using hc
    obtain ⟨d, hd, rfl⟩ := List.mem_map.mp hc'
    have := h.2 d hd
    unfold up1
    split <;> omega
theorem TW.sm {t : Str} (h : TW 60 t) : smD (.str t) := ⟨h.1, fun c hc => by have := h.2 c hc; omega⟩
/-! ### tables and rules as they are drawn -/
abbrev Tb := Str × List Str
def tbF (t : Tb) : D := .tup [.str t.1, .lst (t.2.map .str)]
def lfs (l : List Str) : List Tr := l.map fun s => .leaf (.str s)
def tbT (t : Tb) : Tr := .tup [.leaf (.str t.1), .lst (lfs t.2)]
def TbOk (n k : Nat) (t : Tb) : Prop := TW n t.1 ∧ 1 ≤ t.2.length ∧ t.2.length ≤ k ∧ ∀ c ∈ t.2, TW n c
def bTables (fc fw : Nat) : Sms := (.cons (.acc 3 (.lst .nil)) (.cons (.for_ [4] (.seq (.call fw (.cons false (.var 0) (.cons false (.bin .add (.int 1) (.call fc (.cons false (.var 0) (.cons false (.var 1) .nil)))) .nil)))) (.cons (.mut .append (.var 3) (.cons false (.tup (.cons false (.var 4) (.cons false (.call fw (.cons false (.var 0) (.cons false (.bin .add (.int 1) (.call fc (.cons false (.var 0) (.cons false (.var 2) .nil)))) .nil))) .nil))) .nil)) .nil)) (.cons (.ret (.var 3)) .nil)))
def fTables (fc fw : Nat) : Fn := ⟨3, 5, bTables fc fw⟩
/-- so many words, by a coin -/
theorem ev_words {fw fc n p c i : Nat} (hw : P.fn fw = some (fWords fc)) (hc : P.fn fc = some fCoin) {S : Sto} {env : K9.Env} {m : Nat} (h0 : env[0]? = some (.fz (.ref p))) (hi : env[i]? = some (.fz (.int m))) (h : Pu S p c) (hb : c + 11 < 2 ^ 40) (hm : 1 ≤ m) (hm2 : m ≤ 20) :
    ∃ (l : List Str) (S' : Sto), ev (ctxT P wf (n + 2)) (.call fw (.cons false (.var 0) (.cons false (.bin .add (.int 1) (.call fc (.cons false (.var 0) (.cons false (.var i) .nil)))) .nil))) env S = .ok (.own (.lst (l.map .str))) S' ∧ 1 ≤ l.length ∧ l.length ≤ m ∧ (∀ t ∈ l, LW 9 t) ∧ Pu S' p (c + 11) ∧ Onl p S S' := by
  obtain ⟨d, S1, h1, h2, h3, h4, h5⟩ := ev_coin (wf := wf) (n := n + 1) (i := 0) (env := env) (e := .var i) hc h (by omega) h0 (ev_var hi) (by omega) (Nat.lt_of_le_of_lt (m := 20) (by omega) (by decide +kernel))
  obtain ⟨k, rfl⟩ := Int.eq_ofNat_of_zero_le h2
  obtain ⟨l, S', k1, k2, k3, k4, k5⟩ := words_ok (wf := wf) (n := n) (many := 1 + k) hw hc h4 (by omega) (by omega)
  refine ⟨l, S', ev_callS (evs_consI (ev_var h0) rfl rfl (evs_consI (ev_addI ev_intS h1) rfl rfl evs_nilS)) ?_, by omega, by omega, k3, k4, h5.trans k5⟩
  rw [show (1 : Int) + (k : Int) = ((1 + k : Nat) : Int) by omega]
  exact k1
theorem tables_ok {f fc fw n p c mt mc : Nat} (hf : P.fn f = some (fTables fc fw)) (hw : P.fn fw = some (fWords fc)) (hc : P.fn fc = some fCoin) {S : Sto} (h : Pu S p c) (hb : c + 200 < 2 ^ 40) (h1 : 1 ≤ mt) (h2 : mt ≤ 8) (h3 : 1 ≤ mc) (h4 : mc ≤ 20) :
    ∃ (ts : List Tb) (S' : Sto), callT P wf (n + 3) f [.ref p, .int mt, .int mc] S = .ok (.own (.lst (ts.map tbF))) S' ∧ 1 ≤ ts.length ∧ ts.length ≤ mt ∧ (∀ t ∈ ts, TbOk 9 mc t) ∧ Pu S' p (c + 100) ∧ Onl p S S' := by
  obtain ⟨l, S1, w1, w2, w3, w4, w5, w6⟩ := ev_words (wf := wf) (n := n) (i := 1) (m := mt) (env := [.fz (.ref p), .fz (.int mt), .fz (.int mc), .al (.lst []), .no]) hw hc rfl rfl h (by omega) h1 (by omega)
  obtain ⟨e2, S2, f1, ts, s4, rfl, f2, f3, f4, f5⟩ := for_cnt (C := ctxT P wf (n + 2)) (b := (.cons (.mut .append (.var 3) (.cons false (.tup (.cons false (.var 4) (.cons false (.call fw (.cons false (.var 0) (.cons false (.bin .add (.int 1) (.call fc (.cons false (.var 0) (.cons false (.var 2) .nil)))) .nil))) .nil))) .nil)) .nil)) (tg := [4]) (live := [])
    (fun k env S => ∃ (ts : List Tb) (s4 : K9.Slot), env = [.fz (.ref p), .fz (.int mt), .fz (.int mc), .al (.lst (ts.map tbF)), s4] ∧ ts.length = k ∧ (∀ t ∈ ts, TbOk 9 mc t) ∧ Pu S p (c + 11 + 11 * k) ∧ Onl p S1 S) mt (fun _ _ _ _ => LiveOk.nil) (l.map .str) 0 [.fz (.ref p), .fz (.int mt), .fz (.int mc), .al (.lst []), .no] S1
    ⟨[], .no, rfl, rfl, (fun _ h => by cases h), w5, Onl.refl⟩ (by rw [List.length_map]; omega)
    (fun x hx k env S hk ⟨ts, s4, e, g1, g2, g3, g4⟩ => by
      subst e
      obtain ⟨t, ht, rfl⟩ := List.mem_map.mp hx
      obtain ⟨cs, S3, q1, q2, q3, q4, q5, q6⟩ := ev_words (wf := wf) (n := n) (i := 2) (m := mc) (env := [.fz (.ref p), .fz (.int mt), .fz (.int mc), .al (.lst (ts.map tbF)), .fz (.str t)]) hw hc rfl rfl g3 (by omega) h3 h4
      refine ⟨[.fz (.ref p), .fz (.int mt), .fz (.int mc), .al (.lst (ts.map tbF)), .fz (.str t)], [.fz (.ref p), .fz (.int mt), .fz (.int mc), .al (.lst ((ts ++ [(t, cs)]).map tbF)), .fz (.str t)], S3, rfl, ?_, ts ++ [(t, cs)], .fz (.str t), rfl, by rw [List.length_append, g1]; rfl, fun u hu => ?_, q5.mono (by omega), g4.trans q6⟩
      · refine ss_nx (s_mutS (xs := [tbF (t, cs)]) (p := (_, S3)) (ob := .lst (ts.map tbF)) (ob' := .lst ((ts ++ [(t, cs)]).map tbF)) (ev_accS rfl) rfl (evl_consS (x := tbF (t, cs)) (ev_tupS (evs_consI (ev_var rfl) rfl rfl (evs_consI q1 rfl rfl evs_nilS)) (by rw [sizeLine_eq]; simp)) evl_nilS) rfl rfl ?_ rfl) ss_nil'
        show (if (ts.map tbF).length < sizeLine then _ else none) = _
        rw [if_pos (by rw [List.length_map, sizeLine_eq]; omega), List.map_append]; rfl
      · rcases List.mem_append.mp hu with hu | hu
        · exact g2 u hu
        · rw [List.mem_singleton.mp hu]
          exact ⟨(w4 t ht).tw, q2, q3, fun c hc => (q4 c hc).tw⟩)
  rw [List.length_map] at f2 f4
  refine ⟨ts, S2, ?_, by omega, by omega, f3, f4.mono (by omega), w6.trans f5⟩
  rw [callT_eq hf, runFn_eq rfl]
  have s0 : exS (ctxT P wf (n + 2)) (.acc 3 (.lst .nil)) [.fz (.ref p), .fz (.int mt), .fz (.int mc), .no, .no] S = .ok (.nx [.fz (.ref p), .fz (.int mt), .fz (.int mc), .al (.lst []), .no]) S := by kernel_rfl
  have run : exSs (ctxT P wf (n + 2)) (bTables fc fw) [.fz (.ref p), .fz (.int mt), .fz (.int mc), .no, .no] S = .ok (.rt (.own (.lst (ts.map tbF)))) S2 :=
    ss_nx s0 (ss_nx (s_forS (evIt_own w1) rfl f1) (ss_rt (s_retS (ev_accS rfl) rfl)))
  show (exSs (ctxT P wf (n + 2)) (bTables fc fw) [.fz (.ref p), .fz (.int mt), .fz (.int mc), .no, .no] S).bind finF = _
  rw [run]; rfl
end KL
end
section
set_option Elab.async false
set_option linter.all false
set_option maxRecDepth 100000
set_option maxHeartbeats 0
set_option exponentiation.threshold 2000
namespace KL
open K9 PySem PyProof.Rows
variable {P : Prog} {wf : Nat}
structure Ru where
  w : Str
  t : Str
  cs : List Str
  e : Str
  e2 : Str
  n : Nat
def Ru.F (r : Ru) : D := .tup ([.str r.w, .str r.t, .lst (r.cs.map .str), .str r.e, .str r.e2].take r.n)
def Ru.T (r : Ru) : Tr := .tup ([.leaf (.str r.w), .leaf (.str r.t), .lst (lfs r.cs), .leaf (.str r.e), .leaf (.str r.e2)].take r.n)
def RuOk (n k : Nat) (r : Ru) : Prop := TW n r.w ∧ TW n r.t ∧ r.cs.length ≤ k ∧ (∀ c ∈ r.cs, TW n c) ∧ TW n r.e ∧ TW n r.e2 ∧ r.n ≤ 5
/-- a sound rule over tables -/
def RuOf (ts : List Tb) (r : Ru) : Prop := ∃ tb ∈ ts, r.t = tb.1 ∧ (∀ c ∈ r.cs, c ∈ tb.2) ∧ r.cs.length ≤ tb.2.length ∧ ((r.w = "key" ∧ r.n = 3) ∨ (r.w = "settles" ∧ r.n = 4 ∧ r.e ∈ tb.2)) ∧ r.e2 = ""
theorem ev_lenL {C : K9.Ctx} {e : Ex} {env : K9.Env} {S S1 : Sto} {xs : List D} (h : ev C e env S = .ok (.lst xs) S1) : ev C (.bi .len (.cons false e .nil)) env S = .ok (.int xs.length) S1 := ev_biS (evl_consS h evl_nilS) rfl
theorem ev_lenT {C : K9.Ctx} {e : Ex} {env : K9.Env} {S S1 : Sto} {xs : List D} (h : ev C e env S = .ok (.tup xs) S1) : ev C (.bi .len (.cons false e .nil)) env S = .ok (.int xs.length) S1 := ev_biS (evl_consS h evl_nilS) rfl
/-- one of a list, by a coin -/
theorem ev_pick {fc n p c i j : Nat} (hc : P.fn fc = some fCoin) {S : Sto} {env : K9.Env} {xs : List D} (h0 : env[i]? = some (.fz (.ref p))) (hj : env[j]? = some (.fz (.lst xs))) (h : Pu S p c) (hb : c < 2 ^ 40) (hx : 1 ≤ xs.length) (hx2 : xs.length ≤ 1000) :
    ∃ d S', ev (ctxT P wf (n + 1)) (.ix (.var j) (.call fc (.cons false (.var i) (.cons false (.bi .len (.cons false (.var j) .nil)) .nil)))) env S = .ok d S' ∧ d ∈ xs ∧ Pu S' p (c + 1) ∧ Onl p S S' := by
  obtain ⟨d, S1, h1, h2, h3, h4, h5⟩ := ev_coin (wf := wf) (n := n) (i := i) (env := env) (e := .bi .len (.cons false (.var j) .nil)) hc h hb h0 (ev_lenL (ev_var hj)) (by omega) (Nat.lt_of_le_of_lt (m := 1000) (by omega) (by decide +kernel))
  obtain ⟨k, rfl⟩ := Int.eq_ofNat_of_zero_le h2
  have hk : k < xs.length := by omega
  exact ⟨xs[k], S1, ev_ixS (ev_var hj) h1 (ix_lst (List.getElem?_eq_getElem hk)), List.getElem_mem _, h4, h5⟩
def bRules (fc : Nat) : Sms := (.cons (.acc 3 (.lst .nil)) (.cons (.for_ [4] (.rng1 (.call fc (.cons false (.var 0) (.cons false (.bin .add (.var 2) (.int 1)) .nil)))) (.cons (.unp [6, 7] (.ix (.var 1) (.call fc (.cons false (.var 0) (.cons false (.bi .len (.cons false (.var 1) .nil)) .nil))))) (.cons (.asg 5 (.lc [8] [8] (.seq (.var 7)) (.cmp .eq (.call fc (.cons false (.var 0) (.cons false (.int 2) .nil))) (.int 0)) (.var 8))) (.cons (.ite (.cmp .eq (.call fc (.cons false (.var 0) (.cons false (.int 2) .nil))) (.int 0)) (.cons (.mut .append (.var 3) (.cons false (.tup (.cons false (.str "key") (.cons false (.var 6) (.cons false (.var 5) .nil)))) .nil)) .nil) (.cons (.asg 8 (.ix (.var 7) (.call fc (.cons false (.var 0) (.cons false (.bi .len (.cons false (.var 7) .nil)) .nil))))) (.cons (.mut .append (.var 3) (.cons false (.tup (.cons false (.str "settles") (.cons false (.var 6) (.cons false (.var 5) (.cons false (.var 8) .nil))))) .nil)) .nil))) .nil)))) (.cons (.ret (.var 3)) .nil)))
def fRules (fc : Nat) : Fn := ⟨3, 9, bRules fc⟩
theorem evIt_lst {C : K9.Ctx} {env : K9.Env} {S S1 : Sto} {e : Ex} {xs : List D} (h : ev C e env S = .ok (.lst xs) S1) : evIt C (.seq e) env S = .ok ⟨xs, [], false⟩ S1 := by
  simp only [evIt, h, bindR_ok, rd]
  rfl
/-- some of a list, by coins -/
theorem some_ok {fc n p c : Nat} (hc : P.fn fc = some fCoin) {S : Sto} {env : K9.Env} {known : List Str} (h0 : env[0]? = some (.fz (.ref p))) (h7 : env[7]? = some (.fz (.lst (known.map .str)))) (hlen : 8 < env.length) (h : Pu S p c) (hb : c + 100 < 2 ^ 40) (hk : known.length ≤ 20) :
    ∃ (l : List Str) (S' : Sto), ev (ctxT P wf (n + 1)) (.lc [8] [8] (.seq (.var 7)) (.cmp .eq (.call fc (.cons false (.var 0) (.cons false (.int 2) .nil))) (.int 0)) (.var 8)) env S = .ok (.own (.lst (l.map .str))) S' ∧ l.length ≤ known.length ∧ (∀ t ∈ l, t ∈ known) ∧ Pu S' p (c + known.length) ∧ Onl p S S' := by
  have hw0 : (wipeE env [8])[0]? = some (.fz (.ref p)) := by
    show (env.set 8 .no)[0]? = _
    rw [List.getElem?_set_ne (by decide)]; exact h0
  obtain ⟨ys, S', f1, ⟨l, rfl, g1, g2, g3⟩, g4⟩ := lc_cnt (C := ctxT P wf (n + 1)) (cnd := .cmp .eq (.call fc (.cons false (.var 0) (.cons false (.int 2) .nil))) (.int 0)) (elt := .var 8) (tg := [8]) (env := wipeE env [8]) (live := [])
    (fun k ys S' => ∃ l : List Str, ys = l.map .str ∧ (∀ t ∈ l, t ∈ known) ∧ Pu S' p (c + k) ∧ Onl p S S') 20 (by rw [sizeLine_eq]; decide) (fun _ _ _ _ => LiveOk.nil) (known.map .str) 0 [] S ⟨[], rfl, (fun _ h => by cases h), h, Onl.refl⟩ (by rw [List.length_map]; omega) (Nat.le_refl _)
    (fun x hx k ys S1 hk ⟨l, e, q1, q2, q3⟩ => by
      subst e
      obtain ⟨t, ht, rfl⟩ := List.mem_map.mp hx
      have e0 : ((wipeE env [8]).set 8 (.fz (.str t)))[0]? = some (.fz (.ref p)) := by rw [List.getElem?_set_ne (by decide)]; exact hw0
      have e8 : ((wipeE env [8]).set 8 (.fz (.str t)))[8]? = some (.fz (.str t)) := by
        show ((env.set 8 .no).set 8 _)[8]? = _
        rw [List.getElem?_set_self (by rw [List.length_set]; exact hlen)]
      obtain ⟨d, S2, k1, k2, k3, k4, k5⟩ := ev_coin (wf := wf) (n := n) (i := 0) (env := (wipeE env [8]).set 8 (.fz (.str t))) (e := .int 2) hc q2 (by omega) e0 ev_intS (by decide) (by decide +kernel)
      refine ⟨(wipeE env [8]).set 8 (.fz (.str t)), S2, asg1 rfl, ?_⟩
      have hcond := ev_eqI k1 (ev_intS (i := 0) (S := S2))
      by_cases hd : d = 0
      · right
        rw [hd] at hcond
        refine ⟨hcond, .str t, S2, ev_var e8, rfl, l ++ [t], by rw [List.map_append]; rfl, fun u hu => ?_, k4, q3.trans k5⟩
        rcases List.mem_append.mp hu with hu | hu
        · exact q1 u hu
        · rw [List.mem_singleton.mp hu]; exact ht
      · left
        rw [beq_false_of_ne hd] at hcond
        exact ⟨hcond, l, rfl, q1, k4, q3.trans k5⟩)
  rw [List.length_map, List.length_map] at g4
  rw [List.length_map] at g2
  exact ⟨l, S', ev_lcS (evIt_lst (ev_var h7)) f1 (by rw [List.length_map, sizeLine_eq]; omega), by omega, g1, g2.mono (by omega), g3⟩
theorem rules_ok {f fc n p c m : Nat} (hf : P.fn f = some (fRules fc)) (hc : P.fn fc = some fCoin) {S : Sto} {ts : List Tb} {nn kk : Nat} (h : Pu S p c) (hb : c + 2000 < 2 ^ 40) (hts : 1 ≤ ts.length) (hts2 : ts.length ≤ 20) (hm : m ≤ 30) (hk : kk ≤ 20) (hn : 9 ≤ nn) (hok : ∀ t ∈ ts, TbOk nn kk t) :
    ∃ (rs : List Ru) (S' : Sto), callT P wf (n + 2) f [.ref p, .lst (ts.map tbF), .int m] S = .ok (.own (.lst (rs.map Ru.F))) S' ∧ rs.length ≤ m ∧ (∀ r ∈ rs, RuOk nn kk r ∧ RuOf ts r) ∧ Pu S' p (c + 1000) ∧ Onl p S S' := by
  obtain ⟨d, S1, d1, d2, d3, d4, d5⟩ := ev_coin (wf := wf) (n := n) (i := 0) (env := [.fz (.ref p), .fz (.lst (ts.map tbF)), .fz (.int m), .al (.lst []), .no, .no, .no, .no, .no]) (e := .bin .add (.var 2) (.int 1)) (many := (m : Int) + 1) hc h (by omega) rfl (ev_addI (ev_var rfl) ev_intS) (by omega) (Nat.lt_of_le_of_lt (m := 31) (by omega) (by decide +kernel))
  obtain ⟨g, rfl⟩ := Int.eq_ofNat_of_zero_le d2
  obtain ⟨e2, S2, f1, rs, s4, s5, s6, s7, s8, rfl, f2, f3, f4, f5⟩ := for_cnt (C := ctxT P wf (n + 1)) (b := (.cons (.unp [6, 7] (.ix (.var 1) (.call fc (.cons false (.var 0) (.cons false (.bi .len (.cons false (.var 1) .nil)) .nil))))) (.cons (.asg 5 (.lc [8] [8] (.seq (.var 7)) (.cmp .eq (.call fc (.cons false (.var 0) (.cons false (.int 2) .nil))) (.int 0)) (.var 8))) (.cons (.ite (.cmp .eq (.call fc (.cons false (.var 0) (.cons false (.int 2) .nil))) (.int 0)) (.cons (.mut .append (.var 3) (.cons false (.tup (.cons false (.str "key") (.cons false (.var 6) (.cons false (.var 5) .nil)))) .nil)) .nil) (.cons (.asg 8 (.ix (.var 7) (.call fc (.cons false (.var 0) (.cons false (.bi .len (.cons false (.var 7) .nil)) .nil))))) (.cons (.mut .append (.var 3) (.cons false (.tup (.cons false (.str "settles") (.cons false (.var 6) (.cons false (.var 5) (.cons false (.var 8) .nil))))) .nil)) .nil))) .nil)))) (tg := [4]) (live := [])
    (fun k env S => ∃ (rs : List Ru) (s4 s5 s6 s7 s8 : K9.Slot), env = [.fz (.ref p), .fz (.lst (ts.map tbF)), .fz (.int m), .al (.lst (rs.map Ru.F)), s4, s5, s6, s7, s8] ∧ rs.length = k ∧ (∀ r ∈ rs, RuOk nn kk r ∧ RuOf ts r) ∧ Pu S p (c + 1 + 23 * k) ∧ Onl p S1 S) m (fun _ _ _ _ => LiveOk.nil) (upTo 0 (g : Int).toNat) 0 [.fz (.ref p), .fz (.lst (ts.map tbF)), .fz (.int m), .al (.lst []), .no, .no, .no, .no, .no] S1
    ⟨[], .no, .no, .no, .no, .no, rfl, rfl, (fun _ h => by cases h), d4, Onl.refl⟩ (by rw [upTo_len]; omega)
    (fun x hx k env S hk ⟨rs, s4, s5, s6, s7, s8, e, g1, g2, g3, g4⟩ => by
      subst e
      obtain ⟨j, _, rfl⟩ := upTo_int hx
      obtain ⟨tv, S3, a1, a2, a3, a4⟩ := ev_pick (wf := wf) (n := n) (i := 0) (j := 1) (env := [.fz (.ref p), .fz (.lst (ts.map tbF)), .fz (.int m), .al (.lst (rs.map Ru.F)), .fz (.int (0 + j)), s5, s6, s7, s8]) hc rfl rfl g3 (by omega) (by rw [List.length_map]; exact hts) (by rw [List.length_map]; omega)
      obtain ⟨⟨t, known⟩, ht, rfl⟩ := List.mem_map.mp a2
      obtain ⟨o1, o2, o3, o4⟩ := hok _ ht
      have o2 : 1 ≤ known.length := o2
      have o3 : known.length ≤ kk := o3
      obtain ⟨l, S4, b1, b2, b3, b4, b5⟩ := some_ok (wf := wf) (n := n) (known := known) (env := [.fz (.ref p), .fz (.lst (ts.map tbF)), .fz (.int m), .al (.lst (rs.map Ru.F)), .fz (.int (0 + j)), s5, .fz (.str t), .fz (.lst (known.map .str)), s8]) hc rfl rfl (by simp) a3 (by omega) (by omega)
      obtain ⟨d, S5, k1, k2, k3, k4, k5⟩ := ev_coin (wf := wf) (n := n) (i := 0) (env := [.fz (.ref p), .fz (.lst (ts.map tbF)), .fz (.int m), .al (.lst (rs.map Ru.F)), .fz (.int (0 + j)), .fz (.lst (l.map .str)), .fz (.str t), .fz (.lst (known.map .str)), s8]) (e := .int 2) hc b4 (by omega) rfl ev_intS (by decide) (by decide +kernel)
      have hcond := ev_eqI k1 (ev_intS (i := 0) (S := S5))
      have st0 : ∀ {r : R Fl} {ss : Sms}, exSs (ctxT P wf (n + 1)) ss [.fz (.ref p), .fz (.lst (ts.map tbF)), .fz (.int m), .al (.lst (rs.map Ru.F)), .fz (.int (0 + j)), .fz (.lst (l.map .str)), .fz (.str t), .fz (.lst (known.map .str)), s8] S4 = r → exSs (ctxT P wf (n + 1)) (.cons (.unp [6, 7] (.ix (.var 1) (.call fc (.cons false (.var 0) (.cons false (.bi .len (.cons false (.var 1) .nil)) .nil))))) (.cons (.asg 5 (.lc [8] [8] (.seq (.var 7)) (.cmp .eq (.call fc (.cons false (.var 0) (.cons false (.int 2) .nil))) (.int 0)) (.var 8))) ss)) [.fz (.ref p), .fz (.lst (ts.map tbF)), .fz (.int m), .al (.lst (rs.map Ru.F)), .fz (.int (0 + j)), s5, s6, s7, s8] S = r := fun hr => ss_nx (s_unpS a1 rfl) (ss_nx (s_asgS b1 rfl) hr)
      have tkey : TW nn "key" := ⟨by show 3 ≤ nn; omega, by decide⟩
      have tset : TW nn "settles" := ⟨by show 7 ≤ nn; omega, by decide⟩
      have temp : TW nn "" := ⟨Nat.zero_le _, fun c hc => by cases hc⟩
      by_cases hd : d = 0
      · rw [hd] at hcond
        refine ⟨_, [.fz (.ref p), .fz (.lst (ts.map tbF)), .fz (.int m), .al (.lst ((rs ++ [(⟨"key", t, l, "", "", 3⟩ : Ru)]).map Ru.F)), .fz (.int (0 + j)), .fz (.lst (l.map .str)), .fz (.str t), .fz (.lst (known.map .str)), s8], S5, rfl, st0 (ss_nx (s_iteT hcond (ss_nx (s_mutS (xs := [Ru.F ⟨"key", t, l, "", "", 3⟩]) (p := (_, S5)) (ob := .lst (rs.map Ru.F)) (ob' := .lst ((rs ++ [(⟨"key", t, l, "", "", 3⟩ : Ru)]).map Ru.F)) (ev_accS rfl) rfl (evl_consS (x := Ru.F ⟨"key", t, l, "", "", 3⟩) (ev_tupS (evs_consI ev_strS rfl rfl (evs_consI (ev_var rfl) rfl rfl (evs_consI (ev_var rfl) rfl rfl evs_nilS))) (by rw [sizeLine_eq]; simp)) evl_nilS) rfl rfl ?_ rfl) ss_nil')) ss_nil'), rs ++ [⟨"key", t, l, "", "", 3⟩], _, _, _, _, _, rfl, by rw [List.length_append, g1]; rfl, fun u hu => ?_, k4.mono (by omega), ((g4.trans a4).trans b5).trans k5⟩
        · show (if (rs.map Ru.F).length < sizeLine then _ else none) = _
          rw [if_pos (by rw [List.length_map, sizeLine_eq]; omega), List.map_append]; rfl
        · rcases List.mem_append.mp hu with hu | hu
          · exact g2 u hu
          · rw [List.mem_singleton.mp hu]
            exact ⟨⟨tkey, o1, by show l.length ≤ kk; omega, fun c hc => o4 c (b3 c hc), temp, temp, (by show 3 ≤ 5; decide)⟩, (t, known), ht, rfl, b3, b2, .inl ⟨rfl, rfl⟩, rfl⟩
      · rw [beq_false_of_ne hd] at hcond
        obtain ⟨cv, S6, c1, c2, c3, c4⟩ := ev_pick (wf := wf) (n := n) (i := 0) (j := 7) (env := [.fz (.ref p), .fz (.lst (ts.map tbF)), .fz (.int m), .al (.lst (rs.map Ru.F)), .fz (.int (0 + j)), .fz (.lst (l.map .str)), .fz (.str t), .fz (.lst (known.map .str)), s8]) hc rfl rfl k4 (by omega) (by rw [List.length_map]; omega) (by rw [List.length_map]; omega)
        obtain ⟨col, hcol, rfl⟩ := List.mem_map.mp c2
        refine ⟨_, [.fz (.ref p), .fz (.lst (ts.map tbF)), .fz (.int m), .al (.lst ((rs ++ [(⟨"settles", t, l, col, "", 4⟩ : Ru)]).map Ru.F)), .fz (.int (0 + j)), .fz (.lst (l.map .str)), .fz (.str t), .fz (.lst (known.map .str)), .fz (.str col)], S6, rfl, st0 (ss_nx (s_iteF hcond (ss_nx (s_asgS c1 rfl) (ss_nx (s_mutS (xs := [Ru.F ⟨"settles", t, l, col, "", 4⟩]) (p := (_, S6)) (ob := .lst (rs.map Ru.F)) (ob' := .lst ((rs ++ [(⟨"settles", t, l, col, "", 4⟩ : Ru)]).map Ru.F)) (ev_accS rfl) rfl (evl_consS (x := Ru.F ⟨"settles", t, l, col, "", 4⟩) (ev_tupS (evs_consI ev_strS rfl rfl (evs_consI (ev_var rfl) rfl rfl (evs_consI (ev_var rfl) rfl rfl (evs_consI (ev_var rfl) rfl rfl evs_nilS)))) (by rw [sizeLine_eq]; simp)) evl_nilS) rfl rfl ?_ rfl) ss_nil'))) ss_nil'), rs ++ [⟨"settles", t, l, col, "", 4⟩], _, _, _, _, _, rfl, by rw [List.length_append, g1]; rfl, fun u hu => ?_, c3.mono (by omega), (((g4.trans a4).trans b5).trans k5).trans c4⟩
        · show (if (rs.map Ru.F).length < sizeLine then _ else none) = _
          rw [if_pos (by rw [List.length_map, sizeLine_eq]; omega), List.map_append]; rfl
        · rcases List.mem_append.mp hu with hu | hu
          · exact g2 u hu
          · rw [List.mem_singleton.mp hu]
            exact ⟨⟨tset, o1, by show l.length ≤ kk; omega, fun c hc => o4 c (b3 c hc), o4 _ hcol, temp, (by show 4 ≤ 5; decide)⟩, (t, known), ht, rfl, b3, b2, .inr ⟨rfl, rfl, hcol⟩, rfl⟩)
  rw [upTo_len] at f2 f4
  have f2 : rs.length = 0 + g := f2
  have f4 : Pu S2 p (c + 1 + 23 * (0 + g)) := f4
  refine ⟨rs, S2, ?_, by omega, f3, f4.mono (by omega), d5.trans f5⟩
  rw [callT_eq hf, runFn_eq rfl]
  have s0 : exS (ctxT P wf (n + 1)) (.acc 3 (.lst .nil)) [.fz (.ref p), .fz (.lst (ts.map tbF)), .fz (.int m), .no, .no, .no, .no, .no, .no] S = .ok (.nx [.fz (.ref p), .fz (.lst (ts.map tbF)), .fz (.int m), .al (.lst []), .no, .no, .no, .no, .no]) S := by kernel_rfl
  have run : exSs (ctxT P wf (n + 1)) (bRules fc) [.fz (.ref p), .fz (.lst (ts.map tbF)), .fz (.int m), .no, .no, .no, .no, .no, .no] S = .ok (.rt (.own (.lst (rs.map Ru.F)))) S2 :=
    ss_nx s0 (ss_nx (s_forS (evIt_rng1 d1 ⟨by omega, by omega⟩) rfl f1) (ss_rt (s_retS (ev_accS rfl) rfl)))
  show (exSs (ctxT P wf (n + 1)) (bRules fc) [.fz (.ref p), .fz (.lst (ts.map tbF)), .fz (.int m), .no, .no, .no, .no, .no, .no] S).bind finF = _
  rw [run]; rfl
end KL
end
section
set_option Elab.async false
set_option linter.all false
set_option maxRecDepth 100000
set_option maxHeartbeats 0
set_option exponentiation.threshold 2000
namespace KL
open K9 PySem PyProof.Rows
variable {P : Prog} {wf : Nat}
/-! ### texts of expressions -/
def ES (C : K9.Ctx) (env : K9.Env) (S : Sto) (n : Nat) (e : Ex) : Prop := ∃ t, ev C e env S = .ok (.str t) S ∧ TW n t
section
variable {C : K9.Ctx} {env : K9.Env} {S : Sto} {n m : Nat} {a b : Ex}
theorem ES.mono (h : ES C env S n a) (hn : n ≤ m) : ES C env S m a := by obtain ⟨t, h1, h2⟩ := h; exact ⟨t, h1, h2.mono hn⟩
theorem ES.str {s : Str} (h : TW n s) : ES C env S n (.str s) := ⟨s, ev_strS, h⟩
theorem ES.var {i : Nat} {s : Str} (h0 : env[i]? = some (.fz (.str s))) (h : TW n s) : ES C env S n (.var i) := ⟨s, ev_var h0, h⟩
theorem ES.app (ha : ES C env S n a) (hb : ES C env S m b) (hs : n + m ≤ 1000) : ES C env S (n + m) (.bin .add a b) := by
  obtain ⟨s, h1, h2⟩ := ha
  obtain ⟨t, h3, h4⟩ := hb
  exact ⟨_, ev_binS h1 h3 (bin_addS (by rw [sizeLine_eq]; have := h2.1; have := h4.1; omega)), h2.app h4⟩
theorem ES.to {i : Int} (ha : ES C env S n a) (hb : ev C b env S = .ok (.int i) S) (hs : n ≤ 1000) : ES C env S n (.sl a .non b) := by
  obtain ⟨s, h1, h2⟩ := ha
  exact ⟨_, ev_slTo h1 hb (sl_str (by rw [sizeLine_eq]; have := h2.1; omega)), h2.cut⟩
theorem ES.from {i : Int} (ha : ES C env S n a) (hb : ev C b env S = .ok (.int i) S) (hs : n ≤ 1000) : ES C env S n (.sl a b .non) := by
  obtain ⟨s, h1, h2⟩ := ha
  exact ⟨_, ev_slFrom h1 hb (sl_str (by rw [sizeLine_eq]; have := h2.1; omega)), h2.cut⟩
theorem cut_to {α : Type} {xs : List α} {k : Nat} : cutL xs none (some (k : Int)) = xs.take k := by
  unfold cutL
  rw [HT.sIx_none, HT.sIx_nat, List.drop_zero, Nat.sub_zero]
  rcases Nat.le_total k xs.length with h | h
  · rw [Nat.min_eq_left h]
  · rw [Nat.min_eq_right h, List.take_length, List.take_of_length_le h]
theorem cut_from {α : Type} {xs : List α} {k : Nat} : cutL xs (some (k : Int)) none = xs.drop k := by
  unfold cutL
  rw [HT.sIx_none, HT.sIx_nat]
  rcases Nat.le_total k xs.length with h | h
  · rw [Nat.min_eq_left h, ← List.length_drop, List.take_length]
  · rw [Nat.min_eq_right h, List.drop_length, List.drop_of_length_le h, List.take_nil]
theorem ES.toN {k : Nat} (ha : ES C env S n a) (hb : ev C b env S = .ok (.int k) S) (hs : n ≤ 1000) : ES C env S k (.sl a .non b) := by
  obtain ⟨s, h1, h2⟩ := ha
  refine ⟨_, ev_slTo h1 hb (sl_str (by rw [sizeLine_eq]; have := h2.1; omega)), ?_, h2.cut.2⟩
  rw [len_mk, cut_to, List.length_take]
  omega
theorem ES.up (ha : ES C env S n a) (hs : n ≤ 1000) : ES C env S n (.mt .upper a .nil) := by
  obtain ⟨s, h1, h2⟩ := ha
  exact ⟨_, ev_mtS h1 rfl evl_nilS (chk_pos (by have := h2.1; omega)), h2.upper⟩
def EL (C : K9.Ctx) (env : K9.Env) (S : Sto) (n : Nat) (es : Exs) (k : Nat) : Prop := ∃ l : List Str, evs C es env S = .ok (l.map .str) S ∧ (∀ t ∈ l, TW n t) ∧ l.length = k
theorem EL.nil : EL C env S n .nil 0 := ⟨[], evs_nilS, (fun _ h => by cases h), rfl⟩
theorem EL.cons {es : Exs} {k : Nat} (ha : ES C env S n a) (hs : EL C env S n es k) : EL C env S n (.cons false a es) (k + 1) := by
  obtain ⟨s, h1, h2⟩ := ha
  obtain ⟨l, h3, h4, h5⟩ := hs
  refine ⟨s :: l, evs_consI h1 rfl rfl h3, fun t ht => ?_, by rw [List.length_cons, h5]⟩
  rcases List.mem_cons.mp ht with rfl | ht
  · exact h2
  · exact h4 t ht
end
theorem ev_addL {C : K9.Ctx} {a b : Ex} {env : K9.Env} {S S1 S2 : Sto} {x y : D} {xs ys : List D} (ha : ev C a env S = .ok x S1) (hx : rd x = .lst xs) (hb : ev C b env S1 = .ok y S2) (hy : rd y = .lst ys) (hl : xs.length + ys.length ≤ sizeLine) : ev C (.bin .add a b) env S = .ok (.own (.lst (xs ++ ys))) S2 := by
  refine ev_binS ha hb ?_
  rw [hx, hy]
  show mkL (xs ++ ys) S2 = _
  exact mkL_ok (by rw [List.length_append]; exact hl)
def bBad (fc : Nat) : Sms := (.cons (.asg 2 (.lst (.cons false (.str "") (.cons false (.str " ") (.cons false (.str "A") (.cons false (.str "a b") (.cons false (.str "a1") (.cons false (.str "a.b") (.cons false (.str "_") (.cons false (.str "{") (.cons false (.str "~a") (.cons false (.str "a-") (.cons false (.str "`a") (.cons false (.str "abcdefghi") (.cons false (.str "key") (.cons false (.mt .upper (.var 1) .nil) .nil)))))))))))))))) (.cons (.asg 2 (.bin .add (.var 2) (.lst (.cons false (.bin .add (.var 1) (.str "abcdefgh")) (.cons false (.bin .add (.bin .add (.sl (.var 1) .non (.int 4)) (.str " ")) (.sl (.var 1) (.int 4) .non)) (.cons false (.bin .add (.str " ") (.var 1)) (.cons false (.bin .add (.var 1) (.str " ")) (.cons false (.sl (.var 1) .non (.neg (.int 1))) (.cons false (.bin .add (.var 1) (.str "q")) .nil))))))))) (.cons (.asg 2 (.bin .add (.var 2) (.lst (.cons false (.bin .add (.bin .add (.sl (.var 1) .non (.int 3)) (.str "Q")) (.sl (.var 1) (.int 4) .non)) (.cons false (.bin .add (.sl (.var 1) .non (.neg (.int 1))) (.str "9")) (.cons false (.bin .add (.var 1) (.var 1)) .nil)))))) (.cons (.ret (.ix (.var 2) (.call fc (.cons false (.var 0) (.cons false (.bi .len (.cons false (.var 2) .nil)) .nil))))) .nil))))
def fBad (fc : Nat) : Fn := ⟨2, 3, bBad fc⟩
theorem tw_lit {n : Nat} {s : Str} (h : (decide (s.length ≤ n) && s.cps.toList.all fun c => decide (c < 128)) = true) : TW n s := by
  rw [Bool.and_eq_true] at h
  exact ⟨of_decide_eq_true h.1, fun c hc => of_decide_eq_true (List.all_eq_true.mp h.2 c hc)⟩
theorem bad_ok {f fc m n p c : Nat} (hf : P.fn f = some (fBad fc)) (hc : P.fn fc = some fCoin) {S : Sto} {w : Str} (h : Pu S p c) (hb : c < 2 ^ 40) (hw : TW n w) (hn : 9 ≤ n) (hn2 : n ≤ 30) :
    ∃ (t : Str) (S' : Sto), callT P wf (m + 2) f [.ref p, .str w] S = .ok (.str t) S' ∧ TW (2 * n) t ∧ Pu S' p (c + 1) ∧ Onl p S S' := by
  have lit : ∀ {C : K9.Ctx} {env : K9.Env} {S : Sto} {s : Str}, (decide (s.length ≤ 9) && s.cps.toList.all fun c => decide (c < 128)) = true → ES C env S (2 * n) (.str s) := fun h => ES.str ((tw_lit h).mono (by omega))
  have lit1 : ∀ {C : K9.Ctx} {env : K9.Env} {S : Sto} {s : Str}, (decide (s.length ≤ 1) && s.cps.toList.all fun c => decide (c < 128)) = true → ES C env S 1 (.str s) := fun h => ES.str (tw_lit h)
  have v1 : ∀ {C : K9.Ctx} {s : K9.Slot} {S : Sto}, ES C [.fz (.ref p), .fz (.str w), s] S n (.var 1) := fun {C s S} => ES.var rfl hw
  obtain ⟨l1, a1, a2, a3⟩ : EL (ctxT P wf (m + 1)) [.fz (.ref p), .fz (.str w), .no] S (2 * n) (.cons false (.str "") (.cons false (.str " ") (.cons false (.str "A") (.cons false (.str "a b") (.cons false (.str "a1") (.cons false (.str "a.b") (.cons false (.str "_") (.cons false (.str "{") (.cons false (.str "~a") (.cons false (.str "a-") (.cons false (.str "`a") (.cons false (.str "abcdefghi") (.cons false (.str "key") (.cons false (.mt .upper (.var 1) .nil) .nil)))))))))))))) 14 := by
    iterate 13 refine EL.cons (lit (by decide +kernel)) ?_
    exact EL.cons ((v1.up (by omega)).mono (by omega)) EL.nil
  obtain ⟨l2, b1, b2, b3⟩ : EL (ctxT P wf (m + 1)) [.fz (.ref p), .fz (.str w), .fz (.lst (l1.map .str))] S (2 * n) (.cons false (.bin .add (.var 1) (.str "abcdefgh")) (.cons false (.bin .add (.bin .add (.sl (.var 1) .non (.int 4)) (.str " ")) (.sl (.var 1) (.int 4) .non)) (.cons false (.bin .add (.str " ") (.var 1)) (.cons false (.bin .add (.var 1) (.str " ")) (.cons false (.sl (.var 1) .non (.neg (.int 1))) (.cons false (.bin .add (.var 1) (.str "q")) .nil)))))) 6 := by
    refine EL.cons ((v1.app (m := 8) (ES.str (tw_lit (by decide +kernel))) (by omega)).mono (by omega)) ?_
    refine EL.cons ?_ ?_
    · exact (((v1.toN (k := 4) ev_intS (by omega)).app (lit1 (by decide +kernel)) (by omega)).app (v1.from ev_intS (by omega)) (by omega)).mono (by omega)
    refine EL.cons (((lit1 (by decide +kernel)).app v1 (by omega)).mono (by omega)) ?_
    refine EL.cons ((v1.app (lit1 (by decide +kernel)) (by omega)).mono (by omega)) ?_
    refine EL.cons ((v1.to (ev_negS ev_intS) (by omega)).mono (by omega)) ?_
    refine EL.cons ((v1.app (lit1 (by decide +kernel)) (by omega)).mono (by omega)) ?_
    exact EL.nil
  obtain ⟨l3, c1, c2, c3⟩ : EL (ctxT P wf (m + 1)) [.fz (.ref p), .fz (.str w), .fz (.lst (l1.map .str ++ l2.map .str))] S (2 * n) (.cons false (.bin .add (.bin .add (.sl (.var 1) .non (.int 3)) (.str "Q")) (.sl (.var 1) (.int 4) .non)) (.cons false (.bin .add (.sl (.var 1) .non (.neg (.int 1))) (.str "9")) (.cons false (.bin .add (.var 1) (.var 1)) .nil))) 3 := by
    refine EL.cons ((((v1.toN (k := 3) ev_intS (by omega)).app (lit1 (by decide +kernel)) (by omega)).app (v1.from ev_intS (by omega)) (by omega)).mono (by omega)) ?_
    refine EL.cons (((v1.to (ev_negS ev_intS) (by omega)).app (lit1 (by decide +kernel)) (by omega)).mono (by omega)) ?_
    exact EL.cons ((v1.app v1 (by omega)).mono (by omega)) EL.nil
  have hlen : (l1.map D.str ++ l2.map D.str ++ l3.map D.str).length = 23 := by simp [a3, b3, c3]
  have s1 := s_asgS (C := ctxT P wf (m + 1)) (i := 2) (env := [.fz (.ref p), .fz (.str w), .no]) (ev_lstS a1 (by rw [List.length_map, a3, sizeLine_eq]; decide)) rfl
  have s2 := s_asgS (C := ctxT P wf (m + 1)) (i := 2) (env := [.fz (.ref p), .fz (.str w), .fz (.lst (l1.map .str))]) (ev_addL (ev_var (show [K9.Slot.fz (.ref p), .fz (.str w), .fz (.lst (l1.map .str))][2]? = some (.fz (.lst (l1.map .str))) from rfl)) rfl (ev_lstS b1 (by rw [List.length_map, b3, sizeLine_eq]; decide)) rfl (by rw [List.length_map, List.length_map, a3, b3, sizeLine_eq]; decide)) rfl
  have s3 := s_asgS (C := ctxT P wf (m + 1)) (i := 2) (env := [.fz (.ref p), .fz (.str w), .fz (.lst (l1.map .str ++ l2.map .str))]) (ev_addL (ev_var (show [K9.Slot.fz (.ref p), .fz (.str w), .fz (.lst (l1.map .str ++ l2.map .str))][2]? = some (.fz (.lst (l1.map .str ++ l2.map .str))) from rfl)) rfl (ev_lstS c1 (by rw [List.length_map, c3, sizeLine_eq]; decide)) rfl (by simp only [List.length_append, List.length_map, a3, b3, c3]; rw [sizeLine_eq]; decide)) rfl
  obtain ⟨d, S', k1, k2, k3, k4⟩ := ev_pick (wf := wf) (n := m) (i := 0) (j := 2) (env := [.fz (.ref p), .fz (.str w), .fz (.lst (l1.map .str ++ l2.map .str ++ l3.map .str))]) hc rfl rfl h hb (by omega) (by omega)
  have hd : ∃ t, d = .str t ∧ TW (2 * n) t := by
    rcases List.mem_append.mp k2 with k2 | k2
    · rcases List.mem_append.mp k2 with k2 | k2
      · obtain ⟨t, ht, rfl⟩ := List.mem_map.mp k2; exact ⟨t, rfl, a2 t ht⟩
      · obtain ⟨t, ht, rfl⟩ := List.mem_map.mp k2; exact ⟨t, rfl, b2 t ht⟩
    · obtain ⟨t, ht, rfl⟩ := List.mem_map.mp k2; exact ⟨t, rfl, c2 t ht⟩
  obtain ⟨t, rfl, ht⟩ := hd
  refine ⟨t, S', ?_, ht, k3, k4⟩
  rw [callT_eq hf, runFn_eq rfl]
  have run : exSs (ctxT P wf (m + 1)) (bBad fc) [.fz (.ref p), .fz (.str w), .no] S = .ok (.rt (.str t)) S' := ss_nx s1 (ss_nx s2 (ss_nx s3 (ss_rt (s_retS k1 rfl))))
  show (exSs (ctxT P wf (m + 1)) (bBad fc) [.fz (.ref p), .fz (.str w), .no] S).bind finF = _
  rw [run]; rfl
end KL
end
section
set_option Elab.async false
set_option linter.all false
set_option maxRecDepth 100000
set_option maxHeartbeats 0
set_option exponentiation.threshold 2000
namespace KL
open K9 PySem PyProof.Rows
variable {P : Prog} {wf : Nat}
/-! ### lists that are read -/
def Lr (S : Sto) (d : D) (ds : List D) : Prop := d = .lst ds ∨ ∃ n, d = .ref n ∧ S[n]? = some (.lst ds)
section
variable {S S1 S2 : Sto} {d : D} {ds : List D} {env : K9.Env}
theorem Lr.lstOf (h : Lr S d ds) : lstOf env S d = some ds := by
  rcases h with rfl | ⟨n, rfl, h⟩
  · rfl
  · show (match S[n]? with | some (.lst xs) => some xs | _ => none) = _
    rw [h]
theorem Lr.seqOf (h : Lr S d ds) : seqOf env S d = some ds := by
  have := h.lstOf (env := env)
  rcases h with rfl | ⟨n, rfl, h⟩
  · rfl
  · exact this
theorem Lr.ok (h : Lr S d ds) : okD d = true := by
  rcases h with rfl | ⟨n, rfl, h⟩ <;> rfl
theorem Lr.rd (h : Lr S d ds) : rd d = d := (okD_acc h.ok).2
theorem Lr.acc (h : Lr S d ds) : d.isAcc = false := (okD_acc h.ok).1
theorem Vw.lr {ts : List Tr} (h : Vw S d (.lst ts)) : ∃ ds, Lr S d ds ∧ Vws S ds ts := by
  cases h with
  | lst h r => exact ⟨_, .inr ⟨_, rfl, h⟩, r⟩
  | lstF r => exact ⟨_, .inl rfl, r⟩
theorem Vw.ofLr {ts : List Tr} (h : Lr S d ds) (r : Vws S ds ts) : Vw S d (.lst ts) := by
  rcases h with rfl | ⟨n, rfl, h⟩
  · exact .lstF r
  · exact .lst h r
theorem Vw.tupI {ts : List Tr} (h : Vw S d (.tup ts)) : ∃ ds, d = .tup ds ∧ Vws S ds ts := by
  cases h with
  | tup r => exact ⟨_, rfl, r⟩
theorem Vw.strI {s : Str} (h : Vw S d (.leaf (.str s))) : d = .str s := by
  cases h with
  | leaf h => rfl
theorem Vws.lfsI : ∀ {ds : List D} {l : List Str}, Vws S ds (lfs l) → ds = l.map .str
  | _, [], .nil => rfl
  | _, s :: l, .cons a r => by rw [a.strI, Vws.lfsI (l := l) r]; rfl
theorem Vws.lfs : ∀ l : List Str, Vws S (l.map .str) (lfs l)
  | [] => .nil
  | s :: l => .cons (.leaf rfl) (Vws.lfs l)
theorem Vws.set : ∀ {ds : List D} {ts : List Tr} (j : Nat) {x : D} {t : Tr}, Vws S ds ts → Vw S x t → Vws S (ds.set j x) (ts.set j t)
  | _, _, 0, _, _, .nil, _ => .nil
  | _, _, _ + 1, _, _, .nil, _ => .nil
  | _, _, 0, _, _, .cons _ r, h => .cons h r
  | _, _, j + 1, _, _, .cons a r, h => .cons a (Vws.set j r h)
theorem Vws.map {α : Type} {f : α → D} {g : α → Tr} (h : ∀ x, Vw S (f x) (g x)) : ∀ l : List α, Vws S (l.map f) (l.map g)
  | [] => .nil
  | x :: l => .cons (h x) (Vws.map h l)
theorem ev_lenR {C : K9.Ctx} {e : Ex} (he : ev C e env S = .ok d S1) (h : Lr S1 d ds) : ev C (.bi .len (.cons false e .nil)) env S = .ok (.int ds.length) S1 := by
  refine ev_biS (evl_consS he evl_nilS) ?_
  rw [h.rd]
  rcases h with rfl | ⟨n, rfl, h⟩
  · rfl
  · show (match seqOf env S1 (.ref n) with | some xs => R.ok (D.int xs.length) S1 | none => match cont env S1 (.ref n) with | some (.dct ks _) => .ok (.int ks.length) S1 | _ => .bad) = _
    rw [Lr.seqOf (.inr ⟨n, rfl, h⟩)]
theorem ev_ixR {C : K9.Ctx} {a b : Ex} {k : Nat} {x : D} (ha : ev C a env S = .ok d S1) (hb : ev C b env S1 = .ok (.int k) S2) (h : Lr S2 d ds) (hk : ds[k]? = some x) : ev C (.ix a b) env S = .ok x S2 := by
  rcases h with rfl | ⟨n, rfl, h⟩
  · exact ev_ixS ha hb (ix_lst hk)
  · exact ev_ixRef ha hb h (by rw [atI_nat (List.getElem?_eq_some_iff.mp hk).1, hk])
theorem ev_ixT {C : K9.Ctx} {a b : Ex} {k : Nat} {x : D} (ha : ev C a env S = .ok (.tup ds) S1) (hb : ev C b env S1 = .ok (.int k) S2) (hk : ds[k]? = some x) : ev C (.ix a b) env S = .ok x S2 := by
  refine ev_ixS ha hb ?_
  show oget (L2.atI ds (k : Int)) (fun d => .ok d S2) = _
  rw [atI_nat (List.getElem?_eq_some_iff.mp hk).1, hk]; rfl
theorem slR (h : Lr S d ds) {l hi : Option Int} (hl : ds.length ≤ sizeLine) : slD d l hi env S = .ok (.own (.lst (cutL ds l hi))) S := by
  have e : slD d l hi env S = oget (K9.lstOf env S d) fun xs => mkL (cutL xs l hi) S := by
    rcases h with rfl | ⟨n, rfl, h⟩ <;> rfl
  rw [e, h.lstOf, oget_some, mkL_ok (Nat.le_trans cut_len hl)]
end
theorem ev_slToR {C : K9.Ctx} {a b : Ex} {env : K9.Env} {S S1 S2 : Sto} {d : D} {ds : List D} {k : Nat} (ha : ev C a env S = .ok d S1) (hb : ev C b env S1 = .ok (.int k) S2) (h : Lr S2 d ds) (hl : ds.length ≤ sizeLine) : ev C (.sl a .non b) env S = .ok (.own (.lst (ds.take k))) S2 := by
  refine ev_slTo ha hb ?_
  rw [h.rd, slR h hl, cut_to]
theorem ev_slFromR {C : K9.Ctx} {a b : Ex} {env : K9.Env} {S S1 S2 : Sto} {d : D} {ds : List D} {k : Nat} (ha : ev C a env S = .ok d S1) (hb : ev C b env S1 = .ok (.int k) S2) (h : Lr S2 d ds) (hl : ds.length ≤ sizeLine) : ev C (.sl a b .non) env S = .ok (.own (.lst (ds.drop k))) S2 := by
  refine ev_slFrom ha hb ?_
  rw [h.rd, slR h hl, cut_from]
theorem ev_addN {C : K9.Ctx} {a : Ex} {env : K9.Env} {S S1 : Sto} {i j : Nat} (ha : ev C a env S = .ok (.int i) S1) : ev C (.bin .add a (.int j)) env S = .ok (.int ((i + j : Nat) : Int)) S1 := ev_addI ha ev_intS
theorem ev_eqF {C : K9.Ctx} {a : Ex} {env : K9.Env} {S S1 : Sto} {i j : Nat} (ha : ev C a env S = .ok (.int i) S1) (hne : i ≠ j) : ev C (.cmp .eq a (.int j)) env S = .ok (.bl false) S1 := by
  have := ev_eqI ha (ev_intS (i := (j : Int)) (S := S1))
  rw [beq_false_of_ne (by omega)] at this
  exact this
theorem ev_eqT {C : K9.Ctx} {a : Ex} {env : K9.Env} {S S1 : Sto} {i j : Nat} (ha : ev C a env S = .ok (.int i) S1) (hne : i = j) : ev C (.cmp .eq a (.int j)) env S = .ok (.bl true) S1 := by
  have := ev_eqI ha (ev_intS (i := (j : Int)) (S := S1))
  subst hne
  rw [beq_self_eq_true] at this
  exact this
/-! ### tables -/
def tabsT (ts : List Tb) : Tr := .lst (ts.map tbT)
theorem tbI {S : Sto} {d : D} {t : Tb} (h : Vw S d (tbT t)) : ∃ dk, d = .tup [.str t.1, dk] ∧ Vw S dk (.lst (lfs t.2)) ∧ Lr S dk (t.2.map .str) := by
  obtain ⟨ds, rfl, r⟩ := h.tupI
  cases r with
  | cons a r =>
    cases r with
    | cons b r =>
      cases r with
      | nil =>
        rw [a.strI]
        obtain ⟨ys, h1, h2⟩ := b.lr
        rw [h2.lfsI] at h1
        exact ⟨_, rfl, b, h1⟩
theorem tbV {S : Sto} {t : Str} {l : List Str} {dk : D} (h : Vw S dk (.lst (lfs l))) : Vw S (.tup [.str t, dk]) (tbT (t, l)) := .tup (.cons (.leaf rfl) (.cons h .nil))
theorem tbVF {S : Sto} {t : Str} {l : List Str} : Vw S (.tup [.str t, .lst (l.map .str)]) (tbT (t, l)) := tbV (.lstF (Vws.lfs l))
theorem put_ok {S : Sto} {k j : Nat} {ds : List D} {ts : List Tb} {v : List Nat} {x : D} {t' : Tb} (h : S[k]? = some (.lst ds)) (a : Ats S ds (ts.map tbT) v) (nk : k ∉ v) (hx : ∀ S'' : Sto, Vws S'' ds (ts.map tbT) → Vw S'' x (tbT t')) : Vw (S.set k (.lst (ds.set j x))) (.ref k) (tabsT (ts.set j t')) := by
  have fr : Ats (S.set k (.lst (ds.set j x))) ds (ts.map tbT) v := a.frame fun i hi => List.getElem?_set_ne fun z => nk (by rw [z]; exact hi)
  refine .lst (get_set h) ?_
  rw [List.map_set]
  exact fr.vw.set j (hx _ fr.vw)
theorem ev_pickI {fc n p c : Nat} (hc : P.fn fc = some fCoin) {S : Sto} {env : K9.Env} {e : Ex} {many : Nat} (h0 : env[0]? = some (.fz (.ref p))) (he : ev (ctxT P wf (n + 1)) e env S = .ok (.int many) S) (h : Pu S p c) (hb : c < 2 ^ 40) (hx : 1 ≤ many) (hx2 : many ≤ 1000) :
    ∃ (k : Nat) (S' : Sto), ev (ctxT P wf (n + 1)) (.call fc (.cons false (.var 0) (.cons false e .nil))) env S = .ok (.int k) S' ∧ k < many ∧ Pu S' p (c + 1) ∧ Onl p S S' := by
  obtain ⟨d, S1, h1, h2, h3, h4, h5⟩ := ev_coin (wf := wf) (n := n) (i := 0) (env := env) (e := e) hc h hb h0 he (by omega) (Nat.lt_of_le_of_lt (m := 1000) (by omega) (by decide +kernel))
  obtain ⟨k, rfl⟩ := Int.eq_ofNat_of_zero_le h2
  exact ⟨k, S1, h1, by omega, h4, h5⟩
def bBentTables (fc fp fb : Nat) : Sms := (.cons (.par [2, 3] (.cons false (.call fp (.cons false (.var 1) .nil)) (.cons false (.call fc (.cons false (.var 0) (.cons false (.int 6) .nil))) .nil))) (.cons (.par [4, 5] (.cons false (.call fc (.cons false (.var 0) (.cons false (.bi .len (.cons false (.var 2) .nil)) .nil))) (.cons false (.call fc (.cons false (.var 0) (.cons false (.bi .len (.cons false (.var 2) .nil)) .nil))) .nil))) (.cons (.unp [6, 7] (.ix (.var 2) (.var 4))) (.cons (.par [8, 9] (.cons false (.call fc (.cons false (.var 0) (.cons false (.bi .len (.cons false (.var 7) .nil)) .nil))) (.cons false (.call fc (.cons false (.var 0) (.cons false (.bi .len (.cons false (.var 7) .nil)) .nil))) .nil))) (.cons (.ite (.cmp .eq (.var 3) (.int 0)) (.cons (.setix (.var 2) (.var 4) (.tup (.cons false (.call fb (.cons false (.var 0) (.cons false (.var 6) .nil))) (.cons false (.var 7) .nil)))) .nil) (.cons (.ite (.cmp .eq (.var 3) (.int 1)) (.cons (.setix (.var 2) (.var 4) (.tup (.cons false (.var 6) (.cons false (.bin .add (.bin .add (.sl (.var 7) .non (.var 8)) (.lst (.cons false (.call fb (.cons false (.var 0) (.cons false (.ix (.var 7) (.var 8)) .nil))) .nil))) (.sl (.var 7) (.bin .add (.var 8) (.int 1)) .non)) .nil)))) .nil) (.cons (.ite (.cmp .eq (.var 3) (.int 2)) (.cons (.setix (.var 2) (.var 4) (.tup (.cons false (.ix (.ix (.var 2) (.var 5)) (.int 0)) (.cons false (.var 7) .nil)))) .nil) (.cons (.ite (.cmp .eq (.var 3) (.int 3)) (.cons (.setix (.var 2) (.var 4) (.tup (.cons false (.var 6) (.cons false (.bin .add (.bin .add (.sl (.var 7) .non (.var 8)) (.lst (.cons false (.ix (.var 7) (.var 9)) .nil))) (.sl (.var 7) (.var 8) .non)) .nil)))) .nil) .nil) .nil)) .nil)) .nil)) (.cons (.ret (.var 2)) .nil))))))
def fBentTables (fc fp fb : Nat) : Fn := ⟨2, 10, bBentTables fc fp fb⟩
theorem TbOk.mono {n k n' k' : Nat} {t : Tb} (h : TbOk n k t) (hn : n ≤ n') (hk : k ≤ k') : TbOk n' k' t := ⟨h.1.mono hn, h.2.1, Nat.le_trans h.2.2.1 hk, fun c hc => (h.2.2.2 c hc).mono hn⟩
theorem set_ok {n k : Nat} {ts : List Tb} {j : Nat} {t : Tb} (h : ∀ t ∈ ts, TbOk n k t) (ht : TbOk (2 * n) (k + 1) t) : ∀ u ∈ ts.set j t, TbOk (2 * n) (k + 1) u := fun u hu => by
  rcases List.mem_or_eq_of_mem_set hu with hu | rfl
  · exact (h u hu).mono (by omega) (by omega)
  · exact ht
theorem Lr.onl {S S' : Sto} {p : Nat} {d : D} {ds : List D} (h : Lr S d ds) (hp : d ≠ .ref p) (o : Onl p S S') : Lr S' d ds := by
  rcases h with rfl | ⟨n, rfl, h⟩
  · exact .inl rfl
  · exact .inr ⟨n, rfl, by rw [o.2 n fun z => hp (by rw [z])]; exact h⟩
theorem bent_step {fc fp fb m p c k n kk : Nat} (hc : P.fn fc = some fCoin) (hfb : P.fn fb = some (fBad fc)) {S : Sto} {ts : List Tb} {dT : D} {v : List Nat} {ds : List D} {w i1 i2 i3 i4 : Nat} {t : Tb} {dk : D} (h : Pu S p c) (hb : c + 10 < 2 ^ 40) (hk : S[k]? = some (.lst ds)) (a : Ats S ds (ts.map tbT) v) (nk : k ∉ v) (np : p ∉ v) (pk : p ≠ k) (hn : 9 ≤ n) (hn2 : n ≤ 30) (hkk : kk ≤ 100) (hok : ∀ t ∈ ts, TbOk n kk t) (h1 : ts[i1]? = some t) (h2 : i2 < ts.length) (h3 : i3 < t.2.length) (h4 : i4 < t.2.length) (hd : ds[i1]? = some (.tup [.str t.1, dk])) (hdp : dk ≠ .ref p) :
    ∃ (ts' : List Tb) (S' : Sto), exS (ctxT P wf (m + 2)) (.ite (.cmp .eq (.var 3) (.int 0)) (.cons (.setix (.var 2) (.var 4) (.tup (.cons false (.call fb (.cons false (.var 0) (.cons false (.var 6) .nil))) (.cons false (.var 7) .nil)))) .nil) (.cons (.ite (.cmp .eq (.var 3) (.int 1)) (.cons (.setix (.var 2) (.var 4) (.tup (.cons false (.var 6) (.cons false (.bin .add (.bin .add (.sl (.var 7) .non (.var 8)) (.lst (.cons false (.call fb (.cons false (.var 0) (.cons false (.ix (.var 7) (.var 8)) .nil))) .nil))) (.sl (.var 7) (.bin .add (.var 8) (.int 1)) .non)) .nil)))) .nil) (.cons (.ite (.cmp .eq (.var 3) (.int 2)) (.cons (.setix (.var 2) (.var 4) (.tup (.cons false (.ix (.ix (.var 2) (.var 5)) (.int 0)) (.cons false (.var 7) .nil)))) .nil) (.cons (.ite (.cmp .eq (.var 3) (.int 3)) (.cons (.setix (.var 2) (.var 4) (.tup (.cons false (.var 6) (.cons false (.bin .add (.bin .add (.sl (.var 7) .non (.var 8)) (.lst (.cons false (.ix (.var 7) (.var 9)) .nil))) (.sl (.var 7) (.var 8) .non)) .nil)))) .nil) .nil) .nil)) .nil)) .nil)) [.fz (.ref p), .fz dT, .fz (.ref k), .fz (.int w), .fz (.int i1), .fz (.int i2), .fz (.str t.1), .fz dk, .fz (.int i3), .fz (.int i4)] S = .ok (.nx [.fz (.ref p), .fz dT, .fz (.ref k), .fz (.int w), .fz (.int i1), .fz (.int i2), .fz (.str t.1), .fz dk, .fz (.int i3), .fz (.int i4)]) S' ∧ Vw S' (.ref k) (tabsT ts') ∧ ts'.length = ts.length ∧ (∀ t ∈ ts', TbOk (2 * n) (kk + 1) t) ∧ Pu S' p (c + 1) ∧ S'.length = S.length ∧ ∀ i, i ≠ p → i ≠ k → S'[i]? = S[i]? := by
  have hv := a.vw
  have hl : ds.length = ts.length := by rw [a.length, List.length_map]
  have hi1 : i1 < ts.length := (List.getElem?_eq_some_iff.mp h1).1
  have htm : t ∈ ts := List.mem_of_getElem? h1
  obtain ⟨o1, o2, o3, o4⟩ := hok t htm
  have elV : ∀ S'' : Sto, Vws S'' ds (ts.map tbT) → Vw S'' dk (.lst (lfs t.2)) ∧ Lr S'' dk (t.2.map .str) := fun S'' hv => by
    obtain ⟨d, e1, e2⟩ := hv.get (i := i1) (t := tbT t) (by rw [List.getElem?_map, h1]; rfl)
    rw [hd] at e1
    cases e1
    obtain ⟨dk', e3, e4, e5⟩ := tbI e2
    cases e3
    exact ⟨e4, e5⟩
  have hlr := (elV S hv).2
  have hdk := hlr.rd
  have hda := hlr.acc
  have ixn : L2.ixN ds.length (i1 : Int) = some i1 := by
    unfold L2.ixN
    rw [if_pos (by omega), if_pos (by omega)]; simp
  have frame : ∀ {S1 : Sto}, Onl p S S1 → Ats S1 ds (ts.map tbT) v ∧ S1[k]? = some (.lst ds) := fun {S1} o => ⟨a.frame fun i hi => o.2 i fun z => np (by rw [← z]; exact hi), by rw [o.2 k (Ne.symm pk)]; exact hk⟩
  have hsz : (t.2.map D.str).length ≤ sizeLine := by rw [List.length_map, sizeLine_eq]; omega
  have puk : ∀ {S1 : Sto} {x : Ob} {c : Nat}, Pu S1 p c → Pu (S1.set k x) p c := fun {S1 x c} h => h.frame (List.getElem?_set_ne (Ne.symm pk))
  have fin : ∀ {S1 : Sto} {x : Ob}, Onl p S S1 → (S1.set k x).length = S.length ∧ ∀ i, i ≠ p → i ≠ k → (S1.set k x)[i]? = S[i]? := fun {S1 x} o => ⟨by rw [List.length_set, o.1], fun i hi hik => by rw [List.getElem?_set_ne (Ne.symm hik)]; exact o.2 i hi⟩
  have o4' : ∀ c ∈ t.2, TW (2 * n) c := fun c hc => (o4 c hc).mono (by omega)
  have onlk : ∀ {S1 : Sto}, Onl p S S1 → Lr S1 dk (t.2.map .str) := fun {S1} o => hlr.onl hdp o
  by_cases w0 : w = 0
  · obtain ⟨t', S1, b1, b2, b3, b4⟩ := bad_ok (wf := wf) (m := m) hfb hc h (by omega) o1 hn hn2
    obtain ⟨a1, k1⟩ := frame b4
    exact ⟨ts.set i1 (t', t.2), _, s_iteT (S1 := S) (ev_eqT (j := 0) (ev_var rfl) w0) (ss_nx (s_setixRef (x := .tup [.str t', dk]) (y := .tup [.str t', dk]) (j := i1) (ev_tupS (evs_consI (ev_callS (evs_consI (ev_var rfl) rfl rfl (evs_consI (ev_var rfl) rfl rfl evs_nilS)) b1) rfl rfl (evs_consI (ev_var rfl) hdk hda evs_nilS)) (by rw [sizeLine_eq]; simp)) rfl rfl (ev_var rfl) (ev_var rfl) k1 ixn) ss_nil'), put_ok k1 a1 nk fun S'' hv => tbV (elV S'' hv).1, by rw [List.length_set], set_ok hok ⟨b2, o2, Nat.le_succ_of_le o3, o4'⟩, puk b3, fin b4⟩
  by_cases w1 : w = 1
  · have g3 : (t.2.map D.str)[i3]? = some (.str t.2[i3]) := by rw [List.getElem?_map, List.getElem?_eq_getElem h3]; rfl
    obtain ⟨t', S1, b1, b2, b3, b4⟩ := bad_ok (wf := wf) (m := m) hfb hc h (by omega) (o4 _ (List.getElem_mem h3)) hn hn2
    obtain ⟨a1, k1⟩ := frame b4
    have el : (t.2.map D.str).take i3 ++ [D.str t'] ++ (t.2.map D.str).drop (i3 + 1) = (t.2.take i3 ++ [t'] ++ t.2.drop (i3 + 1)).map D.str := by simp [List.map_take, List.map_drop]
    have vl := ev_addL (C := ctxT P wf (m + 2)) (env := [.fz (.ref p), .fz dT, .fz (.ref k), .fz (.int w), .fz (.int i1), .fz (.int i2), .fz (.str t.1), .fz dk, .fz (.int i3), .fz (.int i4)]) (ev_addL (ev_slToR (a := .var 7) (b := .var 8) (ev_var rfl) (ev_var rfl) hlr hsz) rfl (ev_lstS (evs_consI (y := .str t') (ev_callS (evs_consI (ev_var (i := 0) rfl) rfl rfl (evs_consI (ev_ixR (a := .var 7) (b := .var 8) (ev_var rfl) (ev_var rfl) hlr g3) rfl rfl evs_nilS)) b1) rfl rfl evs_nilS) (by rw [sizeLine_eq]; simp)) rfl (by rw [List.length_take, List.length_map, sizeLine_eq]; simp; omega)) rfl (ev_slFromR (a := .var 7) (b := .bin .add (.var 8) (.int 1)) (k := i3 + 1) (ev_var rfl) (ev_addN (j := 1) (ev_var rfl)) (onlk b4) hsz) rfl (by simp only [List.length_append, List.length_take, List.length_drop, List.length_map, List.length_singleton]; rw [sizeLine_eq]; omega)
    rw [el] at vl
    refine ⟨ts.set i1 (t.1, t.2.take i3 ++ [t'] ++ t.2.drop (i3 + 1)), _, s_iteF (S1 := S) (ev_eqF (j := 0) (ev_var rfl) w0) (ss_nx (s_iteT (S1 := S) (ev_eqT (j := 1) (ev_var rfl) w1) (ss_nx (s_setixRef (x := .tup [.str t.1, .lst ((t.2.take i3 ++ [t'] ++ t.2.drop (i3 + 1)).map .str)]) (y := .tup [.str t.1, .lst ((t.2.take i3 ++ [t'] ++ t.2.drop (i3 + 1)).map .str)]) (j := i1) (ev_tupS (evs_consI (ev_var rfl) rfl rfl (evs_consI vl rfl rfl evs_nilS)) (by rw [sizeLine_eq]; simp)) rfl rfl (ev_var rfl) (ev_var rfl) k1 ixn) ss_nil')) ss_nil'), put_ok k1 a1 nk fun S'' hv => tbVF, by rw [List.length_set], set_ok hok ⟨o1.mono (by omega), ?_, ?_, fun c hc => ?_⟩, puk b3, fin b4⟩
    · simp only [List.length_append, List.length_singleton]; omega
    · simp only [List.length_append, List.length_take, List.length_drop, List.length_singleton]; omega
    · rcases List.mem_append.mp hc with hc | hc
      · rcases List.mem_append.mp hc with hc | hc
        · exact o4' c (List.mem_of_mem_take hc)
        · rw [List.mem_singleton.mp hc]; exact b2
      · exact o4' c (List.mem_of_mem_drop hc)
  by_cases w2 : w = 2
  · obtain ⟨d2, e1, e2⟩ := hv.get (i := i2) (t := tbT ts[i2]) (by rw [List.getElem?_map, List.getElem?_eq_getElem h2]; rfl)
    obtain ⟨dk2, rfl, e4, e5⟩ := tbI e2
    obtain ⟨p1, _, _, _⟩ := hok _ (List.getElem_mem h2)
    exact ⟨ts.set i1 (ts[i2].1, t.2), _, s_iteF (S1 := S) (ev_eqF (j := 0) (ev_var rfl) w0) (ss_nx (s_iteF (S1 := S) (ev_eqF (j := 1) (ev_var rfl) w1) (ss_nx (s_iteT (S1 := S) (ev_eqT (j := 2) (ev_var rfl) w2) (ss_nx (s_setixRef (x := .tup [.str ts[i2].1, dk]) (y := .tup [.str ts[i2].1, dk]) (j := i1) (ev_tupS (evs_consI (ev_ixT (k := 0) (ev_ixR (a := .var 2) (b := .var 5) (ev_var rfl) (ev_var rfl) (.inr ⟨k, rfl, hk⟩) e1) ev_intS rfl) rfl rfl (evs_consI (ev_var rfl) hdk hda evs_nilS)) (by rw [sizeLine_eq]; simp)) rfl rfl (ev_var rfl) (ev_var rfl) hk ixn) ss_nil')) ss_nil')) ss_nil'), put_ok hk a nk fun S'' hv => tbV (elV S'' hv).1, by rw [List.length_set], set_ok hok ⟨p1.mono (by omega), o2, Nat.le_succ_of_le o3, o4'⟩, (puk h).mono (by omega), fin Onl.refl⟩
  by_cases w3 : w = 3
  · have g4 : (t.2.map D.str)[i4]? = some (.str t.2[i4]) := by rw [List.getElem?_map, List.getElem?_eq_getElem h4]; rfl
    have el : (t.2.map D.str).take i3 ++ [D.str t.2[i4]] ++ (t.2.map D.str).drop i3 = (t.2.take i3 ++ [t.2[i4]] ++ t.2.drop i3).map D.str := by simp [List.map_take, List.map_drop]
    have vl := ev_addL (C := ctxT P wf (m + 2)) (S := S) (env := [.fz (.ref p), .fz dT, .fz (.ref k), .fz (.int w), .fz (.int i1), .fz (.int i2), .fz (.str t.1), .fz dk, .fz (.int i3), .fz (.int i4)]) (ev_addL (ev_slToR (a := .var 7) (b := .var 8) (ev_var rfl) (ev_var rfl) hlr hsz) rfl (ev_lstS (evs_consI (y := .str t.2[i4]) (ev_ixR (a := .var 7) (b := .var 9) (ev_var rfl) (ev_var rfl) hlr g4) rfl rfl evs_nilS) (by rw [sizeLine_eq]; simp)) rfl (by rw [List.length_take, List.length_map, sizeLine_eq]; simp; omega)) rfl (ev_slFromR (a := .var 7) (b := .var 8) (ev_var rfl) (ev_var rfl) hlr hsz) rfl (by simp only [List.length_append, List.length_take, List.length_drop, List.length_map, List.length_singleton]; rw [sizeLine_eq]; omega)
    rw [el] at vl
    refine ⟨ts.set i1 (t.1, t.2.take i3 ++ [t.2[i4]] ++ t.2.drop i3), _, s_iteF (S1 := S) (ev_eqF (j := 0) (ev_var rfl) w0) (ss_nx (s_iteF (S1 := S) (ev_eqF (j := 1) (ev_var rfl) w1) (ss_nx (s_iteF (S1 := S) (ev_eqF (j := 2) (ev_var rfl) w2) (ss_nx (s_iteT (S1 := S) (ev_eqT (j := 3) (ev_var rfl) w3) (ss_nx (s_setixRef (x := .tup [.str t.1, .lst ((t.2.take i3 ++ [t.2[i4]] ++ t.2.drop i3).map .str)]) (y := .tup [.str t.1, .lst ((t.2.take i3 ++ [t.2[i4]] ++ t.2.drop i3).map .str)]) (j := i1) (ev_tupS (evs_consI (ev_var rfl) rfl rfl (evs_consI vl rfl rfl evs_nilS)) (by rw [sizeLine_eq]; simp)) rfl rfl (ev_var rfl) (ev_var rfl) hk ixn) ss_nil')) ss_nil')) ss_nil')) ss_nil'), put_ok hk a nk fun S'' hv => tbVF, by rw [List.length_set], set_ok hok ⟨o1.mono (by omega), ?_, ?_, fun c hc => ?_⟩, (puk h).mono (by omega), fin Onl.refl⟩
    · simp only [List.length_append, List.length_singleton]; omega
    · simp only [List.length_append, List.length_take, List.length_drop, List.length_singleton]; omega
    · rcases List.mem_append.mp hc with hc | hc
      · rcases List.mem_append.mp hc with hc | hc
        · exact o4' c (List.mem_of_mem_take hc)
        · rw [List.mem_singleton.mp hc]; exact o4' _ (List.getElem_mem h4)
      · exact o4' c (List.mem_of_mem_drop hc)
  · exact ⟨ts, S, s_iteF (S1 := S) (ev_eqF (j := 0) (ev_var rfl) w0) (ss_nx (s_iteF (S1 := S) (ev_eqF (j := 1) (ev_var rfl) w1) (ss_nx (s_iteF (S1 := S) (ev_eqF (j := 2) (ev_var rfl) w2) (ss_nx (s_iteF (S1 := S) (ev_eqF (j := 3) (ev_var rfl) w3) ss_nil') ss_nil')) ss_nil')) ss_nil'), .lst hk hv, rfl, fun u hu => (hok u hu).mono (by omega) (by omega), h.mono (by omega), rfl, fun _ _ _ => rfl⟩
/-! ### bounds -/
theorem deps_le {n : Nat} : ∀ {ts : List Tr}, (∀ t ∈ ts, dep t ≤ n) → deps ts ≤ n
  | [], _ => Nat.zero_le _
  | t :: ts, h => by
    have := h t List.mem_cons_self
    have := deps_le fun t ht => h t (List.mem_cons_of_mem _ ht)
    simp only [deps]; omega
theorem wds_le {n : Nat} : ∀ {ts : List Tr}, (∀ t ∈ ts, wd t ≤ n) → wds ts ≤ n
  | [], _ => Nat.zero_le _
  | t :: ts, h => by
    have := h t List.mem_cons_self
    have := wds_le fun t ht => h t (List.mem_cons_of_mem _ ht)
    simp only [wds]; omega
theorem szs_le {n : Nat} : ∀ {ts : List Tr}, (∀ t ∈ ts, sz t ≤ n) → szs ts ≤ n * ts.length
  | [], _ => Nat.zero_le _
  | t :: ts, h => by
    have := h t List.mem_cons_self
    have := szs_le fun t ht => h t (List.mem_cons_of_mem _ ht)
    simp only [szs, List.length_cons, Nat.mul_add]; omega
theorem smTs_all : ∀ {ts : List Tr}, (∀ t ∈ ts, smT t) → smTs ts
  | [], _ => True.intro
  | t :: ts, h => ⟨h t List.mem_cons_self, smTs_all fun t ht => h t (List.mem_cons_of_mem _ ht)⟩
theorem lfs_b {n : Nat} {l : List Str} (hn : n ≤ 60) (h : ∀ s ∈ l, TW n s) : deps (lfs l) ≤ 1 ∧ wds (lfs l) = 0 ∧ smTs (lfs l) ∧ szs (lfs l) ≤ l.length ∧ (lfs l).length = l.length := by
  have hl : (lfs l).length = l.length := List.length_map ..
  refine ⟨deps_le fun t ht => ?_, Nat.le_zero.mp (wds_le fun t ht => ?_), smTs_all fun t ht => ?_, ?_, hl⟩
  · obtain ⟨s, _, rfl⟩ := List.mem_map.mp ht; exact Nat.le_refl _
  · obtain ⟨s, _, rfl⟩ := List.mem_map.mp ht; exact Nat.le_refl _
  · obtain ⟨s, hs, rfl⟩ := List.mem_map.mp ht; exact ((h s hs).mono hn).sm
  · have := szs_le (n := 1) (ts := lfs l) fun t ht => by
      obtain ⟨s, _, rfl⟩ := List.mem_map.mp ht; exact Nat.le_refl _
    omega
theorem tb_b {n k : Nat} {t : Tb} (hn : n ≤ 60) (h : TbOk n k t) : dep (tbT t) ≤ 3 ∧ wd (tbT t) ≤ max 2 k ∧ smT (tbT t) ∧ sz (tbT t) ≤ k + 3 := by
  obtain ⟨h1, h2, h3, h4⟩ := h
  obtain ⟨q1, q2, q3, q4, q5⟩ := lfs_b hn h4
  refine ⟨?_, ?_, ⟨(h1.mono hn).sm, q3, True.intro⟩, ?_⟩
  · simp only [tbT, dep, deps]; omega
  · simp only [tbT, wd, wds, List.length_cons, List.length_nil, q2, q5]; omega
  · simp only [tbT, sz, szs]; omega
theorem tabs_b {n k m : Nat} {ts : List Tb} (hn : n ≤ 60) (h : ∀ t ∈ ts, TbOk n k t) (hm : ts.length ≤ m) : dep (tabsT ts) ≤ 4 ∧ wd (tabsT ts) ≤ max m (max 2 k) ∧ smT (tabsT ts) ∧ sz (tabsT ts) ≤ (k + 3) * m + 1 := by
  refine ⟨?_, ?_, ?_, ?_⟩
  · have := deps_le (n := 3) (ts := ts.map tbT) fun t ht => by
      obtain ⟨s, hs, rfl⟩ := List.mem_map.mp ht; exact (tb_b hn (h s hs)).1
    simp only [tabsT, dep]; omega
  · have := wds_le (n := max 2 k) (ts := ts.map tbT) fun t ht => by
      obtain ⟨s, hs, rfl⟩ := List.mem_map.mp ht; exact (tb_b hn (h s hs)).2.1
    simp only [tabsT, wd, List.length_map]; omega
  · exact smTs_all fun t ht => by
      obtain ⟨s, hs, rfl⟩ := List.mem_map.mp ht; exact (tb_b hn (h s hs)).2.2.1
  · have := szs_le (n := k + 3) (ts := ts.map tbT) fun t ht => by
      obtain ⟨s, hs, rfl⟩ := List.mem_map.mp ht; exact (tb_b hn (h s hs)).2.2.2
    rw [List.length_map] at this
    have q := Nat.mul_le_mul_left (k + 3) hm
    simp only [tabsT, sz]; omega
theorem At.refI {S : Sto} {d : D} {ts : List Tr} {u : List Nat} (h : At S d (.lst ts) u) : ∃ k ds v, d = .ref k ∧ u = k :: v ∧ S[k]? = some (.lst ds) ∧ Ats S ds ts v := by
  cases h with
  | lst h r => exact ⟨_, _, _, rfl, rfl, h, r⟩
theorem bentTables_ok {f fc fp fb m p c n kk : Nat} (hf : P.fn f = some (fBentTables fc fp fb)) (hc : P.fn fc = some fCoin) (hp : P.fn fp = some (fCopied fp)) (hfb : P.fn fb = some (fBad fc)) {S : Sto} {ts : List Tb} {dT : D} (h : Pu S p c) (hb : c + 20 < 2 ^ 40) (a : Vw S dT (tabsT ts)) (hts : 1 ≤ ts.length) (hts2 : ts.length ≤ 100) (hn : 9 ≤ n) (hn2 : n ≤ 30) (hkk : kk ≤ 100) (hok : ∀ t ∈ ts, TbOk n kk t) :
    ∃ (ts' : List Tb) (d' : D) (S' : Sto), callT P wf (m + 5) f [.ref p, dT] S = .ok d' S' ∧ Vw S' d' (tabsT ts') ∧ ts'.length = ts.length ∧ (∀ t ∈ ts', TbOk (2 * n) (kk + 1) t) ∧ Pu S' p (c + 10) ∧ Ex2 p S S' := by
  obtain ⟨b1, b2, b3, b4⟩ := tabs_b (m := 100) (by omega) hok hts2
  obtain ⟨S1, d', u, c1, c2, c3, c4, c5⟩ := cp_ok (wf := wf) hp (m + 3) (tabsT ts) dT S (by omega) (by omega) a
  obtain ⟨k, ds, v, rfl, rfl, hk, av⟩ := c2.refI
  have hl : ds.length = ts.length := by rw [av.length, List.length_map]
  obtain ⟨nk, nd⟩ := List.nodup_cons.mp c3
  have plt := h.lt
  have hkS : S.length ≤ k := c4 k List.mem_cons_self
  have pk : p ≠ k := by omega
  have np : p ∉ v := fun z => by have := c4 p (List.mem_cons_of_mem _ z); omega
  have aok := okD_acc a.ok
  obtain ⟨w, S2, e1, e2, e3, e4⟩ := ev_pickI (wf := wf) (n := m + 3) (many := 6) (env := [.fz (.ref p), .fz dT, .no, .no, .no, .no, .no, .no, .no, .no]) (e := .int 6) hc rfl ev_intS (h.frame (c5.2 p plt)) (by omega) (by decide) (by decide)
  have hk2 : S2[k]? = some (.lst ds) := by rw [e4.2 k (Ne.symm pk)]; exact hk
  obtain ⟨i1, S3, f1, f2, f3, f4⟩ := ev_pickI (wf := wf) (n := m + 3) (many := ds.length) (env := [.fz (.ref p), .fz dT, .fz (.ref k), .fz (.int w), .no, .no, .no, .no, .no, .no]) (e := .bi .len (.cons false (.var 2) .nil)) hc rfl (ev_lenR (ev_var rfl) (.inr ⟨k, rfl, hk2⟩)) e3 (by omega) (by omega) (by omega)
  have hk3 : S3[k]? = some (.lst ds) := by rw [f4.2 k (Ne.symm pk)]; exact hk2
  obtain ⟨i2, S4, g1, g2, g3, g4⟩ := ev_pickI (wf := wf) (n := m + 3) (many := ds.length) (env := [.fz (.ref p), .fz dT, .fz (.ref k), .fz (.int w), .no, .no, .no, .no, .no, .no]) (e := .bi .len (.cons false (.var 2) .nil)) hc rfl (ev_lenR (ev_var rfl) (.inr ⟨k, rfl, hk3⟩)) f3 (by omega) (by omega) (by omega)
  have hk4 : S4[k]? = some (.lst ds) := by rw [g4.2 k (Ne.symm pk)]; exact hk3
  have o4 : Onl p S1 S4 := (e4.trans f4).trans g4
  have hi1 : i1 < ts.length := by omega
  have av4 : Ats S4 ds (ts.map tbT) v := av.frame fun i hi => o4.2 i fun z => np (by rw [← z]; exact hi)
  obtain ⟨dx, x1, x2⟩ := av4.vw.get (i := i1) (t := tbT ts[i1]) (by rw [List.getElem?_map, List.getElem?_eq_getElem hi1]; rfl)
  obtain ⟨dk, rfl, x4, x5⟩ := tbI x2
  have hdp : dk ≠ .ref p := fun z => by
    rcases x5 with e | ⟨q, e, e'⟩
    · rw [z] at e; cases e
    · rw [z] at e; cases e
      obtain ⟨pa, pb, pc, hpu, _⟩ := g3
      rw [hpu] at e'
      have e' : D.int pa :: [D.int pb, D.int pc] = ts[i1].2.map .str := by injection (Option.some.inj e')
      cases hq : ts[i1].2 with
      | nil => rw [hq] at e'; cases e'
      | cons y ys => rw [hq] at e'; cases e'
  have tok := hok _ (List.getElem_mem hi1)
  have hn3 : 1 ≤ ts[i1].2.length := tok.2.1
  have hn4 : ts[i1].2.length ≤ kk := tok.2.2.1
  have el7 : ∀ {S' : Sto}, Lr S' dk (ts[i1].2.map .str) → ev (ctxT P wf (m + 4)) (.bi .len (.cons false (.var 7) .nil)) [.fz (.ref p), .fz dT, .fz (.ref k), .fz (.int w), .fz (.int i1), .fz (.int i2), .fz (.str ts[i1].1), .fz dk, .no, .no] S' = .ok (.int ts[i1].2.length) S' := fun {S'} h => by
    have := ev_lenR (C := ctxT P wf (m + 4)) (e := .var 7) (env := [.fz (.ref p), .fz dT, .fz (.ref k), .fz (.int w), .fz (.int i1), .fz (.int i2), .fz (.str ts[i1].1), .fz dk, .no, .no]) (ev_var rfl) h
    rwa [List.length_map] at this
  obtain ⟨i3, S5, j1, j2, j3, j4⟩ := ev_pickI (wf := wf) (n := m + 3) (many := ts[i1].2.length) (env := [.fz (.ref p), .fz dT, .fz (.ref k), .fz (.int w), .fz (.int i1), .fz (.int i2), .fz (.str ts[i1].1), .fz dk, .no, .no]) (e := .bi .len (.cons false (.var 7) .nil)) hc rfl (el7 x5) g3 (by omega) hn3 (by omega)
  have x6 := x5.onl hdp j4
  obtain ⟨i4, S6, l1, l2, l3, l4⟩ := ev_pickI (wf := wf) (n := m + 3) (many := ts[i1].2.length) (env := [.fz (.ref p), .fz dT, .fz (.ref k), .fz (.int w), .fz (.int i1), .fz (.int i2), .fz (.str ts[i1].1), .fz dk, .no, .no]) (e := .bi .len (.cons false (.var 7) .nil)) hc rfl (el7 x6) j3 (by omega) hn3 (by omega)
  have o6 : Onl p S1 S6 := (o4.trans j4).trans l4
  have av6 : Ats S6 ds (ts.map tbT) v := av.frame fun i hi => o6.2 i fun z => np (by rw [← z]; exact hi)
  have hk6 : S6[k]? = some (.lst ds) := by rw [o6.2 k (Ne.symm pk)]; exact hk
  obtain ⟨ts', S7, r1, r2, r3, r4, r5, r6, r7⟩ := bent_step (P := P) (wf := wf) (fp := fp) (m := m + 2) (w := w) (dT := dT) (i2 := i2) hc hfb l3 (by omega) hk6 av6 nk np pk hn hn2 hkk hok (List.getElem?_eq_getElem hi1) (by omega) j2 l2 x1 hdp
  refine ⟨ts', .ref k, S7, ?_, r2, r3, r4, r5.mono (by omega), ?_, fun i hi hip => ?_⟩
  · rw [callT_eq hf, runFn_eq rfl]
    have run : exSs (ctxT P wf (m + 4)) (bBentTables fc fp fb) [.fz (.ref p), .fz dT, .no, .no, .no, .no, .no, .no, .no, .no] S = .ok (.rt (.ref k)) S7 := by
      refine ss_nx (s_parS (xs := [.ref k, .int w]) (evs_consI (ev_callS (evs_consI (ev_var rfl) aok.2 aok.1 evs_nilS) c1) rfl rfl (evs_consI e1 rfl rfl evs_nilS)) rfl) ?_
      refine ss_nx (s_parS (xs := [.int i1, .int i2]) (evs_consI f1 rfl rfl (evs_consI g1 rfl rfl evs_nilS)) rfl) ?_
      refine ss_nx (s_unpS (x := .tup [.str ts[i1].1, dk]) (env1 := [.fz (.ref p), .fz dT, .fz (.ref k), .fz (.int w), .fz (.int i1), .fz (.int i2), .fz (.str ts[i1].1), .fz dk, .no, .no]) (ev_ixR (k := i1) (ev_var rfl) (ev_var rfl) (.inr ⟨k, rfl, hk4⟩) x1) rfl) ?_
      refine ss_nx (s_parS (xs := [.int i3, .int i4]) (evs_consI j1 rfl rfl (evs_consI l1 rfl rfl evs_nilS)) rfl) ?_
      exact ss_nx r1 (ss_rt (s_retS (ev_var rfl) rfl))
    show (exSs (ctxT P wf (m + 4)) (bBentTables fc fp fb) [.fz (.ref p), .fz dT, .no, .no, .no, .no, .no, .no, .no, .no] S).bind finF = _
    rw [run]; rfl
  · rw [r6, o6.1]; exact c5.1
  · rw [r7 i hip (by omega), o6.2 i hip]; exact c5.2 i hi
end KL
end
section
set_option Elab.async false
set_option linter.all false
set_option maxRecDepth 100000
set_option maxHeartbeats 0
set_option exponentiation.threshold 2000
namespace KL
open K9 PySem PyProof.Rows
variable {P : Prog} {wf : Nat}
def bBentRule (fc fb : Nat) : Sms := (.cons (.unp [5, 6] (.ix (.var 1) (.call fc (.cons false (.var 0) (.cons false (.bi .len (.cons false (.var 1) .nil)) .nil))))) (.cons (.asg 2 (.call fc (.cons false (.var 0) (.cons false (.bin .add (.bi .len (.cons false (.var 6) .nil)) (.int 1)) .nil)))) (.cons (.par [7, 8] (.cons false (.call fc (.cons false (.var 0) (.cons false (.bin .add (.var 2) (.int 1)) .nil))) (.cons false (.call fb (.cons false (.var 0) (.cons false (.ix (.var 6) (.call fc (.cons false (.var 0) (.cons false (.bi .len (.cons false (.var 6) .nil)) .nil)))) .nil))) .nil))) (.cons (.par [9, 10] (.cons false (.bi .list (.cons false (.sl (.var 6) .non (.var 2)) .nil)) (.cons false (.ix (.var 6) (.call fc (.cons false (.var 0) (.cons false (.bi .len (.cons false (.var 6) .nil)) .nil)))) .nil))) (.cons (.asg 3 (.bin .add (.bin .add (.sl (.var 9) .non (.var 7)) (.lst (.cons false (.var 8) .nil))) (.sl (.var 9) (.var 7) .non))) (.cons (.asg 4 (.lst (.cons false (.tup (.cons false (.str "key") (.cons false (.var 5) (.cons false (.var 9) (.cons false (.var 10) .nil))))) (.cons false (.tup (.cons false (.str "settles") (.cons false (.var 5) (.cons false (.var 9) .nil)))) (.cons false (.tup (.cons false (.str "key") (.cons false (.var 5) .nil))) (.cons false (.tup (.cons false (.str "settles") (.cons false (.var 5) (.cons false (.var 9) (.cons false (.var 10) (.cons false (.var 10) .nil)))))) .nil)))))) (.cons (.asg 4 (.bin .add (.var 4) (.lst (.cons false (.tup (.cons false (.str "key") .nil)) (.cons false (.tup (.cons false (.str "settles") .nil)) (.cons false (.tup (.cons false (.str "key") (.cons false (.var 8) (.cons false (.var 9) .nil)))) (.cons false (.tup (.cons false (.str "key") (.cons false (.var 8) (.cons false (.var 3) .nil)))) (.cons false (.tup (.cons false (.str "settles") (.cons false (.var 8) (.cons false (.var 9) (.cons false (.var 8) .nil))))) .nil)))))))) (.cons (.asg 4 (.bin .add (.var 4) (.lst (.cons false (.tup (.cons false (.str "key") (.cons false (.var 5) (.cons false (.var 3) .nil)))) (.cons false (.tup (.cons false (.str "settles") (.cons false (.var 5) (.cons false (.var 3) (.cons false (.var 10) .nil))))) (.cons false (.tup (.cons false (.str "settles") (.cons false (.var 5) (.cons false (.var 9) (.cons false (.var 8) .nil))))) .nil)))))) (.cons (.asg 4 (.bin .add (.var 4) (.lst (.cons false (.tup (.cons false (.str "settles") (.cons false (.var 5) (.cons false (.var 3) (.cons false (.call fb (.cons false (.var 0) (.cons false (.var 10) .nil))) .nil))))) (.cons false (.tup (.cons false (.str "key") (.cons false (.var 5) (.cons false (.var 9) .nil)))) .nil))))) (.cons (.asg 4 (.bin .add (.var 4) (.lst (.cons false (.tup (.cons false (.str "settles") (.cons false (.var 5) (.cons false (.var 9) (.cons false (.var 10) .nil))))) (.cons false (.tup (.cons false (.str "keys") (.cons false (.var 5) (.cons false (.var 9) .nil)))) (.cons false (.tup (.cons false (.str "Key") (.cons false (.var 5) (.cons false (.var 9) .nil)))) (.cons false (.tup (.cons false (.str "") (.cons false (.var 5) (.cons false (.var 9) .nil)))) .nil))))))) (.cons (.asg 4 (.bin .add (.var 4) (.lst (.cons false (.tup (.cons false (.str "settle") (.cons false (.var 8) (.cons false (.var 3) (.cons false (.var 10) .nil))))) (.cons false (.tup (.cons false (.var 5) (.cons false (.var 5) (.cons false (.var 9) .nil)))) (.cons false (.tup (.cons false (.str "settles ") (.cons false (.var 5) (.cons false (.var 9) (.cons false (.var 10) .nil))))) (.cons false (.tup .nil) .nil))))))) (.cons (.ret (.ix (.var 4) (.call fc (.cons false (.var 0) (.cons false (.bi .len (.cons false (.var 4) .nil)) .nil))))) .nil))))))))))))
def fBentRule (fc fb : Nat) : Fn := ⟨2, 11, bBentRule fc fb⟩
def bBentRules (fc fp fr : Nat) : Sms := (.cons (.asg 3 (.call fc (.cons false (.var 0) (.cons false (.bin .add (.bi .len (.cons false (.var 2) .nil)) (.int 1)) .nil)))) (.cons (.asg 4 (.call fp (.cons false (.var 2) .nil))) (.cons (.ret (.bin .add (.bin .add (.sl (.var 4) .non (.var 3)) (.lst (.cons false (.call fr (.cons false (.var 0) (.cons false (.var 1) .nil))) .nil))) (.sl (.var 4) (.var 3) .non))) .nil)))
def fBentRules (fc fp fr : Nat) : Fn := ⟨3, 5, bBentRules fc fp fr⟩
def rs1 (t : Str) (so : List Str) (en : Str) : List Ru := [⟨"key", t, so, en, "", 4⟩, ⟨"settles", t, so, "", "", 3⟩, ⟨"key", t, [], "", "", 2⟩, ⟨"settles", t, so, en, en, 5⟩]
def rs2 (st : Str) (so be : List Str) : List Ru := [⟨"key", "", [], "", "", 1⟩, ⟨"settles", "", [], "", "", 1⟩, ⟨"key", st, so, "", "", 3⟩, ⟨"key", st, be, "", "", 3⟩, ⟨"settles", st, so, st, "", 4⟩]
def rs3 (t : Str) (so be : List Str) (st en : Str) : List Ru := [⟨"key", t, be, "", "", 3⟩, ⟨"settles", t, be, en, "", 4⟩, ⟨"settles", t, so, st, "", 4⟩]
def rs4 (t : Str) (so be : List Str) (b2 : Str) : List Ru := [⟨"settles", t, be, b2, "", 4⟩, ⟨"key", t, so, "", "", 3⟩]
def rs5 (t : Str) (so : List Str) (en : Str) : List Ru := [⟨"settles", t, so, en, "", 4⟩, ⟨"keys", t, so, "", "", 3⟩, ⟨"Key", t, so, "", "", 3⟩, ⟨"", t, so, "", "", 3⟩]
def rs6 (t st : Str) (so be : List Str) (en : Str) : List Ru := [⟨"settle", st, be, en, "", 4⟩, ⟨t, t, so, "", "", 3⟩, ⟨"settles ", t, so, en, "", 4⟩, ⟨"", "", [], "", "", 0⟩]
theorem RuOk.mk' {n k : Nat} {w t : Str} {cs : List Str} {e e2 : Str} {m : Nat} (h1 : TW n w) (h2 : TW n t) (h3 : cs.length ≤ k) (h4 : ∀ c ∈ cs, TW n c) (h5 : TW n e) (h6 : TW n e2) (h7 : m ≤ 5) : RuOk n k ⟨w, t, cs, e, e2, m⟩ := ⟨h1, h2, h3, h4, h5, h6, h7⟩
theorem rs_ok {n k : Nat} {t st en b2 : Str} {so be : List Str} (hn : 9 ≤ n) (ht : TW n t) (hst : TW n st) (hen : TW n en) (hb2 : TW n b2) (hso : so.length ≤ k) (hbe : be.length ≤ k) (hso2 : ∀ c ∈ so, TW n c) (hbe2 : ∀ c ∈ be, TW n c) : ∀ r ∈ rs1 t so en ++ rs2 st so be ++ rs3 t so be st en ++ rs4 t so be b2 ++ rs5 t so en ++ rs6 t st so be en, RuOk n k r := by
  have lit : ∀ {s : Str}, (decide (s.length ≤ 9) && s.cps.toList.all fun c => decide (c < 128)) = true → TW n s := fun h => (tw_lit h).mono hn
  have em : TW n "" := lit (by decide +kernel)
  have k1 : TW n "key" := lit (by decide +kernel)
  have k2 : TW n "settles" := lit (by decide +kernel)
  have k3 : TW n "keys" := lit (by decide +kernel)
  have k4 : TW n "Key" := lit (by decide +kernel)
  have k5 : TW n "settle" := lit (by decide +kernel)
  have k6 : TW n "settles " := lit (by decide +kernel)
  have n0 : ([] : List Str).length ≤ k := Nat.zero_le _
  have n1 : ∀ c ∈ ([] : List Str), TW n c := fun _ h => by cases h
  intro r hr
  simp only [rs1, rs2, rs3, rs4, rs5, rs6, List.cons_append, List.nil_append, List.mem_cons, List.not_mem_nil, or_false] at hr
  rcases hr with rfl | rfl | rfl | rfl | rfl | rfl | rfl | rfl | rfl | rfl | rfl | rfl | rfl | rfl | rfl | rfl | rfl | rfl | rfl | rfl | rfl | rfl <;> exact RuOk.mk' (by assumption) (by assumption) (by assumption) (by assumption) (by assumption) (by assumption) (by decide)
theorem bentRule_ok {f fc fb m p c n kk : Nat} (hf : P.fn f = some (fBentRule fc fb)) (hc : P.fn fc = some fCoin) (hfb : P.fn fb = some (fBad fc)) {S : Sto} {ts : List Tb} (h : Pu S p c) (hb : c + 20 < 2 ^ 40) (hts : 1 ≤ ts.length) (hts2 : ts.length ≤ 100) (hn : 9 ≤ n) (hn2 : n ≤ 30) (hkk : kk ≤ 100) (hok : ∀ t ∈ ts, TbOk n kk t) :
    ∃ (r : Ru) (S' : Sto), callT P wf (m + 3) f [.ref p, .lst (ts.map tbF)] S = .ok r.F S' ∧ RuOk (2 * n) (kk + 1) r ∧ Pu S' p (c + 10) ∧ Onl p S S' := by
  obtain ⟨tv, S1, a1, a2, a3, a4⟩ := ev_pick (wf := wf) (n := m + 1) (i := 0) (j := 1) (env := [.fz (.ref p), .fz (.lst (ts.map tbF)), .no, .no, .no, .no, .no, .no, .no, .no, .no]) hc rfl rfl h (by omega) (by rw [List.length_map]; exact hts) (by rw [List.length_map]; omega)
  obtain ⟨⟨t, known⟩, ht, rfl⟩ := List.mem_map.mp a2
  obtain ⟨o1, o2, o3, o4⟩ := hok _ ht
  have o2 : 1 ≤ known.length := o2
  have o3 : known.length ≤ kk := o3
  have hkl : (known.map D.str).length = known.length := List.length_map ..
  obtain ⟨many, S2, b1, b2, b3, b4⟩ := ev_pickI (wf := wf) (n := m + 1) (many := known.length + 1) (env := [.fz (.ref p), .fz (.lst (ts.map tbF)), .no, .no, .no, .fz (.str t), .fz (.lst (known.map .str)), .no, .no, .no, .no]) (e := .bin .add (.bi .len (.cons false (.var 6) .nil)) (.int 1)) hc rfl (ev_addN (j := 1) (by rw [← hkl]; exact ev_lenL (ev_var rfl))) a3 (by omega) (by omega) (by omega)
  obtain ⟨spot, S3, c1, c2, c3, c4⟩ := ev_pickI (wf := wf) (n := m + 1) (many := many + 1) (env := [.fz (.ref p), .fz (.lst (ts.map tbF)), .fz (.int many), .no, .no, .fz (.str t), .fz (.lst (known.map .str)), .no, .no, .no, .no]) (e := .bin .add (.var 2) (.int 1)) hc rfl (ev_addN (j := 1) (ev_var rfl)) b3 (by omega) (by omega) (by omega)
  obtain ⟨cv, S4, d1, d2, d3, d4⟩ := ev_pick (wf := wf) (n := m + 1) (i := 0) (j := 6) (env := [.fz (.ref p), .fz (.lst (ts.map tbF)), .fz (.int many), .no, .no, .fz (.str t), .fz (.lst (known.map .str)), .no, .no, .no, .no]) hc rfl rfl c3 (by omega) (by omega) (by omega)
  obtain ⟨col, hcol, rfl⟩ := List.mem_map.mp d2
  obtain ⟨st, S5, e1, e2, e3, e4⟩ := bad_ok (wf := wf) (m := m) hfb hc d3 (by omega) (o4 col hcol) hn hn2
  obtain ⟨ev2, S6, f1, f2, f3, f4⟩ := ev_pick (wf := wf) (n := m + 1) (i := 0) (j := 6) (env := [.fz (.ref p), .fz (.lst (ts.map tbF)), .fz (.int many), .no, .no, .fz (.str t), .fz (.lst (known.map .str)), .fz (.int spot), .fz (.str st), .no, .no]) hc rfl rfl e3 (by omega) (by omega) (by omega)
  obtain ⟨en, hen, rfl⟩ := List.mem_map.mp f2
  have so2 : ∀ c ∈ known.take many, TW n c := fun c hc => o4 c (List.mem_of_mem_take hc)
  have hkz : known.length ≤ 100 := by omega
  generalize hso : known.take many = so at *
  have sol : so.length ≤ kk := by rw [← hso, List.length_take]; omega
  have hsom : (so.map D.str).length = so.length := List.length_map ..
  obtain ⟨be, hbe⟩ : ∃ be, be = so.take spot ++ [st] ++ so.drop spot := ⟨_, rfl⟩
  have el : (so.map D.str).take spot ++ [D.str st] ++ (so.map D.str).drop spot = be.map D.str := by rw [hbe]; simp [List.map_take, List.map_drop]
  have bel : be.length ≤ kk + 1 := by rw [hbe]; simp only [List.length_append, List.length_take, List.length_drop, List.length_singleton]; omega
  have be2 : ∀ c ∈ be, TW (2 * n) c := fun c hc => by
    rw [hbe] at hc
    rcases List.mem_append.mp hc with hc | hc
    · rcases List.mem_append.mp hc with hc | hc
      · exact (so2 c (List.mem_of_mem_take hc)).mono (by omega)
      · rw [List.mem_singleton.mp hc]; exact e2
    · exact (so2 c (List.mem_of_mem_drop hc)).mono (by omega)
  have vl := ev_addL (C := ctxT P wf (m + 2)) (S := S6) (env := [.fz (.ref p), .fz (.lst (ts.map tbF)), .fz (.int many), .no, .no, .fz (.str t), .fz (.lst (known.map .str)), .fz (.int spot), .fz (.str st), .fz (.lst (so.map .str)), .fz (.str en)]) (ev_addL (ev_slToR (a := .var 9) (b := .var 7) (ev_var rfl) (ev_var rfl) (.inl rfl) (by rw [hsom, sizeLine_eq]; omega)) rfl (ev_lstS (evs_consI (y := .str st) (ev_var (i := 8) rfl) rfl rfl evs_nilS) (by rw [sizeLine_eq]; simp)) rfl (by rw [List.length_take, hsom, sizeLine_eq]; simp; omega)) rfl (ev_slFromR (a := .var 9) (b := .var 7) (ev_var rfl) (ev_var rfl) (.inl rfl) (by rw [hsom, sizeLine_eq]; omega)) rfl (by simp only [List.length_append, List.length_take, List.length_drop, List.length_map, List.length_singleton]; rw [sizeLine_eq]; omega)
  rw [el] at vl
  obtain ⟨b2s, S7, g1, g2, g3, g4⟩ := bad_ok (wf := wf) (m := m) hfb hc f3 (by omega) (o4 en hen) hn hn2
  have m1 : exS (ctxT P wf (m + 2)) (.asg 4 (.lst (.cons false (.tup (.cons false (.str "key") (.cons false (.var 5) (.cons false (.var 9) (.cons false (.var 10) .nil))))) (.cons false (.tup (.cons false (.str "settles") (.cons false (.var 5) (.cons false (.var 9) .nil)))) (.cons false (.tup (.cons false (.str "key") (.cons false (.var 5) .nil))) (.cons false (.tup (.cons false (.str "settles") (.cons false (.var 5) (.cons false (.var 9) (.cons false (.var 10) (.cons false (.var 10) .nil)))))) .nil)))))) [.fz (.ref p), .fz (.lst (ts.map tbF)), .fz (.int many), .fz (.lst (be.map .str)), .no, .fz (.str t), .fz (.lst (known.map .str)), .fz (.int spot), .fz (.str st), .fz (.lst (so.map .str)), .fz (.str en)] S6 = .ok (.nx [.fz (.ref p), .fz (.lst (ts.map tbF)), .fz (.int many), .fz (.lst (be.map .str)), .fz (.lst ((rs1 t so en).map Ru.F)), .fz (.str t), .fz (.lst (known.map .str)), .fz (.int spot), .fz (.str st), .fz (.lst (so.map .str)), .fz (.str en)]) S6 := by kernel_rfl
  have m2 : exS (ctxT P wf (m + 2)) (.asg 4 (.bin .add (.var 4) (.lst (.cons false (.tup (.cons false (.str "key") .nil)) (.cons false (.tup (.cons false (.str "settles") .nil)) (.cons false (.tup (.cons false (.str "key") (.cons false (.var 8) (.cons false (.var 9) .nil)))) (.cons false (.tup (.cons false (.str "key") (.cons false (.var 8) (.cons false (.var 3) .nil)))) (.cons false (.tup (.cons false (.str "settles") (.cons false (.var 8) (.cons false (.var 9) (.cons false (.var 8) .nil))))) .nil)))))))) [.fz (.ref p), .fz (.lst (ts.map tbF)), .fz (.int many), .fz (.lst (be.map .str)), .fz (.lst ((rs1 t so en).map Ru.F)), .fz (.str t), .fz (.lst (known.map .str)), .fz (.int spot), .fz (.str st), .fz (.lst (so.map .str)), .fz (.str en)] S6 = .ok (.nx [.fz (.ref p), .fz (.lst (ts.map tbF)), .fz (.int many), .fz (.lst (be.map .str)), .fz (.lst ((rs1 t so en ++ rs2 st so be).map Ru.F)), .fz (.str t), .fz (.lst (known.map .str)), .fz (.int spot), .fz (.str st), .fz (.lst (so.map .str)), .fz (.str en)]) S6 := by kernel_rfl
  have m3 : exS (ctxT P wf (m + 2)) (.asg 4 (.bin .add (.var 4) (.lst (.cons false (.tup (.cons false (.str "key") (.cons false (.var 5) (.cons false (.var 3) .nil)))) (.cons false (.tup (.cons false (.str "settles") (.cons false (.var 5) (.cons false (.var 3) (.cons false (.var 10) .nil))))) (.cons false (.tup (.cons false (.str "settles") (.cons false (.var 5) (.cons false (.var 9) (.cons false (.var 8) .nil))))) .nil)))))) [.fz (.ref p), .fz (.lst (ts.map tbF)), .fz (.int many), .fz (.lst (be.map .str)), .fz (.lst ((rs1 t so en ++ rs2 st so be).map Ru.F)), .fz (.str t), .fz (.lst (known.map .str)), .fz (.int spot), .fz (.str st), .fz (.lst (so.map .str)), .fz (.str en)] S6 = .ok (.nx [.fz (.ref p), .fz (.lst (ts.map tbF)), .fz (.int many), .fz (.lst (be.map .str)), .fz (.lst ((rs1 t so en ++ rs2 st so be ++ rs3 t so be st en).map Ru.F)), .fz (.str t), .fz (.lst (known.map .str)), .fz (.int spot), .fz (.str st), .fz (.lst (so.map .str)), .fz (.str en)]) S6 := by kernel_rfl
  have m5 : exS (ctxT P wf (m + 2)) (.asg 4 (.bin .add (.var 4) (.lst (.cons false (.tup (.cons false (.str "settles") (.cons false (.var 5) (.cons false (.var 9) (.cons false (.var 10) .nil))))) (.cons false (.tup (.cons false (.str "keys") (.cons false (.var 5) (.cons false (.var 9) .nil)))) (.cons false (.tup (.cons false (.str "Key") (.cons false (.var 5) (.cons false (.var 9) .nil)))) (.cons false (.tup (.cons false (.str "") (.cons false (.var 5) (.cons false (.var 9) .nil)))) .nil))))))) [.fz (.ref p), .fz (.lst (ts.map tbF)), .fz (.int many), .fz (.lst (be.map .str)), .fz (.lst ((rs1 t so en ++ rs2 st so be ++ rs3 t so be st en ++ rs4 t so be b2s).map Ru.F)), .fz (.str t), .fz (.lst (known.map .str)), .fz (.int spot), .fz (.str st), .fz (.lst (so.map .str)), .fz (.str en)] S7 = .ok (.nx [.fz (.ref p), .fz (.lst (ts.map tbF)), .fz (.int many), .fz (.lst (be.map .str)), .fz (.lst ((rs1 t so en ++ rs2 st so be ++ rs3 t so be st en ++ rs4 t so be b2s ++ rs5 t so en).map Ru.F)), .fz (.str t), .fz (.lst (known.map .str)), .fz (.int spot), .fz (.str st), .fz (.lst (so.map .str)), .fz (.str en)]) S7 := by kernel_rfl
  have m6 : exS (ctxT P wf (m + 2)) (.asg 4 (.bin .add (.var 4) (.lst (.cons false (.tup (.cons false (.str "settle") (.cons false (.var 8) (.cons false (.var 3) (.cons false (.var 10) .nil))))) (.cons false (.tup (.cons false (.var 5) (.cons false (.var 5) (.cons false (.var 9) .nil)))) (.cons false (.tup (.cons false (.str "settles ") (.cons false (.var 5) (.cons false (.var 9) (.cons false (.var 10) .nil))))) (.cons false (.tup .nil) .nil))))))) [.fz (.ref p), .fz (.lst (ts.map tbF)), .fz (.int many), .fz (.lst (be.map .str)), .fz (.lst ((rs1 t so en ++ rs2 st so be ++ rs3 t so be st en ++ rs4 t so be b2s ++ rs5 t so en).map Ru.F)), .fz (.str t), .fz (.lst (known.map .str)), .fz (.int spot), .fz (.str st), .fz (.lst (so.map .str)), .fz (.str en)] S7 = .ok (.nx [.fz (.ref p), .fz (.lst (ts.map tbF)), .fz (.int many), .fz (.lst (be.map .str)), .fz (.lst ((rs1 t so en ++ rs2 st so be ++ rs3 t so be st en ++ rs4 t so be b2s ++ rs5 t so en ++ rs6 t st so be en).map Ru.F)), .fz (.str t), .fz (.lst (known.map .str)), .fz (.int spot), .fz (.str st), .fz (.lst (so.map .str)), .fz (.str en)]) S7 := by kernel_rfl
  have m4 : exS (ctxT P wf (m + 2)) (.asg 4 (.bin .add (.var 4) (.lst (.cons false (.tup (.cons false (.str "settles") (.cons false (.var 5) (.cons false (.var 3) (.cons false (.call fb (.cons false (.var 0) (.cons false (.var 10) .nil))) .nil))))) (.cons false (.tup (.cons false (.str "key") (.cons false (.var 5) (.cons false (.var 9) .nil)))) .nil))))) [.fz (.ref p), .fz (.lst (ts.map tbF)), .fz (.int many), .fz (.lst (be.map .str)), .fz (.lst ((rs1 t so en ++ rs2 st so be ++ rs3 t so be st en).map Ru.F)), .fz (.str t), .fz (.lst (known.map .str)), .fz (.int spot), .fz (.str st), .fz (.lst (so.map .str)), .fz (.str en)] S6 = .ok (.nx [.fz (.ref p), .fz (.lst (ts.map tbF)), .fz (.int many), .fz (.lst (be.map .str)), .fz (.lst ((rs1 t so en ++ rs2 st so be ++ rs3 t so be st en ++ rs4 t so be b2s).map Ru.F)), .fz (.str t), .fz (.lst (known.map .str)), .fz (.int spot), .fz (.str st), .fz (.lst (so.map .str)), .fz (.str en)]) S7 := by
    have := s_asgS (C := ctxT P wf (m + 2)) (i := 4) (env := [.fz (.ref p), .fz (.lst (ts.map tbF)), .fz (.int many), .fz (.lst (be.map .str)), .fz (.lst ((rs1 t so en ++ rs2 st so be ++ rs3 t so be st en).map Ru.F)), .fz (.str t), .fz (.lst (known.map .str)), .fz (.int spot), .fz (.str st), .fz (.lst (so.map .str)), .fz (.str en)]) (S := S6) (ev_addL (ev_var (i := 4) rfl) rfl (ev_lstS (evs_consI (y := Ru.F ⟨"settles", t, be, b2s, "", 4⟩) (ev_tupS (evs_consI ev_strS rfl rfl (evs_consI (ev_var (i := 5) rfl) rfl rfl (evs_consI (ev_var (i := 3) rfl) rfl rfl (evs_consI (y := .str b2s) (ev_callS (evs_consI (ev_var (i := 0) rfl) rfl rfl (evs_consI (ev_var (i := 10) rfl) rfl rfl evs_nilS)) g1) rfl rfl evs_nilS)))) (by rw [sizeLine_eq]; simp)) rfl rfl (evs_consI (y := Ru.F ⟨"key", t, so, "", "", 3⟩) (ev_tupS (evs_consI ev_strS rfl rfl (evs_consI (ev_var (i := 5) rfl) rfl rfl (evs_consI (ev_var (i := 9) rfl) rfl rfl evs_nilS))) (by rw [sizeLine_eq]; simp)) rfl rfl evs_nilS)) (by rw [sizeLine_eq]; simp)) rfl (by rw [sizeLine_eq]; simp [rs1, rs2, rs3])) rfl
    exact this
  have hall := rs_ok (n := 2 * n) (k := kk + 1) (t := t) (st := st) (en := en) (b2 := b2s) (so := so) (be := be) (by omega) (o1.mono (by omega)) e2 ((o4 en hen).mono (by omega)) g2 (by omega) bel (fun c hc => (so2 c hc).mono (by omega)) be2
  have hlen : ((rs1 t so en ++ rs2 st so be ++ rs3 t so be st en ++ rs4 t so be b2s ++ rs5 t so en ++ rs6 t st so be en).map Ru.F).length = 22 := by simp [rs1, rs2, rs3, rs4, rs5, rs6]
  obtain ⟨dv, S8, h1, h2, h3, h4⟩ := ev_pick (wf := wf) (n := m + 1) (i := 0) (j := 4) (env := [.fz (.ref p), .fz (.lst (ts.map tbF)), .fz (.int many), .fz (.lst (be.map .str)), .fz (.lst ((rs1 t so en ++ rs2 st so be ++ rs3 t so be st en ++ rs4 t so be b2s ++ rs5 t so en ++ rs6 t st so be en).map Ru.F)), .fz (.str t), .fz (.lst (known.map .str)), .fz (.int spot), .fz (.str st), .fz (.lst (so.map .str)), .fz (.str en)]) hc rfl rfl g3 (by omega) (by omega) (by omega)
  obtain ⟨r, hr, rfl⟩ := List.mem_map.mp h2
  refine ⟨r, S8, ?_, hall r hr, h3.mono (by omega), ((((((a4.trans b4).trans c4).trans d4).trans e4).trans f4).trans g4).trans h4⟩
  rw [callT_eq hf, runFn_eq rfl]
  have run : exSs (ctxT P wf (m + 2)) (bBentRule fc fb) [.fz (.ref p), .fz (.lst (ts.map tbF)), .no, .no, .no, .no, .no, .no, .no, .no, .no] S = .ok (.rt r.F) S8 := by
    refine ss_nx (s_unpS a1 rfl) (ss_nx (s_asgS b1 rfl) ?_)
    refine ss_nx (s_parS (xs := [.int spot, .str st]) (evs_consI c1 rfl rfl (evs_consI (ev_callS (evs_consI (ev_var rfl) rfl rfl (evs_consI d1 rfl rfl evs_nilS)) e1) rfl rfl evs_nilS)) rfl) ?_
    refine ss_nx (s_parS (xs := [.lst (so.map .str), .str en]) (evs_consI (x := .own (.lst (so.map .str))) (ev_biS (evl_consS (ev_slToR (ev_var rfl) (ev_var rfl) (.inl rfl) (by rw [hkl, sizeLine_eq]; omega)) evl_nilS) ?_) rfl rfl (evs_consI f1 rfl rfl evs_nilS)) rfl) ?_
    · rw [← List.map_take, hso]
      show mkL _ _ = _
      exact mkL_ok (by rw [hsom, sizeLine_eq]; omega)
    refine ss_nx (s_asgS vl rfl) (ss_nx m1 (ss_nx m2 (ss_nx m3 (ss_nx m4 (ss_nx m5 (ss_nx m6 ?_))))))
    exact ss_rt (s_retS h1 rfl)
  show (exSs (ctxT P wf (m + 2)) (bBentRule fc fb) [.fz (.ref p), .fz (.lst (ts.map tbF)), .no, .no, .no, .no, .no, .no, .no, .no, .no] S).bind finF = _
  rw [run]; rfl
def rulesT (rs : List Ru) : Tr := .lst (rs.map Ru.T)
theorem Ru.vw {S : Sto} (r : Ru) : Vw S r.F r.T := .tup (Vws.take r.n (.cons (.leaf rfl) (.cons (.leaf rfl) (.cons (.lstF (Vws.lfs _)) (.cons (.leaf rfl) (.cons (.leaf rfl) .nil))))))
theorem deps_take {n : Nat} {ts : List Tr} {k : Nat} (h : ∀ t ∈ ts, dep t ≤ n) : deps (ts.take k) ≤ n := deps_le fun t ht => h t (List.mem_of_mem_take ht)
theorem ru_b {n k : Nat} {r : Ru} (hn : n ≤ 60) (h : RuOk n k r) : dep r.T ≤ 3 ∧ wd r.T ≤ max 5 k ∧ smT r.T ∧ sz r.T ≤ (k + 1) * 5 + 1 := by
  obtain ⟨h1, h2, h3, h4, h5, h6, h7⟩ := h
  obtain ⟨q1, q2, q3, q4, q5⟩ := lfs_b hn h4
  have hl : ([Tr.leaf (.str r.w), .leaf (.str r.t), .lst (lfs r.cs), .leaf (.str r.e), .leaf (.str r.e2)].take r.n).length ≤ 5 := by rw [List.length_take]; simp; omega
  have all : ∀ t ∈ [Tr.leaf (.str r.w), .leaf (.str r.t), .lst (lfs r.cs), .leaf (.str r.e), .leaf (.str r.e2)].take r.n, dep t ≤ 2 ∧ wd t ≤ k ∧ smT t ∧ sz t ≤ k + 1 := fun t ht => by
    have ht := List.mem_of_mem_take ht
    simp only [List.mem_cons, List.not_mem_nil, or_false] at ht
    rcases ht with rfl | rfl | rfl | rfl | rfl
    · exact ⟨by simp [dep], by simp [wd], (h1.mono hn).sm, by simp [sz]⟩
    · exact ⟨by simp [dep], by simp [wd], (h2.mono hn).sm, by simp [sz]⟩
    · exact ⟨by simp only [dep]; omega, by simp only [wd]; omega, q3, by simp only [sz]; omega⟩
    · exact ⟨by simp [dep], by simp [wd], (h5.mono hn).sm, by simp [sz]⟩
    · exact ⟨by simp [dep], by simp [wd], (h6.mono hn).sm, by simp [sz]⟩
  refine ⟨?_, ?_, ?_, ?_⟩
  · have := deps_le fun t ht => (all t ht).1
    simp only [Ru.T, dep]; omega
  · have := wds_le fun t ht => (all t ht).2.1
    simp only [Ru.T, wd]; omega
  · exact smTs_all fun t ht => (all t ht).2.2.1
  · have := szs_le fun t ht => (all t ht).2.2.2
    have q := Nat.mul_le_mul_left (k + 1) hl
    simp only [Ru.T, sz]; omega
theorem rules_b {n k m : Nat} {rs : List Ru} (hn : n ≤ 60) (h : ∀ r ∈ rs, RuOk n k r) (hm : rs.length ≤ m) : dep (rulesT rs) ≤ 4 ∧ wd (rulesT rs) ≤ max m (max 5 k) ∧ smT (rulesT rs) ∧ sz (rulesT rs) ≤ ((k + 1) * 5 + 1) * m + 1 := by
  refine ⟨?_, ?_, ?_, ?_⟩
  · have := deps_le (n := 3) (ts := rs.map Ru.T) fun t ht => by
      obtain ⟨s, hs, rfl⟩ := List.mem_map.mp ht; exact (ru_b hn (h s hs)).1
    simp only [rulesT, dep]; omega
  · have := wds_le (n := max 5 k) (ts := rs.map Ru.T) fun t ht => by
      obtain ⟨s, hs, rfl⟩ := List.mem_map.mp ht; exact (ru_b hn (h s hs)).2.1
    simp only [rulesT, wd, List.length_map]; omega
  · exact smTs_all fun t ht => by
      obtain ⟨s, hs, rfl⟩ := List.mem_map.mp ht; exact (ru_b hn (h s hs)).2.2.1
  · have := szs_le (n := (k + 1) * 5 + 1) (ts := rs.map Ru.T) fun t ht => by
      obtain ⟨s, hs, rfl⟩ := List.mem_map.mp ht; exact (ru_b hn (h s hs)).2.2.2
    rw [List.length_map] at this
    have q := Nat.mul_le_mul_left ((k + 1) * 5 + 1) hm
    simp only [rulesT, sz]; omega
theorem RuOk.mono {n k n' k' : Nat} {r : Ru} (h : RuOk n k r) (hn : n ≤ n') (hk : k ≤ k') : RuOk n' k' r := ⟨h.1.mono hn, h.2.1.mono hn, Nat.le_trans h.2.2.1 hk, fun c hc => (h.2.2.2.1 c hc).mono hn, h.2.2.2.2.1.mono hn, h.2.2.2.2.2.1.mono hn, h.2.2.2.2.2.2⟩
mutual
def noI : Tr → Prop
  | .leaf d => ∀ i, d ≠ .int i
  | .lst ts => noIs ts
  | .tup ts => noIs ts
def noIs : List Tr → Prop
  | [] => True
  | t :: ts => noI t ∧ noIs ts
end
section
variable {S S' : Sto} {p c : Nat}
mutual
theorem Vw.ex2 (hp : Pu S p c) (e : ∀ i, i < S.length → i ≠ p → S'[i]? = S[i]?) : ∀ {d : D} {t : Tr}, noI t → Vw S d t → Vw S' d t
  | _, _, _, .leaf h => .leaf h
  | _, _, hn, .lst (n := n) h r => by
    have hl : n < S.length := (List.getElem?_eq_some_iff.mp h).1
    by_cases hq : n = p
    · obtain ⟨a, b, k, h1, _⟩ := hp
      subst hq
      rw [h] at h1
      injection h1 with h1
      injection h1 with h1
      subst h1
      cases r with
      | cons x y =>
        cases x with
        | leaf _ => exact absurd rfl (hn.1 a)
    · exact .lst (by rw [e n hl hq]; exact h) (Vws.ex2 hp e hn r)
  | _, _, hn, .lstF r => .lstF (Vws.ex2 hp e hn r)
  | _, _, hn, .tup r => .tup (Vws.ex2 hp e hn r)
theorem Vws.ex2 (hp : Pu S p c) (e : ∀ i, i < S.length → i ≠ p → S'[i]? = S[i]?) : ∀ {ds : List D} {ts : List Tr}, noIs ts → Vws S ds ts → Vws S' ds ts
  | _, _, _, .nil => .nil
  | _, _, hn, .cons a r => .cons (Vw.ex2 hp e hn.1 a) (Vws.ex2 hp e hn.2 r)
end
end
theorem noIs_all : ∀ {ts : List Tr}, (∀ t ∈ ts, noI t) → noIs ts
  | [], _ => True.intro
  | t :: ts, h => ⟨h t List.mem_cons_self, noIs_all fun t ht => h t (List.mem_cons_of_mem _ ht)⟩
theorem noI_str {s : Str} : noI (.leaf (.str s)) := fun i z => by cases z
theorem noI_lfs {l : List Str} : noIs (lfs l) := noIs_all fun t ht => by
  obtain ⟨s, _, rfl⟩ := List.mem_map.mp ht; exact noI_str
theorem noI_tabs {ts : List Tb} : noI (tabsT ts) := noIs_all fun t ht => by
  obtain ⟨s, _, rfl⟩ := List.mem_map.mp ht; exact ⟨noI_str, noI_lfs, True.intro⟩
theorem noI_ru {r : Ru} : noI r.T := noIs_all fun t ht => by
  have ht := List.mem_of_mem_take ht
  simp only [List.mem_cons, List.not_mem_nil, or_false] at ht
  rcases ht with rfl | rfl | rfl | rfl | rfl
  · exact noI_str
  · exact noI_str
  · exact noI_lfs
  · exact noI_str
  · exact noI_str
theorem noI_rules {rs : List Ru} : noI (rulesT rs) := noIs_all fun t ht => by
  obtain ⟨s, _, rfl⟩ := List.mem_map.mp ht; exact noI_ru
theorem Ats.keepO {S S' : Sto} {p : Nat} {ds : List D} {ts : List Tr} {v : List Nat} (a : Ats S ds ts v) (np : p ∉ v) (o : Onl p S S') : Ats S' ds ts v := a.frame fun i hi => o.2 i fun z => np (by rw [← z]; exact hi)
theorem bentRules_ok {f fc fp fr fb m p c n kk : Nat} (hf : P.fn f = some (fBentRules fc fp fr)) (hc : P.fn fc = some fCoin) (hp : P.fn fp = some (fCopied fp)) (hr : P.fn fr = some (fBentRule fc fb)) (hfb : P.fn fb = some (fBad fc)) {S : Sto} {ts : List Tb} {rs : List Ru} {dR : D} (h : Pu S p c) (hb : c + 30 < 2 ^ 40) (hts : 1 ≤ ts.length) (hts2 : ts.length ≤ 100) (hn : 9 ≤ n) (hn2 : n ≤ 30) (hkk : kk ≤ 98) (hok : ∀ t ∈ ts, TbOk n kk t) (a : Vw S dR (rulesT rs)) (hrs : ∀ r ∈ rs, RuOk (2 * n) (kk + 1) r) (hrl : rs.length ≤ 100) :
    ∃ (rs' : List Ru) (ds' : List D) (S' : Sto), callT P wf (m + 5) f [.ref p, .lst (ts.map tbF), dR] S = .ok (.own (.lst ds')) S' ∧ Vw S' (.lst ds') (rulesT rs') ∧ rs'.length = rs.length + 1 ∧ (∀ r ∈ rs', RuOk (2 * n) (kk + 1) r) ∧ Pu S' p (c + 20) ∧ Ex2 p S S' := by
  obtain ⟨b1, b2, b3, b4⟩ := rules_b (m := 100) (by omega) hrs hrl
  have aok := okD_acc a.ok
  obtain ⟨dsr, lr, vr⟩ := a.lr
  have hlr : dsr.length = rs.length := by rw [vr.length, List.length_map]
  obtain ⟨spot, S1, e1, e2, e3, e4⟩ := ev_pickI (wf := wf) (n := m + 3) (many := dsr.length + 1) (env := [.fz (.ref p), .fz (.lst (ts.map tbF)), .fz dR, .no, .no]) (e := .bin .add (.bi .len (.cons false (.var 2) .nil)) (.int 1)) hc rfl (ev_addN (j := 1) (ev_lenR (ev_var rfl) lr)) h (by omega) (by omega) (by omega)
  have a1 : Vw S1 dR (rulesT rs) := a.ex2 h (fun i _ hi => e4.2 i hi) noI_rules
  obtain ⟨S2, d', u, c1, c2, c3, c4, c5⟩ := cp_ok (wf := wf) hp (m + 3) (rulesT rs) dR S1 (by omega) (by omega) a1
  obtain ⟨k, ds, v, rfl, rfl, hk, av⟩ := c2.refI
  have hl : ds.length = rs.length := by rw [av.length, List.length_map]
  have plt := e3.lt
  have hkS : S1.length ≤ k := c4 k List.mem_cons_self
  have pk : p ≠ k := by omega
  have np : p ∉ v := fun z => by have := c4 p (List.mem_cons_of_mem _ z); omega
  obtain ⟨r, S3, g1, g2, g3, g4⟩ := bentRule_ok (wf := wf) (m := m + 1) (n := n) hr hc hfb (e3.frame (c5.2 p e3.lt)) (by omega) hts hts2 hn hn2 (by omega) hok
  have av3 := (av.keepO np g4).vw
  have hk3 : S3[k]? = some (.lst ds) := by rw [g4.2 k (Ne.symm pk)]; exact hk
  have hsz : ds.length ≤ sizeLine := by rw [hl, sizeLine_eq]; omega
  have vl := ev_addL (C := ctxT P wf (m + 4)) (env := [.fz (.ref p), .fz (.lst (ts.map tbF)), .fz dR, .fz (.int spot), .fz (.ref k)]) (ev_addL (ev_slToR (a := .var 4) (b := .var 3) (ev_var rfl) (ev_var rfl) (.inr ⟨k, rfl, hk⟩) hsz) rfl (ev_lstS (evs_consI (y := r.F) (ev_callS (evs_consI (ev_var (i := 0) rfl) rfl rfl (evs_consI (ev_var (i := 1) rfl) rfl rfl evs_nilS)) g1) rfl rfl evs_nilS) (by rw [sizeLine_eq]; simp)) rfl (by rw [List.length_take, sizeLine_eq]; simp; omega)) rfl (ev_slFromR (a := .var 4) (b := .var 3) (ev_var rfl) (ev_var rfl) (.inr ⟨k, rfl, hk3⟩) hsz) rfl (by simp only [List.length_append, List.length_take, List.length_drop, List.length_singleton]; rw [sizeLine_eq]; omega)
  refine ⟨rs.take spot ++ [r] ++ rs.drop spot, ds.take spot ++ [r.F] ++ ds.drop spot, S3, ?_, .lstF ?_, ?_, fun q hq => ?_, g3.mono (by omega), ?_, fun i hi hip => ?_⟩
  · rw [callT_eq hf, runFn_eq rfl]
    have run : exSs (ctxT P wf (m + 4)) (bBentRules fc fp fr) [.fz (.ref p), .fz (.lst (ts.map tbF)), .fz dR, .no, .no] S = .ok (.rt (.own (.lst (ds.take spot ++ [r.F] ++ ds.drop spot)))) S3 := by
      refine ss_nx (s_asgS e1 rfl) ?_
      refine ss_nx (s_asgS (x := .ref k) (ev_callS (evs_consI (ev_var rfl) aok.2 aok.1 evs_nilS) c1) rfl) ?_
      exact ss_rt (s_retS vl rfl)
    show (exSs (ctxT P wf (m + 4)) (bBentRules fc fp fr) [.fz (.ref p), .fz (.lst (ts.map tbF)), .fz dR, .no, .no] S).bind finF = _
    rw [run]; rfl
  · rw [List.map_append, List.map_append, List.map_take, List.map_drop]
    exact ((av3.take spot).append (.cons r.vw .nil)).append (av3.drop spot)
  · simp only [List.length_append, List.length_take, List.length_drop, List.length_singleton]; omega
  · rcases List.mem_append.mp hq with hq | hq
    · rcases List.mem_append.mp hq with hq | hq
      · exact hrs q (List.mem_of_mem_take hq)
      · rw [List.mem_singleton.mp hq]; exact g2
    · exact hrs q (List.mem_of_mem_drop hq)
  · rw [g4.1, ← e4.1]; exact c5.1
  · rw [g4.2 i hip, c5.2 i (by rw [e4.1]; exact hi), e4.2 i hip]
end KL
end
section
set_option Elab.async false
set_option linter.all false
set_option maxRecDepth 100000
set_option maxHeartbeats 0
set_option exponentiation.threshold 2000
namespace KL
open K9 PySem PyProof.Rows
variable {P : Prog} {wf : Nat}
/-! ### names -/
def sgn (c : Nat) : Bool := inStr ⟨#[c]⟩ LET
def nameOk (t : Str) : Bool := (decide (0 < t.length) && decide (t.length < 9)) && t.cps.toList.all sgn
def chD (c : Nat) : D := .str ⟨#[c]⟩
def chS (c : Nat) : Str := ⟨#[c]⟩
theorem evIt_str {C : K9.Ctx} {env : K9.Env} {S S1 : Sto} {e : Ex} {t : Str} (h : ev C e env S = .ok (.str t) S1) (hl : t.length ≤ sizeLine) : evIt C (.seq e) env S = .ok ⟨t.cps.toList.map chD, [], false⟩ S1 := by
  simp only [evIt, h, bindR_ok, rd]
  exact chk_pos hl
theorem ev_lenS {C : K9.Ctx} {e : Ex} {env : K9.Env} {S S1 : Sto} {t : Str} (h : ev C e env S = .ok (.str t) S1) (hl : t.length ≤ sizeLine) : ev C (.bi .len (.cons false e .nil)) env S = .ok (.int t.length) S1 := ev_biS (evl_consS h evl_nilS) (chk_pos hl)
theorem ev_cmp2 {C : K9.Ctx} {o1 o2 : Cop} {a b c : Ex} {env : K9.Env} {S : Sto} {x y z : D} {k1 k2 : Bool} (ha : ev C a env S = .ok x S) (hb : ev C b env S = .ok y S) (hc : ev C c env S = .ok z S) (h1 : cmpD o1 (rd x) (rd y) env S = some k1) (h2 : cmpD o2 (rd y) (rd z) env S = some k2) : ev C (.cmp2 o1 o2 a b c) env S = .ok (.bl (k1 && k2)) S := by
  simp only [ev, ha, hb, bindR_ok, h1, oget]
  cases k1
  · rfl
  · simp only [if_true, hc, bindR_ok, h2, oget]; rfl
theorem mapM_strs {S : Sto} {n : Nat} : ∀ l : List Str, (l.map D.str).mapM (py S (n + 1)) = some (l.map PyData.str)
  | [] => rfl
  | s :: l => by
    rw [List.map_cons, List.mapM_cons, mapM_strs l]; rfl
theorem canLay_strs : ∀ {l : List Str}, (∀ s ∈ l, ∀ c ∈ s.cps.toList, c < 128) → PyData.canLayAll0 (l.map PyData.str) = true
  | [], _ => rfl
  | s :: l, h => by
    show (PyData.strOk s && PyData.canLayAll0 (l.map PyData.str)) = true
    rw [canLay_strs fun s hs => h s (List.mem_cons_of_mem _ hs), Bool.and_true]
    unfold PyData.strOk
    rw [← Array.all_toList]
    exact List.all_eq_true.mpr fun c hc => decide_eq_true (by have := h s List.mem_cons_self c hc; omega)
/-- a list of texts == [] -/
theorem eq_nil {l : List Str} (h : ∀ s ∈ l, ∀ c ∈ s.cps.toList, c < 128) {env : K9.Env} {S : Sto} : eqD env S (.lst (l.map .str)) (.lst []) = some l.isEmpty := by
  show (match ((l.map D.str).mapM (py S 60)).map PyData.list, some (PyData.list []) with
    | some p, some q => if p.canLay0 && q.canLay0 then some (PyData.eqv p q) else none
    | _, _ => none) = _
  rw [mapM_strs l]
  show (if PyData.canLayAll0 (l.map PyData.str) && true then some (PyData.eqvAll (l.map PyData.str) []) else none) = _
  rw [canLay_strs h]
  cases l <;> rfl
theorem boolsD_map : ∀ l : List Bool, boolsD (l.map .bl) = some l
  | [] => rfl
  | b :: l => by
    show (boolsD (l.map .bl)).map (b :: ·) = _
    rw [boolsD_map l]; rfl
def bIsName : Sms := (.cons (.ret (.and (.cmp2 .lt .le (.int 0) (.bi .len (.cons false (.var 0) .nil)) (.int (8))) (.bi .all (.cons false (.lc [1] [1] (.seq (.var 0)) (.bl true) (.cmp .isin (.var 1) (.str "abcdefghijklmnopqrstuvwxyz"))) .nil)))) .nil)
def fIsName : Fn := ⟨1, 2, bIsName⟩
def bIsTitle : Sms := (.cons (.asg 1 (.str "abcdefghijklmnopqrstuvwxyz")) (.cons (.ret (.and (.cmp2 .lt .lt (.int 0) (.bi .len (.cons false (.var 0) .nil)) (.int 9)) (.cmp .eq (.lc [2] [2] (.seq (.var 0)) (.cmp .nin (.var 2) (.var 1)) (.var 2)) (.lst .nil)))) .nil))
def fIsTitle : Fn := ⟨1, 3, bIsTitle⟩
theorem isName_ok {f n m : Nat} (hf : P.fn f = some fIsName) {S : Sto} {t : Str} (ht : TW m t) (hm : m ≤ 1000) : callT P wf (n + 1) f [.str t] S = .ok (.bl (nameOk t)) S := by
  have hl : t.length ≤ sizeLine := by rw [sizeLine_eq]; have := ht.1; omega
  have hc : t.cps.toList.length ≤ sizeLine := by rw [str_len]; exact hl
  rw [callT_eq hf, runFn_eq rfl]
  have l1 := lc_map (C := ctxT P wf n) (elt := .cmp .isin (.var 1) (.str "abcdefghijklmnopqrstuvwxyz")) (i := 1) (env := [.fz (.str t), .no]) (S := S) (live := []) (fun _ => rfl) (fun x => match x with | .str s => .bl (inStr s LET) | _ => .non) (t.cps.toList.map chD) (fun x hx => by
    obtain ⟨c, _, rfl⟩ := List.mem_map.mp hx
    exact ⟨rfl, ev_cmpS (ev_var rfl) ev_strS rfl, rfl⟩) (by rw [List.length_map]; exact hc)
  rw [List.map_map] at l1
  have e : (t.cps.toList.map ((fun x => rd (match x with | .str s => D.bl (inStr s LET) | _ => .non)) ∘ chD)) = (t.cps.toList.map sgn).map .bl := by rw [List.map_map]; rfl
  rw [e] at l1
  have run : exSs (ctxT P wf n) bIsName [.fz (.str t), .no] S = .ok (.rt (.bl (nameOk t))) S := by
    refine ss_rt (s_retS (x := .bl (nameOk t)) ?_ rfl)
    have c1 := ev_cmp2 (C := ctxT P wf n) (o1 := .lt) (o2 := .le) (env := [.fz (.str t), .no]) (S := S) (ev_intS (i := 0)) (ev_lenS (e := .var 0) (ev_var rfl) hl) (ev_intS (i := 8)) rfl rfl
    have e1 : (decide ((0 : Int) < t.length) && decide ((t.length : Int) ≤ 8)) = (decide (0 < t.length) && decide (t.length < 9)) := by
      congr 1 <;> exact decide_eq_decide.mpr (by omega)
    have c1' : ev (ctxT P wf n) (.cmp2 .lt .le (.int 0) (.bi .len (.cons false (.var 0) .nil)) (.int 8)) [.fz (.str t), .no] S = .ok (.bl (decide (0 < t.length) && decide (t.length < 9))) S := by rw [← e1]; exact c1
    refine ev_andB c1' ?_
    refine ev_biS (evl_consS (ev_lcS (evIt_str (ev_var rfl) hl) l1 (by rw [List.length_map, List.length_map]; exact hc)) evl_nilS) ?_
    show oget (boolsD ((t.cps.toList.map sgn).map .bl)) _ = _
    rw [boolsD_map, oget_some, List.all_map]; rfl
  show (exSs (ctxT P wf n) bIsName [.fz (.str t), .no] S).bind finF = _
  rw [run]; rfl
theorem isTitle_ok {f n m : Nat} (hf : P.fn f = some fIsTitle) {S : Sto} {t : Str} (ht : TW m t) (hm : m ≤ 1000) : callT P wf (n + 1) f [.str t] S = .ok (.bl (nameOk t)) S := by
  have hl : t.length ≤ sizeLine := by rw [sizeLine_eq]; have := ht.1; omega
  have hc : t.cps.toList.length ≤ sizeLine := by rw [str_len]; exact hl
  rw [callT_eq hf, runFn_eq rfl]
  have l1 := lc_pure (C := ctxT P wf n) (cnd := .cmp .nin (.var 2) (.var 1)) (elt := .var 2) (i := 2) (env := [.fz (.str t), .fz (.str LET), .no]) (S := S) (live := []) (fun _ => rfl) (fun x => match x with | .str s => !inStr s LET | _ => false) (fun x => x) (t.cps.toList.map chD) [] (fun x hx => by
    obtain ⟨c, _, rfl⟩ := List.mem_map.mp hx
    exact ⟨rfl, ev_cmpS (ev_var rfl) (ev_var rfl) rfl, fun _ => ⟨ev_var rfl, rfl⟩⟩) (by rw [List.length_map]; simpa using hc)
  have e : [] ++ ((t.cps.toList.map chD).filter (fun x => match x with | .str s => !inStr s LET | _ => false)).map (fun x => rd x) = ((t.cps.toList.filter fun c => !sgn c).map chS).map .str := by
    rw [List.filter_map, List.map_map, List.map_map]; rfl
  rw [e] at l1
  have run : exSs (ctxT P wf n) bIsTitle [.fz (.str t), .no, .no] S = .ok (.rt (.bl (nameOk t))) S := by
    refine ss_nx (env1 := [.fz (.str t), .fz (.str LET), .no]) (S1 := S) (s_asgS ev_strS rfl) ?_
    refine ss_rt (s_retS (x := .bl (nameOk t)) ?_ rfl)
    have c1 := ev_cmp2 (C := ctxT P wf n) (o1 := .lt) (o2 := .lt) (env := [.fz (.str t), .fz (.str LET), .no]) (S := S) (ev_intS (i := 0)) (ev_lenS (e := .var 0) (ev_var rfl) hl) (ev_intS (i := 9)) rfl rfl
    have e1 : (decide ((0 : Int) < t.length) && decide ((t.length : Int) < 9)) = (decide (0 < t.length) && decide (t.length < 9)) := by
      congr 1 <;> exact decide_eq_decide.mpr (by omega)
    have c1' : ev (ctxT P wf n) (.cmp2 .lt .lt (.int 0) (.bi .len (.cons false (.var 0) .nil)) (.int 9)) [.fz (.str t), .fz (.str LET), .no] S = .ok (.bl (decide (0 < t.length) && decide (t.length < 9))) S := by rw [← e1]; exact c1
    refine ev_andB c1' ?_
    have e2 : (((t.cps.toList.filter fun c => !sgn c).map chS).isEmpty) = t.cps.toList.all sgn := by
      rw [Bool.eq_iff_iff, List.isEmpty_iff, List.map_eq_nil_iff, List.filter_eq_nil_iff, List.all_eq_true]
      exact ⟨fun h c hc => by simpa using h c hc, fun h c hc => by simpa using h c hc⟩
    rw [← e2]
    refine ev_cmpS (ev_lcS (evIt_str (ev_var rfl) hl) l1 (by rw [List.length_map, List.length_map]; exact Nat.le_trans (List.length_filter_le _ _) hc)) (ev_lstS evs_nilS (Nat.zero_le _)) ?_
    refine eq_nil fun s hs c hcc => ?_
    obtain ⟨d, hd, rfl⟩ := List.mem_map.mp hs
    have hd := (List.mem_filter.mp hd).1
    have : c = d := by simpa [chS] using hcc
    rw [this]; exact ht.2 d hd
  show (exSs (ctxT P wf n) bIsTitle [.fz (.str t), .no, .no] S).bind finF = _
  rw [run]; rfl
end KL
end
section
set_option Elab.async false
set_option linter.all false
set_option maxRecDepth 100000
set_option maxHeartbeats 0
set_option exponentiation.threshold 2000
namespace KL
open K9 PySem PyProof.Rows
variable {P : Prog} {wf : Nat}
/-! ### what is due -/
def hasS (l : List Str) (a : Str) : Bool := l.any fun y => y == a
def firstNot (cols l : List Str) : Option Str := l.find? fun c => !hasS cols c
def lookT : List Tb → Str → Option (List Str)
  | [], _ => none
  | t :: ts, x => if t.1 = x then some t.2 else lookT ts x
def ruGood (r : Ru) : Bool := (r.w == "key" && r.n == 3) || (r.w == "settles" && r.n == 4)
def ruTail (r : Ru) : List Str := r.cs ++ (if r.n = 4 then [r.e] else [])
def ruleDue (ts : List Tb) (r : Ru) : Option (Nat × Tr) := if ruGood r then (match lookT ts r.t with
  | none => some (3, .leaf (.str r.t))
  | some cols => (firstNot cols (ruTail r)).map fun c => (4, .leaf (.str c))) else some (5, r.T)
def rulesDue (ts : List Tb) : List Ru → Option (Nat × Tr)
  | [] => none
  | r :: rs => match ruleDue ts r with
    | some e => some e
    | none => rulesDue ts rs
def cnm : Nat → Str
  | 1 => "InvalidName"
  | 2 => "DoubleName"
  | 3 => "UnknownTable"
  | 4 => "UnknownColumn"
  | _ => "InvalidRule"
def DueD (S : Sto) : Option (Nat × Tr) → D → Prop
  | none, x => x = .non
  | some (c, t), x => ∃ y, x = .tup [.str (cnm c), y] ∧ Vw S y t
/-! ### trees that can be compared -/
mutual
def chT : Tr → Prop
  | .leaf d => match d with
    | .str s => ∀ c ∈ s.cps.toList, c < 128
    | _ => True
  | .lst ts => chTs ts
  | .tup ts => chTs ts
def chTs : List Tr → Prop
  | [] => True
  | t :: ts => chT t ∧ chTs ts
end
theorem strOk_of {s : Str} (h : ∀ c ∈ s.cps.toList, c < 128) : PyData.strOk s = true := by
  unfold PyData.strOk
  rw [← Array.all_toList]
  exact List.all_eq_true.mpr fun c hc => decide_eq_true (by have := h c hc; omega)
mutual
theorem lay_ch : ∀ {t : Tr}, chT t → (dat t).canLay0 = true
  | .leaf d, h => by
    cases d <;> first | rfl | exact strOk_of h
  | .lst ts, h => lays_ch (ts := ts) h
  | .tup ts, h => lays_ch (ts := ts) h
theorem lays_ch : ∀ {ts : List Tr}, chTs ts → PyData.canLayAll0 (dats ts) = true
  | [], _ => rfl
  | t :: ts, h => by
    show ((dat t).canLay0 && PyData.canLayAll0 (dats ts)) = true
    rw [lay_ch h.1, lays_ch h.2]; rfl
end
theorem chTs_all : ∀ {ts : List Tr}, (∀ t ∈ ts, chT t) → chTs ts
  | [], _ => True.intro
  | t :: ts, h => ⟨h t List.mem_cons_self, chTs_all fun t ht => h t (List.mem_cons_of_mem _ ht)⟩
theorem ch_str {n : Nat} {s : Str} (h : TW n s) : chT (.leaf (.str s)) := h.2
theorem ch_ru {n k : Nat} {r : Ru} (h : RuOk n k r) : chT r.T := chTs_all fun t ht => by
  obtain ⟨h1, h2, h3, h4, h5, h6, h7⟩ := h
  have ht := List.mem_of_mem_take ht
  simp only [List.mem_cons, List.not_mem_nil, or_false] at ht
  rcases ht with rfl | rfl | rfl | rfl | rfl
  · exact ch_str h1
  · exact ch_str h2
  · exact chTs_all fun t ht => by
      obtain ⟨s, hs, rfl⟩ := List.mem_map.mp ht; exact ch_str (h4 s hs)
  · exact ch_str h5
  · exact ch_str h6
/-! ### the rule's parts -/
theorem ru_len {S : Sto} {ds : List D} {r : Ru} (hn : r.n ≤ 5) (h : Vws S ds ([Tr.leaf (.str r.w), .leaf (.str r.t), .lst (lfs r.cs), .leaf (.str r.e), .leaf (.str r.e2)].take r.n)) : ds.length = r.n := by
  rw [h.length, List.length_take]
  simp; omega
theorem ru_head {S : Sto} {ds : List D} {r : Ru} (hn : 1 ≤ r.n) (h : Vws S ds ([Tr.leaf (.str r.w), .leaf (.str r.t), .lst (lfs r.cs), .leaf (.str r.e), .leaf (.str r.e2)].take r.n)) : ∃ xs, ds = .str r.w :: xs := by
  obtain ⟨m, hm⟩ : ∃ m, r.n = m + 1 := ⟨r.n - 1, by omega⟩
  rw [hm, List.take_succ_cons] at h
  cases h with
  | cons a b => rw [a.strI]; exact ⟨_, rfl⟩
theorem ru_good {S : Sto} {ds : List D} {r : Ru} (hg : ruGood r = true) (h : Vws S ds ([Tr.leaf (.str r.w), .leaf (.str r.t), .lst (lfs r.cs), .leaf (.str r.e), .leaf (.str r.e2)].take r.n)) : ∃ dc, ds = [.str r.w, .str r.t, dc] ++ (if r.n = 4 then [.str r.e] else []) ∧ Lr S dc (r.cs.map .str) ∧ (r.n = 3 ∨ r.n = 4) := by
  have hn : r.n = 3 ∨ r.n = 4 := by
    simp only [ruGood, Bool.or_eq_true, Bool.and_eq_true, beq_iff_eq] at hg
    omega
  rcases hn with hn | hn
  · rw [hn] at h
    cases h with
    | cons a b => cases b with
      | cons b c => cases c with
        | cons c d => cases d with
          | nil =>
            rw [a.strI, b.strI]
            obtain ⟨ys, h1, h2⟩ := c.lr
            rw [h2.lfsI] at h1
            exact ⟨_, by rw [if_neg (by omega)]; rfl, h1, .inl hn⟩
  · rw [hn] at h
    cases h with
    | cons a b => cases b with
      | cons b c => cases c with
        | cons c d => cases d with
          | cons d e => cases e with
            | nil =>
              rw [a.strI, b.strI, d.strI]
              obtain ⟨ys, h1, h2⟩ := c.lr
              rw [h2.lfsI] at h1
              exact ⟨_, by rw [if_pos hn]; rfl, h1, .inr hn⟩
/-! ### dicts of tables -/
def kyT (ts : List Tb) : List Key := ts.map fun t => Sum.inr t.1
/-- a table's columns: a list or a tuple -/
def Vl (S : Sto) (v : D) (l : List Str) : Prop := v = .tup (l.map .str) ∨ Lr S v (l.map .str)
theorem Vl.seq {S : Sto} {v : D} {l : List Str} (h : Vl S v l) {env : K9.Env} : seqOf env S v = some (l.map .str) := by
  rcases h with rfl | h
  · rfl
  · exact h.seqOf
theorem Vl.rd {S : Sto} {v : D} {l : List Str} (h : Vl S v l) : rd v = v ∧ v.isAcc = false := by
  rcases h with rfl | h
  · exact ⟨rfl, rfl⟩
  · exact ⟨h.rd, h.acc⟩
inductive Vls (S : Sto) : List D → List Tb → Prop
  | nil : Vls S [] []
  | cons {v : D} {vs : List D} {t : Tb} {ts : List Tb} : Vl S v t.2 → Vls S vs ts → Vls S (v :: vs) (t :: ts)
theorem Vls.look {S : Sto} : ∀ {vs : List D} {ts : List Tb} {x : Str} {l : List Str}, Vls S vs ts → lookT ts x = some l → ∃ v, lookD (kyT ts) vs (.inr x) = some v ∧ Vl S v l
  | _, _, x, l, .nil, h => by cases h
  | _, _, x, l, .cons (t := t) a r, h => by
    by_cases hx : t.1 = x
    · simp only [lookT, hx, if_true] at h
      cases h
      refine ⟨_, ?_, a⟩
      show (if (Sum.inr x : Key) = Sum.inr t.1 then _ else _) = _
      rw [if_pos (by rw [hx])]
    · simp only [lookT, hx, if_false] at h
      obtain ⟨v, h1, h2⟩ := r.look h
      refine ⟨v, ?_, h2⟩
      show (if (Sum.inr x : Key) = Sum.inr t.1 then _ else _) = _
      rw [if_neg (fun z => hx (by injection z with z; exact z.symm))]
      exact h1
theorem has_look : ∀ {ts : List Tb} {x : Str}, hasKey (kyT ts) (.inr x) = (lookT ts x).isSome
  | [], x => rfl
  | t :: ts, x => by
    show (decide ((Sum.inr t.1 : Key) = Sum.inr x) || hasKey (kyT ts) (.inr x)) = _
    rw [has_look]
    by_cases hx : t.1 = x
    · simp [lookT, hx]
    · rw [decide_eq_false (fun z => hx (by injection z))]
      simp [lookT, hx]
/-- a dict of tables: one that is read only, or one of the store -/
def Dc (S : Sto) (d : D) (ts : List Tb) : Prop := ∃ vs, Vls S vs ts ∧ (d = .dcf (kyT ts) vs ∨ ∃ q, d = .ref q ∧ S[q]? = some (.dct (kyT ts) vs))
theorem Dc.ok {S : Sto} {d : D} {ts : List Tb} (h : Dc S d ts) : rd d = d ∧ d.isAcc = false := by
  obtain ⟨vs, _, h⟩ := h
  rcases h with rfl | ⟨q, rfl, _⟩ <;> exact ⟨rfl, rfl⟩
theorem Dc.inD {S : Sto} {d : D} {ts : List Tb} (h : Dc S d ts) {x : Str} {env : K9.Env} : inD env S (.str x) d = some (lookT ts x).isSome := by
  obtain ⟨vs, _, h⟩ := h
  rw [← has_look]
  rcases h with rfl | ⟨q, rfl, h⟩
  · rfl
  · have e1 : seqOf env S (.ref q) = none := by
      show (match S[q]? with | some (.lst xs) => some xs | _ => none) = _
      rw [h]
    have e2 : cont env S (.ref q) = some (.dct (kyT ts) vs) := h
    simp only [K9.inD, e1, e2, keyOf]
theorem Dc.ixD {S : Sto} {d : D} {ts : List Tb} (h : Dc S d ts) {x : Str} {l : List Str} (hl : lookT ts x = some l) {env : K9.Env} : ∃ v, ixD d (.str x) env S = .ok v S ∧ Vl S v l := by
  obtain ⟨vs, hv, h⟩ := h
  obtain ⟨v, h1, h2⟩ := hv.look hl
  refine ⟨v, ?_, h2⟩
  rcases h with rfl | ⟨q, rfl, h⟩
  · simp only [K9.ixD, keyOf, oget, h1]
  · have e1 : seqOf env S (.ref q) = none := by
      show (match S[q]? with | some (.lst xs) => some xs | _ => none) = _
      rw [h]
    have e2 : cont env S (.ref q) = some (.dct (kyT ts) vs) := h
    simp only [K9.ixD, e1, e2, keyOf, oget, h1]
theorem in_strs {S : Sto} {v : D} {l : List Str} (h : Vl S v l) {x : Str} {env : K9.Env} : inD env S (.str x) v = some (hasS l x) := by
  have hs := h.seq (env := env)
  have e : ∀ l : List Str, (l.map D.str).all flatD = true := fun l => by
    rw [List.all_eq_true]; intro y hy; obtain ⟨s, _, rfl⟩ := List.mem_map.mp hy; rfl
  have e2 : ∀ l : List Str, ((l.map D.str).any fun y => eqF y (.str x)) = hasS l x := fun l => by
    rw [List.any_map]; rfl
  have e3 : K9.inD env S (.str x) v = match seqOf env S v with
    | some xs => if flatD (.str x) && xs.all flatD then some (xs.any fun y => eqF y (.str x)) else match py S 60 (.str x), xs.mapM (py S 60) with
        | some p, some qs => if p.canLay0 && PyData.canLayAll0 qs then some (memP p qs) else none
        | _, _ => none
    | none => match cont env S v, keyOf (.str x) with
      | some (.dct ks _), some k => some (hasKey ks k)
      | _, _ => none := by
    rcases h with rfl | rfl | ⟨q, rfl, _⟩ <;> rfl
  rw [e3, hs]
  show (if true && (l.map D.str).all flatD then _ else _) = _
  rw [e l]
  show some _ = _
  rw [e2]
def bCheckRule (fr : Nat) : Sms := (.cons (.ite (.or (.cmp .eq (.var 1) (.tup .nil)) (.cmp .ne (.gget 0 (.ix (.var 1) (.int 0))) (.bi .len (.cons false (.var 1) .nil)))) (.cons (.raise 5 (.call fr (.cons false (.var 1) .nil))) .nil) .nil) (.cons (.ite (.cmp .nin (.ix (.var 1) (.int 1)) (.var 0)) (.cons (.raise 3 (.ix (.var 1) (.int 1))) .nil) .nil) (.cons (.for_ [2] (.seq (.lst (.cons true (.ix (.var 1) (.int 2)) (.cons true (.sl (.var 1) (.int 3) .non) .nil)))) (.cons (.ite (.cmp .nin (.var 2) (.ix (.var 0) (.ix (.var 1) (.int 1)))) (.cons (.raise 4 (.var 2)) .nil) .nil) .nil)) .nil)))
def fCheckRule (fr : Nat) : Fn := ⟨2, 3, bCheckRule fr⟩
def bWrongRule : Sms := (.cons (.for_ [2] (.seq (.var 1)) (.cons (.ite (.or (.cmp .nin (.sl (.var 2) .non (.int 1)) (.tup (.cons false (.tup (.cons false (.str "key") .nil)) (.cons false (.tup (.cons false (.str "settles") .nil)) .nil)))) (.cmp .ne (.bi .len (.cons false (.var 2) .nil)) (.ite (.cmp .eq (.ix (.var 2) (.int 0)) (.str "key")) (.int 3) (.int 4)))) (.cons (.ret (.tup (.cons false (.str "InvalidRule") (.cons false (.var 2) .nil)))) .nil) .nil) (.cons (.ite (.cmp .nin (.ix (.var 2) (.int 1)) (.var 0)) (.cons (.ret (.tup (.cons false (.str "UnknownTable") (.cons false (.ix (.var 2) (.int 1)) .nil)))) .nil) .nil) (.cons (.asg 3 (.lc [4] [4] (.seq (.bin .add (.ix (.var 2) (.int 2)) (.bi .list (.cons false (.sl (.var 2) (.int 3) .non) .nil)))) (.cmp .nin (.var 4) (.ix (.var 0) (.ix (.var 2) (.int 1)))) (.var 4))) (.cons (.ite (.cmp .ne (.var 3) (.lst .nil)) (.cons (.ret (.tup (.cons false (.str "UnknownColumn") (.cons false (.ix (.var 3) (.int 0)) .nil)))) .nil) .nil) .nil))))) (.cons (.ret .non) .nil))
def fWrongRule : Fn := ⟨2, 5, bWrongRule⟩
end KL
end
section
set_option Elab.async false
set_option linter.all false
set_option maxRecDepth 100000
set_option maxHeartbeats 0
set_option exponentiation.threshold 2000
namespace KL
open K9 PySem PyProof.Rows
variable {P : Prog} {wf : Nat}
theorem find_filter {l cols : List Str} : firstNot cols l = (l.filter fun c => !hasS cols c).head? := by
  unfold firstNot
  rw [List.head?_filter]
theorem good_of {r : Ru} : ruGood r = true ↔ (r.w = "key" ∧ r.n = 3) ∨ (r.w = "settles" ∧ r.n = 4) := by
  simp only [ruGood, Bool.or_eq_true, Bool.and_eq_true, beq_iff_eq]
/-- (w,) in (("key",), ("settles",)) -/
theorem in_kw {S : Sto} {env : K9.Env} {w : Str} (h : ∀ c ∈ w.cps.toList, c < 128) : inD env S (.tup [.str w]) (.tup [.tup [.str "key"], .tup [.str "settles"]]) = some (("key" == w) || ("settles" == w)) := by
  have e : inD env S (.tup [.str w]) (.tup [.tup [.str "key"], .tup [.str "settles"]]) = if (PyData.strOk w && true) && PyData.canLayAll0 [.tuple [.str "key"], .tuple [.str "settles"]] then some (memP (.tuple [.str w]) [.tuple [.str "key"], .tuple [.str "settles"]]) else none := rfl
  rw [e, strOk_of h, show PyData.canLayAll0 [.tuple [.str "key"], .tuple [.str "settles"]] = true by decide +kernel]
  show some (memP (.tuple [.str w]) [.tuple [.str "key"], .tuple [.str "settles"]]) = _
  simp only [memP, List.any_cons, List.any_nil, PyData.eqv, PyData.eqvAll, Bool.and_true, Bool.or_false]
theorem rule_tail {C : K9.Ctx} {env : K9.Env} {S : Sto} {i : Nat} {ds : List D} {r : Ru} {dc : D} (h : env[i]? = some (.fz (.tup ds))) (hd : ds = [.str r.w, .str r.t, dc] ++ (if r.n = 4 then [.str r.e] else [])) : ev C (.sl (.var i) (.int 3) .non) env S = .ok (.tup ((if r.n = 4 then [r.e] else []).map .str)) S := by
  refine ev_slFrom (i := ((3 : Nat) : Int)) (ev_var h) ev_intS ?_
  show R.ok (D.tup (cutL ds (some ((3 : Nat) : Int)) none)) S = _
  rw [cut_from, hd]
  congr 2
  by_cases h : r.n = 4
  · rw [if_pos h, if_pos h]; rfl
  · rw [if_neg h, if_neg h]; rfl
theorem tail_map (r : Ru) : (r.cs.map D.str) ++ ((if r.n = 4 then [r.e] else []).map .str) = (ruTail r).map .str := by
  rw [ruTail, List.map_append]
theorem tail_b {n k : Nat} {r : Ru} (h : RuOk n k r) : (ruTail r).length ≤ k + 1 ∧ ∀ c ∈ ruTail r, TW n c := by
  obtain ⟨h1, h2, h3, h4, h5, h6, h7⟩ := h
  unfold ruTail
  refine ⟨?_, fun c hc => ?_⟩
  · rw [List.length_append]; split <;> simp <;> omega
  · rcases List.mem_append.mp hc with hc | hc
    · exact h4 c hc
    · split at hc
      · rw [List.mem_singleton.mp hc]; exact h5
      · cases hc
/-- the first condition of wrong_rule -/
theorem wr_cond {C : K9.Ctx} {env : K9.Env} {S : Sto} {n k : Nat} {ds : List D} {r : Ru} (h2 : env[2]? = some (.fz (.tup ds))) (hr : RuOk n k r) (h : Vws S ds ([Tr.leaf (.str r.w), .leaf (.str r.t), .lst (lfs r.cs), .leaf (.str r.e), .leaf (.str r.e2)].take r.n)) : ev C (.or (.cmp .nin (.sl (.var 2) .non (.int 1)) (.tup (.cons false (.tup (.cons false (.str "key") .nil)) (.cons false (.tup (.cons false (.str "settles") .nil)) .nil)))) (.cmp .ne (.bi .len (.cons false (.var 2) .nil)) (.ite (.cmp .eq (.ix (.var 2) (.int 0)) (.str "key")) (.int 3) (.int 4)))) env S = .ok (.bl (!ruGood r)) S := by
  obtain ⟨o1, o2, o3, o4, o5, o6, o7⟩ := hr
  have hl := ru_len o7 h
  have hm : ev C (.tup (.cons false (.tup (.cons false (.str "key") .nil)) (.cons false (.tup (.cons false (.str "settles") .nil)) .nil))) env S = .ok (.tup [.tup [.str "key"], .tup [.str "settles"]]) S := by kernel_rfl
  have hs : ev C (.sl (.var 2) .non (.int 1)) env S = .ok (.tup (ds.take 1)) S := by
    refine ev_slTo (i := ((1 : Nat) : Int)) (ev_var h2) ev_intS ?_
    show R.ok (D.tup (cutL ds none (some ((1 : Nat) : Int)))) S = _
    rw [cut_to]
  by_cases h0 : r.n = 0
  · have hd : ds = [] := List.length_eq_zero_iff.mp (hl.trans h0)
    subst hd
    have hg : ruGood r = false := by
      rw [Bool.eq_false_iff]; intro z; rw [good_of] at z; omega
    rw [hg]
    exact ev_orT (ev_cmpS hs hm (by kernel_rfl))
  · obtain ⟨xs, rfl⟩ := ru_head (by omega) h
    have c1 : ev C (.cmp .nin (.sl (.var 2) .non (.int 1)) (.tup (.cons false (.tup (.cons false (.str "key") .nil)) (.cons false (.tup (.cons false (.str "settles") .nil)) .nil)))) env S = .ok (.bl (!(("key" == r.w) || ("settles" == r.w)))) S := by
      refine ev_cmpS hs hm ?_
      show (inD env S (.tup [.str r.w]) (.tup [.tup [.str "key"], .tup [.str "settles"]])).map (!·) = _
      rw [in_kw o1.2]; rfl
    have ln := ev_lenT (C := C) (e := .var 2) (env := env) (S := S) (ev_var h2)
    rw [hl] at ln
    have q : ev C (.cmp .eq (.ix (.var 2) (.int 0)) (.str "key")) env S = .ok (.bl (r.w == "key")) S := ev_cmpS (x := .str r.w) (ev_ixT (k := 0) (ev_var h2) ev_intS rfl) ev_strS rfl
    by_cases w1 : r.w = "key"
    · rw [w1] at c1 q
      have e1 : ((("key" : Str) == "key") || (("settles" : Str) == "key")) = true := by decide +kernel
      rw [e1] at c1
      refine ev_orF c1 ?_
      have e2 : ((("key" : Str) == "key")) = true := by decide +kernel
      rw [e2] at q
      refine ev_cmpS (y := .int 3) ln (ev_iteS q (by rw [if_pos rfl]; exact ev_intS)) ?_
      show some (!((r.n : Int) == 3)) = _
      have : ruGood r = (r.n == 3) := by
        rw [Bool.eq_iff_iff, good_of, beq_iff_eq]
        exact ⟨fun z => by rcases z with z | z; exact z.2; exact absurd (w1.symm.trans z.1) (by decide +kernel), fun z => .inl ⟨w1, z⟩⟩
      rw [this]
      congr 2
      rw [Bool.eq_iff_iff, beq_iff_eq, beq_iff_eq]; omega
    · have e2 : (r.w == "key") = false := beq_false_of_ne w1
      have e3 : (("key" : Str) == r.w) = false := beq_false_of_ne (Ne.symm w1)
      rw [e2] at q
      rw [e3, Bool.false_or] at c1
      by_cases w2 : r.w = "settles"
      · have e1 : (("settles" : Str) == r.w) = true := by rw [w2]; decide +kernel
        rw [e1] at c1
        refine ev_orF c1 ?_
        refine ev_cmpS (y := .int 4) ln (ev_iteS q (by rw [if_neg (by decide)]; exact ev_intS)) ?_
        show some (!((r.n : Int) == 4)) = _
        have : ruGood r = (r.n == 4) := by
          rw [Bool.eq_iff_iff, good_of, beq_iff_eq]
          exact ⟨fun z => by rcases z with z | z; exact absurd z.1 w1; exact z.2, fun z => .inr ⟨w2, z⟩⟩
        rw [this]
        congr 2
        rw [Bool.eq_iff_iff, beq_iff_eq, beq_iff_eq]; omega
      · have e1 : (("settles" : Str) == r.w) = false := beq_false_of_ne (Ne.symm w2)
        rw [e1] at c1
        have hg : ruGood r = false := by
          rw [Bool.eq_false_iff]; intro z; rw [good_of] at z
          rcases z with z | z
          · exact w1 z.1
          · exact w2 z.1
        rw [hg]
        exact ev_orT c1
/-- (rule) in a dict of tables, its columns -/
theorem ev_tin {C : K9.Ctx} {env : K9.Env} {S : Sto} {e : Ex} {j : Nat} {x : Str} {dT : D} {ts : List Tb} (he : ev C e env S = .ok (.str x) S) (hj : env[j]? = some (.fz dT)) (h : Dc S dT ts) : ev C (.cmp .nin e (.var j)) env S = .ok (.bl (!(lookT ts x).isSome)) S := by
  refine ev_cmpS he (ev_var hj) ?_
  rw [h.ok.1]
  show (inD env S (.str x) dT).map (!·) = _
  rw [h.inD]; rfl
theorem ev_tix {C : K9.Ctx} {env : K9.Env} {S : Sto} {e : Ex} {j : Nat} {x : Str} {l : List Str} {dT : D} {ts : List Tb} (he : ev C e env S = .ok (.str x) S) (hj : env[j]? = some (.fz dT)) (h : Dc S dT ts) (hl : lookT ts x = some l) : ∃ v, ev C (.ix (.var j) e) env S = .ok v S ∧ Vl S v l := by
  obtain ⟨v, h1, h2⟩ := h.ixD hl (env := env)
  exact ⟨v, ev_ixS (ev_var hj) he (by rw [h.ok.1]; exact h1), h2⟩
theorem ev_nin {C : K9.Ctx} {env : K9.Env} {S : Sto} {a b : Ex} {c : Str} {v : D} {l : List Str} (ha : ev C a env S = .ok (.str c) S) (hb : ev C b env S = .ok v S) (h : Vl S v l) : ev C (.cmp .nin a b) env S = .ok (.bl (!hasS l c)) S := by
  refine ev_cmpS ha hb ?_
  rw [h.rd.1]
  show (inD env S (.str c) v).map (!·) = _
  rw [in_strs h]; rfl
theorem wr_body {C : K9.Ctx} {S : Sto} {n k : Nat} {ds : List D} {r : Ru} {ts : List Tb} {dT dR : D} {s3 s4 : K9.Slot} (hT : Dc S dT ts) (hk : k ≤ 100) (hr : RuOk n k r) (hd : Vw S (.tup ds) r.T) :
    (ruleDue ts r = none ∧ ∃ s3', exSs C (.cons (.ite (.or (.cmp .nin (.sl (.var 2) .non (.int 1)) (.tup (.cons false (.tup (.cons false (.str "key") .nil)) (.cons false (.tup (.cons false (.str "settles") .nil)) .nil)))) (.cmp .ne (.bi .len (.cons false (.var 2) .nil)) (.ite (.cmp .eq (.ix (.var 2) (.int 0)) (.str "key")) (.int 3) (.int 4)))) (.cons (.ret (.tup (.cons false (.str "InvalidRule") (.cons false (.var 2) .nil)))) .nil) .nil) (.cons (.ite (.cmp .nin (.ix (.var 2) (.int 1)) (.var 0)) (.cons (.ret (.tup (.cons false (.str "UnknownTable") (.cons false (.ix (.var 2) (.int 1)) .nil)))) .nil) .nil) (.cons (.asg 3 (.lc [4] [4] (.seq (.bin .add (.ix (.var 2) (.int 2)) (.bi .list (.cons false (.sl (.var 2) (.int 3) .non) .nil)))) (.cmp .nin (.var 4) (.ix (.var 0) (.ix (.var 2) (.int 1)))) (.var 4))) (.cons (.ite (.cmp .ne (.var 3) (.lst .nil)) (.cons (.ret (.tup (.cons false (.str "UnknownColumn") (.cons false (.ix (.var 3) (.int 0)) .nil)))) .nil) .nil) .nil)))) [.fz dT, .fz dR, .fz (.tup ds), s3, s4] S = .ok (.nx [.fz dT, .fz dR, .fz (.tup ds), s3', s4]) S) ∨
    (∃ e x, ruleDue ts r = some e ∧ DueD S (some e) x ∧ exSs C (.cons (.ite (.or (.cmp .nin (.sl (.var 2) .non (.int 1)) (.tup (.cons false (.tup (.cons false (.str "key") .nil)) (.cons false (.tup (.cons false (.str "settles") .nil)) .nil)))) (.cmp .ne (.bi .len (.cons false (.var 2) .nil)) (.ite (.cmp .eq (.ix (.var 2) (.int 0)) (.str "key")) (.int 3) (.int 4)))) (.cons (.ret (.tup (.cons false (.str "InvalidRule") (.cons false (.var 2) .nil)))) .nil) .nil) (.cons (.ite (.cmp .nin (.ix (.var 2) (.int 1)) (.var 0)) (.cons (.ret (.tup (.cons false (.str "UnknownTable") (.cons false (.ix (.var 2) (.int 1)) .nil)))) .nil) .nil) (.cons (.asg 3 (.lc [4] [4] (.seq (.bin .add (.ix (.var 2) (.int 2)) (.bi .list (.cons false (.sl (.var 2) (.int 3) .non) .nil)))) (.cmp .nin (.var 4) (.ix (.var 0) (.ix (.var 2) (.int 1)))) (.var 4))) (.cons (.ite (.cmp .ne (.var 3) (.lst .nil)) (.cons (.ret (.tup (.cons false (.str "UnknownColumn") (.cons false (.ix (.var 3) (.int 0)) .nil)))) .nil) .nil) .nil)))) [.fz dT, .fz dR, .fz (.tup ds), s3, s4] S = .ok (.rt x) S) := by
  obtain ⟨ds', e, hv⟩ := hd.tupI
  cases e
  have hcond := wr_cond (C := C) (env := [.fz dT, .fz dR, .fz (.tup ds), s3, s4]) rfl hr hv
  by_cases hg : ruGood r = true
  · obtain ⟨dc, e1, e2, e3⟩ := ru_good hg hv
    rw [hg] at hcond
    have a1 : ∀ {s3 s4 : K9.Slot}, ev C (.ix (.var 2) (.int 1)) [.fz dT, .fz dR, .fz (.tup ds), s3, s4] S = .ok (.str r.t) S := fun {s3 s4} => ev_ixT (k := 1) (ev_var rfl) ev_intS (by rw [e1]; rfl)
    have t1 := ev_tin (C := C) (env := [.fz dT, .fz dR, .fz (.tup ds), s3, s4]) (j := 0) a1 rfl hT
    cases hlk : lookT ts r.t with
    | none =>
      rw [hlk] at t1
      refine .inr ⟨(3, .leaf (.str r.t)), .tup [.str "UnknownTable", .str r.t], by simp only [ruleDue, hg, if_true, hlk], ⟨.str r.t, rfl, .leaf rfl⟩, ?_⟩
      refine ss_nx (S1 := S) (s_iteF hcond ss_nil') (ss_rt (s_iteT t1 (ss_rt (s_retS (ev_tupS (evs_consI ev_strS rfl rfl (evs_consI a1 rfl rfl evs_nilS)) (by rw [sizeLine_eq]; simp)) rfl))))
    | some cols =>
      rw [hlk] at t1
      obtain ⟨b1, b2⟩ := tail_b hr
      have hsz : ((ruTail r).map D.str).length ≤ sizeLine := by rw [List.length_map, sizeLine_eq]; omega
      have l1 : ∀ {env' : K9.Env}, env'[2]? = some (.fz (.tup ds)) → ev C (.bin .add (.ix (.var 2) (.int 2)) (.bi .list (.cons false (.sl (.var 2) (.int 3) .non) .nil))) env' S = .ok (.own (.lst ((ruTail r).map .str))) S := fun {env'} h2 => by
        refine ev_binS (S2 := S) (x := dc) (y := .own (.lst ((if r.n = 4 then [r.e] else []).map .str))) (ev_ixT (k := 2) (ev_var h2) ev_intS (by rw [e1]; rfl)) (ev_biS (evl_consS (rule_tail h2 e1) evl_nilS) ?_) ?_
        · show mkL _ _ = _
          exact mkL_ok (by rw [List.length_map, sizeLine_eq]; split <;> simp)
        · rw [e2.rd]
          have e4 : K9.binD .add dc (rd (.own (.lst ((if r.n = 4 then [r.e] else []).map .str)))) env' S = oget (K9.lstOf env' S dc) fun xs => oget (some ((if r.n = 4 then [r.e] else []).map D.str)) fun ys => mkL (xs ++ ys) S := by
            rcases e2 with rfl | ⟨q, rfl, _⟩ <;> rfl
          rw [e4, e2.lstOf, oget_some, oget_some, tail_map]
          exact mkL_ok hsz
      obtain ⟨v, v1, v2⟩ := ev_tix (C := C) (env := [.fz dT, .fz dR, .fz (.tup ds), s3, s4]) (j := 0) a1 rfl hT hlk
      have lp := lc_pure (C := C) (cnd := .cmp .nin (.var 4) (.ix (.var 0) (.ix (.var 2) (.int 1)))) (elt := .var 4) (i := 4) (env := [.fz dT, .fz dR, .fz (.tup ds), s3, .no]) (S := S) (live := []) (fun _ => rfl) (fun x => match x with | .str s => !hasS cols s | _ => false) (fun x => x) ((ruTail r).map .str) [] (fun x hx => by
        obtain ⟨c, _, rfl⟩ := List.mem_map.mp hx
        obtain ⟨v, v1, v2⟩ := ev_tix (C := C) (env := [.fz dT, .fz dR, .fz (.tup ds), s3, .fz (.str c)]) (j := 0) a1 rfl hT hlk
        exact ⟨rfl, ev_nin (ev_var rfl) v1 v2, fun _ => ⟨ev_var rfl, rfl⟩⟩) (by simpa using hsz)
      have el : [] ++ (((ruTail r).map D.str).filter (fun x => match x with | .str s => !hasS cols s | _ => false)).map (fun x => rd x) = ((ruTail r).filter fun c => !hasS cols c).map .str := by
        rw [List.filter_map, List.map_map]; rfl
      rw [el] at lp
      have s1 : exS C (.asg 3 (.lc [4] [4] (.seq (.bin .add (.ix (.var 2) (.int 2)) (.bi .list (.cons false (.sl (.var 2) (.int 3) .non) .nil)))) (.cmp .nin (.var 4) (.ix (.var 0) (.ix (.var 2) (.int 1)))) (.var 4))) [.fz dT, .fz dR, .fz (.tup ds), s3, s4] S = .ok (.nx [.fz dT, .fz dR, .fz (.tup ds), .fz (.lst (((ruTail r).filter fun c => !hasS cols c).map .str)), s4]) S :=
        s_asgS (ev_lcS (evIt_own (l1 rfl)) lp (by rw [List.length_map]; rw [List.length_map] at hsz; exact Nat.le_trans (List.length_filter_le _ _) hsz)) rfl
      have c3 : ev C (.cmp .ne (.var 3) (.lst .nil)) [.fz dT, .fz dR, .fz (.tup ds), .fz (.lst (((ruTail r).filter fun c => !hasS cols c).map .str)), s4] S = .ok (.bl (!((ruTail r).filter fun c => !hasS cols c).isEmpty)) S := by
        refine ev_cmpS (ev_var rfl) (ev_lstS evs_nilS (Nat.zero_le _)) ?_
        show (eqD _ S (.lst (((ruTail r).filter fun c => !hasS cols c).map .str)) (.lst [])).map (!·) = _
        rw [eq_nil fun s hs => (b2 s (List.mem_filter.mp hs).1).2]; rfl
      cases hq : (ruTail r).filter (fun c => !hasS cols c) with
      | nil =>
        rw [hq] at c3 s1
        refine .inl ⟨by simp only [ruleDue, hg, if_true, hlk, find_filter, hq, List.head?_nil, Option.map_none], .fz (.lst (List.map D.str [])), ?_⟩
        exact ss_nx (S1 := S) (s_iteF hcond ss_nil') (ss_nx (S1 := S) (s_iteF t1 ss_nil') (ss_nx s1 (ss_nx (s_iteF c3 ss_nil') ss_nil')))
      | cons c cs =>
        rw [hq] at c3 s1
        refine .inr ⟨(4, .leaf (.str c)), .tup [.str "UnknownColumn", .str c], by simp only [ruleDue, hg, if_true, hlk, find_filter, hq, List.head?_cons, Option.map_some], ⟨.str c, rfl, .leaf rfl⟩, ?_⟩
        exact ss_nx (S1 := S) (s_iteF hcond ss_nil') (ss_nx (S1 := S) (s_iteF t1 ss_nil') (ss_nx s1 (ss_rt (s_iteT c3 (ss_rt (s_retS (ev_tupS (evs_consI ev_strS rfl rfl (evs_consI (y := .str c) (ev_ixR (k := 0) (ev_var rfl) ev_intS (.inl rfl) rfl) rfl rfl evs_nilS)) (by rw [sizeLine_eq]; simp)) rfl))))))
  · have hg' : ruGood r = false := by rw [Bool.eq_false_iff]; exact hg
    rw [hg'] at hcond
    refine .inr ⟨(5, r.T), .tup [.str "InvalidRule", .tup ds], by simp only [ruleDue, hg', Bool.false_eq_true, if_false], ⟨.tup ds, rfl, hd⟩, ?_⟩
    exact ss_rt (s_iteT hcond (ss_rt (s_retS (ev_tupS (evs_consI ev_strS rfl rfl (evs_consI (ev_var rfl) rfl rfl evs_nilS)) (by rw [sizeLine_eq]; simp)) rfl)))
theorem liveOk_lr {S : Sto} {d : D} {ds : List D} (h : Lr S d ds) : LiveOk S (liveOf d ds) := by
  rcases h with rfl | ⟨n, rfl, h⟩
  · exact LiveOk.nil
  · intro p hp
    rw [List.mem_singleton.mp hp]; exact h
theorem evIt_lr {C : K9.Ctx} {env : K9.Env} {S S1 : Sto} {e : Ex} {d : D} {xs : List D} (h : ev C e env S = .ok d S1) (hl : Lr S1 d xs) : evIt C (.seq e) env S = .ok ⟨xs, liveOf d xs, false⟩ S1 := by
  simp only [evIt, h, bindR_ok, hl.rd]
  rcases hl with rfl | ⟨n, rfl, hl⟩
  · rfl
  · show oget (match S1[n]? with | some (.lst xs) => some xs | _ => none) _ = _
    rw [hl]; rfl
def WRB : Sms := (.cons (.ite (.or (.cmp .nin (.sl (.var 2) .non (.int 1)) (.tup (.cons false (.tup (.cons false (.str "key") .nil)) (.cons false (.tup (.cons false (.str "settles") .nil)) .nil)))) (.cmp .ne (.bi .len (.cons false (.var 2) .nil)) (.ite (.cmp .eq (.ix (.var 2) (.int 0)) (.str "key")) (.int 3) (.int 4)))) (.cons (.ret (.tup (.cons false (.str "InvalidRule") (.cons false (.var 2) .nil)))) .nil) .nil) (.cons (.ite (.cmp .nin (.ix (.var 2) (.int 1)) (.var 0)) (.cons (.ret (.tup (.cons false (.str "UnknownTable") (.cons false (.ix (.var 2) (.int 1)) .nil)))) .nil) .nil) (.cons (.asg 3 (.lc [4] [4] (.seq (.bin .add (.ix (.var 2) (.int 2)) (.bi .list (.cons false (.sl (.var 2) (.int 3) .non) .nil)))) (.cmp .nin (.var 4) (.ix (.var 0) (.ix (.var 2) (.int 1)))) (.var 4))) (.cons (.ite (.cmp .ne (.var 3) (.lst .nil)) (.cons (.ret (.tup (.cons false (.str "UnknownColumn") (.cons false (.ix (.var 3) (.int 0)) .nil)))) .nil) .nil) .nil))))
theorem wr_loop {C : K9.Ctx} {S : Sto} {n k : Nat} {ts : List Tb} {dT dR : D} {s4 : K9.Slot} {live : List (Nat × List D)} (hlv : LiveOk S live) (hT : Dc S dT ts) (hk : k ≤ 100) : ∀ (rs : List Ru) (ds : List D) (s2 s3 : K9.Slot), (∀ r ∈ rs, RuOk n k r) → Vws S ds (rs.map Ru.T) →
    (rulesDue ts rs = none ∧ ∃ s2' s3', forGo (exSs C WRB) [2] live ds [.fz dT, .fz dR, s2, s3, s4] S = .ok (.nx [.fz dT, .fz dR, s2', s3', s4]) S) ∨
    (∃ e x, rulesDue ts rs = some e ∧ DueD S (some e) x ∧ forGo (exSs C WRB) [2] live ds [.fz dT, .fz dR, s2, s3, s4] S = .ok (.rt x) S)
  | [], _, s2, s3, _, .nil => .inl ⟨rfl, s2, s3, for_nil hlv⟩
  | r :: rs, _, s2, s3, hr, .cons (d := d) (ds := ds) a b => by
    obtain ⟨xs, e, hv⟩ := a.tupI
    subst e
    rcases wr_body (C := C) (dR := dR) (s3 := s3) (s4 := s4) hT hk (hr r List.mem_cons_self) a with ⟨h1, s3', h2⟩ | ⟨e, x, h1, h2, h3⟩
    · rcases wr_loop hlv hT hk rs ds (.fz (.tup xs)) s3' (fun r h => hr r (List.mem_cons_of_mem _ h)) b with ⟨k1, s2', s3'', k2⟩ | ⟨e, x, k1, k2, k3⟩
      · exact .inl ⟨by simp only [rulesDue, h1, k1], s2', s3'', for_cons hlv (asg1 rfl) h2 k2⟩
      · exact .inr ⟨e, x, by simp only [rulesDue, h1, k1], k2, for_cons hlv (asg1 rfl) h2 k3⟩
    · exact .inr ⟨e, x, by simp only [rulesDue, h1], h2, for_rt hlv (asg1 rfl) h3⟩
theorem wrongRule_ok {f m n k : Nat} (hf : P.fn f = some fWrongRule) {S : Sto} {ts : List Tb} {rs : List Ru} {dT dR : D} (hT : Dc S dT ts) (hk : k ≤ 100) (hr : ∀ r ∈ rs, RuOk n k r) (hR : Vw S dR (rulesT rs)) : ∃ x, callT P wf (m + 1) f [dT, dR] S = .ok x S ∧ DueD S (rulesDue ts rs) x := by
  obtain ⟨ds, hl, hv⟩ := hR.lr
  rw [callT_eq hf, runFn_eq rfl]
  show ∃ x, (exSs (ctxT P wf m) bWrongRule [.fz dT, .fz dR, .no, .no, .no] S).bind finF = _ ∧ _
  rcases wr_loop (C := ctxT P wf m) (dR := dR) (s4 := .no) (liveOk_lr hl) hT hk rs ds .no .no hr hv with ⟨k1, s2', s3', k2⟩ | ⟨e, x, k1, k2, k3⟩
  · have run : exSs (ctxT P wf m) bWrongRule [.fz dT, .fz dR, .no, .no, .no] S = .ok (.rt .non) S := ss_nx (s_forS (evIt_lr (ev_var rfl) hl) rfl k2) (ss_rt (s_retS ev_nonS rfl))
    exact ⟨.non, by rw [run]; rfl, by rw [k1]; rfl⟩
  · have run : exSs (ctxT P wf m) bWrongRule [.fz dT, .fz dR, .no, .no, .no] S = .ok (.rt x) S := ss_rt (s_forS (evIt_lr (ev_var rfl) hl) rfl k3)
    exact ⟨x, by rw [run]; rfl, by rw [k1]; exact k2⟩
/-! ### check_rule -/
/-- an error that is raised as it is due -/
def ErD {α : Type} (S : Sto) (c : Nat) (t : Tr) (r : R α) : Prop := ∃ x u S', r = .er c x S' ∧ At S' x t u ∧ u.Nodup ∧ (∀ i ∈ u, S.length ≤ i) ∧ Ext' S S'
theorem ErD.str {α : Type} {S : Sto} {c : Nat} {s : Str} {r : R α} (h : r = .er c (.str s) S) : ErD S c (.leaf (.str s)) r := ⟨.str s, [], S, h, .leaf rfl, List.nodup_nil, (fun _ h => by cases h), Ext'.refl⟩
theorem s_raise {C : K9.Ctx} {c : Nat} {e : Ex} {env : K9.Env} {S S1 : Sto} {x : D} (h : ev C e env S = .ok x S1) (ha : (rd x).isAcc = false) : exS C (.raise c e) env S = .er c (rd x) S1 := by
  simp only [exS, h, bindR_ok, ha, Bool.false_eq_true, if_false]
theorem ss_er {C : K9.Ctx} {s : Sm} {ss : Sms} {env : K9.Env} {S S1 : Sto} {c : Nat} {x : D} (h : exS C s env S = .er c x S1) : exSs C (.cons s ss) env S = .er c x S1 := by
  simp only [exSs, h]; rfl
theorem s_exprE {C : K9.Ctx} {e : Ex} {env : K9.Env} {S S1 : Sto} {c : Nat} {x : D} (h : ev C e env S = .er c x S1) : exS C (.expr e) env S = .er c x S1 := by
  simp only [exS, h]; rfl
theorem s_forE {C : K9.Ctx} {tg : List Nat} {it : It} {b : Sms} {env : K9.Env} {S S1 : Sto} {p : Wk} {c : Nat} {x : D} {S2 : Sto} (hi : evIt C it env S = .ok p S1) (ha : p.acc = false) (h : forGo (exSs C b) tg p.live p.xs env S1 = .er c x S2) : exS C (.for_ tg it b) env S = .er c x S2 := by
  simp only [exS, hi, bind_ok, ha, Bool.false_eq_true, if_false, h]
def gdR : List (Str × Int) := [("key", 3), ("settles", 4)]
theorem rule_eq0 {S : Sto} {env : K9.Env} {n k : Nat} {ds : List D} {r : Ru} (hr : RuOk n k r) (hd : Vw S (.tup ds) r.T) (h0 : ds ≠ []) : eqD env S (.tup ds) (.tup []) = some false := by
  have hp := hd.py (n := 61) (by
    have : dep r.T ≤ 3 := by
      obtain ⟨h1, h2, h3, h4, h5, h6, h7⟩ := hr
      have := deps_le (n := 2) (ts := [Tr.leaf (.str r.w), .leaf (.str r.t), .lst (lfs r.cs), .leaf (.str r.e), .leaf (.str r.e2)].take r.n) fun t ht => by
        have ht := List.mem_of_mem_take ht
        simp only [List.mem_cons, List.not_mem_nil, or_false] at ht
        have : deps (lfs r.cs) ≤ 1 := deps_le fun t ht => by
          obtain ⟨s, _, rfl⟩ := List.mem_map.mp ht; exact Nat.le_refl _
        rcases ht with rfl | rfl | rfl | rfl | rfl <;> simp only [dep] <;> omega
      simp only [Ru.T, dep]; omega
    omega)
  have hl := lay_ch (ch_ru hr)
  have e : eqD env S (.tup ds) (.tup []) = match py S 61 (.tup ds), some (PyData.tuple []) with
    | some p, some q => if p.canLay0 && q.canLay0 then some (PyData.eqv p q) else none
    | _, _ => none := rfl
  rw [e, hp]
  show (if (dat r.T).canLay0 && true then some (PyData.eqv (dat r.T) (.tuple [])) else none) = _
  rw [hl]
  have q : ∀ {tr : List Tr} {ds : List D}, Vws S ds tr → ds ≠ [] → PyData.eqvAll (dats tr) [] = false := fun {tr ds} h h0 => by
    cases h with
    | nil => exact absurd rfl h0
    | cons a b => rfl
  obtain ⟨ds', e1, hv⟩ := hd.tupI
  cases e1
  show some (PyData.eqvAll (dats _) []) = _
  rw [q hv h0]
end KL
end
section
set_option Elab.async false
set_option linter.all false
set_option maxRecDepth 100000
set_option maxHeartbeats 0
set_option exponentiation.threshold 2000
namespace KL
open K9 PySem PyProof.Rows
variable {P : Prog} {wf : Nat}
theorem lookup_gdR (w : Str) : gdR.lookup w = if w = "key" then some 3 else if w = "settles" then some 4 else none := by
  unfold gdR
  rw [List.lookup_cons, List.lookup_cons, List.lookup_nil]
  by_cases h1 : w = "key"
  · rw [if_pos h1, h1]; rfl
  · rw [if_neg h1, beq_false_of_ne h1]
    by_cases h2 : w = "settles"
    · rw [if_pos h2, h2]; rfl
    · rw [if_neg h2, beq_false_of_ne h2]
theorem ev_gget {C : K9.Ctx} {t : Nat} {e : Ex} {env : K9.Env} {S S1 : Sto} {s : Str} {l : List (Str × Int)} (h : ev C e env S = .ok (.str s) S1) (hg : C.gd t = some l) : ev C (.gget t e) env S = .ok (match l.lookup s with | some i => .int i | none => .non) S1 := by
  simp only [ev, h, bindR_ok, rd_str, hg] <;> (cases l.lookup s <;> rfl)
theorem cr_cond {C : K9.Ctx} {env : K9.Env} {S : Sto} {n k : Nat} {ds : List D} {r : Ru} (hgd : C.gd 0 = some gdR) (h2 : env[1]? = some (.fz (.tup ds))) (hr : RuOk n k r) (hd : Vw S (.tup ds) r.T) : ev C (.or (.cmp .eq (.var 1) (.tup .nil)) (.cmp .ne (.gget 0 (.ix (.var 1) (.int 0))) (.bi .len (.cons false (.var 1) .nil)))) env S = .ok (.bl (!ruGood r)) S := by
  have hr' := hr
  obtain ⟨o1, o2, o3, o4, o5, o6, o7⟩ := hr
  obtain ⟨ds', e, h⟩ := hd.tupI
  cases e
  have hl := ru_len o7 h
  have hm : ev C (.tup .nil) env S = .ok (.tup []) S := by kernel_rfl
  by_cases h0 : r.n = 0
  · have hdd : ds = [] := List.length_eq_zero_iff.mp (hl.trans h0)
    subst hdd
    have hg : ruGood r = false := by
      rw [Bool.eq_false_iff]; intro z; rw [good_of] at z; omega
    rw [hg]
    exact ev_orT (ev_cmpS (ev_var h2) hm (by kernel_rfl))
  · obtain ⟨xs, rfl⟩ := ru_head (by omega) h
    refine ev_orF (ev_cmpS (ev_var h2) hm (rule_eq0 hr' hd (by simp))) ?_
    have ln := ev_lenT (C := C) (e := .var 1) (env := env) (S := S) (ev_var h2)
    rw [hl] at ln
    have g : ev C (.gget 0 (.ix (.var 1) (.int 0))) env S = .ok (match gdR.lookup r.w with | some i => .int i | none => .non) S := by
      have q : ev C (.ix (.var 1) (.int 0)) env S = .ok (.str r.w) S := ev_ixT (k := 0) (ev_var h2) ev_intS rfl
      exact ev_gget q hgd
    rw [lookup_gdR] at g
    by_cases w1 : r.w = "key"
    · rw [if_pos w1] at g
      refine ev_cmpS g ln ?_
      show some (!((3 : Int) == r.n)) = _
      have : ruGood r = (r.n == 3) := by
        rw [Bool.eq_iff_iff, good_of, beq_iff_eq]
        exact ⟨fun z => by rcases z with z | z; exact z.2; exact absurd (w1.symm.trans z.1) (by decide +kernel), fun z => .inl ⟨w1, z⟩⟩
      rw [this]
      congr 2
      rw [Bool.eq_iff_iff, beq_iff_eq, beq_iff_eq]; omega
    · rw [if_neg w1] at g
      by_cases w2 : r.w = "settles"
      · rw [if_pos w2] at g
        refine ev_cmpS g ln ?_
        show some (!((4 : Int) == r.n)) = _
        have : ruGood r = (r.n == 4) := by
          rw [Bool.eq_iff_iff, good_of, beq_iff_eq]
          exact ⟨fun z => by rcases z with z | z; exact absurd z.1 w1; exact z.2, fun z => .inr ⟨w2, z⟩⟩
        rw [this]
        congr 2
        rw [Bool.eq_iff_iff, beq_iff_eq, beq_iff_eq]; omega
      · rw [if_neg w2] at g
        have hg : ruGood r = false := by
          rw [Bool.eq_false_iff]; intro z; rw [good_of] at z
          rcases z with z | z
          · exact w1 z.1
          · exact w2 z.1
        rw [hg]
        exact ev_cmpS g ln rfl
theorem cr_loop {C : K9.Ctx} {S : Sto} {cols : List Str} {e : Ex} {s0 s1 : K9.Slot} (he : ∀ s2 : K9.Slot, ∃ v, ev C e [s0, s1, s2] S = .ok v S ∧ Vl S v cols) : ∀ (l : List Str) (s2 : K9.Slot), match firstNot cols l with
    | none => ∃ s2', forGo (exSs C (.cons (.ite (.cmp .nin (.var 2) e) (.cons (.raise 4 (.var 2)) .nil) .nil) .nil)) [2] [] (l.map .str) [s0, s1, s2] S = .ok (.nx [s0, s1, s2']) S
    | some c => forGo (exSs C (.cons (.ite (.cmp .nin (.var 2) e) (.cons (.raise 4 (.var 2)) .nil) .nil) .nil)) [2] [] (l.map .str) [s0, s1, s2] S = .er 4 (.str c) S
  | [], s2 => ⟨s2, for_nil LiveOk.nil⟩
  | c :: l, s2 => by
    obtain ⟨v, v1, v2⟩ := he (.fz (.str c))
    have hc := ev_nin (C := C) (a := .var 2) (env := [s0, s1, .fz (.str c)]) (ev_var rfl) v1 v2
    by_cases hh : hasS cols c = true
    · rw [hh] at hc
      have e1 : firstNot cols (c :: l) = firstNot cols l := by
        unfold firstNot
        rw [List.find?_cons_of_neg (by simp [hh])]
      rw [e1]
      have ih := cr_loop he l (.fz (.str c))
      have hb : exSs C (.cons (.ite (.cmp .nin (.var 2) e) (.cons (.raise 4 (.var 2)) .nil) .nil) .nil) [s0, s1, .fz (.str c)] S = .ok (.nx [s0, s1, .fz (.str c)]) S := ss_nx (s_iteF hc ss_nil') ss_nil'
      cases hq : firstNot cols l with
      | none =>
        rw [hq] at ih
        obtain ⟨s2', ih⟩ := ih
        exact ⟨s2', for_cons LiveOk.nil (asg1 rfl) hb ih⟩
      | some d =>
        rw [hq] at ih
        exact for_cons LiveOk.nil (asg1 rfl) hb ih
    · have hh : hasS cols c = false := by rw [Bool.eq_false_iff]; exact hh
      rw [hh] at hc
      have e1 : firstNot cols (c :: l) = some c := by
        unfold firstNot
        rw [List.find?_cons_of_pos (by simp [hh])]
      rw [e1]
      exact for_er LiveOk.nil (asg1 rfl) (ss_er (s_iteT hc (ss_er (s_raise (x := .str c) (ev_var rfl) rfl))))
theorem checkRule_ok {f fr m n k : Nat} (hf : P.fn f = some (fCheckRule fr)) (hp : P.fn fr = some (fCopied fr)) (hgd : P.gd 0 = some gdR) {S : Sto} {ts : List Tb} {r : Ru} {dT d : D} (hT : Dc S dT ts) (hn : n ≤ 60) (hk : k ≤ 100) (hr : RuOk n k r) (hd : Vw S d r.T) : match ruleDue ts r with
    | none => callT P wf (m + 5) f [dT, d] S = .ok .non S
    | some (c, t) => ErD S c t (callT P wf (m + 5) f [dT, d] S) := by
  obtain ⟨ds, e, hv⟩ := hd.tupI
  subst e
  rw [callT_eq hf, runFn_eq rfl]
  show match ruleDue ts r with
    | none => (exSs (ctxT P wf (m + 4)) (bCheckRule fr) [.fz dT, .fz (.tup ds), .no] S).bind finF = .ok .non S
    | some (c, t) => ErD S c t ((exSs (ctxT P wf (m + 4)) (bCheckRule fr) [.fz dT, .fz (.tup ds), .no] S).bind finF)
  have hcond := cr_cond (C := ctxT P wf (m + 4)) (env := [.fz dT, .fz (.tup ds), .no]) hgd rfl hr hd
  by_cases hg : ruGood r = true
  · obtain ⟨dc, e1, e2, e3⟩ := ru_good hg hv
    rw [hg] at hcond
    have a1 : ∀ {s2 : K9.Slot}, ev (ctxT P wf (m + 4)) (.ix (.var 1) (.int 1)) [.fz dT, .fz (.tup ds), s2] S = .ok (.str r.t) S := fun {s2} => ev_ixT (k := 1) (ev_var rfl) ev_intS (by rw [e1]; rfl)
    have t1 := ev_tin (C := ctxT P wf (m + 4)) (env := [.fz dT, .fz (.tup ds), .no]) (j := 0) a1 rfl hT
    cases hlk : lookT ts r.t with
    | none =>
      rw [hlk] at t1
      have run : exSs (ctxT P wf (m + 4)) (bCheckRule fr) [.fz dT, .fz (.tup ds), .no] S = .er 3 (.str r.t) S := ss_nx (S1 := S) (s_iteF hcond ss_nil') (ss_er (s_iteT t1 (ss_er (s_raise a1 rfl))))
      simp only [ruleDue, hg, if_true, hlk]
      exact ErD.str (by rw [run]; rfl)
    | some cols =>
      rw [hlk] at t1
      obtain ⟨b1, b2⟩ := tail_b hr
      have hsz : ((ruTail r).map D.str).length ≤ sizeLine := by rw [List.length_map, sizeLine_eq]; omega
      have l1 : ev (ctxT P wf (m + 4)) (.lst (.cons true (.ix (.var 1) (.int 2)) (.cons true (.sl (.var 1) (.int 3) .non) .nil))) [.fz dT, .fz (.tup ds), .no] S = .ok (.own (.lst ((ruTail r).map .str))) S := by
        refine ev_lstS (xs := (ruTail r).map .str) ?_ hsz
        have q1 : ev (ctxT P wf (m + 4)) (.ix (.var 1) (.int 2)) [.fz dT, .fz (.tup ds), .no] S = .ok dc S := ev_ixT (k := 2) (ev_var rfl) ev_intS (by rw [e1]; rfl)
        have q2 := rule_tail (C := ctxT P wf (m + 4)) (env := [.fz dT, .fz (.tup ds), .no]) (S := S) (i := 1) (r := r) rfl e1
        simp only [evs, q1, bindR_ok, e2.rd, if_true, e2.seqOf, oget_some, q2, rd_tup]
        show R.ok (r.cs.map D.str ++ (((if r.n = 4 then [r.e] else []).map .str) ++ [])) S = _
        rw [List.append_nil, tail_map]
      have lp := cr_loop (C := ctxT P wf (m + 4)) (S := S) (cols := cols) (e := .ix (.var 0) (.ix (.var 1) (.int 1))) (s0 := .fz dT) (s1 := .fz (.tup ds)) (fun s2 => ev_tix (env := [.fz dT, .fz (.tup ds), s2]) (j := 0) a1 rfl hT hlk) (ruTail r) .no
      simp only [ruleDue, hg, if_true, hlk]
      cases hq : firstNot cols (ruTail r) with
      | none =>
        rw [hq] at lp
        obtain ⟨s2', lp⟩ := lp
        have run : exSs (ctxT P wf (m + 4)) (bCheckRule fr) [.fz dT, .fz (.tup ds), .no] S = .ok (.nx [.fz dT, .fz (.tup ds), s2']) S := ss_nx (S1 := S) (s_iteF hcond ss_nil') (ss_nx (S1 := S) (s_iteF t1 ss_nil') (ss_nx (s_forS (evIt_own l1) rfl lp) ss_nil'))
        show _ = _
        rw [run]; rfl
      | some c =>
        rw [hq] at lp
        have run : exSs (ctxT P wf (m + 4)) (bCheckRule fr) [.fz dT, .fz (.tup ds), .no] S = .er 4 (.str c) S := ss_nx (S1 := S) (s_iteF hcond ss_nil') (ss_nx (S1 := S) (s_iteF t1 ss_nil') (ss_er (s_forE (evIt_own l1) rfl lp)))
        exact ErD.str (by rw [run]; rfl)
  · have hg' : ruGood r = false := by rw [Bool.eq_false_iff]; exact hg
    rw [hg'] at hcond
    obtain ⟨q1, q2, q3, q4⟩ := ru_b (by omega) hr
    obtain ⟨S1, d', u, c1, c2, c3, c4, c5⟩ := cp_ok (wf := wf) hp (m + 3) r.T (.tup ds) S (by omega) (by omega) hd
    have ok1 := okD_acc c2.ok
    have run : exSs (ctxT P wf (m + 4)) (bCheckRule fr) [.fz dT, .fz (.tup ds), .no] S = .er 5 d' S1 := by
      refine ss_er (s_iteT hcond (ss_er ?_))
      have := s_raise (C := ctxT P wf (m + 4)) (c := 5) (e := .call fr (.cons false (.var 1) .nil)) (env := [.fz dT, .fz (.tup ds), .no]) (ev_callS (evs_consI (ev_var rfl) rfl rfl evs_nilS) c1) (by rw [ok1.2]; exact ok1.1)
      rw [ok1.2] at this
      exact this
    simp only [ruleDue, hg', Bool.false_eq_true, if_false]
    exact ⟨d', u, S1, by rw [run]; rfl, c2, c3, c4, c5⟩
end KL
end
section
set_option Elab.async false
set_option linter.all false
set_option maxRecDepth 100000
set_option maxHeartbeats 0
set_option exponentiation.threshold 2000
namespace KL
open K9 PySem PyProof.Rows
variable {P : Prog} {wf : Nat}
def colsDue (seen : List Str) : List Str → Option (Nat × Str)
  | [] => none
  | c :: cs => if nameOk c = false then some (1, c) else if hasS seen c = true then some (2, c) else colsDue (seen ++ [c]) cs
def tabsDue (seen : List Tb) : List Tb → Option (Nat × Str)
  | [] => none
  | t :: ts => if nameOk t.1 = false then some (1, t.1) else if (lookT seen t.1).isSome = true then some (2, t.1) else match colsDue [] t.2 with
    | some e => some e
    | none => tabsDue (seen ++ [t]) ts
def bookDue (ts : List Tb) (rs : List Ru) : Option (Nat × Tr) := match tabsDue [] ts with
  | some (c, s) => some (c, .leaf (.str s))
  | none => rulesDue ts rs
theorem in_acc {env : K9.Env} {S : Sto} {i : Nat} {l : List Str} {x : Str} (h : env[i]? = some (.al (.lst (l.map .str)))) : inD env S (.str x) (.acc i) = some (hasS l x) := by
  have e : ∀ l : List Str, (l.map D.str).all flatD = true := fun l => by
    rw [List.all_eq_true]; intro y hy; obtain ⟨s, _, rfl⟩ := List.mem_map.mp hy; rfl
  have e2 : ∀ l : List Str, ((l.map D.str).any fun y => eqF y (.str x)) = hasS l x := fun l => by
    rw [List.any_map]; rfl
  have hs : seqOf env S (.acc i) = some (l.map .str) := by
    show (match (match env[i]? with | some (.al o) => some o | _ => none) with | some (.lst xs) => some xs | _ => none) = _
    rw [h]
  simp only [inD, hs]
  show (if true && (l.map D.str).all flatD then _ else _) = _
  rw [e l]
  show some _ = _
  rw [e2]
def bChecked (fi : Nat) : Sms := (.cons (.acc 1 (.lst .nil)) (.cons (.for_ [2] (.seq (.var 0)) (.cons (.ite (.not (.call fi (.cons false (.var 2) .nil))) (.cons (.raise 1 (.var 2)) .nil) .nil) (.cons (.ite (.cmp .isin (.var 2) (.var 1)) (.cons (.raise 2 (.var 2)) .nil) .nil) (.cons (.mut .append (.var 1) (.cons false (.var 2) .nil)) .nil)))) (.cons (.ret (.bi .tuple (.cons false (.var 1) .nil))) .nil)))
def fChecked (fi : Nat) : Fn := ⟨1, 3, bChecked fi⟩
def CCB (fi : Nat) : Sms := (.cons (.ite (.not (.call fi (.cons false (.var 2) .nil))) (.cons (.raise 1 (.var 2)) .nil) .nil) (.cons (.ite (.cmp .isin (.var 2) (.var 1)) (.cons (.raise 2 (.var 2)) .nil) .nil) (.cons (.mut .append (.var 1) (.cons false (.var 2) .nil)) .nil)))
theorem cc_loop {fi n m : Nat} (hi : P.fn fi = some fIsName) {S : Sto} {s0 : K9.Slot} {live : List (Nat × List D)} (hlv : LiveOk S live) (hm : m ≤ 1000) : ∀ (l seen : List Str) (s2 : K9.Slot), (∀ c ∈ l, TW m c) → seen.length + l.length ≤ 1000 → match colsDue seen l with
    | none => ∃ s2', forGo (exSs (ctxT P wf (n + 1)) (CCB fi)) [2] live (l.map .str) [s0, .al (.lst (seen.map .str)), s2] S = .ok (.nx [s0, .al (.lst ((seen ++ l).map .str)), s2']) S
    | some (c, s) => forGo (exSs (ctxT P wf (n + 1)) (CCB fi)) [2] live (l.map .str) [s0, .al (.lst (seen.map .str)), s2] S = .er c (.str s) S
  | [], seen, s2, _, _ => ⟨s2, by rw [List.append_nil]; exact for_nil hlv⟩
  | c :: l, seen, s2, ht, hl => by
    have c1 : ev (ctxT P wf (n + 1)) (.not (.call fi (.cons false (.var 2) .nil))) [s0, .al (.lst (seen.map .str)), .fz (.str c)] S = .ok (.bl (!nameOk c)) S := ev_notS (ev_callS (evs_consI (ev_var rfl) rfl rfl evs_nilS) (isName_ok hi (ht c List.mem_cons_self) hm))
    have c2 : ev (ctxT P wf (n + 1)) (.cmp .isin (.var 2) (.var 1)) [s0, .al (.lst (seen.map .str)), .fz (.str c)] S = .ok (.bl (hasS seen c)) S := ev_cmpS (x := .str c) (y := .acc 1) (ev_var rfl) (ev_accS rfl) (show inD [s0, .al (.lst (seen.map .str)), .fz (.str c)] S (.str c) (.acc 1) = _ from in_acc (l := seen) rfl)
    by_cases h1 : nameOk c = false
    · rw [h1] at c1
      simp only [colsDue, h1, if_true]
      exact for_er hlv (asg1 rfl) (ss_er (s_iteT c1 (ss_er (s_raise (x := .str c) (ev_var rfl) rfl))))
    · have h1' : nameOk c = true := by cases hq : nameOk c <;> simp_all
      rw [h1'] at c1
      by_cases h2 : hasS seen c = true
      · rw [h2] at c2
        simp only [colsDue, h1', h2, if_true, Bool.true_eq_false, if_false]
        exact for_er hlv (asg1 rfl) (ss_nx (S1 := S) (s_iteF c1 ss_nil') (ss_er (s_iteT c2 (ss_er (s_raise (x := .str c) (ev_var rfl) rfl)))))
      · have h2' : hasS seen c = false := by rw [Bool.eq_false_iff]; exact h2
        rw [h2'] at c2
        have st : exSs (ctxT P wf (n + 1)) (CCB fi) [s0, .al (.lst (seen.map .str)), .fz (.str c)] S = .ok (.nx [s0, .al (.lst ((seen ++ [c]).map .str)), .fz (.str c)]) S := by
          refine ss_nx (S1 := S) (s_iteF c1 ss_nil') (ss_nx (S1 := S) (s_iteF c2 ss_nil') (ss_nx (s_mutS (xs := [.str c]) (p := (_, S)) (ob := .lst (seen.map .str)) (ob' := .lst ((seen ++ [c]).map .str)) (ev_accS rfl) rfl (evl_consS (x := .str c) (ev_var rfl) evl_nilS) rfl rfl ?_ rfl) ss_nil'))
          show (if (seen.map D.str).length < sizeLine then _ else none) = _
          rw [if_pos (by rw [List.length_map, sizeLine_eq]; rw [List.length_cons] at hl; omega), List.map_append]; rfl
        have ih := cc_loop (n := n) (s0 := s0) hi hlv hm l (seen ++ [c]) (.fz (.str c)) (fun c h => ht c (List.mem_cons_of_mem _ h)) (by rw [List.length_append, List.length_singleton]; rw [List.length_cons] at hl; omega)
        simp only [colsDue, h1', h2', Bool.false_eq_true, Bool.true_eq_false, if_false]
        cases hq : colsDue (seen ++ [c]) l with
        | none =>
          rw [hq] at ih
          obtain ⟨s2', ih⟩ := ih
          refine ⟨s2', for_cons hlv (asg1 rfl) st ?_⟩
          rw [ih]; simp
        | some e =>
          rw [hq] at ih
          obtain ⟨e1, e2⟩ := e
          exact for_cons hlv (asg1 rfl) st ih
theorem checked_ok {f fi n m : Nat} (hf : P.fn f = some (fChecked fi)) (hi : P.fn fi = some fIsName) {S : Sto} {d : D} {l : List Str} (hd : Lr S d (l.map .str)) (hm : m ≤ 1000) (ht : ∀ c ∈ l, TW m c) (hl : l.length ≤ 1000) : callT P wf (n + 2) f [d] S = match colsDue [] l with
    | none => .ok (.tup (l.map .str)) S
    | some (c, s) => .er c (.str s) S := by
  rw [callT_eq hf, runFn_eq rfl]
  show (exSs (ctxT P wf (n + 1)) (bChecked fi) [.fz d, .no, .no] S).bind finF = _
  have s0 : exS (ctxT P wf (n + 1)) (.acc 1 (.lst .nil)) [.fz d, .no, .no] S = .ok (.nx [.fz d, .al (.lst []), .no]) S := by kernel_rfl
  have lp := cc_loop (wf := wf) (n := n) (s0 := .fz d) hi (liveOk_lr hd) hm l [] .no ht (by simpa using hl)
  cases hq : colsDue [] l with
  | none =>
    rw [hq] at lp
    obtain ⟨s2', lp⟩ := lp
    have run : exSs (ctxT P wf (n + 1)) (bChecked fi) [.fz d, .no, .no] S = .ok (.rt (.tup (l.map .str))) S :=
      ss_nx s0 (ss_nx (s_forS (evIt_lr (ev_var rfl) hd) rfl lp) (ss_rt (s_retS (ev_biS (evl_consS (ev_accS rfl) evl_nilS) rfl) rfl)))
    rw [run]; rfl
  | some e =>
    obtain ⟨c, s⟩ := e
    rw [hq] at lp
    have run : exSs (ctxT P wf (n + 1)) (bChecked fi) [.fz d, .no, .no] S = .er c (.str s) S := ss_nx s0 (ss_er (s_forE (evIt_lr (ev_var rfl) hd) rfl lp))
    rw [run]; rfl
def bWrongBook (fi fw : Nat) : Sms := (.cons (.asg 2 (.ref .dict0)) (.cons (.for_ [3, 4] (.seq (.var 0)) (.cons (.ite (.not (.call fi (.cons false (.var 3) .nil))) (.cons (.ret (.tup (.cons false (.str "InvalidName") (.cons false (.var 3) .nil)))) .nil) .nil) (.cons (.ite (.cmp .isin (.var 3) (.var 2)) (.cons (.ret (.tup (.cons false (.str "DoubleName") (.cons false (.var 3) .nil)))) .nil) .nil) (.cons (.for_ [5, 6] (.enum (.var 4)) (.cons (.ite (.not (.call fi (.cons false (.var 6) .nil))) (.cons (.ret (.tup (.cons false (.str "InvalidName") (.cons false (.var 6) .nil)))) .nil) .nil) (.cons (.ite (.cmp .isin (.var 6) (.sl (.var 4) .non (.var 5))) (.cons (.ret (.tup (.cons false (.str "DoubleName") (.cons false (.var 6) .nil)))) .nil) .nil) .nil))) (.cons (.setix (.var 2) (.var 3) (.var 4)) .nil))))) (.cons (.ret (.call fw (.cons false (.var 2) (.cons false (.var 1) .nil)))) .nil)))
def fWrongBook (fi fw : Nat) : Fn := ⟨2, 7, bWrongBook fi fw⟩
def WBI (fi : Nat) : Sms := (.cons (.ite (.not (.call fi (.cons false (.var 6) .nil))) (.cons (.ret (.tup (.cons false (.str "InvalidName") (.cons false (.var 6) .nil)))) .nil) .nil) (.cons (.ite (.cmp .isin (.var 6) (.sl (.var 4) .non (.var 5))) (.cons (.ret (.tup (.cons false (.str "DoubleName") (.cons false (.var 6) .nil)))) .nil) .nil) .nil))
def WBB (fi : Nat) : Sms := (.cons (.ite (.not (.call fi (.cons false (.var 3) .nil))) (.cons (.ret (.tup (.cons false (.str "InvalidName") (.cons false (.var 3) .nil)))) .nil) .nil) (.cons (.ite (.cmp .isin (.var 3) (.var 2)) (.cons (.ret (.tup (.cons false (.str "DoubleName") (.cons false (.var 3) .nil)))) .nil) .nil) (.cons (.for_ [5, 6] (.enum (.var 4)) (.cons (.ite (.not (.call fi (.cons false (.var 6) .nil))) (.cons (.ret (.tup (.cons false (.str "InvalidName") (.cons false (.var 6) .nil)))) .nil) .nil) (.cons (.ite (.cmp .isin (.var 6) (.sl (.var 4) .non (.var 5))) (.cons (.ret (.tup (.cons false (.str "DoubleName") (.cons false (.var 6) .nil)))) .nil) .nil) .nil))) (.cons (.setix (.var 2) (.var 3) (.var 4)) .nil))))
theorem wbi_loop {fi n m : Nat} (hi : P.fn fi = some fIsTitle) {S : Sto} {s0 s1 s2 s3 : K9.Slot} {dk : D} {all : List Str} {live : List (Nat × List D)} (hlv : LiveOk S live) (hm : m ≤ 1000) (hk : Lr S dk (all.map .str)) (hal : all.length ≤ 1000) : ∀ (l pre : List Str) (s5 s6 : K9.Slot), all = pre ++ l → (∀ c ∈ l, TW m c) → match colsDue pre l with
    | none => ∃ s5' s6', forGo (exSs (ctxT P wf (n + 1)) (WBI fi)) [5, 6] live (((l.map D.str).zipIdx pre.length).map fun p => D.tup [.int (p.2 : Int), p.1]) [s0, s1, s2, s3, .fz dk, s5, s6] S = .ok (.nx [s0, s1, s2, s3, .fz dk, s5', s6']) S
    | some (c, s) => forGo (exSs (ctxT P wf (n + 1)) (WBI fi)) [5, 6] live (((l.map D.str).zipIdx pre.length).map fun p => D.tup [.int (p.2 : Int), p.1]) [s0, s1, s2, s3, .fz dk, s5, s6] S = .ok (.rt (.tup [.str (cnm c), .str s])) S
  | [], pre, s5, s6, _, _ => ⟨s5, s6, for_nil hlv⟩
  | c :: l, pre, s5, s6, ha, ht => by
    have c1 : ev (ctxT P wf (n + 1)) (.not (.call fi (.cons false (.var 6) .nil))) [s0, s1, s2, s3, .fz dk, .fz (.int pre.length), .fz (.str c)] S = .ok (.bl (!nameOk c)) S := ev_notS (ev_callS (evs_consI (ev_var rfl) rfl rfl evs_nilS) (isTitle_ok hi (ht c List.mem_cons_self) hm))
    have c2 : ev (ctxT P wf (n + 1)) (.cmp .isin (.var 6) (.sl (.var 4) .non (.var 5))) [s0, s1, s2, s3, .fz dk, .fz (.int pre.length), .fz (.str c)] S = .ok (.bl (hasS pre c)) S := by
      have q := ev_slToR (C := ctxT P wf (n + 1)) (a := .var 4) (b := .var 5) (env := [s0, s1, s2, s3, .fz dk, .fz (.int pre.length), .fz (.str c)]) (ev_var rfl) (ev_var rfl) hk (by rw [List.length_map, sizeLine_eq]; omega)
      have e : (all.map D.str).take pre.length = pre.map .str := by
        rw [ha, List.map_append, ← List.length_map (as := pre) (f := D.str), List.take_left]
      rw [e] at q
      exact ev_cmpS (x := .str c) (ev_var rfl) q (show inD [s0, s1, s2, s3, .fz dk, .fz (.int pre.length), .fz (.str c)] S (.str c) (.lst (pre.map .str)) = _ from in_strs (.inr (.inl rfl)))
    have asg : asgT [5, 6] (.tup [.int pre.length, .str c]) [s0, s1, s2, s3, .fz dk, s5, s6] = some [s0, s1, s2, s3, .fz dk, .fz (.int pre.length), .fz (.str c)] := rfl
    rw [List.map_cons, List.zipIdx_cons, List.map_cons]
    by_cases h1 : nameOk c = false
    · rw [h1] at c1
      simp only [colsDue, h1, if_true]
      exact for_rt hlv asg (ss_rt (s_iteT c1 (ss_rt (s_retS (ev_tupS (evs_consI ev_strS rfl rfl (evs_consI (y := .str c) (ev_var rfl) rfl rfl evs_nilS)) (by rw [sizeLine_eq]; simp)) rfl))))
    · have h1' : nameOk c = true := by cases hq : nameOk c <;> simp_all
      rw [h1'] at c1
      by_cases h2 : hasS pre c = true
      · rw [h2] at c2
        simp only [colsDue, h1', h2, if_true, Bool.true_eq_false, if_false]
        exact for_rt hlv asg (ss_nx (S1 := S) (s_iteF c1 ss_nil') (ss_rt (s_iteT c2 (ss_rt (s_retS (ev_tupS (evs_consI ev_strS rfl rfl (evs_consI (y := .str c) (ev_var rfl) rfl rfl evs_nilS)) (by rw [sizeLine_eq]; simp)) rfl)))))
      · have h2' : hasS pre c = false := by rw [Bool.eq_false_iff]; exact h2
        rw [h2'] at c2
        have st : exSs (ctxT P wf (n + 1)) (WBI fi) [s0, s1, s2, s3, .fz dk, .fz (.int pre.length), .fz (.str c)] S = .ok (.nx [s0, s1, s2, s3, .fz dk, .fz (.int pre.length), .fz (.str c)]) S :=
          ss_nx (S1 := S) (s_iteF c1 ss_nil') (ss_nx (S1 := S) (s_iteF c2 ss_nil') ss_nil')
        have ih := wbi_loop (n := n) (s0 := s0) (s1 := s1) (s2 := s2) (s3 := s3) hi hlv hm hk hal l (pre ++ [c]) (.fz (.int pre.length)) (.fz (.str c)) (by rw [ha]; simp) (fun c h => ht c (List.mem_cons_of_mem _ h))
        simp only [colsDue, h1', h2', Bool.false_eq_true, Bool.true_eq_false, if_false]
        rw [List.length_append, List.length_singleton] at ih
        cases hq : colsDue (pre ++ [c]) l with
        | none =>
          rw [hq] at ih
          obtain ⟨s5', s6', ih⟩ := ih
          exact ⟨s5', s6', for_cons hlv asg st ih⟩
        | some e =>
          rw [hq] at ih
          obtain ⟨e1, e2⟩ := e
          exact for_cons hlv asg st ih
theorem Lr.setq {S : Sto} {q : Nat} {ks ks' : List Key} {vs vs' : List D} {d : D} {ds : List D} (hq : S[q]? = some (.dct ks vs)) (h : Lr S d ds) : Lr (S.set q (.dct ks' vs')) d ds := by
  rcases h with rfl | ⟨n, rfl, h⟩
  · exact .inl rfl
  · refine .inr ⟨n, rfl, ?_⟩
    rw [List.getElem?_set_ne (fun z => by subst z; rw [hq] at h; cases h)]; exact h
theorem Vls.setq {S : Sto} {q : Nat} {ks ks' : List Key} {vs0 vs' : List D} (hq : S[q]? = some (.dct ks vs0)) : ∀ {vs : List D} {ts : List Tb}, Vls S vs ts → Vls (S.set q (.dct ks' vs')) vs ts
  | _, _, .nil => .nil
  | _, _, .cons a r => .cons (by
      rcases a with a | a
      · exact .inl a
      · exact .inr (a.setq hq)) (Vls.setq hq r)
theorem Vls.snoc {S : Sto} {v : D} {t : Tb} (h : Vl S v t.2) : ∀ {vs : List D} {ts : List Tb}, Vls S vs ts → Vls S (vs ++ [v]) (ts ++ [t])
  | _, _, .nil => .cons h .nil
  | _, _, .cons a r => .cons a (Vls.snoc h r)
theorem Vws.setq {S : Sto} {q : Nat} {ks ks' : List Key} {vs vs' : List D} (hq : S[q]? = some (.dct ks vs)) {ds : List D} {ts : List Tr} (h : Vws S ds ts) : Vws (S.set q (.dct ks' vs')) ds ts := h.keep fun n xs hn => by
  rw [List.getElem?_set_ne (fun z => by subst z; rw [hq] at hn; cases hn)]; exact hn
theorem LiveOk.setq {S : Sto} {q : Nat} {ks ks' : List Key} {vs vs' : List D} (hq : S[q]? = some (.dct ks vs)) {live : List (Nat × List D)} (h : LiveOk S live) : LiveOk (S.set q (.dct ks' vs')) live := fun p hp => by
  have := h p hp
  rw [List.getElem?_set_ne (fun z => by rw [← z, hq] at this; cases this)]; exact this
theorem ky_snoc (ts : List Tb) (t : Tb) : kyT (ts ++ [t]) = kyT ts ++ [Sum.inr t.1] := by
  unfold kyT
  rw [List.map_append]; rfl
theorem wb_loop {fi n m : Nat} (hi : P.fn fi = some fIsTitle) {s0 s1 : K9.Slot} {q : Nat} {live : List (Nat × List D)} (hm : m ≤ 60) {kk : Nat} (hkk : kk ≤ 1000) : ∀ (ts seen : List Tb) (S : Sto) (ds vs : List D) (s3 s4 s5 s6 : K9.Slot), LiveOk S live → S[q]? = some (.dct (kyT seen) vs) → Vls S vs seen → Vws S ds (ts.map tbT) → (∀ t ∈ ts, TbOk m kk t) → seen.length + ts.length ≤ 1000 → match tabsDue seen ts with
    | none => ∃ s3' s4' s5' s6' S' vs', forGo (exSs (ctxT P wf (n + 1)) (WBB fi)) [3, 4] live ds [s0, s1, .fz (.ref q), s3, s4, s5, s6] S = .ok (.nx [s0, s1, .fz (.ref q), s3', s4', s5', s6']) S' ∧ S'[q]? = some (.dct (kyT (seen ++ ts)) vs') ∧ Vls S' vs' (seen ++ ts) ∧ S'.length = S.length ∧ ∀ i, i ≠ q → S'[i]? = S[i]?
    | some (c, s) => ∃ S', forGo (exSs (ctxT P wf (n + 1)) (WBB fi)) [3, 4] live ds [s0, s1, .fz (.ref q), s3, s4, s5, s6] S = .ok (.rt (.tup [.str (cnm c), .str s])) S' ∧ S'.length = S.length ∧ ∀ i, i ≠ q → S'[i]? = S[i]?
  | [], seen, S, _, vs, s3, s4, s5, s6, hlv, hq, hv, .nil, _, _ => ⟨s3, s4, s5, s6, S, vs, for_nil hlv, by rw [List.append_nil]; exact hq, by rw [List.append_nil]; exact hv, rfl, fun _ _ => rfl⟩
  | t :: ts, seen, S, _, vs, s3, s4, s5, s6, hlv, hq, hv, .cons (d := d) (ds := ds) a r, ht, hl => by
    rw [List.length_cons] at hl
    obtain ⟨dk, rfl, x1, x2⟩ := tbI a
    obtain ⟨o1, o2, o3, o4⟩ := ht t List.mem_cons_self
    have c1 : ev (ctxT P wf (n + 1)) (.not (.call fi (.cons false (.var 3) .nil))) [s0, s1, .fz (.ref q), .fz (.str t.1), .fz dk, s5, s6] S = .ok (.bl (!nameOk t.1)) S := ev_notS (ev_callS (evs_consI (ev_var rfl) rfl rfl evs_nilS) (isTitle_ok hi o1 (by omega)))
    have c2 : ev (ctxT P wf (n + 1)) (.cmp .isin (.var 3) (.var 2)) [s0, s1, .fz (.ref q), .fz (.str t.1), .fz dk, s5, s6] S = .ok (.bl (lookT seen t.1).isSome) S :=
      ev_cmpS (x := .str t.1) (y := .ref q) (ev_var rfl) (ev_var rfl) (show inD [s0, s1, .fz (.ref q), .fz (.str t.1), .fz dk, s5, s6] S (.str t.1) (.ref q) = _ from Dc.inD ⟨vs, hv, .inr ⟨q, rfl, hq⟩⟩)
    have asg : asgT [3, 4] (.tup [.str t.1, dk]) [s0, s1, .fz (.ref q), s3, s4, s5, s6] = some [s0, s1, .fz (.ref q), .fz (.str t.1), .fz dk, s5, s6] := rfl
    by_cases h1 : nameOk t.1 = false
    · rw [h1] at c1
      simp only [tabsDue, h1, if_true]
      exact ⟨S, for_rt hlv asg (ss_rt (s_iteT c1 (ss_rt (s_retS (ev_tupS (evs_consI ev_strS rfl rfl (evs_consI (y := .str t.1) (ev_var rfl) rfl rfl evs_nilS)) (by rw [sizeLine_eq]; simp)) rfl)))), rfl, fun _ _ => rfl⟩
    · have h1' : nameOk t.1 = true := by cases hq : nameOk t.1 <;> simp_all
      rw [h1'] at c1
      by_cases h2 : (lookT seen t.1).isSome = true
      · rw [h2] at c2
        simp only [tabsDue, h1', h2, if_true, Bool.true_eq_false, if_false]
        exact ⟨S, for_rt hlv asg (ss_nx (S1 := S) (s_iteF c1 ss_nil') (ss_rt (s_iteT c2 (ss_rt (s_retS (ev_tupS (evs_consI ev_strS rfl rfl (evs_consI (y := .str t.1) (ev_var rfl) rfl rfl evs_nilS)) (by rw [sizeLine_eq]; simp)) rfl))))), rfl, fun _ _ => rfl⟩
      · have h2' : (lookT seen t.1).isSome = false := by rw [Bool.eq_false_iff]; exact h2
        rw [h2'] at c2
        simp only [tabsDue, h1', h2', Bool.false_eq_true, Bool.true_eq_false, if_false]
        have inner := wbi_loop (wf := wf) (n := n) (s0 := s0) (s1 := s1) (s2 := .fz (.ref q)) (s3 := .fz (.str t.1)) hi (liveOk_lr x2) (show m ≤ 1000 by omega) x2 (by omega) t.2 [] s5 s6 rfl o4
        have hit : evIt (ctxT P wf (n + 1)) (.enum (.var 4)) [s0, s1, .fz (.ref q), .fz (.str t.1), .fz dk, s5, s6] S = .ok ⟨((t.2.map D.str).zipIdx).map fun p => D.tup [.int (p.2 : Int), p.1], liveOf dk (t.2.map .str), false⟩ S := by
          simp only [evIt, ev_var (show [s0, s1, K9.Slot.fz (.ref q), .fz (.str t.1), .fz dk, s5, s6][4]? = some (.fz dk) from rfl), bindR_ok, x2.rd, x2.lstOf, oget_some, x2.acc]
        cases hc : colsDue [] t.2 with
        | some e =>
          obtain ⟨e1, e2⟩ := e
          rw [hc] at inner
          exact ⟨S, for_rt hlv asg (ss_nx (S1 := S) (s_iteF c1 ss_nil') (ss_nx (S1 := S) (s_iteF c2 ss_nil') (ss_rt (s_forS hit rfl inner)))), rfl, fun _ _ => rfl⟩
        | none =>
          rw [hc] at inner
          obtain ⟨s5', s6', inner⟩ := inner
          have hql : q < S.length := (List.getElem?_eq_some_iff.mp hq).1
          have hks : hasKey (kyT seen) (.inr t.1) = false := by rw [has_look]; exact h2'
          have hkl : (kyT seen).length = seen.length := List.length_map ..
          have st : exS (ctxT P wf (n + 1)) (.setix (.var 2) (.var 3) (.var 4)) [s0, s1, .fz (.ref q), .fz (.str t.1), .fz dk, s5', s6'] S = .ok (.nx [s0, s1, .fz (.ref q), .fz (.str t.1), .fz dk, s5', s6']) (S.set q (.dct (kyT (seen ++ [t])) (vs ++ [dk]))) := by
            refine s_setixS (x := dk) (y := .ref q) (z := .str t.1) (S1 := S) (S2 := S) (S3 := S) (ob := .dct (kyT seen) vs) (ob' := .dct (kyT (seen ++ [t])) (vs ++ [dk])) (p := (_, S.set q (.dct (kyT (seen ++ [t])) (vs ++ [dk])))) (ev_var rfl) (by rw [x2.rd]; exact x2.acc) (ev_var rfl) (ev_var rfl) hq ?_ ?_
            · rw [x2.rd]
              show (if (kyT seen).length < sizeLine then some (Ob.dct (putD (kyT seen) vs (.inr t.1) dk).1 (putD (kyT seen) vs (.inr t.1) dk).2) else none) = _
              rw [if_pos (by rw [hkl, sizeLine_eq]; omega)]
              unfold putD
              rw [hks, ky_snoc]; rfl
            · show (if q < S.length then some _ else none) = _
              rw [if_pos hql]
          have hq' : (S.set q (.dct (kyT (seen ++ [t])) (vs ++ [dk])))[q]? = some (.dct (kyT (seen ++ [t])) (vs ++ [dk])) := get_set hq
          have ih := wb_loop (n := n) (s0 := s0) (s1 := s1) (live := live) hi hm hkk ts (seen ++ [t]) (S.set q (.dct (kyT (seen ++ [t])) (vs ++ [dk]))) ds (vs ++ [dk]) (.fz (.str t.1)) (.fz dk) s5' s6' (hlv.setq hq) hq' (Vls.snoc (.inr (x2.setq hq)) (hv.setq hq)) (r.setq hq) (fun t h => ht t (List.mem_cons_of_mem _ h)) (by rw [List.length_append, List.length_singleton]; omega)
          have body : exSs (ctxT P wf (n + 1)) (WBB fi) [s0, s1, .fz (.ref q), .fz (.str t.1), .fz dk, s5, s6] S = .ok (.nx [s0, s1, .fz (.ref q), .fz (.str t.1), .fz dk, s5', s6']) (S.set q (.dct (kyT (seen ++ [t])) (vs ++ [dk]))) :=
            ss_nx (S1 := S) (s_iteF c1 ss_nil') (ss_nx (S1 := S) (s_iteF c2 ss_nil') (ss_nx (s_forS hit rfl inner) (ss_nx st ss_nil')))
          have es : seen ++ [t] ++ ts = seen ++ t :: ts := by simp
          cases hd : tabsDue (seen ++ [t]) ts with
          | none =>
            rw [hd, es] at ih
            obtain ⟨a3, a4, a5, a6, S', vs', k1, k2, k3, k4, k5⟩ := ih
            exact ⟨a3, a4, a5, a6, S', vs', for_cons hlv asg body k1, k2, k3, by rw [k4, List.length_set], fun i hi => by rw [k5 i hi, List.getElem?_set_ne (Ne.symm hi)]⟩
          | some e =>
            obtain ⟨e1, e2⟩ := e
            rw [hd] at ih
            obtain ⟨S', k1, k4, k5⟩ := ih
            exact ⟨S', for_cons hlv asg body k1, by rw [k4, List.length_set], fun i hi => by rw [k5 i hi, List.getElem?_set_ne (Ne.symm hi)]⟩
theorem wrongBook_ok {f fi fw n m k kr : Nat} (hf : P.fn f = some (fWrongBook fi fw)) (hi : P.fn fi = some fIsTitle) (hw : P.fn fw = some fWrongRule) {S : Sto} {ts : List Tb} {rs : List Ru} {dT dR : D} (hm : m ≤ 60) (hk : k ≤ 100) (hkr : kr ≤ 100) (hts : ∀ t ∈ ts, TbOk m k t) (hrs : ∀ r ∈ rs, RuOk m kr r) (hT : Vw S dT (tabsT ts)) (hR : Vw S dR (rulesT rs)) (hl : ts.length ≤ 1000) :
    ∃ x S', callT P wf (n + 2) f [dT, dR] S = .ok x S' ∧ DueD S' (bookDue ts rs) x ∧ Ext' S S' := by
  obtain ⟨ds, l1, v1⟩ := hT.lr
  have rok := okD_acc hR.ok
  have e0 : Ext' S (S ++ [.dct [] []]) := Ext'.snoc
  have l1' : Lr (S ++ [.dct [] []]) dT ds := by
    rcases l1 with rfl | ⟨i, rfl, h⟩
    · exact .inl rfl
    · exact .inr ⟨i, rfl, by rw [e0.2 i (List.getElem?_eq_some_iff.mp h).1]; exact h⟩
  have lp := wb_loop (P := P) (wf := wf) (n := n) (s0 := .fz dT) (s1 := .fz dR) (q := S.length) hi hm (show k ≤ 1000 by omega) ts [] (S ++ [.dct [] []]) ds [] .no .no .no .no (liveOk_lr l1') (by simp [kyT]) .nil (v1.ext e0) hts (by simpa using hl)
  rw [callT_eq hf, runFn_eq rfl]
  show ∃ x S', (exSs (ctxT P wf (n + 1)) (bWrongBook fi fw) [.fz dT, .fz dR, .no, .no, .no, .no, .no] S).bind finF = _ ∧ _
  have s0 : exS (ctxT P wf (n + 1)) (.asg 2 (.ref .dict0)) [.fz dT, .fz dR, .no, .no, .no, .no, .no] S = .ok (.nx [.fz dT, .fz dR, .fz (.ref S.length), .no, .no, .no, .no]) (S ++ [.dct [] []]) := s_asgS (ev_refS ev_dict0S rfl) rfl
  have fr : ∀ {S' : Sto}, S'.length = (S ++ [Ob.dct [] []]).length → (∀ i, i ≠ S.length → S'[i]? = (S ++ [Ob.dct [] []])[i]?) → Ext' S S' := fun {S'} h1 h2 => ⟨by rw [h1]; simp, fun i hi => by rw [h2 i (by omega)]; exact e0.2 i hi⟩
  cases hd : tabsDue [] ts with
  | some e =>
    obtain ⟨c, s⟩ := e
    rw [hd] at lp
    obtain ⟨S', k1, k2, k3⟩ := lp
    have run : exSs (ctxT P wf (n + 1)) (bWrongBook fi fw) [.fz dT, .fz dR, .no, .no, .no, .no, .no] S = .ok (.rt (.tup [.str (cnm c), .str s])) S' := ss_nx s0 (ss_rt (s_forS (evIt_lr (ev_var rfl) l1') rfl k1))
    exact ⟨_, S', by rw [run]; rfl, by simp only [bookDue, hd]; exact ⟨_, rfl, .leaf rfl⟩, fr k2 k3⟩
  | none =>
    rw [hd] at lp
    obtain ⟨a3, a4, a5, a6, S', vs', k1, k2, k3, k4, k5⟩ := lp
    have ex := fr k4 k5
    obtain ⟨x, x1, x2⟩ := wrongRule_ok (P := P) (wf := wf) (m := n) (dT := .ref S.length) (dR := dR) (ts := ts) hw ⟨vs', k3, .inr ⟨_, rfl, k2⟩⟩ hkr hrs (hR.ext ex)
    have run : exSs (ctxT P wf (n + 1)) (bWrongBook fi fw) [.fz dT, .fz dR, .no, .no, .no, .no, .no] S = .ok (.rt x) S' := by
      refine ss_nx s0 (ss_nx (s_forS (evIt_lr (ev_var rfl) l1') rfl k1) (ss_rt (s_retS (ev_callS (evs_consI (ev_var rfl) rfl rfl (evs_consI (ev_var rfl) rok.2 rok.1 evs_nilS)) x1) ?_)))
      cases hb : rulesDue ts rs with
      | none => rw [hb] at x2; rw [x2]; rfl
      | some e => rw [hb] at x2; obtain ⟨y, rfl, _⟩ := x2; rfl
    exact ⟨x, S', by rw [run]; rfl, by simp only [bookDue, hd]; exact x2, ex⟩
end KL
end
section
set_option Elab.async false
set_option linter.all false
set_option maxRecDepth 100000
set_option maxHeartbeats 0
set_option exponentiation.threshold 2000
namespace KL
open K9 PySem PyProof.Rows
variable {P : Prog} {wf : Nat}
def bInit (fi fc fr : Nat) : Sms := (.cons (.acc 3 .dict0) (.cons (.for_ [5, 6] (.seq (.var 1)) (.cons (.ite (.not (.call fi (.cons false (.var 5) .nil))) (.cons (.raise 1 (.var 5)) .nil) .nil) (.cons (.ite (.cmp .isin (.var 5) (.var 3)) (.cons (.raise 2 (.var 5)) .nil) .nil) (.cons (.setix (.var 3) (.var 5) (.call fc (.cons false (.var 6) .nil))) .nil)))) (.cons (.frzd 3) (.cons (.for_ [4] (.seq (.var 2)) (.cons (.expr (.call fr (.cons false (.var 3) (.cons false (.var 4) .nil)))) .nil)) (.cons (.setfld (.var 0) "kept_tables" (.bi .tuple (.cons false (.lc [5] [5] (.seq (.var 3)) (.bl true) (.tup (.cons false (.var 5) (.cons false (.ix (.var 3) (.var 5)) .nil)))) .nil))) (.cons (.setfld (.var 0) "kept_rules" (.bi .tuple (.cons false (.lc [4] [4] (.seq (.var 2)) (.bl true) (.tup (.cons false (.ix (.var 4) (.int 0)) (.cons false (.ix (.var 4) (.int 1)) (.cons false (.bi .tuple (.cons false (.ix (.var 4) (.int 2)) .nil)) (.cons true (.sl (.var 4) (.int 3) .non) .nil)))))) .nil))) .nil))))))
def fInit (fi fc fr : Nat) : Fn := ⟨3, 7, bInit fi fc fr⟩
def BIB (fi fc : Nat) : Sms := (.cons (.ite (.not (.call fi (.cons false (.var 5) .nil))) (.cons (.raise 1 (.var 5)) .nil) .nil) (.cons (.ite (.cmp .isin (.var 5) (.var 3)) (.cons (.raise 2 (.var 5)) .nil) .nil) (.cons (.setix (.var 3) (.var 5) (.call fc (.cons false (.var 6) .nil))) .nil)))
def ktF (t : Tb) : D := .tup [.str t.1, .tup (t.2.map .str)]
def krF (r : Ru) : D := .tup ([.str r.w, .str r.t, .tup (r.cs.map .str)] ++ (if r.n = 4 then [.str r.e] else []))
def bkD (c : Nat) (ts : List Tb) (rs : List Ru) : D := .ins c ["kept_tables", "kept_rules"] [.tup (ts.map ktF), .tup (rs.map krF)]
def cvD (ts : List Tb) : List D := ts.map fun t => .tup (t.2.map .str)
theorem cv_ok {S : Sto} : ∀ ts : List Tb, Vls S (cvD ts) ts
  | [] => .nil
  | t :: ts => .cons (.inl rfl) (cv_ok ts)
theorem lookT_app : ∀ (a b : List Tb) (x : Str), lookT (a ++ b) x = match lookT a x with
    | some l => some l
    | none => lookT b x
  | [], b, x => rfl
  | t :: a, b, x => by
    show (if t.1 = x then some t.2 else lookT (a ++ b) x) = match (if t.1 = x then some t.2 else lookT a x) with | some l => some l | none => lookT b x
    by_cases h : t.1 = x
    · rw [if_pos h, if_pos h]
    · rw [if_neg h, if_neg h]; exact lookT_app a b x
theorem due_cons {seen ts : List Tb} {t : Tb} (h : tabsDue seen (t :: ts) = none) : nameOk t.1 = true ∧ lookT seen t.1 = none ∧ colsDue [] t.2 = none ∧ tabsDue (seen ++ [t]) ts = none := by
  rw [tabsDue] at h
  by_cases h1 : nameOk t.1 = false
  · rw [if_pos h1] at h; cases h
  · rw [if_neg h1] at h
    by_cases h2 : (lookT seen t.1).isSome = true
    · rw [if_pos h2] at h; cases h
    · rw [if_neg h2] at h
      cases hc : colsDue [] t.2 with
      | some e => rw [hc] at h; cases h
      | none =>
        rw [hc] at h
        refine ⟨by cases hq : nameOk t.1 <;> simp_all, ?_, rfl, h⟩
        cases hq : lookT seen t.1 with
        | none => rfl
        | some l => rw [hq] at h2; exact absurd rfl h2
theorem due_look : ∀ (ts seen : List Tb), tabsDue seen ts = none → ∀ t ∈ ts, lookT (seen ++ ts) t.1 = some t.2
  | [], _, _, t, ht => by cases ht
  | t :: ts, seen, h, u, hu => by
    obtain ⟨h1, h2, h3, h4⟩ := due_cons h
    rcases List.mem_cons.mp hu with rfl | hu
    · rw [lookT_app, h2]
      show (if u.1 = u.1 then _ else _) = _
      rw [if_pos rfl]
    · have := due_look ts (seen ++ [t]) h4 u hu
      rw [List.append_assoc] at this
      exact this
theorem s_setixE {C : K9.Ctx} {o i e : Ex} {env : K9.Env} {S S1 : Sto} {c : Nat} {x : D} (he : ev C e env S = .er c x S1) : exS C (.setix o i e) env S = .er c x S1 := by
  simp only [exS, he]; rfl
theorem in_accD {env : K9.Env} {S : Sto} {i : Nat} {ts : List Tb} {vs : List D} {x : Str} (h : env[i]? = some (.al (.dct (kyT ts) vs))) : inD env S (.str x) (.acc i) = some (lookT ts x).isSome := by
  have e2 : cont env S (.acc i) = some (.dct (kyT ts) vs) := by
    show (match env[i]? with | some (.al o) => some o | _ => none) = _
    rw [h]
  have hs : seqOf env S (.acc i) = none := by
    show (match cont env S (.acc i) with | some (.lst xs) => some xs | _ => none) = _
    rw [e2]
  simp only [inD, hs, e2, keyOf, has_look]
theorem bi_loop {fi fc n m kk : Nat} (hi : P.fn fi = some fIsName) (hc : P.fn fc = some (fChecked fi)) {S : Sto} {s0 s1 s2 s4 : K9.Slot} {live : List (Nat × List D)} (hlv : LiveOk S live) (hm : m ≤ 60) (hkk : kk ≤ 1000) : ∀ (ts seen : List Tb) (ds : List D) (s5 s6 : K9.Slot), Vws S ds (ts.map tbT) → (∀ t ∈ ts, TbOk m kk t) → seen.length + ts.length ≤ 1000 → match tabsDue seen ts with
    | none => ∃ s5' s6', forGo (exSs (ctxT P wf (n + 2)) (BIB fi fc)) [5, 6] live ds [s0, s1, s2, .al (.dct (kyT seen) (cvD seen)), s4, s5, s6] S = .ok (.nx [s0, s1, s2, .al (.dct (kyT (seen ++ ts)) (cvD (seen ++ ts))), s4, s5', s6']) S
    | some (c, s) => forGo (exSs (ctxT P wf (n + 2)) (BIB fi fc)) [5, 6] live ds [s0, s1, s2, .al (.dct (kyT seen) (cvD seen)), s4, s5, s6] S = .er c (.str s) S
  | [], seen, _, s5, s6, .nil, _, _ => ⟨s5, s6, by rw [List.append_nil]; exact for_nil hlv⟩
  | t :: ts, seen, _, s5, s6, .cons (d := d) (ds := ds) a r, ht, hl => by
    rw [List.length_cons] at hl
    obtain ⟨dk, rfl, x1, x2⟩ := tbI a
    obtain ⟨o1, o2, o3, o4⟩ := ht t List.mem_cons_self
    have c1 : ev (ctxT P wf (n + 2)) (.not (.call fi (.cons false (.var 5) .nil))) [s0, s1, s2, .al (.dct (kyT seen) (cvD seen)), s4, .fz (.str t.1), .fz dk] S = .ok (.bl (!nameOk t.1)) S := ev_notS (ev_callS (evs_consI (ev_var rfl) rfl rfl evs_nilS) (isName_ok hi o1 (by omega)))
    have c2 : ev (ctxT P wf (n + 2)) (.cmp .isin (.var 5) (.var 3)) [s0, s1, s2, .al (.dct (kyT seen) (cvD seen)), s4, .fz (.str t.1), .fz dk] S = .ok (.bl (lookT seen t.1).isSome) S :=
      ev_cmpS (x := .str t.1) (y := .acc 3) (ev_var rfl) (ev_accS rfl) (show inD [s0, s1, s2, .al (.dct (kyT seen) (cvD seen)), s4, .fz (.str t.1), .fz dk] S (.str t.1) (.acc 3) = _ from in_accD rfl)
    have asg : asgT [5, 6] (.tup [.str t.1, dk]) [s0, s1, s2, .al (.dct (kyT seen) (cvD seen)), s4, s5, s6] = some [s0, s1, s2, .al (.dct (kyT seen) (cvD seen)), s4, .fz (.str t.1), .fz dk] := rfl
    by_cases h1 : nameOk t.1 = false
    · rw [h1] at c1
      simp only [tabsDue, h1, if_true]
      exact for_er hlv asg (ss_er (s_iteT c1 (ss_er (s_raise (x := .str t.1) (ev_var rfl) rfl))))
    · have h1' : nameOk t.1 = true := by cases hq : nameOk t.1 <;> simp_all
      rw [h1'] at c1
      by_cases h2 : (lookT seen t.1).isSome = true
      · rw [h2] at c2
        simp only [tabsDue, h1', h2, if_true, Bool.true_eq_false, if_false]
        exact for_er hlv asg (ss_nx (S1 := S) (s_iteF c1 ss_nil') (ss_er (s_iteT c2 (ss_er (s_raise (x := .str t.1) (ev_var rfl) rfl)))))
      · have h2' : (lookT seen t.1).isSome = false := by rw [Bool.eq_false_iff]; exact h2
        rw [h2'] at c2
        simp only [tabsDue, h1', h2', Bool.false_eq_true, Bool.true_eq_false, if_false]
        have hck := checked_ok (P := P) (wf := wf) (n := n) hc hi x2 (show m ≤ 1000 by omega) o4 (by omega)
        have hcall : ev (ctxT P wf (n + 2)) (.call fc (.cons false (.var 6) .nil)) [s0, s1, s2, .al (.dct (kyT seen) (cvD seen)), s4, .fz (.str t.1), .fz dk] S = callT P wf (n + 2) fc [dk] S := ev_callS (evs_consI (ev_var rfl) x2.rd x2.acc evs_nilS) rfl
        rw [hck] at hcall
        cases hcd : colsDue [] t.2 with
        | some e =>
          obtain ⟨e1, e2⟩ := e
          rw [hcd] at hcall
          exact for_er hlv asg (ss_nx (S1 := S) (s_iteF c1 ss_nil') (ss_nx (S1 := S) (s_iteF c2 ss_nil') (ss_er (s_setixE hcall))))
        | none =>
          rw [hcd] at hcall
          have hks : hasKey (kyT seen) (.inr t.1) = false := by rw [has_look]; exact h2'
          have hkl : (kyT seen).length = seen.length := List.length_map ..
          have st : exS (ctxT P wf (n + 2)) (.setix (.var 3) (.var 5) (.call fc (.cons false (.var 6) .nil))) [s0, s1, s2, .al (.dct (kyT seen) (cvD seen)), s4, .fz (.str t.1), .fz dk] S = .ok (.nx [s0, s1, s2, .al (.dct (kyT (seen ++ [t])) (cvD (seen ++ [t]))), s4, .fz (.str t.1), .fz dk]) S := by
            refine s_setixS (x := .tup (t.2.map .str)) (y := .acc 3) (z := .str t.1) (S1 := S) (S2 := S) (S3 := S) (ob := .dct (kyT seen) (cvD seen)) (ob' := .dct (kyT (seen ++ [t])) (cvD (seen ++ [t]))) (p := ([s0, s1, s2, .al (.dct (kyT (seen ++ [t])) (cvD (seen ++ [t]))), s4, .fz (.str t.1), .fz dk], S)) hcall rfl (ev_accS rfl) (ev_var rfl) rfl ?_ rfl
            show (if (kyT seen).length < sizeLine then some (Ob.dct (putD (kyT seen) (cvD seen) (.inr t.1) (.tup (t.2.map .str))).1 (putD (kyT seen) (cvD seen) (.inr t.1) (.tup (t.2.map .str))).2) else none) = _
            rw [if_pos (by rw [hkl, sizeLine_eq]; omega)]
            unfold putD
            rw [hks, ky_snoc]
            unfold cvD
            rw [List.map_append]; rfl
          have body : exSs (ctxT P wf (n + 2)) (BIB fi fc) [s0, s1, s2, .al (.dct (kyT seen) (cvD seen)), s4, .fz (.str t.1), .fz dk] S = .ok (.nx [s0, s1, s2, .al (.dct (kyT (seen ++ [t])) (cvD (seen ++ [t]))), s4, .fz (.str t.1), .fz dk]) S :=
            ss_nx (S1 := S) (s_iteF c1 ss_nil') (ss_nx (S1 := S) (s_iteF c2 ss_nil') (ss_nx st ss_nil'))
          have ih := bi_loop (n := n) (s0 := s0) (s1 := s1) (s2 := s2) (s4 := s4) hi hc hlv hm hkk ts (seen ++ [t]) ds (.fz (.str t.1)) (.fz dk) r (fun t h => ht t (List.mem_cons_of_mem _ h)) (by rw [List.length_append, List.length_singleton]; omega)
          have es : seen ++ [t] ++ ts = seen ++ t :: ts := by simp
          cases hd : tabsDue (seen ++ [t]) ts with
          | none =>
            rw [hd, es] at ih
            obtain ⟨a5, a6, k1⟩ := ih
            exact ⟨a5, a6, for_cons hlv asg body k1⟩
          | some e =>
            obtain ⟨e1, e2⟩ := e
            rw [hd] at ih
            exact for_cons hlv asg body ih
theorem cr_for {fr fp m n k : Nat} (hf : P.fn fr = some (fCheckRule fp)) (hp : P.fn fp = some (fCopied fp)) (hgd : P.gd 0 = some gdR) {S : Sto} {ts : List Tb} {dT : D} {s0 s1 s2 s5 s6 : K9.Slot} {live : List (Nat × List D)} (hlv : LiveOk S live) (hT : Dc S dT ts) (hn : n ≤ 60) (hk : k ≤ 100) : ∀ (rs : List Ru) (ds : List D) (s4 : K9.Slot), (∀ r ∈ rs, RuOk n k r) → Vws S ds (rs.map Ru.T) → match rulesDue ts rs with
    | none => ∃ s4', forGo (exSs (ctxT P wf (m + 5)) (.cons (.expr (.call fr (.cons false (.var 3) (.cons false (.var 4) .nil)))) .nil)) [4] live ds [s0, s1, s2, .fz dT, s4, s5, s6] S = .ok (.nx [s0, s1, s2, .fz dT, s4', s5, s6]) S
    | some (c, t) => ErD S c t (forGo (exSs (ctxT P wf (m + 5)) (.cons (.expr (.call fr (.cons false (.var 3) (.cons false (.var 4) .nil)))) .nil)) [4] live ds [s0, s1, s2, .fz dT, s4, s5, s6] S)
  | [], _, s4, _, .nil => ⟨s4, for_nil hlv⟩
  | r :: rs, _, s4, hr, .cons (d := d) (ds := ds) a b => by
    have dok := okD_acc a.ok
    have one := checkRule_ok (P := P) (wf := wf) (m := m) hf hp hgd hT hn hk (hr r List.mem_cons_self) a
    have hcall : ev (ctxT P wf (m + 5)) (.call fr (.cons false (.var 3) (.cons false (.var 4) .nil))) [s0, s1, s2, .fz dT, .fz d, s5, s6] S = callT P wf (m + 5) fr [dT, d] S := ev_callS (evs_consI (ev_var rfl) hT.ok.1 hT.ok.2 (evs_consI (ev_var rfl) dok.2 dok.1 evs_nilS)) rfl
    cases hd : ruleDue ts r with
    | some e =>
      obtain ⟨c, t⟩ := e
      rw [hd] at one
      obtain ⟨x, u, S', h1, h2⟩ := one
      rw [h1] at hcall
      simp only [rulesDue, hd]
      exact ⟨x, u, S', for_er hlv (asg1 dok.1) (ss_er (s_exprE hcall)), h2⟩
    | none =>
      rw [hd] at one
      have one : callT P wf (m + 5) fr [dT, d] S = .ok .non S := one
      rw [one] at hcall
      have ih := cr_for (m := m) (s0 := s0) (s1 := s1) (s2 := s2) (s5 := s5) (s6 := s6) hf hp hgd hlv hT hn hk rs ds (.fz d) (fun r h => hr r (List.mem_cons_of_mem _ h)) b
      have body : exSs (ctxT P wf (m + 5)) (.cons (.expr (.call fr (.cons false (.var 3) (.cons false (.var 4) .nil)))) .nil) [s0, s1, s2, .fz dT, .fz d, s5, s6] S = .ok (.nx [s0, s1, s2, .fz dT, .fz d, s5, s6]) S := ss_nx (s_exprS hcall) ss_nil'
      cases hq : rulesDue ts rs with
      | none =>
        rw [hq] at ih
        obtain ⟨s4', ih⟩ := ih
        simp only [rulesDue, hd, hq]
        exact ⟨s4', for_cons hlv (asg1 dok.1) body ih⟩
      | some e =>
        obtain ⟨c, t⟩ := e
        rw [hq] at ih
        obtain ⟨x, u, S', h1, h2⟩ := ih
        simp only [rulesDue, hd, hq]
        exact ⟨x, u, S', for_cons hlv (asg1 dok.1) body h1, h2⟩
/-! ### the book -/
inductive F2 (R : D → D → Prop) : List D → List D → Prop
  | nil : F2 R [] []
  | cons {x y : D} {xs ys : List D} : R x y → F2 R xs ys → F2 R (x :: xs) (y :: ys)
theorem F2.len {R : D → D → Prop} : ∀ {xs ys : List D}, F2 R xs ys → xs.length = ys.length
  | _, _, .nil => rfl
  | _, _, .cons _ r => by rw [List.length_cons, List.length_cons, r.len]
theorem F2.map {α : Type} {R : D → D → Prop} {F G : α → D} : ∀ (l : List α), (∀ a ∈ l, R (F a) (G a)) → F2 R (l.map F) (l.map G)
  | [], _ => .nil
  | a :: l, h => .cons (h a List.mem_cons_self) (F2.map l fun a ha => h a (List.mem_cons_of_mem _ ha))
theorem lc_f2 {C : K9.Ctx} {elt : Ex} {tg : List Nat} {env : K9.Env} {S : Sto} {live : List (Nat × List D)} (hlv : LiveOk S live) : ∀ (xs zs ys : List D), F2 (fun x z => ∃ e1, asgT tg x env = some e1 ∧ ∃ z', ev C elt e1 S = .ok z' S ∧ rd z' = z ∧ z.isAcc = false) xs zs → ys.length + xs.length ≤ sizeLine → lcGo (ev C (.bl true)) (ev C elt) tg env live xs ys S = .ok (ys ++ zs) S
  | _, _, ys, .nil, _ => by
    show chkLive S live _ = _
    rw [chkLive_ok hlv, List.append_nil]
  | x :: xs, z :: zs, ys, .cons h r, hl => by
    rw [List.length_cons] at hl
    obtain ⟨e1, h1, z', h2, h3, h4⟩ := h
    show chkLive S live (oget (asgT tg x env) fun e => (ev C (.bl true) e S).bindR fun b S1 => ifD b ((ev C elt e S1).bindR fun y S2 => if y.isAcc then .bad else chk (ys.length < sizeLine) (lcGo (ev C (.bl true)) (ev C elt) tg env live xs (ys ++ [y]) S2)) (lcGo (ev C (.bl true)) (ev C elt) tg env live xs ys S1)) = _
    rw [chkLive_ok hlv, h1, oget_some, ev_blS, bindR_ok, rd_bl, show ∀ (f g : R (List D)), ifD (.bl true) f g = f from fun _ _ => rfl, h2, bindR_ok, h3, h4]
    show chk (ys.length < sizeLine) _ = _
    rw [chk_pos (by omega), lc_f2 hlv xs zs (ys ++ [z]) r (by rw [List.length_append, List.length_singleton]; omega), List.append_assoc]; rfl
theorem s_setfldA {C : K9.Ctx} {f : Str} {e : Ex} {env : K9.Env} {S S1 : Sto} {x : D} {c : Nat} {fs fs' : List Str} {vs vs' : List D} (he : ev C e env S = .ok x S1) (ha : (rd x).isAcc = false) (h0 : env[0]? = some (.al (.ins c fs vs))) (hl : fs.length < 1000) (hat : C.attr c f = some none) (hp : putFd fs vs f (rd x) = (fs', vs')) : exS C (.setfld (.var 0) f e) env S = .ok (.nx (env.set 0 (.al (.ins c fs' vs')))) S1 := by
  have hc : cont env S1 (.acc 0) = some (.ins c fs vs) := by
    show (match env[0]? with | some (.al o) => some o | _ => none) = _
    rw [h0]
  have hb : ∀ {o : Ob}, putOb (.acc 0) o env S1 = some (env.set 0 (.al o), S1) := fun {o} => by
    show (match env[0]? with | some (.al _) => some (env.set 0 (.al o), S1) | _ => none) = _
    rw [h0]
  have hr : rd (D.acc 0) = .acc 0 := rfl
  simp only [exS, he, bindR_ok, ha, Bool.false_eq_true, if_false, ev_accS h0, hr, hc, hp, hb, oget_some]
  exact chk_pos (p := fs.length < 1000 ∧ C.attr c f = some none) ⟨hl, hat⟩
theorem rules_good {ts : List Tb} : ∀ {rs : List Ru}, rulesDue ts rs = none → ∀ r ∈ rs, ruGood r = true
  | [], _, r, h => by cases h
  | q :: rs, hd, r, h => by
    rw [rulesDue] at hd
    cases hq : ruleDue ts q with
    | some e => rw [hq] at hd; cases hd
    | none =>
      rw [hq] at hd
      rcases List.mem_cons.mp h with rfl | h
      · cases hg : ruGood r with
        | true => rfl
        | false => rw [ruleDue, hg] at hq; cases hq
      · exact rules_good hd r h
theorem kr_f2 {C : K9.Ctx} {S : Sto} {s0 s1 s2 s3 s5 s6 : K9.Slot} : ∀ (rs : List Ru) (ds : List D), (∀ r ∈ rs, ruGood r = true) → Vws S ds (rs.map Ru.T) → F2 (fun x z => ∃ e1, asgT [4] x [s0, s1, s2, s3, .no, s5, s6] = some e1 ∧ ∃ z', ev C (.tup (.cons false (.ix (.var 4) (.int 0)) (.cons false (.ix (.var 4) (.int 1)) (.cons false (.bi .tuple (.cons false (.ix (.var 4) (.int 2)) .nil)) (.cons true (.sl (.var 4) (.int 3) .non) .nil))))) e1 S = .ok z' S ∧ rd z' = z ∧ z.isAcc = false) ds (rs.map krF)
  | [], _, _, .nil => .nil
  | r :: rs, _, hg, .cons a b => by
    obtain ⟨ds, rfl, hv⟩ := a.tupI
    rw [List.map_cons]
    refine F2.cons ?_ (kr_f2 rs _ (fun r h => hg r (List.mem_cons_of_mem _ h)) b)
    refine ⟨_, asg1 rfl, krF r, ?_, rfl, rfl⟩
    obtain ⟨dc, e1, e2, e3⟩ := ru_good (hg r List.mem_cons_self) hv
    have q0 : ev C (.ix (.var 4) (.int 0)) ([s0, s1, s2, s3, .no, s5, s6].set 4 (.fz (.tup ds))) S = .ok (.str r.w) S := ev_ixT (k := 0) (ev_var rfl) ev_intS (by rw [e1]; rfl)
    have q1 : ev C (.ix (.var 4) (.int 1)) ([s0, s1, s2, s3, .no, s5, s6].set 4 (.fz (.tup ds))) S = .ok (.str r.t) S := ev_ixT (k := 1) (ev_var rfl) ev_intS (by rw [e1]; rfl)
    have q2 : ev C (.bi .tuple (.cons false (.ix (.var 4) (.int 2)) .nil)) ([s0, s1, s2, s3, .no, s5, s6].set 4 (.fz (.tup ds))) S = .ok (.tup (r.cs.map .str)) S := by
      refine ev_biS (evl_consS (ev_ixT (k := 2) (x := dc) (ev_var rfl) ev_intS (by rw [e1]; rfl)) evl_nilS) ?_
      rw [e2.rd]
      have e : biD .tuple [dc] ([s0, s1, s2, s3, .no, s5, s6].set 4 (.fz (.tup ds))) S = oget (K9.lstOf ([s0, s1, s2, s3, .no, s5, s6].set 4 (.fz (.tup ds))) S dc) fun xs => .ok (.tup xs) S := by
        rcases e2 with rfl | ⟨q, rfl, _⟩ <;> rfl
      rw [e, e2.lstOf]; rfl
    have q3 := rule_tail (C := C) (env := [s0, s1, s2, s3, .no, s5, s6].set 4 (.fz (.tup ds))) (S := S) (i := 4) (r := r) rfl e1
    refine ev_tupS (xs := [.str r.w, .str r.t, .tup (r.cs.map .str)] ++ (if r.n = 4 then [.str r.e] else [])) ?_ (by rw [sizeLine_eq, List.length_append]; split <;> simp)
    refine evs_consI q0 rfl rfl (evs_consI q1 rfl rfl (evs_consI q2 rfl rfl ?_))
    have e9 : ((if r.n = 4 then [r.e] else []).map D.str) = (if r.n = 4 then [.str r.e] else []) := by split <;> rfl
    rw [e9] at q3
    simp only [evs, q3, bindR_ok, rd_tup, if_true]
    show R.ok ((if r.n = 4 then [D.str r.e] else []) ++ []) S = _
    rw [List.append_nil]; rfl
theorem init_ok {c fI fi fc fr fp m n k kr : Nat} {ms pr : List (Str × Nat)} {fl : List Str} (hcl : P.cl c = some ⟨false, fI, ms, fl, pr⟩) (hf : P.fn fI = some (fInit fi fc fr)) (hi : P.fn fi = some fIsName) (hc : P.fn fc = some (fChecked fi)) (hr : P.fn fr = some (fCheckRule fp)) (hp : P.fn fp = some (fCopied fp)) (hgd : P.gd 0 = some gdR) (ha1 : P.attr c "kept_tables" = some none) (ha2 : P.attr c "kept_rules" = some none) {S : Sto} {ts : List Tb} {rs : List Ru} {dT dR : D} (hn : n ≤ 60) (hk : k ≤ 100) (hkr : kr ≤ 100) (hts : ∀ t ∈ ts, TbOk n k t) (hrs : ∀ r ∈ rs, RuOk n kr r) (hT : Vw S dT (tabsT ts)) (hR : Vw S dR (rulesT rs)) (hl : ts.length ≤ 1000) (hl2 : rs.length ≤ 1000) :
    match bookDue ts rs with
    | none => makeT P wf (m + 6) c [dT, dR] S = .ok (.own (bkD c ts rs)) S
    | some (e, t) => ErD S e t (makeT P wf (m + 6) c [dT, dR] S) := by
  obtain ⟨ds, l1, v1⟩ := hT.lr
  obtain ⟨es, l2, v2⟩ := hR.lr
  have hel : es.length = rs.length := by rw [v2.length, List.length_map]
  have e0 : makeT P wf (m + 6) c [dT, dR] S = (exSs (ctxT P wf (m + 5)) (bInit fi fc fr) [.al (.ins c [] []), .fz dT, .fz dR, .no, .no, .no, .no] S).bind fun f S1 => match f with
    | .nx (.al (.ins c' fs vs) :: _) => chk (c' = c) (.ok (.own (.ins c fs vs)) S1)
    | _ => .bad := by
    simp only [makeT, hcl, oget_some, Bool.false_eq_true, if_false, hf]
    rfl
  have s1 : exS (ctxT P wf (m + 5)) (.acc 3 .dict0) [.al (.ins c [] []), .fz dT, .fz dR, .no, .no, .no, .no] S = .ok (.nx [.al (.ins c [] []), .fz dT, .fz dR, .al (.dct [] []), .no, .no, .no]) S := by kernel_rfl
  have lp := bi_loop (P := P) (wf := wf) (n := m + 3) (s0 := .al (.ins c [] [])) (s1 := .fz dT) (s2 := .fz dR) (s4 := .no) hi hc (liveOk_lr l1) hn (show k ≤ 1000 by omega) ts [] ds .no .no v1 hts (by simpa using hl)
  cases hd : tabsDue [] ts with
  | some e =>
    obtain ⟨e1, e2⟩ := e
    rw [hd] at lp
    have run : exSs (ctxT P wf (m + 5)) (bInit fi fc fr) [.al (.ins c [] []), .fz dT, .fz dR, .no, .no, .no, .no] S = .er e1 (.str e2) S := ss_nx s1 (ss_er (s_forE (evIt_lr (ev_var rfl) l1) rfl lp))
    simp only [bookDue, hd]
    exact ErD.str (by rw [e0, run]; rfl)
  | none =>
    rw [hd] at lp
    obtain ⟨s5, s6, lp⟩ := lp
    have s2 : exS (ctxT P wf (m + 5)) (.frzd 3) [.al (.ins c [] []), .fz dT, .fz dR, .al (.dct (kyT ([] ++ ts)) (cvD ([] ++ ts))), .no, s5, s6] S = .ok (.nx [.al (.ins c [] []), .fz dT, .fz dR, .fz (.dcf (kyT ts) (cvD ts)), .no, s5, s6]) S := by kernel_rfl
    have lq := cr_for (P := P) (wf := wf) (m := m) (dT := .dcf (kyT ts) (cvD ts)) (s0 := .al (.ins c [] [])) (s1 := .fz dT) (s2 := .fz dR) (s5 := s5) (s6 := s6) hr hp hgd (liveOk_lr l2) ⟨cvD ts, cv_ok ts, .inl rfl⟩ hn hkr rs es .no hrs v2
    simp only [bookDue, hd]
    cases hq : rulesDue ts rs with
    | some e =>
      obtain ⟨e1, t⟩ := e
      rw [hq] at lq
      obtain ⟨x, u, S', h1, h2⟩ := lq
      have run : exSs (ctxT P wf (m + 5)) (bInit fi fc fr) [.al (.ins c [] []), .fz dT, .fz dR, .no, .no, .no, .no] S = .er e1 x S' := ss_nx s1 (ss_nx (s_forS (evIt_lr (ev_var rfl) l1) rfl lp) (ss_nx s2 (ss_er (s_forE (evIt_lr (ev_var rfl) l2) rfl h1))))
      exact ⟨x, u, S', by rw [e0, run]; rfl, h2⟩
    | none =>
      rw [hq] at lq
      obtain ⟨s4, lq⟩ := lq
      have hlook := due_look ts [] hd
      have it3 : evIt (ctxT P wf (m + 5)) (.seq (.var 3)) [.al (.ins c [] []), .fz dT, .fz dR, .fz (.dcf (kyT ts) (cvD ts)), s4, s5, s6] S = .ok ⟨ts.map fun t => .str t.1, [], false⟩ S := by
        have e : (kyT ts).map keyD = ts.map fun t => .str t.1 := by unfold kyT; rw [List.map_map]; rfl
        rw [← e]
        simp only [evIt, ev_var (show [K9.Slot.al (.ins c [] []), .fz dT, .fz dR, .fz (.dcf (kyT ts) (cvD ts)), s4, s5, s6][3]? = some (.fz (.dcf (kyT ts) (cvD ts))) from rfl), bindR_ok, rd]
      have lc1 := lc_f2 (C := ctxT P wf (m + 5)) (elt := .tup (.cons false (.var 5) (.cons false (.ix (.var 3) (.var 5)) .nil))) (tg := [5]) (env := [.al (.ins c [] []), .fz dT, .fz dR, .fz (.dcf (kyT ts) (cvD ts)), s4, .no, s6]) (S := S) LiveOk.nil (ts.map fun t => .str t.1) (ts.map ktF) [] (F2.map ts fun t ht => by
        refine ⟨_, asg1 rfl, ktF t, ?_, rfl, rfl⟩
        have hlk := hlook t ht
        obtain ⟨v, q1, q2⟩ := (cv_ok (S := S) ts).look hlk
        have hv : v = .tup (t.2.map .str) := by
          have : ∀ (us : List Tb) (x : Str) (l : List Str) (v : D), lookT us x = some l → lookD (kyT us) (cvD us) (.inr x) = some v → v = .tup (l.map .str) := by
            intro us
            induction us with
            | nil => intro x l v h; cases h
            | cons u us ih =>
              intro x l v h1 h2
              rw [lookT] at h1
              have h2 : (if (Sum.inr x : Key) = Sum.inr u.1 then some (.tup (u.2.map .str)) else lookD (kyT us) (cvD us) (.inr x)) = some v := h2
              by_cases hx : u.1 = x
              · rw [if_pos hx] at h1
                rw [if_pos (by rw [hx])] at h2
                cases h1; cases h2; rfl
              · rw [if_neg hx] at h1
                rw [if_neg (fun z => hx (by injection z with z; exact z.symm))] at h2
                exact ih x l v h1 h2
          exact this ts _ _ _ hlk q1
        subst hv
        refine ev_tupS (evs_consI (ev_var rfl) rfl rfl (evs_consI (x := .tup (t.2.map .str)) (ev_ixS (x := .dcf (kyT ts) (cvD ts)) (y := .str t.1) (ev_var rfl) (ev_var rfl) ?_) rfl rfl evs_nilS)) (by rw [sizeLine_eq]; simp)
        show oget (some (Sum.inr t.1)) (fun k => oget (lookD (kyT ts) (cvD ts) k) fun d => .ok d S) = _
        rw [oget_some, q1, oget_some]) (by rw [List.length_map, sizeLine_eq]; simp; omega)
      have b1 : ev (ctxT P wf (m + 5)) (.bi .tuple (.cons false (.lc [5] [5] (.seq (.var 3)) (.bl true) (.tup (.cons false (.var 5) (.cons false (.ix (.var 3) (.var 5)) .nil)))) .nil)) [.al (.ins c [] []), .fz dT, .fz dR, .fz (.dcf (kyT ts) (cvD ts)), s4, s5, s6] S = .ok (.tup (ts.map ktF)) S :=
        ev_biS (evl_consS (ev_lcS it3 lc1 (by rw [List.nil_append, List.length_map, sizeLine_eq]; omega)) evl_nilS) rfl
      have f1 := s_setfldA (C := ctxT P wf (m + 5)) (f := "kept_tables") (env := [.al (.ins c [] []), .fz dT, .fz dR, .fz (.dcf (kyT ts) (cvD ts)), s4, s5, s6]) (fs' := ["kept_tables"]) (vs' := [.tup (ts.map ktF)]) b1 rfl rfl (by decide) ha1 rfl
      have lc2 := lc_f2 (C := ctxT P wf (m + 5)) (tg := [4]) (liveOk_lr l2) es (rs.map krF) [] (kr_f2 (C := ctxT P wf (m + 5)) (s0 := .al (.ins c ["kept_tables"] [.tup (ts.map ktF)])) (s1 := .fz dT) (s2 := .fz dR) (s3 := .fz (.dcf (kyT ts) (cvD ts))) (s5 := s5) (s6 := s6) rs es (rules_good hq) v2) (by rw [sizeLine_eq]; simp; omega)
      have b2 : ev (ctxT P wf (m + 5)) (.bi .tuple (.cons false (.lc [4] [4] (.seq (.var 2)) (.bl true) (.tup (.cons false (.ix (.var 4) (.int 0)) (.cons false (.ix (.var 4) (.int 1)) (.cons false (.bi .tuple (.cons false (.ix (.var 4) (.int 2)) .nil)) (.cons true (.sl (.var 4) (.int 3) .non) .nil)))))) .nil)) [.al (.ins c ["kept_tables"] [.tup (ts.map ktF)]), .fz dT, .fz dR, .fz (.dcf (kyT ts) (cvD ts)), s4, s5, s6] S = .ok (.tup (rs.map krF)) S :=
        ev_biS (evl_consS (ev_lcS (evIt_lr (ev_var rfl) l2) lc2 (by rw [List.nil_append, List.length_map, sizeLine_eq]; omega)) evl_nilS) rfl
      have f2 := s_setfldA (C := ctxT P wf (m + 5)) (f := "kept_rules") (env := [.al (.ins c ["kept_tables"] [.tup (ts.map ktF)]), .fz dT, .fz dR, .fz (.dcf (kyT ts) (cvD ts)), s4, s5, s6]) (fs' := ["kept_tables", "kept_rules"]) (vs' := [.tup (ts.map ktF), .tup (rs.map krF)]) b2 rfl rfl (by simp) ha2 (by
        show putFd ["kept_tables"] [.tup (ts.map ktF)] "kept_rules" (.tup (rs.map krF)) = _
        rw [putFd, if_neg (by decide +kernel)]; rfl)
      have run : exSs (ctxT P wf (m + 5)) (bInit fi fc fr) [.al (.ins c [] []), .fz dT, .fz dR, .no, .no, .no, .no] S = .ok (.nx [.al (.ins c ["kept_tables", "kept_rules"] [.tup (ts.map ktF), .tup (rs.map krF)]), .fz dT, .fz dR, .fz (.dcf (kyT ts) (cvD ts)), s4, s5, s6]) S :=
        ss_nx s1 (ss_nx (s_forS (evIt_lr (ev_var rfl) l1) rfl lp) (ss_nx s2 (ss_nx (s_forS (evIt_lr (ev_var rfl) l2) rfl lq) (ss_nx f1 (ss_nx f2 ss_nil')))))
      show makeT P wf (m + 6) c [dT, dR] S = _
      rw [e0, run]
      exact chk_pos rfl
end KL
end
section
set_option Elab.async false
set_option linter.all false
set_option maxRecDepth 100000
set_option maxHeartbeats 0
set_option exponentiation.threshold 2000
namespace KL
open K9 PySem PyProof.Rows
variable {P : Prog} {wf : Nat}
def bCaught (cb : Nat) : Sms := (.cons (.unp [3, 4] (.tup (.cons false .non (.cons false .non .nil)))) (.cons (.tryE 3 (.ite (.cmp .eq (.var 2) (.int 0)) (.make cb (.cons false (.var 0) (.cons false (.var 1) .nil))) (.makek cb .nil (.cons false (.var 1) (.cons false (.var 0) .nil)) [1, 0])) 0 5 4) (.cons (.ret (.tup (.cons false (.var 3) (.cons false (.var 4) .nil)))) .nil)))
def fCaught (cb : Nat) : Fn := ⟨3, 6, bCaught cb⟩
def bErrRight (fk fo : Nat) : Sms := (.cons (.ite (.or (.cmp .is (.var 1) .non) (.cmp .is (.var 0) .non)) (.cons (.ret (.and (.cmp .is (.var 1) .non) (.cmp .is (.var 0) .non))) .nil) .nil) (.cons (.ite (.or (.not (.isi (.var 0) [.valueError])) (.cmp .ne (.call fk (.cons false (.var 0) .nil)) (.lst (.cons false (.ix (.var 1) (.int 0)) .nil)))) (.cons (.ret (.bl false)) .nil) .nil) (.cons (.ret (.call fo (.cons false (.fld (.var 0) "value") (.cons false (.ix (.var 1) (.int 1)) .nil)))) .nil)))
def fErrRight (fk fo : Nat) : Fn := ⟨2, 2, bErrRight fk fo⟩
def bPTables : Sms := (.cons (.ret (.ref (.lc [1, 2] [1, 2] (.seq (.fld (.var 0) "kept_tables")) (.bl true) (.tup (.cons false (.var 1) (.cons false (.ref (.bi .list (.cons false (.var 2) .nil))) .nil)))))) .nil)
def fPTables : Fn := ⟨1, 3, bPTables⟩
def bPRules : Sms := (.cons (.ret (.ref (.lc [1] [1] (.seq (.fld (.var 0) "kept_rules")) (.bl true) (.tup (.cons false (.ix (.var 1) (.int 0)) (.cons false (.ix (.var 1) (.int 1)) (.cons false (.ref (.bi .list (.cons false (.ix (.var 1) (.int 2)) .nil))) (.cons true (.sl (.var 1) (.int 3) .non) .nil)))))))) .nil)
def fPRules : Fn := ⟨1, 2, bPRules⟩
/-! ### what is due has one of five classes -/
theorem cols_cls : ∀ {l seen : List Str} {c : Nat} {s : Str}, colsDue seen l = some (c, s) → c = 1 ∨ c = 2
  | [], _, _, _, h => by cases h
  | x :: l, seen, c, s, h => by
    rw [colsDue] at h
    split at h
    · cases h; exact .inl rfl
    · split at h
      · cases h; exact .inr rfl
      · exact cols_cls h
theorem tabs_cls : ∀ {ts seen : List Tb} {c : Nat} {s : Str}, tabsDue seen ts = some (c, s) → c = 1 ∨ c = 2
  | [], _, _, _, h => by cases h
  | t :: ts, seen, c, s, h => by
    rw [tabsDue] at h
    split at h
    · cases h; exact .inl rfl
    · split at h
      · cases h; exact .inr rfl
      · cases hc : colsDue [] t.2 with
        | some e => rw [hc] at h; cases h; exact cols_cls hc
        | none => rw [hc] at h; exact tabs_cls h
theorem rule_cls {ts : List Tb} {r : Ru} {c : Nat} {t : Tr} (h : ruleDue ts r = some (c, t)) : (c = 3 ∨ c = 4 ∨ c = 5) ∧ noI t ∧ (t = r.T ∨ t = .leaf (.str r.t) ∨ ∃ s ∈ ruTail r, t = .leaf (.str s)) := by
  rw [ruleDue] at h
  split at h
  · split at h
    · cases h; exact ⟨.inl rfl, noI_str, .inr (.inl rfl)⟩
    · rename_i cols _
      cases hq : firstNot cols (ruTail r) with
      | none => rw [hq] at h; cases h
      | some s => rw [hq] at h; cases h; exact ⟨.inr (.inl rfl), noI_str, .inr (.inr ⟨s, List.mem_of_find?_eq_some hq, rfl⟩)⟩
  · cases h; exact ⟨.inr (.inr rfl), noI_ru, .inl rfl⟩
/-- how great what is due may be -/
def DueOk (n k : Nat) (c : Nat) (t : Tr) : Prop := 1 ≤ c ∧ c ≤ 5 ∧ noI t ∧ dep t ≤ 3 ∧ wd t ≤ max 5 k ∧ smT t ∧ sz t ≤ (k + 1) * 5 + 1
theorem DueOk.leaf {n k c : Nat} {s : Str} (h1 : 1 ≤ c) (h2 : c ≤ 5) (h : TW n s) (hn : n ≤ 60) : DueOk n k c (.leaf (.str s)) := ⟨h1, h2, noI_str, by simp [dep], by simp [wd], (h.mono hn).sm, by simp only [sz]; omega⟩
theorem rules_ok5 {n k : Nat} {ts : List Tb} (hn : n ≤ 60) : ∀ {rs : List Ru} {c : Nat} {t : Tr}, (∀ r ∈ rs, RuOk n k r) → rulesDue ts rs = some (c, t) → DueOk n k c t
  | [], _, _, _, h => by cases h
  | r :: rs, c, t, hr, h => by
    rw [rulesDue] at h
    cases hq : ruleDue ts r with
    | some e =>
      rw [hq] at h
      cases h
      have hro := hr r List.mem_cons_self
      obtain ⟨h1, h2, h3⟩ := rule_cls hq
      rcases h3 with rfl | rfl | ⟨s, hs, rfl⟩
      · obtain ⟨q1, q2, q3, q4⟩ := ru_b hn hro
        exact ⟨by omega, by omega, h2, q1, q2, q3, q4⟩
      · exact DueOk.leaf (by omega) (by omega) hro.2.1 hn
      · exact DueOk.leaf (by omega) (by omega) ((tail_b hro).2 s hs) hn
    | none =>
      rw [hq] at h
      exact rules_ok5 hn (fun r h => hr r (List.mem_cons_of_mem _ h)) h
theorem cols_mem : ∀ {l seen : List Str} {c : Nat} {s : Str}, colsDue seen l = some (c, s) → s ∈ l
  | [], _, _, _, h => by cases h
  | x :: l, seen, c, s, h => by
    rw [colsDue] at h
    split at h
    · cases h; exact List.mem_cons_self
    · split at h
      · cases h; exact List.mem_cons_self
      · exact List.mem_cons_of_mem _ (cols_mem h)
theorem tabs_mem {n k : Nat} : ∀ {ts seen : List Tb} {c : Nat} {s : Str}, (∀ t ∈ ts, TbOk n k t) → tabsDue seen ts = some (c, s) → TW n s
  | [], _, _, _, _, h => by cases h
  | t :: ts, seen, c, s, ht, h => by
    obtain ⟨o1, o2, o3, o4⟩ := ht t List.mem_cons_self
    rw [tabsDue] at h
    split at h
    · cases h; exact o1
    · split at h
      · cases h; exact o1
      · cases hc : colsDue [] t.2 with
        | some e => rw [hc] at h; cases h; exact o4 _ (cols_mem hc)
        | none => rw [hc] at h; exact tabs_mem (fun t h => ht t (List.mem_cons_of_mem _ h)) h
theorem book_ok5 {n k kr : Nat} {ts : List Tb} {rs : List Ru} {c : Nat} {t : Tr} (hn : n ≤ 60) (ht : ∀ t ∈ ts, TbOk n k t) (hr : ∀ r ∈ rs, RuOk n kr r) (h : bookDue ts rs = some (c, t)) : DueOk n kr c t := by
  rw [bookDue] at h
  cases hq : tabsDue [] ts with
  | some e =>
    obtain ⟨c', s⟩ := e
    rw [hq] at h
    cases h
    have := tabs_cls hq
    exact DueOk.leaf (by omega) (by omega) (tabs_mem ht hq) hn
  | none => rw [hq] at h; exact rules_ok5 hn hr h
/-! ### caught_of -/
structure SubOk (P : Prog) : Prop where
  ve : ∀ e, e < 12 → P.sub e .valueError = some true
  key : ∀ e, e < 12 → P.sub e (.cls 0) = some true
theorem s_tryOk {C : K9.Ctx} {j c i k : Nat} {e : Ex} {env : K9.Env} {S S1 : Sto} {x : D} (h : ev C e env S = .ok x S1) (ha : (rd x).isAcc = false) : exS C (.tryE j e c i k) env S = .ok (.nx (env.set j (.fz (rd x)))) S1 := by
  simp only [exS, h, ha, Bool.false_eq_true, if_false]
theorem s_tryEr {C : K9.Ctx} {j c i k c' : Nat} {e : Ex} {env : K9.Env} {S S1 : Sto} {x : D} (h : ev C e env S = .er c' x S1) (h1 : C.sub c' .valueError = some true) (h2 : C.sub c .valueError = some true) (h3 : C.sub c' (.cls c) = some true) : exS C (.tryE j e c i k) env S = .ok (.nx ((env.set k (.fz (.exc c' x))).set i .no)) S1 := by
  simp only [exS, h, h3]
  exact chk_pos (p := C.sub c' .valueError = some true ∧ C.sub c .valueError = some true) ⟨h1, h2⟩
theorem caught_ok {f cb n way : Nat} (hf : P.fn f = some (fCaught cb)) (hs : SubOk P) {S : Sto} {dT dR : D} {due : Option (Nat × Tr)} {bk : D} (hbk : rd bk = bk ∧ bk.isAcc = false) (okT : okD dT = true) (okR : okD dR = true) (h : match due with
    | none => makeT P wf n cb [dT, dR] S = .ok (.own bk) S
    | some (e, t) => ErD S e t (makeT P wf n cb [dT, dR] S)) (hc : ∀ e t, due = some (e, t) → e < 12) : match (generalizing := false) due with
    | none => callT P wf (n + 1) f [dT, dR, .int way] S = .ok (.tup [bk, .non]) S
    | some (e, t) => ∃ x u S', callT P wf (n + 1) f [dT, dR, .int way] S = .ok (.tup [.non, .exc e x]) S' ∧ At S' x t u ∧ u.Nodup ∧ (∀ i ∈ u, S.length ≤ i) ∧ Ext' S S' := by
  have kT := okD_acc okT
  have kR := okD_acc okR
  have hmk : ev (ctxT P wf n) (.ite (.cmp .eq (.var 2) (.int 0)) (.make cb (.cons false (.var 0) (.cons false (.var 1) .nil))) (.makek cb .nil (.cons false (.var 1) (.cons false (.var 0) .nil)) [1, 0])) [.fz dT, .fz dR, .fz (.int way), .fz .non, .fz .non, .no] S = makeT P wf n cb [dT, dR] S := by
    have q := ev_eqI (C := ctxT P wf n) (S := S) (a := .var 2) (b := .int 0) (env := [.fz dT, .fz dR, .fz (.int way), .fz .non, .fz .non, .no]) (ev_var rfl) ev_intS
    refine ev_iteS q ?_
    split
    · exact ev_makeS (evs_consI (ev_var rfl) kT.2 kT.1 (evs_consI (ev_var rfl) kR.2 kR.1 evs_nilS)) rfl
    · exact ev_makekS evs_nilS (evs_consI (ev_var rfl) kR.2 kR.1 (evs_consI (ev_var rfl) kT.2 kT.1 evs_nilS)) rfl rfl
  have s0 : exS (ctxT P wf n) (.unp [3, 4] (.tup (.cons false .non (.cons false .non .nil)))) [.fz dT, .fz dR, .fz (.int way), .no, .no, .no] S = .ok (.nx [.fz dT, .fz dR, .fz (.int way), .fz .non, .fz .non, .no]) S := by kernel_rfl
  cases due with
  | none =>
    have h : makeT P wf n cb [dT, dR] S = .ok (.own bk) S := h
    rw [h] at hmk
    show callT P wf (n + 1) f [dT, dR, .int way] S = _
    rw [callT_eq hf, runFn_eq rfl]
    have run : exSs (ctxT P wf n) (bCaught cb) [.fz dT, .fz dR, .fz (.int way), .no, .no, .no] S = .ok (.rt (.tup [bk, .non])) S := by
      refine ss_nx s0 (ss_nx (s_tryOk hmk hbk.2) (ss_rt (s_retS (ev_tupS (evs_consI (y := bk) (ev_var rfl) hbk.1 hbk.2 (evs_consI (ev_var rfl) rfl rfl evs_nilS)) (by rw [sizeLine_eq]; simp)) rfl)))
    show (exSs (ctxT P wf n) (bCaught cb) [.fz dT, .fz dR, .fz (.int way), .no, .no, .no] S).bind finF = _
    rw [run]; rfl
  | some e =>
    obtain ⟨e, t⟩ := e
    obtain ⟨x, u, S', h1, h2⟩ := h
    have he := hc e t rfl
    rw [h1] at hmk
    refine ⟨x, u, S', ?_, h2⟩
    rw [callT_eq hf, runFn_eq rfl]
    have run : exSs (ctxT P wf n) (bCaught cb) [.fz dT, .fz dR, .fz (.int way), .no, .no, .no] S = .ok (.rt (.tup [.non, .exc e x])) S' := by
      refine ss_nx s0 (ss_nx (s_tryEr hmk (hs.ve e he) (hs.ve 0 (by decide)) (hs.key e he)) (ss_rt (s_retS (ev_tupS (evs_consI (ev_var rfl) rfl rfl (evs_consI (ev_var rfl) rfl rfl evs_nilS)) (by rw [sizeLine_eq]; simp)) rfl)))
    show (exSs (ctxT P wf n) (bCaught cb) [.fz dT, .fz dR, .fz (.int way), .no, .no, .no] S).bind finF = _
    rw [run]; rfl
/-! ### error_right -/
def KindsOk (P : Prog) (wf fk : Nat) : Prop := ∀ (n e : Nat) (x : D) (S : Sto), 1 ≤ e → e ≤ 5 → callT P wf (n + 1) fk [.exc e x] S = .ok (.own (.lst [.str (cnm e)])) S
theorem eq_one {s : Str} {env : K9.Env} {S : Sto} (h : ∀ c ∈ s.cps.toList, c < 128) : cmpD .ne (.lst [.str s]) (.lst [.str s]) env S = some false := by
  have e : eqD env S (.lst [.str s]) (.lst [.str s]) = if (PyData.strOk s && true) && (PyData.strOk s && true) then some (PyData.eqv (.list [.str s]) (.list [.str s])) else none := rfl
  show (eqD env S (.lst [.str s]) (.lst [.str s])).map (!·) = _
  rw [e, strOk_of h]
  show (some (PyData.eqv (.list [.str s]) (.list [.str s]))).map (!·) = _
  simp only [PyData.eqv, PyData.eqvAll, beq_self_eq_true, Bool.and_true]
  rfl
theorem cnm_ok (e : Nat) : ∀ c ∈ (cnm e).cps.toList, c < 128 := by
  have h : ∀ s ∈ (["InvalidName", "DoubleName", "UnknownTable", "UnknownColumn", "InvalidRule"] : List Str), (s.cps.toList.all fun c => decide (c < 128)) = true := by decide +kernel
  have hm : cnm e ∈ (["InvalidName", "DoubleName", "UnknownTable", "UnknownColumn", "InvalidRule"] : List Str) := by
    unfold cnm
    split <;> simp
  intro c hc
  exact of_decide_eq_true (List.all_eq_true.mp (h _ hm) c hc)
theorem errNone_ok {f fk fo n : Nat} (hf : P.fn f = some (fErrRight fk fo)) {S : Sto} : callT P wf (n + 1) f [.non, .non] S = .ok (.bl true) S := by
  rw [callT_eq hf, runFn_eq rfl]
  show (exSs (ctxT P wf n) (bErrRight fk fo) [.fz .non, .fz .non] S).bind finF = _
  kernel_rfl
theorem errSome_ok {f fk fo fc fm m e n k : Nat} (hf : P.fn f = some (fErrRight fk fo)) (hk : KindsOk P wf fk) (ho : P.fn fo = some (fOwn fc fm)) (hc : P.fn fc = some (fCopied fc)) (hm : P.fn fm = some (fMuddle fm)) (hs : SubOk P) {S : Sto} {x y : D} {t : Tr} {u : List Nat} (a : At S x t u) (nd : u.Nodup) (b : Vw S y t) (hd : DueOk n k e t) (hkk : k ≤ 100) :
    ∃ S', callT P wf (m + 5) f [.exc e x, .tup [.str (cnm e), y]] S = .ok (.bl true) S' ∧ S.length ≤ S'.length ∧ ∀ i, i < S.length → i ∉ u → S'[i]? = S[i]? := by
  obtain ⟨d1, d2, d3, d4, d5, d6, d7⟩ := hd
  obtain ⟨S', o1, o2, o3⟩ := own_ok (wf := wf) (m := m + 2) ho hc hm a nd b (by omega) (by omega) (by omega) d6 (by omega)
  refine ⟨S', ?_, o2, o3⟩
  rw [callT_eq hf, runFn_eq rfl]
  have ya := okD_acc b.ok
  have xa := okD_acc a.ok
  have run : exSs (ctxT P wf (m + 4)) (bErrRight fk fo) [.fz (.exc e x), .fz (.tup [.str (cnm e), y])] S = .ok (.rt (.bl true)) S' := by
    have q1 : ev (ctxT P wf (m + 4)) (.or (.cmp .is (.var 1) .non) (.cmp .is (.var 0) .non)) [.fz (.exc e x), .fz (.tup [.str (cnm e), y])] S = .ok (.bl false) S := by kernel_rfl
    refine ss_nx (S1 := S) (s_iteF q1 ss_nil') ?_
    have q2 : ev (ctxT P wf (m + 4)) (.isi (.var 0) [.valueError]) [.fz (.exc e x), .fz (.tup [.str (cnm e), y])] S = .ok (.bl true) S := by
      have hv := hs.ve e (by omega)
      refine ev_isiS (t := .own e) (ev_var rfl) ?_ ?_
      · show (if P.sub e .valueError = some true then some (TyD.own e) else none) = _
        rw [if_pos hv]
      · show (match P.sub e .valueError with | some true => some true | some false => some false | none => none) = _
        rw [hv]
    have q3 : ev (ctxT P wf (m + 4)) (.cmp .ne (.call fk (.cons false (.var 0) .nil)) (.lst (.cons false (.ix (.var 1) (.int 0)) .nil))) [.fz (.exc e x), .fz (.tup [.str (cnm e), y])] S = .ok (.bl false) S :=
      ev_cmpS (x := .own (.lst [.str (cnm e)])) (y := .own (.lst [.str (cnm e)])) (ev_callS (evs_consI (ev_var rfl) rfl rfl evs_nilS) (hk (m + 3) e x S d1 d2)) (ev_lstS (evs_consI (y := .str (cnm e)) (ev_ixT (k := 0) (ev_var rfl) ev_intS rfl) rfl rfl evs_nilS) (by rw [sizeLine_eq]; simp)) (eq_one (cnm_ok e))
    refine ss_nx (S1 := S) (s_iteF (ev_orF (ev_notS q2) q3) ss_nil') ?_
    have q4 : ev (ctxT P wf (m + 4)) (.fld (.var 0) "value") [.fz (.exc e x), .fz (.tup [.str (cnm e), y])] S = .ok x S := by
      refine ev_fldS (x := .exc e x) (ev_var rfl) ?_
      show chk (("value" : Str) = "value" ∧ P.sub e .valueError = some true) (.ok x S) = _
      exact chk_pos ⟨rfl, hs.ve e (by omega)⟩
    exact ss_rt (s_retS (ev_callS (evs_consI q4 xa.2 xa.1 (evs_consI (y := y) (ev_ixT (k := 1) (ev_var rfl) ev_intS rfl) ya.2 ya.1 evs_nilS)) o1) rfl)
  show (exSs (ctxT P wf (m + 4)) (bErrRight fk fo) [.fz (.exc e x), .fz (.tup [.str (cnm e), y])] S).bind finF = _
  rw [run]; rfl
/-! ### what a book tells -/
theorem Ats.lfs {S : Sto} : ∀ l : List Str, Ats S (l.map .str) (lfs l) []
  | [] => .nil
  | s :: l => .cons (u := []) (v := []) (.leaf rfl) (Ats.lfs l)
theorem lc_cons {C : K9.Ctx} {elt : Ex} {tg : List Nat} {env e1 : K9.Env} {live : List (Nat × List D)} {x y : D} {xs ys : List D} {S S1 : Sto} (hlv : LiveOk S live) (ha : asgT tg x env = some e1) (h : ev C elt e1 S = .ok y S1) (hy : (rd y).isAcc = false) (hl : ys.length < sizeLine) : lcGo (ev C (.bl true)) (ev C elt) tg env live (x :: xs) ys S = lcGo (ev C (.bl true)) (ev C elt) tg env live xs (ys ++ [rd y]) S1 := by
  show chkLive S live (oget (asgT tg x env) fun e => (ev C (.bl true) e S).bindR fun b S1 => ifD b ((ev C elt e S1).bindR fun y S2 => if y.isAcc then .bad else chk (ys.length < sizeLine) (lcGo (ev C (.bl true)) (ev C elt) tg env live xs (ys ++ [y]) S2)) (lcGo (ev C (.bl true)) (ev C elt) tg env live xs ys S1)) = _
  rw [chkLive_ok hlv, ha, oget_some, ev_blS, bindR_ok, rd_bl, show ∀ (f g : R (List D)), ifD (.bl true) f g = f from fun _ _ => rfl, h, bindR_ok, hy]
  show chk (ys.length < sizeLine) _ = _
  rw [chk_pos hl]
theorem pt_loop {C : K9.Ctx} {s0 : K9.Slot} : ∀ (ts : List Tb) (S : Sto) (ys : List D), ys.length + ts.length < sizeLine → (∀ t ∈ ts, t.2.length ≤ 1000) → ∃ ds' u' S', lcGo (ev C (.bl true)) (ev C (.tup (.cons false (.var 1) (.cons false (.ref (.bi .list (.cons false (.var 2) .nil))) .nil)))) [1, 2] [s0, .no, .no] [] (ts.map ktF) ys S = .ok (ys ++ ds') S' ∧ Ats S' ds' (ts.map tbT) u' ∧ u'.Nodup ∧ (∀ i ∈ u', S.length ≤ i) ∧ Ext' S S'
  | [], S, ys, _, _ => ⟨[], [], S, by rw [List.append_nil]; rfl, .nil, List.nodup_nil, (fun _ h => by cases h), Ext'.refl⟩
  | t :: ts, S, ys, hl, hc => by
    rw [List.length_cons] at hl
    have hel : ev C (.tup (.cons false (.var 1) (.cons false (.ref (.bi .list (.cons false (.var 2) .nil))) .nil))) [s0, .fz (.str t.1), .fz (.tup (t.2.map .str))] S = .ok (.tup [.str t.1, .ref S.length]) (S ++ [.lst (t.2.map .str)]) := by
      refine ev_tupS (evs_consI (ev_var rfl) rfl rfl (evs_consI (y := .ref S.length) (ev_refS (x := .lst (t.2.map .str)) (S1 := S) (o := .lst (t.2.map .str)) (ev_biS (evl_consS (ev_var rfl) evl_nilS) ?_) rfl) rfl rfl evs_nilS)) (by rw [sizeLine_eq]; simp)
      show mkL (t.2.map .str) S = _
      exact mkL_ok (by rw [List.length_map, sizeLine_eq]; have := hc t List.mem_cons_self; omega)
    obtain ⟨ds', u', S', k1, k2, k3, k4, k5⟩ := pt_loop (C := C) (s0 := s0) ts (S ++ [.lst (t.2.map .str)]) (ys ++ [.tup [.str t.1, .ref S.length]]) (by rw [List.length_append, List.length_singleton]; omega) (fun t h => hc t (List.mem_cons_of_mem _ h))
    have a1 : At (S ++ [.lst (t.2.map .str)]) (.tup [.str t.1, .ref S.length]) (tbT t) [S.length] := .tup (.cons (u := []) (v := [S.length]) (.leaf rfl) (.cons (u := [S.length]) (v := []) (.lst (by simp) (Ats.lfs _)) .nil))
    refine ⟨.tup [.str t.1, .ref S.length] :: ds', [S.length] ++ u', S', ?_, .cons (a1.ext k5) k2, ?_, fun i hi => ?_, Ext'.snoc.trans k5⟩
    · rw [List.map_cons, lc_cons LiveOk.nil (show asgT [1, 2] (ktF t) [s0, .no, .no] = some [s0, .fz (.str t.1), .fz (.tup (t.2.map .str))] from rfl) hel rfl (by omega)]
      rw [show rd (D.tup [.str t.1, .ref S.length]) = .tup [.str t.1, .ref S.length] from rfl, k1, List.append_assoc]; rfl
    · refine List.nodup_append.mpr ⟨by simp, k3, fun i hi j hj z => ?_⟩
      have := k4 j hj
      rw [List.length_append, List.length_singleton] at this
      rw [List.mem_singleton.mp hi] at z; omega
    · rcases List.mem_append.mp hi with hi | hi
      · rw [List.mem_singleton.mp hi]; exact Nat.le_refl _
      · have := k4 i hi
        rw [List.length_append, List.length_singleton] at this; omega
theorem ev_fldI {C : K9.Ctx} {o : Ex} {f : Str} {env : K9.Env} {S S1 : Sto} {c : Nat} {fs : List Str} {vs : List D} {v : D} (h : ev C o env S = .ok (.ins c fs vs) S1) (ha : C.attr c f = some none) (hl : lookF fs vs f = some v) : ev C (.fld o f) env S = .ok v S1 := by
  refine ev_fldS h ?_
  show (match C.attr c f with
    | some (some g) => if (D.ins c fs vs).isAcc then R.bad else noEr (C.call g [.ins c fs vs] S1)
    | some none => oget (lookF fs vs f) fun v => .ok v S1
    | none => .bad) = _
  rw [ha]
  show oget (lookF fs vs f) _ = _
  rw [hl]; rfl
theorem ev_fldP {C : K9.Ctx} {o : Ex} {f : Str} {env : K9.Env} {S S1 S2 : Sto} {c g : Nat} {fs : List Str} {vs : List D} {v : D} (h : ev C o env S = .ok (.ins c fs vs) S1) (ha : C.attr c f = some (some g)) (hl : C.call g [.ins c fs vs] S1 = .ok v S2) : ev C (.fld o f) env S = .ok v S2 := by
  refine ev_fldS h ?_
  show (match C.attr c f with
    | some (some g) => if (D.ins c fs vs).isAcc then R.bad else noEr (C.call g [.ins c fs vs] S1)
    | some none => oget (lookF fs vs f) fun v => .ok v S1
    | none => .bad) = _
  rw [ha]
  show noEr (C.call g [.ins c fs vs] S1) = _
  rw [hl]; rfl
/-- a fresh thing in the store -/
def FrT (S S' : Sto) (d : D) (t : Tr) : Prop := ∃ u, At S' d t u ∧ u.Nodup ∧ (∀ i ∈ u, S.length ≤ i) ∧ Ext' S S'
theorem tablesP_ok {f n c : Nat} (hf : P.fn f = some fPTables) (ha1 : P.attr c "kept_tables" = some none) {S : Sto} {ts : List Tb} {rs : List Ru} (hl : ts.length ≤ 1000) (hc : ∀ t ∈ ts, t.2.length ≤ 1000) : ∃ d S', callT P wf (n + 1) f [bkD c ts rs] S = .ok d S' ∧ FrT S S' d (tabsT ts) := by
  obtain ⟨ds', u', S', k1, k2, k3, k4, k5⟩ := pt_loop (C := ctxT P wf n) (s0 := .fz (bkD c ts rs)) ts S [] (by rw [sizeLine_eq]; simp; omega) hc
  have hl' : ds'.length = ts.length := by rw [k2.length, List.length_map]
  refine ⟨.ref S'.length, S' ++ [.lst ds'], ?_, S'.length :: u', .lst (by simp) (k2.ext Ext'.snoc), ?_, fun i hi => ?_, k5.trans Ext'.snoc⟩
  · rw [callT_eq hf, runFn_eq rfl]
    have run : exSs (ctxT P wf n) bPTables [.fz (bkD c ts rs), .no, .no] S = .ok (.rt (.ref S'.length)) (S' ++ [.lst ds']) := by
      refine ss_rt (s_retS (ev_refS (x := .lst ds') (S1 := S') (o := .lst ds') (ev_lcS (p := ⟨ts.map ktF, [], false⟩) (S1 := S) ?_ k1 (by rw [hl', sizeLine_eq]; omega)) rfl) rfl)
      have q := ev_fldI (C := ctxT P wf n) (o := .var 0) (f := "kept_tables") (env := [.fz (bkD c ts rs), .no, .no]) (S := S) (c := c) (fs := ["kept_tables", "kept_rules"]) (vs := [.tup (ts.map ktF), .tup (rs.map krF)]) (v := .tup (ts.map ktF)) (ev_var rfl) ha1 rfl
      simp only [evIt, q, bindR_ok, rd]; rfl
    show (exSs (ctxT P wf n) bPTables [.fz (bkD c ts rs), .no, .no] S).bind finF = _
    rw [run]; rfl
  · exact List.nodup_cons.mpr ⟨fun z => Nat.lt_irrefl _ (k2.lt _ z), k3⟩
  · rcases List.mem_cons.mp hi with rfl | hi
    · exact k5.1
    · exact k4 i hi
theorem pr_loop {C : K9.Ctx} {s0 : K9.Slot} : ∀ (rs : List Ru) (S : Sto) (ys : List D), ys.length + rs.length < sizeLine → (∀ r ∈ rs, r.cs.length ≤ 1000 ∧ ruGood r = true) → ∃ ds' u' S', lcGo (ev C (.bl true)) (ev C (.tup (.cons false (.ix (.var 1) (.int 0)) (.cons false (.ix (.var 1) (.int 1)) (.cons false (.ref (.bi .list (.cons false (.ix (.var 1) (.int 2)) .nil))) (.cons true (.sl (.var 1) (.int 3) .non) .nil)))))) [1] [s0, .no] [] (rs.map krF) ys S = .ok (ys ++ ds') S' ∧ Ats S' ds' (rs.map Ru.T) u' ∧ u'.Nodup ∧ (∀ i ∈ u', S.length ≤ i) ∧ Ext' S S'
  | [], S, ys, _, _ => ⟨[], [], S, by rw [List.append_nil]; rfl, .nil, List.nodup_nil, (fun _ h => by cases h), Ext'.refl⟩
  | r :: rs, S, ys, hl, hc => by
    rw [List.length_cons] at hl
    obtain ⟨hc1, hg⟩ := hc r List.mem_cons_self
    have hn : r.n = 3 ∨ r.n = 4 := by rw [good_of] at hg; omega
    have hel : ev C (.tup (.cons false (.ix (.var 1) (.int 0)) (.cons false (.ix (.var 1) (.int 1)) (.cons false (.ref (.bi .list (.cons false (.ix (.var 1) (.int 2)) .nil))) (.cons true (.sl (.var 1) (.int 3) .non) .nil))))) [s0, .fz (krF r)] S = .ok (.tup ([.str r.w, .str r.t, .ref S.length] ++ (if r.n = 4 then [.str r.e] else []))) (S ++ [.lst (r.cs.map .str)]) := by
      have hlen : ([D.str r.w, .str r.t, .ref S.length] ++ (if r.n = 4 then [D.str r.e] else [])).length ≤ sizeLine := by
        rw [sizeLine_eq]
        rcases hn with hn | hn
        · rw [if_neg (by omega)]; simp
        · rw [if_pos hn]; simp
      refine ev_tupS (S1 := S ++ [.lst (r.cs.map .str)]) ?_ hlen
      refine evs_consI (ev_ixT (k := 0) (x := .str r.w) (ev_var rfl) ev_intS rfl) rfl rfl (evs_consI (ev_ixT (k := 1) (x := .str r.t) (ev_var rfl) ev_intS rfl) rfl rfl (evs_consI (y := .ref S.length) (ev_refS (x := .lst (r.cs.map .str)) (S1 := S) (o := .lst (r.cs.map .str)) (ev_biS (evl_consS (ev_ixT (k := 2) (x := .tup (r.cs.map .str)) (ev_var rfl) ev_intS rfl) evl_nilS) ?_) rfl) rfl rfl ?_))
      · show mkL (r.cs.map .str) S = _
        exact mkL_ok (by rw [List.length_map, sizeLine_eq]; omega)
      · have q3 := rule_tail (C := C) (env := [s0, .fz (krF r)]) (S := S ++ [.lst (r.cs.map .str)]) (i := 1) (r := r) (dc := .tup (r.cs.map .str)) rfl rfl
        have e9 : ((if r.n = 4 then [r.e] else []).map D.str) = (if r.n = 4 then [.str r.e] else []) := by split <;> rfl
        rw [e9] at q3
        simp only [evs, q3, bindR_ok, rd_tup, if_true]
        show R.ok ((if r.n = 4 then [D.str r.e] else []) ++ []) _ = _
        rw [List.append_nil]; rfl
    obtain ⟨ds', u', S', k1, k2, k3, k4, k5⟩ := pr_loop (C := C) (s0 := s0) rs (S ++ [.lst (r.cs.map .str)]) (ys ++ [.tup ([.str r.w, .str r.t, .ref S.length] ++ (if r.n = 4 then [.str r.e] else []))]) (by rw [List.length_append, List.length_singleton]; omega) (fun t h => hc t (List.mem_cons_of_mem _ h))
    have a1 : At (S ++ [.lst (r.cs.map .str)]) (.tup ([.str r.w, .str r.t, .ref S.length] ++ (if r.n = 4 then [.str r.e] else []))) r.T [S.length] := by
      refine .tup ?_
      rcases hn with hn | hn
      · rw [if_neg (by omega), hn]
        exact .cons (u := []) (v := [S.length]) (.leaf rfl) (.cons (u := []) (v := [S.length]) (.leaf rfl) (.cons (u := [S.length]) (v := []) (.lst (by simp) (Ats.lfs _)) .nil))
      · rw [if_pos hn, hn]
        exact .cons (u := []) (v := [S.length]) (.leaf rfl) (.cons (u := []) (v := [S.length]) (.leaf rfl) (.cons (u := [S.length]) (v := []) (.lst (by simp) (Ats.lfs _)) (.cons (u := []) (v := []) (.leaf rfl) .nil)))
    refine ⟨.tup ([.str r.w, .str r.t, .ref S.length] ++ (if r.n = 4 then [.str r.e] else [])) :: ds', [S.length] ++ u', S', ?_, .cons (a1.ext k5) k2, ?_, fun i hi => ?_, Ext'.snoc.trans k5⟩
    · rw [List.map_cons, lc_cons LiveOk.nil (show asgT [1] (krF r) [s0, .no] = some [s0, .fz (krF r)] from rfl) hel rfl (by omega)]
      rw [show ∀ xs : List D, rd (D.tup xs) = .tup xs from fun _ => rfl, k1, List.append_assoc]; rfl
    · refine List.nodup_append.mpr ⟨by simp, k3, fun i hi j hj z => ?_⟩
      have := k4 j hj
      rw [List.length_append, List.length_singleton] at this
      rw [List.mem_singleton.mp hi] at z; omega
    · rcases List.mem_append.mp hi with hi | hi
      · rw [List.mem_singleton.mp hi]; exact Nat.le_refl _
      · have := k4 i hi
        rw [List.length_append, List.length_singleton] at this; omega
theorem rulesP_ok {f n c : Nat} (hf : P.fn f = some fPRules) (ha2 : P.attr c "kept_rules" = some none) {S : Sto} {ts : List Tb} {rs : List Ru} (hl : rs.length ≤ 1000) (hc : ∀ r ∈ rs, r.cs.length ≤ 1000 ∧ ruGood r = true) : ∃ d S', callT P wf (n + 1) f [bkD c ts rs] S = .ok d S' ∧ FrT S S' d (rulesT rs) := by
  obtain ⟨ds', u', S', k1, k2, k3, k4, k5⟩ := pr_loop (C := ctxT P wf n) (s0 := .fz (bkD c ts rs)) rs S [] (by rw [sizeLine_eq]; simp; omega) hc
  have hl' : ds'.length = rs.length := by rw [k2.length, List.length_map]
  refine ⟨.ref S'.length, S' ++ [.lst ds'], ?_, S'.length :: u', .lst (by simp) (k2.ext Ext'.snoc), ?_, fun i hi => ?_, k5.trans Ext'.snoc⟩
  · rw [callT_eq hf, runFn_eq rfl]
    have run : exSs (ctxT P wf n) bPRules [.fz (bkD c ts rs), .no] S = .ok (.rt (.ref S'.length)) (S' ++ [.lst ds']) := by
      refine ss_rt (s_retS (ev_refS (x := .lst ds') (S1 := S') (o := .lst ds') (ev_lcS (p := ⟨rs.map krF, [], false⟩) (S1 := S) ?_ k1 (by rw [hl', sizeLine_eq]; omega)) rfl) rfl)
      have q := ev_fldI (C := ctxT P wf n) (o := .var 0) (f := "kept_rules") (env := [.fz (bkD c ts rs), .no]) (S := S) (c := c) (fs := ["kept_tables", "kept_rules"]) (vs := [.tup (ts.map ktF), .tup (rs.map krF)]) (v := .tup (rs.map krF)) (ev_var rfl) ha2 (by
        rw [lookF, if_neg (by decide +kernel), lookF, if_pos rfl])
      simp only [evIt, q, bindR_ok, rd]; rfl
    show (exSs (ctxT P wf n) bPRules [.fz (bkD c ts rs), .no] S).bind finF = _
    rw [run]; rfl
  · exact List.nodup_cons.mpr ⟨fun z => Nat.lt_irrefl _ (k2.lt _ z), k3⟩
  · rcases List.mem_cons.mp hi with rfl | hi
    · exact k5.1
    · exact k4 i hi
end KL
end
section
set_option Elab.async false
set_option linter.all false
set_option maxRecDepth 1000000
set_option maxHeartbeats 0
set_option exponentiation.threshold 2000
namespace Lk03
open K9 KL PySem PyProof.Rows
theorem f0 : T.prog.fn 0 = some fIsName := by kernel_rfl
theorem f1 : T.prog.fn 1 = some (fCopied 1) := by kernel_rfl
theorem f2 : T.prog.fn 2 = some (fChecked 0) := by kernel_rfl
theorem f3 : T.prog.fn 3 = some (fCheckRule 1) := by kernel_rfl
theorem f4 : T.prog.fn 4 = some fPurse := by kernel_rfl
theorem f5 : T.prog.fn 5 = some fCoin := by kernel_rfl
theorem f6 : T.prog.fn 6 = some (fWords 5) := by kernel_rfl
theorem f7 : T.prog.fn 7 = some (fTables 5 6) := by kernel_rfl
theorem f8 : T.prog.fn 8 = some (fRules 5) := by kernel_rfl
theorem f9 : T.prog.fn 9 = some (fCopied 9) := by kernel_rfl
theorem f10 : T.prog.fn 10 = some (fMuddle 10) := by kernel_rfl
theorem f11 : T.prog.fn 11 = some (fOwn 9 10) := by kernel_rfl
theorem f13 : T.prog.fn 13 = some (fErrRight 12 11) := by kernel_rfl
theorem f14 : T.prog.fn 14 = some fIsTitle := by kernel_rfl
theorem f15 : T.prog.fn 15 = some (fBad 5) := by kernel_rfl
theorem f16 : T.prog.fn 16 = some (fBentTables 5 9 15) := by kernel_rfl
theorem f17 : T.prog.fn 17 = some (fBentRule 5 15) := by kernel_rfl
theorem f18 : T.prog.fn 18 = some (fBentRules 5 9 17) := by kernel_rfl
theorem f19 : T.prog.fn 19 = some fWrongRule := by kernel_rfl
theorem f20 : T.prog.fn 20 = some (fWrongBook 14 19) := by kernel_rfl
theorem f21 : T.prog.fn 21 = some (fCaught 12) := by kernel_rfl
theorem f24 : T.prog.fn 24 = some (fInit 0 2 3) := by kernel_rfl
theorem f25 : T.prog.fn 25 = some fPTables := by kernel_rfl
theorem f26 : T.prog.fn 26 = some fPRules := by kernel_rfl
theorem cl12 : T.prog.cl 12 = some ⟨false, 24, [], ["kept_tables", "kept_rules"], [("tables", 25), ("rules", 26)]⟩ := by kernel_rfl
theorem gd0 : T.prog.gd 0 = some gdR := by kernel_rfl
theorem at1 : T.prog.attr 12 "kept_tables" = some none := by kernel_rfl
theorem at2 : T.prog.attr 12 "kept_rules" = some none := by kernel_rfl
theorem at3 : T.prog.attr 12 "tables" = some (some 25) := by kernel_rfl
theorem at4 : T.prog.attr 12 "rules" = some (some 26) := by kernel_rfl
theorem sub_ok : SubOk T.prog where
  ve := by decide +kernel
  key := by decide +kernel
theorem kinds_ok : KindsOk T.prog 0 12 := by
  intro n e x S h1 h2
  have h : e = 1 ∨ e = 2 ∨ e = 3 ∨ e = 4 ∨ e = 5 := by omega
  rcases h with rfl | rfl | rfl | rfl | rfl <;> kernel_rfl
end Lk03
end
section
set_option Elab.async false
set_option linter.all false
set_option maxRecDepth 1000000
set_option maxHeartbeats 0
set_option exponentiation.threshold 2000
namespace Lk03
open K9 KL PySem PyProof.Rows
theorem Ex2.ofExt {p : Nat} {S S' : Sto} (h : Ext' S S') : Ex2 p S S' := ⟨h.1, fun i hi _ => h.2 i hi⟩
theorem Pu.ext {S S' : Sto} {p c : Nat} (h : Pu S p c) (e : Ext' S S') : Pu S' p c := h.frame (e.2 p h.lt)
theorem Vw.ex {S S' : Sto} {p c : Nat} {d : D} {t : Tr} (h : Vw S d t) (hn : noI t) (hp : Pu S p c) (e : Ex2 p S S') : Vw S' d t := h.ex2 hp e.2 hn
/-- own of a fresh thing -/
theorem own_fr {S S1 : Sto} {d e : D} {t : Tr} (h : FrT S S1 d t) (b : Vw S1 e t) (h1 : dep t ≤ 6) (h2 : wd t ≤ 900) (h3 : smT t) (h4 : sz t ≤ 13000) : ∃ S2, callT T.prog 0 8 11 [d, e] S1 = .ok (.bl true) S2 ∧ Ext' S S2 := by
  obtain ⟨u, a, nd, fr, ex⟩ := h
  obtain ⟨S2, o1, o2, o3⟩ := own_ok (P := T.prog) (wf := 0) (m := 6) f11 f9 f10 a nd b (by omega) (by omega) h2 h3 h4
  refine ⟨S2, o1, Nat.le_trans ex.1 o2, fun i hi => ?_⟩
  rw [o3 i (Nat.lt_of_lt_of_le hi ex.1) (fun z => by have := fr i z; omega)]
  exact ex.2 i hi
noncomputable abbrev CX : K9.Ctx := ctxT T.prog 0 8
def RB : Sms := (.cons (.unp [8, 9] (.call 21 (.cons false (.ix (.var 5) (.int 0)) (.cons false (.ix (.var 5) (.int 1)) (.cons false (.call 5 (.cons false (.var 0) (.cons false (.int 2) .nil))) .nil))))) (.cons (.ite (.or (.not (.call 13 (.cons false (.var 9) (.cons false (.var 4) .nil)))) (.cmp .ne (.bi .repr (.cons false (.var 5) .nil)) (.bi .repr (.cons false (.tup (.cons false (.var 6) (.cons false (.var 7) .nil))) .nil)))) (.cons (.ret (.bl false)) .nil) .nil) (.cons (.ite (.and (.cmp .is (.var 4) .non) (.not (.and (.call 11 (.cons false (.fld (.var 8) "tables") (.cons false (.var 6) .nil))) (.call 11 (.cons false (.fld (.var 8) "rules") (.cons false (.var 7) .nil)))))) (.cons (.ret (.bl false)) .nil) .nil) .nil)))
theorem and_n {C : K9.Ctx} {env : K9.Env} {S : Sto} (h : env[4]? = some (.fz .non)) : ev C (.cmp .is (.var 4) .non) env S = .ok (.bl true) S := ev_cmpS (x := .non) (y := .non) (ev_var h) ev_nonS rfl
theorem round_ok {p c k sm' : Nat} {sm : Bool} {dP g kp h0 h1 x s3 : D} {s8 s9 : K9.Slot} {S : Sto} {ts : List Tb} {rs : List Ru} (hp : Pu S p c) (hc : c < 2 ^ 39) (vg : Vw S g (tabsT ts)) (vk : Vw S kp (rulesT rs)) (v0 : Vw S h0 (tabsT ts)) (v1 : Vw S h1 (rulesT rs)) (hx : DueD S (bookDue ts rs) x) (ht : ∀ t ∈ ts, TbOk 36 8 t) (hr : ∀ r ∈ rs, RuOk 36 7 r) (hl : ts.length ≤ 6) (hl2 : rs.length ≤ 20) :
    ∃ s8' s9' S', exSs CX RB [.fz (.ref p), .fz (.bl sm), .fz dP, .fz (.int k), .fz x, .fz (.tup [h0, h1]), .fz g, .fz kp, s8, s9] S = .ok (.nx [.fz (.ref p), .fz (.bl sm), .fz dP, .fz (.int k), .fz x, .fz (.tup [h0, h1]), .fz g, .fz kp, s8', s9']) S' ∧ Pu S' p (c + 1) ∧ Ex2 p S S' := by
  obtain ⟨tb1, tb2, tb3, tb4⟩ := tabs_b (m := 6) (by decide) ht hl
  obtain ⟨rb1, rb2, rb3, rb4⟩ := rules_b (m := 20) (by decide) hr hl2
  have k0 := okD_acc v0.ok
  have k1 := okD_acc v1.ok
  have kg := okD_acc vg.ok
  have kk := okD_acc vk.ok
  obtain ⟨way, S1, w1, w2, w3, w4⟩ := ev_pickI (P := T.prog) (wf := 0) (n := 7) (many := 2) (env := [.fz (.ref p), .fz (.bl sm), .fz dP, .fz (.int k), .fz x, .fz (.tup [h0, h1]), .fz g, .fz kp, s8, s9]) (e := .int 2) f5 rfl ev_intS hp (by omega) (by decide) (by decide)
  have e1 : Ex2 p S S1 := w4.ex
  have a0 : Vw S1 h0 (tabsT ts) := Vw.ex v0 noI_tabs hp e1
  have a1 : Vw S1 h1 (rulesT rs) := Vw.ex v1 noI_rules hp e1
  have hin := init_ok (P := T.prog) (wf := 0) (m := 1) (S := S1) cl12 f24 f0 f2 f3 f1 gd0 at1 at2 (show 36 ≤ 60 by decide) (show 8 ≤ 100 by decide) (show 7 ≤ 100 by decide) ht hr a0 a1 (by omega) (by omega)
  have hcg := caught_ok (P := T.prog) (wf := 0) (f := 21) (cb := 12) (n := 7) (way := way) (bk := bkD 12 ts rs) (due := bookDue ts rs) f21 sub_ok ⟨rfl, rfl⟩ a0.ok a1.ok hin (fun e t h => by have := book_ok5 (by decide) ht hr h; have := this.2.1; omega)
  have hrepr : ∀ {S' : Sto} {s8 s9 : K9.Slot}, Ex2 p S S' → ev CX (.cmp .ne (.bi .repr (.cons false (.var 5) .nil)) (.bi .repr (.cons false (.tup (.cons false (.var 6) (.cons false (.var 7) .nil))) .nil))) [.fz (.ref p), .fz (.bl sm), .fz dP, .fz (.int k), .fz x, .fz (.tup [h0, h1]), .fz g, .fz kp, s8, s9] S' = .ok (.bl false) S' := fun {S' s8 s9} ex => by
    have b0 : Vw S' (.tup [h0, h1]) (.tup [tabsT ts, rulesT rs]) := .tup (.cons (Vw.ex v0 noI_tabs hp ex) (.cons (Vw.ex v1 noI_rules hp ex) .nil))
    have b1 : Vw S' (.tup [g, kp]) (.tup [tabsT ts, rulesT rs]) := .tup (.cons (Vw.ex vg noI_tabs hp ex) (.cons (Vw.ex vk noI_rules hp ex) .nil))
    have hd : dep (.tup [tabsT ts, rulesT rs]) ≤ 61 := by simp only [dep, deps]; omega
    have hs : smT (.tup [tabsT ts, rulesT rs]) := ⟨tb3, rb3, True.intro⟩
    have hz : sz (.tup [tabsT ts, rulesT rs]) ≤ 27000 := by simp only [sz, szs]; omega
    exact ev_cmpS (S1 := S') (x := .str (dat (.tup [tabsT ts, rulesT rs])).shown) (y := .str (dat (.tup [tabsT ts, rulesT rs])).shown) (ev_repr (ev_var rfl) b0 hd hs hz) (ev_repr (ev_tupS (evs_consI (ev_var rfl) kg.2 kg.1 (evs_consI (ev_var rfl) kk.2 kk.1 evs_nilS)) (by rw [sizeLine_eq]; simp)) b1 hd hs hz) str_ne
  have hcall : ev CX (.call 21 (.cons false (.ix (.var 5) (.int 0)) (.cons false (.ix (.var 5) (.int 1)) (.cons false (.call 5 (.cons false (.var 0) (.cons false (.int 2) .nil))) .nil)))) [.fz (.ref p), .fz (.bl sm), .fz dP, .fz (.int k), .fz x, .fz (.tup [h0, h1]), .fz g, .fz kp, s8, s9] S = callT T.prog 0 8 21 [h0, h1, .int way] S1 :=
    ev_callS (evs_consI (ev_ixT (k := 0) (ev_var rfl) ev_intS rfl) k0.2 k0.1 (evs_consI (ev_ixT (k := 1) (ev_var rfl) ev_intS rfl) k1.2 k1.1 (evs_consI w1 rfl rfl evs_nilS))) rfl
  cases hq : bookDue ts rs with
  | none =>
    rw [hq] at hcg hx
    have hcg : callT T.prog 0 8 21 [h0, h1, .int way] S1 = .ok (.tup [bkD 12 ts rs, .non]) S1 := hcg
    have hx : x = .non := hx
    subst hx
    rw [hcg] at hcall
    have st1 : exS CX (.unp [8, 9] (.call 21 (.cons false (.ix (.var 5) (.int 0)) (.cons false (.ix (.var 5) (.int 1)) (.cons false (.call 5 (.cons false (.var 0) (.cons false (.int 2) .nil))) .nil))))) [.fz (.ref p), .fz (.bl sm), .fz dP, .fz (.int k), .fz .non, .fz (.tup [h0, h1]), .fz g, .fz kp, s8, s9] S = .ok (.nx [.fz (.ref p), .fz (.bl sm), .fz dP, .fz (.int k), .fz .non, .fz (.tup [h0, h1]), .fz g, .fz kp, .fz (bkD 12 ts rs), .fz .non]) S1 := s_unpS hcall rfl
    have q1 : ev CX (.not (.call 13 (.cons false (.var 9) (.cons false (.var 4) .nil)))) [.fz (.ref p), .fz (.bl sm), .fz dP, .fz (.int k), .fz .non, .fz (.tup [h0, h1]), .fz g, .fz kp, .fz (bkD 12 ts rs), .fz .non] S1 = .ok (.bl false) S1 :=
      ev_notS (b := true) (ev_callS (evs_consI (ev_var rfl) rfl rfl (evs_consI (ev_var rfl) rfl rfl evs_nilS)) (errNone_ok (P := T.prog) (wf := 0) (n := 7) f13))
    -- the tables that are told
    have hgood : ∀ r ∈ rs, ruGood r = true := by
      rw [bookDue] at hq
      cases hd : tabsDue [] ts with
      | some e => rw [hd] at hq; cases hq
      | none => rw [hd] at hq; exact rules_good hq
    obtain ⟨d1, S2, t1, t2⟩ := tablesP_ok (P := T.prog) (wf := 0) (n := 7) (c := 12) (S := S1) (ts := ts) (rs := rs) f25 at1 (by omega) (fun t h => by have := (ht t h).2.2.1; omega)
    have t2' := t2
    obtain ⟨u2, _, _, _, x2⟩ := t2'
    have ex12 : Ex2 p S S2 := e1.trans (Ex2.ofExt x2)
    obtain ⟨S3, o1, o2⟩ := own_fr t2 (Vw.ex vg noI_tabs hp ex12) (by omega) (by omega) tb3 (by omega)
    have ex13 : Ex2 p S S3 := e1.trans (Ex2.ofExt o2)
    obtain ⟨d2, S4, t3, t4⟩ := rulesP_ok (P := T.prog) (wf := 0) (n := 7) (c := 12) (S := S3) (ts := ts) (rs := rs) f26 at2 (by omega) (fun r h => ⟨by have := (hr r h).2.2.1; omega, hgood r h⟩)
    have t4' := t4
    obtain ⟨u4, a4, _, _, x4⟩ := t4'
    have ex14 : Ex2 p S S4 := ex13.trans (Ex2.ofExt x4)
    obtain ⟨S5, o3, o4⟩ := own_fr t4 (Vw.ex vk noI_rules hp ex14) (by omega) (by omega) rb3 (by omega)
    have ex15 : Ex2 p S S5 := ex13.trans (Ex2.ofExt o4)
    obtain ⟨_, ad1, _, _, _⟩ := t2
    have kd1 := okD_acc ad1.ok
    have kd2 := okD_acc a4.ok
    have g1 : ev CX (.fld (.var 8) "tables") [.fz (.ref p), .fz (.bl sm), .fz dP, .fz (.int k), .fz .non, .fz (.tup [h0, h1]), .fz g, .fz kp, .fz (bkD 12 ts rs), .fz .non] S1 = .ok d1 S2 := ev_fldP (o := .var 8) (f := "tables") (c := 12) (g := 25) (fs := ["kept_tables", "kept_rules"]) (vs := [.tup (ts.map ktF), .tup (rs.map krF)]) (ev_var rfl) at3 t1
    have g2 : ev CX (.fld (.var 8) "rules") [.fz (.ref p), .fz (.bl sm), .fz dP, .fz (.int k), .fz .non, .fz (.tup [h0, h1]), .fz g, .fz kp, .fz (bkD 12 ts rs), .fz .non] S3 = .ok d2 S4 := ev_fldP (o := .var 8) (f := "rules") (c := 12) (g := 26) (fs := ["kept_tables", "kept_rules"]) (vs := [.tup (ts.map ktF), .tup (rs.map krF)]) (ev_var rfl) at4 t3
    have q2 : ev CX (.and (.call 11 (.cons false (.fld (.var 8) "tables") (.cons false (.var 6) .nil))) (.call 11 (.cons false (.fld (.var 8) "rules") (.cons false (.var 7) .nil)))) [.fz (.ref p), .fz (.bl sm), .fz dP, .fz (.int k), .fz .non, .fz (.tup [h0, h1]), .fz g, .fz kp, .fz (bkD 12 ts rs), .fz .non] S1 = .ok (.bl true) S5 :=
      ev_andT (ev_callS (evs_consI g1 kd1.2 kd1.1 (evs_consI (ev_var rfl) kg.2 kg.1 evs_nilS)) o1) (ev_callS (evs_consI g2 kd2.2 kd2.1 (evs_consI (ev_var rfl) kk.2 kk.1 evs_nilS)) o3)
    refine ⟨.fz (bkD 12 ts rs), .fz .non, S5, ?_, (Pu.ext w3 o2).frame ?_, ex15⟩
    · refine ss_nx st1 (ss_nx (S1 := S1) (s_iteF (ev_orF q1 (hrepr e1)) ss_nil') (ss_nx (S1 := S5) (s_iteF (ev_andT (and_n rfl) (ev_notS (b := true) q2)) ss_nil') ss_nil'))
    · exact o4.2 p (Pu.ext w3 o2).lt
  | some e =>
    obtain ⟨e, t⟩ := e
    rw [hq] at hcg hx
    obtain ⟨y, u, S2, h1', h2', h3', h4', h5'⟩ := hcg
    obtain ⟨yd, rfl, hy⟩ := hx
    have hd5 := book_ok5 (by decide) ht hr hq
    rw [h1'] at hcall
    have ex12 : Ex2 p S S2 := e1.trans (Ex2.ofExt h5')
    obtain ⟨S3, o1, o2, o3⟩ := errSome_ok (P := T.prog) (wf := 0) (m := 3) (f := 13) f13 kinds_ok f11 f9 f10 sub_ok h2' h3' (Vw.ex hy hd5.2.2.1 hp ex12) hd5 (by decide)
    have x13 : Ext' S1 S3 := ⟨Nat.le_trans h5'.1 o2, fun i hi => by
      rw [o3 i (Nat.lt_of_lt_of_le hi h5'.1) (fun z => by have := h4' i z; omega)]
      exact h5'.2 i hi⟩
    have ex13 : Ex2 p S S3 := e1.trans (Ex2.ofExt x13)
    have st1 : exS CX (.unp [8, 9] (.call 21 (.cons false (.ix (.var 5) (.int 0)) (.cons false (.ix (.var 5) (.int 1)) (.cons false (.call 5 (.cons false (.var 0) (.cons false (.int 2) .nil))) .nil))))) [.fz (.ref p), .fz (.bl sm), .fz dP, .fz (.int k), .fz (.tup [.str (cnm e), yd]), .fz (.tup [h0, h1]), .fz g, .fz kp, s8, s9] S = .ok (.nx [.fz (.ref p), .fz (.bl sm), .fz dP, .fz (.int k), .fz (.tup [.str (cnm e), yd]), .fz (.tup [h0, h1]), .fz g, .fz kp, .fz .non, .fz (.exc e y)]) S2 := s_unpS hcall rfl
    have q1 : ev CX (.not (.call 13 (.cons false (.var 9) (.cons false (.var 4) .nil)))) [.fz (.ref p), .fz (.bl sm), .fz dP, .fz (.int k), .fz (.tup [.str (cnm e), yd]), .fz (.tup [h0, h1]), .fz g, .fz kp, .fz .non, .fz (.exc e y)] S2 = .ok (.bl false) S3 :=
      ev_notS (b := true) (ev_callS (evs_consI (ev_var rfl) rfl rfl (evs_consI (ev_var rfl) rfl rfl evs_nilS)) o1)
    have q3 : ev CX (.cmp .is (.var 4) .non) [.fz (.ref p), .fz (.bl sm), .fz dP, .fz (.int k), .fz (.tup [.str (cnm e), yd]), .fz (.tup [h0, h1]), .fz g, .fz kp, .fz .non, .fz (.exc e y)] S3 = .ok (.bl false) S3 := ev_cmpS (x := .tup [.str (cnm e), yd]) (y := .non) (ev_var rfl) ev_nonS rfl
    exact ⟨.fz .non, .fz (.exc e y), S3, ss_nx st1 (ss_nx (S1 := S3) (s_iteF (ev_orF q1 (hrepr ex13)) ss_nil') (ss_nx (S1 := S3) (s_iteF (ev_andF q3) ss_nil') ss_nil')), Pu.ext w3 x13, ex13⟩
end Lk03
end
section
set_option Elab.async false
set_option linter.all false
set_option maxRecDepth 1000000
set_option maxHeartbeats 0
set_option exponentiation.threshold 2000
namespace Lk03
open K9 KL PySem PyProof.Rows
theorem row22 : T.prog.fn 22 = some ⟨1, 10, b_22⟩ := by kernel_rfl
theorem row23 : T.prog.fn 23 = some ⟨1, 4, b_23⟩ := by kernel_rfl
def L3 : Sms := (.cons (.asg 6 (.call 16 (.cons false (.var 0) (.cons false (.var 6) .nil)))) .nil)
def L4 : Sms := (.cons (.asg 7 (.call 18 (.cons false (.var 0) (.cons false (.var 2) (.cons false (.var 7) .nil))))) .nil)
theorem ev_sm {C : K9.Ctx} {env : K9.Env} {S : Sto} {sm : Bool} {a b : Nat} (h : env[1]? = some (.fz (.bl sm))) : ev C (.ite (.var 1) (.int a) (.int b)) env S = .ok (.int ((if sm then a else b : Nat) : Int)) S := by
  refine ev_iteS (ev_var h) ?_
  cases sm
  · rw [if_neg (by decide)]; exact ev_intS
  · rw [if_pos rfl]; exact ev_intS
theorem right_ok {p c : Nat} {S : Sto} (hp : Pu S p c) (hc : c + 3000 < 2 ^ 39) : ∃ S', callT T.prog 0 9 22 [.ref p] S = .ok (.bl true) S' ∧ Pu S' p (c + 1200) ∧ Ex2 p S S' := by
  obtain ⟨d, S1, a1, a2, a3, a4⟩ := ev_pickI (P := T.prog) (wf := 0) (n := 7) (many := 3) (env := [.fz (.ref p), .no, .no, .no, .no, .no, .no, .no, .no, .no]) (e := .int 3) f5 rfl ev_intS hp (by omega) (by decide) (by decide)
  have st0 : exS CX (.asg 1 (.cmp .gt (.call 5 (.cons false (.var 0) (.cons false (.int 3) .nil))) (.int 0))) [.fz (.ref p), .no, .no, .no, .no, .no, .no, .no, .no, .no] S = .ok (.nx [.fz (.ref p), .fz (.bl (decide ((0 : Int) < d))), .no, .no, .no, .no, .no, .no, .no, .no]) S1 := s_asgS (ev_gtI a1 ev_intS) rfl
  generalize decide ((0 : Int) < d) = sm at st0
  have hmt : 1 ≤ (if sm then 3 else 6) ∧ (if sm then 3 else 6) ≤ 6 := by cases sm <;> decide
  have hmr : (if sm then 4 else 17) ≤ 17 := by cases sm <;> decide
  obtain ⟨ts, S2, b1, b2, b3, b4, b5, b6⟩ := tables_ok (P := T.prog) (wf := 0) (n := 5) (f := 7) (mt := if sm then 3 else 6) (mc := if sm then 3 else 6) f7 f6 f5 a3 (by omega) hmt.1 (by omega) hmt.1 (by omega)
  have tok6 : ∀ t ∈ ts, TbOk 9 6 t := fun t h => (b4 t h).mono (Nat.le_refl _) hmt.2
  have st1 : exS CX (.asg 2 (.call 7 (.cons false (.var 0) (.cons false (.ite (.var 1) (.int 3) (.int 6)) (.cons false (.ite (.var 1) (.int 3) (.int 6)) .nil))))) [.fz (.ref p), .fz (.bl sm), .no, .no, .no, .no, .no, .no, .no, .no] S1 = .ok (.nx [.fz (.ref p), .fz (.bl sm), .fz (.lst (ts.map tbF)), .no, .no, .no, .no, .no, .no, .no]) S2 :=
    s_asgS (x := .own (.lst (ts.map tbF))) (ev_callS (evs_consI (ev_var rfl) rfl rfl (evs_consI (ev_sm (a := 3) (b := 6) rfl) rfl rfl (evs_consI (ev_sm (a := 3) (b := 6) rfl) rfl rfl evs_nilS))) b1) rfl
  obtain ⟨rs, S3, c1, c2, c3, c4, c5⟩ := rules_ok (P := T.prog) (wf := 0) (n := 6) (f := 8) (m := if sm then 4 else 17) (nn := 9) (kk := 6) f8 f5 b5 (by omega) b2 (by omega) (by omega) (by decide) (by decide) tok6
  have st2 : exS CX (.par [6, 7] (.cons false (.var 2) (.cons false (.call 8 (.cons false (.var 0) (.cons false (.var 2) (.cons false (.ite (.var 1) (.int 4) (.int 17)) .nil)))) .nil))) [.fz (.ref p), .fz (.bl sm), .fz (.lst (ts.map tbF)), .no, .no, .no, .no, .no, .no, .no] S2 = .ok (.nx [.fz (.ref p), .fz (.bl sm), .fz (.lst (ts.map tbF)), .no, .no, .no, .fz (.lst (ts.map tbF)), .fz (.lst (rs.map Ru.F)), .no, .no]) S3 :=
    s_parS (xs := [.lst (ts.map tbF), .lst (rs.map Ru.F)]) (evs_consI (ev_var rfl) rfl rfl (evs_consI (x := .own (.lst (rs.map Ru.F))) (ev_callS (evs_consI (ev_var rfl) rfl rfl (evs_consI (ev_var rfl) rfl rfl (evs_consI (ev_sm (a := 4) (b := 17) rfl) rfl rfl evs_nilS))) c1) rfl rfl evs_nilS)) rfl
  have o3 : Ex2 p S S3 := ((a4.trans b6).trans c5).ex
  -- the tables are bent
  obtain ⟨j1, S4, d1, d2, d3, d4⟩ := ev_pickI (P := T.prog) (wf := 0) (n := 7) (many := 3) (env := [.fz (.ref p), .fz (.bl sm), .fz (.lst (ts.map tbF)), .no, .no, .no, .fz (.lst (ts.map tbF)), .fz (.lst (rs.map Ru.F)), .no, .no]) (e := .int 3) f5 rfl ev_intS c4 (by omega) (by decide) (by decide)
  obtain ⟨e1, S5, l1, g, ts', s3, rfl, vg, g2, g3, g4, g5⟩ := for_cnt (C := CX) (b := L3) (tg := [3]) (live := []) (fun k env S' => ∃ (g : D) (ts' : List Tb) (s3 : K9.Slot), env = [.fz (.ref p), .fz (.bl sm), .fz (.lst (ts.map tbF)), s3, .no, .no, .fz g, .fz (.lst (rs.map Ru.F)), .no, .no] ∧ Vw S' g (tabsT ts') ∧ ts'.length = ts.length ∧ (∀ t ∈ ts', TbOk (9 * 2 ^ k) (6 + k) t) ∧ Pu S' p (c + 1 + 100 + 1000 + 1 + 10 * k) ∧ Ex2 p S4 S') 2 (fun _ _ _ _ => LiveOk.nil) (upTo 0 (j1 : Int).toNat) 0 [.fz (.ref p), .fz (.bl sm), .fz (.lst (ts.map tbF)), .no, .no, .no, .fz (.lst (ts.map tbF)), .fz (.lst (rs.map Ru.F)), .no, .no] S4
    ⟨.lst (ts.map tbF), ts, .no, rfl, .lstF (Vws.map (fun t => tbVF (t := t.1) (l := t.2)) ts), rfl, tok6, d3, Ex2.refl⟩ (by rw [upTo_len]; show 0 + j1 ≤ 2; omega)
    (fun x hx k env S' hk ⟨g, ts', s3, e, h1, h2, h3, h4, h5⟩ => by
      subst e
      obtain ⟨i, _, rfl⟩ := upTo_int hx
      have hpw : 9 * 2 ^ k ≤ 18 ∧ 9 ≤ 9 * 2 ^ k := by
        have h : k = 0 ∨ k = 1 := by omega
        rcases h with rfl | rfl <;> decide
      obtain ⟨ts'', g', S'', q1, q2, q3, q4, q5, q6⟩ := bentTables_ok (P := T.prog) (wf := 0) (f := 16) (m := 3) (n := 9 * 2 ^ k) (kk := 6 + k) f16 f5 f9 f15 h4 (by omega) h1 (by omega) (by omega) hpw.2 (by omega) (by omega) h3
      have kg := okD_acc h1.ok
      have kg' := okD_acc q2.ok
      have st := s_asgS (C := CX) (i := 6) (e := .call 16 (.cons false (.var 0) (.cons false (.var 6) .nil))) (env := [.fz (.ref p), .fz (.bl sm), .fz (.lst (ts.map tbF)), .fz (.int (0 + i)), .no, .no, .fz g, .fz (.lst (rs.map Ru.F)), .no, .no]) (ev_callS (evs_consI (ev_var rfl) rfl rfl (evs_consI (ev_var rfl) kg.2 kg.1 evs_nilS)) q1) (by rw [kg'.2]; exact kg'.1)
      rw [kg'.2] at st
      exact ⟨[.fz (.ref p), .fz (.bl sm), .fz (.lst (ts.map tbF)), .fz (.int (0 + i)), .no, .no, .fz g, .fz (.lst (rs.map Ru.F)), .no, .no], [.fz (.ref p), .fz (.bl sm), .fz (.lst (ts.map tbF)), .fz (.int (0 + i)), .no, .no, .fz g', .fz (.lst (rs.map Ru.F)), .no, .no], S'', rfl, ss_nx st ss_nil', g', ts'', _, rfl, q2, by omega, (by rw [Nat.pow_succ, ← Nat.mul_assoc, Nat.mul_comm _ 2]; exact q4), q5.mono (by omega), h5.trans q6⟩)
  rw [upTo_len] at g3 g4
  have hj1 : 0 + (j1 : Int).toNat = j1 := by show 0 + j1 = j1; omega
  rw [hj1] at g3 g4
  have tok8 : ∀ t ∈ ts', TbOk 36 8 t := fun t h => (g3 t h).mono (by
    have h : j1 = 0 ∨ j1 = 1 ∨ j1 = 2 := by omega
    rcases h with rfl | rfl | rfl <;> decide) (by omega)
  -- the rules are bent
  obtain ⟨j2, S6, m1, m2, m3, m4⟩ := ev_pickI (P := T.prog) (wf := 0) (n := 7) (many := 3) (env := [.fz (.ref p), .fz (.bl sm), .fz (.lst (ts.map tbF)), s3, .no, .no, .fz g, .fz (.lst (rs.map Ru.F)), .no, .no]) (e := .int 3) f5 rfl ev_intS g4 (by omega) (by decide) (by decide)
  obtain ⟨e2, S7, l2, kp, rs', s3', rfl, vk, k2, k3, k4, k5⟩ := for_cnt (C := CX) (b := L4) (tg := [3]) (live := []) (fun k env S' => ∃ (kp : D) (rs' : List Ru) (s3 : K9.Slot), env = [.fz (.ref p), .fz (.bl sm), .fz (.lst (ts.map tbF)), s3, .no, .no, .fz g, .fz kp, .no, .no] ∧ Vw S' kp (rulesT rs') ∧ rs'.length = rs.length + k ∧ (∀ r ∈ rs', RuOk 18 7 r) ∧ Pu S' p (c + 1200 - 60 + 20 * k) ∧ Ex2 p S6 S') 2 (fun _ _ _ _ => LiveOk.nil) (upTo 0 (j2 : Int).toNat) 0 [.fz (.ref p), .fz (.bl sm), .fz (.lst (ts.map tbF)), s3, .no, .no, .fz g, .fz (.lst (rs.map Ru.F)), .no, .no] S6
    ⟨.lst (rs.map Ru.F), rs, s3, rfl, .lstF (Vws.map (fun r => Ru.vw r) rs), rfl, (fun r h => (c3 r h).1.mono (by decide) (by decide)), m3.mono (by omega), Ex2.refl⟩ (by rw [upTo_len]; show 0 + j2 ≤ 2; omega)
    (fun x hx k env S' hk ⟨kp, rs', s3, e, h1, h2, h3, h4, h5⟩ => by
      subst e
      obtain ⟨i, _, rfl⟩ := upTo_int hx
      obtain ⟨rs'', ds'', S'', q1, q2, q3, q4, q5, q6⟩ := bentRules_ok (P := T.prog) (wf := 0) (f := 18) (fr := 17) (m := 3) (n := 9) (kk := 6) f18 f5 f9 f17 f15 h4 (by omega) b2 (by omega) (by decide) (by decide) (by decide) tok6 h1 h3 (by omega)
      have kg := okD_acc h1.ok
      exact ⟨[.fz (.ref p), .fz (.bl sm), .fz (.lst (ts.map tbF)), .fz (.int (0 + i)), .no, .no, .fz g, .fz kp, .no, .no], [.fz (.ref p), .fz (.bl sm), .fz (.lst (ts.map tbF)), .fz (.int (0 + i)), .no, .no, .fz g, .fz (.lst ds''), .no, .no], S'', rfl, ss_nx (s_asgS (x := .own (.lst ds'')) (ev_callS (evs_consI (ev_var rfl) rfl rfl (evs_consI (ev_var rfl) rfl rfl (evs_consI (ev_var rfl) kg.2 kg.1 evs_nilS))) q1) rfl) ss_nil', .lst ds'', rs'', _, rfl, q2, by omega, q4, q5.mono (by omega), h5.trans q6⟩)
  rw [upTo_len] at k2 k4
  have hj2 : 0 + (j2 : Int).toNat = j2 := by show 0 + j2 = j2; omega
  rw [hj2] at k2 k4
  have rok : ∀ r ∈ rs', RuOk 36 7 r := fun r h => (k3 r h).mono (by decide) (Nat.le_refl _)
  have vg7 : Vw S7 g (tabsT ts') := Vw.ex vg noI_tabs g4 (m4.ex.trans k5)
  -- what is due
  obtain ⟨x, S8, x1, x2, x3⟩ := wrongBook_ok (P := T.prog) (wf := 0) (f := 20) (n := 6) f20 f14 f19 (show 36 ≤ 60 by decide) (show 8 ≤ 100 by decide) (show 7 ≤ 100 by decide) tok8 rok vg7 vk (by omega)
  have kg := okD_acc vg7.ok
  have kk := okD_acc vk.ok
  have kx : rd x = x ∧ x.isAcc = false := by
    cases hq : bookDue ts' rs' with
    | none => rw [hq] at x2; rw [x2]; exact ⟨rfl, rfl⟩
    | some e => rw [hq] at x2; obtain ⟨y, rfl, _⟩ := x2; exact ⟨rfl, rfl⟩
  have st5 : exS CX (.asg 4 (.call 20 (.cons false (.var 6) (.cons false (.var 7) .nil)))) [.fz (.ref p), .fz (.bl sm), .fz (.lst (ts.map tbF)), s3', .no, .no, .fz g, .fz kp, .no, .no] S7 = .ok (.nx [.fz (.ref p), .fz (.bl sm), .fz (.lst (ts.map tbF)), s3', .fz x, .no, .fz g, .fz kp, .no, .no]) S8 := by
    have := s_asgS (C := CX) (i := 4) (e := .call 20 (.cons false (.var 6) (.cons false (.var 7) .nil))) (env := [.fz (.ref p), .fz (.bl sm), .fz (.lst (ts.map tbF)), s3', .no, .no, .fz g, .fz kp, .no, .no]) (ev_callS (evs_consI (ev_var rfl) kg.2 kg.1 (evs_consI (ev_var rfl) kk.2 kk.1 evs_nilS)) x1) (by rw [kx.1]; exact kx.2)
    rw [kx.1] at this
    exact this
  have p8 := Pu.ext k4 x3
  -- the copies
  obtain ⟨tb1, tb2, tb3, tb4⟩ := tabs_b (m := 6) (by decide) tok8 (by omega)
  obtain ⟨rb1, rb2, rb3, rb4⟩ := rules_b (m := 20) (by decide) rok (by omega)
  obtain ⟨S9, h0, u0, y1, y2, y3, y4, y5⟩ := cp_ok (P := T.prog) (wf := 0) f9 7 (tabsT ts') g S8 (by omega) (by omega) (vg7.ext x3)
  obtain ⟨S10, h1, u1, z1, z2, z3, z4, z5⟩ := cp_ok (P := T.prog) (wf := 0) f9 7 (rulesT rs') kp S9 (by omega) (by omega) ((vk.ext x3).ext y5)
  have kh0 := okD_acc y2.ok
  have kh1 := okD_acc z2.ok
  have st6 : exS CX (.asg 5 (.tup (.cons false (.call 9 (.cons false (.var 6) .nil)) (.cons false (.call 9 (.cons false (.var 7) .nil)) .nil)))) [.fz (.ref p), .fz (.bl sm), .fz (.lst (ts.map tbF)), s3', .fz x, .no, .fz g, .fz kp, .no, .no] S8 = .ok (.nx [.fz (.ref p), .fz (.bl sm), .fz (.lst (ts.map tbF)), s3', .fz x, .fz (.tup [h0, h1]), .fz g, .fz kp, .no, .no]) S10 :=
    s_asgS (x := .tup [h0, h1]) (ev_tupS (evs_consI (ev_callS (evs_consI (ev_var rfl) kg.2 kg.1 evs_nilS) y1) kh0.2 kh0.1 (evs_consI (ev_callS (evs_consI (ev_var rfl) kk.2 kk.1 evs_nilS) z1) kh1.2 kh1.1 evs_nilS)) (by rw [sizeLine_eq]; simp)) rfl
  have x810 := y5.trans z5
  have p10 := Pu.ext p8 x810
  have v10g : Vw S10 g (tabsT ts') := (vg7.ext x3).ext x810
  have v10k : Vw S10 kp (rulesT rs') := (vk.ext x3).ext x810
  have v100 : Vw S10 h0 (tabsT ts') := y2.vw.ext z5
  have v101 : Vw S10 h1 (rulesT rs') := z2.vw
  have dx : ∀ {S' : Sto}, Ex2 p S10 S' → DueD S' (bookDue ts' rs') x := fun {S'} ex => by
    cases hq : bookDue ts' rs' with
    | none => rw [hq] at x2; exact x2
    | some e =>
      obtain ⟨e, t⟩ := e
      rw [hq] at x2
      obtain ⟨y, rfl, hy⟩ := x2
      have hd5 := book_ok5 (by decide) tok8 rok hq
      exact ⟨y, rfl, Vw.ex (hy.ext x810) hd5.2.2.1 p10 ex⟩
  obtain ⟨e3, S11, l3, s3'', s8, s9, rfl, w1, w2⟩ := for_cnt (C := CX) (b := RB) (tg := [3]) (live := []) (fun k env S' => ∃ (s3 s8 s9 : K9.Slot), env = [.fz (.ref p), .fz (.bl sm), .fz (.lst (ts.map tbF)), s3, .fz x, .fz (.tup [h0, h1]), .fz g, .fz kp, s8, s9] ∧ Pu S' p (c + 1200 - 60 + 20 * j2 + k) ∧ Ex2 p S10 S') 3 (fun _ _ _ _ => LiveOk.nil) (upTo 0 (3 : Int).toNat) 0 [.fz (.ref p), .fz (.bl sm), .fz (.lst (ts.map tbF)), s3', .fz x, .fz (.tup [h0, h1]), .fz g, .fz kp, .no, .no] S10
    ⟨s3', .no, .no, rfl, p10, Ex2.refl⟩ (by rw [upTo_len]; decide)
    (fun y hy k env S' hk ⟨s3, s8, s9, e, h1', h2'⟩ => by
      subst e
      obtain ⟨i, _, rfl⟩ := upTo_int hy
      obtain ⟨s8', s9', S'', q1, q2, q3⟩ := round_ok (k := i) (sm := sm) (sm' := 0) (dP := .lst (ts.map tbF)) (s8 := s8) (s9 := s9) (s3 := .non) h1' (by omega) (Vw.ex v10g noI_tabs p10 h2') (Vw.ex v10k noI_rules p10 h2') (Vw.ex v100 noI_tabs p10 h2') (Vw.ex v101 noI_rules p10 h2') (dx h2') tok8 rok (by omega) (by omega)
      have e0 : (.int (0 + (i : Int)) : D) = .int i := by rw [Int.zero_add]
      exact ⟨[.fz (.ref p), .fz (.bl sm), .fz (.lst (ts.map tbF)), .fz (.int i), .fz x, .fz (.tup [h0, h1]), .fz g, .fz kp, s8, s9], [.fz (.ref p), .fz (.bl sm), .fz (.lst (ts.map tbF)), .fz (.int i), .fz x, .fz (.tup [h0, h1]), .fz g, .fz kp, s8', s9'], S'', (by rw [e0]; rfl), q1, .fz (.int i), s8', s9', rfl, q2.mono (by omega), h2'.trans q3⟩)
  rw [upTo_len] at w1
  refine ⟨S11, ?_, w1.mono (by show c + 1200 - 60 + 20 * j2 + (0 + 3) ≤ _; omega), ?_⟩
  · rw [callT_eq row22, runFn_eq rfl]
    have run : exSs CX b_22 [.fz (.ref p), .no, .no, .no, .no, .no, .no, .no, .no, .no] S = .ok (.rt (.bl true)) S11 := by
      refine ss_nx st0 (ss_nx st1 (ss_nx st2 (ss_nx (s_forS (evIt_rng1 d1 ⟨by omega, by omega⟩) rfl l1) (ss_nx (s_forS (evIt_rng1 m1 ⟨by omega, by omega⟩) rfl l2) (ss_nx st5 (ss_nx st6 (ss_nx (s_forS (evIt_rng1 ev_intS (by decide)) rfl l3) (ss_rt (s_retS ev_blS rfl)))))))))
    show (exSs CX b_22 [.fz (.ref p), .no, .no, .no, .no, .no, .no, .no, .no, .no] S).bind finF = _
    rw [run]; rfl
  · have q1 : Ex2 p S S7 := (((o3.trans d4.ex).trans g5).trans m4.ex).trans k5
    exact ((q1.trans (Ex2.ofExt x3)).trans (Ex2.ofExt x810)).trans w2
theorem law_ok (ns : List Int) : ∃ S, callT T.prog 0 10 23 [.scr (ns.map .int)] [] = .ok (.bl true) S := by
  rw [callT_eq row23, runFn_eq rfl]
  show ∃ S', (exSs (ctxT T.prog 0 9) b_23 [.fz (.scr (ns.map .int)), .no, .no, .no] []).bind finF = _
  have hit : ∃ n : Nat, n ≤ 8 ∧ evIt (ctxT T.prog 0 9) (.rng1 (.bi .max (.cons false (.int 1) (.cons false (.bi .min (.cons false (.int 8) (.cons false (.bi .len (.cons false (.var 0) .nil)) .nil))) .nil)))) [.fz (.scr (ns.map .int)), .no, .no, .no] [] = .ok ⟨upTo 0 n, [], false⟩ [] := by
    have h := ev_maxI (C := ctxT T.prog 0 9) (env := [.fz (.scr (ns.map .int)), .no, .no, .no]) (S := []) (ev_intS (i := 1)) (ev_minI (ev_intS (i := 8)) (ev_lenScr (a := .var 0) (ev_var rfl)))
    refine ⟨_, ?_, evIt_rng1 h ?_⟩
    · split <;> split <;> omega
    · unfold rngOk; split <;> split <;> omega
  obtain ⟨n, hn, hit⟩ := hit
  obtain ⟨e2, S2, l1, s1, s2, s3, rfl⟩ := for_cnt (C := ctxT T.prog 0 9) (b := (.cons (.asg 2 (.ref (.call 4 (.cons false (.var 0) (.cons false (.var 1) .nil))))) (.cons (.for_ [3] (.rng1 (.int 3)) (.cons (.ite (.not (.call 22 (.cons false (.var 2) .nil))) (.cons (.ret (.bl false)) .nil) .nil) .nil)) .nil))) (tg := [1]) (live := []) (fun k env S => ∃ s1 s2 s3 : K9.Slot, env = [.fz (.scr (ns.map .int)), s1, s2, s3]) 8 (fun _ _ _ _ => LiveOk.nil) (upTo 0 n) 0 [.fz (.scr (ns.map .int)), .no, .no, .no] [] ⟨.no, .no, .no, rfl⟩ (by rw [upTo_len]; omega)
    (fun x hx k env S hk ⟨s1, s2, s3, e⟩ => by
      subst e
      obtain ⟨i, _, rfl⟩ := upTo_int hx
      rw [Int.zero_add]
      obtain ⟨a, b, h1, h2, h3, h4⟩ := purse_ok (P := T.prog) (wf := 0) (n := 8) (ns := ns) (p := i) (S := S) f4
      have hp0 : Pu (S ++ [.lst [.int a, .int b, .int 0]]) S.length 0 := ⟨a, b, 0, by simp, h1, h2, h3, by decide, by decide⟩
      have st : exS (ctxT T.prog 0 9) (.asg 2 (.ref (.call 4 (.cons false (.var 0) (.cons false (.var 1) .nil))))) [.fz (.scr (ns.map .int)), .fz (.int i), s2, s3] S = .ok (.nx [.fz (.scr (ns.map .int)), .fz (.int i), .fz (.ref S.length), s3]) (S ++ [.lst [.int a, .int b, .int 0]]) :=
        s_asgS (x := .ref S.length) (ev_refS (x := .lst [.int a, .int b, .int 0]) (ev_callS (evs_consI (ev_var rfl) rfl rfl (evs_consI (ev_var rfl) rfl rfl evs_nilS)) h4) rfl) rfl
      obtain ⟨e3, S3, l2, s3', rfl, _⟩ := for_cnt (C := ctxT T.prog 0 9) (b := (.cons (.ite (.not (.call 22 (.cons false (.var 2) .nil))) (.cons (.ret (.bl false)) .nil) .nil) .nil)) (tg := [3]) (live := []) (fun k env S' => ∃ s3 : K9.Slot, env = [.fz (.scr (ns.map .int)), .fz (.int i), .fz (.ref S.length), s3] ∧ Pu S' S.length (1200 * k)) 3 (fun _ _ _ _ => LiveOk.nil) (upTo 0 (3 : Int).toNat) 0 [.fz (.scr (ns.map .int)), .fz (.int i), .fz (.ref S.length), s3] (S ++ [.lst [.int a, .int b, .int 0]]) ⟨s3, rfl, hp0⟩ (by rw [upTo_len]; decide)
        (fun y hy k env S' hk ⟨s3, e, hp⟩ => by
          subst e
          obtain ⟨j, _, rfl⟩ := upTo_int hy
          obtain ⟨S'', q1, q2, q3⟩ := right_ok hp (by omega)
          refine ⟨[.fz (.scr (ns.map .int)), .fz (.int i), .fz (.ref S.length), .fz (.int (0 + j))], [.fz (.scr (ns.map .int)), .fz (.int i), .fz (.ref S.length), .fz (.int (0 + j))], S'', rfl, ss_nx (S1 := S'') (s_iteF (ev_notS (b := true) (ev_callS (evs_consI (ev_var rfl) rfl rfl evs_nilS) q1)) ss_nil') ss_nil', _, rfl, q2.mono (by omega)⟩)
      exact ⟨[.fz (.scr (ns.map .int)), .fz (.int i), s2, s3], _, S3, rfl, ss_nx st (ss_nx (s_forS (evIt_rng1 ev_intS (by decide)) rfl l2) ss_nil'), _, _, _, rfl⟩)
  refine ⟨S2, ?_⟩
  have run : exSs (ctxT T.prog 0 9) b_23 [.fz (.scr (ns.map .int)), .no, .no, .no] [] = .ok (.rt (.bl true)) S2 := ss_nx (s_forS hit rfl l1) (ss_rt (s_retS ev_blS rfl))
  rw [run]; rfl
end Lk03
end
section
set_option Elab.async false
set_option linter.all false
set_option maxRecDepth 1000000
set_option maxHeartbeats 0
namespace Lk03
open PySem PySem.Spec PyProof.Rows K9
theorem tok : T.Ok where
  rows := List.forall_mem_cons.mpr ⟨ok_0, List.forall_mem_cons.mpr ⟨ok_1, List.forall_mem_cons.mpr ⟨ok_2, List.forall_mem_cons.mpr ⟨ok_3, List.forall_mem_cons.mpr ⟨ok_4, List.forall_mem_cons.mpr ⟨ok_5, List.forall_mem_cons.mpr ⟨ok_6, List.forall_mem_cons.mpr ⟨ok_7, List.forall_mem_cons.mpr ⟨ok_8, List.forall_mem_cons.mpr ⟨ok_9, List.forall_mem_cons.mpr ⟨ok_10, List.forall_mem_cons.mpr ⟨ok_11, List.forall_mem_cons.mpr ⟨ok_12, List.forall_mem_cons.mpr ⟨ok_13, List.forall_mem_cons.mpr ⟨ok_14, List.forall_mem_cons.mpr ⟨ok_15, List.forall_mem_cons.mpr ⟨ok_16, List.forall_mem_cons.mpr ⟨ok_17, List.forall_mem_cons.mpr ⟨ok_18, List.forall_mem_cons.mpr ⟨ok_19, List.forall_mem_cons.mpr ⟨ok_20, List.forall_mem_cons.mpr ⟨ok_21, List.forall_mem_cons.mpr ⟨ok_22, List.forall_mem_cons.mpr ⟨ok_23, List.forall_mem_cons.mpr ⟨ok_24, List.forall_mem_cons.mpr ⟨ok_25, List.forall_mem_cons.mpr ⟨ok_26, fun _ h => by cases h⟩⟩⟩⟩⟩⟩⟩⟩⟩⟩⟩⟩⟩⟩⟩⟩⟩⟩⟩⟩⟩⟩⟩⟩⟩⟩⟩
  isc := ⟨rfl, rfl, rfl, by decide +kernel, rfl, by decide +kernel, by decide +kernel⟩
  il := by kernel_rfl
  il2 := by kernel_rfl
  ib := ⟨_, _, _, _, rfl⟩
  ck := by
    intro c n ks perm h
    have h : (c, n, ks, perm) ∈ [(12, 0, (["rules", "tables"] : List Str), [1, 0])] := h
    have h := List.mem_singleton.mp h
    cases h
    refine ⟨_, r_24, rfl, rfl, fun kV doc pm an cdv ct self us ws hu hw => ?_⟩
    match us, ws, hu, hw with
    | [], [a, b], _, _ => exact ⟨[b, a], rfl, by kernel_rfl⟩
  fk := fun _ _ _ _ h => by cases h
  ibd := fun _ _ _ _ _ _ _ _ => by kernel_rfl
  ibk := fun _ _ _ _ _ _ _ _ => by kernel_rfl
end Lk03
open PySem PySem.W PySem.Calls PyProof.Rows
theorem PySem.Challenge.cw_keysthrough_k03_books_that_are_none_holds : PySem.Challenge.rw_keysthrough_k03_books_that_are_none.Holds := by
  w_on; o_law
  refine HandSHeadRun.head_any (r := Lk03.Rr) (q := view Lk03.Rr.prog [43]) (H := K9.hookK 5 Lk03.T) (ob := K9.obT 5 Lk03.T) (M := 6000) (loose := Lk03.loose) (d := HandSHeadRun.topDef Lk03.Rr.prog 43) (kwd := []) K9.obT_eq
    (by kernel_rfl) (fun s => by kernel_rfl) Lk03.run (by kernel_rfl) (by kernel_rfl) (by kernel_rfl) (by rfl) (by first | assumption | decide +kernel) (by decide +kernel) ⟨rfl, rfl, rfl, rfl, rfl, by decide +kernel⟩ ?hw ?hc
  case hw => w_witness2
  case hc => exact K9.walkT (n := 10) (f := 23) (r := Lk03.r_23) (wf := 0) Lk03.tok rfl rfl (by kernel_rfl) rfl rfl rfl ⟨rfl, by decide, by decide⟩ fun ns _ _ => Lk03.law_ok ns
end
