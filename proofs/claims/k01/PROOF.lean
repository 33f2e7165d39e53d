import PyProof.Rows.All
import HandS.ForMost
import HandS.ForExc
import HandS.Wide
import PyProof.EqLayable
import PyProof.ReprReads
import HandS.EndBits
import HandS.CallSlots
import HandS.Deep
import HandS.Style
import HandS.TupAny
import PyProof.ReprRoads
import PyProof.CallFns
import HandS.Star
import HandS.Property
import HandS.FStr
import HandS.IsInst
import HandS.Defaults
import HandS.ExcInit
import KE.KExcIs
import HandS.Exc
import HandS.ExcField
import HandS.Text
import HandS.Dict
import HandS.Comp
import HandS.Iter
import HandS.Zip
import HandS.Small
import HandS.Codes
import HandS.HeadHook2
import HandS.Head2
import HandS.HeadEnd
import PyProof.ReprLoop
import PyProof.FitsInt
import PyProof.StrLawsRepr
import PySem.Challenge.RW_keysthrough_k01_errors
section
set_option Elab.async false
set_option linter.all false
/-! K9Core: values as trees (D), a store of mutable objects (Sto), an own small syntax (Ex, Sm) for the dialect of the program and the laws, and its evaluator. -/
namespace K9
open PySem
abbrev Key := L2.Key

/-- a value: a scalar, a tuple, a list that is never changed any more, a dict, an instance likewise, an error, a mutable object of the store, an own accumulator of the frame; own: a list, dict, instance just made, which nothing holds as yet; scr: the law's script, a list that is only read -/
inductive D where
  | non | bl (b : Bool) | int (i : Int) | str (s : Str)
  | tup (xs : List D)
  | lst (xs : List D)
  | dct (ks : List Key) (vs : List D)
  | ins (c : Nat) (fs : List Str) (vs : List D)
  | exc (c : Nat) (d : D)
  | ref (n : Nat)
  | acc (i : Nat)
  | own (d : D)
  | scr (xs : List D)
  deriving Inhabited

/-- a mutable object -/
inductive Ob where
  | lst (xs : List D)
  | dct (ks : List Key) (vs : List D)
  | ins (c : Nat) (fs : List Str) (vs : List D)
  deriving Inhabited

abbrev Sto := List Ob

/-- what a name holds -/
inductive Slot where
  | no
  | fz (d : D)
  | al (o : Ob)
  deriving Inhabited

abbrev Env := List Slot

/-- an outcome -/
inductive R (α : Type) where
  | ok (a : α) (S : Sto)
  | er (c : Nat) (d : D) (S : Sto)
  | bad

def R.bind {α β : Type} (r : R α) (k : α → Sto → R β) : R β := match r with
  | .ok a S => k a S
  | .er c d S => .er c d S
  | .bad => .bad
/-- what is just made is held from now on -/
def rd : D → D
  | .own d => d
  | d => d
def R.bindR {β : Type} (r : R D) (k : D → Sto → R β) : R β := match r with
  | .ok a S => k (rd a) S
  | .er c d S => .er c d S
  | .bad => .bad
/-- only if -/
def chk {α : Type} (p : Prop) [Decidable p] (r : R α) : R α := if p then r else .bad
/-- by a truth -/
def ifD {α : Type} (d : D) (f g : R α) : R α := match d with
  | .bl true => f
  | .bl false => g
  | _ => .bad
def oget {α β : Type} (o : Option α) (k : α → R β) : R β := match o with
  | some a => k a
  | none => .bad

/-! ### syntax -/
inductive Bop where | add | sub | mul | fdiv | mod | pow
  deriving DecidableEq
inductive Cop where | eq | ne | lt | le | gt | ge | is | isn | isin | nin
  deriving DecidableEq
/-- built-in functions and types that are called -/
inductive Bi where | abs | all | any | dict | int | len | list | max | min | repr | sorted | str | sum | tuple
  deriving DecidableEq
/-- methods of built-in types -/
inductive Mt where | append | clear | count | extend | get | index | insert | items | join | partition | pop | replace | reverse | split | update | upper | values
  deriving DecidableEq
/-- classes that isinstance asks for -/
inductive Ty where | list | tuple | int | str | bool | dict | valueError | cls (c : Nat)
  deriving DecidableEq

mutual
inductive Ex where
  | non | bl (b : Bool) | int (i : Int) | str (s : Str)
  | var (i : Nat)
  | bin (op : Bop) (a b : Ex)
  | neg (a : Ex)
  | cmp (op : Cop) (a b : Ex)
  | cmp2 (o1 o2 : Cop) (a b c : Ex)
  | and (a b : Ex) | or (a b : Ex) | not (a : Ex)
  | ite (c a b : Ex)
  | tup (es : Exs)
  | lst (es : Exs)
  | dict0
  | call (f : Nat) (es : Exs)
  | callk (f : Nat) (es : Exs) (ks : Exs) (perm : List Nat)
  | make (c : Nat) (es : Exs)
  | makek (c : Nat) (es : Exs) (ks : Exs) (perm : List Nat)
  | bi (b : Bi) (es : Exs)
  | isi (a : Ex) (ts : List Ty)
  | mt (x : Mt) (o : Ex) (es : Exs)
  | meth (x : Str) (o : Ex) (es : Exs)
  | fld (o : Ex) (f : Str)
  | ix (a i : Ex)
  | sl (a lo hi : Ex)
  | rev (a : Ex)
  | ref (e : Ex)
  | lc (own : List Nat) (tg : List Nat) (it : It) (c : Ex) (elt : Ex)
  | gget (t : Nat) (k : Ex)
  | fstr (ps : Exs)
inductive Exs where
  | nil
  | cons (star : Bool) (e : Ex) (es : Exs)
/-- what is walked -/
inductive It where
  | seq (e : Ex) | rng1 (n : Ex) | rng2 (a b : Ex) | enum (e : Ex) | zip (a b : Ex)
end

mutual
inductive Sm where
  | asg (i : Nat) (e : Ex)
  | acc (i : Nat) (e : Ex)
  | frz (i : Nat)
  | unp (is : List Nat) (e : Ex)
  | par (is : List Nat) (es : Exs)
  | setix (o i e : Ex)
  | setfld (o : Ex) (f : Str) (e : Ex)
  | mut (x : Mt) (o : Ex) (es : Exs)
  | expr (e : Ex)
  | ret (e : Ex)
  | ite (c : Ex) (a b : Sms)
  | for_ (tg : List Nat) (it : It) (b : Sms)
  | whl (c : Ex) (b : Sms)
  | raise (c : Nat) (e : Ex)
  | cont | pass
inductive Sms where
  | nil
  | cons (s : Sm) (ss : Sms)
end

/-- walks that give new pairs -/
def needTup : It → Bool
  | .enum _ => true
  | .zip _ _ => true
  | _ => false
/-! ### reading values -/
def D.isAcc : D → Bool
  | .acc _ => true
  | _ => false
/-- the content of a list, dict, instance -/
def cont (env : Env) (S : Sto) : D → Option Ob
  | .lst xs => some (.lst xs)
  | .dct ks vs => some (.dct ks vs)
  | .ins c fs vs => some (.ins c fs vs)
  | .ref n => S[n]?
  | .acc i => match env[i]? with
    | some (.al o) => some o
    | _ => none
  | _ => none
def lstOf (env : Env) (S : Sto) (d : D) : Option (List D) := match cont env S d with
  | some (.lst xs) => some xs
  | _ => none
/-- a list's or a tuple's items -/
def seqOf (env : Env) (S : Sto) (d : D) : Option (List D) := match d with
  | .tup xs => some xs
  | d => lstOf env S d
def keyOf : D → Option Key
  | .int i => some (Sum.inl i)
  | .str s => some (Sum.inr s)
  | _ => none
def keyD : Key → D
  | .inl i => .int i
  | .inr s => .str s
/-- the value at a key -/
def lookD : List Key → List D → Key → Option D
  | k :: ks, v :: vs, x => if x = k then some v else lookD ks vs x
  | _, _, _ => none
/-- whether a key is there -/
def hasKey (ks : List Key) (k : Key) : Bool := ks.any fun j => decide (j = k)
/-- the values with that of a key exchanged -/
def swapD (x : Key) (y : D) : List Key → List D → List D
  | k :: ks, v :: vs => (if k = x then y else v) :: swapD x y ks vs
  | _, _ => []
/-- a key's value stored: in its place, or behind -/
def putD (ks : List Key) (vs : List D) (x : Key) (y : D) : List Key × List D := if hasKey ks x = true then (ks, swapD x y ks vs) else (ks ++ [x], vs ++ [y])
def lookF : List Str → List D → Str → Option D
  | k :: ks, v :: vs, x => if x = k then some v else lookF ks vs x
  | _, _, _ => none
def putFd : List Str → List D → Str → D → List Str × List D
  | k :: ks, v :: vs, x, y => if x = k then (k :: ks, y :: vs) else ((k :: (putFd ks vs x y).1), (v :: (putFd ks vs x y).2))
  | _, _, x, y => ([x], [y])

/-- as the library's data, to a depth -/
def py (S : Sto) : Nat → D → Option PyData
  | 0, _ => none
  | n + 1, d => match d with
    | .non => some .none
    | .bl b => some (.bool b)
    | .int i => some (.int i)
    | .str s => some (.str s)
    | .tup xs => (xs.mapM (py S n)).map .tuple
    | .lst xs => (xs.mapM (py S n)).map .list
    | .ref k => match S[k]? with
      | some (.lst xs) => (xs.mapM (py S n)).map .list
      | _ => none
    | _ => none
def pyRoot (env : Env) (S : Sto) (d : D) : Option PyData := match d with
  | .acc i => match cont env S (.acc i) with
    | some (.lst xs) => (xs.mapM (py S 60)).map .list
    | _ => none
  | d => py S 61 d

/-! ### making values -/
def line : Nat := sizeLine
/-- a new list -/
def mkL (xs : List D) (S : Sto) : R D := chk (xs.length ≤ sizeLine) (.ok (.own (.lst xs)) S)
/-- the content as an object -/
def obOf : D → Option Ob
  | .lst xs => some (.lst xs)
  | .dct ks vs => some (.dct ks vs)
  | .ins c fs vs => some (.ins c fs vs)
  | _ => none
/-- a list or a dict as an object -/
def accOb : D → Option Ob
  | .lst xs => some (.lst xs)
  | .dct ks vs => some (.dct ks vs)
  | _ => none
/-- .. and back -/
def Ob.d : Ob → D
  | .lst xs => .lst xs
  | .dct ks vs => .dct ks vs
  | .ins c fs vs => .ins c fs vs

/-! ### operators -/
def binI (op : Bop) (i j : Int) (S : Sto) : R D := match op with
  | .add => .ok (.int (i + j)) S
  | .sub => .ok (.int (i - j)) S
  | .mul => chk ((-(2 ^ 64) < i ∧ i < 2 ^ 64) ∨ (-(2 ^ 64) < j ∧ j < 2 ^ 64)) (.ok (.int (i * j)) S)
  | .fdiv => chk (0 < j ∧ j.natAbs < 2 ^ 1000) (.ok (.int (i / j)) S)
  | .mod => chk (0 < j) (.ok (.int (i % j)) S)
  | .pow => chk (0 ≤ j ∧ j ≤ 1000 ∧ i.natAbs < 2 ^ 1000) (.ok (.int (i ^ j.toNat)) S)
def binD (op : Bop) (a b : D) (env : Env) (S : Sto) : R D := match a, b with
  | .int i, .int j => binI op i j S
  | .str x, .str y => match op with
    | .add => chk (x.length + y.length ≤ sizeLine) (.ok (.str (x ++ y)) S)
    | _ => .bad
  | .tup xs, .tup ys => match op with
    | .add => chk (xs ≠ [] ∧ xs.length + ys.length ≤ sizeLine) (.ok (.tup (xs ++ ys)) S)
    | _ => .bad
  | a, b => match op with
    | .add => oget (lstOf env S a) fun xs => oget (lstOf env S b) fun ys => mkL (xs ++ ys) S
    | _ => .bad
/-- None, truths, ints, texts -/
def flatD : D → Bool
  | .non => true | .bl _ => true | .int _ => true | .str _ => true
  | _ => false
/-- == of such -/
def eqF : D → D → Bool
  | .non, .non => true
  | .bl a, .bl b => a == b
  | .bl a, .int b => (if a then 1 else 0) == b
  | .int a, .bl b => a == (if b then 1 else 0)
  | .int a, .int b => a == b
  | .str a, .str b => a == b
  | _, _ => false
def eqD (env : Env) (S : Sto) (a b : D) : Option Bool := if flatD a && flatD b then some (eqF a b) else match pyRoot env S a, pyRoot env S b with
  | some p, some q => if p.canLay0 && q.canLay0 then some (PyData.eqv p q) else none
  | _, _ => none
def inStr (x y : Str) : Bool := !(Builtin.Str.occurrences y x 0 y.length 1).isEmpty
def memP (p : PyData) (qs : List PyData) : Bool := qs.any fun q => PyData.eqv q p
def inD (env : Env) (S : Sto) (a b : D) : Option Bool := match b with
  | .str y => match a with
    | .str x => some (inStr x y)
    | _ => none
  | b => match seqOf env S b with
    | some xs => if flatD a && xs.all flatD then some (xs.any fun y => eqF y a) else match lstOf env S b with
      | some xs => match py S 60 a, xs.mapM (py S 60) with
        | some p, some qs => if p.canLay0 && PyData.canLayAll0 qs then some (memP p qs) else none
        | _, _ => none
      | none => none
    | none => match cont env S b, keyOf a with
      | some (.dct ks _), some k => some (hasKey ks k)
      | _, _ => none
def isNon : D → Option Bool
  | .non => some true
  | .acc _ => none
  | _ => some false
def cmpD (op : Cop) (a b : D) (env : Env) (S : Sto) : Option Bool := match op with
  | .eq => eqD env S a b
  | .ne => (eqD env S a b).map (!·)
  | .is => match b with
    | .non => isNon a
    | _ => none
  | .isn => match b with
    | .non => (isNon a).map (!·)
    | _ => none
  | .isin => inD env S a b
  | .nin => (inD env S a b).map (!·)
  | .lt => match a, b with | .int i, .int j => some (decide (i < j)) | _, _ => none
  | .le => match a, b with | .int i, .int j => some (decide (i ≤ j)) | _, _ => none
  | .gt => match a, b with | .int i, .int j => some (decide (j < i)) | _, _ => none
  | .ge => match a, b with | .int i, .int j => some (decide (j ≤ i)) | _, _ => none
def boolsD : List D → Option (List Bool)
  | [] => some []
  | .bl b :: r => (boolsD r).map (b :: ·)
  | _ => none
def intsD : List D → Option (List Int)
  | [] => some []
  | .int b :: r => (intsD r).map (b :: ·)
  | _ => none
def strsD : List D → Option (List Str)
  | [] => some []
  | .str b :: r => (strsD r).map (b :: ·)
  | _ => none
/-- a built-in that is called -/
def biD (f : Bi) (ds : List D) (env : Env) (S : Sto) : R D := match f, ds with
  | .abs, [.int i] => .ok (.int (if i < 0 then -i else i)) S
  | .all, [d] => oget (lstOf env S d) fun xs => oget (boolsD xs) fun bs => .ok (.bl (bs.all id)) S
  | .any, [d] => oget (lstOf env S d) fun xs => oget (boolsD xs) fun bs => .ok (.bl (bs.any id)) S
  | .int, [.int i] => .ok (.int i) S
  | .int, [.bl b] => .ok (.int (if b then 1 else 0)) S
  | .len, [.str s] => chk (s.length ≤ sizeLine) (.ok (.int s.length) S)
  | .len, [.scr xs] => .ok (.int xs.length) S
  | .len, [d] => match seqOf env S d with
    | some xs => .ok (.int xs.length) S
    | none => match cont env S d with
      | some (.dct ks _) => .ok (.int ks.length) S
      | _ => .bad
  | .list, [d] => oget (seqOf env S d) fun xs => mkL xs S
  | .tuple, [.tup xs] => .ok (.tup xs) S
  | .tuple, [d] => oget (lstOf env S d) fun xs => .ok (.tup xs) S
  | .max, [.int i, .int j] => .ok (.int (if j > i then j else i)) S
  | .min, [.int i, .int j] => .ok (.int (if j < i then j else i)) S
  | .sum, [d] => oget (lstOf env S d) fun xs => oget (intsD xs) fun ns => .ok (.int ns.sum) S
  | .str, [.int i] => chk (i.natAbs.log2 < 1920) (.ok (.str (Str.ofString (toString i))) S)
  | .repr, [d] => oget (pyRoot env S d) fun p => chk (p.showable = true ∧ p.shown.length ≤ sizeLine) (.ok (.str p.shown) S)
  | _, _ => .bad
/-- a value within an f-string -/
def ptext : D → Option Str
  | .str s => some s
  | .int i => if i.natAbs.log2 < 1920 then some (Str.ofString (toString i)) else none
  | _ => none
/-- what type() tells of a value -/
inductive TyD where
  | b (t : String)
  | own (c : Nat)
def tyD (sub : Nat → Ty → Option Bool) (env : Env) (S : Sto) (d : D) : Option TyD := match d with
  | .non => some (.b "NoneType")
  | .bl _ => some (.b "bool")
  | .int _ => some (.b "int")
  | .str _ => some (.b "str")
  | .tup _ => some (.b "tuple")
  | .exc c _ => if sub c .valueError = some true then some (.own c) else none
  | d => match cont env S d with
    | some (.lst _) => some (.b "list")
    | some (.dct _ _) => some (.b "dict")
    | some (.ins c _ _) => if sub c .valueError = some false then some (.own c) else none
    | none => none
/-- isinstance of a built-in type's value -/
def btSub (sub : Nat → Ty → Option Bool) (t : String) : Ty → Option Bool
  | .list => some (t == "list")
  | .tuple => some (t == "tuple")
  | .int => some (t == "int" || t == "bool")
  | .str => some (t == "str")
  | .bool => some (t == "bool")
  | .dict => some (t == "dict")
  | .valueError => some false
  | .cls c => (sub c .valueError).map fun _ => false
def tyIs (sub : Nat → Ty → Option Bool) : TyD → Ty → Option Bool
  | .b t, x => btSub sub t x
  | .own c, x => sub c x
def tyAny (sub : Nat → Ty → Option Bool) (t : TyD) : List Ty → Option Bool
  | [] => some false
  | x :: xs => match tyIs sub t x with
    | some true => some true
    | some false => tyAny sub t xs
    | none => none
/-- an index from either end -/
def atD (xs : List D) (i : Int) : Option D := L2.atI xs i
def ixD (a i : D) (env : Env) (S : Sto) : R D := match a, i with
  | .scr xs, .int k => oget (L2.atI xs k) fun d => .ok d S
  | .str s, .int k => chk (s.length ≤ sizeLine) (oget (L2.atI s.cps.toList k) fun c => .ok (.str ⟨#[c]⟩) S)
  | a, i => match seqOf env S a, i with
    | some xs, .int k => oget (L2.atI xs k) fun d => .ok d S
    | some _, _ => .bad
    | none, i => match cont env S a, keyOf i with
      | some (.dct ks vs), some k => oget (lookD ks vs k) fun d => .ok d S
      | _, _ => .bad
/-- a part of a slice: left out, or an int -/
def partR (e : Ex) (r : R D) : R (Option Int) := match e with
  | .non => r.bindR fun _ S => .ok none S
  | _ => r.bindR fun d S => match d with
    | .int i => .ok (some i) S
    | _ => .bad
def cutL {α : Type} (xs : List α) (lo hi : Option Int) : List α := (xs.drop (HT.sIx xs.length 0 lo)).take (HT.sIx xs.length xs.length hi - HT.sIx xs.length 0 lo)
def slD (a : D) (l h : Option Int) (env : Env) (S : Sto) : R D := match a with
  | .str s => chk (s.length ≤ sizeLine) (.ok (.str ⟨(cutL s.cps.toList l h).toArray⟩) S)
  | .tup xs => .ok (.tup (cutL xs l h)) S
  | a => oget (lstOf env S a) fun xs => mkL (cutL xs l h) S
def revD (a : D) (env : Env) (S : Sto) : R D := oget (lstOf env S a) fun xs => mkL xs.reverse S
/-- a method of a built-in type that changes nothing -/
def mtD (x : Mt) (o : D) (ds : List D) (env : Env) (S : Sto) : R D := match x, o, ds with
  | .join, .str s, [d] => oget (lstOf env S d) fun xs => oget (strsD xs) fun ts => chk ((ts.map Str.length).sum + s.length * ts.length ≤ sizeLine) (.ok (.str (Str.join s ts)) S)
  | .get, d, [k] => match cont env S d, keyOf k with
    | some (.dct ks vs), some k => .ok ((lookD ks vs k).getD .non) S
    | _, _ => .bad
  | .get, d, [k, e] => match cont env S d, keyOf k with
    | some (.dct ks vs), some k => .ok ((lookD ks vs k).getD e) S
    | _, _ => .bad
  | _, _, _ => .bad
/-- whether the value is of the type whose method it is -/
def mtTy (x : Mt) (env : Env) (S : Sto) (d : D) : Bool := match x with
  | .join => match d with | .str _ => true | _ => false
  | .partition => match d with | .str _ => true | _ => false
  | .replace => match d with | .str _ => true | _ => false
  | .split => match d with | .str _ => true | _ => false
  | .upper => match d with | .str _ => true | _ => false
  | .get => match cont env S d with | some (.dct _ _) => true | _ => false
  | .items => match cont env S d with | some (.dct _ _) => true | _ => false
  | .update => match cont env S d with | some (.dct _ _) => true | _ => false
  | .values => match cont env S d with | some (.dct _ _) => true | _ => false
  | _ => match cont env S d with | some (.lst _) => true | _ => false
/-- a method that changes its object: the object behind it -/
def mutD (x : Mt) (o : Ob) (ds : List D) (env : Env) (S : Sto) : Option Ob := match x, o, ds with
  | .append, .lst xs, [d] => if xs.length < sizeLine then some (.lst (xs ++ [d])) else none
  | .reverse, .lst xs, [] => some (.lst xs.reverse)
  | .clear, .lst xs, [] => some (.lst [])
  | .extend, .lst xs, [d] => match lstOf env S d with
    | some ys => if xs.length + ys.length ≤ sizeLine then some (.lst (xs ++ ys)) else none
    | none => none
  | _, _, _ => none

/-! ### the evaluator -/
structure Ctx where
  call : Nat → List D → Sto → R D
  make : Nat → List D → Sto → R D
  meth : Nat → Str → Option Nat
  attr : Nat → Str → Option (Option Nat)
  sub : Nat → Ty → Option Bool
  gd : Nat → Option (List Key × List D)
  wf : Nat

def noAcc (d : D) (r : R D) : R D := if d.isAcc then .bad else r
def setAll : Env → List Nat → List D → Env
  | env, i :: is, d :: ds => setAll (env.set i (.fz d)) is ds
  | env, _, _ => env
/-- several targets for a tuple -/
def tupT (is : List Nat) (x : D) (env : Env) : Option Env := match x with
  | .tup xs => if xs.length = is.length then some (setAll env is xs) else none
  | _ => none
/-- a target: one name, or several for a tuple -/
def asgT (tg : List Nat) (x : D) (env : Env) : Option Env := match tg with
  | [i] => if x.isAcc then none else some (env.set i (.fz x))
  | is => tupT is x env
def wipeE : Env → List Nat → Env
  | env, [] => env
  | env, v :: vs => (wipeE env vs).set v .no
/-- the store's lists that are walked still hold these items -/
def Live (S : Sto) (l : List (Nat × List D)) : Prop := ∀ p ∈ l, S[p.1]? = some (.lst p.2)
open Classical in
noncomputable def chkLive {α : Type} (S : Sto) (l : List (Nat × List D)) (r : R α) : R α := match l with
  | [] => r
  | l => if Live S l then r else .bad
/-- what is walked: its items, the store's lists that must stay, whether it is the frame's own -/
structure Wk where
  xs : List D
  live : List (Nat × List D)
  acc : Bool
def liveOf (d : D) (xs : List D) : List (Nat × List D) := match d with
  | .ref n => [(n, xs)]
  | _ => []
/-- a comprehension's turns -/
noncomputable def lcGo (c elt : Env → Sto → R D) (tg : List Nat) (env : Env) (live : List (Nat × List D)) : List D → List D → Sto → R (List D)
  | [], ys, S => chkLive S live (.ok ys S)
  | x :: xs, ys, S => chkLive S live (oget (asgT tg x env) fun e => (c e S).bindR fun b S1 => ifD b
      ((elt e S1).bindR fun y S2 => if y.isAcc then .bad else chk (ys.length < sizeLine) (lcGo c elt tg env live xs (ys ++ [y]) S2))
      (lcGo c elt tg env live xs ys S1))
/-- the numbers of a range -/
def upTo (a : Int) (n : Nat) : List D := (List.range n).map fun (k : Nat) => D.int (a + (k : Int))
def rngOk (a : Int) : Prop := -(2 ^ 62) ≤ a ∧ a < 2 ^ 62
instance (a : Int) : Decidable (rngOk a) := by unfold rngOk; infer_instance
/-- an error leaves no comprehension -/
def noEr {α : Type} : R α → R α
  | .er _ _ _ => .bad
  | r => r
/-- an attribute of a value -/
def fldD (C : Ctx) (f : Str) (env : Env) (d : D) (S1 : Sto) : R D := match d with
  | .exc c v => chk (f = "value" ∧ C.sub c .valueError = some true) (.ok v S1)
  | d => match cont env S1 d with
    | some (.ins c fs vs) => match C.attr c f with
      | some (some g) => if d.isAcc then .bad else noEr (C.call g [d] S1)
      | some none => oget (lookF fs vs f) fun v => .ok v S1
      | none => .bad
    | _ => .bad
/-- a method of a value that is called -/
def methD (C : Ctx) (x : Str) (as : Sto → R (List D)) (env : Env) (d : D) (S1 : Sto) : R D := if d.isAcc then .bad else match cont env S1 d with
  | some (.ins c fs vs) => chk ((lookF fs vs x).isNone = true) (oget (C.meth c x) fun f => (as S1).bind fun xs S2 => C.call f (d :: xs) S2)
  | _ => .bad
def permute (xs : List D) (perm : List Nat) : Option (List D) := perm.mapM fun i => xs[i]?

mutual
noncomputable def ev (C : Ctx) : Ex → Env → Sto → R D
  | .non, _, S => .ok .non S
  | .bl b, _, S => .ok (.bl b) S
  | .int i, _, S => .ok (.int i) S
  | .str s, _, S => .ok (.str s) S
  | .var i, env, S => match env[i]? with
    | some (.fz d) => .ok d S
    | some (.al _) => .ok (.acc i) S
    | _ => .bad
  | .bin op a b, env, S => (ev C a env S).bindR fun x S1 => (ev C b env S1).bindR fun y S2 => binD op x y env S2
  | .neg a, env, S => (ev C a env S).bindR fun x S1 => match x with
    | .int i => .ok (.int (-i)) S1
    | _ => .bad
  | .cmp op a b, env, S => (ev C a env S).bindR fun x S1 => (ev C b env S1).bindR fun y S2 => oget (cmpD op x y env S2) fun c => .ok (.bl c) S2
  | .cmp2 o1 o2 a b c, env, S => (ev C a env S).bindR fun x S1 => (ev C b env S1).bindR fun y S2 => oget (cmpD o1 x y env S2) fun k =>
      if k then (ev C c env S2).bindR fun z S3 => oget (cmpD o2 y z env S3) fun k2 => .ok (.bl k2) S3 else .ok (.bl false) S2
  | .and a b, env, S => (ev C a env S).bindR fun x S1 => ifD x (ev C b env S1) (.ok (.bl false) S1)
  | .or a b, env, S => (ev C a env S).bindR fun x S1 => ifD x (.ok (.bl true) S1) (ev C b env S1)
  | .not a, env, S => (ev C a env S).bindR fun x S1 => match x with
    | .bl b => .ok (.bl (!b)) S1
    | _ => .bad
  | .ite c a b, env, S => (ev C c env S).bindR fun x S1 => ifD x (ev C a env S1) (ev C b env S1)
  | .tup es, env, S => (evs C es env S).bind fun xs S1 => chk (xs.length ≤ sizeLine) (.ok (.tup xs) S1)
  | .lst es, env, S => (evs C es env S).bind fun xs S1 => mkL xs S1
  | .dict0, _, S => .ok (.own (.dct [] [])) S
  | .call f es, env, S => (evs C es env S).bind fun xs S1 => C.call f xs S1
  | .callk f es ks perm, env, S => (evs C es env S).bind fun xs S1 => (evs C ks env S1).bind fun ys S2 => oget (permute (xs ++ ys) perm) fun zs => C.call f zs S2
  | .make c es, env, S => (evs C es env S).bind fun xs S1 => C.make c xs S1
  | .makek c es ks perm, env, S => (evs C es env S).bind fun xs S1 => (evs C ks env S1).bind fun ys S2 => oget (permute (xs ++ ys) perm) fun zs => C.make c zs S2
  | .bi f es, env, S => (evl C es env S).bind fun xs S1 => biD f xs env S1
  | .isi a ts, env, S => (ev C a env S).bindR fun x S1 => oget (tyD C.sub env S1 x) fun t => oget (tyAny C.sub t ts) fun b => .ok (.bl b) S1
  | .mt x o es, env, S => (ev C o env S).bindR fun d S1 => chk (mtTy x env S1 d = true) ((evl C es env S1).bind fun xs S2 => mtD x d xs env S2)
  | .meth x o es, env, S => (ev C o env S).bindR fun d S1 => methD C x (evs C es env) env d S1
  | .fld o f, env, S => (ev C o env S).bindR fun d S1 => fldD C f env d S1
  | .ix a i, env, S => (ev C a env S).bindR fun x S1 => (ev C i env S1).bindR fun y S2 => ixD x y env S2
  | .sl a lo hi, env, S => (ev C a env S).bindR fun x S1 => (partR lo (ev C lo env S1)).bind fun l S2 => (partR hi (ev C hi env S2)).bind fun h S3 => slD x l h env S3
  | .rev a, env, S => (ev C a env S).bindR fun x S1 => revD x env S1
  | .ref a, env, S => (ev C a env S).bind fun x S1 => match x with
    | .own d => oget (obOf d) fun o => .ok (.ref S1.length) (S1 ++ [o])
    | _ => .bad
  | .lc own tg it c elt, env, S => (evIt C it env S).bind fun p S1 => noEr ((lcGo (ev C c) (ev C elt) tg (wipeE env own) p.live p.xs [] S1).bind fun ys S2 => mkL ys S2)
  | .gget t k, env, S => (ev C k env S).bindR fun x S1 => match C.gd t, keyOf x with
    | some (ks, vs), some k => .ok ((lookD ks vs k).getD .non) S1
    | _, _ => .bad
  | .fstr ps, env, S => (evF C ps env S).bind fun ts S1 => chk ((ts.map Str.length).sum ≤ sizeLine) (.ok (.str (Str.join Str.empty ts)) S1)
/-- items that are kept: none an own accumulator -/
noncomputable def evs (C : Ctx) : Exs → Env → Sto → R (List D)
  | .nil, _, S => .ok [] S
  | .cons star e es, env, S => (ev C e env S).bindR fun x S1 =>
    if star then oget (seqOf env S1 x) fun xs => (evs C es env S1).bind fun ys S2 => .ok (xs ++ ys) S2
    else if x.isAcc then .bad else (evs C es env S1).bind fun ys S2 => .ok (x :: ys) S2
/-- the parts of an f-string -/
noncomputable def evF (C : Ctx) : Exs → Env → Sto → R (List Str)
  | .nil, _, S => .ok [] S
  | .cons _ e es, env, S => (ev C e env S).bindR fun x S1 => oget (ptext x) fun t => (evF C es env S1).bind fun ts S2 => .ok (t :: ts) S2
/-- arguments that are only read -/
noncomputable def evl (C : Ctx) : Exs → Env → Sto → R (List D)
  | .nil, _, S => .ok [] S
  | .cons star e es, env, S => (ev C e env S).bindR fun x S1 => if star then .bad else (evl C es env S1).bind fun ys S2 => .ok (x :: ys) S2
noncomputable def evIt (C : Ctx) : It → Env → Sto → R Wk
  | .seq e, env, S => (ev C e env S).bindR fun x S1 => match x with
    | .str s => chk (s.length ≤ sizeLine) (.ok ⟨s.cps.toList.map fun c => D.str ⟨#[c]⟩, [], false⟩ S1)
    | x => oget (seqOf env S1 x) fun xs => .ok ⟨xs, liveOf x xs, x.isAcc⟩ S1
  | .rng1 n, env, S => (ev C n env S).bindR fun x S1 => match x with
    | .int n => chk (rngOk n) (.ok ⟨upTo 0 n.toNat, [], false⟩ S1)
    | _ => .bad
  | .rng2 a b, env, S => (ev C a env S).bindR fun x S1 => (ev C b env S1).bindR fun y S2 => match x, y with
    | .int a, .int b => chk (rngOk a ∧ rngOk b) (.ok ⟨upTo a (b - a).toNat, [], false⟩ S2)
    | _, _ => .bad
  | .enum e, env, S => (ev C e env S).bindR fun x S1 => oget (lstOf env S1 x) fun xs => .ok ⟨(xs.zipIdx).map fun p => D.tup [.int (p.2 : Int), p.1], liveOf x xs, x.isAcc⟩ S1
  | .zip a b, env, S => (ev C a env S).bindR fun x S1 => (ev C b env S1).bindR fun y S2 => match x, y with
    | .tup xs, .tup ys => .ok ⟨(xs.zip ys).map fun p => D.tup [p.1, p.2], [], false⟩ S2
    | x, y => oget (lstOf env S2 x) fun xs => oget (lstOf env S2 y) fun ys => .ok ⟨(xs.zip ys).map fun p => D.tup [p.1, p.2], liveOf x xs ++ liveOf y ys, x.isAcc || y.isAcc⟩ S2
end

/-- how a statement ends -/
inductive Fl where
  | nx (env : Env)
  | rt (d : D)
  | ct (env : Env)

/-- a value handed out of the frame: an own accumulator is kept as it is from now on -/
def outD (env : Env) (d : D) : Option D := match d with
  | .acc i => match env[i]? with
    | some (.al o) => some (.own o.d)
    | _ => none
  | d => some d
noncomputable def forGo (body : Env → Sto → R Fl) (tg : List Nat) (live : List (Nat × List D)) : List D → Env → Sto → R Fl
  | [], env, S => chkLive S live (.ok (.nx env) S)
  | x :: xs, env, S => chkLive S live (oget (asgT tg x env) fun e => (body e S).bind fun f S1 => match f with
    | .nx e1 => forGo body tg live xs e1 S1
    | .ct e1 => forGo body tg live xs e1 S1
    | .rt d => .ok (.rt d) S1)
def whGo (c : Env → Sto → R D) (body : Env → Sto → R Fl) : Nat → Env → Sto → R Fl
  | 0, _, _ => .bad
  | n + 1, env, S => (c env S).bindR fun b S1 => ifD b
      ((body env S1).bind fun f S2 => match f with
        | .nx e1 => whGo c body n e1 S2
        | .ct e1 => whGo c body n e1 S2
        | .rt d => .ok (.rt d) S2)
      (.ok (.nx env) S1)
/-- the object of a place is exchanged -/
def putOb (d : D) (o : Ob) (env : Env) (S : Sto) : Option (Env × Sto) := match d with
  | .acc i => match env[i]? with
    | some (.al _) => some (env.set i (.al o), S)
    | _ => none
  | .ref n => if n < S.length then some (env, S.set n o) else none
  | _ => none
/-- o[i] = v -/
def setD (o : Ob) (i v : D) : Option Ob := match o, i with
  | .lst xs, .int k => (L2.ixN xs.length k).map fun j => .lst (xs.set j v)
  | .dct ks vs, i => match keyOf i with
    | some k => if ks.length < sizeLine then some (.dct (putD ks vs k v).1 (putD ks vs k v).2) else none
    | none => none
  | _, _ => none

mutual
noncomputable def exS (C : Ctx) : Sm → Env → Sto → R Fl
  | .asg i e, env, S => (ev C e env S).bindR fun d S1 => if d.isAcc then .bad else .ok (.nx (env.set i (.fz d))) S1
  | .acc i e, env, S => (ev C e env S).bind fun d S1 => match d with
    | .own d => oget (accOb d) fun o => .ok (.nx (env.set i (.al o))) S1
    | _ => .bad
  | .frz i, env, S => match env[i]? with
    | some (.al o) => .ok (.nx (env.set i (.fz o.d))) S
    | _ => .bad
  | .unp is e, env, S => (ev C e env S).bindR fun d S1 => oget (asgT is d env) fun e1 => .ok (.nx e1) S1
  | .par is es, env, S => (evs C es env S).bind fun xs S1 => if xs.length = is.length then .ok (.nx (setAll env is xs)) S1 else .bad
  | .setix o i e, env, S => (ev C e env S).bindR fun v S1 => if v.isAcc then .bad else (ev C o env S1).bindR fun d S2 => (ev C i env S2).bindR fun k S3 =>
      oget (cont env S3 d) fun ob => oget (setD ob k v) fun ob' => oget (putOb d ob' env S3) fun p => .ok (.nx p.1) p.2
  | .setfld o f e, env, S => (ev C e env S).bindR fun v S1 => if v.isAcc then .bad else (ev C o env S1).bindR fun d S2 => match cont env S2 d with
    | some (.ins c fs vs) => chk (fs.length < 1000 ∧ C.attr c f = some none) (oget (putOb d (.ins c (putFd fs vs f v).1 (putFd fs vs f v).2) env S2) fun p => .ok (.nx p.1) p.2)
    | _ => .bad
  | .mut x o es, env, S => (ev C o env S).bindR fun d S1 => chk (mtTy x env S1 d = true) ((evl C es env S1).bind fun xs S2 => if xs.any D.isAcc then .bad else
      oget (cont env S2 d) fun ob => oget (mutD x ob xs env S2) fun ob' => oget (putOb d ob' env S2) fun p => .ok (.nx p.1) p.2)
  | .expr e, env, S => (ev C e env S).bindR fun _ S1 => .ok (.nx env) S1
  | .ret e, env, S => (ev C e env S).bind fun d S1 => oget (outD env d) fun d => .ok (.rt d) S1
  | .ite c a b, env, S => (ev C c env S).bindR fun x S1 => ifD x (exSs C a env S1) (exSs C b env S1)
  | .for_ tg it b, env, S => (evIt C it env S).bind fun p S1 => if p.acc then .bad else forGo (exSs C b) tg p.live p.xs env S1
  | .whl c b, env, S => whGo (ev C c) (exSs C b) C.wf env S
  | .raise c e, env, S => (ev C e env S).bindR fun d S1 => if d.isAcc then .bad else .er c d S1
  | .cont, env, S => .ok (.ct env) S
  | .pass, env, S => .ok (.nx env) S
noncomputable def exSs (C : Ctx) : Sms → Env → Sto → R Fl
  | .nil, env, S => .ok (.nx env) S
  | .cons s ss, env, S => (exS C s env S).bind fun f S1 => match f with
    | .nx e1 => exSs C ss e1 S1
    | .rt d => .ok (.rt d) S1
    | .ct e1 => .ok (.ct e1) S1
end

/-! ### the program -/
/-- a def -/
structure Fn where
  ps : Nat
  nms : Nat
  body : Sms
/-- a class: an error (its maker keeps its one argument as value), or its maker, its methods, its plain fields, its properties -/
structure Cl where
  err : Bool
  init : Nat
  ms : List (Str × Nat)
  fl : List Str
  pr : List (Str × Nat)
structure Prog where
  fn : Nat → Option Fn
  cl : Nat → Option Cl
  sub : Nat → Ty → Option Bool
  gd : Nat → Option (List Key × List D)

def startE (fn : Fn) (ds : List D) : Env := ds.map Slot.fz ++ List.replicate (fn.nms - ds.length) .no
/-- a def run under a context -/
noncomputable def runFn (C : Ctx) (fn : Fn) (ds : List D) (S : Sto) : R D := chk (ds.length = fn.ps) ((exSs C fn.body (startE fn ds) S).bind fun f S1 => match f with
  | .rt d => .ok d S1
  | .nx _ => .ok .non S1
  | .ct _ => .bad)
/-- a new instance: its maker runs over an empty one -/
noncomputable def runMk (C : Ctx) (fn : Fn) (c : Nat) (ds : List D) (S : Sto) : R D :=
  chk (ds.length + 1 = fn.ps) ((exSs C fn.body (Slot.al (.ins c [] []) :: (startE { fn with nms := fn.nms - 1 } ds)) S).bind fun f S1 => match f with
  | .nx (.al (.ins c' fs vs) :: _) => chk (c' = c) (.ok (.own (.ins c fs vs)) S1)
  | _ => .bad)
def Prog.meth (P : Prog) (c : Nat) (x : Str) : Option Nat := (P.cl c).bind fun l => l.ms.lookup x
def Prog.attr (P : Prog) (c : Nat) (f : Str) : Option (Option Nat) := (P.cl c).bind fun l => match l.pr.lookup f with
  | some g => some (some g)
  | none => if l.fl.contains f then some none else none
mutual
noncomputable def callT (P : Prog) (wf : Nat) : Nat → Nat → List D → Sto → R D
  | 0, _, _, _ => .bad
  | n + 1, f, ds, S => oget (P.fn f) fun fn => runFn { call := callT P wf n, make := makeT P wf n, meth := P.meth, attr := P.attr, sub := P.sub, gd := P.gd, wf := wf } fn ds S
noncomputable def makeT (P : Prog) (wf : Nat) : Nat → Nat → List D → Sto → R D
  | 0, c, ds, S => oget (P.cl c) fun l => if l.err then (match ds with | [d] => .ok (.exc c d) S | _ => .bad) else .bad
  | n + 1, c, ds, S => oget (P.cl c) fun l => if l.err then (match ds with | [d] => .ok (.exc c d) S | _ => .bad)
    else oget (P.fn l.init) fun fn => runMk { call := callT P wf n, make := makeT P wf n, meth := P.meth, attr := P.attr, sub := P.sub, gd := P.gd, wf := wf } fn c ds S
end
/-- the context at a depth -/
noncomputable def ctxT (P : Prog) (wf n : Nat) : Ctx := { call := callT P wf n, make := makeT P wf n, meth := P.meth, attr := P.attr, sub := P.sub, gd := P.gd, wf := wf }
end K9
end
section
set_option Elab.async false
set_option linter.all false
set_option maxRecDepth 100000
/-! K9G: the promise of a def over a state in which no repr is under way (FnG), its rule, its calls, the law's end. -/
namespace K9
open PySem PySem.Spec PyProof.Rows L2

/-- as FnOk, where moreover no repr runs -/
structure FnG (P : Program) (w : World) (K : PySem.W.Frag) (mg : Str → Option Value) (base : Heap) (k : Nat) (f : Addr) (fd : FuncData) (ps : List Str) (sp : Sp) : Prop where
  len : ∀ vs H Q E, sp vs H Q E → vs.length = ps.length
  run : ∀ (A : Around) (outer : List PySem.Env) (s : Shared) (H : Hp) (args : Args) (us : List Value) (vs : List V) (Q : VK) (E : XK),
    A.guards = some [] → Room k A → Env0 P w K mg base A outer s H → BindsTo s fd args (ps.zip us) → Vals vs us → sp vs H Q E →
    codeAny (model P w) A (.call (.ref f) args) (CR (L2.CX P w) outer P w H s Q E) s

section
variable {P : Program} {w : World} {K : PySem.W.Frag} {mg : Str → Option Value} {base : Heap}

theorem FnG.mono {j k : Nat} {f : Addr} {fd : FuncData} {ps : List Str} {sp : Sp} (F : FnG P w K mg base j f fd ps sp) (h : j ≤ k) : FnG P w K mg base k f fd ps sp :=
  ⟨F.len, fun A o s H a us vs Q E g hr => F.run A o s H a us vs Q E g (hr.mono h)⟩

/-- the rule for a def: its body under the context of its entry -/
theorem fnG_of {x qual : Str} {st : Stmt} {f : Addr} {fd : FuncData} {N ps : List Str} {k : Nat} {sp : Sp} (F : Fun K x qual st f fd) (S : FnScope N ps (defScope st))
    (len : ∀ vs H Q E, sp vs H Q E → vs.length = ps.length)
    (body : ∀ (cdv : Value) (A : Around) (outer : List PySem.Env) (s : Shared) (H : Hp) (vs : List V) (Q : VK) (E : XK),
      (A.deeper (envOfC qual (defScope st) s.heap.objs.size f cdv)).guards = some [] → Room k (A.deeper (envOfC qual (defScope st) s.heap.objs.size f cdv)) → sp vs H Q E →
      ∃ t, PSs (cxOf (L2.CX P w) P w K mg base N qual (defScope st) f cdv A outer s H E) (defBody st) t ∧ t { nx := fun _ H' => Q .non H', rt := Q } (start N vs) H) :
    FnG P w K mg base (k + 1) f fd ps sp := by
  obtain ⟨oc, od, kV, doc, pm, an, cdv, ct, osl, hfd, hlk, hcode⟩ := F.ex
  subst hfd
  refine ⟨len, ?_⟩
  intro A outer s H args us vs Q E hg hr e0 hb rv hsp
  have hlen := len vs H Q E hsp
  have hKs : K.In s.heap := e0.mod.kin.keeps (fun b o q => (e0.bs b o q).1)
  have hLs : s.heap.NoLimit := e0.mod.nolimit.keeps (fun b o q => (e0.bs b o q).1)
  have kinds : ∀ y ∈ ps.zip us, (defScope st).names.lookup y.1 = some .local ∨ ((defScope st).names.lookup y.1 = some .cell ∧ ((cellsFrom (s.heap.objs.size + 1) (defScope st).names []).lookup y.1).isSome = true) := by
    intro y hy
    have hy1 : y.1 ∈ ps := (List.of_mem_zip (a := y.1) (b := y.2) hy).1
    cases S.par y.1 hy1 with
    | inl q => exact Or.inl q
    | inr q => exact Or.inr ⟨q, PySem.W.cellsFrom_some _ _ _ (Or.inl q)⟩
  refine codeAny_call_function hr.depth (hKs _ _ hlk) rfl S.co S.gen rfl (PySem.W.codeRec_of hKs hcode) (hb _ _ _ _ ?_)
  refine wpAny_newFunctionEnv_cells S.kind kinds (fun env he s1 x => ?_)
  subst he
  refine ⟨hLs.keeps x.toInCall.keep, codeAny_func ?_⟩
  obtain ⟨t, ht, hq⟩ := body cdv A outer s H vs Q E hg (hr.deeper _) hsp
  have I := inv_start (CX := L2.CX P w) (P := P) (w := w) (K := K) (mg := mg) (base := base) (E := E) (cd := cdv) S hr.hd e0 hlen rv x
  have done : ∀ {σ' : L2.St} {H' : Hp} {s' : Shared} {v : V} {u : Value}, Inv (cxOf (L2.CX P w) P w K mg base N qual (defScope st) f cdv A outer s H E) [] σ' H' s' → RelV v u → Q v H' → CE outer P w H s Q u s' :=
    fun J r q => ⟨_, _, J.os, J.bare, J.base, J.hok, r, q⟩
  refine wpAny_mono (ht.run [] s1 (start N vs) H _ I hq) ?_ (fun _ _ z => z)
  intro fl s' hs
  cases fl with
  | next =>
    obtain ⟨σ', H', J, q⟩ := hs
    exact done (v := V.non) (u := Value.none) J rfl q
  | ret u =>
    obtain ⟨v, σ', H', J, r, q⟩ := hs
    exact done J r q
  | brk =>
    obtain ⟨_, _, _, q⟩ := hs
    exact (show False from q).elim
  | cont =>
    obtain ⟨_, _, _, q⟩ := hs
    exact (show False from q).elim
end

section
variable {X : Cx} {W : WX} {k : Nat} {f : Addr} {fd : FuncData} {ps : List Str} {sp : Sp} {E : XK}
/-- the callee runs, from a body -/
theorem runG {pins : List (Addr × Obj)} {σ : L2.St} {H : Hp} {s : Shared} {Q : VK} {us : List Value} {vs : List V} {args : Args} (F : FnG X.prog X.w X.K X.mg X.base k f fd ps sp) (hg : X.A.guards = some []) (hr : Room k X.A)
    (tk : Takes X W) (hE : ∀ cls d H', E cls d H' → W cls d σ H') (I : Inv X pins σ H s) (hb : BindsTo s fd args (ps.zip us)) (r : Vals vs us) (h : sp vs H Q E) :
    codeAny (model X.prog X.w) X.A (.call (.ref f) args) (fun r s' => match r with
      | .ok (.ret u) => EP X pins σ Q u s'
      | .ok _ => False
      | .error e => X.xe e s') s := by
  refine codeAny_mono (F.run X.A X.stack s H args us vs Q E hg hr I.env0 hb r h) (fun r s' hq => ?_)
  match r, hq with
  | .ok (.ret u), hq => exact I.after hq
  | .error e, hq => exact tk _ _ (XE.of_call I hE hq)
end

section
/-- the law's def is called at the head's end -/
theorem lawG {P : Program} {w : World} {K : PySem.W.Frag} {mg mb : Str → Option Value} {k : Nat} {fa a : Addr} {fd : FuncData} {x : Str} {sp : Sp} {s₁ : Shared} {vs : List Value} {ns : List Int}
    (hK : K.In s₁.heap) (hgl : s₁.heap.Ns mainGlobals mg) (hbl : s₁.heap.Ns builtinsNs mb) (hbb : ∀ x : Str, x ≠ "__name__" → mb x = bootBuiltins x) (hlim : s₁.heap.NoLimit) (hgen : s₁.gens = #[])
    (hat : s₁.heap.get? a = some { cls := .type "list", data := .seq vs.toArray }) (hints : IntsAre vs ns) (hlen : ns.length ≤ sizeLine) (hroom : Room k callerA)
    (F : ∀ base : Heap, K.In base → base.Ns mainGlobals mg → FnG P w K mg base k fa fd [x] sp) (hbind : ∀ (s : Shared) (u : Value), BindsTo s fd ⟨[u], []⟩ [(x, u)])
    (hsp : ∀ H : Hp, Only H → SqL K H a (ns.map V.int) → sp [.ref a] H (fun v _ => v = .bl true) fun _ _ _ => False) :
    codeAny (model P w) callerA (.call (.ref fa) ⟨[.ref a], []⟩) (fun r s' => r = .ok (.ret (.bool true)) ∧ OldK s₁.heap s'.heap ∧ s'.os = s₁.os ∧ AllBare s'.gens) s₁ := by
  have rel := vals_ints hints
  -- at any abstract heap that tracks at most the script
  suffices go : ∀ H : Hp, Only H → SqL K H a (ns.map V.int) → HOk P w H s₁.heap → (∀ b u, H b = some u → b = a) → ((∃ u, H a = some u) → K.lookup a = none) →
      codeAny (model P w) callerA (.call (.ref fa) ⟨[.ref a], []⟩) (fun r s' => r = .ok (.ret (.bool true)) ∧ OldK s₁.heap s'.heap ∧ s'.os = s₁.os ∧ AllBare s'.gens) s₁ by
    cases hk : K.lookup a with
    | some o =>
      have same : o = { cls := .type "list", data := .seq vs.toArray } := by
        have z := hK a o hk
        rw [hat] at z
        exact (Option.some.inj z).symm
      subst same
      refine go (fun _ => none) (fun _ => Or.inl rfl) (Or.inr ⟨_, _, _, hk, rfl, rfl, rfl, ?_, ?_⟩) (fun _ _ z => ?_) (fun _ _ z => ?_) (fun ⟨_, z⟩ => ?_)
      · rw [List.size_toArray, ← rel.length, List.length_map]; exact hlen
      · simpa using rel
      · exact nomatch (show (none : Option HO) = some _ from z)
      · exact nomatch (show (none : Option HO) = some _ from z)
      · exact nomatch (show (none : Option HO) = some _ from z)
    | none =>
      let Hs : Hp := fun b => if b = a then some (.frz { cls := .type "list", data := .seq vs.toArray } (.lst (ns.map V.int))) else none
      have Ha : Hs a = some (.frz { cls := .type "list", data := .seq vs.toArray } (.lst (ns.map V.int))) := if_pos rfl
      have Hn : ∀ b u, Hs b = some u → b = a := by
        intro b u z
        by_cases q : b = a
        · exact q
        · rw [show Hs b = none from if_neg q] at z; cases z
      refine go Hs (fun b => ?_) (Or.inl (Or.inr ⟨_, Ha⟩)) (fun b u z => ?_) Hn (fun _ => hk)
      · by_cases q : b = a
        · subst q; exact Or.inr ⟨_, _, Ha⟩
        · exact Or.inl (if_neg q)
      · obtain rfl := Hn b u z
        rw [Ha] at z
        cases z
        exact ⟨hat, by rw [List.length_map]; exact hlen, vs, _, rel, hat⟩
  intro H hO hS hok hA hKa
  have hid : ∀ {b : Addr} {o : Obj}, s₁.heap.get? b = some o → H b = none → (hidT s₁.heap H).get? b = some o := fun e n => hidT_get e n
  have isnone : ∀ {b : Addr}, (∀ u, H b = some u → False) → H b = none := by
    intro b hb
    cases q : H b with
    | none => rfl
    | some u => exact (hb u q).elim
  have nsH : ∀ {b : Addr} {m : Str → Option Value}, s₁.heap.Ns b m → (hidT s₁.heap H).Ns b m := by
    intro b m hn
    obtain ⟨o, es, ep, e, d, r⟩ := hn
    refine ⟨o, es, ep, hid e (isnone fun u q => ?_), d, r⟩
    obtain rfl := hA b u q
    rw [hat] at e
    cases e
    cases (show Data.seq vs.toArray _ = Data.dict es ep from d)
  have hKb : K.In (hidT s₁.heap H) := fun b o e => hid (hK b o e) (isnone fun u q => by
    obtain rfl := hA b u q
    rw [hKa ⟨u, q⟩] at e
    cases e)
  obtain ⟨mc, hc1, hc2⟩ := hlim
  have e0 : Env0 P w K mg (hidT s₁.heap H) callerA [] s₁ H :=
    ⟨rfl, ⟨hKb, nsH hgl, ⟨mb, nsH hbl, hbb⟩, ⟨mc, nsH hc1, hc2⟩⟩, fun b o e => of_hidT e, Nat.le_of_eq (hidT_size _ _), trivial, fun b hb => (List.not_mem_nil hb).elim, hok, .of_eq hgen⟩
  refine codeAny_mono ((F _ hKb (nsH hgl)).run callerA [] s₁ H ⟨[.ref a], []⟩ [.ref a] [.ref a] _ _ rfl hroom e0 (hbind s₁ (.ref a)) (.cons rfl .nil) (hsp H hO hS)) ?_
  intro r s' hr
  match r, hr with
  | .error e, hr =>
    obtain ⟨_, _, _, _, _, _, _, _, _, _, _, _, z⟩ := hr
    exact z.elim
  | .ok (.ret u), hr =>
    obtain ⟨v, H', os, bare, un, hok', rv, qv⟩ := hr
    obtain rfl : v = .bl true := qv
    obtain rfl : u = Value.bool true := rv
    refine ⟨rfl, OldK.of_keep (fun b o e => ?_), os, bare⟩
    cases q : H b with
    | none => exact un.keep b o e q (fun z => (List.not_mem_nil z).elim) (by simp)
    | some u =>
      rcases hO b with z | ⟨ob, xs, z⟩
      · rw [z] at q; cases q
      · have e1 := (hok b _ z).1
        have e2 := (hok' b _ (un.frzs b ob _ z)).1
        rw [e] at e1
        cases e1
        exact e2

/-- what k_head leaves, from the law's promise over FnG -/
theorem walkG {l : PySem.W.OpenLaw} {n k : Nat} {q : Program} {loose : List Str} {XP : (Str → Option Value) → Heap → Prop} {YP : World → Heap → Prop} {d : DefRec} {K : Params → PySem.W.Frag} {sp : World → Sp} {x : Str}
    (hn : l.most = some n) (hn2 : n ≤ sizeLine) (hdf : d.params.defaults = []) (hr : Room k callerA) (hY : ∀ (w : World) (h : Heap), YP w h → (K w.params).In h)
    (F : ∀ (w : World) (mg : Str → Option Value) (fa : Addr) (h : Heap), (K w.params).In h → h.Ns mainGlobals mg → mg d.name = some (.ref fa) →
      ∃ fd : FuncData, (∀ (s : Shared) (u : Value), BindsTo s fd ⟨[u], []⟩ [(x, u)]) ∧ ∀ base : Heap, (K w.params).In base → base.Ns mainGlobals mg → FnG l.prog w (K w.params) mg base k fa fd [x] (sp w))
    (hsp : ∀ (w : World) (H : Hp) (a : Addr) (ns : List Int), ns.length ≤ n → (∀ z ∈ ns, Builtin.Int.intBits z ≤ 1048576) → Only H → SqL (K w.params) H a (ns.map V.int) → sp w [.ref a] H (fun v _ => v = .bl true) fun _ _ _ => False) :
    PySem.W.WalkO q loose XP YP l.row.toRowW d [] (fun f vs => PySem.call f vs) := by
  refine Att.attach_callB hn hdf (fun w s₀ s₁ mg mb fa o pm cd doc a vs ns G Y ho hd hcd hmg hobj hints hlen hbits hg => ?_)
  obtain ⟨fd, hb, hF⟩ := F w mg fa _ (hY w _ Y) G.T.g hmg
  exact lawG (hY w _ Y) G.T.g G.T.b G.T.builtins G.T.nolimit hg hobj hints (Nat.le_trans hlen hn2) hr hF hb (fun H hO hS => hsp w H a ns hlen hbits hO hS)
end
end K9
end
section
set_option Elab.async false
set_option linter.all false
set_option maxRecDepth 100000
/-! K9Rel: how the evaluator's values and store lie in the abstract heap. -/
namespace K9
open PySem PySem.Spec PyProof.Rows L2

/-- what is known of the heap: what never changes any more, where the store's objects stand, what stood at the last marked call -/
structure Mem where
  F : Hp
  mu : List Addr
  H0 : Hp
  sa : Addr

/-- an error's object -/
def ExV (C d a : Addr) : HO := .ext fun h => ∃ (oe : Obj) (vs : Array Value), h.get? a = some oe ∧ Zc (.ref C) (some d) oe ∧ oe.data = .fields vs

mutual
inductive Rep (ca : Nat → Addr) (M : Mem) : V → D → Prop
  | non : Rep ca M .non .non
  | bl (b : Bool) : Rep ca M (.bl b) (.bl b)
  | int (i : Int) : Rep ca M (.int i) (.int i)
  | str (s : Str) : Rep ca M (.str s) (.str s)
  | tup {a : Addr} {vs : List V} {ds : List D} : M.F a = some (.tup vs) → RepL ca M vs ds → Rep ca M (.ref a) (.tup ds)
  | lst {a : Addr} {vs : List V} {ds : List D} : M.F a = some (.lst vs) → RepL ca M vs ds → Rep ca M (.ref a) (.lst ds)
  | dct {a : Addr} {kvs : List (L2.Key × V)} {ks : List L2.Key} {ds : List D} : M.F a = some (.dK kvs) → kvs.map (·.1) = ks → RepL ca M (kvs.map (·.2)) ds → Rep ca M (.ref a) (.dct ks ds)
  | ins {a dx : Addr} {c : Nat} {fs : List (Str × V)} {ns : List Str} {ds : List D} : M.F a = some (.ins (ca c) dx fs) → fs.map (·.1) = ns → RepL ca M (fs.map (·.2)) ds → Rep ca M (.ref a) (.ins c ns ds)
  | exc {a dd : Addr} {c : Nat} {v : V} {d : D} : M.F a = some (ExV (ca c) dd a) → M.F dd = some (.xd [(("value" : Str), v)]) → Rep ca M v d → Rep ca M (.ref a) (.exc c d)
  | ref {a : Addr} {n : Nat} : M.mu[n]? = some a → Rep ca M (.ref a) (.ref n)
  | scr {a : Addr} {o : Obj} {vs : List V} {ds : List D} : M.F a = some (.frz o (.lst vs)) → RepL ca M vs ds → Rep ca M (.ref a) (.scr ds)
inductive RepL (ca : Nat → Addr) (M : Mem) : List V → List D → Prop
  | nil : RepL ca M [] []
  | cons {v : V} {vs : List V} {d : D} {ds : List D} : Rep ca M v d → RepL ca M vs ds → RepL ca M (v :: vs) (d :: ds)
end

section
variable {ca : Nat → Addr} {M M' : Mem}
mutual
theorem Rep.mono (hF : ∀ a o, M.F a = some o → M'.F a = some o) (hm : ∀ (n : Nat) (a : Addr), M.mu[n]? = some a → M'.mu[n]? = some a) (h0 : M'.H0 = M.H0) : ∀ {v : V} {d : D}, Rep ca M v d → Rep ca M' v d
  | _, _, .non => .non
  | _, _, .bl b => .bl b
  | _, _, .int i => .int i
  | _, _, .str s => .str s
  | _, _, .tup h r => .tup (hF _ _ h) (RepL.mono hF hm h0 r)
  | _, _, .lst h r => .lst (hF _ _ h) (RepL.mono hF hm h0 r)
  | _, _, .dct h e r => .dct (hF _ _ h) e (RepL.mono hF hm h0 r)
  | _, _, .ins h e r => .ins (hF _ _ h) e (RepL.mono hF hm h0 r)
  | _, _, .exc h1 h2 r => .exc (hF _ _ h1) (hF _ _ h2) (Rep.mono hF hm h0 r)
  | _, _, .ref h => .ref (hm _ _ h)
  | _, _, .scr h r => .scr (hF _ _ h) (RepL.mono hF hm h0 r)
theorem RepL.mono (hF : ∀ a o, M.F a = some o → M'.F a = some o) (hm : ∀ (n : Nat) (a : Addr), M.mu[n]? = some a → M'.mu[n]? = some a) (h0 : M'.H0 = M.H0) : ∀ {vs : List V} {ds : List D}, RepL ca M vs ds → RepL ca M' vs ds
  | _, _, .nil => .nil
  | _, _, .cons r t => .cons (Rep.mono hF hm h0 r) (RepL.mono hF hm h0 t)
end
theorem RepL.length : ∀ {vs : List V} {ds : List D}, RepL ca M vs ds → vs.length = ds.length
  | _, _, .nil => rfl
  | _, _, .cons _ t => by rw [List.length_cons, List.length_cons, t.length]
theorem RepL.append : ∀ {vs us : List V} {ds es : List D}, RepL ca M vs ds → RepL ca M us es → RepL ca M (vs ++ us) (ds ++ es)
  | _, _, _, _, .nil, s => s
  | _, _, _, _, .cons r t, s => .cons r (t.append s)
theorem RepL.get : ∀ {vs : List V} {ds : List D} {i : Nat} {d : D}, RepL ca M vs ds → ds[i]? = some d → ∃ v, vs[i]? = some v ∧ Rep ca M v d
  | _, _, _, _, .nil, e => by simp at e
  | _, _, 0, _, .cons r _, e => by simp at e; subst e; exact ⟨_, rfl, r⟩
  | _, _, i + 1, _, .cons _ t, e => by
    obtain ⟨v, h1, h2⟩ := RepL.get (i := i) t (by simpa using e)
    exact ⟨v, by simpa using h1, h2⟩
theorem RepL.get' : ∀ {vs : List V} {ds : List D} {i : Nat} {v : V}, RepL ca M vs ds → vs[i]? = some v → ∃ d, ds[i]? = some d ∧ Rep ca M v d
  | _, _, _, _, .nil, e => by simp at e
  | _, _, 0, _, .cons r _, e => by simp at e; subst e; exact ⟨_, rfl, r⟩
  | _, _, i + 1, _, .cons _ t, e => by
    obtain ⟨v, h1, h2⟩ := RepL.get' (i := i) t (by simpa using e)
    exact ⟨v, by simpa using h1, h2⟩
theorem RepL.set {v : V} {d : D} (r : Rep ca M v d) : ∀ {vs : List V} {ds : List D} (i : Nat), RepL ca M vs ds → RepL ca M (vs.set i v) (ds.set i d)
  | _, _, _, .nil => .nil
  | _, _, 0, .cons _ t => .cons r t
  | _, _, i + 1, .cons q t => .cons q (RepL.set r i t)
theorem RepL.take : ∀ {vs : List V} {ds : List D} (n : Nat), RepL ca M vs ds → RepL ca M (vs.take n) (ds.take n)
  | _, _, 0, _ => .nil
  | _, _, _ + 1, .nil => .nil
  | _, _, n + 1, .cons r t => .cons r (t.take n)
theorem RepL.drop : ∀ {vs : List V} {ds : List D} (n : Nat), RepL ca M vs ds → RepL ca M (vs.drop n) (ds.drop n)
  | _, _, 0, r => r
  | _, _, _ + 1, .nil => .nil
  | _, _, n + 1, .cons _ t => t.drop n
theorem RepL.reverse : ∀ {vs : List V} {ds : List D}, RepL ca M vs ds → RepL ca M vs.reverse ds.reverse
  | _, _, .nil => .nil
  | _, _, .cons r t => by
    rw [List.reverse_cons, List.reverse_cons]
    exact t.reverse.append (.cons r .nil)
end

/-- a mutable object as it stands in the heap -/
inductive ObR (ca : Nat → Addr) (M : Mem) : HO → Ob → Prop
  | lst {vs : List V} {ds : List D} : RepL ca M vs ds → ObR ca M (.lst vs) (.lst ds)
  | dct {kvs : List (L2.Key × V)} {ks : List L2.Key} {ds : List D} : kvs.map (·.1) = ks → RepL ca M (kvs.map (·.2)) ds → ObR ca M (.dK kvs) (.dct ks ds)
  | ins {dx : Addr} {c : Nat} {fs : List (Str × V)} {ns : List Str} {ds : List D} : fs.map (·.1) = ns → RepL ca M (fs.map (·.2)) ds → ObR ca M (.ins (ca c) dx fs) (.ins c ns ds)
theorem ObR.mono {ca : Nat → Addr} {M M' : Mem} (hF : ∀ a o, M.F a = some o → M'.F a = some o) (hm : ∀ (n : Nat) (a : Addr), M.mu[n]? = some a → M'.mu[n]? = some a) (h0 : M'.H0 = M.H0) {ho : HO} {ob : Ob} (r : ObR ca M ho ob) : ObR ca M' ho ob := by
  cases r with
  | lst r => exact .lst (r.mono hF hm h0)
  | dct e r => exact .dct e (r.mono hF hm h0)
  | ins e r => exact .ins e (r.mono hF hm h0)

/-- the store lies in the heap -/
structure RelS (ca : Nat → Addr) (M : Mem) (S : Sto) (H : Hp) : Prop where
  frz : ∀ a o, M.F a = some o → H a = some o
  len : M.mu.length = S.length
  nd : M.mu.Nodup
  off : ∀ a, a ∈ M.mu → M.F a = none
  ob : ∀ (n : Nat) (ob : Ob), S[n]? = some ob → ∃ a ho, M.mu[n]? = some a ∧ H a = some ho ∧ ObR ca M ho ob
  h0 : ∀ a, H a = none → M.H0 a = none

/-- a slot -/
inductive SlR (ca : Nat → Addr) (M : Mem) (H : Hp) : Slot → Option (Option V) → Prop
  | no {o : Option (Option V)} : SlR ca M H .no o
  | fz {v : V} {d : D} : Rep ca M v d → SlR ca M H (.fz d) (some (some v))
  | al {a : Addr} {ho : HO} {ob : Ob} : H a = some ho → ObR ca M ho ob → M.F a = none → a ∉ M.mu → M.H0 a = none → (∀ c fs vs, ob = .ins c fs vs → a = M.sa) → SlR ca M H (.al ob) (some (some (.ref a)))
/-- the frame's names -/
structure RelE (ca : Nat → Addr) (M : Mem) (env : Env) (σ : L2.St) (H : Hp) : Prop where
  len : env.length = σ.length
  sl : ∀ (i : Nat) (s : Slot), env[i]? = some s → SlR ca M H s σ[i]?
  ap : ∀ (i j : Nat) (o o' : Ob), env[i]? = some (.al o) → env[j]? = some (.al o') → σ[i]? = σ[j]? → i = j

/-- what may have changed -/
structure Ext (M : Mem) (H : Hp) (M' : Mem) (H' : Hp) : Prop where
  F : ∀ a o, M.F a = some o → M'.F a = some o
  mu : ∀ (n : Nat) (a : Addr), M.mu[n]? = some a → M'.mu[n]? = some a
  h0 : M'.H0 = M.H0
  sa : M'.sa = M.sa
  rest : ∀ a o, H a = some o → a ∉ M.mu → H' a = some o
  newF : ∀ a o, M'.F a = some o → M.F a = none → H a = none
  newM : ∀ a, a ∈ M'.mu → a ∉ M.mu → H a = none
  dom : ∀ a o, H a = some o → ∃ o', H' a = some o'
section
variable {ca : Nat → Addr} {M M1 M2 : Mem} {H H1 H2 : Hp} {S : Sto} {env : Env} {σ : L2.St}
theorem Ext.refl : Ext M H M H := ⟨fun _ _ h => h, fun _ _ h => h, rfl, rfl, fun _ _ h _ => h, (fun a o h n => by rw [n] at h; cases h), fun a h n => absurd h n, fun a o h => ⟨o, h⟩⟩
theorem Ext.muI (e : Ext M H M1 H1) {a : Addr} (h : a ∈ M.mu) : a ∈ M1.mu := by
  obtain ⟨n, hn, he⟩ := List.mem_iff_getElem.mp h
  exact List.mem_of_getElem? (e.mu n a (by rw [List.getElem?_eq_getElem hn, he]))
theorem Ext.trans (e : Ext M H M1 H1) (f : Ext M1 H1 M2 H2) : Ext M H M2 H2 where
  F := fun a o h => f.F a o (e.F a o h)
  mu := fun n a h => f.mu n a (e.mu n a h)
  h0 := f.h0.trans e.h0
  sa := f.sa.trans e.sa
  rest := fun a o h n => f.rest a o (e.rest a o h n) (fun q => by rw [e.newM a q n] at h; cases h)
  newF := fun a o h n => by
    cases q : M1.F a with
    | some u => exact e.newF a u q n
    | none =>
      have z := f.newF a o h q
      cases r : H a with
      | none => rfl
      | some u =>
        obtain ⟨u', hu⟩ := e.dom a u r
        rw [z] at hu; cases hu
  newM := fun a h n => by
    by_cases q : a ∈ M1.mu
    · exact e.newM a q n
    · have z := f.newM a h q
      cases r : H a with
      | none => rfl
      | some u =>
        obtain ⟨u', hu⟩ := e.dom a u r
        rw [z] at hu; cases hu
  dom := fun a o h => let ⟨o1, h1⟩ := e.dom a o h; f.dom a o1 h1
theorem Ext.rep (e : Ext M H M1 H1) {v : V} {d : D} (r : Rep ca M v d) : Rep ca M1 v d := r.mono e.F e.mu e.h0
theorem Ext.repL (e : Ext M H M1 H1) {v : List V} {d : List D} (r : RepL ca M v d) : RepL ca M1 v d := r.mono e.F e.mu e.h0
theorem Ext.obr (e : Ext M H M1 H1) {v : HO} {d : Ob} (r : ObR ca M v d) : ObR ca M1 v d := r.mono e.F e.mu e.h0
/-- the frame is as it was -/
theorem RelE.ext (r : RelE ca M env σ H) (e : Ext M H M1 H1) : RelE ca M1 env σ H1 := by
  refine ⟨r.len, fun i s h => ?_, r.ap⟩
  have q := r.sl i s h
  generalize σ[i]? = o at q
  cases q with
  | no => exact .no
  | fz p => exact .fz (e.rep p)
  | al h1 h2 h3 h4 h5 h6 =>
    refine .al (e.rest _ _ h1 h4) (e.obr h2) ?_ (fun q => ?_) (by rw [e.h0]; exact h5) (by rw [e.sa]; exact h6)
    · cases z : M1.F _ with
      | none => rfl
      | some u => rw [e.newF _ u z h3] at h1; cases h1
    · rw [e.newM _ q h4] at h1; cases h1
end

/-- a value, or the frame's own accumulator -/
def RepX (ca : Nat → Addr) (M : Mem) (σ : L2.St) (v : V) (d : D) : Prop := match d with
  | .acc i => σ[i]? = some (some v)
  | d => Rep ca M v d
theorem RepX.of {ca : Nat → Addr} {M : Mem} {σ : L2.St} {v : V} {d : D} (r : Rep ca M v d) : RepX ca M σ v d := by
  cases d <;> first | exact r | cases r
theorem RepX.rep {ca : Nat → Addr} {M : Mem} {σ : L2.St} {v : V} {d : D} (r : RepX ca M σ v d) (h : d.isAcc = false) : Rep ca M v d := by
  cases d <;> first | exact r | cases h
theorem RepX.ext {ca : Nat → Addr} {M M1 : Mem} {H H1 : Hp} {σ : L2.St} {v : V} {d : D} (r : RepX ca M σ v d) (e : Ext M H M1 H1) : RepX ca M1 σ v d := by
  cases d <;> first | exact r | exact e.rep (show Rep ca M v _ from r)
inductive RepXL (ca : Nat → Addr) (M : Mem) (σ : L2.St) : List V → List D → Prop
  | nil : RepXL ca M σ [] []
  | cons {v : V} {vs : List V} {d : D} {ds : List D} : RepX ca M σ v d → RepXL ca M σ vs ds → RepXL ca M σ (v :: vs) (d :: ds)
theorem RepXL.ext {ca : Nat → Addr} {M M1 : Mem} {H H1 : Hp} {σ : L2.St} (e : Ext M H M1 H1) : ∀ {vs : List V} {ds : List D}, RepXL ca M σ vs ds → RepXL ca M1 σ vs ds
  | _, _, .nil => .nil
  | _, _, .cons r t => .cons (r.ext e) (t.ext e)

theorem RepX.rdN {ca : Nat → Addr} {M : Mem} {σ : L2.St} {v : V} {d : D} (r : RepX ca M σ v d) : rd d = d := by
  cases d <;> first | rfl | cases r

/-- the outcome of an expression: a value, an own accumulator, or an object just made -/
def RepT (ca : Nat → Addr) (σ : L2.St) (H : Hp) (M' : Mem) (H' : Hp) (v : V) (d : D) : Prop := match d with
  | .own d => ∃ p ho ob, v = .ref p ∧ H p = none ∧ H' p = some ho ∧ obOf d = some ob ∧ ObR ca M' ho ob ∧ M'.F p = none ∧ p ∉ M'.mu
  | d => RepX ca M' σ v d
theorem RepT.of {ca : Nat → Addr} {σ : L2.St} {H : Hp} {M' : Mem} {H' : Hp} {v : V} {d : D} (r : RepX ca M' σ v d) : RepT ca σ H M' H' v d := by
  cases d <;> first | exact r | cases r
theorem RepT.from {ca : Nat → Addr} {σ : L2.St} {H H1 : Hp} {M' : Mem} {H' : Hp} {v : V} {d : D} (r : RepT ca σ H1 M' H' v d) (h : ∀ p, H1 p = none → H p = none) : RepT ca σ H M' H' v d := by
  cases d with
  | own d =>
    obtain ⟨p, ho, ob, e1, e2, e3⟩ := r
    exact ⟨p, ho, ob, e1, h p e2, e3⟩
  | _ => exact r
theorem Ext.none {M M1 : Mem} {H H1 : Hp} (e : Ext M H M1 H1) {p : Addr} (h : H1 p = none) : H p = none := by
  cases q : H p with
  | none => rfl
  | some o =>
    obtain ⟨o', z⟩ := e.dom p o q
    rw [h] at z; cases z
theorem ObR.d {ca : Nat → Addr} {M : Mem} {p : Addr} {ho : HO} {ob : Ob} (r : ObR ca M ho ob) (h : M.F p = some ho) : Rep ca M (.ref p) ob.d := by
  cases r with
  | lst r => exact .lst h r
  | dct e r => exact .dct h e r
  | ins e r => exact .ins h e r
theorem obOf_d {d : D} {ob : Ob} (h : obOf d = some ob) : ob.d = d := by
  cases d <;> cases h <;> rfl
theorem obOf_of (ob : Ob) : obOf ob.d = some ob := by cases ob <;> rfl
/-- what was just made is held: told as never changed any more -/
theorem RepT.hold {ca : Nat → Addr} {σ : L2.St} {M M' : Mem} {H H' : Hp} {S : Sto} {v : V} {d : D} (e : Ext M H M' H') (rs : RelS ca M' S H') (r : RepT ca σ H M' H' v d) :
    ∃ M2, Ext M H M2 H' ∧ RelS ca M2 S H' ∧ RepX ca M2 σ v (rd d) := by
  cases d with
  | own d =>
    obtain ⟨p, ho, ob, rfl, e2, e3, e4, e5, e6, e7⟩ := r
    have hF : ∀ a o, M'.F a = some o → (upd M'.F p ho) a = some o := fun a o h => by
      rw [upd_ne (fun z => by rw [z, e6] at h; cases h)]; exact h
    refine ⟨{ M' with F := upd M'.F p ho }, ⟨fun a o h => hF a o (e.F a o h), e.mu, e.h0, e.sa, e.rest, fun a o h n => ?_, e.newM, e.dom⟩, ⟨fun a o h => ?_, rs.len, rs.nd, fun a h => ?_, fun n ob' h => ?_, rs.h0⟩, ?_⟩
    · by_cases z : a = p
      · rw [z]; exact e2
      · exact e.newF a o (by rw [← h]; exact (upd_ne z).symm) n
    · by_cases z : a = p
      · subst z
        have h' : upd M'.F a ho a = some o := h
        rw [upd_same] at h'
        cases h'
        exact e3
      · exact rs.frz a o (by rw [← h]; exact (upd_ne z).symm)
    · have hne : a ≠ p := fun z => e7 (by rw [← z]; exact h)
      exact (upd_ne hne).trans (rs.off a h)
    · obtain ⟨a, ho', h1, h2, h3⟩ := rs.ob n ob' h
      exact ⟨a, ho', h1, h2, ObR.mono (M := M') (M' := { M' with F := upd M'.F p ho }) hF (fun _ _ h => h) rfl h3⟩
    · rw [show rd (.own d) = d from rfl, ← obOf_d e4]
      exact RepX.of (ObR.d (e5.mono (M' := { M' with F := upd M'.F p ho }) hF (fun _ _ h => h) rfl) upd_same)
  | _ => exact ⟨M', e, rs, r⟩

/-- an error behind its raise -/
def ExcR (ca : Nat → Addr) (M : Mem) (H : Hp) (c : Nat) (d : D) (cls : Value) (dd : Option Addr) : Prop :=
  cls = .ref (ca c) ∧ ∃ a v, dd = some a ∧ H a = some (.xd [(("value" : Str), v)]) ∧ M.F a = none ∧ a ∉ M.mu ∧ Rep ca M v d

/-- an outcome of an expression as it lies behind it -/
def Out (ca : Nat → Addr) (W : WX) (M : Mem) (σ : L2.St) (H : Hp) (r : R D) (Q : VK) : Prop := match r with
  | .ok d S => ∀ v M' H', Ext M H M' H' → RelS ca M' S H' → RepT ca σ H M' H' v d → Q v H'
  | .er c d S => ∀ cls dd M' H', Ext M H M' H' → RelS ca M' S H' → ExcR ca M' H' c d cls dd → H dd.get! = none → W cls dd σ H'
  | .bad => False
end K9
end
section
set_option Elab.async false
set_option linter.all false
set_option maxRecDepth 100000
/-! K9Mat: whether a piece of the given text is the own syntax (places in the text do not count). -/
namespace K9
open PySem

/-- what is known of the module's names: defs, classes, which of them are errors, texts, numbers, dicts, names that it has not -/
structure GT where
  fns : List (Str × Nat)
  cls : List (Str × Nat)
  errs : List Nat
  gS : List (Str × Str)
  gI : List (Str × Int)
  gD : List (Str × Nat)
  bl : List Str
/-- what is known where a text stands: the names by slot, the scope -/
structure TC where
  N : List Str
  sc : Scope
  sc0 : Scope
  g : GT

def TC.glb (t : TC) (x : Str) : Bool := t.sc.names.lookup x == some .globalImplicit && x != ("__debug__" : Str) && x != ("__name__" : Str)
def TC.blt (t : TC) (x : Str) : Bool := t.glb x && t.g.bl.contains x
def TC.vis (t : TC) (x : Str) : Bool := (t.sc.names.lookup x == some .local || t.sc.names.lookup x == some .cell || t.sc.names.lookup x == some .free) && x != ("__debug__" : Str) && x != ("__classdict__" : Str)
def TC.slot (t : TC) (i : Nat) (x : Str) : Bool := t.N[i]? == some x && t.vis x
def TC.loc (t : TC) (i : Nat) (x : Str) : Bool := t.N[i]? == some x && (t.sc0.names.lookup x == some .local || t.sc0.names.lookup x == some .cell)

def bopOf : Operator → Option Bop
  | .Add => some .add | .Sub => some .sub | .Mult => some .mul | .FloorDiv => some .fdiv | .Mod => some .mod | .Pow => some .pow
  | _ => none
def copOf : CmpOp → Cop
  | .Eq => .eq | .NotEq => .ne | .Lt => .lt | .LtE => .le | .Gt => .gt | .GtE => .ge | .Is => .is | .IsNot => .isn | .In => .isin | .NotIn => .nin
def biOf (x : Str) : Option Bi := ([(("abs" : Str), Bi.abs), ("all", .all), ("any", .any), ("dict", .dict), ("int", .int), ("len", .len), ("list", .list), ("max", .max), ("min", .min), ("repr", .repr), ("sorted", .sorted), ("str", .str), ("sum", .sum), ("tuple", .tuple)] : List (Str × Bi)).lookup x
def mtOf (x : Str) : Option Mt := ([(("append" : Str), Mt.append), ("clear", .clear), ("count", .count), ("extend", .extend), ("get", .get), ("index", .index), ("insert", .insert), ("items", .items), ("join", .join), ("partition", .partition), ("pop", .pop), ("replace", .replace), ("reverse", .reverse), ("split", .split), ("update", .update), ("upper", .upper), ("values", .values)] : List (Str × Mt)).lookup x
def isCall : Expr → Bool
  | .Call .. => true
  | _ => false
def isComp : Expr → Bool
  | .ListComp .. => true
  | .SetComp .. => true
  | .DictComp .. => true
  | _ => false
/-- no super() -/
def okBase : Expr → Bool
  | .Call (.Name id _) [] [] _ => id != "super"
  | _ => true
def isSetE : Expr → Bool
  | .Set .. => true
  | _ => false
def isSlice : Expr → Bool
  | .Slice .. => true
  | _ => false
def isStar : Expr → Bool
  | .Starred .. => true
  | _ => false
def isTup : Expr → Bool
  | .Tuple .. => true
  | _ => false
/-- a class's name in isinstance -/
def tyOf (t : TC) : Expr → Option Ty
  | .Name x _ => if t.glb x then
      match t.g.cls.lookup x with
      | some c => some (.cls c)
      | none => if t.g.bl.contains x then ([(("list" : Str), Ty.list), ("tuple", .tuple), ("int", .int), ("str", .str), ("bool", .bool), ("dict", .dict), ("ValueError", .valueError)] : List (Str × Ty)).lookup x else none
    else none
  | _ => none
def nmMat (t : TC) (i : Nat) : Expr → Bool
  | .Name x _ => t.loc i x
  | _ => false
def nmsMat (t : TC) : List Nat → List Expr → Bool
  | [], [] => true
  | i :: is, e :: es => nmMat t i e && nmsMat t is es
  | _, _ => false
def tgMat (t : TC) (tg : List Nat) (e : Expr) : Bool := match tg, e with
  | [i], .Name x _ => t.loc i x
  | is, .Tuple es _ _ => 2 ≤ es.length && nmsMat t is es
  | _, _ => false
/-- the scope of a comprehension where it runs -/
def relB (scope sc : Scope) : Scope := { scope with names := scope.names.map fun p => if (p.2 == .free && sc.kind == .function && sc.names.lookup p.1 == some .cell) then (p.1, .cell) else (p.1, p.2) }
def TC.inner (t : TC) (sc : Scope) : TC := { t with sc0 := sc, sc := relB sc t.sc }
def blkB (t : TC) (scope : Scope) (own : List Nat) : Bool :=
  (match scope.kind with | .function => true | _ => false) && (scope.names.all fun y => scope.names.lookup y.1 == some y.2) && (own.all fun i => (t.N[i]?).isSome) &&
    (scope.names.all fun y => match y.2 with
      | .free => t.sc.names.lookup y.1 == some .cell || t.sc.names.lookup y.1 == some .free
      | .local => own.any (fun i => t.N[i]? == some y.1) || !(t.N.contains y.1)
      | .cell => own.any (fun i => t.N[i]? == some y.1) || !(t.N.contains y.1)
      | _ => true)
/-- a built-in's name -/
def bltHd (t : TC) (f : Str) : Expr → Bool
  | .Name x _ => t.blt x && x == f
  | _ => false
def isNilKw : List Keyword → Bool
  | [] => true
  | _ => false
/-- the classes of isinstance -/
def isiB (t : TC) (ts : List Ty) : Expr → Bool
  | .Tuple cs _ _ => cs.mapM (tyOf t) == some ts
  | .Name x p => (match ts with
    | [T] => tyOf t (.Name x p) == some T
    | _ => false)
  | _ => false
/-- the methods that are covered -/
def mtCov : Mt → Bool
  | .join => true | .get => true
  | _ => false
def mutCov : Mt → Bool
  | .append => true | .reverse => true | .clear => true | .extend => true
  | _ => false
/-- isinstance's lists of classes are short -/
def okTys (ts : List Ty) : Bool := decide (ts.length ≤ 100)
def isRevS : Expr → Bool
  | .Slice none none (some (.UnaryOp .USub (.Constant (.int 1) _ _) _)) _ => true
  | _ => false
def isTrueK : Ex → Bool
  | .bl true => true
  | _ => false
def isNonK : Ex → Bool
  | .non => true
  | _ => false
def isNilK : Exs → Bool
  | .nil => true
  | _ => false

mutual
def mat (t : TC) : Ex → Expr → Bool
  | .non, .Constant .none _ _ => true
  | .bl b, .Constant (.bool c) _ _ => b == c
  | .int i, .Constant (.int j) _ _ => i == j
  | .int i, .Name x _ => t.glb x && t.g.gI.lookup x == some i
  | .str s, .Constant (.str z) _ _ => s == z
  | .str s, .Name x _ => t.glb x && t.g.gS.lookup x == some s
  | .var i, .Name x _ => t.slot i x
  | .bin op a b, .BinOp l o r _ => bopOf o == some op && mat t a l && mat t b r
  | .neg a, .UnaryOp .USub e _ => mat t a e
  | .not a, .UnaryOp .Not e _ => mat t a e
  | .cmp op a b, .Compare l [o] [r] _ => copOf o == op && mat t a l && mat t b r && !(isSetE r)
  | .cmp2 o1 o2 a b c, .Compare l [p1, p2] [r, q] _ => copOf p1 == o1 && copOf p2 == o2 && mat t a l && mat t b r && mat t c q && !(isSetE r) && !(isSetE q)
  | .and a b, .BoolOp .And [v, u] _ => mat t a v && mat t b u
  | .and a b, .BoolOp .And (v :: u :: w :: rest) pos => mat t a v && mat t b (.BoolOp .And (u :: w :: rest) pos)
  | .or a b, .BoolOp .Or [v, u] _ => mat t a v && mat t b u
  | .or a b, .BoolOp .Or (v :: u :: w :: rest) pos => mat t a v && mat t b (.BoolOp .Or (u :: w :: rest) pos)
  | .ite c a b, .IfExp e l r _ => mat t c e && mat t a l && mat t b r
  | .tup es, .Tuple xs _ _ => mats t es xs
  | .lst es, .List xs _ => mats t es xs
  | .dict0, .Dict [] [] _ => true
  | .call f es, .Call (.Name x _) xs [] _ => t.glb x && t.g.fns.lookup x == some f && mats t es xs && !(xs.any isStar)
  | .make c es, .Call (.Name x _) xs [] _ => t.glb x && t.g.cls.lookup x == some c && mats t es xs && !(xs.any isStar)
  | .makek c .nil (.cons false e .nil) [0], .Call (.Name x _) [] [⟨some k, v, _⟩] _ => t.glb x && t.g.cls.lookup x == some c && t.g.errs.contains c && k == ("value" : Str) && mat t e v
  | .bi b es, .Call (.Name x _) xs [] _ => t.blt x && biOf x == some b && mats t es xs && !(xs.any isStar) && !xs.isEmpty
  | .isi a ts, .Call fe es kws _ => okTys ts && bltHd t "isinstance" fe && isNilKw kws && (match es with
    | [e, c] => mat t a e && !(isStar e) && isiB t ts c
    | _ => false)
  | .mt m o es, .Call (.Attribute v x apos) xs [] pos => mtCov m && mtOf x == some m && mat t o v && mats t es xs && !(xs.any isStar) && okBase v && decide (xs.length < 30) && apos.endLine == pos.line && !xs.isEmpty
  | .meth x o es, .Call (.Attribute v y apos) xs [] pos => x == y && (mtOf x).isNone && mat t o v && mats t es xs && !(xs.any isStar) && okBase v && decide (xs.length < 30) && apos.endLine == pos.line
  | .fld o f, .Attribute v x _ => f == x && mat t o v && okBase v
  | .ix a i, .Subscript v e _ => mat t a v && mat t i e && !(isSlice e)
  | .sl a lo hi, .Subscript v (.Slice l h none _) _ => mat t a v && (match l with
    | none => isNonK lo
    | some l => mat t lo l && !(isNonK lo)) && (match h with
    | none => isNonK hi
    | some h => mat t hi h && !(isNonK hi))
  | .rev a, .Subscript v j _ => mat t a v && isRevS j
  | .lc own tg it c elt, .ListComp e gens scope _ => blkB t scope own && tg.all (fun i => own.contains i) && mat (t.inner scope) elt e && (match gens with
    | [⟨g, iter, ifs, n⟩] => decide (n = 0) && tgMat (t.inner scope) tg g && matIt t it iter && (isTup g || !(needTup it)) && !(isSetE iter) && (match ifs with
      | [] => isTrueK c
      | [f] => mat (t.inner scope) c f
      | _ => false)
    | _ => false)
  | .ref x, e => mat t x e
  | _, _ => false
def mats (t : TC) : Exs → List Expr → Bool
  | .nil, [] => true
  | .cons true x xs, .Starred e _ :: es => mat t x e && mats t xs es
  | .cons false x xs, e :: es => mat t x e && !(isStar e) && mats t xs es
  | _, _ => false
def matIt (t : TC) : It → Expr → Bool
  | .seq x, e => mat t x e
  | .rng1 x, .Call fe es kws _ => bltHd t "range" fe && isNilKw kws && (match es with
    | [a] => mat t x a && !(isStar a)
    | _ => false)
  | .rng2 x y, .Call fe es kws _ => bltHd t "range" fe && isNilKw kws && (match es with
    | [a, b] => mat t x a && mat t y b && !(isStar a) && !(isStar b)
    | _ => false)
  | .enum x, .Call fe es kws _ => bltHd t "enumerate" fe && isNilKw kws && (match es with
    | [a] => mat t x a && !(isStar a)
    | _ => false)
  | .zip x y, .Call fe es kws _ => bltHd t "zip" fe && isNilKw kws && (match es with
    | [a, b] => mat t x a && mat t y b && !(isStar a) && !(isStar b)
    | _ => false)
  | _, _ => false
end

/-! ### statements -/
def isLocN (t : TC) (x : Str) : Bool := t.sc.names.lookup x == some .local
/-- name = [..] is stored ahead -/
def swB (t : TC) (x : Str) (p : Pos) : Expr → Bool
  | .ListComp _ _ s pos => isLocN t x && p.line == pos.line && !(s.names.any fun y => y.1 == x && (y.2 == .local || y.2 == .cell))
  | _ => false
def parNames (t : TC) (line : Nat) : List Expr → Option (List Str)
  | [] => some []
  | .Name x p :: r => if isLocN t x && p.line == line then (parNames t line r).map (x :: ·) else none
  | _ => none
/-- a, b = x, y with stores from the right -/
def parB (t : TC) (ts vs : List Expr) : Bool := (ts.length == 2 || ts.length == 3) && vs.length == ts.length && !(vs.any isStar) && (match parNames t ((ts.head?.map (·.pos.line)).getD 0) ts with
  | some ns => ns.eraseDups.length == ns.length
  | none => false) && !(vs.all (foldedForSure 8)) && !(vs.all (constantsAlone 8))
/-- .. from the left -/
def unpB : Expr → List Expr → Bool
  | .Tuple vs _ _, ts => (!(ts.length == 2 || ts.length == 3) || vs.length != ts.length) || (!(vs.any isStar) && vs.all (foldedForSure 8))
  | _, _ => true

mutual
def matS (t : TC) : Sm → Stmt → Bool
  | .asg i e, .Assign [.Name x _] v _ => t.loc i x && mat t e v
  | .acc i e, .Assign [.Name x _] v _ => t.loc i x && mat t e v
  | .unp is e, .Assign [.Tuple ts k p] v _ => tgMat t is (.Tuple ts k p) && mat t e v && !(isComp v) && !(isTup v)
  | .setix o i e, .Assign [.Subscript a b _] v _ => mat t e v && mat t o a && mat t i b && !(isSlice b) && !(isComp v)
  | .mut m o es, .Expr (.Call (.Attribute v x apos) xs [] p2) _ => mutCov m && mtOf x == some m && mat t o v && mats t es xs && !(xs.any isStar) && okBase v && decide (xs.length < 30) && apos.endLine == p2.line
  | .expr e, .Expr v _ => mat t e v && !(isComp v)
  | .ret e, .Return (some v) _ => mat t e v
  | .ret e, .Return none _ => isNonK e
  | .ite c a b, .If e p q _ => mat t c e && matSs t a p && matSs t b q
  | .for_ is it b, .For g iter body [] _ => tgMat t is g && matIt t it iter && (isTup g || !(needTup it)) && !(isSetE iter) && matSs t b body
  | .cont, .Continue _ => true
  | .pass, .Pass _ => true
  | .pass, .Expr (.Constant (.str _) _ _) _ => true
  | _, _ => false
def matSs (t : TC) : Sms → List Stmt → Bool
  | .nil, [] => true
  | .cons (.frz _) ss, st => matSs t ss st
  | .cons s ss, st :: sts => matS t s st && matSs t ss sts
  | _, _ => false
end
end K9
end
section
set_option Elab.async false
set_option linter.all false
set_option maxRecDepth 100000
/-! K9Snd1: the evaluator's readings; how they compose; operators by values. -/
namespace K9
open PySem PySem.Spec PyProof.Rows L2

theorem PE.imp {X : Cx} {e : Expr} {t t' : TE} (h : PE X e t) (q : ∀ σ H Q, t' σ H Q → t σ H Q) : PE X e t' := ⟨fun pins s σ H Q I z => h.run pins s σ H Q I (q σ H Q z)⟩
theorem PT.imp {X : Cx} {e : Expr} {t t' : TT} (h : PT X e t) (q : ∀ σ H Q, t' σ H Q → t σ H Q) : PT X e t' := ⟨fun pins s σ H Q I z => h.run pins s σ H Q I (q σ H Q z)⟩
theorem PW.imp {X : Cx} {e : Expr} {t t' : TT} (h : PW X e t) (q : ∀ σ H Q, t' σ H Q → t σ H Q) : PW X e t' := ⟨fun wh pins s σ H Q I z => h.run wh pins s σ H Q I (q σ H Q z)⟩

variable {ca : Nat → Addr} {W : WX}
section
variable {M M1 : Mem} {H H1 : Hp} {σ : L2.St} {env : Env} {S : Sto}
theorem Out.ext {r : R D} {Q : VK} (h : Out ca W M σ H r Q) (e : Ext M H M1 H1) : Out ca W M1 σ H1 r Q := by
  cases r with
  | bad => exact h
  | ok d S' => exact fun v M' H' x rs r => h v M' H' (e.trans x) rs (r.from fun _ => e.none)
  | er c d S' =>
    intro cls dd M' H' x rs ex hd
    refine h cls dd M' H' (e.trans x) rs ex ?_
    cases q : H dd.get! with
    | none => rfl
    | some o =>
      obtain ⟨o', z⟩ := e.dom _ o q
      rw [hd] at z; cases z
/-- a value, then what is done with it -/
theorem Out.bind {r : R D} {k : D → Sto → R D} {Q Q1 : VK} (h : Out ca W M σ H (r.bindR k) Q) (re : RelE ca M env σ H)
    (hk : ∀ d S1 v M1 H1, True → Ext M H M1 H1 → RelS ca M1 S1 H1 → RelE ca M1 env σ H1 → RepX ca M1 σ v d → Out ca W M1 σ H1 (k d S1) Q → Q1 v H1) : Out ca W M σ H r Q1 := by
  cases r with
  | bad => exact h
  | er c d S' => exact h
  | ok d S' =>
    intro v M1 H1 e rs rt
    obtain ⟨M2, e2, rs2, rx⟩ := rt.hold e rs
    exact hk (rd d) S' v M2 H1 trivial e2 rs2 (re.ext e2) rx (Out.ext (r := k (rd d) S') h e2)
end

/-- the reading that the evaluator gives -/
def tM (ca : Nat → Addr) (W : WX) (f : Env → Sto → R D) : TE := fun σ H Q => ∃ M env S, RelS ca M S H ∧ RelE ca M env σ H ∧ Out ca W M σ H (f env S) Q
/-- as a test -/
def qB (Q : Bool → Hp → Prop) : VK := fun v H => ∃ b, v = .bl b ∧ Q b H
def tMT (ca : Nat → Addr) (W : WX) (f : Env → Sto → R D) : TT := fun σ H Q => tM ca W f σ H (qB Q)

/-- an operator by values: what it reads -/
def r2M (ca : Nat → Addr) (f : D → D → Env → Sto → R D) : R2 := fun x y H Q => ∃ M env S σ a b, RelS ca M S H ∧ RelE ca M env σ H ∧ RepX ca M σ x a ∧ RepX ca M σ y b ∧ Out ca (fun _ _ _ _ => False) M σ H (f a b env S) Q
/-- nothing but a value comes of it -/
def NoEr {α : Type} (r : R α) : Prop := ∀ c d S, r ≠ .er c d S
theorem Out.w {W W' : WX} {M : Mem} {H : Hp} {σ : L2.St} {r : R D} {Q : VK} (h : Out ca W M σ H r Q) (n : NoEr r) : Out ca W' M σ H r Q := by
  cases r with
  | bad => exact h
  | ok d S => exact h
  | er c d S => exact absurd rfl (n c d S)
theorem tM_two {fa fb : Env → Sto → R D} {f : D → D → Env → Sto → R D} (n : ∀ a b env S, NoEr (f a b env S)) {σ : L2.St} {H : Hp} {Q : VK}
    (h : tM ca W (fun env S => (fa env S).bindR fun x S1 => (fb env S1).bindR fun y S2 => f x y env S2) σ H Q) : tOp (r2M ca f) (tM ca W fa) (tM ca W fb) σ H Q := by
  obtain ⟨M, env, S, rs, re, o⟩ := h
  refine ⟨M, env, S, rs, re, o.bind re (fun d S1 v M1 H1 _ e1 rs1 re1 rx1 o1 => ⟨M1, env, S1, rs1, re1, o1.bind re1 (fun e S2 u M2 H2 _ e2 rs2 re2 rx2 o2 => ?_)⟩)⟩
  exact ⟨M2, env, S2, σ, d, e, rs2, re2, rx1.ext e2, rx2, o2.w (n _ _ _ _)⟩

/-! ### what a value holds -/
section
variable {M : Mem} {H : Hp} {σ : L2.St} {env : Env} {S : Sto}
theorem cont_at (rs : RelS ca M S H) (re : RelE ca M env σ H) {v : V} {d : D} {ob : Ob} (r : RepX ca M σ v d) (h : cont env S d = some ob) : ∃ a ho, v = .ref a ∧ H a = some ho ∧ ObR ca M ho ob := by
  cases d with
  | lst xs =>
    cases h
    cases (show Rep ca M v _ from r) with
    | lst f q => exact ⟨_, _, rfl, rs.frz _ _ f, .lst q⟩
  | dct ks vs =>
    cases h
    cases (show Rep ca M v _ from r) with
    | dct f e q => exact ⟨_, _, rfl, rs.frz _ _ f, .dct e q⟩
  | ins c fs vs =>
    cases h
    cases (show Rep ca M v _ from r) with
    | ins f e q => exact ⟨_, _, rfl, rs.frz _ _ f, .ins e q⟩
  | ref n =>
    obtain ⟨a, ho, h1, h2, h3⟩ := rs.ob n ob h
    cases (show Rep ca M v _ from r) with
    | ref q =>
      rw [h1] at q
      cases q
      exact ⟨a, ho, rfl, h2, h3⟩
  | acc i =>
    have r' : σ[i]? = some (some v) := r
    have h' : (match env[i]? with | some (.al o) => some o | _ => none) = some ob := h
    cases q : env[i]? with
    | none => rw [q] at h'; cases h'
    | some s =>
      rw [q] at h'
      cases s with
      | no => cases h'
      | fz d => cases h'
      | al o =>
        cases h'
        have z := re.sl i _ q
        rw [r'] at z
        cases z with
        | al h1 h2 _ _ _ _ => exact ⟨_, _, rfl, h1, h2⟩
  | _ => cases h
theorem lst_at (rs : RelS ca M S H) (re : RelE ca M env σ H) {v : V} {d : D} {xs : List D} (r : RepX ca M σ v d) (h : lstOf env S d = some xs) : ∃ a vs, v = .ref a ∧ H a = some (.lst vs) ∧ RepL ca M vs xs := by
  unfold lstOf at h
  cases q : cont env S d with
  | none => rw [q] at h; cases h
  | some ob =>
    rw [q] at h
    cases ob with
    | lst ys =>
      cases h
      obtain ⟨a, ho, e, h1, h2⟩ := cont_at rs re r q
      cases h2 with
      | lst p => exact ⟨a, _, e, h1, p⟩
    | _ => cases h
theorem seq_at (rs : RelS ca M S H) (re : RelE ca M env σ H) {v : V} {d : D} {xs : List D} (r : RepX ca M σ v d) (h : seqOf env S d = some xs) :
    ∃ a vs, v = .ref a ∧ (H a = some (.lst vs) ∨ H a = some (.tup vs)) ∧ RepL ca M vs xs := by
  cases d with
  | tup ds =>
    cases h
    cases (show Rep ca M v _ from r) with
    | tup f q => exact ⟨_, _, rfl, .inr (rs.frz _ _ f), q⟩
  | _ =>
    obtain ⟨a, vs, e, h1, h2⟩ := lst_at rs re r h
    exact ⟨a, vs, e, .inl h1, h2⟩

/-! ### new objects -/
theorem upd_none {H : Hp} {p a : Addr} {o : HO} (h : upd H p o a = none) : H a = none := by
  by_cases z : a = p
  · subst z; rw [upd_same] at h; cases h
  · rw [upd_ne z] at h; exact h
/-- the heap with a new object that is never changed any more -/
def Mem.add (M : Mem) (p : Addr) (o : HO) : Mem := { M with F := upd M.F p o }
theorem free_F (rs : RelS ca M S H) {p : Addr} (h : H p = none) : M.F p = none := by
  cases q : M.F p with
  | none => rfl
  | some o => rw [rs.frz p o q] at h; cases h
theorem free_mu (rs : RelS ca M S H) {p : Addr} (h : H p = none) : p ∉ M.mu := by
  intro q
  obtain ⟨n, hn, e⟩ := List.mem_iff_getElem.mp q
  have hn' : n < S.length := by rw [← rs.len]; exact hn
  obtain ⟨a, ho, h1, h2, _⟩ := rs.ob n _ (List.getElem?_eq_getElem hn')
  rw [List.getElem?_eq_getElem hn, e] at h1
  cases h1
  rw [h] at h2; cases h2
theorem ext_add (rs : RelS ca M S H) {p : Addr} {o : HO} (hp : H p = none) : Ext M H (M.add p o) (upd H p o) where
  F := fun a u h => by
    show upd M.F p o a = some u
    rw [upd_ne (fun z => by rw [z, free_F rs hp] at h; cases h)]
    exact h
  mu := fun _ _ h => h
  h0 := rfl
  sa := rfl
  rest := fun a u h _ => by rw [upd_ne (ne_of_none h hp)]; exact h
  newF := fun a u h n => by
    by_cases z : a = p
    · rw [z]; exact hp
    · rw [show (M.add p o).F a = M.F a from upd_ne z, n] at h; cases h
  newM := fun a h n => absurd h n
  dom := fun a u h => ⟨u, by rw [upd_ne (ne_of_none h hp)]; exact h⟩
theorem rel_add (rs : RelS ca M S H) {p : Addr} {o : HO} (hp : H p = none) : RelS ca (M.add p o) S (upd H p o) := by
  have e := ext_add (ca := ca) (o := o) rs hp
  refine ⟨fun a u h => ?_, rs.len, rs.nd, fun a h => ?_, fun n ob h => ?_, fun a h => rs.h0 a (upd_none h)⟩
  · by_cases z : a = p
    · subst z
      have h' : upd M.F a o a = some u := h
      rw [upd_same] at h' ⊢
      exact h'
    · rw [upd_ne z]
      exact rs.frz a u (by rw [← h]; exact (upd_ne z).symm)
  · have hne : a ≠ p := fun z => free_mu rs hp (z ▸ h)
    exact (upd_ne hne).trans (rs.off a h)
  · obtain ⟨a, ho, h1, h2, h3⟩ := rs.ob n ob h
    exact ⟨a, ho, h1, by rw [upd_ne (ne_of_none h2 hp)]; exact h2, e.obr h3⟩
/-- .. with a new object of the store -/
def Mem.more (M : Mem) (p : Addr) : Mem := { M with mu := M.mu ++ [p] }
theorem ext_more (rs : RelS ca M S H) {p : Addr} {o : HO} (hp : H p = none) : Ext M H (M.more p) (upd H p o) where
  F := fun _ _ h => h
  mu := fun n a h => by
    show (M.mu ++ [p])[n]? = some a
    have hn : n < M.mu.length := (List.getElem?_eq_some_iff.mp h).1
    rw [List.getElem?_append_left hn]; exact h
  h0 := rfl
  sa := rfl
  rest := fun a u h _ => by rw [upd_ne (ne_of_none h hp)]; exact h
  newF := fun a u h n => by rw [show (M.more p).F a = M.F a from rfl, n] at h; cases h
  newM := fun a h n => by
    have h' : a ∈ M.mu ++ [p] := h
    rcases List.mem_append.mp h' with q | q
    · exact absurd q n
    · rw [List.mem_singleton.mp q]; exact hp
  dom := fun a u h => ⟨u, by rw [upd_ne (ne_of_none h hp)]; exact h⟩
theorem rel_more (rs : RelS ca M S H) {p : Addr} {o : HO} {ob : Ob} (hp : H p = none) (r : ObR ca M o ob) : RelS ca (M.more p) (S ++ [ob]) (upd H p o) := by
  have e := ext_more (ca := ca) (o := o) rs hp
  refine ⟨fun a u h => ?_, ?_, ?_, fun a h => ?_, fun n ob' h => ?_, fun a h => rs.h0 a (upd_none h)⟩
  · have h' : M.F a = some u := h
    rw [upd_ne (fun z => by rw [z, free_F rs hp] at h'; cases h')]
    exact rs.frz a u h'
  · show (M.mu ++ [p]).length = _
    rw [List.length_append, List.length_append, rs.len]; rfl
  · exact List.nodup_append.mpr ⟨rs.nd, by simp, fun a h b q => by rw [List.mem_singleton.mp q]; exact fun z => free_mu rs hp (z ▸ h)⟩
  · have h' : a ∈ M.mu ++ [p] := h
    rcases List.mem_append.mp h' with q | q
    · exact rs.off a q
    · rw [List.mem_singleton.mp q]; exact free_F rs hp
  · by_cases q : n < S.length
    · rw [List.getElem?_append_left q] at h
      obtain ⟨a, ho, h1, h2, h3⟩ := rs.ob n ob' h
      exact ⟨a, ho, e.mu n a h1, by rw [upd_ne (ne_of_none h2 hp)]; exact h2, e.obr h3⟩
    · rw [List.getElem?_append_right (Nat.le_of_not_lt q)] at h
      have q2 : n - S.length = 0 := by
        cases z : n - S.length with
        | zero => rfl
        | succ k => rw [z] at h; simp at h
      rw [q2] at h
      simp at h
      subst h
      refine ⟨p, o, ?_, upd_same, e.obr r⟩
      show (M.mu ++ [p])[n]? = some p
      rw [List.getElem?_append_right (by rw [rs.len]; exact Nat.le_of_not_lt q), rs.len, q2]; rfl
/-- an object that was just made -/
theorem out_own (rs : RelS ca M S H) {d : D} {ob : Ob} {ho : HO} {Q : VK} (hd : obOf d = some ob) (r : ObR ca M ho ob) (o : Out ca W M σ H (.ok (.own d) S) Q) {p : Addr} (hp : H p = none) : Q (.ref p) (upd H p ho) := by
  have e : Ext M H M (upd H p ho) := {
    F := fun _ _ h => h
    mu := fun _ _ h => h
    h0 := rfl
    sa := rfl
    rest := fun a u h _ => by rw [upd_ne (ne_of_none h hp)]; exact h
    newF := fun a u h n => by rw [n] at h; cases h
    newM := fun a h n => absurd h n
    dom := fun a u h => ⟨u, by rw [upd_ne (ne_of_none h hp)]; exact h⟩ }
  refine o (.ref p) M _ e ⟨fun a u h => ?_, rs.len, rs.nd, rs.off, fun n ob' h => ?_, fun a h => rs.h0 a (upd_none h)⟩ ⟨p, ho, ob, rfl, hp, upd_same, hd, r, free_F rs hp, free_mu rs hp⟩
  · rw [upd_ne (fun z => by rw [z, free_F rs hp] at h; cases h)]
    exact rs.frz a u h
  · obtain ⟨a, ho', h1, h2, h3⟩ := rs.ob n ob' h
    exact ⟨a, ho', h1, by rw [upd_ne (ne_of_none h2 hp)]; exact h2, h3⟩
/-- a new list of values -/
theorem out_mkL (rs : RelS ca M S H) {vs : List V} {ds : List D} {Q : VK} (r : RepL ca M vs ds) (o : Out ca W M σ H (mkL ds S) Q) :
    ds.length ≤ sizeLine ∧ ∀ p, H p = none → Q (.ref p) (upd H p (.lst vs)) := by
  unfold mkL chk at o
  by_cases z : ds.length ≤ sizeLine
  · rw [if_pos z] at o
    exact ⟨z, fun p hp => out_own rs rfl (.lst r) o hp⟩
  · rw [if_neg z] at o; exact o.elim
end
end K9
end
section
set_option Elab.async false
set_option linter.all false
set_option maxRecDepth 100000
/-! K9Snd2: operators and comparisons by values. -/
namespace K9
open PySem PySem.Spec PyProof.Rows L2

variable {ca : Nat → Addr}
theorem noErC {α : Type} {p : Prop} [Decidable p] {r : R α} (h : NoEr r) : NoEr (chk p r) := by
  unfold chk
  split
  · exact h
  · exact fun _ _ _ z => nomatch z
theorem noErO {α β : Type} {o : Option α} {k : α → R β} (h : ∀ a, NoEr (k a)) : NoEr (oget o k) := by
  cases o with
  | none => exact fun _ _ _ z => nomatch z
  | some a => exact h a
theorem noErOk {α : Type} {a : α} {S : Sto} : NoEr (R.ok a S) := fun _ _ _ z => nomatch z
theorem noErBad {α : Type} : NoEr (R.bad : R α) := fun _ _ _ z => nomatch z
theorem noEr_mkL {xs : List D} {S : Sto} : NoEr (mkL xs S) := by
  unfold mkL
  exact noErC noErOk
theorem noEr_binI {op : Bop} {i j : Int} {S : Sto} : NoEr (binI op i j S) := by
  cases op <;> first | exact noErOk | exact noErC noErOk
theorem noEr_bin {op : Bop} (a b : D) (env : Env) (S : Sto) : NoEr (binD op a b env S) := by
  unfold binD
  split
  · exact noEr_binI
  · split
    · exact noErC noErOk
    · exact noErBad
  · split
    · exact noErC noErOk
    · exact noErBad
  · split
    · exact noErO fun _ => noErO fun _ => noEr_mkL
    · exact noErBad

section
variable {M : Mem} {H : Hp} {σ : L2.St} {env : Env} {S : Sto} {W : WX} {Q : VK}
/-- a value that needs no heap -/
theorem out_val (rs : RelS ca M S H) {d : D} {v : V} (r : RepX ca M σ v d) (o : Out ca W M σ H (.ok d S) Q) : Q v H := o v M H Ext.refl rs (RepT.of r)
theorem out_v (rs : RelS ca M S H) {d : D} {v : V} (r : Rep ca M v d) (o : Out ca W M σ H (.ok d S) Q) : Q v H := o v M H Ext.refl rs (RepT.of (RepX.of r))
theorem out_chk {p : Prop} [Decidable p] {r : R D} (o : Out ca W M σ H (chk p r) Q) : p ∧ Out ca W M σ H r Q := by
  unfold chk at o
  by_cases h : p
  · rw [if_pos h] at o; exact ⟨h, o⟩
  · rw [if_neg h] at o; exact o.elim
theorem out_oget {α : Type} {x : Option α} {k : α → R D} (o : Out ca W M σ H (oget x k) Q) : ∃ a, x = some a ∧ Out ca W M σ H (k a) Q := by
  cases x with
  | none => exact o.elim
  | some a => exact ⟨a, rfl, o⟩
/-- a new tuple -/
theorem out_tup (rs : RelS ca M S H) {vs : List V} {ds : List D} (r : RepL ca M vs ds) (o : Out ca W M σ H (.ok (.tup ds) S) Q) {p : Addr} (hp : H p = none) : Q (.ref p) (upd H p (.tup vs)) :=
  o (.ref p) (M.add p (.tup vs)) _ (ext_add rs hp) (rel_add rs hp) (.tup upd_same ((ext_add rs hp).repL r))
end

section
variable {X : Cx}
theorem int_of {M : Mem} {σ : L2.St} {v : V} {i : Int} (r : RepX ca M σ v (.int i)) : v = .int i := by
  cases (show Rep ca M v _ from r); rfl
theorem str_of {M : Mem} {σ : L2.St} {v : V} {i : Str} (r : RepX ca M σ v (.str i)) : v = .str i := by
  cases (show Rep ca M v _ from r); rfl
theorem bl_of {M : Mem} {σ : L2.St} {v : V} {i : Bool} (r : RepX ca M σ v (.bl i)) : v = .bl i := by
  cases (show Rep ca M v _ from r); rfl
theorem non_of {M : Mem} {σ : L2.St} {v : V} (r : RepX ca M σ v .non) : v = .non := by
  cases (show Rep ca M v _ from r); rfl
theorem tup_of {M : Mem} {S : Sto} {H : Hp} {σ : L2.St} {v : V} {ds : List D} (rs : RelS ca M S H) (r : RepX ca M σ v (.tup ds)) : ∃ a vs, v = .ref a ∧ H a = some (.tup vs) ∧ M.F a = some (.tup vs) ∧ RepL ca M vs ds := by
  cases (show Rep ca M v _ from r) with
  | tup f q => exact ⟨_, _, rfl, rs.frz _ _ f, f, q⟩
theorem opr_binI {op : Operator} {b : Bop} (hb : bopOf op = some b) {pins : List (Addr × Obj)} {s : Shared} {σ : L2.St} {H : Hp} {i j : Int} {v u : Value} {Q : VK} {M : Mem} {σ0 : L2.St} {S : Sto} {W : WX} (I : Inv X pins σ H s) (rx : RelV (.int i) v) (ry : RelV (.int j) u)
    (rs : RelS ca M S H) (o : Out ca W M σ0 H (binI b i j S) Q) : wpAny (model X.prog X.w) X.A (binaryOp op v u) (EP X pins σ Q) X.xe s := by
  cases op <;> first | (cases hb; done) | skip
  all_goals (cases hb)
  · exact op_add pins s σ H _ _ v u Q I rx ry ⟨i, j, rfl, rfl, out_v rs (.int _) o⟩
  · exact op_sub pins s σ H _ _ v u Q I rx ry ⟨i, j, rfl, rfl, out_v rs (.int _) o⟩
  · obtain ⟨h, o⟩ := out_chk o
    exact op_mul pins s σ H _ _ v u Q I rx ry ⟨i, j, rfl, rfl, h, out_v rs (.int _) o⟩
  · obtain ⟨h, o⟩ := out_chk o
    exact op_mod pins s σ H _ _ v u Q I rx ry ⟨i, j, rfl, rfl, h, out_v rs (.int _) o⟩
  · obtain ⟨⟨h0, h1, h2⟩, o⟩ := out_chk o
    obtain ⟨t, rfl⟩ := rx
    obtain ⟨t', rfl⟩ := ry
    refine pow_int h0 ?_ ⟨.int _, H, I.tok _, ⟨_, rfl⟩, out_v rs (.int _) o⟩
    have hb : Builtin.Int.intBits i ≤ 1000 := PyProof.Rows.intBits_le h2
    have h3 : (Builtin.Int.intBits i : Int) * j ≤ 1000 * j := Int.mul_le_mul_of_nonneg_right (by omega) h0
    omega
  · obtain ⟨⟨h0, h1⟩, o⟩ := out_chk o
    exact op_fdivW pins s σ H _ _ v u Q I rx ry ⟨i, j, rfl, rfl, wide_div h0 h1 (by decide) (by decide), out_v rs (.int _) o⟩
/-- a op b -/
theorem opr_bin {op : Operator} {b : Bop} (hb : bopOf op = some b) : OpR X (binaryOp op) (r2M ca (binD b)) := by
  intro pins s σ H x y v u Q I rx ry h
  obtain ⟨M, env, S, σ0, da, db, rs, re, ra, rb, o⟩ := h
  unfold binD at o
  split at o
  · obtain rfl := int_of ra
    obtain rfl := int_of rb
    exact opr_binI hb I rx ry rs o
  · obtain rfl := str_of ra
    obtain rfl := str_of rb
    split at o
    · cases op <;> first | (cases hb; done) | skip
      obtain ⟨h, o⟩ := out_chk o
      exact op_add_str pins s σ H _ _ v u Q I rx ry ⟨_, _, rfl, rfl, h, out_v rs (.str _) o⟩
    · exact o.elim
  · obtain ⟨a, xs, rfl, ha, fa, qa⟩ := tup_of rs ra
    obtain ⟨c, ys, rfl, hc, fc, qc⟩ := tup_of rs rb
    split at o
    · cases op <;> first | (cases hb; done) | skip
      obtain ⟨⟨h1, h2⟩, o⟩ := out_chk o
      have hx : xs ≠ [] := fun z => h1 (by
        subst z
        cases qa
        rfl)
      refine op_catT pins s σ H _ _ v u Q I rx ry ⟨a, c, xs, ys, rfl, rfl, SqT.of ha, SqT.of hc, hx, by rw [qa.length, qc.length]; exact h2, fun z => ?_, fun _ p hp => ?_⟩
      · subst z
        cases qc
        rw [List.append_nil] at o
        exact out_v rs (.tup fa qa) o
      · exact out_tup rs (qa.append qc) o hp
    · exact o.elim
  · split at o
    · cases op <;> first | (cases hb; done) | skip
      obtain ⟨xs, h1, o⟩ := out_oget o
      obtain ⟨ys, h2, o⟩ := out_oget o
      obtain ⟨a, vs, rfl, ha, qa⟩ := lst_at rs re ra h1
      obtain ⟨c, us, rfl, hc, qc⟩ := lst_at rs re rb h2
      obtain ⟨z, k⟩ := out_mkL rs (qa.append qc) o
      rw [List.length_append, ← qa.length, ← qc.length] at z
      exact op_cat pins s σ H _ _ v u Q I rx ry ⟨a, c, vs, us, rfl, rfl, ha, hc, z, k⟩
    · exact o.elim
end

/-! ### data -/
section
variable {K : PySem.W.Frag} {M : Mem} {H : Hp} {S : Sto}
theorem mapM_cons {n : Nat} {x : D} {xs : List D} {ps : List PyData} (h : (x :: xs).mapM (py S n) = some ps) : ∃ p qs, py S n x = some p ∧ xs.mapM (py S n) = some qs ∧ ps = p :: qs := by
  rw [List.mapM_cons] at h
  cases q : py S n x with
  | none => rw [q] at h; cases h
  | some p =>
    rw [q] at h
    cases r : xs.mapM (py S n) with
    | none => rw [r] at h; cases h
    | some qs => rw [r] at h; cases h; exact ⟨p, qs, rfl, rfl, rfl⟩
theorem dp_of (rs : RelS ca M S H) : ∀ (n : Nat) {v : V} {d : D} {p : PyData}, Rep ca M v d → py S n d = some p → Dp K H v p ∧ p.depth ≤ n ∧ p.hasDict = false := by
  intro n
  induction n with
  | zero => intro v d p _ h; cases h
  | succ n ih =>
    have all : ∀ {ds : List D} {vs : List V} {ps : List PyData}, RepL ca M vs ds → ds.mapM (py S n) = some ps → DpAll K H vs ps ∧ PyData.depthAll ps ≤ n ∧ PyData.hasDictAll ps = false := by
      intro ds
      induction ds with
      | nil =>
        intro vs ps r h
        cases r
        cases h
        exact ⟨.nil, Nat.zero_le _, rfl⟩
      | cons d ds ihd =>
        intro vs ps r h
        cases r with
        | cons r1 r2 =>
          obtain ⟨p, qs, h1, h2, rfl⟩ := mapM_cons h
          obtain ⟨a1, a2, a3⟩ := ih r1 h1
          obtain ⟨b1, b2, b3⟩ := ihd r2 h2
          refine ⟨.cons a1 b1, ?_, ?_⟩
          · simp only [PyData.depthAll]; omega
          · simp [PyData.hasDictAll, a3, b3]
    intro v d p r h
    cases r with
    | non => cases h; exact ⟨.non, by simp [PyData.depth], by simp [PyData.hasDict]⟩
    | bl b => cases h; exact ⟨.bl _, by simp [PyData.depth], by simp [PyData.hasDict]⟩
    | int i => cases h; exact ⟨.int _, by simp [PyData.depth], by simp [PyData.hasDict]⟩
    | str s => cases h; exact ⟨.str _, by simp [PyData.depth], by simp [PyData.hasDict]⟩
    | tup f q =>
      simp only [py] at h
      cases z : List.mapM (py S n) _ with
      | none => rw [z] at h; cases h
      | some ps =>
        rw [z] at h; cases h
        obtain ⟨a1, a2, a3⟩ := all q z
        exact ⟨.tup (SqT.of (rs.frz _ _ f)) a1, by simp only [PyData.depth]; omega, by simp [PyData.hasDict, a3]⟩
    | lst f q =>
      simp only [py] at h
      cases z : List.mapM (py S n) _ with
      | none => rw [z] at h; cases h
      | some ps =>
        rw [z] at h; cases h
        obtain ⟨a1, a2, a3⟩ := all q z
        exact ⟨.lst (SqL.of (rs.frz _ _ f)) a1, by simp only [PyData.depth]; omega, by simp [PyData.hasDict, a3]⟩
    | dct f e q => cases h
    | ins f e q => cases h
    | exc f e q => cases h
    | scr f q => cases h
    | ref f =>
      rename_i a k
      simp only [py] at h
      cases z : S[k]? with
      | none => rw [z] at h; cases h
      | some ob =>
        rw [z] at h
        obtain ⟨a', ho, h1, h2, h3⟩ := rs.ob k ob z
        rw [f] at h1
        cases h1
        cases ob with
        | lst xs =>
          simp only at h
          cases z : List.mapM (py S n) xs with
          | none => rw [z] at h; cases h
          | some ps =>
            rw [z] at h; cases h
            cases h3 with
            | lst q =>
              obtain ⟨a1, a2, a3⟩ := all q z
              exact ⟨.lst (SqL.of h2) a1, by simp only [PyData.depth]; omega, by simp [PyData.hasDict, a3]⟩
        | dct _ _ => cases h
        | ins _ _ _ => cases h
theorem dpAll_of (rs : RelS ca M S H) {n : Nat} : ∀ {ds : List D} {vs : List V} {ps : List PyData}, RepL ca M vs ds → ds.mapM (py S n) = some ps → DpAll K H vs ps ∧ PyData.depthAll ps ≤ n ∧ PyData.hasDictAll ps = false := by
  intro ds
  induction ds with
  | nil =>
    intro vs ps r h
    cases r
    cases h
    exact ⟨.nil, Nat.zero_le _, rfl⟩
  | cons d ds ihd =>
    intro vs ps r h
    cases r with
    | cons r1 r2 =>
      obtain ⟨p, qs, h1, h2, rfl⟩ := mapM_cons h
      obtain ⟨a1, a2, a3⟩ := dp_of (K := K) rs n r1 h1
      obtain ⟨b1, b2, b3⟩ := ihd r2 h2
      refine ⟨.cons a1 b1, ?_, ?_⟩
      · simp only [PyData.depthAll]; omega
      · simp [PyData.hasDictAll, a3, b3]
theorem dp_root (rs : RelS ca M S H) {env : Env} {σ : L2.St} (re : RelE ca M env σ H) {v : V} {d : D} {p : PyData} (r : RepX ca M σ v d) (h : pyRoot env S d = some p) : Dp K H v p ∧ p.depth ≤ 61 ∧ p.hasDict = false := by
  cases hd : d.isAcc with
  | false =>
    have e : pyRoot env S d = py S 61 d := by cases d <;> first | rfl | cases hd
    rw [e] at h
    exact dp_of rs 61 (r.rep hd) h
  | true =>
    cases d with
    | acc i =>
      simp only [pyRoot] at h
      cases z : cont env S (.acc i) with
      | none => rw [z] at h; cases h
      | some ob =>
        rw [z] at h
        obtain ⟨a, ho, e, h1, h2⟩ := cont_at rs re r z
        cases ob with
        | lst xs =>
          simp only at h
          cases y : List.mapM (py S 60) xs with
          | none => rw [y] at h; cases h
          | some ps =>
            rw [y] at h; cases h
            cases h2 with
            | lst q =>
              obtain ⟨a1, a2, a3⟩ := dpAll_of (K := K) rs q y
              subst e
              exact ⟨.lst (SqL.of h1) a1, by simp only [PyData.depth]; omega, by simp [PyData.hasDict, a3]⟩
        | dct _ _ => cases h
        | ins _ _ _ => cases h
    | _ => cases hd
end
end K9
end
section
set_option Elab.async false
set_option linter.all false
set_option maxRecDepth 100000
/-! K9Snd3: comparisons by values. -/
namespace K9
open PySem PySem.Spec PyProof.Rows L2

variable {ca : Nat → Addr}
/-- a comparison as the evaluator has it -/
def cmpF (op : Cop) (a b : D) (env : Env) (S : Sto) : R D := oget (cmpD op a b env S) fun c => .ok (.bl c) S
theorem noEr_cmp {op : Cop} (a b : D) (env : Env) (S : Sto) : NoEr (cmpF op a b env S) := noErO fun _ => noErOk

section
variable {M : Mem} {H : Hp} {σ : L2.St} {S : Sto}
theorem flat_rep {v : V} {d : D} (r : RepX ca M σ v d) (h : flatD d = true) : flatV v = true ∧ ∀ {u : V} {e : D}, RepX ca M σ u e → flatD e = true → eqV v u = eqF d e := by
  cases d with
  | non =>
    obtain rfl := non_of r
    refine ⟨rfl, fun {u e} q f => ?_⟩
    cases e with
    | non => obtain rfl := non_of q; rfl
    | bl b => obtain rfl := bl_of q; rfl
    | int b => obtain rfl := int_of q; rfl
    | str b => obtain rfl := str_of q; rfl
    | _ => cases f
  | bl b =>
    obtain rfl := bl_of r
    refine ⟨rfl, fun {u e} q f => ?_⟩
    cases e with
    | non => obtain rfl := non_of q; rfl
    | bl b => obtain rfl := bl_of q; rfl
    | int b => obtain rfl := int_of q; rfl
    | str b => obtain rfl := str_of q; rfl
    | _ => cases f
  | int b =>
    obtain rfl := int_of r
    refine ⟨rfl, fun {u e} q f => ?_⟩
    cases e with
    | non => obtain rfl := non_of q; rfl
    | bl b => obtain rfl := bl_of q; rfl
    | int b => obtain rfl := int_of q; rfl
    | str b => obtain rfl := str_of q; rfl
    | _ => cases f
  | str b =>
    obtain rfl := str_of r
    refine ⟨rfl, fun {u e} q f => ?_⟩
    cases e with
    | non => obtain rfl := non_of q; rfl
    | bl b => obtain rfl := bl_of q; rfl
    | int b => obtain rfl := int_of q; rfl
    | str b => obtain rfl := str_of q; rfl
    | _ => cases f
  | _ => cases h
/-- == of flat values, whatever they are -/
theorem eq_flat {X : Cx} {pins : List (Addr × Obj)} {s : Shared} {τ : L2.St} {H : Hp} {x y : V} {v u : Value} {Q : VK} {a b : D} (hu : X.A.units + 65 < cLine) (I : Inv X pins τ H s) (rx : RelV x v) (ry : RelV y u)
    (ra : RepX ca M σ x a) (rb : RepX ca M σ y b) (fa : flatD a = true) (fb : flatD b = true) (q : Q (.bl (eqF a b)) H) : wpAny (model X.prog X.w) X.A (compareOp .Eq v u) (EP X pins τ Q) X.xe s := by
  have hu' : X.A.units + 64 < cLine := by omega
  have scalar : scal x y = true → eqF a b = decide (x = y) → wpAny (model X.prog X.w) X.A (compareOp .Eq v u) (EP X pins τ Q) X.xe s := fun h e => op_eq pins s τ H x y v u Q I rx ry ⟨h, by rw [← e]; exact q⟩
  cases a with
  | non =>
    obtain rfl := non_of ra
    cases b with
    | non => obtain rfl := non_of rb; exact scalar rfl (by simp [eqF])
    | bl j => obtain rfl := bl_of rb; exact scalar rfl (by simp [eqF])
    | int j => obtain rfl := int_of rb; exact scalar rfl (by simp [eqF])
    | str j => obtain rfl := str_of rb; exact scalar rfl (by simp [eqF])
    | _ => cases fb
  | bl i =>
    obtain rfl := bl_of ra
    cases b with
    | non => obtain rfl := non_of rb; exact scalar rfl (by simp [eqF])
    | bl j => obtain rfl := bl_of rb; exact scalar rfl dec_bl.symm
    | int j =>
      obtain rfl := int_of rb
      exact op_eqD hu' pins s τ H _ _ v u Q I rx ry ⟨_, _, .bl i, .int j, rfl, rfl, by simpa only [PyData.eqv, eqF] using q⟩
    | str j => obtain rfl := str_of rb; exact scalar rfl (by simp [eqF])
    | _ => cases fb
  | int i =>
    obtain rfl := int_of ra
    cases b with
    | non => obtain rfl := non_of rb; exact scalar rfl (by simp [eqF])
    | bl j =>
      obtain rfl := bl_of rb
      exact op_eqD hu' pins s τ H _ _ v u Q I rx ry ⟨_, _, .int i, .bl j, rfl, rfl, by simpa only [PyData.eqv, eqF] using q⟩
    | int j => obtain rfl := int_of rb; exact scalar rfl dec_int.symm
    | str j => obtain rfl := str_of rb; exact scalar rfl (by simp [eqF])
    | _ => cases fb
  | str i =>
    obtain rfl := str_of ra
    cases b with
    | non => obtain rfl := non_of rb; exact scalar rfl (by simp [eqF])
    | bl j => obtain rfl := bl_of rb; exact scalar rfl (by simp [eqF])
    | int j => obtain rfl := int_of rb; exact scalar rfl (by simp [eqF])
    | str j => obtain rfl := str_of rb; exact scalar rfl dec_str.symm
    | _ => cases fb
  | _ => cases fa
theorem ne_flat {X : Cx} {pins : List (Addr × Obj)} {s : Shared} {τ : L2.St} {H : Hp} {x y : V} {v u : Value} {Q : VK} {a b : D} (hu : X.A.units + 65 < cLine) (I : Inv X pins τ H s) (rx : RelV x v) (ry : RelV y u)
    (ra : RepX ca M σ x a) (rb : RepX ca M σ y b) (fa : flatD a = true) (fb : flatD b = true) (q : Q (.bl (!eqF a b)) H) : wpAny (model X.prog X.w) X.A (compareOp .NotEq v u) (EP X pins τ Q) X.xe s := by
  have hu' : X.A.units + 64 < cLine := by omega
  have scalar : scal x y = true → eqF a b = decide (x = y) → wpAny (model X.prog X.w) X.A (compareOp .NotEq v u) (EP X pins τ Q) X.xe s := fun h e => op_ne pins s τ H x y v u Q I rx ry ⟨h, by rw [← e]; exact q⟩
  cases a with
  | non =>
    obtain rfl := non_of ra
    cases b with
    | non => obtain rfl := non_of rb; exact scalar rfl (by simp [eqF])
    | bl j => obtain rfl := bl_of rb; exact scalar rfl (by simp [eqF])
    | int j => obtain rfl := int_of rb; exact scalar rfl (by simp [eqF])
    | str j => obtain rfl := str_of rb; exact scalar rfl (by simp [eqF])
    | _ => cases fb
  | bl i =>
    obtain rfl := bl_of ra
    cases b with
    | non => obtain rfl := non_of rb; exact scalar rfl (by simp [eqF])
    | bl j => obtain rfl := bl_of rb; exact scalar rfl dec_bl.symm
    | int j =>
      obtain rfl := int_of rb
      exact op_neD hu' pins s τ H _ _ v u Q I rx ry ⟨_, _, .bl i, .int j, rfl, rfl, by simpa only [PyData.eqv, eqF] using q⟩
    | str j => obtain rfl := str_of rb; exact scalar rfl (by simp [eqF])
    | _ => cases fb
  | int i =>
    obtain rfl := int_of ra
    cases b with
    | non => obtain rfl := non_of rb; exact scalar rfl (by simp [eqF])
    | bl j =>
      obtain rfl := bl_of rb
      exact op_neD hu' pins s τ H _ _ v u Q I rx ry ⟨_, _, .int i, .bl j, rfl, rfl, by simpa only [PyData.eqv, eqF] using q⟩
    | int j => obtain rfl := int_of rb; exact scalar rfl dec_int.symm
    | str j => obtain rfl := str_of rb; exact scalar rfl (by simp [eqF])
    | _ => cases fb
  | str i =>
    obtain rfl := str_of ra
    cases b with
    | non => obtain rfl := non_of rb; exact scalar rfl (by simp [eqF])
    | bl j => obtain rfl := bl_of rb; exact scalar rfl (by simp [eqF])
    | int j => obtain rfl := int_of rb; exact scalar rfl (by simp [eqF])
    | str j => obtain rfl := str_of rb; exact scalar rfl dec_str.symm
    | _ => cases fb
  | _ => cases fa
theorem shaped_of {p : PyData} (h : p.canLay0 = true) (d : p.depth ≤ 61) : SeqAt.shaped p = true := by
  unfold SeqAt.shaped
  rw [h, decide_eq_true (show p.depth ≤ 64 by omega)]; rfl
theorem inV_of {x : V} {a : D} (ra : RepX ca M σ x a) (fa : flatD a = true) : ∀ {vs : List V} {ds : List D}, RepL ca M vs ds → ds.all flatD = true → vs.all flatV = true ∧ inV x vs = ds.any fun y => eqF y a
  | _, _, .nil, _ => ⟨rfl, rfl⟩
  | _, _, .cons r t, h => by
    rw [List.all_cons, Bool.and_eq_true] at h
    obtain ⟨h1, h2⟩ := flat_rep (σ := σ) (RepX.of r) h.1
    obtain ⟨a1, a2⟩ := inV_of ra fa t h.2
    have a2' : (List.any _ fun y => eqV y x) = _ := a2
    refine ⟨by rw [List.all_cons, h1, a1]; rfl, ?_⟩
    unfold inV
    rw [List.any_cons, List.any_cons, h2 ra fa, a2']
theorem val_keys (kvs : List (L2.Key × V)) (k : L2.Key) : (valV kvs k).isSome = hasKey (kvs.map (·.1)) k := by
  rw [← valV_any]
  unfold hasKey
  rw [List.any_map]; rfl
theorem isNon_of {x : V} {a : D} {c : Bool} (ra : RepX ca M σ x a) (h : isNon a = some c) : decide (x = .non) = c := by
  cases a with
  | non => obtain rfl := non_of ra; cases h; rfl
  | acc i => cases h
  | _ =>
    cases h
    refine decide_eq_false fun hx => ?_
    subst hx
    cases (show Rep ca M .non _ from ra)
theorem key_v {v : V} {d : D} {k : L2.Key} (r : RepX ca M σ v d) (h : keyOf d = some k) : v = kV k := by
  cases d with
  | int i => cases h; exact int_of r
  | str z => cases h; exact str_of r
  | _ => cases h
end

section
variable {X : Cx}
theorem in_ok {pins : List (Addr × Obj)} {s : Shared} {τ σ : L2.St} {H : Hp} {x y : V} {v u : Value} {a b : D} {M : Mem} {S : Sto} {env : Env} {c : Bool} {G : Prop} (hu : X.A.units + 65 < cLine) (I : Inv X pins τ H s) (rx : RelV x v) (ry : RelV y u)
    (rs : RelS ca M S H) (re : RelE ca M env σ H) (ra : RepX ca M σ x a) (rb : RepX ca M σ y b) (hc : inD env S a b = some c)
    (k1 : (∃ i j, x = .str i ∧ y = .str j ∧ c = inStr i j) → G)
    (k2 : (∃ p vs, y = .ref p ∧ (SqL X.K H p vs ∨ SqT X.K H p vs) ∧ flatV x = true ∧ vs.all flatV = true ∧ inV x vs = c) → G)
    (k3 : (∃ d ds, Dp X.K H x d ∧ Dp X.K H y (.list ds) ∧ SeqAt.shaped d = true ∧ SeqAt.shaped (.list ds) = true ∧ (ds.any fun z => PyData.eqv z d) = c) → G)
    (k4 : (∃ p kvs k, y = .ref p ∧ H p = some (.dK kvs) ∧ x = kV k ∧ (valV kvs k).isSome = c) → G) : G := by
  unfold inD at hc
  split at hc
  · obtain rfl := str_of rb
    split at hc
    · obtain rfl := str_of ra
      cases hc
      exact k1 ⟨_, _, rfl, rfl, rfl⟩
    · cases hc
  · split at hc
    · rename_i xs hs
      split at hc
      · rename_i hf
        cases hc
        rw [Bool.and_eq_true] at hf
        obtain ⟨p, vs, rfl, hp, r⟩ := seq_at rs re rb hs
        obtain ⟨a1, a2⟩ := inV_of ra hf.1 r hf.2
        exact k2 ⟨p, vs, rfl, hp.elim (fun z => .inl (SqL.of z)) (fun z => .inr (SqT.of z)), (flat_rep ra hf.1).1, a1, a2⟩
      · split at hc
        · rename_i ys hl
          split at hc
          · rename_i p1 qs e1 e2
            split at hc
            · rename_i hlay
              cases hc
              rw [Bool.and_eq_true] at hlay
              have hacc : a.isAcc = false := by cases a <;> first | rfl | cases e1
              obtain ⟨d1, n1, _⟩ := dp_of (K := X.K) rs 60 (ra.rep hacc) e1
              obtain ⟨p, vs, rfl, hp, r⟩ := lst_at rs re rb hl
              obtain ⟨d2, n2, _⟩ := dpAll_of (K := X.K) rs r e2
              exact k3 ⟨p1, qs, d1, .lst (SqL.of hp) d2, shaped_of hlay.1 (by omega), shaped_of (p := .list qs) hlay.2 (by simp only [PyData.depth]; omega), rfl⟩
            · cases hc
          · cases hc
        · cases hc
    · split at hc
      · rename_i k hd hk
        cases hc
        obtain ⟨p, ho, rfl, hp, r⟩ := cont_at rs re rb hd
        cases r with
        | dct e q =>
          subst e
          exact k4 ⟨p, _, k, rfl, hp, key_v ra hk, val_keys _ _⟩
      · cases hc
/-- a cmp b -/
theorem opr_cmp {op : CmpOp} (hu : X.A.units + 65 < cLine) : OpR X (compareOp op) (r2M ca (cmpF (copOf op))) := by
  intro pins s τ H x y v u Q I rx ry h
  obtain ⟨M, env, S, σ, a, b, rs, re, ra, rb, o⟩ := h
  have hu64 : X.A.units + 64 < cLine := by omega
  obtain ⟨c, hc, o⟩ := out_oget o
  have q : Q (.bl c) H := out_v rs (.bl c) o
  clear o
  cases op with
  | Eq =>
    simp only [copOf, cmpD, eqD] at hc
    split at hc
    · rename_i hf
      cases hc
      rw [Bool.and_eq_true] at hf
      exact eq_flat hu I rx ry ra rb hf.1 hf.2 q
    · split at hc
      · rename_i p1 p2 e1 e2
        split at hc
        · rename_i hl
          cases hc
          rw [Bool.and_eq_true] at hl
          obtain ⟨d1, n1, _⟩ := dp_root (K := X.K) rs re ra e1
          obtain ⟨d2, n2, _⟩ := dp_root (K := X.K) rs re rb e2
          exact op_eqD hu64 pins s τ H x y v u Q I rx ry ⟨_, _, d1, d2, shaped_of hl.1 n1, shaped_of hl.2 n2, q⟩
        · cases hc
      · cases hc
  | NotEq =>
    simp only [copOf, cmpD, eqD] at hc
    split at hc
    · rename_i hf
      cases hc
      rw [Bool.and_eq_true] at hf
      exact ne_flat hu I rx ry ra rb hf.1 hf.2 q
    · split at hc
      · rename_i p1 p2 e1 e2
        split at hc
        · rename_i hl
          cases hc
          rw [Bool.and_eq_true] at hl
          obtain ⟨d1, n1, _⟩ := dp_root (K := X.K) rs re ra e1
          obtain ⟨d2, n2, _⟩ := dp_root (K := X.K) rs re rb e2
          exact op_neD hu64 pins s τ H x y v u Q I rx ry ⟨_, _, d1, d2, shaped_of hl.1 n1, shaped_of hl.2 n2, q⟩
        · cases hc
      · cases hc
  | Lt =>
    simp only [copOf, cmpD] at hc
    split at hc
    · cases hc
      obtain rfl := int_of ra
      obtain rfl := int_of rb
      exact op_lt pins s τ H _ _ v u Q I rx ry ⟨_, _, rfl, rfl, q⟩
    · cases hc
  | LtE =>
    simp only [copOf, cmpD] at hc
    split at hc
    · cases hc
      obtain rfl := int_of ra
      obtain rfl := int_of rb
      exact op_le pins s τ H _ _ v u Q I rx ry ⟨_, _, rfl, rfl, q⟩
    · cases hc
  | Gt =>
    simp only [copOf, cmpD] at hc
    split at hc
    · cases hc
      obtain rfl := int_of ra
      obtain rfl := int_of rb
      exact op_gt pins s τ H _ _ v u Q I rx ry ⟨_, _, rfl, rfl, q⟩
    · cases hc
  | GtE =>
    simp only [copOf, cmpD] at hc
    split at hc
    · cases hc
      obtain rfl := int_of ra
      obtain rfl := int_of rb
      exact op_ge pins s τ H _ _ v u Q I rx ry ⟨_, _, rfl, rfl, q⟩
    · cases hc
  | Is =>
    simp only [copOf, cmpD] at hc
    split at hc
    · obtain rfl := non_of rb
      exact op_isN pins s τ H _ _ v u Q I rx ry ⟨rfl, by rw [isNon_of ra hc]; exact q⟩
    · cases hc
  | IsNot =>
    simp only [copOf, cmpD] at hc
    split at hc
    · obtain rfl := non_of rb
      cases e : isNon a with
      | none => rw [e] at hc; cases hc
      | some c' =>
        rw [e] at hc
        cases hc
        exact op_notN pins s τ H _ _ v u Q I rx ry ⟨rfl, by rw [isNon_of ra e]; exact q⟩
    · cases hc
  | In =>
    simp only [copOf, cmpD] at hc
    exact in_ok hu I rx ry rs re ra rb hc (fun e => op_in_str pins s τ H x y v u Q I rx ry (by obtain ⟨i, j, rfl, rfl, rfl⟩ := e; exact ⟨i, j, rfl, rfl, q⟩))
      (fun ⟨p, vs, e1, e2, e3, e4, e5⟩ => op_in_seq pins s τ H x y v u Q I rx ry ⟨p, vs, e1, e2, e3, e4, by rw [if_neg Bool.false_ne_true, e5]; exact q⟩)
      (fun ⟨d, ds, e1, e2, e3, e4, e5⟩ => op_inD hu pins s τ H x y v u Q I rx ry ⟨d, ds, e1, e2, e3, e4, by rw [e5]; exact q⟩)
      (fun ⟨p, kvs, k, e1, e2, e3, e4⟩ => by
        subst e1
        cases ry
        subst e3
        exact d_in (by omega) I (DGet.k e2) rx fun s' I' => ⟨.bl (valV kvs k).isSome, H, I', rfl, by rw [e4]; exact q⟩)
  | NotIn =>
    simp only [copOf, cmpD] at hc
    cases e : inD env S a b with
    | none => rw [e] at hc; cases hc
    | some c' =>
      rw [e] at hc
      cases hc
      exact in_ok hu I rx ry rs re ra rb e (fun e => op_notin_str pins s τ H x y v u Q I rx ry (by obtain ⟨i, j, rfl, rfl, rfl⟩ := e; exact ⟨i, j, rfl, rfl, q⟩))
        (fun ⟨p, vs, e1, e2, e3, e4, e5⟩ => op_notIn_seq pins s τ H x y v u Q I rx ry ⟨p, vs, e1, e2, e3, e4, by rw [if_pos rfl, e5]; exact q⟩)
        (fun ⟨d, ds, e1, e2, e3, e4, e5⟩ => op_notInD hu pins s τ H x y v u Q I rx ry ⟨d, ds, e1, e2, e3, e4, by rw [e5]; exact q⟩)
        (fun ⟨p, kvs, k, e1, e2, e3, e4⟩ => by
          subst e1
          cases ry
          subst e3
          exact d_notIn (by omega) I (DGet.k e2) rx fun s' I' => ⟨.bl (!(valV kvs k).isSome), H, I', rfl, by rw [e4]; exact q⟩)
end
end K9
end
section
set_option Elab.async false
set_option linter.all false
set_option maxRecDepth 100000
/-! K9Snd4: subscripts, slices, built-ins by values. -/
namespace K9
open PySem PySem.Spec PyProof.Rows L2

variable {ca : Nat → Addr}
section
variable {M : Mem} {H : Hp} {σ : L2.St} {S : Sto} {env : Env}
theorem noEr_ix (a b : D) (env : Env) (S : Sto) : NoEr (ixD a b env S) := by
  unfold ixD
  split
  · exact noErO fun _ => noErOk
  · exact noErC (noErO fun _ => noErOk)
  · split
    · exact noErO fun _ => noErOk
    · exact noErBad
    · split
      · exact noErO fun _ => noErOk
      · exact noErBad
theorem RepL.at {vs : List V} {ds : List D} (r : RepL ca M vs ds) {i : Int} {d : D} (h : L2.atI ds i = some d) : ∃ v, L2.atI vs i = some v ∧ Rep ca M v d := by
  unfold L2.atI at h ⊢
  rw [r.length]
  cases e : ixN ds.length i with
  | none => rw [e] at h; cases h
  | some j =>
    rw [e] at h
    exact r.get h
theorem look_val : ∀ (kvs : List (L2.Key × V)) (ds : List D) (k : L2.Key), RepL ca M (kvs.map (·.2)) ds → (∀ d, lookD (kvs.map (·.1)) ds k = some d → ∃ v, valV kvs k = some v ∧ Rep ca M v d) ∧ (lookD (kvs.map (·.1)) ds k = none → valV kvs k = none)
  | [], ds, k, r => by
    cases r
    exact ⟨(fun d h => by cases h), fun _ => rfl⟩
  | p :: kvs, ds, k, r => by
    rw [List.map_cons] at r ⊢
    cases r with
    | cons r1 r2 =>
      simp only [lookD]
      obtain ⟨h1, h2⟩ := look_val kvs _ k r2
      by_cases e : k = p.1
      · rw [if_pos e, valV_pos e.symm]
        exact ⟨(fun d h => by cases h; exact ⟨_, rfl, r1⟩), (fun h => by cases h)⟩
      · rw [if_neg e, valV_neg fun z => e z.symm]
        exact ⟨h1, h2⟩
end
section
variable {X : Cx}
/-- a dict's item -/
def rIxD : R2 := fun x y H Q => ∃ a v, x = .ref a ∧ DGet H a y (some v) ∧ Q v H
theorem ix_dict (hu : X.A.units + 1 < cLine) : IxR X rIxD := by
  intro value slice pins s σ H x y v u Q I rx ry h hs
  obtain ⟨a, w, rfl, g, q⟩ := h
  obtain rfl : v = Value.ref a := rx
  exact tail_any (ops := [.ref a, u]) (dict_typeIs I g) PySem.F.slot_dict_getitem.lookup (d_getItem hu I g ry fun w' s3 I3 rw' => ⟨w, H, I3, rw', q⟩) hs
/-- a[i] -/
theorem ixr_ix (hu : X.A.units + 65 < cLine) : IxR X (r2M ca ixD) := by
  intro value slice pins s τ H x y v u Q I rx ry h hs
  obtain ⟨M, env, S, σ, a, b, rs, re, ra, rb, o⟩ := h
  unfold ixD at o
  split at o
  · obtain rfl := int_of rb
    obtain ⟨d, h2, o⟩ := out_oget o
    cases (show Rep ca M x _ from ra) with
    | scr f r =>
      obtain ⟨w, hw, rw'⟩ := RepL.at r h2
      exact ix_list value slice pins s τ H _ _ v u Q I rx ry ⟨_, _, _, w, rfl, rfl, .inl (.inr ⟨_, rs.frz _ _ f⟩), hw, out_v rs rw' o⟩ hs
  · obtain rfl := str_of ra
    obtain rfl := int_of rb
    obtain ⟨h1, o⟩ := out_chk o
    obtain ⟨c, h2, o⟩ := out_oget o
    exact ix_str value slice pins s τ H _ _ v u Q I rx ry ⟨_, _, c, rfl, rfl, h1, h2, out_v rs (.str _) o⟩ hs
  · split at o
    · obtain rfl := int_of rb
      obtain ⟨d, h2, o⟩ := out_oget o
      obtain ⟨p, vs, rfl, hp, r⟩ := seq_at rs re ra (by assumption)
      obtain ⟨w, hw, rw'⟩ := RepL.at r h2
      rcases hp with hp | hp
      · exact ix_list value slice pins s τ H _ _ v u Q I rx ry ⟨p, vs, _, w, rfl, rfl, SqL.of hp, hw, out_v rs rw' o⟩ hs
      · exact ix_tup value slice pins s τ H _ _ v u Q I rx ry ⟨p, vs, _, w, rfl, rfl, SqT.of hp, hw, out_v rs rw' o⟩ hs
    · exact o.elim
    · split at o
      · rename_i ks ws k hd hk
        obtain ⟨d, h2, o1⟩ := out_oget o
        clear o
        obtain ⟨p, ho, rfl, hp, r⟩ := cont_at rs re ra hd
        cases r with
        | dct e q =>
          subst e
          obtain ⟨w, hw, rw'⟩ := (look_val _ _ _ q).1 d h2
          have hy := key_v rb hk
          refine ix_dict (by omega) value slice pins s τ H _ y v u Q I rx ry ⟨p, w, rfl, ?_, out_v rs rw' o1⟩ hs
          rw [hy, ← hw]
          exact DGet.k hp
      · exact o.elim
/-- a[lo:hi] -/
def rSlM (ca : Nat → Addr)   : V → Option Int → Option Int → Hp → VK → Prop := fun x lo hi H Q => ∃ M env S σ a, RelS ca M S H ∧ RelE ca M env σ H ∧ RepX ca M σ x a ∧ Out ca (fun _ _ _ _ => False) M σ H (slD a lo hi env S) Q
theorem noEr_sl (a : D) (l h : Option Int) (env : Env) (S : Sto) : NoEr (slD a l h env S) := by
  unfold slD
  split
  · exact noErC noErOk
  · exact noErOk
  · exact noErO fun _ => noEr_mkL
theorem RepL.cut {M : Mem} {vs : List V} {ds : List D} (r : RepL ca M vs ds) (lo hi : Option Int) : RepL ca M (cutV vs lo hi) (cutL ds lo hi) := by
  unfold cutV cutL
  rw [r.length]
  exact (r.drop _).take _
theorem slr_sl : L2.SlR X (rSlM ca) := by
  intro pins s τ H x v vl vu lo hi sl Q I rx hs pl pu h
  obtain ⟨M, env, S, σ, a, rs, re, ra, o⟩ := h
  unfold slD at o
  split at o
  · obtain rfl := str_of ra
    obtain ⟨h1, o⟩ := out_chk o
    exact sl_str pins s τ H _ v vl vu lo hi sl Q I rx hs pl pu ⟨_, rfl, h1, out_v rs (.str _) o⟩
  · obtain ⟨p, vs, rfl, hp, fp, r⟩ := tup_of rs ra
    refine sl_tupA pins s τ H _ v vl vu lo hi sl Q I rx hs pl pu ⟨p, vs, rfl, SqT.of hp, fun z => ?_, fun _ q hq => out_tup rs (r.cut lo hi) o hq⟩
    rename_i ds
    have e : cutL ds lo hi = ds := by
      unfold cutL
      rw [← r.length, z.1, z.2, List.drop_zero, Nat.sub_zero]
      exact List.take_of_length_le (Nat.le_of_eq r.length.symm)
    rw [e] at o
    exact out_v rs (.tup fp r) o
  · obtain ⟨xs, hx, o⟩ := out_oget o
    obtain ⟨p, vs, rfl, hp, r⟩ := lst_at rs re ra hx
    exact sl_list pins s τ H _ v vl vu lo hi sl Q I rx hs pl pu ⟨p, vs, rfl, SqL.of hp, (out_mkL rs (r.cut lo hi) o).2⟩
end
end K9
end
section
set_option Elab.async false
set_option linter.all false
set_option maxRecDepth 100000
/-! K9Snd5: built-ins that are called, by values. -/
namespace K9
open PySem PySem.Spec PyProof.Rows L2

variable {ca : Nat → Addr}
/-- the built-in as the module's names give it -/
def biVal : Bi → Value
  | .abs => .builtin "abs" | .all => .builtin "all" | .any => .builtin "any" | .dict => .type "dict" | .int => .type "int" | .len => .builtin "len" | .list => .type "list" | .max => .builtin "max" | .min => .builtin "min"
  | .repr => .builtin "repr" | .sorted => .builtin "sorted" | .str => .type "str" | .sum => .builtin "sum" | .tuple => .type "tuple"
def rBi (ca : Nat → Addr) (b : Bi) : List V → Hp → VK → Prop := fun vs H Q => ∃ M env S σ ds, RelS ca M S H ∧ RelE ca M env σ H ∧ RepXL ca M σ vs ds ∧ Out ca (fun _ _ _ _ => False) M σ H (biD b ds env S) Q
theorem noEr_bi {b : Bi} (ds : List D) (env : Env) (S : Sto) : NoEr (biD b ds env S) := by
  unfold biD
  split <;> first
    | exact noErOk
    | exact noErBad
    | exact noErC noErOk
    | exact noErO fun _ => noErO fun _ => noErOk
    | exact noErO fun _ => noErC noErOk
    | exact noErO fun _ => noErOk
    | exact noErO fun _ => noEr_mkL
    | (split
       · exact noErOk
       · split
         · exact noErOk
         · exact noErBad)
section
variable {M : Mem} {H : Hp} {σ : L2.St} {S : Sto} {env : Env}
theorem one_x {vs : List V} {d : D} (r : RepXL ca M σ vs [d]) : ∃ v, vs = [v] ∧ RepX ca M σ v d := by
  cases r with
  | cons r t => cases t; exact ⟨_, rfl, r⟩
theorem two_x {vs : List V} {d e : D} (r : RepXL ca M σ vs [d, e]) : ∃ v u, vs = [v, u] ∧ RepX ca M σ v d ∧ RepX ca M σ u e := by
  cases r with
  | cons r t => cases t with | cons r2 t => cases t; exact ⟨_, _, rfl, r, r2⟩
theorem boolsD_of : ∀ {ds : List D} {vs : List V} {bs : List Bool}, RepL ca M vs ds → boolsD ds = some bs → vs = bs.map V.bl
  | [], _, _, .nil, h => by cases h; rfl
  | d :: ds, _, _, .cons r t, h => by
    cases d with
    | bl b =>
      simp only [boolsD] at h
      cases e : boolsD ds with
      | none => rw [e] at h; cases h
      | some bs =>
        rw [e] at h; cases h
        cases r
        rw [List.map_cons, boolsD_of t e]
    | _ => cases h
theorem intsD_of : ∀ {ds : List D} {vs : List V} {bs : List Int}, RepL ca M vs ds → intsD ds = some bs → vs = bs.map V.int
  | [], _, _, .nil, h => by cases h; rfl
  | d :: ds, _, _, .cons r t, h => by
    cases d with
    | int b =>
      simp only [intsD] at h
      cases e : intsD ds with
      | none => rw [e] at h; cases h
      | some bs =>
        rw [e] at h; cases h
        cases r
        rw [List.map_cons, intsD_of t e]
    | _ => cases h
theorem strsD_of : ∀ {ds : List D} {vs : List V} {bs : List Str}, RepL ca M vs ds → strsD ds = some bs → vs = bs.map V.str
  | [], _, _, .nil, h => by cases h; rfl
  | d :: ds, _, _, .cons r t, h => by
    cases d with
    | str b =>
      simp only [strsD] at h
      cases e : strsD ds with
      | none => rw [e] at h; cases h
      | some bs =>
        rw [e] at h; cases h
        cases r
        rw [List.map_cons, strsD_of t e]
    | _ => cases h
end
section
variable {X : Cx}
theorem call_reprD (hu : X.A.units + 65 < cLine) (hg : X.A.guards = some []) : CallR X (.builtin "repr") (fun vs H Q => ∃ v p, vs = [v] ∧ Dp X.K H v p ∧ p.depth ≤ 61 ∧ p.hasDict = false ∧ p.showable = true ∧ p.shown.length ≤ sizeLine ∧ Q (.str p.shown) H) := by
  intro pins s σ H vs us Q I r h
  obtain ⟨v, p, rfl, dp, dep, nd, sh, len, q⟩ := h
  obtain ⟨u, rfl, rv⟩ := Vals.one r
  obtain ⟨as, rd⟩ := Dp.reads I p v u dp rv
  have fin : ∀ (h' : Heap) (t : Tok) (tk : Nat), (∀ b o, s.heap.get? b = some o → h'.get? b = some o) → EP X pins σ Q (.str p.shown t) { s with heap := h', toks := tk } :=
    fun h' t tk k => ⟨.str p.shown, H, I.kept k, ⟨t, rfl⟩, q⟩
  cases dp with
  | non => cases rv; exact PySem.P.repr_of_none (by simpa only [PyData.shown] using fin s.heap _ _ fun _ _ z => z)
  | bl b => cases rv; exact PySem.P.repr_of_bool (by simpa only [PyData.shown] using fin s.heap _ _ fun _ _ z => z)
  | int i =>
    obtain ⟨t, rfl⟩ := rv
    exact PySem.P.repr_of_int (by simpa [PyData.showable] using sh) (by simpa only [PyData.shown] using fin s.heap _ _ fun _ _ z => z)
  | str z =>
    obtain ⟨t, rfl⟩ := rv
    exact PySem.P.repr_of_str (by simpa only [PyData.shown] using fin s.heap _ _ fun _ _ z => z) (by simpa only [PyData.shown] using len)
  | lst _ _ =>
    cases rv
    exact repr_of_reads' rd sh (fun z => by rw [nd] at z; cases z) hg (by omega) (fun _ _ z => z) (fun h' u tk k => fin h' u tk k) len
  | tup _ _ =>
    cases rv
    exact repr_of_reads' rd sh (fun z => by rw [nd] at z; cases z) hg (by omega) (fun _ _ z => z) (fun h' u tk k => fin h' u tk k) len
theorem call_len_d : CallR X (.builtin "len") (fun vs H Q => ∃ a kvs, vs = [.ref a] ∧ H a = some (.dK kvs) ∧ Q (.int kvs.length) H) := by
  intro pins s σ H vs us Q I r h
  obtain ⟨a, kvs, rfl, ha, q⟩ := h
  obtain ⟨u, rfl, rv⟩ := Vals.one r
  cases rv
  exact d_len I (.inl ha) fun t s' I' => ⟨.int kvs.length, H, I', ⟨t, rfl⟩, q⟩
/-- f(..), f a built-in -/
theorem callR_bi {b : Bi} (hc : X.calm = true) (hu : X.A.units + 65 < cLine) (hg : X.A.guards = some []) : CallR X (biVal b) (rBi ca b) := by
  intro pins s τ H vs us Q I r h
  obtain ⟨M, env, S, σ, ds, rs, re, rx, o⟩ := h
  unfold biD at o
  split at o
  · obtain ⟨v, rfl, rv⟩ := one_x rx
    obtain rfl := int_of rv
    exact call_abs pins s τ H _ us Q I r ⟨_, rfl, out_v rs (.int _) o⟩
  · obtain ⟨v, rfl, rv⟩ := one_x rx
    obtain ⟨xs, h1, o⟩ := out_oget o
    obtain ⟨bs, h2, o⟩ := out_oget o
    obtain ⟨a, ws, rfl, ha, q⟩ := lst_at rs re rv h1
    obtain rfl := boolsD_of q h2
    exact cr_all hc pins s τ H _ us Q I r ⟨a, bs, rfl, SqL.of ha, out_v rs (.bl _) o⟩
  · obtain ⟨v, rfl, rv⟩ := one_x rx
    obtain ⟨xs, h1, o⟩ := out_oget o
    obtain ⟨bs, h2, o⟩ := out_oget o
    obtain ⟨a, ws, rfl, ha, q⟩ := lst_at rs re rv h1
    obtain rfl := boolsD_of q h2
    exact cr_any hc pins s τ H _ us Q I r ⟨a, bs, rfl, SqL.of ha, out_v rs (.bl _) o⟩
  · obtain ⟨v, rfl, rv⟩ := one_x rx
    obtain rfl := int_of rv
    exact call_int1 pins s τ H _ us Q I r (.inl ⟨_, rfl, out_v rs (.int _) o⟩)
  · obtain ⟨v, rfl, rv⟩ := one_x rx
    obtain rfl := bl_of rv
    exact call_int1 pins s τ H _ us Q I r (.inr ⟨_, rfl, out_v rs (.int _) o⟩)
  · obtain ⟨v, rfl, rv⟩ := one_x rx
    obtain rfl := str_of rv
    obtain ⟨h1, o⟩ := out_chk o
    exact call_len_str pins s τ H _ us Q I r ⟨_, rfl, h1, out_v rs (.int _) o⟩
  · obtain ⟨v, rfl, rv⟩ := one_x rx
    cases (show Rep ca M v _ from rv) with
    | scr f q =>
      rw [← q.length] at o
      exact call_len_seq pins s τ H _ us Q I r ⟨_, _, rfl, .inl (.inl (.inr ⟨_, rs.frz _ _ f⟩)), out_v rs (.int _) o⟩
  · obtain ⟨v, rfl, rv⟩ := one_x rx
    split at o
    · rename_i xs h1
      obtain ⟨a, ws, rfl, ha, q⟩ := seq_at rs re rv h1
      rw [← q.length] at o
      exact call_len_seq pins s τ H _ us Q I r ⟨a, ws, rfl, ha.elim (fun z => .inl (SqL.of z)) (fun z => .inr (SqT.of z)), out_v rs (.int _) o⟩
    · split at o
      · rename_i h1
        obtain ⟨a, ho, rfl, ha, q⟩ := cont_at rs re rv h1
        cases q with
        | dct e q =>
          subst e
          rw [List.length_map] at o
          exact call_len_d pins s τ H _ us Q I r ⟨a, _, rfl, ha, out_v rs (.int _) o⟩
      · exact o.elim
  · obtain ⟨v, rfl, rv⟩ := one_x rx
    obtain ⟨xs, h1, o⟩ := out_oget o
    obtain ⟨a, ws, rfl, ha, q⟩ := seq_at rs re rv h1
    exact call_list_of pins s τ H _ us Q I r ⟨a, ws, rfl, ha.elim (fun z => .inl (SqL.of z)) (fun z => .inr (SqT.of z)), (out_mkL rs q o).2⟩
  · obtain ⟨v, rfl, rv⟩ := one_x rx
    obtain ⟨a, ws, rfl, ha, fa, q⟩ := tup_of rs rv
    exact call_tuple_of pins s τ H _ us Q I r ⟨a, ws, rfl, .inr ⟨SqT.of ha, out_v rs (.tup fa q) o⟩⟩
  · obtain ⟨v, rfl, rv⟩ := one_x rx
    obtain ⟨xs, h1, o⟩ := out_oget o
    obtain ⟨a, ws, rfl, ha, q⟩ := lst_at rs re rv h1
    exact call_tuple_of pins s τ H _ us Q I r ⟨a, ws, rfl, .inl ⟨SqL.of ha, fun l hl => out_tup rs q o hl⟩⟩
  · obtain ⟨v, u, rfl, rv, ru⟩ := two_x rx
    obtain rfl := int_of rv
    obtain rfl := int_of ru
    exact call_max2 hc pins s τ H _ us Q I r ⟨_, _, rfl, out_v rs (.int _) o⟩
  · obtain ⟨v, u, rfl, rv, ru⟩ := two_x rx
    obtain rfl := int_of rv
    obtain rfl := int_of ru
    exact call_min2 hc pins s τ H _ us Q I r ⟨_, _, rfl, out_v rs (.int _) o⟩
  · obtain ⟨v, rfl, rv⟩ := one_x rx
    obtain ⟨xs, h1, o⟩ := out_oget o
    obtain ⟨bs, h2, o⟩ := out_oget o
    obtain ⟨a, ws, rfl, ha, q⟩ := lst_at rs re rv h1
    obtain rfl := intsD_of q h2
    exact cr_sum hc pins s τ H _ us Q I r ⟨a, bs, rfl, SqL.of ha, out_v rs (.int _) o⟩
  · obtain ⟨v, rfl, rv⟩ := one_x rx
    obtain rfl := int_of rv
    obtain ⟨h1, o⟩ := out_chk o
    exact call_str_int pins s τ H _ us Q I r ⟨_, rfl, h1, out_v rs (.str _) o⟩
  · obtain ⟨v, rfl, rv⟩ := one_x rx
    obtain ⟨p, h1, o⟩ := out_oget o
    obtain ⟨⟨h2, h3⟩, o⟩ := out_chk o
    obtain ⟨d1, d2, d3⟩ := dp_root (K := X.K) rs re rv h1
    exact call_reprD hu hg pins s τ H _ us Q I r ⟨v, p, rfl, d1, d2, d3, h2, h3, out_v rs (.str _) o⟩
  · exact o.elim
end
end K9
end
section
set_option Elab.async false
set_option linter.all false
set_option maxRecDepth 100000
/-! K9Snd6: expressions, construct by construct. -/
namespace K9
open PySem PySem.Spec PyProof.Rows L2

variable {ca : Nat → Addr} {W : WX} {C : Ctx} {X : Cx} {pos : Pos}

/-! ### constants, names -/
theorem snd_non {k : Nat} : PE X (.Constant .none k pos) (tM ca W (ev C .non)) := PE.imp pe_non fun σ H Q ⟨M, env, S, rs, re, o⟩ => out_v rs .non (show Out ca W M σ H (.ok .non S) Q from o)
theorem snd_bl {b : Bool} {k : Nat} : PE X (.Constant (.bool b) k pos) (tM ca W (ev C (.bl b))) := PE.imp pe_bl fun σ H Q ⟨M, env, S, rs, re, o⟩ => out_v rs (.bl b) (show Out ca W M σ H (.ok (.bl b) S) Q from o)
theorem snd_int {b : Int} {k : Nat} : PE X (.Constant (.int b) k pos) (tM ca W (ev C (.int b))) := PE.imp pe_int fun σ H Q ⟨M, env, S, rs, re, o⟩ => out_v rs (.int b) (show Out ca W M σ H (.ok (.int b) S) Q from o)
theorem snd_str {b : Str} {k : Nat} : PE X (.Constant (.str b) k pos) (tM ca W (ev C (.str b))) := PE.imp pe_str fun σ H Q ⟨M, env, S, rs, re, o⟩ => out_v rs (.str b) (show Out ca W M σ H (.ok (.str b) S) Q from o)
theorem snd_gint {x : Str} {i : Int} {u : Value} (hg : Gl X x) (hm : X.mg x = some u) (r : RelV (.int i) u) (hd : (x == ("__debug__" : Str)) = false) : PE X (.Name x pos) (tM ca W (ev C (.int i))) :=
  PE.imp (pe_glob hg hm r hd) fun σ H Q ⟨M, env, S, rs, re, o⟩ => out_v rs (.int i) (show Out ca W M σ H (.ok (.int i) S) Q from o)
theorem snd_gstr {x : Str} {i : Str} {u : Value} (hg : Gl X x) (hm : X.mg x = some u) (r : RelV (.str i) u) (hd : (x == ("__debug__" : Str)) = false) : PE X (.Name x pos) (tM ca W (ev C (.str i))) :=
  PE.imp (pe_glob hg hm r hd) fun σ H Q ⟨M, env, S, rs, re, o⟩ => out_v rs (.str i) (show Out ca W M σ H (.ok (.str i) S) Q from o)
theorem snd_var {i : Nat} {x : Str} (hN : X.N[i]? = some x) (hv : Vis X.env.scope x) (hd : (x == ("__debug__" : Str)) = false) (hcd : (x == ("__classdict__" : Str)) = false) : PE X (.Name x pos) (tM ca W (ev C (.var i))) := by
  refine PE.imp (pe_var hN hv hd hcd) fun σ H Q ⟨M, env, S, rs, re, o⟩ => ?_
  simp only [ev] at o
  cases e : env[i]? with
  | none => rw [e] at o; exact o.elim
  | some sl =>
    rw [e] at o
    have r := re.sl i sl e
    generalize hs : σ[i]? = so at r
    cases r with
    | no => exact o.elim
    | fz r =>
      rename_i v d
      exact ⟨v, hs, out_v rs r o⟩
    | al h1 h2 h3 h4 h5 h6 =>
      exact ⟨.ref _, hs, out_val rs (d := .acc i) hs o⟩

/-! ### operators -/
theorem snd_bin {op : Operator} {b : Bop} {l r : Expr} {x y : Ex} (hb : bopOf op = some b) (hl : PE X l (tM ca W (ev C x))) (hr : PE X r (tM ca W (ev C y))) : PE X (.BinOp l op r pos) (tM ca W (ev C (.bin b x y))) := by
  refine PE.imp (pe_op (opr_bin (ca := ca) hb) hl hr) fun σ H Q h => ?_
  exact tM_two (f := binD b) (fun a b env S => noEr_bin a b env S) (by simpa only [tM, ev] using h)
theorem snd_cmp {op : CmpOp} {l r : Expr} {x y : Ex} (hu : X.A.units + 65 < cLine) (hn : isSetE r = false) (hl : PE X l (tM ca W (ev C x))) (hr : PE X r (tM ca W (ev C y))) : PE X (.Compare l [op] [r] pos) (tM ca W (ev C (.cmp (copOf op) x y))) := by
  refine PE.imp (pe_cmpR (opr_cmp (ca := ca) hu) hl hr (by cases r <;> first | rfl | cases hn)) fun σ H Q h => ?_
  exact tM_two (f := cmpF (copOf op)) (fun a b env S => noEr_cmp a b env S) (by simpa only [tM, ev, cmpF] using h)
theorem tMT_test {f : Env → Sto → R D} {t : TE} (h : ∀ σ H Q, tM ca W f σ H Q → t σ H Q) : ∀ σ H Q, tMT ca W f σ H Q → tTest t σ H Q := fun σ H Q q => h σ H (qB Q) q
theorem sndT_cmp {op : CmpOp} {l r : Expr} {x y : Ex} (hu : X.A.units + 65 < cLine) (hn : isSetE r = false) (hl : PE X l (tM ca W (ev C x))) (hr : PE X r (tM ca W (ev C y))) : PT X (.Compare l [op] [r] pos) (tMT ca W (ev C (.cmp (copOf op) x y))) := by
  refine PT.imp (pt_cmpR (opr_cmp (ca := ca) hu) hl hr (by cases r <;> first | rfl | cases hn)) (tMT_test fun σ H Q h => ?_)
  exact tM_two (f := cmpF (copOf op)) (fun a b env S => noEr_cmp a b env S) (by simpa only [tM, ev, cmpF] using h)
theorem tM_chain {p1 p2 : Cop} {x y z : Ex} {σ : L2.St} {H : Hp} {Q : VK} (h : tM ca W (ev C (.cmp2 p1 p2 x y z)) σ H Q) : tChain (r2M ca (cmpF p1)) (r2M ca (cmpF p2)) (tM ca W (ev C x)) (tM ca W (ev C y)) (tM ca W (ev C z)) σ H Q := by
  obtain ⟨M, env, S, rs, re, o⟩ := h
  simp only [ev] at o
  refine ⟨M, env, S, rs, re, o.bind re (fun d S1 v M1 H1 _ e1 rs1 re1 rx1 o1 => ⟨M1, env, S1, rs1, re1, o1.bind re1 (fun e S2 u M2 H2 _ e2 rs2 re2 rx2 o2 => ?_)⟩)⟩
  refine ⟨M2, env, S2, σ, d, e, rs2, re2, rx1.ext e2, rx2, ?_⟩
  unfold cmpF
  cases hk : cmpD p1 d e env S2 with
  | none => rw [hk] at o2; exact o2.elim
  | some k =>
    rw [hk] at o2
    intro w M3 H3 e3 rs3 rw3
    obtain rfl := bl_of (σ := σ) rw3
    refine ⟨k, rfl, ?_⟩
    have o3 := Out.ext (r := if k = true then _ else _) o2 e3
    cases k with
    | false => exact iteF (out_v rs3 (.bl false) o3)
    | true =>
      refine iteT ⟨M3, env, S2, rs3, re2.ext e3, Out.bind (k := fun z S3 => oget (cmpD p2 e z env S3) fun k2 => .ok (.bl k2) S3) o3 (re2.ext e3) fun f S4 w M4 H4 _ e4 rs4 re4 rx4 o4 => ?_⟩
      exact ⟨M4, env, S4, σ, e, f, rs4, re4, (rx2.ext e3).ext e4, rx4, Out.w o4 (noEr_cmp e f env S4)⟩
theorem snd_cmp2 {p q : CmpOp} {l r c : Expr} {x y z : Ex} (hu : X.A.units + 65 < cLine) (hn : isSetE r = false) (hn2 : isSetE c = false) (hl : PE X l (tM ca W (ev C x))) (hr : PE X r (tM ca W (ev C y))) (hc : PE X c (tM ca W (ev C z))) :
    PE X (.Compare l [p, q] [r, c] pos) (tM ca W (ev C (.cmp2 (copOf p) (copOf q) x y z))) :=
  PE.imp (pe_chain (opr_cmp (ca := ca) hu) (opr_cmp (ca := ca) hu) hl hr hc (by cases c <;> first | rfl | cases hn2)) fun σ H Q h => tM_chain h
theorem sndT_cmp2 {p q : CmpOp} {l r c : Expr} {x y z : Ex} (hu : X.A.units + 65 < cLine) (hn : isSetE r = false) (hn2 : isSetE c = false) (hl : PE X l (tM ca W (ev C x))) (hr : PE X r (tM ca W (ev C y))) (hc : PE X c (tM ca W (ev C z))) :
    PT X (.Compare l [p, q] [r, c] pos) (tMT ca W (ev C (.cmp2 (copOf p) (copOf q) x y z))) :=
  PT.imp (pt_chain (opr_cmp (ca := ca) hu) (opr_cmp (ca := ca) hu) hl hr hc (by cases c <;> first | rfl | cases hn2)) (tMT_test fun σ H Q h => tM_chain h)
theorem snd_neg {e : Expr} {x : Ex} (he : PE X e (tM ca W (ev C x))) : PE X (.UnaryOp .USub e pos) (tM ca W (ev C (.neg x))) := by
  refine PE.imp (pe_un un_neg he) fun σ H Q ⟨M, env, S, rs, re, o⟩ => ?_
  simp only [ev] at o
  refine ⟨M, env, S, rs, re, o.bind re fun d S1 v M1 H1 _ e1 rs1 re1 rx1 o1 => ?_⟩
  cases d with
  | int i => obtain rfl := int_of rx1; exact ⟨i, rfl, out_v rs1 (.int _) o1⟩
  | _ => exact o1.elim

/-! ### and, or, not, if -/
/-- a truth, by its value -/
theorem bl_only {M : Mem} {H : Hp} {σ : L2.St} {d : D} {v : V} {Q : VK} {f g : R D} (rx : RepX ca M σ v d) (o : Out ca W M σ H (ifD d f g) Q) :
    ∃ b, v = .bl b ∧ d = .bl b ∧ Out ca W M σ H (if b = true then f else g) Q := by
  cases d with
  | bl b => obtain rfl := bl_of rx; cases b <;> exact ⟨_, rfl, rfl, o⟩
  | _ => exact o.elim
theorem snd_and {l r : Expr} {rest : List Expr} {x y : Ex} (hl : PE X l (tM ca W (ev C x))) (hr : PE X (.BoolOp .And (r :: rest) pos) (tM ca W (ev C y))) : PE X (.BoolOp .And (l :: r :: rest) pos) (tM ca W (ev C (.and x y))) := by
  refine PE.imp (pe_and hl hr) fun σ H Q ⟨M, env, S, rs, re, o⟩ => ?_
  simp only [ev] at o
  refine ⟨M, env, S, rs, re, o.bind re fun d S1 v M1 H1 _ e1 rs1 re1 rx1 o1 => ?_⟩
  obtain ⟨b, rfl, rfl, o2⟩ := bl_only rx1 o1
  refine ⟨b, rfl, ?_⟩
  cases b with
  | true => exact iteT ⟨M1, env, S1, rs1, re1, o2⟩
  | false => exact iteF (out_v rs1 (.bl false) o2)
theorem snd_or {l r : Expr} {rest : List Expr} {x y : Ex} (hl : PE X l (tM ca W (ev C x))) (hr : PE X (.BoolOp .Or (r :: rest) pos) (tM ca W (ev C y))) : PE X (.BoolOp .Or (l :: r :: rest) pos) (tM ca W (ev C (.or x y))) := by
  refine PE.imp (pe_or hl hr) fun σ H Q ⟨M, env, S, rs, re, o⟩ => ?_
  simp only [ev] at o
  refine ⟨M, env, S, rs, re, o.bind re fun d S1 v M1 H1 _ e1 rs1 re1 rx1 o1 => ?_⟩
  obtain ⟨b, rfl, rfl, o2⟩ := bl_only rx1 o1
  refine ⟨b, rfl, ?_⟩
  cases b with
  | true => exact iteT (out_v rs1 (.bl true) o2)
  | false => exact iteF ⟨M1, env, S1, rs1, re1, o2⟩
theorem sndW_and {l r : Expr} {rest : List Expr} {x y : Ex} (hl : PT X l (tMT ca W (ev C x))) (hr : PW X (.BoolOp .And (r :: rest) pos) (tMT ca W (ev C y))) : PW X (.BoolOp .And (l :: r :: rest) pos) (tMT ca W (ev C (.and x y))) := by
  refine PW.imp (pw_and hl hr) fun σ H Q ⟨M, env, S, rs, re, o⟩ => ?_
  simp only [ev] at o
  refine ⟨M, env, S, rs, re, o.bind re fun d S1 v M1 H1 _ e1 rs1 re1 rx1 o1 => ?_⟩
  obtain ⟨b, rfl, rfl, o2⟩ := bl_only rx1 o1
  refine ⟨b, rfl, ?_⟩
  cases b with
  | true => exact iteT ⟨M1, env, S1, rs1, re1, o2⟩
  | false =>
    obtain ⟨c, hc, q⟩ := out_v rs1 (.bl false) o2
    cases hc
    exact iteF q
theorem sndW_or {l r : Expr} {rest : List Expr} {x y : Ex} (hl : PT X l (tMT ca W (ev C x))) (hr : PW X (.BoolOp .Or (r :: rest) pos) (tMT ca W (ev C y))) : PW X (.BoolOp .Or (l :: r :: rest) pos) (tMT ca W (ev C (.or x y))) := by
  refine PW.imp (pw_or hl hr) fun σ H Q ⟨M, env, S, rs, re, o⟩ => ?_
  simp only [ev] at o
  refine ⟨M, env, S, rs, re, o.bind re fun d S1 v M1 H1 _ e1 rs1 re1 rx1 o1 => ?_⟩
  obtain ⟨b, rfl, rfl, o2⟩ := bl_only rx1 o1
  refine ⟨b, rfl, ?_⟩
  cases b with
  | false => exact iteF ⟨M1, env, S1, rs1, re1, o2⟩
  | true =>
    obtain ⟨c, hc, q⟩ := out_v rs1 (.bl true) o2
    cases hc
    exact iteT q
theorem snd_not {e : Expr} {x : Ex} (he : PE X e (tM ca W (ev C x))) : PE X (.UnaryOp .Not e pos) (tM ca W (ev C (.not x))) := by
  refine PE.imp (pe_not he) fun σ H Q ⟨M, env, S, rs, re, o⟩ => ?_
  simp only [ev] at o
  refine ⟨M, env, S, rs, re, o.bind re fun d S1 v M1 H1 _ e1 rs1 re1 rx1 o1 => ?_⟩
  cases d with
  | bl i => obtain rfl := bl_of rx1; exact ⟨i, rfl, out_v rs1 (.bl _) o1⟩
  | _ => exact o1.elim
theorem sndT_not {e : Expr} {x : Ex} (he : PT X e (tMT ca W (ev C x))) : PT X (.UnaryOp .Not e pos) (tMT ca W (ev C (.not x))) := by
  refine PT.imp (pt_not he) fun σ H Q ⟨M, env, S, rs, re, o⟩ => ?_
  simp only [ev] at o
  refine ⟨M, env, S, rs, re, o.bind re fun d S1 v M1 H1 _ e1 rs1 re1 rx1 o1 => ?_⟩
  cases d with
  | bl i =>
    obtain rfl := bl_of rx1
    obtain ⟨c, hc, q⟩ := out_v rs1 (.bl _) o1
    cases hc
    exact ⟨i, rfl, q⟩
  | _ => exact o1.elim
theorem snd_ite {c l r : Expr} {x y z : Ex} (hc : PT X c (tMT ca W (ev C x))) (hl : PE X l (tM ca W (ev C y))) (hr : PE X r (tM ca W (ev C z))) : PE X (.IfExp c l r pos) (tM ca W (ev C (.ite x y z))) := by
  refine PE.imp (pe_ifExp hc hl hr) fun σ H Q ⟨M, env, S, rs, re, o⟩ => ?_
  simp only [ev] at o
  refine ⟨M, env, S, rs, re, o.bind re fun d S1 v M1 H1 _ e1 rs1 re1 rx1 o1 => ?_⟩
  obtain ⟨b, rfl, rfl, o2⟩ := bl_only rx1 o1
  refine ⟨b, rfl, ?_⟩
  cases b with
  | true => exact iteT ⟨M1, env, S1, rs1, re1, o2⟩
  | false => exact iteF ⟨M1, env, S1, rs1, re1, o2⟩
/-- any other expression as a test -/
theorem sndT_val {e : Expr} {x : Ex} (he : PE X e (tM ca W (ev C x))) (h : ∀ whole, isTrue e X.env whole = (do let v ← whole; standAt e.pos; holding [v] (truthy v))) : PT X e (tMT ca W (ev C x)) :=
  PT.imp (pt_val he h) fun σ H Q q => q

/-! ### lists of expressions -/
def OutL (rel : Mem → List V → List D → Prop) (ca : Nat → Addr) (W : WX) (M : Mem) (σ : L2.St) (H : Hp) (r : R (List D)) (Q : List V → Hp → Prop) : Prop := match r with
  | .ok d S => ∀ v M' H', Ext M H M' H' → RelS ca M' S H' → rel M' v d → Q v H'
  | .er c d S => ∀ cls dd M' H', Ext M H M' H' → RelS ca M' S H' → ExcR ca M' H' c d cls dd → H dd.get! = none → W cls dd σ H'
  | .bad => False
/-- items that are kept; arguments that are only read -/
def tAK (ca : Nat → Addr) (W : WX) (f : Env → Sto → R (List D)) : TA := fun σ H Q => ∃ M env S, RelS ca M S H ∧ RelE ca M env σ H ∧ OutL (fun M => RepL ca M) ca W M σ H (f env S) Q
def tAR (ca : Nat → Addr) (W : WX) (f : Env → Sto → R (List D)) : TA := fun σ H Q => ∃ M env S, RelS ca M S H ∧ RelE ca M env σ H ∧ OutL (fun M => RepXL ca M σ) ca W M σ H (f env S) Q
section
variable {M M1 : Mem} {H H1 : Hp} {σ : L2.St} {env : Env} {S : Sto} {rel : Mem → List V → List D → Prop}
theorem OutL.ext {r : R (List D)} {Q : List V → Hp → Prop} (h : OutL rel ca W M σ H r Q) (e : Ext M H M1 H1) : OutL rel ca W M1 σ H1 r Q := by
  cases r with
  | bad => exact h
  | ok d S' => exact fun v M' H' x => h v M' H' (e.trans x)
  | er c d S' =>
    intro cls dd M' H' x rs ex hd
    refine h cls dd M' H' (e.trans x) rs ex ?_
    cases q : H dd.get! with
    | none => rfl
    | some o =>
      obtain ⟨o', z⟩ := e.dom _ o q
      rw [hd] at z; cases z
/-- a value, then a list -/
theorem OutL.bind {r : R D} {k : D → Sto → R (List D)} {Q : List V → Hp → Prop} {Q1 : VK} (h : OutL rel ca W M σ H (r.bindR k) Q) (re : RelE ca M env σ H)
    (hk : ∀ d S1 v M1 H1, Ext M H M1 H1 → RelS ca M1 S1 H1 → RelE ca M1 env σ H1 → RepX ca M1 σ v d → OutL rel ca W M1 σ H1 (k d S1) Q → Q1 v H1) : Out ca W M σ H r Q1 := by
  cases r with
  | bad => exact h
  | er c d S' => exact h
  | ok d S' =>
    intro v M1 H1 e rs rt
    obtain ⟨M2, e2, rs2, rx⟩ := rt.hold e rs
    exact hk (rd d) S' v M2 H1 e2 rs2 (re.ext e2) rx (OutL.ext (r := k (rd d) S') h e2)
/-- a list, then a value -/
theorem Out.bindL {r : R (List D)} {k : List D → Sto → R D} {Q : VK} {Q1 : List V → Hp → Prop} (h : Out ca W M σ H (r.bind k) Q) (re : RelE ca M env σ H)
    (hk : ∀ d S1 v M1 H1, Ext M H M1 H1 → RelS ca M1 S1 H1 → RelE ca M1 env σ H1 → rel M1 v d → Out ca W M1 σ H1 (k d S1) Q → Q1 v H1) : OutL rel ca W M σ H r Q1 := by
  cases r with
  | bad => exact h
  | er c d S' => exact h
  | ok d S' => exact fun v M1 H1 e rs rx => hk d S' v M1 H1 e rs (re.ext e) rx (Out.ext (r := k d S') h e)
/-- a list, then a list -/
theorem OutL.bindL {rel' : Mem → List V → List D → Prop} {r : R (List D)} {k : List D → Sto → R (List D)} {Q Q1 : List V → Hp → Prop} (h : OutL rel' ca W M σ H (r.bind k) Q) (re : RelE ca M env σ H)
    (hk : ∀ d S1 v M1 H1, Ext M H M1 H1 → RelS ca M1 S1 H1 → RelE ca M1 env σ H1 → rel M1 v d → OutL rel' ca W M1 σ H1 (k d S1) Q → Q1 v H1) : OutL rel ca W M σ H r Q1 := by
  cases r with
  | bad => exact h
  | er c d S' => exact h
  | ok d S' => exact fun v M1 H1 e rs rx => hk d S' v M1 H1 e rs (re.ext e) rx (OutL.ext (r := k d S') h e)
end
theorem PA.imp {es : List Expr} {t t' : TA} (h : PA X es t) (q : ∀ σ H Q, t' σ H Q → t σ H Q) : PA X es t' := ⟨fun ps pins s σ H Q I z => h.run ps pins s σ H Q I (q σ H Q z)⟩
theorem star_cons {e : Expr} {es : List Expr} {env : PySem.Env} (h : isStar e = false) : starEach (e :: es) env = (false, eval e env) :: starEach es env := by
  cases e <;> first | rfl | cases h
theorem no_star : ∀ {es : List Expr} {env : PySem.Env} {p : Pos}, es.any isStar = false → (backTo p (starEach es env)).any (·.1) = false
  | [], _, _, _ => rfl
  | e :: es, env, p, h => by
    rw [List.any_cons, Bool.or_eq_false_iff] at h
    rw [star_cons h.1]
    show (false || (backTo p (starEach es env)).any (·.1)) = false
    rw [no_star h.2]; rfl
theorem snd_nilK : PA X [] (tAK ca W (evs C .nil)) := PA.imp pa_nil fun σ H Q ⟨M, env, S, rs, re, o⟩ => (show OutL (fun M => RepL ca M) ca W M σ H (.ok [] S) Q from by simpa only [evs] using o) [] M H Ext.refl rs RepL.nil
theorem snd_consK {e : Expr} {es : List Expr} {x : Ex} {xs : Exs} (hs : isStar e = false) (he : PE X e (tM ca W (ev C x))) (hr : PA X es (tAK ca W (evs C xs))) : PA X (e :: es) (tAK ca W (evs C (.cons false x xs))) := by
  refine PA.imp (pa_cons he hr (star_cons hs)) fun σ H Q ⟨M, env, S, rs, re, o⟩ => ?_
  simp only [evs, Bool.false_eq_true, if_false] at o
  refine ⟨M, env, S, rs, re, o.bind re fun d S1 v M1 H1 e1 rs1 re1 rx1 o1 => ?_⟩
  cases hd : d.isAcc with
  | true => rw [hd] at o1; exact o1.elim
  | false =>
    rw [hd] at o1
    exact ⟨M1, env, S1, rs1, re1, o1.bindL re1 fun ds S2 vs M2 H2 e2 rs2 re2 rx2 o2 => o2 (v :: vs) M2 H2 Ext.refl rs2 (.cons (e2.rep (rx1.rep hd)) rx2)⟩
theorem snd_starK {e : Expr} {es : List Expr} {x : Ex} {xs : Exs} {p : Pos} (he : PE X e (tM ca W (ev C x))) (hr : PA X es (tAK ca W (evs C xs))) : PA X (.Starred e p :: es) (tAK ca W (evs C (.cons true x xs))) := by
  refine PA.imp (StX.pa_star he hr) fun σ H Q ⟨M, env, S, rs, re, o⟩ => ?_
  simp only [evs, if_true] at o
  refine ⟨M, env, S, rs, re, o.bind re fun d S1 v M1 H1 e1 rs1 re1 rx1 o1 => ?_⟩
  cases hd : seqOf env S1 d with
  | none => rw [hd] at o1; exact o1.elim
  | some ds =>
    rw [hd] at o1
    obtain ⟨a, vs, rfl, ha, r⟩ := seq_at rs1 re1 rx1 hd
    refine ⟨a, vs, rfl, ha.elim (fun z => .inr (SqL.of z)) (fun z => .inl (SqT.of z)), M1, env, S1, rs1, re1, OutL.bindL (k := fun ys S2 => .ok (ds ++ ys) S2) o1 re1 fun es S2 us M2 H2 e2 rs2 re2 rx2 o2 => ?_⟩
    exact o2 (vs ++ us) M2 H2 Ext.refl rs2 ((e2.repL r).append rx2)
theorem snd_nilR : PA X [] (tAR ca W (evl C .nil)) := PA.imp pa_nil fun σ H Q ⟨M, env, S, rs, re, o⟩ => (show OutL (fun M => RepXL ca M σ) ca W M σ H (.ok [] S) Q from by simpa only [evl] using o) [] M H Ext.refl rs RepXL.nil
theorem snd_consR {e : Expr} {es : List Expr} {x : Ex} {xs : Exs} (hs : isStar e = false) (he : PE X e (tM ca W (ev C x))) (hr : PA X es (tAR ca W (evl C xs))) : PA X (e :: es) (tAR ca W (evl C (.cons false x xs))) := by
  refine PA.imp (pa_cons he hr (star_cons hs)) fun σ H Q ⟨M, env, S, rs, re, o⟩ => ?_
  simp only [evl, Bool.false_eq_true, if_false] at o
  refine ⟨M, env, S, rs, re, o.bind re fun d S1 v M1 H1 e1 rs1 re1 rx1 o1 => ?_⟩
  exact ⟨M1, env, S1, rs1, re1, o1.bindL re1 fun ds S2 vs M2 H2 e2 rs2 re2 rx2 o2 => o2 (v :: vs) M2 H2 Ext.refl rs2 (.cons (rx1.ext e2) rx2)⟩

/-! ### displays -/
theorem snd_tup {es : List Expr} {xs : Exs} {k : Nat} (h : PA X es (tAK ca W (evs C xs))) : PE X (.Tuple es k pos) (tM ca W (ev C (.tup xs))) := by
  refine PE.imp (pe_tup h) fun σ H Q ⟨M, env, S, rs, re, o⟩ => ?_
  simp only [ev] at o
  refine ⟨M, env, S, rs, re, o.bindL re fun ds S1 vs M1 H1 e1 rs1 re1 rx1 o1 => ?_⟩
  obtain ⟨h1, o1⟩ := out_chk o1
  exact ⟨by rw [rx1.length]; exact h1, fun p hp => out_tup rs1 rx1 o1 hp⟩
theorem snd_lst {es : List Expr} {xs : Exs} (h : PA X es (tAK ca W (evs C xs))) : PE X (.List es pos) (tM ca W (ev C (.lst xs))) := by
  refine PE.imp (pe_lst h) fun σ H Q ⟨M, env, S, rs, re, o⟩ => ?_
  simp only [ev] at o
  refine ⟨M, env, S, rs, re, o.bindL re fun ds S1 vs M1 H1 e1 rs1 re1 rx1 o1 => ?_⟩
  obtain ⟨h1, o2⟩ := out_mkL rs1 rx1 o1
  exact ⟨by rw [rx1.length]; exact h1, o2⟩
theorem snd_dict0 : PE X (.Dict [] [] pos) (tM ca W (ev C .dict0)) := by
  refine PE.imp pe_dnewK fun σ H Q ⟨M, env, S, rs, re, o⟩ => fun p hp => ?_
  simp only [ev] at o
  exact out_own rs (ob := .dct [] []) rfl (ObR.dct rfl RepL.nil) o hp
/-- an object just made is put into the store -/
theorem tM_ref {x : Ex} {σ : L2.St} {H : Hp} {Q : VK} (h : tM ca W (ev C (.ref x)) σ H Q) : tM ca W (ev C x) σ H Q := by
  obtain ⟨M, env, S, rs, re, o⟩ := h
  refine ⟨M, env, S, rs, re, ?_⟩
  simp only [ev] at o
  generalize ev C x env S = r at o
  cases r with
  | bad => exact o
  | er c d S' => exact o
  | ok d S' =>
    intro v M1 H1 e1 rs1 rt
    cases d with
    | own d =>
      obtain ⟨p, ho, ob, rfl, e2, e3, e4, e5, e6, e7⟩ := rt
      obtain ⟨ob', h1, o⟩ := out_oget o
      rw [e4] at h1
      cases h1
      have hm : ∀ (n : Nat) (a : Addr), M1.mu[n]? = some a → (M1.mu ++ [p])[n]? = some a := fun n a h => by
        rw [List.getElem?_append_left (List.getElem?_eq_some_iff.mp h).1]; exact h
      refine (show Out ca W M σ H (.ok (.ref S'.length) (S' ++ [ob])) Q from o) (.ref p) { M1 with mu := M1.mu ++ [p] } H1 ⟨e1.F, fun n a h => hm n a (e1.mu n a h), e1.h0, e1.sa, e1.rest, e1.newF, fun a h n => ?_, e1.dom⟩ ⟨rs1.frz, ?_, ?_, fun a h => ?_, fun n ob' h => ?_, rs1.h0⟩ ?_
      · rcases List.mem_append.mp h with q | q
        · exact e1.newM a q n
        · rw [List.mem_singleton.mp q]; exact e2
      · rw [List.length_append, List.length_append, rs1.len]; rfl
      · exact List.nodup_append.mpr ⟨rs1.nd, by simp, fun a h b q => by rw [List.mem_singleton.mp q]; exact fun z => e7 (z ▸ h)⟩
      · rcases List.mem_append.mp h with q | q
        · exact rs1.off a q
        · rw [List.mem_singleton.mp q]; exact e6
      · by_cases q : n < S'.length
        · rw [List.getElem?_append_left q] at h
          obtain ⟨a, ho', h1, h2, h3⟩ := rs1.ob n ob' h
          exact ⟨a, ho', hm n a h1, h2, ObR.mono (M := M1) (M' := { M1 with mu := M1.mu ++ [p] }) (fun _ _ h => h) hm rfl h3⟩
        · rw [List.getElem?_append_right (Nat.le_of_not_lt q)] at h
          have q2 : n - S'.length = 0 := by
            cases z : n - S'.length with
            | zero => rfl
            | succ k => rw [z] at h; simp at h
          rw [q2] at h
          simp at h
          subst h
          refine ⟨p, ho, ?_, e3, ObR.mono (M := M1) (M' := { M1 with mu := M1.mu ++ [p] }) (fun _ _ h => h) hm rfl e5⟩
          show (M1.mu ++ [p])[n]? = some p
          rw [List.getElem?_append_right (by rw [rs1.len]; exact Nat.le_of_not_lt q), rs1.len, q2]; rfl
      · refine Rep.ref ?_
        show (M1.mu ++ [p])[S'.length]? = some p
        rw [List.getElem?_append_right (by rw [rs1.len]; exact Nat.le_refl _), rs1.len, Nat.sub_self]; rfl
    | _ => exact (show False from o).elim

theorem snd_ref {e : Expr} {x : Ex} (he : PE X e (tM ca W (ev C x))) : PE X e (tM ca W (ev C (.ref x))) := PE.imp he fun σ H Q h => tM_ref h
/-! ### subscripts -/
theorem snd_ix {a i : Expr} {x y : Ex} (hu : X.A.units + 65 < cLine) (hn : isSlice i = false) (ha : PE X a (tM ca W (ev C x))) (hi : PE X i (tM ca W (ev C y))) : PE X (.Subscript a i pos) (tM ca W (ev C (.ix x y))) := by
  refine PE.imp (pe_ix (ixr_ix (ca := ca) hu) ha hi (fun o j => by cases i <;> first | rfl | cases hn)) fun σ H Q h => ?_
  exact tM_two (f := ixD) (fun a b env S => noEr_ix a b env S) (by simpa only [tM, ev] using h)
def OutP (ca : Nat → Addr) (W : WX) (M : Mem) (σ : L2.St) (H : Hp) (r : R (Option Int)) (Q : Option Int → Hp → Prop) : Prop := match r with
  | .ok d S => ∀ M' H', Ext M H M' H' → RelS ca M' S H' → Q d H'
  | .er c d S => ∀ cls dd M' H', Ext M H M' H' → RelS ca M' S H' → ExcR ca M' H' c d cls dd → H dd.get! = none → W cls dd σ H'
  | .bad => False
def tPO (ca : Nat → Addr) (W : WX) (f : Env → Sto → R (Option Int)) : TO := fun σ H Q => ∃ M env S, RelS ca M S H ∧ RelE ca M env σ H ∧ OutP ca W M σ H (f env S) Q
theorem PO.imp {e : Option Expr} {t t' : TO} (h : PO X e t) (q : ∀ σ H Q, t' σ H Q → t σ H Q) : PO X e t' := ⟨fun pins s σ H Q I z => h.run pins s σ H Q I (q σ H Q z)⟩
theorem snd_poN : PO X none (tPO ca W fun env S => partR .non (ev C .non env S)) := PO.imp po_none fun σ H Q ⟨M, env, S, rs, re, o⟩ => (show OutP ca W M σ H (.ok none S) Q from by simpa only [partR, ev, R.bindR, rd] using o) M H Ext.refl rs
theorem snd_poS {e : Expr} {x : Ex} (hx : x ≠ .non) (he : PE X e (tM ca W (ev C x))) : PO X (some e) (tPO ca W fun env S => partR x (ev C x env S)) := by
  refine PO.imp (po_some he) fun σ H Q ⟨M, env, S, rs, re, o⟩ => ⟨M, env, S, rs, re, ?_⟩
  have o' : OutP ca W M σ H ((ev C x env S).bindR fun d S => match d with | .int i => .ok (some i) S | _ => .bad) Q := by
    cases x <;> first | exact o | exact absurd rfl hx
  clear o
  cases hr : ev C x env S with
  | bad => rw [hr] at o'; exact o'
  | er c d S' => rw [hr] at o'; exact o'
  | ok d S' =>
    rw [hr] at o'
    intro v M1 H1 e1 rs1 rx1
    cases d with
    | int i => obtain rfl := int_of (σ := σ) rx1; exact ⟨i, rfl, (show OutP ca W M σ H (.ok (some i) S') Q from o') M1 H1 e1 rs1⟩
    | own d =>
      obtain ⟨p, ho, ob, e0, e2, e3, e4, e5⟩ := rx1
      cases d <;> first | exact (show False from o').elim | cases e4
    | _ => exact (show False from o').elim
theorem OutP.ext {M M1 : Mem} {H H1 : Hp} {σ : L2.St} {r : R (Option Int)} {Q : Option Int → Hp → Prop} (h : OutP ca W M σ H r Q) (e : Ext M H M1 H1) : OutP ca W M1 σ H1 r Q := by
  cases r with
  | bad => exact h
  | ok d S' => exact fun M' H' x => h M' H' (e.trans x)
  | er c d S' =>
    intro cls dd M' H' x rs ex hd
    refine h cls dd M' H' (e.trans x) rs ex ?_
    cases q : H dd.get! with
    | none => rfl
    | some o =>
      obtain ⟨o', z⟩ := e.dom _ o q
      rw [hd] at z; cases z
theorem Out.bindP {M : Mem} {H : Hp} {σ : L2.St} {env : Env} {r : R (Option Int)} {k : Option Int → Sto → R D} {Q : VK} {Q1 : Option Int → Hp → Prop} (h : Out ca W M σ H (r.bind k) Q) (re : RelE ca M env σ H)
    (hk : ∀ d S1 M1 H1, Ext M H M1 H1 → RelS ca M1 S1 H1 → RelE ca M1 env σ H1 → Out ca W M1 σ H1 (k d S1) Q → Q1 d H1) : OutP ca W M σ H r Q1 := by
  cases r with
  | bad => exact h
  | er c d S' => exact h
  | ok d S' => exact fun M1 H1 e rs => hk d S' M1 H1 e rs (re.ext e) (Out.ext (r := k d S') h e)
theorem snd_sl {a : Expr} {l h : Option Expr} {x lo hi : Ex} {p2 : Pos} (ha : PE X a (tM ca W (ev C x))) (hl : PO X l (tPO ca W fun env S => partR lo (ev C lo env S))) (hh : PO X h (tPO ca W fun env S => partR hi (ev C hi env S))) :
    PE X (.Subscript a (.Slice l h none p2) pos) (tM ca W (ev C (.sl x lo hi))) := by
  refine PE.imp (pe_slice (slr_sl (ca := ca)) ha hl hh) fun σ H Q ⟨M, env, S, rs, re, o⟩ => ?_
  simp only [ev] at o
  refine ⟨M, env, S, rs, re, o.bind re fun d S1 v M1 H1 _ e1 rs1 re1 rx1 o1 => ⟨M1, env, S1, rs1, re1, o1.bindP re1 fun i S2 M2 H2 e2 rs2 re2 o2 => ⟨M2, env, S2, rs2, re2, o2.bindP re2 fun j S3 M3 H3 e3 rs3 re3 o3 => ?_⟩⟩⟩
  exact ⟨M3, env, S3, σ, d, rs3, re3, (rx1.ext e2).ext e3, o3.w (noEr_sl d i j env S3)⟩
theorem snd_rev {a : Expr} {x : Ex} {k : Nat} {p1 p2 p3 : Pos} (ha : PE X a (tM ca W (ev C x))) : PE X (.Subscript a (.Slice none none (some (.UnaryOp .USub (.Constant (.int 1) k p1) p2)) p3) pos) (tM ca W (ev C (.rev x))) := by
  refine PE.imp (pe_revL ha) fun σ H Q ⟨M, env, S, rs, re, o⟩ => ?_
  simp only [ev] at o
  refine ⟨M, env, S, rs, re, o.bind re fun d S1 v M1 H1 _ e1 rs1 re1 rx1 o1 => ?_⟩
  obtain ⟨ds, h1, o2⟩ := out_oget o1
  obtain ⟨a, vs, rfl, hp, r⟩ := lst_at rs1 re1 rx1 h1
  exact ⟨a, vs, rfl, SqL.of hp, (out_mkL rs1 r.reverse o2).2⟩

/-! ### built-ins -/
theorem snd_biB {b : Bi} {x : Str} {p : Pos} {e : Expr} {es : List Expr} {xs : Exs} (hcalm : X.calm = true) (hu : X.A.units + 65 < cLine) (hgd : X.A.guards = some []) (hg : Gl X x) (hm : X.mg x = none) (hb : bootBuiltins x = some (biVal b)) (hd : (x == ("__debug__" : Str)) = false) (hn : x ≠ "__name__")
    (hs : (e :: es).any isStar = false) (ha : PA X (e :: es) (tAR ca W (evl C xs))) : PE X (.Call (.Name x p) (e :: es) [] pos) (tM ca W (ev C (.bi b xs))) := by
  have hs' := hs
  rw [List.any_cons, Bool.or_eq_false_iff] at hs'
  have key : ∀ (f : Value), f = biVal b → (∀ id, f = .builtin id → PE X (.Call (.Name x p) (e :: es) [] pos) (tM ca W (ev C (.bi b xs)))) → (∀ T, f = .type T → PE X (.Call (.Name x p) (e :: es) [] pos) (tM ca W (ev C (.bi b xs)))) → PE X (.Call (.Name x p) (e :: es) [] pos) (tM ca W (ev C (.bi b xs))) := by
    intro f hf h1 h2
    cases b <;> first | exact h1 _ hf | exact h2 _ hf
  have rd : ∀ σ H Q, tM ca W (ev C (.bi b xs)) σ H Q → tCB (rBi ca b) (tAR ca W (evl C xs)) σ H Q := by
    rintro σ H Q ⟨M, env, S, rs, re, o⟩
    simp only [ev] at o
    refine ⟨M, env, S, rs, re, o.bindL re fun ds S1 vs M1 H1 e1 rs1 re1 rx1 o1 => ?_⟩
    exact ⟨M1, env, S1, σ, ds, rs1, re1, rx1, o1.w (noEr_bi ds env S1)⟩
  refine key (biVal b) rfl (fun id hid => ?_) (fun T hT => ?_)
  · refine PE.imp (pe_callB (r := rBi ca b) (id := id) ?_ hg hm (by rw [hb, hid]) ha hn hd (star_cons hs'.1) (no_star hs'.2)) rd
    rw [← hid]
    exact callR_bi hcalm hu hgd
  · refine PE.imp (pe_callTy (r := rBi ca b) (T := T) ?_ hg hm (by rw [hb, hT]) ha hn hd (star_cons hs'.1) (no_star hs'.2)) rd
    rw [← hT]
    exact callR_bi hcalm hu hgd
end K9
end
section
set_option Elab.async false
set_option linter.all false
set_option maxRecDepth 100000
/-! K9Snd7: calls of what the module's names hold; isinstance; methods of texts and dicts; f-strings. -/
namespace K9
open PySem PySem.Spec PyProof.Rows L2

variable {ca : Nat → Addr} {W : WX} {C : Ctx} {X : Cx} {pos : Pos}

/-! ### calls -/
/-- what a called thing promises: values in, the evaluator's outcome out -/
def RunsP (ca : Nat → Addr) (W : WX) (X : Cx) (fv : Value) (g : List D → Sto → R D) : Prop :=
  ∀ (pins : List (Addr × Obj)) (σ : L2.St) (H : Hp) (s : Shared) (us : List Value) (vs : List V) (ds : List D) (M : Mem) (S : Sto) (Q : VK), Inv X pins σ H s → Vals vs us → RelS ca M S H → RepL ca M vs ds → Out ca W M σ H (g ds S) Q →
    wpAny (model X.prog X.w) X.A (call fv us) (EP X pins σ Q) X.xe s
def RunsK (ca : Nat → Addr) (W : WX) (X : Cx) (fv : Value) (n : Nat) (ks : List Str) (perm : List Nat) (g : List D → Sto → R D) : Prop :=
  ∀ (pins : List (Addr × Obj)) (σ : L2.St) (H : Hp) (s : Shared) (us ws : List Value) (vs zs : List V) (ds es fs : List D) (M : Mem) (S : Sto) (Q : VK), Inv X pins σ H s → Vals vs us → Vals zs ws → vs.length = n → zs.length = ks.length → RelS ca M S H → RepL ca M vs ds → RepL ca M zs es →
    permute (ds ++ es) perm = some fs → Out ca W M σ H (g fs S) Q → wpAny (model X.prog X.w) X.A (call fv us (ks.zip ws)) (EP X pins σ Q) X.xe s
theorem snd_call {x : Str} {fv : Value} {g : List D → Sto → R D} {p : Pos} {es : List Expr} {xs : Exs} {c : Ex} (hc : ∀ env S, ev C c env S = (evs C xs env S).bind fun ds S1 => g ds S1)
    (hg : Gl X x) (hm : X.mg x = some fv) (hk : PySem.W.keepIn X.K fv = true) (hd : (x == ("__debug__" : Str)) = false) (hs : es.any isStar = false) (hr : RunsP ca W X fv g) (hx : es = [] → xs = .nil) (ha : PA X es (tAK ca W (evs C xs))) :
    PE X (.Call (.Name x p) es [] pos) (tM ca W (ev C c)) := by
  refine ⟨fun pins s σ H Q I h => ?_⟩
  obtain ⟨M, env, S, rs, re, o⟩ := h
  rw [hc] at o
  refine wpAny_Call_Name_kw (ld_glob I hg hm ?_ hd)
  cases es with
  | nil =>
    obtain rfl := hx rfl
    simp only [evs, R.bind] at o
    exact PySem.W.callWith_K0 I.kIn hk (hr pins σ H s [] [] [] M S Q I .nil rs .nil o)
  | cons e es =>
    rw [List.any_cons, Bool.or_eq_false_iff] at hs
    have hl := o.bindL (rel := fun M => RepL ca M) (Q1 := fun vs H1 => ∃ M1 S1 ds, RelS ca M1 S1 H1 ∧ RepL ca M1 vs ds ∧ Out ca W M1 σ H1 (g ds S1) Q) re fun ds S1 vs M1 H1 e1 rs1 re1 rx1 o1 => ⟨M1, S1, ds, rs1, rx1, o1⟩
    refine PySem.W.callWith_K (h₀ := X.base) I.ok.mod.kin hk (thn (ha.run pos pins s σ H _ I ⟨M, env, S, rs, re, hl⟩) fun us s1 ⟨vs, H1, I1, r, M1, S1, ds, rs1, rx, o1⟩ => ⟨I1.kIn, ?_⟩) (star_cons hs.1) (no_star hs.2)
    exact hr pins σ H1 s1 us vs ds M1 S1 Q I1 r rs1 rx o1

/-! ### keywords -/
def kwNames (kws : List Keyword) : List (Option Str) := kws.map fun k => match k with | ⟨n, _, _⟩ => n
theorem kw_each : ∀ {kws : List Keyword} {ks : List Str} {env : PySem.Env} {p : Pos}, kwNames kws = ks.map some → (backToKw p (keywordEach kws env)).all (·.1.isSome) = true ∧ (backToKw p (keywordEach kws env)).filterMap (·.1) = ks ∧ (backToKw p (keywordEach kws env)).any (·.1.isNone) = false
  | [], [], _, _, _ => ⟨rfl, rfl, rfl⟩
  | [], _ :: _, _, _, h => by cases h
  | ⟨n, e, q⟩ :: kws, ks, env, p, h => by
    cases ks with
    | nil => cases h
    | cons k ks =>
      have h' : n :: kwNames kws = some k :: ks.map some := h
      injection h' with h1 h2
      subst h1
      obtain ⟨a, b, c⟩ := kw_each (env := env) (p := p) h2
      refine ⟨?_, ?_, ?_⟩
      · show (true && (backToKw p (keywordEach kws env)).all (·.1.isSome)) = true
        rw [a]; rfl
      · show k :: (backToKw p (keywordEach kws env)).filterMap (·.1) = k :: ks
        rw [b]
      · show (false || (backToKw p (keywordEach kws env)).any (·.1.isNone)) = false
        rw [c]; rfl
theorem PK.imp {es : List Keyword} {t t' : TA} (h : PK X es t) (q : ∀ σ H Q, t' σ H Q → t σ H Q) : PK X es t' := ⟨fun ps pins s σ H Q I z => h.run ps pins s σ H Q I (q σ H Q z)⟩
theorem snd_nilKw : PK X [] (tAK ca W (evs C .nil)) := PK.imp pk_nil fun σ H Q ⟨M, env, S, rs, re, o⟩ => (show OutL (fun M => RepL ca M) ca W M σ H (.ok [] S) Q from by simpa only [evs] using o) [] M H Ext.refl rs RepL.nil
theorem snd_consKw {e : Expr} {n : Option Str} {q : Pos} {es : List Keyword} {x : Ex} {xs : Exs} (he : PE X e (tM ca W (ev C x))) (hr : PK X es (tAK ca W (evs C xs))) : PK X (⟨n, e, q⟩ :: es) (tAK ca W (evs C (.cons false x xs))) := by
  refine PK.imp (pk_cons he hr) fun σ H Q ⟨M, env, S, rs, re, o⟩ => ?_
  simp only [evs, Bool.false_eq_true, if_false] at o
  refine ⟨M, env, S, rs, re, o.bind re fun d S1 v M1 H1 e1 rs1 re1 rx1 o1 => ?_⟩
  cases hd : d.isAcc with
  | true => rw [hd] at o1; exact o1.elim
  | false =>
    rw [hd] at o1
    exact ⟨M1, env, S1, rs1, re1, o1.bindL re1 fun ds S2 vs M2 H2 e2 rs2 re2 rx2 o2 => o2 (v :: vs) M2 H2 Ext.refl rs2 (.cons (e2.rep (rx1.rep hd)) rx2)⟩
theorem snd_callk {x : Str} {fv : Value} {g : List D → Sto → R D} {p : Pos} {es : List Expr} {kws : List Keyword} {ks : List Str} {perm : List Nat} {xs ys : Exs} {c : Ex}
    (hc : ∀ env S, ev C c env S = (evs C xs env S).bind fun ds S1 => (evs C ys env S1).bind fun ks S2 => oget (permute (ds ++ ks) perm) fun fs => g fs S2)
    (hg : Gl X x) (hm : X.mg x = some fv) (hk : PySem.W.keepIn X.K fv = true) (hd : (x == ("__debug__" : Str)) = false) (hs : es.any isStar = false) (hn : kwNames kws = ks.map some) (hr : RunsK ca W X fv es.length ks perm g)
    (hl : ∀ env S ds S1, evs C xs env S = .ok ds S1 → ds.length = es.length) (hl2 : ∀ env S ds S1, evs C ys env S = .ok ds S1 → ds.length = ks.length)
    (hx : es = [] → xs = .nil) (ha : PA X es (tAK ca W (evs C xs))) (hb : PK X kws (tAK ca W (evs C ys))) :
    PE X (.Call (.Name x p) es kws pos) (tM ca W (ev C c)) := by
  refine ⟨fun pins s σ H Q I h => ?_⟩
  obtain ⟨M, env, S, rs, re, o⟩ := h
  rw [hc] at o
  refine wpAny_Call_Name_kw (ld_glob I hg hm ?_ hd)
  obtain ⟨k1, k2, k3⟩ := kw_each (env := X.env) (p := pos) hn
  have two : ∀ {M1 : Mem} {S1 : Sto} {H1 : Hp} {ds : List D}, RelS ca M1 S1 H1 → RelE ca M1 env σ H1 → Out ca W M1 σ H1 ((evs C ys env S1).bind fun ks S2 => oget (permute (ds ++ ks) perm) fun fs => g fs S2) Q →
      tAK ca W (evs C ys) σ H1 (fun zs H2 => ∃ M2 S2 es, Ext M1 H1 M2 H2 ∧ RelS ca M2 S2 H2 ∧ RepL ca M2 zs es ∧ es.length = ks.length ∧ Out ca W M2 σ H2 (oget (permute (ds ++ es) perm) fun fs => g fs S2) Q) := by
    intro M1 S1 H1 ds rs1 re1 o1
    refine ⟨M1, env, S1, rs1, re1, ?_⟩
    cases hy : evs C ys env S1 with
    | bad => rw [hy] at o1; exact o1
    | er c d S' => rw [hy] at o1; exact o1
    | ok es S' =>
      rw [hy] at o1
      exact fun zs M2 H2 e2 rs2 rx2 => ⟨M2, S', es, e2, rs2, rx2, hl2 _ _ _ _ hy, Out.ext (r := oget (permute (ds ++ es) perm) fun fs => g fs S') o1 e2⟩
  cases es with
  | nil =>
    obtain rfl := hx rfl
    simp only [evs, R.bind] at o
    refine PySem.W.callWith_KW0 (h₀ := X.base) I.ok.mod.kin hk k1 ?_ (by rw [k3]; rfl)
    refine thn (hb.run pos pins s σ H _ I (two (ds := []) rs re o)) fun ws s2 ⟨zs, H2, I2, rz, M2, S2, es, e2, rs2, rx2, l2, o2⟩ => ⟨I2.kIn, ?_⟩
    rw [k2]
    obtain ⟨fs, h1, o3⟩ := out_oget o2
    exact hr pins σ H2 s2 [] ws [] zs [] es fs M2 S2 Q I2 .nil rz rfl (by rw [rx2.length, l2]) rs2 .nil rx2 h1 o3
  | cons e es =>
    have hs' := hs
    rw [List.any_cons, Bool.or_eq_false_iff] at hs'
    have hl0 : OutL (fun M => RepL ca M) ca W M σ H (evs C xs env S) (fun vs H1 => ∃ M1 S1 ds, RelS ca M1 S1 H1 ∧ RelE ca M1 env σ H1 ∧ RepL ca M1 vs ds ∧ ds.length = (e :: es).length ∧ Out ca W M1 σ H1 ((evs C ys env S1).bind fun ks S2 => oget (permute (ds ++ ks) perm) fun fs => g fs S2) Q) := by
      cases hy : evs C xs env S with
      | bad => rw [hy] at o; exact o
      | er c d S' => rw [hy] at o; exact o
      | ok ds S' =>
        rw [hy] at o
        exact fun vs M1 H1 e1 rs1 rx1 => ⟨M1, S', ds, rs1, re.ext e1, rx1, hl _ _ _ _ hy, Out.ext (r := (evs C ys env S').bind fun ks S2 => oget (permute (ds ++ ks) perm) fun fs => g fs S2) o e1⟩
    refine PySem.W.callWith_KW (h₀ := X.base) I.ok.mod.kin hk k1 (thn (ha.run pos pins s σ H _ I ⟨M, env, S, rs, re, hl0⟩) fun us s1 ⟨vs, H1, I1, r, M1, S1, ds, rs1, re1, rx, l1, o1⟩ => ?_)
      (by rw [k3, star_cons hs'.1]; show ((false || (backTo pos (starEach es X.env)).any (·.1)) || false) = false; rw [no_star hs'.2]; rfl) (star_cons hs'.1)
    refine thn (hb.run pos pins s1 σ H1 _ I1 (two rs1 re1 o1)) fun ws s2 ⟨zs, H2, I2, rz, M2, S2, es', e2, rs2, rx2, l2, o2⟩ => ⟨I2.kIn, ?_⟩
    rw [k2]
    obtain ⟨fs, h1, o3⟩ := out_oget o2
    exact hr pins σ H2 s2 us ws vs zs ds es' fs M2 S2 Q I2 r rz (by rw [rx.length, l1]) (by rw [rx2.length, l2]) rs2 (e2.repL rx) rx2 h1 o3
end K9
end
section
set_option Elab.async false
set_option linter.all false
set_option maxRecDepth 100000
/-! K9Snd8: defs of the module; errors made as values. -/
namespace K9
open PySem PySem.Spec PyProof.Rows L2

variable {ca : Nat → Addr} {W : WX} {C : Ctx} {X : Cx} {pos : Pos}

/-- what a def hands out: a value, or an object just made -/
def RepU (ca : Nat → Addr) (H : Hp) (M' : Mem) (H' : Hp) (v : V) (d : D) : Prop := match d with
  | .acc _ => False
  | d => RepT ca [] H M' H' v d
theorem RepU.t {σ : L2.St} {H : Hp} {M' : Mem} {H' : Hp} {v : V} {d : D} (r : RepU ca H M' H' v d) : RepT ca σ H M' H' v d := by
  cases d <;> first | exact r | cases r
/-- an outcome of a def -/
def OutF (ca : Nat → Addr) (M : Mem) (H : Hp) (r : R D) (Q : VK) (E : XK) : Prop := match r with
  | .ok d S => ∀ v M' H', Ext M H M' H' → RelS ca M' S H' → RepU ca H M' H' v d → Q v H'
  | .er c d S => ∀ cls dd M' H', Ext M H M' H' → RelS ca M' S H' → ExcR ca M' H' c d cls dd → H dd.get! = none → E cls dd H'
  | .bad => False
/-- the promise of a def by the evaluator's function -/
def spF (ca : Nat → Addr) (g : List D → Sto → R D) : Sp := fun vs H Q E => ∃ M S ds, RelS ca M S H ∧ RepL ca M vs ds ∧ OutF ca M H (g ds S) Q E
theorem out_F {M : Mem} {H : Hp} {σ : L2.St} {r : R D} {Q : VK} (o : Out ca W M σ H r Q) : OutF ca M H r Q (fun cls d H' => W cls d σ H') := by
  cases r with
  | bad => exact o
  | ok d S => exact fun v M' H' e rs rv => o v M' H' e rs rv.t
  | er c d S => exact o
theorem runsP_fn {k : Nat} {f : Addr} {fd : FuncData} {ps : List Str} {g : List D → Sto → R D} (F : FnG X.prog X.w X.K X.mg X.base k f fd ps (spF ca g)) (hg : X.A.guards = some []) (hr : Room k X.A) (tk : Takes X W) (hb : Binds X.K fd ps []) : RunsP ca W X (.ref f) g := by
  intro pins σ H s us vs ds M S Q I r rs rx o
  have sp : spF ca g vs H Q (fun cls d H' => W cls d σ H') := ⟨M, S, ds, rs, rx, out_F o⟩
  have hl : us.length = ps.length := by rw [← r.length]; exact F.len _ _ _ _ sp
  have bt := hb s us I.kIn (by rw [List.append_nil]; exact hl)
  rw [List.append_nil] at bt
  refine wpAny_call (codeAny_mono (runG F hg hr tk (fun _ _ _ z => z) I bt r sp) fun r s' hq => ?_)
  match r, hq with
  | .error e, hq => exact hq
  | .ok (.ret u), hq => exact hq
theorem runsK_fn {k n : Nat} {f : Addr} {fd : FuncData} {ps ks : List Str} {perm : List Nat} {g : List D → Sto → R D} (F : FnG X.prog X.w X.K X.mg X.base k f fd ps (spF ca g)) (hg : X.A.guards = some []) (hr : Room k X.A) (tk : Takes X W)
    (hb : ∀ (s : Shared) (us ws : List Value), us.length = n → ws.length = ks.length → ∃ zs, perm.mapM (fun i => (us ++ ws)[i]?) = some zs ∧ BindsTo s fd ⟨us, ks.zip ws⟩ (ps.zip zs)) : RunsK ca W X (.ref f) n ks perm g := by
  intro pins σ H s us ws vs zs ds es fs M S Q I r r2 l1 l2 rs rx rx2 hp o
  obtain ⟨ys, hy, bt⟩ := hb s us ws (by rw [← r.length, l1]) (by rw [← r2.length, l2])
  have pick : ∀ (perm : List Nat) (fs : List D) (ys : List Value), permute (ds ++ es) perm = some fs → perm.mapM (fun i => (us ++ ws)[i]?) = some ys → ∃ xs : List V, RepL ca M xs fs ∧ Vals xs ys := by
    intro perm
    induction perm with
    | nil =>
      intro fs ys h1 h2
      cases h1
      cases h2
      exact ⟨[], .nil, .nil⟩
    | cons i perm ih =>
      intro fs ys h1 h2
      unfold permute at h1
      rw [List.mapM_cons] at h1 h2
      cases e1 : (ds ++ es)[i]? with
      | none => rw [e1] at h1; cases h1
      | some d =>
        cases e2 : (us ++ ws)[i]? with
        | none => rw [e2] at h2; cases h2
        | some u =>
          rw [e1] at h1
          rw [e2] at h2
          cases h3 : perm.mapM (fun i => (ds ++ es)[i]?) with
          | none => rw [h3] at h1; cases h1
          | some fs' =>
            cases h4 : perm.mapM (fun i => (us ++ ws)[i]?) with
            | none => rw [h4] at h2; cases h2
            | some ys' =>
              rw [h3] at h1
              rw [h4] at h2
              cases h1
              cases h2
              obtain ⟨xs, a, b⟩ := ih fs' ys' h3 h4
              obtain ⟨x, hx, rd⟩ := (rx.append rx2).get e1
              obtain ⟨u', hu, rv⟩ := (r.append r2).get hx
              rw [e2] at hu
              cases hu
              exact ⟨x :: xs, .cons rd a, .cons rv b⟩
  obtain ⟨xs, rf, rv⟩ := pick perm fs ys hp hy
  have sp : spF ca g xs H Q (fun cls d H' => W cls d σ H') := ⟨M, S, fs, rs, rf, out_F o⟩
  refine wpAny_call (codeAny_mono (runG F hg hr tk (fun _ _ _ z => z) I bt rv sp) fun r s' hq => ?_)
  match r, hq with
  | .error e, hq => exact hq
  | .ok (.ret u), hq => exact hq
end K9
end
section
set_option Elab.async false
set_option linter.all false
set_option maxRecDepth 100000
set_option maxHeartbeats 0
/-! K9ExK: an error made by name, C(value = u). -/
namespace K9
open PySem PySem.Spec Builtin Builtin.ObjectAttr PySem.HandSPX
section
variable {M : Model} {A : Around} {E : Value → Shared → Prop} {h : Heap} {g : Array GenState} {d : Drawn} {t : Nat} {os : OsState} {prog : Program} {w : World} {R : Result → Shared → Prop}
variable {nm q : Str} {C N : Addr} {bs bm bmB : List Value} {hdct : Bool} {sn : List Str} {sub : List Value} {ab : Bool} {col : Option Bool} {dd : Option Addr} {k0 k1 k2 k3 k5 : Option Value} {B newId initId : String} {u : Value}
theorem check_new_kw (F : ExcBaseFacts B newId initId bmB) (hT : ∀ X : String, bm.contains (.type X) = bmB.contains (.type X)) {Q : Unit → Shared → Prop}
    (hC : h.get? C = some (excClassObj nm q C N bs bm hdct sn sub ab col dd k0 k1 k2 k3 k5 newId)) (hq : Q () ⟨h, g, d, t, os⟩) : wpAny M A (checkBuiltinCall newId ⟨[.ref C], [("value", u)]⟩) Q E ⟨h, g, d, t, os⟩ := by
  have ct : (Value.ref C :: bm).contains (.type B) = true := by
    rw [List.contains_cons, hT, F.hasB, Bool.or_true]
  have st := F.noStar
  simp only [checkBuiltinCall, F.newKind, F.newSplit, F.newRow]
  repeat (first
    | refine wpAny_loadPart_at hC ?_
    | (refine wpAny_isSubtype_exc hC ?_; rw [ct])
    | refine wpAny_staticBase_exc hC ?_
    | refine wpAny_madeBy_exc hC ?_
    | simp only [bne_self_eq_false, Bool.false_eq_true, if_false]
    | wp_step)
  exact hq
theorem new_kw (F : ExcBaseFacts B newId initId bmB) (hT : ∀ X : String, bm.contains (.type X) = bmB.contains (.type X))
    (hC : h.get? C = some (excClassObj nm q C N bs bm hdct sn sub ab col dd k0 k1 k2 k3 k5 newId))
    (hq : R (.ok (.ret (.ref (h.objs.size + 1)))) ⟨(h.push (W.kdv_tup [])).push (excO C h.objs.size), g, d, t, os⟩) :
    codeAny (model prog w) A (.builtin newId ⟨[.ref C], [("value", u)]⟩) R ⟨h, g, d, t, os⟩ := by
  have e1 := F.ends
  have c1 : (Value.ref C :: bm).contains (.type B) = true := by
    rw [List.contains_cons, hT, F.hasB, Bool.or_true]
  have c2 : (Value.ref C :: bm).contains (.type "AttributeError") = false := by
    rw [List.contains_cons, hT, F.noAttr]; rfl
  have c3 : (Value.ref C :: bm).contains (.type "NameError") = false := by
    rw [List.contains_cons, hT, F.noName]; rfl
  refine codeAny_builtinAt F.entry ?_
  unfold Builtin.«BaseException.__new__»
  refine wpAt_bind ?_
  show wpAt _ _ _ (stack >>= _) _ _ _
  refine wpAt_bind (wpAt_stack fun p below => wpAt_of_wpAny ?_)
  wp_walk
  refine wpAt_of_wpAny ?_
  rw [F.owner]
  repeat (first
    | with_reducible refine wpAny_madeHere_exc F.canon hC ?_
    | with_reducible refine wpAny_loadPart_at hC ?_
    | (with_reducible refine wpAny_isSubtype_exc hC ?_; first | rw [c1] | rw [c2] | rw [c3])
    | wp_step)
  show R _ _
  rw [Heap.size_push]
  exact hq
theorem type_call_kw (F : ExcBaseFacts B newId initId bmB) (hT : ∀ X : String, bm.contains (.type X) = bmB.contains (.type X)) {fI : Addr} {Q : Fin → Shared → Prop}
    (hC : h.get? C = some (excClassObj nm q C N bs bm hdct sn sub ab col dd k0 k1 k2 k3 k5 newId))
    (hi : W.Looks (model prog w) h (typeLookup (.ref C) "__init__") (some (.ref fI))) (hb : ∀ self, W.Looks (model prog w) h (bindSpecial (.ref fI) self) (.ref fI, [self]))
    (hq : codeAny (model prog w) A (.call (.ref fI) ⟨[.ref (h.objs.size + 1)], [("value", u)]⟩)
      (fun r s' => match r with | .ok (.ret v) => v = .none ∧ Q (.done (.ret (.ref (h.objs.size + 1)))) s' | .ok _ => False | .error e => E e s')
      ⟨(h.push (W.kdv_tup [])).push (excO C h.objs.size), g, d, t, os⟩) :
    wpAny (model prog w) A (Builtin.«type.__call__» ⟨[.ref C], [("value", u)]⟩) Q E ⟨h, g, d, t, os⟩ := by
  repeat (first
    | with_reducible refine wpAny_loadPart_at hC ?_
    | with_reducible refine wpAny_madeBy_exc hC ?_
    | wp_step)
  refine codeAny_call_builtin_code (Code.quiet_builtin _ F.quiet) (check_new_kw F hT hC ?_)
  refine new_kw F hT hC ?_
  show wpAny _ _ _ _ _ _
  have k : ∀ b o, h.get? b = some o → ((h.push (W.kdv_tup [])).push (excO C h.objs.size)).get? b = some o := fun b o e => Heap.get?_push_of_some _ (Heap.get?_push_of_some _ e)
  have hC2 := k _ _ hC
  have hg : ((h.push (W.kdv_tup [])).push (excO C h.objs.size)).get? (h.objs.size + 1) = some (excO C h.objs.size) := by heap_get
  have cc : (Value.ref C :: bm).contains (.ref C) = true := by simp
  have i1 := hi.keeps k
  have b1 := (hb (.ref (h.objs.size + 1))).keeps k
  unfold isInstance
  repeat (first
    | with_reducible refine wpAny_loadPart_at hg ?_
    | (with_reducible refine wpAny_isSubtype_exc hC2 ?_; rw [cc])
    | wp_step)
  show wpAny _ _ (typeLookup (.ref C) _) _ _ _
  refine i1.at ?_
  refine wpAny_holding (wpAny_bind (b1.at ?_))
  refine wpAny_bind (wpAny_call (codeAny_mono hq fun r s' z => ?_))
  rcases r with e | (v | _ | _ | _) <;> first | exact z | exact z.elim | skip
  obtain ⟨rfl, z⟩ := z
  first
    | exact wpAny_pure (wpAny_pure z)
    | (wp_walk; exact z)
theorem check_tc_kw {Q : Unit → Shared → Prop} (hC : h.get? C = some (excClassObj nm q C N bs bm hdct sn sub ab col dd k0 k1 k2 k3 k5 newId))
    (hq : Q () ⟨h, g, d, t, os⟩) : wpAny M A (checkBuiltinCall "type.__call__" ⟨[.ref C], [("value", u)]⟩) Q E ⟨h, g, d, t, os⟩ := by
  have f3 := tc_sub
  have hT : (⟨h, g, d, t, os⟩ : Shared).TypeIs (.ref C) "type" := ⟨_, hC, rfl⟩
  simp only [checkBuiltinCall, tc_kind, tc_split]
  repeat (any_goals (first
    | assumption
    | with_reducible refine wpAny_loadPart_at hC ?_
    | with_reducible refine wpAny_onRaise ?_
    | with_reducible refine wpAny_map ?_
    | wp_step))
theorem call_kw (F : ExcBaseFacts B newId initId bmB) (hT : ∀ X : String, bm.contains (.type X) = bmB.contains (.type X)) {fI : Addr}
    (hC : h.get? C = some (excClassObj nm q C N bs bm hdct sn sub ab col dd k0 k1 k2 k3 k5 newId))
    (hi : W.Looks (model prog w) h (typeLookup (.ref C) "__init__") (some (.ref fI))) (hb : ∀ self, W.Looks (model prog w) h (bindSpecial (.ref fI) self) (.ref fI, [self]))
    (hq : codeAny (model prog w) (A.under (.builtin "type.__call__" ⟨[.ref C], [("value", u)]⟩)) (.call (.ref fI) ⟨[.ref (h.objs.size + 1)], [("value", u)]⟩) (W.InitBack (h.objs.size + 1) R)
      ⟨(h.push (W.kdv_tup [])).push (excO C h.objs.size), g, d, t, os⟩) :
    codeAny (model prog w) A (.call (.ref C) ⟨[], [("value", u)]⟩) R ⟨h, g, d, t, os⟩ := by
  have f1 := tc_lookup
  have f2 := tc_bind (.ref C)
  have hTy : (⟨h, g, d, t, os⟩ : Shared).TypeIs (.ref C) "type" := ⟨_, hC, rfl⟩
  refine codeAny_of_tree ?_
  show wpAny _ _ (callAny (.ref C) _) _ _ _
  repeat (any_goals (first
    | assumption
    | with_reducible refine wpAny_loadPart_at hC ?_
    | wp_step))
  refine ⟨rfl, ?_⟩
  refine codeAny_call_builtin_at (Code.quiet_builtin _ (by decide +kernel)) entry_typeCall (check_tc_kw hC (type_call_kw F hT hC hi hb ?_))
  refine codeAny_mono hq fun r s' z => ?_
  rcases r with e | (v | _ | _ | _) <;> exact z
end
end K9
end
section
set_option Elab.async false
set_option linter.all false
set_option maxRecDepth 100000
set_option maxHeartbeats 0
/-! K9Exc: errors of the program: made as values, read. -/
namespace K9
open PySem PySem.Spec PyProof.Rows L2

variable {ca : Nat → Addr} {W : WX} {C : Ctx} {X : Cx} {pos : Pos}
/-- what is asked of an error class (its maker stores its one argument as value) -/
structure ExcT (K : PySem.W.Frag) (Cc fI : Addr) : Prop where
  oex : OexC K Cc
  no : PySem.W.findIn K (.ref Cc) "value" = some none
  ini : PySem.W.findIn K (.ref Cc) "__init__" = some (some (.ref fI))
  fn : PySem.W.typeIn K (.ref fI) = some (.type "function")
  ga : PySem.W.findIn K (.ref Cc) "__getattribute__" = some (some (.builtin "BaseException.__getattribute__"))
  gg : PySem.W.findIn K (.ref Cc) "__getattr__" = some none
  hd : PySem.W.hasDictIn K Cc = true
/-- the maker's promise -/
def spEI (K : PySem.W.Frag) : Sp := fun vs H Q _ => ∃ (a Cc : Addr) (v : V), vs = [.ref a, v] ∧ H a = some (exo a Cc none) ∧ OexC K Cc ∧ PySem.W.findIn K (.ref Cc) "value" = some none ∧
  ∀ dx, H dx = none → dx ≠ a → Q .non (upd (upd H dx (exd dx [(("value" : Str), v)])) a (exo a Cc (some dx)))
theorem ok_excInit {P : Program} {w : World} {K : PySem.W.Frag} {mg : Str → Option Value} {base : Heap} {st : Stmt} {qual : Str} {f : Addr} {fd : FuncData} (F : Fun K "__init__" qual st f fd) (S : FnScope (["self", "value"] : List Str) (["self", "value"] : List Str) (defScope st))
    (hl : (defScope st).names.lookup ("self" : Str) = some .local) (hl2 : (defScope st).names.lookup ("value" : Str) = some .local)
    (hb : ∃ q1 q2 q3 q4, defBody st = [.Assign [.Attribute (.Name "self" q1) "value" q2] (.Name "value" q3) q4]) : FnOk P w K mg base CX0 1 f fd ["self", "value"] (spEI K) := by
  obtain ⟨q1, q2, q3, q4, hb⟩ := hb
  refine F.ok S (fun vs H Q E h => ?_) (fun cdv A outer s H vs Q E hr h => ?_)
  · obtain ⟨a, Cc, v, rfl, _⟩ := h
    rfl
  · obtain ⟨a, Cc, v, rfl, ha, T, hn, k⟩ := h
    rw [hb]
    refine ⟨_, pss_one (ps_ost (pe_var (i := 0) rfl (.inl hl) (by decide) (by decide)) (pe_var (i := 1) rfl (.inl hl2) (by decide) (by decide)) (by rfl)), ?_⟩
    exact ⟨v, rfl, .ref a, rfl, a, Cc, rfl, T, hn, .inl ⟨ha, k⟩⟩

theorem ext_ne {φ : Heap → Prop} {a : Addr} {o : HO} (h : ∀ ψ, o ≠ .ext ψ) : (HO.ext φ) ≠ o := fun z => h φ z.symm
/-- two open objects told otherwise -/
theorem Inv.recast {pins : List (Addr × Obj)} {σ : L2.St} {H : Hp} {s : Shared} {a d : Addr} {φ ψ : Heap → Prop} {o u : HO} (I : Inv X pins σ H s) (ha : H a = some (.ext φ)) (hd : H d = some (.ext ψ)) (hne : d ≠ a)
    (oa : ObjOk X.prog X.w (upd (upd H d u) a o) s.heap a o) (od : ObjOk X.prog X.w (upd (upd H d u) a o) s.heap d u) : Inv X pins σ (upd (upd H d u) a o) s := by
  have off : ∀ {b : Addr} {x : HO}, H b = some x → (∀ χ, x ≠ .ext χ) → upd (upd H d u) a o b = some x := by
    intro b x hb hx
    have n1 : b ≠ a := fun z => by rw [z, ha] at hb; exact hx φ (Option.some.inj hb).symm
    have n2 : b ≠ d := fun z => by rw [z, hd] at hb; exact hx ψ (Option.some.inj hb).symm
    rw [upd_ne n1, upd_ne n2]; exact hb
  have U : Un X.fs [] H (upd (upd H d u) a o) s.heap s.heap := {
    keep := fun b x q _ _ _ => q
    slot := fun b x q _ _ _ => ⟨x.slots, q⟩
    free := fun b x q n _ => by
      have n1 : b ≠ a := fun z => by rw [z, ha] at n; cases n
      have n2 : b ≠ d := fun z => by rw [z, hd] at n; cases n
      rw [upd_ne n1, upd_ne n2]; exact n
    there := fun b x q _ => ⟨x, q⟩
    tups := fun b xs q => off q (fun χ z => by cases z)
    frzs := fun b x y q => off q (fun χ z => by cases z)
    tbls := fun b ps q => ⟨#[], by rw [off q (fun χ z => by cases z)]; simp⟩ }
  refine I.un (t' := s.toks) U (fun b x q => ?_)
  by_cases n1 : b = a
  · subst n1; rw [upd_same] at q; cases q; exact oa
  · rw [upd_ne n1] at q
    by_cases n2 : b = d
    · subst n2; rw [upd_same] at q; cases q; exact od
    · rw [upd_ne n2] at q
      exact (I.hok b x q).stay (fun c v _ z => z) (fun c z => off z (fun χ y => by cases y)) (fun c xs z => off z (fun χ y => by cases y))

/-- C(v) or C(value = v), C an error class: its object and its dict -/
theorem run_exc {Cc fI : Addr} {fdI : FuncData} {pins : List (Addr × Obj)} {σ : L2.St} {H : Hp} {s : Shared} {Q : VK} {v : V} {us : List Value} {kw : List (Str × Value)} {u : Value} (T : ExcT X.K Cc fI) (F1 : FnOk X.prog X.w X.K X.mg X.base CX0 1 fI fdI (["self", "value"] : List Str) (spEI X.K)) (hr : Room 2 X.A)
    (hb : ∀ (s : Shared) (self : Value), X.K.In s.heap → BindsTo s fdI ⟨self :: us, kw⟩ ((["self", "value"] : List Str).zip [self, u])) (hz : (us = [u] ∧ kw = []) ∨ (us = [] ∧ kw = [(("value" : Str), u)])) (I : Inv X pins σ H s) (rv : RelV v u)
    (h : ∀ a d, H a = none → H d = none → d ≠ a → Q (.ref a) (upd (upd H d (.xd [(("value" : Str), v)])) a (ExV Cc d a))) : wpAny (model X.prog X.w) X.A (call (.ref Cc) us kw) (EP X pins σ Q) X.xe s := by
  obtain ⟨nm, q, N, bs, bm, sn, sub, ab, col, dd, k0, k1, k2, k3, k5, hC, hbm⟩ := T.oex.cls
  obtain ⟨hp, g, dr, tk, os⟩ := s
  have hsz : hp.objs.size ≤ hp.objs.size + 1 := Nat.le_succ _
  have hn : H (hp.objs.size + 1) = none := I.hok.fresh hsz
  have kk : ∀ b o, hp.get? b = some o → ((hp.push (PySem.W.kdv_tup us)).push (PySem.HandSPX.excO Cc hp.objs.size)).get? b = some o := fun b o e => Heap.get?_push_of_some _ (Heap.get?_push_of_some _ e)
  have hget : ((hp.push (PySem.W.kdv_tup us)).push (PySem.HandSPX.excO Cc hp.objs.size)).get? (hp.objs.size + 1) = some (PySem.HandSPX.excO Cc hp.objs.size) := by heap_get
  have I2 : Inv X pins σ (upd H (hp.objs.size + 1) (exo (hp.objs.size + 1) Cc none)) ⟨(hp.push (PySem.W.kdv_tup us)).push (PySem.HandSPX.excO Cc hp.objs.size), g, dr, tk, os⟩ :=
    I.laid (t' := tk) (a := hp.objs.size + 1) (o := exo (hp.objs.size + 1) Cc none) (h' := (hp.push (PySem.W.kdv_tup us)).push (PySem.HandSPX.excO Cc hp.objs.size)) kk hsz (exo_ok hget)
  have sp : spEI X.K [.ref (hp.objs.size + 1), v] (upd H (hp.objs.size + 1) (exo (hp.objs.size + 1) Cc none))
      (fun r H2 => r = .non ∧ ∃ d, upd H (hp.objs.size + 1) (exo (hp.objs.size + 1) Cc none) d = none ∧ d ≠ hp.objs.size + 1 ∧ H2 = upd (upd (upd H (hp.objs.size + 1) (exo (hp.objs.size + 1) Cc none)) d (exd d [(("value" : Str), v)])) (hp.objs.size + 1) (exo (hp.objs.size + 1) Cc (some d))) (fun _ _ _ => False) :=
    ⟨_, Cc, v, rfl, upd_same, T.oex, T.no, fun dx h1 h2 => ⟨rfl, dx, h1, h2, rfl⟩⟩
  have way : ∀ R : Result → Shared → Prop, codeAny (model X.prog X.w) (X.A.under (.builtin "type.__call__" ⟨.ref Cc :: us, kw⟩)) (.call (.ref fI) ⟨.ref (hp.objs.size + 1) :: us, kw⟩) (PySem.W.InitBack (hp.objs.size + 1) R)
      ⟨(hp.push (PySem.W.kdv_tup us)).push (PySem.HandSPX.excO Cc hp.objs.size), g, dr, tk, os⟩ → codeAny (model X.prog X.w) X.A (.call (.ref Cc) ⟨us, kw⟩) R ⟨hp, g, dr, tk, os⟩ := by
    intro R hq
    rcases hz with ⟨rfl, rfl⟩ | ⟨rfl, rfl⟩
    · exact PySem.HandSPX.call_own F.excBase_ValueError (fun Y => PySem.HandSPX.refsVE_contains Y bm hbm) (I.kIn _ _ hC) (PySem.W.looks_findIn I.kIn T.ini) (fun self => PySem.W.bind_fn I.kIn self T.fn) (by rw [sizeLine_eq]; exact Nat.le_of_ble_eq_true rfl) hq
    · exact call_kw F.excBase_ValueError (fun Y => PySem.HandSPX.refsVE_contains Y bm hbm) (I.kIn _ _ hC) (PySem.W.looks_findIn I.kIn T.ini) (fun self => PySem.W.bind_fn I.kIn self T.fn) hq
  refine wpAny_call (way _
    (codeAny_mono (F1.run _ X.stack _ _ ⟨Value.ref (hp.objs.size + 1) :: us, kw⟩ [Value.ref (hp.objs.size + 1), u] [.ref (hp.objs.size + 1), v] _ (fun _ _ _ => False) (hr.make Cc us kw) (I2.env0.make Cc us kw) (hb _ (Value.ref (hp.objs.size + 1)) I2.kIn) (.cons rfl (.cons rv .nil)) sp) fun r s' hq => ?_))
  match r, hq with
  | .error er, hq => exact hq.elim
  | .ok (.ret w), hq =>
    obtain ⟨v', H2, os2, bare2, un2, hok2, rw', ev, d, hd1, hd2, eH⟩ := hq
    subst ev
    subst eH
    refine ⟨rw', ?_⟩
    have hdn : H d = none := by rw [upd_ne hd2] at hd1; exact hd1
    have I3 := I2.call' (ch := []) os2 un2 hok2 bare2 (fun b z => absurd z (by simp))
    have eD : (upd (upd (upd H (hp.objs.size + 1) (exo (hp.objs.size + 1) Cc none)) d (exd d [(("value" : Str), v)])) (hp.objs.size + 1) (exo (hp.objs.size + 1) Cc (some d))) d = some (exd d [(("value" : Str), v)]) := by rw [upd_ne hd2, upd_same]
    have eA : (upd (upd (upd H (hp.objs.size + 1) (exo (hp.objs.size + 1) Cc none)) d (exd d [(("value" : Str), v)])) (hp.objs.size + 1) (exo (hp.objs.size + 1) Cc (some d))) (hp.objs.size + 1) = some (exo (hp.objs.size + 1) Cc (some d)) := upd_same
    obtain ⟨t0, hoe⟩ := exo_at I3.hok eA
    obtain ⟨mA, hns, rel⟩ := exd_at I3.hok eD
    have I4 := Inv.recast (o := ExV Cc d (hp.objs.size + 1)) (u := .xd [(("value" : Str), v)]) I3 eA eD hd2
      ⟨⟨_, _, hoe, ⟨rfl, rfl⟩, rfl⟩, ⟨_, hoe⟩, fun h1 h2 z k => by obtain ⟨oe, vs, a1, a2, a3⟩ := z; exact ⟨oe, vs, k _ a1, a2, a3⟩⟩ ⟨mA, hns, rel⟩
    refine ⟨.ref (hp.objs.size + 1), _, I4, rfl, ?_⟩
    have eq : (upd (upd (upd (upd (upd H (hp.objs.size + 1) (exo (hp.objs.size + 1) Cc none)) d (exd d [(("value" : Str), v)])) (hp.objs.size + 1) (exo (hp.objs.size + 1) Cc (some d))) d (.xd [(("value" : Str), v)])) (hp.objs.size + 1) (ExV Cc d (hp.objs.size + 1)))
        = upd (upd H d (.xd [(("value" : Str), v)])) (hp.objs.size + 1) (ExV Cc d (hp.objs.size + 1)) := by
      funext b
      by_cases n1 : b = hp.objs.size + 1
      · rw [n1, upd_same, upd_same]
      · by_cases n2 : b = d
        · rw [upd_ne n1, upd_ne n1, n2, upd_same, upd_same]
        · rw [upd_ne n1, upd_ne n1, upd_ne n2, upd_ne n1, upd_ne n2, upd_ne n1, upd_ne n2]
    rw [eq]
    exact h _ d hn hdn hd2
end K9
end
section
set_option Elab.async false
set_option linter.all false
set_option maxRecDepth 100000
set_option maxHeartbeats 0
/-! K9Snd9: isinstance, by values. -/
namespace K9
open PySem PySem.Spec PyProof.Rows L2

variable {ca : Nat → Addr} {W : WX} {C : Ctx} {X : Cx} {pos : Pos}
/-- a class of isinstance as a value of the library -/
def tyV (ca : Nat → Addr) : Ty → Value
  | .list => .type "list" | .tuple => .type "tuple" | .int => .type "int" | .str => .type "str" | .bool => .type "bool" | .dict => .type "dict" | .valueError => .type "ValueError"
  | .cls c => .ref (ca c)
def tydV (ca : Nat → Addr) : TyD → Value
  | .b t => .type t
  | .own c => .ref (ca c)
def bNames : List String := ["NoneType", "bool", "int", "str", "tuple", "list", "dict"]
/-- what is asked of an error class, to read its objects -/
structure ExcK (K : PySem.W.Frag) (Cc : Addr) : Prop where
  cl : (PySem.W.clsIn K Cc).isSome = true
  ga : PySem.W.findIn K (.ref Cc) "__getattribute__" = some (some (.builtin "BaseException.__getattribute__"))
  gg : PySem.W.findIn K (.ref Cc) "__getattr__" = some none
  ex : PySem.W.subIn K (.ref Cc) (.type "BaseException") = some true
  hd : PySem.W.hasDictIn K Cc = true
  nv : PySem.W.findIn K (.ref Cc) "value" = some none
  ac : PySem.W.findIn K (.ref Cc) "__class__" = some (some (.builtin "object.__class__"))
  mo : PySem.W.mroIn K Cc (.type "object") = some true
/-- what is asked of the module's classes -/
structure KF (K : PySem.W.Frag) (ca : Nat → Addr) (sub : Nat → Ty → Option Bool) : Prop where
  gs : PySem.W.specialIn K (.builtin "object.__class__") "__get__" = some (some (.builtin "getset_descriptor.__get__"))
  tk : PySem.W.takesIn K (.builtin "object.__class__") = some true
  pl : ∀ c, sub c .valueError = some false → Cls K (ca c) ∧ PySem.W.findIn K (.ref (ca c)) "__class__" = some (some (.builtin "object.__class__")) ∧ PySem.W.mroIn K (ca c) (.type "object") = some true
  ex : ∀ c, sub c .valueError = some true → ExcK K (ca c)
  own : ∀ c t b, sub c t = some b → PySem.W.kitOne K (.ref (ca c)) (tyV ca t) = some b
  bt : ∀ T, T ∈ bNames → ∀ t b, btSub sub T t = some b → PySem.W.kitOne K (.type T) (tyV ca t) = some b
variable {sub : Nat → Ty → Option Bool}
theorem kitAny_of {t : TyD} (h : ∀ x b, tyIs sub t x = some b → PySem.W.kitOne X.K (tydV ca t) (tyV ca x) = some b) : ∀ {ts : List Ty} {b : Bool}, tyAny sub t ts = some b → PySem.W.kitAny X.K (tydV ca t) (ts.map (tyV ca)) = some b
  | [], b, e => by cases e; rfl
  | x :: xs, b, e => by
    unfold tyAny at e
    cases z : tyIs sub t x with
    | none => rw [z] at e; cases e
    | some y =>
      rw [z] at e
      cases y with
      | true => cases e; exact kitAny_cons (h x true z) (fun q => nomatch q) fun _ => rfl
      | false => exact kitAny_cons (h x false z) (fun _ => kitAny_of h e) fun q => nomatch q
theorem kitOne_of (F : KF X.K ca sub) {t : TyD} (ht : ∀ T, t = .b T → T ∈ bNames) {x : Ty} {b : Bool} (h : tyIs sub t x = some b) : PySem.W.kitOne X.K (tydV ca t) (tyV ca x) = some b := by
  cases t with
  | b T => exact F.bt T (ht T rfl) x b h
  | own c => exact F.own c x b h
/-- what the library asks of such a value -/
theorem kit_d (F : KF X.K ca sub) {pins : List (Addr × Obj)} {σ : L2.St} {H : Hp} {s : Shared} {M : Mem} {S : Sto} {env : Env} {σ0 : L2.St} {v : V} {d : D} {u : Value} {t : TyD} (I : Inv X pins σ H s) (rs : RelS ca M S H) (re : RelE ca M env σ0 H) (rx : RepX ca M σ0 v d) (rv : RelV v u)
    (h : tyD sub env S d = some t) : (∀ T, t = .b T → T ∈ bNames) ∧ ∃ P : Heap → Prop, PySem.W.KitX X.K u (tydV ca t) P ∧ P s.heap ∧ u ≠ .builtin "__main__.__loader__#opaque" := by
  have go : ∀ {ob : Ob}, cont env S d = some ob → ((match ob with
    | (.lst _) => some (.b "list")
    | (.dct _ _) => some (.b "dict")
    | (.ins c _ _) => if sub c .valueError = some false then some (.own c) else none : Option TyD) = some t) → (∀ T, t = .b T → T ∈ bNames) ∧ ∃ P : Heap → Prop, PySem.W.KitX X.K u (tydV ca t) P ∧ P s.heap ∧ u ≠ .builtin "__main__.__loader__#opaque" := by
    intro ob hc ht
    obtain ⟨a, ho, rfl, ha, q⟩ := cont_at rs re rx hc
    cases q with
    | lst q => cases ht; exact ⟨fun T e => by cases e; decide, kit_of I rv (.base (.lst ha))⟩
    | dct e q => cases ht; exact ⟨fun T e => by cases e; decide, kit_of I rv (.base (.dK ha))⟩
    | ins e q =>
      rename_i c fs ns ds
      simp only at ht
      split at ht
      · rename_i hs
        cases ht
        obtain ⟨k1, k2, k3⟩ := F.pl c hs
        exact ⟨(fun T e => by cases e), kit_of I rv (.base (.ins ha k1 k2 F.gs F.tk k3))⟩
      · cases ht
  cases d with
  | non => cases h; obtain rfl := non_of rx; exact ⟨fun T e => by cases e; decide, kit_of I rv (.base .non)⟩
  | bl i => cases h; obtain rfl := bl_of rx; exact ⟨fun T e => by cases e; decide, kit_of I rv (.base (.bl _))⟩
  | int i => cases h; obtain rfl := int_of rx; exact ⟨fun T e => by cases e; decide, kit_of I rv (.base (.int _))⟩
  | str i => cases h; obtain rfl := str_of rx; exact ⟨fun T e => by cases e; decide, kit_of I rv (.base (.str _))⟩
  | tup xs =>
    cases h
    obtain ⟨a, vs, rfl, ha, _, _⟩ := tup_of rs rx
    exact ⟨fun T e => by cases e; decide, kit_of I rv (.base (.tup ha))⟩
  | exc c x =>
    unfold tyD at h
    simp only at h
    split at h
    · rename_i hs
      cases h
      obtain T := F.ex c hs
      cases (show Rep ca M v _ from rx) with
      | exc f1 f2 q =>
        rename_i a dd v'
        cases (show u = Value.ref a from rv)
        obtain ⟨oe, vs, h1, hz, hd⟩ := (I.hok a _ (rs.frz _ _ f1)).1
        have hx : ObjOk X.prog X.w H s.heap dd (.xd [(("value" : Str), v')]) := I.hok dd _ (rs.frz _ _ f2)
        obtain ⟨mA, hns, _⟩ := hx
        obtain ⟨od, ho, _⟩ := lookIn_ns hns
        refine ⟨fun T e => (by cases e), _, PySem.W.kitx_exc T.cl T.ga T.gg T.ex T.ac F.gs F.tk T.mo, (show PySem.W.InstAt s.heap a oe (ca c) (some od) from ⟨h1, hz.1, by unfold PySem.W.notCls; rw [hd] <;> rfl, by rw [hz.2]; exact ho⟩), fun z => nomatch z⟩
    · cases h
  | lst xs => exact go rfl h
  | own x => cases rx
  | scr xs => cases h
  | dct ks vs => exact go rfl h
  | ins c fs vs => exact go rfl h
  | ref n =>
    unfold tyD at h
    simp only at h
    cases hc : cont env S (.ref n) with
    | none => rw [hc] at h; cases h
    | some ob => rw [hc] at h; exact go hc (by cases ob <;> exact h)
  | acc n =>
    unfold tyD at h
    simp only at h
    cases hc : cont env S (.acc n) with
    | none => rw [hc] at h; cases h
    | some ob => rw [hc] at h; exact go hc (by cases ob <;> exact h)
/-- a class as a V -/
def tyVV (ca : Nat → Addr) : Ty → V
  | .list => .ty "list" | .tuple => .ty "tuple" | .int => .ty "int" | .str => .ty "str" | .bool => .ty "bool" | .dict => .ty "dict" | .valueError => .ty "ValueError"
  | .cls c => .ref (ca c)
theorem tyVV_cls {t : Ty} : ClsV (tyVV ca t) (tyV ca t) := by
  cases t <;> first | exact .ty _ | exact .own _
/-- a class by its name -/
def PCls (ca : Nat → Addr) (X : Cx) (t : Ty) (e : Expr) : Prop := PE X e (tC (tyVV ca t))
inductive PClss (ca : Nat → Addr) (X : Cx) : List Ty → List Expr → Prop
  | nil : PClss ca X [] []
  | cons {t : Ty} {ts : List Ty} {e : Expr} {es : List Expr} : PCls ca X t e → isStar e = false → PClss ca X ts es → PClss ca X (t :: ts) (e :: es)
theorem pa_clss : ∀ {ts : List Ty} {es : List Expr}, PClss ca X ts es → PA X es (fun σ H Q => Q (ts.map (tyVV ca)) H)
  | _, _, .nil => PA.imp pa_nil fun σ H Q q => q
  | _, _, .cons h hs r => PA.imp (pa_cons h (pa_clss r) (star_cons hs)) fun σ H Q q => q
theorem paired_tys : ∀ (ts : List Ty), Paired ClsV (ts.map (tyVV ca)) (ts.map (tyV ca))
  | [] => .nil
  | t :: ts => .cons tyVV_cls (paired_tys ts)
theorem call_isiD (F : KF X.K ca sub) : CallR X (.builtin "isinstance") (fun xs H Q => ∃ x c M env S σ d t b ts, xs = [x, c] ∧ RelS ca M S H ∧ RelE ca M env σ H ∧ RepX ca M σ x d ∧ tyD sub env S d = some t ∧ tyAny sub t ts = some b ∧
    ((∃ T, ts = [T] ∧ c = tyVV ca T) ∨ (∃ p, c = .ref p ∧ H p = some (.tup (ts.map (tyVV ca))))) ∧ Q (.bl b) H) := by
  intro pins s τ H xs us Q I r h
  obtain ⟨x, c, M, env, S, σ, d, t, b, ts, rfl, rs, re, rx, ht, hb, hc, q⟩ := h
  obtain ⟨u1, u2, rfl, r1, r2⟩ := vals2 r
  obtain ⟨hn, P, Z, p, hx⟩ := kit_d F I rs re rx r1 ht
  rcases hc with ⟨T, rfl, rfl⟩ | ⟨tp, rfl, hT⟩
  · have e2 := (tyVV_cls (ca := ca) (t := T)).eq r2
    subst e2
    refine PySem.W.kia_one Z I.kIn p (b := b) (kitOne_of F hn ?_) hx fun tk => ⟨.bl b, H, I.tok tk, rfl, q⟩
    unfold tyAny at hb
    cases z : tyIs sub t T with
    | none => rw [z] at hb; cases hb
    | some y =>
      rw [z] at hb
      cases y with
      | true => cases hb; rfl
      | false => cases hb; rfl
  · cases (show u2 = Value.ref tp from r2)
    obtain ⟨_, its, rv, o, h1, h2, n, h3⟩ := (show ObjOk X.prog X.w H s.heap tp (.tup (ts.map (tyVV ca))) from I.hok tp _ hT)
    have e3 := ClsV.all (paired_tys (ca := ca) ts) rv
    subst e3
    obtain ⟨oc, od, dt, sl⟩ := o
    simp only at h2 h3
    subst h2 h3
    exact PySem.W.kia_tup Z I.kIn p h1 (kitAny_of (fun x b h => kitOne_of F hn h) hb) hx fun tk => ⟨.bl b, H, I.tok tk, rfl, q⟩
theorem ext_bl {M : Mem} {S : Sto} {H : Hp} {σ : L2.St} {Q : VK} {b : Bool} {p : Addr} {o : HO} (rs : RelS ca M S H) (hp : H p = none) (q : Out ca W M σ H (.ok (.bl b) S) Q) : Q (.bl b) (upd H p o) :=
  q (.bl b) (M.add p o) _ (ext_add rs hp) (rel_add rs hp) (.bl b)
/-- isinstance(e, T) -/
theorem snd_isi1 {e c : Expr} {x : Ex} {T : Ty} {p : Pos} (F : KF X.K ca C.sub) (hg : Gl X "isinstance") (hm : X.mg "isinstance" = none) (hs : isStar e = false) (hs2 : isStar c = false)
    (he : PE X e (tM ca W (ev C x))) (hc : PCls ca X T c) : PE X (.Call (.Name "isinstance" p) [e, c] [] pos) (tM ca W (ev C (.isi x [T]))) := by
  refine PE.imp (pe_callB (call_isiD (ca := ca) F) hg hm rfl (pa_cons he (pa_cons hc pa_nil (star_cons hs2)) (star_cons hs)) (by decide) (by decide) (star_cons hs) (no_star (by rw [List.any_cons, hs2]; rfl))) fun σ H Q ⟨M, env, S, rs, re, o⟩ => ?_
  simp only [ev] at o
  refine ⟨M, env, S, rs, re, o.bind re fun d S1 v M1 H1 _ e1 rs1 re1 rx1 o1 => ?_⟩
  obtain ⟨t, h1, o2⟩ := out_oget o1
  obtain ⟨b, h2, o3⟩ := out_oget o2
  exact ⟨v, _, M1, env, S1, σ, d, t, b, [T], rfl, rs1, re1, rx1, h1, h2, .inl ⟨T, rfl, rfl⟩, out_v rs1 (.bl b) o3⟩
/-- isinstance(e, (T1, ..)) -/
theorem snd_isiT {e : Expr} {es : List Expr} {k : Nat} {q : Pos} {x : Ex} {ts : List Ty} {p : Pos} (F : KF X.K ca C.sub) (hg : Gl X "isinstance") (hm : X.mg "isinstance" = none) (hs : isStar e = false) (hl : ts.length ≤ sizeLine)
    (he : PE X e (tM ca W (ev C x))) (hc : PClss ca X ts es) : PE X (.Call (.Name "isinstance" p) [e, .Tuple es k q] [] pos) (tM ca W (ev C (.isi x ts))) := by
  refine PE.imp (pe_callB (call_isiD (ca := ca) F) hg hm rfl (pa_cons he (pa_cons (pe_tup (pa_clss hc)) pa_nil (star_cons rfl)) (star_cons hs)) (by decide) (by decide) (star_cons hs) (no_star (by rfl))) fun σ H Q ⟨M, env, S, rs, re, o⟩ => ?_
  simp only [ev] at o
  refine ⟨M, env, S, rs, re, o.bind re fun d S1 v M1 H1 _ e1 rs1 re1 rx1 o1 => ?_⟩
  obtain ⟨t, h1, o2⟩ := out_oget o1
  obtain ⟨b, h2, o3⟩ := out_oget o2
  refine ⟨by rw [List.length_map]; exact hl, fun tp hp => ?_⟩
  have e2 : Ext M1 H1 (M1.add tp (.tup (ts.map (tyVV ca)))) (upd H1 tp (.tup (ts.map (tyVV ca)))) := ext_add rs1 hp
  exact ⟨v, _, M1.add tp (.tup (ts.map (tyVV ca))), env, S1, σ, d, t, b, ts, rfl, rel_add rs1 hp, re1.ext e2, rx1.ext e2, h1, h2, .inr ⟨tp, rfl, upd_same⟩, ext_bl rs1 hp o3⟩
end K9
end
section
set_option Elab.async false
set_option linter.all false
set_option maxRecDepth 100000
set_option maxHeartbeats 0
/-! K9Snd10: fields, properties, methods, makers. -/
namespace K9
open PySem PySem.Spec PyProof.Rows L2

variable {ca fa : Nat → Addr} {W : WX} {C : Ctx} {X : Cx} {pos : Pos}
theorem lookF_of {M : Mem} : ∀ {fs : List (Str × V)} {ns : List Str} {ds : List D} {f : Str} {d : D}, fs.map (·.1) = ns → RepL ca M (fs.map (·.2)) ds → lookF ns ds f = some d → ∃ v, fs.lookup f = some v ∧ Rep ca M v d
  | [], ns, ds, f, d, e, r, h => by
    cases e
    cases ds <;> cases h
  | (g, v) :: fs, ns, ds, f, d, e, r, h => by
    subst e
    cases r with
    | cons r1 r2 =>
      unfold lookF at h
      by_cases z : f = g
      · simp only [z, if_true, List.map_cons] at h
        cases h
        exact ⟨v, by rw [lookup_put, if_pos z], r1⟩
      · simp only [z, if_false, List.map_cons] at h
        obtain ⟨u, h1, h2⟩ := lookF_of rfl r2 h
        exact ⟨u, by rw [lookup_put, if_neg z]; exact h1, h2⟩
theorem lookF_no {M : Mem} : ∀ {fs : List (Str × V)} {ns : List Str} {ds : List D} {f : Str}, fs.map (·.1) = ns → RepL ca M (fs.map (·.2)) ds → (lookF ns ds f).isNone = true → fs.lookup f = none
  | [], _, _, _, _, _, _ => rfl
  | (g, v) :: fs, ns, ds, f, e, r, h => by
    subst e
    cases r with
    | cons r1 r2 =>
      unfold lookF at h
      by_cases z : f = g
      · simp [z] at h
      · simp only [z, if_false, List.map_cons] at h
        rw [lookup_put, if_neg z]
        exact lookF_no rfl r2 h
/-- what is asked of the module's classes and defs, besides -/
structure KA (K : PySem.W.Frag) (ca fa : Nat → Addr) (attr : Nat → Str → Option (Option Nat)) (meth : Nat → Str → Option Nat) : Prop where
  fl : ∀ c f, attr c f = some none → Cls K (ca c) ∧ NoAttr K (ca c) f
  pr : ∀ c f g, attr c f = some (some g) → Cls K (ca c) ∧ ∃ p, PropOf K (ca c) f p (fa g)
  ms : ∀ c x g, meth c x = some g → Cls K (ca c) ∧ Meth K (ca c) x (fa g)
/-- what is known of a def at a depth -/
def FnT (ca fa : Nat → Addr) (P : Program) (w : World) (K : PySem.W.Frag) (mg : Str → Option Value) (base : Heap) (k : Nat) (call : Nat → List D → Sto → R D) (g : Nat) : Prop :=
  ∃ (fd : FuncData) (ps : List Str), FnG P w K mg base k (fa g) fd ps (spF ca (call g)) ∧ Binds K fd ps []
theorem getprop_d {pins : List (Addr × Obj)} {σ : L2.St} {H : Hp} {s : Shared} {Q : VK} {b : Bool} {E' : Value → Shared → Prop} {k g : Nat} {a dx : Addr} {c : Nat} {p : Addr} {fs : List (Str × V)} {f : Str} {d : D} {M : Mem} {S : Sto} (I : Inv X pins σ H s) (ea : H a = some (.ins (ca c) dx fs)) (cl : Cls X.K (ca c)) (hp : PropOf X.K (ca c) f p (fa g))
    (F : FnT ca fa X.prog X.w X.K X.mg X.base k C.call g) (hg : X.A.guards = some []) (hr : Room (k + 1) X.A) (rs : RelS ca M S H) (rx : Rep ca M (.ref a) d) (o : Out ca W M σ H (noEr (C.call g [d] S)) Q) :
    wpAny (model X.prog X.w) X.A (getAttr (.ref a) f b) (EP X pins σ Q) E' s := by
  obtain ⟨fd, ps, F, hb⟩ := F
  obtain ⟨mA, O, _, _, _, _⟩ := ins_get I.hok ea
  obtain ⟨od, J, _⟩ := O.look
  obtain ⟨rest, hrec⟩ := hp.rec_
  have I1 := I.tok (s.toks + 1)
  have sp : spF ca (C.call g) [.ref a] H Q (fun _ _ _ => False) := by
    refine ⟨M, S, [d], rs, .cons rx .nil, ?_⟩
    cases hq : C.call g [d] S with
    | bad => rw [hq] at o; exact o.elim
    | er c d S' => rw [hq] at o; exact o.elim
    | ok x S' => rw [hq] at o; exact fun v M' H' e rs rv => (show Out ca W M σ H (.ok x S') Q from o) v M' H' e rs rv.t
  have hl : ([Value.ref a] : List Value).length = ps.length := F.len _ _ _ _ sp
  have hc : (PySem.W.clsIn X.K (ca c)).isSome = true := by
    obtain ⟨cd, hc, _⟩ := PySem.W.any_some cl.hd
    rw [hc]
    rfl
  refine PySem.W.get_bind I.kIn J (PySem.W.plainGet_of (cl.get f)).1 (PySem.W.findObj_data hc hp.at_ hp.get hp.tak) (PySem.W.plainGet_of (cl.get f)).2 (wpAny_call (PySem.W.prop_get (s := { s with toks := s.toks + 1 }) I.kIn hrec ?_))
  refine codeAny_mono (F.run X.A.in1 X.stack { s with toks := s.toks + 1 } H ⟨[.ref a], []⟩ [.ref a] [.ref a] Q (fun _ _ _ => False) hg hr.in1 I1.env0.in1 (by have q := hb { s with toks := s.toks + 1 } [.ref a] I1.kIn (by rw [List.append_nil]; exact hl); rwa [List.append_nil] at q) (.cons rfl .nil) sp) fun r s' hq => ?_
  match r, hq with
  | .error er, hq =>
    obtain ⟨_, _, _, _, _, _, _, _, _, _, _, _, z⟩ := hq
    exact z.elim
  | .ok (.ret u), hq =>
    obtain ⟨v, H', I3, rv, q3⟩ := I1.after hq
    show wpAny _ _ (handedOut u) _ _ _
    rw [PySem.W.handedOut_of (handed_of rv)]
    exact wpAny_pure ⟨v, H', I3, rv, q3⟩
/-- e.f -/
theorem snd_fld {e : Expr} {x : Ex} {f : Str} {k : Nat} (F : KF X.K ca C.sub) (A : KA X.K ca fa C.attr C.meth) (T : ∀ g, (∃ c f, C.attr c f = some (some g)) → FnT ca fa X.prog X.w X.K X.mg X.base k C.call g) (hg : X.A.guards = some []) (hr : Room (k + 1) X.A)
    (he : PE X e (tM ca W (ev C x))) (hb : attributeBase e f X.env (eval e X.env) = eval e X.env) : PE X (.Attribute e f pos) (tM ca W (ev C (.fld x f))) := by
  refine ⟨fun pins s σ H Q I h => ?_⟩
  obtain ⟨M, env, S, rs, re, o⟩ := h
  simp only [ev] at o
  refine attr_of hb (thn (he.run pins s σ H _ I ⟨M, env, S, rs, re, o.bind (Q1 := fun v H1 => ∃ M1 S1 d, RelS ca M1 S1 H1 ∧ RelE ca M1 env σ H1 ∧ RepX ca M1 σ v d ∧ Out ca W M1 σ H1 (fldD C f env d S1) Q) re fun d S1 v M1 H1 _ e1 rs1 re1 rx1 o1 => ⟨M1, S1, d, rs1, re1, rx1, o1⟩⟩) fun u s1 hh => ?_)
  obtain ⟨v, H1, I1, rv, M1, S1, d, rs1, re1, rx1, o1⟩ := hh
  have go : ∀ {ob : Ob}, cont env S1 d = some ob → Out ca W M1 σ H1 (match (some ob : Option Ob) with
      | some (.ins c fs vs) => match C.attr c f with
        | some (some g) => if d.isAcc then .bad else noEr (C.call g [d] S1)
        | some none => oget (lookF fs vs f) fun v => .ok v S1
        | none => .bad
      | _ => .bad) Q → wpAny (model X.prog X.w) X.A (getAttr u f true) (EP X pins σ Q) X.xe s1 := by
    intro ob hc o1
    obtain ⟨a, ho, rfl, ha, q⟩ := cont_at rs1 re1 rx1 hc
    obtain rfl : u = Value.ref a := rv
    cases q with
    | lst q => exact o1.elim
    | dct e q => exact o1.elim
    | ins e q =>
      rename_i c fs ns ds
      simp only at o1
      cases hat : C.attr c f with
      | none => rw [hat] at o1; exact o1.elim
      | some og =>
        rw [hat] at o1
        cases og with
        | none =>
          obtain ⟨k1, k2⟩ := A.fl c f hat
          obtain ⟨y, h1, o2⟩ := out_oget o1
          obtain ⟨w, h2, rw'⟩ := lookF_of e q h1
          exact getattr_ok I1 ha k1 k2 h2 fun u' s2 I2 ru => ⟨w, H1, I2, ru, out_v rs1 rw' o2⟩
        | some g =>
          obtain ⟨k1, p, k2⟩ := A.pr c f g hat
          simp only at o1
          cases hd : d.isAcc with
          | true => rw [hd] at o1; exact o1.elim
          | false =>
            rw [hd] at o1
            exact getprop_d I1 ha k1 k2 (T g ⟨c, f, hat⟩) hg hr rs1 (rx1.rep hd) (by simpa using o1)
  unfold fldD at o1
  cases d with
  | exc c x =>
    obtain ⟨⟨rfl, hs⟩, o2⟩ := out_chk o1
    obtain T := F.ex c hs
    cases (show Rep ca M1 v _ from rx1) with
    | exc f1 f2 q =>
      rename_i a dd v'
      obtain rfl : u = Value.ref a := rv
      obtain ⟨oe, vs, h1, hz, hd⟩ := (I1.hok a _ (rs1.frz _ _ f1)).1
      have hx : ObjOk X.prog X.w H1 s1.heap dd (.xd [(("value" : Str), v')]) := I1.hok dd _ (rs1.frz _ _ f2)
      obtain ⟨mA, hns, hrel⟩ := hx
      obtain ⟨od, ho, hl⟩ := lookIn_ns hns
      obtain ⟨u2, hu, ru⟩ := RelO.some_of (v := v') (o := mA ("value" : Str)) (by
        have q := hrel ("value" : Str)
        simpa [List.lookup] using q)
      have J : PySem.W.InstAt s1.heap a oe (ca c) (some od) := ⟨h1, hz.1, by unfold PySem.W.notCls; rw [hd] <;> rfl, by rw [hz.2]; exact ho⟩
      exact HandSPX.exc_get I1.kIn J T.ga T.gg T.ex (PySem.W.findObj_own T.hd T.nv rfl (by rw [hl, hu])) (handed_of ru) ⟨v', H1, I1.tok _, ru, out_v rs1 q o2⟩
  | ins c fs vs => exact go rfl o1
  | ref n =>
    cases hc : cont env S1 (.ref n) with
    | none => simp only [hc] at o1; exact o1.elim
    | some ob => simp only [hc] at o1; exact go hc o1
  | acc n =>
    cases hc : cont env S1 (.acc n) with
    | none => simp only [hc] at o1; exact o1.elim
    | some ob => simp only [hc] at o1; exact go hc o1
  | lst xs => exact o1.elim
  | dct ks vs => exact o1.elim
  | _ => exact (show False from o1).elim
end K9
end
section
set_option Elab.async false
set_option linter.all false
set_option maxRecDepth 100000
set_option maxHeartbeats 0
/-! K9Snd11: methods of own classes and of built-in types, makers. -/
namespace K9
open PySem PySem.Spec PyProof.Rows L2

variable {ca fa : Nat → Addr} {W : WX} {C : Ctx} {X : Cx} {pos : Pos}
theorem okBase_eq {o : Expr} (h : okBase o = true) (attr : Str) (env : PySem.Env) (whole : Sem Value) : attributeBase o attr env whole = whole := by
  unfold attributeBase
  split
  · rename_i id p pos
    have h' : (id != "super") = true := h
    simp only [h', Bool.true_or, if_true]
  · rfl
theorem few_of : ∀ {es : List Expr} {env : PySem.Env} {p : Pos}, es.any isStar = false → (backTo p (starEach es env)).all (fun x => !x.1) = true
  | [], _, _, _ => rfl
  | e :: es, env, p, h => by
    rw [List.any_cons, Bool.or_eq_false_iff] at h
    rw [star_cons h.1]
    show (true && (backTo p (starEach es env)).all (fun x => !x.1)) = true
    rw [few_of h.2]; rfl
theorem form_of {es : List Expr} {env : PySem.Env} {p : Pos} (hs : es.any isStar = false) (hl : es.length < 30) : ((backTo p (starEach es env)).all (fun x => !x.1) && (backToKw p (keywordEach [] env)).all (fun x => x.1.isSome)
    && decide (es.length + ([] : List Keyword).length + (if ([] : List Keyword).isEmpty then 0 else 1) < 30)) = true := by
  rw [few_of hs]
  show (true && true && decide (es.length + 0 + 0 < 30)) = true
  simpa using hl
/-- o.m(..) as it is run -/
theorem meth_eq {o : Expr} {m : Str} {apos : Pos} {es : List Expr} {env : PySem.Env} (hb : okBase o = true) (hs : es.any isStar = false) (hl : es.length < 30) (hp : (apos.endLine == pos.line) = true) :
    eval (.Call (.Attribute o m apos) es [] pos) env = (do
      let ov ← eval o env
      standAt apos.atName
      let (f, first) ← holding [ov] (getMethod ov m (do return (← importBound o env).getD true))
      callWith pos f first (backTo pos (starEach es env)) (backToKw pos (keywordEach [] env))) := by
  have hform : methodCallForm (es.length + ([] : List Keyword).length) (backTo pos (starEach es env)) (backToKw pos (keywordEach [] env)) = true := form_of hs hl
  have hpos : methodCallPos true o env apos pos = pure pos := by unfold methodCallPos; simp [hp]
  rw [arm_eval_Call, okBase_eq hb]
  unfold methodCall calleeOf
  rw [hform]
  simp only [if_true, hpos]
  rfl
/-- o.m(..), o an instance -/
theorem snd_meth {o : Expr} {m : Str} {apos : Pos} {es : List Expr} {x : Ex} {xs : Exs} (A : KA X.K ca fa C.attr C.meth) (T : ∀ g, (∃ c x, C.meth c x = some g) → RunsP ca W X (.ref (fa g)) (C.call g))
    (hb : okBase o = true) (hs : es.any isStar = false) (hl : es.length < 30) (hp : (apos.endLine == pos.line) = true) (hx : es = [] → xs = .nil) (he : PE X o (tM ca W (ev C x))) (ha : PA X es (tAK ca W (evs C xs))) :
    PE X (.Call (.Attribute o m apos) es [] pos) (tM ca W (ev C (.meth m x xs))) := by
  refine ⟨fun pins s σ H Q I h => ?_⟩
  obtain ⟨M, env, S, rs, re, o⟩ := h
  simp only [ev] at o
  refine PySem.W.methodCall_KW (thn (he.run pins s σ H _ I ⟨M, env, S, rs, re, o.bind (Q1 := fun v H1 => ∃ M1 S1 d, RelS ca M1 S1 H1 ∧ RelE ca M1 env σ H1 ∧ RepX ca M1 σ v d ∧ Out ca W M1 σ H1 (methD C m (evs C xs env) env d S1) Q) re fun d S1 v M1 H1 _ e1 rs1 re1 rx1 o1 => ⟨M1, S1, d, rs1, re1, rx1, o1⟩⟩) fun u s1 hh => ?_) (meth_eq hb hs hl hp)
  obtain ⟨v, H1, I1, rv, M1, S1, d, rs1, re1, rx1, o1⟩ := hh
  unfold methD at o1
  cases hd : d.isAcc with
  | true => rw [hd] at o1; exact o1.elim
  | false =>
    rw [hd] at o1
    simp only [Bool.false_eq_true, if_false] at o1
    cases hc : cont env S1 d with
    | none => rw [hc] at o1; exact o1.elim
    | some ob =>
      rw [hc] at o1
      obtain ⟨a, ho, rfl, ha1, q⟩ := cont_at rs1 re1 rx1 hc
      obtain rfl : u = Value.ref a := rv
      cases q with
      | lst q => exact o1.elim
      | dct e q => exact o1.elim
      | ins e q =>
        rename_i c fs ns ds
        obtain ⟨h1, o2⟩ := out_chk o1
        obtain ⟨g, h2, o3⟩ := out_oget o2
        obtain ⟨k1, k2⟩ := A.ms c m g h2
        refine getmeth_ok I1 ha1 k1 k2 (lookF_no e q h1) ?_
        have rx := rx1.rep hd
        have run := T g ⟨c, m, h2⟩
        cases es with
        | nil =>
          obtain rfl := hx rfl
          simp only [evs, R.bind] at o3
          exact PySem.W.callWith_K0 (first := [.ref a]) I1.kIn k2.kp (run pins σ H1 s1 [.ref a] [.ref a] [d] M1 S1 Q I1 (.cons rfl .nil) rs1 (.cons rx .nil) o3)
        | cons e' es' =>
          rw [List.any_cons, Bool.or_eq_false_iff] at hs
          have hlst := o3.bindL (rel := fun M => RepL ca M) (Q1 := fun vs H2 => ∃ M2 S2 ds, RelS ca M2 S2 H2 ∧ RepL ca M2 vs ds ∧ Rep ca M2 (.ref a) d ∧ Out ca W M2 σ H2 (C.call g (d :: ds) S2) Q) re1 fun ds S2 vs M2 H2 e2 rs2 re2 rx2 o4 => ⟨M2, S2, ds, rs2, rx2, e2.rep rx, o4⟩
          refine PySem.W.callWith_K (first := [.ref a]) (h₀ := X.base) I1.ok.mod.kin k2.kp (thn (ha.run pos pins s1 σ H1 _ I1 ⟨M1, env, S1, rs1, re1, hlst⟩) fun us s2 ⟨vs, H2, I2, r2, M2, S2, ds, rs2, rl, rx', o4⟩ => ⟨I2.kIn, ?_⟩) (star_cons hs.1) (no_star hs.2)
          exact run pins σ H2 s2 (.ref a :: us) (.ref a :: vs) (d :: ds) M2 S2 Q I2 (.cons rfl r2) rs2 (.cons rx' rl) o4
/-- the promise of a maker's run -/
def OutMk (ca : Nat → Addr) (M : Mem) (H : Hp) (x : Addr) (r : R D) (Q : VK) (E : XK) : Prop := match r with
  | .ok (.own d) S => ∀ M' H' ho ob, Ext M H M' H' → RelS ca M' S H' → obOf d = some ob → H' x = some ho → ObR ca M' ho ob → M'.F x = none → x ∉ M'.mu → Q .non H'
  | .ok _ _ => False
  | .er c d S => ∀ cls dd M' H', Ext M H M' H' → RelS ca M' S H' → ExcR ca M' H' c d cls dd → H dd.get! = none → E cls dd H'
  | .bad => False
def spMk (ca : Nat → Addr) (c : Nat) (g : List D → Sto → R D) : Sp := fun vs H Q E => ∃ M S ds x dx us, vs = .ref x :: us ∧ RelS ca M S H ∧ RepL ca M us ds ∧ H x = some (.ins (ca c) dx []) ∧ M.F x = none ∧ x ∉ M.mu ∧ OutMk ca M H x (g ds S) Q E
/-- C(..), C a plain class -/
theorem runsP_mk {c k : Nat} {f : Addr} {fd : FuncData} {ps : List Str} {g : List D → Sto → R D} (Mc : Mk X.K (ca c) f) (F : FnG X.prog X.w X.K X.mg X.base k f fd ps (spMk ca c g)) (hg : X.A.guards = some []) (hr : Room (k + 1) X.A) (tk : Takes X W) (hb : Binds X.K fd ps []) (hown : ∀ ds S d S', g ds S = .ok d S' → ∃ e, d = .own e) : RunsP ca W X (.ref (ca c)) g := by
  intro pins σ H s us vs ds M S Q I r rs rx o
  have fr1 : H (s.heap.objs.size + 1) = none := I.hok.fresh (Nat.le_succ _)
  have fr0 : H s.heap.objs.size = none := I.hok.fresh (Nat.le_refl _)
  have ne01 : s.heap.objs.size ≠ s.heap.objs.size + 1 := Nat.ne_of_lt (Nat.lt_succ_self _)
  generalize hx : s.heap.objs.size + 1 = x at fr1 ne01
  generalize hdx : s.heap.objs.size = dx at fr0 ne01
  have hx1 : (upd H dx (.own x)) x = none := by rw [upd_ne (Ne.symm ne01)]; exact fr1
  have e1 : Ext M H M (upd (upd H dx (.own x)) x (.ins (ca c) dx [])) := {
    F := fun _ _ h => h
    mu := fun _ _ h => h
    h0 := rfl
    sa := rfl
    rest := fun a u h _ => by rw [upd_ne (ne_of_none h fr1), upd_ne (ne_of_none h fr0)]; exact h
    newF := fun a u h n => by rw [n] at h; cases h
    newM := fun a h n => absurd h n
    dom := fun a u h => ⟨u, by rw [upd_ne (ne_of_none h fr1), upd_ne (ne_of_none h fr0)]; exact h⟩ }
  have rs1 : RelS ca M S (upd (upd H dx (.own x)) x (.ins (ca c) dx [])) := by
    refine ⟨fun a u h => e1.rest a u (rs.frz a u h) (fun q => ?_), rs.len, rs.nd, rs.off, fun n ob h => ?_, fun a h => rs.h0 a (upd_none (upd_none h))⟩
    · rw [rs.off a q] at h; cases h
    · obtain ⟨a, ho, h1, h2, h3⟩ := rs.ob n ob h
      exact ⟨a, ho, h1, by rw [upd_ne (ne_of_none h2 fr1), upd_ne (ne_of_none h2 fr0)]; exact h2, h3⟩
  have sp : spMk ca c g (.ref x :: vs) (upd (upd H dx (.own x)) x (.ins (ca c) dx [])) (fun v H2 => v = .non ∧ Q (.ref x) H2) (fun cls d H' => W cls d σ H') := by
    refine ⟨M, S, ds, x, dx, vs, rfl, rs1, rx, upd_same, free_F rs fr1, free_mu rs fr1, ?_⟩
    cases hr : g ds S with
    | bad => rw [hr] at o; exact o.elim
    | er c' d S' =>
      rw [hr] at o
      intro cls dd M' H' e2 rs2 ex hn
      exact o cls dd M' H' (e1.trans e2) rs2 ex (upd_none (upd_none hn))
    | ok d S' =>
      obtain ⟨d, rfl⟩ := hown _ _ _ _ hr
      rw [hr] at o
      intro M' H' ho ob e2 rs2 hd hh ro f1 f2
      exact ⟨rfl, (show Out ca W M σ H (.ok (.own d) S') Q from o) (.ref x) M' H' (e1.trans e2) rs2 ⟨x, ho, ob, rfl, fr1, hh, hd, ro, f1, f2⟩⟩
  subst hx
  subst hdx
  have I2 := Inv.made (C := ca c) I
  have r2 : Vals (V.ref (s.heap.objs.size + 1) :: vs) (Value.ref (s.heap.objs.size + 1) :: us) := .cons rfl r
  have hl : (Value.ref (s.heap.objs.size + 1) :: us).length = ps.length := by rw [← r2.length]; exact F.len _ _ _ _ sp
  have bt := hb _ (Value.ref (s.heap.objs.size + 1) :: us) I2.kIn (by rw [List.append_nil]; exact hl)
  rw [List.append_nil] at bt
  refine wpAny_call (make_map (f := f) I.kIn Mc.makes Mc.init (beq_iff_eq.mp Mc.fn) (codeAny_mono (F.run _ X.stack _ _ ⟨Value.ref (s.heap.objs.size + 1) :: us, []⟩ _ _ _ _ hg (hr.make (ca c) us [])
    (I2.env0.make (ca c) us []) bt r2 sp) fun r s' hq' => ?_))
  match r, hq' with
  | .error e, hq' =>
    exact tk _ _ (XE.of_call I2 (fun _ _ _ z => z) hq')
  | .ok (.ret u), hq' =>
    obtain ⟨v, H', I3, rv, ev, q3⟩ := I2.after hq'
    subst ev
    exact ⟨rv, ⟨V.ref (s.heap.objs.size + 1), H', I3, rfl, q3⟩⟩
/-! ### errors -/
theorem out_exc {M : Mem} {S : Sto} {H : Hp} {σ : L2.St} {Q : VK} {c : Nat} {v : V} {u : D} (rs : RelS ca M S H) (r : Rep ca M v u) (o : Out ca W M σ H (.ok (.exc c u) S) Q) {a d : Addr} (ha : H a = none) (hd : H d = none) (hne : d ≠ a) :
    Q (.ref a) (upd (upd H d (.xd [(("value" : Str), v)])) a (ExV (ca c) d a)) := by
  have e1 : Ext M H (M.add d (.xd [(("value" : Str), v)])) (upd H d (.xd [(("value" : Str), v)])) := ext_add (ca := ca) rs hd
  have rs1 := rel_add (ca := ca) (o := .xd [(("value" : Str), v)]) rs hd
  have ha1 : (upd H d (.xd [(("value" : Str), v)])) a = none := by rw [upd_ne (Ne.symm hne)]; exact ha
  have e2 := ext_add (ca := ca) (o := ExV (ca c) d a) rs1 ha1
  have rs2 := rel_add (ca := ca) (o := ExV (ca c) d a) rs1 ha1
  refine o (.ref a) _ _ (e1.trans e2) rs2 ?_
  exact Rep.exc (upd_same) (e2.F _ _ upd_same) (e2.rep (e1.rep r))
/-- C(v), C(value = v) -/
theorem runsP_exc {c : Nat} {fI : Addr} {fdI : FuncData} (T : ExcT X.K (ca c) fI) (F1 : FnOk X.prog X.w X.K X.mg X.base CX0 1 fI fdI (["self", "value"] : List Str) (spEI X.K)) (hr : Room 2 X.A)
    (hb : ∀ (s : Shared) (self u : Value), X.K.In s.heap → BindsTo s fdI ⟨[self, u], []⟩ ((["self", "value"] : List Str).zip [self, u])) :
    RunsP ca W X (.ref (ca c)) (fun ds S => match ds with | [d] => .ok (.exc c d) S | _ => .bad) := by
  intro pins σ H s us vs ds M S Q I r rs rx o
  cases rx with
  | nil => exact o.elim
  | cons r1 r2 =>
    cases r2 with
    | cons _ _ => exact o.elim
    | nil =>
      obtain ⟨u, rfl, rv⟩ := Vals.one r
      exact run_exc T F1 hr (fun s self k => hb s self u k) (.inl ⟨rfl, rfl⟩) I rv fun a d h1 h2 h3 => out_exc rs r1 o h1 h2 h3
theorem runsK_exc {c : Nat} {fI : Addr} {fdI : FuncData} (T : ExcT X.K (ca c) fI) (F1 : FnOk X.prog X.w X.K X.mg X.base CX0 1 fI fdI (["self", "value"] : List Str) (spEI X.K)) (hr : Room 2 X.A)
    (hb : ∀ (s : Shared) (self u : Value), X.K.In s.heap → BindsTo s fdI ⟨[self], [(("value" : Str), u)]⟩ ((["self", "value"] : List Str).zip [self, u])) :
    RunsK ca W X (.ref (ca c)) 0 (["value"] : List Str) [0] (fun ds S => match ds with | [d] => .ok (.exc c d) S | _ => .bad) := by
  intro pins σ H s us ws vs zs ds es fs M S Q I r r2 l1 l2 rs rx rx2 hp o
  cases vs with
  | cons _ _ => cases l1
  | nil =>
    cases r
    cases rx
    cases zs with
    | nil => cases l2
    | cons z zs =>
      cases zs with
      | cons _ _ => cases l2
      | nil =>
        obtain ⟨u, rfl, rv⟩ := Vals.one r2
        cases rx2 with
        | cons r1 rn =>
          cases rn
          cases hp
          exact run_exc T F1 hr (fun s self k => hb s self u k) (.inr ⟨rfl, rfl⟩) I rv fun a d h1 h2 h3 => out_exc rs r1 o h1 h2 h3

/-! ### methods of built-in types -/
def rMt (ca : Nat → Addr) (x : Mt) : V → List V → Hp → VK → Prop := fun v vs H Q => ∃ M env S σ d ds, RelS ca M S H ∧ RelE ca M env σ H ∧ RepX ca M σ v d ∧ RepXL ca M σ vs ds ∧ Out ca (fun _ _ _ _ => False) M σ H (mtD x d ds env S) Q
theorem noEr_mt {x : Mt} (d : D) (ds : List D) (env : Env) (S : Sto) : NoEr (mtD x d ds env S) := by
  unfold mtD
  split
  · exact noErO fun _ => noErO fun _ => noErC noErOk
  · split
    · exact noErOk
    · exact noErBad
  · split
    · exact noErOk
    · exact noErBad
  · exact noErBad
theorem tyV_mt {x : Mt} {T : String} {M : Mem} {S : Sto} {H : Hp} {σ : L2.St} {env : Env} {v : V} {d : D} (hT : T = (match x with | .join => "str" | .partition => "str" | .replace => "str" | .split => "str" | .upper => "str" | .get => "dict" | .items => "dict" | .update => "dict" | .values => "dict" | _ => "list"))
    (rs : RelS ca M S H) (re : RelE ca M env σ H) (rx : RepX ca M σ v d) (h : mtTy x env S d = true) : L2.tyV X.K T v H := by
  have hs : ∀ {z : Str}, d = .str z → L2.tyV X.K "str" v H := fun e => by
    subst e
    obtain rfl := str_of rx
    rfl
  have hl : ∀ {ob : Ob}, cont env S d = some ob → (match (some ob : Option Ob) with | some (.lst _) => true | _ => false) = true → L2.tyV X.K "list" v H := by
    intro ob hc hb
    obtain ⟨a, ho, rfl, ha, q⟩ := cont_at rs re rx hc
    cases q with
    | lst q => exact .inl ⟨rfl, _, SqL.of ha⟩
    | dct e q => cases hb
    | ins e q => cases hb
  have hd : ∀ {ob : Ob}, cont env S d = some ob → (match (some ob : Option Ob) with | some (.dct _ _) => true | _ => false) = true → L2.tyV X.K "dict" v H := by
    intro ob hc hb
    obtain ⟨a, ho, rfl, ha, q⟩ := cont_at rs re rx hc
    cases q with
    | dct e q => exact .inr (.inr (.inl ⟨rfl, .inl ⟨_, ha⟩⟩))
    | lst q => cases hb
    | ins e q => cases hb
  subst hT
  unfold mtTy at h
  cases x <;> simp only at h ⊢ <;> first
    | (cases d <;> first | exact hs rfl | cases h; done)
    | (cases hc : cont env S d with
       | none => rw [hc] at h; cases h
       | some ob => rw [hc] at h; first | exact hd hc h | exact hl hc h)
theorem mtr_join : MtR X "str.join" (rMt ca .join) := by
  intro pins s σ H x xs v us Q I rx rs h
  obtain ⟨M, env, S, σ0, d, ds, rs0, re, rd, rds, o⟩ := h
  unfold mtD at o
  split at o
  · rename_i d' hx
    obtain ⟨p, rfl, rp⟩ := one_x rds
    obtain rfl := str_of rd
    obtain ⟨ys, h1, o⟩ := out_oget o
    obtain ⟨ts, h2, o⟩ := out_oget o
    obtain ⟨h3, o⟩ := out_chk o
    obtain ⟨a, ws, rfl, ha, q⟩ := lst_at rs0 re rp h1
    obtain rfl := strsD_of q h2
    refine mt_join pins s σ H _ _ v us Q I rx rs ⟨_, a, ts, rfl, rfl, .inl (SqL.of ha), ?_, ?_⟩
    · rw [← sizeLine_eq, Nat.mul_comm ts.length]; exact h3
    · rw [TL.join_eq]; exact out_v rs0 (.str _) o
  · rename_i h0; cases h0
  · rename_i h0; cases h0
  · exact o.elim
theorem mtr_get (hu : X.A.units + 1 < cLine) : MtR X "dict.get" (rMt ca .get) := by
  intro pins s σ H x xs v us Q I rx rs h
  obtain ⟨M, env, S, σ0, d, ds, rs0, re, rd, rds, o⟩ := h
  have key : ∀ {y : V} {k : D} {kk : L2.Key}, RepX ca M σ0 y k → keyOf k = some kk → y = kV kk := by
    intro y k kk r h
    cases k with
    | int i => cases h; exact int_of r
    | str i => cases h; exact str_of r
    | _ => cases h
  have pick : ∀ {kvs : List (L2.Key × V)} {vs : List D} {kk : L2.Key} {y : V} {e : D}, RepL ca M (kvs.map (·.2)) vs → RepX ca M σ0 y e → RepX ca M σ0 ((valV kvs kk).getD y) ((lookD (kvs.map (·.1)) vs kk).getD e) := by
    intro kvs vs kk y e r re
    obtain ⟨h1, h2⟩ := look_val kvs vs kk r
    cases hl : lookD (kvs.map (·.1)) vs kk with
    | none => rw [h2 hl]; exact re
    | some d' =>
      obtain ⟨z, h3, h4⟩ := h1 d' hl
      rw [h3]
      exact RepX.of h4
  unfold mtD at o
  split at o
  · rename_i h0; cases h0
  · split at o
    · rename_i ks vs kk hc hk
      obtain ⟨y, rfl, ry⟩ := one_x rds
      obtain ⟨a, ho, rfl, ha, q⟩ := cont_at rs0 re rd hc
      obtain rfl : v = Value.ref a := rx
      obtain rfl := key ry hk
      obtain ⟨u, rfl, ru⟩ := Vals.one rs
      cases q with
      | dct e q =>
        subst e
        exact d_get1 hu I (DGet.k ha) ru fun w' s' I' rw' => ⟨_, H, I', rw', out_val rs0 (pick q (RepX.of .non)) o⟩
    · exact o.elim
  · split at o
    · rename_i ks vs kk hc hk
      obtain ⟨y, z, rfl, ry, rz⟩ := two_x rds
      obtain ⟨a, ho, rfl, ha, q⟩ := cont_at rs0 re rd hc
      obtain rfl : v = Value.ref a := rx
      obtain rfl := key ry hk
      obtain ⟨u, w, rfl, ru, rw'⟩ := Vals.two rs
      cases q with
      | dct e q =>
        subst e
        exact d_get2 hu I (DGet.k ha) ru rw' fun w' s' I' rw'' => ⟨_, H, I', rw'', out_val rs0 (pick q rz) o⟩
    · exact o.elim
  · exact o.elim
/-- o.m(..), o of a built-in type -/
structure MtF (ca : Nat → Addr) (X : Cx) (x : Mt) (name : Str) : Prop where
  ex : ∃ (T id : String), T = (match x with | .join => "str" | .partition => "str" | .replace => "str" | .split => "str" | .upper => "str" | .get => "dict" | .items => "dict" | .update => "dict" | .values => "dict" | _ => "list") ∧
    PySem.PlainAttrs T ∧ PySem.Slot T name id ∧ typeOf (.builtin id) = pure (.type "method_descriptor") ∧ MtR X id (rMt ca x)
theorem mtF_join : MtF ca X .join "join" := ⟨"str", "str.join", rfl, PySem.F.plainAttrs_str, PySem.F.slot_str_join, PySem.F.type_str_join, mtr_join⟩
theorem mtF_get (hu : X.A.units + 1 < cLine) : MtF ca X .get "get" := ⟨"dict", "dict.get", rfl, PySem.F.plainAttrs_dict, PySem.F.slot_dict_get, PySem.F.type_dict_get, mtr_get hu⟩
theorem snd_mt {m : Mt} {o e : Expr} {name : Str} {apos : Pos} {es : List Expr} {x : Ex} {xs : Exs} (F : MtF ca X m name) (hb : okBase o = true) (hs : (e :: es).any isStar = false) (hl : (e :: es).length < 30) (hp : (apos.endLine == pos.line) = true)
    (he : PE X o (tM ca W (ev C x))) (ha : PA X (e :: es) (tAR ca W (evl C xs))) : PE X (.Call (.Attribute o name apos) (e :: es) [] pos) (tM ca W (ev C (.mt m x xs))) := by
  obtain ⟨T, id, hT, pa, slot, hty, hm⟩ := F.ex
  have hs' := hs
  rw [List.any_cons, Bool.or_eq_false_iff] at hs'
  refine PE.imp (pe_bm pa slot hty hm he ha (okBase_eq hb _ _ _) (form_of hs hl) hp (star_cons hs'.1) (no_star hs'.2)) fun σ H Q ⟨M, env, S, rs, re, o⟩ => ?_
  simp only [ev] at o
  refine ⟨M, env, S, rs, re, o.bind re fun d S1 v M1 H1 _ e1 rs1 re1 rx1 o1 => ?_⟩
  obtain ⟨h1, o2⟩ := out_chk o1
  refine ⟨tyV_mt hT rs1 re1 rx1 h1, M1, env, S1, rs1, re1, o2.bindL re1 fun ds S2 vs M2 H2 e2 rs2 re2 rx2 o3 => ?_⟩
  exact ⟨M2, env, S2, σ, d, ds, rs2, re2, rx1.ext e2, rx2, o3.w (noEr_mt d ds env S2)⟩
end K9
end
section
set_option Elab.async false
set_option linter.all false
set_option maxRecDepth 100000
set_option maxHeartbeats 0
/-! K9It: what loops and comprehensions walk. -/
namespace K9
open PySem PySem.Spec PyProof.Rows L2

variable {ca fa : Nat → Addr} {W : WX} {C : Ctx} {X : Cx} {pos : Pos}
/-- what a later memory keeps of an elder one -/
structure ExtM (M M' : Mem) : Prop where
  F : ∀ a o, M.F a = some o → M'.F a = some o
  mu : ∀ (n : Nat) (a : Addr), M.mu[n]? = some a → M'.mu[n]? = some a
  h0 : M'.H0 = M.H0
  sa : M'.sa = M.sa
theorem Ext.m {M M' : Mem} {H H' : Hp} (e : Ext M H M' H') : ExtM M M' := ⟨e.F, e.mu, e.h0, e.sa⟩
theorem ExtM.refl {M : Mem} : ExtM M M := ⟨fun _ _ h => h, fun _ _ h => h, rfl, rfl⟩
theorem ExtM.trans {M M1 M2 : Mem} (e : ExtM M M1) (f : ExtM M1 M2) : ExtM M M2 := ⟨fun a o h => f.F a o (e.F a o h), fun n a h => f.mu n a (e.mu n a h), f.h0.trans e.h0, f.sa.trans e.sa⟩
theorem ExtM.rep {M M1 : Mem} (e : ExtM M M1) {v : V} {d : D} (r : Rep ca M v d) : Rep ca M1 v d := r.mono e.F e.mu e.h0
theorem ExtM.repL {M M1 : Mem} (e : ExtM M M1) {v : List V} {d : List D} (r : RepL ca M v d) : RepL ca M1 v d := r.mono e.F e.mu e.h0
/-- the walk gives these items, while the store's lists stay and the frame's own stand as they stood -/
def Walk (ca : Nat → Addr) (J : L2.It) (M1 : Mem) (p : Wk) (own : List (Addr × List V)) : Prop :=
  ∀ (M : Mem) (H : Hp) (S : Sto) (i : Nat), ExtM M1 M → RelS ca M S H → Live S p.live → (∀ q ∈ own, H q.1 = some (.lst q.2)) →
    (p.xs.length ≤ i → J.stop i H) ∧ ∀ d, p.xs[i]? = some d → J.go i H ∧ ∀ x H', J.yld i H x H' → ∃ M', Ext M H M' H' ∧ RelS ca M' S H' ∧ Rep ca M' x d
/-- what is walked, as it lies behind its reading -/
def OutI (ca : Nat → Addr) (W : WX) (M : Mem) (σ : L2.St) (H : Hp) (r : R Wk) (Q : L2.It → Hp → Prop) : Prop := match r with
  | .ok p S => ∀ J M' H' own, Ext M H M' H' → RelS ca M' S H' → Walk ca J M' p own → (p.acc = false → own = []) → (∀ q ∈ own, q.1 ∉ M'.mu ∧ H' q.1 = some (.lst q.2)) → Q J H'
  | .er c d S => ∀ cls dd M' H', Ext M H M' H' → RelS ca M' S H' → ExcR ca M' H' c d cls dd → H dd.get! = none → W cls dd σ H'
  | .bad => False
def tI (ca : Nat → Addr) (W : WX) (f : Env → Sto → R Wk) : TI := fun σ H Q => ∃ M env S, RelS ca M S H ∧ RelE ca M env σ H ∧ OutI ca W M σ H (f env S) Q
section
variable {M M1 : Mem} {H H1 : Hp} {σ : L2.St} {env : Env} {S : Sto}
theorem OutI.ext {r : R Wk} {Q : L2.It → Hp → Prop} (h : OutI ca W M σ H r Q) (e : Ext M H M1 H1) : OutI ca W M1 σ H1 r Q := by
  cases r with
  | bad => exact h
  | ok d S' => exact fun J M' H' own x rs w a b => h J M' H' own (e.trans x) rs w a b
  | er c d S' => exact fun cls dd M' H' x rs ex hd => h cls dd M' H' (e.trans x) rs ex (e.none hd)
theorem OutI.bind {r : R D} {k : D → Sto → R Wk} {Q : L2.It → Hp → Prop} {Q1 : VK} (h : OutI ca W M σ H (r.bindR k) Q) (re : RelE ca M env σ H)
    (hk : ∀ d S1 v M1 H1, Ext M H M1 H1 → RelS ca M1 S1 H1 → RelE ca M1 env σ H1 → RepX ca M1 σ v d → OutI ca W M1 σ H1 (k d S1) Q → Q1 v H1) : Out ca W M σ H r Q1 := by
  cases r with
  | bad => exact h
  | er c d S' => exact h
  | ok d S' =>
    intro v M1 H1 e rs rt
    obtain ⟨M2, e2, rs2, rx⟩ := rt.hold e rs
    exact hk (rd d) S' v M2 H1 e2 rs2 (re.ext e2) rx (OutI.ext (r := k (rd d) S') h e2)
theorem outI_chk {p : Prop} [Decidable p] {r : R Wk} {Q : L2.It → Hp → Prop} (o : OutI ca W M σ H (chk p r) Q) : p ∧ OutI ca W M σ H r Q := by
  unfold chk at o
  by_cases h : p
  · rw [if_pos h] at o; exact ⟨h, o⟩
  · rw [if_neg h] at o; exact o.elim
theorem outI_oget {α : Type} {x : Option α} {k : α → R Wk} {Q : L2.It → Hp → Prop} (o : OutI ca W M σ H (oget x k) Q) : ∃ a, x = some a ∧ OutI ca W M σ H (k a) Q := by
  cases x with
  | none => exact o.elim
  | some a => exact ⟨a, rfl, o⟩
end

/-! ### the walks -/
/-- a list's place: at any later time it stands there as it stood -/
theorem list_place {K : PySem.W.Frag} {M1 : Mem} {S1 : Sto} {H1 : Hp} {σ : L2.St} {env : Env} {v : V} {d : D} {xs : List D} (rs : RelS ca M1 S1 H1) (re : RelE ca M1 env σ H1) (rx : RepX ca M1 σ v d) (h : lstOf env S1 d = some xs) :
    ∃ (a : Addr) (own : List (Addr × List V)), v = .ref a ∧ (d.isAcc = false → own = []) ∧ (∀ q ∈ own, q.1 ∉ M1.mu ∧ H1 q.1 = some (.lst q.2)) ∧ (∃ ys, SqL K H1 a ys) ∧
      ∀ (M : Mem) (H : Hp) (S : Sto), ExtM M1 M → RelS ca M S H → Live S (liveOf d xs) → (∀ q ∈ own, H q.1 = some (.lst q.2)) → ∃ vs, H a = some (.lst vs) ∧ RepL ca M vs xs := by
  obtain ⟨a, vs, rfl, ha, q⟩ := lst_at rs re rx h
  cases hd : d.isAcc with
  | true =>
    cases d with
    | acc i =>
      have r' : σ[i]? = some (some (.ref a)) := rx
      unfold lstOf cont at h
      cases hq : env[i]? with
      | none => simp only [hq] at h; cases h
      | some s =>
        simp only [hq] at h
        have z := re.sl i _ hq
        rw [r'] at z
        cases s with
        | no => cases h
        | fz d => cases h
        | al o =>
          cases o with
          | lst ys =>
            cases h
            cases z with
            | al h1 h2 h3 h4 h5 h6 =>
              refine ⟨a, [(a, vs)], rfl, (fun z => nomatch z), fun p hp => ?_, ⟨vs, SqL.of ha⟩, fun M H S e rs' _ ho => ⟨vs, ho _ (List.mem_singleton.mpr rfl), e.repL q⟩⟩
              rw [List.mem_singleton.mp hp]
              exact ⟨h4, ha⟩
          | dct _ _ => cases h
          | ins _ _ _ => cases h
    | _ => cases hd
  | false =>
    refine ⟨a, [], rfl, fun _ => rfl, (fun p hp => by cases hp), ⟨vs, SqL.of ha⟩, fun M H S e rs' hl _ => ?_⟩
    have rp := rx.rep hd
    cases rp with
    | lst f qq =>
      have hvs := rs.frz _ _ f
      rw [ha] at hvs
      cases hvs
      exact ⟨vs, rs'.frz _ _ (e.F _ _ f), e.repL q⟩
    | ref hn =>
      rename_i n
      have hS : S[n]? = some (.lst xs) := hl (n, xs) (List.mem_singleton.mpr rfl)
      obtain ⟨a', ho, h1, h2, h3⟩ := rs'.ob n _ hS
      rw [e.mu _ _ hn] at h1
      cases h1
      cases h3 with
      | lst q' => exact ⟨_, h2, q'⟩
    | _ => cases h
theorem walk_list {K : PySem.W.Frag} {M1 : Mem} {a : Addr} {p : Wk} {own : List (Addr × List V)}
    (h : ∀ (M : Mem) (H : Hp) (S : Sto), ExtM M1 M → RelS ca M S H → Live S p.live → (∀ q ∈ own, H q.1 = some (.lst q.2)) → ∃ vs, H a = some (.lst vs) ∧ RepL ca M vs p.xs) : Walk ca (Itl K a) M1 p own := by
  intro M H S i e rs hl ho
  obtain ⟨vs, ha, r⟩ := h M H S e rs hl ho
  refine ⟨fun hi => ⟨vs, SqL.of ha, by rw [r.length]; exact hi⟩, fun d hd => ?_⟩
  obtain ⟨v, hv, rv⟩ := r.get hd
  refine ⟨⟨vs, v, SqL.of ha, hv⟩, fun x H' hy => ?_⟩
  obtain ⟨rfl, hx⟩ := hy
  have z := hx vs (SqL.of ha)
  rw [hv] at z
  cases z
  exact ⟨M, Ext.refl, rs, rv⟩
theorem walk_tup {K : PySem.W.Frag} {M1 : Mem} {a : Addr} {xs : List D} {vs : List V} (f : M1.F a = some (.tup vs)) (r : RepL ca M1 vs xs) : Walk ca (Itt K a) M1 ⟨xs, [], false⟩ [] := by
  intro M H S i e rs hl ho
  have ha := rs.frz _ _ (e.F _ _ f)
  have r := e.repL r
  refine ⟨fun hi => ⟨vs, SqT.of ha, by rw [r.length]; exact hi⟩, fun d hd => ?_⟩
  obtain ⟨v, hv, rv⟩ := r.get hd
  refine ⟨⟨vs, v, SqT.of ha, hv⟩, fun x H' hy => ?_⟩
  obtain ⟨rfl, hx⟩ := hy
  have z := hx vs (SqT.of ha)
  rw [hv] at z
  cases z
  exact ⟨M, Ext.refl, rs, rv⟩
theorem walk_str {M1 : Mem} {s : Str} : Walk ca (Its s) M1 ⟨s.cps.toList.map fun c => D.str ⟨#[c]⟩, [], false⟩ [] := by
  intro M H S i e rs hl ho
  have hlen : (s.cps.toList.map fun c => D.str ⟨#[c]⟩).length = s.cps.size := by simp
  refine ⟨fun hi => (by rw [hlen] at hi; exact hi), fun d hd => ?_⟩
  have hi : i < s.cps.size := by
    have := (List.getElem?_eq_some_iff.mp hd).1
    rw [hlen] at this; exact this
  refine ⟨hi, fun x H' hy => ?_⟩
  obtain ⟨rfl, c, hc, rfl⟩ := hy
  rw [List.getElem?_map, Array.getElem?_toList, hc] at hd
  cases hd
  exact ⟨M, Ext.refl, rs, .str _⟩
theorem walk_rng {M1 : Mem} {lo : Int} {n : Nat} : Walk ca (Itr lo n) M1 ⟨upTo lo n, [], false⟩ [] := by
  intro M H S i e rs hl ho
  have hlen : (upTo lo n).length = n := by simp [upTo]
  refine ⟨fun hi => (by rw [hlen] at hi; exact hi), fun d hd => ?_⟩
  have hi : i < n := by
    have := (List.getElem?_eq_some_iff.mp hd).1
    rw [hlen] at this; exact this
  refine ⟨hi, fun x H' hy => ?_⟩
  obtain ⟨rfl, rfl⟩ := hy
  unfold upTo at hd
  rw [List.getElem?_map, List.getElem?_range hi] at hd
  cases hd
  exact ⟨M, Ext.refl, rs, .int _⟩
theorem walk_enum {K : PySem.W.Frag} {M1 : Mem} {a : Addr} {xs : List D} {live : List (Nat × List D)} {acc : Bool} {own : List (Addr × List V)}
    (h : ∀ (M : Mem) (H : Hp) (S : Sto), ExtM M1 M → RelS ca M S H → Live S live → (∀ q ∈ own, H q.1 = some (.lst q.2)) → ∃ vs, H a = some (.lst vs) ∧ RepL ca M vs xs) : Walk ca (Ite K a) M1 ⟨(xs.zipIdx).map fun p => D.tup [.int (p.2 : Int), p.1], live, acc⟩ own := by
  intro M H S i e rs hl ho
  obtain ⟨vs, ha, r⟩ := h M H S e rs hl ho
  refine ⟨fun hi => ⟨vs, SqL.of ha, by rw [r.length]; simpa using hi⟩, fun d hd => ?_⟩
  rw [List.getElem?_map, List.getElem?_zipIdx] at hd
  cases hx : xs[i]? with
  | none => rw [hx] at hd; cases hd
  | some y =>
    rw [hx] at hd
    simp only [Option.map_some, Nat.zero_add] at hd
    cases hd
    obtain ⟨v, hv, rv⟩ := r.get hx
    refine ⟨⟨vs, v, SqL.of ha, hv⟩, fun x H' hy => ?_⟩
    obtain ⟨T, w, rfl, hT, rfl, hw⟩ := hy
    have z := hw vs (SqL.of ha)
    rw [hv] at z
    cases z
    have e2 : Ext M H (M.add T (.tup [.int (i : Nat), v])) (upd H T (.tup [.int (i : Nat), v])) := ext_add (ca := ca) rs hT
    exact ⟨_, e2, rel_add rs hT, .tup upd_same (.cons (.int _) (.cons (e2.rep rv) .nil))⟩
theorem walk_zip {K : PySem.W.Frag} {M1 : Mem} {a b : Addr} {xs ys : List D} {live : List (Nat × List D)} {acc : Bool} {own : List (Addr × List V)}
    (h : ∀ (M : Mem) (H : Hp) (S : Sto), ExtM M1 M → RelS ca M S H → Live S live → (∀ q ∈ own, H q.1 = some (.lst q.2)) → ∃ vs us, H a = some (.lst vs) ∧ RepL ca M vs xs ∧ H b = some (.lst us) ∧ RepL ca M us ys) : Walk ca (Itz K a b) M1 ⟨(xs.zip ys).map fun p => D.tup [p.1, p.2], live, acc⟩ own := by
  intro M H S i e rs hl ho
  obtain ⟨vs, us, ha, r, hb, q⟩ := h M H S e rs hl ho
  refine ⟨fun hi => ⟨vs, us, SqL.of ha, SqL.of hb, ?_⟩, fun d hd => ?_⟩
  · rw [r.length, q.length]
    simp only [List.length_map, List.length_zip] at hi
    omega
  · rw [List.getElem?_map] at hd
    cases hz : (xs.zip ys)[i]? with
    | none => rw [hz] at hd; cases hd
    | some w =>
      rw [hz] at hd
      cases hd
      obtain ⟨w1, w2⟩ := w
      obtain ⟨hx, hy⟩ := List.getElem?_zip_eq_some.mp hz
      obtain ⟨v, hv, rv⟩ := r.get hx
      obtain ⟨u, hu, ru⟩ := q.get hy
      refine ⟨⟨vs, us, v, u, SqL.of ha, SqL.of hb, hv, hu⟩, fun x H' hyl => ?_⟩
      obtain ⟨T, x1, y1, rfl, hT, rfl, hx1, hy1⟩ := hyl
      have z := hx1 vs (SqL.of ha)
      rw [hv] at z
      cases z
      have z := hy1 us (SqL.of hb)
      rw [hu] at z
      cases z
      have e2 : Ext M H (M.add T (.tup [v, u])) (upd H T (.tup [v, u])) := ext_add (ca := ca) rs hT
      exact ⟨_, e2, rel_add rs hT, .tup upd_same (.cons (e2.rep rv) (.cons (e2.rep ru) .nil))⟩
theorem walk_zipT {K : PySem.W.Frag} {M1 : Mem} {a b : Addr} {xs ys : List D} {vs us : List V} (fa : M1.F a = some (.tup vs)) (r : RepL ca M1 vs xs) (fb : M1.F b = some (.tup us)) (q : RepL ca M1 us ys) : Walk ca (RZ.ItzT K a b) M1 ⟨(xs.zip ys).map fun p => D.tup [p.1, p.2], [], false⟩ [] := by
  intro M H S i e rs hl ho
  have ha := rs.frz _ _ (e.F _ _ fa)
  have hb := rs.frz _ _ (e.F _ _ fb)
  have r := e.repL r
  have q := e.repL q
  refine ⟨fun hi => ⟨vs, us, SqT.of ha, SqT.of hb, ?_⟩, fun d hd => ?_⟩
  · rw [r.length, q.length]
    simp only [List.length_map, List.length_zip] at hi
    omega
  · rw [List.getElem?_map] at hd
    cases hz : (xs.zip ys)[i]? with
    | none => rw [hz] at hd; cases hd
    | some w =>
      rw [hz] at hd
      cases hd
      obtain ⟨w1, w2⟩ := w
      obtain ⟨hx, hy⟩ := List.getElem?_zip_eq_some.mp hz
      obtain ⟨v, hv, rv⟩ := r.get hx
      obtain ⟨u, hu, ru⟩ := q.get hy
      refine ⟨⟨vs, us, v, u, SqT.of ha, SqT.of hb, hv, hu⟩, fun x H' hyl => ?_⟩
      obtain ⟨T, x1, y1, rfl, hT, rfl, hx1, hy1⟩ := hyl
      have z := hx1 vs (SqT.of ha)
      rw [hv] at z
      cases z
      have z := hy1 us (SqT.of hb)
      rw [hu] at z
      cases z
      have e2 : Ext M H (M.add T (.tup [v, u])) (upd H T (.tup [v, u])) := ext_add (ca := ca) rs hT
      exact ⟨_, e2, rel_add rs hT, .tup upd_same (.cons (e2.rep rv) (.cons (e2.rep ru) .nil))⟩

/-! ### the readings -/
/-- a list, a tuple, a text as it comes -/
def iSeq (K : PySem.W.Frag) (te : TE) : TI := fun σ H R => te σ H fun x H1 => (∃ a, x = .ref a ∧ (∃ xs, SqL K H1 a xs) ∧ R (Itl K a) H1) ∨ (∃ a, x = .ref a ∧ (∃ xs, SqT K H1 a xs) ∧ R (Itt K a) H1) ∨ ∃ y, x = .str y ∧ R (Its y) H1
theorem pi_seq {tg l : Expr} {tl : TE} (hl : PE X l tl) : PI X tg l (iSeq X.K tl) := by
  refine ⟨fun pins s σ H R I h => ?_⟩
  refine thn (hl.run pins s σ H _ I h) fun v s1 ⟨x, H1, I1, r1, q1⟩ => ?_
  rcases q1 with ⟨a, rfl, ⟨xs, hq⟩, q⟩ | ⟨a, rfl, ⟨xs, hq⟩, q⟩ | ⟨y, rfl, q⟩
  · cases r1
    obtain ⟨its, rv, p, hz⟩ := I1.list hq
    exact wpAny_pyIter_list p.isList (pi_one (tk := s1.toks) I1 _ (turn_list a _) ⟨_, Heap.get?_push_size _ rfl, rfl, rfl⟩ q)
  · cases r1
    obtain ⟨its, rv, p, hz⟩ := I1.tuple hq
    exact wpAny_pyIter_tuple (show s1.heap.IsTuple a its.toArray from p) (pi_one (tk := s1.toks) I1 _ (turn_tuple a _) ⟨_, Heap.get?_push_size _ rfl, rfl, rfl⟩ q)
  · obtain ⟨t, rfl⟩ := r1
    cases ha : y.cps.all (· < 128)
    · exact wpAny_pyIter_wide ha (pi_one (tk := s1.toks) I1 _ (turn_str _ y t "str_iterator" (.inr rfl)) ⟨_, Heap.get?_push_size _ rfl, rfl, rfl⟩ q)
    · exact wpAny_pyIter_ascii ha (pi_one (tk := s1.toks) I1 _ (turn_str _ y t "str_ascii_iterator" (.inl rfl)) ⟨_, Heap.get?_push_size _ rfl, rfl, rfl⟩ q)
theorem PI.imp {tg e : Expr} {t t' : TI} (h : PI X tg e t) (q : ∀ σ H Q, t' σ H Q → t σ H Q) : PI X tg e t' := ⟨fun pins s σ H Q I z => h.run pins s σ H Q I (q σ H Q z)⟩
theorem sndI_seq {tg e : Expr} {x : Ex} (he : PE X e (tM ca W (ev C x))) : PI X tg e (tI ca W (evIt C (.seq x))) := by
  refine PI.imp (pi_seq he) fun σ H Q ⟨M, env, S, rs, re, o⟩ => ?_
  simp only [evIt] at o
  refine ⟨M, env, S, rs, re, o.bind re fun d S1 v M1 H1 e1 rs1 re1 rx1 o1 => ?_⟩
  have go : ∀ {d : D}, RepX ca M1 σ v d → OutI ca W M1 σ H1 (oget (seqOf env S1 d) fun xs => .ok ⟨xs, liveOf d xs, d.isAcc⟩ S1) Q → (∃ a, v = .ref a ∧ (∃ xs, SqL X.K H1 a xs) ∧ Q (Itl X.K a) H1) ∨ (∃ a, v = .ref a ∧ (∃ xs, SqT X.K H1 a xs) ∧ Q (Itt X.K a) H1) ∨ ∃ y, v = .str y ∧ Q (Its y) H1 := by
    intro d rx1 o1
    obtain ⟨xs, h1, o2⟩ := outI_oget o1
    by_cases ht : ∃ ys, d = .tup ys
    · obtain ⟨ys, rfl⟩ := ht
      cases h1
      obtain ⟨a, vs, rfl, ha, fa, q⟩ := tup_of rs1 rx1
      exact .inr (.inl ⟨a, rfl, ⟨vs, SqT.of ha⟩, o2 _ M1 H1 [] Ext.refl rs1 (walk_tup fa q) (fun _ => rfl) (fun p hp => by cases hp)⟩)
    · have h2 : lstOf env S1 d = some xs := by
        cases d <;> first | exact h1 | exact absurd ⟨_, rfl⟩ ht
      obtain ⟨a, own, rfl, g1, g2, g3, g4⟩ := list_place (K := X.K) rs1 re1 rx1 h2
      exact .inl ⟨a, rfl, g3, o2 _ M1 H1 own Ext.refl rs1 (walk_list g4) g1 g2⟩
  cases d with
  | str y =>
    obtain ⟨h1, o2⟩ := outI_chk o1
    obtain rfl := str_of rx1
    exact .inr (.inr ⟨y, rfl, o2 _ M1 H1 [] Ext.refl rs1 walk_str (fun _ => rfl) (fun p hp => by cases hp)⟩)
  | _ => exact go rx1 o1
theorem sndI_rng1 {tg e : Expr} {x : Ex} {p : Pos} (hg : Gl X "range") (hm : X.mg "range" = none) (hs : isStar e = false) (he : PE X e (tM ca W (ev C x))) : PI X tg (.Call (.Name "range" p) [e] [] pos) (tI ca W (evIt C (.rng1 x))) := by
  refine PI.imp (pi_range1 hg hm (pa_cons he pa_nil (star_cons hs)) (star_cons hs)) fun σ H Q ⟨M, env, S, rs, re, o⟩ => ?_
  simp only [evIt] at o
  refine ⟨M, env, S, rs, re, o.bind re fun d S1 v M1 H1 e1 rs1 re1 rx1 o1 => ?_⟩
  cases d with
  | int n =>
    obtain ⟨⟨h1, h2⟩, o2⟩ := outI_chk o1
    obtain rfl := int_of rx1
    exact ⟨n, rfl, h1, h2, o2 _ M1 H1 [] Ext.refl rs1 walk_rng (fun _ => rfl) (fun p hp => by cases hp)⟩
  | _ => exact o1.elim
theorem sndI_rng2 {tg e f : Expr} {x y : Ex} {p : Pos} (hg : Gl X "range") (hm : X.mg "range" = none) (hs : isStar e = false) (hs2 : isStar f = false) (he : PE X e (tM ca W (ev C x))) (hf : PE X f (tM ca W (ev C y))) : PI X tg (.Call (.Name "range" p) [e, f] [] pos) (tI ca W (evIt C (.rng2 x y))) := by
  refine PI.imp (pi_range2 hg hm (pa_cons he (pa_cons hf pa_nil (star_cons hs2)) (star_cons hs)) (by rw [star_cons hs, star_cons hs2]; rfl) (star_cons hs2)) fun σ H Q ⟨M, env, S, rs, re, o⟩ => ?_
  simp only [evIt] at o
  refine ⟨M, env, S, rs, re, o.bind re fun d S1 v M1 H1 e1 rs1 re1 rx1 o1 => ⟨M1, env, S1, rs1, re1, o1.bind re1 fun d2 S2 v2 M2 H2 e2 rs2 re2 rx2 o2 => ?_⟩⟩
  split at o2
  · obtain ⟨⟨⟨h1, h2⟩, h3, h4⟩, o2⟩ := outI_chk o2
    obtain rfl := int_of rx1
    obtain rfl := int_of rx2
    exact ⟨_, _, rfl, ⟨h1, h2, h3, h4⟩, o2 _ M2 H2 [] Ext.refl rs2 walk_rng (fun _ => rfl) (fun p hp => by cases hp)⟩
  · exact o2.elim
theorem sndI_enum {es : List Expr} {kk : Nat} {tpos : Pos} {e : Expr} {x : Ex} {p : Pos} (hg : Gl X "enumerate") (hm : X.mg "enumerate" = none) (hs : isStar e = false) (he : PE X e (tM ca W (ev C x))) : PI X (.Tuple es kk tpos) (.Call (.Name "enumerate" p) [e] [] pos) (tI ca W (evIt C (.enum x))) := by
  refine PI.imp (pi_enum hg hm (pa_cons he pa_nil (star_cons hs)) (star_cons hs)) fun σ H Q ⟨M, env, S, rs, re, o⟩ => ?_
  simp only [evIt] at o
  refine ⟨M, env, S, rs, re, o.bind re fun d S1 v M1 H1 e1 rs1 re1 rx1 o1 => ?_⟩
  obtain ⟨xs, h1, o2⟩ := outI_oget o1
  obtain ⟨a, own, rfl, g1, g2, ⟨ys, g3⟩, g4⟩ := list_place (K := X.K) rs1 re1 rx1 h1
  exact ⟨a, ys, rfl, g3, o2 _ M1 H1 own Ext.refl rs1 (walk_enum g4) g1 g2⟩
theorem live_app {S : Sto} {l r : List (Nat × List D)} (h : Live S (l ++ r)) : Live S l ∧ Live S r := ⟨fun p hp => h p (List.mem_append_left _ hp), fun p hp => h p (List.mem_append_right _ hp)⟩
theorem sndI_zip {es : List Expr} {kk : Nat} {tpos : Pos} {e f : Expr} {x y : Ex} {p : Pos} (hg : Gl X "zip") (hm : X.mg "zip" = none) (hs : isStar e = false) (hs2 : isStar f = false) (he : PE X e (tM ca W (ev C x))) (hf : PE X f (tM ca W (ev C y))) :
    PI X (.Tuple es kk tpos) (.Call (.Name "zip" p) [e, f] [] pos) (tI ca W (evIt C (.zip x y))) := by
  refine PI.imp (RZ.pi_zipA hg hm (pa_cons he (pa_cons hf pa_nil (star_cons hs2)) (star_cons hs)) (star_cons hs) (by rw [star_cons hs2]; rfl)) fun σ H Q ⟨M, env, S, rs, re, o⟩ => ?_
  simp only [evIt] at o
  refine ⟨M, env, S, rs, re, o.bind re fun d S1 v M1 H1 e1 rs1 re1 rx1 o1 => ⟨M1, env, S1, rs1, re1, o1.bind re1 fun d2 S2 v2 M2 H2 e2 rs2 re2 rx2 o2 => ?_⟩⟩
  have rx1' := rx1.ext e2
  split at o2
  · obtain ⟨a, vs, rfl, ha, fa, q⟩ := tup_of rs2 rx1'
    obtain ⟨b, us, rfl, hb, fb, r⟩ := tup_of rs2 rx2
    exact ⟨a, b, vs, us, rfl, .inr ⟨SqT.of ha, SqT.of hb, o2 _ M2 H2 [] Ext.refl rs2 (walk_zipT fa q fb r) (fun _ => rfl) (fun p hp => by cases hp)⟩⟩
  · obtain ⟨xs, h1, o3⟩ := outI_oget o2
    obtain ⟨ys, h2, o4⟩ := outI_oget o3
    obtain ⟨a, own, rfl, g1, g2, ⟨zs, g3⟩, g4⟩ := list_place (K := X.K) rs2 re2 rx1' h1
    obtain ⟨b, own', rfl, k1, k2, ⟨ws, k3⟩, k4⟩ := list_place (K := X.K) rs2 re2 rx2 h2
    refine ⟨a, b, zs, ws, rfl, .inl ⟨g3, k3, o4 _ M2 H2 (own ++ own') Ext.refl rs2 (walk_zip fun M H S e rs hl ho => ?_) (fun h => ?_) (fun q hq => ?_)⟩⟩
    · obtain ⟨l1, l2⟩ := live_app hl
      obtain ⟨vs, a1, a2⟩ := g4 M H S e rs l1 (fun q hq => ho q (List.mem_append_left _ hq))
      obtain ⟨us, b1, b2⟩ := k4 M H S e rs l2 (fun q hq => ho q (List.mem_append_right _ hq))
      exact ⟨vs, us, a1, a2, b1, b2⟩
    · rw [Bool.or_eq_false_iff] at h
      rw [g1 h.1, k1 h.2]; rfl
    · rcases List.mem_append.mp hq with z | z
      · exact g2 q z
      · exact k2 q z
end K9
end
section
set_option Elab.async false
set_option linter.all false
set_option maxRecDepth 100000
set_option maxHeartbeats 0
/-! K9Lc: targets, comprehensions. -/
namespace K9
open PySem PySem.Spec PyProof.Rows L2

variable {ca fa : Nat → Addr} {W : WX} {C : Ctx} {X : Cx} {pos : Pos}

/-! ### targets -/
def gNames : List Nat → TGs
  | [] => gNil
  | i :: is => gCons (gName i) (gNames is)
def gD (K : PySem.W.Frag) (tg : List Nat) : TG := match tg with
  | [i] => gName i
  | is => gTup K is.length (gNames is)
section
variable {M : Mem} {env : Env} {σ : L2.St} {H : Hp} {S : Sto}
theorem RelE.set {i : Nat} {v : V} {d : D} (re : RelE ca M env σ H) (r : Rep ca M v d) : RelE ca M (env.set i (.fz d)) (σ.set i (some v)) H := by
  refine ⟨by rw [List.length_set, List.length_set, re.len], fun j s h => ?_, fun j k o o' h1 h2 h3 => ?_⟩
  · by_cases e : i = j
    · subst e
      by_cases hl : i < env.length
      · rw [List.getElem?_set_self hl] at h
        cases h
        rw [List.getElem?_set_self (by rw [← re.len]; exact hl)]
        exact .fz r
      · rw [List.getElem?_eq_none (by rw [List.length_set]; omega)] at h; cases h
    · rw [List.getElem?_set_ne e] at h ⊢
      exact re.sl j s h
  · have n1 : i ≠ j := by
      intro e
      subst e
      by_cases hl : i < env.length
      · rw [List.getElem?_set_self hl] at h1; cases h1
      · rw [List.getElem?_eq_none (by rw [List.length_set]; omega)] at h1; cases h1
    have n2 : i ≠ k := by
      intro e
      subst e
      by_cases hl : i < env.length
      · rw [List.getElem?_set_self hl] at h2; cases h2
      · rw [List.getElem?_eq_none (by rw [List.length_set]; omega)] at h2; cases h2
    rw [List.getElem?_set_ne n1] at h1
    rw [List.getElem?_set_ne n2] at h2
    rw [List.getElem?_set_ne n1, List.getElem?_set_ne n2] at h3
    exact re.ap j k o o' h1 h2 h3
theorem RelE.no {i : Nat} {o : Option V} (re : RelE ca M env σ H) : RelE ca M (env.set i .no) (σ.set i o) H := by
  refine ⟨by rw [List.length_set, List.length_set, re.len], fun j s h => ?_, fun j k o1 o2 h1 h2 h3 => ?_⟩
  · by_cases e : i = j
    · subst e
      by_cases hl : i < env.length
      · rw [List.getElem?_set_self hl] at h
        cases h
        exact .no
      · rw [List.getElem?_eq_none (by rw [List.length_set]; omega)] at h; cases h
    · rw [List.getElem?_set_ne e] at h ⊢
      exact re.sl j s h
  · have n1 : i ≠ j := by
      intro e
      subst e
      by_cases hl : i < env.length
      · rw [List.getElem?_set_self hl] at h1; cases h1
      · rw [List.getElem?_eq_none (by rw [List.length_set]; omega)] at h1; cases h1
    have n2 : i ≠ k := by
      intro e
      subst e
      by_cases hl : i < env.length
      · rw [List.getElem?_set_self hl] at h2; cases h2
      · rw [List.getElem?_eq_none (by rw [List.length_set]; omega)] at h2; cases h2
    rw [List.getElem?_set_ne n1] at h1
    rw [List.getElem?_set_ne n2] at h2
    rw [List.getElem?_set_ne n1, List.getElem?_set_ne n2] at h3
    exact re.ap j k o1 o2 h1 h2 h3
theorem RelE.wipe (re : RelE ca M env σ H) : ∀ vs : List Nat, RelE ca M (wipeE env vs) (L2.wipe σ vs) H
  | [] => re
  | v :: vs => (RelE.wipe re vs).no
theorem wipe_set {σ : L2.St} {i : Nat} {o : Option V} : ∀ {vs : List Nat}, i ∈ vs → L2.wipe (σ.set i o) vs = L2.wipe σ vs
  | [], h => by cases h
  | v :: vs, h => by
    unfold L2.wipe
    by_cases hv : i ∈ vs
    · rw [wipe_set hv]
    · have e : i = v := by
        rcases List.mem_cons.mp h with z | z
        · exact z
        · exact absurd z hv
      subst e
      have : ∀ (ws : List Nat) (σ : L2.St), i ∉ ws → (L2.wipe (σ.set i o) ws).set i none = (L2.wipe σ ws).set i none := by
        intro ws
        induction ws with
        | nil => intro σ _; exact List.set_set ..
        | cons w ws ih =>
          intro σ hn
          have n1 : i ≠ w := fun z => hn (by rw [z]; exact List.mem_cons_self)
          have n2 : i ∉ ws := fun z => hn (List.mem_cons_of_mem _ z)
          unfold L2.wipe
          rw [List.set_comm _ _ (Ne.symm n1), ih σ n2, List.set_comm _ _ n1]
      exact this vs σ hv
theorem wipe_wipe {σ : L2.St} : ∀ {vs : List Nat}, L2.wipe (L2.wipe σ vs) vs = L2.wipe σ vs := by
  have key : ∀ (ws vs : List Nat) (σ : L2.St), (∀ w ∈ ws, w ∈ vs) → L2.wipe (L2.wipe σ ws) vs = L2.wipe σ vs := by
    intro ws
    induction ws with
    | nil => intro vs σ _; rfl
    | cons w ws ih =>
      intro vs σ h
      show L2.wipe ((L2.wipe σ ws).set w none) vs = _
      rw [wipe_set (h w List.mem_cons_self)]
      exact ih vs σ fun z hz => h z (List.mem_cons_of_mem _ hz)
  intro vs
  exact key vs vs σ fun _ h => h
theorem gNames_ok : ∀ {is : List Nat} {ds : List D} {vs : List V} {env : Env} {σ : L2.St} {Q : L2.St → Hp → Prop}, is.length = ds.length → RepL ca M vs ds → RelE ca M env σ H →
    (∀ σ2, RelE ca M (setAll env is ds) σ2 H → (∀ own : List Nat, (∀ i ∈ is, i ∈ own) → L2.wipe σ2 own = L2.wipe σ own) → Q σ2 H) → gNames is vs σ H Q
  | [], [], _, _, _, _, _, .nil, re, h => ⟨rfl, h _ re fun _ _ => rfl⟩
  | i :: is, d :: ds, _, env, σ, Q, hl, .cons r rr, re, h => by
    refine ⟨_, _, rfl, ?_⟩
    show gNames is _ (σ.set i (some _)) H Q
    refine gNames_ok (by simpa using hl) rr (re.set r) fun σ2 h2 hw => h σ2 h2 fun own ho => ?_
    rw [hw own fun j hj => ho j (List.mem_cons_of_mem _ hj)]
    exact wipe_set (ho i List.mem_cons_self)
/-- a target's reading -/
theorem gD_ok {K : PySem.W.Frag} {tg : List Nat} {d : D} {v : V} {e : Env} {Q : L2.St → Hp → Prop} (rs : RelS ca M S H) (re : RelE ca M env σ H) (r : RepX ca M σ v d) (h : asgT tg d env = some e)
    (hq : ∀ σ2, RelE ca M e σ2 H → (∀ own : List Nat, (∀ i ∈ tg, i ∈ own) → L2.wipe σ2 own = L2.wipe σ own) → Q σ2 H) : gD K tg v σ H Q := by
  have tup : ∀ {is : List Nat}, tupT is d env = some e → (∀ σ2, RelE ca M e σ2 H → (∀ own : List Nat, (∀ i ∈ is, i ∈ own) → L2.wipe σ2 own = L2.wipe σ own) → Q σ2 H) → gTup K is.length (gNames is) v σ H Q := by
    intro is h hq
    unfold tupT at h
    cases d with
    | tup xs =>
      simp only at h
      split at h
      · rename_i hl
        cases h
        obtain ⟨a, vs, rfl, ha, fa, q⟩ := tup_of rs r
        exact ⟨a, vs, rfl, SqT.of ha, by rw [q.length, hl], gNames_ok hl.symm q re hq⟩
      · cases h
    | _ => cases h
  cases tg with
  | nil => exact tup h hq
  | cons i is =>
    cases is with
    | nil =>
      cases hd : d.isAcc with
      | true => simp [asgT, hd] at h
      | false =>
        simp only [asgT, hd, Bool.false_eq_true, if_false, Option.some.injEq] at h
        subst h
        exact hq _ (re.set (r.rep hd)) fun own ho => wipe_set (ho i (List.mem_singleton.mpr rfl))
    | cons j is => exact tup h hq
end
/-- a written target -/
theorem pgs_names : ∀ {is : List Nat} {es : List Expr}, X.N.Nodup → is.length = es.length → (∀ p ∈ is.zip es, ∃ x q, p.2 = .Name x q ∧ X.N[p.1]? = some x ∧ Loc X.env.scope x ∧ (X.fn x = true ∨ X.env.scope.names.lookup x = some .local)) → PGs X es (gNames is)
  | [], [], _, _, _ => pgs_nil
  | i :: is, e :: es, hN, hl, h => by
    obtain ⟨x, q, h1, h2, h3, h4⟩ := h (i, e) List.mem_cons_self
    have h1' : e = .Name x q := h1
    subst h1'
    exact pgs_cons (pg_name hN h2 h3 h4) (pgs_names hN (by simpa using hl) fun p hp => h p (List.mem_cons_of_mem _ hp)) (by rfl)
theorem pg_D {tg : List Nat} {e : Expr} (hc : X.calm = true) (hN : X.N.Nodup)
    (h : (∃ i x q, tg = [i] ∧ e = .Name x q ∧ X.N[i]? = some x ∧ Loc X.env.scope x ∧ (X.fn x = true ∨ X.env.scope.names.lookup x = some .local)) ∨
      (∃ es k q, e = .Tuple es k q ∧ tg.length = es.length ∧ 2 ≤ es.length ∧ ∀ p ∈ tg.zip es, ∃ x q, p.2 = .Name x q ∧ X.N[p.1]? = some x ∧ Loc X.env.scope x ∧ (X.fn x = true ∨ X.env.scope.names.lookup x = some .local))) : PG X e (gD X.K tg) := by
  rcases h with ⟨i, x, q, rfl, rfl, h2, h3, h4⟩ | ⟨es, k, q, rfl, hl, h2, hp⟩
  · exact pg_name hN h2 h3 h4
  · have names : ∀ {is : List Nat} {es : List Expr}, is.length = es.length → (∀ p ∈ is.zip es, ∃ x q, p.2 = .Name x q ∧ X.N[p.1]? = some x ∧ Loc X.env.scope x ∧ (X.fn x = true ∨ X.env.scope.names.lookup x = some .local)) → (assignEach es X.env).length = is.length ∧ (assignEach es X.env).findIdx? (·.1) = none := by
      intro is
      induction is with
      | nil =>
        intro es hl _
        cases es with
        | nil => exact ⟨rfl, rfl⟩
        | cons _ _ => cases hl
      | cons i is ih =>
        intro es hl hp
        cases es with
        | nil => cases hl
        | cons e es =>
          obtain ⟨x, q, h1, _⟩ := hp (i, e) List.mem_cons_self
          have h1' : e = .Name x q := h1
          subst h1'
          obtain ⟨a, b⟩ := ih (es := es) (by simpa using hl) fun p hp' => hp p (List.mem_cons_of_mem _ hp')
          refine ⟨?_, ?_⟩
          · show (assignEach es X.env).length + 1 = is.length + 1
            rw [a]
          · show List.findIdx? _ ((false, assign (.Name x q) X.env) :: assignEach es X.env) = none
            rw [List.findIdx?_cons, b]; rfl
    obtain ⟨n1, n2⟩ := names hl hp
    have ht : gD X.K tg = gTup X.K tg.length (gNames tg) := by
      cases tg with
      | nil => rfl
      | cons i is =>
        cases is with
        | nil => simp at hl; omega
        | cons j is => rfl
    rw [ht]
    exact pg_tup hc (pgs_names hN hl hp) n1 n2
end K9
end
section
set_option Elab.async false
set_option linter.all false
set_option maxRecDepth 100000
set_option maxHeartbeats 0
/-! K9Lc2: comprehensions. -/
namespace K9
open PySem PySem.Spec PyProof.Rows L2

variable {ca fa : Nat → Addr} {W : WX} {C : Ctx} {X : Cx} {pos : Pos}
abbrev WF : WX := fun _ _ _ _ => False
theorem live_chk {α : Type} {S : Sto} {l : List (Nat × List D)} {r x : R α} (h : chkLive S l r = x) (hx : x ≠ .bad) : Live S l ∧ r = x := by
  unfold chkLive at h
  split at h
  · exact ⟨(fun p hp => by cases hp), h⟩
  · split at h
    · rename_i hl; exact ⟨hl, h⟩
    · exact absurd h.symm hx
/-- an own accumulator's content exchanged -/
theorem rel_upd {M : Mem} {S : Sto} {H : Hp} {a : Addr} {o o' : HO} (rs : RelS ca M S H) (ha : H a = some o) (h1 : M.F a = none) (h2 : a ∉ M.mu) : RelS ca M S (upd H a o') := by
  refine ⟨fun b u h => ?_, rs.len, rs.nd, rs.off, fun n ob h => ?_, fun b h => rs.h0 b (upd_none h)⟩
  · rw [upd_ne (fun z => by rw [z, h1] at h; cases h)]; exact rs.frz b u h
  · obtain ⟨b, ho, k1, k2, k3⟩ := rs.ob n ob h
    refine ⟨b, ho, k1, ?_, k3⟩
    rw [upd_ne (fun z => h2 (by rw [← z]; exact List.mem_of_getElem? k1))]; exact k2
theorem ext_upd {M M1 : Mem} {H H1 : Hp} {a : Addr} {o' : HO} (e : Ext M H M1 H1) (hn : H a = none) : Ext M H M1 (upd H1 a o') where
  F := e.F
  mu := e.mu
  h0 := e.h0
  sa := e.sa
  rest := fun b u h n => by rw [upd_ne (ne_of_none h hn)]; exact e.rest b u h n
  newF := e.newF
  newM := e.newM
  dom := fun b u h => by
    obtain ⟨u', h'⟩ := e.dom b u h
    exact ⟨u', by rw [upd_ne (ne_of_none h hn)]; exact h'⟩
theorem tM_lc {K : PySem.W.Frag} {own tg : List Nat} {it : It} {c elt : Ex} {σ : L2.St} {H : Hp} {Q : VK} (htg : ∀ i ∈ tg, i ∈ own) (h : tM ca W (ev C (.lc own tg it c elt)) σ H Q) :
    tLc (tI ca W (evIt C it)) (gD K tg) (tMT ca WF (ev C c)) (tM ca WF (ev C elt)) own σ H Q := by
  obtain ⟨M, env, S, rs, re, o⟩ := h
  simp only [ev] at o
  refine ⟨M, env, S, rs, re, ?_⟩
  cases hit : evIt C it env S with
  | bad => rw [hit] at o; exact o
  | er c' d S' => rw [hit] at o; exact o
  | ok p S1 =>
    rw [hit] at o
    intro J M1 H1 ow e1 rs1 wk hacc hown D hD
    have re1 := re.ext e1
    have o1 : Out ca W M1 σ H1 (noEr ((lcGo (ev C c) (ev C elt) tg (wipeE env own) p.live p.xs [] S1).bind fun ys S2 => mkL ys S2)) Q :=
      Out.ext (r := noEr ((lcGo (ev C c) (ev C elt) tg (wipeE env own) p.live p.xs [] S1).bind fun ys S2 => mkL ys S2)) o e1
    -- the state at a turn
    let St : Nat → Hp → Prop := fun i H' => ∃ M' S' ys acc, Ext M1 H1 M' H' ∧ RelS ca M' S' H' ∧ H' D = some (.lst acc) ∧ M'.F D = none ∧ D ∉ M'.mu ∧ RepL ca M' acc ys ∧ i ≤ p.xs.length ∧
      Out ca W M1 σ H1 (noEr ((lcGo (ev C c) (ev C elt) tg (wipeE env own) p.live (p.xs.drop i) ys S').bind fun ys S2 => mkL ys S2)) Q
    refine ⟨fun i m H' => m = p.xs.length - i ∧ St i H', ⟨p.xs.length, rfl, M1, S1, [], [], ?_, ?_, upd_same, free_F rs1 hD, free_mu rs1 hD, .nil, Nat.zero_le _, o1⟩, ?_⟩
    · exact ext_upd Ext.refl hD
    · refine ⟨fun b u h => ?_, rs1.len, rs1.nd, rs1.off, fun n ob h => ?_, fun b h => rs1.h0 b (upd_none h)⟩
      · rw [upd_ne (fun z => by rw [z, free_F rs1 hD] at h; cases h)]; exact rs1.frz b u h
      · obtain ⟨b, ho, k1, k2, k3⟩ := rs1.ob n ob h
        exact ⟨b, ho, k1, by rw [upd_ne (ne_of_none k2 hD)]; exact k2, k3⟩
    · rintro i m H2 ⟨rfl, M2, S2, ys, acc, e2, rs2, hd, hF, hM, ra, hi, o2⟩
      have ho2 : ∀ q ∈ ow, H2 q.1 = some (.lst q.2) := fun q hq => e2.rest _ _ (hown q hq).2 (hown q hq).1
      cases hx : p.xs.drop i with
      | nil =>
        rw [hx] at o2
        have hl : p.xs.length ≤ i := by
          have := congrArg List.length hx
          rw [List.length_drop, List.length_nil] at this; omega
        simp only [lcGo] at o2
        cases hc : chkLive S2 p.live (R.ok ys S2) with
        | bad => rw [hc] at o2; exact o2.elim
        | er c' d S' =>
          obtain ⟨_, z⟩ := live_chk hc (fun z => nomatch z)
          cases z
        | ok ys' S' =>
          obtain ⟨hlv, z⟩ := live_chk hc (fun z => nomatch z)
          cases z
          rw [hc] at o2
          refine .inl ⟨(wk M2 H2 S2 i e2.m rs2 hlv ho2).1 hl, ?_⟩
          have o3 : Out ca W M1 σ H1 (noEr (mkL ys S2)) Q := o2
          unfold mkL chk at o3
          by_cases hz : ys.length ≤ sizeLine
          · rw [if_pos hz] at o3
            exact (show Out ca W M1 σ H1 (.ok (.own (.lst ys)) S2) Q from o3) (.ref D) M2 H2 e2 rs2 ⟨D, .lst acc, .lst ys, rfl, hD, hd, rfl, .lst ra, hF, hM⟩
          · rw [if_neg hz] at o3; exact o3.elim
      | cons d rest =>
        rw [hx] at o2
        have hdi : p.xs[i]? = some d := by
          have := congrArg (·[0]?) hx
          simpa [List.getElem?_drop] using this
        have hrest : p.xs.drop (i + 1) = rest := by
          rw [← List.tail_drop, hx]; rfl
        have hlt : i < p.xs.length := (List.getElem?_eq_some_iff.mp hdi).1
        simp only [lcGo] at o2
        cases hc : chkLive S2 p.live (oget (asgT tg d (wipeE env own)) fun e => (ev C c e S2).bindR fun b S1 => ifD b ((ev C elt e S1).bindR fun y S2 => if y.isAcc then .bad else chk (ys.length < sizeLine) (lcGo (ev C c) (ev C elt) tg (wipeE env own) p.live rest (ys ++ [y]) S2)) (lcGo (ev C c) (ev C elt) tg (wipeE env own) p.live rest ys S1)) with
        | bad => rw [hc] at o2; exact o2.elim
        | er c' d' S' => rw [hc] at o2; exact o2.elim
        | ok zs S' =>
          obtain ⟨hlv, z⟩ := live_chk hc (fun z => nomatch z)
          rw [hc, ← z] at o2
          clear hc z
          obtain ⟨hgo, hy⟩ := (wk M2 H2 S2 i e2.m rs2 hlv ho2).2 d hdi
          refine .inr ⟨hgo, fun H' => St (i + 1) H', fun H' q => ⟨p.xs.length - (i + 1), by omega, rfl, q⟩, fun x H3 hyl => ?_⟩
          obtain ⟨M3, e3, rs3, rx⟩ := hy x H3 hyl
          cases ha : asgT tg d (wipeE env own) with
          | none => rw [ha] at o2; exact o2.elim
          | some e =>
            rw [ha] at o2
            have o2 : Out ca W M1 σ H1 (noEr (((ev C c e S2).bindR fun b S1 => ifD b ((ev C elt e S1).bindR fun y S2 => if y.isAcc then .bad else chk (ys.length < sizeLine) (lcGo (ev C c) (ev C elt) tg (wipeE env own) p.live rest (ys ++ [y]) S2)) (lcGo (ev C c) (ev C elt) tg (wipeE env own) p.live rest ys S1)).bind fun ys S2 => mkL ys S2)) Q := o2
            have e13 := e2.trans e3
            have rew := (re1.ext e13).wipe own
            have hd3 : H3 D = some (.lst acc) := e3.rest _ _ hd hM
            have hM3 : D ∉ M3.mu := fun q => by rw [e3.newM D q hM] at hd; cases hd
            have hF3 : M3.F D = none := by
              cases q : M3.F D with
              | none => rfl
              | some u => rw [e3.newF D u q hF] at hd; cases hd
            refine gD_ok (ca := ca) (K := K) rs3 rew (RepX.of rx) ha fun σ2 re2 hw => ⟨(hw own htg).trans wipe_wipe, M3, e, S2, rs3, re2, ?_⟩
            cases hc : ev C c e S2 with
            | bad => rw [hc] at o2; exact o2.elim
            | er c' d' S' => rw [hc] at o2; exact o2.elim
            | ok b S3 =>
              rw [hc] at o2
              intro v M4 H4 e4 rs4 rt
              obtain ⟨M5, e5, rs5, rx5⟩ := rt.hold e4 rs4
              have hd5 : H4 D = some (.lst acc) := e5.rest _ _ hd3 hM3
              have hM5 : D ∉ M5.mu := fun q => by rw [e5.newM D q hM3] at hd3; cases hd3
              have hF5 : M5.F D = none := by
                cases q : M5.F D with
                | none => rfl
                | some u => rw [e5.newF D u q hF3] at hd3; cases hd3
              have o3 : Out ca W M1 σ H1 (noEr ((ifD (rd b) ((ev C elt e S3).bindR fun y S2 => if y.isAcc then .bad else chk (ys.length < sizeLine) (lcGo (ev C c) (ev C elt) tg (wipeE env own) p.live rest (ys ++ [y]) S2)) (lcGo (ev C c) (ev C elt) tg (wipeE env own) p.live rest ys S3)).bind fun ys S2 => mkL ys S2)) Q := o2
              generalize hrb : rd b = b' at o3 rx5
              cases b' with
              | bl k =>
                obtain rfl := bl_of rx5
                refine ⟨k, rfl, ?_⟩
                cases k with
                | false =>
                  refine iteF ⟨M5, S3, ys, acc, e13.trans e5, rs5, hd5, hF5, hM5, e5.repL (e3.repL ra), hlt, ?_⟩
                  rw [hrest]; exact o3
                | true =>
                  refine iteT ⟨M5, e, S3, rs5, re2.ext e5, ?_⟩
                  have o4 : Out ca W M1 σ H1 (noEr (((ev C elt e S3).bindR fun y S2 => if y.isAcc then .bad else chk (ys.length < sizeLine) (lcGo (ev C c) (ev C elt) tg (wipeE env own) p.live rest (ys ++ [y]) S2)).bind fun ys S2 => mkL ys S2)) Q := o3
                  cases he : ev C elt e S3 with
                  | bad => rw [he] at o4; exact o4.elim
                  | er c' d' S' => rw [he] at o4; exact o4.elim
                  | ok y S4 =>
                    rw [he] at o4
                    intro v2 M6 H6 e6 rs6 rt6
                    obtain ⟨M7, e7, rs7, rx7⟩ := rt6.hold e6 rs6
                    have hd7 : H6 D = some (.lst acc) := e7.rest _ _ hd5 hM5
                    have hM7 : D ∉ M7.mu := fun q => by rw [e7.newM D q hM5] at hd5; cases hd5
                    have hF7 : M7.F D = none := by
                      cases q : M7.F D with
                      | none => rfl
                      | some u => rw [e7.newF D u q hF5] at hd5; cases hd5
                    have o5 : Out ca W M1 σ H1 (noEr ((if (rd y).isAcc then .bad else chk (ys.length < sizeLine) (lcGo (ev C c) (ev C elt) tg (wipeE env own) p.live rest (ys ++ [rd y]) S4)).bind fun ys S2 => mkL ys S2)) Q := o4
                    cases hya : (rd y).isAcc with
                    | true => rw [hya] at o5; exact o5.elim
                    | false =>
                      rw [hya] at o5
                      simp only [Bool.false_eq_true, if_false] at o5
                      by_cases hz : ys.length < sizeLine
                      · simp only [chk, if_pos hz] at o5
                        have ra7 := e7.repL (e5.repL (e3.repL ra))
                        refine ⟨acc, hd7, by rw [ra.length]; exact hz, M7, S4, ys ++ [rd y], acc ++ [v2], ext_upd ((e13.trans e5).trans e7) hD, rel_upd rs7 hd7 hF7 hM7, upd_same, hF7, hM7, ra7.append (.cons (rx7.rep hya) .nil), hlt, ?_⟩
                        rw [hrest]; exact o5
                      · simp only [chk, if_neg hz] at o5; exact o5.elim
              | _ => exact o3.elim
end K9
end
section
set_option Elab.async false
set_option linter.all false
set_option maxRecDepth 100000
set_option maxHeartbeats 0
/-! K9Stm: statements. -/
namespace K9
open PySem PySem.Spec PyProof.Rows L2

variable {ca fa : Nat → Addr} {W : WX} {C : Ctx} {X : Cx} {pos : Pos} {M0 : Mem} {H0 : Hp}
/-- an outcome of statements; M0, H0 at the def's entry, M at this statement's -/
def OutS (ca : Nat → Addr) (W : WX) (M0 : Mem) (H0 : Hp) (M : Mem) (r : R Fl) (D : Ends) : Prop := match r with
  | .ok (.nx env) S => ∀ σ' M' H', ExtM M M' → Ext M0 H0 M' H' → RelS ca M' S H' → RelE ca M' env σ' H' → D.nx σ' H'
  | .ok (.ct env) S => ∀ σ' M' H', ExtM M M' → Ext M0 H0 M' H' → RelS ca M' S H' → RelE ca M' env σ' H' → D.ct σ' H'
  | .ok (.rt d) S => ∀ v M' H', ExtM M M' → Ext M0 H0 M' H' → RelS ca M' S H' → RepU ca H0 M' H' v d → D.rt v H'
  | .er c d S => ∀ cls dd σ' M' H', ExtM M M' → Ext M0 H0 M' H' → RelS ca M' S H' → ExcR ca M' H' c d cls dd → H0 dd.get! = none → W cls dd σ' H'
  | .bad => False
theorem OutS.ext {M M1 : Mem} {r : R Fl} {D : Ends} (h : OutS ca W M0 H0 M r D) (e : ExtM M M1) : OutS ca W M0 H0 M1 r D := by
  cases r with
  | bad => exact h
  | er c d S => exact fun cls dd σ' M' H' x => h cls dd σ' M' H' (e.trans x)
  | ok f S =>
    cases f with
    | nx env => exact fun σ' M' H' x => h σ' M' H' (e.trans x)
    | ct env => exact fun σ' M' H' x => h σ' M' H' (e.trans x)
    | rt d => exact fun v M' H' x => h v M' H' (e.trans x)
def tS (ca : Nat → Addr) (W : WX) (M0 : Mem) (H0 : Hp) (f : Env → Sto → R Fl) : TS := fun D σ H => ∃ M env S, Ext M0 H0 M H ∧ M0.H0 = H0 ∧ RelS ca M S H ∧ RelE ca M env σ H ∧ OutS ca W M0 H0 M (f env S) D
theorem PS.imp {e : Stmt} {t t' : TS} (h : PS X e t) (q : ∀ D σ H, t' D σ H → t D σ H) : PS X e t' := ⟨fun pins s σ H D I z => h.run pins s σ H D I (q D σ H z)⟩
theorem PSs.imp {e : List Stmt} {t t' : TS} (h : PSs X e t) (q : ∀ D σ H, t' D σ H → t D σ H) : PSs X e t' := ⟨fun pins s σ H D I z => h.run pins s σ H D I (q D σ H z)⟩
section
variable {M M1 : Mem} {H H1 : Hp} {σ : L2.St} {env : Env} {S : Sto} {E : Ends}
/-- a value, then the rest -/
theorem OutS.bind {r : R D} {k : D → Sto → R Fl} {Q1 : VK} (h : OutS ca W M0 H0 M (r.bindR k) E) (e0 : Ext M0 H0 M H) (re : RelE ca M env σ H)
    (hk : ∀ d S1 v M1 H1, Ext M H M1 H1 → RelS ca M1 S1 H1 → RelE ca M1 env σ H1 → RepX ca M1 σ v d → Ext M0 H0 M1 H1 → OutS ca W M0 H0 M1 (k d S1) E → Q1 v H1) : Out ca W M σ H r Q1 := by
  cases r with
  | bad => exact h
  | er c d S' => exact fun cls dd M' H' e rs ex hd => h cls dd σ M' H' e.m (e0.trans e) rs ex (e0.none hd)
  | ok d S' =>
    intro v M1 H1 e rs rt
    obtain ⟨M2, e2, rs2, rx⟩ := rt.hold e rs
    exact hk (rd d) S' v M2 H1 e2 rs2 (re.ext e2) rx (e0.trans e2) (OutS.ext (r := k (rd d) S') h e2.m)
/-- .. as it is -/
theorem OutS.bind0 {r : R D} {k : D → Sto → R Fl} {Q1 : VK} (h : OutS ca W M0 H0 M (r.bind k) E) (e0 : Ext M0 H0 M H) (re : RelE ca M env σ H)
    (hk : ∀ d S1 v M1 H1, Ext M H M1 H1 → RelS ca M1 S1 H1 → RelE ca M1 env σ H1 → RepT ca σ H M1 H1 v d → Ext M0 H0 M1 H1 → OutS ca W M0 H0 M1 (k d S1) E → Q1 v H1) : Out ca W M σ H r Q1 := by
  cases r with
  | bad => exact h
  | er c d S' => exact fun cls dd M' H' e rs ex hd => h cls dd σ M' H' e.m (e0.trans e) rs ex (e0.none hd)
  | ok d S' => exact fun v M1 H1 e rs rt => hk d S' v M1 H1 e rs (re.ext e) rt (e0.trans e) (OutS.ext (r := k d S') h e.m)
/-- values, then the rest -/
theorem OutS.bindL {rel : Mem → List V → List D → Prop} {r : R (List D)} {k : List D → Sto → R Fl} {Q1 : List V → Hp → Prop} (h : OutS ca W M0 H0 M (r.bind k) E) (e0 : Ext M0 H0 M H) (re : RelE ca M env σ H)
    (hk : ∀ d S1 v M1 H1, Ext M H M1 H1 → RelS ca M1 S1 H1 → RelE ca M1 env σ H1 → rel M1 v d → Ext M0 H0 M1 H1 → OutS ca W M0 H0 M1 (k d S1) E → Q1 v H1) : OutL rel ca W M σ H r Q1 := by
  cases r with
  | bad => exact h
  | er c d S' => exact fun cls dd M' H' e rs ex hd => h cls dd σ M' H' e.m (e0.trans e) rs ex (e0.none hd)
  | ok d S' => exact fun v M1 H1 e rs rx => hk d S' v M1 H1 e rs (re.ext e) rx (e0.trans e) (OutS.ext (r := k d S') h e.m)
theorem outS_chk {p : Prop} [Decidable p] {r : R Fl} (o : OutS ca W M0 H0 M (chk p r) E) : p ∧ OutS ca W M0 H0 M r E := by
  unfold chk at o
  by_cases h : p
  · rw [if_pos h] at o; exact ⟨h, o⟩
  · rw [if_neg h] at o; exact o.elim
theorem outS_oget {α : Type} {x : Option α} {k : α → R Fl} (o : OutS ca W M0 H0 M (oget x k) E) : ∃ a, x = some a ∧ OutS ca W M0 H0 M (k a) E := by
  cases x with
  | none => exact o.elim
  | some a => exact ⟨a, rfl, o⟩
theorem outS_nx (o : OutS ca W M0 H0 M (.ok (.nx env) S) E) (e0 : Ext M0 H0 M H) (rs : RelS ca M S H) (re : RelE ca M env σ H) : E.nx σ H := o σ M H ExtM.refl e0 rs re
/-- statements one after another: the ends of the first one -/
theorem OutS.seq {r : R Fl} {k : Env → Sto → R Fl} {N : L2.St → Hp → Prop} (h : OutS ca W M0 H0 M (r.bind fun f S1 => match f with | .nx e1 => k e1 S1 | .rt d => .ok (.rt d) S1 | .ct e1 => .ok (.ct e1) S1) E)
    (hk : ∀ e1 S1 σ1 M1 H1, ExtM M M1 → Ext M0 H0 M1 H1 → RelS ca M1 S1 H1 → RelE ca M1 e1 σ1 H1 → OutS ca W M0 H0 M1 (k e1 S1) E → N σ1 H1) : OutS ca W M0 H0 M r { E with nx := N } := by
  cases r with
  | bad => exact h
  | er c d S' => exact h
  | ok f S' =>
    cases f with
    | nx e1 => exact fun σ' M' H' e e2 rs re => hk e1 S' σ' M' H' e e2 rs re (OutS.ext (r := k e1 S') h e)
    | ct e1 => exact h
    | rt d => exact h
end

/-! ### one after another -/
theorem sndS_nil : PSs X [] (tS ca W M0 H0 (exSs C .nil)) := PSs.imp pss_nil fun E σ H ⟨M, env, S, e0, h0, rs, re, o⟩ => outS_nx (by simpa only [exSs] using o) e0 rs re
theorem sndS_cons {s : Stmt} {ss : List Stmt} {x : Sm} {xs : Sms} (h1 : PS X s (tS ca W M0 H0 (exS C x))) (h2 : PSs X ss (tS ca W M0 H0 (exSs C xs))) : PSs X (s :: ss) (tS ca W M0 H0 (exSs C (.cons x xs))) := by
  refine PSs.imp (pss_cons h1 h2) fun E σ H ⟨M, env, S, e0, h0, rs, re, o⟩ => ?_
  simp only [exSs] at o
  exact ⟨M, env, S, e0, h0, rs, re, OutS.seq (k := fun e1 S1 => exSs C xs e1 S1) o fun e1 S1 σ1 M1 H1 e e1' rs1 re1 o1 => ⟨M1, e1, S1, e1', h0, rs1, re1, o1⟩⟩
/-- a statement that the text has not -/
theorem sndS_ghost {ss : List Stmt} {x : Sm} {xs : Sms} (hg : ∀ E σ H, tS ca W M0 H0 (exS C x) E σ H → E.nx σ H) (h2 : PSs X ss (tS ca W M0 H0 (exSs C xs))) : PSs X ss (tS ca W M0 H0 (exSs C (.cons x xs))) := by
  refine PSs.imp h2 fun E σ H ⟨M, env, S, e0, h0, rs, re, o⟩ => ?_
  simp only [exSs] at o
  exact hg { E with nx := fun σ' H' => tS ca W M0 H0 (exSs C xs) E σ' H' } σ H ⟨M, env, S, e0, h0, rs, re, OutS.seq (k := fun e1 S1 => exSs C xs e1 S1) o fun e1 S1 σ1 M1 H1 e e1' rs1 re1 o1 => ⟨M1, e1, S1, e1', h0, rs1, re1, o1⟩⟩

/-! ### assignments -/
theorem asg_name {i : Nat} {e : Ex} {E : Ends} {σ : L2.St} {H : Hp} (h : tS ca W M0 H0 (exS C (.asg i e)) E σ H) : tAsg (tM ca W (ev C e)) (gName i) E σ H := by
  obtain ⟨M, env, S, e0, h0, rs, re, o⟩ := h
  simp only [exS] at o
  refine ⟨M, env, S, rs, re, o.bind e0 re fun d S1 v M1 H1 e1 rs1 re1 rx1 e01 o1 => ?_⟩
  cases hd : d.isAcc with
  | true => rw [hd] at o1; exact o1.elim
  | false =>
    rw [hd] at o1
    exact outS_nx o1 e01 rs1 (re1.set (rx1.rep hd))
/-- an object just made becomes the name's own -/
theorem acc_name {i : Nat} {e : Ex} {E : Ends} {σ : L2.St} {H : Hp} (h : tS ca W M0 H0 (exS C (.acc i e)) E σ H) : tAsg (tM ca W (ev C e)) (gName i) E σ H := by
  obtain ⟨M, env, S, e0, h0, rs, re, o⟩ := h
  simp only [exS] at o
  refine ⟨M, env, S, rs, re, o.bind0 e0 re fun d S1 v M1 H1 e1 rs1 re1 rt e01 o1 => ?_⟩
  cases d with
  | own d =>
    obtain ⟨ob, h1, o2⟩ := outS_oget o1
    obtain ⟨p, ho, ob', rfl, k1, k2, k3, k4, k5, k6⟩ := rt
    have hob : ob' = ob ∧ ∀ c fs vs, ob ≠ .ins c fs vs := by
      cases d <;> cases h1 <;> cases k3 <;> exact ⟨rfl, fun _ _ _ z => nomatch z⟩
    obtain ⟨rfl, hni⟩ := hob
    refine outS_nx o2 e01 rs1 ⟨by rw [List.length_set, List.length_set, re1.len], fun j s h => ?_, fun j k o o' h1 h2 h3 => ?_⟩
    · by_cases e : i = j
      · subst e
        by_cases hl : i < env.length
        · rw [List.getElem?_set_self hl] at h
          cases h
          rw [List.getElem?_set_self (by rw [← re1.len]; exact hl)]
          exact .al k2 k4 k5 k6 (by rw [e1.h0]; exact rs.h0 p k1) fun c fs vs z => absurd z (hni c fs vs)
        · rw [List.getElem?_eq_none (by rw [List.length_set]; omega)] at h; cases h
      · rw [List.getElem?_set_ne e] at h ⊢
        exact re1.sl j s h
    · -- own objects stay apart
      have apart : ∀ {k : Nat} {o' : Ob}, i ≠ k → env[k]? = some (.al o') → (σ.set i (some (.ref p)))[i]? = (σ.set i (some (V.ref p)))[k]? → False := by
        intro k o' ne hk he
        rw [List.getElem?_set_ne ne] at he
        have z := re.sl k _ hk
        have hli : i < σ.length := by
          by_cases hl : i < σ.length
          · exact hl
          · rw [List.getElem?_eq_none (by rw [List.length_set]; omega)] at he
            rw [← he] at z
            cases z
        rw [List.getElem?_set_self hli] at he
        rw [← he] at z
        cases z with
        | al g1 g2 g3 g4 g5 g6 => rw [k1] at g1; cases g1
      by_cases ej : i = j
      · by_cases ek : i = k
        · exact ej.symm.trans ek
        · subst ej
          rw [List.getElem?_set_ne ek] at h2
          exact (apart ek h2 h3).elim
      · by_cases ek : i = k
        · subst ek
          rw [List.getElem?_set_ne ej] at h1
          exact (apart ej h1 h3.symm).elim
        · rw [List.getElem?_set_ne ej] at h1
          rw [List.getElem?_set_ne ek] at h2
          rw [List.getElem?_set_ne ej, List.getElem?_set_ne ek] at h3
          exact re1.ap j k o o' h1 h2 h3
  | _ => exact o1.elim
theorem unp_name {K : PySem.W.Frag} {is : List Nat} {e : Ex} {E : Ends} {σ : L2.St} {H : Hp} (h : tS ca W M0 H0 (exS C (.unp is e)) E σ H) : tAsg (tM ca W (ev C e)) (gD K is) E σ H := by
  obtain ⟨M, env, S, e0, h0, rs, re, o⟩ := h
  simp only [exS] at o
  refine ⟨M, env, S, rs, re, o.bind e0 re fun d S1 v M1 H1 e1 rs1 re1 rx1 e01 o1 => ?_⟩
  obtain ⟨en, h1, o2⟩ := outS_oget o1
  exact gD_ok rs1 re1 rx1 h1 fun σ2 re2 _ => outS_nx o2 e01 rs1 re2
/-- the own object of a name is held from now on -/
theorem frz_name {i : Nat} {E : Ends} {σ : L2.St} {H : Hp} (h : tS ca W M0 H0 (exS C (.frz i)) E σ H) : E.nx σ H := by
  obtain ⟨M, env, S, e0, h0, rs, re, o⟩ := h
  simp only [exS] at o
  cases he : env[i]? with
  | none => rw [he] at o; exact o.elim
  | some s =>
    rw [he] at o
    cases s with
    | no => exact o.elim
    | fz d => exact o.elim
    | al ob =>
      have z := re.sl i _ he
      generalize hs : σ[i]? = so at z
      cases z with
      | al g1 g2 g3 g4 g5 g6 =>
        rename_i a ho
        have hF : ∀ b u, M.F b = some u → (upd M.F a ho) b = some u := fun b u h => by
          rw [upd_ne (fun z => by rw [z, g3] at h; cases h)]; exact h
        have em : ExtM M { M with F := upd M.F a ho } := ⟨hF, fun _ _ h => h, rfl, rfl⟩
        refine o σ { M with F := upd M.F a ho } H em ⟨fun b u h => hF b u (e0.F b u h), e0.mu, e0.h0, e0.sa, e0.rest, fun b u h n => ?_, e0.newM, e0.dom⟩ ⟨fun b u h => ?_, rs.len, rs.nd, fun b h => ?_, fun n ob' h => ?_, rs.h0⟩ ⟨by rw [List.length_set, re.len], fun j s h => ?_, fun j k o1 o2 h1 h2 h3 => ?_⟩
        · by_cases zz : b = a
          · rw [zz, ← h0, ← e0.h0]; exact g5
          · exact e0.newF b u (by rw [← h]; exact (upd_ne zz).symm) n
        · by_cases zz : b = a
          · subst zz
            have h' : upd M.F b ho b = some u := h
            rw [upd_same] at h'
            cases h'
            exact g1
          · exact rs.frz b u (by rw [← h]; exact (upd_ne zz).symm)
        · have hne : b ≠ a := fun zz => g4 (by rw [← zz]; exact h)
          exact (upd_ne hne).trans (rs.off b h)
        · obtain ⟨b, ho', k1, k2, k3⟩ := rs.ob n ob' h
          exact ⟨b, ho', k1, k2, ObR.mono (M := M) (M' := { M with F := upd M.F a ho }) hF (fun _ _ h => h) rfl k3⟩
        · by_cases ee : i = j
          · subst ee
            by_cases hl : i < env.length
            · rw [List.getElem?_set_self hl] at h
              cases h
              rw [hs]
              exact .fz (ObR.d (ObR.mono (M := M) (M' := { M with F := upd M.F a ho }) hF (fun _ _ h => h) rfl g2) upd_same)
            · rw [List.getElem?_eq_none (by rw [List.length_set]; omega)] at h; cases h
          · rw [List.getElem?_set_ne ee] at h
            have y := re.sl j s h
            generalize hsj : σ[j]? = sj at y
            cases y with
            | no => exact .no
            | fz r => exact .fz (em.rep r)
            | al f1 f2 f3 f4 f5 f6 =>
              rename_i b ho2 ob2
              have hne : b ≠ a := fun zz => ee (re.ap i j _ _ he h (by rw [hs, hsj, zz]))
              exact .al f1 (ObR.mono (M := M) (M' := { M with F := upd M.F a ho }) hF (fun _ _ h => h) rfl f2) ((upd_ne hne).trans f3) f4 f5 f6
        · have n1 : i ≠ j := by
            intro zz
            subst zz
            rw [List.getElem?_set_self (List.getElem?_eq_some_iff.mp he).1] at h1; cases h1
          have n2 : i ≠ k := by
            intro zz
            subst zz
            rw [List.getElem?_set_self (List.getElem?_eq_some_iff.mp he).1] at h2; cases h2
          rw [List.getElem?_set_ne n1] at h1
          rw [List.getElem?_set_ne n2] at h2
          exact re.ap j k o1 o2 h1 h2 h3

/-! ### return, if, expressions -/
theorem sndS_ret {e : Expr} {x : Ex} (he : PE X e (tM ca W (ev C x))) : PS X (.Return (some e) pos) (tS ca W M0 H0 (exS C (.ret x))) := by
  refine PS.imp (ps_ret he) fun E σ H ⟨M, env, S, e0, h0, rs, re, o⟩ => ?_
  simp only [exS] at o
  refine ⟨M, env, S, rs, re, o.bind0 e0 re fun d S1 v M1 H1 e1 rs1 re1 rt e01 o1 => ?_⟩
  obtain ⟨d', h1, o2⟩ := outS_oget o1
  refine o2 v M1 H1 ExtM.refl e01 rs1 ?_
  unfold outD at h1
  cases d with
  | acc i =>
    have rt' : σ[i]? = some (some v) := rt
    simp only at h1
    cases he : env[i]? with
    | none => rw [he] at h1; cases h1
    | some s =>
      rw [he] at h1
      cases s with
      | al ob =>
        cases h1
        have z := re1.sl i _ he
        rw [rt'] at z
        cases z with
        | al g1 g2 g3 g4 g5 g6 =>
          refine ⟨_, _, ob, rfl, ?_, g1, obOf_of ob, g2, g3, g4⟩
          rw [← h0, ← e01.h0]; exact g5
      | no => cases h1
      | fz _ => cases h1
  | own d =>
    cases h1
    obtain ⟨p, ho, ob, rfl, k1, k2⟩ := rt
    exact ⟨p, ho, ob, rfl, e0.none k1, k2⟩
  | _ => cases h1; exact rt
theorem sndS_expr {e : Expr} {x : Ex} (he : PE X e (tM ca W (ev C x))) (hs : swapsWith e none pos.line X.env = pure false) : PS X (.Expr e pos) (tS ca W M0 H0 (exS C (.expr x))) := by
  refine PS.imp (ps_expr he hs) fun E σ H ⟨M, env, S, e0, h0, rs, re, o⟩ => ?_
  simp only [exS] at o
  exact ⟨M, env, S, rs, re, o.bind e0 re fun d S1 v M1 H1 e1 rs1 re1 rx1 e01 o1 => outS_nx o1 e01 rs1 re1⟩
theorem sndS_ite {c : Expr} {p q : List Stmt} {x : Ex} {xs ys : Sms} (hc : PT X c (tMT ca W (ev C x))) (hp : PSs X p (tS ca W M0 H0 (exSs C xs))) (hq : PSs X q (tS ca W M0 H0 (exSs C ys))) : PS X (.If c p q pos) (tS ca W M0 H0 (exS C (.ite x xs ys))) := by
  refine PS.imp (ps_if hc hp hq) fun E σ H ⟨M, env, S, e0, h0, rs, re, o⟩ => ?_
  simp only [exS] at o
  refine ⟨M, env, S, rs, re, o.bind e0 re fun d S1 v M1 H1 e1 rs1 re1 rx1 e01 o1 => ?_⟩
  cases d with
  | bl b =>
    obtain rfl := bl_of rx1
    refine ⟨b, rfl, ?_⟩
    cases b with
    | true => exact iteT ⟨M1, env, S1, e01, h0, rs1, re1, o1⟩
    | false => exact iteF ⟨M1, env, S1, e01, h0, rs1, re1, o1⟩
  | _ => exact o1.elim
theorem sndS_pass : PS X (.Pass pos) (tS ca W M0 H0 (exS C .pass)) := PS.imp ps_pass fun E σ H ⟨M, env, S, e0, h0, rs, re, o⟩ => outS_nx (by simpa only [exS] using o) e0 rs re
theorem sndS_cont : PS X (.Continue pos) (tS ca W M0 H0 (exS C .cont)) := PS.imp ps_continue fun E σ H ⟨M, env, S, e0, h0, rs, re, o⟩ => (show OutS ca W M0 H0 M (.ok (.ct env) S) E from by simpa only [exS] using o) σ M H ExtM.refl e0 rs re
end K9
end
section
set_option Elab.async false
set_option linter.all false
set_option maxRecDepth 100000
set_option maxHeartbeats 0
/-! K9Stm2: objects that are changed; loops. -/
namespace K9
open PySem PySem.Spec PyProof.Rows L2

variable {ca fa : Nat → Addr} {W : WX} {C : Ctx} {X : Cx} {pos : Pos} {M0 : Mem} {H0 : Hp}
section
variable {M : Mem} {H : Hp} {σ : L2.St} {env : Env} {S : Sto}
theorem nodup_ne {α : Type} {l : List α} (h : l.Nodup) {i j : Nat} (hij : i < j) (hj : j < l.length) : l[i]? ≠ l[j]? := by
  have := List.pairwise_iff_getElem.mp h i j (by omega) hj hij
  rw [List.getElem?_eq_getElem (by omega), List.getElem?_eq_getElem hj]
  exact fun z => this (Option.some.inj z)
theorem place_put {d : D} {v : V} {ob ob' : Ob} {p : Env × Sto} (e0 : Ext M0 H0 M H) (h0 : M0.H0 = H0) (rs : RelS ca M S H) (re : RelE ca M env σ H) (rx : RepX ca M σ v d) (hc : cont env S d = some ob) (hp : putOb d ob' env S = some p)
    (hk : ∀ c fs vs, ob' = .ins c fs vs → ∃ c fs vs, ob = .ins c fs vs) :
    ∃ a ho, v = .ref a ∧ H a = some ho ∧ ObR ca M ho ob ∧ ∀ ho', ObR ca M ho' ob' → Ext M0 H0 M (upd H a ho') ∧ RelS ca M p.2 (upd H a ho') ∧ RelE ca M p.1 σ (upd H a ho') := by
  obtain ⟨a, ho, rfl, ha, q⟩ := cont_at rs re rx hc
  refine ⟨a, ho, rfl, ha, q, fun ho' q' => ?_⟩
  cases d with
  | acc i =>
    have r' : σ[i]? = some (some (.ref a)) := rx
    unfold putOb at hp
    simp only at hp
    cases he : env[i]? with
    | none => rw [he] at hp; cases hp
    | some s =>
      rw [he] at hp
      cases s with
      | no => cases hp
      | fz _ => cases hp
      | al o =>
        cases hp
        have hob : o = ob := by
          unfold cont at hc
          simp only [he] at hc
          exact Option.some.inj hc
        subst hob
        have z := re.sl i _ he
        rw [r'] at z
        cases z with
        | al g1 g2 g3 g4 g5 g6 =>
          have hn : H0 a = none := by rw [← h0, ← e0.h0]; exact g5
          have hli := (List.getElem?_eq_some_iff.mp he).1
          refine ⟨ext_upd e0 hn, rel_upd rs ha g3 g4, ⟨by rw [List.length_set]; exact re.len, fun j s h => ?_, fun j k o1 o2 h1 h2 h3 => ?_⟩⟩
          · by_cases e : i = j
            · subst e
              rw [List.getElem?_set_self hli] at h
              cases h
              rw [r']
              exact .al upd_same q' g3 g4 g5 fun c fs vs z => by
                obtain ⟨c', fs', vs', z'⟩ := hk c fs vs z
                exact g6 c' fs' vs' z'
            · rw [List.getElem?_set_ne e] at h
              have y := re.sl j s h
              generalize hsj : σ[j]? = sj at y
              cases y with
              | no => exact .no
              | fz r => exact .fz r
              | al f1 f2 f3 f4 f5 f6 =>
                rename_i b ho2 ob2
                have hne : b ≠ a := fun zz => e (re.ap i j _ _ he h (by rw [r', hsj, zz]))
                exact .al (by rw [upd_ne hne]; exact f1) f2 f3 f4 f5 f6
          · have hj : ∃ o, env[j]? = some (.al o) := by
              by_cases e : i = j
              · exact ⟨o, by rw [← e]; exact he⟩
              · rw [List.getElem?_set_ne e] at h1; exact ⟨_, h1⟩
            have hk' : ∃ o, env[k]? = some (.al o) := by
              by_cases e : i = k
              · exact ⟨o, by rw [← e]; exact he⟩
              · rw [List.getElem?_set_ne e] at h2; exact ⟨_, h2⟩
            obtain ⟨_, hj⟩ := hj
            obtain ⟨_, hk'⟩ := hk'
            exact re.ap j k _ _ hj hk' h3
  | ref n =>
    cases (show Rep ca M (.ref a) (.ref n) from rx) with
    | ref hn =>
      unfold putOb at hp
      simp only at hp
      split at hp
      · rename_i hlt
        cases hp
        have ham : a ∈ M.mu := List.mem_of_getElem? hn
        have hF : M.F a = none := rs.off a ham
        refine ⟨⟨e0.F, e0.mu, e0.h0, e0.sa, fun b u h n => ?_, e0.newF, e0.newM, fun b u h => ?_⟩, ⟨fun b u h => ?_, by rw [List.length_set]; exact rs.len, rs.nd, rs.off, fun m ob2 h => ?_, fun b h => rs.h0 b (upd_none h)⟩, ⟨re.len, fun j s h => ?_, re.ap⟩⟩
        · by_cases z : b = a
          · subst z
            rw [e0.newM b ham n] at h; cases h
          · rw [upd_ne z]; exact e0.rest b u h n
        · by_cases z : b = a
          · subst z; exact ⟨_, upd_same⟩
          · rw [upd_ne z]; exact e0.dom b u h
        · rw [upd_ne (fun z => by rw [z, hF] at h; cases h)]; exact rs.frz b u h
        · by_cases z : n = m
          · subst z
            rw [List.getElem?_set_self hlt] at h
            cases h
            exact ⟨a, ho', hn, upd_same, q'⟩
          · rw [List.getElem?_set_ne z] at h
            obtain ⟨b, ho2, k1, k2, k3⟩ := rs.ob m ob2 h
            refine ⟨b, ho2, k1, ?_, k3⟩
            rw [upd_ne (fun zz => ?_)]
            · exact k2
            · subst zz
              have l1 := (List.getElem?_eq_some_iff.mp hn).1
              have l2 := (List.getElem?_eq_some_iff.mp k1).1
              rcases Nat.lt_or_gt_of_ne z with zl | zl
              · exact nodup_ne rs.nd zl l2 (by rw [hn, k1])
              · exact nodup_ne rs.nd zl l1 (by rw [hn, k1])
        · have y := re.sl j s h
          generalize hsj : σ[j]? = sj at y ⊢
          cases y with
          | no => exact .no
          | fz r => exact .fz r
          | al f1 f2 f3 f4 f5 f6 =>
            refine .al ?_ f2 f3 f4 f5 f6
            rw [upd_ne (fun z => f4 (by rw [z]; exact ham))]; exact f1
      · cases hp
  | _ => cases hp
end

/-! ### methods that change their object -/
def rMut (ca : Nat → Addr) (x : Mt) : V → List V → Hp → VK → Prop := fun v vs H Q => ∃ M0 H0 σ0 M env S d ds, Ext M0 H0 M H ∧ M0.H0 = H0 ∧ RelS ca M S H ∧ RelE ca M env σ0 H ∧ RepX ca M σ0 v d ∧ RepL ca M vs ds ∧
  ∃ ob ob' p, cont env S d = some ob ∧ mutD x ob ds env S = some ob' ∧ putOb d ob' env S = some p ∧ ∀ H', (Ext M0 H0 M H' → RelS ca M p.2 H' → RelE ca M p.1 σ0 H' → Q .non H')
theorem mutD_lst {x : Mt} {ob ob' : Ob} {ds : List D} {env : Env} {S : Sto} (h : mutD x ob ds env S = some ob') : (∃ xs, ob = .lst xs) ∧ ∃ ys, ob' = .lst ys := by
  unfold mutD at h
  split at h
  · split at h
    · cases h; exact ⟨⟨_, rfl⟩, _, rfl⟩
    · cases h
  · cases h; exact ⟨⟨_, rfl⟩, _, rfl⟩
  · cases h; exact ⟨⟨_, rfl⟩, _, rfl⟩
  · split at h
    · split at h
      · cases h; exact ⟨⟨_, rfl⟩, _, rfl⟩
      · cases h
    · cases h
  · cases h
/-- what a changing method does, as the library tells it -/
def MutOk (ca : Nat → Addr) (X : Cx) (x : Mt) (id : String) : Prop := MtR X id (rMut ca x)
theorem mut_core {M : Mem} {H : Hp} {σ : L2.St} {env : Env} {S : Sto} {v : V} {d : D} {ob ob' : Ob} {p : Env × Sto} {ds : List D} {x : Mt} {Q : VK} (e0 : Ext M0 H0 M H) (h0 : M0.H0 = H0) (rs : RelS ca M S H) (re : RelE ca M env σ H) (rx : RepX ca M σ v d)
    (hc : cont env S d = some ob) (hm : mutD x ob ds env S = some ob') (hp : putOb d ob' env S = some p) (hq : ∀ H', (Ext M0 H0 M H' → RelS ca M p.2 H' → RelE ca M p.1 σ H' → Q .non H')) :
    ∃ a ho, v = .ref a ∧ H a = some ho ∧ ObR ca M ho ob ∧ ∀ ho', ObR ca M ho' ob' → Q .non (upd H a ho') := by
  obtain ⟨⟨xs, rfl⟩, ys, rfl⟩ := mutD_lst hm
  obtain ⟨a, ho, rfl, ha, q, k⟩ := place_put e0 h0 rs re rx hc hp (fun c fs vs z => nomatch z)
  exact ⟨a, ho, rfl, ha, q, fun ho' q' => hq _ (k ho' q').1 (k ho' q').2.1 (k ho' q').2.2⟩
theorem mut_append : MutOk ca X .append "list.append" := by
  intro pins s σ H v vs u us Q I rv r h
  obtain ⟨M0, H0, σ0, M, env, S, d, ds, e0, h0, rs, re, rx, rds, ob, ob', p, hc, hm, hp, hq⟩ := h
  obtain ⟨a, ho, rfl, ha, q, k⟩ := mut_core e0 h0 rs re rx hc hm hp hq
  obtain ⟨⟨xs, rfl⟩, ys, rfl⟩ := mutD_lst hm
  cases q with
  | lst q =>
    cases rds with
    | nil => cases hm
    | cons r1 r2 =>
      cases r2 with
      | cons _ _ => cases hm
      | nil =>
        simp only [mutD] at hm
        split at hm
        · rename_i hz
          cases hm
          exact mt_append pins s σ H _ _ u us Q I rv r ⟨a, _, _, rfl, rfl, ha, by rw [q.length]; exact hz, k _ (.lst (q.append (.cons r1 .nil)))⟩
        · cases hm
theorem mut_reverse : MutOk ca X .reverse "list.reverse" := by
  intro pins s σ H v vs u us Q I rv r h
  obtain ⟨M0, H0, σ0, M, env, S, d, ds, e0, h0, rs, re, rx, rds, ob, ob', p, hc, hm, hp, hq⟩ := h
  obtain ⟨a, ho, rfl, ha, q, k⟩ := mut_core e0 h0 rs re rx hc hm hp hq
  obtain ⟨⟨xs, rfl⟩, ys, rfl⟩ := mutD_lst hm
  cases q with
  | lst q =>
    cases rds with
    | cons _ _ => cases hm
    | nil =>
      cases hm
      exact mt_reverse pins s σ H _ _ u us Q I rv r ⟨a, _, rfl, rfl, ha, k _ (.lst q.reverse)⟩
theorem mut_clear : MutOk ca X .clear "list.clear" := by
  intro pins s σ H v vs u us Q I rv r h
  obtain ⟨M0, H0, σ0, M, env, S, d, ds, e0, h0, rs, re, rx, rds, ob, ob', p, hc, hm, hp, hq⟩ := h
  obtain ⟨a, ho, rfl, ha, q, k⟩ := mut_core e0 h0 rs re rx hc hm hp hq
  obtain ⟨⟨xs, rfl⟩, ys, rfl⟩ := mutD_lst hm
  cases q with
  | lst q =>
    cases rds with
    | cons _ _ => cases hm
    | nil =>
      cases hm
      exact mt_clear pins s σ H _ _ u us Q I rv r ⟨a, _, rfl, rfl, ha, k _ (.lst .nil)⟩
theorem mut_extend : MutOk ca X .extend "list.extend" := by
  intro pins s σ H v vs u us Q I rv r h
  obtain ⟨M0, H0, σ0, M, env, S, d, ds, e0, h0, rs, re, rx, rds, ob, ob', p, hc, hm, hp, hq⟩ := h
  obtain ⟨a, ho, rfl, ha, q, k⟩ := mut_core e0 h0 rs re rx hc hm hp hq
  obtain ⟨⟨xs, rfl⟩, ys, rfl⟩ := mutD_lst hm
  cases q with
  | lst q =>
    cases rds with
    | nil => cases hm
    | cons r1 r2 =>
      cases r2 with
      | cons _ _ => cases hm
      | nil =>
        simp only [mutD] at hm
        split at hm
        · rename_i zs hz
          split at hm
          · rename_i hl
            cases hm
            obtain ⟨b, ws, rfl, hb, qb⟩ := lst_at rs re (RepX.of r1) hz
            exact mt_extend pins s σ H _ _ u us Q I rv r ⟨a, b, _, ws, rfl, rfl, ha, hb, by rw [q.length, qb.length]; exact hl, k _ (.lst (q.append qb))⟩
          · cases hm
        · cases hm
/-- o.m(..) as a statement -/
structure MutF (ca : Nat → Addr) (X : Cx) (x : Mt) (name : Str) : Prop where
  ls : (match x with | .join => "str" | .partition => "str" | .replace => "str" | .split => "str" | .upper => "str" | .get => "dict" | .items => "dict" | .update => "dict" | .values => "dict" | _ => "list") = "list"
  ex : ∃ (id : String), PySem.Slot "list" name id ∧ typeOf (.builtin id) = pure (.type "method_descriptor") ∧ MutOk ca X x id
theorem mutF_append : MutF ca X .append "append" := ⟨rfl, "list.append", PySem.F.slot_list_append, PySem.F.type_list_append, mut_append⟩
theorem mutF_reverse : MutF ca X .reverse "reverse" := ⟨rfl, "list.reverse", PySem.F.slot_list_reverse, PySem.F.type_list_reverse, mut_reverse⟩
theorem mutF_clear : MutF ca X .clear "clear" := ⟨rfl, "list.clear", PySem.F.slot_list_clear, PySem.F.type_list_clear, mut_clear⟩
theorem mutF_extend : MutF ca X .extend "extend" := ⟨rfl, "list.extend", PySem.F.slot_list_extend, PySem.F.type_list_extend, mut_extend⟩
theorem repXL_repL {M : Mem} {σ : L2.St} : ∀ {vs : List V} {ds : List D}, RepXL ca M σ vs ds → ds.any D.isAcc = false → RepL ca M vs ds
  | _, _, .nil, _ => .nil
  | _, _, .cons r t, h => by
    rw [List.any_cons, Bool.or_eq_false_iff] at h
    exact .cons (r.rep h.1) (repXL_repL t h.2)
theorem rd_mut {m : Mt} {x : Ex} {xs : Exs} {E : Ends} {σ : L2.St} {H : Hp} {K : PySem.W.Frag} (hl : (match m with | .join => "str" | .partition => "str" | .replace => "str" | .split => "str" | .upper => "str" | .get => "dict" | .items => "dict" | .update => "dict" | .values => "dict" | _ => "list") = "list")
    (h : tS ca W M0 H0 (exS C (.mut m x xs)) E σ H) : tDrop (tBM X.K "list" (rMut ca m) (tM ca W (ev C x)) (tAR ca W (evl C xs))) E σ H := by
  obtain ⟨M, env, S, e0, h0, rs, re, o⟩ := h
  simp only [exS] at o
  refine ⟨M, env, S, rs, re, o.bind e0 re fun d S1 v M1 H1 e1 rs1 re1 rx1 e01 o1 => ?_⟩
  obtain ⟨h1, o2⟩ := outS_chk o1
  refine ⟨tyV_mt hl.symm rs1 re1 rx1 h1, M1, env, S1, rs1, re1, o2.bindL (rel := fun M => RepXL ca M σ) e01 re1 fun ds S2 vs M2 H2 e2 rs2 re2 rx2 e02 o3 => ?_⟩
  cases ha : ds.any D.isAcc with
  | true => rw [ha] at o3; exact o3.elim
  | false =>
    rw [ha] at o3
    obtain ⟨ob, k1, o4⟩ := outS_oget o3
    obtain ⟨ob', k2, o5⟩ := outS_oget o4
    obtain ⟨p, k3, o6⟩ := outS_oget o5
    exact ⟨M0, H0, σ, M2, env, S2, d, ds, e02, h0, rs2, re2, rx1.ext e2, repXL_repL rx2 ha, ob, ob', p, k1, k2, k3, fun H' a b c => outS_nx o6 a b c⟩
theorem sndS_mut {m : Mt} {o e : Expr} {name : Str} {apos p2 : Pos} {es : List Expr} {x : Ex} {xs : Exs} (F : MutF ca X m name) (hb : okBase o = true) (hs : (e :: es).any isStar = false) (hl : (e :: es).length < 30) (hp : (apos.endLine == p2.line) = true)
    (he : PE X o (tM ca W (ev C x))) (ha : PA X (e :: es) (tAR ca W (evl C xs))) : PS X (.Expr (.Call (.Attribute o name apos) (e :: es) [] p2) pos) (tS ca W M0 H0 (exS C (.mut m x xs))) := by
  obtain ⟨id, slot, hty, hm⟩ := F.ex
  have hs' := hs
  rw [List.any_cons, Bool.or_eq_false_iff] at hs'
  exact PS.imp (ps_expr (pe_bm PySem.F.plainAttrs_list slot hty hm he ha (okBase_eq hb _ _ _) (form_of hs hl) hp (star_cons hs'.1) (no_star hs'.2))) fun E σ H h => rd_mut (K := X.K) F.ls h
theorem sndS_mut0 {m : Mt} {o : Expr} {name : Str} {apos p2 : Pos} {x : Ex} (F : MutF ca X m name) (hb : okBase o = true) (hp : (apos.endLine == p2.line) = true)
    (he : PE X o (tM ca W (ev C x))) : PS X (.Expr (.Call (.Attribute o name apos) [] [] p2) pos) (tS ca W M0 H0 (exS C (.mut m x .nil))) := by
  obtain ⟨id, slot, hty, hm⟩ := F.ex
  refine PS.imp (ps_expr (pe_bm0 PySem.F.plainAttrs_list slot hty hm he (okBase_eq hb _ _ _) hp)) fun E σ H h => ?_
  obtain ⟨M, env, S, e0, h0, rs, re, o⟩ := h
  simp only [exS, evl, R.bind] at o
  refine ⟨M, env, S, rs, re, o.bind e0 re fun d S1 v M1 H1 e1 rs1 re1 rx1 e01 o1 => ?_⟩
  obtain ⟨h1, o2⟩ := outS_chk o1
  refine ⟨tyV_mt F.ls.symm rs1 re1 rx1 h1, ?_⟩
  simp only [List.any_nil, Bool.false_eq_true, if_false] at o2
  obtain ⟨ob, k1, o4⟩ := outS_oget o2
  obtain ⟨ob', k2, o5⟩ := outS_oget o4
  obtain ⟨p, k3, o6⟩ := outS_oget o5
  exact ⟨M0, H0, σ, M1, env, S1, d, [], e01, h0, rs1, re1, rx1, .nil, ob, ob', p, k1, k2, k3, fun H' a b c => outS_nx o6 a b c⟩
end K9
end
section
set_option Elab.async false
set_option linter.all false
set_option maxRecDepth 100000
set_option maxHeartbeats 0
/-! K9Stm3: stores into objects; loops. -/
namespace K9
open PySem PySem.Spec PyProof.Rows L2

variable {ca fa : Nat → Addr} {W : WX} {C : Ctx} {X : Cx} {pos : Pos} {M0 : Mem} {H0 : Hp}
/-! ### o[i] = v -/
def rSet (ca : Nat → Addr) : TSet := fun o i v H Q => ∃ M0 H0 σ0 M env S d k u, Ext M0 H0 M H ∧ M0.H0 = H0 ∧ RelS ca M S H ∧ RelE ca M env σ0 H ∧ RepX ca M σ0 o d ∧ RepX ca M σ0 i k ∧ Rep ca M v u ∧
  ∃ ob ob' p, cont env S d = some ob ∧ setD ob k u = some ob' ∧ putOb d ob' env S = some p ∧ ∀ H', (Ext M0 H0 M H' → RelS ca M p.2 H' → RelE ca M p.1 σ0 H' → Q H')
theorem putD_of {M : Mem} {k : L2.Key} {v : V} {u : D} (rv : Rep ca M v u) : ∀ {kvs : List (L2.Key × V)} {vs : List D}, RepL ca M (kvs.map (·.2)) vs →
    (putK kvs k v).map (·.1) = (putD (kvs.map (·.1)) vs k u).1 ∧ RepL ca M ((putK kvs k v).map (·.2)) (putD (kvs.map (·.1)) vs k u).2 := by
  have sw : ∀ {kvs : List (L2.Key × V)} {vs : List D}, RepL ca M (kvs.map (·.2)) vs → RepL ca M ((kvs.map fun kv => if kv.1 = k then (kv.1, v) else kv).map (·.2)) (swapD k u (kvs.map (·.1)) vs) := by
    intro kvs
    induction kvs with
    | nil =>
      intro vs r
      cases r
      exact .nil
    | cons p kvs ih =>
      intro vs r
      rw [List.map_cons] at r
      cases r with
      | cons r1 r2 =>
        show RepL ca M ((if p.1 = k then (p.1, v) else p).2 :: _) ((if p.1 = k then u else _) :: _)
        refine .cons ?_ (ih r2)
        by_cases e : p.1 = k
        · rw [if_pos e, if_pos e]; exact rv
        · rw [if_neg e, if_neg e]; exact r1
  intro kvs vs r
  have hk : hasKey (kvs.map (·.1)) k = kvs.any fun kv => decide (kv.1 = k) := by
    unfold hasKey
    rw [List.any_map]; rfl
  unfold putK putD
  rw [hk]
  by_cases h : (kvs.any fun kv => decide (kv.1 = k)) = true
  · rw [if_pos h, if_pos h]
    refine ⟨?_, sw r⟩
    rw [List.map_map]
    refine List.map_congr_left fun p _ => ?_
    show (if p.1 = k then (p.1, v) else p).1 = p.1
    split <;> rfl
  · rw [if_neg h, if_neg h]
    refine ⟨by rw [List.map_append]; rfl, ?_⟩
    rw [List.map_append]
    exact r.append (.cons rv .nil)
theorem set_d (hu : X.A.units + 1 < cLine) : PSet X (rSet ca) := by
  intro pins s σ H o i v ov iv u Q I ro ri rv h
  obtain ⟨M0, H0, σ0, M, env, S, d, k, w, e0, h0, rs, re, rd, rk, rw', ob, ob', p, hc, hs, hp, hq⟩ := h
  cases ob with
  | lst xs =>
    cases k with
    | int n =>
      simp only [setD] at hs
      cases hj : ixN xs.length n with
      | none => rw [hj] at hs; cases hs
      | some j =>
        rw [hj] at hs
        cases hs
        obtain ⟨a, ho, rfl, ha, q, k⟩ := place_put e0 h0 rs re rd hc hp (fun c fs vs z => nomatch z)
        obtain rfl := int_of rk
        cases q with
        | lst q =>
          refine set_list pins s σ H _ _ v ov iv u Q I ro ri rv ⟨a, _, n, j, rfl, rfl, ha, by rw [q.length]; exact hj, ?_⟩
          have z := k _ (.lst (q.set rw' j))
          exact hq _ z.1 z.2.1 z.2.2
    | _ => cases hs
  | dct ks vs =>
    have hs' : (match keyOf k with | some k => if ks.length < sizeLine then some (Ob.dct (putD ks vs k w).1 (putD ks vs k w).2) else none | none => none : Option Ob) = some ob' := by
      unfold setD at hs
      exact hs
    cases hk : keyOf k with
    | none => rw [hk] at hs'; cases hs'
    | some kk =>
      rw [hk] at hs'
      simp only at hs'
      split at hs'
      · rename_i hz
        cases hs'
        obtain ⟨a, ho, rfl, ha, q, kf⟩ := place_put e0 h0 rs re rd hc hp (fun c fs vs z => nomatch z)
        have hi : i = kV kk := by
          cases k with
          | int n => cases hk; exact int_of rk
          | str n => cases hk; exact str_of rk
          | _ => cases hk
        subst hi
        cases q with
        | dct e q =>
          rename_i kvs
          subst e
          obtain ⟨g1, g2⟩ := putD_of (k := kk) rw' q
          have z := kf (.dK (putK kvs kk v)) (.dct g1 g2)
          exact set_dict hu pins s σ H _ _ v ov iv u Q I ro ri rv ⟨a, _, rfl, .inl ⟨kvs, kk, ha, rfl, by simpa using hz, rfl⟩, hq _ z.1 z.2.1 z.2.2⟩
      · cases hs'
  | ins c fs vs => cases hs
theorem sndS_setix {o i e : Expr} {x y z : Ex} {p2 : Pos} (hu : X.A.units + 1 < cLine) (hi0 : isSlice i = false) (hne : isComp e = false) (ho : PE X o (tM ca W (ev C x))) (hi : PE X i (tM ca W (ev C y))) (he : PE X e (tM ca W (ev C z))) :
    PS X (.Assign [.Subscript o i p2] e pos) (tS ca W M0 H0 (exS C (.setix x y z))) := by
  refine PS.imp (ps_asg he (pg_sub ho hi (set_d (ca := ca) hu) (by intro v; cases i <;> first | rfl | cases hi0)) (by cases e <;> first | rfl | cases hne) (by cases e <;> rfl) (by rfl)) fun E σ H ⟨M, env, S, e0, h0, rs, re, o⟩ => ?_
  simp only [exS] at o
  refine ⟨M, env, S, rs, re, o.bind e0 re fun u S1 v M1 H1 e1 rs1 re1 rx1 e01 o1 => ?_⟩
  cases hu : u.isAcc with
  | true => rw [hu] at o1; exact o1.elim
  | false =>
    rw [hu] at o1
    simp only [Bool.false_eq_true, if_false] at o1
    refine ⟨M1, env, S1, rs1, re1, o1.bind e01 re1 fun d S2 ov M2 H2 e2 rs2 re2 rx2 e02 o2 => ⟨M2, env, S2, rs2, re2, o2.bind e02 re2 fun k S3 iv M3 H3 e3 rs3 re3 rx3 e03 o3 => ?_⟩⟩
    obtain ⟨ob, k1, o4⟩ := outS_oget o3
    obtain ⟨ob', k2, o5⟩ := outS_oget o4
    obtain ⟨p, k3, o6⟩ := outS_oget o5
    exact ⟨M0, H0, σ, M3, env, S3, d, k, u, e03, h0, rs3, re3, rx2.ext e3, rx3, e3.rep (e2.rep (rx1.rep hu)), ob, ob', p, k1, k2, k3, fun H' a b c => outS_nx o6 a b c⟩

/-! ### for -/
theorem ExtM.obr {M M' : Mem} {ho : HO} {ob : Ob} (e : ExtM M M') (r : ObR ca M ho ob) : ObR ca M' ho ob := r.mono e.F e.mu e.h0
theorem sndS_for {tg iter : Expr} {body : List Stmt} {is : List Nat} {it : It} {xs : Sms} (hp : PassesOwn (model X.prog X.w) X.A X.env X.xe) (hc : X.calm = true) (hi : PI X tg iter (tI ca W (evIt C it))) (hg : PG X tg (gD X.K is)) (hb : PSs X body (tS ca W M0 H0 (exSs C xs)))
    (hs : ∀ x, foldedSetIterable iter X.env x = pure x) : PS X (.For tg iter body [] pos) (tS ca W M0 H0 (exS C (.for_ is it xs))) := by
  refine PS.imp (ps_for hp hc hi hg hb hs) fun E σ H ⟨M, env, S, e0, h0, rs, re, o⟩ => ?_
  simp only [exS] at o
  refine ⟨M, env, S, rs, re, ?_⟩
  cases hit : evIt C it env S with
  | bad => rw [hit] at o; exact o.elim
  | er c d S' =>
    rw [hit] at o
    exact fun cls dd M' H' e rs ex hd => o cls dd σ M' H' e.m (e0.trans e) rs ex (e0.none hd)
  | ok p S1 =>
    rw [hit] at o
    intro J M1 H1 ow e1 rs1 wk hacc hown
    have o1 : OutS ca W M0 H0 M (if p.acc then .bad else forGo (exSs C xs) is p.live p.xs env S1) E := o
    cases hpa : p.acc with
    | true => rw [hpa] at o1; exact o1.elim
    | false =>
      rw [hpa] at o1
      simp only [Bool.false_eq_true, if_false] at o1
      have how := hacc hpa
      subst how
      refine ⟨fun i m σ' H' => m = p.xs.length - i ∧ ∃ M' S' env', ExtM M1 M' ∧ Ext M0 H0 M' H' ∧ RelS ca M' S' H' ∧ RelE ca M' env' σ' H' ∧ i ≤ p.xs.length ∧ OutS ca W M0 H0 M' (forGo (exSs C xs) is p.live (p.xs.drop i) env' S') E,
        ⟨p.xs.length, rfl, M1, S1, env, ExtM.refl, e0.trans e1, rs1, re.ext e1, Nat.zero_le _, o1.ext e1.m⟩, ?_⟩
      rintro i m σ2 H2 ⟨rfl, M2, S2, env2, em, e02, rs2, re2, hle, o2⟩
      cases hx : p.xs.drop i with
      | nil =>
        rw [hx] at o2
        have hl : p.xs.length ≤ i := by
          have := congrArg List.length hx
          rw [List.length_drop, List.length_nil] at this; omega
        simp only [forGo] at o2
        cases hc : chkLive S2 p.live (R.ok (Fl.nx env2) S2) with
        | bad => rw [hc] at o2; exact o2.elim
        | er c' d S' =>
          obtain ⟨_, z⟩ := live_chk hc (fun z => nomatch z)
          cases z
        | ok f S' =>
          obtain ⟨hlv, z⟩ := live_chk hc (fun z => nomatch z)
          cases z
          rw [hc] at o2
          exact .inl ⟨(wk M2 H2 S2 i em rs2 hlv (fun q hq => by cases hq)).1 hl, outS_nx o2 e02 rs2 re2⟩
      | cons d rest =>
        rw [hx] at o2
        have hdi : p.xs[i]? = some d := by
          have := congrArg (·[0]?) hx
          simpa [List.getElem?_drop] using this
        have hrest : p.xs.drop (i + 1) = rest := by
          rw [← List.tail_drop, hx]; rfl
        have hlt : i < p.xs.length := (List.getElem?_eq_some_iff.mp hdi).1
        simp only [forGo] at o2
        have live : Live S2 p.live ∧ OutS ca W M0 H0 M2 (oget (asgT is d env2) fun e => (exSs C xs e S2).bind fun f S1 => match f with
            | .nx e1 => forGo (exSs C xs) is p.live rest e1 S1
            | .ct e1 => forGo (exSs C xs) is p.live rest e1 S1
            | .rt d => .ok (.rt d) S1) E := by
          generalize hr : (oget (asgT is d env2) fun e => (exSs C xs e S2).bind fun f S1 => match f with
            | .nx e1 => forGo (exSs C xs) is p.live rest e1 S1
            | .ct e1 => forGo (exSs C xs) is p.live rest e1 S1
            | .rt d => .ok (.rt d) S1) = r at o2 ⊢
          by_cases hbad : chkLive S2 p.live r = .bad
          · rw [hbad] at o2; exact o2.elim
          · obtain ⟨a, b⟩ := live_chk (rfl : chkLive S2 p.live r = chkLive S2 p.live r) hbad
            rw [b]; exact ⟨a, o2⟩
        obtain ⟨hlv, o3⟩ := live
        obtain ⟨hgo, hy⟩ := (wk M2 H2 S2 i em rs2 hlv (fun q hq => by cases hq)).2 d hdi
        obtain ⟨e, ha, o4⟩ := outS_oget o3
        refine .inr ⟨hgo, fun σ' H' => ∃ M' S' env', ExtM M1 M' ∧ Ext M0 H0 M' H' ∧ RelS ca M' S' H' ∧ RelE ca M' env' σ' H' ∧ OutS ca W M0 H0 M' (forGo (exSs C xs) is p.live rest env' S') E, fun σ' H' ⟨M', S', env', a1, a2, a3, a4, a5⟩ => ⟨p.xs.length - (i + 1), by omega, rfl, M', S', env', a1, a2, a3, a4, hlt, by rw [hrest]; exact a5⟩, fun x H3 hyl => ?_⟩
        obtain ⟨M3, e3, rs3, rx⟩ := hy x H3 hyl
        refine gD_ok (ca := ca) (K := X.K) rs3 (re2.ext e3) (RepX.of rx) ha fun σ4 re4 _ => ⟨M3, e, S2, e02.trans e3, h0, rs3, re4, ?_⟩
        have em3 := em.trans e3.m
        have o5 := OutS.ext o4 e3.m
        cases hbd : exSs C xs e S2 with
        | bad => rw [hbd] at o5; exact o5.elim
        | er c' d' S' => rw [hbd] at o5; exact o5
        | ok f S' =>
          rw [hbd] at o5
          cases f with
          | nx e1 => exact fun σ' M' H' x1 x2 rs' re' => ⟨M', S', e1, em3.trans x1, x2, rs', re', OutS.ext (r := forGo (exSs C xs) is p.live rest e1 S') o5 x1⟩
          | ct e1 => exact fun σ' M' H' x1 x2 rs' re' => ⟨M', S', e1, em3.trans x1, x2, rs', re', OutS.ext (r := forGo (exSs C xs) is p.live rest e1 S') o5 x1⟩
          | rt d' => exact o5
end K9
end
section
set_option Elab.async false
set_option linter.all false
set_option maxRecDepth 100000
set_option maxHeartbeats 0
/-! K9Main: what is the own syntax is run as the evaluator says: expressions. -/
namespace K9
open PySem PySem.Spec PyProof.Rows L2

/-- an error class and its maker -/
def ErrT (ca : Nat → Addr) (P : Program) (w : World) (K : PySem.W.Frag) (mg : Str → Option Value) (base : Heap) (C : Ctx) (c : Nat) : Prop :=
  ∃ (fI : Addr) (fdI : FuncData), ExcT K (ca c) fI ∧ FnOk P w K mg base CX0 1 fI fdI (["self", "value"] : List Str) (spEI K) ∧
    (∀ (s : Shared) (self u : Value), K.In s.heap → BindsTo s fdI ⟨[self, u], []⟩ ((["self", "value"] : List Str).zip [self, u])) ∧
    (∀ (s : Shared) (self u : Value), K.In s.heap → BindsTo s fdI ⟨[self], [(("value" : Str), u)]⟩ ((["self", "value"] : List Str).zip [self, u])) ∧
    C.make c = fun ds S => match ds with | [d] => .ok (.exc c d) S | _ => .bad
/-- a plain class and its maker -/
def ClsT (ca : Nat → Addr) (P : Program) (w : World) (K : PySem.W.Frag) (mg : Str → Option Value) (base : Heap) (k : Nat) (C : Ctx) (c : Nat) : Prop :=
  ∃ (f : Addr) (fd : FuncData) (ps : List Str), Mk K (ca c) f ∧ FnG P w K mg base k f fd ps (spMk ca c (C.make c)) ∧ Binds K fd ps [] ∧ ∀ ds S d S', C.make c ds S = .ok d S' → ∃ e, d = .own e
/-- what is known of the module -/
structure ModOk (ca fa : Nat → Addr) (P : Program) (w : World) (K : PySem.W.Frag) (mg : Str → Option Value) (base : Heap) (k : Nat) (C : Ctx) (g : GT) : Prop where
  kf : KF K ca C.sub
  ka : KA K ca fa C.attr C.meth
  fns : ∀ x f, g.fns.lookup x = some f → mg x = some (.ref (fa f)) ∧ PySem.W.keepIn K (.ref (fa f)) = true ∧ FnT ca fa P w K mg base k C.call f
  cls : ∀ x c, g.cls.lookup x = some c → mg x = some (.ref (ca c)) ∧ PySem.W.keepIn K (.ref (ca c)) = true ∧ ((g.errs.contains c = true ∧ ErrT ca P w K mg base C c) ∨ (g.errs.contains c = false ∧ ClsT ca P w K mg base k C c))
  gS : ∀ x s, g.gS.lookup x = some s → ∃ u, mg x = some u ∧ RelV (.str s) u
  gI : ∀ x i, g.gI.lookup x = some i → ∃ u, mg x = some u ∧ RelV (.int i) u
  bl : ∀ x, g.bl.contains x = true → mg x = none
  prop : ∀ c f n, C.attr c f = some (some n) → FnT ca fa P w K mg base k C.call n
  meth : ∀ c x n, C.meth c x = some n → FnT ca fa P w K mg base k C.call n
/-- what is known of a body's context -/
structure XOk (ca fa : Nat → Addr) (C : Ctx) (W : WX) (t : TC) (k : Nat) (X : Cx) : Prop where
  mod : ModOk ca fa X.prog X.w X.K X.mg X.base k C t.g
  N : X.N = t.N
  nd : X.N.Nodup
  sc : X.env.scope = t.sc
  loc : ∀ x, (t.sc0.names.lookup x = some .local ∨ t.sc0.names.lookup x = some .cell) → Loc X.env.scope x ∧ (X.fn x = true ∨ X.env.scope.names.lookup x = some .local)
  calm : X.calm = true
  gd : X.A.guards = some []
  rm : Room (k + 2) X.A
  tk : Takes X W

variable {ca fa : Nat → Addr} {W : WX} {C : Ctx} {X : Cx} {pos : Pos} {t : TC} {k : Nat}
theorem XOk.hu (h : XOk ca fa C W t k X) : X.A.units + 65 < cLine := by have := h.rm.un; omega
theorem XOk.hu1 (h : XOk ca fa C W t k X) : X.A.units + 1 < cLine := by have := h.rm.un; omega
theorem andB {a b : Bool} : (a && b) = true ↔ a = true ∧ b = true := Bool.and_eq_true_iff
theorem notB {a : Bool} : (!a) = true ↔ a = false := by cases a <;> simp
theorem XOk.glb (h : XOk ca fa C W t k X) {x : Str} (g : t.glb x = true) : Gl X x ∧ (x == ("__debug__" : Str)) = false ∧ x ≠ "__name__" := by
  unfold TC.glb at g
  rw [andB, andB] at g
  obtain ⟨⟨g1, g2⟩, g3⟩ := g
  refine ⟨?_, by simpa [bne] using g2, fun z => by subst z; simp [bne] at g3⟩
  show X.env.scope.names.lookup x = _
  rw [h.sc]
  exact eq_of_beq g1
theorem XOk.blt (h : XOk ca fa C W t k X) {x : Str} (g : t.blt x = true) : Gl X x ∧ (x == ("__debug__" : Str)) = false ∧ x ≠ "__name__" ∧ X.mg x = none := by
  unfold TC.blt at g
  rw [andB] at g
  obtain ⟨a, b, c⟩ := h.glb g.1
  exact ⟨a, b, c, h.mod.bl x g.2⟩
theorem XOk.vis (h : XOk ca fa C W t k X) {i : Nat} {x : Str} (g : t.slot i x = true) : X.N[i]? = some x ∧ Vis X.env.scope x ∧ (x == ("__debug__" : Str)) = false ∧ (x == ("__classdict__" : Str)) = false := by
  unfold TC.slot TC.vis at g
  rw [andB, andB, andB] at g
  obtain ⟨g1, ⟨g2, g3⟩, g4⟩ := g
  refine ⟨by rw [h.N]; exact eq_of_beq g1, ?_, by simpa [bne] using g3, by simpa [bne] using g4⟩
  rw [h.sc]
  rw [Bool.or_eq_true, Bool.or_eq_true] at g2
  rcases g2 with (g2 | g2) | g2
  · exact .inl (eq_of_beq g2)
  · exact .inr (.inl (eq_of_beq g2))
  · exact .inr (.inr (eq_of_beq g2))
theorem XOk.lcl (h : XOk ca fa C W t k X) {i : Nat} {x : Str} (g : t.loc i x = true) : X.N[i]? = some x ∧ Loc X.env.scope x ∧ (X.fn x = true ∨ X.env.scope.names.lookup x = some .local) := by
  unfold TC.loc at g
  rw [andB, Bool.or_eq_true] at g
  obtain ⟨g1, g2⟩ := g
  exact ⟨by rw [h.N]; exact eq_of_beq g1, h.loc x (g2.elim (fun z => .inl (eq_of_beq z)) fun z => .inr (eq_of_beq z))⟩
/-- a def of the module, called -/
theorem XOk.run (h : XOk ca fa C W t k X) {f : Nat} (T : FnT ca fa X.prog X.w X.K X.mg X.base k C.call f) : RunsP ca W X (.ref (fa f)) (C.call f) := by
  obtain ⟨fd, ps, F, hb⟩ := T
  exact runsP_fn F h.gd (h.rm.mono (by omega)) h.tk hb
theorem XOk.mkr (h : XOk ca fa C W t k X) {c : Nat} (T : (t.g.errs.contains c = true ∧ ErrT ca X.prog X.w X.K X.mg X.base C c) ∨ (t.g.errs.contains c = false ∧ ClsT ca X.prog X.w X.K X.mg X.base k C c)) : RunsP ca W X (.ref (ca c)) (C.make c) := by
  rcases T with ⟨_, fI, fdI, T, F1, b1, b2, e⟩ | ⟨_, f, fd, ps, Mc, F, hb, ho⟩
  · rw [e]
    exact runsP_exc T F1 (h.rm.mono (by omega)) b1
  · exact runsP_mk Mc F h.gd (h.rm.mono (by omega)) h.tk hb ho

/-- an expression, in its three ways -/
structure P3 (ca : Nat → Addr) (W : WX) (C : Ctx) (X : Cx) (x : Ex) (e : Expr) : Prop where
  pe : PE X e (tM ca W (ev C x))
  pt : PT X e (tMT ca W (ev C x))
theorem P3.of {x : Ex} {e : Expr} (he : PE X e (tM ca W (ev C x))) (h : ∀ whole, isTrue e X.env whole = (do let v ← whole; standAt e.pos; holding [v] (truthy v))) : P3 ca W C X x e := ⟨he, sndT_val he h⟩
theorem PT.bool {op : BoolOp} {vs : List Expr} {t : TT} (h : PW X (.BoolOp op vs pos) t) : PT X (.BoolOp op vs pos) t := ⟨fun pins s σ H Q I z => h.run _ pins s σ H Q I z⟩
theorem PW.of {op : BoolOp} {vs : List Expr} {t : TT} (h : PT X (.BoolOp op vs pos) t) : PW X (.BoolOp op vs pos) t := ⟨fun wh pins s σ H Q I z => h.run pins s σ H Q I z⟩
theorem sndT_ite {c l r : Expr} {x y z : Ex} (hc : PT X c (tMT ca W (ev C x))) (hl : PT X l (tMT ca W (ev C y))) (hr : PT X r (tMT ca W (ev C z))) : PT X (.IfExp c l r pos) (tMT ca W (ev C (.ite x y z))) := by
  refine ⟨fun pins s σ H Q I h => ?_⟩
  obtain ⟨M, env, S, rs, re, o⟩ := h
  simp only [ev] at o
  refine isTrue_IfExp (thn (hc.run pins s σ H (fun b H1 => if b = true then tMT ca W (ev C y) σ H1 Q else tMT ca W (ev C z) σ H1 Q) I ⟨M, env, S, rs, re, o.bind re fun d S1 v M1 H1 _ e1 rs1 re1 rx1 o1 => ?_⟩) fun b s1 ⟨H1, I1, q⟩ => ?_)
  · obtain ⟨b, rfl, rfl, o2⟩ := bl_only rx1 o1
    refine ⟨b, rfl, ?_⟩
    cases b with
    | true => exact iteT ⟨M1, env, S1, rs1, re1, o2⟩
    | false => exact iteF ⟨M1, env, S1, rs1, re1, o2⟩
  · cases b with
    | true => exact hl.run pins s1 σ H1 Q I1 (by simpa using q)
    | false => exact hr.run pins s1 σ H1 Q I1 (by simpa using q)
/-- the context of a comprehension's block -/
theorem XOk.blk (h : XOk ca fa C W t k X) (s : Shared) (H : Hp) (scope : Scope) (cc : Addr) (cl : List (Str × Addr)) (fp : List Addr) : XOk ca fa C WF (t.inner scope) k (X.blk s H scope (compEnvC scope cl cc X.env) fp) := by
  have hsc : (compEnvC scope cl cc X.env).scope = relS scope X.env.scope := rfl
  refine ⟨h.mod, h.N, h.nd, ?_, fun x hx => ?_, h.calm, h.gd, h.rm, fun u s' z => ?_⟩
  · show (compEnvC scope cl cc X.env).scope = relB scope t.sc
    rw [hsc, h.sc]; rfl
  · have key : ∀ kd, kd ≠ NameKind.free → scope.names.lookup x = some kd → (relS scope X.env.scope).names.lookup x = some kd := fun kd hk hl => lookup_relS_keep hk hl
    rcases hx with hx | hx
    · exact ⟨.inl (key _ (by decide) hx), .inr (key _ (by decide) hx)⟩
    · refine ⟨.inr (key _ (by decide) hx), .inl ?_⟩
      show (scope.names.lookup x == some .cell) = true
      rw [show scope.names.lookup x = some NameKind.cell from hx]; rfl
  · obtain ⟨_, _, _, _, _, _, _, _, _, _, _, _, _, _, _, _, w⟩ := z
    exact w
end K9
end
section
set_option Elab.async false
set_option linter.all false
set_option maxRecDepth 100000
set_option maxHeartbeats 0
/-! K9Main2: the cases of expressions. -/
namespace K9
open PySem PySem.Spec PyProof.Rows L2
section
variable (ca fa : Nat → Addr) (C : Ctx)
def GoalE (x : Ex) : Prop := ∀ (W : WX) (t : TC) (k : Nat) (X : Cx) (e : Expr), XOk ca fa C W t k X → mat t x e = true → P3 ca W C X x e
def GoalEs (xs : Exs) : Prop := ∀ (W : WX) (t : TC) (k : Nat) (X : Cx) (es : List Expr), XOk ca fa C W t k X → mats t xs es = true → PA X es (tAK ca W (evs C xs)) ∧ (es.any isStar = false → PA X es (tAR ca W (evl C xs)))
def GoalIt (it : It) : Prop := ∀ (W : WX) (t : TC) (k : Nat) (X : Cx) (tg e : Expr), XOk ca fa C W t k X → matIt t it e = true → (isTup tg || !(needTup it)) = true → PI X tg e (tI ca W (evIt C it))
end
variable {ca fa : Nat → Addr} {C : Ctx}
theorem c_bin {op : Bop} {a b : Ex} (ha : GoalE ca fa C a) (hb : GoalE ca fa C b) : GoalE ca fa C (.bin op a b) := by
  intro W t k X e h m
  cases e with
  | BinOp l o r pos =>
    have m : (bopOf o == some op && mat t a l && mat t b r) = true := m
    rw [andB, andB] at m
    exact P3.of (snd_bin (eq_of_beq m.1.1) (ha _ _ _ _ _ h m.1.2).pe (hb _ _ _ _ _ h m.2).pe) (fun _ => rfl)
  | _ => exact absurd (show false = true from m) (by decide)

theorem c_non : GoalE ca fa C .non := by
  intro W t k X e h m
  cases e with
  | Constant c kk pos =>
    cases c with
    | none => exact P3.of snd_non (fun _ => rfl)
    | _ => exact absurd (show false = true from m) (by decide)
  | _ => exact absurd (show false = true from m) (by decide)
theorem c_bl {b : Bool} : GoalE ca fa C (.bl b) := by
  intro W t k X e h m
  cases e with
  | Constant c kk pos =>
    cases c with
    | bool d =>
      have m : (b == d) = true := m
      obtain rfl := eq_of_beq m
      exact P3.of snd_bl (fun _ => rfl)
    | _ => exact absurd (show false = true from m) (by decide)
  | _ => exact absurd (show false = true from m) (by decide)
theorem c_int {i : Int} : GoalE ca fa C (.int i) := by
  intro W t k X e h m
  cases e with
  | Constant c kk pos =>
    cases c with
    | int d =>
      have m : (i == d) = true := m
      obtain rfl := eq_of_beq m
      exact P3.of snd_int (fun _ => rfl)
    | _ => exact absurd (show false = true from m) (by decide)
  | Name x pos =>
    have m : (t.glb x && t.g.gI.lookup x == some i) = true := m
    rw [andB] at m
    obtain ⟨g1, g2, g3⟩ := h.glb m.1
    obtain ⟨u, hu, r⟩ := h.mod.gI x i (eq_of_beq m.2)
    exact P3.of (snd_gint g1 hu r g2) (fun _ => rfl)
  | _ => exact absurd (show false = true from m) (by decide)
theorem c_str {i : Str} : GoalE ca fa C (.str i) := by
  intro W t k X e h m
  cases e with
  | Constant c kk pos =>
    cases c with
    | str d =>
      have m : (i == d) = true := m
      obtain rfl := eq_of_beq m
      exact P3.of snd_str (fun _ => rfl)
    | _ => exact absurd (show false = true from m) (by decide)
  | Name x pos =>
    have m : (t.glb x && t.g.gS.lookup x == some i) = true := m
    rw [andB] at m
    obtain ⟨g1, g2, g3⟩ := h.glb m.1
    obtain ⟨u, hu, r⟩ := h.mod.gS x i (eq_of_beq m.2)
    exact P3.of (snd_gstr g1 hu r g2) (fun _ => rfl)
  | _ => exact absurd (show false = true from m) (by decide)
theorem c_var {i : Nat} : GoalE ca fa C (.var i) := by
  intro W t k X e h m
  cases e with
  | Name x pos =>
    have m : t.slot i x = true := m
    obtain ⟨g1, g2, g3, g4⟩ := h.vis m
    exact P3.of (snd_var g1 g2 g3 g4) (fun _ => rfl)
  | _ => exact absurd (show false = true from m) (by decide)
theorem c_neg {a : Ex} (ha : GoalE ca fa C a) : GoalE ca fa C (.neg a) := by
  intro W t k X e h m
  cases e with
  | UnaryOp op l pos =>
    cases op with
    | USub => exact P3.of (snd_neg (ha _ _ _ _ _ h m).pe) (fun _ => rfl)
    | _ => exact absurd (show false = true from m) (by decide)
  | _ => exact absurd (show false = true from m) (by decide)
theorem c_not {a : Ex} (ha : GoalE ca fa C a) : GoalE ca fa C (.not a) := by
  intro W t k X e h m
  cases e with
  | UnaryOp op l pos =>
    cases op with
    | Not => exact ⟨snd_not (ha _ _ _ _ _ h m).pe, sndT_not (ha _ _ _ _ _ h m).pt⟩
    | _ => exact absurd (show false = true from m) (by decide)
  | _ => exact absurd (show false = true from m) (by decide)
theorem c_cmp {op : Cop} {a b : Ex} (ha : GoalE ca fa C a) (hb : GoalE ca fa C b) : GoalE ca fa C (.cmp op a b) := by
  intro W t k X e h m
  cases e with
  | Compare l ops rs pos =>
    match ops, rs, m with
    | [o], [r], m =>
      have m : (copOf o == op && mat t a l && mat t b r && !(isSetE r)) = true := m
      rw [andB, andB, andB, notB] at m
      obtain ⟨⟨⟨m1, m2⟩, m3⟩, m4⟩ := m
      obtain rfl := eq_of_beq m1
      exact ⟨snd_cmp h.hu m4 (ha _ _ _ _ _ h m2).pe (hb _ _ _ _ _ h m3).pe, sndT_cmp h.hu m4 (ha _ _ _ _ _ h m2).pe (hb _ _ _ _ _ h m3).pe⟩
    | [], _, m => exact absurd (show false = true from m) (by decide)
    | [_], [], m => exact absurd (show false = true from m) (by decide)
    | [_], _ :: _ :: _, m => exact absurd (show false = true from m) (by decide)
    | _ :: _ :: _, [], m => exact absurd (show false = true from m) (by decide)
    | _ :: _ :: _, [_], m => exact absurd (show false = true from m) (by decide)
    | [_, _], _ :: _ :: _, m => exact absurd (show false = true from m) (by decide)
    | _ :: _ :: _ :: _, _ :: _ :: _, m => exact absurd (show false = true from m) (by decide)
  | _ => exact absurd (show false = true from m) (by decide)
theorem c_cmp2 {o1 o2 : Cop} {a b c : Ex} (ha : GoalE ca fa C a) (hb : GoalE ca fa C b) (hc : GoalE ca fa C c) : GoalE ca fa C (.cmp2 o1 o2 a b c) := by
  intro W t k X e h m
  cases e with
  | Compare l ops rs pos =>
    match ops, rs, m with
    | [p1, p2], [r, q], m =>
      have m : (copOf p1 == o1 && copOf p2 == o2 && mat t a l && mat t b r && mat t c q && !(isSetE r) && !(isSetE q)) = true := m
      rw [andB, andB, andB, andB, andB, andB, notB, notB] at m
      obtain ⟨⟨⟨⟨⟨⟨m1, m2⟩, m3⟩, m4⟩, m5⟩, m6⟩, m7⟩ := m
      obtain rfl := eq_of_beq m1
      obtain rfl := eq_of_beq m2
      exact ⟨snd_cmp2 h.hu m6 m7 (ha _ _ _ _ _ h m3).pe (hb _ _ _ _ _ h m4).pe (hc _ _ _ _ _ h m5).pe, sndT_cmp2 h.hu m6 m7 (ha _ _ _ _ _ h m3).pe (hb _ _ _ _ _ h m4).pe (hc _ _ _ _ _ h m5).pe⟩
    | [], _, m => exact absurd (show false = true from m) (by decide)
    | [_], [], m => exact absurd (show false = true from m) (by decide)
    | [_], _ :: _, m => exact absurd (show false = true from m) (by decide)
    | [_, _], [], m => exact absurd (show false = true from m) (by decide)
    | [_, _], [_], m => exact absurd (show false = true from m) (by decide)
    | [_, _], _ :: _ :: _ :: _, m => exact absurd (show false = true from m) (by decide)
    | _ :: _ :: _ :: _, [], m => exact absurd (show false = true from m) (by decide)
    | _ :: _ :: _ :: _, _ :: _, m => exact absurd (show false = true from m) (by decide)
  | _ => exact absurd (show false = true from m) (by decide)
theorem c_and {a b : Ex} (ha : GoalE ca fa C a) (hb : GoalE ca fa C b) : GoalE ca fa C (.and a b) := by
  intro W t k X e h m
  cases e with
  | BoolOp op vs pos =>
    cases op with
    | And =>
      match vs, m with
      | [], m => exact absurd (show false = true from m) (by decide)
      | [_], m => exact absurd (show false = true from m) (by decide)
      | [v, u], m =>
        have m : (mat t a v && mat t b u) = true := m
        rw [andB] at m
        have p1 := ha _ _ _ _ _ h m.1
        have p2 := hb _ _ _ _ _ h m.2
        exact ⟨snd_and p1.pe (pe_one p2.pe), PT.bool (sndW_and p1.pt (pw_and1 p2.pt))⟩
      | v :: u :: w :: rest, m =>
        have m : (mat t a v && mat t b (.BoolOp .And (u :: w :: rest) pos)) = true := m
        rw [andB] at m
        have p1 := ha _ _ _ _ _ h m.1
        have p2 := hb _ _ _ _ _ h m.2
        exact ⟨snd_and p1.pe p2.pe, PT.bool (sndW_and p1.pt (PW.of p2.pt))⟩
    | _ => exact absurd (show false = true from m) (by decide)
  | _ => exact absurd (show false = true from m) (by decide)
theorem c_or {a b : Ex} (ha : GoalE ca fa C a) (hb : GoalE ca fa C b) : GoalE ca fa C (.or a b) := by
  intro W t k X e h m
  cases e with
  | BoolOp op vs pos =>
    cases op with
    | Or =>
      match vs, m with
      | [], m => exact absurd (show false = true from m) (by decide)
      | [_], m => exact absurd (show false = true from m) (by decide)
      | [v, u], m =>
        have m : (mat t a v && mat t b u) = true := m
        rw [andB] at m
        have p1 := ha _ _ _ _ _ h m.1
        have p2 := hb _ _ _ _ _ h m.2
        exact ⟨snd_or p1.pe (pe_one p2.pe), PT.bool (sndW_or p1.pt (pw_or1 p2.pt))⟩
      | v :: u :: w :: rest, m =>
        have m : (mat t a v && mat t b (.BoolOp .Or (u :: w :: rest) pos)) = true := m
        rw [andB] at m
        have p1 := ha _ _ _ _ _ h m.1
        have p2 := hb _ _ _ _ _ h m.2
        exact ⟨snd_or p1.pe p2.pe, PT.bool (sndW_or p1.pt (PW.of p2.pt))⟩
    | _ => exact absurd (show false = true from m) (by decide)
  | _ => exact absurd (show false = true from m) (by decide)
theorem c_ite {c a b : Ex} (hc : GoalE ca fa C c) (ha : GoalE ca fa C a) (hb : GoalE ca fa C b) : GoalE ca fa C (.ite c a b) := by
  intro W t k X e h m
  cases e with
  | IfExp g l r pos =>
    have m : (mat t c g && mat t a l && mat t b r) = true := m
    rw [andB, andB] at m
    have p1 := hc _ _ _ _ _ h m.1.1
    have p2 := ha _ _ _ _ _ h m.1.2
    have p3 := hb _ _ _ _ _ h m.2
    exact ⟨snd_ite p1.pt p2.pe p3.pe, sndT_ite p1.pt p2.pt p3.pt⟩
  | _ => exact absurd (show false = true from m) (by decide)
theorem c_tup {xs : Exs} (hx : GoalEs ca fa C xs) : GoalE ca fa C (.tup xs) := by
  intro W t k X e h m
  cases e with
  | Tuple es kk pos => exact P3.of (snd_tup (hx _ _ _ _ _ h m).1) (fun _ => rfl)
  | _ => exact absurd (show false = true from m) (by decide)
theorem c_lst {xs : Exs} (hx : GoalEs ca fa C xs) : GoalE ca fa C (.lst xs) := by
  intro W t k X e h m
  cases e with
  | List es pos => exact P3.of (snd_lst (hx _ _ _ _ _ h m).1) (fun _ => rfl)
  | _ => exact absurd (show false = true from m) (by decide)
theorem c_dict0 : GoalE ca fa C .dict0 := by
  intro W t k X e h m
  cases e with
  | Dict ks vs pos =>
    match ks, vs, m with
    | [], [], m => exact P3.of snd_dict0 (fun _ => rfl)
    | [], _ :: _, m => exact absurd (show false = true from m) (by decide)
    | _ :: _, _, m => exact absurd (show false = true from m) (by decide)
  | _ => exact absurd (show false = true from m) (by decide)
theorem nil_of {t : TC} {xs : Exs} {es : List Expr} (h : mats t xs es = true) : es = [] → xs = .nil := by
  intro e
  subst e
  cases xs with
  | nil => rfl
  | cons s x xs => cases s <;> exact absurd (show false = true from h) (by decide)
theorem c_call {f : Nat} {xs : Exs} (hx : GoalEs ca fa C xs) : GoalE ca fa C (.call f xs) := by
  intro W t k X e h m
  cases e with
  | Call fe es kws pos =>
    cases fe with
    | Name x p =>
      cases kws with
      | nil =>
        have m : (t.glb x && t.g.fns.lookup x == some f && mats t xs es && !(es.any isStar)) = true := m
        rw [andB, andB, andB, notB] at m
        obtain ⟨⟨⟨m1, m2⟩, m3⟩, m4⟩ := m
        obtain ⟨g1, g2, g3⟩ := h.glb m1
        obtain ⟨q1, q2, q3⟩ := h.mod.fns x f (eq_of_beq m2)
        exact P3.of (snd_call (g := C.call f) (fun env S => by simp only [ev]) g1 q1 q2 g2 m4 (h.run q3) (nil_of m3) (hx _ _ _ _ _ h m3).1) (fun _ => rfl)
      | cons _ _ => exact absurd (show false = true from m) (by decide)
    | _ => exact absurd (show false = true from m) (by decide)
  | _ => exact absurd (show false = true from m) (by decide)
theorem c_make {c : Nat} {xs : Exs} (hx : GoalEs ca fa C xs) : GoalE ca fa C (.make c xs) := by
  intro W t k X e h m
  cases e with
  | Call fe es kws pos =>
    cases fe with
    | Name x p =>
      cases kws with
      | nil =>
        have m : (t.glb x && t.g.cls.lookup x == some c && mats t xs es && !(es.any isStar)) = true := m
        rw [andB, andB, andB, notB] at m
        obtain ⟨⟨⟨m1, m2⟩, m3⟩, m4⟩ := m
        obtain ⟨g1, g2, g3⟩ := h.glb m1
        obtain ⟨q1, q2, q3⟩ := h.mod.cls x c (eq_of_beq m2)
        exact P3.of (snd_call (g := C.make c) (fun env S => by simp only [ev]) g1 q1 q2 g2 m4 (h.mkr q3) (nil_of m3) (hx _ _ _ _ _ h m3).1) (fun _ => rfl)
      | cons _ _ => exact absurd (show false = true from m) (by decide)
    | _ => exact absurd (show false = true from m) (by decide)
  | _ => exact absurd (show false = true from m) (by decide)
theorem mats_len : ∀ {xs : Exs} {t : TC} {es : List Expr}, mats t xs es = true → es.any isStar = false → ∀ {env : Env} {S : Sto} {ds : List D} {S1 : Sto}, evs C xs env S = .ok ds S1 → ds.length = es.length
  | .nil, t, es, m, hs, env, S, ds, S1, h => by
    cases es with
    | nil => simp only [evs] at h; cases h; rfl
    | cons _ _ => exact absurd (show false = true from m) (by decide)
  | .cons st x xs, t, es, m, hs, env, S, ds, S1, h => by
    cases es with
    | nil => cases st <;> exact absurd (show false = true from m) (by decide)
    | cons e es =>
      rw [List.any_cons, Bool.or_eq_false_iff] at hs
      cases st with
      | true => cases e <;> first | exact absurd (show false = true from m) (by decide) | exact absurd (show true = false from hs.1) (by decide)
      | false =>
        have m : (mat t x e && !(isStar e) && mats t xs es) = true := m
        rw [andB, andB] at m
        simp only [evs, Bool.false_eq_true, if_false] at h
        cases hx : ev C x env S with
        | bad => rw [hx] at h; cases h
        | er c d S' => rw [hx] at h; cases h
        | ok d S' =>
          rw [hx] at h
          have h : (if (rd d).isAcc then R.bad else (evs C xs env S').bind fun ys S2 => .ok (rd d :: ys) S2) = R.ok ds S1 := h
          split at h
          · cases h
          · cases hy : evs C xs env S' with
            | bad => rw [hy] at h; cases h
            | er c d S' => rw [hy] at h; cases h
            | ok ys S2 =>
              rw [hy] at h
              cases h
              rw [List.length_cons, List.length_cons, mats_len m.2 hs.2 hy]
theorem c_makek {c : Nat} {es ks : Exs} {perm : List Nat} (hk : ∀ x, ks = .cons false x .nil → GoalE ca fa C x) : GoalE ca fa C (.makek c es ks perm) := by
  intro W t k X e h m
  cases es with
  | cons _ _ _ => cases e <;> exact absurd (show false = true from m) (by decide)
  | nil =>
  cases ks with
  | nil => cases e <;> exact absurd (show false = true from m) (by decide)
  | cons st x xs =>
  cases st with
  | true => cases e <;> exact absurd (show false = true from m) (by decide)
  | false =>
  cases xs with
  | cons _ _ _ => cases e <;> exact absurd (show false = true from m) (by decide)
  | nil =>
  have hx := hk x rfl
  match perm, m with
  | [], m => cases e <;> exact absurd (show false = true from m) (by decide)
  | (_ + 1) :: _, m => cases e <;> exact absurd (show false = true from m) (by decide)
  | 0 :: _ :: _, m => cases e <;> exact absurd (show false = true from m) (by decide)
  | [0], m =>
  cases e with
  | Call fe as kws pos =>
    cases fe with
    | Name y p =>
      cases as with
      | cons _ _ => exact absurd (show false = true from m) (by decide)
      | nil =>
      cases kws with
      | nil => exact absurd (show false = true from m) (by decide)
      | cons kw kws =>
      obtain ⟨nm, v, q⟩ := kw
      cases nm with
      | none => exact absurd (show false = true from m) (by decide)
      | some nm =>
      cases kws with
      | cons _ _ => exact absurd (show false = true from m) (by decide)
      | nil =>
        have m : (t.glb y && t.g.cls.lookup y == some c && t.g.errs.contains c && nm == ("value" : Str) && mat t x v) = true := m
        rw [andB, andB, andB, andB] at m
        obtain ⟨⟨⟨⟨m1, m2⟩, m3⟩, m4⟩, m5⟩ := m
        obtain rfl := eq_of_beq m4
        obtain ⟨g1, g2, g3⟩ := h.glb m1
        obtain ⟨q1, q2, q3⟩ := h.mod.cls y c (eq_of_beq m2)
        rcases q3 with ⟨_, fI, fdI, T, F1, b1, b2, e⟩ | ⟨q3, _⟩
        · have hr : RunsK ca W X (.ref (ca c)) ([] : List Expr).length (["value"] : List Str) [0] (C.make c) := by
            rw [e]
            exact runsK_exc T F1 (h.rm.mono (by omega)) b2
          refine P3.of (snd_callk (ks := (["value"] : List Str)) (g := C.make c) (fun env S => by simp only [ev]) g1 q1 q2 g2 rfl rfl hr (fun env S ds S1 z => ?_) (fun env S ds S1 z => ?_) (fun _ => rfl) snd_nilK (snd_consKw (hx _ _ _ _ _ h m5).pe snd_nilKw)) (fun _ => rfl)
          · simp only [evs] at z; cases z; rfl
          · simp only [evs, Bool.false_eq_true, if_false] at z
            cases hx : ev C x env S with
            | bad => rw [hx] at z; cases z
            | er c d S' => rw [hx] at z; cases z
            | ok d S' =>
              rw [hx] at z
              have z : (if (rd d).isAcc then R.bad else R.ok [rd d] S') = R.ok ds S1 := z
              split at z
              · cases z
              · cases z; rfl
        · rw [q3] at m3; cases m3
    | _ => exact absurd (show false = true from m) (by decide)
  | _ => exact absurd (show false = true from m) (by decide)
theorem biVal_of : ∀ {x : Str} {b : Bi}, biOf x = some b → bootBuiltins x = some (biVal b) := by
  intro x b h
  unfold biOf at h
  simp only [List.lookup] at h
  repeat' split at h
  all_goals first
    | (cases h; done)
    | (cases h
       rename_i hx
       obtain rfl := eq_of_beq hx
       rfl)
theorem c_bi {b : Bi} {xs : Exs} (hx : GoalEs ca fa C xs) : GoalE ca fa C (.bi b xs) := by
  intro W t k X e h m
  cases e with
  | Call fe es kws pos =>
    cases fe with
    | Name x p =>
      cases kws with
      | nil =>
        have m : (t.blt x && biOf x == some b && mats t xs es && !(es.any isStar) && !es.isEmpty) = true := m
        rw [andB, andB, andB, andB, notB, notB] at m
        obtain ⟨⟨⟨⟨m1, m2⟩, m3⟩, m4⟩, m5⟩ := m
        obtain ⟨g1, g2, g3, g4⟩ := h.blt m1
        cases es with
        | nil => cases m5
        | cons e es => exact P3.of (snd_biB h.calm h.hu h.gd g1 g4 (biVal_of (eq_of_beq m2)) g2 g3 m4 ((hx _ _ _ _ _ h m3).2 m4)) (fun _ => rfl)
      | cons _ _ => exact absurd (show false = true from m) (by decide)
    | _ => exact absurd (show false = true from m) (by decide)
  | _ => exact absurd (show false = true from m) (by decide)

theorem tyOf_p {W : WX} {t : TC} {k : Nat} {X : Cx} (h : XOk ca fa C W t k X) {e : Expr} {T : Ty} (m : tyOf t e = some T) : PCls ca X T e ∧ isStar e = false := by
  cases e with
  | Name x p =>
    have m : (if t.glb x then (match t.g.cls.lookup x with
      | some c => some (.cls c)
      | none => if t.g.bl.contains x then ([(("list" : Str), Ty.list), ("tuple", .tuple), ("int", .int), ("str", .str), ("bool", .bool), ("dict", .dict), ("ValueError", .valueError)] : List (Str × Ty)).lookup x else none) else none) = some T := m
    by_cases g : t.glb x = true
    · rw [if_pos g] at m
      obtain ⟨g1, g2, g3⟩ := h.glb g
      cases hc : t.g.cls.lookup x with
      | some c =>
        rw [hc] at m
        cases m
        obtain ⟨q1, q2, q3⟩ := h.mod.cls x c hc
        exact ⟨pe_glob g1 q1 rfl g2, rfl⟩
      | none =>
        rw [hc] at m
        simp only at m
        by_cases hb : t.g.bl.contains x = true
        · rw [if_pos hb] at m
          have hm := h.mod.bl x hb
          simp only [List.lookup] at m
          repeat' split at m
          all_goals first
            | (cases m; done)
            | (cases m
               rename_i hx
               obtain rfl := eq_of_beq hx
               exact ⟨pe_bltn g1 hm rfl rfl g3 g2, rfl⟩)
        · rw [if_neg hb] at m; cases m
    · rw [if_neg g] at m; cases m
  | _ => cases m
theorem tyOfs_p {W : WX} {t : TC} {k : Nat} {X : Cx} (h : XOk ca fa C W t k X) : ∀ {es : List Expr} {ts : List Ty}, es.mapM (tyOf t) = some ts → PClss ca X ts es
  | [], ts, m => by cases m; exact .nil
  | e :: es, ts, m => by
    rw [List.mapM_cons] at m
    cases h1 : tyOf t e with
    | none => rw [h1] at m; cases m
    | some T =>
      rw [h1] at m
      cases h2 : es.mapM (tyOf t) with
      | none => rw [h2] at m; cases m
      | some ts' =>
        rw [h2] at m
        cases m
        obtain ⟨a, b⟩ := tyOf_p h h1
        exact .cons a b (tyOfs_p h h2)
theorem bltHd_of {t : TC} {f : Str} {fe : Expr} (m : bltHd t f fe = true) : ∃ p, fe = .Name f p ∧ t.blt f = true := by
  cases fe with
  | Name x p =>
    have m : (t.blt x && x == f) = true := m
    rw [andB] at m
    obtain rfl := eq_of_beq m.2
    exact ⟨p, rfl, m.1⟩
  | _ => exact absurd (show false = true from m) (by decide)
theorem nilKw_of {kws : List Keyword} (m : isNilKw kws = true) : kws = [] := by
  cases kws with
  | nil => rfl
  | cons _ _ => exact absurd (show false = true from m) (by decide)
theorem c_isi {a : Ex} {ts : List Ty} (ha : GoalE ca fa C a) : GoalE ca fa C (.isi a ts) := by
  intro W t k X e h m
  cases e with
  | Call fe es kws pos =>
    have m : (okTys ts && bltHd t "isinstance" fe && isNilKw kws && (match (generalizing := false) es with
      | [e, c] => mat t a e && !(isStar e) && isiB t ts c
      | _ => false)) = true := m
    rw [andB, andB, andB] at m
    obtain ⟨⟨⟨m0, m1⟩, m2⟩, m3⟩ := m
    have hlen : ts.length ≤ sizeLine := by
      have := of_decide_eq_true m0
      rw [sizeLine_eq]; omega
    obtain ⟨p, rfl, mb⟩ := bltHd_of m1
    obtain rfl := nilKw_of m2
    obtain ⟨g1, g2, g3, g4⟩ := h.blt mb
    split at m3
    · rename_i e c
      rw [andB, andB, notB] at m3
      obtain ⟨⟨n1, n2⟩, m⟩ := m3
      cases c with
      | Tuple cs kk q =>
        have m : (cs.mapM (tyOf t) == some ts) = true := m
        exact P3.of (snd_isiT h.mod.kf g1 g4 n2 hlen (ha _ _ _ _ _ h n1).pe (tyOfs_p h (eq_of_beq m))) (fun _ => rfl)
      | Name y q =>
        cases ts with
        | nil => exact absurd (show false = true from m) (by decide)
        | cons T ts =>
          cases ts with
          | cons _ _ => exact absurd (show false = true from m) (by decide)
          | nil =>
            have m : (tyOf t (.Name y q) == some T) = true := m
            exact P3.of (snd_isi1 h.mod.kf g1 g4 n2 rfl (ha _ _ _ _ _ h n1).pe (tyOf_p h (eq_of_beq m)).1) (fun _ => rfl)
      | _ => exact absurd (show false = true from m) (by decide)
    · cases m3
  | _ => exact absurd (show false = true from m) (by decide)
theorem c_mt {mm : Mt} {o : Ex} {xs : Exs} (ho : GoalE ca fa C o) (hx : GoalEs ca fa C xs) : GoalE ca fa C (.mt mm o xs) := by
  intro W t k X e h m
  cases e with
  | Call fe es kws pos =>
    cases fe with
    | Attribute v x apos =>
      cases kws with
      | nil =>
        have m : (mtCov mm && mtOf x == some mm && mat t o v && mats t xs es && !(es.any isStar) && okBase v && decide (es.length < 30) && apos.endLine == pos.line && !es.isEmpty) = true := m
        rw [andB, andB, andB, andB, andB, andB, andB, andB, notB, notB] at m
        obtain ⟨⟨⟨⟨⟨⟨⟨⟨hcov, m1⟩, m2⟩, m3⟩, m4⟩, m5⟩, m6⟩, m7⟩, m8⟩ := m
        have F : MtF ca X mm x := by
          have m1 := eq_of_beq m1
          unfold mtOf at m1
          simp only [List.lookup] at m1
          repeat' split at m1
          all_goals first
            | (cases m1; done)
            | (cases m1; exact absurd hcov (by decide))
            | (cases m1
               rename_i hx
               obtain rfl := eq_of_beq hx
               first | exact mtF_join | exact mtF_get h.hu1)
        cases es with
        | nil => cases m8
        | cons e es => exact P3.of (snd_mt F m5 m4 (of_decide_eq_true m6) m7 (ho _ _ _ _ _ h m2).pe ((hx _ _ _ _ _ h m3).2 m4)) (fun _ => rfl)
      | cons _ _ => exact absurd (show false = true from m) (by decide)
    | _ => exact absurd (show false = true from m) (by decide)
  | _ => exact absurd (show false = true from m) (by decide)
theorem c_meth {mm : Str} {o : Ex} {xs : Exs} (ho : GoalE ca fa C o) (hx : GoalEs ca fa C xs) : GoalE ca fa C (.meth mm o xs) := by
  intro W t k X e h m
  cases e with
  | Call fe es kws pos =>
    cases fe with
    | Attribute v x apos =>
      cases kws with
      | nil =>
        have m : (mm == x && (mtOf mm).isNone && mat t o v && mats t xs es && !(es.any isStar) && okBase v && decide (es.length < 30) && apos.endLine == pos.line) = true := m
        rw [andB, andB, andB, andB, andB, andB, andB, notB] at m
        obtain ⟨⟨⟨⟨⟨⟨⟨m1, m2⟩, m3⟩, m4⟩, m5⟩, m6⟩, m7⟩, m8⟩ := m
        obtain rfl := eq_of_beq m1
        exact P3.of (snd_meth h.mod.ka (fun g ⟨c, x, hg⟩ => h.run (h.mod.meth c x g hg)) m6 m5 (of_decide_eq_true m7) m8 (nil_of m4) (ho _ _ _ _ _ h m3).pe (hx _ _ _ _ _ h m4).1) (fun _ => rfl)
      | cons _ _ => exact absurd (show false = true from m) (by decide)
    | _ => exact absurd (show false = true from m) (by decide)
  | _ => exact absurd (show false = true from m) (by decide)
theorem c_fld {o : Ex} {f : Str} (ho : GoalE ca fa C o) : GoalE ca fa C (.fld o f) := by
  intro W t k X e h m
  cases e with
  | Attribute v x pos =>
    have m : (f == x && mat t o v && okBase v) = true := m
    rw [andB, andB] at m
    obtain rfl := eq_of_beq m.1.1
    exact P3.of (snd_fld h.mod.kf h.mod.ka (fun g ⟨c, f, hg⟩ => h.mod.prop c f g hg) h.gd (h.rm.mono (by omega)) (ho _ _ _ _ _ h m.1.2).pe (okBase_eq m.2 _ _ _)) (fun _ => rfl)
  | _ => exact absurd (show false = true from m) (by decide)
theorem c_ix {a i : Ex} (ha : GoalE ca fa C a) (hi : GoalE ca fa C i) : GoalE ca fa C (.ix a i) := by
  intro W t k X e h m
  cases e with
  | Subscript v j pos =>
    have m : (mat t a v && mat t i j && !(isSlice j)) = true := m
    rw [andB, andB, notB] at m
    exact P3.of (snd_ix h.hu m.2 (ha _ _ _ _ _ h m.1.1).pe (hi _ _ _ _ _ h m.1.2).pe) (fun _ => rfl)
  | _ => exact absurd (show false = true from m) (by decide)
theorem isRevS_of {j : Expr} (h : isRevS j = true) : ∃ k p1 p2 p3, j = .Slice none none (some (.UnaryOp .USub (.Constant (.int 1) k p1) p2)) p3 := by
  unfold isRevS at h
  split at h
  · exact ⟨_, _, _, _, rfl⟩
  · cases h
theorem c_rev {a : Ex} (ha : GoalE ca fa C a) : GoalE ca fa C (.rev a) := by
  intro W t k X e h m
  cases e with
  | Subscript v j pos =>
    have m : (mat t a v && isRevS j) = true := m
    rw [andB] at m
    obtain ⟨_, _, _, _, rfl⟩ := isRevS_of m.2
    exact P3.of (snd_rev (ha _ _ _ _ _ h m.1).pe) (fun _ => rfl)
  | _ => exact absurd (show false = true from m) (by decide)
theorem c_ref {a : Ex} (ha : GoalE ca fa C a) : GoalE ca fa C (.ref a) := by
  intro W t k X e h m
  have m : mat t a e = true := by cases e <;> exact m
  have p := ha _ _ _ _ _ h m
  exact ⟨snd_ref p.pe, PT.imp p.pt fun σ H Q z => tM_ref z⟩
theorem nonK {x : Ex} : (isNonK x = true → x = .non) ∧ (isNonK x = false → x ≠ .non) := by
  refine ⟨fun h => ?_, fun h z => ?_⟩
  · cases x <;> first | rfl | cases h
  · subst z; cases h
theorem c_sl {a lo hi : Ex} (ha : GoalE ca fa C a) (hl : GoalE ca fa C lo) (hh : GoalE ca fa C hi) : GoalE ca fa C (.sl a lo hi) := by
  intro W t k X e h m
  cases e with
  | Subscript v j pos =>
    cases j with
    | Slice l u st q =>
      cases st with
      | some _ => exact absurd (show false = true from m) (by decide)
      | none =>
        have m : (mat t a v && (match (generalizing := false) l with
          | none => isNonK lo
          | some l => mat t lo l && !(isNonK lo)) && (match (generalizing := false) u with
          | none => isNonK hi
          | some h => mat t hi h && !(isNonK hi))) = true := m
        rw [andB, andB] at m
        obtain ⟨⟨m1, m2⟩, m3⟩ := m
        have p1 : PO X l (tPO ca W fun env S => partR lo (ev C lo env S)) := by
          cases l with
          | none =>
            obtain rfl := nonK.1 m2
            exact snd_poN
          | some l =>
            simp only [andB, notB] at m2
            exact snd_poS (nonK.2 m2.2) (hl _ _ _ _ _ h m2.1).pe
        have p2 : PO X u (tPO ca W fun env S => partR hi (ev C hi env S)) := by
          cases u with
          | none =>
            obtain rfl := nonK.1 m3
            exact snd_poN
          | some l =>
            simp only [andB, notB] at m3
            exact snd_poS (nonK.2 m3.2) (hh _ _ _ _ _ h m3.1).pe
        exact P3.of (snd_sl (ha _ _ _ _ _ h m1).pe p1 p2) (fun _ => rfl)
    | _ => exact absurd (show false = true from m) (by decide)
  | _ => exact absurd (show false = true from m) (by decide)
/-! ### lists of expressions -/
theorem cs_nil : GoalEs ca fa C .nil := by
  intro W t k X es h m
  cases es with
  | nil => exact ⟨snd_nilK, fun _ => snd_nilR⟩
  | cons _ _ => exact absurd (show false = true from m) (by decide)
theorem cs_cons {st : Bool} {x : Ex} {xs : Exs} (hx : GoalE ca fa C x) (hs : GoalEs ca fa C xs) : GoalEs ca fa C (.cons st x xs) := by
  intro W t k X es h m
  cases es with
  | nil => cases st <;> exact absurd (show false = true from m) (by decide)
  | cons e es =>
    cases st with
    | true =>
      cases e with
      | Starred v p =>
        have m : (mat t x v && mats t xs es) = true := m
        rw [andB] at m
        refine ⟨snd_starK (hx _ _ _ _ _ h m.1).pe (hs _ _ _ _ _ h m.2).1, fun z => ?_⟩
        rw [List.any_cons, Bool.or_eq_false_iff] at z
        exact absurd (show true = false from z.1) (by decide)
      | _ => exact absurd (show false = true from m) (by decide)
    | false =>
      have m : (mat t x e && !(isStar e) && mats t xs es) = true := m
      rw [andB, andB, notB] at m
      refine ⟨snd_consK m.1.2 (hx _ _ _ _ _ h m.1.1).pe (hs _ _ _ _ _ h m.2).1, fun z => ?_⟩
      rw [List.any_cons, Bool.or_eq_false_iff] at z
      exact snd_consR m.1.2 (hx _ _ _ _ _ h m.1.1).pe ((hs _ _ _ _ _ h m.2).2 z.2)
/-! ### walks -/
theorem ci_seq {x : Ex} (hx : GoalE ca fa C x) : GoalIt ca fa C (.seq x) := by
  intro W t k X tg e h m _
  have m : mat t x e = true := m
  exact sndI_seq (hx _ _ _ _ _ h m).pe
theorem tup_of_need {tg : Expr} {it : It} (hn : needTup it = true) (h : (isTup tg || !(needTup it)) = true) : ∃ es k p, tg = .Tuple es k p := by
  rw [hn] at h
  cases tg <;> first | exact ⟨_, _, _, rfl⟩ | exact absurd (show false = true from h) (by decide)
theorem ci_rng1 {x : Ex} (hx : GoalE ca fa C x) : GoalIt ca fa C (.rng1 x) := by
  intro W t k X tg e h m ht

  cases e with
  | Call fe es kws pos =>
    have m : (bltHd t "range" fe && isNilKw kws && (match (generalizing := false) es with
      | [a] => mat t x a && !(isStar a)
      | _ => false)) = true := m
    rw [andB, andB] at m
    obtain ⟨⟨m1, m2⟩, m3⟩ := m
    obtain ⟨p, rfl, mb⟩ := bltHd_of m1
    obtain rfl := nilKw_of m2
    obtain ⟨g1, g2, g3, g4⟩ := h.blt mb
    split at m3
    · rw [andB, notB] at m3
      exact sndI_rng1 g1 g4 m3.2 (hx _ _ _ _ _ h m3.1).pe
    · cases m3
  | _ => exact absurd (show false = true from m) (by decide)
theorem ci_rng2 {x y : Ex} (hx : GoalE ca fa C x) (hy : GoalE ca fa C y) : GoalIt ca fa C (.rng2 x y) := by
  intro W t k X tg e h m ht

  cases e with
  | Call fe es kws pos =>
    have m : (bltHd t "range" fe && isNilKw kws && (match (generalizing := false) es with
      | [a, b] => mat t x a && mat t y b && !(isStar a) && !(isStar b)
      | _ => false)) = true := m
    rw [andB, andB] at m
    obtain ⟨⟨m1, m2⟩, m3⟩ := m
    obtain ⟨p, rfl, mb⟩ := bltHd_of m1
    obtain rfl := nilKw_of m2
    obtain ⟨g1, g2, g3, g4⟩ := h.blt mb
    split at m3
    · rw [andB, andB, andB, notB, notB] at m3
      exact sndI_rng2 g1 g4 m3.1.2 m3.2 (hx _ _ _ _ _ h m3.1.1.1).pe (hy _ _ _ _ _ h m3.1.1.2).pe
    · cases m3
  | _ => exact absurd (show false = true from m) (by decide)
theorem ci_enum {x : Ex} (hx : GoalE ca fa C x) : GoalIt ca fa C (.enum x) := by
  intro W t k X tg e h m ht
  obtain ⟨es', kk, p', rfl⟩ := tup_of_need rfl ht
  cases e with
  | Call fe es kws pos =>
    have m : (bltHd t "enumerate" fe && isNilKw kws && (match (generalizing := false) es with
      | [a] => mat t x a && !(isStar a)
      | _ => false)) = true := m
    rw [andB, andB] at m
    obtain ⟨⟨m1, m2⟩, m3⟩ := m
    obtain ⟨p, rfl, mb⟩ := bltHd_of m1
    obtain rfl := nilKw_of m2
    obtain ⟨g1, g2, g3, g4⟩ := h.blt mb
    split at m3
    · rw [andB, notB] at m3
      exact sndI_enum g1 g4 m3.2 (hx _ _ _ _ _ h m3.1).pe
    · cases m3
  | _ => exact absurd (show false = true from m) (by decide)
theorem ci_zip {x y : Ex} (hx : GoalE ca fa C x) (hy : GoalE ca fa C y) : GoalIt ca fa C (.zip x y) := by
  intro W t k X tg e h m ht
  obtain ⟨es', kk, p', rfl⟩ := tup_of_need rfl ht
  cases e with
  | Call fe es kws pos =>
    have m : (bltHd t "zip" fe && isNilKw kws && (match (generalizing := false) es with
      | [a, b] => mat t x a && mat t y b && !(isStar a) && !(isStar b)
      | _ => false)) = true := m
    rw [andB, andB] at m
    obtain ⟨⟨m1, m2⟩, m3⟩ := m
    obtain ⟨p, rfl, mb⟩ := bltHd_of m1
    obtain rfl := nilKw_of m2
    obtain ⟨g1, g2, g3, g4⟩ := h.blt mb
    split at m3
    · rw [andB, andB, andB, notB, notB] at m3
      exact sndI_zip g1 g4 m3.1.2 m3.2 (hx _ _ _ _ _ h m3.1.1.1).pe (hy _ _ _ _ _ h m3.1.1.2).pe
    · cases m3
  | _ => exact absurd (show false = true from m) (by decide)
end K9
end
section
set_option Elab.async false
set_option linter.all false
set_option maxRecDepth 100000
set_option maxHeartbeats 0
/-! K9Main3: comprehensions; all expressions. -/
namespace K9
open PySem PySem.Spec PyProof.Rows L2
variable {ca fa : Nat → Addr} {C : Ctx}
theorem nms_of {W : WX} {t : TC} {k : Nat} {X : Cx} (h : XOk ca fa C W t k X) : ∀ {is : List Nat} {es : List Expr}, nmsMat t is es = true → is.length = es.length ∧ ∀ p ∈ is.zip es, ∃ x q, p.2 = .Name x q ∧ X.N[p.1]? = some x ∧ Loc X.env.scope x ∧ (X.fn x = true ∨ X.env.scope.names.lookup x = some .local)
  | [], [], m => ⟨rfl, fun p hp => by cases hp⟩
  | [], _ :: _, m => exact_absurd m
  | _ :: _, [], m => exact_absurd m
  | i :: is, e :: es, m => by
    have m : (nmMat t i e && nmsMat t is es) = true := m
    rw [andB] at m
    obtain ⟨a, b⟩ := nms_of h m.2
    refine ⟨by rw [List.length_cons, List.length_cons, a], fun p hp => ?_⟩
    rcases List.mem_cons.mp hp with rfl | hp
    · cases e with
      | Name x q =>
        have m1 : t.loc i x = true := m.1
        obtain ⟨g1, g2, g3⟩ := h.lcl m1
        exact ⟨x, q, rfl, g1, g2, g3⟩
      | _ => exact absurd (show false = true from m.1) (by decide)
    · exact b p hp
where exact_absurd {P : Prop} {t : TC} {is : List Nat} {es : List Expr} (m : nmsMat t is es = true) (h : nmsMat t is es = false := by rfl) : P := by rw [h] at m; cases m
theorem tg_of {W : WX} {t : TC} {k : Nat} {X : Cx} (h : XOk ca fa C W t k X) {tg : List Nat} {e : Expr} (m : tgMat t tg e = true) : PG X e (gD X.K tg) := by
  refine pg_D h.calm h.nd ?_
  cases e with
  | Name x q =>
    cases tg with
    | nil => exact absurd (show false = true from m) (by decide)
    | cons i is =>
      cases is with
      | nil =>
        have m : t.loc i x = true := m
        obtain ⟨g1, g2, g3⟩ := h.lcl m
        exact .inl ⟨i, x, q, rfl, rfl, g1, g2, g3⟩
      | cons _ _ => exact absurd (show false = true from m) (by decide)
  | Tuple es kk q =>
    have m : (decide (2 ≤ es.length) && nmsMat t tg es) = true := by
      cases tg with
      | nil => exact m
      | cons i is => cases is <;> exact m
    rw [andB] at m
    obtain ⟨a, b⟩ := nms_of h m.2
    exact .inr ⟨es, kk, q, rfl, a, of_decide_eq_true m.1, b⟩
  | _ =>
    cases tg with
    | nil => exact absurd (show false = true from m) (by decide)
    | cons i is => cases is <;> exact absurd (show false = true from m) (by decide)
theorem all_of {α : Type} {p : α → Bool} : ∀ {l : List α}, l.all p = true → ∀ x ∈ l, p x = true := fun h x hx => List.all_eq_true.mp h x hx
/-- the block of a comprehension -/
theorem blk_of {W : WX} {t : TC} {k : Nat} {X : Cx} (h : XOk ca fa C W t k X) {scope : Scope} {own : List Nat} (m : blkB t scope own = true) : BlkOk X.N X.env.scope scope (own.map fun i => ((t.N[i]?).getD Str.empty, i)) := by
  unfold blkB at m
  rw [andB, andB, andB] at m
  obtain ⟨⟨⟨m1, m2⟩, m3⟩, m4⟩ := m
  have at_ : ∀ i ∈ own, ∃ x, t.N[i]? = some x := fun i hi => Option.isSome_iff_exists.mp (all_of m3 i hi)
  refine ⟨?_, fun y hy => eq_of_beq (all_of m2 y hy), fun p hp => ?_, fun y hy hk => ?_, fun y hy hk => ?_⟩
  · cases hk : scope.kind <;> rw [hk] at m1 <;> first | rfl | cases m1
  · obtain ⟨i, hi, rfl⟩ := List.mem_map.mp hp
    obtain ⟨x, hx⟩ := at_ i hi
    rw [h.N]
    show t.N[i]? = some ((t.N[i]?).getD Str.empty)
    rw [hx]; rfl
  · have z := all_of m4 y hy
    rw [hk] at z
    simp only [Bool.or_eq_true] at z
    rw [h.sc]
    exact z.elim (fun q => .inl (eq_of_beq q)) fun q => .inr (eq_of_beq q)
  · have z := all_of m4 y hy
    have z' : (own.any (fun i => t.N[i]? == some y.1) || !(t.N.contains y.1)) = true := by
      rcases hk with hk | hk <;> (rw [hk] at z; exact z)
    rw [Bool.or_eq_true] at z'
    rcases z' with q | q
    · obtain ⟨i, hi, hx⟩ := List.any_eq_true.mp q
      refine .inl (List.mem_map.mpr ⟨(y.1, i), List.mem_map.mpr ⟨i, hi, ?_⟩, rfl⟩)
      rw [eq_of_beq hx]; rfl
    · refine .inr fun hm => ?_
      rw [h.N] at hm
      rw [notB] at q
      rw [List.contains_iff_mem.mpr hm] at q
      cases q
theorem makek_no {t : TC} {c : Nat} {es ks : Exs} {p : List Nat} {e : Expr} (h : ∀ fe as kws q, e ≠ .Call fe as kws q) : mat t (.makek c es ks p) e = false := by
  cases e <;> first
    | exact absurd rfl (h _ _ _ _)
    | (cases es <;> first
        | rfl
        | (cases ks <;> first
            | rfl
            | (rename_i st x xs
               cases st <;> first
                 | rfl
                 | (cases xs <;> first
                     | rfl
                     | (cases p <;> first
                         | rfl
                         | (rename_i n ns
                            cases n <;> first
                              | rfl
                              | (cases ns <;> rfl)))))))
/-- the parts of a written comprehension -/
theorem lc_parts {own tg : List Nat} {it : It} {c elt : Ex} (hi : GoalIt ca fa C it) (hc : GoalE ca fa C c) (he : GoalE ca fa C elt) {W : WX} {t : TC} {k : Nat} {X : Cx} (h : XOk ca fa C W t k X) {el : Expr} {gens : List Comprehension} {scope : Scope} {pos : Pos} (m : mat t (.lc own tg it c elt) (.ListComp el gens scope pos) = true) :
    ∃ (g iter : Expr) (ifs : List Expr) (wi : TI) (gg : L2.TG) (tt : TT) (te : TE) (ow : List (Str × Nat)), gens = [⟨g, iter, ifs, 0⟩] ∧ PI X g iter wi ∧ BlkOk X.N X.env.scope scope ow ∧
      (∀ (s : Shared) (H : Hp) (cc : Addr) (cl : List (Str × Addr)) (fp : List Addr), PG (X.blk s H scope (compEnvC scope cl cc X.env) fp) g gg) ∧
      (∀ (s : Shared) (H : Hp) (cc : Addr) (cl : List (Str × Addr)) (fp : List Addr), PTs (X.blk s H scope (compEnvC scope cl cc X.env) fp) ifs tt) ∧
      (∀ (s : Shared) (H : Hp) (cc : Addr) (cl : List (Str × Addr)) (fp : List Addr), PE (X.blk s H scope (compEnvC scope cl cc X.env) fp) el te) ∧ (∀ x, foldedSetIterable iter X.env x = pure x) ∧
      ∀ σ H Q, tM ca W (ev C (.lc own tg it c elt)) σ H Q → tLc wi gg tt te (ow.map (·.2)) σ H Q := by
  have m : (blkB t scope own && tg.all (fun i => own.contains i) && mat (t.inner scope) elt el && (match (generalizing := false) gens with
    | [⟨g, iter, ifs, n⟩] => decide (n = 0) && tgMat (t.inner scope) tg g && matIt t it iter && (isTup g || !(needTup it)) && !(isSetE iter) && (match (generalizing := false) ifs with
      | [] => isTrueK c
      | [f] => mat (t.inner scope) c f
      | _ => false)
    | _ => false)) = true := m
  rw [andB, andB, andB] at m
  obtain ⟨⟨⟨m1, m2⟩, m3⟩, m4⟩ := m
  split at m4
  · rename_i g iter ifs n
    rw [andB, andB, andB, andB, andB, notB] at m4
    obtain ⟨⟨⟨⟨⟨n1, n2⟩, n3⟩, n4⟩, n5⟩, n6⟩ := m4
    obtain rfl := of_decide_eq_true n1
    have hb := blk_of h m1
    have hown : (own.map fun i => ((t.N[i]?).getD Str.empty, i)).map (·.2) = own := by rw [List.map_map]; exact List.map_id' _
    have htg : ∀ i ∈ tg, i ∈ own := fun i hx => List.contains_iff_mem.mp (all_of m2 i hx)
    have hs : ∀ x, foldedSetIterable iter X.env x = pure x := by
      intro x
      cases iter <;> first | rfl | exact absurd (show true = false from n5) (by decide)
    have hpt : ∀ (s : Shared) (H : Hp) (cc : Addr) (cl : List (Str × Addr)) (fp : List Addr), PTs (X.blk s H scope (compEnvC scope cl cc X.env) fp) ifs (tMT ca WF (ev C c)) := by
      intro s H cc cl fp
      have hk := h.blk s H scope cc cl fp
      split at n6
      · have hcT : c = .bl true := by
          cases c with
          | bl b => cases b <;> first | rfl | exact absurd (show false = true from n6) (by decide)
          | _ => exact absurd (show false = true from n6) (by decide)
        subst hcT
        refine ⟨fun pins s σ H Q I hw => pts_nil.run pins s σ H Q I ?_⟩
        obtain ⟨M, env, S, rs, re, o⟩ := hw
        simp only [ev] at o
        obtain ⟨b, hb, q⟩ := out_v rs (.bl true) o
        cases hb
        exact q
      · exact pts_one (hc _ _ _ _ _ hk n6).pt
      · cases n6
    refine ⟨g, iter, ifs, _, gD X.K tg, _, _, own.map fun i => ((t.N[i]?).getD Str.empty, i), rfl, hi _ _ _ _ g iter h n3 n4, hb, fun s H cc cl fp => tg_of (h.blk s H scope cc cl fp) n2, hpt, fun s H cc cl fp => (he _ _ _ _ _ (h.blk s H scope cc cl fp) m3).pe, hs, fun σ H Q q => ?_⟩
    rw [hown]
    exact tM_lc htg q
  · cases m4
/-- .. whatever is done with its list -/
theorem comp_parts (GI : ∀ it, GoalIt ca fa C it) (GE : ∀ x, GoalE ca fa C x) {W : WX} {t : TC} {k : Nat} {X : Cx} (h : XOk ca fa C W t k X) {el : Expr} {gens : List Comprehension} {scope : Scope} {pos : Pos} : ∀ (x : Ex), mat t x (.ListComp el gens scope pos) = true →
    ∃ (g iter : Expr) (ifs : List Expr) (wi : TI) (gg : L2.TG) (tt : TT) (te : TE) (ow : List (Str × Nat)), gens = [⟨g, iter, ifs, 0⟩] ∧ PI X g iter wi ∧ BlkOk X.N X.env.scope scope ow ∧
      (∀ (s : Shared) (H : Hp) (cc : Addr) (cl : List (Str × Addr)) (fp : List Addr), PG (X.blk s H scope (compEnvC scope cl cc X.env) fp) g gg) ∧
      (∀ (s : Shared) (H : Hp) (cc : Addr) (cl : List (Str × Addr)) (fp : List Addr), PTs (X.blk s H scope (compEnvC scope cl cc X.env) fp) ifs tt) ∧
      (∀ (s : Shared) (H : Hp) (cc : Addr) (cl : List (Str × Addr)) (fp : List Addr), PE (X.blk s H scope (compEnvC scope cl cc X.env) fp) el te) ∧ (∀ x, foldedSetIterable iter X.env x = pure x) ∧
      ∀ σ H Q, tM ca W (ev C x) σ H Q → tLc wi gg tt te (ow.map (·.2)) σ H Q
  | .lc own tg it c elt, m => lc_parts (GI it) (GE c) (GE elt) h m
  | .ref x, m => by
    obtain ⟨g, iter, ifs, wi, gg, tt, te, own, a1, a2, a3, a4, a5, a6, a7, a8⟩ := comp_parts GI GE h x m
    exact ⟨g, iter, ifs, wi, gg, tt, te, own, a1, a2, a3, a4, a5, a6, a7, fun σ H Q z => a8 σ H Q (tM_ref z)⟩
  | .non, m => absurd (show false = true from m) (by decide)
  | .bl _, m => absurd (show false = true from m) (by decide)
  | .int _, m => absurd (show false = true from m) (by decide)
  | .str _, m => absurd (show false = true from m) (by decide)
  | .var _, m => absurd (show false = true from m) (by decide)
  | .bin _ _ _, m => absurd (show false = true from m) (by decide)
  | .neg _, m => absurd (show false = true from m) (by decide)
  | .not _, m => absurd (show false = true from m) (by decide)
  | .cmp _ _ _, m => absurd (show false = true from m) (by decide)
  | .cmp2 _ _ _ _ _, m => absurd (show false = true from m) (by decide)
  | .and _ _, m => absurd (show false = true from m) (by decide)
  | .or _ _, m => absurd (show false = true from m) (by decide)
  | .ite _ _ _, m => absurd (show false = true from m) (by decide)
  | .tup _, m => absurd (show false = true from m) (by decide)
  | .lst _, m => absurd (show false = true from m) (by decide)
  | .dict0, m => absurd (show false = true from m) (by decide)
  | .call _ _, m => absurd (show false = true from m) (by decide)
  | .make _ _, m => absurd (show false = true from m) (by decide)
  | .makek c es ks p, m => absurd m (by rw [makek_no (by intro fe as kws q z; cases z)]; decide)
  | .bi _ _, m => absurd (show false = true from m) (by decide)
  | .isi _ _, m => absurd (show false = true from m) (by decide)
  | .mt _ _ _, m => absurd (show false = true from m) (by decide)
  | .meth _ _ _, m => absurd (show false = true from m) (by decide)
  | .fld _ _, m => absurd (show false = true from m) (by decide)
  | .ix _ _, m => absurd (show false = true from m) (by decide)
  | .sl _ _ _, m => absurd (show false = true from m) (by decide)
  | .rev _, m => absurd (show false = true from m) (by decide)
  | .callk _ _ _ _, m => absurd (show false = true from m) (by decide)
  | .gget _ _, m => absurd (show false = true from m) (by decide)
  | .fstr _, m => absurd (show false = true from m) (by decide)
theorem c_lc {own tg : List Nat} {it : It} {c elt : Ex} (hi : GoalIt ca fa C it) (hc : GoalE ca fa C c) (he : GoalE ca fa C elt) : GoalE ca fa C (.lc own tg it c elt) := by
  intro W t k X e h m
  cases e with
  | ListComp el gens scope pos =>
    obtain ⟨g, iter, ifs, wi, gg, tt, te, ow, rfl, a2, a3, a4, a5, a6, a7, a8⟩ := lc_parts hi hc he h m
    exact P3.of (PE.imp (pe_lc h.calm h.nd a2 a3 a4 a5 a6 a7) a8) (fun _ => rfl)
  | _ => exact absurd (show false = true from m) (by decide)
theorem c_no {x : Ex} (hx : ∀ t e, mat t x e = false) : GoalE ca fa C x := by
  intro W t k X e h m
  rw [hx] at m; cases m
mutual
/-- every expression of the own syntax that the text has -/
theorem mE (ca fa : Nat → Addr) (C : Ctx) : ∀ x : Ex, GoalE ca fa C x
  | .non => c_non
  | .bl _ => c_bl
  | .int _ => c_int
  | .str _ => c_str
  | .var _ => c_var
  | .bin _ a b => c_bin (mE ca fa C a) (mE ca fa C b)
  | .neg a => c_neg (mE ca fa C a)
  | .not a => c_not (mE ca fa C a)
  | .cmp _ a b => c_cmp (mE ca fa C a) (mE ca fa C b)
  | .cmp2 _ _ a b c => c_cmp2 (mE ca fa C a) (mE ca fa C b) (mE ca fa C c)
  | .and a b => c_and (mE ca fa C a) (mE ca fa C b)
  | .or a b => c_or (mE ca fa C a) (mE ca fa C b)
  | .ite c a b => c_ite (mE ca fa C c) (mE ca fa C a) (mE ca fa C b)
  | .tup es => c_tup (mEs ca fa C es)
  | .lst es => c_lst (mEs ca fa C es)
  | .dict0 => c_dict0
  | .call _ es => c_call (mEs ca fa C es)
  | .make _ es => c_make (mEs ca fa C es)
  | .makek _ es (.cons false x .nil) _ => c_makek fun y hy => by cases hy; exact mE ca fa C x
  | .makek _ es .nil _ => c_makek fun y hy => by cases hy
  | .makek _ es (.cons true x xs) _ => c_makek fun y hy => by cases hy
  | .makek _ es (.cons false x (.cons _ _ _)) _ => c_makek fun y hy => by cases hy
  | .bi _ es => c_bi (mEs ca fa C es)
  | .isi a ts => c_isi (mE ca fa C a)
  | .mt m o es => c_mt (mE ca fa C o) (mEs ca fa C es)
  | .meth _ o es => c_meth (mE ca fa C o) (mEs ca fa C es)
  | .fld o _ => c_fld (mE ca fa C o)
  | .ix a i => c_ix (mE ca fa C a) (mE ca fa C i)
  | .sl a lo hi => c_sl (mE ca fa C a) (mE ca fa C lo) (mE ca fa C hi)
  | .rev a => c_rev (mE ca fa C a)
  | .ref a => c_ref (mE ca fa C a)
  | .lc _ _ it c e => c_lc (mIt ca fa C it) (mE ca fa C c) (mE ca fa C e)
  | .callk _ _ _ _ => c_no fun t e => by cases e <;> rfl
  | .gget _ _ => c_no fun t e => by cases e <;> rfl
  | .fstr _ => c_no fun t e => by cases e <;> rfl
theorem mEs (ca fa : Nat → Addr) (C : Ctx) : ∀ x : Exs, GoalEs ca fa C x
  | .nil => cs_nil
  | .cons _ x xs => cs_cons (mE ca fa C x) (mEs ca fa C xs)
theorem mIt (ca fa : Nat → Addr) (C : Ctx) : ∀ x : It, GoalIt ca fa C x
  | .seq x => ci_seq (mE ca fa C x)
  | .rng1 x => ci_rng1 (mE ca fa C x)
  | .rng2 x y => ci_rng2 (mE ca fa C x) (mE ca fa C y)
  | .enum x => ci_enum (mE ca fa C x)
  | .zip x y => ci_zip (mE ca fa C x) (mE ca fa C y)
end
end K9
end
section
set_option Elab.async false
set_option linter.all false
set_option maxRecDepth 100000
set_option maxHeartbeats 0
/-! K9Main4: statements of the own syntax. -/
namespace K9
open PySem PySem.Spec PyProof.Rows L2
variable {ca fa : Nat → Addr} {C : Ctx}
/-- what is known of a def's own body -/
structure XS (ca fa : Nat → Addr) (C : Ctx) (W : WX) (t : TC) (k : Nat) (X : Cx) : Prop where
  x : XOk ca fa C W t k X
  po : PassesOwn (model X.prog X.w) X.A X.env X.xe
  kd : X.env.scope.kind = .function
section
variable (ca fa : Nat → Addr) (C : Ctx)
def GoalS (s : Sm) : Prop := ∀ (W : WX) (t : TC) (k : Nat) (X : Cx) (st : Stmt) (M0 : Mem) (H0 : Hp), XS ca fa C W t k X → matS t s st = true → PS X st (tS ca W M0 H0 (exS C s))
def GoalSs (ss : Sms) : Prop := ∀ (W : WX) (t : TC) (k : Nat) (X : Cx) (st : List Stmt) (M0 : Mem) (H0 : Hp), XS ca fa C W t k X → matSs t ss st = true → PSs X st (tS ca W M0 H0 (exSs C ss))
end
variable {W : WX} {t : TC} {k : Nat} {X : Cx} {pos : Pos} {M0 : Mem} {H0 : Hp}
theorem XS.bk (h : XS ca fa C W t k X) : X.env.blockKind = .function := by
  unfold Env.blockKind
  rw [h.kd]; rfl
theorem sw_eq (h : XS ca fa C W t k X) {x : Str} {p : Pos} {v : Expr} {line : Nat} (hs : ∀ a b c d, v ≠ .SetComp a b c d) (hd : ∀ a b c d e, v ≠ .DictComp a b c d e) : swapsWith v (some (.Name x p)) line X.env = pure (swB t x p v) := by
  cases v with
  | ListComp el g sc q =>
    unfold swapsWith
    show pure (X.env.blockKind == .function && X.env.kindOf x == some .local && p.line == q.line && !(sc.names.any fun (n, k) => n == x && (k == .local || k == .cell))) = _
    rw [h.bk]
    unfold swB isLocN Env.kindOf
    rw [h.x.sc]
    rfl
  | SetComp a b c d => exact absurd rfl (hs a b c d)
  | DictComp a b c d e => exact absurd rfl (hd a b c d e)
  | _ => rfl
theorem mat_noset : ∀ {x : Ex} {v : Expr}, mat t x v = true → (∀ a b c d, v ≠ .SetComp a b c d) ∧ ∀ a b c d e, v ≠ .DictComp a b c d e
  | x, v, m => by
    have key : ∀ (x : Ex), (∀ a b c d, mat t x (.SetComp a b c d) = false) ∧ ∀ a b c d e, mat t x (.DictComp a b c d e) = false := by
      intro x
      induction x using Ex.rec (motive_2 := fun _ => True) (motive_3 := fun _ => True) with
      | ref x ih => exact ih
      | makek c es ks p => exact ⟨fun a b c d => makek_no (by intro fe as kws q z; cases z), fun a b c d e => makek_no (by intro fe as kws q z; cases z)⟩
      | nil => trivial
      | cons => trivial
      | seq => trivial
      | rng1 => trivial
      | rng2 => trivial
      | enum => trivial
      | zip => trivial
      | _ => exact ⟨fun _ _ _ _ => rfl, fun _ _ _ _ _ => rfl⟩
    exact ⟨(fun a b c d z => by subst z; rw [(key x).1] at m; cases m), (fun a b c d e z => by subst z; rw [(key x).2] at m; cases m)⟩
/-- name = e, by what the name's store asks -/
theorem set_name (h : XS ca fa C W t k X) {i : Nat} {x : Str} {p : Pos} {v : Expr} {e : Ex} {t' : TS} (m1 : t.loc i x = true) (m2 : mat t e v = true) (hq : ∀ D σ H, t' D σ H → tAsg (tM ca W (ev C e)) (gName i) D σ H) : PS X (.Assign [.Name x p] v pos) t' := by
  obtain ⟨g1, g2, g3⟩ := h.x.lcl m1
  obtain ⟨n1, n2⟩ := mat_noset m2
  have sw := fun line => sw_eq (line := line) h (x := x) (p := p) (v := v) n1 n2
  cases hb : swB t x p v with
  | false =>
    refine PS.imp (ps_set h.x.nd g1 g2 ((mE ca fa C e) _ _ _ _ _ h.x m2).pe (by rw [sw, hb]) g3) hq
  | true =>
    cases v with
    | ListComp el gens scope q =>
      obtain ⟨g, iter, ifs, wi, gg, tt, te, ow, rfl, a2, a3, a4, a5, a6, a7, a8⟩ := comp_parts (mIt ca fa C) (mE ca fa C) h.x e m2
      have hl : X.env.scope.names.lookup x = some .local := by
        unfold swB isLocN at hb
        rw [andB, andB] at hb
        rw [h.x.sc]
        exact eq_of_beq hb.1.1
      refine PS.imp (ps_setLc h.x.calm h.x.nd g1 hl (by rw [sw, hb]) a2 a3 a4 a5 a6 a7) fun D σ H z => ?_
      exact a8 σ H _ (hq D σ H z)
    | _ => exact absurd (show false = true from hb) (by decide)
theorem s_asg {i : Nat} {e : Ex} : GoalS ca fa C (.asg i e) := by
  intro W t k X st M0 H0 h m
  cases st with
  | Assign tgs v pos =>
    cases tgs with
    | nil => exact absurd (show false = true from m) (by decide)
    | cons tg tgs =>
      cases tgs with
      | cons _ _ => cases tg <;> exact absurd (show false = true from m) (by decide)
      | nil =>
        cases tg with
        | Name x p =>
          have m : (t.loc i x && mat t e v) = true := m
          rw [andB] at m
          exact set_name h m.1 m.2 fun D σ H z => asg_name z
        | _ => exact absurd (show false = true from m) (by decide)
  | _ => exact absurd (show false = true from m) (by decide)
theorem s_acc {i : Nat} {e : Ex} : GoalS ca fa C (.acc i e) := by
  intro W t k X st M0 H0 h m
  cases st with
  | Assign tgs v pos =>
    cases tgs with
    | nil => exact absurd (show false = true from m) (by decide)
    | cons tg tgs =>
      cases tgs with
      | cons _ _ => cases tg <;> exact absurd (show false = true from m) (by decide)
      | nil =>
        cases tg with
        | Name x p =>
          have m : (t.loc i x && mat t e v) = true := m
          rw [andB] at m
          exact set_name h m.1 m.2 fun D σ H z => acc_name z
        | _ => exact absurd (show false = true from m) (by decide)
  | _ => exact absurd (show false = true from m) (by decide)
theorem s_unp {is : List Nat} {e : Ex} : GoalS ca fa C (.unp is e) := by
  intro W t k X st M0 H0 h m
  cases st with
  | Assign tgs v pos =>
    cases tgs with
    | nil => exact absurd (show false = true from m) (by decide)
    | cons tg tgs =>
      cases tgs with
      | cons _ _ => cases tg <;> exact absurd (show false = true from m) (by decide)
      | nil =>
        cases tg with
        | Tuple ts kk p =>
          have m : (tgMat t is (.Tuple ts kk p) && mat t e v && !(isComp v) && !(isTup v)) = true := m
          rw [andB, andB, andB, notB, notB] at m
          obtain ⟨⟨⟨m1, m2⟩, m3⟩, m4⟩ := m
          refine PS.imp (ps_asg ((mE ca fa C e) _ _ _ _ _ h.x m2).pe (tg_of h.x m1) ?_ ?_ (by rfl)) fun D σ H z => unp_name z
          · cases v <;> first | rfl | exact absurd (show true = false from m3) (by decide)
          · cases v <;> first | rfl | exact absurd (show true = false from m4) (by decide)
        | _ => exact absurd (show false = true from m) (by decide)
  | _ => exact absurd (show false = true from m) (by decide)
theorem s_setix {o i e : Ex} : GoalS ca fa C (.setix o i e) := by
  intro W t k X st M0 H0 h m
  cases st with
  | Assign tgs v pos =>
    cases tgs with
    | nil => exact absurd (show false = true from m) (by decide)
    | cons tg tgs =>
      cases tgs with
      | cons _ _ => cases tg <;> exact absurd (show false = true from m) (by decide)
      | nil =>
        cases tg with
        | Subscript a b p =>
          have m : (mat t e v && mat t o a && mat t i b && !(isSlice b) && !(isComp v)) = true := m
          rw [andB, andB, andB, andB, notB, notB] at m
          obtain ⟨⟨⟨⟨m1, m2⟩, m3⟩, m4⟩, m5⟩ := m
          exact sndS_setix h.x.hu1 m4 m5 (mE ca fa C o _ _ _ _ _ h.x m2).pe (mE ca fa C i _ _ _ _ _ h.x m3).pe (mE ca fa C e _ _ _ _ _ h.x m1).pe
        | _ => exact absurd (show false = true from m) (by decide)
  | _ => exact absurd (show false = true from m) (by decide)
theorem s_mut {mm : Mt} {o : Ex} {xs : Exs} : GoalS ca fa C (.mut mm o xs) := by
  intro W t k X st M0 H0 h m
  cases st with
  | Expr e pos =>
    cases e with
    | Call fe es kws p2 =>
      cases fe with
      | Attribute v x apos =>
        cases kws with
        | cons _ _ => exact absurd (show false = true from m) (by decide)
        | nil =>
          have m : (mutCov mm && mtOf x == some mm && mat t o v && mats t xs es && !(es.any isStar) && okBase v && decide (es.length < 30) && apos.endLine == p2.line) = true := m
          rw [andB, andB, andB, andB, andB, andB, andB, notB] at m
          obtain ⟨⟨⟨⟨⟨⟨⟨m0, m1⟩, m2⟩, m3⟩, m4⟩, m5⟩, m6⟩, m7⟩ := m
          have F : MutF ca X mm x := by
            have m1 := eq_of_beq m1
            unfold mtOf at m1
            simp only [List.lookup] at m1
            repeat' split at m1
            all_goals first
              | (cases m1; done)
              | (cases m1; exact absurd m0 (by decide))
              | (cases m1
                 rename_i hx
                 obtain rfl := eq_of_beq hx
                 first | exact mutF_append | exact mutF_reverse | exact mutF_clear | exact mutF_extend)
          cases es with
          | nil =>
            have hx := nil_of m3 rfl
            subst hx
            exact sndS_mut0 F m5 m7 (mE ca fa C o _ _ _ _ _ h.x m2).pe
          | cons e es => exact sndS_mut F m5 m4 (of_decide_eq_true m6) m7 (mE ca fa C o _ _ _ _ _ h.x m2).pe ((mEs ca fa C xs _ _ _ _ _ h.x m3).2 m4)
      | _ => exact absurd (show false = true from m) (by decide)
    | _ => exact absurd (show false = true from m) (by decide)
  | _ => exact absurd (show false = true from m) (by decide)
theorem s_expr {e : Ex} : GoalS ca fa C (.expr e) := by
  intro W t k X st M0 H0 h m
  cases st with
  | Expr v pos =>
    have m : (mat t e v && !(isComp v)) = true := m
    rw [andB, notB] at m
    refine sndS_expr (mE ca fa C e _ _ _ _ _ h.x m.1).pe ?_
    cases v <;> first | rfl | exact absurd (show true = false from m.2) (by decide)
  | _ => exact absurd (show false = true from m) (by decide)
theorem s_ret {e : Ex} : GoalS ca fa C (.ret e) := by
  intro W t k X st M0 H0 h m
  cases st with
  | Return v pos =>
    cases v with
    | some v => exact sndS_ret (mE ca fa C e _ _ _ _ _ h.x m).pe
    | none =>
      have m : isNonK e = true := m
      obtain rfl := nonK.1 m
      refine PS.imp ps_retN fun E σ H ⟨M, env, S, e0, h0, rs, re, o⟩ => ?_
      simp only [exS, ev] at o
      exact (show OutS ca W M0 H0 M (.ok (.rt .non) S) E from o) .non M H ExtM.refl e0 rs .non
  | _ => exact absurd (show false = true from m) (by decide)
theorem s_pass : GoalS ca fa C .pass := by
  intro W t k X st M0 H0 h m
  cases st with
  | Pass pos => exact sndS_pass
  | Expr e pos =>
    cases e with
    | Constant c kk q =>
      cases c with
      | str s => exact PS.imp ps_doc fun E σ H ⟨M, env, S, e0, h0, rs, re, o⟩ => outS_nx (by simpa only [exS] using o) e0 rs re
      | _ => exact absurd (show false = true from m) (by decide)
    | _ => exact absurd (show false = true from m) (by decide)
  | _ => exact absurd (show false = true from m) (by decide)
theorem s_cont : GoalS ca fa C .cont := by
  intro W t k X st M0 H0 h m
  cases st with
  | Continue pos => exact sndS_cont
  | _ => exact absurd (show false = true from m) (by decide)
theorem s_ite {c : Ex} {a b : Sms} (ha : GoalSs ca fa C a) (hb : GoalSs ca fa C b) : GoalS ca fa C (.ite c a b) := by
  intro W t k X st M0 H0 h m
  cases st with
  | If e p q pos =>
    have m : (mat t c e && matSs t a p && matSs t b q) = true := m
    rw [andB, andB] at m
    exact sndS_ite (mE ca fa C c _ _ _ _ _ h.x m.1.1).pt (ha _ _ _ _ _ _ _ h m.1.2) (hb _ _ _ _ _ _ _ h m.2)
  | _ => exact absurd (show false = true from m) (by decide)
theorem s_for {is : List Nat} {it : It} {b : Sms} (hb : GoalSs ca fa C b) : GoalS ca fa C (.for_ is it b) := by
  intro W t k X st M0 H0 h m
  cases st with
  | For g iter body els pos =>
    cases els with
    | cons _ _ => exact absurd (show false = true from m) (by decide)
    | nil =>
      have m : (tgMat t is g && matIt t it iter && (isTup g || !(needTup it)) && !(isSetE iter) && matSs t b body) = true := m
      rw [andB, andB, andB, andB, notB] at m
      obtain ⟨⟨⟨⟨m1, m2⟩, m3⟩, m4⟩, m5⟩ := m
      refine sndS_for h.po h.x.calm (mIt ca fa C it _ _ _ _ g iter h.x m2 m3) (tg_of h.x m1) (hb _ _ _ _ _ _ _ h m5) fun x => ?_
      cases iter <;> first | rfl | exact absurd (show true = false from m4) (by decide)
  | _ => exact absurd (show false = true from m) (by decide)


theorem s_no {x : Sm} (hx : ∀ t e, matS t x e = false) : GoalS ca fa C x := by
  intro W t k X st M0 H0 h m
  rw [hx] at m; cases m
theorem ss_nil : GoalSs ca fa C .nil := by
  intro W t k X st M0 H0 h m
  cases st with
  | nil => exact sndS_nil
  | cons _ _ => exact absurd (show false = true from m) (by decide)
theorem ss_frz {i : Nat} {ss : Sms} (hs : GoalSs ca fa C ss) : GoalSs ca fa C (.cons (.frz i) ss) := by
  intro W t k X st M0 H0 h m
  exact sndS_ghost (fun E σ H z => frz_name z) (hs _ _ _ _ _ _ _ h m)
theorem ss_cons {s : Sm} {ss : Sms} (hf : ∀ i, s ≠ .frz i) (h1 : GoalS ca fa C s) (hs : GoalSs ca fa C ss) : GoalSs ca fa C (.cons s ss) := by
  intro W t k X st M0 H0 h m
  cases st with
  | nil => cases s <;> first | exact absurd (show false = true from m) (by decide) | exact absurd rfl (hf _)
  | cons s1 sts =>
    have m : (matS t s s1 && matSs t ss sts) = true := by cases s <;> first | exact m | exact absurd rfl (hf _)
    rw [andB] at m
    exact sndS_cons (h1 _ _ _ _ _ _ _ h m.1) (hs _ _ _ _ _ _ _ h m.2)
mutual
theorem mS (ca fa : Nat → Addr) (C : Ctx) : ∀ s : Sm, GoalS ca fa C s
  | .asg _ _ => s_asg
  | .acc _ _ => s_acc
  | .frz _ => s_no fun t e => by cases e <;> rfl
  | .unp _ _ => s_unp
  | .par _ _ => s_no fun t e => by cases e <;> rfl
  | .setix _ _ _ => s_setix
  | .setfld _ _ _ => s_no fun t e => by cases e <;> rfl
  | .mut _ _ _ => s_mut
  | .expr _ => s_expr
  | .ret _ => s_ret
  | .ite _ a b => s_ite (mSs ca fa C a) (mSs ca fa C b)
  | .for_ _ _ b => s_for (mSs ca fa C b)
  | .whl _ _ => s_no fun t e => by cases e <;> rfl
  | .raise _ _ => s_no fun t e => by cases e <;> rfl
  | .cont => s_cont
  | .pass => s_pass
theorem mSs (ca fa : Nat → Addr) (C : Ctx) : ∀ s : Sms, GoalSs ca fa C s
  | .nil => ss_nil
  | .cons (.frz _) ss => ss_frz (mSs ca fa C ss)
  | .cons (.asg i e) ss => ss_cons (fun _ z => nomatch z) (mS ca fa C (.asg i e)) (mSs ca fa C ss)
  | .cons (.acc i e) ss => ss_cons (fun _ z => nomatch z) (mS ca fa C (.acc i e)) (mSs ca fa C ss)
  | .cons (.unp i e) ss => ss_cons (fun _ z => nomatch z) (mS ca fa C (.unp i e)) (mSs ca fa C ss)
  | .cons (.par i e) ss => ss_cons (fun _ z => nomatch z) (mS ca fa C (.par i e)) (mSs ca fa C ss)
  | .cons (.setix a i e) ss => ss_cons (fun _ z => nomatch z) (mS ca fa C (.setix a i e)) (mSs ca fa C ss)
  | .cons (.setfld a i e) ss => ss_cons (fun _ z => nomatch z) (mS ca fa C (.setfld a i e)) (mSs ca fa C ss)
  | .cons (.mut a i e) ss => ss_cons (fun _ z => nomatch z) (mS ca fa C (.mut a i e)) (mSs ca fa C ss)
  | .cons (.expr e) ss => ss_cons (fun _ z => nomatch z) (mS ca fa C (.expr e)) (mSs ca fa C ss)
  | .cons (.ret e) ss => ss_cons (fun _ z => nomatch z) (mS ca fa C (.ret e)) (mSs ca fa C ss)
  | .cons (.ite c a b) ss => ss_cons (fun _ z => nomatch z) (mS ca fa C (.ite c a b)) (mSs ca fa C ss)
  | .cons (.for_ c a b) ss => ss_cons (fun _ z => nomatch z) (mS ca fa C (.for_ c a b)) (mSs ca fa C ss)
  | .cons (.whl c a) ss => ss_cons (fun _ z => nomatch z) (mS ca fa C (.whl c a)) (mSs ca fa C ss)
  | .cons (.raise c a) ss => ss_cons (fun _ z => nomatch z) (mS ca fa C (.raise c a)) (mSs ca fa C ss)
  | .cons .cont ss => ss_cons (fun _ z => nomatch z) (mS ca fa C .cont) (mSs ca fa C ss)
  | .cons .pass ss => ss_cons (fun _ z => nomatch z) (mS ca fa C .pass) (mSs ca fa C ss)
end
end K9
end
section
set_option Elab.async false
set_option linter.all false
set_option maxRecDepth 100000
set_option maxHeartbeats 0
/-! K9Top: the defs of a module keep the evaluator's promise. -/
namespace K9
open PySem PySem.Spec PyProof.Rows L2
section
variable {ca : Nat → Addr} {M : Mem} {Hx : Hp}
mutual
theorem Rep.swap : ∀ {v : V} {d : D}, Rep ca M v d → Rep ca { M with H0 := Hx } v d
  | _, _, .non => .non
  | _, _, .bl b => .bl b
  | _, _, .int i => .int i
  | _, _, .str s => .str s
  | _, _, .tup h r => .tup (M := { M with H0 := Hx }) h (RepL.swap r)
  | _, _, .lst h r => .lst (M := { M with H0 := Hx }) h (RepL.swap r)
  | _, _, .dct h e r => .dct (M := { M with H0 := Hx }) h e (RepL.swap r)
  | _, _, .ins h e r => .ins (M := { M with H0 := Hx }) h e (RepL.swap r)
  | _, _, .exc h1 h2 r => .exc (M := { M with H0 := Hx }) h1 h2 (Rep.swap r)
  | _, _, .ref h => .ref (M := { M with H0 := Hx }) h
  | _, _, .scr h r => .scr (M := { M with H0 := Hx }) h (RepL.swap r)
theorem RepL.swap : ∀ {vs : List V} {ds : List D}, RepL ca M vs ds → RepL ca { M with H0 := Hx } vs ds
  | _, _, .nil => .nil
  | _, _, .cons r t => .cons (Rep.swap r) (RepL.swap t)
end
theorem ObR.swap {ho : HO} {ob : Ob} (r : ObR ca M ho ob) : ObR ca { M with H0 := Hx } ho ob := by
  cases r with
  | lst r => exact .lst r.swap
  | dct e r => exact .dct e r.swap
  | ins e r => exact .ins e r.swap
theorem RelS.swap {S : Sto} {H : Hp} (rs : RelS ca M S H) (h : ∀ a, H a = none → Hx a = none) : RelS ca { M with H0 := Hx } S H := by
  refine ⟨rs.frz, rs.len, rs.nd, rs.off, fun n ob e => ?_, h⟩
  obtain ⟨a, ho, h1, h2, h3⟩ := rs.ob n ob e
  exact ⟨a, ho, h1, h2, h3.swap⟩
end
/-- the entry's names -/
theorem rel_start {ca : Nat → Addr} {M : Mem} {H : Hp} {fn : Fn} {N : List Str} {vs : List V} {ds : List D} (r : RepL ca M vs ds) (hn : fn.nms = N.length) : RelE ca M (startE fn ds) (L2.start N vs) H := by
  have hl := r.length
  refine ⟨?_, fun i s h => ?_, fun i j o o' h1 h2 h3 => ?_⟩
  · unfold startE L2.start
    simp only [List.length_append, List.length_map, List.length_replicate, hl, hn]
  · unfold startE at h
    unfold L2.start
    by_cases hi : i < ds.length
    · rw [List.getElem?_append_left (by simpa using hi), List.getElem?_map] at h
      rw [List.getElem?_append_left (by rw [List.length_map, hl]; exact hi), List.getElem?_map]
      cases hd : ds[i]? with
      | none => rw [hd] at h; cases h
      | some d =>
        rw [hd] at h
        cases h
        obtain ⟨v, hv, rv⟩ := r.get hd
        rw [hv]
        exact .fz rv
    · rw [List.getElem?_append_right (by simpa using hi)] at h
      rw [List.getElem?_replicate] at h
      split at h
      · cases h; exact .no
      · cases h
  · unfold startE at h1
    by_cases hi : i < ds.length
    · rw [List.getElem?_append_left (by simpa using hi), List.getElem?_map] at h1
      cases hd : ds[i]? with
      | none => rw [hd] at h1; cases h1
      | some d => rw [hd] at h1; cases h1
    · rw [List.getElem?_append_right (by simpa using hi), List.getElem?_replicate] at h1
      split at h1 <;> cases h1
/-- a def's text -/
def DefT (K : PySem.W.Frag) (g : GT) (fa : Nat → Addr) (f : Nat) (fn : Fn) (fd : FuncData) (ps : List Str) : Prop :=
  ∃ (x qual : Str) (st : Stmt) (N : List Str), Fun K x qual st (fa f) fd ∧ FnScope N ps (defScope st) ∧ matSs ⟨N, defScope st, defScope st, g⟩ fn.body (defBody st) = true ∧ fn.ps = ps.length ∧ fn.nms = N.length ∧ (defScope st).kind = .function ∧ Binds K fd ps []
/-- a def under a context keeps its promise -/
theorem def_step {ca fa : Nat → Addr} {P : Program} {w : World} {K : PySem.W.Frag} {mg : Str → Option Value} {base : Heap} {C : Ctx} {g : GT} {k f : Nat} {fn : Fn} {fd : FuncData} {ps : List Str}
    (m : ModOk ca fa P w K mg base k C g) (T : DefT K g fa f fn fd ps) : FnG P w K mg base (k + 3) (fa f) fd ps (spF ca (runFn C fn)) := by
  obtain ⟨x, qual, st, N, hF, hS, hm, h1, h2, hkd, hb⟩ := T
  refine fnG_of hF hS (fun vs H Q E h => ?_) (fun cdv A outer s H vs Q E hg hr h => ?_)
  · obtain ⟨M, S, ds, rs, r, o⟩ := h
    unfold runFn chk at o
    by_cases hl : ds.length = fn.ps
    · rw [r.length, hl, h1]
    · rw [if_neg hl] at o; exact o.elim
  · obtain ⟨M, S, ds, rs, r, o⟩ := h
    have hx : XOk ca fa C (fun cls d _ H' => E cls d H') ⟨N, defScope st, defScope st, g⟩ k (cxOf (L2.CX P w) P w K mg base N qual (defScope st) (fa f) cdv A outer s H E) :=
      ⟨m, rfl, hS.nd, rfl, fun x hx => ⟨hx, .inl rfl⟩, rfl, hg, hr, takes_of rfl rfl rfl rfl⟩
    refine ⟨_, mSs ca fa C fn.body _ _ k _ _ { M with H0 := H } H ⟨hx, passes_of rfl, hkd⟩ hm, ?_⟩
    refine ⟨{ M with H0 := H }, startE fn ds, S, Ext.refl, rfl, rs.swap fun a h => h, rel_start r.swap h2, ?_⟩
    have back : ∀ {M' : Mem} {H' : Hp}, Ext { M with H0 := H } H M' H' → Ext M H { M' with H0 := M.H0 } H' := fun e => ⟨e.F, e.mu, rfl, e.sa, e.rest, e.newF, e.newM, e.dom⟩
    have backS : ∀ {M' : Mem} {H' : Hp} {S' : Sto}, Ext { M with H0 := H } H M' H' → RelS ca M' S' H' → RelS ca { M' with H0 := M.H0 } S' H' := fun e r' => r'.swap fun a ha => rs.h0 a (e.none ha)
    unfold runFn chk at o
    by_cases hl : ds.length = fn.ps
    · rw [if_pos hl] at o
      cases hb : exSs C fn.body (startE fn ds) S with
      | bad => rw [hb] at o; exact o.elim
      | er c d S' =>
        rw [hb] at o
        intro cls dd σ' M' H' em e rs' ex hd
        refine o cls dd { M' with H0 := M.H0 } H' (back e) (backS e rs') ?_ hd
        obtain ⟨a1, a, v, a2, a3, a4, a5, a6⟩ := ex
        exact ⟨a1, a, v, a2, a3, a4, a5, a6.swap⟩
      | ok fl S' =>
        rw [hb] at o
        cases fl with
        | nx env' => exact fun σ' M' H' em e rs' re' => (show OutF ca M H (.ok .non S') Q E from o) .non { M' with H0 := M.H0 } H' (back e) (backS e rs') .non
        | ct env' => exact (show False from o).elim
        | rt d =>
          intro v M' H' em e rs' ru
          refine (show OutF ca M H (.ok d S') Q E from o) v { M' with H0 := M.H0 } H' (back e) (backS e rs') ?_
          cases d with
          | acc i => exact ru
          | own d =>
            obtain ⟨p, ho, ob, a1, a2, a3, a4, a5, a6, a7⟩ := ru
            exact ⟨p, ho, ob, a1, a2, a3, a4, a5.swap, a6, a7⟩
          | _ => exact (show Rep ca M' v _ from ru).swap
    · rw [if_neg hl] at o; exact o.elim
/-- what the module's written part says -/
structure ModT (ca fa : Nat → Addr) (P : Program) (w : World) (K : PySem.W.Frag) (mg : Str → Option Value) (g : GT) (Pr : Prog) : Prop where
  kf : KF K ca Pr.sub
  ka : KA K ca fa Pr.attr Pr.meth
  df : ∀ f fn, Pr.fn f = some fn → ∃ fd ps, DefT K g fa f fn fd ps
  fns : ∀ x f, g.fns.lookup x = some f → mg x = some (.ref (fa f)) ∧ PySem.W.keepIn K (.ref (fa f)) = true ∧ ∃ fn, Pr.fn f = some fn
  cls : ∀ x c, g.cls.lookup x = some c → mg x = some (.ref (ca c)) ∧ PySem.W.keepIn K (.ref (ca c)) = true ∧ g.errs.contains c = true
  ers : ∀ c, g.errs.contains c = true → (∃ l, Pr.cl c = some l ∧ l.err = true) ∧ ∃ (fI : Addr) (fdI : FuncData), ExcT K (ca c) fI ∧ (∀ base, FnOk P w K mg base CX0 1 fI fdI (["self", "value"] : List Str) (spEI K)) ∧
    (∀ (s : Shared) (self u : Value), K.In s.heap → BindsTo s fdI ⟨[self, u], []⟩ ((["self", "value"] : List Str).zip [self, u])) ∧
    (∀ (s : Shared) (self u : Value), K.In s.heap → BindsTo s fdI ⟨[self], [(("value" : Str), u)]⟩ ((["self", "value"] : List Str).zip [self, u]))
  gS : ∀ x s, g.gS.lookup x = some s → ∃ u, mg x = some u ∧ RelV (.str s) u
  gI : ∀ x i, g.gI.lookup x = some i → ∃ u, mg x = some u ∧ RelV (.int i) u
  bl : ∀ x, g.bl.contains x = true → mg x = none
  prop : ∀ c f n, Pr.attr c f = some (some n) → ∃ fn, Pr.fn n = some fn
  meth : ∀ c x n, Pr.meth c x = some n → ∃ fn, Pr.fn n = some fn
section
variable {ca fa : Nat → Addr} {P : Program} {w : World} {K : PySem.W.Frag} {mg : Str → Option Value} {base : Heap} {g : GT} {Pr : Prog} {wf : Nat}
/-- every def at a depth -/
def AtN (ca fa : Nat → Addr) (P : Program) (w : World) (K : PySem.W.Frag) (mg : Str → Option Value) (base : Heap) (g : GT) (Pr : Prog) (wf n : Nat) : Prop :=
  ∀ f fn fd ps, Pr.fn f = some fn → DefT K g fa f fn fd ps → FnG P w K mg base (3 * n) (fa f) fd ps (spF ca (callT Pr wf n f))
theorem modOk_of (m : ModT ca fa P w K mg g Pr) {n : Nat} (h : AtN ca fa P w K mg base g Pr wf n) : ModOk ca fa P w K mg base (3 * n) (ctxT Pr wf n) g := by
  have fT : ∀ f fn, Pr.fn f = some fn → FnT ca fa P w K mg base (3 * n) (ctxT Pr wf n).call f := fun f fn hf => by
    obtain ⟨fd, ps, T⟩ := m.df f fn hf
    refine ⟨fd, ps, h f fn fd ps hf T, ?_⟩
    obtain ⟨_, _, _, _, _, _, _, _, _, _, hb⟩ := T
    exact hb
  refine ⟨m.kf, m.ka, fun x f hx => ?_, fun x c hx => ?_, m.gS, m.gI, m.bl, fun c f n' hx => ?_, fun c x n' hx => ?_⟩
  · obtain ⟨a, b, fn, hf⟩ := m.fns x f hx
    exact ⟨a, b, fT f fn hf⟩
  · obtain ⟨a, b, hc⟩ := m.cls x c hx
    obtain ⟨⟨l, hl, he⟩, fI, fdI, T, F1, b1, b2⟩ := m.ers c hc
    refine ⟨a, b, .inl ⟨hc, fI, fdI, T, F1 base, b1, b2, ?_⟩⟩
    funext ds S
    show makeT Pr wf n c ds S = _
    cases n with
    | zero => simp only [makeT, hl, oget, he, if_true] <;> rfl
    | succ n => simp only [makeT, hl, oget, he, if_true] <;> rfl
  · obtain ⟨fn, hf⟩ := m.prop c f n' hx
    exact fT n' fn hf
  · obtain ⟨fn, hf⟩ := m.meth c x n' hx
    exact fT n' fn hf
theorem atN (m : ModT ca fa P w K mg g Pr) : ∀ n, AtN ca fa P w K mg base g Pr wf n
  | 0 => fun f fn fd ps hf T => by
    refine ⟨fun vs H Q E h => ?_, fun A outer s H args us vs Q E _ _ _ _ _ h => ?_⟩
    · obtain ⟨M, S, ds, rs, r, o⟩ := h
      exact o.elim
    · obtain ⟨M, S, ds, rs, r, o⟩ := h
      exact o.elim
  | n + 1 => fun f fn fd ps hf T => by
    have q := def_step (modOk_of m (atN m n)) T
    have e : callT Pr wf (n + 1) f = runFn (ctxT Pr wf n) fn := by
      funext ds S
      simp only [callT, hf, oget]
      rfl
    rw [e]
    exact q
end
/-- the law's end: its def answers True to every script -/
theorem law_end {ca fa : Nat → Addr} {M : Mem} {H : Hp} {S : Sto} {g : List D → Sto → R D} {a : Addr} {ns : List Int} {K : PySem.W.Frag} {vs : List V} : True := trivial
end K9
end
section
set_option Elab.async false
set_option linter.all false
set_option maxRecDepth 100000
set_option maxHeartbeats 0
/-! K9Hd: a law's table; what the head must show; from there to the module's facts. -/
namespace K9
open PySem PySem.Spec PyProof.Rows L2

/-- a def of the table -/
structure DRow where
  at_ : Str × Option Str
  name : Str
  qual : Str
  st : Stmt
  ps : List Str
  N : List Str
  body : Sms
def DRow.d (r : DRow) : He.DefD := ⟨r.at_, r.name, r.qual, defArgs r.st, defBody r.st, defScope r.st, [], []⟩
def DRow.fn (r : DRow) : Fn := ⟨r.ps.length, r.N.length, r.body⟩
/-- a law's table: its defs, its classes (the errors first, their base at 0), its texts and numbers, the built-ins that it names, the errors' maker -/
structure Tab where
  rows : List DRow
  cs : List Str
  ne : Nat
  gS : List (Str × Str)
  gI : List (Str × Int)
  bl : List Str
  ini : Stmt
  iniq : Str
def idxOf {α : Type} : List α → Nat → List (α × Nat)
  | [], _ => []
  | x :: xs, i => (x, i) :: idxOf xs (i + 1)
def Tab.fns (T : Tab) : List (Str × Nat) := (idxOf T.rows 0).filterMap fun p => match p.1.at_.2 with
  | none => some (p.1.at_.1, p.2)
  | some _ => none
def Tab.gt (T : Tab) : GT := ⟨T.fns, idxOf T.cs 0, List.range T.ne, T.gS, T.gI, [], T.bl⟩
def Tab.sub (T : Tab) (c : Nat) : Ty → Option Bool
  | .cls d => if c < T.cs.length ∧ d < T.cs.length then some (c == d || (decide (c < T.ne) && d == 0)) else none
  | .valueError => if c < T.cs.length then some (decide (c < T.ne)) else none
  | _ => if c < T.cs.length then some false else none
def Tab.prog (T : Tab) : Prog := ⟨fun f => (T.rows[f]?).map DRow.fn, fun c => if c < T.ne then some ⟨true, 0, [], [], []⟩ else none, T.sub, fun _ => none⟩
def Tab.ca (T : Tab) (K : PySem.W.Frag) (c : Nat) : Addr := match T.cs[c]? with
  | some x => He.ga K x
  | none => 0
def Tab.fa (T : Tab) (K : PySem.W.Frag) (f : Nat) : Addr := match T.rows[f]? with
  | some r => He.fAd K r.at_
  | none => 0
def Tab.inid (T : Tab) : He.DefD := ⟨((T.cs[0]?).getD Str.empty, some "__init__"), "__init__", T.iniq, defArgs T.ini, defBody T.ini, defScope T.ini, [], []⟩
def Tab.fi (T : Tab) (K : PySem.W.Frag) : Addr := He.fAd K T.inid.at_

/-! ### what is looked at -/
def excB (K : PySem.W.Frag) (C : Addr) : Bool := match K.lookup C with
  | some ⟨.type "type", _, .cls cd, sl⟩ => (match cd.mro, sl.toList with
    | .ref C' :: bm, [_, _, _, _, some (.builtin n), _] => C' == C && n == "ValueError.__new__" && !cd.hasDel && cd.hasDict && PySem.HandSPX.refsVE bm
    | _, _ => false)
  | _ => false
theorem excB_ok {K : PySem.W.Frag} {C : Addr} (q : excB K C = true) : ∃ nm q N bs bm sn sub ab col dd k0 k1 k2 k3 k5, K.lookup C = some (excClassObj nm q C N bs bm true sn sub ab col dd k0 k1 k2 k3 k5 "ValueError.__new__") ∧ PySem.HandSPX.refsVE bm = true := by
  unfold excB at q
  split at q
  · rename_i dd cd sl ho
    split at q
    · rename_i C' bm k0 k1 k2 k3 n k5 hm hs
      simp only [Bool.and_eq_true, beq_iff_eq, Bool.not_eq_true'] at q
      obtain ⟨⟨⟨⟨rfl, rfl⟩, hdel⟩, hdc⟩, ht⟩ := q
      obtain ⟨nm, bs, mro, ns, qn, hd, sn, sub, ab, col, del⟩ := cd
      dsimp only at hm hdel hdc
      subst hm hdel hdc
      have hsl : sl = #[k0, k1, k2, k3, some (.builtin "ValueError.__new__"), k5] := by
        obtain ⟨l⟩ := sl
        simp only at hs
        rw [hs]
      subst hsl
      exact ⟨nm, qn, ns, bs, bm, sn, sub, ab, col, dd, k0, k1, k2, k3, k5, ho, ht⟩
    · cases q
  · cases q
def dO {α : Type} [DecidableEq α] (a b : α) : Bool := decide (a = b)
/-- an error class -/
def errB (K : PySem.W.Frag) (C fI : Addr) : Bool :=
  excB K C && (He.eqO (PySem.W.findIn K (.ref C) "__setattr__") (some (some (.builtin "object.__setattr__"))) && (dO (PySem.W.subIn K (.ref C) (.type "BaseException")) (some true) && (dO (PySem.W.typeIn K (.ref C)) (some (.type "type")) && (PySem.W.keepIn K (.ref C) &&
    (He.eqO (PySem.W.findIn K (.ref C) "value") (some none) && (He.eqO (PySem.W.findIn K (.ref C) "__init__") (some (some (.ref fI))) && (dO (PySem.W.typeIn K (.ref fI)) (some (.type "function")) && (He.eqO (PySem.W.findIn K (.ref C) "__getattribute__") (some (some (.builtin "BaseException.__getattribute__"))) &&
    (He.eqO (PySem.W.findIn K (.ref C) "__getattr__") (some none) && (PySem.W.hasDictIn K C && ((PySem.W.clsIn K C).isSome && (He.eqO (PySem.W.findIn K (.ref C) "__class__") (some (some (.builtin "object.__class__"))) && dO (PySem.W.mroIn K C (.type "object")) (some true)))))))))))))
structure ErrOk (K : PySem.W.Frag) (C fI : Addr) : Prop where
  t : ExcT K C fI
  k : ExcK K C
theorem errB_ok {K : PySem.W.Frag} {C fI : Addr} (q : errB K C fI = true) : ErrOk K C fI := by
  unfold errB at q
  simp only [Bool.and_eq_true] at q
  obtain ⟨q1, q2, q3, q4, q5, q6, q7, q8, q9, q10, q11, q12, q13, q14⟩ := q
  have g9 := He.eqO_ok q9
  have g10 := He.eqO_ok q10
  have g3 : PySem.W.subIn K (.ref C) (.type "BaseException") = some true := of_decide_eq_true q3
  exact ⟨⟨⟨excB_ok q1, He.eqO_ok q2, g3, of_decide_eq_true q4, q5⟩, He.eqO_ok q6, He.eqO_ok q7, of_decide_eq_true q8, g9, g10, q11⟩, ⟨q12, g9, g10, g3, q11, He.eqO_ok q6, He.eqO_ok q13, of_decide_eq_true q14⟩⟩
def allTy (n : Nat) : List Ty := [.list, .tuple, .int, .str, .bool, .dict, .valueError] ++ (List.range n).map Ty.cls
def kindsB (T : Tab) (K : PySem.W.Frag) : Bool :=
  ((List.range T.cs.length).all fun c => (allTy T.cs.length).all fun t => dO (PySem.W.kitOne K (.ref (T.ca K c)) (tyV (T.ca K) t)) (T.sub c t)) &&
  (bNames.all fun n => (allTy T.cs.length).all fun t => dO (PySem.W.kitOne K (.type n) (tyV (T.ca K) t)) (btSub T.sub n t))
def tabB (T : Tab) (K : PySem.W.Frag) : Bool :=
  (T.rows.all fun r => match r.at_.2 with
    | none => (He.Fa.glo r.at_.1).ok K
    | some _ => true) &&
  ((T.cs.all fun x => (He.Fa.glo x).ok K) && ((T.bl.all fun x => (He.Fa.free x).ok K) && ((T.gS.all fun p => (He.Fa.str p.1 p.2).ok K) && ((T.gI.all fun p => (He.Fa.int p.1 p.2).ok K) &&
  (((List.range T.ne).all fun c => errB K (T.ca K c) (T.fi K)) && (dO T.ne T.cs.length && (kindsB T K &&
  (He.eqO (PySem.W.specialIn K (.builtin "object.__class__") "__get__") (some (some (.builtin "getset_descriptor.__get__"))) && dO (PySem.W.takesIn K (.builtin "object.__class__")) (some true)))))))))
/-- what the law's own text must show -/
structure DRow.Ok (g : GT) (r : DRow) : Prop where
  sc : FnScope r.N r.ps (defScope r.st)
  m : matSs ⟨r.N, defScope r.st, defScope r.st, g⟩ r.body (defBody r.st) = true
  b : ∀ (kV doc pm : Value) (an : Option Addr) (cdv ct : Value) (us : List Value), us.length = r.ps.length → bindArgs (PySem.W.fnOf r.name r.qual (defArgs r.st) (defBody r.st) (defScope r.st) .none kV doc pm an cdv ct) ⟨us, []⟩ = pure (r.ps.zip us)
structure Tab.Ok (T : Tab) : Prop where
  rows : ∀ r ∈ T.rows, r.Ok T.gt
  isc : FnScope (["self", "value"] : List Str) (["self", "value"] : List Str) (defScope T.ini)
  il : (defScope T.ini).names.lookup ("self" : Str) = some .local
  il2 : (defScope T.ini).names.lookup ("value" : Str) = some .local
  ib : ∃ q1 q2 q3 q4, defBody T.ini = [.Assign [.Attribute (.Name "self" q1) "value" q2] (.Name "value" q3) q4]
  ibd : ∀ (kV doc pm : Value) (an : Option Addr) (cdv ct : Value) (a b : Value), bindArgs (PySem.W.fnOf "__init__" T.iniq (defArgs T.ini) (defBody T.ini) (defScope T.ini) .none kV doc pm an cdv ct) ⟨[a, b], []⟩ = pure ((["self", "value"] : List Str).zip [a, b])
  ibk : ∀ (kV doc pm : Value) (an : Option Addr) (cdv ct : Value) (a b : Value), bindArgs (PySem.W.fnOf "__init__" T.iniq (defArgs T.ini) (defBody T.ini) (defScope T.ini) .none kV doc pm an cdv ct) ⟨[a], [(("value" : Str), b)]⟩ = pure ((["self", "value"] : List Str).zip [a, b])
theorem fun_of {K : PySem.W.Frag} {x qual : Str} {st : Stmt} {f : Addr} {fd : FuncData} (F : FunD K x qual (defArgs st) (defBody st) (defScope st) [] [] f fd) : Fun K x qual st f fd := by
  obtain ⟨oc, od, dV, kV, doc, pm, an, cdv, ct, osl, e, lk, hcd, hD, hK⟩ := F.ex
  rcases hD with ⟨_, rfl⟩ | ⟨z, _⟩
  · exact ⟨⟨oc, od, kV, doc, pm, an, cdv, ct, osl, e, lk, hcd⟩, F.kp⟩
  · exact absurd rfl z
theorem idx_get {α : Type} : ∀ {l : List α} {i : Nat} {x : α} {j : Nat}, (x, j) ∈ idxOf l i → i ≤ j ∧ l[j - i]? = some x
  | [], _, _, _, h => by cases h
  | y :: l, i, x, j, h => by
    rcases List.mem_cons.mp h with h | h
    · cases h; simp
    · obtain ⟨a, b⟩ := idx_get h
      refine ⟨by omega, ?_⟩
      rw [show j - i = (j - (i + 1)) + 1 from by omega]
      simpa using b
theorem look_mem {α β : Type} [BEq α] [LawfulBEq α] : ∀ {l : List (α × β)} {x : α} {y : β}, l.lookup x = some y → (x, y) ∈ l
  | [], _, _, h => by cases h
  | (a, b) :: l, x, y, h => by
    rw [List.lookup_cons] at h
    split at h
    · rename_i he
      cases h
      rw [eq_of_beq he]
      exact List.mem_cons_self
    · exact List.mem_cons_of_mem _ (look_mem h)
section
variable {T : Tab} {K : PySem.W.Frag} {h : Heap} {mg : Str → Option Value} {P : Program} {w : World}
theorem tyIn (n : Nat) {t : Ty} (h : ∀ c, t = .cls c → c < n) : t ∈ allTy n := by
  unfold allTy
  cases t with
  | cls c => exact List.mem_append_right _ (List.mem_map.mpr ⟨c, List.mem_range.mpr (h c rfl), rfl⟩)
  | _ => exact List.mem_append_left _ (by simp)
theorem kf_of (c : tabB T K = true) (hi : True) : KF K (T.ca K) T.sub := by
  unfold tabB at c
  simp only [Bool.and_eq_true] at c
  obtain ⟨c1, c2, c3, c4, c5, c6, c7, c8, c9, c10⟩ := c
  unfold kindsB at c8
  simp only [Bool.and_eq_true] at c8
  obtain ⟨k1, k2⟩ := c8
  have hne : T.ne = T.cs.length := of_decide_eq_true c7
  have lt_of : ∀ {c : Nat} {t : Ty} {b : Bool}, T.sub c t = some b → c < T.cs.length ∧ ∀ d, t = .cls d → d < T.cs.length := by
    intro c t b e
    unfold Tab.sub at e
    split at e <;> split at e <;> first | cases e | skip
    · rename_i d hc
      exact ⟨hc.1, fun d' z => by cases z; exact hc.2⟩
    · rename_i hc; exact ⟨hc, fun d' z => by cases z⟩
    · rename_i t' n1 n2 hc
      exact ⟨hc, fun d' z => absurd z (n1 d')⟩
  refine ⟨He.eqO_ok c9, of_decide_eq_true c10, fun c e => ?_, fun c e => ?_, fun c t b e => ?_, fun n hn t b e => ?_⟩
  · have l := (lt_of e).1
    have e' : (if c < T.cs.length then some (decide (c < T.ne)) else none) = some false := e
    rw [if_pos l, hne] at e'
    simp [l] at e'
  · have l := (lt_of e).1
    exact (errB_ok (List.all_eq_true.mp c6 c (List.mem_range.mpr (by rw [hne]; exact l)))).k
  · obtain ⟨l1, l2⟩ := lt_of e
    have z := List.all_eq_true.mp (List.all_eq_true.mp k1 c (List.mem_range.mpr l1)) t (tyIn _ l2)
    exact (of_decide_eq_true z).trans e
  · have hcl : ∀ d, t = .cls d → d < T.cs.length := by
      intro d z
      subst z
      have e' : (T.sub d .valueError).map (fun _ => false) = some b := e
      cases q : T.sub d .valueError with
      | none => rw [q] at e'; cases e'
      | some _ => exact (lt_of q).1
    have z := List.all_eq_true.mp (List.all_eq_true.mp k2 n hn) t (tyIn _ hcl)
    exact (of_decide_eq_true z).trans e
theorem modT_of (X : K.In h) (G : h.Ns mainGlobals mg) (c : tabB T K = true) (ok : T.Ok) (hd : ∀ r ∈ T.rows, ∃ fd, FunD K r.name r.qual (defArgs r.st) (defBody r.st) (defScope r.st) [] [] (He.fAd K r.at_) fd)
    (hi : ∃ fd, FunD K "__init__" T.iniq (defArgs T.ini) (defBody T.ini) (defScope T.ini) [] [] (T.fi K) fd) : ModT (T.ca K) (T.fa K) P w K mg T.gt T.prog := by
  have kf := kf_of c trivial
  unfold tabB at c
  simp only [Bool.and_eq_true] at c
  obtain ⟨c1, c2, c3, c4, c5, c6, c7, c8, c9, c10⟩ := c
  have hne : T.ne = T.cs.length := of_decide_eq_true c7
  obtain ⟨fdi, hi⟩ := hi
  have Fi := fun_of hi
  refine ⟨kf, ⟨fun c f e => ?_, fun c f n e => ?_, fun c x n e => ?_⟩, fun f fn hf => ?_, fun x f hx => ?_, fun x c hx => ?_, fun c hc => ?_, fun x s hx => ?_, fun x i hx => ?_, fun x hx => ?_, fun c f n e => ?_, fun c x n e => ?_⟩
  · have e' : ((if c < T.ne then some (⟨true, 0, [], [], []⟩ : Cl) else none).bind fun l => match l.pr.lookup f with | some g => some (some g) | none => if l.fl.contains f then some none else none) = some none := e
    split at e' <;> cases e'
  · have e' : ((if c < T.ne then some (⟨true, 0, [], [], []⟩ : Cl) else none).bind fun l => match l.pr.lookup f with | some g => some (some g) | none => if l.fl.contains f then some none else none) = some (some n) := e
    split at e' <;> cases e'
  · have e' : ((if c < T.ne then some (⟨true, 0, [], [], []⟩ : Cl) else none).bind fun l => l.ms.lookup x) = some n := e
    split at e' <;> cases e'
  · have e : (T.rows[f]?).map DRow.fn = some fn := hf
    cases q : T.rows[f]? with
    | none => rw [q] at e; cases e
    | some r =>
      rw [q] at e
      cases e
      have hm := List.mem_of_getElem? q
      obtain ⟨fd, F⟩ := hd r hm
      have o := ok.rows r hm
      have hfa : T.fa K f = He.fAd K r.at_ := by unfold Tab.fa; rw [q]
      exact ⟨fd, r.ps, r.name, r.qual, r.st, r.N, by rw [hfa]; exact fun_of F, o.sc, o.m, rfl, rfl, o.sc.kind, F.bindsN o.b⟩
  · have hm := look_mem hx
    have hm' : (x, f) ∈ T.fns := hm
    unfold Tab.fns at hm'
    obtain ⟨⟨r, j⟩, hj, he⟩ := List.mem_filterMap.mp hm'
    obtain ⟨_, hr⟩ := idx_get hj
    simp only [Nat.sub_zero] at hr
    cases ha : r.at_.2 with
    | some _ => rw [show (match (r, j).1.at_.2 with | none => some ((r, j).1.at_.1, (r, j).2) | some _ => none) = none from by simp only [ha]] at he; cases he
    | none =>
      rw [show (match (r, j).1.at_.2 with | none => some ((r, j).1.at_.1, (r, j).2) | some _ => none) = some (r.at_.1, j) from by simp only [ha]] at he
      cases he
      have hrm := List.mem_of_getElem? hr
      have g := List.all_eq_true.mp c1 r hrm
      rw [ha] at g
      obtain ⟨fd, F⟩ := hd r hrm
      have hfa : T.fa K f = He.fAd K r.at_ := by unfold Tab.fa; rw [hr]
      have hga : He.fAd K r.at_ = He.ga K r.at_.1 := by unfold He.fAd; rw [ha]
      refine ⟨?_, by rw [hfa]; exact F.kp, r.fn, ?_⟩
      · rw [hfa, hga]; exact He.glo_ok X G g
      · show (T.rows[f]?).map DRow.fn = _
        rw [hr]; rfl
  · have hm' : (x, c) ∈ idxOf T.cs 0 := look_mem hx
    obtain ⟨_, hr⟩ := idx_get hm'
    simp only [Nat.sub_zero] at hr
    have hxm := List.mem_of_getElem? hr
    have hca : T.ca K c = He.ga K x := by unfold Tab.ca; rw [hr]
    have hl : c < T.ne := by rw [hne]; exact (List.getElem?_eq_some_iff.mp hr).1
    have g := (errB_ok (List.all_eq_true.mp c6 c (List.mem_range.mpr hl)))
    refine ⟨by rw [hca]; exact He.glo_ok X G (List.all_eq_true.mp c2 x hxm), g.t.oex.kC, ?_⟩
    exact List.contains_iff_mem.mpr (List.mem_range.mpr hl)
  · have hl : c < T.ne := List.mem_range.mp (List.contains_iff_mem.mp hc)
    have g := (errB_ok (List.all_eq_true.mp c6 c (List.mem_range.mpr hl)))
    refine ⟨⟨⟨true, 0, [], [], []⟩, if_pos hl, rfl⟩, T.fi K, fdi, g.t, fun base => ok_excInit Fi ok.isc ok.il ok.il2 ok.ib, fun s a b _ => ?_, fun s a b _ => ?_⟩
    · obtain ⟨oc, od, kV, doc, pm, an, cdv, ct, osl, rfl, _, _⟩ := Fi.ex
      exact .of_eq (ok.ibd kV doc pm an cdv ct a b)
    · obtain ⟨oc, od, kV, doc, pm, an, cdv, ct, osl, rfl, _, _⟩ := Fi.ex
      exact .of_eq (ok.ibk kV doc pm an cdv ct a b)
  · obtain ⟨t, e⟩ := He.str_ok X G (List.all_eq_true.mp c4 (x, s) (look_mem hx))
    exact ⟨_, e, t, rfl⟩
  · obtain ⟨t, e⟩ := He.int_ok X G (List.all_eq_true.mp c5 (x, i) (look_mem hx))
    exact ⟨_, e, t, rfl⟩
  · exact He.free_ok X G (List.all_eq_true.mp c3 x (List.contains_iff_mem.mp hx))
  · have e' : ((if c < T.ne then some (⟨true, 0, [], [], []⟩ : Cl) else none).bind fun l => match l.pr.lookup f with | some g => some (some g) | none => if l.fl.contains f then some none else none) = some (some n) := e
    split at e' <;> cases e'
  · have e' : ((if c < T.ne then some (⟨true, 0, [], [], []⟩ : Cl) else none).bind fun l => l.ms.lookup x) = some n := e
    split at e' <;> cases e'
end
end K9
end
section
set_option Elab.async false
set_option linter.all false
set_option maxRecDepth 100000
set_option maxHeartbeats 0
/-! K9End: the head's hook, the law's end. -/
namespace K9
open PySem PySem.Spec PyProof.Rows L2

/-- no list stands in the written part -/
def noLst (K : PySem.W.Frag) : Bool := K.all fun p => !(match p.2.cls with | .type t => t == "list" | _ => false)
theorem noLst_ok {K : PySem.W.Frag} (h : noLst K = true) {a : Addr} {o : Obj} (e : K.lookup a = some o) : o.cls ≠ .type "list" := by
  have m := look_mem e
  have z := List.all_eq_true.mp h _ m
  intro q
  simp only [q] at z
  exact absurd z (by decide)
def Tab.ds (T : Tab) : List He.DefD := T.rows.map DRow.d ++ [T.inid]
def obsK (T : Tab) (K : PySem.W.Frag) : He.AlD := ((tabB T K && (noLst K && T.ds.all fun d => d.ok K)), T.ds.map fun d => He.fnW K d.at_)
def valK (T : Tab) : He.AlD := (true, T.ds.map He.DefD.val)
def hookK (n : Nat) (T : Tab) : PySem.W.Hook where
  α := He.AlD
  obs := fun s => obsK T (He.frG s.heap.get? (He.asD s.heap.get? n))
  val := fun _ => valK T
  says := fun _ h => ∃ K : PySem.W.Frag, K.In h ∧ obsK T K = valK T
  of := fun _ _ e => ⟨_, He.frG_in, e⟩
  keeps := fun _ _ _ ⟨K, hK, c⟩ k => ⟨K, PySem.W.Frag.In.keeps hK k, c⟩
def obT (n : Nat) (T : Tab) (s : PySem.W.SharedT) : He.AlD := obsK T (He.frG (HandSHeadRun.getT s) (He.asD (HandSHeadRun.getT s) n))
theorem obT_eq {n : Nat} {T : Tab} (s : PySem.W.SharedT) : obT n T s = (hookK n T).obs s.abs := by
  have e : HandSHeadRun.getT s = s.abs.heap.get? := funext (HandSHeadRun.getT_eq s)
  unfold obT
  rw [e]
  rfl
/-- what the hook says -/
theorem obs_of {T : Tab} {K : PySem.W.Frag} (e : obsK T K = valK T) : tabB T K = true ∧ noLst K = true ∧ ∀ d ∈ T.ds, ∃ fd, FunD K d.name d.qual d.params d.body d.scope (d.dvs K) (d.kws K) (He.fAd K d.at_) fd := by
  have e1 : (tabB T K && (noLst K && T.ds.all fun d => d.ok K)) = true := congrArg (fun z : He.AlD => z.1) e
  have e2 : (T.ds.map fun d => He.fnW K d.at_) = T.ds.map He.DefD.val := congrArg (fun z : He.AlD => z.2) e
  rw [andB, andB] at e1
  obtain ⟨a, b, c⟩ := e1
  refine ⟨a, b, fun d hd => ?_⟩
  have hk := List.all_eq_true.mp c d hd
  have hv : He.fnW K d.at_ = d.val := by
    obtain ⟨i, hi, rfl⟩ := List.mem_iff_getElem.mp hd
    have z := congrArg (fun l => l[i]?) e2
    simp only [List.getElem?_map, List.getElem?_eq_getElem hi, Option.map_some, Option.some.injEq] at z
    exact z
  exact He.DefD.funD hv hk
/-- the law answers True by the evaluator: it holds -/
theorem walkT {l : PySem.W.OpenLaw} {T : Tab} {m n f : Nat} {r : DRow} {q : Program} {loose : List Str} {XP : (Str → Option Value) → Heap → Prop} {d : DefRec} {wf : Nat}
    (ok : T.Ok) (hn : l.most = some 63) (hdf : d.params.defaults = []) (hdn : d.name = ("law" : Str)) (hrow : T.rows[f]? = some r) (hat : r.at_ = (("law" : Str), none)) (hps : r.ps = (["script"] : List Str)) (hr : Room (3 * n) callerA)
    (hlaw : ∀ ns : List Int, ns.length ≤ 63 → (∀ z ∈ ns, Builtin.Int.intBits z ≤ 1048576) → ∃ S, callT T.prog wf n f [.scr (ns.map .int)] [] = .ok (.bl true) S) :
    PySem.W.WalkO q loose XP (hookK m T).says l.row.toRowW d [] (fun f vs => PySem.call f vs) := by
  refine Att.attach_callB hn hdf (fun w s₀ s₁ mg mb fa o pm cd doc a vs ns G Y ho hd hcd hmg hobj hints hlen hbits hg => ?_)
  obtain ⟨K, KX, e⟩ := Y
  obtain ⟨c1, c2, c3⟩ := obs_of e
  have hds : ∀ r ∈ T.rows, ∃ fd, FunD K r.name r.qual (defArgs r.st) (defBody r.st) (defScope r.st) [] [] (He.fAd K r.at_) fd := fun r hr => c3 r.d (List.mem_append_left _ (List.mem_map.mpr ⟨r, hr, rfl⟩))
  have hin : ∃ fd, FunD K "__init__" T.iniq (defArgs T.ini) (defBody T.ini) (defScope T.ini) [] [] (T.fi K) fd := c3 T.inid (List.mem_append_right _ (List.mem_singleton.mpr rfl))
  have md : ModT (T.ca K) (T.fa K) l.prog w K mg T.gt T.prog := modT_of KX G.T.g c1 ok hds hin
  have hrm := List.mem_of_getElem? hrow
  obtain ⟨fd, F⟩ := hds r hrm
  have hfa : T.fa K f = He.fAd K r.at_ := by unfold Tab.fa; rw [hrow]
  have o' := ok.rows r hrm
  have hglo : mg ("law" : Str) = some (.ref (T.fa K f)) := by
    unfold tabB at c1
    simp only [Bool.and_eq_true] at c1
    have g := List.all_eq_true.mp c1.1 r hrm
    rw [hat] at g
    rw [hfa]
    show _ = some (Value.ref (He.fAd K r.at_))
    rw [hat]
    exact He.glo_ok KX G.T.g g
  rw [hdn] at hmg
  have hfe : fa = T.fa K f := by
    rw [hglo] at hmg
    cases hmg; rfl
  subst hfe
  have dT : DefT K T.gt (T.fa K) f r.fn fd r.ps := ⟨r.name, r.qual, r.st, r.N, by rw [hfa]; exact fun_of F, o'.sc, o'.m, rfl, rfl, o'.sc.kind, F.bindsN o'.b⟩
  have hfn : T.prog.fn f = some r.fn := by
    show (T.rows[f]?).map DRow.fn = _
    rw [hrow]; rfl
  have hKn : K.lookup a = none := by
    cases q : K.lookup a with
    | none => rfl
    | some o =>
      have z := KX a o q
      rw [hobj] at z
      cases z
      exact absurd rfl (noLst_ok c2 q)
  refine lawG (fd := fd) (k := 3 * n) (sp := spF (T.ca K) (callT T.prog wf n f)) (x := "script") KX G.T.g G.T.b G.T.builtins G.T.nolimit hg hobj hints (Nat.le_trans hlen (by rw [sizeLine_eq]; omega)) hr (fun base KB GB => ?_) (fun s u => ?_) (fun H hO hS => ?_)
  · have F' := atN (base := base) (wf := wf) md n f r.fn fd r.ps hfn dT
    rw [hps] at F'
    exact F'
  · have b := F.bindsA (ps := r.ps) o'.b s [u] (by rw [hps]; rfl)
    rw [hps] at b
    exact b
  · obtain ⟨S', hS'⟩ := hlaw ns hlen hbits
    have ha : ∃ o, H a = some (.frz o (.lst (ns.map V.int))) := by
      rcases hS with (h1 | h1) | ⟨o1, its, n1, h1, _⟩
      · rcases hO a with z | ⟨ob, xs, z⟩
        · rw [z] at h1; cases h1
        · rw [z] at h1; cases h1
      · exact h1
      · rw [hKn] at h1; cases h1
    obtain ⟨ob, ha⟩ := ha
    have rin : ∀ (M : Mem) (l : List Int), RepL (T.ca K) M (l.map V.int) (l.map D.int) := by
      intro M l
      induction l with
      | nil => exact .nil
      | cons x l ih => exact .cons (.int x) ih
    refine ⟨⟨H, [], H, 0⟩, [], [.scr (ns.map .int)], ⟨fun _ _ h => h, rfl, List.nodup_nil, (fun b h => by cases h), fun n ob h => by simp at h, fun _ h => h⟩, .cons (.scr (M := ⟨H, [], H, 0⟩) ha (rin _ ns)) .nil, ?_⟩
    rw [hS']
    intro v M' H' _ _ ru
    cases (show Rep (T.ca K) M' v (.bl true) from ru)
    rfl
end K9
end
section
set_option Elab.async false
set_option linter.all false
set_option maxRecDepth 100000
set_option exponentiation.threshold 2000
/-! K9Ev: the evaluator step by step. -/
namespace K9
section
variable {α β : Type} {a : α} {S : Sto} {k : α → Sto → R β} {d : D} {kd : D → Sto → R β}
theorem bind_ok : (R.ok a S).bind k = k a S := rfl
theorem bindR_ok : (R.ok d S).bindR kd = kd (rd d) S := rfl
theorem oget_some {k : α → R β} : oget (some a) k = k a := rfl
theorem chk_pos {p : Prop} [Decidable p] {r : R α} (h : p) : chk p r = r := if_pos h
theorem ifD_b {b : Bool} {f g : R α} : ifD (.bl b) f g = if b = true then f else g := by cases b <;> rfl
theorem rd_int {i : Int} : rd (.int i) = .int i := rfl
theorem rd_bl {i : Bool} : rd (.bl i) = .bl i := rfl
theorem rd_str {i : PySem.Str} : rd (.str i) = .str i := rfl
theorem rd_non : rd .non = .non := rfl
theorem rd_tup {i : List D} : rd (.tup i) = .tup i := rfl
theorem rd_lst {i : List D} : rd (.lst i) = .lst i := rfl
theorem rd_ref {i : Nat} : rd (.ref i) = .ref i := rfl
theorem rd_scr {i : List D} : rd (.scr i) = .scr i := rfl
theorem rd_exc {c : Nat} {x : D} : rd (.exc c x) = .exc c x := rfl
theorem rd_own {x : D} : rd (.own x) = x := rfl
end
section
variable {C : Ctx} {env : Env} {S : Sto}
theorem ev_var {i : Nat} {d : D} (h : env[i]? = some (.fz d)) : ev C (.var i) env S = .ok d S := by simp only [ev, h]
theorem bi_len_scr {xs : List D} : biD .len [.scr xs] env S = .ok (.int xs.length) S := rfl
theorem bi_int {i : Int} : biD .int [.int i] env S = .ok (.int i) S := rfl
theorem bi_max {i j : Int} : biD .max [.int i, .int j] env S = .ok (.int (if j > i then j else i)) S := rfl
theorem bi_min {i j : Int} : biD .min [.int i, .int j] env S = .ok (.int (if j < i then j else i)) S := rfl
theorem bi_abs {i : Int} : biD .abs [.int i] env S = .ok (.int (if i < 0 then -i else i)) S := rfl
theorem bin_add {i j : Int} : binD .add (.int i) (.int j) env S = .ok (.int (i + j)) S := rfl
theorem bin_sub {i j : Int} : binD .sub (.int i) (.int j) env S = .ok (.int (i - j)) S := rfl
theorem bin_mul {i j : Int} (h : (-(2 ^ 64) < i ∧ i < 2 ^ 64) ∨ (-(2 ^ 64) < j ∧ j < 2 ^ 64)) : binD .mul (.int i) (.int j) env S = .ok (.int (i * j)) S := chk_pos h
theorem bin_mod {i j : Int} (h : 0 < j) : binD .mod (.int i) (.int j) env S = .ok (.int (i % j)) S := chk_pos h
theorem bin_fdiv {i j : Int} (h : 0 < j) (h2 : j.natAbs < 2 ^ 1000) : binD .fdiv (.int i) (.int j) env S = .ok (.int (i / j)) S := chk_pos ⟨h, h2⟩
theorem bin_pow {i j : Int} (h : 0 ≤ j) (h1 : j ≤ 1000) (h2 : i.natAbs < 2 ^ 1000) : binD .pow (.int i) (.int j) env S = .ok (.int (i ^ j.toNat)) S := chk_pos ⟨h, h1, h2⟩
theorem bin_powN {i : Int} {j : Nat} (h1 : j ≤ 1000) (h2 : i.natAbs < 2 ^ 1000) : binD .pow (.int i) (.int (j : Int)) env S = .ok (.int (i ^ j)) S := by
  rw [bin_pow (by omega) (by omega) h2, Int.toNat_natCast]
theorem ix_scr {xs : List D} {i : Int} {d : D} (h : L2.atI xs i = some d) : ixD (.scr xs) (.int i) env S = .ok d S := by
  unfold ixD
  simp only [h, oget]
theorem cmp_lt {i j : Int} : cmpD .lt (.int i) (.int j) env S = some (decide (i < j)) := rfl
theorem cmp_gt {i j : Int} : cmpD .gt (.int i) (.int j) env S = some (decide (j < i)) := rfl
theorem cmp_le {i j : Int} : cmpD .le (.int i) (.int j) env S = some (decide (i ≤ j)) := rfl
theorem cmp_eqI {i j : Int} : cmpD .eq (.int i) (.int j) env S = some (i == j) := rfl
end
section
variable {C : Ctx} {fn : Fn} {ds : List D} {S : Sto}
/-- how a def ends -/
def finF : Fl → Sto → R D
  | .rt d, S => .ok d S
  | .nx _, S => .ok .non S
  | .ct _, _ => .bad
theorem runFn_eq (h : ds.length = fn.ps) : runFn C fn ds S = (exSs C fn.body (startE fn ds) S).bind finF := by
  unfold runFn
  rw [chk_pos h]
  congr 1
  funext f S1
  cases f <;> rfl
theorem callT_eq {P : Prog} {wf n f : Nat} (h : P.fn f = some fn) : callT P wf (n + 1) f ds S = runFn (ctxT P wf n) fn ds S := by
  simp only [callT, h, oget]
  rfl
end
theorem atI_nat {α : Type} {xs : List α} {p : Nat} (h : p < xs.length) : L2.atI xs (p : Int) = xs[p]? := by
  unfold L2.atI L2.ixN
  rw [if_pos (by omega), if_pos (by omega)]
  simp
theorem mkL_ok {xs : List D} {S : Sto} (h : xs.length ≤ PySem.sizeLine) : mkL xs S = .ok (.own (.lst xs)) S := chk_pos h

/-! ### steps: each goal is  f = r,  r found as it goes -/
section
variable {C : Ctx} {env : Env} {S S1 S2 S3 : Sto} {r : R D} {x y z : D}
theorem ev_nonS : ev C .non env S = .ok .non S := by simp only [ev]
theorem ev_blS {b : Bool} : ev C (.bl b) env S = .ok (.bl b) S := by simp only [ev]
theorem ev_intS {i : Int} : ev C (.int i) env S = .ok (.int i) S := by simp only [ev]
theorem ev_strS {i : PySem.Str} : ev C (.str i) env S = .ok (.str i) S := by simp only [ev]
theorem ev_accS {i : Nat} {o : Ob} (h : env[i]? = some (.al o)) : ev C (.var i) env S = .ok (.acc i) S := by simp only [ev, h]
theorem ev_binS {op : Bop} {a b : Ex} (ha : ev C a env S = .ok x S1) (hb : ev C b env S1 = .ok y S2) (h : binD op (rd x) (rd y) env S2 = r) : ev C (.bin op a b) env S = r := by simp only [ev, ha, hb, bindR_ok, h]
theorem ev_negS {a : Ex} {i : Int} (ha : ev C a env S = .ok (.int i) S1) : ev C (.neg a) env S = .ok (.int (-i)) S1 := by simp only [ev, ha, bindR_ok, rd]
theorem ev_cmpS {op : Cop} {a b : Ex} {c : Bool} (ha : ev C a env S = .ok x S1) (hb : ev C b env S1 = .ok y S2) (h : cmpD op (rd x) (rd y) env S2 = some c) : ev C (.cmp op a b) env S = .ok (.bl c) S2 := by simp only [ev, ha, hb, bindR_ok, h, oget]
theorem ev_andT {a b : Ex} (ha : ev C a env S = .ok (.bl true) S1) (hb : ev C b env S1 = r) : ev C (.and a b) env S = r := by simp only [ev, ha, bindR_ok, rd, ifD, hb]
theorem ev_andF {a b : Ex} (ha : ev C a env S = .ok (.bl false) S1) : ev C (.and a b) env S = .ok (.bl false) S1 := by simp only [ev, ha, bindR_ok, rd, ifD]
theorem ev_orT {a b : Ex} (ha : ev C a env S = .ok (.bl true) S1) : ev C (.or a b) env S = .ok (.bl true) S1 := by simp only [ev, ha, bindR_ok, rd, ifD]
theorem ev_orF {a b : Ex} (ha : ev C a env S = .ok (.bl false) S1) (hb : ev C b env S1 = r) : ev C (.or a b) env S = r := by simp only [ev, ha, bindR_ok, rd, ifD, hb]
theorem ev_notS {a : Ex} {b : Bool} (ha : ev C a env S = .ok (.bl b) S1) : ev C (.not a) env S = .ok (.bl (!b)) S1 := by simp only [ev, ha, bindR_ok, rd]
theorem ev_iteS {c a b : Ex} {k : Bool} (hc : ev C c env S = .ok (.bl k) S1) (h : (if k = true then ev C a env S1 else ev C b env S1) = r) : ev C (.ite c a b) env S = r := by
  cases k <;> simp only [ev, hc, bindR_ok, rd, ifD] <;> exact h
theorem ev_tupS {es : Exs} {xs : List D} (h : evs C es env S = .ok xs S1) (hl : xs.length ≤ PySem.sizeLine) : ev C (.tup es) env S = .ok (.tup xs) S1 := by simp only [ev, h, bind_ok]; exact chk_pos hl
theorem ev_lstS {es : Exs} {xs : List D} (h : evs C es env S = .ok xs S1) (hl : xs.length ≤ PySem.sizeLine) : ev C (.lst es) env S = .ok (.own (.lst xs)) S1 := by simp only [ev, h, bind_ok]; exact chk_pos hl
theorem ev_dict0S : ev C .dict0 env S = .ok (.own (.dct [] [])) S := by simp only [ev]
theorem ev_callS {f : Nat} {es : Exs} {xs : List D} (h : evs C es env S = .ok xs S1) (hc : C.call f xs S1 = r) : ev C (.call f es) env S = r := by simp only [ev, h, bind_ok, hc]
theorem ev_makeS {c : Nat} {es : Exs} {xs : List D} (h : evs C es env S = .ok xs S1) (hc : C.make c xs S1 = r) : ev C (.make c es) env S = r := by simp only [ev, h, bind_ok, hc]
theorem ev_makekS {c : Nat} {es ks : Exs} {p : List Nat} {xs ys zs : List D} (h : evs C es env S = .ok xs S1) (h2 : evs C ks env S1 = .ok ys S2) (hp : permute (xs ++ ys) p = some zs) (hc : C.make c zs S2 = r) : ev C (.makek c es ks p) env S = r := by simp only [ev, h, h2, bind_ok, hp, oget, hc]
theorem ev_biS {b : Bi} {es : Exs} {xs : List D} (h : evl C es env S = .ok xs S1) (hb : biD b xs env S1 = r) : ev C (.bi b es) env S = r := by simp only [ev, h, bind_ok, hb]
theorem ev_isiS {a : Ex} {ts : List Ty} {t : TyD} {b : Bool} (ha : ev C a env S = .ok x S1) (ht : tyD C.sub env S1 (rd x) = some t) (hb : tyAny C.sub t ts = some b) : ev C (.isi a ts) env S = .ok (.bl b) S1 := by simp only [ev, ha, bindR_ok, ht, hb, oget]
theorem ev_mtS {m : Mt} {o : Ex} {es : Exs} {xs : List D} (ho : ev C o env S = .ok x S1) (ht : mtTy m env S1 (rd x) = true) (h : evl C es env S1 = .ok xs S2) (hm : mtD m (rd x) xs env S2 = r) : ev C (.mt m o es) env S = r := by simp only [ev, ho, bindR_ok, chk_pos ht, h, bind_ok, hm]
theorem ev_fldS {o : Ex} {f : PySem.Str} (ho : ev C o env S = .ok x S1) (h : fldD C f env (rd x) S1 = r) : ev C (.fld o f) env S = r := by simp only [ev, ho, bindR_ok, h]
theorem ev_ixS {a i : Ex} (ha : ev C a env S = .ok x S1) (hi : ev C i env S1 = .ok y S2) (h : ixD (rd x) (rd y) env S2 = r) : ev C (.ix a i) env S = r := by simp only [ev, ha, hi, bindR_ok, h]
theorem ev_revS {a : Ex} (ha : ev C a env S = .ok x S1) (h : revD (rd x) env S1 = r) : ev C (.rev a) env S = r := by simp only [ev, ha, bindR_ok, h]
theorem ev_refS {a : Ex} {o : Ob} (ha : ev C a env S = .ok (.own x) S1) (h : obOf x = some o) : ev C (.ref a) env S = .ok (.ref S1.length) (S1 ++ [o]) := by simp only [ev, ha, bind_ok, h, oget]
theorem ev_lcS {own tg : List Nat} {it : It} {c e : Ex} {p : Wk} {ys : List D} (hi : evIt C it env S = .ok p S1) (h : lcGo (ev C c) (ev C e) tg (wipeE env own) p.live p.xs [] S1 = .ok ys S2) (hl : ys.length ≤ PySem.sizeLine) : ev C (.lc own tg it c e) env S = .ok (.own (.lst ys)) S2 := by
  simp only [ev, hi, bind_ok, h, mkL, chk_pos hl, noEr]
theorem evs_nilS : evs C .nil env S = .ok [] S := by simp only [evs]
theorem evs_consS {e : Ex} {es : Exs} {xs : List D} (h : ev C e env S = .ok x S1) (ha : (rd x).isAcc = false) (hs : evs C es env S1 = .ok xs S2) : evs C (.cons false e es) env S = .ok (rd x :: xs) S2 := by simp only [evs, h, bindR_ok, ha, Bool.false_eq_true, if_false, hs, bind_ok]
theorem evl_nilS : evl C .nil env S = .ok [] S := by simp only [evl]
theorem evl_consS {e : Ex} {es : Exs} {xs : List D} (h : ev C e env S = .ok x S1) (hs : evl C es env S1 = .ok xs S2) : evl C (.cons false e es) env S = .ok (rd x :: xs) S2 := by simp only [evl, h, bindR_ok, Bool.false_eq_true, if_false, hs, bind_ok]
end
section
variable {C : Ctx} {env env1 : Env} {S S1 S2 S3 : Sto} {r : R Fl} {x y z : D}
theorem ss_nil' : exSs C .nil env S = .ok (.nx env) S := by simp only [exSs]
theorem ss_nx {s : Sm} {ss : Sms} (h : exS C s env S = .ok (.nx env1) S1) (h2 : exSs C ss env1 S1 = r) : exSs C (.cons s ss) env S = r := by simp only [exSs, h, bind_ok, h2]
theorem ss_rt {s : Sm} {ss : Sms} (h : exS C s env S = .ok (.rt x) S1) : exSs C (.cons s ss) env S = .ok (.rt x) S1 := by simp only [exSs, h, bind_ok]
theorem s_asgS {i : Nat} {e : Ex} (h : ev C e env S = .ok x S1) (ha : (rd x).isAcc = false) : exS C (.asg i e) env S = .ok (.nx (env.set i (.fz (rd x)))) S1 := by simp only [exS, h, bindR_ok, ha, Bool.false_eq_true, if_false]
theorem s_retS {e : Ex} (h : ev C e env S = .ok x S1) (ho : outD env x = some y) : exS C (.ret e) env S = .ok (.rt y) S1 := by simp only [exS, h, bind_ok, ho, oget]
theorem s_exprS {e : Ex} (h : ev C e env S = .ok x S1) : exS C (.expr e) env S = .ok (.nx env) S1 := by simp only [exS, h, bindR_ok]
theorem s_iteT {c : Ex} {a b : Sms} (hc : ev C c env S = .ok (.bl true) S1) (h : exSs C a env S1 = r) : exS C (.ite c a b) env S = r := by simp only [exS, hc, bindR_ok, rd, ifD, h]
theorem s_iteF {c : Ex} {a b : Sms} (hc : ev C c env S = .ok (.bl false) S1) (h : exSs C b env S1 = r) : exS C (.ite c a b) env S = r := by simp only [exS, hc, bindR_ok, rd, ifD, h]
theorem s_setixS {o i e : Ex} {ob ob' : Ob} {p : Env × Sto} (he : ev C e env S = .ok x S1) (ha : (rd x).isAcc = false) (ho : ev C o env S1 = .ok y S2) (hi : ev C i env S2 = .ok z S3) (h1 : cont env S3 (rd y) = some ob) (h2 : setD ob (rd z) (rd x) = some ob') (h3 : putOb (rd y) ob' env S3 = some p) :
    exS C (.setix o i e) env S = .ok (.nx p.1) p.2 := by simp only [exS, he, ho, hi, bindR_ok, ha, Bool.false_eq_true, if_false, h1, h2, h3, oget]
theorem s_mutS {m : Mt} {o : Ex} {es : Exs} {xs : List D} {ob ob' : Ob} {p : Env × Sto} (ho : ev C o env S = .ok y S1) (ht : mtTy m env S1 (rd y) = true) (hs : evl C es env S1 = .ok xs S2) (ha : xs.any D.isAcc = false) (h1 : cont env S2 (rd y) = some ob) (h2 : mutD m ob xs env S2 = some ob') (h3 : putOb (rd y) ob' env S2 = some p) :
    exS C (.mut m o es) env S = .ok (.nx p.1) p.2 := by simp only [exS, ho, hs, bindR_ok, bind_ok, chk_pos ht, ha, Bool.false_eq_true, if_false, h1, h2, h3, oget]
theorem s_forS {tg : List Nat} {it : It} {b : Sms} {p : Wk} (hi : evIt C it env S = .ok p S1) (ha : p.acc = false) (h : forGo (exSs C b) tg p.live p.xs env S1 = r) : exS C (.for_ tg it b) env S = r := by simp only [exS, hi, bind_ok, ha, Bool.false_eq_true, if_false, h]
end

/-! ### numbers -/
section
variable {C : Ctx} {env : Env} {S S1 S2 : Sto} {a b : Ex} {i j : Int}
theorem ev_addI (ha : ev C a env S = .ok (.int i) S1) (hb : ev C b env S1 = .ok (.int j) S2) : ev C (.bin .add a b) env S = .ok (.int (i + j)) S2 := ev_binS ha hb bin_add
theorem ev_subI (ha : ev C a env S = .ok (.int i) S1) (hb : ev C b env S1 = .ok (.int j) S2) : ev C (.bin .sub a b) env S = .ok (.int (i - j)) S2 := ev_binS ha hb bin_sub
theorem ev_mulI (ha : ev C a env S = .ok (.int i) S1) (hb : ev C b env S1 = .ok (.int j) S2) (h : (-(2 ^ 64) < i ∧ i < 2 ^ 64) ∨ (-(2 ^ 64) < j ∧ j < 2 ^ 64)) : ev C (.bin .mul a b) env S = .ok (.int (i * j)) S2 := ev_binS ha hb (bin_mul h)
theorem ev_modI (ha : ev C a env S = .ok (.int i) S1) (hb : ev C b env S1 = .ok (.int j) S2) (h : 0 < j) : ev C (.bin .mod a b) env S = .ok (.int (i % j)) S2 := ev_binS ha hb (bin_mod h)
theorem ev_fdivI (ha : ev C a env S = .ok (.int i) S1) (hb : ev C b env S1 = .ok (.int j) S2) (h : 0 < j) (h2 : j.natAbs < 2 ^ 1000) : ev C (.bin .fdiv a b) env S = .ok (.int (i / j)) S2 := ev_binS ha hb (bin_fdiv h h2)
theorem ev_powI {j : Int} (ha : ev C a env S = .ok (.int i) S1) (hb : ev C b env S1 = .ok (.int j) S2) (h0 : 0 ≤ j) (h : j ≤ 1000) (h2 : i.natAbs < 2 ^ 1000) : ev C (.bin .pow a b) env S = .ok (.int (i ^ j.toNat)) S2 := ev_binS ha hb (bin_pow h0 h h2)
theorem ev_powL {n : Nat} (ha : ev C a env S = .ok (.int i) S1) (h : n ≤ 1000) (h2 : i.natAbs < 2 ^ 1000) : ev C (.bin .pow a (.int (@OfNat.ofNat Int n (@instOfNat n)))) env S = .ok (.int (i ^ n)) S1 := ev_binS ha ev_intS (bin_powN (j := n) h h2)
theorem ev_ltI (ha : ev C a env S = .ok (.int i) S1) (hb : ev C b env S1 = .ok (.int j) S2) : ev C (.cmp .lt a b) env S = .ok (.bl (decide (i < j))) S2 := ev_cmpS ha hb cmp_lt
theorem ev_gtI (ha : ev C a env S = .ok (.int i) S1) (hb : ev C b env S1 = .ok (.int j) S2) : ev C (.cmp .gt a b) env S = .ok (.bl (decide (j < i))) S2 := ev_cmpS ha hb cmp_gt
theorem ev_leI (ha : ev C a env S = .ok (.int i) S1) (hb : ev C b env S1 = .ok (.int j) S2) : ev C (.cmp .le a b) env S = .ok (.bl (decide (i ≤ j))) S2 := ev_cmpS ha hb cmp_le
theorem ev_eqI (ha : ev C a env S = .ok (.int i) S1) (hb : ev C b env S1 = .ok (.int j) S2) : ev C (.cmp .eq a b) env S = .ok (.bl (i == j)) S2 := ev_cmpS ha hb cmp_eqI
theorem ev_intI (ha : ev C a env S = .ok (.int i) S1) : ev C (.bi .int (.cons false a .nil)) env S = .ok (.int i) S1 := ev_biS (evl_consS ha evl_nilS) bi_int
theorem ev_absI (ha : ev C a env S = .ok (.int i) S1) : ev C (.bi .abs (.cons false a .nil)) env S = .ok (.int (if i < 0 then -i else i)) S1 := ev_biS (evl_consS ha evl_nilS) bi_abs
theorem ev_maxI (ha : ev C a env S = .ok (.int i) S1) (hb : ev C b env S1 = .ok (.int j) S2) : ev C (.bi .max (.cons false a (.cons false b .nil))) env S = .ok (.int (if j > i then j else i)) S2 := ev_biS (evl_consS ha (evl_consS hb evl_nilS)) bi_max
theorem ev_minI (ha : ev C a env S = .ok (.int i) S1) (hb : ev C b env S1 = .ok (.int j) S2) : ev C (.bi .min (.cons false a (.cons false b .nil))) env S = .ok (.int (if j < i then j else i)) S2 := ev_biS (evl_consS ha (evl_consS hb evl_nilS)) bi_min
theorem ev_lenScr {xs : List D} (ha : ev C a env S = .ok (.scr xs) S1) : ev C (.bi .len (.cons false a .nil)) env S = .ok (.int xs.length) S1 := ev_biS (evl_consS ha evl_nilS) bi_len_scr
/-- items, already held -/
theorem evs_consI {es : Exs} {x y : D} {xs : List D} (h : ev C a env S = .ok x S1) (hy : rd x = y) (ha : y.isAcc = false) (hs : evs C es env S1 = .ok xs S2) : evs C (.cons false a es) env S = .ok (y :: xs) S2 := by
  subst hy; exact evs_consS h ha hs
end

/-! ### lists of the store -/
section
variable {C : Ctx} {env : Env} {S S1 S2 S3 : Sto} {a b e : Ex} {p : Nat} {xs : List D} {k : Int} {d x y : D}
theorem ev_ixRef (ha : ev C a env S = .ok (.ref p) S1) (hi : ev C b env S1 = .ok (.int k) S2) (hS : S2[p]? = some (.lst xs)) (h : L2.atI xs k = some d) : ev C (.ix a b) env S = .ok d S2 := by
  refine ev_ixS ha hi ?_
  show ixD (.ref p) (.int k) env S2 = _
  unfold ixD
  have e : seqOf env S2 (.ref p) = some xs := by
    show (match S2[p]? with | some (.lst xs) => some xs | _ => none) = _
    rw [hS]
  simp only [e, h, oget]
theorem s_setixRef {j : Nat} (he : ev C e env S = .ok x S1) (hx : rd x = y) (hy : y.isAcc = false) (ho : ev C a env S1 = .ok (.ref p) S2) (hi : ev C b env S2 = .ok (.int k) S3) (hS : S3[p]? = some (.lst xs)) (hk : L2.ixN xs.length k = some j) :
    exS C (.setix a b e) env S = .ok (.nx env) (S3.set p (.lst (xs.set j y))) := by
  subst hx
  refine s_setixS (ob' := .lst (xs.set j (rd x))) (p := (env, S3.set p (.lst (xs.set j (rd x))))) he hy ho hi (show S3[p]? = _ from hS) ?_ ?_
  · show (L2.ixN xs.length k).map _ = _
    rw [hk]; rfl
  · show (if p < S3.length then some (env, S3.set p _) else none) = _
    rw [if_pos (List.getElem?_eq_some_iff.mp hS).1]
end
theorem get_set {S : Sto} {p : Nat} {o o' : Ob} (h : S[p]? = some o) : (S.set p o')[p]? = some o' := List.getElem?_set_self (List.getElem?_eq_some_iff.mp h).1
end K9
end
section
set_option Elab.async false
set_option linter.all false
set_option maxRecDepth 100000
/-! K9Ev2: loops of the evaluator by an invariant. -/
namespace K9
/-- a comprehension without a condition over fixed items -/
theorem lc_inv {C : Ctx} {elt : Ex} {i : Nat} {env : Env} (I : List D → Sto → Prop) (B : Nat) (hB : B ≤ PySem.sizeLine) : ∀ (xs ys : List D) (S : Sto), I ys S → (∀ x ∈ xs, x.isAcc = false) →
    (∀ x ∈ xs, ∀ ys S, I ys S → ys.length < B → ∃ y S', ev C elt (env.set i (.fz x)) S = .ok y S' ∧ (rd y).isAcc = false ∧ I (ys ++ [rd y]) S') → ys.length + xs.length ≤ B →
    ∃ ys' S', lcGo (ev C (.bl true)) (ev C elt) [i] env [] xs ys S = .ok ys' S' ∧ I ys' S' ∧ ys'.length = ys.length + xs.length
  | [], ys, S, h, _, _, _ => ⟨ys, S, rfl, h, rfl⟩
  | x :: xs, ys, S, h, ha, hs, hl => by
    rw [List.length_cons] at hl
    obtain ⟨y, S1, e1, e2, e3⟩ := hs x List.mem_cons_self ys S h (by omega)
    obtain ⟨ys', S', f1, f2, f3⟩ := lc_inv I B hB xs (ys ++ [rd y]) S1 e3 (fun x hx => ha x (List.mem_cons_of_mem _ hx)) (fun x hx => hs x (List.mem_cons_of_mem _ hx)) (by rw [List.length_append, List.length_singleton]; omega)
    refine ⟨ys', S', ?_, f2, by rw [f3, List.length_append, List.length_singleton, List.length_cons]; omega⟩
    show oget (asgT [i] x env) (fun e => (ev C (.bl true) e S).bindR fun b S1 => ifD b ((ev C elt e S1).bindR fun y S2 => if y.isAcc then .bad else chk (ys.length < PySem.sizeLine) (lcGo _ _ [i] env [] xs (ys ++ [y]) S2)) (lcGo _ _ [i] env [] xs ys S1)) = _
    have q : asgT [i] x env = some (env.set i (.fz x)) := by
      show (if x.isAcc then none else some _) = _
      rw [ha x List.mem_cons_self]; rfl
    rw [q, oget_some, ev_blS, bindR_ok, rd_bl, show ∀ (f g : R (List D)), ifD (.bl true) f g = f from fun _ _ => rfl, e1, bindR_ok, e2]
    show chk (ys.length < PySem.sizeLine) _ = _
    rw [chk_pos (by omega), f1]
theorem upTo_int {a : Int} {n : Nat} {x : D} (h : x ∈ upTo a n) : ∃ k : Nat, k < n ∧ x = .int (a + k) := by
  unfold upTo at h
  obtain ⟨k, hk, rfl⟩ := List.mem_map.mp h
  exact ⟨k, List.mem_range.mp hk, rfl⟩
theorem upTo_len {a : Int} {n : Nat} : (upTo a n).length = n := by simp [upTo]
theorem evIt_rng1 {C : Ctx} {env : Env} {S S1 : Sto} {e : Ex} {n : Int} (h : ev C e env S = .ok (.int n) S1) (hn : rngOk n) : evIt C (.rng1 e) env S = .ok ⟨upTo 0 n.toNat, [], false⟩ S1 := by
  simp only [evIt, h, bindR_ok, rd]
  exact chk_pos hn
/-- a loop over fixed items by an invariant; it may end in a return -/
theorem for_inv {C : Ctx} {b : Sms} {i : Nat} (I : Env → Sto → Prop) (Q : D → Sto → Prop) : ∀ (xs : List D) (env : Env) (S : Sto), I env S → (∀ x ∈ xs, x.isAcc = false) →
    (∀ x ∈ xs, ∀ env S, I env S → (∃ env' S', exSs C b (env.set i (.fz x)) S = .ok (.nx env') S' ∧ I env' S') ∨ (∃ d S', exSs C b (env.set i (.fz x)) S = .ok (.rt d) S' ∧ Q d S')) →
    (∃ env' S', forGo (exSs C b) [i] [] xs env S = .ok (.nx env') S' ∧ I env' S') ∨ (∃ d S', forGo (exSs C b) [i] [] xs env S = .ok (.rt d) S' ∧ Q d S')
  | [], env, S, h, _, _ => .inl ⟨env, S, rfl, h⟩
  | x :: xs, env, S, h, ha, hs => by
    have q : asgT [i] x env = some (env.set i (.fz x)) := by
      show (if x.isAcc then none else some _) = _
      rw [ha x List.mem_cons_self]; rfl
    have e0 : forGo (exSs C b) [i] [] (x :: xs) env S = (exSs C b (env.set i (.fz x)) S).bind fun f S1 => match f with
      | .nx e1 => forGo (exSs C b) [i] [] xs e1 S1
      | .ct e1 => forGo (exSs C b) [i] [] xs e1 S1
      | .rt d => .ok (.rt d) S1 := by
      show oget (asgT [i] x env) _ = _
      rw [q]; rfl
    rw [e0]
    rcases hs x List.mem_cons_self env S h with ⟨env', S1, e1, e2⟩ | ⟨d, S1, e1, e2⟩
    · rw [e1]
      exact for_inv I Q xs env' S1 e2 (fun x hx => ha x (List.mem_cons_of_mem _ hx)) fun x hx => hs x (List.mem_cons_of_mem _ hx)
    · rw [e1]
      exact .inr ⟨d, S1, rfl, e2⟩
/-- .. that never returns -/
theorem for_nx {C : Ctx} {b : Sms} {i : Nat} (I : Env → Sto → Prop) (xs : List D) (env : Env) (S : Sto) (h : I env S) (ha : ∀ x ∈ xs, x.isAcc = false)
    (hs : ∀ x ∈ xs, ∀ env S, I env S → ∃ env' S', exSs C b (env.set i (.fz x)) S = .ok (.nx env') S' ∧ I env' S') :
    ∃ env' S', forGo (exSs C b) [i] [] xs env S = .ok (.nx env') S' ∧ I env' S' := by
  rcases for_inv I (fun _ _ => False) xs env S h ha (fun x hx env S h => .inl (hs x hx env S h)) with h | ⟨_, _, _, h⟩
  · exact h
  · cases h
end K9
end
section
set_option Elab.async false
set_option linter.all false
set_option maxRecDepth 1000000
set_option maxHeartbeats 0
namespace Lk01
open PySem PySem.Spec PyProof.Rows K9
def tp (i : Nat) : Stmt := PySem.Challenge.pw_keysthrough_k01_errors.main.body.getD i (.Pass ⟨0, 0, 0, 0⟩)
def tm (i j : Nat) : Stmt := match tp i with
  | .ClassDef _ _ _ b _ _ _ _ _ _ _ => b.getD j (.Pass ⟨0, 0, 0, 0⟩)
  | _ => .Pass ⟨0, 0, 0, 0⟩
def b_0 : Sms := (.cons (.asg 2 (.ite (.cmp .lt (.var 1) (.bi .len (.cons false (.var 0) .nil))) (.ix (.var 0) (.var 1)) (.int 0))) (.cons (.ret (.lst (.cons false (.bi .max (.cons false (.int 0) (.cons false (.bin .sub (.bi .abs (.cons false (.var 2) .nil)) (.bin .pow (.int 10) (.int 18))) .nil))) (.cons false (.bin .mod (.bi .int (.cons false (.bin .add (.bin .add (.bin .mul (.var 2) (.int 30011)) (.bin .mul (.var 1) (.int 7368787))) (.int 104729)) .nil)) (.bin .add (.bin .pow (.int 10) (.int 24)) (.int 7))) (.cons false (.int 0) .nil))))) .nil))
def r_0 : DRow := ⟨("_law_purse", none), "_law_purse", "_law_purse", tp 14, ["script", "place"], ["script", "place", "cell"], b_0⟩
def b_1 : Sms := (.cons (.ite (.cmp .gt (.ix (.var 0) (.int 0)) (.int 0)) (.cons (.asg 3 (.bin .mod (.bi .int (.cons false (.ix (.var 0) (.int 0)) .nil)) (.var 1))) (.cons (.setix (.var 0) (.int 0) (.bin .fdiv (.ix (.var 0) (.int 0)) (.var 1))) (.cons (.ret (.var 3)) .nil))) .nil) (.cons (.setix (.var 0) (.int 2) (.bin .add (.ix (.var 0) (.int 2)) (.int 1))) (.cons (.asg 2 (.bin .mod (.bin .pow (.bi .int (.cons false (.bin .add (.ix (.var 0) (.int 1)) (.bin .mul (.int 2038074743) (.ix (.var 0) (.int 2)))) .nil)) (.int 3)) (.bin .add (.bin .pow (.int 10) (.int 25)) (.int 13)))) (.cons (.asg 2 (.bin .mod (.bin .pow (.bi .int (.cons false (.bin .add (.var 2) (.bin .mul (.int 982451653) (.ix (.var 0) (.int 2)))) .nil)) (.int 2)) (.bin .add (.bin .pow (.int 10) (.int 24)) (.int 7)))) (.cons (.ret (.bin .mod (.bi .int (.cons false (.bin .fdiv (.var 2) (.int 1024)) .nil)) (.var 1))) .nil)))))
def r_1 : DRow := ⟨("_law_coin", none), "_law_coin", "_law_coin", tp 15, ["purse", "many"], ["purse", "many", "stirred", "drawn"], b_1⟩
def b_2 : Sms := (.cons (.ite (.isi (.var 0) [.list]) (.cons (.ret (.ref (.lc [1] [1] (.seq (.var 0)) (.bl true) (.call 2 (.cons false (.var 1) .nil))))) .nil) .nil) (.cons (.ret (.ite (.isi (.var 0) [.tuple]) (.bi .tuple (.cons false (.lc [1] [1] (.seq (.var 0)) (.bl true) (.call 2 (.cons false (.var 1) .nil))) .nil)) (.var 0))) .nil))
def r_2 : DRow := ⟨("_law_copied", none), "_law_copied", "_law_copied", tp 16, ["thing"], ["thing", "part"], b_2⟩
def b_3 : Sms := (.cons (.ite (.isi (.var 0) [.list, .tuple]) (.cons (.for_ [1] (.seq (.bi .list (.cons false (.var 0) .nil))) (.cons (.expr (.call 3 (.cons false (.var 1) .nil))) .nil)) .nil) .nil) (.cons (.ite (.isi (.var 0) [.list]) (.cons (.mut .append (.var 0) (.cons false (.str "muddled") .nil)) (.cons (.mut .reverse (.var 0) .nil) .nil)) .nil) .nil))
def r_3 : DRow := ⟨("_law_muddle", none), "_law_muddle", "_law_muddle", tp 17, ["thing"], ["thing", "part"], b_3⟩
def b_4 : Sms := (.cons (.asg 1 (.lst (.cons false (.str "BrokenRule") (.cons false (.str "DoubleName") (.cons false (.str "InvalidName") (.cons false (.str "InvalidQuestion") (.cons false (.str "InvalidRow") (.cons false (.str "InvalidRule") (.cons false (.str "NoSuchRow") .nil))))))))) (.cons (.asg 1 (.bin .add (.var 1) (.lst (.cons false (.str "NothingToUndo") (.cons false (.str "UnknownColumn") (.cons false (.str "UnknownTable") (.cons false (.str "Unreadable") .nil))))))) (.cons (.asg 2 (.lst (.cons false (.isi (.var 0) [.cls 8]) (.cons false (.isi (.var 0) [.cls 2]) (.cons false (.isi (.var 0) [.cls 1]) .nil))))) (.cons (.asg 2 (.bin .add (.var 2) (.lst (.cons false (.isi (.var 0) [.cls 7]) (.cons false (.isi (.var 0) [.cls 6]) .nil))))) (.cons (.asg 2 (.bin .add (.var 2) (.lst (.cons false (.isi (.var 0) [.cls 5]) (.cons false (.isi (.var 0) [.cls 9]) (.cons false (.isi (.var 0) [.cls 10]) .nil)))))) (.cons (.asg 2 (.bin .add (.var 2) (.lst (.cons false (.isi (.var 0) [.cls 4]) (.cons false (.isi (.var 0) [.cls 3]) (.cons false (.isi (.var 0) [.cls 11]) .nil)))))) (.cons (.ret (.lc [3, 4] [3, 4] (.zip (.var 1) (.var 2)) (.var 4) (.var 3))) .nil)))))))
def r_4 : DRow := ⟨("_law_kinds", none), "_law_kinds", "_law_kinds", tp 18, ["caught"], ["caught", "words", "told", "word", "is_so"], b_4⟩
def b_5 : Sms := (.cons (.asg 2 (.call 1 (.cons false (.var 0) (.cons false (.int 9) .nil)))) (.cons (.ite (.and (.cmp .lt (.var 2) (.int 3)) (.cmp .gt (.var 1) (.int 0))) (.cons (.asg 3 (.ref (.lc [4] [4] (.rng1 (.call 1 (.cons false (.var 0) (.cons false (.int 4) .nil)))) (.bl true) (.call 5 (.cons false (.var 0) (.cons false (.bin .sub (.var 1) (.int 1)) .nil)))))) (.cons (.ret (.ite (.cmp .lt (.var 2) (.int 2)) (.var 3) (.bi .tuple (.cons false (.var 3) .nil)))) .nil)) .nil) (.cons (.ite (.cmp .eq (.var 2) (.int 3)) (.cons (.ret .non) .nil) .nil) (.cons (.ite (.cmp .eq (.var 2) (.int 4)) (.cons (.ret (.cmp .eq (.call 1 (.cons false (.var 0) (.cons false (.int 2) .nil))) (.int 0))) .nil) .nil) (.cons (.ite (.cmp .lt (.var 2) (.int 7)) (.cons (.ret (.mt .join (.str "") (.cons false (.lc [4] [4] (.rng1 (.call 1 (.cons false (.var 0) (.cons false (.int 9) .nil)))) (.bl true) (.ix (.str "aZ 9._~") (.call 1 (.cons false (.var 0) (.cons false (.int 7) .nil))))) .nil))) .nil) .nil) (.cons (.ret (.bin .sub (.call 1 (.cons false (.var 0) (.cons false (.bin .pow (.int 10) (.int 30)) .nil))) (.bin .pow (.int 10) (.int 29)))) .nil))))))
def r_5 : DRow := ⟨("_law_thing", none), "_law_thing", "_law_thing", tp 19, ["purse", "deep"], ["purse", "deep", "way", "parts", "turn"], b_5⟩
def b_6 : Sms := (.cons (.ite (.cmp .eq (.var 0) (.int 0)) (.cons (.ret (.make 0 (.cons false (.var 1) .nil))) .nil) .nil) (.cons (.ite (.cmp .eq (.var 0) (.int 1)) (.cons (.ret (.make 8 (.cons false (.var 1) .nil))) .nil) .nil) (.cons (.ite (.cmp .eq (.var 0) (.int 2)) (.cons (.ret (.make 2 (.cons false (.var 1) .nil))) .nil) .nil) (.cons (.ite (.cmp .eq (.var 0) (.int 3)) (.cons (.ret (.make 1 (.cons false (.var 1) .nil))) .nil) .nil) (.cons (.ite (.cmp .eq (.var 0) (.int 4)) (.cons (.ret (.make 7 (.cons false (.var 1) .nil))) .nil) .nil) (.cons (.ite (.cmp .eq (.var 0) (.int 5)) (.cons (.ret (.make 6 (.cons false (.var 1) .nil))) .nil) .nil) (.cons (.ite (.cmp .eq (.var 0) (.int 6)) (.cons (.ret (.make 5 (.cons false (.var 1) .nil))) .nil) .nil) (.cons (.ite (.cmp .eq (.var 0) (.int 7)) (.cons (.ret (.make 9 (.cons false (.var 1) .nil))) .nil) .nil) (.cons (.ite (.cmp .eq (.var 0) (.int 8)) (.cons (.ret (.make 10 (.cons false (.var 1) .nil))) .nil) .nil) (.cons (.ite (.cmp .eq (.var 0) (.int 9)) (.cons (.ret (.make 4 (.cons false (.var 1) .nil))) .nil) .nil) (.cons (.ret (.ite (.cmp .eq (.var 0) (.int 10)) (.make 3 (.cons false (.var 1) .nil)) (.make 11 (.cons false (.var 1) .nil)))) .nil)))))))))))
def r_6 : DRow := ⟨("_law_made", none), "_law_made", "_law_made", tp 20, ["rank", "thing"], ["rank", "thing"], b_6⟩
def b_7 : Sms := (.cons (.ite (.cmp .eq (.var 0) (.int 0)) (.cons (.ret (.makek 0 .nil (.cons false (.var 1) .nil) [0])) .nil) .nil) (.cons (.ite (.cmp .eq (.var 0) (.int 1)) (.cons (.ret (.makek 8 .nil (.cons false (.var 1) .nil) [0])) .nil) .nil) (.cons (.ite (.cmp .eq (.var 0) (.int 2)) (.cons (.ret (.makek 2 .nil (.cons false (.var 1) .nil) [0])) .nil) .nil) (.cons (.ite (.cmp .eq (.var 0) (.int 3)) (.cons (.ret (.makek 1 .nil (.cons false (.var 1) .nil) [0])) .nil) .nil) (.cons (.ite (.cmp .eq (.var 0) (.int 4)) (.cons (.ret (.makek 7 .nil (.cons false (.var 1) .nil) [0])) .nil) .nil) (.cons (.ite (.cmp .eq (.var 0) (.int 5)) (.cons (.ret (.makek 6 .nil (.cons false (.var 1) .nil) [0])) .nil) .nil) (.cons (.ite (.cmp .eq (.var 0) (.int 6)) (.cons (.ret (.makek 5 .nil (.cons false (.var 1) .nil) [0])) .nil) .nil) (.cons (.ite (.cmp .eq (.var 0) (.int 7)) (.cons (.ret (.makek 9 .nil (.cons false (.var 1) .nil) [0])) .nil) .nil) (.cons (.ite (.cmp .eq (.var 0) (.int 8)) (.cons (.ret (.makek 10 .nil (.cons false (.var 1) .nil) [0])) .nil) .nil) (.cons (.ite (.cmp .eq (.var 0) (.int 9)) (.cons (.ret (.makek 4 .nil (.cons false (.var 1) .nil) [0])) .nil) .nil) (.cons (.ret (.ite (.cmp .eq (.var 0) (.int 10)) (.makek 3 .nil (.cons false (.var 1) .nil) [0]) (.makek 11 .nil (.cons false (.var 1) .nil) [0]))) .nil)))))))))))
def r_7 : DRow := ⟨("_law_named", none), "_law_named", "_law_named", tp 21, ["rank", "thing"], ["rank", "thing"], b_7⟩
def b_8 : Sms := (.cons (.asg 2 (.lst (.cons false (.lst .nil) (.cons false (.lst (.cons false (.str "BrokenRule") .nil)) (.cons false (.lst (.cons false (.str "DoubleName") .nil)) (.cons false (.lst (.cons false (.str "InvalidName") .nil)) (.cons false (.lst (.cons false (.str "InvalidQuestion") .nil)) (.cons false (.lst (.cons false (.str "InvalidRow") .nil)) .nil)))))))) (.cons (.asg 2 (.bin .add (.var 2) (.lst (.cons false (.lst (.cons false (.str "InvalidRule") .nil)) (.cons false (.lst (.cons false (.str "NoSuchRow") .nil)) (.cons false (.lst (.cons false (.str "NothingToUndo") .nil)) (.cons false (.lst (.cons false (.str "UnknownColumn") .nil)) (.cons false (.lst (.cons false (.str "UnknownTable") .nil)) .nil)))))))) (.cons (.asg 2 (.bin .add (.var 2) (.lst (.cons false (.lst (.cons false (.str "Unreadable") .nil)) .nil)))) (.cons (.asg 3 (.lst (.cons false (.call 5 (.cons false (.var 0) (.cons false (.int 3) .nil))) (.cons false (.call 5 (.cons false (.var 0) (.cons false (.int 3) .nil))) .nil)))) (.cons (.asg 4 (.lc [8] [8] (.seq (.var 3)) (.bl true) (.call 2 (.cons false (.var 8) .nil)))) (.cons (.asg 5 (.lst (.cons false (.call 6 (.cons false (.var 1) (.cons false (.ix (.var 3) (.int 0)) .nil))) (.cons false (.call 7 (.cons false (.var 1) (.cons false (.ix (.var 3) (.int 1)) .nil))) .nil)))) (.cons (.for_ [6] (.rng1 (.int 2)) (.cons (.for_ [7] (.rng1 (.int 2)) (.cons (.asg 9 (.ix (.var 5) (.var 7))) (.cons (.ite (.or (.not (.isi (.var 9) [.cls 0])) (.not (.isi (.var 9) [.valueError]))) (.cons (.ret (.bl false)) .nil) .nil) (.cons (.ite (.or (.cmp .ne (.call 4 (.cons false (.var 9) .nil)) (.ix (.var 2) (.var 1))) (.cmp .ne (.bi .repr (.cons false (.fld (.var 9) "value") .nil)) (.bi .repr (.cons false (.ix (.var 4) (.var 7)) .nil)))) (.cons (.ret (.bl false)) .nil) .nil) .nil)))) (.cons (.for_ [7] (.rng1 (.int 2)) (.cons (.expr (.call 3 (.cons false (.ix (.var 3) (.var 7)) .nil))) (.cons (.expr (.call 3 (.cons false (.ix (.var 4) (.var 7)) .nil))) .nil))) .nil))) (.cons (.ret (.cmp .eq (.bi .repr (.cons false (.lc [9] [9] (.seq (.var 5)) (.bl true) (.fld (.var 9) "value")) .nil)) (.bi .repr (.cons false (.var 4) .nil)))) .nil))))))))
def r_8 : DRow := ⟨("_law_class_right", none), "_law_class_right", "_law_class_right", tp 22, ["purse", "rank"], ["purse", "rank", "words", "things", "mirrors", "built", "turn", "at", "thing", "caught"], b_8⟩
def b_9 : Sms := (.cons (.for_ [1] (.rng1 (.bi .max (.cons false (.int 1) (.cons false (.bi .min (.cons false (.int 6) (.cons false (.bi .len (.cons false (.var 0) .nil)) .nil))) .nil)))) (.cons (.asg 2 (.ref (.call 0 (.cons false (.var 0) (.cons false (.var 1) .nil))))) (.cons (.for_ [3] (.rng1 (.int 12)) (.cons (.ite (.not (.call 8 (.cons false (.var 2) (.cons false (.var 3) .nil)))) (.cons (.ret (.bl false)) .nil) .nil) .nil)) .nil))) (.cons (.ret (.bl true)) .nil))
def r_9 : DRow := ⟨("law", none), "law", "law", tp 23, ["script"], ["script", "spot", "purse", "rank"], b_9⟩
def T : Tab := ⟨[r_0, r_1, r_2, r_3, r_4, r_5, r_6, r_7, r_8, r_9], ["KeyTellError", "InvalidName", "DoubleName", "UnknownTable", "UnknownColumn", "InvalidRule", "InvalidRow", "InvalidQuestion", "BrokenRule", "NoSuchRow", "NothingToUndo", "Unreadable"], 12, [], [], ["ValueError", "abs", "int", "isinstance", "len", "list", "max", "min", "range", "repr", "tuple", "zip"], tm 1 0, "KeyTellError.__init__"⟩
theorem ok_0 : r_0.Ok T.gt := ⟨⟨by decide +kernel, by decide +kernel, by decide +kernel, by decide +kernel, by decide +kernel, by decide +kernel, by decide +kernel⟩, by decide +kernel, fun _ _ _ _ _ _ us hl => match us, hl with | [_, _], _ => by kernel_rfl⟩
theorem ok_1 : r_1.Ok T.gt := ⟨⟨by decide +kernel, by decide +kernel, by decide +kernel, by decide +kernel, by decide +kernel, by decide +kernel, by decide +kernel⟩, by decide +kernel, fun _ _ _ _ _ _ us hl => match us, hl with | [_, _], _ => by kernel_rfl⟩
theorem ok_2 : r_2.Ok T.gt := ⟨⟨by decide +kernel, by decide +kernel, by decide +kernel, by decide +kernel, by decide +kernel, by decide +kernel, by decide +kernel⟩, by decide +kernel, fun _ _ _ _ _ _ us hl => match us, hl with | [_], _ => by kernel_rfl⟩
theorem ok_3 : r_3.Ok T.gt := ⟨⟨by decide +kernel, by decide +kernel, by decide +kernel, by decide +kernel, by decide +kernel, by decide +kernel, by decide +kernel⟩, by decide +kernel, fun _ _ _ _ _ _ us hl => match us, hl with | [_], _ => by kernel_rfl⟩
theorem ok_4 : r_4.Ok T.gt := ⟨⟨by decide +kernel, by decide +kernel, by decide +kernel, by decide +kernel, by decide +kernel, by decide +kernel, by decide +kernel⟩, by decide +kernel, fun _ _ _ _ _ _ us hl => match us, hl with | [_], _ => by kernel_rfl⟩
theorem ok_5 : r_5.Ok T.gt := ⟨⟨by decide +kernel, by decide +kernel, by decide +kernel, by decide +kernel, by decide +kernel, by decide +kernel, by decide +kernel⟩, by decide +kernel, fun _ _ _ _ _ _ us hl => match us, hl with | [_, _], _ => by kernel_rfl⟩
theorem ok_6 : r_6.Ok T.gt := ⟨⟨by decide +kernel, by decide +kernel, by decide +kernel, by decide +kernel, by decide +kernel, by decide +kernel, by decide +kernel⟩, by decide +kernel, fun _ _ _ _ _ _ us hl => match us, hl with | [_, _], _ => by kernel_rfl⟩
theorem ok_7 : r_7.Ok T.gt := ⟨⟨by decide +kernel, by decide +kernel, by decide +kernel, by decide +kernel, by decide +kernel, by decide +kernel, by decide +kernel⟩, by decide +kernel, fun _ _ _ _ _ _ us hl => match us, hl with | [_, _], _ => by kernel_rfl⟩
theorem ok_8 : r_8.Ok T.gt := ⟨⟨by decide +kernel, by decide +kernel, by decide +kernel, by decide +kernel, by decide +kernel, by decide +kernel, by decide +kernel⟩, by decide +kernel, fun _ _ _ _ _ _ us hl => match us, hl with | [_, _], _ => by kernel_rfl⟩
theorem ok_9 : r_9.Ok T.gt := ⟨⟨by decide +kernel, by decide +kernel, by decide +kernel, by decide +kernel, by decide +kernel, by decide +kernel, by decide +kernel⟩, by decide +kernel, fun _ _ _ _ _ _ us hl => match us, hl with | [_], _ => by kernel_rfl⟩

end Lk01
end
section
set_option Elab.async false
set_option linter.all false
set_option maxRecDepth 1000000
set_option maxHeartbeats 0
namespace Lk01
open PySem PySem.Spec PyProof.Rows K9
abbrev Rr : PySem.W.OpenRow := PySem.W.OpenLaw.row PySem.Challenge.rw_keysthrough_k01_errors
def loose : List Str := ["__name__", "KeyTellError", "InvalidName", "DoubleName", "UnknownTable", "UnknownColumn", "InvalidRule", "InvalidRow", "InvalidQuestion", "BrokenRule", "NoSuchRow", "NothingToUndo", "Unreadable", "_law_purse", "_law_coin", "_law_copied", "_law_muddle", "_law_kinds", "_law_thing", "_law_made", "_law_named", "_law_class_right"]
theorem run (w : World) : HandSHeadRun.RunEq Rr (PySem.W.view Rr.prog [23]) (hookK 5 T) (obT 5 T) 4000 loose w := by
  intro os
  kernel_rfl
end Lk01
end
section
set_option Elab.async false
set_option linter.all false
set_option maxRecDepth 100000
set_option maxHeartbeats 0
set_option exponentiation.threshold 2000
namespace Lk01
open K9 PySem
local macro_rules | `(tactic| walk_at "k9q") => `(tactic| first
  | assumption
  | omega
  | decide
  | exact .inl ⟨by omega, by omega⟩
  | exact .inr ⟨by omega, by omega⟩
  | decide +kernel)
local macro_rules | `(tactic| walk_at "k9") => `(tactic| with_reducible first
  | apply ev_nonS
  | apply ev_blS
  | apply ev_intS
  | apply ev_strS
  | (apply ev_var; with_unfolding_all rfl)
  | (apply ev_addI; walk_at "k9"; walk_at "k9")
  | (apply ev_subI; walk_at "k9"; walk_at "k9")
  | (apply ev_mulI; walk_at "k9"; walk_at "k9"; walk_at "k9q")
  | (apply ev_modI; walk_at "k9"; walk_at "k9"; walk_at "k9q")
  | (apply ev_fdivI; walk_at "k9"; walk_at "k9"; walk_at "k9q"; walk_at "k9q")
  | (apply ev_powL; walk_at "k9"; walk_at "k9q"; walk_at "k9q")
  | (apply ev_ltI; walk_at "k9"; walk_at "k9")
  | (apply ev_gtI; walk_at "k9"; walk_at "k9")
  | (apply ev_leI; walk_at "k9"; walk_at "k9")
  | (apply ev_eqI; walk_at "k9"; walk_at "k9")
  | (apply ev_intI; walk_at "k9")
  | (apply ev_ixRef; walk_at "k9"; walk_at "k9"; assumption; with_unfolding_all rfl)
  | (apply ev_absI; walk_at "k9")
  | (apply ev_maxI; walk_at "k9"; walk_at "k9")
  | (apply ev_minI; walk_at "k9"; walk_at "k9")
  | (apply ev_lenScr; walk_at "k9")
  | (apply ev_negS; walk_at "k9")
  | (apply ev_notS; walk_at "k9")
  | (apply ev_lstS; walk_at "k9s"; exact Nat.le_of_ble_eq_true rfl)
  | (apply ev_tupS; walk_at "k9s"; exact Nat.le_of_ble_eq_true rfl)
  | assumption)
local macro_rules | `(tactic| walk_at "k9s") => `(tactic| with_reducible first
  | apply evs_nilS
  | (apply evs_consI; walk_at "k9"; with_unfolding_all rfl; with_unfolding_all rfl; walk_at "k9s"))
theorem purse_ok {n : Nat} {ns : List Int} {p : Nat} {S : Sto} : ∃ a b : Int, 0 ≤ a ∧ 0 ≤ b ∧ b < 10 ^ 24 + 7 ∧ callT T.prog 0 (n + 1) 0 [.scr (ns.map .int), .int p] S = .ok (.own (.lst [.int a, .int b, .int 0])) S := by
  rw [callT_eq (fn := r_0.fn) rfl, runFn_eq rfl]
  show ∃ a b : Int, 0 ≤ a ∧ 0 ≤ b ∧ b < 10 ^ 24 + 7 ∧ (exSs (ctxT T.prog 0 n) b_0 [.fz (.scr (ns.map .int)), .fz (.int p), .no] S).bind finF = _
  have hcell : ∃ c : Int, ev (ctxT T.prog 0 n) (.ite (.cmp .lt (.var 1) (.bi .len (.cons false (.var 0) .nil))) (.ix (.var 0) (.var 1)) (.int 0)) [.fz (.scr (ns.map .int)), .fz (.int p), .no] S = .ok (.int c) S := by
    by_cases h : p < ns.length
    · refine ⟨ns[p], ?_⟩
      apply ev_iteS
      · walk_at "k9"
      · rw [if_pos (by simpa using h)]
        apply ev_ixS
        · walk_at "k9"
        · walk_at "k9"
        · refine ix_scr ?_
          rw [atI_nat (by simpa using h)]
          simp [h]
    · refine ⟨0, ?_⟩
      apply ev_iteS
      · walk_at "k9"
      · rw [if_neg (by simpa using h)]
        walk_at "k9"
  obtain ⟨c, hc⟩ := hcell
  have hb : ∃ a b : Int, 0 ≤ a ∧ 0 ≤ b ∧ b < 10 ^ 24 + 7 ∧ exSs (ctxT T.prog 0 n) b_0 [.fz (.scr (ns.map .int)), .fz (.int p), .no] S = .ok (.rt (.own (.lst [.int a, .int b, .int 0]))) S := by
    refine ⟨?wa, ?wb, ?wha, ?whb, ?whb2, ?wrun⟩
    case wrun =>
      apply ss_nx
      · exact s_asgS hc rfl
      · apply ss_rt
        apply s_retS
        · walk_at "k9"
        · rfl
    case wha => split <;> omega
    case whb => exact Int.emod_nonneg _ (by decide +kernel)
    case whb2 => exact Int.emod_lt_of_pos _ (by decide +kernel)
  obtain ⟨a, b, h1, h2, h3, h4⟩ := hb
  exact ⟨a, b, h1, h2, h3, by rw [h4]; rfl⟩

theorem coin_ok {n p : Nat} {S : Sto} {a b c many : Int} (hS : S[p]? = some (.lst [.int a, .int b, .int c])) (ha : 0 ≤ a) (hb : 0 ≤ b) (hb2 : b < 10 ^ 24 + 7) (hc : 0 ≤ c) (hc2 : c < 2 ^ 40) (hm : 0 < many) (hm2 : many.natAbs < 2 ^ 1000) :
    ∃ d a' c' : Int, 0 ≤ d ∧ d < many ∧ 0 ≤ a' ∧ c ≤ c' ∧ c' ≤ c + 1 ∧ callT T.prog 0 (n + 1) 1 [.ref p, .int many] S = .ok (.int d) (S.set p (.lst [.int a', .int b, .int c'])) := by
  rw [callT_eq (fn := r_1.fn) rfl, runFn_eq rfl]
  show ∃ d a' c' : Int, 0 ≤ d ∧ d < many ∧ 0 ≤ a' ∧ c ≤ c' ∧ c' ≤ c + 1 ∧ (exSs (ctxT T.prog 0 n) b_1 [.fz (.ref p), .fz (.int many), .no, .no] S).bind finF = _
  by_cases h0 : 0 < a
  · have run : exSs (ctxT T.prog 0 n) b_1 [.fz (.ref p), .fz (.int many), .no, .no] S = .ok (.rt (.int (a % many))) (S.set p (.lst [.int (a / many), .int b, .int c])) := by
      apply ss_rt
      have hcond : ev (ctxT T.prog 0 n) (.cmp .gt (.ix (.var 0) (.int 0)) (.int 0)) [.fz (.ref p), .fz (.int many), .no, .no] S = .ok (.bl true) S := by
        rw [← decide_eq_true h0]
        walk_at "k9"
      apply s_iteT hcond
      apply ss_nx
      · apply s_asgS
        · walk_at "k9"
        · rfl
      apply ss_nx
      · apply s_setixRef
        · walk_at "k9"
        · rfl
        · rfl
        · walk_at "k9"
        · walk_at "k9"
        · exact hS
        · rfl
      apply ss_rt
      exact s_retS (ev_var rfl) rfl
    exact ⟨a % many, a / many, c, Int.emod_nonneg _ (by omega), Int.emod_lt_of_pos _ hm, Int.ediv_nonneg ha (by omega), Int.le_refl _, by omega, by rw [run]; rfl⟩
  · have hS2 : (S.set p (.lst [.int a, .int b, .int (c + 1)]))[p]? = some (.lst [.int a, .int b, .int (c + 1)]) := get_set hS
    have lt1000 : ∀ x : Int, 0 ≤ x → x < 2 ^ 200 → x.natAbs < 2 ^ 1000 := fun x h1 h2 => Nat.lt_of_lt_of_le (show x.natAbs < 2 ^ 200 by omega) (by decide +kernel)
    have p1 : (b + 2038074743 * (c + 1)).natAbs < 2 ^ 1000 := lt1000 _ (by omega) (by omega)
    have q0 : 0 ≤ (b + 2038074743 * (c + 1)) ^ 3 % (10 ^ 25 + 13) := Int.emod_nonneg _ (by decide +kernel)
    have q1 : (b + 2038074743 * (c + 1)) ^ 3 % (10 ^ 25 + 13) < 10 ^ 25 + 13 := Int.emod_lt_of_pos _ (by decide +kernel)
    have p2 : ((b + 2038074743 * (c + 1)) ^ 3 % (10 ^ 25 + 13) + 982451653 * (c + 1)).natAbs < 2 ^ 1000 := lt1000 _ (by omega) (by omega)
    have run : exSs (ctxT T.prog 0 n) b_1 [.fz (.ref p), .fz (.int many), .no, .no] S = .ok (.rt (.int (((((b + 2038074743 * (c + 1)) ^ 3 % (10 ^ 25 + 13) + 982451653 * (c + 1)) ^ 2 % (10 ^ 24 + 7)) / 1024) % many))) (S.set p (.lst [.int a, .int b, .int (c + 1)])) := by
      apply ss_nx
      · have hcond : ev (ctxT T.prog 0 n) (.cmp .gt (.ix (.var 0) (.int 0)) (.int 0)) [.fz (.ref p), .fz (.int many), .no, .no] S = .ok (.bl false) S := by
          rw [← decide_eq_false h0]
          walk_at "k9"
        exact s_iteF hcond ss_nil'
      apply ss_nx
      · apply s_setixRef
        · walk_at "k9"
        · rfl
        · rfl
        · walk_at "k9"
        · walk_at "k9"
        · exact hS
        · rfl
      show exSs _ _ _ (S.set p (.lst [.int a, .int b, .int (c + 1)])) = _
      apply ss_nx
      · apply s_asgS
        · walk_at "k9"
        · rfl
      apply ss_nx
      · apply s_asgS
        · walk_at "k9"
        · rfl
      apply ss_rt
      apply s_retS
      · walk_at "k9"
      · rfl
    refine ⟨_, a, c + 1, Int.emod_nonneg _ (by omega), Int.emod_lt_of_pos _ hm, ha, by omega, by omega, by rw [run]; rfl⟩
end Lk01
end
section
set_option Elab.async false
set_option linter.all false
set_option maxRecDepth 100000
set_option maxHeartbeats 0
namespace Lk01
open K9 PySem
/-- what a thing may be -/
def okD : D → Bool
  | .non => true | .bl _ => true | .int _ => true | .str _ => true | .tup _ => true | .ref _ => true
  | _ => false
/-- the class of a rank -/
def ecl : Nat → Nat
  | 0 => 0
  | 1 => 8
  | 2 => 2
  | 3 => 1
  | 4 => 7
  | 5 => 6
  | 6 => 5
  | 7 => 9
  | 8 => 10
  | 9 => 4
  | 10 => 3
  | _ => 11
/-- its name alone -/
def enm : Nat → List D
  | 0 => []
  | 1 => [.str "BrokenRule"]
  | 2 => [.str "DoubleName"]
  | 3 => [.str "InvalidName"]
  | 4 => [.str "InvalidQuestion"]
  | 5 => [.str "InvalidRow"]
  | 6 => [.str "InvalidRule"]
  | 7 => [.str "NoSuchRow"]
  | 8 => [.str "NothingToUndo"]
  | 9 => [.str "UnknownColumn"]
  | 10 => [.str "UnknownTable"]
  | _ => [.str "Unreadable"]
theorem made_ok {n : Nat} {S : Sto} {d : D} (hd : okD d = true) : ∀ r : Nat, r < 12 → callT T.prog 0 (n + 2) 6 [.int r, d] S = .ok (.exc (ecl r) d) S
  | 0, _ => by cases d <;> first | (cases hd; done) | kernel_rfl
  | 1, _ => by cases d <;> first | (cases hd; done) | kernel_rfl
  | 2, _ => by cases d <;> first | (cases hd; done) | kernel_rfl
  | 3, _ => by cases d <;> first | (cases hd; done) | kernel_rfl
  | 4, _ => by cases d <;> first | (cases hd; done) | kernel_rfl
  | 5, _ => by cases d <;> first | (cases hd; done) | kernel_rfl
  | 6, _ => by cases d <;> first | (cases hd; done) | kernel_rfl
  | 7, _ => by cases d <;> first | (cases hd; done) | kernel_rfl
  | 8, _ => by cases d <;> first | (cases hd; done) | kernel_rfl
  | 9, _ => by cases d <;> first | (cases hd; done) | kernel_rfl
  | 10, _ => by cases d <;> first | (cases hd; done) | kernel_rfl
  | 11, _ => by cases d <;> first | (cases hd; done) | kernel_rfl
  | r + 12, h => by omega
theorem named_ok {n : Nat} {S : Sto} {d : D} (hd : okD d = true) : ∀ r : Nat, r < 12 → callT T.prog 0 (n + 2) 7 [.int r, d] S = .ok (.exc (ecl r) d) S
  | 0, _ => by cases d <;> first | (cases hd; done) | kernel_rfl
  | 1, _ => by cases d <;> first | (cases hd; done) | kernel_rfl
  | 2, _ => by cases d <;> first | (cases hd; done) | kernel_rfl
  | 3, _ => by cases d <;> first | (cases hd; done) | kernel_rfl
  | 4, _ => by cases d <;> first | (cases hd; done) | kernel_rfl
  | 5, _ => by cases d <;> first | (cases hd; done) | kernel_rfl
  | 6, _ => by cases d <;> first | (cases hd; done) | kernel_rfl
  | 7, _ => by cases d <;> first | (cases hd; done) | kernel_rfl
  | 8, _ => by cases d <;> first | (cases hd; done) | kernel_rfl
  | 9, _ => by cases d <;> first | (cases hd; done) | kernel_rfl
  | 10, _ => by cases d <;> first | (cases hd; done) | kernel_rfl
  | 11, _ => by cases d <;> first | (cases hd; done) | kernel_rfl
  | r + 12, h => by omega
theorem kinds_ok {n : Nat} {S : Sto} {d : D} : ∀ r : Nat, r < 12 → callT T.prog 0 (n + 2) 4 [.exc (ecl r) d] S = .ok (.own (.lst (enm r))) S
  | 0, _ => by kernel_rfl
  | 1, _ => by kernel_rfl
  | 2, _ => by kernel_rfl
  | 3, _ => by kernel_rfl
  | 4, _ => by kernel_rfl
  | 5, _ => by kernel_rfl
  | 6, _ => by kernel_rfl
  | 7, _ => by kernel_rfl
  | 8, _ => by kernel_rfl
  | 9, _ => by kernel_rfl
  | 10, _ => by kernel_rfl
  | 11, _ => by kernel_rfl
  | r + 12, h => by omega
end Lk01
end
section
set_option Elab.async false
set_option linter.all false
set_option maxRecDepth 100000
set_option maxHeartbeats 0
namespace Lk01
open K9 PySem
/-! ### trees of lists and tuples -/
inductive Tr where
  | leaf (d : D) | lst (ts : List Tr) | tup (ts : List Tr)
mutual
/-- a value that stands for a tree; the store's lists that it uses -/
inductive At (S : Sto) : D → Tr → List Nat → Prop
  | leaf {d : D} : flatD d = true → At S d (.leaf d) []
  | lst {n : Nat} {ds : List D} {ts : List Tr} {u : List Nat} : S[n]? = some (.lst ds) → Ats S ds ts u → At S (.ref n) (.lst ts) (n :: u)
  | tup {ds : List D} {ts : List Tr} {u : List Nat} : Ats S ds ts u → At S (.tup ds) (.tup ts) u
inductive Ats (S : Sto) : List D → List Tr → List Nat → Prop
  | nil : Ats S [] [] []
  | cons {d : D} {t : Tr} {u : List Nat} {ds : List D} {ts : List Tr} {v : List Nat} : At S d t u → Ats S ds ts v → Ats S (d :: ds) (t :: ts) (u ++ v)
end
section
variable {S S' : Sto}
mutual
theorem At.frame : ∀ {d : D} {t : Tr} {u : List Nat}, At S d t u → (∀ i ∈ u, S'[i]? = S[i]?) → At S' d t u
  | _, _, _, .leaf h, _ => .leaf h
  | _, _, _, .lst h r, e => .lst (by rw [e _ List.mem_cons_self]; exact h) (r.frame fun i hi => e i (List.mem_cons_of_mem _ hi))
  | _, _, _, .tup r, e => .tup (r.frame e)
theorem Ats.frame : ∀ {d : List D} {t : List Tr} {u : List Nat}, Ats S d t u → (∀ i ∈ u, S'[i]? = S[i]?) → Ats S' d t u
  | _, _, _, .nil, _ => .nil
  | _, _, _, .cons a r, e => .cons (a.frame fun i hi => e i (List.mem_append_left _ hi)) (r.frame fun i hi => e i (List.mem_append_right _ hi))
end
mutual
theorem At.lt : ∀ {d : D} {t : Tr} {u : List Nat}, At S d t u → ∀ i ∈ u, i < S.length
  | _, _, _, .leaf _, i, h => by cases h
  | _, _, _, .lst h r, i, hi => by
    rcases List.mem_cons.mp hi with rfl | hi
    · exact (List.getElem?_eq_some_iff.mp h).1
    · exact r.lt i hi
  | _, _, _, .tup r, i, hi => r.lt i hi
theorem Ats.lt : ∀ {d : List D} {t : List Tr} {u : List Nat}, Ats S d t u → ∀ i ∈ u, i < S.length
  | _, _, _, .nil, i, h => by cases h
  | _, _, _, .cons a r, i, hi => by
    rcases List.mem_append.mp hi with hi | hi
    · exact a.lt i hi
    · exact r.lt i hi
end
end
mutual
def mud : Tr → Tr
  | .leaf d => .leaf d
  | .lst ts => .lst ((muds ts ++ [Tr.leaf (.str "muddled")]).reverse)
  | .tup ts => .tup (muds ts)
def muds : List Tr → List Tr
  | [] => []
  | t :: ts => mud t :: muds ts
end
def datD : D → PyData
  | .non => .none
  | .bl b => .bool b
  | .int i => .int i
  | .str s => .str s
  | _ => .none
mutual
def dat : Tr → PyData
  | .leaf d => datD d
  | .lst ts => .list (dats ts)
  | .tup ts => .tuple (dats ts)
def dats : List Tr → List PyData
  | [] => []
  | t :: ts => dat t :: dats ts
end
mutual
def dep : Tr → Nat
  | .leaf _ => 1
  | .lst ts => deps ts + 1
  | .tup ts => deps ts + 1
def deps : List Tr → Nat
  | [] => 0
  | t :: ts => max (dep t) (deps ts)
end
theorem py_flat {S : Sto} {d : D} (h : flatD d = true) {n : Nat} : py S (n + 1) d = some (datD d) := by
  cases d <;> first | rfl | cases h
mutual
theorem At.py {S : Sto} : ∀ {d : D} {t : Tr} {u : List Nat} {n : Nat}, At S d t u → dep t ≤ n → K9.py S n d = some (dat t)
  | d, .leaf _, _, n, .leaf h, hn => by
    cases n with
    | zero => simp [dep] at hn
    | succ n => exact py_flat h
  | _, .lst ts, _, n, .lst h r, hn => by
    cases n with
    | zero => simp [dep] at hn
    | succ n =>
      have q := r.py (n := n) (by simp only [dep] at hn; omega)
      simp only [K9.py, h, q, dat]; rfl
  | _, .tup ts, _, n, .tup r, hn => by
    cases n with
    | zero => simp [dep] at hn
    | succ n =>
      have q := r.py (n := n) (by simp only [dep] at hn; omega)
      simp only [K9.py, q, dat]; rfl
theorem Ats.py {S : Sto} : ∀ {ds : List D} {ts : List Tr} {u : List Nat} {n : Nat}, Ats S ds ts u → deps ts ≤ n → ds.mapM (K9.py S n) = some (dats ts)
  | _, _, _, n, .nil, _ => rfl
  | _, _, _, n, .cons a r, hn => by
    simp only [deps] at hn
    rw [List.mapM_cons, a.py (by omega), r.py (by omega)]; rfl
end
end Lk01
end
section
set_option Elab.async false
set_option linter.all false
set_option maxRecDepth 100000
set_option maxHeartbeats 0
namespace Lk01
open K9 PySem
mutual
/-- the greatest width -/
def wd : Tr → Nat
  | .leaf _ => 0
  | .lst ts => max ts.length (wds ts)
  | .tup ts => max ts.length (wds ts)
def wds : List Tr → Nat
  | [] => 0
  | t :: ts => max (wd t) (wds ts)
end
theorem Ats.length {S : Sto} : ∀ {ds : List D} {ts : List Tr} {u : List Nat}, Ats S ds ts u → ds.length = ts.length
  | _, _, _, .nil => rfl
  | _, _, _, .cons _ r => by rw [List.length_cons, List.length_cons, r.length]
theorem Ats.append {S : Sto} : ∀ {ds es : List D} {ts us : List Tr} {u v : List Nat}, Ats S ds ts u → Ats S es us v → Ats S (ds ++ es) (ts ++ us) (u ++ v)
  | _, _, _, _, _, _, .nil, s => s
  | _, _, _, _, _, _, .cons a r, s => by
    rw [List.append_assoc]
    exact .cons a (r.append s)
theorem Ats.reverse {S : Sto} : ∀ {ds : List D} {ts : List Tr} {u : List Nat}, Ats S ds ts u → ∃ u', Ats S ds.reverse ts.reverse u' ∧ u'.Perm u
  | _, _, _, .nil => ⟨[], .nil, .nil⟩
  | _, _, _, .cons (u := u) (v := v) a r => by
    obtain ⟨v', h1, h2⟩ := r.reverse
    refine ⟨v' ++ (u ++ []), ?_, ?_⟩
    · rw [List.reverse_cons, List.reverse_cons]
      exact h1.append (.cons a .nil)
    · rw [List.append_nil]
      exact (List.perm_append_comm).trans (List.Perm.append_left u h2)
theorem muds_len : ∀ ts : List Tr, (muds ts).length = ts.length
  | [] => rfl
  | t :: ts => by rw [muds, List.length_cons, List.length_cons, muds_len ts]
/-- what muddle does to a tree's value -/
def MudOk (g : List D → Sto → R D) (S : Sto) (d : D) (t : Tr) (u : List Nat) : Prop :=
  ∃ S' u', g [d] S = .ok .non S' ∧ At S' d (mud t) u' ∧ u'.Perm u ∧ S'.length = S.length ∧ ∀ i, i ∉ u → S'[i]? = S[i]?
/-- the loop over the parts -/
theorem mud_loop {C : K9.Ctx} (env0 : Slot) : ∀ (ts : List Tr) (ds : List D) (u : List Nat) (S : Sto) (sl : Slot), Ats S ds ts u → u.Nodup → (∀ d ∈ ds, okD d = true) →
    (∀ t ∈ ts, ∀ d u S, At S d t u → u.Nodup → MudOk (C.call 3) S d t u) →
    ∃ S' u' sl', forGo (exSs C (.cons (.expr (.call 3 (.cons false (.var 1) .nil))) .nil)) [1] [] ds [env0, sl] S = .ok (.nx [env0, sl']) S' ∧ Ats S' ds (muds ts) u' ∧ u'.Perm u ∧ S'.length = S.length ∧ ∀ i, i ∉ u → S'[i]? = S[i]?
  | [], _, _, S, sl, .nil, _, _, _ => ⟨S, [], sl, rfl, .nil, .nil, rfl, fun _ _ => rfl⟩
  | t :: ts, _, _, S, sl, .cons (d := d) (ds := ds) (u := u) (v := v) a r, nd, ok, ih => by
    obtain ⟨nu, nv, nuv⟩ := List.nodup_append.mp nd
    have hd := ok d List.mem_cons_self
    obtain ⟨S1, u1, h1, h2, h3, h4, h5⟩ := ih t List.mem_cons_self d u S a nu
    have r1 : Ats S1 ds ts v := r.frame fun i hi => h5 i fun z => nuv i z i hi rfl
    obtain ⟨S2, v2, sl2, k1, k2, k3, k4, k5⟩ := mud_loop env0 ts ds v S1 (.fz d) r1 nv (fun d hd => ok d (List.mem_cons_of_mem _ hd)) fun t ht => ih t (List.mem_cons_of_mem _ ht)
    have hacc : d.isAcc = false := by cases d <;> first | rfl | cases hd
    have hrd : rd d = d := by cases d <;> first | rfl | cases hd
    refine ⟨S2, u1 ++ v2, sl2, ?_, .cons (h2.frame fun i hi => k5 i fun z => nuv i ((h3.mem_iff).mp hi) i z rfl) k2, h3.append k3, by rw [k4, h4], fun i hi => ?_⟩
    · have hb : exSs C (.cons (.expr (.call 3 (.cons false (.var 1) .nil))) .nil) [env0, .fz d] S = .ok (.nx [env0, .fz d]) S1 := by
        exact ss_nx (s_exprS (ev_callS (evs_consI (ev_var rfl) hrd hacc evs_nilS) h1)) ss_nil'
      show chkLive S [] (oget (asgT [1] d [env0, sl]) fun e => (exSs C _ e S).bind fun f S1 => _) = _
      have ha : asgT [1] d [env0, sl] = some [env0, .fz d] := by
        show (if d.isAcc then none else some _) = _
        rw [hacc]; rfl
      rw [ha]
      show (exSs C _ [env0, .fz d] S).bind _ = _
      rw [hb]
      exact k1
    · rw [k5 i fun z => hi (List.mem_append_right _ z), h5 i fun z => hi (List.mem_append_left _ z)]

theorem At.ok {S : Sto} {d : D} {t : Tr} {u : List Nat} (a : At S d t u) : okD d = true := by
  cases a with
  | leaf h => cases d <;> first | rfl | cases h
  | lst _ _ => rfl
  | tup _ => rfl
theorem Ats.ok {S : Sto} : ∀ {ds : List D} {ts : List Tr} {u : List Nat}, Ats S ds ts u → ∀ d ∈ ds, okD d = true
  | _, _, _, .nil, d, h => by cases h
  | _, _, _, .cons a r, d, h => by
    rcases List.mem_cons.mp h with rfl | h
    · exact a.ok
    · exact r.ok d h
theorem mem_dep : ∀ {ts : List Tr} {t : Tr}, t ∈ ts → dep t ≤ deps ts ∧ wd t ≤ wds ts
  | x :: ts, t, h => by
    simp only [deps, wds]
    rcases List.mem_cons.mp h with rfl | h
    · omega
    · have := mem_dep h; omega
theorem dep_pos : ∀ t : Tr, 1 ≤ dep t
  | .leaf _ => by simp [dep]
  | .lst _ => by simp [dep]
  | .tup _ => by simp [dep]
def kids : Tr → List Tr
  | .leaf _ => []
  | .lst ts => ts
  | .tup ts => ts
theorem evIt_own {C : K9.Ctx} {env : K9.Env} {S S1 : Sto} {e : Ex} {xs : List D} (h : ev C e env S = .ok (.own (.lst xs)) S1) : evIt C (.seq e) env S = .ok ⟨xs, [], false⟩ S1 := by
  simp only [evIt, h, bindR_ok, rd]
  rfl
theorem mud_step (m : Nat) (t : Tr) (d : D) (u : List Nat) (S : Sto) (hw : wd t ≤ 1000) (a : At S d t u) (nd : u.Nodup)
    (hch : ∀ t' ∈ kids t, ∀ d u S, At S d t' u → u.Nodup → MudOk (callT T.prog 0 m 3) S d t' u) : MudOk (callT T.prog 0 (m + 1) 3) S d t u := by
  cases a with
  | leaf h =>
    refine ⟨S, [], ?_, .leaf h, .nil, rfl, fun _ _ => rfl⟩
    cases d <;> first | (cases h; done) | kernel_rfl
  | tup r =>
    rename_i ds ts
    have hl : ds.length ≤ sizeLine := by
      rw [r.length, sizeLine_eq]
      simp only [wd] at hw
      omega
    obtain ⟨S', u', sl', k1, k2, k3, k4, k5⟩ := mud_loop (C := ctxT T.prog 0 m) (.fz (.tup ds)) ts ds u S .no r nd r.ok hch
    refine ⟨S', u', ?_, .tup k2, k3, k4, k5⟩
    rw [callT_eq (fn := r_3.fn) rfl, runFn_eq rfl]
    have run : exSs (ctxT T.prog 0 m) b_3 [.fz (.tup ds), .no] S = .ok (.nx [.fz (.tup ds), sl']) S' := by
      apply ss_nx
      · apply s_iteT (S1 := S)
        · exact ev_isiS (t := .b "tuple") (ev_var rfl) rfl (by kernel_rfl)
        · refine ss_nx (s_forS (evIt_own (ev_biS (evl_consS (ev_var rfl) evl_nilS) (?_ : biD .list [.tup ds] _ S = .ok (.own (.lst ds)) S))) rfl k1) ss_nil'
          exact chk_pos hl
      · refine ss_nx (s_iteF (ev_isiS (t := .b "tuple") (ev_var rfl) rfl (by kernel_rfl)) ss_nil') ss_nil'
    show (exSs (ctxT T.prog 0 m) b_3 [.fz (.tup ds), .no] S).bind finF = _
    rw [run]; rfl
  | lst hS r =>
    rename_i k ds ts v
    obtain ⟨nk, nv⟩ := List.nodup_cons.mp nd
    have hl : ds.length ≤ 1000 := by
      rw [r.length]
      simp only [wd] at hw
      omega
    obtain ⟨S', u', sl', k1, k2, k3, k4, k5⟩ := mud_loop (C := ctxT T.prog 0 m) (.fz (.ref k)) ts ds v S .no r nv r.ok hch
    have hS' : S'[k]? = some (.lst ds) := by rw [k5 k nk]; exact hS
    have hk : k < S'.length := (List.getElem?_eq_some_iff.mp hS').1
    have ku : k ∉ u' := fun z => nk ((k3.mem_iff).mp z)
    have hS2 : (S'.set k (.lst (ds ++ [D.str "muddled"])))[k]? = some (.lst (ds ++ [D.str "muddled"])) := get_set hS'
    have fr : Ats ((S'.set k (.lst (ds ++ [D.str "muddled"]))).set k (.lst (ds ++ [D.str "muddled"]).reverse)) ds (muds ts) u' := k2.frame fun i hi => by
      have ne : k ≠ i := fun z => ku (by rw [z]; exact hi)
      rw [List.getElem?_set_ne ne, List.getElem?_set_ne ne]
    obtain ⟨v2, f1, f2⟩ := (fr.append (.cons (.leaf (d := .str "muddled") rfl) .nil)).reverse
    refine ⟨(S'.set k (.lst (ds ++ [D.str "muddled"]))).set k (.lst (ds ++ [D.str "muddled"]).reverse), k :: v2, ?_, ?_, ?_, ?_, ?_⟩
    · rw [callT_eq (fn := r_3.fn) rfl, runFn_eq rfl]
      have tyS : ∀ (S : Sto) (env : K9.Env), S[k]? = some (.lst ds) → tyD (ctxT T.prog 0 m).sub env S (.ref k) = some (.b "list") := fun S env h => by
        show (match S[k]? with | some (.lst _) => _ | some (.dct _ _) => _ | some (.ins c _ _) => _ | none => _) = _
        rw [h]
      have run : exSs (ctxT T.prog 0 m) b_3 [.fz (.ref k), .no] S = .ok (.nx [.fz (.ref k), sl']) ((S'.set k (.lst (ds ++ [D.str "muddled"]))).set k (.lst (ds ++ [D.str "muddled"]).reverse)) := by
        apply ss_nx
        · apply s_iteT (S1 := S)
          · exact ev_isiS (ev_var rfl) (tyS S _ hS) (by kernel_rfl)
          · refine ss_nx (s_forS (evIt_own (ev_biS (evl_consS (ev_var rfl) evl_nilS) (?_ : biD .list [.ref k] _ S = .ok (.own (.lst ds)) S))) rfl k1) ss_nil'
            show oget (match S[k]? with | some (.lst xs) => some xs | _ => none) _ = _
            rw [hS]
            exact chk_pos (by rw [sizeLine_eq]; omega)
        · refine ss_nx (s_iteT (ev_isiS (ev_var rfl) (tyS S' _ hS') (by kernel_rfl)) ?_) ss_nil'
          refine ss_nx (s_mutS (p := ([.fz (.ref k), sl'], S'.set k (.lst (ds ++ [D.str "muddled"])))) (ob := .lst ds) (ob' := .lst (ds ++ [D.str "muddled"])) (ev_var rfl) ?_ (evl_consS ev_strS evl_nilS) rfl hS' ?_ ?_) ?_
          · show (match S'[k]? with | some (.lst _) => true | _ => false) = true
            rw [hS']
          · show (if ds.length < sizeLine then _ else none) = _
            rw [if_pos (by rw [sizeLine_eq]; omega)]; rfl
          · show (if k < S'.length then _ else none) = _
            rw [if_pos hk]
          · refine ss_nx (s_mutS (p := ([.fz (.ref k), sl'], (S'.set k (.lst (ds ++ [D.str "muddled"]))).set k (.lst (ds ++ [D.str "muddled"]).reverse))) (ob := .lst (ds ++ [D.str "muddled"])) (ob' := .lst (ds ++ [D.str "muddled"]).reverse) (ev_var rfl) ?_ evl_nilS rfl hS2 rfl ?_) ss_nil'
            · show (match (S'.set k (.lst (ds ++ [D.str "muddled"])))[k]? with | some (.lst _) => true | _ => false) = true
              rw [hS2]
            · show (if k < (S'.set k (.lst (ds ++ [D.str "muddled"]))).length then _ else none) = _
              rw [if_pos (by rw [List.length_set]; exact hk)]
      show (exSs (ctxT T.prog 0 m) b_3 [.fz (.ref k), .no] S).bind finF = _
      rw [run]; rfl
    · exact .lst (get_set hS2) f1
    · exact .cons k (f2.trans (by simpa using k3))
    · rw [List.length_set, List.length_set, k4]
    · intro i hi
      have ne : k ≠ i := fun z => hi (by rw [z]; exact List.mem_cons_self)
      rw [List.getElem?_set_ne ne, List.getElem?_set_ne ne]
      exact k5 i fun z => hi (List.mem_cons_of_mem _ z)
theorem mud_ok : ∀ (m : Nat) (t : Tr) (d : D) (u : List Nat) (S : Sto), dep t ≤ m + 1 → wd t ≤ 1000 → At S d t u → u.Nodup → MudOk (callT T.prog 0 (m + 1) 3) S d t u := by
  have kd : ∀ {t t' : Tr}, t' ∈ kids t → dep t' + 1 ≤ dep t ∧ wd t' ≤ wd t := by
    intro t t' h
    cases t with
    | leaf _ => cases h
    | lst ts => have := mem_dep (ts := ts) h; simp only [dep, wd]; omega
    | tup ts => have := mem_dep (ts := ts) h; simp only [dep, wd]; omega
  intro m
  induction m with
  | zero =>
    intro t d u S hm hw a nd
    exact mud_step 0 t d u S hw a nd fun t' ht => by
      have := kd ht; have := dep_pos t'; omega
  | succ m ih =>
    intro t d u S hm hw a nd
    exact mud_step (m + 1) t d u S hw a nd fun t' ht d u S a nd => ih t' d u S (by have := kd ht; omega) (by have := kd ht; omega) a nd
end Lk01
end
section
set_option Elab.async false
set_option linter.all false
set_option maxRecDepth 100000
set_option maxHeartbeats 0
namespace Lk01
open K9 PySem
/-- what lies in the store stays, new objects come behind -/
def Ext' (S S' : Sto) : Prop := S.length ≤ S'.length ∧ ∀ i, i < S.length → S'[i]? = S[i]?
theorem Ext'.refl {S : Sto} : Ext' S S := ⟨Nat.le_refl _, fun _ _ => rfl⟩
theorem Ext'.trans {S S1 S2 : Sto} (e : Ext' S S1) (f : Ext' S1 S2) : Ext' S S2 := ⟨Nat.le_trans e.1 f.1, fun i hi => (f.2 i (Nat.lt_of_lt_of_le hi e.1)).trans (e.2 i hi)⟩
theorem Ext'.snoc {S : Sto} {o : Ob} : Ext' S (S ++ [o]) := ⟨by simp, fun i hi => List.getElem?_append_left hi⟩
def CpOk (g : List D → Sto → R D) (S : Sto) (d : D) (t : Tr) : Prop :=
  ∃ S' d' u', g [d] S = .ok d' S' ∧ At S' d' t u' ∧ u'.Nodup ∧ (∀ i ∈ u', S.length ≤ i) ∧ Ext' S S'
theorem At.ext {S S' : Sto} {d : D} {t : Tr} {u : List Nat} (a : At S d t u) (e : Ext' S S') : At S' d t u := a.frame fun i hi => e.2 i (a.lt i hi)
theorem Ats.ext {S S' : Sto} {d : List D} {t : List Tr} {u : List Nat} (a : Ats S d t u) (e : Ext' S S') : Ats S' d t u := a.frame fun i hi => e.2 i (a.lt i hi)
theorem cp_loop {C : K9.Ctx} (s0 : K9.Slot) (live : List (Nat × List D)) : ∀ (ts : List Tr) (ds : List D) (u : List Nat) (S : Sto) (ys : List D), (∀ (S' : Sto) (r : R (List D)), Ext' S S' → chkLive S' live r = r) → Ats S ds ts u → ys.length + ds.length < sizeLine →
    (∀ t ∈ ts, ∀ d u S, At S d t u → CpOk (C.call 2) S d t) →
    ∃ S' ds' u', lcGo (ev C (.bl true)) (ev C (.call 2 (.cons false (.var 1) .nil))) [1] [s0, .no] live ds ys S = .ok (ys ++ ds') S' ∧ Ats S' ds' ts u' ∧ u'.Nodup ∧ (∀ i ∈ u', S.length ≤ i) ∧ Ext' S S'
  | [], _, _, S, ys, hl, .nil, _, _ => ⟨S, [], [], by
      show chkLive S live (.ok ys S) = _
      rw [hl S _ Ext'.refl, List.append_nil], .nil, List.nodup_nil, (fun i h => by cases h), Ext'.refl⟩
  | t :: ts, _, _, S, ys, hl, .cons (d := d) (ds := ds) (u := u) (v := v) a r, hz, ih => by
    obtain ⟨S1, d1, u1, h1, h2, h3, h4, h5⟩ := ih t List.mem_cons_self d u S a
    have hd := a.ok
    have hd1 := h2.ok
    rw [List.length_cons] at hz
    obtain ⟨S2, ds2, v2, k1, k2, k3, k4, k5⟩ := cp_loop s0 live ts ds v S1 (ys ++ [d1]) (fun S' r e => hl S' r (h5.trans e)) (r.ext h5) (by rw [List.length_append, List.length_singleton]; omega) fun t ht => ih t (List.mem_cons_of_mem _ ht)
    have acc : ∀ {d : D}, okD d = true → d.isAcc = false ∧ rd d = d := fun {d} h => by cases d <;> first | exact ⟨rfl, rfl⟩ | cases h
    refine ⟨S2, d1 :: ds2, u1 ++ v2, ?_, .cons (h2.ext k5) k2, ?_, fun i hi => ?_, h5.trans k5⟩
    · show chkLive S live (oget (asgT [1] d [s0, .no]) fun e => (ev C (.bl true) e S).bindR fun b S1 => ifD b ((ev C (.call 2 (.cons false (.var 1) .nil)) e S1).bindR fun y S2 => if y.isAcc then .bad else chk (ys.length < sizeLine) (lcGo _ _ [1] [s0, .no] live ds (ys ++ [y]) S2)) (lcGo _ _ [1] [s0, .no] live ds ys S1)) = _
      rw [hl S _ Ext'.refl]
      have ha : asgT [1] d [s0, .no] = some [s0, .fz d] := by
        show (if d.isAcc then none else some _) = _
        rw [(acc hd).1]; rfl
      rw [ha, oget_some, ev_blS, bindR_ok]
      rw [rd_bl, show ∀ (f g : R (List D)), ifD (.bl true) f g = f from fun _ _ => rfl, ev_callS (evs_consI (ev_var rfl) (acc hd).2 (acc hd).1 evs_nilS) h1, bindR_ok, (acc hd1).2]
      show (if d1.isAcc then .bad else chk (ys.length < sizeLine) _) = _
      rw [(acc hd1).1]
      show chk (ys.length < sizeLine) _ = _
      rw [chk_pos (by omega), k1, List.append_assoc]; rfl
    · refine List.nodup_append.mpr ⟨h3, k3, fun i hi j hj z => ?_⟩
      have := h2.lt i hi
      have := k4 j hj
      omega
    · rcases List.mem_append.mp hi with hi | hi
      · exact h4 i hi
      · exact Nat.le_trans h5.1 (k4 i hi)
end Lk01
end
section
set_option Elab.async false
set_option linter.all false
set_option maxRecDepth 100000
set_option maxHeartbeats 0
namespace Lk01
open K9 PySem
theorem cp_step (m : Nat) (t : Tr) (d : D) (u : List Nat) (S : Sto) (hw : wd t ≤ 1000) (a : At S d t u)
    (hch : ∀ t' ∈ kids t, ∀ d u S, At S d t' u → CpOk (callT T.prog 0 m 2) S d t') : CpOk (callT T.prog 0 (m + 1) 2) S d t := by
  cases a with
  | leaf h =>
    refine ⟨S, d, [], ?_, .leaf h, List.nodup_nil, (fun i h => by cases h), Ext'.refl⟩
    cases d <;> first | (cases h; done) | kernel_rfl
  | tup r =>
    rename_i ds ts
    have hl : ds.length ≤ 1000 := by
      rw [r.length]
      simp only [wd] at hw
      omega
    obtain ⟨S', ds', u', k1, k2, k3, k4, k5⟩ := cp_loop (C := ctxT T.prog 0 m) (.fz (.tup ds)) [] ts ds u S [] (fun _ _ _ => rfl) r (by rw [sizeLine_eq]; simp; omega) hch
    have hl' : ds'.length ≤ sizeLine := by rw [k2.length, ← r.length, sizeLine_eq]; omega
    refine ⟨S', .tup ds', u', ?_, .tup k2, k3, k4, k5⟩
    rw [callT_eq (fn := r_2.fn) rfl, runFn_eq rfl]
    have run : exSs (ctxT T.prog 0 m) b_2 [.fz (.tup ds), .no] S = .ok (.rt (.tup ds')) S' := by
      apply ss_nx (S1 := S)
      · exact s_iteF (ev_isiS (t := .b "tuple") (ev_var rfl) rfl (by kernel_rfl)) ss_nil'
      · apply ss_rt
        refine s_retS (x := .tup ds') ?_ rfl
        refine ev_iteS (k := true) (S1 := S) (ev_isiS (t := .b "tuple") (ev_var rfl) rfl (by kernel_rfl)) ?_
        rw [if_pos rfl]
        refine ev_biS (evl_consS (ev_lcS (p := ⟨ds, [], false⟩) (S1 := S) (ys := ds') (S2 := S') ?_ k1 hl') evl_nilS) rfl
        simp only [evIt, ev_var (show [K9.Slot.fz (.tup ds), .no][0]? = some (.fz (.tup ds)) from rfl), bindR_ok, rd]
        rfl
    show (exSs (ctxT T.prog 0 m) b_2 [.fz (.tup ds), .no] S).bind finF = _
    rw [run]; rfl
  | lst hS r =>
    rename_i k ds ts v
    have hl : ds.length ≤ 1000 := by
      rw [r.length]
      simp only [wd] at hw
      omega
    have hk := (List.getElem?_eq_some_iff.mp hS).1
    obtain ⟨S', ds', u', k1, k2, k3, k4, k5⟩ := cp_loop (C := ctxT T.prog 0 m) (.fz (.ref k)) [(k, ds)] ts ds v S [] (fun S' q e => by
      unfold chkLive
      simp only
      rw [if_pos]
      intro p hp
      rw [List.mem_singleton.mp hp]
      exact (e.2 k hk).trans hS) r (by rw [sizeLine_eq]; simp; omega) hch
    have hl' : ds'.length ≤ sizeLine := by rw [k2.length, ← r.length, sizeLine_eq]; omega
    have fr : Ats (S' ++ [.lst ds']) ds' ts u' := k2.ext Ext'.snoc
    refine ⟨S' ++ [.lst ds'], .ref S'.length, S'.length :: u', ?_, .lst (by simp) fr, ?_, fun i hi => ?_, k5.trans Ext'.snoc⟩
    · rw [callT_eq (fn := r_2.fn) rfl, runFn_eq rfl]
      have tyS : tyD (ctxT T.prog 0 m).sub [K9.Slot.fz (.ref k), .no] S (.ref k) = some (.b "list") := by
        show (match S[k]? with | some (.lst _) => _ | some (.dct _ _) => _ | some (.ins c _ _) => _ | none => _) = _
        rw [hS]
      have run : exSs (ctxT T.prog 0 m) b_2 [.fz (.ref k), .no] S = .ok (.rt (.ref S'.length)) (S' ++ [.lst ds']) := by
        apply ss_rt
        refine s_iteT (S1 := S) (ev_isiS (ev_var rfl) tyS (by kernel_rfl)) ?_
        apply ss_rt
        refine s_retS (x := .ref S'.length) (ev_refS (x := .lst ds') (S1 := S') (ev_lcS (p := ⟨ds, [(k, ds)], false⟩) (S1 := S) (ys := ds') (S2 := S') ?_ k1 hl') rfl) rfl
        simp only [evIt, ev_var (show [K9.Slot.fz (.ref k), .no][0]? = some (.fz (.ref k)) from rfl), bindR_ok, rd]
        show oget (match S[k]? with | some (.lst xs) => some xs | _ => none) _ = _
        rw [hS]; rfl
      show (exSs (ctxT T.prog 0 m) b_2 [.fz (.ref k), .no] S).bind finF = _
      rw [run]; rfl
    · refine List.nodup_cons.mpr ⟨fun z => ?_, k3⟩
      exact absurd (k2.lt _ z) (Nat.lt_irrefl _)
    · rcases List.mem_cons.mp hi with rfl | hi
      · exact k5.1
      · exact k4 i hi
theorem cp_ok : ∀ (m : Nat) (t : Tr) (d : D) (u : List Nat) (S : Sto), dep t ≤ m + 1 → wd t ≤ 1000 → At S d t u → CpOk (callT T.prog 0 (m + 1) 2) S d t := by
  have kd : ∀ {t t' : Tr}, t' ∈ kids t → dep t' + 1 ≤ dep t ∧ wd t' ≤ wd t := by
    intro t t' h
    cases t with
    | leaf _ => cases h
    | lst ts => have := mem_dep (ts := ts) h; simp only [dep, wd]; omega
    | tup ts => have := mem_dep (ts := ts) h; simp only [dep, wd]; omega
  intro m
  induction m with
  | zero =>
    intro t d u S hm hw a
    exact cp_step 0 t d u S hw a fun t' ht => by
      have := kd ht; have := dep_pos t'; omega
  | succ m ih =>
    intro t d u S hm hw a
    exact cp_step (m + 1) t d u S hw a fun t' ht d u S a => ih t' d u S (by have := kd ht; omega) (by have := kd ht; omega) a
end Lk01
end
section
set_option Elab.async false
set_option linter.all false
set_option maxRecDepth 100000
set_option maxHeartbeats 0
namespace Lk01
open K9 PySem PyProof.Rows
mutual
def sz : Tr → Nat
  | .leaf _ => 1
  | .lst ts => szs ts + 1
  | .tup ts => szs ts + 1
def szs : List Tr → Nat
  | [] => 0
  | t :: ts => sz t + szs ts
end
def smD : D → Prop
  | .int i => i.natAbs.log2 < 200
  | .str s => s.length ≤ 8 ∧ ∀ c ∈ s.cps.toList, c < 16 ^ 8
  | _ => True
mutual
def smT : Tr → Prop
  | .leaf d => smD d
  | .lst ts => smTs ts
  | .tup ts => smTs ts
def smTs : List Tr → Prop
  | [] => True
  | t :: ts => smT t ∧ smTs ts
end
theorem datD_le {d : D} (h : smD d) : (datD d).shown.length ≤ 208 ∧ (datD d).showable = true := by
  cases d with
  | int i =>
    refine ⟨?_, ?_⟩
    · have q := int_text_length_le (a := i) (k := 200) (by decide) h
      have e : (datD (.int i)).shown.length = (toString i).length := by
        show (PySem.Str.ofString (toString i)).length = _
        exact PySem.ofString_length _
      omega
    · simp only [datD, PyData.showable]
      exact decide_eq_true (Nat.lt_trans h (by decide))
  | str s =>
    refine ⟨?_, rfl⟩
    have := PySem.StrLaws.reprText_len s h.2
    have h1 := h.1
    show (reprText s).length ≤ 208
    omega
  | bl b => cases b <;> exact ⟨by decide, rfl⟩
  | _ => exact ⟨Nat.le_of_ble_eq_true rfl, rfl⟩

theorem textFrom_le : ∀ (ts : List Str) (k : Nat) (acc : Str), (textFrom k acc ts).length ≤ acc.length + piled ts
  | [], k, acc => by show acc.length ≤ _; rw [piled_nil]; omega
  | t :: ts, k, acc => by
    have ih := textFrom_le ts (k + 1) (acc ++ (if k > 0 then ", " else "" : String) ++ t)
    have e : (acc ++ (if k > 0 then ", " else "" : String) ++ t).length ≤ acc.length + 2 + t.length := by
      rw [strLen_append, strLen_append]
      split
      · have : ((", " : String) : Str).length = 2 := rfl
        omega
      · have : (("" : String) : Str).length = 0 := rfl
        omega
    show (textFrom (k + 1) _ ts).length ≤ _
    rw [piled_cons]; omega
mutual
theorem shown_le : ∀ {t : Tr}, smT t → (dat t).shown.length + 2 ≤ 210 * sz t ∧ (dat t).showable = true
  | .leaf d, h => by
    obtain ⟨a, b⟩ := datD_le (d := d) h
    refine ⟨?_, b⟩
    show (datD d).shown.length + 2 ≤ 210 * sz (.leaf d)
    simp only [sz]; omega
  | .lst ts, h => by
    obtain ⟨a, b⟩ := showns_le (ts := ts) h
    refine ⟨?_, b⟩
    show (listText (PyData.shownAll (dats ts))).length + 2 ≤ 210 * sz (.lst ts)
    have := textFrom_le (PyData.shownAll (dats ts)) 0 "["
    have e1 : (("[" : String) : Str).length = 1 := rfl
    have e2 : (("]" : String) : Str).length = 1 := rfl
    unfold listText
    rw [strLen_append]
    simp only [sz]; omega
  | .tup ts, h => by
    obtain ⟨a, b⟩ := showns_le (ts := ts) h
    refine ⟨?_, b⟩
    show (tupleText (PyData.shownAll (dats ts))).length + 2 ≤ 210 * sz (.tup ts)
    have e1 : (("(" : String) : Str).length = 1 := rfl
    unfold tupleText
    rw [strLen_append, strLen_append]
    have e3 : ((if (PyData.shownAll (dats ts)).length == 1 then ",)" else ")" : String) : Str).length ≤ 2 := by
      split
      · exact Nat.le_of_ble_eq_true rfl
      · exact Nat.le_of_ble_eq_true rfl
    have e4 : (Str.join ", " (PyData.shownAll (dats ts))).length ≤ piled (PyData.shownAll (dats ts)) := by
      cases hq : PyData.shownAll (dats ts) with
      | nil => exact Nat.le_of_ble_eq_true rfl
      | cons x xs =>
        have := join_length_add (x :: xs) (by simp)
        omega
    simp only [sz]; omega
theorem showns_le : ∀ {ts : List Tr}, smTs ts → piled (PyData.shownAll (dats ts)) ≤ 210 * szs ts ∧ PyData.showableAll (dats ts) = true
  | [], _ => ⟨Nat.le_of_ble_eq_true rfl, rfl⟩
  | t :: ts, h => by
    obtain ⟨a, b⟩ := shown_le (t := t) h.1
    obtain ⟨c, d⟩ := showns_le (ts := ts) h.2
    refine ⟨?_, ?_⟩
    · show piled ((dat t).shown :: PyData.shownAll (dats ts)) ≤ 210 * (sz t + szs ts)
      rw [piled_cons]; omega
    · show ((dat t).showable && PyData.showableAll (dats ts)) = true
      rw [b, d]; rfl
end
end Lk01
end
section
set_option Elab.async false
set_option linter.all false
set_option maxRecDepth 100000
set_option maxHeartbeats 0
namespace Lk01
open K9 PySem
theorem deps_app : ∀ (a b : List Tr), deps (a ++ b) = max (deps a) (deps b)
  | [], b => by simp [deps]
  | x :: a, b => by rw [List.cons_append, deps, deps, deps_app a b]; omega
theorem wds_app : ∀ (a b : List Tr), wds (a ++ b) = max (wds a) (wds b)
  | [], b => by simp [wds]
  | x :: a, b => by rw [List.cons_append, wds, wds, wds_app a b]; omega
theorem szs_app : ∀ (a b : List Tr), szs (a ++ b) = szs a + szs b
  | [], b => by simp [szs]
  | x :: a, b => by rw [List.cons_append, szs, szs, szs_app a b]; omega
theorem smTs_app : ∀ {a b : List Tr}, smTs a → smTs b → smTs (a ++ b)
  | [], b, _, h => h
  | x :: a, b, h, k => ⟨h.1, smTs_app h.2 k⟩
theorem deps_rev : ∀ a : List Tr, deps a.reverse = deps a
  | [] => rfl
  | x :: a => by rw [List.reverse_cons, deps_app, deps_rev a]; simp only [deps]; omega
theorem wds_rev : ∀ a : List Tr, wds a.reverse = wds a
  | [] => rfl
  | x :: a => by rw [List.reverse_cons, wds_app, wds_rev a]; simp only [wds]; omega
theorem szs_rev : ∀ a : List Tr, szs a.reverse = szs a
  | [] => rfl
  | x :: a => by rw [List.reverse_cons, szs_app, szs_rev a]; simp only [szs]; omega
theorem smTs_rev : ∀ {a : List Tr}, smTs a → smTs a.reverse
  | [], _ => True.intro
  | x :: a, h => by
    rw [List.reverse_cons]
    exact smTs_app (smTs_rev h.2) ⟨h.1, True.intro⟩
mutual
theorem mud_b : ∀ t : Tr, dep (mud t) ≤ dep t + 1 ∧ wd (mud t) ≤ wd t + 1 ∧ sz (mud t) ≤ 2 * sz t ∧ (smT t → smT (mud t))
  | .leaf d => ⟨by simp only [mud, dep]; omega, by simp only [mud, wd]; omega, by simp only [mud, sz]; omega, fun h => h⟩
  | .lst ts => by
    obtain ⟨a, b, c, d⟩ := muds_b ts
    have hl := muds_len ts
    refine ⟨?_, ?_, ?_, fun h => ?_⟩
    · simp only [mud, dep, deps_rev, deps_app, deps]; omega
    · simp only [mud, wd, wds_rev, wds_app, wds, List.length_reverse, List.length_append, List.length_singleton]; omega
    · simp only [mud, sz, szs_rev, szs_app, szs]; omega
    · show smTs ((muds ts ++ [Tr.leaf (.str "muddled")]).reverse)
      exact smTs_rev (smTs_app (d h) ⟨⟨Nat.le_of_ble_eq_true rfl, by decide +kernel⟩, True.intro⟩)
  | .tup ts => by
    obtain ⟨a, b, c, d⟩ := muds_b ts
    have hl := muds_len ts
    refine ⟨?_, ?_, ?_, fun h => d h⟩
    · simp only [mud, dep]; omega
    · simp only [mud, wd]; omega
    · simp only [mud, sz]; omega
theorem muds_b : ∀ ts : List Tr, deps (muds ts) ≤ deps ts + 1 ∧ wds (muds ts) ≤ wds ts + 1 ∧ szs (muds ts) ≤ 2 * szs ts ∧ (smTs ts → smTs (muds ts))
  | [] => ⟨by simp [muds, deps], by simp [muds, wds], by simp [muds, szs], fun h => h⟩
  | t :: ts => by
    obtain ⟨a, b, c, d⟩ := mud_b t
    obtain ⟨a', b', c', d'⟩ := muds_b ts
    refine ⟨?_, ?_, ?_, fun h => ⟨d h.1, d' h.2⟩⟩
    · simp only [muds, deps]; omega
    · simp only [muds, wds]; omega
    · simp only [muds, szs]; omega
end
end Lk01
end
section
set_option Elab.async false
set_option linter.all false
set_option maxRecDepth 100000
set_option maxHeartbeats 0
namespace Lk01
open K9 PySem
/-- the purse at p, with so many draws behind it -/
def Pu (S : Sto) (p : Nat) (c : Int) : Prop := ∃ a b : Int, S[p]? = some (.lst [.int a, .int b, .int c]) ∧ 0 ≤ a ∧ 0 ≤ b ∧ b < 10 ^ 24 + 7 ∧ 0 ≤ c
theorem Pu.lt {S : Sto} {p : Nat} {c : Int} (h : Pu S p c) : p < S.length := by
  obtain ⟨a, b, h, _⟩ := h
  exact (List.getElem?_eq_some_iff.mp h).1
/-- the store but for the purse, and what comes behind -/
def Ex2 (p : Nat) (S S' : Sto) : Prop := S.length ≤ S'.length ∧ ∀ i, i < S.length → i ≠ p → S'[i]? = S[i]?
theorem Ex2.refl {p : Nat} {S : Sto} : Ex2 p S S := ⟨Nat.le_refl _, fun _ _ _ => rfl⟩
theorem Ex2.trans {p : Nat} {S S1 S2 : Sto} (e : Ex2 p S S1) (f : Ex2 p S1 S2) : Ex2 p S S2 := ⟨Nat.le_trans e.1 f.1, fun i hi hn => (f.2 i (Nat.lt_of_lt_of_le hi e.1) hn).trans (e.2 i hi hn)⟩
theorem coin' {n p : Nat} {S : Sto} {c many : Int} (h : Pu S p c) (hc : c < 2 ^ 40) (hm : 0 < many) (hm2 : many.natAbs < 2 ^ 1000) :
    ∃ d S' c', callT T.prog 0 (n + 1) 1 [.ref p, .int many] S = .ok (.int d) S' ∧ 0 ≤ d ∧ d < many ∧ Pu S' p c' ∧ c ≤ c' ∧ c' ≤ c + 1 ∧ S'.length = S.length ∧ ∀ i, i ≠ p → S'[i]? = S[i]? := by
  obtain ⟨a, b, hS, ha, hb, hb2, hc0⟩ := h
  obtain ⟨d, a', c', h1, h2, h3, h4, h5, h6⟩ := coin_ok (n := n) hS ha hb hb2 hc0 hc hm hm2
  exact ⟨d, _, c', h6, h1, h2, ⟨a', b, get_set hS, h3, hb, hb2, by omega⟩, h4, h5, List.length_set, fun i hi => List.getElem?_set_ne (Ne.symm hi)⟩
theorem coin2 {p : Nat} {S S' : Sto} (h1 : S'.length = S.length) (h2 : ∀ i, i ≠ p → S'[i]? = S[i]?) : Ex2 p S S' := ⟨by omega, fun i _ hn => h2 i hn⟩
end Lk01
end
section
set_option Elab.async false
set_option linter.all false
set_option maxRecDepth 100000
set_option maxHeartbeats 0
namespace Lk01
open K9 PySem PyProof.Rows
theorem join_small : ∀ l : List Str, (∀ t ∈ l, t.length = 1 ∧ ∀ c ∈ t.cps.toList, c < 16 ^ 8) → (Str.join "" l).length = l.length ∧ ∀ c ∈ (Str.join "" l).cps.toList, c < 16 ^ 8
  | [], _ => ⟨rfl, fun c h => by
      have e : (Str.join "" []).cps.toList = [] := rfl
      rw [e] at h; cases h⟩
  | [x], h => ⟨(h x List.mem_cons_self).1, (h x List.mem_cons_self).2⟩
  | x :: y :: r, h => by
    obtain ⟨a, b⟩ := join_small (y :: r) fun t ht => h t (List.mem_cons_of_mem _ ht)
    obtain ⟨c, d⟩ := h x List.mem_cons_self
    have e : Str.join "" (x :: y :: r) = x ++ ("" : String) ++ Str.join "" (y :: r) := rfl
    have z : (("" : String) : Str).length = 0 := rfl
    rw [e]
    refine ⟨?_, fun k hk => ?_⟩
    · rw [strLen_append, strLen_append, a, c, z]
      simp only [List.length_cons]; omega
    · have e2 : (x ++ (("" : String) : Str) ++ Str.join "" (y :: r)).cps.toList = x.cps.toList ++ [] ++ (Str.join "" (y :: r)).cps.toList := by
        show ((x.cps ++ (("" : String) : Str).cps) ++ (Str.join "" (y :: r)).cps).toList = _
        rw [Array.toList_append, Array.toList_append]; rfl
      rw [e2, List.append_nil] at hk
      rcases List.mem_append.mp hk with hk | hk
      · exact d k hk
      · exact b k hk
/-- texts of one character -/
def ones (ds : List D) : Prop := ∃ ts : List Str, ds = ts.map .str ∧ ∀ t ∈ ts, t.length = 1 ∧ ∀ c ∈ t.cps.toList, c < 16 ^ 8
theorem strsD_map : ∀ ts : List Str, strsD (ts.map .str) = some ts
  | [] => rfl
  | t :: ts => by
    show (strsD (ts.map .str)).map (t :: ·) = _
    rw [strsD_map ts]; rfl
theorem sum_ones : ∀ ts : List Str, (∀ t ∈ ts, t.length = 1 ∧ ∀ c ∈ t.cps.toList, c < 16 ^ 8) → (ts.map Str.length).sum = ts.length
  | [], _ => rfl
  | t :: ts, h => by
    rw [List.map_cons, List.sum_cons, sum_ones ts fun t ht => h t (List.mem_cons_of_mem _ ht), (h t List.mem_cons_self).1, List.length_cons]; omega
theorem ch7 {env : K9.Env} {S : Sto} : ∀ {d : Int}, 0 ≤ d → d < 7 → ∃ t : Str, ixD (.str "aZ 9._~") (.int d) env S = .ok (.str t) S ∧ t.length = 1 ∧ ∀ c ∈ t.cps.toList, c < 16 ^ 8 := by
  intro d h0 h7
  have hd : d = 0 ∨ d = 1 ∨ d = 2 ∨ d = 3 ∨ d = 4 ∨ d = 5 ∨ d = 6 := by omega
  rcases hd with rfl | rfl | rfl | rfl | rfl | rfl | rfl
  · exact ⟨⟨#[97]⟩, by kernel_rfl, rfl, fun c h => by simp at h; omega⟩
  · exact ⟨⟨#[90]⟩, by kernel_rfl, rfl, fun c h => by simp at h; omega⟩
  · exact ⟨⟨#[32]⟩, by kernel_rfl, rfl, fun c h => by simp at h; omega⟩
  · exact ⟨⟨#[57]⟩, by kernel_rfl, rfl, fun c h => by simp at h; omega⟩
  · exact ⟨⟨#[46]⟩, by kernel_rfl, rfl, fun c h => by simp at h; omega⟩
  · exact ⟨⟨#[95]⟩, by kernel_rfl, rfl, fun c h => by simp at h; omega⟩
  · exact ⟨⟨#[126]⟩, by kernel_rfl, rfl, fun c h => by simp at h; omega⟩
/-- coin as a call of the table -/
theorem ev_coin {m p : Nat} {S : Sto} {c many : Int} {env : K9.Env} {e : Ex} (h : Pu S p c) (hc : c < 2 ^ 40) (h0 : env[0]? = some (.fz (.ref p))) (hm : 0 < many) (hm2 : many.natAbs < 2 ^ 1000) (he : ev (ctxT T.prog 0 (m + 1)) e env S = .ok (.int many) S) :
    ∃ d S' c', ev (ctxT T.prog 0 (m + 1)) (.call 1 (.cons false (.var 0) (.cons false e .nil))) env S = .ok (.int d) S' ∧ 0 ≤ d ∧ d < many ∧ Pu S' p c' ∧ c ≤ c' ∧ c' ≤ c + 1 ∧ S'.length = S.length ∧ ∀ i, i ≠ p → S'[i]? = S[i]? := by
  obtain ⟨d, S', c', h1, r⟩ := coin' (n := m) h hc hm hm2
  exact ⟨d, S', c', ev_callS (evs_consI (ev_var h0) rfl rfl (evs_consI he rfl rfl evs_nilS)) h1, r⟩
/-- a text of up to eight characters -/
theorem text_ok {m p : Nat} {S : Sto} {c : Int} {s1 s2 s3 s4 : K9.Slot} (h : Pu S p c) (hc : c + 9 < 2 ^ 40) :
    ∃ t S' c', ev (ctxT T.prog 0 (m + 1)) (.mt .join (.str "") (.cons false (.lc [4] [4] (.rng1 (.call 1 (.cons false (.var 0) (.cons false (.int 9) .nil)))) (.bl true) (.ix (.str "aZ 9._~") (.call 1 (.cons false (.var 0) (.cons false (.int 7) .nil))))) .nil)) [.fz (.ref p), s1, s2, s3, s4] S = .ok (.str t) S' ∧ smD (.str t) ∧ Pu S' p c' ∧ c ≤ c' ∧ c' ≤ c + 9 ∧ Ex2 p S S' := by
  obtain ⟨d, S1, c1, h1, h2, h3, h4, h5, h6, h7, h8⟩ := ev_coin (m := m) (env := [.fz (.ref p), s1, s2, s3, s4]) (e := .int 9) h (by omega) rfl (by decide) (by decide +kernel) ev_intS
  obtain ⟨ys, S2, f1, ⟨c2, ⟨ts, rfl, g1⟩, g2, g3, g4, g5⟩, f3⟩ := lc_inv (C := ctxT T.prog 0 (m + 1)) (elt := .ix (.str "aZ 9._~") (.call 1 (.cons false (.var 0) (.cons false (.int 7) .nil)))) (i := 4) (env := [.fz (.ref p), s1, s2, s3, .no])
    (fun ys S' => ∃ c2, ones ys ∧ Pu S' p c2 ∧ c1 ≤ c2 ∧ c2 ≤ c1 + ys.length ∧ Ex2 p S1 S') 8 (by decide +kernel)
    (upTo 0 d.toNat) [] S1 ⟨c1, ⟨[], rfl, fun _ h => by cases h⟩, h4, Int.le_refl _, by simp, Ex2.refl⟩ (fun x hx => by obtain ⟨k, _, rfl⟩ := upTo_int hx; rfl)
    (fun x hx ys S' ⟨c2, ⟨ts, e, g1⟩, g2, g3, g4, g5⟩ hl => by
      obtain ⟨d3, S3, c3, k1, k2, k3, k4, k5, k6, k7, k8⟩ := ev_coin (m := m) (env := [.fz (.ref p), s1, s2, s3, .fz x]) (e := .int 7) g2 (by omega) rfl (by decide) (by decide +kernel) ev_intS
      obtain ⟨t, j1, j2⟩ := ch7 (env := [.fz (.ref p), s1, s2, s3, .fz x]) (S := S3) k2 k3
      refine ⟨.str t, S3, ev_ixS ev_strS k1 j1, rfl, c3, ⟨ts ++ [t], by rw [e, List.map_append]; rfl, fun u hu => ?_⟩, k4, by omega, by rw [List.length_append, List.length_singleton]; omega, g5.trans (coin2 k7 k8)⟩
      rcases List.mem_append.mp hu with hu | hu
      · exact g1 u hu
      · rw [List.mem_singleton.mp hu]; exact j2) (by rw [upTo_len]; simp; omega)
  rw [List.length_map, upTo_len, List.length_nil] at f3
  rw [List.length_map] at g4
  obtain ⟨q1, q2⟩ := join_small ts g1
  refine ⟨Str.join "" ts, S2, c2, ?_, ⟨by rw [q1]; omega, q2⟩, g2, by omega, by omega, (coin2 h7 h8).trans g5⟩
  refine ev_mtS (x := .str "") ev_strS rfl (evl_consS (ev_lcS (p := ⟨upTo 0 d.toNat, [], false⟩) (evIt_rng1 h1 ⟨by omega, by omega⟩) f1 (by rw [List.length_map, sizeLine_eq]; omega)) evl_nilS) ?_
  show oget (strsD (ts.map .str)) _ = _
  rw [strsD_map, oget_some, chk_pos]
  rw [sum_ones ts g1, sizeLine_eq]
  have z : (("" : String) : Str).length = 0 := rfl
  rw [z]; omega
end Lk01
end
section
set_option Elab.async false
set_option linter.all false
set_option maxRecDepth 100000
set_option maxHeartbeats 0
namespace Lk01
open K9 PySem PyProof.Rows
/-- draws of a thing -/
def dr : Nat → Nat
  | 0 => 10
  | n + 1 => 2 + 3 * dr n
/-- parts of a thing -/
def pt : Nat → Nat
  | 0 => 1
  | n + 1 => 1 + 3 * pt n
/-- what thing gives -/
def ThOk (g : List D → Sto → R D) (S : Sto) (p : Nat) (c : Int) (n : Nat) : Prop :=
  ∃ S' d t u c', g [.ref p, .int n] S = .ok d S' ∧ At S' d t u ∧ u.Nodup ∧ (∀ i ∈ u, S.length ≤ i) ∧ Ex2 p S S' ∧ Pu S' p c' ∧ c ≤ c' ∧ c' ≤ c + dr n ∧ dep t ≤ n + 1 ∧ wd t ≤ 3 ∧ smT t ∧ sz t ≤ pt n
theorem At.ex2 {S S' : Sto} {p b : Nat} {d : D} {t : Tr} {u : List Nat} (a : At S d t u) (e : Ex2 p S S') (hp : p < b) (hu : ∀ i ∈ u, b ≤ i) : At S' d t u := a.frame fun i hi => e.2 i (a.lt i hi) (by have := hu i hi; omega)
theorem Ats.ex2 {S S' : Sto} {p b : Nat} {d : List D} {t : List Tr} {u : List Nat} (a : Ats S d t u) (e : Ex2 p S S') (hp : p < b) (hu : ∀ i ∈ u, b ≤ i) : Ats S' d t u := a.frame fun i hi => e.2 i (a.lt i hi) (by have := hu i hi; omega)
theorem smTs_app2 {a b : List Tr} (h : smTs a) (k : smTs b) : smTs (a ++ b) := smTs_app h k
/-- the list of the parts -/
theorem parts_ok {m p n : Nat} {S : Sto} {c : Int} {s2 s3 s4 : K9.Slot} (h : Pu S p c) (hc : c + 1 + 3 * dr n < 2 ^ 40) (hsub : ∀ S c, Pu S p c → c + dr n < 2 ^ 40 → ThOk (callT T.prog 0 (m + 1) 5) S p c n) :
    ∃ ys ts u S' c', ev (ctxT T.prog 0 (m + 1)) (.ref (.lc [4] [4] (.rng1 (.call 1 (.cons false (.var 0) (.cons false (.int 4) .nil)))) (.bl true) (.call 5 (.cons false (.var 0) (.cons false (.bin .sub (.var 1) (.int 1)) .nil))))) [.fz (.ref p), .fz (.int ((n + 1 : Nat) : Int)), s2, s3, s4] S = .ok (.ref S'.length) (S' ++ [.lst ys]) ∧
      Ats S' ys ts u ∧ u.Nodup ∧ (∀ i ∈ u, S.length ≤ i) ∧ Ex2 p S S' ∧ Pu S' p c' ∧ c ≤ c' ∧ c' ≤ c + 1 + 3 * dr n ∧ deps ts ≤ n + 1 ∧ ts.length ≤ 3 ∧ wds ts ≤ 3 ∧ smTs ts ∧ szs ts ≤ 3 * pt n := by
  have hdr : dr (n + 1) = 2 + 3 * dr n := rfl
  obtain ⟨d, S1, c1, h1, h2, h3, h4, h5, h6, h7, h8⟩ := ev_coin (m := m) (env := [.fz (.ref p), .fz (.int ((n + 1 : Nat) : Int)), s2, s3, s4]) (e := .int 4) h (by omega) rfl (by decide) (by decide +kernel) ev_intS
  have hp := h.lt
  obtain ⟨ys, S2, f1, ⟨ts, u, c2, g1, g2, g3, g4, g5, g6, g7, g8, g9, g10, g11, g12⟩, f3⟩ := lc_inv (C := ctxT T.prog 0 (m + 1)) (elt := .call 5 (.cons false (.var 0) (.cons false (.bin .sub (.var 1) (.int 1)) .nil))) (i := 4) (env := [.fz (.ref p), .fz (.int ((n + 1 : Nat) : Int)), s2, s3, .no])
    (fun ys S' => ∃ ts u c2, Ats S' ys ts u ∧ u.Nodup ∧ (∀ i ∈ u, S1.length ≤ i) ∧ Ex2 p S1 S' ∧ Pu S' p c2 ∧ c1 ≤ c2 ∧ c2 ≤ c1 + ((ys.length * dr n : Nat) : Int) ∧ deps ts ≤ n + 1 ∧ ts.length = ys.length ∧ wds ts ≤ 3 ∧ smTs ts ∧ szs ts ≤ ys.length * pt n) 3 (by decide +kernel)
    (upTo 0 d.toNat) [] S1 ⟨[], [], c1, .nil, List.nodup_nil, (fun _ h => by cases h), Ex2.refl, h4, Int.le_refl _, by simp, by simp [deps], rfl, by simp [wds], True.intro, by simp [szs]⟩ (fun x hx => by obtain ⟨k, _, rfl⟩ := upTo_int hx; rfl)
    (fun x hx ys S' ⟨ts, u, c2, g1, g2, g3, g4, g5, g6, g7, g8, g9, g10, g11, g12⟩ hl => by
      have hle : ys.length * dr n ≤ 2 * dr n := Nat.mul_le_mul_right _ (by omega)
      obtain ⟨S3, d3, t3, u3, c3, k1, k2, k3, k4, k5, k6, k7, k8, k9, k10, k11, k12⟩ := hsub S' c2 g5 (by omega)
      have hd := k2.ok
      have acc : ∀ {d : D}, okD d = true → d.isAcc = false ∧ rd d = d := fun {d} h => by cases d <;> first | exact ⟨rfl, rfl⟩ | cases h
      have g1' : Ats S3 ys ts u := g1.ex2 (b := S1.length) k5 (by omega) g3
      refine ⟨d3, S3, ev_callS (evs_consI (ev_var rfl) rfl rfl (evs_consI (ev_subI (ev_var rfl) ev_intS) rfl rfl evs_nilS)) ?_, by rw [(acc hd).2]; exact (acc hd).1, ts ++ [t3], u ++ (u3 ++ []), c3, ?_, ?_, ?_, g4.trans k5, k6, by omega, ?_, ?_, ?_, ?_, ?_, ?_⟩
      · have e : ((n + 1 : Nat) : Int) - 1 = (n : Int) := by omega
        rw [e]; exact k1
      · rw [(acc hd).2]
        exact g1'.append (.cons k2 .nil)
      · rw [List.append_nil]
        refine List.nodup_append.mpr ⟨g2, k3, fun i hi j hj z => ?_⟩
        have := g1.lt i hi
        have := k4 j hj
        omega
      · intro i hi
        rw [List.append_nil] at hi
        rcases List.mem_append.mp hi with hi | hi
        · exact g3 i hi
        · exact Nat.le_trans g4.1 (k4 i hi)
      · rw [List.length_append, List.length_singleton, Nat.add_mul]; omega
      · rw [deps_app]; simp only [deps]; omega
      · rw [List.length_append, List.length_append, g9]; rfl
      · rw [wds_app]; simp only [wds]; omega
      · exact smTs_app g11 ⟨k11, True.intro⟩
      · rw [szs_app, List.length_append, List.length_singleton, Nat.add_mul]; simp only [szs]; omega) (by rw [upTo_len]; simp; omega)
  rw [upTo_len, List.length_nil] at f3
  have hy : ys.length ≤ 3 := by omega
  have hle : ys.length * dr n ≤ 3 * dr n := Nat.mul_le_mul_right _ hy
  have hle2 : ys.length * pt n ≤ 3 * pt n := Nat.mul_le_mul_right _ hy
  refine ⟨ys, ts, u, S2, c2, ?_, g1, g2, fun i hi => by have := g3 i hi; omega, (coin2 h7 h8).trans g4, g5, by omega, by omega, g8, by omega, g10, g11, by omega⟩
  exact ev_refS (ev_lcS (p := ⟨upTo 0 d.toNat, [], false⟩) (evIt_rng1 h1 ⟨by omega, by omega⟩) f1 (by rw [sizeLine_eq]; omega)) rfl
end Lk01
end
section
set_option Elab.async false
set_option linter.all false
set_option maxRecDepth 100000
set_option maxHeartbeats 0
set_option exponentiation.threshold 2000
namespace Lk01
open K9 PySem PyProof.Rows
/-- the rest of thing behind its first draw -/
def rest5 : Sms := match b_5 with
  | .cons _ r => r
  | r => r
theorem start5 {m p : Nat} {n w : Int} {S S1 S' : Sto} {d : D} (h1 : ev (ctxT T.prog 0 (m + 1)) (.call 1 (.cons false (.var 0) (.cons false (.int 9) .nil))) [.fz (.ref p), .fz (.int n), .no, .no, .no] S = .ok (.int w) S1)
    (h2 : exSs (ctxT T.prog 0 (m + 1)) rest5 [.fz (.ref p), .fz (.int n), .fz (.int w), .no, .no] S1 = .ok (.rt d) S') : callT T.prog 0 (m + 2) 5 [.ref p, .int n] S = .ok d S' := by
  rw [callT_eq (fn := r_5.fn) rfl, runFn_eq rfl]
  have run : exSs (ctxT T.prog 0 (m + 1)) b_5 [.fz (.ref p), .fz (.int n), .no, .no, .no] S = .ok (.rt d) S' := ss_nx (s_asgS h1 rfl) h2
  show (exSs (ctxT T.prog 0 (m + 1)) b_5 [.fz (.ref p), .fz (.int n), .no, .no, .no] S).bind finF = _
  rw [run]; rfl
theorem big_small {d : Int} (h0 : 0 ≤ d) (h : d < 10 ^ 30) : smD (.int (d - 10 ^ 29)) := by
  have h1 : (d - 10 ^ 29).natAbs < 2 ^ 200 := by
    have e1 : (10 : Int) ^ 29 = 100000000000000000000000000000 := by decide +kernel
    have e2 : (10 : Int) ^ 30 = 1000000000000000000000000000000 := by decide +kernel
    have e3 : (2 : Nat) ^ 200 = 1606938044258990275541962092341162602522202993782792835301376 := by decide +kernel
    rw [e1]; rw [e2] at h; rw [e3]
    omega
  show (d - 10 ^ 29).natAbs.log2 < 200
  by_cases z : (d - 10 ^ 29).natAbs = 0
  · rw [z]; decide
  · exact (Nat.log2_lt z).mpr h1
theorem dr_pos : ∀ n, 10 ≤ dr n
  | 0 => Nat.le_refl _
  | n + 1 => by have := dr_pos n; show 10 ≤ 2 + 3 * dr n; omega
theorem pt_pos : ∀ n, 1 ≤ pt n
  | 0 => Nat.le_refl _
  | n + 1 => by show 1 ≤ 1 + 3 * pt n; omega
theorem ThOk.leaf {m p n : Nat} {S S' : Sto} {c c' : Int} {d : D} (h : callT T.prog 0 (m + 2) 5 [.ref p, .int n] S = .ok d S') (hf : flatD d = true) (hs : smD d) (e : Ex2 p S S') (hp : Pu S' p c') (h1 : c ≤ c') (h2 : c' ≤ c + 10) : ThOk (callT T.prog 0 (m + 2) 5) S p c n := by
  have a := dr_pos n
  have b := pt_pos n
  exact ⟨S', d, .leaf d, [], c', h, .leaf hf, List.nodup_nil, (fun i hi => by cases hi), e, hp, h1, by omega, by simp [dep], by simp [wd], hs, by simp only [sz]; exact b⟩
theorem Ex2.snoc {p : Nat} {S : Sto} {o : Ob} : Ex2 p S (S ++ [o]) := ⟨by simp, fun i hi _ => List.getElem?_append_left hi⟩
theorem Pu.snoc {p : Nat} {S : Sto} {o : Ob} {c : Int} (h : Pu S p c) : Pu (S ++ [o]) p c := by
  have l := h.lt
  obtain ⟨a, b, h1, h2⟩ := h
  exact ⟨a, b, by rw [List.getElem?_append_left l]; exact h1, h2⟩
theorem thing_step (m p n : Nat) (S : Sto) (c : Int) (h : Pu S p c) (hc : c + dr n < 2 ^ 40)
    (hsub : ∀ k, n = k + 1 → ∀ S c, Pu S p c → c + dr k < 2 ^ 40 → ThOk (callT T.prog 0 (m + 1) 5) S p c k) : ThOk (callT T.prog 0 (m + 2) 5) S p c n := by
  have hd := dr_pos n
  obtain ⟨w, S1, c1, h1, w0, w9, h4, h5, h6, h7, h8⟩ := ev_coin (m := m) (env := [.fz (.ref p), .fz (.int n), .no, .no, .no]) (e := .int 9) h (by omega) rfl (by decide) (by decide +kernel) ev_intS
  have e1 : Ex2 p S S1 := coin2 h7 h8
  have lt1 : ∀ (k : Int), ev (ctxT T.prog 0 (m + 1)) (.cmp .lt (.var 2) (.int k)) [.fz (.ref p), .fz (.int n), .fz (.int w), .no, .no] S1 = .ok (.bl (decide (w < k))) S1 := fun k => ev_ltI (ev_var rfl) ev_intS
  have eq1 : ∀ (k : Int), ev (ctxT T.prog 0 (m + 1)) (.cmp .eq (.var 2) (.int k)) [.fz (.ref p), .fz (.int n), .fz (.int w), .no, .no] S1 = .ok (.bl (w == k)) S1 := fun k => ev_eqI (ev_var rfl) ev_intS
  have gt1 : ev (ctxT T.prog 0 (m + 1)) (.cmp .gt (.var 1) (.int 0)) [.fz (.ref p), .fz (.int n), .fz (.int w), .no, .no] S1 = .ok (.bl (decide ((0 : Int) < n))) S1 := ev_gtI (ev_var rfl) ev_intS
  by_cases hw : w < 3 ∧ 0 < n
  · obtain ⟨hw3, hn⟩ := hw
    obtain ⟨k, rfl⟩ : ∃ k, n = k + 1 := ⟨n - 1, by omega⟩
    have hdr : dr (k + 1) = 2 + 3 * dr k := rfl
    obtain ⟨ys, ts, u, S2, c2, e2, g1, nd, hu, x2, pu2, l1, l2, d2, len2, wd2, sm2, sz2⟩ := parts_ok (m := m) (n := k) (s2 := .fz (.int w)) (s3 := .no) (s4 := .no) h4 (by omega) (hsub k rfl)
    have hcond : ev (ctxT T.prog 0 (m + 1)) (.and (.cmp .lt (.var 2) (.int 3)) (.cmp .gt (.var 1) (.int 0))) [.fz (.ref p), .fz (.int ((k + 1 : Nat) : Int)), .fz (.int w), .no, .no] S1 = .ok (.bl true) S1 := by
      refine ev_andT ((lt1 3).trans ?_) (gt1.trans ?_)
      · rw [decide_eq_true hw3]
      · rw [decide_eq_true (by omega)]
    have fin : ∀ d, ev (ctxT T.prog 0 (m + 1)) (.ite (.cmp .lt (.var 2) (.int 2)) (.var 3) (.bi .tuple (.cons false (.var 3) .nil))) [.fz (.ref p), .fz (.int ((k + 1 : Nat) : Int)), .fz (.int w), .fz (.ref S2.length), .no] (S2 ++ [.lst ys]) = .ok d (S2 ++ [.lst ys]) → outD [.fz (.ref p), .fz (.int ((k + 1 : Nat) : Int)), .fz (.int w), .fz (.ref S2.length), .no] d = some d → callT T.prog 0 (m + 2) 5 [.ref p, .int ((k + 1 : Nat) : Int)] S = .ok d (S2 ++ [.lst ys]) := fun d hd ho => by
      refine start5 h1 (ss_rt (s_iteT hcond (ss_nx (s_asgS e2 rfl) (ss_rt (s_retS hd ho)))))
    have g2 : Ats (S2 ++ [.lst ys]) ys ts u := g1.ext Ext'.snoc
    have e3 : Ex2 p S (S2 ++ [.lst ys]) := e1.trans (x2.trans Ex2.snoc)
    have hS1 : S.length ≤ S1.length := e1.1
    have hS2 : S1.length ≤ S2.length := x2.1
    have lt2 : ev (ctxT T.prog 0 (m + 1)) (.cmp .lt (.var 2) (.int 2)) [.fz (.ref p), .fz (.int ((k + 1 : Nat) : Int)), .fz (.int w), .fz (.ref S2.length), .no] (S2 ++ [.lst ys]) = .ok (.bl (decide (w < 2))) (S2 ++ [.lst ys]) := ev_ltI (ev_var rfl) ev_intS
    have hpt : pt (k + 1) = 1 + 3 * pt k := rfl
    by_cases hw2 : w < 2
    · refine ⟨S2 ++ [.lst ys], .ref S2.length, .lst ts, S2.length :: u, c2, fin _ (ev_iteS lt2 ?_) rfl, .lst (by simp) g2, ?_, ?_, e3, pu2.snoc, by omega, by omega, ?_, ?_, sm2, ?_⟩
      · rw [decide_eq_true hw2, if_pos rfl]; exact ev_var rfl
      · exact List.nodup_cons.mpr ⟨fun z => absurd (g1.lt _ z) (Nat.lt_irrefl _), nd⟩
      · intro i hi
        rcases List.mem_cons.mp hi with rfl | hi
        · omega
        · have := hu i hi; omega
      · simp only [dep]; omega
      · simp only [wd]; omega
      · simp only [sz]; omega
    · refine ⟨S2 ++ [.lst ys], .tup ys, .tup ts, u, c2, fin _ (ev_iteS lt2 ?_) rfl, .tup g2, nd, ?_, e3, pu2.snoc, by omega, by omega, ?_, ?_, sm2, ?_⟩
      · rw [decide_eq_false hw2, if_neg (by decide)]
        refine ev_biS (evl_consS (ev_var rfl) evl_nilS) ?_
        show oget (match (S2 ++ [Ob.lst ys])[S2.length]? with | some (.lst xs) => some xs | _ => none) _ = _
        rw [List.getElem?_concat_length]; rfl
      · intro i hi
        have := hu i hi; omega
      · simp only [dep]; omega
      · simp only [wd]; omega
      · simp only [sz]; omega
  · have hcond : ev (ctxT T.prog 0 (m + 1)) (.and (.cmp .lt (.var 2) (.int 3)) (.cmp .gt (.var 1) (.int 0))) [.fz (.ref p), .fz (.int n), .fz (.int w), .no, .no] S1 = .ok (.bl false) S1 := by
      by_cases hw3 : w < 3
      · refine ev_andT ((lt1 3).trans ?_) (gt1.trans ?_)
        · rw [decide_eq_true hw3]
        · rw [decide_eq_false (by omega)]
      · refine ev_andF ((lt1 3).trans ?_)
        rw [decide_eq_false hw3]
    by_cases hw3 : w = 3
    · refine ThOk.leaf (d := .non) (start5 h1 (ss_nx (s_iteF hcond ss_nil') (ss_rt (s_iteT ((eq1 3).trans ?_) (ss_rt (s_retS ev_nonS rfl)))))) rfl True.intro e1 h4 h5 (by omega)
      rw [beq_iff_eq.mpr hw3]
    have q3 := (eq1 3).trans (by rw [beq_eq_false_iff_ne.mpr hw3] : _ = .ok (.bl false) S1)
    by_cases hw4 : w = 4
    · obtain ⟨v, S2, c2, k1, v0, v9, k4, k5, k6, k7, k8⟩ := ev_coin (m := m) (env := [.fz (.ref p), .fz (.int n), .fz (.int w), .no, .no]) (e := .int 2) h4 (by omega) rfl (by decide) (by decide +kernel) ev_intS
      refine ThOk.leaf (d := .bl (v == 0)) (start5 h1 (ss_nx (s_iteF hcond ss_nil') (ss_nx (s_iteF q3 ss_nil') (ss_rt (s_iteT ((eq1 4).trans ?_) (ss_rt (s_retS (ev_eqI k1 ev_intS) rfl))))))) rfl True.intro (e1.trans (coin2 k7 k8)) k4 (by omega) (by omega)
      rw [beq_iff_eq.mpr hw4]
    have q4 := (eq1 4).trans (by rw [beq_eq_false_iff_ne.mpr hw4] : _ = .ok (.bl false) S1)
    by_cases hw7 : w < 7
    · obtain ⟨t, S2, c2, k1, k2, k3, k4, k5, k6⟩ := text_ok (m := m) (s1 := .fz (.int n)) (s2 := .fz (.int w)) (s3 := .no) (s4 := .no) h4 (by omega)
      refine ThOk.leaf (d := .str t) (start5 h1 (ss_nx (s_iteF hcond ss_nil') (ss_nx (s_iteF q3 ss_nil') (ss_nx (s_iteF q4 ss_nil') (ss_rt (s_iteT ((lt1 7).trans ?_) (ss_rt (s_retS k1 rfl)))))))) rfl k2 (e1.trans k6) k3 (by omega) (by omega)
      rw [decide_eq_true hw7]
    have q7 := (lt1 7).trans (by rw [decide_eq_false hw7] : _ = .ok (.bl false) S1)
    have pw : ∀ (k : Nat) (S : Sto), k ≤ 1000 → ev (ctxT T.prog 0 (m + 1)) (.bin .pow (.int 10) (.int (k : Int))) [.fz (.ref p), .fz (.int n), .fz (.int w), .no, .no] S = .ok (.int (10 ^ k)) S := fun k S hk => ev_binS ev_intS ev_intS (bin_powN hk (by decide +kernel))
    obtain ⟨v, S2, c2, k1, v0, v9, k4, k5, k6, k7, k8⟩ := ev_coin (m := m) (env := [.fz (.ref p), .fz (.int n), .fz (.int w), .no, .no]) (e := .bin .pow (.int 10) (.int 30)) (many := 10 ^ 30) h4 (by omega) rfl (by decide +kernel) (by decide +kernel) (pw 30 S1 (by decide))
    exact ThOk.leaf (d := .int (v - 10 ^ 29)) (start5 h1 (ss_nx (s_iteF hcond ss_nil') (ss_nx (s_iteF q3 ss_nil') (ss_nx (s_iteF q4 ss_nil') (ss_nx (s_iteF q7 ss_nil') (ss_rt (s_retS (ev_subI k1 (pw 29 S2 (by decide))) rfl))))))) rfl (big_small v0 v9) (e1.trans (coin2 k7 k8)) k4 (by omega) (by omega)
theorem thing_ok (p : Nat) : ∀ (n m : Nat) (S : Sto) (c : Int), Pu S p c → c + dr n < 2 ^ 40 → ThOk (callT T.prog 0 (m + n + 2) 5) S p c n
  | 0, m, S, c, h, hc => thing_step m p 0 S c h hc fun k hk => by omega
  | n + 1, m, S, c, h, hc => thing_step (m + n + 1) p (n + 1) S c h hc fun k hk S c h hc => by
    obtain rfl : n = k := by omega
    exact thing_ok p n m S c h hc
end Lk01
end
section
set_option Elab.async false
set_option linter.all false
set_option maxRecDepth 100000
set_option maxHeartbeats 0
namespace Lk01
open K9 PySem PyProof.Rows
/-! ### lists of trees, split and joined -/
theorem Ats.split {S : Sto} : ∀ {ds es : List D} {ts us : List Tr} {w : List Nat}, ds.length = ts.length → Ats S (ds ++ es) (ts ++ us) w → ∃ u v, w = u ++ v ∧ Ats S ds ts u ∧ Ats S es us v
  | [], _, [], _, w, _, h => ⟨[], w, rfl, .nil, h⟩
  | d :: ds, _, t :: ts, _, _, hl, h => by
    cases h with
    | cons a r =>
      rename_i u v
      obtain ⟨u', v', rfl, k1, k2⟩ := Ats.split (by simpa using hl) r
      exact ⟨u ++ u', v', by rw [List.append_assoc], .cons a k1, k2⟩
theorem Ats.one {S : Sto} {d : D} {t : Tr} {u : List Nat} (h : Ats S [d] [t] u) : At S d t u := by
  cases h with
  | cons a r => cases r; rw [List.append_nil]; exact a
theorem Ats.mk1 {S : Sto} {d : D} {t : Tr} {u : List Nat} (h : At S d t u) : Ats S [d] [t] u := by
  have := Ats.cons h .nil
  rwa [List.append_nil] at this
theorem Ats.mud1 {g : List D → Sto → R D} {S : Sto} {ds1 ds2 : List D} {d : D} {ts1 ts2 : List Tr} {t : Tr} {w : List Nat} (h : Ats S (ds1 ++ ([d] ++ ds2)) (ts1 ++ ([t] ++ ts2)) w) (hl : ds1.length = ts1.length) (nd : w.Nodup) (hm : ∀ u, At S d t u → u.Nodup → MudOk g S d t u) :
    ∃ S' w', g [d] S = .ok .non S' ∧ Ats S' (ds1 ++ ([d] ++ ds2)) (ts1 ++ ([mud t] ++ ts2)) w' ∧ w'.Perm w ∧ S'.length = S.length ∧ ∀ i, i ∉ w → S'[i]? = S[i]? := by
  obtain ⟨u, v, rfl, h1, h2⟩ := h.split hl
  obtain ⟨x, y, rfl, h3, h4⟩ := Ats.split (ds := [d]) (ts := [t]) rfl h2
  obtain ⟨n1, n2, n3⟩ := List.nodup_append.mp nd
  obtain ⟨n4, n5, n6⟩ := List.nodup_append.mp n2
  obtain ⟨S', x', k1, k2, k3, k4, k5⟩ := hm x h3.one n4
  refine ⟨S', u ++ (x' ++ y), k1, Ats.append (h1.frame fun i hi => k5 i fun z => n3 i hi i (List.mem_append_left _ z) rfl) (Ats.append (Ats.mk1 k2) (h4.frame fun i hi => k5 i fun z => n6 i z i hi rfl)), List.Perm.append_left _ (List.Perm.append_right _ k3), k4, fun i hi => k5 i fun z => hi (List.mem_append_right _ (List.mem_append_left _ z))⟩
/-! ### bounds -/
def Bd (k : Nat) (t : Tr) : Prop := dep t ≤ 4 + k ∧ wd t ≤ 3 + k ∧ smT t ∧ sz t ≤ 40 * 2 ^ k
theorem Bd.mud {k : Nat} {t : Tr} (h : Bd k t) : Bd (k + 1) (mud t) := by
  obtain ⟨h1, h2, h3, h4⟩ := h
  obtain ⟨q1, q2, q3, q4⟩ := mud_b t
  exact ⟨by omega, by omega, q4 h3, by rw [Nat.pow_succ]; omega⟩
theorem okD_acc {d : D} (h : okD d = true) : d.isAcc = false ∧ rd d = d := by cases d <;> first | exact ⟨rfl, rfl⟩ | cases h
theorem pyRoot_ok {d : D} (h : okD d = true) {env : K9.Env} {S : Sto} : pyRoot env S d = py S 61 d := by cases d <;> first | rfl | cases h
theorem repr_ok {S : Sto} {d : D} {t : Tr} {u : List Nat} {k : Nat} {env : K9.Env} (a : At S d t u) (h : Bd k t) (hk : k ≤ 4) : biD .repr [d] env S = .ok (.str (dat t).shown) S := by
  obtain ⟨h1, h2, h3, h4⟩ := h
  show oget (pyRoot env S d) _ = _
  rw [pyRoot_ok a.ok, a.py (by omega), oget_some, chk_pos]
  obtain ⟨q1, q2⟩ := shown_le h3
  have p : 2 ^ k ≤ 2 ^ 4 := Nat.pow_le_pow_right (by decide) hk
  exact ⟨q2, by rw [sizeLine_eq]; omega⟩
/-! ### steps of loops -/
theorem asg1 {i : Nat} {x : D} {env : K9.Env} (ha : x.isAcc = false) : asgT [i] x env = some (env.set i (.fz x)) := by
  show (if x.isAcc then none else some _) = _
  rw [ha]; rfl
theorem forGo_nx {C : K9.Ctx} {b : Sms} {i : Nat} {x : D} {xs : List D} {env e1 : K9.Env} {S S1 : Sto} (ha : x.isAcc = false) (h : exSs C b (env.set i (.fz x)) S = .ok (.nx e1) S1) : forGo (exSs C b) [i] [] (x :: xs) env S = forGo (exSs C b) [i] [] xs e1 S1 := by
  have e0 : forGo (exSs C b) [i] [] (x :: xs) env S = oget (asgT [i] x env) fun e => (exSs C b e S).bind fun f S1 => match f with
      | .nx e1 => forGo (exSs C b) [i] [] xs e1 S1
      | .ct e1 => forGo (exSs C b) [i] [] xs e1 S1
      | .rt d => .ok (.rt d) S1 := rfl
  rw [e0, asg1 ha, oget_some, h]; rfl
theorem lcGo_cons {C : K9.Ctx} {elt : Ex} {i : Nat} {x y : D} {xs ys : List D} {env : K9.Env} {S S1 : Sto} (ha : x.isAcc = false) (h : ev C elt (env.set i (.fz x)) S = .ok y S1) (hy : (rd y).isAcc = false) (hl : ys.length < sizeLine) : lcGo (ev C (.bl true)) (ev C elt) [i] env [] (x :: xs) ys S = lcGo (ev C (.bl true)) (ev C elt) [i] env [] xs (ys ++ [rd y]) S1 := by
  show oget (asgT [i] x env) (fun e => (ev C (.bl true) e S).bindR fun b S1 => ifD b ((ev C elt e S1).bindR fun y S2 => if y.isAcc then .bad else chk (ys.length < PySem.sizeLine) (lcGo _ _ [i] env [] xs (ys ++ [y]) S2)) (lcGo _ _ [i] env [] xs ys S1)) = _
  rw [asg1 ha, oget_some, ev_blS, bindR_ok, rd_bl, show ∀ (f g : R (List D)), ifD (.bl true) f g = f from fun _ _ => rfl, h, bindR_ok, hy]
  show chk (ys.length < PySem.sizeLine) _ = _
  rw [chk_pos hl]
theorem evIt_lst {C : K9.Ctx} {env : K9.Env} {S S1 : Sto} {e : Ex} {xs : List D} (h : ev C e env S = .ok (.lst xs) S1) : evIt C (.seq e) env S = .ok ⟨xs, [], false⟩ S1 := by
  simp only [evIt, h, bindR_ok, rd]
  rfl
end Lk01
end
section
set_option Elab.async false
set_option linter.all false
set_option maxRecDepth 100000
set_option maxHeartbeats 0
namespace Lk01
open K9 PySem PyProof.Rows
def wds8 : List D := [.lst [], .lst [.str "BrokenRule"], .lst [.str "DoubleName"], .lst [.str "InvalidName"], .lst [.str "InvalidQuestion"], .lst [.str "InvalidRow"], .lst [.str "InvalidRule"], .lst [.str "NoSuchRow"], .lst [.str "NothingToUndo"], .lst [.str "UnknownColumn"], .lst [.str "UnknownTable"], .lst [.str "Unreadable"]]
theorem wds8_ix {env : K9.Env} {S : Sto} : ∀ r : Nat, r < 12 → ixD (.lst wds8) (.int r) env S = .ok (.lst (enm r)) S
  | 0, _ => by kernel_rfl
  | 1, _ => by kernel_rfl
  | 2, _ => by kernel_rfl
  | 3, _ => by kernel_rfl
  | 4, _ => by kernel_rfl
  | 5, _ => by kernel_rfl
  | 6, _ => by kernel_rfl
  | 7, _ => by kernel_rfl
  | 8, _ => by kernel_rfl
  | 9, _ => by kernel_rfl
  | 10, _ => by kernel_rfl
  | 11, _ => by kernel_rfl
  | r + 12, h => by omega
theorem enm_eq {env : K9.Env} {S : Sto} : ∀ r : Nat, r < 12 → cmpD .ne (.lst (enm r)) (.lst (enm r)) env S = some false
  | 0, _ => by kernel_rfl
  | 1, _ => by kernel_rfl
  | 2, _ => by kernel_rfl
  | 3, _ => by kernel_rfl
  | 4, _ => by kernel_rfl
  | 5, _ => by kernel_rfl
  | 6, _ => by kernel_rfl
  | 7, _ => by kernel_rfl
  | 8, _ => by kernel_rfl
  | 9, _ => by kernel_rfl
  | 10, _ => by kernel_rfl
  | 11, _ => by kernel_rfl
  | r + 12, h => by omega
theorem ecl_isi {m : Nat} {env : K9.Env} {S : Sto} {d : D} : ∀ r : Nat, r < 12 → tyD (ctxT T.prog 0 m).sub env S (.exc (ecl r) d) = some (.own (ecl r)) ∧ tyAny (ctxT T.prog 0 m).sub (.own (ecl r)) [.cls 0] = some true ∧ tyAny (ctxT T.prog 0 m).sub (.own (ecl r)) [.valueError] = some true ∧ fldD (ctxT T.prog 0 m) "value" env (.exc (ecl r) d) S = .ok d S
  | 0, _ => ⟨by kernel_rfl, by kernel_rfl, by kernel_rfl, by kernel_rfl⟩
  | 1, _ => ⟨by kernel_rfl, by kernel_rfl, by kernel_rfl, by kernel_rfl⟩
  | 2, _ => ⟨by kernel_rfl, by kernel_rfl, by kernel_rfl, by kernel_rfl⟩
  | 3, _ => ⟨by kernel_rfl, by kernel_rfl, by kernel_rfl, by kernel_rfl⟩
  | 4, _ => ⟨by kernel_rfl, by kernel_rfl, by kernel_rfl, by kernel_rfl⟩
  | 5, _ => ⟨by kernel_rfl, by kernel_rfl, by kernel_rfl, by kernel_rfl⟩
  | 6, _ => ⟨by kernel_rfl, by kernel_rfl, by kernel_rfl, by kernel_rfl⟩
  | 7, _ => ⟨by kernel_rfl, by kernel_rfl, by kernel_rfl, by kernel_rfl⟩
  | 8, _ => ⟨by kernel_rfl, by kernel_rfl, by kernel_rfl, by kernel_rfl⟩
  | 9, _ => ⟨by kernel_rfl, by kernel_rfl, by kernel_rfl, by kernel_rfl⟩
  | 10, _ => ⟨by kernel_rfl, by kernel_rfl, by kernel_rfl, by kernel_rfl⟩
  | 11, _ => ⟨by kernel_rfl, by kernel_rfl, by kernel_rfl, by kernel_rfl⟩
  | r + 12, h => by omega
/-- the frame of class_right behind its makings -/
abbrev E8 (p r : Nat) (d0 d1 e0 e1 : D) (s6 s7 s9 : K9.Slot) : K9.Env := [.fz (.ref p), .fz (.int r), .fz (.lst wds8), .fz (.lst [d0, d1]), .fz (.lst [e0, e1]), .fz (.lst [.exc (ecl r) d0, .exc (ecl r) d1]), s6, s7, .no, s9]
def chkB : Sms := .cons (.asg 9 (.ix (.var 5) (.var 7))) (.cons (.ite (.or (.not (.isi (.var 9) [.cls 0])) (.not (.isi (.var 9) [.valueError]))) (.cons (.ret (.bl false)) .nil) .nil) (.cons (.ite (.or (.cmp .ne (.call 4 (.cons false (.var 9) .nil)) (.ix (.var 2) (.var 1))) (.cmp .ne (.bi .repr (.cons false (.fld (.var 9) "value") .nil)) (.bi .repr (.cons false (.ix (.var 4) (.var 7)) .nil)))) (.cons (.ret (.bl false)) .nil) .nil) .nil))
def mudB : Sms := .cons (.expr (.call 3 (.cons false (.ix (.var 3) (.var 7)) .nil))) (.cons (.expr (.call 3 (.cons false (.ix (.var 4) (.var 7)) .nil))) .nil)
def roundB : Sms := .cons (.for_ [7] (.rng1 (.int 2)) chkB) (.cons (.for_ [7] (.rng1 (.int 2)) mudB) .nil)
theorem str_ne {env : K9.Env} {S : Sto} {a : Str} : cmpD .ne (.str a) (.str a) env S = some false := by
  show (some (a == a)).map (!·) = _
  rw [beq_self_eq_true]; rfl
theorem str_eq' {env : K9.Env} {S : Sto} {a : Str} : cmpD .eq (.str a) (.str a) env S = some true := by
  show some (a == a) = _
  rw [beq_self_eq_true]
theorem chk_ok {m p r k : Nat} {d0 d1 e0 e1 d e : D} {s6 s9 : K9.Slot} {S : Sto} {i : Int} {t : Tr} {u v : List Nat} (hr : r < 12) (hx : ∀ env S, ixD (.lst [.exc (ecl r) d0, .exc (ecl r) d1]) (.int i) env S = .ok (.exc (ecl r) d) S) (hy : ∀ env S, ixD (.lst [e0, e1]) (.int i) env S = .ok e S)
    (a : At S d t u) (b : At S e t v) (h : Bd k t) (hk : k ≤ 4) : exSs (ctxT T.prog 0 (m + 2)) chkB (E8 p r d0 d1 e0 e1 s6 (.fz (.int i)) s9) S = .ok (.nx (E8 p r d0 d1 e0 e1 s6 (.fz (.int i)) (.fz (.exc (ecl r) d)))) S := by
  obtain ⟨c1, c2, c3, c4⟩ := ecl_isi (m := m + 2) (env := E8 p r d0 d1 e0 e1 s6 (.fz (.int i)) (.fz (.exc (ecl r) d))) (S := S) (d := d) r hr
  have ha := okD_acc a.ok
  have hb := okD_acc b.ok
  refine ss_nx (s_asgS (ev_ixS (ev_var rfl) (ev_var rfl) (hx _ _)) rfl) ?_
  show exSs _ _ (E8 p r d0 d1 e0 e1 s6 (.fz (.int i)) (.fz (.exc (ecl r) d))) S = _
  have v9 : ∀ S, ev (ctxT T.prog 0 (m + 2)) (.var 9) (E8 p r d0 d1 e0 e1 s6 (.fz (.int i)) (.fz (.exc (ecl r) d))) S = .ok (.exc (ecl r) d) S := fun S => ev_var rfl
  refine ss_nx (s_iteF (ev_orF (ev_notS (b := true) (ev_isiS (v9 S) c1 c2)) (ev_notS (b := true) (ev_isiS (v9 S) c1 c3))) ss_nil') ?_
  refine ss_nx (s_iteF (ev_orF (ev_cmpS (ev_callS (evs_consI (v9 S) rfl rfl evs_nilS) (kinds_ok r hr)) (ev_ixS (ev_var rfl) (ev_var rfl) (wds8_ix r hr)) (enm_eq r hr)) ?_) ss_nil') ss_nil'
  refine ev_cmpS (S1 := S) (x := .str (dat t).shown) (y := .str (dat t).shown) (ev_biS (evl_consS (ev_fldS (v9 S) c4) evl_nilS) ?_) (ev_biS (evl_consS (ev_ixS (ev_var rfl) (ev_var rfl) (hy _ _)) evl_nilS) ?_) str_ne
  · rw [ha.2]; exact repr_ok a h hk
  · rw [hb.2]; exact repr_ok b h hk
end Lk01
end
section
set_option Elab.async false
set_option linter.all false
set_option maxRecDepth 100000
set_option maxHeartbeats 0
namespace Lk01
open K9 PySem PyProof.Rows
/-- the four things of a rank -/
structure Q (S : Sto) (p : Nat) (c : Int) (d0 d1 e0 e1 : D) (t0 t1 x0 x1 : Tr) : Prop where
  at4 : ∃ w, Ats S [d0, d1, e0, e1] [t0, t1, x0, x1] w ∧ w.Nodup ∧ ∀ i ∈ w, p < i
  pu : Pu S p c
theorem Q.get {S : Sto} {p : Nat} {c : Int} {d0 d1 e0 e1 : D} {t0 t1 x0 x1 : Tr} (q : Q S p c d0 d1 e0 e1 t0 t1 x0 x1) : ∃ u0 u1 u2 u3, At S d0 t0 u0 ∧ At S d1 t1 u1 ∧ At S e0 x0 u2 ∧ At S e1 x1 u3 := by
  obtain ⟨w, h, _, _⟩ := q.at4
  cases h with
  | cons a0 r => cases r with
    | cons a1 r => cases r with
      | cons a2 r => cases r with
        | cons a3 r => exact ⟨_, _, _, _, a0, a1, a2, a3⟩
theorem Pu.frame {S S' : Sto} {p : Nat} {c : Int} (h : Pu S p c) (e : S'[p]? = S[p]?) : Pu S' p c := by
  obtain ⟨a, b, h1, h2⟩ := h
  exact ⟨a, b, by rw [e]; exact h1, h2⟩
theorem Q.mud {m p : Nat} {S : Sto} {c : Int} {k : Nat} {d0 d1 e0 e1 d : D} {t0 t1 x0 x1 t : Tr} {ds1 ds2 : List D} {ts1 ts2 : List Tr} (q : Q S p c d0 d1 e0 e1 t0 t1 x0 x1) (hd : [d0, d1, e0, e1] = ds1 ++ ([d] ++ ds2)) (ht : [t0, t1, x0, x1] = ts1 ++ ([t] ++ ts2)) (hl : ds1.length = ts1.length) (hb : Bd k t) (hk : k ≤ 4)
    {y0 y1 z0 z1 : Tr} (hy : [y0, y1, z0, z1] = ts1 ++ ([Lk01.mud t] ++ ts2)) : ∃ S', callT T.prog 0 (m + 8) 3 [d] S = .ok .non S' ∧ Q S' p c d0 d1 e0 e1 y0 y1 z0 z1 := by
  obtain ⟨⟨w, h, nd, hp⟩, pu⟩ := q
  rw [hd, ht] at h
  obtain ⟨S', w', k1, k2, k3, k4, k5⟩ := h.mud1 hl nd fun u a n => mud_ok (m + 7) t d u S (by have := hb.1; omega) (by have := hb.2.1; omega) a n
  refine ⟨S', k1, ⟨w', ?_, (k3.nodup_iff).mpr nd, fun i hi => hp i ((k3.mem_iff).mp hi)⟩, pu.frame (k5 p fun z => absurd (hp p z) (Nat.lt_irrefl _))⟩
  rw [hd, hy]; exact k2
theorem Q.ok {S : Sto} {p : Nat} {c : Int} {d0 d1 e0 e1 : D} {t0 t1 x0 x1 : Tr} (q : Q S p c d0 d1 e0 e1 t0 t1 x0 x1) : okD d0 = true ∧ okD d1 = true ∧ okD e0 = true ∧ okD e1 = true := by
  obtain ⟨_, _, _, _, a, b, c, d⟩ := q.get
  exact ⟨a.ok, b.ok, c.ok, d.ok⟩
theorem s_mudcall {m : Nat} {env : K9.Env} {S S' : Sto} {d : D} {e : Ex} (he : ev (ctxT T.prog 0 (m + 8)) e env S = .ok d S) (hd : okD d = true) (h : callT T.prog 0 (m + 8) 3 [d] S = .ok .non S') : exS (ctxT T.prog 0 (m + 8)) (.expr (.call 3 (.cons false e .nil))) env S = .ok (.nx env) S' :=
  s_exprS (ev_callS (evs_consI he (okD_acc hd).2 (okD_acc hd).1 evs_nilS) h)
theorem ix2a {a b : D} {env : K9.Env} {S : Sto} : ixD (.lst [a, b]) (.int 0) env S = .ok a S := rfl
theorem ix2b {a b : D} {env : K9.Env} {S : Sto} : ixD (.lst [a, b]) (.int 1) env S = .ok b S := rfl
theorem upTo2 : upTo 0 (2 : Int).toNat = [.int 0, .int 1] := rfl
theorem for_two {C : K9.Ctx} {b : Sms} {i : Nat} {x y : D} {env e1 e2 : K9.Env} {S S1 S2 : Sto} (hx : x.isAcc = false) (hy : y.isAcc = false) (h1 : exSs C b (env.set i (.fz x)) S = .ok (.nx e1) S1) (h2 : exSs C b (e1.set i (.fz y)) S1 = .ok (.nx e2) S2) : forGo (exSs C b) [i] [] [x, y] env S = .ok (.nx e2) S2 :=
  (forGo_nx hx h1).trans ((forGo_nx hy h2).trans rfl)
/-- a round: all is checked, then all is muddled -/
theorem round_ok {m p r k : Nat} {d0 d1 e0 e1 : D} {s6 s7 s9 : K9.Slot} {S : Sto} {c : Int} {t0 t1 : Tr} (hr : r < 12) (hk : k ≤ 3) (q : Q S p c d0 d1 e0 e1 t0 t1 t0 t1) (b0 : Bd k t0) (b1 : Bd k t1) :
    ∃ S' s7' s9', exSs (ctxT T.prog 0 (m + 8)) roundB (E8 p r d0 d1 e0 e1 s6 s7 s9) S = .ok (.nx (E8 p r d0 d1 e0 e1 s6 s7' s9')) S' ∧ Q S' p c d0 d1 e0 e1 (mud t0) (mud t1) (mud t0) (mud t1) := by
  obtain ⟨u0, u1, u2, u3, a0, a1, a2, a3⟩ := q.get
  obtain ⟨o0, o1, o2, o3⟩ := q.ok
  obtain ⟨S1, f1, q1⟩ := q.mud (m := m) (ds1 := []) (ts1 := []) rfl rfl rfl b0 (by omega) (y0 := mud t0) (y1 := t1) (z0 := t0) (z1 := t1) rfl
  obtain ⟨S2, f2, q2⟩ := q1.mud (m := m) (ds1 := [d0, d1]) (ts1 := [mud t0, t1]) rfl rfl rfl b0 (by omega) (y0 := mud t0) (y1 := t1) (z0 := mud t0) (z1 := t1) rfl
  obtain ⟨S3, f3, q3⟩ := q2.mud (m := m) (ds1 := [d0]) (ts1 := [mud t0]) rfl rfl rfl b1 (by omega) (y0 := mud t0) (y1 := mud t1) (z0 := mud t0) (z1 := t1) rfl
  obtain ⟨S4, f4, q4⟩ := q3.mud (m := m) (ds1 := [d0, d1, e0]) (ts1 := [mud t0, mud t1, mud t0]) rfl rfl rfl b1 (by omega) (y0 := mud t0) (y1 := mud t1) (z0 := mud t0) (z1 := mud t1) rfl
  refine ⟨S4, .fz (.int 1), .fz (.exc (ecl r) d1), ?_, q4⟩
  have ch0 : exSs (ctxT T.prog 0 (m + 8)) chkB ((E8 p r d0 d1 e0 e1 s6 s7 s9).set 7 (.fz (.int 0))) S = .ok (.nx (E8 p r d0 d1 e0 e1 s6 (.fz (.int 0)) (.fz (.exc (ecl r) d0)))) S :=
    chk_ok (m := m + 6) (k := k) (i := 0) (d := d0) (e := e0) hr (fun _ _ => ix2a) (fun _ _ => ix2a) a0 a2 b0 (by omega)
  have ch1 : exSs (ctxT T.prog 0 (m + 8)) chkB ((E8 p r d0 d1 e0 e1 s6 (.fz (.int 0)) (.fz (.exc (ecl r) d0))).set 7 (.fz (.int 1))) S = .ok (.nx (E8 p r d0 d1 e0 e1 s6 (.fz (.int 1)) (.fz (.exc (ecl r) d1)))) S :=
    chk_ok (m := m + 6) (k := k) (i := 1) (d := d1) (e := e1) hr (fun _ _ => ix2b) (fun _ _ => ix2b) a1 a3 b1 (by omega)
  have mb : ∀ (s s7 : K9.Slot) (i : Int) (d e : D) (S S1 S2 : Sto), okD d = true → okD e = true → (∀ env S, ixD (.lst [d0, d1]) (.int i) env S = .ok d S) → (∀ env S, ixD (.lst [e0, e1]) (.int i) env S = .ok e S) → callT T.prog 0 (m + 8) 3 [d] S = .ok .non S1 → callT T.prog 0 (m + 8) 3 [e] S1 = .ok .non S2 →
      exSs (ctxT T.prog 0 (m + 8)) mudB ((E8 p r d0 d1 e0 e1 s6 s7 s).set 7 (.fz (.int i))) S = .ok (.nx (E8 p r d0 d1 e0 e1 s6 (.fz (.int i)) s)) S2 := fun s s7 i d e S S1 S2 hd he h1 h2 h3 h4 => by
    show exSs _ _ (E8 p r d0 d1 e0 e1 s6 (.fz (.int i)) s) S = _
    exact ss_nx (s_mudcall (ev_ixS (ev_var rfl) (ev_var rfl) (h1 _ _)) hd h3) (ss_nx (s_mudcall (ev_ixS (ev_var rfl) (ev_var rfl) (h2 _ _)) he h4) ss_nil')
  have w1 := mb (.fz (.exc (ecl r) d1)) (.fz (.int 1)) 0 d0 e0 S S1 S2 o0 o2 (fun _ _ => ix2a) (fun _ _ => ix2a) f1 f2
  have w2 := mb (.fz (.exc (ecl r) d1)) (.fz (.int 0)) 1 d1 e1 S2 S3 S4 o1 o3 (fun _ _ => ix2b) (fun _ _ => ix2b) f3 f4
  refine ss_nx (s_forS (p := ⟨upTo 0 (2 : Int).toNat, [], false⟩) (evIt_rng1 ev_intS ⟨by decide, by decide⟩) rfl (for_two rfl rfl ch0 ch1)) ?_
  exact ss_nx (s_forS (p := ⟨upTo 0 (2 : Int).toNat, [], false⟩) (evIt_rng1 ev_intS ⟨by decide, by decide⟩) rfl (for_two rfl rfl w1 w2)) ss_nil'
/-- the last look -/
def lastB : Ex := .cmp .eq (.bi .repr (.cons false (.lc [9] [9] (.seq (.var 5)) (.bl true) (.fld (.var 9) "value")) .nil)) (.bi .repr (.cons false (.var 4) .nil))
theorem repr2_ok {S : Sto} {a b : D} {t s : Tr} {u v : List Nat} {k : Nat} {env : K9.Env} (h1 : At S a t u) (h2 : At S b s v) (b1 : Bd k t) (b2 : Bd k s) (hk : k ≤ 3) : biD .repr [.lst [a, b]] env S = .ok (.str (dat (.lst [t, s])).shown) S := by
  have e : pyRoot env S (.lst [a, b]) = some (dat (.lst [t, s])) := by
    show (List.mapM (K9.py S 60) [a, b]).map PyData.list = _
    rw [(Ats.cons h1 (Ats.mk1 h2)).py (n := 60) (by have := b1.1; have := b2.1; simp only [deps]; omega)]
    rfl
  show oget (pyRoot env S (.lst [a, b])) _ = _
  rw [e, oget_some, chk_pos]
  have sm : smT (.lst [t, s]) := ⟨b1.2.2.1, b2.2.2.1, True.intro⟩
  obtain ⟨q1, q2⟩ := shown_le sm
  have p : 2 ^ k ≤ 2 ^ 3 := Nat.pow_le_pow_right (by decide) hk
  have s1 := b1.2.2.2
  have s2 := b2.2.2.2
  simp only [sz, szs] at q1
  exact ⟨q2, by rw [sizeLine_eq]; omega⟩
theorem last_ok {m p r k : Nat} {d0 d1 e0 e1 : D} {s6 s7 s9 : K9.Slot} {S : Sto} {c : Int} {t0 t1 : Tr} (hr : r < 12) (hk : k ≤ 3) (q : Q S p c d0 d1 e0 e1 t0 t1 t0 t1) (b0 : Bd k t0) (b1 : Bd k t1) :
    ev (ctxT T.prog 0 (m + 8)) lastB (E8 p r d0 d1 e0 e1 s6 s7 s9) S = .ok (.bl true) S := by
  obtain ⟨u0, u1, u2, u3, a0, a1, a2, a3⟩ := q.get
  obtain ⟨o0, o1, o2, o3⟩ := q.ok
  have v9 : ∀ d, ev (ctxT T.prog 0 (m + 8)) (.fld (.var 9) "value") (E8 p r d0 d1 e0 e1 s6 s7 (.fz (.exc (ecl r) d))) S = .ok d S := fun d => ev_fldS (ev_var rfl) (ecl_isi r hr).2.2.2
  have l1 : ev (ctxT T.prog 0 (m + 8)) (.lc [9] [9] (.seq (.var 5)) (.bl true) (.fld (.var 9) "value")) (E8 p r d0 d1 e0 e1 s6 s7 s9) S = .ok (.own (.lst [d0, d1])) S := by
    refine ev_lcS (p := ⟨[.exc (ecl r) d0, .exc (ecl r) d1], [], false⟩) (evIt_lst (ev_var rfl)) ((lcGo_cons rfl (v9 d0) (by rw [(okD_acc o0).2]; exact (okD_acc o0).1) (by rw [sizeLine_eq]; simp)).trans ((lcGo_cons rfl (v9 d1) (by rw [(okD_acc o1).2]; exact (okD_acc o1).1) (by rw [sizeLine_eq]; simp)).trans ?_)) (by rw [sizeLine_eq]; simp)
    rw [(okD_acc o0).2, (okD_acc o1).2]; rfl
  exact ev_cmpS (S1 := S) (x := .str (dat (.lst [t0, t1])).shown) (y := .str (dat (.lst [t0, t1])).shown) (ev_biS (evl_consS l1 evl_nilS) (repr2_ok a0 a1 b0 b1 hk)) (ev_biS (evl_consS (ev_var rfl) evl_nilS) (repr2_ok a2 a3 b0 b1 hk)) str_eq'
end Lk01
end
section
set_option Elab.async false
set_option linter.all false
set_option maxRecDepth 100000
set_option maxHeartbeats 0
namespace Lk01
open K9 PySem PyProof.Rows
theorem nodup_seg {a b : List Nat} {l : Nat} (na : a.Nodup) (nb : b.Nodup) (ha : ∀ i ∈ a, i < l) (hb : ∀ i ∈ b, l ≤ i) : (a ++ b).Nodup :=
  List.nodup_append.mpr ⟨na, nb, fun i hi j hj z => by have := ha i hi; have := hb j hj; omega⟩
/-- a rank's check, whole -/
theorem class_ok {m p r : Nat} {S : Sto} {c : Int} (h : Pu S p c) (hr : r < 12) (hc : c + 2 * dr 3 < 2 ^ 40) :
    ∃ S' c', callT T.prog 0 (m + 9) 8 [.ref p, .int r] S = .ok (.bl true) S' ∧ Pu S' p c' ∧ c' ≤ c + 2 * dr 3 := by
  have hp := h.lt
  obtain ⟨S1, d0, t0, u0, c1, f1, a0, n0, g0, x1, pu1, l1, l2, dep0, wd0, sm0, sz0⟩ := thing_ok p 3 (m + 3) S c h (by omega)
  obtain ⟨S2, d1, t1, u1, c2, f2, a1, n1, g1, x2, pu2, l3, l4, dep1, wd1, sm1, sz1⟩ := thing_ok p 3 (m + 3) S1 c1 pu1 (by omega)
  have a0' : At S2 d0 t0 u0 := a0.ex2 x2 hp g0
  obtain ⟨S3, e0, v0, f3, a2, n2, g2, x3⟩ := cp_ok (m + 7) t0 d0 u0 S2 (by omega) (by omega) a0'
  have a1' : At S3 d1 t1 u1 := a1.ext x3
  obtain ⟨S4, e1, v1, f4, a3, n3, g3, x4⟩ := cp_ok (m + 7) t1 d1 u1 S3 (by omega) (by omega) a1'
  have b0 : Bd 0 t0 := ⟨by omega, by omega, sm0, by have : pt 3 = 40 := rfl; omega⟩
  have b1 : Bd 0 t1 := ⟨by omega, by omega, sm1, by have : pt 3 = 40 := rfl; omega⟩
  have len1 := x1.1
  have len2 := x2.1
  have len3 := x3.1
  have len4 := x4.1
  have q : Q S4 p c2 d0 d1 e0 e1 t0 t1 t0 t1 := by
    refine ⟨⟨u0 ++ (u1 ++ (v0 ++ v1)), .cons ((a0'.ext x3).ext x4) (.cons (a1'.ext x4) (.cons (a2.ext x4) (Ats.mk1 a3))), ?_, ?_⟩, pu2.frame ((x4.2 p (by omega)).trans (x3.2 p (by omega)))⟩
    · refine nodup_seg n0 (nodup_seg n1 (nodup_seg n2 n3 (l := S3.length) (fun i hi => a2.lt i hi) g3) (l := S2.length) (fun i hi => a1.lt i hi) fun i hi => ?_) (l := S1.length) (fun i hi => a0.lt i hi) fun i hi => ?_
      · rcases List.mem_append.mp hi with hi | hi
        · exact g2 i hi
        · have := g3 i hi; omega
      · rcases List.mem_append.mp hi with hi | hi
        · exact g1 i hi
        · rcases List.mem_append.mp hi with hi | hi
          · have := g2 i hi; omega
          · have := g3 i hi; omega
    · intro i hi
      rcases List.mem_append.mp hi with hi | hi
      · have := g0 i hi; omega
      · rcases List.mem_append.mp hi with hi | hi
        · have := g1 i hi; omega
        · rcases List.mem_append.mp hi with hi | hi
          · have := g2 i hi; omega
          · have := g3 i hi; omega
  obtain ⟨o0, o1, o2, o3⟩ := q.ok
  obtain ⟨S5, s7, s9, r1, q1⟩ := round_ok (m := m) (s6 := .fz (.int 0)) (s7 := .no) (s9 := .no) hr (by decide) q b0 b1
  obtain ⟨S6, s7', s9', r2, q2⟩ := round_ok (m := m) (s6 := .fz (.int 1)) (s7 := s7) (s9 := s9) hr (by decide) q1 b0.mud b1.mud
  have la := last_ok (m := m) (s6 := .fz (.int 1)) (s7 := s7') (s9 := s9') hr (by decide) q2 b0.mud.mud b1.mud.mud
  refine ⟨S6, c2, ?_, q2.pu, by omega⟩
  rw [callT_eq (fn := r_8.fn) rfl, runFn_eq rfl]
  have e3 : ev (ctxT T.prog 0 (m + 8)) (.lst (.cons false (.call 5 (.cons false (.var 0) (.cons false (.int 3) .nil))) (.cons false (.call 5 (.cons false (.var 0) (.cons false (.int 3) .nil))) .nil))) [.fz (.ref p), .fz (.int r), .fz (.lst wds8), .no, .no, .no, .no, .no, .no, .no] S = .ok (.own (.lst [d0, d1])) S2 :=
    ev_lstS (evs_consI (ev_callS (evs_consI (ev_var rfl) rfl rfl (evs_consI ev_intS rfl rfl evs_nilS)) f1) (okD_acc o0).2 (okD_acc o0).1 (evs_consI (ev_callS (evs_consI (ev_var rfl) rfl rfl (evs_consI ev_intS rfl rfl evs_nilS)) f2) (okD_acc o1).2 (okD_acc o1).1 evs_nilS)) (by rw [sizeLine_eq]; simp)
  have e4 : ev (ctxT T.prog 0 (m + 8)) (.lc [8] [8] (.seq (.var 3)) (.bl true) (.call 2 (.cons false (.var 8) .nil))) [.fz (.ref p), .fz (.int r), .fz (.lst wds8), .fz (.lst [d0, d1]), .no, .no, .no, .no, .no, .no] S2 = .ok (.own (.lst [e0, e1])) S4 := by
    refine ev_lcS (p := ⟨[d0, d1], [], false⟩) (evIt_lst (ev_var rfl)) ((lcGo_cons (okD_acc o0).1 (ev_callS (evs_consI (ev_var rfl) (okD_acc o0).2 (okD_acc o0).1 evs_nilS) f3) (by rw [(okD_acc o2).2]; exact (okD_acc o2).1) (by rw [sizeLine_eq]; simp)).trans ((lcGo_cons (okD_acc o1).1 (ev_callS (evs_consI (ev_var rfl) (okD_acc o1).2 (okD_acc o1).1 evs_nilS) f4) (by rw [(okD_acc o3).2]; exact (okD_acc o3).1) (by rw [sizeLine_eq]; simp)).trans ?_)) (by rw [sizeLine_eq]; simp)
    rw [(okD_acc o2).2, (okD_acc o3).2]; rfl
  have e5 : ev (ctxT T.prog 0 (m + 8)) (.lst (.cons false (.call 6 (.cons false (.var 1) (.cons false (.ix (.var 3) (.int 0)) .nil))) (.cons false (.call 7 (.cons false (.var 1) (.cons false (.ix (.var 3) (.int 1)) .nil))) .nil))) [.fz (.ref p), .fz (.int r), .fz (.lst wds8), .fz (.lst [d0, d1]), .fz (.lst [e0, e1]), .no, .no, .no, .no, .no] S4 = .ok (.own (.lst [.exc (ecl r) d0, .exc (ecl r) d1])) S4 :=
    ev_lstS (evs_consI (ev_callS (evs_consI (ev_var rfl) rfl rfl (evs_consI (ev_ixS (ev_var rfl) ev_intS ix2a) (okD_acc o0).2 (okD_acc o0).1 evs_nilS)) (made_ok (n := m + 6) o0 r hr)) rfl rfl (evs_consI (ev_callS (evs_consI (ev_var rfl) rfl rfl (evs_consI (ev_ixS (ev_var rfl) ev_intS ix2b) (okD_acc o1).2 (okD_acc o1).1 evs_nilS)) (named_ok (n := m + 6) o1 r hr)) rfl rfl evs_nilS)) (by rw [sizeLine_eq]; simp)
  have run : exSs (ctxT T.prog 0 (m + 8)) b_8 [.fz (.ref p), .fz (.int r), .no, .no, .no, .no, .no, .no, .no, .no] S = .ok (.rt (.bl true)) S6 := by
    refine ss_nx (env1 := [.fz (.ref p), .fz (.int r), .fz (.lst (wds8.take 6)), .no, .no, .no, .no, .no, .no, .no]) (S1 := S) (by kernel_rfl) ?_
    refine ss_nx (env1 := [.fz (.ref p), .fz (.int r), .fz (.lst (wds8.take 11)), .no, .no, .no, .no, .no, .no, .no]) (S1 := S) (by kernel_rfl) ?_
    refine ss_nx (env1 := [.fz (.ref p), .fz (.int r), .fz (.lst wds8), .no, .no, .no, .no, .no, .no, .no]) (S1 := S) (by kernel_rfl) ?_
    refine ss_nx (s_asgS e3 rfl) (ss_nx (s_asgS e4 rfl) (ss_nx (s_asgS e5 rfl) ?_))
    refine ss_nx (s_forS (p := ⟨upTo 0 (2 : Int).toNat, [], false⟩) (evIt_rng1 ev_intS ⟨by decide, by decide⟩) rfl ((forGo_nx rfl r1).trans ((forGo_nx rfl r2).trans rfl))) ?_
    exact ss_rt (s_retS la rfl)
  show (exSs (ctxT T.prog 0 (m + 8)) b_8 [.fz (.ref p), .fz (.int r), .no, .no, .no, .no, .no, .no, .no, .no] S).bind finF = _
  rw [run]; rfl
def rankB : Sms := .cons (.ite (.not (.call 8 (.cons false (.var 2) (.cons false (.var 3) .nil)))) (.cons (.ret (.bl false)) .nil) .nil) .nil
theorem ranks_ok {m p : Nat} {s0 s1 : K9.Slot} : ∀ (xs : List D) (s3 : K9.Slot) (S : Sto) (c : Int), (∀ x ∈ xs, ∃ r : Nat, r < 12 ∧ x = .int r) → Pu S p c → c + xs.length * (2 * dr 3) < 2 ^ 40 →
    ∃ s3' S', forGo (exSs (ctxT T.prog 0 (m + 9)) rankB) [3] [] xs [s0, s1, .fz (.ref p), s3] S = .ok (.nx [s0, s1, .fz (.ref p), s3']) S'
  | [], s3, S, c, _, _, _ => ⟨s3, S, rfl⟩
  | x :: xs, s3, S, c, hx, h, hc => by
    obtain ⟨r, hr, rfl⟩ := hx x List.mem_cons_self
    rw [List.length_cons] at hc
    have e : ((xs.length + 1 : Nat) : Int) * (2 * dr 3) = xs.length * (2 * dr 3) + 2 * dr 3 := by
      rw [Int.natCast_add, Int.add_mul]; simp
    have hn : (0 : Int) ≤ xs.length * (2 * dr 3) := Int.mul_nonneg (by omega) (by omega)
    rw [e] at hc
    obtain ⟨S1, c1, k1, k2, k3⟩ := class_ok (m := m) h hr (by omega)
    obtain ⟨s3', S2, k4⟩ := ranks_ok xs (.fz (.int r)) S1 c1 (fun x h => hx x (List.mem_cons_of_mem _ h)) k2 (by omega)
    refine ⟨s3', S2, (forGo_nx rfl ?_).trans k4⟩
    exact ss_nx (s_iteF (ev_notS (b := true) (ev_callS (evs_consI (ev_var rfl) rfl rfl (evs_consI (ev_var rfl) rfl rfl evs_nilS)) k1)) ss_nil') ss_nil'
/-- the law, over the evaluator -/
theorem law_ok {m : Nat} (ns : List Int) : ∃ S, callT T.prog 0 (m + 10) 9 [.scr (ns.map .int)] [] = .ok (.bl true) S := by
  rw [callT_eq (fn := r_9.fn) rfl, runFn_eq rfl]
  obtain ⟨j, j0, j6, hj⟩ : ∃ j : Int, 0 ≤ j ∧ j ≤ 6 ∧ ∀ S, ev (ctxT T.prog 0 (m + 9)) (.bi .max (.cons false (.int 1) (.cons false (.bi .min (.cons false (.int 6) (.cons false (.bi .len (.cons false (.var 0) .nil)) .nil))) .nil))) [.fz (.scr (ns.map .int)), .no, .no, .no] S = .ok (.int j) S :=
    ⟨_, by split <;> omega, by split <;> (try split) <;> omega, fun S => ev_maxI ev_intS (ev_minI ev_intS (ev_lenScr (ev_var rfl)))⟩
  obtain ⟨env', S', k1, k2, k3, k4, rfl⟩ := for_nx (C := ctxT T.prog 0 (m + 9)) (i := 1) (b := .cons (.asg 2 (.ref (.call 0 (.cons false (.var 0) (.cons false (.var 1) .nil))))) (.cons (.for_ [3] (.rng1 (.int 12)) rankB) .nil)) (fun env _ => ∃ s1 s2 s3, env = [.fz (.scr (ns.map .int)), s1, s2, s3])
    (upTo 0 j.toNat) [.fz (.scr (ns.map .int)), .no, .no, .no] [] ⟨_, _, _, rfl⟩ (fun x hx => by obtain ⟨k, _, rfl⟩ := upTo_int hx; rfl) (fun x hx env S ⟨s1, s2, s3, he⟩ => by
      subst he
      obtain ⟨k, _, rfl⟩ := upTo_int hx
      rw [Int.zero_add]
      obtain ⟨a, b, ha, hb, hb2, hp⟩ := purse_ok (n := m + 8) (ns := ns) (p := k) (S := S)
      have pu : Pu (S ++ [.lst [.int a, .int b, .int 0]]) S.length 0 := ⟨a, b, by simp, ha, hb, hb2, Int.le_refl _⟩
      obtain ⟨s3', S1, r1⟩ := ranks_ok (m := m) (s0 := .fz (.scr (ns.map .int))) (s1 := .fz (.int k)) (upTo 0 (12 : Int).toNat) s3 _ 0 (fun x hx => by
        obtain ⟨r, hr, rfl⟩ := upTo_int hx
        exact ⟨r, hr, by rw [Int.zero_add]⟩) pu (by rw [upTo_len]; decide +kernel)
      refine ⟨_, S1, ss_nx (s_asgS (ev_refS (ev_callS (evs_consI (ev_var rfl) rfl rfl (evs_consI (ev_var rfl) rfl rfl evs_nilS)) hp) rfl) rfl) (ss_nx (s_forS (p := ⟨upTo 0 (12 : Int).toNat, [], false⟩) (evIt_rng1 ev_intS ⟨by decide, by decide⟩) rfl r1) ss_nil'), _, _, _, rfl⟩)
  refine ⟨S', ?_⟩
  have run : exSs (ctxT T.prog 0 (m + 9)) b_9 [.fz (.scr (ns.map .int)), .no, .no, .no] [] = .ok (.rt (.bl true)) S' :=
    ss_nx (s_forS (p := ⟨upTo 0 j.toNat, [], false⟩) (evIt_rng1 (hj []) ⟨by omega, by omega⟩) rfl k1) (ss_rt (s_retS ev_blS rfl))
  show (exSs (ctxT T.prog 0 (m + 9)) b_9 [.fz (.scr (ns.map .int)), .no, .no, .no] []).bind finF = _
  rw [run]; rfl
end Lk01
end
section
set_option Elab.async false
set_option linter.all false
set_option maxRecDepth 1000000
set_option maxHeartbeats 0
namespace Lk01
open PySem PySem.Spec PyProof.Rows K9
theorem tok : T.Ok where
  rows := List.forall_mem_cons.mpr ⟨ok_0, List.forall_mem_cons.mpr ⟨ok_1, List.forall_mem_cons.mpr ⟨ok_2, List.forall_mem_cons.mpr ⟨ok_3, List.forall_mem_cons.mpr ⟨ok_4, List.forall_mem_cons.mpr ⟨ok_5, List.forall_mem_cons.mpr ⟨ok_6, List.forall_mem_cons.mpr ⟨ok_7, List.forall_mem_cons.mpr ⟨ok_8, List.forall_mem_cons.mpr ⟨ok_9, fun _ h => by cases h⟩⟩⟩⟩⟩⟩⟩⟩⟩⟩
  isc := ⟨rfl, rfl, rfl, by decide +kernel, rfl, by decide +kernel, by decide +kernel⟩
  il := by kernel_rfl
  il2 := by kernel_rfl
  ib := ⟨_, _, _, _, rfl⟩
  ibd := fun _ _ _ _ _ _ _ _ => by kernel_rfl
  ibk := fun _ _ _ _ _ _ _ _ => by kernel_rfl
end Lk01
open PySem PySem.W PySem.Calls PyProof.Rows
theorem PySem.Challenge.cw_keysthrough_k01_errors_holds : PySem.Challenge.rw_keysthrough_k01_errors.Holds := by
  w_on; o_law
  refine HandSHeadRun.head_any (r := Lk01.Rr) (q := view Lk01.Rr.prog [23]) (H := K9.hookK 5 Lk01.T) (ob := K9.obT 5 Lk01.T) (M := 4000) (loose := Lk01.loose) (d := HandSHeadRun.topDef Lk01.Rr.prog 23) (kwd := []) K9.obT_eq
    (by kernel_rfl) (fun s => by kernel_rfl) Lk01.run (by kernel_rfl) (by kernel_rfl) (by kernel_rfl) (by rfl) (by first | assumption | decide +kernel) (by decide +kernel) ⟨rfl, rfl, rfl, rfl, rfl, by decide +kernel⟩ ?hw ?hc
  case hw => w_witness2
  case hc => exact K9.walkT (n := 10) (f := 9) (r := Lk01.r_9) (wf := 0) Lk01.tok rfl rfl (by kernel_rfl) rfl rfl rfl ⟨rfl, by decide, by decide⟩ fun ns _ _ => Lk01.law_ok (m := 0) ns
end
