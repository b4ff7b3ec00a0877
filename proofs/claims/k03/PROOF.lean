import PyProof.Rows.All
import Wide.All
import OpenK.AllK
import Wide.FinOn
import KE.KStateDown
import KE.LtData
import KE.SortData
import HandS.ForMost
import HandS.Exc
import HandS.Conv
import HandS.HeadHook2
import HandS.CallSlots
import HandS.TupAny
import HandS.Wide
import HandS.Property
import HandS.ClsMeth
import HandS.WordsExc
import HandS.IsInst
import HandS.SortInts
import HandS.Zip
import HandS.HeadEnd
import HandS.Head0
import HandS.Head1
import HandS.Head2
import PySem.Challenge.RW_pinrungs_k03_orders_compared
set_option Elab.async false
set_option linter.all false
set_option maxRecDepth 100000
set_option maxHeartbeats 0
/-! A small Python: its terms, its values without tuples' addresses, its weakest preconditions. -/
namespace MP
open PySem PySem.Spec PyProof.Rows

inductive D where
  | non | bl (b : Bool) | int (i : Int) | str (s : Str) | tup (ds : List D) | rol (ds : List D) | ref (a : Nat) | ty (n : String) | glo (x : Str)
  deriving Repr, Inhabited

inductive O where
  | lst (ds : List D) | ins (c : Str) (fs : List (Str × D)) | dct (kvs : List (D × D)) | set (ds : List D)

abbrev Hq := Nat → Option O
def hset (h : Hq) (a : Nat) (o : O) : Hq := fun b => if b = a then some o else h b
@[simp] theorem hset_same {h : Hq} {a : Nat} {o : O} : hset h a o a = some o := by unfold hset; rw [if_pos rfl]
theorem hset_ne {h : Hq} {a b : Nat} {o : O} (n : b ≠ a) : hset h a o b = h b := by unfold hset; rw [if_neg n]
theorem hset_hset {h : Hq} {a : Nat} {o u : O} : hset (hset h a o) a u = hset h a u := by
  funext b; unfold hset; split <;> rfl

structure Exn where
  cls : Str
  fs : List (Str × D)

abbrev Kq := D → Hq → Prop
abbrev Xq := Exn → Hq → Prop
abbrev Csem := Str → List D → Hq → Kq → Xq → Prop
abbrev Env := List (Option D)

inductive BI where
  | len | int | str | bool | all | any | sum | max | min | abs | sorted | sortedR | list | tuple | set | dict | range | repr | isinst
  deriving Repr, DecidableEq
inductive BM where
  | append | insert | pop | extend | clear | index | count | split | join | find | get | items | values | upper | lower | none
  deriving Repr, DecidableEq

/-- built-in types that isinstance asks for -/
inductive BT where
  | non | bl | int | str | lst | tup | dct | set
  deriving Repr, DecidableEq
def BT.name : BT → String
  | .non => "NoneType" | .bl => "bool" | .int => "int" | .str => "str" | .lst => "list" | .tup => "tuple" | .dct => "dict" | .set => "set"
/-- a class behind isinstance -/
inductive Cc where
  | ty (b : BT) | own (C : Str)
  deriving Repr
def isB : BT → BT → Bool
  | .bl, .int => true
  | a, b => decide (a = b)

mutual
inductive E where
  | var (i : Nat)
  | cst (d : D)
  | glob (x : Str)
  | bin (o : Operator) (a b : E)
  | neg (a : E)
  | cmp (o : CmpOp) (a b : E)
  | chain (o1 o2 : CmpOp) (a b c : E)
  | and (a b : E)
  | or (a b : E)
  | not (a : E)
  | ite (c a b : E)
  | tup (es : List E)
  | lst (es : List E)
  | call (f : Str) (es : List E)
  | make (c : Str) (f : Str) (es : List E)
  | bi (f : BI) (es : List E)
  | meth (o : E) (m : Str) (b : BM) (es : List E)
  | attr (o : E) (f : Str)
  | item (o i : E)
  | slice (o : E) (lo hi : Option E)
  | comp (elt : E) (own : List Nat) (g : T) (it : I) (ifs : List E)
  | comp2 (elt : E) (own : List Nat) (g : T) (it : I) (ifs : List E) (own2 : List Nat) (g2 : T) (it2 : I) (ifs2 : List E)
  | fstr (es : List E)
  | isin (e : E) (cs : List Cc)
  | rngA (tup : Bool) (hi : E)
  | rngB (tup : Bool) (lo hi : E)
  | nope
  deriving Repr
/-- targets -/
inductive T where
  | var (i : Nat)
  | tup (ts : List T)
  | item (o i : E)
  | attr (o : E) (f : Str)
  | nope
  deriving Repr
/-- what is walked -/
inductive I where
  | val (e : E)
  | rng1 (a : E)
  | rng2 (a b : E)
  | rng3 (a b c : E)
  | enum (e : E)
  | zip (a b : E)
  | nope
  deriving Repr
end

mutual
inductive S where
  | asg (t : T) (e : E)
  | par (i j : Nat) (a b : E)
  | aug (i : Nat) (o : Operator) (e : E)
  | expr (e : E)
  | ret (e : E)
  | retN
  | ite (c : E) (a b : List S)
  | for (t : T) (it : I) (b : List S)
  | while (c : E) (b : List S)
  | brk | cont | pass
  | nope
  deriving Repr
end

/-! ### data -/
mutual
/-- d is the datum x in h -/
def Pd (h : Hq) : PyData → D → Prop
  | .none, d => d = .non
  | .bool b, d => d = .bl b
  | .int i, d => d = .int i
  | .str s, d => d = .str s
  | .tuple es, d => ∃ ds, d = .tup ds ∧ Pds h es ds
  | .list es, d => (∃ a ds, d = .ref a ∧ h a = some (.lst ds) ∧ Pds h es ds) ∨ ∃ ds, d = .rol ds ∧ Pds h es ds
  | .dict _, _ => False
def Pds (h : Hq) : List PyData → List D → Prop
  | [], ds => ds = []
  | e :: es, ds => ∃ d r, ds = d :: r ∧ Pd h e d ∧ Pds h es r
end

/-! ### what the classes are -/
structure Cl where
  /-- the function that a class's method is: its key; whether it's a property (1), a static method (2), a class method (3) -/
  meth : Str → Str → Option (Str × Nat)
  /-- a field of the class's instances (no class of it has the name) -/
  fld : Str → Str → Bool
  /-- an attribute that is a constant of the class -/
  con : Str → Str → Option D
  /-- a class that may be made: its __init__'s key -/
  make : Str → Option Str
  /-- isinstance of an instance of the class c and the class d -/
  sub : Str → Str → Option Bool
  /-- isinstance of a value of a built-in type and the class d; of an instance of the class c and a built-in type -/
  subB : BT → Str → Option Bool
  subT : Str → BT → Option Bool
  /-- a module's name -/
  glob : Str → Option D

/-! ### operators -/
/-- y may stand on the right of a comparison with an instance of C -/
def cmpOk (P : Cl) (C : Str) (y : D) (h : Hq) : Prop :=
  match y with
  | .ref b => match h b with
    | some (.ins C' _) => C' = C ∨ P.sub C' C = some false
    | some (.lst _) => True
    | _ => False
  | .glo _ => False
  | .ty _ => False
  | _ => True
/-- a comparison by an own class -/
def opOwn (P : Cl) (c : Csem) (m : Str) (x y : D) (h : Hq) (Q : Kq) (X : Xq) : Prop :=
  match x with
  | .ref a => match h a with
    | some (.ins C _) => match P.meth C m with
      | some (k, 0) => cmpOk P C y h ∧ c k [x, y] h Q X
      | _ => False
    | _ => False
  | _ => False
/-- an operator of an own class -/
def opOwnB (P : Cl) (c : Csem) (m : Str) (x y : D) (h : Hq) (Q : Kq) (X : Xq) : Prop :=
  match x, y with
  | .ref a, .ref b => match h a, h b with
    | some (.ins C _), some (.ins C' _) => match P.meth C m with
      | some (k, 0) => C' = C ∧ c k [x, y] h Q X
      | _ => False
    | _, _ => False
  | _, _ => False
def isIns (x : D) (h : Hq) : Bool := match x with
  | .ref a => match h a with
    | some (.ins _ _) => true
    | _ => false
  | _ => false

def opAdd (P : Cl) (c : Csem) (x y : D) (h : Hq) (Q : Kq) (X : Xq) : Prop :=
  match x, y with
  | .int i, .int j => Q (.int (i + j)) h
  | .str i, .str j => i.length + j.length ≤ sizeLine ∧ Q (.str (i ++ j)) h
  | .tup xs, .tup ys => xs.length + ys.length ≤ sizeLine ∧ Q (.tup (xs ++ ys)) h
  | .ref a, .ref b => match h a with
    | some (.lst xs) => match h b with
      | some (.lst ys) => xs.length + ys.length ≤ sizeLine ∧ ∀ p, h p = none → Q (.ref p) (hset h p (.lst (xs ++ ys)))
      | _ => False
    | some (.ins _ _) => opOwnB P c "__add__" x y h Q X
    | _ => False
  | _, _ => False
def opSub (P : Cl) (c : Csem) (x y : D) (h : Hq) (Q : Kq) (X : Xq) : Prop :=
  match x, y with
  | .int i, .int j => Q (.int (i - j)) h
  | .ref _, .ref _ => opOwnB P c "__sub__" x y h Q X
  | _, _ => False
def opMul (x y : D) (h : Hq) (Q : Kq) : Prop :=
  match x, y with
  | .int i, .int j => ((-(2 ^ 64) < i ∧ i < 2 ^ 64) ∨ (-(2 ^ 64) < j ∧ j < 2 ^ 64) ∨ (∃ n m : Nat, i.natAbs < 2 ^ n ∧ j.natAbs < 2 ^ m ∧ n + m < 1000000)) ∧ Q (.int (i * j)) h
  | _, _ => False
def opFdiv (x y : D) (h : Hq) (Q : Kq) : Prop :=
  match x, y with
  | .int i, .int j => (0 < j ∧ j < 1073741824) ∧ Q (.int (i / j)) h
  | _, _ => False
def opMod (x y : D) (h : Hq) (Q : Kq) : Prop :=
  match x, y with
  | .int i, .int j => 0 < j ∧ Q (.int (i % j)) h
  | _, _ => False
def opPow (x y : D) (h : Hq) (Q : Kq) : Prop :=
  match x, y with
  | .int i, .int j => (0 ≤ j ∧ j ≤ 1000000 ∧ i.natAbs < 2 ^ 64) ∧ Q (.int (i ^ j.toNat)) h
  | _, _ => False
def opBin (P : Cl) (c : Csem) (o : Operator) (x y : D) (h : Hq) (Q : Kq) (X : Xq) : Prop :=
  match o with
  | .Add => opAdd P c x y h Q X
  | .Sub => opSub P c x y h Q X
  | .Mult => opMul x y h Q
  | .FloorDiv => opFdiv x y h Q
  | .Mod => opMod x y h Q
  | .Pow => opPow x y h Q
  | .BitAnd => opOwnB P c "__and__" x y h Q X
  | .BitOr => opOwnB P c "__or__" x y h Q X
  | _ => False

/-- == of data -/
def opEqD (x y : D) (h : Hq) (neg : Bool) (Q : Kq) : Prop :=
  ∃ d e, Pd h d x ∧ Pd h e y ∧ SeqAt.shaped d = true ∧ SeqAt.shaped e = true ∧ Q (.bl (if neg then !PyData.eqv d e else PyData.eqv d e)) h
def opEq (P : Cl) (c : Csem) (x y : D) (h : Hq) (Q : Kq) (X : Xq) : Prop :=
  if isIns x h then opOwn P c "__eq__" x y h Q X else opEqD x y h false Q
def opNe (P : Cl) (c : Csem) (x y : D) (h : Hq) (Q : Kq) (X : Xq) : Prop := opEqD x y h true Q
def opLtD (x y : D) (h : Hq) (Q : Kq) : Prop :=
  ∃ d e, Pd h d x ∧ Pd h e y ∧ SeqAt.shaped d = true ∧ SeqAt.shaped e = true ∧ W.alike d e = true ∧ Q (.bl (W.dataLt d e)) h
def opLt (P : Cl) (c : Csem) (x y : D) (h : Hq) (Q : Kq) (X : Xq) : Prop :=
  match x, y with
  | .int i, .int j => Q (.bl (decide (i < j))) h
  | .tup _, .tup _ => opLtD x y h Q
  | .ref a, .ref _ => match h a with
    | some (.ins _ _) => opOwn P c "__lt__" x y h Q X
    | _ => False
  | _, _ => False
def opI (f : Int → Int → Bool) (x y : D) (h : Hq) (Q : Kq) : Prop :=
  match x, y with
  | .int i, .int j => Q (.bl (f i j)) h
  | _, _ => False
def opIs (x y : D) (h : Hq) (neg : Bool) (Q : Kq) : Prop :=
  match y with
  | .non => match x with
    | .non => Q (.bl (!neg)) h
    | _ => Q (.bl neg) h
  | _ => False
def flatD : D → Bool
  | .non => true | .bl _ => true | .int _ => true | .str _ => true | _ => false
def eqD : D → D → Bool
  | .non, .non => true
  | .bl a, .bl b => a == b
  | .bl a, .int j => (if a then 1 else 0) == j
  | .int i, .bl b => i == (if b then 1 else 0)
  | .int i, .int j => i == j
  | .str x, .str y => decide (x = y)
  | _, _ => false
def opInSeq (x : D) (ds : List D) (h : Hq) (neg : Bool) (Q : Kq) : Prop :=
  flatD x = true ∧ ds.all flatD = true ∧ Q (.bl (if neg then !(ds.any fun d => eqD d x) else ds.any fun d => eqD d x)) h
def opIn (P : Cl) (c : Csem) (x y : D) (h : Hq) (neg : Bool) (Q : Kq) (X : Xq) : Prop :=
  match y with
  | .str z => match x with
    | .str w => Q (.bl (if neg then (Builtin.Str.occurrences z w 0 z.length 1).isEmpty else !(Builtin.Str.occurrences z w 0 z.length 1).isEmpty)) h
    | _ => False
  | .tup ds => opInSeq x ds h neg Q
  | .ref a => match h a with
    | some (.lst ds) => opInSeq x ds h neg Q
    | _ => False
  | .rol ds => opInSeq x ds h neg Q
  | _ => False
def opCmp (P : Cl) (c : Csem) (o : CmpOp) (x y : D) (h : Hq) (Q : Kq) (X : Xq) : Prop :=
  match o with
  | .Eq => opEq P c x y h Q X
  | .NotEq => opNe P c x y h Q X
  | .Lt => opLt P c x y h Q X
  | .LtE => opI (fun i j => decide (i ≤ j)) x y h Q
  | .Gt => opI (fun i j => decide (j < i)) x y h Q
  | .GtE => opI (fun i j => decide (j ≤ i)) x y h Q
  | .Is => opIs x y h false Q
  | .IsNot => opIs x y h true Q
  | .In => opIn P c x y h false Q X
  | .NotIn => opIn P c x y h true Q X

/-- truth -/
def opTru (x : D) (h : Hq) (Q : Bool → Hq → Prop) : Prop :=
  match x with
  | .non => Q false h
  | .bl b => Q b h
  | .int i => Q (i != 0) h
  | .str s => s.length ≤ sizeLine ∧ Q ((s.length : Int) != 0) h
  | .tup ds => Q (!ds.isEmpty) h
  | .ref a => match h a with
    | some (.lst ds) => Q (!ds.isEmpty) h
    | _ => False
  | .rol ds => Q (!ds.isEmpty) h
  | _ => False
def opItem (x y : D) (h : Hq) (Q : Kq) : Prop :=
  match x, y with
  | .tup ds, .int i => match L2.atI ds i with
    | some d => Q d h
    | none => False
  | .str z, .int i => z.length ≤ sizeLine ∧ match L2.atI z.cps.toList i with
    | some n => Q (.str ⟨#[n]⟩) h
    | none => False
  | .ref a, .int i => match h a with
    | some (.lst ds) => match L2.atI ds i with
      | some d => Q d h
      | none => False
    | _ => False
  | .rol ds, .int i => match L2.atI ds i with
    | some d => Q d h
    | none => False
  | _, _ => False
def cut (ds : List D) (lo hi : Option Int) : List D := (ds.drop (HT.sIx ds.length 0 lo)).take (HT.sIx ds.length ds.length hi - HT.sIx ds.length 0 lo)
def opSlice (x : D) (lo hi : Option Int) (h : Hq) (Q : Kq) : Prop :=
  match x with
  | .tup ds => Q (.tup (cut ds lo hi)) h
  | .str z => z.length ≤ sizeLine ∧ Q (.str ⟨((z.cps.toList.drop (HT.sIx z.length 0 lo)).take (HT.sIx z.length z.length hi - HT.sIx z.length 0 lo)).toArray⟩) h
  | .ref a => match h a with
    | some (.lst ds) => ∀ p, h p = none → Q (.ref p) (hset h p (.lst (cut ds lo hi)))
    | _ => False
  | .rol ds => ∀ p, h p = none → Q (.ref p) (hset h p (.lst (cut ds lo hi)))
  | _ => False

/-! ### built-ins -/
/-- the items of what stands still: a list, a tuple -/
def seqOf (x : D) (h : Hq) : Option (List D) :=
  match x with
  | .tup ds => some ds
  | .ref a => match h a with
    | some (.lst ds) => some ds
    | _ => none
  | .rol ds => some ds
  | _ => none
def lstOf (x : D) (h : Hq) : Option (List D) :=
  match x with
  | .ref a => match h a with
    | some (.lst ds) => some ds
    | _ => none
  | .rol ds => some ds
  | _ => none
def biLen (P : Cl) (c : Csem) (x : D) (h : Hq) (Q : Kq) (X : Xq) : Prop :=
  match x with
  | .str z => z.length ≤ sizeLine ∧ Q (.int z.length) h
  | .tup ds => Q (.int ds.length) h
  | .ref a => match h a with
    | some (.lst ds) => Q (.int ds.length) h
    | _ => False
  | .rol ds => Q (.int ds.length) h
  | _ => False
def biInt (x : D) (h : Hq) (Q : Kq) : Prop :=
  match x with
  | .int i => Q (.int i) h
  | .bl b => Q (.int (if b then 1 else 0)) h
  | .str s => ∃ n, PySem.intText? s = some n ∧ s.length ≤ 640 ∧ Q (.int n) h
  | _ => False
def biStr (x : D) (h : Hq) (Q : Kq) : Prop :=
  match x with
  | .int i => i.natAbs.log2 < 1920 ∧ Q (.str (toString i)) h
  | _ => False
def new (h : Hq) (o : O) (Q : Kq) : Prop := ∀ p, h p = none → Q (.ref p) (hset h p o)
def intsD (ns : List Int) : List D := ns.map D.int
def asInts : List D → Option (List Int)
  | [] => some []
  | .int i :: r => (asInts r).map (i :: ·)
  | _ => none
def asBls : List D → Option (List Bool)
  | [] => some []
  | .bl b :: r => (asBls r).map (b :: ·)
  | _ => none
def b1 (xs : List D) (f : D → Prop) : Prop := match xs with
  | [x] => f x
  | _ => False
def b2 (xs : List D) (f : D → D → Prop) : Prop := match xs with
  | [x, y] => f x y
  | _ => False
def atInt (x : D) (f : Int → Prop) : Prop := match x with
  | .int i => f i
  | _ => False
def atSeq (x : D) (h : Hq) (f : List D → Prop) : Prop := match seqOf x h with
  | some ds => f ds
  | none => False
def atLst (x : D) (h : Hq) (f : List D → Prop) : Prop := match lstOf x h with
  | some ds => f ds
  | none => False
def atInts (ds : List D) (f : List Int → Prop) : Prop := match asInts ds with
  | some ns => f ns
  | none => False
def atBls (ds : List D) (f : List Bool → Prop) : Prop := match asBls ds with
  | some ns => f ns
  | none => False
def bi (P : Cl) (c : Csem) (f : BI) (xs : List D) (h : Hq) (Q : Kq) (X : Xq) : Prop :=
  match f with
  | .len => b1 xs fun x => biLen P c x h Q X
  | .int => b1 xs fun x => biInt x h Q
  | .str => b1 xs fun x => biStr x h Q
  | .abs => b1 xs fun x => atInt x fun i => Q (.int (if i < 0 then -i else i)) h
  | .sum => b1 xs fun x => atLst x h fun ds => atInts ds fun ns => Q (.int ns.sum) h
  | .max => b1 xs (fun x => atLst x h fun ds => atInts ds fun ns => 0 < ns.length ∧ ∀ m, m ∈ ns → (∀ y, y ∈ ns → y ≤ m) → Q (.int m) h) ∨ b2 xs fun x y => atInt x fun i => atInt y fun j => Q (.int (if j > i then j else i)) h
  | .min => b1 xs (fun x => atLst x h fun ds => atInts ds fun ns => 0 < ns.length ∧ ∀ m, m ∈ ns → (∀ y, y ∈ ns → m ≤ y) → Q (.int m) h) ∨ b2 xs fun x y => atInt x fun i => atInt y fun j => Q (.int (if j < i then j else i)) h
  | .all => b1 xs fun x => atLst x h fun ds => atBls ds fun bs => Q (.bl (bs.all id)) h
  | .any => b1 xs fun x => atLst x h fun ds => atBls ds fun bs => Q (.bl (bs.any id)) h
  | .sorted => b1 xs fun x => atSeq x h fun ds => atInts ds fun ns => ∀ ms, ms.Perm ns → ms.Pairwise (· ≤ ·) → new h (.lst (intsD ms)) Q
  | .list => b1 xs fun x => atSeq x h fun ds => new h (.lst ds) Q
  | .tuple => b1 xs fun x => atSeq x h fun ds => Q (.tup ds) h
  | _ => False

/-! ### isinstance -/
def tyD (x : D) (h : Hq) : Option Cc :=
  match x with
  | .non => some (.ty .non)
  | .bl _ => some (.ty .bl)
  | .int _ => some (.ty .int)
  | .str _ => some (.ty .str)
  | .tup _ => some (.ty .tup)
  | .rol _ => some (.ty .lst)
  | .ref a => match h a with
    | some (.lst _) => some (.ty .lst)
    | some (.ins C _) => some (.own C)
    | _ => none
  | _ => none
def isAns (P : Cl) : Cc → Cc → Option Bool
  | .ty a, .ty b => some (isB a b)
  | .ty a, .own C => P.subB a C
  | .own C, .own C' => P.sub C C'
  | .own C, .ty b => P.subT C b
def isAny (P : Cl) (t : Cc) : List Cc → Option Bool
  | [] => some false
  | c :: cs => match isAns P t c with
    | some true => some true
    | some false => isAny P t cs
    | none => none
def isinD (P : Cl) (x : D) (cs : List Cc) (h : Hq) (Q : Kq) : Prop :=
  match tyD x h with
  | some t => match isAny P t cs with
    | some b => Q (.bl b) h
    | none => False
  | none => False
/-! ### methods of built-in types -/
def firstIx (ds : List D) (x : D) : Option Nat := ds.findIdx? fun d => eqD d x
def mthLst (a : Nat) (ds : List D) (m : BM) (xs : List D) (h : Hq) (Q : Kq) : Prop :=
  match m with
  | .index => b1 xs fun x => flatD x = true ∧ ds.all flatD = true ∧ ∃ i, firstIx ds x = some i ∧ Q (.int i) h
  | .append => b1 xs fun x => ds.length < sizeLine ∧ Q .non (hset h a (.lst (ds ++ [x])))
  | .insert => b2 xs fun i x => atInt i fun i => 0 ≤ i ∧ i < 2 ^ 62 ∧ ds.length < sizeLine ∧ Q .non (hset h a (.lst (ds.take i.toNat ++ [x] ++ ds.drop i.toNat)))
  | .pop => (xs = [] ∧ ∃ x, ds[ds.length - 1]? = some x ∧ Q x (hset h a (.lst ds.dropLast))) ∨
    b1 xs fun i => atInt i fun i => 0 ≤ i ∧ i < 2 ^ 62 ∧ ∃ x, ds[i.toNat]? = some x ∧ Q x (hset h a (.lst (ds.eraseIdx i.toNat)))
  | .extend => b1 xs fun x => ∃ b es, x = .ref b ∧ h b = some (.lst es) ∧ ds.length + es.length ≤ sizeLine ∧ Q .non (hset h a (.lst (ds ++ es)))
  | .clear => xs = [] ∧ Q .non (hset h a (.lst []))
  | _ => False
/-- a list of texts -/
def asStrs : List D → Option (List Str)
  | [] => some []
  | .str b :: r => (asStrs r).map (b :: ·)
  | _ => none
def mthStr (z : Str) (m : BM) (xs : List D) (h : Hq) (Q : Kq) : Prop :=
  match m with
  | .join => b1 xs fun x => atSeq x h fun ds => ∃ ys, asStrs ds = some ys ∧ (ys.map (·.length)).sum + ys.length * z.length ≤ 16777216 ∧ Q (.str (Txt.join z ys)) h
  | .split => b1 xs fun x => ∃ s, x = .str s ∧ (s.length == 0) = false ∧ z.length + 2 ≤ sizeLine ∧ new h (.lst ((Txt.split z s).map D.str)) Q
  | _ => False
/-- what a method is -/
inductive MK where
  | bi | own (k : Str)
def bmLst : BM → Option (Str × String)
  | .append => some ("append", "list.append") | .insert => some ("insert", "list.insert") | .pop => some ("pop", "list.pop") | .extend => some ("extend", "list.extend") | .clear => some ("clear", "list.clear") | .index => some ("index", "list.index")
  | _ => none
def bmStr : BM → Option (Str × String)
  | .join => some ("join", "str.join") | .split => some ("split", "str.split")
  | _ => none
def mkOf (P : Cl) (x : D) (m : Str) (b : BM) (h : Hq) : Option MK :=
  match x with
  | .str _ => if (bmStr b).isSome = true then some .bi else none
  | .ref a => match h a with
    | some (.lst _) => if (bmLst b).isSome = true then some .bi else none
    | some (.ins C fs) => match fs.lookup m with
      | some _ => none
      | none => match P.meth C m with
        | some (k, 0) => some (.own k)
        | _ => none
    | _ => none
  | _ => none
def mthB (x : D) (b : BM) (xs : List D) (h : Hq) (Q : Kq) : Prop :=
  match x with
  | .str z => mthStr z b xs h Q
  | .ref a => match h a with
    | some (.lst ds) => mthLst a ds b xs h Q
    | _ => False
  | _ => False
def mth (c : Csem) (K : MK) (x : D) (b : BM) (xs : List D) (h : Hq) (Q : Kq) (X : Xq) : Prop :=
  match K with
  | .bi => mthB x b xs h Q
  | .own k => c k (x :: xs) h Q X
def atFs (fs : List (Str × D)) (f : Str) (Q : D → Prop) : Prop := match fs.lookup f with
  | some d => Q d
  | none => False
def opAttr (P : Cl) (c : Csem) (x : D) (f : Str) (h : Hq) (Q : Kq) : Prop :=
  match x with
  | .ref a => match h a with
    | some (.ins C fs) => match P.fld C f with
      | true => atFs fs f fun d => Q d h
      | false => match P.meth C f with
        | some (k, 1) => c k [x] h Q (fun _ _ => False)
        | _ => False
    | _ => False
  | .glo C => match P.con C f with
    | some d => Q d h
    | none => False
  | _ => False

/-! ### what is walked: the items, and what must stand while they are walked -/
abbrev Kit := List D → (Hq → Prop) → Hq → Prop
def walkVal (x : D) (h : Hq) (R : Kit) : Prop :=
  match x with
  | .tup ds => R ds (fun _ => True) h
  | .str z => R (z.cps.toList.map fun n => D.str ⟨#[n]⟩) (fun _ => True) h
  | .ref a => match h a with
    | some (.lst ds) => R ds (fun h' => h' a = some (.lst ds)) h
    | _ => False
  | .rol ds => R ds (fun _ => True) h
  | _ => False
def rangeD (lo : Int) (n : Nat) : List D := (List.range n).map fun (k : Nat) => D.int (lo + (k : Int))
def rangeDs (lo c : Int) (n : Nat) : List D := (List.range n).map fun (k : Nat) => D.int (lo + (k : Int) * c)
def walkRng (lo hi : Int) (h : Hq) (R : Kit) : Prop :=
  (-(2 ^ 62) ≤ lo ∧ lo < 2 ^ 62 ∧ -(2 ^ 62) ≤ hi ∧ hi < 2 ^ 62) ∧ R (rangeD lo (hi - lo).toNat) (fun _ => True) h
def enumD (ds : List D) : List D := ds.mapIdx fun i d => D.tup [.int (i : Int), d]
def zipD (ds es : List D) : List D := List.zipWith (fun d e => D.tup [d, e]) ds es
def walkEnum (x : D) (h : Hq) (R : Kit) : Prop :=
  match x with
  | .rol ds => R (enumD ds) (fun _ => True) h
  | .ref a => match h a with
    | some (.lst ds) => R (enumD ds) (fun h' => h' a = some (.lst ds)) h
    | _ => False
  | _ => False
def walkZip (x y : D) (h : Hq) (R : Kit) : Prop :=
  match x, y with
  | .tup ds, .tup es => R (zipD ds es) (fun _ => True) h
  | .ref a, .ref b => match h a with
    | some (.lst ds) => match h b with
      | some (.lst es) => R (zipD ds es) (fun h' => h' a = some (.lst ds) ∧ h' b = some (.lst es)) h
      | _ => False
    | _ => False
  | _, _ => False

/-- list(range(i, j)), tuple(range(i, j)) -/
def rngD (tup : Bool) (i j : Int) (h : Hq) (Q : Kq) : Prop :=
  (-(2 ^ 62) ≤ i ∧ i < 2 ^ 62 ∧ -(2 ^ 62) ≤ j ∧ j < 2 ^ 62 ∧ (j - i).toNat ≤ 2 ^ 24) ∧ match tup with
    | true => Q (.tup (rangeD i (j - i).toNat)) h
    | false => new h (.lst (rangeD i (j - i).toNat)) Q
/-- a comprehension's turns: the new list at p holds acc -/
def compGo (grd : Hq → Prop) (p : Nat) (body : D → Hq → Kq → (Hq → Prop) → Prop) (Q : Hq → Prop) : List D → List D → Hq → Prop
  | [], acc, h => grd h ∧ h p = some (.lst acc) ∧ Q h
  | d :: r, acc, h => grd h ∧ body d h
      (fun y h' => h' p = some (.lst acc) ∧ acc.length < sizeLine ∧ compGo grd p body Q r (acc ++ [y]) (hset h' p (.lst (acc ++ [y]))))
      (fun h' => h' p = some (.lst acc) ∧ compGo grd p body Q r acc h')
def wipeE (env : Env) (vs : List Nat) : Env := vs.foldr (fun v e => e.set v none) env

def putF (f : Str) (v : D) : List (Str × D) → List (Str × D)
  | [] => [(f, v)]
  | (g, w) :: r => if g = f then (f, v) :: r else (g, w) :: putF f v r

mutual
def wE (P : Cl) (c : Csem) : E → Env → Hq → Kq → Xq → Prop
  | .var i, env, h, Q, X => match env[i]? with
    | some (some d) => Q d h
    | _ => False
  | .cst d, _, h, Q, _ => Q d h
  | .glob x, _, h, Q, _ => match P.glob x with
    | some d => Q d h
    | none => False
  | .bin o a b, env, h, Q, X => wE P c a env h (fun x h1 => wE P c b env h1 (fun y h2 => opBin P c o x y h2 Q X) X) X
  | .neg a, env, h, Q, X => wE P c a env h (fun x h1 => match x with
    | .int i => Q (.int (-i)) h1
    | _ => False) X
  | .cmp o a b, env, h, Q, X => wE P c a env h (fun x h1 => wE P c b env h1 (fun y h2 => opCmp P c o x y h2 Q X) X) X
  | .chain o1 o2 a b e, env, h, Q, X => wE P c a env h (fun x h1 => wE P c b env h1 (fun y h2 => opCmp P c o1 x y h2 (fun r h3 => match r with
    | .bl true => wE P c e env h3 (fun z h4 => opCmp P c o2 y z h4 Q X) X
    | .bl false => Q (.bl false) h3
    | _ => False) X) X) X
  | .and a b, env, h, Q, X => wE P c a env h (fun x h1 => match x with
    | .bl true => wE P c b env h1 Q X
    | .bl false => Q (.bl false) h1
    | _ => False) X
  | .or a b, env, h, Q, X => wE P c a env h (fun x h1 => match x with
    | .bl true => Q (.bl true) h1
    | .bl false => wE P c b env h1 Q X
    | _ => False) X
  | .not a, env, h, Q, X => wE P c a env h (fun x h1 => match x with
    | .bl b => Q (.bl (!b)) h1
    | _ => False) X
  | .ite t a b, env, h, Q, X => wT P c t env h (fun r h1 => match r with
    | true => wE P c a env h1 Q X
    | false => wE P c b env h1 Q X) X
  | .tup es, env, h, Q, X => wEs P c es env h (fun ds h1 => ds.length ≤ 1000 ∧ Q (.tup ds) h1) X
  | .lst es, env, h, Q, X => wEs P c es env h (fun ds h1 => ds.length ≤ 1000 ∧ new h1 (.lst ds) Q) X
  | .call f es, env, h, Q, X => wEs P c es env h (fun ds h1 => c f ds h1 Q X) X
  | .make C f es, env, h, Q, X => wEs P c es env h (fun ds h1 => ∀ p, h1 p = none → c f (.ref p :: ds) (hset h1 p (.ins C [])) (fun v h2 => v = .non ∧ Q (.ref p) h2) X) X
  | .bi f es, env, h, Q, X => wEs P c es env h (fun ds h1 => bi P c f ds h1 Q X) X
  | .meth o m b es, env, h, Q, X => wE P c o env h (fun x h1 => match mkOf P x m b h1 with
    | some K => wEs P c es env h1 (fun ds h2 => mth c K x b ds h2 Q X) X
    | none => False) X
  | .isin e cs, env, h, Q, X => wE P c e env h (fun x h1 => isinD P x cs h1 Q) X
  | .rngA tup hi, env, h, Q, X => wE P c hi env h (fun y h2 => atInt y fun j => rngD tup 0 j h2 Q) X
  | .rngB tup lo hi, env, h, Q, X => wE P c lo env h (fun x h1 => wE P c hi env h1 (fun y h2 => atInt x fun i => atInt y fun j => rngD tup i j h2 Q) X) X
  | .attr o f, env, h, Q, X => wE P c o env h (fun x h1 => opAttr P c x f h1 Q) X
  | .item o i, env, h, Q, X => wE P c o env h (fun x h1 => wE P c i env h1 (fun y h2 => opItem x y h2 Q) X) X
  | .slice o lo hi, env, h, Q, X => wE P c o env h (fun x h1 => wO P c lo env h1 (fun l h2 => wO P c hi env h2 (fun u h3 => opSlice x l u h3 Q) X) X) X
  | .comp e own g it ifs, env, h, Q, X => wI P c it env h (fun ds grd h1 => ∀ p, h1 p = none →
      compGo grd p (fun d h2 K N => wG P c g d (wipeE env own) h2 (fun env' h3 => wIfs P c ifs env' h3 (fun r h4 => match r with
        | true => wE P c e env' h4 K (fun _ _ => False)
        | false => N h4) (fun _ _ => False)) (fun _ _ => False)) (Q (.ref p)) ds [] (hset h1 p (.lst []))) X
  | .comp2 _ _ _ _ _ _ _ _ _, _, _, _, _ => False
  | .fstr _, _, _, _, _ => False
  | .nope, _, _, _, _ => False
/-- as a test -/
def wT (P : Cl) (c : Csem) : E → Env → Hq → (Bool → Hq → Prop) → Xq → Prop
  | .and a b, env, h, Q, X => wT P c a env h (fun r h1 => match r with
    | true => wT P c b env h1 Q X
    | false => Q false h1) X
  | .or a b, env, h, Q, X => wT P c a env h (fun r h1 => match r with
    | true => Q true h1
    | false => wT P c b env h1 Q X) X
  | .not a, env, h, Q, X => wT P c a env h (fun r h1 => Q (!r) h1) X
  | .cmp o a b, env, h, Q, X => wE P c a env h (fun x h1 => wE P c b env h1 (fun y h2 => opCmp P c o x y h2 (fun r h3 => match r with
    | .bl k => Q k h3
    | _ => False) X) X) X
  | .chain o1 o2 a b e, env, h, Q, X => wE P c a env h (fun x h1 => wE P c b env h1 (fun y h2 => opCmp P c o1 x y h2 (fun r h3 => match r with
    | .bl true => wE P c e env h3 (fun z h4 => opCmp P c o2 y z h4 (fun r h5 => match r with
      | .bl k => Q k h5
      | _ => False) X) X
    | .bl false => Q false h3
    | _ => False) X) X) X
  | .ite _ _ _, _, _, _, _ => False
  | e, env, h, Q, X => wE P c e env h (fun x h1 => opTru x h1 Q) X
def wEs (P : Cl) (c : Csem) : List E → Env → Hq → (List D → Hq → Prop) → Xq → Prop
  | [], _, h, Q, _ => Q [] h
  | e :: es, env, h, Q, X => wE P c e env h (fun d h1 => wEs P c es env h1 (fun ds h2 => Q (d :: ds) h2) X) X
def wO (P : Cl) (c : Csem) : Option E → Env → Hq → (Option Int → Hq → Prop) → Xq → Prop
  | none, _, h, Q, _ => Q none h
  | some e, env, h, Q, X => wE P c e env h (fun d h1 => match d with
    | .int i => Q (some i) h1
    | _ => False) X
/-- a comprehension's tests -/
def wIfs (P : Cl) (c : Csem) : List E → Env → Hq → (Bool → Hq → Prop) → Xq → Prop
  | [], _, h, Q, _ => Q true h
  | [e], env, h, Q, X => wT P c e env h Q X
  | _, _, _, _, _ => False
/-- a target -/
def wG (P : Cl) (c : Csem) : T → D → Env → Hq → (Env → Hq → Prop) → Xq → Prop
  | .var i, d, env, h, Q, _ => Q (env.set i (some d)) h
  | .tup ts, d, env, h, Q, X => match d with
    | .tup ds => ds.length = ts.length ∧ wGs P c ts ds env h Q (fun _ _ => False)
    | _ => False
  | .item o i, d, env, h, Q, X => wE P c o env h (fun x h1 => wE P c i env h1 (fun y h2 => match x, y with
    | .ref a, .int k => match h2 a with
      | some (.lst ds) => match L2.ixN ds.length k with
        | some j => Q env (hset h2 a (.lst (ds.set j d)))
        | none => False
      | _ => False
    | _, _ => False) X) X
  | .attr o f, d, env, h, Q, X => wE P c o env h (fun x h1 => match x with
    | .ref a => match h1 a with
      | some (.ins C fs) => fs.length < 1000 ∧ P.fld C f = true ∧ Q env (hset h1 a (.ins C (putF f d fs)))
      | _ => False
    | _ => False) X
  | .nope, _, _, _, _, _ => False
def wGs (P : Cl) (c : Csem) : List T → List D → Env → Hq → (Env → Hq → Prop) → Xq → Prop
  | [], ds, env, h, Q, _ => ds = [] ∧ Q env h
  | t :: ts, ds, env, h, Q, X => match ds with
    | [] => False
    | d :: r => wG P c t d env h (fun env' h' => wGs P c ts r env' h' Q X) X
def wI (P : Cl) (c : Csem) : I → Env → Hq → Kit → Xq → Prop
  | .val e, env, h, R, X => wE P c e env h (fun x h1 => walkVal x h1 R) X
  | .rng1 a, env, h, R, X => wE P c a env h (fun x h1 => match x with
    | .int j => walkRng 0 j h1 R
    | _ => False) X
  | .rng2 a b, env, h, R, X => wE P c a env h (fun x h1 => wE P c b env h1 (fun y h2 => match x, y with
    | .int i, .int j => walkRng i j h2 R
    | _, _ => False) X) X
  | .rng3 a b s, env, h, R, X => wE P c a env h (fun x h1 => wE P c b env h1 (fun y h2 => wE P c s env h2 (fun z h3 => match x, y, z with
    | .int i, .int j, .int k => ∃ n, L2.RgC i j k n ∧ R (rangeDs i k n) (fun _ => True) h3
    | _, _, _ => False) X) X) X
  | .enum e, env, h, R, X => wE P c e env h (fun x h1 => walkEnum x h1 R) X
  | .zip a b, env, h, R, X => wE P c a env h (fun x h1 => wE P c b env h1 (fun y h2 => walkZip x y h2 R) X) X
  | .nope, _, _, _, _ => False
end

/-! ### statements -/
structure Fin where
  nx : Env → Hq → Prop
  rt : D → Hq → Prop
  bk : Env → Hq → Prop
  ct : Env → Hq → Prop
  ex : Env → Exn → Hq → Prop
def forGo (grd : Hq → Prop) (body : D → Env → Hq → Fin → Prop) (F : Fin) : List D → Env → Hq → Prop
  | [], env, h => grd h ∧ F.nx env h
  | d :: r, env, h => grd h ∧ body d env h { F with nx := forGo grd body F r, ct := forGo grd body F r, bk := F.nx }
def opAug (o : Operator) (x y : D) (h : Hq) (Q : Kq) : Prop :=
  match o, x, y with
  | .Add, .int i, .int j => Q (.int (i + j)) h
  | .Sub, .int i, .int j => Q (.int (i - j)) h
  | _, _, _ => False
mutual
def wS (P : Cl) (c : Csem) : S → Env → Hq → Fin → Prop
  | .asg t e, env, h, F => wE P c e env h (fun d h1 => wG P c t d env h1 F.nx (F.ex env)) (F.ex env)
  | .par i j a b, env, h, F => wE P c a env h (fun x h1 => wE P c b env h1 (fun y h2 => F.nx ((env.set i (some x)).set j (some y)) h2) (F.ex env)) (F.ex env)
  | .aug i o e, env, h, F => match env[i]? with
    | some (some x) => wE P c e env h (fun y h1 => opAug o x y h1 (fun z h2 => F.nx (env.set i (some z)) h2)) (F.ex env)
    | _ => False
  | .expr e, env, h, F => wE P c e env h (fun _ h1 => F.nx env h1) (F.ex env)
  | .ret e, env, h, F => wE P c e env h F.rt (F.ex env)
  | .retN, _, h, F => F.rt .non h
  | .ite e a b, env, h, F => wT P c e env h (fun r h1 => match r with
    | true => wSs P c a env h1 F
    | false => wSs P c b env h1 F) (F.ex env)
  | .for t it b, env, h, F => wI P c it env h (fun ds grd h1 => forGo grd (fun d env' h' F' => wG P c t d env' h' (fun env2 h2 => wSs P c b env2 h2 F') (F.ex env')) F ds env h1) (F.ex env)
  | .while e b, env, h, F => ∃ (J : Env → Hq → Prop) (m : Env → Hq → Nat), J env h ∧ ∀ env h, J env h → wT P c e env h (fun r h1 => match r with
    | true => wSs P c b env h1 { F with nx := fun env' h' => J env' h' ∧ m env' h' < m env h, ct := fun env' h' => J env' h' ∧ m env' h' < m env h, bk := F.nx }
    | false => F.nx env h1) (F.ex env)
  | .brk, env, h, F => F.bk env h
  | .cont, env, h, F => F.ct env h
  | .pass, env, h, F => F.nx env h
  | .nope, _, _, _ => False
def wSs (P : Cl) (c : Csem) : List S → Env → Hq → Fin → Prop
  | [], env, h, F => F.nx env h
  | s :: r, env, h, F => wS P c s env h { F with nx := fun env' h' => wSs P c r env' h' F }
end

/-! ### functions -/
structure Fn where
  ps : List Str
  slots : Nat
  body : List S
abbrev Fns := Str → Option Fn
def startE (n : Nat) (ds : List D) : Env := ds.map some ++ List.replicate (n - ds.length) none
def callW (P : Cl) (fs : Fns) : Nat → Csem
  | 0, _, _, _, _, _ => False
  | d + 1, f, ds, h, Q, X => match fs f with
    | some F => ds.length = F.ps.length ∧ wSs P (callW P fs d) F.body (startE F.slots ds) h ⟨fun _ h' => Q .non h', Q, fun _ _ => False, fun _ _ => False, fun _ x h' => X x h'⟩
    | none => False
end MP
/-! The small Python's values against the layer's; the operators, value by value. -/
namespace MP
open PySem PySem.Spec PyProof.Rows L2

/-! ### values, heaps -/
/-- what stands still of a heap -/
structure Kp (H H' : Hp) : Prop where
  tup : ∀ b xs, H b = some (.tup xs) → H' b = some (.tup xs)
  frz : ∀ b o u, H b = some (.frz o u) → H' b = some (.frz o u)
theorem Kp.refl (H : Hp) : Kp H H := ⟨fun _ _ h => h, fun _ _ _ h => h⟩
theorem Kp.trans {H H1 H2 : Hp} (a : Kp H H1) (b : Kp H1 H2) : Kp H H2 := ⟨fun c x h => b.tup c x (a.tup c x h), fun c o u h => b.frz c o u (a.frz c o u h)⟩
theorem Kp.new {H : Hp} {p : Addr} {o : HO} (n : H p = none) : Kp H (upd H p o) :=
  ⟨fun b xs h => by rw [upd_ne (ne_of_none h n)]; exact h, fun b o u h => by rw [upd_ne (ne_of_none h n)]; exact h⟩
theorem Kp.put {H : Hp} {p : Addr} {o u : HO} (n : H p = some u) (h1 : ∀ xs, u ≠ .tup xs) (h2 : ∀ o v, u ≠ .frz o v) : Kp H (upd H p o) :=
  ⟨fun b xs h => by rw [upd_ne (ne_of h n (fun e => h1 xs e.symm))]; exact h, fun b o v h => by rw [upd_ne (ne_of h n (fun e => h2 o v e.symm))]; exact h⟩
theorem Kp.sqT {K : PySem.W.Frag} {H H' : Hp} {a : Addr} {xs : List V} (k : Kp H H') (h : SqT K H a xs) : SqT K H' a xs := by
  rcases h with (h | ⟨o, h⟩) | h
  · exact .inl (.inl (k.tup _ _ h))
  · exact .inl (.inr ⟨o, k.frz _ _ _ h⟩)
  · exact .inr h
/-- a list that nobody writes: locked, or the module's -/
def Ro (K : PySem.W.Frag) (H : Hp) (a : Addr) (xs : List V) : Prop := (∃ o, H a = some (.frz o (.lst xs))) ∨
  ∃ (o : Obj) (its : Array Value) (n : Nat), K.lookup a = some o ∧ o.cls = .type "list" ∧ o.dict = none ∧ o.data = .seq its n ∧ its.size ≤ sizeLine ∧ Vals xs its.toList
theorem Ro.sq {K : PySem.W.Frag} {H : Hp} {a : Addr} {xs : List V} (h : Ro K H a xs) : SqL K H a xs := by
  rcases h with ⟨o, h⟩ | h
  · exact .inl (.inr ⟨o, h⟩)
  · exact .inr h
theorem Kp.ro {K : PySem.W.Frag} {H H' : Hp} {a : Addr} {xs : List V} (k : Kp H H') (h : Ro K H a xs) : Ro K H' a xs := by
  rcases h with ⟨o, h⟩ | h
  · exact .inl ⟨o, k.frz _ _ _ h⟩
  · exact .inr h
mutual
def RepV (K : PySem.W.Frag) (H : Hp) : D → V → Prop
  | .non, v => v = .non
  | .bl b, v => v = .bl b
  | .int i, v => v = .int i
  | .str s, v => v = .str s
  | .ref a, v => v = .ref a
  | .ty n, v => v = .ty n
  | .glo x, v => v = .ref (He.ga K x)
  | .tup ds, v => ∃ a vs, v = .ref a ∧ SqT K H a vs ∧ RepVs K H ds vs
  | .rol ds, v => ∃ a vs, v = .ref a ∧ Ro K H a vs ∧ RepVs K H ds vs
def RepVs (K : PySem.W.Frag) (H : Hp) : List D → List V → Prop
  | [], vs => vs = []
  | d :: ds, vs => ∃ v r, vs = v :: r ∧ RepV K H d v ∧ RepVs K H ds r
end
section
variable {K : PySem.W.Frag} {H H' : Hp}
mutual
theorem RepV.mono (k : Kp H H') : ∀ {d : D} {v : V}, RepV K H d v → RepV K H' d v
  | .non, _, h => h
  | .bl _, _, h => h
  | .int _, _, h => h
  | .str _, _, h => h
  | .ref _, _, h => h
  | .ty _, _, h => h
  | .glo _, _, h => h
  | .tup ds, v, ⟨a, vs, e, t, r⟩ => ⟨a, vs, e, k.sqT t, RepVs.mono k r⟩
  | .rol ds, v, ⟨a, vs, e, t, r⟩ => ⟨a, vs, e, k.ro t, RepVs.mono k r⟩
theorem RepVs.mono (k : Kp H H') : ∀ {ds : List D} {vs : List V}, RepVs K H ds vs → RepVs K H' ds vs
  | [], _, h => h
  | _ :: _, _, ⟨v, r, e, h, t⟩ => ⟨v, r, e, RepV.mono k h, RepVs.mono k t⟩
end
theorem RepVs.cons {d : D} {v : V} {ds : List D} {vs : List V} (h : RepV K H d v) (t : RepVs K H ds vs) : RepVs K H (d :: ds) (v :: vs) := ⟨v, vs, rfl, h, t⟩
theorem repRef (p : Nat) : RepV K H (.ref p) (.ref p) := rfl
theorem relRef (p : Nat) : RelV (.ref p) (.ref p) := rfl
theorem RepVs.length : ∀ {ds : List D} {vs : List V}, RepVs K H ds vs → vs.length = ds.length
  | [], _, h => by cases h; rfl
  | _ :: ds, _, ⟨v, r, e, h, t⟩ => by subst e; simp [RepVs.length t]
theorem RepVs.get : ∀ {ds : List D} {vs : List V} {i : Nat} {d : D}, RepVs K H ds vs → ds[i]? = some d → ∃ v, vs[i]? = some v ∧ RepV K H d v
  | [], _, _, _, _, h => by simp at h
  | d :: ds, _, 0, x, ⟨v, r, e, h, t⟩, q => by simp at q; subst q; subst e; exact ⟨v, rfl, h⟩
  | d :: ds, _, i + 1, x, ⟨v, r, e, h, t⟩, q => by subst e; simp at q; simpa using RepVs.get t q
theorem RepVs.append : ∀ {ds es : List D} {vs us : List V}, RepVs K H ds vs → RepVs K H es us → RepVs K H (ds ++ es) (vs ++ us)
  | [], _, _, _, h, h' => by cases h; exact h'
  | d :: ds, _, _, _, ⟨v, r, e, h, t⟩, h' => by subst e; exact ⟨v, _, rfl, h, RepVs.append t h'⟩
theorem RepVs.one {d : D} {v : V} (h : RepV K H d v) : RepVs K H [d] [v] := ⟨v, [], rfl, h, rfl⟩
theorem RepVs.snoc {ds : List D} {vs : List V} {d : D} {v : V} (a : RepVs K H ds vs) (h : RepV K H d v) : RepVs K H (ds ++ [d]) (vs ++ [v]) := a.append (.one h)
theorem RepVs.take : ∀ {ds : List D} {vs : List V} (n : Nat), RepVs K H ds vs → RepVs K H (ds.take n) (vs.take n)
  | [], _, n, h => by cases h; simp [RepVs]
  | d :: ds, _, 0, h => by simp [RepVs]
  | d :: ds, _, n + 1, ⟨v, r, e, h, t⟩ => by subst e; exact ⟨v, _, rfl, h, RepVs.take n t⟩
theorem RepVs.drop : ∀ {ds : List D} {vs : List V} (n : Nat), RepVs K H ds vs → RepVs K H (ds.drop n) (vs.drop n)
  | [], _, n, h => by cases h; simp [RepVs]
  | d :: ds, _, 0, h => h
  | d :: ds, _, n + 1, ⟨v, r, e, h, t⟩ => by subst e; exact RepVs.drop n t
theorem RepVs.set : ∀ {ds : List D} {vs : List V} {d : D} {v : V} (n : Nat), RepVs K H ds vs → RepV K H d v → RepVs K H (ds.set n d) (vs.set n v)
  | [], _, _, _, n, h, _ => by cases h; simp [RepVs]
  | d :: ds, _, _, _, 0, ⟨v, r, e, h, t⟩, q => by subst e; exact ⟨_, _, rfl, q, t⟩
  | d :: ds, _, _, _, n + 1, ⟨v, r, e, h, t⟩, q => by subst e; exact ⟨_, _, rfl, h, RepVs.set n t q⟩
theorem RepVs.ints : ∀ {ns : List Int} {vs : List V}, RepVs K H (intsD ns) vs → vs = ns.map V.int
  | [], _, h => h
  | n :: ns, _, ⟨v, r, e, h, t⟩ => by subst e; rw [show v = V.int n from h, RepVs.ints t]; rfl
theorem RepVs.ofInts : ∀ {ns : List Int}, RepVs K H (intsD ns) (ns.map V.int)
  | [] => rfl
  | n :: ns => ⟨_, _, rfl, rfl, RepVs.ofInts⟩
theorem asInts_eq : ∀ {ds : List D} {ns : List Int}, asInts ds = some ns → ds = intsD ns
  | [], _, h => by simp [asInts] at h; subst h; rfl
  | .int i :: r, ns, h => by
    cases q : asInts r with
    | none => simp [asInts, q] at h
    | some ms => simp [asInts, q] at h; subst h; rw [asInts_eq q]; rfl
  | .non :: _, _, h | .bl _ :: _, _, h | .str _ :: _, _, h | .tup _ :: _, _, h | .rol _ :: _, _, h | .ref _ :: _, _, h | .ty _ :: _, _, h | .glo _ :: _, _, h => by simp [asInts] at h
theorem asInts_ints : ∀ ns : List Int, asInts (intsD ns) = some ns
  | [] => rfl
  | n :: ns => by show (asInts (intsD ns)).map _ = _; rw [asInts_ints ns]; rfl
theorem asBls_rep : ∀ {ds : List D} {bs : List Bool} {vs : List V}, asBls ds = some bs → RepVs K H ds vs → vs = bs.map V.bl
  | [], _, _, h, r => by simp [asBls] at h; subst h; exact r
  | .bl b :: r, bs, vs, h, ⟨v, vr, e, h1, t⟩ => by
    cases q : asBls r with
    | none => simp [asBls, q] at h
    | some ms => simp [asBls, q] at h; subst h; subst e; rw [show v = V.bl b from h1, asBls_rep q t]; rfl
  | .non :: _, _, _, h, _ | .int _ :: _, _, _, h, _ | .str _ :: _, _, _, h, _ | .tup _ :: _, _, _, h, _ | .rol _ :: _, _, _, h, _ | .ref _ :: _, _, _, h, _ | .ty _ :: _, _, _, h, _ | .glo _ :: _, _, _, h, _ => by simp [asBls] at h
theorem asStrs_rep : ∀ {ds : List D} {bs : List Str} {vs : List V}, asStrs ds = some bs → RepVs K H ds vs → vs = bs.map V.str
  | [], _, _, h, r => by simp [asStrs] at h; subst h; exact r
  | .str b :: r, bs, vs, h, ⟨v, vr, e, h1, t⟩ => by
    cases q : asStrs r with
    | none => simp [asStrs, q] at h
    | some ms => simp [asStrs, q] at h; subst h; subst e; rw [show v = V.str b from h1, asStrs_rep q t]; rfl
  | .non :: _, _, _, h, _ | .int _ :: _, _, _, h, _ | .bl _ :: _, _, _, h, _ | .tup _ :: _, _, _, h, _ | .rol _ :: _, _, _, h, _ | .ref _ :: _, _, _, h, _ | .ty _ :: _, _, _, h, _ | .glo _ :: _, _, _, h, _ => by simp [asStrs] at h
theorem RepVs.ofStrs : ∀ {ns : List Str}, RepVs K H (ns.map D.str) (ns.map V.str)
  | [] => rfl
  | n :: ns => ⟨_, _, rfl, rfl, RepVs.ofStrs⟩

/-- an instance's fields -/
def RepF (K : PySem.W.Frag) (H : Hp) : List (Str × D) → List (Str × V) → Prop
  | [], vs => vs = []
  | (f, d) :: r, vs => ∃ v q, vs = (f, v) :: q ∧ RepV K H d v ∧ RepF K H r q
theorem RepF.mono (k : Kp H H') : ∀ {fs : List (Str × D)} {vs : List (Str × V)}, RepF K H fs vs → RepF K H' fs vs
  | [], _, h => h
  | (f, d) :: r, _, ⟨v, q, e, h, t⟩ => ⟨v, q, e, h.mono k, RepF.mono k t⟩
theorem RepF.lookup : ∀ {fs : List (Str × D)} {vs : List (Str × V)} {f : Str} {d : D}, RepF K H fs vs → fs.lookup f = some d → ∃ v, vs.lookup f = some v ∧ RepV K H d v
  | [], _, _, _, _, h => by simp at h
  | (g, x) :: r, _, f, d, ⟨v, q, e, h, t⟩, l => by
    subst e
    cases z : (f == g) with
    | true => simp only [List.lookup_cons, z] at l ⊢; cases l; exact ⟨v, rfl, h⟩
    | false => simp only [List.lookup_cons, z] at l ⊢; exact RepF.lookup t l
theorem RepF.lookup_none : ∀ {fs : List (Str × D)} {vs : List (Str × V)} {f : Str}, RepF K H fs vs → fs.lookup f = none → vs.lookup f = none
  | [], _, _, h, _ => by cases h; rfl
  | (g, x) :: r, _, f, ⟨v, q, e, h, t⟩, l => by
    subst e
    cases z : (f == g) with
    | true => simp only [List.lookup_cons, z] at l; cases l
    | false => simp only [List.lookup_cons, z] at l ⊢; exact RepF.lookup_none t l
theorem RepF.length : ∀ {fs : List (Str × D)} {vs : List (Str × V)}, RepF K H fs vs → vs.length = fs.length
  | [], _, h => by cases h; rfl
  | (g, x) :: r, _, ⟨v, q, e, h, t⟩ => by subst e; simp [RepF.length t]
theorem putF_nil (f : Str) (v : V) : L2.putF f v [] = [(f, v)] := rfl
theorem RepF.put {f : Str} {d : D} {v : V} (h0 : RepV K H d v) : ∀ {fs : List (Str × D)} {vs : List (Str × V)}, RepF K H fs vs → RepF K H (putF f d fs) (L2.putF f v vs)
  | [], _, h => by cases h; exact ⟨_, _, rfl, h0, rfl⟩
  | (g, x) :: r, _, ⟨w, q, e, h, t⟩ => by
    subst e
    unfold putF L2.putF
    by_cases z : g = f
    · rw [if_pos z, if_pos z]; subst z; exact ⟨_, _, rfl, h0, t⟩
    · rw [if_neg z, if_neg z]; exact ⟨_, _, rfl, h, RepF.put h0 t⟩

def RepO (K : PySem.W.Frag) (H : Hp) (a : Addr) : O → Prop
  | .lst ds => ∃ vs, H a = some (.lst vs) ∧ RepVs K H ds vs
  | .ins C fs => ∃ dx vs, H a = some (.ins (He.ga K C) dx vs) ∧ RepF K H fs vs
  | .dct _ => False
  | .set _ => False
/-- the small heap is a part of the layer's -/
def Sim (K : PySem.W.Frag) (h : Hq) (H : Hp) : Prop := ∀ a o, h a = some o → RepO K H a o
theorem RepO.keep {a : Addr} {o : O} (k : Kp H H') (e : H' a = H a) (r : RepO K H a o) : RepO K H' a o := by
  cases o with
  | lst ds => obtain ⟨vs, q, t⟩ := r; exact ⟨vs, e.trans q, t.mono k⟩
  | ins C fs => obtain ⟨dx, vs, q, t⟩ := r; exact ⟨dx, vs, e.trans q, t.mono k⟩
  | dct _ => exact r
  | set _ => exact r
theorem Sim.free {h : Hq} (s : Sim K h H) {p : Addr} (n : H p = none) : h p = none := by
  cases e : h p with
  | none => rfl
  | some o =>
    have r := s p o e
    cases o with
    | lst ds => obtain ⟨vs, q, _⟩ := r; rw [n] at q; cases q
    | ins C fs => obtain ⟨dx, vs, q, _⟩ := r; rw [n] at q; cases q
    | dct _ => exact r.elim
    | set _ => exact r.elim
theorem Sim.upd {h : Hq} {p : Addr} {o : O} {u : HO} (s : Sim K h H) (k : Kp H (upd H p u)) (r : RepO K (upd H p u) p o) : Sim K (hset h p o) (upd H p u) := fun a x e => by
  by_cases q : a = p
  · subst q; rw [hset_same] at e; cases e; exact r
  · rw [hset_ne q] at e; exact (s a x e).keep k (upd_ne q)
/-- something that the small heap does not see -/
theorem Sim.hid {h : Hq} {p : Addr} {u : HO} (s : Sim K h H) (n : H p = none) : Sim K h (L2.upd H p u) := fun a x e => by
  have q : a ≠ p := fun z => by rw [z, s.free n] at e; cases e
  exact (s a x e).keep (.new n) (upd_ne q)
theorem Sim.lst {h : Hq} (s : Sim K h H) {a : Addr} {ds : List D} (e : h a = some (.lst ds)) : ∃ vs, H a = some (.lst vs) ∧ RepVs K H ds vs := s a _ e
theorem Sim.ins {h : Hq} (s : Sim K h H) {a : Addr} {C : Str} {fs : List (Str × D)} (e : h a = some (.ins C fs)) : ∃ dx vs, H a = some (.ins (He.ga K C) dx vs) ∧ RepF K H fs vs := s a _ e
theorem Sim.newL {h : Hq} (s : Sim K h H) {p : Addr} {ds : List D} {vs : List V} (n : H p = none) (r : RepVs K H ds vs) : Sim K (hset h p (.lst ds)) (L2.upd H p (.lst vs)) :=
  s.upd (.new n) ⟨vs, upd_same, r.mono (.new n)⟩
theorem Kp.lst {p : Addr} {vs ws : List V} (n : H p = some (.lst vs)) : Kp H (L2.upd H p (.lst ws)) := .put n (fun _ e => by cases e) (fun _ _ e => by cases e)
theorem Sim.putL {h : Hq} (s : Sim K h H) {p : Addr} {ds : List D} {vs ws : List V} (n : H p = some (.lst vs)) (r : RepVs K H ds ws) : Sim K (hset h p (.lst ds)) (L2.upd H p (.lst ws)) :=
  s.upd (.lst n) ⟨ws, upd_same, r.mono (.lst n)⟩
/-- a new tuple -/
theorem RepV.tup {p : Addr} {ds : List D} {vs : List V} (n : H p = none) (r : RepVs K H ds vs) : RepV K (L2.upd H p (.tup vs)) (.tup ds) (.ref p) :=
  ⟨p, vs, rfl, .inl (.inl upd_same), r.mono (.new n)⟩

/-! ### data -/
mutual
theorem Pd.dp {h : Hq} (s : Sim K h H) : ∀ {x : PyData} {d : D} {v : V}, Pd h x d → RepV K H d v → Dp K H v x
  | .none, _, _, e, r => by cases e; cases r; exact .non
  | .bool b, _, _, e, r => by cases e; cases r; exact .bl b
  | .int b, _, _, e, r => by cases e; cases r; exact .int b
  | .str b, _, _, e, r => by cases e; cases r; exact .str b
  | .tuple es, _, _, ⟨ds, e, p⟩, r => by subst e; obtain ⟨a, vs, rfl, t, q⟩ := r; exact .tup t (Pds.dp s p q)
  | .list es, _, _, .inl ⟨a, ds, e, q, p⟩, r => by
    subst e
    obtain ⟨vs, e1, r1⟩ := s.lst q
    cases (show _ = V.ref a from r)
    exact .lst (.inl (.inl e1)) (Pds.dp s p r1)
  | .list es, _, _, .inr ⟨ds, e, p⟩, r => by subst e; obtain ⟨a, vs, rfl, t, q⟩ := r; exact .lst t.sq (Pds.dp s p q)
  | .dict _, _, _, e, _ => e.elim
theorem Pds.dp {h : Hq} (s : Sim K h H) : ∀ {xs : List PyData} {ds : List D} {vs : List V}, Pds h xs ds → RepVs K H ds vs → DpAll K H vs xs
  | [], _, _, e, r => by cases e; cases r; exact .nil
  | x :: xs, _, _, ⟨d, r, e, p, q⟩, t => by subst e; obtain ⟨v, w, rfl, h1, h2⟩ := t; exact .cons (Pd.dp s p h1) (Pds.dp s q h2)
end
theorem RepV.flat : ∀ {d : D} {v : V}, RepV K H d v → flatD d = true → flatV v = true
  | .non, _, h, _ => by cases h; rfl
  | .bl _, _, h, _ => by cases h; rfl
  | .int _, _, h, _ => by cases h; rfl
  | .str _, _, h, _ => by cases h; rfl
  | .tup _, _, _, e | .rol _, _, _, e | .ref _, _, _, e | .ty _, _, _, e | .glo _, _, _, e => by cases e
theorem RepVs.flat : ∀ {ds : List D} {vs : List V}, RepVs K H ds vs → ds.all flatD = true → vs.all flatV = true
  | [], _, h, _ => by cases h; rfl
  | d :: ds, _, ⟨v, r, e, h, t⟩, q => by
    subst e
    rw [List.all_cons, Bool.and_eq_true] at q
    rw [List.all_cons, h.flat q.1, RepVs.flat t q.2]; rfl
theorem RepV.eqV {d e : D} {v u : V} (h : RepV K H d v) (h' : RepV K H e u) (f : flatD d = true) (f' : flatD e = true) : L2.eqV v u = eqD d e := by
  cases d <;> first | cases f | skip
  all_goals (cases e <;> first | cases f' | skip)
  all_goals (cases h; cases h'; first | rfl | (simp [L2.eqV, eqD]))
theorem RepVs.inV : ∀ {ds : List D} {vs : List V} {d : D} {v : V}, RepVs K H ds vs → RepV K H d v → ds.all flatD = true → flatD d = true → L2.inV v vs = ds.any fun x => eqD x d
  | [], _, _, _, h, _, _, _ => by cases h; rfl
  | x :: ds, _, d, v, ⟨w, r, e, h, t⟩, q, f, f' => by
    subst e
    rw [List.all_cons, Bool.and_eq_true] at f
    have ih := RepVs.inV t q f.2 f'
    unfold L2.inV at ih ⊢
    rw [List.any_cons, List.any_cons, ih, h.eqV q f.1 f']
end

/-! ### behind an expression -/
/-- K is what the small evaluator wants; v, H' what came -/
def Got (K : PySem.W.Frag) (H : Hp) (k : Kq) : VK := fun v H' => ∃ d h', Kp H H' ∧ Sim K h' H' ∧ RepV K H' d v ∧ k d h'
theorem Got.from {K : PySem.W.Frag} {H H1 : Hp} {k : Kq} (q : Kp H H1) {v : V} {H' : Hp} (g : Got K H1 k v H') : Got K H k v H' := by
  obtain ⟨d, h', a, b, c, e⟩ := g
  exact ⟨d, h', q.trans a, b, c, e⟩
theorem Got.flat {K : PySem.W.Frag} {H : Hp} {h : Hq} {k : Kq} {d : D} {v : V} (s : Sim K h H) (r : RepV K H d v) (q : k d h) : Got K H k v H := ⟨d, h, .refl H, s, r, q⟩
section
variable {K : PySem.W.Frag} {H : Hp} {h : Hq} {k : Kq}
theorem Got.int {i : Int} (s : Sim K h H) (q : k (.int i) h) : Got K H k (.int i) H := ⟨.int i, h, .refl H, s, rfl, q⟩
theorem Got.bl {i : Bool} (s : Sim K h H) (q : k (.bl i) h) : Got K H k (.bl i) H := ⟨.bl i, h, .refl H, s, rfl, q⟩
theorem Got.str {i : Str} (s : Sim K h H) (q : k (.str i) h) : Got K H k (.str i) H := ⟨.str i, h, .refl H, s, rfl, q⟩
theorem Got.non (s : Sim K h H) (q : k .non h) : Got K H k .non H := ⟨.non, h, .refl H, s, rfl, q⟩
end
theorem Got.newL {K : PySem.W.Frag} {H : Hp} {h : Hq} {k : Kq} {ds : List D} {vs : List V} (s : Sim K h H) (r : RepVs K H ds vs) (q : ∀ p, h p = none → k (.ref p) (hset h p (.lst ds))) {p : Addr} (n : H p = none) :
    Got K H k (.ref p) (upd H p (.lst vs)) := ⟨.ref p, _, .new n, s.newL n r, rfl, q p (s.free n)⟩
theorem Got.newT {K : PySem.W.Frag} {H : Hp} {h : Hq} {k : Kq} {ds : List D} {vs : List V} (s : Sim K h H) (r : RepVs K H ds vs) (q : k (.tup ds) h) {p : Addr} (n : H p = none) :
    Got K H k (.ref p) (upd H p (.tup vs)) := ⟨.tup ds, h, .new n, s.hid n, .tup n r, q⟩
end MP
/-! The small Python's operators against the model's. -/
namespace MP
open PySem PySem.Spec PyProof.Rows L2 ClX

/-- the text's own data: what its classes are, its functions, where they stand -/
structure Wc where
  P : Cl
  path : Str → Str × Option Str
  /-- names of built-ins that no module's name hides -/
  free : Str → Bool
  /-- the functions that there are -/
  has : Str → Bool
structure Wd extends Wc where
  fs : Fns
def lev (d : Nat) : Nat := 2 * d + 2
abbrev Wd.ad (W : Wd) (K : PySem.W.Frag) (k : Str) : Addr := He.fAd K (W.path k)
/-- an exception of an own class -/
def XRep (K : PySem.W.Frag) (H : Hp) (x : Exn) (cls : Value) (d : Option Addr) : Prop :=
  cls = .ref (He.ga K x.cls) ∧ ∃ dd vs, d = some dd ∧ H dd = some (.xd vs) ∧ RepF K H x.fs vs
/-- what a function promises: the small evaluator's word of it -/
def spF (K : PySem.W.Frag) (W : Wd) (d : Nat) (key : Str) : Sp := fun vs H Q E => ∃ (ds : List D) (h : Hq) (k : Kq) (EX : Xq), RepVs K H ds vs ∧ Sim K h H ∧ callW W.P W.fs d key ds h k EX ∧
  (∀ v H', Got K H k v H' → Q v H') ∧ ∀ x h' cls dd H', EX x h' → Kp H H' → Sim K h' H' → XRep K H' x cls dd → E cls dd H'
/-- isinstance may be asked of its instances -/
structure ClsI (K : PySem.W.Frag) (C : Addr) : Prop where
  cl : Cls K C
  ha : PySem.W.findIn K (.ref C) "__class__" = some (some (.builtin "object.__class__"))
  hn : PySem.W.specialIn K (.builtin "object.__class__") "__get__" = some (some (.builtin "getset_descriptor.__get__"))
  htk : PySem.W.takesIn K (.builtin "object.__class__") = some true
  hm : PySem.W.mroIn K C (.type "object") = some true
/-- what of the text is true of the written part -/
structure St (K : PySem.W.Frag) (mg : Str → Option Value) (W : Wd) : Prop where
  /-- the methods -/
  meth : ∀ C m k, W.P.meth C m = some (k, 0) → Meth K (He.ga K C) m (W.ad K k)
  cls : ∀ C m k i, W.P.meth C m = some (k, i) → Cls K (He.ga K C)
  clsF : ∀ C f, W.P.fld C f = true → Cls K (He.ga K C) ∧ NoAttr K (He.ga K C) f
  sub : ∀ C C' b, W.P.sub C' C = some b → PySem.W.subIn K (.ref (He.ga K C')) (.ref (He.ga K C)) = some b ∧ PySem.W.kitOne K (.ref (He.ga K C')) (.ref (He.ga K C)) = some b ∧ ClsI K (He.ga K C')
  subB : ∀ a C b, W.P.subB a C = some b → PySem.W.kitOne K (.type a.name) (.ref (He.ga K C)) = some b
  subT : ∀ C a b, W.P.subT C a = some b → PySem.W.kitOne K (.ref (He.ga K C)) (.type a.name) = some b ∧ ClsI K (He.ga K C)
  self : ∀ C m k i, W.P.meth C m = some (k, i) → PySem.W.selfFirst K (He.ga K C) = true
  glob : ∀ x d, W.P.glob x = some d → ∃ u v, mg x = some u ∧ RelV v u ∧ ∀ H, RepV K H d v
  prop : ∀ C m k, W.P.meth C m = some (k, 1) → ∃ p, Cls K (He.ga K C) ∧ PropOf K (He.ga K C) m p (W.ad K k)
  con : ∀ C f d, W.P.con C f = some d → ∃ mc v u, CRead K (He.ga K C) mc ∧ CVal K (He.ga K C) mc f v u ∧ ∀ H, RepV K H d v
  made : ∀ C k, W.P.make C = some k → mg C = some (.ref (He.ga K C)) ∧ Mk K (He.ga K C) (W.ad K k)
  fnm : ∀ k F, W.fs k = some F → (W.path k).2 = none → W.path k = (k, none) ∧ mg k = some (.ref (He.ga K k))
  free : ∀ x, W.free x = true → mg x = none
  kp : ∀ k F, W.fs k = some F → PySem.W.keepIn K (.ref (W.ad K k)) = true
/-- a body that runs, d calls deep at most -/
structure Lv (X : Cx) (W : Wd) (d : Nat) : Prop where
  st : St X.K X.mg W
  fn : ∀ k F, W.fs k = some F → ∃ fd, FnOk X.prog X.w X.K X.mg X.base (L2.CX X.prog X.w) (lev d) (W.ad X.K k) fd F.ps (spF X.K W d k) ∧ Binds X.K fd F.ps []
  has : ∀ k, W.has k = true → (W.fs k).isSome = true
  room : Room (lev d + 1) X.A
  calm : X.calm = true
  nd : X.N.Nodup
/-- where an exception goes -/
def XOk (X : Cx) (σ : L2.St) (H : Hp) (EX : Xq) : Prop :=
  ∃ WW : WX, Takes X WW ∧ ∀ x h' cls dd H', EX x h' → Kp H H' → Sim X.K h' H' → XRep X.K H' x cls dd → WW cls dd σ H'
theorem XOk.mono {X : Cx} {σ : L2.St} {H H' : Hp} {EX : Xq} (k : Kp H H') (x : XOk X σ H EX) : XOk X σ H' EX := by
  obtain ⟨WW, tk, h⟩ := x
  exact ⟨WW, tk, fun a b c e f g i => h a b c e f g (k.trans i)⟩
theorem XOk.no {X : Cx} {σ : L2.St} {H : Hp} : XOk X σ H (fun _ _ => False) := ⟨fun _ _ _ _ => False, L2.takes0, fun _ _ _ _ _ h => h.elim⟩

section
variable {X : Cx} {W : Wd} {d : Nat} {pins : List (Addr × Obj)} {s : Shared} {σ : L2.St} {H : Hp} {h : Hq} {k : Kq} {EX : Xq} {x y : D} {v u : V} {a b : Value}
/-- a function of the text runs -/
theorem fn_call {key : Str} {ds : List D} {vs : List V} {us : List Value} (L : Lv X W d) (I : Inv X pins σ H s) (S : Sim X.K h H) (r : RepVs X.K H ds vs) (ru : Vals vs us) (hx : XOk X σ H EX)
    (hw : callW W.P W.fs d key ds h k EX) (hf : ∃ F, W.fs key = some F) : wpAny (model X.prog X.w) X.A (call (.ref (W.ad X.K key)) us) (EP X pins σ (Got X.K H k)) X.xe s := by
  obtain ⟨F, eF⟩ := hf
  obtain ⟨fd, ok, bd⟩ := L.fn key F eF
  obtain ⟨WW, tk, hX⟩ := hx
  exact run_fnS (E := WE WW) ok (L.room.mono (Nat.le_succ _)) bd (passAt tk σ) I ru ⟨ds, h, k, EX, r, S, hw, fun _ _ g => g, fun x h' cls dd H' e kp sm xr => hX x h' cls dd H' e kp sm xr⟩
theorem callW_fn {P : Cl} {fs : Fns} {d : Nat} {key : Str} {ds : List D} {h : Hq} {k : Kq} {EX : Xq} (hw : callW P fs d key ds h k EX) : ∃ F, fs key = some F := by
  cases d with
  | zero => exact (show False from hw).elim
  | succ d =>
    unfold callW at hw
    cases e : fs key with
    | none => rw [e] at hw; exact hw.elim
    | some F => exact ⟨F, rfl⟩
theorem fn_run {key : Str} {ds : List D} {vs : List V} {us : List Value} (L : Lv X W d) (I : Inv X pins σ H s) (S : Sim X.K h H) (r : RepVs X.K H ds vs) (ru : Vals vs us) (hx : XOk X σ H EX)
    (hw : callW W.P W.fs d key ds h k EX) : wpAny (model X.prog X.w) X.A (call (.ref (W.ad X.K key)) us) (EP X pins σ (Got X.K H k)) X.xe s := fn_call L I S r ru hx hw (callW_fn hw)

/-! ### operators -/
theorem ins_at {C : Str} {fs : List (Str × D)} {p : Addr} (I : Inv X pins σ H s) (S : Sim X.K h H) (e : h p = some (.ins C fs)) :
    ∃ dx vs od, H p = some (.ins (He.ga X.K C) dx vs) ∧ RepF X.K H fs vs ∧ PySem.W.InstAt s.heap p (PySem.W.instObj (He.ga X.K C) dx) (He.ga X.K C) (some od) := by
  obtain ⟨dx, vs, e1, r⟩ := S.ins e
  obtain ⟨mA, O, _⟩ := ins_get I.hok e1
  obtain ⟨od, J, _⟩ := O.look
  exact ⟨dx, vs, od, e1, r, J⟩
theorem nf_ty {K : PySem.W.Frag} {C : Addr} {T : String} (h : T = "int" ∨ T = "str" ∨ T = "bool" ∨ T = "NoneType" ∨ T = "tuple" ∨ T = "list") : PySem.W.notFirst K C (.type T) = true := by
  rcases h with e | e | e | e | e | e <;> subst e <;> kernel_rfl
/-- what stands on the right of a comparison with an instance -/
theorem cmp_right {C : Str} (L : Lv X W d) (I : Inv X pins σ H s) (S : Sim X.K h H) (ry : RepV X.K H y u) (rb : RelV u b) (hc : cmpOk W.P C y h) :
    ∃ tb, PySem.W.Looks (model X.prog X.w) s.heap (typeOf b) tb ∧ PySem.W.notFirst X.K (He.ga X.K C) tb = true := by
  cases y with
  | non => cases ry; cases rb; exact ⟨_, .of_pure rfl, nf_ty (by simp)⟩
  | bl _ => cases ry; cases rb; exact ⟨_, .of_pure rfl, nf_ty (by simp)⟩
  | int _ => cases ry; obtain ⟨t, rfl⟩ := rb; exact ⟨_, .of_pure rfl, nf_ty (by simp)⟩
  | str _ => cases ry; obtain ⟨t, rfl⟩ := rb; exact ⟨_, .of_pure rfl, nf_ty (by simp)⟩
  | tup ds =>
    obtain ⟨p, vs, rfl, t, r⟩ := ry
    cases rb
    obtain ⟨its, r1, ⟨o, ho, hcl, _⟩, _⟩ := I.tuple t
    exact ⟨_, fun A Q E s kp q => wpAny_typeOf_ref (kp _ _ ho) (by rw [hcl]; exact q), nf_ty (by simp)⟩
  | rol ds =>
    obtain ⟨p, vs, rfl, t, r⟩ := ry
    cases rb
    obtain ⟨its, r1, ⟨o, n, ho, hcl, _⟩, _⟩ := I.list t.sq
    exact ⟨_, fun A Q E s kp q => wpAny_typeOf_ref (kp _ _ ho) (by rw [hcl]; exact q), nf_ty (by simp)⟩
  | ref p =>
    cases ry; cases rb
    have hc : (match h p with
      | some (.ins C' _) => C' = C ∨ W.P.sub C' C = some false
      | some (.lst _) => True
      | _ => False) := hc
    split at hc
    · rename_i C' fs e
      obtain ⟨dx, vs, od, _, _, J⟩ := ins_at I S e
      refine ⟨_, J.type, ?_⟩
      rcases hc with e1 | e1
      · subst e1
        unfold PySem.W.notFirst
        rw [show (Value.ref (He.ga X.K C') == Value.ref (He.ga X.K C')) = true from beq_self_eq_true _]; rfl
      · unfold PySem.W.notFirst
        rw [(L.st.sub _ _ _ e1).1]
        exact Bool.or_true _
    · rename_i ds e
      obtain ⟨vs, e1, r1⟩ := S.lst e
      obtain ⟨its, r2, ⟨o, n, ho, hcl, _⟩, _⟩ := I.list (.of e1)
      exact ⟨_, fun A Q E s kp q => wpAny_typeOf_ref (kp _ _ ho) (by rw [hcl]; exact q), nf_ty (by simp)⟩
    · exact hc.elim
  | ty _ => exact hc.elim
  | glo _ => exact hc.elim
theorem relV_ne {v : V} {u : Value} (r : RelV v u) : u ≠ .notImplemented := by
  intro e; subst e
  cases v <;> first | (obtain ⟨t, q⟩ := r; cases q) | cases r
theorem cmpBack {Q : Value → Shared → Prop} {u : Value} {s' : Shared} (n : u ≠ .notImplemented) (q : Q u s') : PySem.W.CmpBack Q u s' := by
  cases u <;> first | exact absurd rfl n | exact q
theorem back_ep {Q : VK} {u : Value} {s' : Shared} (g : EP X pins σ Q u s') : PySem.W.CmpBack (EP X pins σ Q) u s' := by
  obtain ⟨v, H', I', r, q⟩ := id g
  exact cmpBack (relV_ne r) g
theorem Lv.units (L : Lv X W d) : X.A.units < cLine := L.room.units0
/-- a comparison by an own class -/
theorem own_cmp {op : CmpOp} {m : Str} (hm : (cmpInfo op).2.1 = m) (L : Lv X W d) (I : Inv X pins σ H s) (S : Sim X.K h H) (rx : RepV X.K H x v) (ry : RepV X.K H y u) (ra : RelV v a) (rb : RelV u b) (hx : XOk X σ H EX)
    (hw : opOwn W.P (callW W.P W.fs d) m x y h k EX) : wpAny (model X.prog X.w) X.A (richCompare op a b) (EP X pins σ (Got X.K H k)) X.xe s := by
  unfold opOwn at hw
  split at hw
  · rename_i p
    split at hw
    · rename_i C fs e
      split at hw
      · rename_i key e1
        cases rx; cases ra
        obtain ⟨dx, vs, od, e2, r2, J⟩ := ins_at I S e
        obtain ⟨tb, lk, nf⟩ := cmp_right (C := C) L I S ry rb hw.1
        have M := L.st.meth _ _ _ e1
        obtain ⟨mf, fr⟩ := I.fr
        refine PySem.W.cmp_K L.units fr I.ok.mod.kin J lk nf (by rw [hm]; exact M.at_) M.fn (thn ?_ fun _ _ g => back_ep g)
        exact fn_run L I S (.cons (repRef p) (.one ry)) (.cons (relRef p) (.cons rb .nil)) hx hw.2
      · exact hw.elim
    · exact hw.elim
  · exact hw.elim
/-- an operator of an own class -/
theorem own_bin {op : Operator} {m : Str} (hm : PySem.dunder op.info.2 = m) (L : Lv X W d) (I : Inv X pins σ H s) (S : Sim X.K h H) (rx : RepV X.K H x v) (ry : RepV X.K H y u) (ra : RelV v a) (rb : RelV u b) (hx : XOk X σ H EX)
    (hw : opOwnB W.P (callW W.P W.fs d) m x y h k EX) : wpAny (model X.prog X.w) X.A (binaryOp op a b) (EP X pins σ (Got X.K H k)) X.xe s := by
  unfold opOwnB at hw
  split at hw
  · rename_i p q
    split at hw
    · rename_i C fs C' fs' e e'
      split at hw
      · rename_i key e1
        obtain ⟨hC, hw⟩ := hw
        subst hC
        cases rx; cases ra; cases ry; cases rb
        obtain ⟨dx, vs, od, e2, r2, J⟩ := ins_at I S e
        obtain ⟨dx', vs', od', e2', r2', J'⟩ := ins_at I S e'
        have M := L.st.meth _ _ _ e1
        obtain ⟨mf, fr⟩ := I.fr
        refine PySem.W.binop_K fr I.ok.mod.kin J J'.type (L.st.self _ _ _ _ e1) (by rw [hm]; exact M.at_) M.fn (thn ?_ fun _ _ g => back_ep g)
        exact fn_run L I S (.cons (repRef p) (.one (repRef q))) (.cons (relRef p) (.cons (relRef q) .nil)) hx hw
      · exact hw.elim
    · exact hw.elim
  · exact hw.elim
theorem add_ok (L : Lv X W d) (I : Inv X pins σ H s) (S : Sim X.K h H) (rx : RepV X.K H x v) (ry : RepV X.K H y u) (ra : RelV v a) (rb : RelV u b) (hx : XOk X σ H EX)
    (hw : opAdd W.P (callW W.P W.fs d) x y h k EX) : wpAny (model X.prog X.w) X.A (binaryOp .Add a b) (EP X pins σ (Got X.K H k)) X.xe s := by
  unfold opAdd at hw
  split at hw
  · cases rx; cases ry
    exact op_add pins s σ H _ _ _ _ _ I ra rb ⟨_, _, rfl, rfl, .int S hw⟩
  · cases rx; cases ry
    exact op_add_str pins s σ H _ _ _ _ _ I ra rb ⟨_, _, rfl, rfl, hw.1, .str S hw.2⟩
  · rename_i xs ys
    obtain ⟨p, vs, rfl, t1, r1⟩ := rx
    obtain ⟨q, us, rfl, t2, r2⟩ := ry
    refine op_catA pins s σ H _ _ _ _ _ I ra rb ⟨p, q, vs, us, rfl, rfl, t1, t2, by rw [r1.length, r2.length]; exact hw.1, fun e => ?_, fun _ e => ?_, fun _ _ m n => .newT S (r1.append r2) hw.2 n⟩
    · subst e
      have e1 : xs = [] := List.eq_nil_of_length_eq_zero (by rw [← r1.length]; rfl)
      subst e1
      exact .flat (d := .tup ys) S ⟨q, us, rfl, t2, r2⟩ hw.2
    · subst e
      have e1 : ys = [] := List.eq_nil_of_length_eq_zero (by rw [← r2.length]; rfl)
      subst e1
      exact .flat (d := .tup xs) S ⟨p, vs, rfl, t1, r1⟩ (by simpa using hw.2)
  · rename_i p q
    cases rx; cases ry
    split at hw
    · rename_i xs e1
      split at hw
      · rename_i ys e2
        obtain ⟨vs, f1, r1⟩ := S.lst e1
        obtain ⟨us, f2, r2⟩ := S.lst e2
        exact op_cat pins s σ H _ _ _ _ _ I ra rb ⟨p, q, vs, us, rfl, rfl, f1, f2, by rw [r1.length, r2.length]; exact hw.1, fun m n => .newL S (r1.append r2) hw.2 n⟩
      · exact hw.elim
    · rename_i C fs e1
      exact own_bin (op := .Add) rfl L I S (repRef p) (repRef q) ra rb hx hw
    · exact hw.elim
  · exact hw.elim
end
end MP
/-! The small Python's operators against the model's: the rest of them. -/
namespace MP
open PySem PySem.Spec PyProof.Rows L2
section
variable {X : Cx} {W : Wd} {d : Nat} {pins : List (Addr × Obj)} {s : Shared} {σ : L2.St} {H : Hp} {h : Hq} {k : Kq} {EX : Xq} {x y : D} {v u : V} {a b : Value}
theorem sub_ok (L : Lv X W d) (I : Inv X pins σ H s) (S : Sim X.K h H) (rx : RepV X.K H x v) (ry : RepV X.K H y u) (ra : RelV v a) (rb : RelV u b) (hx : XOk X σ H EX)
    (hw : opSub W.P (callW W.P W.fs d) x y h k EX) : wpAny (model X.prog X.w) X.A (binaryOp .Sub a b) (EP X pins σ (Got X.K H k)) X.xe s := by
  unfold opSub at hw
  split at hw
  · cases rx; cases ry
    exact op_sub pins s σ H _ _ _ _ _ I ra rb ⟨_, _, rfl, rfl, .int S hw⟩
  · exact own_bin (op := .Sub) rfl L I S rx ry ra rb hx hw
  · exact hw.elim
theorem log2_lt {i : Int} {n : Nat} (h : i.natAbs < 2 ^ n) : i.natAbs.log2 ≤ n := by
  by_cases e : i.natAbs = 0
  · rw [e]; simp
  · exact Nat.le_of_lt ((Nat.log2_lt e).mpr h)
theorem mul_ok (I : Inv X pins σ H s) (S : Sim X.K h H) (rx : RepV X.K H x v) (ry : RepV X.K H y u) (ra : RelV v a) (rb : RelV u b)
    (hw : opMul x y h k) : wpAny (model X.prog X.w) X.A (binaryOp .Mult a b) (EP X pins σ (Got X.K H k)) X.xe s := by
  unfold opMul at hw
  split at hw
  · cases rx; cases ry
    obtain ⟨c, q⟩ := hw
    rcases c with c | c | ⟨n, m, c1, c2, c3⟩
    · exact op_mul pins s σ H _ _ _ _ _ I ra rb ⟨_, _, rfl, rfl, .inl c, .int S q⟩
    · exact op_mul pins s σ H _ _ _ _ _ I ra rb ⟨_, _, rfl, rfl, .inr c, .int S q⟩
    · refine op_mulW pins s σ H _ _ _ _ _ I ra rb ⟨_, _, rfl, rfl, ?_, .int S q⟩
      have h1 := log2_lt c1
      have h2 := log2_lt c2
      show _ + _ < 1000000
      omega
  · exact hw.elim
theorem fdiv_ok (I : Inv X pins σ H s) (S : Sim X.K h H) (rx : RepV X.K H x v) (ry : RepV X.K H y u) (ra : RelV v a) (rb : RelV u b)
    (hw : opFdiv x y h k) : wpAny (model X.prog X.w) X.A (binaryOp .FloorDiv a b) (EP X pins σ (Got X.K H k)) X.xe s := by
  unfold opFdiv at hw
  split at hw
  · cases rx; cases ry
    exact op_fdiv pins s σ H _ _ _ _ _ I ra rb ⟨_, _, rfl, rfl, hw.1, .int S hw.2⟩
  · exact hw.elim
theorem mod_ok (I : Inv X pins σ H s) (S : Sim X.K h H) (rx : RepV X.K H x v) (ry : RepV X.K H y u) (ra : RelV v a) (rb : RelV u b)
    (hw : opMod x y h k) : wpAny (model X.prog X.w) X.A (binaryOp .Mod a b) (EP X pins σ (Got X.K H k)) X.xe s := by
  unfold opMod at hw
  split at hw
  · cases rx; cases ry
    exact op_mod pins s σ H _ _ _ _ _ I ra rb ⟨_, _, rfl, rfl, hw.1, .int S hw.2⟩
  · exact hw.elim
theorem pow_ok (I : Inv X pins σ H s) (S : Sim X.K h H) (rx : RepV X.K H x v) (ry : RepV X.K H y u) (ra : RelV v a) (rb : RelV u b)
    (hw : opPow x y h k) : wpAny (model X.prog X.w) X.A (binaryOp .Pow a b) (EP X pins σ (Got X.K H k)) X.xe s := by
  unfold opPow at hw
  split at hw
  · cases rx; cases ry
    exact op_pow pins s σ H _ _ _ _ _ I ra rb ⟨_, _, rfl, rfl, hw.1, .int S hw.2⟩
  · exact hw.elim
theorem bin_ok {o : Operator} (L : Lv X W d) (I : Inv X pins σ H s) (S : Sim X.K h H) (rx : RepV X.K H x v) (ry : RepV X.K H y u) (ra : RelV v a) (rb : RelV u b) (hx : XOk X σ H EX)
    (hw : opBin W.P (callW W.P W.fs d) o x y h k EX) : wpAny (model X.prog X.w) X.A (binaryOp o a b) (EP X pins σ (Got X.K H k)) X.xe s := by
  match o, hw with
  | .Add, hw => exact add_ok L I S rx ry ra rb hx hw
  | .Sub, hw => exact sub_ok L I S rx ry ra rb hx hw
  | .Mult, hw => exact mul_ok I S rx ry ra rb hw
  | .FloorDiv, hw => exact fdiv_ok I S rx ry ra rb hw
  | .Mod, hw => exact mod_ok I S rx ry ra rb hw
  | .Pow, hw => exact pow_ok I S rx ry ra rb hw
  | .BitAnd, hw => exact own_bin (op := .BitAnd) rfl L I S rx ry ra rb hx hw
  | .BitOr, hw => exact own_bin (op := .BitOr) rfl L I S rx ry ra rb hx hw
  | .Div, hw | .LShift, hw | .RShift, hw | .BitXor, hw | .MatMult, hw => exact hw.elim
/-! ### comparisons -/
theorem eq_ok (L : Lv X W d) (I : Inv X pins σ H s) (S : Sim X.K h H) (rx : RepV X.K H x v) (ry : RepV X.K H y u) (ra : RelV v a) (rb : RelV u b) (hx : XOk X σ H EX)
    (hw : opEq W.P (callW W.P W.fs d) x y h k EX) : wpAny (model X.prog X.w) X.A (compareOp .Eq a b) (EP X pins σ (Got X.K H k)) X.xe s := by
  unfold opEq at hw
  split at hw
  · unfold compareOp
    exact own_cmp (op := .Eq) rfl L I S rx ry ra rb hx hw
  · obtain ⟨p, q, e1, e2, s1, s2, g⟩ := hw
    exact op_eqD L.room.units pins s σ H _ _ _ _ _ I ra rb ⟨p, q, Pd.dp S e1 rx, Pd.dp S e2 ry, s1, s2, .bl S g⟩
theorem ne_ok (L : Lv X W d) (I : Inv X pins σ H s) (S : Sim X.K h H) (rx : RepV X.K H x v) (ry : RepV X.K H y u) (ra : RelV v a) (rb : RelV u b)
    (hw : opNe W.P (callW W.P W.fs d) x y h k EX) : wpAny (model X.prog X.w) X.A (compareOp .NotEq a b) (EP X pins σ (Got X.K H k)) X.xe s := by
  obtain ⟨p, q, e1, e2, s1, s2, g⟩ := hw
  exact op_neD L.room.units pins s σ H _ _ _ _ _ I ra rb ⟨p, q, Pd.dp S e1 rx, Pd.dp S e2 ry, s1, s2, .bl S g⟩
theorem tupNone {xs : List D} : ∀ {e : PyData}, Pd h e (.tup xs) → e ≠ .none := by
  intro e p q; subst q; cases p
theorem lt_ok (L : Lv X W d) (I : Inv X pins σ H s) (S : Sim X.K h H) (rx : RepV X.K H x v) (ry : RepV X.K H y u) (ra : RelV v a) (rb : RelV u b) (hx : XOk X σ H EX)
    (hw : opLt W.P (callW W.P W.fs d) x y h k EX) : wpAny (model X.prog X.w) X.A (compareOp .Lt a b) (EP X pins σ (Got X.K H k)) X.xe s := by
  unfold opLt at hw
  split at hw
  · cases rx; cases ry
    exact op_lt pins s σ H _ _ _ _ _ I ra rb ⟨_, _, rfl, rfl, .bl S hw⟩
  · obtain ⟨p, q, e1, e2, s1, s2, al, g⟩ := hw
    obtain ⟨as, r1⟩ := Dp.reads I p _ _ (Pd.dp S e1 rx) ra
    obtain ⟨bs, r2⟩ := Dp.reads I q _ _ (Pd.dp S e2 ry) rb
    unfold compareOp
    exact PySem.W.rcLt_alike p q X.A s a b as bs r1 r2 al (tupNone e1) (SeqAt.room_of_shaped s1 L.room.units) _ _ _ _ ⟨.bl _, H, I, rfl, .bl S g⟩
  · split at hw
    · unfold compareOp
      exact own_cmp (op := .Lt) rfl L I S rx ry ra rb hx hw
    · exact hw.elim
  · exact hw.elim
theorem is_ok {neg : Bool} (I : Inv X pins σ H s) (S : Sim X.K h H) (rx : RepV X.K H x v) (ry : RepV X.K H y u) (ra : RelV v a) (rb : RelV u b)
    (hw : opIs x y h neg k) : wpAny (model X.prog X.w) X.A (compareOp (if neg then .IsNot else .Is) a b) (EP X pins σ (Got X.K H k)) X.xe s := by
  unfold opIs at hw
  split at hw
  · cases ry
    have hd : Got X.K H k (.bl (if neg then !decide (v = .non) else decide (v = .non))) H := by
      split at hw
      · cases rx
        refine .bl S ?_
        cases neg <;> exact hw
      · rename_i n
        have e : decide (v = .non) = false := by
          refine decide_eq_false fun e => ?_
          subst e
          cases x <;> first | exact n rfl | (obtain ⟨_, _, z, _⟩ := rx; cases z) | cases rx
        rw [e]
        refine .bl S ?_
        cases neg <;> exact hw
    cases neg
    · exact op_isN pins s σ H _ _ _ _ _ I ra rb ⟨rfl, hd⟩
    · exact op_notN pins s σ H _ _ _ _ _ I ra rb ⟨rfl, hd⟩
  · exact hw.elim
theorem inSeq_ok {neg : Bool} {p : Addr} {ds : List D} {vs : List V} (I : Inv X pins σ H s) (S : Sim X.K h H) (rx : RepV X.K H x v) (hs : SqL X.K H p vs ∨ SqT X.K H p vs) (rs : RepVs X.K H ds vs) (ra : RelV v a) (rb : RelV (.ref p) b)
    (hw : opInSeq x ds h neg k) : wpAny (model X.prog X.w) X.A (compareOp (if neg then .NotIn else .In) a b) (EP X pins σ (Got X.K H k)) X.xe s := by
  obtain ⟨fx, fs, q⟩ := hw
  have e := rs.inV rx fs fx
  cases neg
  · exact op_in_seq pins s σ H _ _ _ _ _ I ra rb ⟨p, vs, rfl, hs, rx.flat fx, rs.flat fs, by rw [e]; exact .bl S q⟩
  · exact op_notIn_seq pins s σ H _ _ _ _ _ I ra rb ⟨p, vs, rfl, hs, rx.flat fx, rs.flat fs, by rw [e]; exact .bl S q⟩
theorem in_ok {neg : Bool} (I : Inv X pins σ H s) (S : Sim X.K h H) (rx : RepV X.K H x v) (ry : RepV X.K H y u) (ra : RelV v a) (rb : RelV u b)
    (hw : opIn W.P (callW W.P W.fs d) x y h neg k EX) : wpAny (model X.prog X.w) X.A (compareOp (if neg then .NotIn else .In) a b) (EP X pins σ (Got X.K H k)) X.xe s := by
  unfold opIn at hw
  split at hw
  · split at hw
    · cases rx; cases ry
      cases neg
      · exact op_in_str pins s σ H _ _ _ _ _ I ra rb ⟨_, _, rfl, rfl, .bl S hw⟩
      · exact op_notin_str pins s σ H _ _ _ _ _ I ra rb ⟨_, _, rfl, rfl, .bl S (by simpa using hw)⟩
    · exact hw.elim
  · obtain ⟨p, vs, rfl, t, r⟩ := ry
    exact inSeq_ok I S rx (.inr t) r ra rb hw
  · cases ry
    split at hw
    · rename_i e
      obtain ⟨vs, e1, r⟩ := S.lst e
      exact inSeq_ok I S rx (.inl (.of e1)) r ra rb hw
    · exact hw.elim
  · obtain ⟨p, vs, rfl, t, r⟩ := ry
    exact inSeq_ok I S rx (.inl t.sq) r ra rb hw
  · exact hw.elim
theorem cmp_ok {o : CmpOp} (L : Lv X W d) (I : Inv X pins σ H s) (S : Sim X.K h H) (rx : RepV X.K H x v) (ry : RepV X.K H y u) (ra : RelV v a) (rb : RelV u b) (hx : XOk X σ H EX)
    (hw : opCmp W.P (callW W.P W.fs d) o x y h k EX) : wpAny (model X.prog X.w) X.A (compareOp o a b) (EP X pins σ (Got X.K H k)) X.xe s := by
  have hi : ∀ f : Int → Int → Bool, opI f x y h k → ∃ i j, v = .int i ∧ u = .int j ∧ Got X.K H k (.bl (f i j)) H := fun f hw => by
    unfold opI at hw
    split at hw
    · cases rx; cases ry
      exact ⟨_, _, rfl, rfl, .bl S hw⟩
    · exact hw.elim
  match o, hw with
  | .Eq, hw => exact eq_ok L I S rx ry ra rb hx hw
  | .NotEq, hw => exact ne_ok (EX := EX) L I S rx ry ra rb hw
  | .Lt, hw => exact lt_ok L I S rx ry ra rb hx hw
  | .LtE, hw => exact op_le pins s σ H _ _ _ _ _ I ra rb (hi _ hw)
  | .Gt, hw => exact op_gt pins s σ H _ _ _ _ _ I ra rb (hi _ hw)
  | .GtE, hw => exact op_ge pins s σ H _ _ _ _ _ I ra rb (hi _ hw)
  | .Is, hw => exact is_ok (neg := false) I S rx ry ra rb hw
  | .IsNot, hw => exact is_ok (neg := true) I S rx ry ra rb hw
  | .In, hw => exact in_ok (W := W) (d := d) (EX := EX) (neg := false) I S rx ry ra rb hw
  | .NotIn, hw => exact in_ok (W := W) (d := d) (EX := EX) (neg := true) I S rx ry ra rb hw
/-! ### truth, items, slices -/
/-- what a test's end says -/
def GotT (K : PySem.W.Frag) (H : Hp) (k : Bool → Hq → Prop) : Bool → Hp → Prop := fun r H' => ∃ h', Kp H H' ∧ Sim K h' H' ∧ k r h'
theorem tru_k {k : Bool → Hq → Prop} (I : Inv X pins σ H s) (S : Sim X.K h H) (rx : RepV X.K H x v) (ra : RelV v a)
    (hw : opTru x h k) : wpAny (model X.prog X.w) X.A (truthy a) (TP X pins σ (GotT X.K H k)) X.xe s := by
  have g : ∀ r, k r h → GotT X.K H k r H := fun r q => ⟨h, .refl H, S, q⟩
  have em : ∀ {ds : List D} {vs : List V}, RepVs X.K H ds vs → (!vs.isEmpty) = !ds.isEmpty := fun {ds vs} r => by
    cases ds with
    | nil => cases r; rfl
    | cons _ _ => obtain ⟨_, _, rfl, _, _⟩ := r; rfl
  unfold opTru at hw
  split at hw
  · cases rx; exact tru_ok pins s σ H _ _ _ I ra ⟨false, rfl, g _ hw⟩
  · cases rx; exact tru_ok pins s σ H _ _ _ I ra ⟨_, rfl, g _ hw⟩
  · cases rx; exact tru_ok pins s σ H _ _ _ I ra ⟨_, rfl, g _ hw⟩
  · cases rx; exact tru_ok pins s σ H _ _ _ I ra ⟨_, ⟨hw.1, rfl⟩, g _ hw.2⟩
  · obtain ⟨p, vs, rfl, t, r⟩ := rx
    exact tru_ok pins s σ H _ _ _ I ra ⟨_, .inr (.inl ⟨vs, t, rfl⟩), g _ (by rw [em r]; exact hw)⟩
  · cases rx
    split at hw
    · rename_i e
      obtain ⟨vs, e1, r⟩ := S.lst e
      exact tru_ok pins s σ H _ _ _ I ra ⟨_, .inl ⟨vs, .of e1, rfl⟩, g _ (by rw [em r]; exact hw)⟩
    · exact hw.elim
  · obtain ⟨p, vs, rfl, t, r⟩ := rx
    exact tru_ok pins s σ H _ _ _ I ra ⟨_, .inl ⟨vs, t.sq, rfl⟩, g _ (by rw [em r]; exact hw)⟩
  · exact hw.elim
theorem RepVs.atI {ds : List D} {vs : List V} {i : Int} {e : D} (r : RepVs X.K H ds vs) (q : L2.atI ds i = some e) : ∃ v, L2.atI vs i = some v ∧ RepV X.K H e v := by
  unfold L2.atI at q ⊢
  rw [r.length]
  cases z : L2.ixN ds.length i with
  | none => rw [z] at q; cases q
  | some j => rw [z] at q; exact r.get q
theorem item_ok {vl sl : Expr} (I : Inv X pins σ H s) (S : Sim X.K h H) (rx : RepV X.K H x v) (ry : RepV X.K H y u) (ra : RelV v a) (rb : RelV u b)
    (hw : opItem x y h k) (hs : subscripted sl false a b = operate [a, b] (getItem a b)) : wpAny (model X.prog X.w) X.A (subscriptTail vl sl a b) (EP X pins σ (Got X.K H k)) X.xe s := by
  unfold opItem at hw
  split at hw
  · cases ry
    obtain ⟨p, vs, rfl, t, r⟩ := rx
    split at hw
    · rename_i e
      obtain ⟨w, e1, r1⟩ := r.atI e
      exact ix_tup vl sl pins s σ H _ _ _ _ _ I ra rb ⟨p, vs, _, w, rfl, rfl, t, e1, .flat S r1 hw⟩ hs
    · exact hw.elim
  · cases rx; cases ry
    obtain ⟨hz, hw⟩ := hw
    split at hw
    · rename_i e
      exact ix_str vl sl pins s σ H _ _ _ _ _ I ra rb ⟨_, _, _, rfl, rfl, hz, e, .str S hw⟩ hs
    · exact hw.elim
  · cases rx; cases ry
    split at hw
    · rename_i e
      obtain ⟨vs, e1, r⟩ := S.lst e
      split at hw
      · rename_i e2
        obtain ⟨w, e3, r1⟩ := r.atI e2
        exact ix_list vl sl pins s σ H _ _ _ _ _ I ra rb ⟨_, vs, _, w, rfl, rfl, .of e1, e3, .flat S r1 hw⟩ hs
      · exact hw.elim
    · exact hw.elim
  · cases ry
    obtain ⟨p, vs, rfl, t, r⟩ := rx
    split at hw
    · rename_i e
      obtain ⟨w, e1, r1⟩ := r.atI e
      exact ix_list vl sl pins s σ H _ _ _ _ _ I ra rb ⟨p, vs, _, w, rfl, rfl, t.sq, e1, .flat S r1 hw⟩ hs
    · exact hw.elim
  · exact hw.elim
theorem RepVs.cut {ds : List D} {vs : List V} (r : RepVs X.K H ds vs) (lo hi : Option Int) : RepVs X.K H (cut ds lo hi) (L2.cutV vs lo hi) := by
  unfold MP.cut L2.cutV
  rw [r.length]
  exact (r.drop _).take _
theorem slice_ok {lo hi : Option Int} {vl vu : Value} {sl : Addr} (I : Inv X pins σ H s) (S : Sim X.K h H) (rx : RepV X.K H x v) (ra : RelV v a) (hs : s.heap.IsSliceOf sl vl vu .none) (pl : IsPart vl lo) (pu : IsPart vu hi)
    (hw : opSlice x lo hi h k) : ∃ T id, typeLookup (.type T) "__getitem__" = pure (some (.builtin id)) ∧ s.TypeIs a T ∧ wpAny (model X.prog X.w) X.A (getItem a (.ref sl)) (EP X pins σ (Got X.K H k)) X.xe s := by
  unfold opSlice at hw
  split at hw
  · rename_i ds
    obtain ⟨p, vs, rfl, t, r⟩ := rx
    refine sl_tupA pins s σ H _ _ _ _ _ _ _ _ I ra hs pl pu ⟨p, vs, rfl, t, fun ⟨e1, e2⟩ => ?_, fun _ q n => .newT S (r.cut lo hi) hw n⟩
    have e : cut ds lo hi = ds := by
      show (ds.drop _).take _ = ds
      rw [r.length] at e1 e2
      rw [e1, e2, List.drop_zero, Nat.sub_zero, List.take_length]
    rw [e] at hw
    exact .flat (d := .tup ds) S ⟨p, vs, rfl, t, r⟩ hw
  · cases rx
    exact sl_str pins s σ H _ _ _ _ _ _ _ _ I ra hs pl pu ⟨_, rfl, hw.1, .str S hw.2⟩
  · cases rx
    split at hw
    · rename_i e
      obtain ⟨vs, e1, r⟩ := S.lst e
      exact sl_list pins s σ H _ _ _ _ _ _ _ _ I ra hs pl pu ⟨_, vs, rfl, .of e1, fun q n => .newL S (r.cut lo hi) hw n⟩
    · exact hw.elim
  · obtain ⟨p, vs, rfl, t, r⟩ := rx
    exact sl_list pins s σ H _ _ _ _ _ _ _ _ I ra hs pl pu ⟨_, vs, rfl, t.sq, fun q n => .newL S (r.cut lo hi) hw n⟩
  · exact hw.elim
end
end MP
/-! The small Python's built-in functions, methods, attributes against the model's. -/
namespace MP
open PySem PySem.Spec PyProof.Rows L2
def biV : BI → Value
  | .len => .builtin "len" | .int => .type "int" | .str => .type "str" | .bool => .type "bool" | .all => .builtin "all" | .any => .builtin "any" | .sum => .builtin "sum" | .max => .builtin "max" | .min => .builtin "min"
  | .abs => .builtin "abs" | .sorted => .builtin "sorted" | .sortedR => .builtin "sorted" | .list => .type "list" | .tuple => .type "tuple" | .set => .type "set" | .dict => .type "dict" | .range => .type "range" | .repr => .builtin "repr" | .isinst => .builtin "isinstance"

/-! ### sorted of a tuple -/
section
open SrtO
variable {prog : Program} {w : World} {A : Around} {s : Shared} {E : Value → Shared → Prop}
theorem collect_tuple {l : Addr} {vs : List Value} {Q : List Value → Shared → Prop} (hl : s.heap.IsTuple l vs.toArray)
    (h : Q vs { s with heap := (s.heap.push (seqObj "list" #[] 0)).update s.heap.objs.size (Obj.mapSeq (· ++ vs.toArray)) }) (hsz : vs.length ≤ sizeLine) :
    wpAny (model prog w) A (collect (.ref l)) Q E s := by
  obtain ⟨o, ho, hc, n, hd⟩ := id hl
  unfold collect
  refine wpAny_bind (wpAny_runValue (codeAny_builtin entry_proto_collect' ?_))
  show wpAny _ _ (do again (.builtin "list.__iadd__" ⟨[← newList [], .ref l], []⟩)) _ _ s
  refine wpAny_bind (wpAny_newList (wpAny_pure ⟨Code.quiet_builtin _ (by decide +kernel), codeAny_builtin entry_list_iadd' ?_⟩))
  show wpAny _ _ (Builtin.List.listExtendWith (.ref s.heap.objs.size) (.ref l) (.ref s.heap.objs.size)) _ _ { s with heap := s.heap.push (seqObj "list" #[] 0) }
  unfold Builtin.List.listExtendWith
  have ho' : (s.heap.push (seqObj "list" #[] 0)).get? l = some o := Heap.get?_push_of_some _ ho
  refine wpAny_bind (wpAny_typeOf (T := "tuple") ⟨o, ho', hc⟩ ?_)
  have ht : (Value.type "tuple" == Value.type "tuple") = true := by rfl
  rw [if_pos (by rw [ht]; simp)]
  refine wpAny_bind (listItems_at ho' hd ?_)
  refine wpAny_bind (listItems_at (xs := #[]) (n := 0) (Heap.get?_push_size _ rfl) rfl ?_)
  rw [if_neg (by simp)]
  refine wpAny_bind (listUpdate_at (xs := #[]) (n := 0) (Heap.get?_push_size _ rfl) rfl ?_ (Nat.zero_le _) (by show (#[] ++ vs.toArray).size ≤ sizeLine + 1; simp only [Array.size_append, List.size_toArray, List.length_nil]; omega))
  refine wpAny_pure ?_
  show wpAny (model prog w) A (do
      let o ← load s.heap.objs.size
      match o.data with
      | .seq xs _ => pure xs.toList
      | _ => unsupported "internal:collect") Q E { s with heap := (s.heap.push (seqObj "list" #[] 0)).update s.heap.objs.size (Obj.mapSeq (· ++ vs.toArray)) }
  refine wpAny_bind (wpAny_load (get?_update_seq (Heap.get?_push_size _ rfl) _) ?_)
  show wpAny _ _ (pure ((#[] : Array Value) ++ vs.toArray).toList) Q E _
  have e : ((#[] : Array Value) ++ vs.toArray).toList = vs := by simp
  rw [e]
  exact wpAny_pure h
theorem sorted_tupOrd {l : Addr} {vs : List Value} {ltv : Value → Value → Bool} {Q : Value → Shared → Prop} (O : Swo ltv) (hl : s.heap.IsTuple l vs.toArray) (hz : vs.length ≤ sizeLine)
    (hS : 2 ≤ vs.length → ∀ (h₁ : Heap) (a : Addr), h₁.get? a = some (seqObj "list" vs.toArray 0) → (∀ b o, s.heap.get? b = some o → b ≠ a ∧ h₁.get? b = some o) → SortableO prog w A.in1.in1 { s with heap := h₁ } a vs ltv)
    (h : ∀ out : List Value, Srtd ltv out → Stb ltv out vs → Q (.ref (s.heap.objs.size + 1)) { s with heap := sortedAll s.heap vs out.toArray }) :
    wpAny (model prog w) A (call (.builtin "sorted") [.ref l]) Q E s := by
  refine Calls.call_function_entry kind_sorted plain_sorted entry_sorted (args_sorted1 _) ?_
  unfold Builtin.«sorted»
  refine wpAny_bind (m := checkCount "sorted" 1 1 _) (wpAny_pure ?_)
  refine wpAny_bind (collect_tuple hl ?_ hz)
  refine wpAny_bind (wpAny_newList ?_ hz)
  have hsz : ((s.heap.push (seqObj "list" #[] 0)).update s.heap.objs.size (Obj.mapSeq (· ++ vs.toArray))).objs.size = s.heap.objs.size + 1 := by
    rw [Heap.size_update, size_push']
  have hoL : (((s.heap.push (seqObj "list" #[] 0)).update s.heap.objs.size (Obj.mapSeq (· ++ vs.toArray))).push (seqObj "list" vs.toArray 0)).get? (s.heap.objs.size + 1) = some (seqObj "list" vs.toArray 0) := by
    rw [← hsz]; exact Heap.get?_push_size _ rfl
  have keep : ∀ b o, s.heap.get? b = some o → b ≠ s.heap.objs.size + 1 ∧ (((s.heap.push (seqObj "list" #[] 0)).update s.heap.objs.size (Obj.mapSeq (· ++ vs.toArray))).push (seqObj "list" vs.toArray 0)).get? b = some o := fun b o q => by
    have hlt : b < s.heap.objs.size := Heap.lt_size q
    refine ⟨Nat.ne_of_lt (Nat.lt_succ_of_lt hlt), Heap.get?_push_of_some _ ?_⟩
    rw [Heap.get?_update_ne _ _ _ _ (Nat.ne_of_lt hlt)]
    exact Heap.get?_push_of_some _ q
  show wpAny _ _ _ _ _ { s with heap := ((s.heap.push (seqObj "list" #[] 0)).update s.heap.objs.size (Obj.mapSeq (· ++ vs.toArray))).push (seqObj "list" vs.toArray 0) }
  rw [hsz]
  refine wpAny_bind (wpAny_holding (wpAny_call_entry slot_list_sort ⟨_, hoL, rfl⟩ entry_list_sort (list_sort_ord O hoL hz (fun h2 => hS h2 _ _ hoL keep) fun out hs hb => ⟨_, rfl, ?_⟩) (args_list_sort _)))
  exact wpAny_pure ⟨_, rfl, h out hs hb⟩
end
section
variable {X : Cx} {W : Wd} {d : Nat} {pins : List (Addr × Obj)} {s : Shared} {σ : L2.St} {H : Hp} {h : Hq} {k : Kq} {EX : Xq} {x y : D} {v u : V} {a b : Value}
theorem sortedT_ok {p : Addr} {ns : List Int} {Q : VK} (I : Inv X pins σ H s) (hs : SqT X.K H p (ns.map V.int)) (q : ∀ (ns' : List Int) (l : Addr), ns'.Perm ns → ns'.Pairwise (· ≤ ·) → H l = none → Q (.ref l) (upd H l (.lst (ns'.map V.int)))) :
    wpAny (model X.prog X.w) X.A (call (.builtin "sorted") [.ref p]) (EP X pins σ Q) X.xe s := by
  obtain ⟨its, rv, hl, hz⟩ := I.tuple hs
  have hi := rv.ints
  refine sorted_tupOrd SrtO.swo_int (show s.heap.IsTuple p its.toArray from hl) (by rw [← rv.length]; exact hz) (fun h2 h₁ a' _ _ => SrtO.ints_sortable hi h2) fun out h1 h2 => ?_
  obtain ⟨k1, k2, k3⟩ := SrtO.ints_out hi h1 h2
  obtain ⟨ep, he'⟩ := PyProof.Rows.sortedAll_at s.heap its out.toArray
  have hlen : ((out.map SrtO.iv).map V.int).length ≤ sizeLine := by
    rw [List.length_map, k2.length_eq]
    rw [List.length_map] at hz
    exact hz
  exact ⟨.ref _, upd H (s.heap.objs.size + 1) (.lst ((out.map SrtO.iv).map V.int)), I.laid (t' := s.toks) (fun _ _ => PyProof.Rows.sortedAll_old) (Nat.le_succ _) ⟨hlen, out, ep, vals_of_ints k1, he'⟩, rfl, q _ _ k2 k3 (I.hok.fresh (Nat.le_succ _))⟩
theorem seqOf_ok {ds : List D} (S : Sim X.K h H) (r : RepV X.K H x v) (e : seqOf x h = some ds) : ∃ p vs, v = .ref p ∧ ((SqL X.K H p vs ∧ ∀ es, x ≠ .tup es) ∨ (SqT X.K H p vs ∧ x = .tup ds)) ∧ RepVs X.K H ds vs := by
  unfold seqOf at e
  split at e
  · cases e; obtain ⟨p, vs, rfl, t, q⟩ := r; exact ⟨p, vs, rfl, .inr ⟨t, rfl⟩, q⟩
  · cases r
    split at e
    · cases e
      rename_i e1
      obtain ⟨vs, e2, q⟩ := S.lst e1
      exact ⟨_, vs, rfl, .inl ⟨.of e2, fun _ z => by cases z⟩, q⟩
    · cases e
  · cases e; obtain ⟨p, vs, rfl, t, q⟩ := r; exact ⟨p, vs, rfl, .inl ⟨t.sq, fun _ z => by cases z⟩, q⟩
  · cases e
theorem lstOf_ok {ds : List D} (S : Sim X.K h H) (r : RepV X.K H x v) (e : lstOf x h = some ds) : ∃ p vs, v = .ref p ∧ SqL X.K H p vs ∧ RepVs X.K H ds vs := by
  unfold lstOf at e
  split at e
  · cases r
    split at e
    · cases e
      rename_i e1
      obtain ⟨vs, e2, q⟩ := S.lst e1
      exact ⟨_, vs, rfl, .of e2, q⟩
    · cases e
  · cases e; obtain ⟨p, vs, rfl, t, q⟩ := r; exact ⟨p, vs, rfl, t.sq, q⟩
  · cases e
theorem one_rep {vs : List V} (r : RepVs X.K H [x] vs) : ∃ v, vs = [v] ∧ RepV X.K H x v := by
  obtain ⟨v, q, rfl, r, e⟩ := r; cases e; exact ⟨v, rfl, r⟩
theorem two_rep {vs : List V} (r : RepVs X.K H [x, y] vs) : ∃ v u, vs = [v, u] ∧ RepV X.K H x v ∧ RepV X.K H y u := by
  obtain ⟨v, q, rfl, r, t⟩ := r
  obtain ⟨u, rfl, r2⟩ := one_rep t
  exact ⟨v, u, rfl, r, r2⟩
theorem newInts {ns : List Int} (S : Sim X.K h H) (q : new h (.lst (intsD ns)) k) {p : Addr} (n : H p = none) : Got X.K H k (.ref p) (upd H p (.lst (ns.map V.int))) := .newL S .ofInts q n
theorem len_ok {us : List Value} {vs : List V} (I : Inv X pins σ H s) (S : Sim X.K h H) (r0 : RepVs X.K H [x] vs) (ru : Vals vs us)
    (hw : biLen W.P (callW W.P W.fs d) x h k EX) : wpAny (model X.prog X.w) X.A (call (.builtin "len") us) (EP X pins σ (Got X.K H k)) X.xe s := by
  obtain ⟨v, rfl, r1⟩ := one_rep r0
  clear r0
  unfold biLen at hw
  split at hw
  · cases r1; exact call_len_str pins s σ H _ _ _ I ru ⟨_, rfl, hw.1, .int S hw.2⟩
  · obtain ⟨p, vs, rfl, t, q⟩ := r1
    exact call_len_seq pins s σ H _ _ _ I ru ⟨p, vs, rfl, .inr t, by rw [q.length]; exact .int S hw⟩
  · cases r1
    split at hw
    · rename_i e
      obtain ⟨vs, e2, q⟩ := S.lst e
      exact call_len_seq pins s σ H _ _ _ I ru ⟨_, vs, rfl, .inl (.of e2), by rw [q.length]; exact .int S hw⟩
    · exact hw.elim
  · obtain ⟨p, vs, rfl, t, q⟩ := r1
    exact call_len_seq pins s σ H _ _ _ I ru ⟨p, vs, rfl, .inl t.sq, by rw [q.length]; exact .int S hw⟩
  · exact hw.elim
theorem int_ok {us : List Value} {vs : List V} (I : Inv X pins σ H s) (S : Sim X.K h H) (r0 : RepVs X.K H [x] vs) (ru : Vals vs us)
    (hw : biInt x h k) : wpAny (model X.prog X.w) X.A (call (.type "int") us) (EP X pins σ (Got X.K H k)) X.xe s := by
  obtain ⟨v, rfl, r1⟩ := one_rep r0
  clear r0
  unfold biInt at hw
  split at hw
  · cases r1; exact call_int1 pins s σ H _ _ _ I ru (.inl ⟨_, rfl, .int S hw⟩)
  · cases r1; exact call_int1 pins s σ H _ _ _ I ru (.inr ⟨_, rfl, .int S hw⟩)
  · cases r1
    obtain ⟨n, e1, e2, q⟩ := hw
    exact call_int_str pins s σ H _ _ _ I ru ⟨_, n, rfl, e1, e2, .int S q⟩
  · exact hw.elim
theorem str_ok {us : List Value} {vs : List V} (I : Inv X pins σ H s) (S : Sim X.K h H) (r0 : RepVs X.K H [x] vs) (ru : Vals vs us)
    (hw : biStr x h k) : wpAny (model X.prog X.w) X.A (call (.type "str") us) (EP X pins σ (Got X.K H k)) X.xe s := by
  obtain ⟨v, rfl, r1⟩ := one_rep r0
  clear r0
  unfold biStr at hw
  split at hw
  · cases r1; exact call_str_int pins s σ H _ _ _ I ru ⟨_, rfl, hw.1, .str S hw.2⟩
  · exact hw.elim
theorem b1_ok {xs : List D} {f : D → Prop} (h : b1 xs f) : ∃ x, xs = [x] ∧ f x := by
  unfold b1 at h
  split at h
  · exact ⟨_, rfl, h⟩
  · exact h.elim
theorem b2_ok {xs : List D} {f : D → D → Prop} (h : b2 xs f) : ∃ x y, xs = [x, y] ∧ f x y := by
  unfold b2 at h
  split at h
  · exact ⟨_, _, rfl, h⟩
  · exact h.elim
theorem atInt_ok {x : D} {f : Int → Prop} (h : atInt x f) : ∃ i, x = .int i ∧ f i := by
  unfold atInt at h
  split at h
  · exact ⟨_, rfl, h⟩
  · exact h.elim
theorem atSeq_ok {x : D} {h : Hq} {f : List D → Prop} (q : atSeq x h f) : ∃ ds, seqOf x h = some ds ∧ f ds := by
  unfold atSeq at q
  split at q
  · exact ⟨_, by assumption, q⟩
  · exact q.elim
theorem atLst_ok {x : D} {h : Hq} {f : List D → Prop} (q : atLst x h f) : ∃ ds, lstOf x h = some ds ∧ f ds := by
  unfold atLst at q
  split at q
  · exact ⟨_, by assumption, q⟩
  · exact q.elim
theorem atInts_ok {ds : List D} {f : List Int → Prop} (q : atInts ds f) : ∃ ns, ds = intsD ns ∧ f ns := by
  unfold atInts at q
  split at q
  · exact ⟨_, asInts_eq (by assumption), q⟩
  · exact q.elim
theorem atBls_ok {ds : List D} {f : List Bool → Prop} (q : atBls ds f) : ∃ ns, asBls ds = some ns ∧ f ns := by
  unfold atBls at q
  split at q
  · exact ⟨_, by assumption, q⟩
  · exact q.elim
/-- an int list -/
theorem ints_at {f : List Int → Prop} (S : Sim X.K h H) (r : RepV X.K H x v) (q : atLst x h fun ds => atInts ds f) : ∃ p ns, v = .ref p ∧ SqL X.K H p (ns.map V.int) ∧ f ns := by
  obtain ⟨ds, e, q⟩ := atLst_ok q
  obtain ⟨ns, e1, q⟩ := atInts_ok q
  obtain ⟨p, vs, rfl, t, q2⟩ := lstOf_ok S r e
  rw [e1] at q2
  have := q2.ints; subst this
  exact ⟨p, ns, rfl, t, q⟩
theorem bls_at {f : List Bool → Prop} (S : Sim X.K h H) (r : RepV X.K H x v) (q : atLst x h fun ds => atBls ds f) : ∃ p ns, v = .ref p ∧ SqL X.K H p (ns.map V.bl) ∧ f ns := by
  obtain ⟨ds, e, q⟩ := atLst_ok q
  obtain ⟨ns, e1, q⟩ := atBls_ok q
  obtain ⟨p, vs, rfl, t, q2⟩ := lstOf_ok S r e
  have := asBls_rep e1 q2; subst this
  exact ⟨p, ns, rfl, t, q⟩
theorem bi_ok {f : BI} {xs : List D} {vs : List V} {us : List Value} (L : Lv X W d) (I : Inv X pins σ H s) (S : Sim X.K h H) (r : RepVs X.K H xs vs) (ru : Vals vs us)
    (hw : bi W.P (callW W.P W.fs d) f xs h k EX) : wpAny (model X.prog X.w) X.A (call (biV f) us) (EP X pins σ (Got X.K H k)) X.xe s := by
  have hc := L.calm
  match f, hw with
  | .len, hw =>
    obtain ⟨x, rfl, hw⟩ := b1_ok hw
    exact len_ok (W := W) (d := d) (EX := EX) I S r ru hw
  | .int, hw =>
    obtain ⟨x, rfl, hw⟩ := b1_ok hw
    exact int_ok I S r ru hw
  | .str, hw =>
    obtain ⟨x, rfl, hw⟩ := b1_ok hw
    exact str_ok I S r ru hw
  | .abs, hw =>
    obtain ⟨x, rfl, hw⟩ := b1_ok hw
    obtain ⟨i, rfl, hw⟩ := atInt_ok hw
    obtain ⟨v, rfl, r1⟩ := one_rep r
    cases r1
    exact call_abs pins s σ H _ _ _ I ru ⟨_, rfl, .int S hw⟩
  | .sum, hw =>
    obtain ⟨x, rfl, hw⟩ := b1_ok hw
    obtain ⟨v, rfl, r1⟩ := one_rep r
    obtain ⟨p, ns, rfl, t, hw⟩ := ints_at S r1 hw
    exact cr_sum hc pins s σ H _ _ _ I ru ⟨p, _, rfl, t, .int S hw⟩
  | .max, .inl hw =>
    obtain ⟨x, rfl, hw⟩ := b1_ok hw
    obtain ⟨v, rfl, r1⟩ := one_rep r
    obtain ⟨p, ns, rfl, t, hw⟩ := ints_at S r1 hw
    exact cr_max hc pins s σ H _ _ _ I ru ⟨p, _, rfl, t, hw.1, fun m m1 m2 => .int S (hw.2 m m1 m2)⟩
  | .max, .inr hw =>
    obtain ⟨x, y, rfl, hw⟩ := b2_ok hw
    obtain ⟨v, u, rfl, r1, r2⟩ := two_rep r
    obtain ⟨i, rfl, hw⟩ := atInt_ok hw
    obtain ⟨j, rfl, hw⟩ := atInt_ok hw
    cases r1; cases r2
    exact call_max2 hc pins s σ H _ _ _ I ru ⟨_, _, rfl, .int S hw⟩
  | .min, .inl hw =>
    obtain ⟨x, rfl, hw⟩ := b1_ok hw
    obtain ⟨v, rfl, r1⟩ := one_rep r
    obtain ⟨p, ns, rfl, t, hw⟩ := ints_at S r1 hw
    exact cr_min hc pins s σ H _ _ _ I ru ⟨p, _, rfl, t, hw.1, fun m m1 m2 => .int S (hw.2 m m1 m2)⟩
  | .min, .inr hw =>
    obtain ⟨x, y, rfl, hw⟩ := b2_ok hw
    obtain ⟨v, u, rfl, r1, r2⟩ := two_rep r
    obtain ⟨i, rfl, hw⟩ := atInt_ok hw
    obtain ⟨j, rfl, hw⟩ := atInt_ok hw
    cases r1; cases r2
    exact call_min2 hc pins s σ H _ _ _ I ru ⟨_, _, rfl, .int S hw⟩
  | .all, hw =>
    obtain ⟨x, rfl, hw⟩ := b1_ok hw
    obtain ⟨v, rfl, r1⟩ := one_rep r
    obtain ⟨p, ns, rfl, t, hw⟩ := bls_at S r1 hw
    exact cr_all hc pins s σ H _ _ _ I ru ⟨p, _, rfl, t, .bl S hw⟩
  | .any, hw =>
    obtain ⟨x, rfl, hw⟩ := b1_ok hw
    obtain ⟨v, rfl, r1⟩ := one_rep r
    obtain ⟨p, ns, rfl, t, hw⟩ := bls_at S r1 hw
    exact cr_any hc pins s σ H _ _ _ I ru ⟨p, _, rfl, t, .bl S hw⟩
  | .sorted, hw =>
    obtain ⟨x, rfl, hw⟩ := b1_ok hw
    obtain ⟨v, rfl, r1⟩ := one_rep r
    obtain ⟨ds, e, hw⟩ := atSeq_ok hw
    obtain ⟨ns, e1, hw⟩ := atInts_ok hw
    obtain ⟨p, vs, rfl, t, q⟩ := seqOf_ok S r1 e
    rw [e1] at q
    have := q.ints; subst this
    rcases t with ⟨t, _⟩ | ⟨t, _⟩
    · exact cr_sortedI pins s σ H _ _ _ I ru ⟨p, _, rfl, t, fun ns' l p1 p2 n => newInts S (hw ns' p1 p2) n⟩
    · obtain ⟨w, rfl, rw⟩ := vals1 ru
      cases rw
      exact sortedT_ok I t fun ns' l p1 p2 n => newInts S (hw ns' p1 p2) n
  | .list, hw =>
    obtain ⟨x, rfl, hw⟩ := b1_ok hw
    obtain ⟨v, rfl, r1⟩ := one_rep r
    obtain ⟨ds, e, hw⟩ := atSeq_ok hw
    obtain ⟨p, vs, rfl, t, q⟩ := seqOf_ok S r1 e
    exact call_list_of pins s σ H _ _ _ I ru ⟨p, vs, rfl, t.imp (·.1) (·.1), fun l n => .newL S q hw n⟩
  | .tuple, hw =>
    obtain ⟨x, rfl, hw⟩ := b1_ok hw
    obtain ⟨v, rfl, r1⟩ := one_rep r
    obtain ⟨ds, e, hw⟩ := atSeq_ok hw
    obtain ⟨p, vs, rfl, t, q⟩ := seqOf_ok S r1 e
    rcases t with ⟨t, _⟩ | ⟨t, e2⟩
    · exact call_tuple_of pins s σ H _ _ _ I ru ⟨p, vs, rfl, .inl ⟨t, fun l n => .newT S q hw n⟩⟩
    · subst e2
      exact call_tuple_of pins s σ H _ _ _ I ru ⟨p, vs, rfl, .inr ⟨t, .flat (d := .tup ds) S ⟨p, vs, rfl, t, q⟩ hw⟩⟩
  | .bool, hw | .sortedR, hw | .set, hw | .dict, hw | .range, hw | .repr, hw | .isinst, hw => exact hw.elim
/-! ### isinstance -/
def Cc.val (K : PySem.W.Frag) : Cc → Value
  | .ty b => .type b.name
  | .own C => .ref (He.ga K C)
def Cc.vv (K : PySem.W.Frag) : Cc → V
  | .ty b => .ty b.name
  | .own C => .ref (He.ga K C)
theorem Cc.cls (K : PySem.W.Frag) (c : Cc) : ClsV (c.vv K) (c.val K) := by
  cases c with
  | ty b => exact .ty _
  | own C => exact .own _
theorem isB_ok (a b : BT) : kitB a.name b.name = some (isB a b) := by
  cases a <;> cases b <;> decide +kernel
theorem isAns_ok {t c : Cc} {r : Bool} (hs : St X.K X.mg W) (e : isAns W.P t c = some r) : PySem.W.kitOne X.K (t.val X.K) (c.val X.K) = some r := by
  cases t <;> cases c <;> unfold isAns at e
  · rw [← e]; exact kit_ty (isB_ok _ _)
  · exact hs.subB _ _ _ e
  · exact (hs.subT _ _ _ e).1
  · exact (hs.sub _ _ _ e).2.1
theorem isAny_ok {t : Cc} (hs : St X.K X.mg W) : ∀ {cs : List Cc} {r : Bool}, isAny W.P t cs = some r → PySem.W.kitAny X.K (t.val X.K) (cs.map (·.val X.K)) = some r
  | [], r, e => by cases e; rfl
  | c :: cs, r, e => by
    unfold isAny at e
    split at e
    · rename_i e1
      cases e
      exact kitAny_cons (isAns_ok hs e1) (fun z => by cases z) fun _ => rfl
    · rename_i e1
      exact kitAny_cons (isAns_ok hs e1) (fun _ => isAny_ok hs e) fun z => by cases z
    · cases e
theorem own_seen {c : Cc} {C : Str} {r : Bool} (hs : St X.K X.mg W) (e : isAns W.P (.own C) c = some r) : ClsI X.K (He.ga X.K C) := by
  cases c with
  | ty b => exact (hs.subT _ _ _ e).2
  | own C' => exact (hs.sub _ _ _ e).2.2
theorem tyD_ok {t : Cc} (S : Sim X.K h H) (r : RepV X.K H x v) (e : tyD x h = some t) (ho : ∀ C, t = .own C → ClsI X.K (He.ga X.K C)) : TyX X.K H v (t.val X.K) := by
  unfold tyD at e
  split at e
  · cases e; cases r; exact .base .non
  · cases e; cases r; exact .base (.bl _)
  · cases e; cases r; exact .base (.int _)
  · cases e; cases r; exact .base (.str _)
  · cases e
    obtain ⟨p, vs, rfl, t, q⟩ := r
    rcases t with (t | ⟨o, t⟩) | ⟨o, its, n, t, c, _⟩
    · exact .base (.tup t)
    · exact .fTuple t
    · exact .kTuple t c
  · cases e
    obtain ⟨p, vs, rfl, t, q⟩ := r
    rcases t with ⟨o, t⟩ | ⟨o, its, n, t, c, _⟩
    · exact .base (.frz t)
    · exact .kList t c
  · cases r
    split at e
    · cases e
      rename_i e1
      obtain ⟨vs, e2, _⟩ := S.lst e1
      exact .base (.lst e2)
    · cases e
      rename_i e1
      obtain ⟨dx, vs, e2, _⟩ := S.ins e1
      obtain ⟨c1, c2, c3, c4, c5⟩ := ho _ rfl
      exact .base (.ins e2 c1 c2 c3 c4 c5)
    · cases e
  · cases e
/-! ### methods of built-in types -/
theorem firstIx_ok {ds : List D} {vs : List V} {i : Nat} (r : RepVs X.K H ds vs) (rx : RepV X.K H x v) (fx : flatD x = true) (fs : ds.all flatD = true) (e : firstIx ds x = some i) :
    ∃ z, vs[i]? = some z ∧ L2.eqV z v = true ∧ ∀ (m : Nat) (z' : V), m < i → vs[m]? = some z' → L2.eqV z' v = false := by
  unfold firstIx at e
  rw [List.findIdx?_eq_some_iff_getElem] at e
  obtain ⟨hi, e1, e2⟩ := e
  have fl : ∀ (j : Nat) (q : D), ds[j]? = some q → flatD q = true := fun j q hq => List.all_eq_true.mp fs q (List.mem_of_getElem? hq)
  obtain ⟨z, z1, z2⟩ := r.get (i := i) (d := ds[i]) (by simp [hi])
  refine ⟨z, z1, by rw [z2.eqV rx (fl i _ (by simp [hi])) fx]; exact e1, fun m z' hm hz => ?_⟩
  have hml : m < ds.length := Nat.lt_trans hm hi
  obtain ⟨w, w1, w2⟩ := r.get (i := m) (d := ds[m]) (by simp [hml])
  rw [w1] at hz; cases hz
  rw [w2.eqV rx (fl m _ (by simp [hml])) fx]
  have := e2 m hm
  simpa using this
theorem mthLst_ok {p : Addr} {ds : List D} {b : BM} {nm : Str} {id : String} {xs : List D} {vs : List V} {us : List Value} (I : Inv X pins σ H s) (S : Sim X.K h H) (e : h p = some (.lst ds)) (r : RepVs X.K H xs vs) (ru : Vals vs us) (hb : bmLst b = some (nm, id))
    (hw : mthLst p ds b xs h k) : wpAny (model X.prog X.w) X.A (call (.builtin id) (.ref p :: us)) (EP X pins σ (Got X.K H k)) X.xe s := by
  obtain ⟨ys, e1, r1⟩ := S.lst e
  have rp := relRef p
  match b, hb, hw with
  | .index, hb, hw =>
    cases hb
    obtain ⟨x, rfl, fx, fs, i, e2, hw⟩ := b1_ok hw
    obtain ⟨v, rfl, rx⟩ := one_rep r
    obtain ⟨z, z1, z2, z3⟩ := firstIx_ok r1 rx fx fs e2
    exact mt_index pins s σ H _ _ _ _ _ I rp ru ⟨p, ys, v, i, z, rfl, rfl, .of e1, rx.flat fx, r1.flat fs, z1, z2, z3, .int S hw⟩
  | .append, hb, hw =>
    cases hb
    obtain ⟨x, rfl, hz, hw⟩ := b1_ok hw
    obtain ⟨v, rfl, rx⟩ := one_rep r
    exact mt_append pins s σ H _ _ _ _ _ I rp ru ⟨p, ys, v, rfl, rfl, e1, by rw [r1.length]; exact hz, .non, _, .lst e1, S.putL e1 (r1.snoc rx), rfl, hw⟩
  | .insert, hb, hw =>
    cases hb
    obtain ⟨i, x, rfl, hw⟩ := b2_ok hw
    obtain ⟨i, rfl, h0, h1, hz, hw⟩ := atInt_ok hw
    obtain ⟨v, u, rfl, ri, rx⟩ := two_rep r
    cases ri
    exact mt_insert pins s σ H _ _ _ _ _ I rp ru ⟨p, ys, i, u, rfl, rfl, e1, by rw [r1.length]; exact hz, h0, by omega, .non, _, .lst e1, S.putL e1 (((r1.take _).append (.one rx)).append (r1.drop _)), rfl, hw⟩
  | .pop, hb, .inl ⟨hx, x, hq, w0⟩ =>
    cases hb
    subst hx
    cases r
    obtain ⟨v, v1, v2⟩ := r1.get hq
    refine mt_pop pins s σ H _ _ _ _ _ I rp ru ⟨p, ys, v, rfl, rfl, e1, by rw [r1.length]; exact v1, x, _, .lst e1, S.putL e1 ?_, v2.mono (.lst e1), w0⟩
    rw [List.dropLast_eq_take, List.dropLast_eq_take, r1.length]
    exact r1.take _
  | .pop, hb, .inr hw =>
    cases hb
    obtain ⟨i, rfl, hw⟩ := b1_ok hw
    obtain ⟨i, rfl, h0, h1, x, hq, hw⟩ := atInt_ok hw
    obtain ⟨w, rfl, rx⟩ := one_rep r
    cases rx
    obtain ⟨v, v1, v2⟩ := r1.get hq
    have hl : i.toNat < ys.length := (List.getElem?_eq_some_iff.mp v1).1
    refine mt_popAt pins s σ H _ _ _ _ _ I rp ru ⟨p, ys, i, i.toNat, v, rfl, rfl, e1, by omega, by omega, PySem.StrLaws.seqIndex_nonneg h0 (by omega), v1, x, _, .lst e1, S.putL e1 ?_, v2.mono (.lst e1), hw⟩
    rw [List.eraseIdx_eq_take_drop_succ, List.eraseIdx_eq_take_drop_succ]
    exact (r1.take _).append (r1.drop _)
  | .extend, hb, hw =>
    cases hb
    obtain ⟨x, rfl, b, es, rfl, e2, hz, hw⟩ := b1_ok hw
    obtain ⟨w, rfl, rx⟩ := one_rep r
    cases rx
    obtain ⟨zs, e3, r3⟩ := S.lst e2
    exact mt_extend pins s σ H _ _ _ _ _ I rp ru ⟨p, _, ys, zs, rfl, rfl, e1, e3, by rw [r1.length, r3.length]; exact hz, .non, _, .lst e1, S.putL e1 (r1.append r3), rfl, hw⟩
  | .clear, hb, ⟨hx, w0⟩ =>
    cases hb
    subst hx
    cases r
    exact mt_clear pins s σ H _ _ _ _ _ I rp ru ⟨p, ys, rfl, rfl, e1, .non, _, .lst e1, S.putL e1 (show RepVs X.K H [] [] from rfl), rfl, w0⟩
theorem mthStr_ok {z : Str} {t : Tok} {b : BM} {nm : Str} {id : String} {xs : List D} {vs : List V} {us : List Value} (I : Inv X pins σ H s) (S : Sim X.K h H) (r : RepVs X.K H xs vs) (ru : Vals vs us) (hb : bmStr b = some (nm, id))
    (hw : mthStr z b xs h k) : wpAny (model X.prog X.w) X.A (call (.builtin id) (.str z t :: us)) (EP X pins σ (Got X.K H k)) X.xe s := by
  have rp : RelV (.str z) (.str z t) := ⟨t, rfl⟩
  match b, hb, hw with
  | .join, hb, hw =>
    cases hb
    obtain ⟨x, rfl, hw⟩ := b1_ok hw
    obtain ⟨ds, e, ys, e2, hz, hw⟩ := atSeq_ok hw
    obtain ⟨w, rfl, rx⟩ := one_rep r
    obtain ⟨p, vs, rfl, t, q⟩ := seqOf_ok S rx e
    have := asStrs_rep e2 q; subst this
    exact mt_join pins s σ H _ _ _ _ _ I rp ru ⟨z, p, ys, rfl, rfl, t.imp (·.1) (·.1), hz, .str S hw⟩
  | .split, hb, hw =>
    cases hb
    obtain ⟨x, rfl, y, rfl, h0, hz, hw⟩ := b1_ok hw
    obtain ⟨w, rfl, rx⟩ := one_rep r
    cases rx
    exact mt_split pins s σ H _ _ _ _ _ I rp ru ⟨z, y, rfl, rfl, h0, hz, fun q n => .newL S .ofStrs hw n⟩
end
end MP
/-! The small Python's judgements: an expression of the text is what its term says. -/
namespace MP
open PySem PySem.Spec PyProof.Rows L2 ClX

structure EnvR (K : PySem.W.Frag) (H : Hp) (env : Env) (σ : List (Option V)) : Prop where
  len : env.length = σ.length
  get : ∀ (i : Nat) (d : D), env[i]? = some (some d) → ∃ v : V, σ[i]? = some (some v) ∧ RepV K H d v
theorem EnvR.mono {K : PySem.W.Frag} {H H' : Hp} {env : Env} {σ : L2.St} (k : Kp H H') (r : EnvR K H env σ) : EnvR K H' env σ :=
  ⟨r.len, fun i d e => let ⟨v, a, b⟩ := r.get i d e; ⟨v, a, b.mono k⟩⟩
theorem EnvR.set {K : PySem.W.Frag} {H : Hp} {env : Env} {σ : L2.St} {x : D} {v : V} (i : Nat) (r : EnvR K H env σ) (h : RepV K H x v) : EnvR K H (env.set i (some x)) (σ.set i (some v)) := by
  refine ⟨by rw [List.length_set, List.length_set, r.len], fun j d e => ?_⟩
  by_cases q : i = j
  · subst q
    by_cases hl : i < env.length
    · rw [List.getElem?_set_self hl] at e
      cases e
      exact ⟨v, List.getElem?_set_self (by rw [← r.len]; exact hl), h⟩
    · rw [List.getElem?_eq_none (by rw [List.length_set]; omega)] at e; cases e
  · rw [List.getElem?_set_ne q] at e
    rw [List.getElem?_set_ne q]
    exact r.get j d e
theorem EnvR.wipe {K : PySem.W.Frag} {H : Hp} {env : Env} {σ : L2.St} (r : EnvR K H env σ) : ∀ vs : List Nat, EnvR K H (wipeE env vs) (L2.wipe σ vs)
  | [] => r
  | v :: vs => by
    have ih := EnvR.wipe r vs
    refine ⟨?_, fun j d e => ?_⟩
    · show ((wipeE env vs).set v none).length = ((L2.wipe σ vs).set v none).length
      rw [List.length_set, List.length_set, ih.len]
    · have e : ((wipeE env vs).set v none)[j]? = some (some d) := e
      show ∃ w, ((L2.wipe σ vs).set v none)[j]? = some (some w) ∧ _
      by_cases q : v = j
      · subst q
        by_cases hl : v < (wipeE env vs).length
        · rw [List.getElem?_set_self hl] at e; cases e
        · rw [List.getElem?_eq_none (by rw [List.length_set]; omega)] at e; cases e
      · rw [List.getElem?_set_ne q] at e
        rw [List.getElem?_set_ne q]
        exact ih.get j d e

section
variable (X : Cx) (W : Wd) (d : Nat)
def tE (ir : E) : TE := fun σ H Q => ∃ (env : Env) (h : Hq) (k : Kq) (EX : Xq), EnvR X.K H env σ ∧ Sim X.K h H ∧ XOk X σ H EX ∧ wE W.P (callW W.P W.fs d) ir env h k EX ∧ ∀ v H', Got X.K H k v H' → Q v H'
def tT (ir : E) : TT := fun σ H Q => ∃ (env : Env) (h : Hq) (k : Bool → Hq → Prop) (EX : Xq), EnvR X.K H env σ ∧ Sim X.K h H ∧ XOk X σ H EX ∧ wT W.P (callW W.P W.fs d) ir env h k EX ∧ ∀ v H', GotT X.K H k v H' → Q v H'
def GotS (K : PySem.W.Frag) (H : Hp) (k : List D → Hq → Prop) : List V → Hp → Prop := fun vs H' => ∃ ds h', Kp H H' ∧ Sim K h' H' ∧ RepVs K H' ds vs ∧ k ds h'
def tA (irs : List E) : TA := fun σ H Q => ∃ (env : Env) (h : Hq) (k : List D → Hq → Prop) (EX : Xq), EnvR X.K H env σ ∧ Sim X.K h H ∧ XOk X σ H EX ∧ wEs W.P (callW W.P W.fs d) irs env h k EX ∧ ∀ v H', GotS X.K H k v H' → Q v H'
abbrev JE (e : Expr) (ir : E) : Prop := PE X e (tE X W d ir)
abbrev JT (e : Expr) (ir : E) : Prop := PT X e (tT X W d ir)
abbrev JA (es : List Expr) (irs : List E) : Prop := PA X es (tA X W d irs)
end
section
variable {X : Cx} {W : Wd} {d : Nat} {pins : List (Addr × Obj)} {s : Shared} {σ : L2.St} {H : Hp} {h : Hq} {k : Kq} {EX : Xq} {x y : D} {v u : V} {a b : Value} {env : Env} {e e1 e2 e3 : Expr} {ir ir1 ir2 ir3 : E} {pos : Pos}
theorem JE.go (j : JE X W d e ir) (I : Inv X pins σ H s) (R : EnvR X.K H env σ) (S : Sim X.K h H) (hx : XOk X σ H EX) (hw : wE W.P (callW W.P W.fs d) ir env h k EX) :
    wpAny (model X.prog X.w) X.A (eval e X.env) (EP X pins σ (Got X.K H k)) X.xe s := j.run pins s σ H _ I ⟨env, h, k, EX, R, S, hx, hw, fun _ _ g => g⟩
theorem JE.mk (f : ∀ (pins : List (Addr × Obj)) (s : Shared) (σ : L2.St) (H : Hp) (env : Env) (h : Hq) (k : Kq) (EX : Xq), Inv X pins σ H s → EnvR X.K H env σ → Sim X.K h H → XOk X σ H EX → wE W.P (callW W.P W.fs d) ir env h k EX →
    wpAny (model X.prog X.w) X.A (eval e X.env) (EP X pins σ (Got X.K H k)) X.xe s) : JE X W d e ir :=
  ⟨fun pins s σ H Q I ⟨env, h, k, EX, R, S, hx, hw, hq⟩ => thn (f pins s σ H env h k EX I R S hx hw) fun v s1 ⟨x, H1, I1, r1, q1⟩ => ⟨x, H1, I1, r1, hq _ _ q1⟩⟩
theorem JT.go {k : Bool → Hq → Prop} (j : JT X W d e ir) (I : Inv X pins σ H s) (R : EnvR X.K H env σ) (S : Sim X.K h H) (hx : XOk X σ H EX) (hw : wT W.P (callW W.P W.fs d) ir env h k EX) :
    wpAny (model X.prog X.w) X.A (isTrue e X.env (eval e X.env)) (TP X pins σ (GotT X.K H k)) X.xe s := j.run pins s σ H _ I ⟨env, h, k, EX, R, S, hx, hw, fun _ _ g => g⟩
theorem JT.mk (f : ∀ (pins : List (Addr × Obj)) (s : Shared) (σ : L2.St) (H : Hp) (env : Env) (h : Hq) (k : Bool → Hq → Prop) (EX : Xq), Inv X pins σ H s → EnvR X.K H env σ → Sim X.K h H → XOk X σ H EX → wT W.P (callW W.P W.fs d) ir env h k EX →
    wpAny (model X.prog X.w) X.A (isTrue e X.env (eval e X.env)) (TP X pins σ (GotT X.K H k)) X.xe s) : JT X W d e ir :=
  ⟨fun pins s σ H Q I ⟨env, h, k, EX, R, S, hx, hw, hq⟩ => thn (f pins s σ H env h k EX I R S hx hw) fun v s1 ⟨H1, I1, q1⟩ => ⟨H1, I1, hq _ _ q1⟩⟩
theorem JA.go {es : List Expr} {irs : List E} {k : List D → Hq → Prop} (j : JA X W d es irs) (pos : Pos) (I : Inv X pins σ H s) (R : EnvR X.K H env σ) (S : Sim X.K h H) (hx : XOk X σ H EX) (hw : wEs W.P (callW W.P W.fs d) irs env h k EX) :
    wpAny (model X.prog X.w) X.A (spliced (backTo pos (starEach es X.env))) (AP X pins σ (GotS X.K H k)) X.xe s := j.run pos pins s σ H _ I ⟨env, h, k, EX, R, S, hx, hw, fun _ _ g => g⟩
/-- the end of a later step -/
theorem ep_from {H1 : Hp} {Q : VK} (q : Kp H H1) (hq : ∀ v H', Got X.K H1 k v H' → Q v H') : ∀ u s', EP X pins σ (Got X.K H1 k) u s' → EP X pins σ Q u s' := fun _ _ ⟨v, H', I, r, g⟩ => ⟨v, H', I, r, hq _ _ g⟩
theorem ep_kp {H1 : Hp} (q : Kp H H1) : ∀ u s', EP X pins σ (Got X.K H1 k) u s' → EP X pins σ (Got X.K H k) u s' := fun _ _ ⟨v, H', I, r, g⟩ => ⟨v, H', I, r, g.from q⟩
theorem GotT.from {K : PySem.W.Frag} {H H1 : Hp} {k : Bool → Hq → Prop} (q : Kp H H1) {r : Bool} {H' : Hp} (g : GotT K H1 k r H') : GotT K H k r H' := by
  obtain ⟨h', a, b, c⟩ := g
  exact ⟨h', q.trans a, b, c⟩
theorem tp_kp {H1 : Hp} {k : Bool → Hq → Prop} (q : Kp H H1) : ∀ r s', TP X pins σ (GotT X.K H1 k) r s' → TP X pins σ (GotT X.K H k) r s' := fun _ _ ⟨H', I, g⟩ => ⟨H', I, g.from q⟩

/-! ### names, constants -/
theorem je_var {i : Nat} {nm : Str} (hN : X.N[i]? = some nm) (hv : Vis X.env.scope nm) (hd : (nm == ("__debug__" : Str)) = false) (hcd : (nm == ("__classdict__" : Str)) = false) : JE X W d (.Name nm pos) (.var i) := by
  refine .mk fun pins s σ H env h k EX I R S hx hw => ?_
  unfold wE at hw
  split at hw
  · rename_i x e
    obtain ⟨v, e1, r⟩ := R.get i x e
    exact (pe_var hN hv hd hcd).run pins s σ H _ I ⟨v, e1, .flat S r hw⟩
  · exact hw.elim
theorem je_int {i : Int} {j : Nat} : JE X W d (.Constant (.int i) j pos) (.cst (.int i)) := .mk fun pins s σ H env h k EX I R S hx hw => by
  unfold wE at hw
  exact pe_int.run pins s σ H _ I (.int S hw)
theorem je_bl {i : Bool} {j : Nat} : JE X W d (.Constant (.bool i) j pos) (.cst (.bl i)) := .mk fun pins s σ H env h k EX I R S hx hw => by
  unfold wE at hw
  exact pe_bl.run pins s σ H _ I (.bl S hw)
theorem je_str {i : Str} {j : Nat} : JE X W d (.Constant (.str i) j pos) (.cst (.str i)) := .mk fun pins s σ H env h k EX I R S hx hw => by
  unfold wE at hw
  exact pe_str.run pins s σ H _ I (.str S hw)
theorem je_non {j : Nat} : JE X W d (.Constant .none j pos) (.cst .non) := .mk fun pins s σ H env h k EX I R S hx hw => by
  unfold wE at hw
  exact pe_non.run pins s σ H _ I (.non S hw)
theorem je_nope : JE X W d e .nope := .mk fun pins s σ H env h k EX I R S hx hw => by
  unfold wE at hw
  exact hw.elim
theorem je_glob {nm : Str} (L : Lv X W d) (hg : Gl X nm) (hd : (nm == ("__debug__" : Str)) = false) : JE X W d (.Name nm pos) (.glob nm) := .mk fun pins s σ H env h k EX I R S hx hw => by
  unfold wE at hw
  split at hw
  · rename_i z e
    obtain ⟨u, v, e1, r, q⟩ := L.st.glob nm z e
    exact (pe_glob hg e1 r hd).run pins s σ H _ I (.flat S (q H) hw)
  · exact hw.elim
/-! ### operators -/
theorem je_bin {o : Operator} (L : Lv X W d) (h1 : JE X W d e1 ir1) (h2 : JE X W d e2 ir2) : JE X W d (.BinOp e1 o e2 pos) (.bin o ir1 ir2) := .mk fun pins s σ H env h k EX I R S hx hw => by
  unfold wE at hw
  refine wpAny_BinOp (thn (h1.go I R S hx hw) fun v s1 ⟨x, H1, I1, r1, d1, g1, k1, S1, t1, hw1⟩ => ?_)
  refine thn (h2.go I1 (R.mono k1) S1 (hx.mono k1) hw1) fun u s2 ⟨y, H2, I2, r2, d2, g2, k2, S2, t2, hw2⟩ => ?_
  exact thn (bin_ok L I2 S2 (t1.mono k2) t2 r1 r2 ((hx.mono k1).mono k2) hw2) (ep_kp (k1.trans k2))
theorem je_cmp {o : CmpOp} (L : Lv X W d) (h1 : JE X W d e1 ir1) (h2 : JE X W d e2 ir2) (hm : behindInMarks o e2 = false) : JE X W d (.Compare e1 [o] [e2] pos) (.cmp o ir1 ir2) := .mk fun pins s σ H env h k EX I R S hx hw => by
  unfold wE at hw
  refine wpAny_Compare1 (thn (h1.go I R S hx hw) fun v s1 ⟨x, H1, I1, r1, d1, g1, k1, S1, t1, hw1⟩ => ?_) hm
  refine thn (h2.go I1 (R.mono k1) S1 (hx.mono k1) hw1) fun u s2 ⟨y, H2, I2, r2, d2, g2, k2, S2, t2, hw2⟩ => ?_
  exact thn (cmp_ok L I2 S2 (t1.mono k2) t2 r1 r2 ((hx.mono k1).mono k2) hw2) (ep_kp (k1.trans k2))
theorem jt_cmp {o : CmpOp} (L : Lv X W d) (h1 : JE X W d e1 ir1) (h2 : JE X W d e2 ir2) (hm : behindInMarks o e2 = false) : JT X W d (.Compare e1 [o] [e2] pos) (.cmp o ir1 ir2) := .mk fun pins s σ H env h k EX I R S hx hw => by
  unfold wT at hw
  refine wpAny_isTrue_Compare1 (thn (h1.go I R S hx hw) fun v s1 ⟨x, H1, I1, r1, d1, g1, k1, S1, t1, hw1⟩ => ?_) hm
  refine thn (h2.go I1 (R.mono k1) S1 (hx.mono k1) hw1) fun u s2 ⟨y, H2, I2, r2, d2, g2, k2, S2, t2, hw2⟩ => ?_
  refine thn (cmp_ok L I2 S2 (t1.mono k2) t2 r1 r2 ((hx.mono k1).mono k2) hw2) fun c s3 ⟨z, H3, I3, r3, d3, g3, k3, S3, t3, hw3⟩ => ?_
  try dsimp only at hw3
  split at hw3
  · cases t3; cases r3
    exact wpAny_truthy_bool ⟨H3, I3, g3, (k1.trans k2).trans k3, S3, hw3⟩
  · exact hw3.elim
theorem je_chain {o o' : CmpOp} (L : Lv X W d) (h1 : JE X W d e1 ir1) (h2 : JE X W d e2 ir2) (h3 : JE X W d e3 ir3) (hm : lastMarks [o, o'] [e2, e3] = false) : JE X W d (.Compare e1 [o, o'] [e2, e3] pos) (.chain o o' ir1 ir2 ir3) := .mk fun pins s σ H env h k EX I R S hx hw => by
  unfold wE at hw
  refine Compare_chain (thn (h1.go I R S hx hw) fun v s1 ⟨x, H1, I1, r1, d1, g1, k1, S1, t1, hw1⟩ => chain_link (thn (h2.go I1 (R.mono k1) S1 (hx.mono k1) hw1) fun u s2 ⟨y, H2, I2, r2, d2, g2, k2, S2, t2, hw2⟩ => ?_)) hm
  have k12 := k1.trans k2
  refine thn (cmp_ok L I2 S2 (t1.mono k2) t2 r1 r2 (hx.mono k12) hw2) fun c s3 ⟨z, H3, I3, r3, d3, g3, k3, S3, t3, hw3⟩ => ?_
  have k13 := k12.trans k3
  try dsimp only at hw3
  split at hw3
  · cases t3; cases r3
    refine wpAny_truthy_bool (ite_tt (chain_last (thn (h3.go I3 (R.mono k13) S3 (hx.mono k13) hw3) fun w' s4 ⟨z', H4, I4, r4, d4, g4, k4, S4, t4, hw4⟩ => ?_)))
    exact thn (cmp_ok L I4 S4 (t2.mono (k3.trans k4)) t4 r2 r4 ((hx.mono k13).mono k4) hw4) (ep_kp (k13.trans k4))
  · cases t3; cases r3
    exact wpAny_truthy_bool (ite_ff ⟨.bl false, H3, I3, rfl, .bl false, g3, k13, S3, rfl, hw3⟩)
  · exact hw3.elim
theorem jt_chain {o o' : CmpOp} (L : Lv X W d) (h1 : JE X W d e1 ir1) (h2 : JE X W d e2 ir2) (h3 : JE X W d e3 ir3) (hm : lastMarks [o, o'] [e2, e3] = false) : JT X W d (.Compare e1 [o, o'] [e2, e3] pos) (.chain o o' ir1 ir2 ir3) := .mk fun pins s σ H env h k EX I R S hx hw => by
  unfold wT at hw
  refine isTrue_chain (thn (h1.go I R S hx hw) fun v s1 ⟨x, H1, I1, r1, d1, g1, k1, S1, t1, hw1⟩ => test_link (thn (h2.go I1 (R.mono k1) S1 (hx.mono k1) hw1) fun u s2 ⟨y, H2, I2, r2, d2, g2, k2, S2, t2, hw2⟩ => ?_)) hm
  have k12 := k1.trans k2
  refine thn (cmp_ok L I2 S2 (t1.mono k2) t2 r1 r2 (hx.mono k12) hw2) fun c s3 ⟨z, H3, I3, r3, d3, g3, k3, S3, t3, hw3⟩ => ?_
  have k13 := k12.trans k3
  try dsimp only at hw3
  split at hw3
  · cases t3; cases r3
    refine wpAny_truthy_bool (ite_tt (test_last (thn (h3.go I3 (R.mono k13) S3 (hx.mono k13) hw3) fun w' s4 ⟨z', H4, I4, r4, d4, g4, k4, S4, t4, hw4⟩ => ?_)))
    refine thn (cmp_ok L I4 S4 (t2.mono (k3.trans k4)) t4 r2 r4 ((hx.mono k13).mono k4) hw4) fun c s5 ⟨z5, H5, I5, r5, d5, g5, k5, S5, t5, hw5⟩ => ?_
    try dsimp only at hw5
    split at hw5
    · cases t5; cases r5
      exact wpAny_truthy_bool ⟨H5, I5, g5, (k13.trans k4).trans k5, S5, hw5⟩
    · exact hw5.elim
  · cases t3; cases r3
    exact wpAny_truthy_bool (ite_ff ⟨H3, I3, g3, k13, S3, hw3⟩)
  · exact hw3.elim
theorem je_neg (h1 : JE X W d e1 ir1) : JE X W d (.UnaryOp .USub e1 pos) (.neg ir1) := .mk fun pins s σ H env h k EX I R S hx hw => by
  unfold wE at hw
  refine UnaryOp_ (thn (h1.go I R S hx hw) fun v s1 ⟨x, H1, I1, r1, d1, g1, k1, S1, t1, hw1⟩ => ?_)
  try dsimp only at hw1
  split at hw1
  · cases t1
    exact thn (un_neg pins s1 σ H1 _ _ _ I1 r1 ⟨_, rfl, .int S1 hw1⟩) (ep_kp k1)
  · exact hw1.elim
theorem je_not (h1 : JE X W d e1 ir1) : JE X W d (.UnaryOp .Not e1 pos) (.not ir1) := .mk fun pins s σ H env h k EX I R S hx hw => by
  unfold wE at hw
  refine UnaryOp_ (thn (h1.go I R S hx hw) fun v s1 ⟨x, H1, I1, r1, d1, g1, k1, S1, t1, hw1⟩ => ?_)
  try dsimp only at hw1
  split at hw1
  · rename_i c
    cases t1; cases r1
    exact not_of (wpAny_truthy_bool ⟨.bl (!c), H1, I1, rfl, .bl _, g1, k1, S1, rfl, hw1⟩)
  · exact hw1.elim
theorem jt_not (h1 : JT X W d e1 ir1) : JT X W d (.UnaryOp .Not e1 pos) (.not ir1) := .mk fun pins s σ H env h k EX I R S hx hw => by
  unfold wT at hw
  exact isTrue_not (thn (h1.go I R S hx hw) fun r s1 ⟨H1, I1, g1⟩ => ⟨H1, I1, g1⟩)
theorem je_and {es : List Expr} (h1 : JE X W d e1 ir1) (h2 : JE X W d (.BoolOp .And (e2 :: es) pos) ir2) : JE X W d (.BoolOp .And (e1 :: e2 :: es) pos) (.and ir1 ir2) := .mk fun pins s σ H env h k EX I R S hx hw => by
  unfold wE at hw
  refine BoolOp_and (thn (h1.go I R S hx hw) fun v s1 ⟨x, H1, I1, r1, d1, g1, k1, S1, t1, hw1⟩ => ?_)
  try dsimp only at hw1
  split at hw1
  · cases t1; cases r1
    exact wpAny_truthy_bool (thn (h2.go I1 (R.mono k1) S1 (hx.mono k1) hw1) (ep_kp k1))
  · cases t1; cases r1
    exact wpAny_truthy_bool ⟨.bl false, H1, I1, rfl, .bl false, g1, k1, S1, rfl, hw1⟩
  · exact hw1.elim
theorem je_or {es : List Expr} (h1 : JE X W d e1 ir1) (h2 : JE X W d (.BoolOp .Or (e2 :: es) pos) ir2) : JE X W d (.BoolOp .Or (e1 :: e2 :: es) pos) (.or ir1 ir2) := .mk fun pins s σ H env h k EX I R S hx hw => by
  unfold wE at hw
  refine BoolOp_or (thn (h1.go I R S hx hw) fun v s1 ⟨x, H1, I1, r1, d1, g1, k1, S1, t1, hw1⟩ => ?_)
  try dsimp only at hw1
  split at hw1
  · cases t1; cases r1
    exact wpAny_truthy_bool ⟨.bl true, H1, I1, rfl, .bl true, g1, k1, S1, rfl, hw1⟩
  · cases t1; cases r1
    exact wpAny_truthy_bool (thn (h2.go I1 (R.mono k1) S1 (hx.mono k1) hw1) (ep_kp k1))
  · exact hw1.elim
theorem je_one {op : BoolOp} (h1 : JE X W d e1 ir1) : JE X W d (.BoolOp op [e1] pos) ir1 := pe_one h1
abbrev JW (X : Cx) (W : Wd) (d : Nat) (e : Expr) (ir : E) : Prop := PW X e (tT X W d ir)
theorem JW.mk (f : ∀ (wh : Sem Value) (pins : List (Addr × Obj)) (s : Shared) (σ : L2.St) (H : Hp) (env : Env) (h : Hq) (k : Bool → Hq → Prop) (EX : Xq), Inv X pins σ H s → EnvR X.K H env σ → Sim X.K h H → XOk X σ H EX → wT W.P (callW W.P W.fs d) ir env h k EX →
    wpAny (model X.prog X.w) X.A (isTrue e X.env wh) (TP X pins σ (GotT X.K H k)) X.xe s) : JW X W d e ir :=
  ⟨fun wh pins s σ H Q I ⟨env, h, k, EX, R, S, hx, hw, hq⟩ => thn (f wh pins s σ H env h k EX I R S hx hw) fun v s1 ⟨H1, I1, q1⟩ => ⟨H1, I1, hq _ _ q1⟩⟩
theorem JW.go {k : Bool → Hq → Prop} {wh : Sem Value} (j : JW X W d e ir) (I : Inv X pins σ H s) (R : EnvR X.K H env σ) (S : Sim X.K h H) (hx : XOk X σ H EX) (hw : wT W.P (callW W.P W.fs d) ir env h k EX) :
    wpAny (model X.prog X.w) X.A (isTrue e X.env wh) (TP X pins σ (GotT X.K H k)) X.xe s := j.run wh pins s σ H _ I ⟨env, h, k, EX, R, S, hx, hw, fun _ _ g => g⟩
theorem jw_and1 (h1 : JT X W d e1 ir1) : JW X W d (.BoolOp .And [e1] pos) ir1 := pw_and1 h1
theorem jw_or1 (h1 : JT X W d e1 ir1) : JW X W d (.BoolOp .Or [e1] pos) ir1 := pw_or1 h1
theorem jw_and {es : List Expr} (h1 : JT X W d e1 ir1) (h2 : JW X W d (.BoolOp .And (e2 :: es) pos) ir2) : JW X W d (.BoolOp .And (e1 :: e2 :: es) pos) (.and ir1 ir2) := .mk fun wh pins s σ H env h k EX I R S hx hw => by
  unfold wT at hw
  refine isTrue_and (thn (h1.go I R S hx hw) fun c s1 ⟨H1, I1, g1, k1, S1, hw1⟩ => ?_)
  cases c with
  | true => exact thn (h2.go I1 (R.mono k1) S1 (hx.mono k1) hw1) (tp_kp k1)
  | false => exact ⟨H1, I1, g1, k1, S1, hw1⟩
theorem jw_or {es : List Expr} (h1 : JT X W d e1 ir1) (h2 : JW X W d (.BoolOp .Or (e2 :: es) pos) ir2) : JW X W d (.BoolOp .Or (e1 :: e2 :: es) pos) (.or ir1 ir2) := .mk fun wh pins s σ H env h k EX I R S hx hw => by
  unfold wT at hw
  refine isTrue_or (thn (h1.go I R S hx hw) fun c s1 ⟨H1, I1, g1, k1, S1, hw1⟩ => ?_)
  cases c with
  | true => exact ⟨H1, I1, g1, k1, S1, hw1⟩
  | false => exact thn (h2.go I1 (R.mono k1) S1 (hx.mono k1) hw1) (tp_kp k1)
theorem je_ite (hc : JT X W d e ir) (h1 : JE X W d e1 ir1) (h2 : JE X W d e2 ir2) : JE X W d (.IfExp e e1 e2 pos) (.ite ir ir1 ir2) := .mk fun pins s σ H env h k EX I R S hx hw => by
  unfold wE at hw
  refine wpAny_IfExp (thn (hc.go I R S hx hw) fun c s1 ⟨H1, I1, g1, k1, S1, hw1⟩ => ?_)
  cases c with
  | true => exact thn (h1.go I1 (R.mono k1) S1 (hx.mono k1) hw1) (ep_kp k1)
  | false => exact thn (h2.go I1 (R.mono k1) S1 (hx.mono k1) hw1) (ep_kp k1)
def plainIr : E → Bool
  | .and _ _ => false | .or _ _ => false | .not _ => false | .cmp _ _ _ => false | .chain _ _ _ _ _ => false | .ite _ _ _ => false
  | _ => true
theorem wT_plain {P : Cl} {c : Csem} {Q : Bool → Hq → Prop} (hp : plainIr ir = true) : wT P c ir env h Q EX = wE P c ir env h (fun x h1 => opTru x h1 Q) EX := by
  cases ir <;> first | (cases hp; done) | (unfold wT; rfl)
/-- an expression as a test -/
theorem jt_val (h1 : JE X W d e1 ir1) (hp : plainIr ir1 = true) (he : ∀ whole, isTrue e1 X.env whole = (do let v ← whole; standAt e1.pos; holding [v] (truthy v))) : JT X W d e1 ir1 := .mk fun pins s σ H env h k EX I R S hx hw => by
  rw [wT_plain hp] at hw
  refine isTrue_plain (thn (h1.go I R S hx hw) fun v s1 ⟨x, H1, I1, r1, d1, g1, k1, S1, t1, hw1⟩ => ?_) (he _)
  exact thn (tru_k I1 S1 t1 r1 hw1) (tp_kp k1)
/-! ### arguments, displays -/
def nostar : Expr → Bool
  | .Starred _ _ => false
  | _ => true
theorem star_cons {es : List Expr} {en : PySem.Env} (h : nostar e = true) : starEach (e :: es) en = (false, eval e en) :: starEach es en := by
  cases e <;> first | rfl | cases h
theorem star_plain {pos : Pos} {en : PySem.Env} : ∀ {es : List Expr}, es.all nostar = true → (backTo pos (starEach es en)).any (·.1) = false
  | [], _ => rfl
  | e :: es, h => by
    rw [List.all_cons, Bool.and_eq_true] at h
    rw [star_cons h.1]
    show (false || (backTo pos (starEach es en)).any (·.1)) = false
    rw [star_plain h.2]; rfl
theorem star_few {pos : Pos} {en : PySem.Env} : ∀ {es : List Expr}, es.all nostar = true → (backTo pos (starEach es en)).all (fun x => !x.1) = true
  | [], _ => rfl
  | e :: es, h => by
    rw [List.all_cons, Bool.and_eq_true] at h
    rw [star_cons h.1]
    show (true && (backTo pos (starEach es en)).all (fun x => !x.1)) = true
    rw [star_few h.2]; rfl
theorem GotS.from {K : PySem.W.Frag} {H H1 : Hp} {k : List D → Hq → Prop} (q : Kp H H1) {r : List V} {H' : Hp} (g : GotS K H1 k r H') : GotS K H k r H' := by
  obtain ⟨ds, h', a, b, c⟩ := g
  exact ⟨ds, h', q.trans a, b, c⟩
theorem ja_nil : JA X W d [] [] := ⟨fun pos pins s σ H Q I ⟨env, h, k, EX, R, S, hx, hw, hq⟩ => by
  unfold wEs at hw
  exact Calls.spliced_nil ⟨[], H, I, .nil, hq _ _ ⟨[], h, .refl H, S, rfl, hw⟩⟩⟩
theorem ja_cons {es : List Expr} {irs : List E} (h1 : JE X W d e1 ir1) (h2 : JA X W d es irs) (hs : nostar e1 = true) : JA X W d (e1 :: es) (ir1 :: irs) := ⟨fun pos pins s σ H Q I ⟨env, h, k, EX, R, S, hx, hw, hq⟩ => by
  unfold wEs at hw
  rw [star_cons hs]
  show wpAny _ _ (spliced ((false, eval e1 X.env) :: backTo pos (starEach es X.env))) _ _ s
  refine Calls.spliced_cons (thn (h1.go I R S hx hw) fun v s1 ⟨x, H1, I1, r1, d1, g1, k1, S1, t1, hw1⟩ => ?_)
  refine thn (h2.go pos I1 (R.mono k1) S1 (hx.mono k1) hw1) fun us s2 ⟨vs, H2, I2, r2, ds, g2, k2, S2, t2, hw2⟩ => ?_
  exact ⟨x :: vs, H2, I2, .cons r1 r2, hq _ _ ⟨d1 :: ds, g2, k1.trans k2, S2, .cons (t1.mono k2) t2, hw2⟩⟩⟩
theorem line_irs {n : Nat} (h : n ≤ 1000) : n ≤ sizeLine := by rw [sizeLine_eq]; omega
theorem je_tup {es : List Expr} {irs : List E} {n : Nat} (ha : JA X W d es irs) : JE X W d (.Tuple es n pos) (.tup irs) := .mk fun pins s σ H env h k EX I R S hx hw => by
  unfold wE at hw
  refine (pe_tup ha).run pins s σ H _ I ⟨env, h, _, EX, R, S, hx, hw, fun vs H1 ⟨ds, h1, k1, S1, t1, hz, hw1⟩ => ?_⟩
  exact ⟨by rw [t1.length]; exact line_irs hz, fun p n => (Got.newT S1 t1 hw1 n).from k1⟩
theorem je_lst {es : List Expr} {irs : List E} (ha : JA X W d es irs) : JE X W d (.List es pos) (.lst irs) := .mk fun pins s σ H env h k EX I R S hx hw => by
  unfold wE at hw
  refine (pe_lst ha).run pins s σ H _ I ⟨env, h, _, EX, R, S, hx, hw, fun vs H1 ⟨ds, h1, k1, S1, t1, hz, hw1⟩ => ?_⟩
  exact ⟨by rw [t1.length]; exact line_irs hz, fun p n => (Got.newL S1 t1 hw1 n).from k1⟩
/-! ### calls -/
theorem je_call {nm : Str} {p : Pos} {es : List Expr} {irs : List E} (L : Lv X W d) (hg : Gl X nm) (hf : (W.fs nm).isSome = true) (hp : (W.path nm).2 = none) (hd : (nm == ("__debug__" : Str)) = false) (hs : (e :: es).all nostar = true) (ha : JA X W d (e :: es) irs) :
    JE X W d (.Call (.Name nm p) (e :: es) [] pos) (.call nm irs) := .mk fun pins s σ H env h k EX I R S hx hw => by
  unfold wE at hw
  obtain ⟨F, hF⟩ := Option.isSome_iff_exists.mp hf
  obtain ⟨ep, em⟩ := L.st.fnm nm F hF hp
  have ead : He.ga X.K nm = W.ad X.K nm := by show _ = He.fAd X.K (W.path nm); rw [ep]; rfl
  rw [ead] at em
  refine wpAny_Call_Name_kw (ld_glob I hg em ?_ hd)
  have hk : PySem.W.keepIn X.K (.ref (W.ad X.K nm)) = true := L.st.kp nm F hF
  rw [List.all_cons, Bool.and_eq_true] at hs
  refine PySem.W.callWith_K (h₀ := X.base) I.ok.mod.kin hk (thn (ha.go pos I R S hx hw) fun us s1 ⟨vs, H1, I1, r1, ds, h1, k1, S1, t1, hw1⟩ => ⟨I1.kIn, ?_⟩) (star_cons hs.1) (star_plain hs.2)
  exact thn (fn_run L I1 S1 t1 r1 (hx.mono k1) hw1) (ep_kp k1)
theorem je_call0 {nm : Str} {p : Pos} (L : Lv X W d) (hg : Gl X nm) (hf : (W.fs nm).isSome = true) (hp : (W.path nm).2 = none) (hd : (nm == ("__debug__" : Str)) = false) :
    JE X W d (.Call (.Name nm p) [] [] pos) (.call nm []) := .mk fun pins s σ H env h k EX I R S hx hw => by
  unfold wE wEs at hw
  obtain ⟨F, hF⟩ := Option.isSome_iff_exists.mp hf
  obtain ⟨ep, em⟩ := L.st.fnm nm F hF hp
  have ead : He.ga X.K nm = W.ad X.K nm := by show _ = He.fAd X.K (W.path nm); rw [ep]; rfl
  rw [ead] at em
  refine wpAny_Call_Name_kw (ld_glob I hg em ?_ hd)
  have hk : PySem.W.keepIn X.K (.ref (W.ad X.K nm)) = true := L.st.kp nm F hF
  exact PySem.W.callWith_K0 I.kIn hk (fn_run (ds := []) (vs := []) (us := []) L I S rfl .nil hx hw)
theorem run_makeAt {CX : CXT} {k : Nat} {C f : Addr} {fd : FuncData} {ps : List Str} {sp : Sp} {E : XK} {Q : VK} {us : List Value} {vs : List V} (M : Mk X.K C f) (F : FnOk X.prog X.w X.K X.mg X.base CX k f fd ps sp) (hr : Room (k + 1) X.A) (hb : Binds X.K fd ps [])
    (hx : PassesAt CX X σ E) (I : Inv X pins σ H s) (r : Vals vs us)
    (h : ∀ x dx, H x = none → H dx = none → dx ≠ x → sp (.ref x :: vs) (upd (upd H dx (.own x)) x (.ins C dx [])) (fun v H2 => v = .non ∧ Q (.ref x) H2) E) :
    wpAny (model X.prog X.w) X.A (call (.ref C) us) (EP X pins σ Q) X.xe s := by
  have hq := h (s.heap.objs.size + 1) s.heap.objs.size (I.hok.fresh (Nat.le_succ _)) (I.hok.fresh (Nat.le_refl _)) (Nat.ne_of_lt (Nat.lt_succ_self _))
  have I2 := Inv.made (C := C) I
  have r2 : Vals (V.ref (s.heap.objs.size + 1) :: vs) (Value.ref (s.heap.objs.size + 1) :: us) := .cons rfl r
  have hl : (Value.ref (s.heap.objs.size + 1) :: us ++ []).length = ps.length := by
    have e := r2.length
    rw [F.len _ _ _ _ hq] at e
    rw [List.append_nil]
    exact e.symm
  have hbb := hb _ (Value.ref (s.heap.objs.size + 1) :: us) I2.kIn hl
  rw [List.append_nil] at hbb
  refine wpAny_call (make_map (f := f) I.kIn M.makes M.init (beq_iff_eq.mp M.fn) (codeAny_mono (F.run _ X.stack _ _ ⟨Value.ref (s.heap.objs.size + 1) :: us, []⟩ (Value.ref (s.heap.objs.size + 1) :: us) _ _ E (hr.make C us [])
    (I2.env0.make C us []) hbb r2 hq) fun r s' hq' => ?_))
  cases r with
  | error e => exact hx pins _ _ e s' I2 hq'
  | ok fl =>
    cases fl with
    | ret u =>
      obtain ⟨v, H', I3, rv, ev, q3⟩ := I2.after hq'
      subst ev
      exact ⟨rv, ⟨V.ref (s.heap.objs.size + 1), H', I3, rfl, q3⟩⟩
    | next => exact False.elim hq'
    | brk => exact False.elim hq'
    | cont => exact False.elim hq'
theorem make_run {C key : Str} {ds : List D} {vs : List V} {us : List Value} (L : Lv X W d) (I : Inv X pins σ H s) (S : Sim X.K h H) (r : RepVs X.K H ds vs) (ru : Vals vs us) (hx : XOk X σ H EX) (hC : W.P.make C = some key) (hf : (W.fs key).isSome = true)
    (hw : ∀ p, h p = none → callW W.P W.fs d key (.ref p :: ds) (hset h p (.ins C [])) (fun v h2 => v = .non ∧ k (.ref p) h2) EX) : wpAny (model X.prog X.w) X.A (call (.ref (He.ga X.K C)) us) (EP X pins σ (Got X.K H k)) X.xe s := by
  obtain ⟨F, hF⟩ := Option.isSome_iff_exists.mp hf
  obtain ⟨fd, ok, bd⟩ := L.fn key F hF
  obtain ⟨WW, tk, hX⟩ := hx
  refine run_makeAt (E := WE WW σ) (L.st.made C key hC).2 ok L.room bd (passAt tk σ) I ru fun x dx n1 n2 n3 => ?_
  have K1 : Kp H (upd H dx (.own x)) := .new n2
  have n1' : upd H dx (.own x) x = none := by rw [upd_ne (Ne.symm n3)]; exact n1
  have K2 : Kp H (upd (upd H dx (.own x)) x (.ins (He.ga X.K C) dx [])) := K1.trans (.new n1')
  have S2 : Sim X.K (hset h x (.ins C [])) (upd (upd H dx (.own x)) x (.ins (He.ga X.K C) dx [])) := (S.hid n2).upd (.new n1') ⟨dx, [], upd_same, rfl⟩
  refine ⟨.ref x :: ds, hset h x (.ins C []), _, EX, .cons rfl (r.mono K2), S2, hw x (S.free n1), fun v H' ⟨d', h', k1, S1, r1, e1, q1⟩ => ?_, fun y h' cls dd H' e kp sm xr => hX y h' cls dd H' e (K2.trans kp) sm xr⟩
  subst e1
  cases r1
  exact ⟨rfl, .ref x, h', K2.trans k1, S1, rfl, q1⟩
theorem je_make {nm key : Str} {p : Pos} {es : List Expr} {irs : List E} (L : Lv X W d) (hC : W.P.make nm = some key) (hg : Gl X nm) (hd : (nm == ("__debug__" : Str)) = false) (hf : (W.fs key).isSome = true) (hs : (e :: es).all nostar = true) (ha : JA X W d (e :: es) irs) :
    JE X W d (.Call (.Name nm p) (e :: es) [] pos) (.make nm key irs) := .mk fun pins s σ H env h k EX I R S hx hw => by
  unfold wE at hw
  obtain ⟨em, M⟩ := L.st.made nm key hC
  refine wpAny_Call_Name_kw (ld_glob I hg em ?_ hd)
  rw [List.all_cons, Bool.and_eq_true] at hs
  refine PySem.W.callWith_K (h₀ := X.base) I.ok.mod.kin M.kp (thn (ha.go pos I R S hx hw) fun us s1 ⟨vs, H1, I1, r1, ds, h1, k1, S1, t1, hw1⟩ => ⟨I1.kIn, ?_⟩) (star_cons hs.1) (star_plain hs.2)
  exact thn (make_run L I1 S1 t1 r1 (hx.mono k1) hC hf hw1) (ep_kp k1)
theorem je_make0 {nm key : Str} {p : Pos} (L : Lv X W d) (hC : W.P.make nm = some key) (hg : Gl X nm) (hd : (nm == ("__debug__" : Str)) = false) (hf : (W.fs key).isSome = true) :
    JE X W d (.Call (.Name nm p) [] [] pos) (.make nm key []) := .mk fun pins s σ H env h k EX I R S hx hw => by
  unfold wE wEs at hw
  obtain ⟨em, M⟩ := L.st.made nm key hC
  refine wpAny_Call_Name_kw (ld_glob I hg em ?_ hd)
  exact PySem.W.callWith_K0 I.kIn M.kp (make_run (ds := []) (vs := []) (us := []) L I S rfl .nil hx hC hf hw)
theorem je_bi {nm : Str} {f : BI} {p : Pos} {es : List Expr} {irs : List E} (L : Lv X W d) (hg : Gl X nm) (hm : X.mg nm = none) (hv : bootBuiltins nm = some (biV f)) (hn : nm ≠ "__name__") (hd : (nm == ("__debug__" : Str)) = false) (hs : (e :: es).all nostar = true) (ha : JA X W d (e :: es) irs) :
    JE X W d (.Call (.Name nm p) (e :: es) [] pos) (.bi f irs) := .mk fun pins s σ H env h k EX I R S hx hw => by
  unfold wE at hw
  refine wpAny_Call_Name_kw (ld_blt I hg hm hv ?_ hn hd)
  rw [List.all_cons, Bool.and_eq_true] at hs
  have go : wpAny (model X.prog X.w) X.A (spliced (backTo pos (starEach (e :: es) X.env))) (fun us s1 => wpAny (model X.prog X.w) X.A (call (biV f) us) (EP X pins σ (Got X.K H k)) X.xe s1) X.xe s :=
    thn (ha.go pos I R S hx hw) fun us s1 ⟨vs, H1, I1, r1, ds, h1, k1, S1, t1, hw1⟩ => thn (bi_ok (EX := EX) L I1 S1 t1 r1 hw1) (ep_kp k1)
  cases hb : biV f with
  | builtin id => rw [hb] at go; exact PyProof.Rows.callWith_builtin1 go (star_cons hs.1) (star_plain hs.2)
  | type T => rw [hb] at go; exact PyProof.Rows.callWith_type1 go (star_cons hs.1) (star_plain hs.2)
  | _ => cases f <;> cases hb
/-! ### isinstance, ranges as lists -/
def ccE (P : Cl) : Cc → Expr → Bool
  | .ty b, .Name x _ => decide (x = Str.ofString b.name) && (match b with | .non => false | _ => true)
  | .own C, .Name x _ => decide (x = C) && (match P.glob C with | some (.glo C') => decide (C' = C) | _ => false)
  | _, _ => false
theorem je_isin1 {nm : Str} {p pos2 : Pos} {c : Cc} {e2 : Expr} (L : Lv X W d) (hg : Gl X "isinstance") (hm : X.mg "isinstance" = none) (hs : nostar e1 = true) (hs2 : nostar e2 = true) (h1 : JE X W d e1 ir1) (hc : PE X e2 (tC (c.vv X.K))) :
    JE X W d (.Call (.Name "isinstance" p) [e1, e2] [] pos) (.isin ir1 [c]) := .mk fun pins s σ H env h k EX I R S hx hw => by
  unfold wE at hw
  refine (pe_callB call_isi hg hm (by first | rfl | decide +kernel) (pa_cons h1 (pa_cons hc pa_nil (star_cons hs2)) (star_cons hs)) (by decide) (by decide) (star_cons hs) (star_plain (by rw [List.all_cons, hs2]; rfl))).run pins s σ H _ I ?_
  refine ⟨env, h, _, EX, R, S, hx, hw, fun v H' ⟨x, h', k1, S1, r1, hw1⟩ => ?_⟩
  have hw1 : isinD W.P x [c] h' k := hw1
  unfold isinD at hw1
  split at hw1
  · rename_i t et
    split at hw1
    · rename_i b eb
      have eb' : PySem.W.kitOne X.K (t.val X.K) (c.val X.K) = some b := by
        unfold isAny at eb
        split at eb
        · rename_i q; cases eb; exact isAns_ok L.st q
        · rename_i q; cases eb; exact isAns_ok L.st q
        · cases eb
      refine ⟨v, c.vv X.K, t.val X.K, c.val X.K, b, rfl, c.cls X.K, tyD_ok S1 r1 et fun C eC => ?_, eb', (Got.bl S1 hw1).from k1⟩
      subst eC
      unfold isAny at eb
      split at eb
      · rename_i q; exact own_seen L.st q
      · rename_i q; exact own_seen L.st q
      · cases eb
    · exact hw1.elim
  · exact hw1.elim
theorem pa_cs {cs : List Cc} : ∀ {es : List Expr}, es.all nostar = true → Paired (fun (c : Cc) e => PE X e (tC (c.vv X.K))) cs es → PA X es fun _ H Q => Q (cs.map (·.vv X.K)) H := by
  induction cs with
  | nil => intro es _ p; cases p; exact pa_nil
  | cons c cs ih =>
    intro es hs p
    cases p with
    | cons hp tp =>
      rw [List.all_cons, Bool.and_eq_true] at hs
      exact pa_cons hp (ih hs.2 tp) (star_cons hs.1)
theorem ccs_cls (K : PySem.W.Frag) : ∀ cs : List Cc, Paired ClsV (cs.map (·.vv K)) (cs.map (·.val K))
  | [] => .nil
  | c :: cs => .cons (c.cls K) (ccs_cls K cs)
theorem je_isinT {p pos2 : Pos} {cs : List Cc} {es : List Expr} {n : Nat} (L : Lv X W d) (hg : Gl X "isinstance") (hm : X.mg "isinstance" = none) (hs : nostar e1 = true) (hs2 : es.all nostar = true) (h1 : JE X W d e1 ir1) (hn : cs.length ≤ 1000) (hne : cs ≠ []) (hc : Paired (fun (c : Cc) e => PE X e (tC (c.vv X.K))) cs es) :
    JE X W d (.Call (.Name "isinstance" p) [e1, .Tuple es n pos2] [] pos) (.isin ir1 cs) := .mk fun pins s σ H env h k EX I R S hx hw => by
  unfold wE at hw
  refine (pe_callB call_isiT hg hm (by first | rfl | decide +kernel) (pa_cons h1 (pa_cons (pe_tup (pa_cs hs2 hc)) pa_nil (star_cons rfl)) (star_cons hs)) (by decide) (by decide) (star_cons hs) (star_plain rfl)).run pins s σ H _ I ?_
  refine ⟨env, h, _, EX, R, S, hx, hw, fun v H' ⟨x, h', k1, S1, r1, hw1⟩ => ?_⟩
  refine ⟨by rw [List.length_map]; exact line_irs hn, fun tp n => ?_⟩
  have hw1 : isinD W.P x cs h' k := hw1
  unfold isinD at hw1
  split at hw1
  · rename_i t et
    split at hw1
    · rename_i b eb
      refine ⟨v, tp, cs.map (·.vv X.K), t.val X.K, cs.map (·.val X.K), b, rfl, upd_same, ccs_cls X.K cs, tyD_ok (S1.hid n) (r1.mono (.new n)) et fun C eC => ?_, isAny_ok L.st eb, (Got.bl (S1.hid n) hw1).from (k1.trans (.new n))⟩
      subst eC
      cases cs with
      | nil => exact absurd rfl hne
      | cons c cs =>
        unfold isAny at eb
        split at eb
        · rename_i q; exact own_seen L.st q
        · rename_i q; exact own_seen L.st q
        · cases eb
    · exact hw1.elim
  · exact hw1.elim
theorem rep_rg (K : PySem.W.Frag) (H : Hp) (a : Int) : ∀ (n : Nat) (f : Nat → Nat), RepVs K H ((List.range n).map fun (k : Nat) => D.int (a + (k : Int))) ((List.range n).map fun i => V.int (a + (i : Nat))) := by
  intro n _
  induction List.range n with
  | nil => rfl
  | cons x xs ih => exact ⟨_, _, rfl, rfl, ih⟩
theorem rg_rep (K : PySem.W.Frag) (H : Hp) (a b : Int) : RepVs K H (rangeD a (b - a).toNat) (rgV a b) := rep_rg K H a _ id
theorem je_rngA {tup : Bool} {nm : Str} {p p2 pos2 : Pos} (L : Lv X W d) (hnm : nm = if tup then "tuple" else "list") (hg : Gl X nm) (hm : X.mg nm = none) (hg2 : Gl X "range") (hm2 : X.mg "range" = none) (hs : nostar e1 = true) (h1 : JE X W d e1 ir1) :
    JE X W d (.Call (.Name nm p) [.Call (.Name "range" p2) [e1] [] pos2] [] pos) (.rngA tup ir1) := .mk fun pins s σ H env h k EX I R S hx hw => by
  unfold wE at hw
  have hr : PRg X (.Call (.Name "range" p2) [e1] [] pos2) _ := prg_1 hg2 hm2 h1 (star_cons hs)
  cases tup with
  | false =>
    subst hnm
    refine (pe_listRg L.calm hg hm hr).run pins s σ H _ I ⟨env, h, _, EX, R, S, hx, hw, fun v H1 ⟨x, h1, k1, S1, r1, hw1⟩ => ?_⟩
    obtain ⟨j, rfl, ok, hw2⟩ := atInt_ok hw1
    cases r1
    exact ⟨j, rfl, ok, fun q n => (Got.newL S1 (rg_rep X.K H1 0 j) hw2 n).from k1⟩
  | true =>
    subst hnm
    refine (pe_tupRg L.calm hg hm hr).run pins s σ H _ I ⟨env, h, _, EX, R, S, hx, hw, fun v H1 ⟨x, h1, k1, S1, r1, hw1⟩ => ?_⟩
    obtain ⟨j, rfl, ok, hw2⟩ := atInt_ok hw1
    cases r1
    exact ⟨j, rfl, ok, fun q n => (Got.newT S1 (rg_rep X.K H1 0 j) hw2 n).from k1⟩
theorem je_rngB {tup : Bool} {nm : Str} {p p2 pos2 : Pos} (L : Lv X W d) (hnm : nm = if tup then "tuple" else "list") (hg : Gl X nm) (hm : X.mg nm = none) (hg2 : Gl X "range") (hm2 : X.mg "range" = none) (hs : nostar e1 = true) (hs2 : nostar e2 = true) (h1 : JE X W d e1 ir1) (h2 : JE X W d e2 ir2) :
    JE X W d (.Call (.Name nm p) [.Call (.Name "range" p2) [e1, e2] [] pos2] [] pos) (.rngB tup ir1 ir2) := .mk fun pins s σ H env h k EX I R S hx hw => by
  unfold wE at hw
  have hr : PRg X (.Call (.Name "range" p2) [e1, e2] [] pos2) _ := prg_2 hg2 hm2 h1 h2 (star_cons hs) (star_cons hs2) (star_plain (by rw [List.all_cons, hs2]; rfl))
  cases tup with
  | false =>
    subst hnm
    refine (pe_listRg L.calm hg hm hr).run pins s σ H _ I ⟨env, h, _, EX, R, S, hx, hw, fun v H1 ⟨x, h1, k1, S1, r1, hw1⟩ => ⟨env, h1, _, EX, R.mono k1, S1, hx.mono k1, hw1, fun u H2 ⟨y, h2, k2, S2, r2, hw2⟩ => ?_⟩⟩
    obtain ⟨i, rfl, hw3⟩ := atInt_ok hw2
    obtain ⟨j, rfl, ok, hw4⟩ := atInt_ok hw3
    cases r1; cases r2
    exact ⟨i, j, rfl, rfl, ok, fun q n => (Got.newL S2 (rg_rep X.K H2 i j) hw4 n).from (k1.trans k2)⟩
  | true =>
    subst hnm
    refine (pe_tupRg L.calm hg hm hr).run pins s σ H _ I ⟨env, h, _, EX, R, S, hx, hw, fun v H1 ⟨x, h1, k1, S1, r1, hw1⟩ => ⟨env, h1, _, EX, R.mono k1, S1, hx.mono k1, hw1, fun u H2 ⟨y, h2, k2, S2, r2, hw2⟩ => ?_⟩⟩
    obtain ⟨i, rfl, hw3⟩ := atInt_ok hw2
    obtain ⟨j, rfl, ok, hw4⟩ := atInt_ok hw3
    cases r1; cases r2
    exact ⟨i, j, rfl, rfl, ok, fun q n => (Got.newT S2 (rg_rep X.K H2 i j) hw4 n).from (k1.trans k2)⟩
/-! ### attributes, subscripts -/
def nosup : Expr → Bool
  | .Call _ _ _ _ => false
  | _ => true
theorem nosup_ok {f : Str} {en : PySem.Env} {wh : Sem Value} (h : nosup e = true) : attributeBase e f en wh = wh := by
  cases e <;> first | rfl | cases h
theorem atFs_ok {fs : List (Str × D)} {f : Str} {Q : D → Prop} (h : atFs fs f Q) : ∃ x, fs.lookup f = some x ∧ Q x := by
  unfold atFs at h
  split at h
  · exact ⟨_, by assumption, h⟩
  · exact h.elim
theorem attr_ok {f : Str} {bb : Bool} (L : Lv X W d) (I : Inv X pins σ H s) (S : Sim X.K h H) (r : RepV X.K H x v) (ra : RelV v a) (hw : opAttr W.P (callW W.P W.fs d) x f h k) : wpAny (model X.prog X.w) X.A (getAttr a f bb) (EP X pins σ (Got X.K H k)) X.xe s := by
  unfold opAttr at hw
  split at hw
  · cases r; cases ra
    split at hw
    · rename_i C fs e
      obtain ⟨dx, vs, e1, rf⟩ := S.ins e
      split at hw
      · rename_i eF
        obtain ⟨x, l, hw⟩ := atFs_ok hw
        obtain ⟨v, l2, rv⟩ := rf.lookup l
        obtain ⟨c1, c2⟩ := L.st.clsF C f eF
        exact getattr_ok I e1 c1 c2 l2 fun u s2 I2 ru => ⟨v, H, I2, ru, .flat S rv hw⟩
      · split at hw
        · rename_i key em
          obtain ⟨p, c1, hp⟩ := L.st.prop C f key em
          obtain ⟨F, hF⟩ := callW_fn hw
          obtain ⟨fd, ok, bd⟩ := L.fn key F hF
          refine getprop_ok (ds := []) (dvs := []) (E := fun _ _ _ => False) I e1 c1 hp ok L.room bd .nil (fun pins σ H s e s' I hc => ?_) ⟨_, h, k, _, .one (repRef _), S, hw, fun _ _ g => g, fun _ _ _ _ _ z => z.elim⟩
          obtain ⟨_, _, _, _, _, _, _, _, _, _, _, _, hE⟩ := hc
          exact hE
        · exact hw.elim
    · exact hw.elim
  · rename_i C
    split at hw
    · rename_i x e
      cases r; cases ra
      obtain ⟨mc, v, u, c1, c2, c3⟩ := L.st.con C f x e
      exact getcval_ok I c1 c2 fun s2 I2 => ⟨v, H, I2, c2.rel, .flat S (c3 H) hw⟩
    · exact hw.elim
  · exact hw.elim
theorem je_attr {f : Str} (L : Lv X W d) (h1 : JE X W d e1 ir1) (hb : nosup e1 = true) : JE X W d (.Attribute e1 f pos) (.attr ir1 f) := .mk fun pins s σ H env h k EX I R S hx hw => by
  unfold wE at hw
  refine attr_of (nosup_ok hb) (thn (h1.go I R S hx hw) fun v s1 ⟨x, H1, I1, r1, d1, g1, k1, S1, t1, hw1⟩ => ?_)
  exact thn (attr_ok L I1 S1 t1 r1 hw1) (ep_kp k1)
def noslice : Expr → Bool
  | .Slice _ _ _ _ => false
  | _ => true
theorem noslice_ok (h : noslice e = true) : PlainIx e := by
  intro o i
  cases e <;> first | (with_unfolding_all rfl) | cases h
theorem je_item (h1 : JE X W d e1 ir1) (h2 : JE X W d e2 ir2) (hs : noslice e2 = true) : JE X W d (.Subscript e1 e2 pos) (.item ir1 ir2) := .mk fun pins s σ H env h k EX I R S hx hw => by
  unfold wE at hw
  refine Subscript_ (thn (h1.go I R S hx hw) fun v s1 ⟨x, H1, I1, r1, d1, g1, k1, S1, t1, hw1⟩ => ?_)
  refine thn (h2.go I1 (R.mono k1) S1 (hx.mono k1) hw1) fun u s2 ⟨y, H2, I2, r2, d2, g2, k2, S2, t2, hw2⟩ => ?_
  exact thn (item_ok I2 S2 (t1.mono k2) t2 r1 r2 hw2 (noslice_ok hs _ _)) (ep_kp (k1.trans k2))
def GotO (K : PySem.W.Frag) (H : Hp) (k : Option Int → Hq → Prop) : Option Int → Hp → Prop := fun o H' => ∃ h', Kp H H' ∧ Sim K h' H' ∧ k o h'
structure JO (X : Cx) (W : Wd) (d : Nat) (e : Option Expr) (ir : Option E) : Prop where
  go : ∀ (pins : List (Addr × Obj)) (s : Shared) (σ : L2.St) (H : Hp) (env : Env) (h : Hq) (k : Option Int → Hq → Prop) (EX : Xq), Inv X pins σ H s → EnvR X.K H env σ → Sim X.K h H → XOk X σ H EX → wO W.P (callW W.P W.fs d) ir env h k EX →
    wpAny (model X.prog X.w) X.A (evalPart e X.env) (fun u s' => ∃ o H', Inv X pins σ H' s' ∧ IsPart u o ∧ GotO X.K H k o H') X.xe s
theorem jo_none : JO X W d none none := ⟨fun pins s σ H env h k EX I R S hx hw => by
  unfold wO at hw
  rw [evalPart_none]
  exact wpAny_pure ⟨none, H, I, .none, h, .refl H, S, hw⟩⟩
theorem jo_some (h1 : JE X W d e1 ir1) : JO X W d (some e1) (some ir1) := ⟨fun pins s σ H env h k EX I R S hx hw => by
  unfold wO at hw
  rw [evalPart_some]
  refine thn (h1.go I R S hx hw) fun v s1 ⟨x, H1, I1, r1, d1, g1, k1, S1, t1, hw1⟩ => ?_
  try dsimp only at hw1
  split at hw1
  · cases t1
    obtain ⟨t, rfl⟩ := r1
    exact ⟨_, H1, I1, .int _ t, g1, k1, S1, hw1⟩
  · exact hw1.elim⟩
theorem je_slice {lo hi : Option Expr} {lir hir : Option E} {p2 : Pos} (h1 : JE X W d e1 ir1) (hl : JO X W d lo lir) (hh : JO X W d hi hir) : JE X W d (.Subscript e1 (.Slice lo hi none p2) pos) (.slice ir1 lir hir) := .mk fun pins s σ H env h k EX I R S hx hw => by
  unfold wE at hw
  refine Subscript_ (thn (h1.go I R S hx hw) fun v s1 ⟨x, H1, I1, r1, d1, g1, k1, S1, t1, hw1⟩ => ?_)
  refine wpAny_Slice (thn (hl.go pins s1 σ H1 env _ _ EX I1 (R.mono k1) S1 (hx.mono k1) hw1) fun vl s2 ⟨l, H2, I2, pl, g2, k2, S2, hw2⟩ => ?_)
  have k12 := k1.trans k2
  refine thn (hh.go pins s2 σ H2 env _ _ EX I2 (R.mono k12) S2 (hx.mono k12) hw2) fun vu s3 ⟨u, H3, I3, pu, g3, k3, S3, hw3⟩ => ?_
  rw [evalPart_none]
  refine wpAny_pure ?_
  have I4 : Inv X pins σ H3 { s3 with heap := s3.heap.push { cls := .type "slice", data := .fields #[vl, vu, .none] } } := I3.kept (t' := s3.toks) fun b ob q => Heap.get?_push_of_some _ q
  obtain ⟨T, id, hT, ht, hg⟩ := slice_ok I4 S3 ((t1.mono k2).mono k3) r1 (Heap.IsSliceOf.new ..) pl pu hw3
  show wpAny (model X.prog X.w) X.A (subscriptTail e1 (.Slice lo hi none p2) v (.ref s3.heap.objs.size)) (EP X pins σ (Got X.K H k)) X.xe { s3 with heap := s3.heap.push { cls := .type "slice", data := .fields #[vl, vu, .none] } }
  exact tail_any (ops := [.ref s3.heap.objs.size, v]) ht hT (thn hg (ep_kp (k12.trans k3))) (by with_unfolding_all rfl)
end
end MP
/-! The small Python's judgements: methods, what is walked, comprehensions. -/
namespace MP
open PySem PySem.Spec PyProof.Rows L2 ClX
theorem meth_tree {prog : Program} {w : World} {A : Around} {E : Value → Shared → Prop} {s : Shared} {env : PySem.Env} {o : Expr} {name : Str} {apos pos : Pos} {args : List Expr} {Q : Value → Shared → Prop}
    (hbase : attributeBase o name env (eval o env) = eval o env) (hs : args.all nostar = true) (hn : args.length < 29) (hline : (apos.endLine == pos.line) = true)
    (h : wpAny (model prog w) A (eval o env) (fun ov s₁ => ∀ pl, wpAny (model prog w) A (getMethod ov name pl) (fun fx s₂ => wpAny (model prog w) A (callWith pos fx.1 fx.2 (backTo pos (starEach args env)) []) Q E s₂) E s₁) E s) :
    wpAny (model prog w) A (eval (.Call (.Attribute o name apos) args [] pos) env) Q E s := by
  have hform : methodCallForm (args.length + ([] : List Keyword).length) (backTo pos (starEach args env)) (backToKw pos (keywordEach [] env)) = true := by
    unfold methodCallForm
    rw [star_few hs]
    show (true && true && decide (args.length + 0 + 0 < 30)) = true
    simp; omega
  have hpos : methodCallPos true o env apos pos = pure pos := by unfold methodCallPos; simp [hline]
  rw [arm_eval_Call, hbase]
  refine wpAny_bind (wpAny_mono h (fun ov s₁ h₁ => ?_) fun _ _ e => e)
  refine wpAny_bind (wpAny_standAt ?_)
  unfold methodCall
  rw [hform]
  refine wpAny_bind (wpAny_holding (wpAny_mono (h₁ _) (fun fx s₂ h₂ => ?_) fun _ _ e => e))
  obtain ⟨f, first⟩ := fx
  exact wpAny_bind (wpAny_of_eq hpos h₂)
/-- a method of a built-in type, by its name -/
theorem slotLst {b : BM} {nm : Str} {id : String} (h : bmLst b = some (nm, id)) : Slot "list" nm id ∧ typeOf (.builtin id) = pure (.type "method_descriptor") := by
  cases b <;> cases h
  · exact ⟨F.slot_list_append, F.type_list_append⟩
  · exact ⟨F.slot_list_insert, F.type_list_insert⟩
  · exact ⟨F.slot_list_pop, F.type_list_pop⟩
  · exact ⟨F.slot_list_extend, F.type_list_extend⟩
  · exact ⟨F.slot_list_clear, F.type_list_clear⟩
  · exact ⟨F.slot_list_index, F.type_list_index⟩
theorem slotStr {b : BM} {nm : Str} {id : String} (h : bmStr b = some (nm, id)) : Slot "str" nm id ∧ typeOf (.builtin id) = pure (.type "method_descriptor") := by
  cases b <;> cases h
  · exact ⟨F.slot_str_split, F.type_str_split⟩
  · exact ⟨F.slot_str_join, F.type_str_join⟩
/-- b stands for the name m of lists and texts -/
def bmOk (m : Str) (b : BM) : Bool := (match bmLst b with | some (n, _) => decide (n = m) | none => true) && (match bmStr b with | some (n, _) => decide (n = m) | none => true)
section
variable {X : Cx} {W : Wd} {d : Nat} {pins : List (Addr × Obj)} {s : Shared} {σ : L2.St} {H : Hp} {h : Hq} {k : Kq} {EX : Xq} {x y : D} {v u : V} {a b : Value} {env : Env} {e e1 e2 e3 : Expr} {ir ir1 ir2 ir3 : E} {pos : Pos}
theorem isList_ty {p : Addr} {vs : List V} (I : Inv X pins σ H s) (e : H p = some (.lst vs)) : s.TypeIs (.ref p) "list" ∧ ∃ o, s.heap.get? p = some o ∧ o.dict = none := by
  obtain ⟨z, its, n, r, hl, e1⟩ := I.lstM e
  exact ⟨⟨_, e1, rfl⟩, _, e1, rfl⟩
theorem je_meth {m : Str} {bm : BM} {apos : Pos} {es : List Expr} {irs : List E} (L : Lv X W d) (h1 : JE X W d e1 ir1) (ha : JA X W d (e :: es) irs) (hb : nosup e1 = true) (hs : (e :: es).all nostar = true) (hn : (e :: es).length < 29) (hl : (apos.endLine == pos.line) = true) (hbm : bmOk m bm = true) :
    JE X W d (.Call (.Attribute e1 m apos) (e :: es) [] pos) (.meth ir1 m bm irs) := .mk fun pins s σ H env h k EX I R S hx hw => by
  unfold wE at hw
  refine meth_tree (nosup_ok hb) hs hn hl (thn (h1.go I R S hx hw) fun a s1 ⟨v, H1, I1, ra, x, g1, k1, S1, t1, hw1⟩ pl => ?_)
  have hs0 := hs
  rw [List.all_cons, Bool.and_eq_true] at hs0
  replace hw1 : match mkOf W.P x m bm g1 with
    | some K => wEs W.P (callW W.P W.fs d) irs env g1 (fun ds h2 => mth (callW W.P W.fs d) K x bm ds h2 k EX) EX
    | none => False := hw1
  unfold mkOf at hw1
  split at hw1
  · rename_i K eK
    split at eK
    · -- a text
      rename_i z
      by_cases qb : (bmStr bm).isSome = true
      case neg => rw [if_neg qb] at eK; cases eK
      rw [if_pos qb] at eK
      cases eK
      cases t1
      obtain ⟨t, rfl⟩ := ra
      cases hq : bmStr bm with
      | none =>
        rw [hq] at qb; cases qb
      | some q =>
        obtain ⟨nm, id⟩ := q
        have e1 : nm = m := by
          unfold bmOk at hbm
          rw [hq, Bool.and_eq_true] at hbm
          exact of_decide_eq_true hbm.2
        subst e1
        obtain ⟨sl, ty⟩ := slotStr hq
        refine getMethod_builtin (typeIs_str _ _ _) F.plainAttrs_str sl ty (fun _ e => nomatch e) ?_
        refine Calls.callWith_builtin (star_plain hs) ?_
        have go := ha.go pos I1 (R.mono k1) S1 (hx.mono k1) hw1
        rw [star_cons hs0.1] at go ⊢
        refine Calls.evalArgs_plain (thn go fun us s2 ⟨vs, H2, I2, r2, ds, g2, k2, S2, t2, hw2⟩ => ?_)
        exact thn (mthStr_ok I2 S2 t2 r2 hq hw2) (ep_kp (k1.trans k2))
    · rename_i p
      cases t1; cases ra
      split at eK
      · -- a list
        rename_i ds e1
        by_cases qb : (bmLst bm).isSome = true
        case neg => rw [if_neg qb] at eK; cases eK
        rw [if_pos qb] at eK
        cases eK
        obtain ⟨ys, e2, _⟩ := S1.lst e1
        cases hq : bmLst bm with
        | none =>
          rw [hq] at qb; cases qb
        | some q =>
          obtain ⟨nm, id⟩ := q
          have e1 : nm = m := by
            unfold bmOk at hbm
            rw [hq, Bool.and_eq_true] at hbm
            exact of_decide_eq_true hbm.1
          subst e1
          obtain ⟨sl, ty⟩ := slotLst hq
          obtain ⟨i1, i2⟩ := isList_ty I1 e2
          refine getMethod_builtin i1 F.plainAttrs_list sl ty (fun a e => by cases e; exact i2) ?_
          refine Calls.callWith_builtin (star_plain hs) ?_
          have go := ha.go pos I1 (R.mono k1) S1 (hx.mono k1) hw1
          rw [star_cons hs0.1] at go ⊢
          refine Calls.evalArgs_plain (thn go fun us s2 ⟨vs, H2, I2, r2, ds, g2, k2, S2, t2, hw2⟩ => ?_)
          have hw2 : mthB (.ref p) bm ds g2 k := hw2
          unfold mthB at hw2
          dsimp only at hw2
          split at hw2
          · rename_i e3
            exact thn (mthLst_ok I2 S2 e3 t2 r2 hq hw2) (ep_kp (k1.trans k2))
          · exact hw2.elim
      · -- an instance
        rename_i C fs e1
        obtain ⟨dx, vs, e2, rf⟩ := S1.ins e1
        split at eK
        · cases eK
        · rename_i el
          split at eK
          · rename_i key em
            cases eK
            have M := L.st.meth C m key em
            have c := L.st.cls C m key 0 em
            refine getmeth_ok I1 e2 c M (rf.lookup_none el) ?_
            refine PySem.W.callWith_K (first := [.ref p]) (h₀ := X.base) I.ok.mod.kin M.kp (thn (ha.go pos I1 (R.mono k1) S1 (hx.mono k1) hw1) fun us s2 ⟨vs, H2, I2, r2, ds, g2, k2, S2, t2, hw2⟩ => ⟨I2.kIn, ?_⟩) (star_cons hs0.1) (star_plain hs0.2)
            exact thn (fn_run (ds := .ref p :: ds) (vs := .ref p :: vs) (us := .ref p :: us) L I2 S2 (.cons (repRef p) t2) (.cons (relRef p) r2) ((hx.mono k1).mono k2) hw2) (ep_kp (k1.trans k2))
          · cases eK
      · cases eK
    · cases eK
  · exact hw1.elim
theorem je_meth0 {m : Str} {bm : BM} {apos : Pos} (L : Lv X W d) (h1 : JE X W d e1 ir1) (hb : nosup e1 = true) (hl : (apos.endLine == pos.line) = true) (hbm : bmOk m bm = true) :
    JE X W d (.Call (.Attribute e1 m apos) [] [] pos) (.meth ir1 m bm []) := .mk fun pins s σ H env h k EX I R S hx hw => by
  unfold wE at hw
  refine meth_tree (nosup_ok hb) rfl (by decide) hl (thn (h1.go I R S hx hw) fun a s1 ⟨v, H1, I1, ra, x, g1, k1, S1, t1, hw1⟩ pl => ?_)
  replace hw1 : match mkOf W.P x m bm g1 with
    | some K => wEs W.P (callW W.P W.fs d) [] env g1 (fun ds h2 => mth (callW W.P W.fs d) K x bm ds h2 k EX) EX
    | none => False := hw1
  unfold wEs at hw1
  unfold mkOf at hw1
  split at hw1
  · rename_i K eK
    split at eK
    · -- a text
      rename_i z
      by_cases qb : (bmStr bm).isSome = true
      case neg => rw [if_neg qb] at eK; cases eK
      rw [if_pos qb] at eK
      cases eK
      cases t1
      obtain ⟨t, rfl⟩ := ra
      cases hq : bmStr bm with
      | none =>
        rw [hq] at qb; cases qb
      | some q =>
        obtain ⟨nm, id⟩ := q
        have e1 : nm = m := by
          unfold bmOk at hbm
          rw [hq, Bool.and_eq_true] at hbm
          exact of_decide_eq_true hbm.2
        subst e1
        obtain ⟨sl, ty⟩ := slotStr hq
        refine getMethod_builtin (typeIs_str _ _ _) F.plainAttrs_str sl ty (fun _ e => nomatch e) ?_
        refine Calls.callWith_builtin rfl (PySem.evalArgs_none ?_)
        exact thn (mthStr_ok (us := []) (vs := []) I1 S1 (show RepVs X.K H1 [] [] from rfl) .nil hq hw1) (ep_kp k1)
    · rename_i p
      cases t1; cases ra
      split at eK
      · -- a list
        rename_i ds e1
        by_cases qb : (bmLst bm).isSome = true
        case neg => rw [if_neg qb] at eK; cases eK
        rw [if_pos qb] at eK
        cases eK
        obtain ⟨ys, e2, _⟩ := S1.lst e1
        cases hq : bmLst bm with
        | none =>
          rw [hq] at qb; cases qb
        | some q =>
          obtain ⟨nm, id⟩ := q
          have e1 : nm = m := by
            unfold bmOk at hbm
            rw [hq, Bool.and_eq_true] at hbm
            exact of_decide_eq_true hbm.1
          subst e1
          obtain ⟨sl, ty⟩ := slotLst hq
          obtain ⟨i1, i2⟩ := isList_ty I1 e2
          refine getMethod_builtin i1 F.plainAttrs_list sl ty (fun a e => by cases e; exact i2) ?_
          refine Calls.callWith_builtin rfl (PySem.evalArgs_none ?_)
          have hw2 : mthB (.ref p) bm [] g1 k := hw1
          unfold mthB at hw2
          dsimp only at hw2
          split at hw2
          · rename_i e3
            exact thn (mthLst_ok (us := []) (vs := []) I1 S1 e3 (show RepVs X.K H1 [] [] from rfl) .nil hq hw2) (ep_kp k1)
          · exact hw2.elim
      · -- an instance
        rename_i C fs e1
        obtain ⟨dx, vs, e2, rf⟩ := S1.ins e1
        split at eK
        · cases eK
        · rename_i el
          split at eK
          · rename_i key em
            cases eK
            have M := L.st.meth C m key em
            have c := L.st.cls C m key 0 em
            refine getmeth_ok I1 e2 c M (rf.lookup_none el) ?_
            refine PySem.W.callWith_K0 (first := [.ref p]) I1.kIn M.kp ?_
            exact thn (fn_run (ds := [.ref p]) (vs := [.ref p]) (us := [.ref p]) L I1 S1 (.cons (repRef p) rfl) (.cons (relRef p) .nil) (hx.mono k1) hw1) (ep_kp k1)
          · cases eK
      · cases eK
    · cases eK
  · exact hw1.elim
end
end MP
/-! The small Python's judgements: targets, what is walked, comprehensions, statements. -/
namespace MP
open PySem PySem.Spec PyProof.Rows L2 ClX

/-! ### targets -/
def GotG (K : PySem.W.Frag) (H : Hp) (q : Env → Hq → Prop) : L2.St → Hp → Prop := fun σ' H' => ∃ env' h', Kp H H' ∧ Sim K h' H' ∧ EnvR K H' env' σ' ∧ q env' h'
/-- only the slots js differ -/
def Same (js : List Nat) (σ σ' : List (Option V)) : Prop := σ'.length = σ.length ∧ ∀ j, j ∉ js → σ'[j]? = σ[j]?
theorem Same.refl {js : List Nat} {σ : List (Option V)} : Same js σ σ := ⟨rfl, fun _ _ => rfl⟩
theorem Same.trans {js ks : List Nat} {σ σ1 σ2 : List (Option V)} (a : Same js σ σ1) (b : Same ks σ1 σ2) : Same (js ++ ks) σ σ2 :=
  ⟨b.1.trans a.1, fun j h => by rw [List.mem_append, not_or] at h; exact (b.2 j h.2).trans (a.2 j h.1)⟩
theorem wipe_in {σ : List (Option V)} {i : Nat} : ∀ {vs : List Nat}, i ∈ vs → (L2.wipe σ vs)[i]? = if i < σ.length then some none else none
  | v :: vs, h => by
    show ((L2.wipe σ vs).set v none)[i]? = _
    by_cases e : v = i
    · subst e
      by_cases hl : v < σ.length
      · rw [if_pos hl, List.getElem?_set_self (by rw [L2.wipe_length]; exact hl)]
      · rw [if_neg hl, List.getElem?_eq_none (by rw [List.length_set, L2.wipe_length]; omega)]
    · rw [List.getElem?_set_ne e]
      rcases List.mem_cons.mp h with z | z
      · exact absurd z.symm e
      · exact wipe_in z
theorem Same.wipe {js vs : List Nat} {σ σ' : List (Option V)} (a : Same js σ σ') (h : ∀ j ∈ js, j ∈ vs) : L2.wipe σ' vs = L2.wipe σ vs := by
  refine List.ext_getElem? fun i => ?_
  by_cases q : i ∈ vs
  · rw [wipe_in q, wipe_in q, a.1]
  · rw [L2.wipe_out q, L2.wipe_out q]
    exact a.2 i fun z => q (h i z)
mutual
def slotsT : T → List Nat
  | .var i => [i]
  | .tup ts => slotsTs ts
  | _ => []
def slotsTs : List T → List Nat
  | [] => []
  | t :: ts => slotsT t ++ slotsTs ts
end
section
variable (X : Cx) (W : Wd) (d : Nat)
def tG (ir : T) : TG := fun v σ H Q => ∃ (env : Env) (h : Hq) (x : D) (q : Env → Hq → Prop) (EX : Xq), EnvR X.K H env σ ∧ Sim X.K h H ∧ RepV X.K H x v ∧ XOk X σ H EX ∧ wG W.P (callW W.P W.fs d) ir x env h q EX ∧
  ∀ σ' H', Same (slotsT ir) σ σ' → GotG X.K H q σ' H' → Q σ' H'
def tGs (irs : List T) : TGs := fun vs σ H Q => ∃ (env : Env) (h : Hq) (xs : List D) (q : Env → Hq → Prop), EnvR X.K H env σ ∧ Sim X.K h H ∧ RepVs X.K H xs vs ∧ wGs W.P (callW W.P W.fs d) irs xs env h q (fun _ _ => False) ∧
  ∀ σ' H', Same (slotsTs irs) σ σ' → GotG X.K H q σ' H' → Q σ' H'
abbrev JG (e : Expr) (ir : T) : Prop := PG X e (tG X W d ir)
abbrev JGs (es : List Expr) (irs : List T) : Prop := PGs X es (tGs X W d irs)
end
section
variable {X : Cx} {W : Wd} {d : Nat} {pins : List (Addr × Obj)} {s : Shared} {σ : L2.St} {H : Hp} {h : Hq} {k : Kq} {EX : Xq} {x y : D} {v u : V} {a b : Value} {env : Env} {e e1 e2 e3 : Expr} {ir ir1 ir2 ir3 : E} {pos : Pos} {t : T}
theorem jg_nope : JG X W d e .nope := ⟨fun pins s σ H v u Q I r ⟨env, h, x, q, EX, R, S, rx, hx, hw, hq⟩ => by
  unfold wG at hw
  exact hw.elim⟩
theorem jg_var {i : Nat} {nm : Str} (L : Lv X W d) (hi : X.N[i]? = some nm) (hx : Loc X.env.scope nm) (hf : X.fn nm = true ∨ X.env.scope.names.lookup nm = some .local) : JG X W d (.Name nm pos) (.var i) := ⟨fun pins s σ H v u Q I r ⟨env, h, x, q, EX, R, S, rx, hX, hw, hq⟩ => by
  unfold wG at hw
  refine (pg_name L.nd hi hx hf).run pins s σ H v u Q I r (hq _ _ ⟨by rw [List.length_set], fun j hj => ?_⟩ ⟨_, h, .refl H, S, R.set i rx, hw⟩)
  unfold slotsT at hj
  rw [List.mem_singleton] at hj
  rw [List.getElem?_set_ne (Ne.symm hj)]⟩
theorem jgs_nil : JGs X W d [] [] := ⟨fun pins s σ H vs us Q I r ⟨env, h, xs, q, R, S, rx, hw, hq⟩ => by
  unfold wGs at hw
  obtain ⟨e, hw⟩ := hw
  subst e
  cases rx
  exact pgs_nil.run pins s σ H _ us Q I r ⟨rfl, hq _ _ .refl ⟨env, h, .refl H, S, R, hw⟩⟩⟩
theorem asg_cons {es : List Expr} {en : PySem.Env} (h : nostar e = true) : (assignEach (e :: es) en).map (·.2) = assign e en :: (assignEach es en).map (·.2) := by
  cases e <;> first | rfl | cases h
theorem jgs_cons {es : List Expr} {ts : List T} (h1 : JG X W d e t) (h2 : JGs X W d es ts) (hs : nostar e = true) : JGs X W d (e :: es) (t :: ts) := ⟨fun pins s σ H vs us Q I r ⟨env, h, xs, q, R, S, rx, hw, hq⟩ => by
  unfold wGs at hw
  split at hw
  · exact hw.elim
  · obtain ⟨v, vr, rfl, r1, r2⟩ := rx
    refine (pgs_cons h1 h2 (asg_cons hs)).run pins s σ H _ us Q I r ⟨v, vr, rfl, env, h, _, _, _, R, S, r1, .no, hw, fun σ1 H1 s1 ⟨env1, h1, k1, S1, R1, hw1⟩ => ?_⟩
    refine ⟨env1, h1, _, q, R1, S1, r2.mono k1, hw1, fun σ2 H2 s2 ⟨env2, h2, k2, S2, R2, hw2⟩ => hq _ _ ?_ ⟨env2, h2, k1.trans k2, S2, R2, hw2⟩⟩
    unfold slotsTs
    exact s1.trans s2⟩
theorem asg_len {en : PySem.Env} : ∀ es : List Expr, (assignEach es en).length = es.length
  | [] => rfl
  | e :: es => by cases e <;> (show (assignEach es en).length + 1 = _; rw [asg_len es]; rfl)
theorem asg_nost {en : PySem.Env} : ∀ {es : List Expr}, es.all nostar = true → (assignEach es en).findIdx? (·.1) = none
  | [], _ => rfl
  | e :: es, h => by
    rw [List.all_cons, Bool.and_eq_true] at h
    have e1 : assignEach (e :: es) en = (false, assign e en) :: assignEach es en := by
      have := h.1
      cases e <;> first | rfl | cases this
    rw [e1, List.findIdx?_cons, asg_nost h.2]
    rfl
theorem jg_tup {es : List Expr} {ts : List T} {n : Nat} (L : Lv X W d) (h1 : JGs X W d es ts) (hs : es.all nostar = true) (hn : es.length = ts.length) : JG X W d (.Tuple es n pos) (.tup ts) := ⟨fun pins s σ H v u Q I r ⟨env, h, x, q, EX, R, S, rx, hX, hw, hq⟩ => by
  unfold wG at hw
  split at hw
  · obtain ⟨p, vs, rfl, t, rs⟩ := rx
    refine (pg_tup (n := ts.length) L.calm h1 (by rw [asg_len]; exact hn) (asg_nost hs)).run pins s σ H _ u Q I r ⟨p, vs, rfl, t, by rw [rs.length]; exact hw.1, env, h, _, q, R, S, rs, hw.2, fun σ' H' sm g => hq _ _ ?_ g⟩
    unfold slotsT; exact sm
  · exact hw.elim⟩
theorem jg_item (h1 : JE X W d e1 ir1) (h2 : JE X W d e2 ir2) (hs : noslice e2 = true) : JG X W d (.Subscript e1 e2 pos) (.item ir1 ir2) := ⟨fun pins s σ H v u Q I r ⟨env, h, x, q, EX, R, S, rx, hX, hw, hq⟩ => by
  unfold wG at hw
  refine (pg_sub h1 h2 set_list ?_).run pins s σ H v u Q I r ?_
  · intro v
    cases e2 <;> first | rfl | cases hs
  · refine ⟨env, h, _, EX, R, S, hX, hw, fun ov H1 ⟨o, h1, k1, S1, ro, hw1⟩ => ⟨env, h1, _, EX, R.mono k1, S1, hX.mono k1, hw1, fun iv H2 ⟨i, h2, k2, S2, ri, hw2⟩ => ?_⟩⟩
    try dsimp only at hw2
    split at hw2
    · cases ri
      cases ro
      split at hw2
      · rename_i e
        obtain ⟨vs, e3, rs⟩ := S2.lst e
        split at hw2
        · rename_i j ej
          refine ⟨_, vs, _, j, rfl, rfl, e3, by rw [rs.length]; exact ej, ?_⟩
          have kw : Kp H2 _ := .lst (ws := vs.set j v) e3
          exact hq _ _ .refl ⟨env, _, (k1.trans k2).trans kw, S2.putL e3 (rs.set j (rx.mono (k1.trans k2))), R.mono ((k1.trans k2).trans kw), hw2⟩
        · exact hw2.elim
      · exact hw2.elim
    · exact hw2.elim⟩
/-! ### what is walked -/
structure Walk (K : PySem.W.Frag) (H0 : Hp) (J : It) (ds : List D) (grd : Hq → Prop) : Prop where
  go : ∀ (h : Hq) (H : Hp) (i : Nat) (x : D), Kp H0 H → Sim K h H → grd h → ds[i]? = some x → J.go i H ∧ ∀ v H', J.yld i H v H' → Kp H H' ∧ Sim K h H' ∧ RepV K H' x v
  stop : ∀ (h : Hq) (H : Hp) (i : Nat), Kp H0 H → Sim K h H → grd h → ds.length ≤ i → J.stop i H
def tI (X : Cx) (W : Wd) (d : Nat) (ir : I) : TI := fun σ H R => ∃ (env : Env) (h : Hq) (k : Kit) (EX : Xq), EnvR X.K H env σ ∧ Sim X.K h H ∧ XOk X σ H EX ∧ wI W.P (callW W.P W.fs d) ir env h k EX ∧
  ∀ ds grd h' H' J, Kp H H' → Sim X.K h' H' → Walk X.K H' J ds grd → k ds grd h' → R J H'
abbrev JI (X : Cx) (W : Wd) (d : Nat) (tg it : Expr) (ir : I) : Prop := PI X tg it (tI X W d ir)
theorem ji_nope {tg : Expr} : JI X W d tg e .nope := ⟨fun pins s σ H R I ⟨env, h, k, EX, Rr, S, hx, hw, hq⟩ => by
  unfold wI at hw
  exact hw.elim⟩
theorem list_end {a : Nat} {n : Nat} {l : List D} {p : Addr} {vs : List V} (rs : RepVs X.K H l vs) (q : l.length ≤ n) : vs.length ≤ n := by rw [rs.length]; exact q
/-- a list of the small heap -/
theorem walk_lst {p : Addr} {ds : List D} {H0 : Hp} : Walk X.K H0 (Itl X.K p) ds (fun h' => h' p = some (.lst ds)) where
  go := fun h H i x k S g e => by
    obtain ⟨vs, e1, rs⟩ := S.lst g
    obtain ⟨v, e2, r⟩ := rs.get e
    refine ⟨⟨vs, v, .of e1, e2⟩, fun w H' ⟨eH, y⟩ => ?_⟩
    subst eH
    have := y vs (.of e1)
    rw [e2] at this; cases this
    exact ⟨.refl _, S, r⟩
  stop := fun h H i k S g e => by
    obtain ⟨vs, e1, rs⟩ := S.lst g
    exact ⟨vs, .of e1, by rw [rs.length]; exact e⟩
theorem walk_tup {p : Addr} {ds : List D} {vs : List V} {H0 : Hp} (t : SqT X.K H0 p vs) (rs : RepVs X.K H0 ds vs) : Walk X.K H0 (Itt X.K p) ds (fun _ => True) where
  go := fun h H i x k S g e => by
    obtain ⟨v, e2, r⟩ := rs.get e
    refine ⟨⟨vs, v, k.sqT t, e2⟩, fun w H' ⟨eH, y⟩ => ?_⟩
    subst eH
    have := y vs (k.sqT t)
    rw [e2] at this; cases this
    exact ⟨.refl _, S, r.mono k⟩
  stop := fun h H i k S g e => ⟨vs, k.sqT t, by rw [rs.length]; exact e⟩
theorem walk_rol {p : Addr} {ds : List D} {vs : List V} {H0 : Hp} (t : Ro X.K H0 p vs) (rs : RepVs X.K H0 ds vs) : Walk X.K H0 (Itl X.K p) ds (fun _ => True) where
  go := fun h H i x k S g e => by
    obtain ⟨v, e2, r⟩ := rs.get e
    refine ⟨⟨vs, v, (k.ro t).sq, e2⟩, fun w H' ⟨eH, y⟩ => ?_⟩
    subst eH
    have := y vs (k.ro t).sq
    rw [e2] at this; cases this
    exact ⟨.refl _, S, r.mono k⟩
  stop := fun h H i k S g e => ⟨vs, (k.ro t).sq, by rw [rs.length]; exact e⟩
theorem walk_str {z : Str} {H0 : Hp} : Walk X.K H0 (Its z) (z.cps.toList.map fun n => D.str ⟨#[n]⟩) (fun _ => True) where
  go := fun h H i x k S g e => by
    rw [List.getElem?_map] at e
    cases q : z.cps.toList[i]? with
    | none => rw [q] at e; cases e
    | some c =>
      rw [q] at e; cases e
      rw [Array.getElem?_toList] at q
      have hi : i < z.cps.size := (Array.getElem?_eq_some_iff.mp q).1
      refine ⟨hi, fun w H' ⟨eH, c', y, ew⟩ => ?_⟩
      subst eH
      rw [q] at y; cases y
      exact ⟨.refl _, S, ew⟩
  stop := fun h H i k S g e => by
    rw [List.length_map, Array.length_toList] at e
    exact e
theorem walk_rng {lo : Int} {n : Nat} {H0 : Hp} : Walk X.K H0 (Itr lo n) (rangeD lo n) (fun _ => True) where
  go := fun h H i x k S g e => by
    unfold rangeD at e
    rw [List.getElem?_map] at e
    by_cases q : i < n
    · rw [List.getElem?_range q] at e; cases e
      refine ⟨q, fun w H' ⟨eH, y⟩ => ?_⟩
      subst eH
      exact ⟨.refl _, S, y⟩
    · rw [List.getElem?_eq_none (by simpa using q)] at e; cases e
  stop := fun h H i k S g e => by
    unfold rangeD at e
    rw [List.length_map, List.length_range] at e
    exact e
theorem walk_rngC {lo c : Int} {n : Nat} {H0 : Hp} : Walk X.K H0 (Itc lo c n) (rangeDs lo c n) (fun _ => True) where
  go := fun h H i x k S g e => by
    unfold rangeDs at e
    rw [List.getElem?_map] at e
    by_cases q : i < n
    · rw [List.getElem?_range q] at e; cases e
      refine ⟨q, fun w H' ⟨eH, y⟩ => ?_⟩
      subst eH
      exact ⟨.refl _, S, y⟩
    · rw [List.getElem?_eq_none (by simpa using q)] at e; cases e
  stop := fun h H i k S g e => by
    unfold rangeDs at e
    rw [List.length_map, List.length_range] at e
    exact e
/-- the walk of pairs that are laid anew -/
theorem pair_new {p : Addr} {x y : D} {v u : V} (S : Sim X.K h H) (n : H p = none) (r1 : RepV X.K H x v) (r2 : RepV X.K H y u) : Kp H (upd H p (.tup [v, u])) ∧ Sim X.K h (upd H p (.tup [v, u])) ∧ RepV X.K (upd H p (.tup [v, u])) (.tup [x, y]) (.ref p) :=
  ⟨.new n, S.hid n, .tup n (.cons r1 (.one r2))⟩
theorem walk_enumL {p : Addr} {ds : List D} {H0 : Hp} : Walk X.K H0 (Ite X.K p) (enumD ds) (fun h' => h' p = some (.lst ds)) where
  go := fun h H i x k S g e => by
    obtain ⟨vs, e1, rs⟩ := S.lst g
    unfold enumD at e
    rw [List.getElem?_mapIdx] at e
    cases q : ds[i]? with
    | none => rw [q] at e; cases e
    | some d0 =>
      rw [q] at e; cases e
      obtain ⟨v, e2, r⟩ := rs.get q
      refine ⟨⟨vs, v, .of e1, e2⟩, fun w H' ⟨T, v', ew, nT, eH, y⟩ => ?_⟩
      have := y vs (.of e1)
      rw [e2] at this; cases this
      subst ew; subst eH
      exact pair_new S nT rfl r
  stop := fun h H i k S g e => by
    obtain ⟨vs, e1, rs⟩ := S.lst g
    refine ⟨vs, .of e1, ?_⟩
    unfold enumD at e
    rw [List.length_mapIdx] at e
    rw [rs.length]; exact e
theorem walk_enumR {p : Addr} {ds : List D} {vs : List V} {H0 : Hp} (t : Ro X.K H0 p vs) (rs : RepVs X.K H0 ds vs) : Walk X.K H0 (Ite X.K p) (enumD ds) (fun _ => True) where
  go := fun h H i x k S g e => by
    unfold enumD at e
    rw [List.getElem?_mapIdx] at e
    cases q : ds[i]? with
    | none => rw [q] at e; cases e
    | some d0 =>
      rw [q] at e; cases e
      obtain ⟨v, e2, r⟩ := rs.get q
      refine ⟨⟨vs, v, (k.ro t).sq, e2⟩, fun w H' ⟨T, v', ew, nT, eH, y⟩ => ?_⟩
      have := y vs (k.ro t).sq
      rw [e2] at this; cases this
      subst ew; subst eH
      exact pair_new S nT rfl (r.mono k)
  stop := fun h H i k S g e => by
    refine ⟨vs, (k.ro t).sq, ?_⟩
    unfold enumD at e
    rw [List.length_mapIdx] at e
    rw [rs.length]; exact e
theorem zip_get {ds es : List D} {i : Nat} {x : D} (e : (zipD ds es)[i]? = some x) : ∃ a b, ds[i]? = some a ∧ es[i]? = some b ∧ x = .tup [a, b] := by
  unfold zipD at e
  rw [List.getElem?_zipWith] at e
  split at e
  · cases e; exact ⟨_, _, by assumption, by assumption, rfl⟩
  · cases e
theorem walk_zipL {p q : Addr} {ds es : List D} {H0 : Hp} : Walk X.K H0 (Itz X.K p q) (zipD ds es) (fun h' => h' p = some (.lst ds) ∧ h' q = some (.lst es)) where
  go := fun h H i x k S g e => by
    obtain ⟨vs, e1, rs⟩ := S.lst g.1
    obtain ⟨us, f1, qs⟩ := S.lst g.2
    obtain ⟨a, b, ea, eb, rfl⟩ := zip_get e
    obtain ⟨v, e2, r⟩ := rs.get ea
    obtain ⟨u, f2, r2⟩ := qs.get eb
    refine ⟨⟨vs, us, v, u, .of e1, .of f1, e2, f2⟩, fun w H' ⟨T, v', u', ew, nT, eH, y, z⟩ => ?_⟩
    have h1 := y vs (.of e1)
    rw [e2] at h1; cases h1
    have h2 := z us (.of f1)
    rw [f2] at h2; cases h2
    subst ew; subst eH
    exact pair_new S nT r r2
  stop := fun h H i k S g e => by
    obtain ⟨vs, e1, rs⟩ := S.lst g.1
    obtain ⟨us, f1, qs⟩ := S.lst g.2
    refine ⟨vs, us, .of e1, .of f1, ?_⟩
    unfold zipD at e
    rw [List.length_zipWith] at e
    rw [rs.length, qs.length]; omega
theorem walk_zipT {p q : Addr} {ds es : List D} {vs us : List V} {H0 : Hp} (t1 : SqT X.K H0 p vs) (t2 : SqT X.K H0 q us) (rs : RepVs X.K H0 ds vs) (qs : RepVs X.K H0 es us) : Walk X.K H0 (RZ.ItzT X.K p q) (zipD ds es) (fun _ => True) where
  go := fun h H i x k S g e => by
    obtain ⟨a, b, ea, eb, rfl⟩ := zip_get e
    obtain ⟨v, e2, r⟩ := rs.get ea
    obtain ⟨u, f2, r2⟩ := qs.get eb
    refine ⟨⟨vs, us, v, u, k.sqT t1, k.sqT t2, e2, f2⟩, fun w H' ⟨T, v', u', ew, nT, eH, y, z⟩ => ?_⟩
    have h1 := y vs (k.sqT t1)
    rw [e2] at h1; cases h1
    have h2 := z us (k.sqT t2)
    rw [f2] at h2; cases h2
    subst ew; subst eH
    exact pair_new S nT (r.mono k) (r2.mono k)
  stop := fun h H i k S g e => by
    refine ⟨vs, us, k.sqT t1, k.sqT t2, ?_⟩
    unfold zipD at e
    rw [List.length_zipWith] at e
    rw [rs.length, qs.length]; omega
theorem ji_val {tg : Expr} (h1 : JE X W d e1 ir1) : JI X W d tg e1 (.val ir1) := ⟨fun pins s σ H R I ⟨env, h, k, EX, Rr, S, hx, hw, hq⟩ => by
  unfold wI at hw
  refine thn (h1.go I Rr S hx hw) fun v s1 ⟨x, H1, I1, r1, g0, g1, k1, S1, t1, hw1⟩ => ?_
  replace hw1 : walkVal g0 g1 k := hw1
  unfold walkVal at hw1
  split at hw1
  · obtain ⟨p, vs, rfl, t, rs⟩ := t1
    cases r1
    obtain ⟨its, rv, pl, hz⟩ := I1.tuple t
    refine wpAny_pyIter_tuple (show s1.heap.IsTuple p its.toArray from pl) ?_
    exact pi_one (tk := s1.toks) I1 _ (turn_tuple p _) ⟨_, Heap.get?_push_size _ rfl, rfl, rfl⟩ (hq _ _ _ _ _ k1 S1 (walk_tup t rs) hw1)
  · rename_i z
    cases t1
    obtain ⟨t, rfl⟩ := r1
    have q := hq _ _ _ _ _ k1 S1 walk_str hw1
    cases ha : z.cps.all (· < 128)
    · exact wpAny_pyIter_wide ha (pi_one (tk := s1.toks) I1 _ (turn_str _ z t "str_iterator" (.inr rfl)) ⟨_, Heap.get?_push_size _ rfl, rfl, rfl⟩ q)
    · exact wpAny_pyIter_ascii ha (pi_one (tk := s1.toks) I1 _ (turn_str _ z t "str_ascii_iterator" (.inl rfl)) ⟨_, Heap.get?_push_size _ rfl, rfl, rfl⟩ q)
  · rename_i p
    cases t1
    cases r1
    split at hw1
    · rename_i e
      obtain ⟨vs, e1, rs⟩ := S1.lst e
      obtain ⟨its, rv, pl, hz⟩ := I1.list (.of e1)
      refine wpAny_pyIter_list pl.isList ?_
      exact pi_one (tk := s1.toks) I1 _ (turn_list p _) ⟨_, Heap.get?_push_size _ rfl, rfl, rfl⟩ (hq _ _ _ _ _ k1 S1 walk_lst hw1)
    · exact hw1.elim
  · obtain ⟨p, vs, rfl, t, rs⟩ := t1
    cases r1
    obtain ⟨its, rv, pl, hz⟩ := I1.list t.sq
    refine wpAny_pyIter_list pl.isList ?_
    exact pi_one (tk := s1.toks) I1 _ (turn_list p _) ⟨_, Heap.get?_push_size _ rfl, rfl, rfl⟩ (hq _ _ _ _ _ k1 S1 (walk_rol t rs) hw1)
  · exact hw1.elim⟩
theorem ji_rng1 {tg : Expr} {p : Pos} (hg : Gl X "range") (hm : X.mg "range" = none) (h1 : JE X W d e1 ir1) (hs : nostar e1 = true) : JI X W d tg (.Call (.Name "range" p) [e1] [] pos) (.rng1 ir1) := ⟨fun pins s σ H R I ⟨env, h, k, EX, Rr, S, hx, hw, hq⟩ => by
  unfold wI at hw
  refine (pi_range1 hg hm (pa_cons h1 pa_nil (star_cons hs)) (star_cons hs)).run pins s σ H R I ⟨env, h, _, EX, Rr, S, hx, hw, fun v H1 ⟨x, h1, k1, S1, r1, hw1⟩ => ?_⟩
  try dsimp only at hw1
  split at hw1
  · rename_i j
    cases r1
    obtain ⟨⟨a1, a2, a3, a4⟩, hw2⟩ := hw1
    have e0 : (j - 0).toNat = j.toNat := by rw [Int.sub_zero]
    rw [e0] at hw2
    exact ⟨j, rfl, a3, a4, hq _ _ _ _ _ k1 S1 walk_rng hw2⟩
  · exact hw1.elim⟩
theorem ji_rng2 {tg : Expr} {p : Pos} (hg : Gl X "range") (hm : X.mg "range" = none) (h1 : JE X W d e1 ir1) (h2 : JE X W d e2 ir2) (hs : nostar e1 = true) (hs2 : nostar e2 = true) : JI X W d tg (.Call (.Name "range" p) [e1, e2] [] pos) (.rng2 ir1 ir2) := ⟨fun pins s σ H R I ⟨env, h, k, EX, Rr, S, hx, hw, hq⟩ => by
  unfold wI at hw
  have q2 : starEach [e2] X.env = [(false, eval e2 X.env)] := star_cons hs2
  have q1 : starEach [e1, e2] X.env = [(false, eval e1 X.env), (false, eval e2 X.env)] := by rw [star_cons hs, q2]
  refine (pi_range2 hg hm (pa_cons h1 (pa_cons h2 pa_nil (star_cons hs2)) (star_cons hs)) q1 q2).run pins s σ H R I ⟨env, h, _, EX, Rr, S, hx, hw, fun v H1 ⟨x, h1, k1, S1, r1, hw1⟩ => ⟨env, h1, _, EX, Rr.mono k1, S1, hx.mono k1, hw1, fun u H2 ⟨y, h2, k2, S2, r2, hw2⟩ => ?_⟩⟩
  try dsimp only at hw2
  split at hw2
  · cases r1; cases r2
    exact ⟨_, _, rfl, hw2.1, hq _ _ _ _ _ (k1.trans k2) S2 walk_rng hw2.2⟩
  · exact hw2.elim⟩
theorem ji_rng3 {tg : Expr} {p : Pos} (hg : Gl X "range") (hm : X.mg "range" = none) (h1 : JE X W d e1 ir1) (h2 : JE X W d e2 ir2) (h3 : JE X W d e3 ir3) (hs : nostar e1 = true) (hs2 : nostar e2 = true) (hs3 : nostar e3 = true) : JI X W d tg (.Call (.Name "range" p) [e1, e2, e3] [] pos) (.rng3 ir1 ir2 ir3) := ⟨fun pins s σ H R I ⟨env, h, k, EX, Rr, S, hx, hw, hq⟩ => by
  unfold wI at hw
  refine (pi_range3 hg hm (pa_cons h1 (pa_cons h2 (pa_cons h3 pa_nil (star_cons hs3)) (star_cons hs2)) (star_cons hs)) (star_cons hs) (star_plain (by simp [hs2, hs3]))).run pins s σ H R I ⟨env, h, _, EX, Rr, S, hx, hw, fun v H1 ⟨x, h1, k1, S1, r1, hw1⟩ => ⟨env, h1, _, EX, Rr.mono k1, S1, hx.mono k1, hw1, fun u H2 ⟨y, h2, k2, S2, r2, hw2⟩ => ⟨env, h2, _, EX, (Rr.mono k1).mono k2, S2, (hx.mono k1).mono k2, hw2, fun w H3 ⟨z, h3, k3, S3, r3, hw3⟩ => ?_⟩⟩⟩
  try dsimp only at hw3
  split at hw3
  · cases r1; cases r2; cases r3
    obtain ⟨n, rg, hw4⟩ := hw3
    exact ⟨_, _, _, n, rfl, rg, hq _ _ _ _ _ ((k1.trans k2).trans k3) S3 walk_rngC hw4⟩
  · exact hw3.elim⟩
theorem ji_enum {elts : List Expr} {kk : Nat} {tpos p : Pos} (hg : Gl X "enumerate") (hm : X.mg "enumerate" = none) (h1 : JE X W d e1 ir1) (hs : nostar e1 = true) : JI X W d (.Tuple elts kk tpos) (.Call (.Name "enumerate" p) [e1] [] pos) (.enum ir1) := ⟨fun pins s σ H R I ⟨env, h, k, EX, Rr, S, hx, hw, hq⟩ => by
  unfold wI at hw
  refine (pi_enum hg hm (pa_cons h1 pa_nil (star_cons hs)) (star_cons hs)).run pins s σ H R I ⟨env, h, _, EX, Rr, S, hx, hw, fun v H1 ⟨x, h1, k1, S1, r1, hw1⟩ => ?_⟩
  replace hw1 : walkEnum x h1 k := hw1
  unfold walkEnum at hw1
  split at hw1
  · obtain ⟨p, vs, rfl, t, rs⟩ := r1
    exact ⟨p, vs, rfl, t.sq, hq _ _ _ _ _ k1 S1 (walk_enumR t rs) hw1⟩
  · cases r1
    split at hw1
    · rename_i e
      obtain ⟨vs, e1, rs⟩ := S1.lst e
      exact ⟨_, vs, rfl, .of e1, hq _ _ _ _ _ k1 S1 walk_enumL hw1⟩
    · exact hw1.elim
  · exact hw1.elim⟩
theorem ji_zip {elts : List Expr} {kk : Nat} {tpos p : Pos} (hg : Gl X "zip") (hm : X.mg "zip" = none) (h1 : JE X W d e1 ir1) (h2 : JE X W d e2 ir2) (hs : nostar e1 = true) (hs2 : nostar e2 = true) : JI X W d (.Tuple elts kk tpos) (.Call (.Name "zip" p) [e1, e2] [] pos) (.zip ir1 ir2) := ⟨fun pins s σ H R I ⟨env, h, k, EX, Rr, S, hx, hw, hq⟩ => by
  unfold wI at hw
  refine (RZ.pi_zipA hg hm (pa_cons h1 (pa_cons h2 pa_nil (star_cons hs2)) (star_cons hs)) (star_cons hs) (star_plain (by simp [hs2]))).run pins s σ H R I ⟨env, h, _, EX, Rr, S, hx, hw, fun v H1 ⟨x, h1, k1, S1, r1, hw1⟩ => ⟨env, h1, _, EX, Rr.mono k1, S1, hx.mono k1, hw1, fun u H2 ⟨y, h2, k2, S2, r2, hw2⟩ => ?_⟩⟩
  replace hw2 : walkZip x y h2 k := hw2
  have r1 := r1.mono k2
  unfold walkZip at hw2
  split at hw2
  · obtain ⟨p, vs, rfl, t, rs⟩ := r1
    obtain ⟨q, us, rfl, t2, qs⟩ := r2
    exact ⟨p, q, vs, us, rfl, .inr ⟨t, t2, hq _ _ _ _ _ (k1.trans k2) S2 (walk_zipT t t2 rs qs) hw2⟩⟩
  · cases r1; cases r2
    split at hw2
    · rename_i e
      obtain ⟨vs, e1, rs⟩ := S2.lst e
      split at hw2
      · rename_i e2
        obtain ⟨us, f1, qs⟩ := S2.lst e2
        exact ⟨_, _, vs, us, rfl, .inl ⟨.of e1, .of f1, hq _ _ _ _ _ (k1.trans k2) S2 walk_zipL hw2⟩⟩
      · exact hw2.elim
    · exact hw2.elim
  · exact hw2.elim⟩
end
end MP
/-! The small Python's judgements: comprehensions, statements. -/
namespace MP
open PySem PySem.Spec PyProof.Rows L2 ClX
section
variable (K : PySem.W.Frag) (W : Wd) (d : Nat)
/-- the same where nothing may be raised, whatever the context -/
def tE0 (ir : E) : TE := fun σ H Q => ∃ (env : Env) (h : Hq) (k : Kq), EnvR K H env σ ∧ Sim K h H ∧ wE W.P (callW W.P W.fs d) ir env h k (fun _ _ => False) ∧ ∀ v H', Got K H k v H' → Q v H'
def tF0 (irs : List E) : TT := fun σ H Q => ∃ (env : Env) (h : Hq) (k : Bool → Hq → Prop), EnvR K H env σ ∧ Sim K h H ∧ wIfs W.P (callW W.P W.fs d) irs env h k (fun _ _ => False) ∧ ∀ v H', GotT K H k v H' → Q v H'
def tG0 (ir : T) : TG := fun v σ H Q => ∃ (env : Env) (h : Hq) (x : D) (q : Env → Hq → Prop), EnvR K H env σ ∧ Sim K h H ∧ RepV K H x v ∧ wG W.P (callW W.P W.fs d) ir x env h q (fun _ _ => False) ∧
  ∀ σ' H', Same (slotsT ir) σ σ' → GotG K H q σ' H' → Q σ' H'
end
section
variable {X : Cx} {W : Wd} {d : Nat} {pins : List (Addr × Obj)} {s : Shared} {σ : L2.St} {H : Hp} {h : Hq} {k : Kq} {EX : Xq} {x y : D} {v u : V} {a b : Value} {env : Env} {e e1 e2 e3 : Expr} {ir ir1 ir2 ir3 : E} {pos : Pos} {t : T}
theorem JE.blk (j : JE X W d e ir) : PE X e (tE0 X.K W d ir) := ⟨fun pins s σ H Q I ⟨env, h, k, R, S, hw, hq⟩ => j.run pins s σ H Q I ⟨env, h, k, _, R, S, .no, hw, hq⟩⟩
theorem JG.blk (j : JG X W d e t) : PG X e (tG0 X.K W d t) := ⟨fun pins s σ H v u Q I r ⟨env, h, x, q, R, S, rx, hw, hq⟩ => j.run pins s σ H v u Q I r ⟨env, h, x, q, _, R, S, rx, .no, hw, hq⟩⟩
theorem ptf_nil : PTs X [] (tF0 X.K W d []) := ⟨fun pins s σ H Q I ⟨env, h, k, R, S, hw, hq⟩ => by
  unfold wIfs at hw
  exact pts_nil.run pins s σ H Q I (hq _ _ ⟨h, .refl H, S, hw⟩)⟩
theorem ptf_one (j : JT X W d e ir) : PTs X [e] (tF0 X.K W d [ir]) := ⟨fun pins s σ H Q I ⟨env, h, k, R, S, hw, hq⟩ => by
  unfold wIfs at hw
  exact (pts_one j).run pins s σ H Q I ⟨env, h, k, _, R, S, .no, hw, hq⟩⟩
theorem ptf_two {es : List Expr} {i j : E} {r : List E} : PTs X es (tF0 X.K W d (i :: j :: r)) := ⟨fun pins s σ H Q I ⟨env, h, k, R, S, hw, hq⟩ => by
  unfold wIfs at hw
  exact hw.elim⟩
theorem wipe_wipe (σ : List (Option V)) (vs : List Nat) : L2.wipe (L2.wipe σ vs) vs = L2.wipe σ vs := by
  refine List.ext_getElem? fun i => ?_
  by_cases q : i ∈ vs
  · rw [wipe_in q, wipe_in q, L2.wipe_length]
  · rw [L2.wipe_out q]
/-- a comprehension's reading -/
theorem lc_read {it : I} {own : List Nat} {ifs : List E} {Q : VK} (R : EnvR X.K H env σ) (S : Sim X.K h H) (hx : XOk X σ H EX) (hsl : ∀ j ∈ slotsT t, j ∈ own) (hw : wE W.P (callW W.P W.fs d) (.comp ir own t it ifs) env h k EX) (hq : ∀ v H', Got X.K H k v H' → Q v H') :
    tLc (tI X W d it) (tG0 X.K W d t) (tF0 X.K W d ifs) (tE0 X.K W d ir) own σ H Q := by
  unfold wE at hw
  refine ⟨env, h, _, EX, R, S, hx, hw, fun ds grd h1 H1 J k1 S1 wk hk D nD => ?_⟩
  have hk := hk D (S1.free nD)
  generalize hb : (fun (d0 : MP.D) (h2 : Hq) (K : Kq) (N : Hq → Prop) => wG W.P (callW W.P W.fs d) t d0 (wipeE env own) h2 (fun env' h3 => wIfs W.P (callW W.P W.fs d) ifs env' h3 (fun r h4 => match r with
        | true => wE W.P (callW W.P W.fs d) ir env' h4 K (fun _ _ => False)
        | false => N h4) (fun _ _ => False)) (fun _ _ => False)) = body at hk
  have KD : Kp H1 (upd H1 D (.lst [])) := .new nD
  refine ⟨fun i m H' => m = ds.length - i ∧ i ≤ ds.length ∧ ∃ acc h', Kp H1 H' ∧ Sim X.K h' H' ∧ compGo grd D body (k (.ref D)) (ds.drop i) acc h', ⟨ds.length, by simp, Nat.zero_le _, [], _, KD, S1.newL (ds := []) (vs := []) nD rfl, by rw [List.drop_zero]; exact hk⟩, ?_⟩
  rintro i m H' ⟨rfl, hi, acc, h', k', S', hgo⟩
  by_cases hlt : i < ds.length
  · rw [List.drop_eq_getElem_cons hlt] at hgo
    unfold compGo at hgo
    obtain ⟨hg, hgo⟩ := hgo
    obtain ⟨g1, g2⟩ := wk.go h' H' i ds[i] k' S' hg (by simp [hlt])
    refine .inr ⟨g1, fun H' => ∃ acc h', Kp H1 H' ∧ Sim X.K h' H' ∧ compGo grd D body (k (.ref D)) (ds.drop (i + 1)) acc h', fun H2 ⟨acc, h2, a1, a2, a3⟩ => ⟨ds.length - (i + 1), by omega, rfl, hlt, acc, h2, a1, a2, a3⟩, fun v H2 y => ?_⟩
    obtain ⟨ky, Sy, ry⟩ := g2 v H2 y
    rw [← hb] at hgo
    have k12 : Kp H1 H2 := k'.trans ky
    refine ⟨wipeE env own, h', _, _, (R.mono (k1.trans k12)).wipe own, Sy, ry, hgo, fun σ2 H3 sm ⟨env2, h3, k3, S3, R3, hw3⟩ => ⟨?_, ?_⟩⟩
    · rw [sm.wipe hsl, wipe_wipe]
    · refine ⟨env2, h3, _, R3, S3, hw3, fun r H4 ⟨h4, k4, S4, hw4⟩ => ?_⟩
      cases r with
      | true =>
        rw [if_pos rfl]
        refine ⟨env2, h4, _, R3.mono k4, S4, hw4, fun y H5 ⟨dy, h5, k5, S5, r5, e5, hz, hgo⟩ => ?_⟩
        obtain ⟨vs, e6, rs⟩ := S5.lst e5
        refine ⟨vs, e6, by rw [rs.length]; exact hz, acc ++ [dy], _, ((k12.trans k3).trans k4).trans (k5.trans (.lst e6)), S5.putL e6 (rs.snoc r5), ?_⟩
        rw [← hb]; exact hgo
      | false =>
        rw [if_neg Bool.false_ne_true]
        obtain ⟨e5, hgo⟩ := hw4
        refine ⟨acc, h4, (k12.trans k3).trans k4, S4, ?_⟩
        rw [← hb]; exact hgo
  · have e : i = ds.length := by omega
    subst e
    rw [List.drop_length] at hgo
    unfold compGo at hgo
    exact .inl ⟨wk.stop h' H' _ k' S' hgo.1 (Nat.le_refl _), hq _ _ ⟨.ref D, h', k1.trans k', S', rfl, hgo.2.2⟩⟩
def noset : Expr → Bool
  | .Set _ _ _ => false
  | _ => true
theorem noset_ok {en : PySem.Env} {x : Value} (h : noset e = true) : foldedSetIterable e en x = pure x := by
  cases e <;> first | rfl | cases h
theorem je_comp {it : I} {iter tg elt : Expr} {own : List (Str × Nat)} {ifs : List Expr} {irs : List E} {scope : Scope} (L : Lv X W d) (hi : JI X W d tg iter it) (ok : BlkOk X.N X.env.scope scope own)
    (hg : ∀ (s : Shared) (H : Hp) (C : Addr) (cl : List (Str × Addr)) (fp : List Addr), JG (X.blk s H scope (compEnvC scope cl C X.env) fp) W d tg t)
    (ht : ∀ (s : Shared) (H : Hp) (C : Addr) (cl : List (Str × Addr)) (fp : List Addr), PTs (X.blk s H scope (compEnvC scope cl C X.env) fp) ifs (tF0 X.K W d irs))
    (he : ∀ (s : Shared) (H : Hp) (C : Addr) (cl : List (Str × Addr)) (fp : List Addr), JE (X.blk s H scope (compEnvC scope cl C X.env) fp) W d elt ir)
    (hsl : ∀ j ∈ slotsT t, j ∈ own.map (·.2)) (hs : noset iter = true) : JE X W d (.ListComp elt [⟨tg, iter, ifs, 0⟩] scope pos) (.comp ir (own.map (·.2)) t it irs) := .mk fun pins s σ H env h k EX I R S hx hw => by
  exact (pe_lc L.calm L.nd hi ok (fun s H C cl fp => (hg s H C cl fp).blk) ht (fun s H C cl fp => (he s H C cl fp).blk) (fun _ => noset_ok hs)).run pins s σ H _ I (lc_read R S hx hsl hw fun _ _ g => g)
end

/-! ### statements -/
structure FOk (X : Cx) (H : Hp) (F : Fin) (D : Ends) : Prop where
  nx : ∀ σ' H', GotG X.K H F.nx σ' H' → D.nx σ' H'
  rt : ∀ v H', Got X.K H F.rt v H' → D.rt v H'
  bk : ∀ σ' H', GotG X.K H F.bk σ' H' → D.bk σ' H'
  ct : ∀ σ' H', GotG X.K H F.ct σ' H' → D.ct σ' H'
  ex : ∀ env' σ' H', Kp H H' → EnvR X.K H' env' σ' → XOk X σ' H' (F.ex env')
theorem GotG.from {K : PySem.W.Frag} {H H1 : Hp} {q : Env → Hq → Prop} (k : Kp H H1) {σ : L2.St} {H' : Hp} (g : GotG K H1 q σ H') : GotG K H q σ H' := by
  obtain ⟨e, h, a, b, c, z⟩ := g
  exact ⟨e, h, k.trans a, b, c, z⟩
theorem FOk.mono {X : Cx} {H H1 : Hp} {F : Fin} {D : Ends} (k : Kp H H1) (f : FOk X H F D) : FOk X H1 F D :=
  ⟨fun σ' H' g => f.nx _ _ (g.from k), fun v H' g => f.rt _ _ (g.from k), fun σ' H' g => f.bk _ _ (g.from k), fun σ' H' g => f.ct _ _ (g.from k), fun e σ' H' q r => f.ex e σ' H' (k.trans q) r⟩
section
variable (X : Cx) (W : Wd) (d : Nat)
def tS (ir : S) : TS := fun D σ H => ∃ (env : Env) (h : Hq) (F : Fin), EnvR X.K H env σ ∧ Sim X.K h H ∧ wS W.P (callW W.P W.fs d) ir env h F ∧ FOk X H F D
def tSs (irs : List S) : TS := fun D σ H => ∃ (env : Env) (h : Hq) (F : Fin), EnvR X.K H env σ ∧ Sim X.K h H ∧ wSs W.P (callW W.P W.fs d) irs env h F ∧ FOk X H F D
abbrev JS (st : Stmt) (ir : S) : Prop := PS X st (tS X W d ir)
abbrev JSs (st : List Stmt) (irs : List S) : Prop := PSs X st (tSs X W d irs)
end
/-- a body's context -/
structure LvS (X : Cx) (W : Wd) (d : Nat) : Prop extends Lv X W d where
  hp : PassesOwn (model X.prog X.w) X.A X.env X.xe
section
variable {X : Cx} {W : Wd} {d : Nat} {pins : List (Addr × Obj)} {s : Shared} {σ : L2.St} {H : Hp} {h : Hq} {k : Kq} {EX : Xq} {x y : D} {v u : V} {a b : Value} {env : Env} {e e1 e2 e3 : Expr} {ir ir1 ir2 ir3 : E} {pos : Pos} {t : T}
theorem js_nope {st : Stmt} : JS X W d st .nope := ⟨fun pins s σ H D I ⟨env, h, F, R, S, hw, f⟩ => by
  unfold wS at hw
  exact hw.elim⟩
theorem jss_nil : JSs X W d [] [] := ⟨fun pins s σ H D I ⟨env, h, F, R, S, hw, f⟩ => by
  unfold wSs at hw
  exact wpAny_execs_nil ⟨σ, H, I, f.nx _ _ ⟨env, h, .refl H, S, R, hw⟩⟩⟩
theorem jss_cons {st : Stmt} {sts : List Stmt} {i : S} {is : List S} (h1 : JS X W d st i) (h2 : JSs X W d sts is) : JSs X W d (st :: sts) (i :: is) := ⟨fun pins s σ H D I ⟨env, h, F, R, S, hw, f⟩ => by
  unfold wSs at hw
  refine (pss_cons h1 h2).run pins s σ H D I ⟨env, h, _, R, S, hw, fun σ' H' ⟨env', h', k', S', R', hw'⟩ => ⟨env', h', F, R', S', hw', f.mono k'⟩, f.rt, f.bk, f.ct, f.ex⟩⟩
theorem js_pass : JS X W d (.Pass pos) .pass := ⟨fun pins s σ H D I ⟨env, h, F, R, S, hw, f⟩ => by
  unfold wS at hw
  exact wpAny_Pass ⟨σ, H, I, f.nx _ _ ⟨env, h, .refl H, S, R, hw⟩⟩⟩
theorem js_brk : JS X W d (.Break pos) .brk := ⟨fun pins s σ H D I ⟨env, h, F, R, S, hw, f⟩ => by
  unfold wS at hw
  exact wpAny_Break ⟨σ, H, I, f.bk _ _ ⟨env, h, .refl H, S, R, hw⟩⟩⟩
theorem js_cont : JS X W d (.Continue pos) .cont := ⟨fun pins s σ H D I ⟨env, h, F, R, S, hw, f⟩ => by
  unfold wS at hw
  exact wpAny_Continue ⟨σ, H, I, f.ct _ _ ⟨env, h, .refl H, S, R, hw⟩⟩⟩
theorem js_ret (h1 : JE X W d e ir) : JS X W d (.Return (some e) pos) (.ret ir) := ⟨fun pins s σ H D I ⟨env, h, F, R, S, hw, f⟩ => by
  unfold wS at hw
  exact (ps_ret h1).run pins s σ H D I ⟨env, h, _, _, R, S, f.ex _ _ _ (.refl H) R, hw, fun v H' g => f.rt _ _ g⟩⟩
theorem js_retN : JS X W d (.Return none pos) .retN := ⟨fun pins s σ H D I ⟨env, h, F, R, S, hw, f⟩ => by
  unfold wS at hw
  exact wpAny_Return_none ⟨.non, σ, H, I, rfl, f.rt _ _ (.non S hw)⟩⟩
theorem js_doc {z : Str} {j : Nat} {p : Pos} : JS X W d (.Expr (.Constant (.str z) j p) pos) .pass := ⟨fun pins s σ H D I ⟨env, h, F, R, S, hw, f⟩ => by
  unfold wS at hw
  exact ps_doc.run pins s σ H D I (f.nx _ _ ⟨env, h, .refl H, S, R, hw⟩)⟩
def nocomp : Expr → Bool
  | .ListComp _ _ _ _ => false | .SetComp _ _ _ _ => false | .DictComp _ _ _ _ _ => false
  | _ => true
theorem nocomp_sw {tg : Option Expr} {n : Nat} {en : PySem.Env} (h : nocomp e = true) : swapsWith e tg n en = pure false := by
  cases e <;> first | rfl | cases h
theorem js_expr (h1 : JE X W d e ir) (hc : nocomp e = true) : JS X W d (.Expr e pos) (.expr ir) := ⟨fun pins s σ H D I ⟨env, h, F, R, S, hw, f⟩ => by
  unfold wS at hw
  exact (ps_expr h1 (nocomp_sw hc)).run pins s σ H D I ⟨env, h, _, _, R, S, f.ex _ _ _ (.refl H) R, hw, fun v H' ⟨x, h', k', S', r', hw'⟩ => f.nx _ _ ⟨env, h', k', S', R.mono k', hw'⟩⟩⟩
theorem js_ite {sa sb : List Stmt} {ia ib : List S} (h1 : JT X W d e ir) (ha : JSs X W d sa ia) (hb : JSs X W d sb ib) : JS X W d (.If e sa sb pos) (.ite ir ia ib) := ⟨fun pins s σ H D I ⟨env, h, F, R, S, hw, f⟩ => by
  unfold wS at hw
  refine (ps_if h1 ha hb).run pins s σ H D I ⟨env, h, _, _, R, S, f.ex _ _ _ (.refl H) R, hw, fun r H' ⟨h', k', S', hw'⟩ => ?_⟩
  cases r with
  | true => rw [if_pos rfl]; exact ⟨env, h', F, R.mono k', S', hw', f.mono k'⟩
  | false => rw [if_neg Bool.false_ne_true]; exact ⟨env, h', F, R.mono k', S', hw', f.mono k'⟩⟩
def notup : Expr → Bool
  | .Tuple _ _ _ => false | .List _ _ => false
  | _ => true
theorem sw_none {tg : Expr} {en : PySem.Env} (h : (notup tg || notup e) = true) : swappedStores [tg] e en = pure none := by
  rw [Bool.or_eq_true] at h
  rcases h with h | h
  · cases tg <;> first | (cases h; done) | rfl
  · cases e <;> first | (cases h; done) | (cases tg <;> rfl)
theorem js_asg {tg : Expr} (h1 : JE X W d e ir) (hg : JG X W d tg t) (hc : nocomp e = true) (hn : nostar tg = true) (hs : (notup tg || notup e) = true) : JS X W d (.Assign [tg] e pos) (.asg t ir) := ⟨fun pins s σ H D I ⟨env, h, F, R, S, hw, f⟩ => by
  unfold wS at hw
  refine (ps_asg h1 hg (nocomp_sw hc) (sw_none hs) (asg_cons hn)).run pins s σ H D I ⟨env, h, _, _, R, S, f.ex _ _ _ (.refl H) R, hw, fun v H' ⟨x, h', k', S', r', hw'⟩ => ?_⟩
  exact ⟨env, h', x, _, _, R.mono k', S', r', f.ex _ _ _ k' (R.mono k'), hw', fun σ' H2 _ g => f.nx _ _ (g.from k')⟩⟩
theorem js_fld {fl : Str} {p : Pos} (L : Lv X W d) (h1 : JE X W d e1 ir1) (h2 : JE X W d e2 ir2) (hc : nocomp e2 = true) : JS X W d (.Assign [.Attribute e1 fl p] e2 pos) (.asg (.attr ir1 fl) ir2) := ⟨fun pins s σ H D I ⟨env, h, F, R, S, hw, f⟩ => by
  unfold wS at hw
  refine (ps_fld h1 h2 (nocomp_sw hc)).run pins s σ H D I ⟨env, h, _, _, R, S, f.ex _ _ _ (.refl H) R, hw, fun v H' ⟨x, h', k', S', r', hw'⟩ => ?_⟩
  unfold wG at hw'
  refine ⟨env, h', _, _, R.mono k', S', f.ex _ _ _ k' (R.mono k'), hw', fun ov H2 ⟨o, h2, k2, S2, r2, hw2⟩ => ?_⟩
  try dsimp only at hw2
  split at hw2
  · cases r2
    split at hw2
    · rename_i C fs e
      obtain ⟨hz, hF, hn⟩ := hw2
      obtain ⟨dx, vs, e3, rf⟩ := S2.ins e
      obtain ⟨c1, c2⟩ := L.st.clsF C fl hF
      have kw : Kp H2 _ := .put (o := .ins (He.ga X.K C) dx (L2.putF fl v vs)) e3 (fun _ z => by cases z) (fun _ _ z => by cases z)
      refine ⟨_, _, dx, vs, rfl, e3, c1, c2, by rw [rf.length]; exact hz, f.nx _ _ ⟨env, _, (k'.trans k2).trans kw, S2.upd (o := .ins C (putF fl x fs)) kw ⟨dx, _, upd_same, (rf.put (r'.mono k2)).mono kw⟩, R.mono ((k'.trans k2).trans kw), hn⟩⟩
    · exact hw2.elim
  · exact hw2.elim⟩
theorem js_setLc {it : I} {iter tg elt : Expr} {own : List (Str × Nat)} {ifs : List Expr} {irs : List E} {scope : Scope} {i : Nat} {nm : Str} {py p2 : Pos} (L : Lv X W d) (hy : X.N[i]? = some nm) (hyl : X.env.scope.names.lookup nm = some .local)
    (hkd : X.env.scope.kind = .function) (hl : (py.line == p2.line) = true) (hno : (scope.names.any fun (n, k) => n == nm && (k == .local || k == .cell)) = false) (hi : JI X W d tg iter it) (ok : BlkOk X.N X.env.scope scope own)
    (hg : ∀ (s : Shared) (H : Hp) (C : Addr) (cl : List (Str × Addr)) (fp : List Addr), JG (X.blk s H scope (compEnvC scope cl C X.env) fp) W d tg t)
    (ht : ∀ (s : Shared) (H : Hp) (C : Addr) (cl : List (Str × Addr)) (fp : List Addr), PTs (X.blk s H scope (compEnvC scope cl C X.env) fp) ifs (tF0 X.K W d irs))
    (he : ∀ (s : Shared) (H : Hp) (C : Addr) (cl : List (Str × Addr)) (fp : List Addr), JE (X.blk s H scope (compEnvC scope cl C X.env) fp) W d elt ir)
    (hsl : ∀ j ∈ slotsT t, j ∈ own.map (·.2)) (hs : noset iter = true) : JS X W d (.Assign [.Name nm py] (.ListComp elt [⟨tg, iter, ifs, 0⟩] scope p2) pos) (.asg (.var i) (.comp ir (own.map (·.2)) t it irs)) := ⟨fun pins s σ H D I ⟨env, h, F, R, S, hw, f⟩ => by
  unfold wS at hw
  refine (ps_setLc L.calm L.nd hy hyl (sw_true hkd hyl hl hno) hi ok (fun s H C cl fp => (hg s H C cl fp).blk) ht (fun s H C cl fp => (he s H C cl fp).blk) (fun _ => noset_ok hs)).run pins s σ H D I (lc_read R S (f.ex _ _ _ (.refl H) R) hsl hw fun v H' ⟨x, h', k', S', r', hw'⟩ => ?_)
  unfold wG at hw'
  exact f.nx _ _ ⟨_, h', k', S', (R.mono k').set i r', hw'⟩⟩
theorem js_aug {o : Operator} {i : Nat} {nm : Str} {p : Pos} (L : Lv X W d) (hi : X.N[i]? = some nm) (hx : Loc X.env.scope nm) (hf : X.fn nm = true ∨ X.env.scope.names.lookup nm = some .local) (h1 : JE X W d e ir) : JS X W d (.AugAssign (.Name nm p) o e pos) (.aug i o ir) := ⟨fun pins s σ H D I ⟨env, h, F, R, S, hw, f⟩ => by
  unfold wS at hw
  split at hw
  · rename_i x ex
    obtain ⟨xv, e1, rx⟩ := R.get i x ex
    have go : ∀ {y : MP.D} {yv : V} {h1 : Hq} {H1 : Hp}, opAug o x y h1 (fun z h2 => F.nx (env.set i (some z)) h2) → RepV X.K H1 y yv → Kp H H1 → Sim X.K h1 H1 → ∃ a b c, xv = .int a ∧ yv = .int b ∧ ((o = .Add ∧ c = a + b) ∨ (o = .Sub ∧ c = a - b)) ∧ D.nx (σ.set i (some (.int c))) H1 := fun {y yv h1 H1} q ry k1 S1 => by
      unfold opAug at q
      split at q
      · cases rx; cases ry
        exact ⟨_, _, _, rfl, rfl, .inl ⟨rfl, rfl⟩, f.nx _ _ ⟨_, h1, k1, S1, (R.mono k1).set (x := .int _) (v := .int _) i rfl, q⟩⟩
      · cases rx; cases ry
        exact ⟨_, _, _, rfl, rfl, .inr ⟨rfl, rfl⟩, f.nx _ _ ⟨_, h1, k1, S1, (R.mono k1).set (x := .int _) (v := .int _) i rfl, q⟩⟩
      · exact q.elim
    by_cases ho : o = .Add
    · subst ho
      refine (ps_aug L.nd hi hx h1 ip_add hf).run pins s σ H D I ⟨xv, e1, env, h, _, _, R, S, f.ex _ _ _ (.refl H) R, hw, fun yv H1 ⟨y, h1, k1, S1, ry, q⟩ => ?_⟩
      obtain ⟨a, b, c, r1, r2, r3, r4⟩ := go q ry k1 S1
      rcases r3 with ⟨_, r3⟩ | ⟨r3, _⟩
      · subst r3; exact ⟨a, b, r1, r2, r4⟩
      · cases r3
    · by_cases ho2 : o = .Sub
      · subst ho2
        refine (ps_aug L.nd hi hx h1 ip_sub hf).run pins s σ H D I ⟨xv, e1, env, h, _, _, R, S, f.ex _ _ _ (.refl H) R, hw, fun yv H1 ⟨y, h1, k1, S1, ry, q⟩ => ?_⟩
        obtain ⟨a, b, c, r1, r2, r3, r4⟩ := go q ry k1 S1
        rcases r3 with ⟨r3, _⟩ | ⟨_, r3⟩
        · cases r3
        · subst r3; exact ⟨a, b, r1, r2, r4⟩
      · refine (ps_aug (ti := fun _ _ _ _ => False) L.nd hi hx h1 (fun _ _ _ _ _ _ _ _ _ _ _ _ q => q.elim) hf).run pins s σ H D I ⟨xv, e1, env, h, _, _, R, S, f.ex _ _ _ (.refl H) R, hw, fun yv H1 ⟨y, h1, k1, S1, ry, q⟩ => ?_⟩
        obtain ⟨a, b, c, r1, r2, r3, r4⟩ := go q ry k1 S1
        rcases r3 with ⟨r3, _⟩ | ⟨r3, _⟩
        · exact ho r3
        · exact ho2 r3
  · exact hw.elim⟩
theorem js_for {tg iter : Expr} {it : I} {sb : List Stmt} {ib : List S} (L : LvS X W d) (hi : JI X W d tg iter it) (hg : JG X W d tg t) (hb : JSs X W d sb ib) (hs : noset iter = true) : JS X W d (.For tg iter sb [] pos) (.for t it ib) := ⟨fun pins s σ H D I ⟨env, h, F, R, S, hw, f⟩ => by
  unfold wS at hw
  refine (ps_for L.hp L.calm hi hg hb (fun _ => noset_ok hs)).run pins s σ H D I ⟨env, h, _, _, R, S, f.ex _ _ _ (.refl H) R, hw, fun ds grd h1 H1 J k1 S1 wk hk => ?_⟩
  generalize hbd : (fun (d0 : MP.D) (env' : Env) (h' : Hq) (F' : Fin) => wG W.P (callW W.P W.fs d) t d0 env' h' (fun env2 h2 => wSs W.P (callW W.P W.fs d) ib env2 h2 F') (F.ex env')) = body at hk
  refine ⟨fun i m σ' H' => m = ds.length - i ∧ i ≤ ds.length ∧ ∃ env' h', Kp H1 H' ∧ EnvR X.K H' env' σ' ∧ Sim X.K h' H' ∧ forGo grd body F (ds.drop i) env' h', ⟨ds.length, by simp, Nat.zero_le _, env, h1, .refl H1, R.mono k1, S1, by rw [List.drop_zero]; exact hk⟩, ?_⟩
  rintro i m σ' H' ⟨rfl, hi, env', h', k', R', S', hgo⟩
  by_cases hlt : i < ds.length
  · rw [List.drop_eq_getElem_cons hlt] at hgo
    unfold forGo at hgo
    obtain ⟨hg, hgo⟩ := hgo
    obtain ⟨g1, g2⟩ := wk.go h' H' i ds[i] k' S' hg (by simp [hlt])
    refine .inr ⟨g1, fun σ' H' => ∃ env' h', Kp H1 H' ∧ EnvR X.K H' env' σ' ∧ Sim X.K h' H' ∧ forGo grd body F (ds.drop (i + 1)) env' h', fun σ2 H2 ⟨env2, h2, a1, a2, a3, a4⟩ => ⟨ds.length - (i + 1), by omega, rfl, hlt, env2, h2, a1, a2, a3, a4⟩, fun v H2 y => ?_⟩
    obtain ⟨ky, Sy, ry⟩ := g2 v H2 y
    rw [← hbd] at hgo
    have k12 : Kp H1 H2 := k'.trans ky
    refine ⟨env', h', _, _, _, R'.mono ky, Sy, ry, f.ex _ _ _ (k1.trans k12) (R'.mono ky), hgo, fun σ3 H3 _ ⟨env3, h3, k3, S3, R3, hw3⟩ => ?_⟩
    have k13 := k12.trans k3
    refine ⟨env3, h3, _, R3, S3, hw3, ?_⟩
    refine ⟨fun σ4 H4 ⟨env4, h4, k4, S4, R4, hw4⟩ => ⟨env4, h4, k13.trans k4, R4, S4, by rw [← hbd]; exact hw4⟩, fun v H4 g => f.rt _ _ (g.from (k1.trans k13)), fun σ4 H4 g => f.nx _ _ (g.from (k1.trans k13)), fun σ4 H4 ⟨env4, h4, k4, S4, R4, hw4⟩ => ⟨env4, h4, k13.trans k4, R4, S4, by rw [← hbd]; exact hw4⟩, fun e σ4 H4 q r => f.ex e σ4 H4 ((k1.trans k13).trans q) r⟩
  · have e : i = ds.length := by omega
    subst e
    rw [List.drop_length] at hgo
    unfold forGo at hgo
    exact .inl ⟨wk.stop h' H' _ k' S' hgo.1 (Nat.le_refl _), f.nx _ _ ⟨env', h', k1.trans k', S', R', hgo.2⟩⟩⟩
theorem js_while {sb : List Stmt} {ib : List S} (L : LvS X W d) (h1 : JT X W d e ir) (hb : JSs X W d sb ib) : JS X W d (.While e sb [] pos) (.while ir ib) := ⟨fun pins s σ H D I ⟨env, h, F, R, S, hw, f⟩ => by
  unfold wS at hw
  obtain ⟨J, m, j0, step⟩ := hw
  refine (ps_while L.hp h1 hb).run pins s σ H D I ⟨fun n σ' H' => ∃ env' h', Kp H H' ∧ EnvR X.K H' env' σ' ∧ Sim X.K h' H' ∧ J env' h' ∧ n = m env' h', ⟨_, env, h, .refl H, R, S, j0, rfl⟩, ?_⟩
  rintro n σ' H' ⟨env', h', k', R', S', j', rfl⟩
  refine ⟨env', h', _, _, R', S', f.ex _ _ _ k' R', step env' h' j', fun r H2 ⟨h2, k2, S2, hw2⟩ => ?_⟩
  have k12 := k'.trans k2
  cases r with
  | true =>
    show ∃ N, _
    refine ⟨fun σ3 H3 => ∃ env3 h3, Kp H H3 ∧ EnvR X.K H3 env3 σ3 ∧ Sim X.K h3 H3 ∧ J env3 h3 ∧ m env3 h3 < m env' h', fun σ3 H3 ⟨env3, h3, a1, a2, a3, a4, a5⟩ => ⟨_, a5, env3, h3, a1, a2, a3, a4, rfl⟩, env', h2, _, R'.mono k2, S2, hw2, ?_⟩
    exact ⟨fun σ4 H4 ⟨env4, h4, k4, S4, R4, hw4⟩ => ⟨env4, h4, k12.trans k4, R4, S4, hw4.1, hw4.2⟩, fun v H4 g => f.rt _ _ (g.from k12), fun σ4 H4 g => f.nx _ _ (g.from k12), fun σ4 H4 ⟨env4, h4, k4, S4, R4, hw4⟩ => ⟨env4, h4, k12.trans k4, R4, S4, hw4.1, hw4.2⟩, fun e σ4 H4 q r => f.ex e σ4 H4 (k12.trans q) r⟩
  | false =>
    show D.nx σ' H2
    exact f.nx _ _ ⟨env', h2, k12, S2, R'.mono k2, hw2⟩⟩
end
end MP
namespace MP
open PySem PySem.Spec PyProof.Rows L2 ClX
section
variable {X : Cx} {W : Wd} {d : Nat} {e1 e2 : Expr} {ir1 ir2 : E} {pos : Pos}
theorem swap2 {env : PySem.Env} {x y : Str} {px py pt pt2 : Pos} {kt k2 : Nat} (hk : env.scope.kind = .function) (hx : env.scope.names.lookup x = some .local) (hy : env.scope.names.lookup y = some .local) (hl : (py.line == px.line) = true) (hne : x ≠ y)
    (hs1 : nostar e1 = true) (hs2 : nostar e2 = true) (hf : (foldedForSure 8 e1 && foldedForSure 8 e2) = false) (hc : (constantsAlone 8 e1 && constantsAlone 8 e2) = false) :
    swappedStores [.Tuple [.Name x px, .Name y py] kt pt] (.Tuple [e1, e2] k2 pt2) env = pure (some [x, y]) := by
  have kx : env.kindOf x = some .local := hx
  have ky : env.kindOf y = some .local := hy
  have hb : env.blockKind = .function := by unfold Env.blockKind; rw [hk]; rfl
  have hne' : (y == x) = false := by simp [Ne.symm hne]
  have hne2 : (x == y) = false := by simp [hne]
  unfold swappedStores
  simp only [List.length_cons, List.length_nil, hb, List.any_cons, List.any_nil, List.head?_cons, Option.map_some, Option.getD_some, List.filterMap_cons, List.filterMap_nil, kx, ky, Expr.pos, List.all_cons, List.all_nil, Bool.and_true, hf, hc, hl]
  simp [hne', hne2, List.eraseDups, List.eraseDupsBy, List.eraseDupsBy.loop]
  intro h
  exfalso
  rcases h with h | h
  · cases e1 <;> first | (cases hs1; done) | cases h
  · cases e2 <;> first | (cases hs2; done) | cases h
theorem js_par {x y : Str} {i j : Nat} {px py pt pt2 : Pos} {kt k2 : Nat} (L : Lv X W d) (hi : X.N[i]? = some x) (hj : X.N[j]? = some y) (hk : X.env.scope.kind = .function) (hx : X.env.scope.names.lookup x = some .local) (hy : X.env.scope.names.lookup y = some .local) (hl : (py.line == px.line) = true) (hne : x ≠ y)
    (hs1 : nostar e1 = true) (hs2 : nostar e2 = true) (hf : (foldedForSure 8 e1 && foldedForSure 8 e2) = false) (hc : (constantsAlone 8 e1 && constantsAlone 8 e2) = false) (h1 : JE X W d e1 ir1) (h2 : JE X W d e2 ir2) :
    JS X W d (.Assign [.Tuple [.Name x px, .Name y py] kt pt] (.Tuple [e1, e2] k2 pt2) pos) (.par i j ir1 ir2) := ⟨fun pins s σ H D I ⟨env, h, F, R, S, hw, f⟩ => by
  unfold wS at hw
  have hij : i ≠ j := fun e => by rw [e, hj] at hi; exact hne (Option.some.inj hi).symm
  refine (ps_par L.calm L.nd hi hj hij hx hy (pa_cons h1 (pa_cons h2 pa_nil (star_cons hs2)) (star_cons hs1)) (swap2 hk hx hy hl hne hs1 hs2 hf hc)).run pins s σ H D I ?_
  refine ⟨env, h, _, _, R, S, f.ex _ _ _ (.refl H) R, hw, fun v H1 ⟨dx, h1, k1, S1, r1, hw1⟩ => ⟨env, h1, _, _, R.mono k1, S1, f.ex _ _ _ k1 (R.mono k1), hw1, fun u H2 ⟨dy, h2, k2, S2, r2, hw2⟩ => ?_⟩⟩
  exact ⟨v, u, rfl, f.nx _ _ ⟨_, h2, k1.trans k2, S2, ((R.mono (k1.trans k2)).set i (r1.mono k2)).set j r2, hw2⟩⟩⟩
end
end MP
/-! From the text's own terms to the small Python's: what is written is what is said. -/
namespace MP
open PySem PySem.Spec PyProof.Rows L2 ClX
/-- a block's names, and which of them it may store -/
structure Ctx where
  sc : Scope
  fnb : Str → Bool
structure CxOk (X : Cx) (N : List Str) (c : Ctx) : Prop where
  n : X.N = N
  sc : X.env.scope = c.sc
  fn : X.fn = c.fnb
def kindC (c : Ctx) (x : Str) : Option NameKind := c.sc.names.lookup x
def glC (c : Ctx) (x : Str) : Bool := decide (kindC c x = some .globalImplicit) && !(x == ("__debug__" : Str))
def visC (c : Ctx) (x : Str) : Bool := (match kindC c x with | some .local => true | some .cell => true | some .free => true | _ => false) && !(x == ("__debug__" : Str)) && !(x == ("__classdict__" : Str))
def locC (c : Ctx) (x : Str) : Bool := match kindC c x with | some .local => true | some .cell => c.fnb x | _ => false
def idxC (N : List Str) (x : Str) : Nat := N.findIdx fun y => decide (y = x)
def inN (N : List Str) (x : Str) : Bool := decide (N[idxC N x]? = some x)
def biTab : List (Str × BI) := [("len", .len), ("int", .int), ("str", .str), ("abs", .abs), ("sum", .sum), ("max", .max), ("min", .min), ("all", .all), ("any", .any), ("sorted", .sorted), ("list", .list), ("tuple", .tuple)]
def btTab : List (Str × BT) := [("bool", .bl), ("int", .int), ("str", .str), ("list", .lst), ("tuple", .tup), ("dict", .dct), ("set", .set)]
def bmTab : List (Str × BM) := [("append", .append), ("insert", .insert), ("pop", .pop), ("extend", .extend), ("clear", .clear), ("index", .index), ("join", .join), ("split", .split)]
def bmOf (m : Str) : BM := (bmTab.lookup m).getD .none
theorem bi_boot : ∀ p ∈ biTab, bootBuiltins p.1 = some (biV p.2) ∧ p.1 ≠ "__name__" := by
  intro p hp
  simp only [biTab, List.mem_cons, List.not_mem_nil, or_false] at hp
  rcases hp with e | e | e | e | e | e | e | e | e | e | e | e <;> (subst e; exact ⟨by first | rfl | decide +kernel, by decide⟩)
theorem bt_boot : ∀ p ∈ btTab, bootBuiltins p.1 = some (.type p.2.name) ∧ p.1 ≠ "__name__" := by
  intro p hp
  simp only [btTab, List.mem_cons, List.not_mem_nil, or_false] at hp
  rcases hp with e | e | e | e | e | e | e <;> (subst e; exact ⟨by first | rfl | decide +kernel, by decide⟩)
theorem mem_look {α : Type} {x : Str} {v : α} : ∀ {l : List (Str × α)}, l.lookup x = some v → (x, v) ∈ l
  | [], h => by simp at h
  | (n, w) :: r, h => by
    cases q : x == n with
    | true =>
      simp only [List.lookup_cons, q] at h
      cases h
      have : x = n := by simpa using q
      subst this
      exact List.mem_cons_self
    | false =>
      simp only [List.lookup_cons, q] at h
      exact List.mem_cons_of_mem _ (mem_look h)

section
variable (W : Wc) (N : List Str)
def cCc (c : Ctx) : Expr → Option Cc
  | .Name x _ => if glC c x = true then (if W.free x = true then (btTab.lookup x).map Cc.ty else match W.P.glob x with
    | some (.glo C) => if C = x then some (.own C) else none
    | _ => none) else none
  | _ => none
def cCcs (c : Ctx) : List Expr → Option (List Cc)
  | [] => some []
  | e :: es => match cCc W c e, cCcs c es with
    | some a, some r => some (a :: r)
    | _, _ => none
variable (f : Ctx → Expr → E)
def cName (c : Ctx) (x : Str) : E :=
  if visC c x = true then (if inN N x = true then .var (idxC N x) else .nope) else if glC c x = true then .glob x else .nope
def cRng (c : Ctx) (tup : Bool) : Expr → E
  | .Call (.Name r _) [a] [] _ => if r = "range" ∧ glC c r = true ∧ W.free r = true ∧ nostar a = true then .rngA tup (f c a) else .nope
  | .Call (.Name r _) [a, b] [] _ => if r = "range" ∧ glC c r = true ∧ W.free r = true ∧ nostar a = true ∧ nostar b = true then .rngB tup (f c a) (f c b) else .nope
  | _ => .nope
def cIsin (c : Ctx) : List Expr → E
  | [x, .Tuple es _ _] => if nostar x = true ∧ es.all nostar = true ∧ es.length ≤ 1000 then (match cCcs W c es with
    | some (k :: ks) => .isin (f c x) (k :: ks)
    | _ => .nope) else .nope
  | [x, t] => if nostar x = true ∧ nostar t = true then (match cCc W c t with
    | some k => .isin (f c x) [k]
    | none => .nope) else .nope
  | _ => .nope
def isRange : Expr → Bool
  | .Call (.Name r _) _ _ _ => decide (r = "range")
  | _ => false
def cCall (c : Ctx) (g : Str) (es : List Expr) : E :=
  if glC c g = true ∧ es.all nostar = true then
    (match W.P.make g with
    | some key => if W.has key = true then .make g key (es.map (f c)) else .nope
    | none => if W.has g = true then (if (W.path g).2 = none then .call g (es.map (f c)) else .nope) else
      if W.free g = true then
        (if g = "isinstance" then cIsin W f c es
        else match es with
          | [] => .nope
          | a :: as => if isRange a = true ∧ as = [] ∧ (g = "list" ∨ g = "tuple") then cRng W f c (decide (g = "tuple")) a else
            match biTab.lookup g with
            | some b => .bi b ((a :: as).map (f c))
            | none => .nope)
      else .nope)
  else .nope
def cMeth (c : Ctx) (o : Expr) (m : Str) (apos pos : Pos) (es : List Expr) : E :=
  if nosup o = true ∧ es.all nostar = true ∧ es.length < 29 ∧ (apos.endLine == pos.line) = true ∧ bmOk m (bmOf m) = true then .meth (f c o) m (bmOf m) (es.map (f c)) else .nope
def cT (c : Ctx) : Nat → Expr → T
  | 0, _ => .nope
  | _ + 1, .Name x _ => if inN N x = true ∧ locC c x = true then .var (idxC N x) else .nope
  | n + 1, .Tuple es _ _ => if es.all nostar = true then .tup (es.map (cT c n)) else .nope
  | _ + 1, .Subscript o i _ => if noslice i = true then .item (f c o) (f c i) else .nope
  | _ + 1, _ => .nope
def isTup : Expr → Bool
  | .Tuple _ _ _ => true
  | _ => false
def cI (c : Ctx) (tg : Expr) (it : Expr) : I := match it with
  | .Call (.Name r p) es [] pos =>
    if glC c r = true ∧ W.free r = true ∧ es.all nostar = true then
      (if r = "range" then (match es with
        | [a] => .rng1 (f c a)
        | [a, b] => .rng2 (f c a) (f c b)
        | [a, b, s] => .rng3 (f c a) (f c b) (f c s)
        | _ => .nope)
      else if r = "enumerate" ∧ isTup tg = true then (match es with
        | [a] => .enum (f c a)
        | _ => .nope)
      else if r = "zip" ∧ isTup tg = true then (match es with
        | [a, b] => .zip (f c a) (f c b)
        | _ => .nope)
      else .val (f c (.Call (.Name r p) es [] pos)))
    else .val (f c (.Call (.Name r p) es [] pos))
  | e => .val (f c e)
def ownC (scope : Scope) : List (Str × Nat) := scope.names.filterMap fun y => match y.2 with
  | .local => if inN N y.1 = true then some (y.1, idxC N y.1) else none
  | .cell => if inN N y.1 = true then some (y.1, idxC N y.1) else none
  | _ => none
def blkCtx (c : Ctx) (scope : Scope) : Ctx := ⟨relS scope c.sc, fun x => scope.names.lookup x == some .cell⟩
def cComp (c : Ctx) (elt : Expr) (g : Comprehension) (scope : Scope) : E := match g with
  | ⟨tg, iter, ifs, 0⟩ => if blkC N c.sc scope (ownC N scope) = true ∧ noset iter = true ∧ (∀ j ∈ slotsT (cT N f (blkCtx c scope) 4 tg), j ∈ (ownC N scope).map (·.2)) then
      .comp (f (blkCtx c scope) elt) ((ownC N scope).map (·.2)) (cT N f (blkCtx c scope) 4 tg) (cI W f c tg iter) (ifs.map (f (blkCtx c scope)))
    else .nope
  | _ => .nope
def cBool (g : E → E → E) (c : Ctx) : List Expr → E
  | [] => .nope
  | [e] => f c e
  | e :: es => g (f c e) (cBool g c es)
def stepE (c : Ctx) (e : Expr) : E := match e with
  | .Constant k _ _ => (match k with
    | .int i => .cst (.int i)
    | .bool b => .cst (.bl b)
    | .str s => .cst (.str s)
    | .none => .cst .non
    | _ => .nope)
  | .Name x _ => cName N c x
  | .BinOp a o b _ => .bin o (f c a) (f c b)
  | .UnaryOp o a _ => (match o with
    | .USub => .neg (f c a)
    | .Not => .not (f c a)
    | _ => .nope)
  | .BoolOp o es _ => (match o with
    | .And => cBool f .and c es
    | .Or => cBool f .or c es)
  | .Compare a os bs _ => (match os, bs with
    | [o], [b] => if behindInMarks o b = false then .cmp o (f c a) (f c b) else .nope
    | [o, o'], [b, b'] => if lastMarks [o, o'] [b, b'] = false then .chain o o' (f c a) (f c b) (f c b') else .nope
    | _, _ => .nope)
  | .IfExp t a b _ => .ite (f c t) (f c a) (f c b)
  | .Tuple es _ _ => if es.all nostar = true then .tup (es.map (f c)) else .nope
  | .List es _ => if es.all nostar = true then .lst (es.map (f c)) else .nope
  | .Call g es ks pos => (match g, ks with
    | .Name x _, [] => cCall W f c x es
    | .Attribute o m apos, [] => cMeth f c o m apos pos es
    | _, _ => .nope)
  | .Attribute o a _ => if nosup o = true then .attr (f c o) a else .nope
  | .Subscript o i _ => (match i with
    | .Slice lo hi st _ => (match st with
      | none => .slice (f c o) (lo.map (f c)) (hi.map (f c))
      | _ => .nope)
    | i => if noslice i = true then .item (f c o) (f c i) else .nope)
  | .ListComp elt gs scope _ => (match gs with
    | [g] => cComp W N f c elt g scope
    | _ => .nope)
  | _ => .nope
end
def cE (W : Wc) (N : List Str) : Nat → Ctx → Expr → E
  | 0, _, _ => .nope
  | n + 1, c, e => stepE W N (cE W N n) c e
/-- what a reading of expressions promises -/
structure Snd (W : Wd) (N : List Str) (d : Nat) (f : Ctx → Expr → E) : Prop where
  e : ∀ (X : Cx) (c : Ctx), Lv X W d → CxOk X N c → ∀ e, JE X W d e (f c e)
  t : ∀ (X : Cx) (c : Ctx), Lv X W d → CxOk X N c → ∀ e, JT X W d e (f c e)
section
variable {W : Wd} {N : List Str} {d : Nat} {f : Ctx → Expr → E} {X : Cx} {c : Ctx}
theorem vis_ok (k : CxOk X N c) {x : Str} (h : visC c x = true) : Vis X.env.scope x ∧ (x == ("__debug__" : Str)) = false ∧ (x == ("__classdict__" : Str)) = false := by
  unfold visC kindC at h
  rw [Bool.and_eq_true, Bool.and_eq_true] at h
  obtain ⟨⟨h1, h2⟩, h3⟩ := h
  rw [← k.sc] at h1
  refine ⟨?_, by simpa using h2, by simpa using h3⟩
  split at h1
  · exact .inl (by assumption)
  · exact .inr (.inl (by assumption))
  · exact .inr (.inr (by assumption))
  · cases h1
theorem gl_ok (k : CxOk X N c) {x : Str} (h : glC c x = true) : Gl X x ∧ (x == ("__debug__" : Str)) = false := by
  unfold glC kindC at h
  rw [Bool.and_eq_true, decide_eq_true_eq, ← k.sc] at h
  exact ⟨h.1, by simpa using h.2⟩
theorem loc_ok (k : CxOk X N c) {x : Str} (h : locC c x = true) : Loc X.env.scope x ∧ (X.fn x = true ∨ X.env.scope.names.lookup x = some .local) := by
  unfold locC kindC at h
  rw [← k.sc, ← k.fn] at h
  split at h
  · exact ⟨.inl (by assumption), .inr (by assumption)⟩
  · exact ⟨.inr (by assumption), .inl h⟩
  · cases h
theorem inN_ok (k : CxOk X N c) {x : Str} (h : inN N x = true) : X.N[idxC N x]? = some x := by
  rw [k.n]; exact of_decide_eq_true h
theorem snd_name (L : Lv X W d) (k : CxOk X N c) {x : Str} {pos : Pos} : JE X W d (.Name x pos) (cName N c x) := by
  unfold cName
  split
  · rename_i h
    obtain ⟨v, h1, h2⟩ := vis_ok k h
    split
    · exact je_var (inN_ok k (by assumption)) v h1 h2
    · exact je_nope
  · split
    · rename_i h
      obtain ⟨g, h1⟩ := gl_ok k h
      exact je_glob L g h1
    · exact je_nope
theorem snd_args (S : Snd W N d f) (L : Lv X W d) (k : CxOk X N c) : ∀ {es : List Expr}, es.all nostar = true → JA X W d es (es.map (f c))
  | [], _ => ja_nil
  | e :: es, h => by
    rw [List.all_cons, Bool.and_eq_true] at h
    exact ja_cons (S.e X c L k e) (snd_args S L k h.2) h.1
theorem snd_cc (L : Lv X W d) (k : CxOk X N c) {e : Expr} {q : Cc} (h : cCc W.toWc c e = some q) : PE X e (tC (q.vv X.K)) := by
  unfold cCc at h
  split at h
  · rename_i x pos
    split at h
    · rename_i hg
      obtain ⟨g, h1⟩ := gl_ok k hg
      split at h
      · rename_i hf
        cases hb : btTab.lookup x with
        | none => rw [hb] at h; cases h
        | some b =>
          rw [hb] at h; cases h
          obtain ⟨b1, b2⟩ := bt_boot _ (mem_look hb)
          exact pe_bltn g (L.st.free x hf) b1 rfl b2 h1
      · split at h
        · rename_i C hC
          split at h
          · rename_i e
            cases h; subst e
            obtain ⟨u, v, e1, r, q⟩ := L.st.glob C _ hC
            have q : v = .ref (He.ga X.K C) := q (fun _ => none)
            subst q
            exact pe_glob g e1 r h1
          · cases h
        · cases h
    · cases h
  · cases h
theorem snd_ccs (L : Lv X W d) (k : CxOk X N c) : ∀ {es : List Expr} {qs : List Cc}, cCcs W.toWc c es = some qs → Paired (fun (q : Cc) e => PE X e (tC (q.vv X.K))) qs es
  | [], qs, h => by unfold cCcs at h; cases h; exact .nil
  | e :: es, qs, h => by
    unfold cCcs at h
    split at h
    · rename_i q r h1 h2
      cases h
      exact .cons (snd_cc L k h1) (snd_ccs L k h2)
    · cases h
theorem snd_isin (S : Snd W N d f) (L : Lv X W d) (k : CxOk X N c) {es : List Expr} {p pos : Pos} (hg : Gl X "isinstance") (hm : X.mg "isinstance" = none) : JE X W d (.Call (.Name "isinstance" p) es [] pos) (cIsin W.toWc f c es) := by
  unfold cIsin
  split
  · split
    · rename_i h
      split
      · rename_i q qs hq
        refine je_isinT L hg hm h.1 h.2.1 (S.e X c L k _) ?_ (by simp) (snd_ccs L k hq)
        have := (snd_ccs L k hq).length
        omega
      · exact je_nope
    · exact je_nope
  · split
    · rename_i h
      split
      · rename_i q hq
        exact je_isin1 (nm := "isinstance") (pos2 := p) L hg hm h.1 h.2 (S.e X c L k _) (snd_cc L k hq)
      · exact je_nope
    · exact je_nope
  · exact je_nope
theorem snd_rng (S : Snd W N d f) (L : Lv X W d) (k : CxOk X N c) {a : Expr} {g : Str} {p pos : Pos} {tup : Bool} (hnm : g = if tup then "tuple" else "list") (hg : Gl X g) (hm : X.mg g = none) : JE X W d (.Call (.Name g p) [a] [] pos) (cRng W.toWc f c tup a) := by
  unfold cRng
  split
  · split
    · rename_i h
      obtain ⟨e, h1, h2, h3⟩ := h
      subst e
      exact je_rngA L hnm hg hm (gl_ok k h1).1 (L.st.free _ h2) h3 (S.e X c L k _)
    · exact je_nope
  · split
    · rename_i h
      obtain ⟨e, h1, h2, h3, h4⟩ := h
      subst e
      exact je_rngB L hnm hg hm (gl_ok k h1).1 (L.st.free _ h2) h3 h4 (S.e X c L k _) (S.e X c L k _)
    · exact je_nope
  · exact je_nope
theorem snd_call (S : Snd W N d f) (L : Lv X W d) (k : CxOk X N c) {es : List Expr} {g : Str} {p pos : Pos} : JE X W d (.Call (.Name g p) es [] pos) (cCall W.toWc f c g es) := by
  unfold cCall
  split
  · rename_i h
    obtain ⟨hg, hs⟩ := h
    obtain ⟨g1, g2⟩ := gl_ok k hg
    have ha := snd_args S L k hs
    split
    · rename_i key hC
      split
      · rename_i hf
        cases es with
        | nil => exact je_make0 L hC g1 g2 (L.has _ hf)
        | cons e es => exact je_make L hC g1 g2 (L.has _ hf) hs ha
      · exact je_nope
    · split
      · rename_i hf
        split
        · rename_i hp
          cases es with
          | nil => exact je_call0 L g1 (L.has _ hf) hp g2
          | cons e es => exact je_call L g1 (L.has _ hf) hp g2 hs ha
        · exact je_nope
      · split
        · rename_i hfr
          have hm := L.st.free g hfr
          split
          · rename_i e
            subst e
            exact snd_isin S L k g1 hm
          · split
            · exact je_nope
            · split
              · rename_i h
                obtain ⟨h1, h2, h3⟩ := h
                subst h2
                refine snd_rng S L k ?_ g1 hm
                rcases h3 with e | e
                · subst e; rfl
                · subst e; rfl
              · split
                · rename_i b hb
                  obtain ⟨b1, b2⟩ := bi_boot _ (mem_look hb)
                  exact je_bi L g1 hm b1 b2 g2 hs ha
                · exact je_nope
        · exact je_nope
  · exact je_nope
theorem snd_meth (S : Snd W N d f) (L : Lv X W d) (k : CxOk X N c) {o : Expr} {m : Str} {apos pos : Pos} {es : List Expr} : JE X W d (.Call (.Attribute o m apos) es [] pos) (cMeth f c o m apos pos es) := by
  unfold cMeth
  split
  · rename_i h
    obtain ⟨h1, h2, h3, h4, h5⟩ := h
    cases es with
    | nil => exact je_meth0 L (S.e X c L k o) h1 h4 h5
    | cons e es => exact je_meth L (S.e X c L k o) (snd_args S L k h2) h1 h2 h3 h4 h5
  · exact je_nope
theorem snd_tgs (S : Snd W N d f) (L : Lv X W d) (k : CxOk X N c) {n : Nat} (ih : ∀ e, JG X W d e (cT N f c n e)) : ∀ {es : List Expr}, es.all nostar = true → JGs X W d es (es.map (cT N f c n))
  | [], _ => jgs_nil
  | e :: es, h => by
    rw [List.all_cons, Bool.and_eq_true] at h
    exact jgs_cons (ih e) (snd_tgs S L k ih h.2) h.1
theorem snd_tg (S : Snd W N d f) (L : Lv X W d) (k : CxOk X N c) : ∀ (n : Nat) (e : Expr), JG X W d e (cT N f c n e)
  | 0, _ => by unfold cT; exact jg_nope
  | n + 1, e => by
    unfold cT
    split
    · contradiction
    · rename_i e1
      split
      · rename_i h
        obtain ⟨l1, l2⟩ := loc_ok k h.2
        exact jg_var L (inN_ok k h.1) l1 l2
      · exact jg_nope
    · rename_i e1
      cases e1
      split
      · rename_i h
        exact jg_tup L (snd_tgs S L k (snd_tg S L k n) h) h (by rw [List.length_map])
      · exact jg_nope
    · split
      · rename_i h
        exact jg_item (S.e X c L k _) (S.e X c L k _) h
      · exact jg_nope
    · exact jg_nope
end
end MP
/-! The compiler's soundness. -/
namespace MP
open PySem PySem.Spec PyProof.Rows L2 ClX
section
variable {W : Wd} {N : List Str} {d : Nat} {f : Ctx → Expr → E} {X : Cx} {c : Ctx}
theorem snd_it (S : Snd W N d f) (L : Lv X W d) (k : CxOk X N c) {tg it : Expr} : JI X W d tg it (cI W.toWc f c tg it) := by
  unfold cI
  split
  · rename_i r p es pos
    split
    · rename_i h
      obtain ⟨hg, hf, hs⟩ := h
      obtain ⟨g1, g2⟩ := gl_ok k hg
      have hm := L.st.free r hf
      split
      · rename_i e
        subst e
        split
        · simp only [List.all_cons, List.all_nil, Bool.and_true] at hs
          exact ji_rng1 g1 hm (S.e X c L k _) hs
        · simp only [List.all_cons, List.all_nil, Bool.and_true, Bool.and_eq_true] at hs
          exact ji_rng2 g1 hm (S.e X c L k _) (S.e X c L k _) hs.1 hs.2
        · simp only [List.all_cons, List.all_nil, Bool.and_true, Bool.and_eq_true] at hs
          exact ji_rng3 g1 hm (S.e X c L k _) (S.e X c L k _) (S.e X c L k _) hs.1 hs.2.1 hs.2.2
        · exact ji_nope
      · split
        · rename_i h
          obtain ⟨e, ht⟩ := h
          subst e
          cases tg <;> first | (cases ht; done) | skip
          split
          · simp only [List.all_cons, List.all_nil, Bool.and_true] at hs
            exact ji_enum g1 hm (S.e X c L k _) hs
          · exact ji_nope
        · split
          · rename_i h
            obtain ⟨e, ht⟩ := h
            subst e
            cases tg <;> first | (cases ht; done) | skip
            split
            · simp only [List.all_cons, List.all_nil, Bool.and_true, Bool.and_eq_true] at hs
              exact ji_zip g1 hm (S.e X c L k _) (S.e X c L k _) hs.1 hs.2
            · exact ji_nope
          · exact ji_val (S.e X c L k _)
    · exact ji_val (S.e X c L k _)
  · exact ji_val (S.e X c L k _)
theorem lv_blk (L : Lv X W d) {s : Shared} {H : Hp} {scope : Scope} {C : Addr} {cl : List (Str × Addr)} {fp : List Addr} : Lv (X.blk s H scope (compEnvC scope cl C X.env) fp) W d := ⟨L.st, L.fn, L.has, L.room, L.calm, L.nd⟩
theorem cx_blk (k : CxOk X N c) {s : Shared} {H : Hp} {scope : Scope} {C : Addr} {cl : List (Str × Addr)} {fp : List Addr} : CxOk (X.blk s H scope (compEnvC scope cl C X.env) fp) N (blkCtx c scope) :=
  ⟨k.n, by show relS scope X.env.scope = relS scope c.sc; rw [k.sc], rfl⟩
theorem snd_ifs {X' : Cx} {c' : Ctx} (S : Snd W N d f) (L : Lv X' W d) (k : CxOk X' N c') : ∀ (ifs : List Expr), PTs X' ifs (tF0 X'.K W d (ifs.map (f c')))
  | [] => ptf_nil
  | [e] => ptf_one (S.t X' c' L k e)
  | e :: e2 :: es => ptf_two
/-- a comprehension's parts -/
theorem snd_comp (S : Snd W N d f) (L : Lv X W d) (k : CxOk X N c) {elt : Expr} {g : Comprehension} {scope : Scope} {pos : Pos} : JE X W d (.ListComp elt [g] scope pos) (cComp W.toWc N f c elt g scope) := by
  unfold cComp
  split
  · split
    · rename_i h
      obtain ⟨h1, h2, h3⟩ := h
      refine je_comp L (snd_it S L k) (blkOk_by (by rw [k.n, k.sc]; exact h1)) (fun s H C cl fp => snd_tg S (lv_blk L) (cx_blk k) _ _) (fun s H C cl fp => snd_ifs S (lv_blk L) (cx_blk k) _) (fun s H C cl fp => S.e _ _ (lv_blk L) (cx_blk k) _) h3 h2
    · exact je_nope
  · exact je_nope
theorem snd_and (S : Snd W N d f) (L : Lv X W d) (k : CxOk X N c) {pos : Pos} : ∀ (es : List Expr), JE X W d (.BoolOp .And es pos) (cBool f .and c es)
  | [] => je_nope
  | [e] => je_one (S.e X c L k e)
  | e :: e2 :: es => je_and (S.e X c L k e) (snd_and S L k (e2 :: es))
theorem snd_or (S : Snd W N d f) (L : Lv X W d) (k : CxOk X N c) {pos : Pos} : ∀ (es : List Expr), JE X W d (.BoolOp .Or es pos) (cBool f .or c es)
  | [] => je_nope
  | [e] => je_one (S.e X c L k e)
  | e :: e2 :: es => je_or (S.e X c L k e) (snd_or S L k (e2 :: es))
theorem jw_nope {e : Expr} : JW X W d e .nope := .mk fun wh pins s σ H env h k EX I R S hx hw => by
  rw [wT_plain rfl] at hw
  unfold wE at hw
  exact hw.elim
theorem snd_andT (S : Snd W N d f) (L : Lv X W d) (k : CxOk X N c) {pos : Pos} : ∀ (es : List Expr), JW X W d (.BoolOp .And es pos) (cBool f .and c es)
  | [] => jw_nope
  | [e] => jw_and1 (S.t X c L k e)
  | e :: e2 :: es => jw_and (S.t X c L k e) (snd_andT S L k (e2 :: es))
theorem snd_orT (S : Snd W N d f) (L : Lv X W d) (k : CxOk X N c) {pos : Pos} : ∀ (es : List Expr), JW X W d (.BoolOp .Or es pos) (cBool f .or c es)
  | [] => jw_nope
  | [e] => jw_or1 (S.t X c L k e)
  | e :: e2 :: es => jw_or (S.t X c L k e) (snd_orT S L k (e2 :: es))
theorem snd_po (S : Snd W N d f) (L : Lv X W d) (k : CxOk X N c) : ∀ (e : Option Expr), JO X W d e (e.map (f c))
  | none => jo_none
  | some e => jo_some (S.e X c L k e)
theorem step_e (S : Snd W N d f) (L : Lv X W d) (k : CxOk X N c) (e : Expr) : JE X W d e (stepE W.toWc N f c e) := by
  unfold stepE
  split
  · split
    · exact je_int
    · exact je_bl
    · exact je_str
    · exact je_non
    · exact je_nope
  · exact snd_name L k
  · exact je_bin L (S.e X c L k _) (S.e X c L k _)
  · split
    · exact je_neg (S.e X c L k _)
    · exact je_not (S.e X c L k _)
    · exact je_nope
  · split
    · exact snd_and S L k _
    · exact snd_or S L k _
  · split
    · split
      · exact je_cmp L (S.e X c L k _) (S.e X c L k _) (by assumption)
      · exact je_nope
    · split
      · exact je_chain L (S.e X c L k _) (S.e X c L k _) (S.e X c L k _) (by assumption)
      · exact je_nope
    · exact je_nope
  · exact je_ite (S.t X c L k _) (S.e X c L k _) (S.e X c L k _)
  · split
    · exact je_tup (snd_args S L k (by assumption))
    · exact je_nope
  · split
    · exact je_lst (snd_args S L k (by assumption))
    · exact je_nope
  · split
    · exact snd_call S L k
    · exact snd_meth S L k
    · exact je_nope
  · split
    · exact je_attr L (S.e X c L k _) (by assumption)
    · exact je_nope
  · split
    · split
      · exact je_slice (S.e X c L k _) (snd_po S L k _) (snd_po S L k _)
      · exact je_nope
    · split
      · exact je_item (S.e X c L k _) (S.e X c L k _) (by assumption)
      · exact je_nope
  · split
    · exact snd_comp S L k
    · exact je_nope
  · exact je_nope
theorem jt_nope {e : Expr} (he : ∀ whole, isTrue e X.env whole = (do let v ← whole; standAt e.pos; holding [v] (truthy v))) : JT X W d e .nope := jt_val je_nope rfl he
/-- a test whose term can't hold -/
theorem jt_off {e : Expr} {ir : E} (h : ∀ P c env h Q EX, ¬ wT P c ir env h Q EX) : JT X W d e ir := .mk fun pins s σ H env h k EX I R S hx hw => (by assumption : ∀ P c env h Q EX, ¬ wT P c ir env h Q EX) _ _ _ _ _ _ hw |>.elim
theorem wT_nope {P : Cl} {c : Csem} {env : Env} {h : Hq} {Q : Bool → Hq → Prop} {EX : Xq} : ¬ wT P c .nope env h Q EX := by
  rw [wT_plain rfl]; unfold wE; exact id
theorem wT_ite {P : Cl} {c : Csem} {env : Env} {h : Hq} {Q : Bool → Hq → Prop} {EX : Xq} {a b e : E} : ¬ wT P c (.ite a b e) env h Q EX := by
  unfold wT; exact id
theorem step_t (S : Snd W N d f) (L : Lv X W d) (k : CxOk X N c) (e : Expr) : JT X W d e (stepE W.toWc N f c e) := by
  have he := step_e S L k e
  cases e with
  | BoolOp o es pos =>
    unfold stepE
    cases o with
    | And => exact (snd_andT S L k es).pt
    | Or => exact (snd_orT S L k es).pt
  | UnaryOp o a pos =>
    unfold stepE at he ⊢
    cases o with
    | Not => exact jt_not (S.t X c L k a)
    | USub => exact jt_val he rfl (by intro _; rfl)
    | UAdd => exact jt_off fun _ _ _ _ _ _ => wT_nope
    | Invert => exact jt_off fun _ _ _ _ _ _ => wT_nope
  | Compare a os bs pos =>
    unfold stepE
    dsimp only
    split
    · split
      · exact jt_cmp L (S.e X c L k _) (S.e X c L k _) (by assumption)
      · exact jt_off fun _ _ _ _ _ _ => wT_nope
    · split
      · exact jt_chain L (S.e X c L k _) (S.e X c L k _) (S.e X c L k _) (by assumption)
      · exact jt_off fun _ _ _ _ _ _ => wT_nope
    · exact jt_off fun _ _ _ _ _ _ => wT_nope
  | IfExp t a b pos =>
    unfold stepE
    exact jt_off fun _ _ _ _ _ _ => wT_ite
  | _ =>
    refine jt_val he ?_ (by intro _; rfl)
    clear he
    unfold stepE
    dsimp only
    first
      | rfl
      | (unfold cName; (repeat' split) <;> rfl)
      | ((repeat' split) <;> first | rfl | (unfold cCall cIsin cRng; (repeat' split) <;> rfl) | (unfold cMeth; (repeat' split) <;> rfl) | (unfold cComp; (repeat' split) <;> rfl))
theorem snd_E : ∀ n, Snd W N d (cE W.toWc N n)
  | 0 => ⟨fun X c L k e => by unfold cE; exact je_nope, fun X c L k e => by unfold cE; exact jt_off fun _ _ _ _ _ _ => wT_nope⟩
  | n + 1 => ⟨fun X c L k e => by unfold cE; exact step_e (snd_E n) L k e, fun X c L k e => by unfold cE; exact step_t (snd_E n) L k e⟩
end
end MP
/-! Statements: the compiler, its soundness; a def's body; the program. -/
namespace MP
open PySem PySem.Spec PyProof.Rows L2 ClX
section
variable (W : Wc) (N : List Str) (f : Ctx → Expr → E)
def isFnK (sc : Scope) : Bool := match sc.kind with
  | .function => true
  | _ => false
def cSetC (c : Ctx) (nm : Str) (py p2 : Pos) (elt : Expr) (g : Comprehension) (scope : Scope) : S := match cComp W N f c elt g scope with
  | .comp a b t i js => if inN N nm = true ∧ kindC c nm = some .local ∧ isFnK c.sc = true ∧ (py.line == p2.line) = true ∧ (scope.names.any fun (n, k) => n == nm && (k == .local || k == .cell)) = false then .asg (.var (idxC N nm)) (.comp a b t i js) else .nope
  | _ => .nope
def cPar (c : Ctx) (x y : Str) (px py : Pos) (a b : Expr) : S :=
  if inN N x = true ∧ inN N y = true ∧ kindC c x = some .local ∧ kindC c y = some .local ∧ isFnK c.sc = true ∧ (py.line == px.line) = true ∧ x ≠ y ∧ nostar a = true ∧ nostar b = true ∧ (foldedForSure 8 a && foldedForSure 8 b) = false ∧ (constantsAlone 8 a && constantsAlone 8 b) = false
  then .par (idxC N x) (idxC N y) (f c a) (f c b) else .nope
def cAsg (c : Ctx) (tg e : Expr) : S := match tg, e with
  | .Name nm py, .ListComp elt [g] scope p2 => cSetC W N f c nm py p2 elt g scope
  | .Attribute o fl _, e => if nocomp e = true then .asg (.attr (f c o) fl) (f c e) else .nope
  | .Tuple [.Name x px, .Name y py] _ _, .Tuple [a, b] _ _ => cPar N f c x y px py a b
  | tg, e => if nocomp e = true ∧ nostar tg = true ∧ (notup tg || notup e) = true then .asg (cT N f c 4 tg) (f c e) else .nope
def cS (c : Ctx) : Nat → Stmt → S
  | 0, _ => .nope
  | n + 1, st => match st with
    | .Pass _ => .pass
    | .Break _ => .brk
    | .Continue _ => .cont
    | .Return r _ => (match r with
      | some e => .ret (f c e)
      | none => .retN)
    | .Expr e _ => (match e with
      | .Constant (.str _) _ _ => .pass
      | e => if nocomp e = true then .expr (f c e) else .nope)
    | .If t a b _ => .ite (f c t) (a.map (cS c n)) (b.map (cS c n))
    | .While t b o _ => (match o with
      | [] => .while (f c t) (b.map (cS c n))
      | _ => .nope)
    | .For tg it b o _ => (match o with
      | [] => if noset it = true then .for (cT N f c 4 tg) (cI W f c tg it) (b.map (cS c n)) else .nope
      | _ => .nope)
    | .Assign ts e _ => (match ts with
      | [tg] => cAsg W N f c tg e
      | _ => .nope)
    | .AugAssign tg o e _ => (match tg with
      | .Name nm _ => if inN N nm = true ∧ locC c nm = true then .aug (idxC N nm) o (f c e) else .nope
      | _ => .nope)
    | _ => .nope
end
section
variable {W : Wd} {N : List Str} {d : Nat} {f : Ctx → Expr → E} {X : Cx} {c : Ctx}
theorem isFnK_ok {sc : Scope} (h : isFnK sc = true) : sc.kind = .function := by
  unfold isFnK at h
  split at h
  · assumption
  · cases h
theorem snd_setC (S : Snd W N d f) (L : Lv X W d) (k : CxOk X N c) {nm : Str} {py p2 pos : Pos} {elt : Expr} {g : Comprehension} {scope : Scope} : JS X W d (.Assign [.Name nm py] (.ListComp elt [g] scope p2) pos) (cSetC W.toWc N f c nm py p2 elt g scope) := by
  unfold cSetC
  split
  · rename_i a b t i js hq
    split
    · rename_i h
      obtain ⟨h1, h2, h3, h4, h5⟩ := h
      unfold cComp at hq
      split at hq
      · split at hq
        · rename_i hc
          obtain ⟨c1, c2, c3⟩ := hc
          cases hq
          refine js_setLc L (inN_ok k h1) (by rw [k.sc]; exact h2) (by rw [k.sc]; exact isFnK_ok h3) h4 h5 (snd_it S L k) (blkOk_by (by rw [k.n, k.sc]; exact c1)) (fun s H C cl fp => snd_tg S (lv_blk L) (cx_blk k) _ _) (fun s H C cl fp => snd_ifs S (lv_blk L) (cx_blk k) _) (fun s H C cl fp => S.e _ _ (lv_blk L) (cx_blk k) _) c3 c2
        · cases hq
      · cases hq
    · exact js_nope
  · exact js_nope
theorem snd_asg (S : Snd W N d f) (L : Lv X W d) (k : CxOk X N c) {tg e : Expr} {pos : Pos} : JS X W d (.Assign [tg] e pos) (cAsg W.toWc N f c tg e) := by
  unfold cAsg
  split
  · exact snd_setC S L k
  · split
    · exact js_fld L (S.e X c L k _) (S.e X c L k _) (by assumption)
    · exact js_nope
  · unfold cPar
    split
    · rename_i h
      obtain ⟨h1, h2, h3, h4, h5, h6, h7, h8, h9, h10, h11⟩ := h
      exact js_par L (inN_ok k h1) (inN_ok k h2) (by rw [k.sc]; exact isFnK_ok h5) (by rw [k.sc]; exact h3) (by rw [k.sc]; exact h4) h6 h7 h8 h9 h10 h11 (S.e X c L k _) (S.e X c L k _)
    · exact js_nope
  · split
    · rename_i h
      exact js_asg (S.e X c L k _) (snd_tg S L k 4 _) h.1 h.2.1 h.2.2
    · exact js_nope
theorem snd_ss {n : Nat} (ih : ∀ st, JS X W d st (cS W.toWc N f c n st)) : ∀ (sts : List Stmt), JSs X W d sts (sts.map (cS W.toWc N f c n))
  | [] => jss_nil
  | st :: sts => jss_cons (ih st) (snd_ss ih sts)
theorem snd_st (S : Snd W N d f) (L : LvS X W d) (k : CxOk X N c) : ∀ (n : Nat) (st : Stmt), JS X W d st (cS W.toWc N f c n st)
  | 0, _ => by unfold cS; exact js_nope
  | n + 1, st => by
    have ih := snd_st S L k n
    have L0 := L.toLv
    unfold cS
    split
    · exact js_pass
    · exact js_brk
    · exact js_cont
    · split
      · exact js_ret (S.e X c L0 k _)
      · exact js_retN
    · split
      · exact js_doc
      · split
        · exact js_expr (S.e X c L0 k _) (by assumption)
        · exact js_nope
    · exact js_ite (S.t X c L0 k _) (snd_ss ih _) (snd_ss ih _)
    · split
      · exact js_while L (S.t X c L0 k _) (snd_ss ih _)
      · exact js_nope
    · split
      · split
        · exact js_for L (snd_it S L0 k) (snd_tg S L0 k 4 _) (snd_ss ih _) (by assumption)
        · exact js_nope
      · exact js_nope
    · split
      · exact snd_asg S L0 k
      · exact js_nope
    · split
      · split
        · rename_i h
          obtain ⟨l1, l2⟩ := loc_ok k h.2
          exact js_aug L0 (inN_ok k h.1) l1 l2 (S.e X c L0 k _)
        · exact js_nope
      · exact js_nope
    · exact js_nope
end
end MP
/-! The program: every function keeps its promise; what the written part must show. -/
namespace MP
open PySem PySem.Spec PyProof.Rows L2 ClX
theorem zip_some : ∀ {ps : List Str} {us : List Value} {x : Str}, us.length = ps.length → x ∈ ps → ∃ u, (ps.zip us).lookup x = some u
  | p :: ps, [], x, h, _ => by simp at h
  | p :: ps, u :: us, x, h, hx => by
    cases q : x == p with
    | true => exact ⟨u, by simp [List.lookup_cons, q]⟩
    | false =>
      have hx' : x ∈ ps := by
        rcases List.mem_cons.mp hx with e | e
        · subst e; simp at q
        · exact e
      obtain ⟨v, e⟩ := zip_some (us := us) (by simpa using h) hx'
      exact ⟨v, by simp [List.lookup_cons, q, e]⟩
theorem zip_look : ∀ {ps : List Str} {us : List Value} (l : List (Str × Value)), us.length = ps.length → ps.Nodup → (∀ x v, (x, v) ∈ ps.zip us → l.lookup x = some v) → ps.filterMap (fun n => (l.lookup n).map (n, ·)) = ps.zip us
  | [], us, _, h, _, _ => by cases us <;> rfl
  | p :: ps, [], _, h, _, _ => by simp at h
  | p :: ps, u :: us, l, h, nd, ha => by
    have hn := List.nodup_cons.mp nd
    rw [List.filterMap_cons, ha p u List.mem_cons_self]
    show (p, u) :: ps.filterMap _ = (p, u) :: ps.zip us
    rw [zip_look l (by simpa using h) hn.2 fun x v q => ha x v (List.mem_cons_of_mem _ q)]
theorem zip_own : ∀ {ps : List Str} {us : List Value}, ps.Nodup → ∀ x v, (x, v) ∈ ps.zip us → (ps.zip us).lookup x = some v
  | [], _, _, x, v, h => by simp at h
  | p :: ps, [], _, x, v, h => by simp at h
  | p :: ps, u :: us, nd, x, v, h => by
    have hn := List.nodup_cons.mp nd
    rcases List.mem_cons.mp (show (x, v) ∈ (p, u) :: ps.zip us from h) with e | e
    · cases e; simp
    · have hx : x ∈ ps := (List.of_mem_zip e).1
      have q : (x == p) = false := by
        refine beq_eq_false_iff_ne.mpr fun z => ?_
        subst z; exact hn.1 hx
      show ((p, u) :: ps.zip us).lookup x = some v
      simp only [List.lookup_cons, q]
      exact zip_own hn.2 x v e
theorem bind_plain {fd : FuncData} {ps : List Str} (h1 : fd.params.posonlyargs = []) (h2 : fd.params.kwonlyargs = []) (h3 : fd.params.vararg = none) (h4 : fd.params.kwarg = none) (h5 : fd.params.args.map (·.arg) = ps) (h6 : fd.defaults = .none) (nd : ps.Nodup) (us : List Value) (hl : us.length = ps.length) :
    bindArgs fd ⟨us, []⟩ = pure (ps.zip us) := by
  unfold bindArgs
  have hz : ps.filterMap (fun n => ((ps.zip us).lookup n).map (n, ·)) = ps.zip us := zip_look _ hl nd (zip_own nd)
  have hm : (ps.filter fun n => ((ps.zip us).lookup n).isNone) = [] := by
    refine List.filter_eq_nil_iff.mpr fun x hx => ?_
    obtain ⟨u, e⟩ := zip_some hl hx
    rw [e]; simp
  simp only [h1, h2, h3, h4, h5, h6]
  simp [seqItems?, hl, hz, hm, notAStandIn]
/-- one def of the program -/
structure PD where
  key : Str
  dd : He.DefD
  N : List Str
  ps : List Str
def PD.ctx (p : PD) : Ctx := ⟨p.dd.scope, fun _ => true⟩
def PD.fn (w : Wc) (p : PD) : Fn := ⟨p.ps, p.N.length, p.dd.body.map (cS w p.N (cE w p.N 60) p.ctx 60)⟩
def PD.ok (p : PD) : Bool := isFnK p.dd.scope && !p.dd.scope.isCoroutine && !p.dd.scope.isGenerator && decide p.N.Nodup && decide (p.N.take p.ps.length = p.ps) &&
  (p.ps.all fun x => match p.dd.scope.names.lookup x with | some .local => true | some .cell => true | _ => false) && (p.dd.scope.names.all fun y => decide (y.2 ≠ .free)) &&
  p.dd.params.posonlyargs.isEmpty && p.dd.params.kwonlyargs.isEmpty && p.dd.params.vararg.isNone && p.dd.params.kwarg.isNone && decide (p.dd.params.args.map (·.arg) = p.ps) && p.dd.dfl.isEmpty && p.dd.kwd.isEmpty
theorem PD.scope {p : PD} (h : p.ok = true) : FnScope p.N p.ps p.dd.scope ∧ (p.dd.params.posonlyargs = [] ∧ p.dd.params.kwonlyargs = [] ∧ p.dd.params.vararg = none ∧ p.dd.params.kwarg = none ∧ p.dd.params.args.map (·.arg) = p.ps) ∧ p.dd.dfl = [] ∧ p.dd.kwd = [] := by
  unfold PD.ok at h
  simp only [Bool.and_eq_true, Bool.not_eq_true', decide_eq_true_eq, List.all_eq_true, List.isEmpty_iff, Option.isNone_iff_eq_none] at h
  obtain ⟨⟨⟨⟨⟨⟨⟨⟨⟨⟨⟨⟨⟨h1, h2⟩, h3⟩, h4⟩, h5⟩, h6⟩, h7⟩, h8⟩, h9⟩, h10⟩, h11⟩, h12⟩, h13⟩, h14⟩ := h
  refine ⟨⟨isFnK_ok h1, h2, h3, h4, h5, fun x hx => ?_, h7⟩, ⟨h8, h9, h10, h11, h12⟩, h13, h14⟩
  have := h6 x hx
  split at this
  · exact .inl (by assumption)
  · exact .inr (by assumption)
  · cases this
def fsOf (w : Wc) (pds : List PD) : Fns := fun k => (pds.find? fun p => decide (p.key = k)).map (PD.fn w)
def wdOf (w : Wc) (pds : List PD) : Wd := ⟨w, fsOf w pds⟩
theorem start_env {K : PySem.W.Frag} {H : Hp} {N : List Str} {ds : List D} {vs : List V} (r : RepVs K H ds vs) (hl : vs.length ≤ N.length) : EnvR K H (startE N.length ds) (L2.start N vs) := by
  have e := r.length
  refine ⟨?_, fun i d h => ?_⟩
  · unfold startE L2.start
    rw [List.length_append, List.length_append, List.length_map, List.length_map, List.length_replicate, List.length_replicate]
    omega
  · unfold startE at h
    unfold L2.start
    by_cases hi : i < ds.length
    · rw [List.getElem?_append_left (by simpa using hi), List.getElem?_map] at h
      cases q : ds[i]? with
      | none => rw [q] at h; cases h
      | some x =>
        rw [q] at h; cases h
        obtain ⟨v, e1, e2⟩ := r.get q
        exact ⟨v, by rw [List.getElem?_append_left (by rw [List.length_map]; omega), List.getElem?_map, e1]; rfl, e2⟩
    · rw [List.getElem?_append_right (by simpa using hi), List.getElem?_replicate] at h
      split at h <;> cases h
section
variable {P : Program} {w : World} {K : PySem.W.Frag} {mg : Str → Option Value} {base : Heap}
theorem find_fn {wc : Wc} {pds : List PD} {k : Str} {F : Fn} (h : fsOf wc pds k = some F) : ∃ p, pds.find? (fun p => decide (p.key = k)) = some p ∧ p ∈ pds ∧ p.key = k ∧ F = p.fn wc := by
  unfold fsOf at h
  cases q : pds.find? (fun p => decide (p.key = k)) with
  | none => rw [q] at h; cases h
  | some p =>
    rw [q] at h; cases h
    exact ⟨p, rfl, List.mem_of_find?_eq_some q, by simpa using List.find?_some q, rfl⟩
/-- a def of the program: its data in the written part -/
def PD.In (K : PySem.W.Frag) (p : PD) : Prop := ∃ fd, FunD K p.dd.name p.dd.qual p.dd.params p.dd.body p.dd.scope [] [] (He.fAd K p.dd.at_) fd
theorem pd_binds {p : PD} {fd : FuncData} (h : p.ok = true) (F : FunD K p.dd.name p.dd.qual p.dd.params p.dd.body p.dd.scope [] [] (He.fAd K p.dd.at_) fd) : ∀ us : List Value, us.length = p.ps.length → bindArgs fd ⟨us, []⟩ = pure (p.ps.zip us) := by
  obtain ⟨S, ⟨b1, b2, b3, b4, b5⟩, _, _⟩ := PD.scope h
  obtain ⟨oc, od, dV, kV, doc, pm, an, cdv, ct, osl, rfl, lk, hcd, hD, _⟩ := F.ex
  have hd : dV = .none := by
    rcases hD with ⟨_, e⟩ | ⟨e, _⟩
    · exact e
    · exact absurd rfl e
  have nd : p.ps.Nodup := by rw [← S.pre]; exact S.nd.sublist (List.take_sublist _ _)
  intro us hl
  exact bind_plain b1 b2 b3 b4 b5 hd nd us hl
/-- every function keeps its promise, at every depth -/
theorem prog_at {wc : Wc} {pds : List PD} (hp : ∀ p ∈ pds, p.ok = true ∧ p.In K ∧ wc.path p.key = p.dd.at_) (hh : ∀ k, wc.has k = true → (fsOf wc pds k).isSome = true) (st : St K mg (wdOf wc pds)) :
    ∀ (d : Nat) (k : Str) (p : PD), pds.find? (fun p => decide (p.key = k)) = some p → ∀ fd, FunD K p.dd.name p.dd.qual p.dd.params p.dd.body p.dd.scope [] [] (He.fAd K p.dd.at_) fd →
      FnOk P w K mg base (L2.CX P w) (lev d) ((wdOf wc pds).ad K k) fd p.ps (spF K (wdOf wc pds) d k) ∧ Binds K fd p.ps []
  | 0, k, p, hF, fd, FD => by
    obtain ⟨h1, _, h3⟩ := hp p (List.mem_of_find?_eq_some hF)
    refine ⟨⟨fun vs H Q E h => ?_, fun A outer s H args us vs Q E hr he hb hv h => ?_⟩, .all (pd_binds h1 FD)⟩
    · obtain ⟨ds, h, k', EX, r, S, hw, _⟩ := h
      exact (show False from hw).elim
    · obtain ⟨ds, h, k', EX, r, S, hw, _⟩ := h
      exact (show False from hw).elim
  | d + 1, k, p, hF, fd, FD => by
    have ih := prog_at hp hh st d
    have hFs : fsOf wc pds k = some (p.fn wc) := by unfold fsOf; rw [hF]; rfl
    have pk : p.key = k := by simpa using List.find?_some hF
    obtain ⟨h1, _, h3⟩ := hp p (List.mem_of_find?_eq_some hF)
    obtain ⟨S, _⟩ := PD.scope h1
    have hat : (wdOf wc pds).ad K k = He.fAd K p.dd.at_ := by
      show He.fAd K (wc.path k) = _
      rw [← pk, h3]
    rw [hat]
    have hpl : p.ps.length ≤ p.N.length := by have := congrArg List.length S.pre; rw [List.length_take] at this; omega
    have un : ∀ {ds h k' EX}, callW (wdOf wc pds).P (wdOf wc pds).fs (d + 1) k ds h k' EX → ds.length = p.ps.length ∧ wSs (wdOf wc pds).P (callW (wdOf wc pds).P (wdOf wc pds).fs d) (p.fn wc).body (startE p.N.length ds) h ⟨fun _ h' => k' .non h', k', fun _ _ => False, fun _ _ => False, fun _ x h' => EX x h'⟩ := fun {ds h k' EX} q => by
      unfold callW at q
      rw [show (wdOf wc pds).fs k = some (p.fn wc) from hFs] at q
      exact q
    refine ⟨FD.ok (k := lev d + 1) S (fun vs H Q E h => ?_) (fun cdv A outer s H vs Q E hr h => ?_), .all (pd_binds h1 FD)⟩
    · obtain ⟨ds, h, k', EX, r, S, hw, _⟩ := h
      rw [r.length]; exact (un hw).1
    · obtain ⟨ds, h, k', EX, r, S', hw, hq, hX⟩ := h
      obtain ⟨hl, hw⟩ := un hw
      let X := cxOf (L2.CX P w) P w K mg base p.N p.dd.qual p.dd.scope (He.fAd K p.dd.at_) cdv A outer s H E
      have L : LvS X (wdOf wc pds) d := { st := st, fn := fun k F e => by
                                            obtain ⟨q, q1, q2, q3, rfl⟩ := find_fn e
                                            obtain ⟨_, ⟨fd', FD'⟩, _⟩ := hp q q2
                                            exact ⟨fd', ih k q q1 fd' FD'⟩,
                                          has := hh, room := hr, calm := rfl, nd := S.nd, hp := passes_of rfl }
      have kx : CxOk X p.N p.ctx := ⟨rfl, rfl, rfl⟩
      refine ⟨tSs X (wdOf wc pds) d (p.fn wc).body, snd_ss (snd_st (snd_E 60) L kx 60) p.dd.body, startE p.N.length ds, h, _, start_env r (by rw [r.length]; omega), S', hw, ?_⟩
      refine ⟨fun σ' H' ⟨env', h', kp, S2, R2, q⟩ => hq _ _ ⟨.non, h', kp, S2, rfl, q⟩, fun v H' g => hq _ _ g, fun σ' H' ⟨_, _, _, _, _, q⟩ => q.elim, fun σ' H' ⟨_, _, _, _, _, q⟩ => q.elim, fun env' σ' H1 kp R => ?_⟩
      exact ⟨fun cls dd _ H' => E cls dd H', takes_of rfl rfl rfl rfl, fun x h' cls dd H' e k1 S1 xr => hX x h' cls dd H' e (kp.trans k1) S1 xr⟩
end
end MP
/-! What the written part must show, as one test; a law's end. -/
namespace MP
open PySem PySem.Spec PyProof.Rows L2 ClX
def lk {α β : Type} [DecidableEq α] (l : List (α × β)) (a : α) : Option β := (l.find? fun p => decide (p.1 = a)).map (·.2)
theorem lk_mem {α β : Type} [DecidableEq α] {l : List (α × β)} {a : α} {b : β} (h : lk l a = some b) : (a, b) ∈ l := by
  unfold lk at h
  cases q : l.find? (fun p => decide (p.1 = a)) with
  | none => rw [q] at h; cases h
  | some p =>
    rw [q] at h; cases h
    have e : p.1 = a := by simpa using List.find?_some q
    have m := List.mem_of_find?_eq_some q
    subst e
    exact m
structure Tab where
  meths : List ((Str × Str) × (Str × Nat)) := []
  flds : List (Str × Str) := []
  subs : List ((Str × Str) × Bool) := []
  subBs : List ((BT × Str) × Bool) := []
  subTs : List ((Str × BT) × Bool) := []
  globs : List (Str × D) := []
  makes : List (Str × Str) := []
  frees : List Str := []
def Tab.cl (t : Tab) : Cl where
  meth := fun C m => lk t.meths (C, m)
  fld := fun C f => decide ((C, f) ∈ t.flds)
  con := fun _ _ => none
  make := fun C => lk t.makes C
  sub := fun C D => lk t.subs (C, D)
  subB := fun a C => lk t.subBs (a, C)
  subT := fun C a => lk t.subTs (C, a)
  glob := fun x => lk t.globs x
def Tab.wc (t : Tab) (pds : List PD) : Wc where
  P := t.cl
  path := fun k => ((pds.find? fun p => decide (p.key = k)).map fun p => p.dd.at_).getD (k, some ("" : Str))
  free := fun x => decide (x ∈ t.frees)
  has := fun k => (pds.find? fun p => decide (p.key = k)).isSome
abbrev Tab.wd (t : Tab) (pds : List PD) : Wd := wdOf (t.wc pds) pds
/-! ### the tests -/
mutual
def relD (K : PySem.W.Frag) : D → Value → Bool
  | .non, .none => true
  | .bl b, .bool c => b == c
  | .int i, .int j _ => decide (i = j)
  | .str x, .str y _ => decide (x = y)
  | .glo x, .ref a => decide (a = He.ga K x)
  | .tup ds, .ref a => match K.lookup a with
    | some ⟨.type c, _, .seq its _, _⟩ => decide (c = "tuple") && (decide (its.size ≤ sizeLine) && relDs K ds its.toList)
    | _ => false
  | .rol ds, .ref a => match K.lookup a with
    | some ⟨.type c, none, .seq its _, _⟩ => decide (c = "list") && (decide (its.size ≤ sizeLine) && relDs K ds its.toList)
    | _ => false
  | _, _ => false
def relDs (K : PySem.W.Frag) : List D → List Value → Bool
  | [], [] => true
  | d :: ds, u :: us => relD K d u && relDs K ds us
  | _, _ => false
end
mutual
theorem relD_ok {K : PySem.W.Frag} : ∀ {d : D} {u : Value}, relD K d u = true → ∃ v, RelV v u ∧ ∀ H, RepV K H d v
  | .non, u, h => by
    cases u <;> first | (unfold relD at h; cases h; done) | skip
    exact ⟨.non, rfl, fun _ => rfl⟩
  | .bl b, u, h => by
    cases u <;> first | (unfold relD at h; cases h; done) | skip
    unfold relD at h
    have e := eq_of_beq h
    subst e
    exact ⟨.bl _, rfl, fun _ => rfl⟩
  | .int i, u, h => by
    cases u <;> first | (unfold relD at h; cases h; done) | skip
    unfold relD at h
    have e := of_decide_eq_true h
    subst e
    exact ⟨.int _, ⟨_, rfl⟩, fun _ => rfl⟩
  | .str i, u, h => by
    cases u <;> first | (unfold relD at h; cases h; done) | skip
    unfold relD at h
    have e := of_decide_eq_true h
    subst e
    exact ⟨.str _, ⟨_, rfl⟩, fun _ => rfl⟩
  | .glo x, u, h => by
    cases u <;> first | (unfold relD at h; cases h; done) | skip
    unfold relD at h
    have e := of_decide_eq_true h
    subst e
    exact ⟨.ref _, rfl, fun _ => rfl⟩
  | .tup ds, u, h => by
    cases u <;> first | (unfold relD at h; cases h; done) | skip
    unfold relD at h
    split at h
    · rename_i c od its n sl q
      obtain ⟨h1, h2⟩ := He.ba h
      obtain ⟨h3, h4⟩ := He.ba h2
      obtain ⟨vs, r, q2⟩ := relDs_ok h4
      exact ⟨.ref _, rfl, fun H => ⟨_, vs, rfl, .inr ⟨_, its, _, q, congrArg Value.type (of_decide_eq_true h1), rfl, of_decide_eq_true h3, r⟩, q2 H⟩⟩
    · cases h
  | .rol ds, u, h => by
    cases u <;> first | (unfold relD at h; cases h; done) | skip
    unfold relD at h
    split at h
    · rename_i c its n sl q
      obtain ⟨h1, h2⟩ := He.ba h
      obtain ⟨h3, h4⟩ := He.ba h2
      obtain ⟨vs, r, q2⟩ := relDs_ok h4
      exact ⟨.ref _, rfl, fun H => ⟨_, vs, rfl, .inr ⟨_, its, _, q, congrArg Value.type (of_decide_eq_true h1), rfl, rfl, of_decide_eq_true h3, r⟩, q2 H⟩⟩
    · cases h
  | .ref _, u, h => by unfold relD at h; cases u <;> cases h
  | .ty _, u, h => by unfold relD at h; cases u <;> cases h
theorem relDs_ok {K : PySem.W.Frag} : ∀ {ds : List D} {us : List Value}, relDs K ds us = true → ∃ vs, Vals vs us ∧ ∀ H, RepVs K H ds vs
  | [], [], _ => ⟨[], .nil, fun _ => rfl⟩
  | [], _ :: _, h => by unfold relDs at h; cases h
  | _ :: _, [], h => by unfold relDs at h; cases h
  | d :: ds, u :: us, h => by
    unfold relDs at h
    obtain ⟨h1, h2⟩ := He.ba h
    obtain ⟨v, r, q⟩ := relD_ok h1
    obtain ⟨vs, r2, q2⟩ := relDs_ok h2
    exact ⟨v :: vs, .cons r r2, fun H => .cons (q H) (q2 H)⟩
end
def clsB (K : PySem.W.Frag) (C : Str) : Bool := (He.Fa.cls C).ok K
def clsIB (K : PySem.W.Frag) (C : Str) : Bool := clsB K C && (He.eqO (PySem.W.findIn K (.ref (He.ga K C)) "__class__") (some (some (.builtin "object.__class__"))) &&
  (He.eqO (PySem.W.specialIn K (.builtin "object.__class__") "__get__") (some (some (.builtin "getset_descriptor.__get__"))) && (decide (PySem.W.takesIn K (.builtin "object.__class__") = some true) && decide (PySem.W.mroIn K (He.ga K C) (.type "object") = some true))))
theorem clsIB_ok {K : PySem.W.Frag} {C : Str} (h : clsIB K C = true) : ClsI K (He.ga K C) := by
  unfold clsIB at h
  obtain ⟨h1, h⟩ := He.ba h
  obtain ⟨h2, h⟩ := He.ba h
  obtain ⟨h3, h⟩ := He.ba h
  obtain ⟨h4, h5⟩ := He.ba h
  exact ⟨He.cls_ok h1, He.eqO_ok h2, He.eqO_ok h3, of_decide_eq_true h4, of_decide_eq_true h5⟩
def propB (K : PySem.W.Frag) (C m : Str) (g : Addr) : Bool := match PySem.W.findIn K (.ref (He.ga K C)) m with
  | some (some (.ref p)) => He.eqO (PySem.W.specialIn K (.ref p) "__get__") (some (some (.builtin "property.__get__"))) && (decide (PySem.W.takesIn K (.ref p) = some true) && match PySem.W.recIn K p "property" with
    | some (.ref a :: _) => decide (a = g)
    | _ => false)
  | _ => false
theorem propB_ok {K : PySem.W.Frag} {C m : Str} {g : Addr} (h : propB K C m g = true) : ∃ p, PropOf K (He.ga K C) m p g := by
  unfold propB at h
  split at h
  · rename_i p e
    obtain ⟨h1, h⟩ := He.ba h
    obtain ⟨h2, h⟩ := He.ba h
    split at h
    · rename_i a r e2
      have := of_decide_eq_true h
      subst this
      exact ⟨p, e, He.eqO_ok h1, of_decide_eq_true h2, r, e2⟩
    · cases h
  · cases h
def methB (K : PySem.W.Frag) (w : Wc) (e : (Str × Str) × (Str × Nat)) : Bool := clsB K e.1.1 && (PySem.W.selfFirst K (He.ga K e.1.1) && match e.2.2 with
  | 0 => (He.Fa.meth e.1.1 e.1.2).ok K && decide (He.ma K (He.ga K e.1.1) e.1.2 = He.fAd K (w.path e.2.1))
  | 1 => propB K e.1.1 e.1.2 (He.fAd K (w.path e.2.1))
  | _ => true)
def subB1 (K : PySem.W.Frag) (e : (Str × Str) × Bool) : Bool := decide (PySem.W.subIn K (.ref (He.ga K e.1.1)) (.ref (He.ga K e.1.2)) = some e.2) && (decide (PySem.W.kitOne K (.ref (He.ga K e.1.1)) (.ref (He.ga K e.1.2)) = some e.2) && clsIB K e.1.1)
def subB2 (K : PySem.W.Frag) (e : (BT × Str) × Bool) : Bool := decide (PySem.W.kitOne K (.type e.1.1.name) (.ref (He.ga K e.1.2)) = some e.2)
def subB3 (K : PySem.W.Frag) (e : (Str × BT) × Bool) : Bool := decide (PySem.W.kitOne K (.ref (He.ga K e.1.1)) (.type e.1.2.name) = some e.2) && clsIB K e.1.1
def globB (K : PySem.W.Frag) (e : Str × D) : Bool := match PySem.W.nsIn K mainGlobals e.1 with
  | some (some u) => relD K e.2 u
  | _ => false
def makeB (K : PySem.W.Frag) (w : Wc) (e : Str × Str) : Bool := (He.Fa.glo e.1).ok K && ((He.Fa.mkr e.1).ok K && decide (He.ma K (He.ga K e.1) "__init__" = He.fAd K (w.path e.2)))
def pdB (K : PySem.W.Frag) (p : PD) : Bool := match p.dd.at_ with
  | (x, none) => decide (x = p.key) && (He.Fa.glo x).ok K
  | _ => true
def tabB (t : Tab) (pds : List PD) (K : PySem.W.Frag) : Bool := t.meths.all (methB K (t.wc pds)) && (t.flds.all (fun e => clsB K e.1 && (He.Fa.noat e.1 e.2).ok K) && (t.subs.all (subB1 K) && (t.subBs.all (subB2 K) && (t.subTs.all (subB3 K) && (t.globs.all (globB K) && (t.makes.all (makeB K (t.wc pds)) &&
  (t.frees.all (fun x => (He.Fa.free x).ok K) && pds.all (pdB K))))))))
theorem tab_st {t : Tab} {pds : List PD} {K : PySem.W.Frag} {h : Heap} {mg : Str → Option Value} (X : K.In h) (G : h.Ns mainGlobals mg) (hp : ∀ p ∈ pds, p.In K) (hb : tabB t pds K = true) : St K mg (t.wd pds) := by
  unfold tabB at hb
  obtain ⟨b1, hb⟩ := He.ba hb
  obtain ⟨b2, hb⟩ := He.ba hb
  obtain ⟨b3, hb⟩ := He.ba hb
  obtain ⟨b4, hb⟩ := He.ba hb
  obtain ⟨b5, hb⟩ := He.ba hb
  obtain ⟨b6, hb⟩ := He.ba hb
  obtain ⟨b7, hb⟩ := He.ba hb
  obtain ⟨b8, b9⟩ := He.ba hb
  rw [List.all_eq_true] at b1 b2 b3 b4 b5 b6 b7 b8 b9
  have hm : ∀ {C m k i}, lk t.meths (C, m) = some (k, i) → methB K (t.wc pds) ((C, m), (k, i)) = true := fun e => b1 _ (lk_mem e)
  have hm1 : ∀ {C m k i}, lk t.meths (C, m) = some (k, i) → Cls K (He.ga K C) ∧ PySem.W.selfFirst K (He.ga K C) = true := fun e => by
    have q := hm e
    unfold methB at q
    obtain ⟨q1, q⟩ := He.ba q
    obtain ⟨q2, q3⟩ := He.ba q
    exact ⟨He.cls_ok q1, q2⟩
  have find_path : ∀ {k : Str} {F : Fn}, (t.wd pds).fs k = some F → ∃ p ∈ pds, p.key = k ∧ (t.wd pds).path k = p.dd.at_ := fun {k F} e => by
    have e : fsOf (t.wc pds) pds k = some F := e
    unfold fsOf at e
    cases q : pds.find? (fun p => decide (p.key = k)) with
    | none => rw [q] at e; cases e
    | some p =>
      refine ⟨p, List.mem_of_find?_eq_some q, by simpa using List.find?_some q, ?_⟩
      show ((pds.find? fun p => decide (p.key = k)).map fun p => p.dd.at_).getD (k, some ("" : Str)) = _
      rw [q]; rfl
  refine { meth := fun C m k e => ?_, cls := fun C m k i e => (hm1 e).1, clsF := fun C f e => ?_, sub := fun C C' b e => ?_, subB := fun a C b e => ?_, subT := fun C a b e => ?_, self := fun C m k i e => (hm1 e).2, glob := fun x d e => ?_, prop := fun C m k e => ?_, con := fun C f d e => ?_, made := fun C k e => ?_, fnm := fun k F e hn => ?_, free := fun x e => ?_, kp := fun k F e => ?_ }
  · have q := hm e
    unfold methB at q
    obtain ⟨q1, q⟩ := He.ba q
    obtain ⟨q2, q3⟩ := He.ba q
    obtain ⟨q4, q5⟩ := He.ba q3
    have m := He.meth_ok q4
    rw [of_decide_eq_true q5] at m
    exact m
  · have e := of_decide_eq_true e
    obtain ⟨q1, q2⟩ := He.ba (b2 _ e)
    exact ⟨He.cls_ok q1, He.noat_ok q2⟩
  · obtain ⟨q1, q⟩ := He.ba (b3 _ (lk_mem e))
    obtain ⟨q2, q3⟩ := He.ba q
    exact ⟨of_decide_eq_true q1, of_decide_eq_true q2, clsIB_ok q3⟩
  · exact of_decide_eq_true (b4 _ (lk_mem e))
  · obtain ⟨q1, q2⟩ := He.ba (b5 _ (lk_mem e))
    exact ⟨of_decide_eq_true q1, clsIB_ok q2⟩
  · have q := b6 _ (lk_mem e)
    unfold globB at q
    split at q
    · rename_i u e1
      obtain ⟨v, r, q2⟩ := relD_ok q
      exact ⟨u, v, PySem.W.mg_of X G e1, r, q2⟩
    · cases q
  · have q := hm e
    unfold methB at q
    obtain ⟨q1, q⟩ := He.ba q
    obtain ⟨q2, q3⟩ := He.ba q
    obtain ⟨p, q4⟩ := propB_ok q3
    exact ⟨p, He.cls_ok q1, q4⟩
  · cases e
  · obtain ⟨q1, q⟩ := He.ba (b7 _ (lk_mem e))
    obtain ⟨q2, q3⟩ := He.ba q
    have m := He.mkr_ok q2
    rw [of_decide_eq_true q3] at m
    exact ⟨He.glo_ok X G q1, m⟩
  · obtain ⟨p, pm, pk, pp⟩ := find_path e
    rw [pp] at hn ⊢
    have q := b9 _ pm
    unfold pdB at q
    split at q
    · rename_i x e2
      obtain ⟨q1, q2⟩ := He.ba q
      have q1 := of_decide_eq_true q1
      rw [e2, q1, pk]
      refine ⟨rfl, ?_⟩
      rw [q1, pk] at q2
      exact He.glo_ok X G q2
    · rename_i q3
      cases hq : p.dd.at_ with
      | mk a b =>
        rw [hq] at hn
        have hn : b = none := hn
        subst hn
        exact (q3 a hq).elim
  · exact He.free_ok X G (b8 _ (of_decide_eq_true e))
  · obtain ⟨p, pm, pk, pp⟩ := find_path e
    obtain ⟨fd, F⟩ := hp p pm
    show PySem.W.keepIn K (.ref (He.fAd K ((t.wd pds).path k))) = true
    rw [pp]
    exact F.kp
/-! ### the Hook -/
def obsM (fn : List He.DefD) (ex : PySem.W.Frag → Bool) (K : PySem.W.Frag) : He.AlD := (fn.all (fun d => d.ok K) && ex K, fn.map fun d => He.fnW K d.at_)
def obsMG (n : Nat) (fn : List He.DefD) (ex : PySem.W.Frag → Bool) (g : Addr → Option Obj) : He.AlD := obsM fn ex (He.frG g (He.asD g n))
def hookM (n : Nat) (fn : List He.DefD) (ex : PySem.W.Frag → Bool) : PySem.W.Hook where
  α := He.AlD
  obs := fun s => obsMG n fn ex s.heap.get?
  val := fun _ => He.valD fn
  says := fun _ h => ∃ K : PySem.W.Frag, K.In h ∧ obsM fn ex K = He.valD fn
  of := fun _ _ e => ⟨_, He.frG_in, e⟩
  keeps := fun _ _ _ ⟨K, hK, c⟩ k => ⟨K, PySem.W.Frag.In.keeps hK k, c⟩
theorem obsMG_eq {n : Nat} {fn : List He.DefD} {ex : PySem.W.Frag → Bool} {g : Addr → Option Obj} {s : Shared} (h : ∀ a, g a = s.heap.get? a) : obsMG n fn ex g = (hookM n fn ex).obs s := by
  have e : g = s.heap.get? := funext h
  rw [e] <;> rfl
theorem says_in {pds : List PD} {ex : PySem.W.Frag → Bool} {K : PySem.W.Frag} (c : obsM (pds.map PD.dd) ex K = He.valD (pds.map PD.dd)) (hk : ∀ p ∈ pds, p.ok = true) : (∀ p ∈ pds, p.In K) ∧ ex K = true := by
  have c1 := He.ba (show ((pds.map PD.dd).all (fun d => d.ok K) && ex K) = true from congrArg (fun z : He.AlD => z.1) c)
  have e : (pds.map PD.dd).map (fun d => He.fnW K d.at_) = (pds.map PD.dd).map He.DefD.val := congrArg (fun z : He.AlD => z.2) c
  refine ⟨fun p hp => ?_, c1.2⟩
  have hm : p.dd ∈ pds.map PD.dd := List.mem_map.mpr ⟨p, hp, rfl⟩
  have h1 := List.all_eq_true.mp c1.1 _ hm
  obtain ⟨i, hi⟩ := List.getElem?_of_mem hm
  have e2 : ((pds.map PD.dd).map fun d => He.fnW K d.at_)[i]? = ((pds.map PD.dd).map He.DefD.val)[i]? := by rw [e]
  rw [List.getElem?_map (l := pds.map PD.dd), List.getElem?_map (l := pds.map PD.dd), hi] at e2
  obtain ⟨fd, F⟩ := He.DefD.funD (Option.some.inj e2) h1
  obtain ⟨_, _, d1, d2⟩ := PD.scope (hk p hp)
  refine ⟨fd, ?_⟩
  have x1 : p.dd.dvs K = [] := by unfold He.DefD.dvs; rw [d1]; rfl
  have x2 : p.dd.kws K = [] := by unfold He.DefD.kws; rw [d2]; rfl
  rw [x1, x2] at F
  exact F
theorem bind_law {p : PD} {x : Str} {K : PySem.W.Frag} {fd : FuncData} (h : p.ok = true) (hx : p.ps = [x]) (F : FunD K p.dd.name p.dd.qual p.dd.params p.dd.body p.dd.scope [] [] (He.fAd K p.dd.at_) fd) (u : Value) : bindArgs fd ⟨[u], []⟩ = pure [(x, u)] := by
  have := pd_binds h F [u] (by rw [hx]; rfl)
  rw [hx] at this
  exact this
theorem walk_ofW {l : PySem.W.OpenLaw} {n k : Nat} {q : Program} {loose : List Str} {XP : (Str → Option Value) → Heap → Prop} {YP : World → Heap → Prop} {d : DefRec} {CX : World → CXT} {x : Str}
    (hn : l.most = some n) (hn2 : n ≤ sizeLine) (hdf : d.params.defaults = []) (hr : Room k callerA)
    (F : ∀ (w : World) (mg : Str → Option Value) (fa : Addr) (h : Heap), YP w h → h.Ns mainGlobals mg → mg d.name = some (.ref fa) →
      ∃ (K : PySem.W.Frag) (fd : FuncData) (sp : Sp), K.In h ∧ (∀ (s : Shared) (u : Value), BindsTo s fd ⟨[u], []⟩ [(x, u)]) ∧
        (∀ (H : Hp) (a : Addr) (ns : List Int), ns.length ≤ n → Only H → SqL K H a (ns.map V.int) → sp [.ref a] H (fun v _ => v = .bl true) fun _ _ _ => False) ∧
        ∀ base : Heap, K.In base → base.Ns mainGlobals mg → FnOk l.prog w K mg base (CX w) k fa fd [x] sp)
    (hCX : ∀ (w : World) (H : Hp) (s : Shared) (e : Value) (s' : Shared), CX w [] H s (fun _ _ _ => False) e s' → False) :
    PySem.W.WalkO q loose XP YP l.row.toRowW d [] (fun f vs => PySem.call f vs) := by
  refine Att.attach_call hn hdf fun w s₀ s₁ mg mb fa o pm cd doc a vs ns G Y ho hd hcd hmg hobj hints hlen hg => ?_
  obtain ⟨K, fd, sp, KX, hb, hsp, hF⟩ := F w mg fa _ Y G.T.g hmg
  exact law_call KX G.T.g G.T.b G.T.builtins G.T.nolimit hg hobj hints (Nat.le_trans hlen hn2) hr hF hb (fun H hO hS => hsp H a ns hlen hO hS) fun H e s' => hCX w H s₁ e s'
/-- a law's end: what is left is the small Python's run of the law -/
theorem law_end {l : PySem.W.OpenLaw} {n D : Nat} {q : Program} {loose : List Str} {XP : (Str → Option Value) → Heap → Prop} {d : DefRec} {t : Tab} {pds : List PD} {lp : PD} {m : Nat}
    (hn : l.most = some n) (hn2 : n ≤ sizeLine) (hdf : d.params.defaults = []) (hr : Room (lev D) callerA) (hk : ∀ p ∈ pds, p.ok = true) (hpath : ∀ p ∈ pds, (t.wc pds).path p.key = p.dd.at_)
    (hlf : pds.find? (fun p => decide (p.key = ("law" : Str))) = some lp) (hps : lp.ps = [("_law_script" : Str)]) (hat : lp.dd.at_ = (("law" : Str), none)) (hdn : d.name = ("law" : Str))
    (hlaw : ∀ ns : List Int, ns.length ≤ n → callW t.cl (fsOf (t.wc pds) pds) D "law" [.rol (intsD ns)] (fun _ => none) (fun v _ => v = .bl true) (fun _ _ => False)) :
    PySem.W.WalkO q loose XP (hookM m (pds.map PD.dd) (tabB t pds)).says l.row.toRowW d [] (fun f vs => PySem.call f vs) := by
  have hlp : lp ∈ pds := List.mem_of_find?_eq_some hlf
  have hkey : lp.key = ("law" : Str) := by simpa using List.find?_some hlf
  have hl : fsOf (t.wc pds) pds ("law" : Str) = some (lp.fn (t.wc pds)) := by unfold fsOf; rw [hlf]; rfl
  refine walk_ofW (k := lev D) (CX := fun w => L2.CX l.prog w) (x := "_law_script") hn hn2 hdf hr ?_ (fun w H s e s' h => ?_)
  · intro w mg fa h Y G hmg
    obtain ⟨K, KX, c⟩ := Y
    obtain ⟨hin, htab⟩ := says_in c hk
    have st := tab_st KX G hin htab
    obtain ⟨fd, FD⟩ := hin lp hlp
    have hh : ∀ k, (t.wc pds).has k = true → (fsOf (t.wc pds) pds k).isSome = true := fun k e => by
      have e : (pds.find? fun p => decide (p.key = k)).isSome = true := e
      unfold fsOf
      rw [Option.isSome_map]; exact e
    have hp : ∀ p ∈ pds, p.ok = true ∧ p.In K ∧ (t.wc pds).path p.key = p.dd.at_ := fun p pm => ⟨hk p pm, hin p pm, hpath p pm⟩
    have had : (t.wd pds).ad K "law" = fa := by
      have e1 : (t.wc pds).path ("law" : Str) = (("law" : Str), none) := by rw [← hkey, hpath lp hlp, hat, hkey]
      obtain ⟨_, e2⟩ := st.fnm "law" _ hl (by show ((t.wc pds).path "law").2 = none; rw [e1])
      rw [hdn] at hmg
      rw [e2] at hmg
      cases hmg
      show He.fAd K ((t.wc pds).path "law") = _
      rw [e1]; rfl
    have bd : Binds K fd [("_law_script" : Str)] [] := by rw [← hps]; exact .all (pd_binds (hk lp hlp) FD)
    refine ⟨K, fd, spF K (t.wd pds) D "law", KX, fun s u => ?_, fun H a ns hlen hO hS => ?_, fun base KB GB => ?_⟩
    · have b := bind_law (hk lp hlp) hps FD u
      exact .of_eq b
    · have ro : Ro K H a (ns.map V.int) := by
        rcases hS with (z | ⟨o, z⟩) | z
        · rcases hO a with q | ⟨o, xs, q⟩
          · rw [q] at z; cases z
          · rw [q] at z; cases z
        · exact .inl ⟨o, z⟩
        · exact .inr z
      refine ⟨[.rol (intsD ns)], fun _ => none, fun v _ => v = .bl true, fun _ _ => False, .one ⟨a, _, rfl, ro, .ofInts⟩, fun _ _ e => (by cases e), hlaw ns hlen, fun v H' ⟨d, h', _, _, r, e⟩ => ?_, fun _ _ _ _ _ z => z.elim⟩
      subst e
      exact r
    · rw [← had, ← hps]
      exact (prog_at (P := l.prog) (w := w) (mg := mg) (base := base) hp hh st D "law" lp hlf fd FD).1
  · obtain ⟨_, _, _, _, _, _, _, _, _, _, _, _, z⟩ := h
    exact z
end MP
/-! A wish may be weakened. -/
namespace MP
open PySem PySem.Spec PyProof.Rows
def Mono (c : Csem) : Prop := ∀ (f : Str) (ds : List D) (h : Hq) (K K' : Kq) (X X' : Xq), (∀ d h', K d h' → K' d h') → (∀ x h', X x h' → X' x h') → c f ds h K X → c f ds h K' X'
section
variable {P : Cl} {c : Csem} {x y : D} {h : Hq} {K K' : Kq} {X X' : Xq} (hc : Mono c) (hk : ∀ d h', K d h' → K' d h') (hx : ∀ x h', X x h' → X' x h')
include hc hk hx
theorem opOwn_mono {m : Str} (q : opOwn P c m x y h K X) : opOwn P c m x y h K' X' := by
  unfold opOwn at q ⊢
  split at q
  · split at q
    · split at q
      · exact ⟨q.1, hc _ _ _ _ _ _ _ hk hx q.2⟩
      · exact q.elim
    · exact q.elim
  · exact q.elim
theorem opOwnB_mono {m : Str} (q : opOwnB P c m x y h K X) : opOwnB P c m x y h K' X' := by
  unfold opOwnB at q ⊢
  split at q
  · split at q
    · split at q
      · exact ⟨q.1, hc _ _ _ _ _ _ _ hk hx q.2⟩
      · exact q.elim
    · exact q.elim
  · exact q.elim
theorem opAdd_mono (q : opAdd P c x y h K X) : opAdd P c x y h K' X' := by
  unfold opAdd at q ⊢
  split at q
  · exact hk _ _ q
  · exact ⟨q.1, hk _ _ q.2⟩
  · exact ⟨q.1, hk _ _ q.2⟩
  · split at q
    · split at q
      · exact ⟨q.1, fun p n => hk _ _ (q.2 p n)⟩
      · exact q.elim
    · exact opOwnB_mono hc hk hx q
    · exact q.elim
  · exact q.elim
theorem opSub_mono (q : opSub P c x y h K X) : opSub P c x y h K' X' := by
  unfold opSub at q ⊢
  split at q
  · exact hk _ _ q
  · exact opOwnB_mono hc hk hx q
  · exact q.elim
omit hc hx in
theorem opMul_mono (q : opMul x y h K) : opMul x y h K' := by
  unfold opMul at q ⊢
  split at q
  · exact ⟨q.1, hk _ _ q.2⟩
  · exact q.elim
omit hc hx in
theorem opFdiv_mono (q : opFdiv x y h K) : opFdiv x y h K' := by
  unfold opFdiv at q ⊢
  split at q
  · exact ⟨q.1, hk _ _ q.2⟩
  · exact q.elim
omit hc hx in
theorem opMod_mono (q : opMod x y h K) : opMod x y h K' := by
  unfold opMod at q ⊢
  split at q
  · exact ⟨q.1, hk _ _ q.2⟩
  · exact q.elim
omit hc hx in
theorem opPow_mono (q : opPow x y h K) : opPow x y h K' := by
  unfold opPow at q ⊢
  split at q
  · exact ⟨q.1, hk _ _ q.2⟩
  · exact q.elim
theorem opBin_mono {o : Operator} (q : opBin P c o x y h K X) : opBin P c o x y h K' X' := by
  cases o <;> first
    | exact opAdd_mono hc hk hx q | exact opSub_mono hc hk hx q | exact opMul_mono hk q | exact opFdiv_mono hk q | exact opMod_mono hk q | exact opPow_mono hk q
    | exact opOwnB_mono (m := "__and__") hc hk hx q | exact opOwnB_mono (m := "__or__") hc hk hx q | exact False.elim q
omit hc hx in
theorem opEqD_mono {n : Bool} (q : opEqD x y h n K) : opEqD x y h n K' := by
  obtain ⟨d, e, a, b, c, f, g⟩ := q
  exact ⟨d, e, a, b, c, f, hk _ _ g⟩
theorem opEq_mono (q : opEq P c x y h K X) : opEq P c x y h K' X' := by
  unfold opEq at q ⊢
  split at q
  · rename_i e; rw [if_pos e]; exact opOwn_mono hc hk hx q
  · rename_i e; rw [if_neg e]; exact opEqD_mono hk q
theorem opLt_mono (q : opLt P c x y h K X) : opLt P c x y h K' X' := by
  unfold opLt at q ⊢
  split at q
  · exact hk _ _ q
  · obtain ⟨d, e, a, b, c, f, i, g⟩ := q
    exact ⟨d, e, a, b, c, f, i, hk _ _ g⟩
  · split at q
    · exact opOwn_mono hc hk hx q
    · exact q.elim
  · exact q.elim
omit hc hx in
theorem opI_mono {f : Int → Int → Bool} (q : opI f x y h K) : opI f x y h K' := by
  unfold opI at q ⊢
  split at q
  · exact hk _ _ q
  · exact q.elim
omit hc hx in
theorem opIs_mono {n : Bool} (q : opIs x y h n K) : opIs x y h n K' := by
  unfold opIs at q ⊢
  split at q
  · split at q
    · exact hk _ _ q
    · exact hk _ _ q
  · exact q.elim
omit hc hx in
theorem opInSeq_mono {n : Bool} {ds : List D} (q : opInSeq x ds h n K) : opInSeq x ds h n K' := ⟨q.1, q.2.1, hk _ _ q.2.2⟩
omit hc hx in
theorem opIn_mono {n : Bool} (q : opIn P c x y h n K X) : opIn P c x y h n K' X' := by
  unfold opIn at q ⊢
  split at q
  · split at q
    · exact hk _ _ q
    · exact q.elim
  · exact opInSeq_mono hk q
  · split at q
    · exact opInSeq_mono hk q
    · exact q.elim
  · exact opInSeq_mono hk q
  · exact q.elim
theorem opCmp_mono {o : CmpOp} (q : opCmp P c o x y h K X) : opCmp P c o x y h K' X' := by
  match o, q with
  | .Eq, q => exact opEq_mono hc hk hx q
  | .NotEq, q => exact opEqD_mono hk q
  | .Lt, q => exact opLt_mono hc hk hx q
  | .LtE, q => exact opI_mono hk q
  | .Gt, q => exact opI_mono hk q
  | .GtE, q => exact opI_mono hk q
  | .Is, q => exact opIs_mono hk q
  | .IsNot, q => exact opIs_mono hk q
  | .In, q => exact opIn_mono (P := P) (c := c) (X := X) (X' := X') hk q
  | .NotIn, q => exact opIn_mono (P := P) (c := c) (X := X) (X' := X') hk q
omit hc hk hx in
theorem opTru_mono {K K' : Bool → Hq → Prop} (hk : ∀ d h', K d h' → K' d h') (q : opTru x h K) : opTru x h K' := by
  unfold opTru at q ⊢
  split at q <;> first | exact hk _ _ q | exact ⟨q.1, hk _ _ q.2⟩ | exact q.elim | (split at q <;> first | exact hk _ _ q | exact q.elim)
omit hc hx in
theorem opItem_mono (q : opItem x y h K) : opItem x y h K' := by
  unfold opItem at q ⊢
  split at q
  · split at q
    · exact hk _ _ q
    · exact q.elim
  · refine ⟨q.1, ?_⟩
    have q := q.2
    split at q
    · exact hk _ _ q
    · exact q.elim
  · split at q
    · split at q
      · exact hk _ _ q
      · exact q.elim
    · exact q.elim
  · split at q
    · exact hk _ _ q
    · exact q.elim
  · exact q.elim
omit hc hx in
theorem opSlice_mono {lo hi : Option Int} (q : opSlice x lo hi h K) : opSlice x lo hi h K' := by
  unfold opSlice at q ⊢
  split at q
  · exact hk _ _ q
  · exact ⟨q.1, hk _ _ q.2⟩
  · split at q
    · exact fun p n => hk _ _ (q p n)
    · exact q.elim
  · exact fun p n => hk _ _ (q p n)
  · exact q.elim
omit hc hx in
theorem new_mono {o : O} (q : new h o K) : new h o K' := fun p n => hk _ _ (q p n)
omit hc hk hx in
theorem b1_mono {xs : List D} {f g : D → Prop} (hf : ∀ x, f x → g x) (q : b1 xs f) : b1 xs g := by
  unfold b1 at q ⊢
  split at q
  · exact hf _ q
  · exact q.elim
omit hc hk hx in
theorem b2_mono {xs : List D} {f g : D → D → Prop} (hf : ∀ x y, f x y → g x y) (q : b2 xs f) : b2 xs g := by
  unfold b2 at q ⊢
  split at q
  · exact hf _ _ q
  · exact q.elim
omit hc hk hx in
theorem atInt_mono {f g : Int → Prop} (hf : ∀ x, f x → g x) (q : atInt x f) : atInt x g := by
  unfold atInt at q ⊢
  split at q
  · exact hf _ q
  · exact q.elim
omit hc hk hx in
theorem atSeq_mono {f g : List D → Prop} (hf : ∀ x, f x → g x) (q : atSeq x h f) : atSeq x h g := by
  unfold atSeq at q ⊢
  split at q
  · exact hf _ q
  · exact q.elim
omit hc hk hx in
theorem atLst_mono {f g : List D → Prop} (hf : ∀ x, f x → g x) (q : atLst x h f) : atLst x h g := by
  unfold atLst at q ⊢
  split at q
  · exact hf _ q
  · exact q.elim
omit hc hk hx in
theorem atInts_mono {ds : List D} {f g : List Int → Prop} (hf : ∀ x, f x → g x) (q : atInts ds f) : atInts ds g := by
  unfold atInts at q ⊢
  split at q
  · exact hf _ q
  · exact q.elim
omit hc hk hx in
theorem atBls_mono {ds : List D} {f g : List Bool → Prop} (hf : ∀ x, f x → g x) (q : atBls ds f) : atBls ds g := by
  unfold atBls at q ⊢
  split at q
  · exact hf _ q
  · exact q.elim
omit hc hx in
theorem bi_mono {f : BI} {xs : List D} (q : bi P c f xs h K X) : bi P c f xs h K' X' := by
  match f, q with
  | .len, q =>
    refine b1_mono (fun x q => ?_) q
    unfold biLen at q ⊢
    split at q <;> first | exact hk _ _ q | exact ⟨q.1, hk _ _ q.2⟩ | exact q.elim | (split at q <;> first | exact hk _ _ q | exact q.elim)
  | .int, q =>
    refine b1_mono (fun x q => ?_) q
    unfold biInt at q ⊢
    split at q
    · exact hk _ _ q
    · exact hk _ _ q
    · obtain ⟨n, a, b, g⟩ := q; exact ⟨n, a, b, hk _ _ g⟩
    · exact q.elim
  | .str, q =>
    refine b1_mono (fun x q => ?_) q
    unfold biStr at q ⊢
    split at q
    · exact ⟨q.1, hk _ _ q.2⟩
    · exact q.elim
  | .abs, q => exact b1_mono (fun x q => atInt_mono (fun i q => hk _ _ q) q) q
  | .sum, q => exact b1_mono (fun x q => atLst_mono (fun i q => atInts_mono (fun ns q => hk _ _ q) q) q) q
  | .max, .inl q => exact .inl (b1_mono (fun x q => atLst_mono (fun i q => atInts_mono (fun ns q => ⟨q.1, fun m a b => hk _ _ (q.2 m a b)⟩) q) q) q)
  | .max, .inr q => exact .inr (b2_mono (fun x y q => atInt_mono (fun i q => atInt_mono (fun j q => hk _ _ q) q) q) q)
  | .min, .inl q => exact .inl (b1_mono (fun x q => atLst_mono (fun i q => atInts_mono (fun ns q => ⟨q.1, fun m a b => hk _ _ (q.2 m a b)⟩) q) q) q)
  | .min, .inr q => exact .inr (b2_mono (fun x y q => atInt_mono (fun i q => atInt_mono (fun j q => hk _ _ q) q) q) q)
  | .all, q => exact b1_mono (fun x q => atLst_mono (fun i q => atBls_mono (fun ns q => hk _ _ q) q) q) q
  | .any, q => exact b1_mono (fun x q => atLst_mono (fun i q => atBls_mono (fun ns q => hk _ _ q) q) q) q
  | .sorted, q => exact b1_mono (fun x q => atSeq_mono (fun i q => atInts_mono (fun ns q ms a b => new_mono hk (q ms a b)) q) q) q
  | .list, q => exact b1_mono (fun x q => atSeq_mono (fun i q => new_mono hk q) q) q
  | .tuple, q => exact b1_mono (fun x q => atSeq_mono (fun i q => hk _ _ q) q) q
  | .bool, q | .sortedR, q | .set, q | .dict, q | .range, q | .repr, q | .isinst, q => exact q.elim
omit hc hx in
theorem isinD_mono {cs : List Cc} (q : isinD P x cs h K) : isinD P x cs h K' := by
  unfold isinD at q ⊢
  split at q
  · split at q
    · exact hk _ _ q
    · exact q.elim
  · exact q.elim
omit hc hx in
theorem mthLst_mono {a : Nat} {ds : List D} {m : BM} {xs : List D} (q : mthLst a ds m xs h K) : mthLst a ds m xs h K' := by
  match m, q with
  | .index, q => exact b1_mono (fun x ⟨a, b, i, e, q⟩ => ⟨a, b, i, e, hk _ _ q⟩) q
  | .append, q => exact b1_mono (fun x q => ⟨q.1, hk _ _ q.2⟩) q
  | .insert, q => exact b2_mono (fun i x q => atInt_mono (fun i q => ⟨q.1, q.2.1, q.2.2.1, hk _ _ q.2.2.2⟩) q) q
  | .pop, .inl ⟨a, x, e, q⟩ => exact .inl ⟨a, x, e, hk _ _ q⟩
  | .pop, .inr q => exact .inr (b1_mono (fun i q => atInt_mono (fun i ⟨a, b, x, e, q⟩ => ⟨a, b, x, e, hk _ _ q⟩) q) q)
  | .extend, q => exact b1_mono (fun x ⟨b, es, e1, e2, z, q⟩ => ⟨b, es, e1, e2, z, hk _ _ q⟩) q
  | .clear, q => exact ⟨q.1, hk _ _ q.2⟩
  | .count, q | .split, q | .join, q | .find, q | .get, q | .items, q | .values, q | .upper, q | .lower, q | .none, q => exact q.elim
omit hc hx in
theorem mthStr_mono {z : Str} {m : BM} {xs : List D} (q : mthStr z m xs h K) : mthStr z m xs h K' := by
  match m, q with
  | .join, q => exact b1_mono (fun x q => atSeq_mono (fun ds ⟨ys, a, b, q⟩ => ⟨ys, a, b, hk _ _ q⟩) q) q
  | .split, q => exact b1_mono (fun x ⟨s, a, b, e, q⟩ => ⟨s, a, b, e, new_mono hk q⟩) q
  | .index, q | .append, q | .insert, q | .pop, q | .extend, q | .clear, q | .count, q | .find, q | .get, q | .items, q | .values, q | .upper, q | .lower, q | .none, q => exact q.elim
theorem mth_mono {k : MK} {b : BM} {xs : List D} (q : mth c k x b xs h K X) : mth c k x b xs h K' X' := by
  unfold mth at q ⊢
  split at q
  · unfold mthB at q ⊢
    split at q
    · exact mthStr_mono hk q
    · split at q
      · exact mthLst_mono hk q
      · exact q.elim
    · exact q.elim
  · exact hc _ _ _ _ _ _ _ hk hx q
omit hc hk hx in
theorem atFs_mono {fs : List (Str × D)} {f : Str} {g g' : D → Prop} (hf : ∀ x, g x → g' x) (q : atFs fs f g) : atFs fs f g' := by
  unfold atFs at q ⊢
  split at q
  · exact hf _ q
  · exact q.elim
omit hx in
theorem opAttr_mono {f : Str} (q : opAttr P c x f h K) : opAttr P c x f h K' := by
  unfold opAttr at q ⊢
  split at q
  · split at q
    · split at q
      · exact atFs_mono (fun d q => hk _ _ q) q
      · split at q
        · exact hc _ _ _ _ _ _ _ hk (fun _ _ z => z) q
        · exact q.elim
    · exact q.elim
  · split at q
    · exact hk _ _ q
    · exact q.elim
  · exact q.elim
omit hc hx in
theorem rngD_mono {t : Bool} {i j : Int} (q : rngD t i j h K) : rngD t i j h K' := by
  unfold rngD at q ⊢
  refine ⟨q.1, ?_⟩
  cases t with
  | true => exact hk _ _ q.2
  | false => exact new_mono hk q.2
omit hc hk hx in
theorem walkVal_mono {R R' : Kit} (hr : ∀ ds g h', R ds g h' → R' ds g h') (q : walkVal x h R) : walkVal x h R' := by
  unfold walkVal at q ⊢
  split at q
  · exact hr _ _ _ q
  · exact hr _ _ _ q
  · split at q
    · exact hr _ _ _ q
    · exact q.elim
  · exact hr _ _ _ q
  · exact q.elim
omit hc hk hx in
theorem walkEnum_mono {R R' : Kit} (hr : ∀ ds g h', R ds g h' → R' ds g h') (q : walkEnum x h R) : walkEnum x h R' := by
  unfold walkEnum at q ⊢
  split at q
  · exact hr _ _ _ q
  · split at q
    · exact hr _ _ _ q
    · exact q.elim
  · exact q.elim
omit hc hk hx in
theorem walkZip_mono {R R' : Kit} (hr : ∀ ds g h', R ds g h' → R' ds g h') (q : walkZip x y h R) : walkZip x y h R' := by
  unfold walkZip at q ⊢
  split at q
  · exact hr _ _ _ q
  · split at q
    · split at q
      · exact hr _ _ _ q
      · exact q.elim
    · exact q.elim
  · exact q.elim
omit hc hk hx in
theorem compGo_mono {g : Hq → Prop} {p : Nat} {body : D → Hq → Kq → (Hq → Prop) → Prop} {Q Q' : Hq → Prop} (hb : ∀ d h K K' N N', (∀ y h', K y h' → K' y h') → (∀ h', N h' → N' h') → body d h K N → body d h K' N') (hq : ∀ h', Q h' → Q' h') :
    ∀ (ds acc : List D) (h : Hq), compGo g p body Q ds acc h → compGo g p body Q' ds acc h
  | [], acc, h, q => ⟨q.1, q.2.1, hq _ q.2.2⟩
  | d :: r, acc, h, q => ⟨q.1, hb d h _ _ _ _ (fun y h' z => ⟨z.1, z.2.1, compGo_mono hb hq r _ _ z.2.2⟩) (fun h' z => ⟨z.1, compGo_mono hb hq r _ _ z.2⟩) q.2⟩
end
section
variable {P : Cl} {c : Csem} (hc : Mono c)
include hc
mutual
theorem wE_mono : ∀ (e : E) (env : Env) (h : Hq) (K K' : Kq) (X X' : Xq), (∀ d h', K d h' → K' d h') → (∀ x h', X x h' → X' x h') → wE P c e env h K X → wE P c e env h K' X'
  | .var i, env, h, K, K', X, X', hk, hx, q => by
    unfold wE at q ⊢
    split at q
    · exact hk _ _ q
    · exact q.elim
  | .cst d, env, h, K, K', X, X', hk, hx, q => by unfold wE at q ⊢; exact hk _ _ q
  | .glob x, env, h, K, K', X, X', hk, hx, q => by
    unfold wE at q ⊢
    split at q
    · exact hk _ _ q
    · exact q.elim
  | .bin o a b, env, h, K, K', X, X', hk, hx, q => by
    unfold wE at q ⊢
    exact wE_mono a env h _ _ X X' (fun x h1 q => wE_mono b env h1 _ _ X X' (fun y h2 q => opBin_mono hc hk hx q) hx q) hx q
  | .neg a, env, h, K, K', X, X', hk, hx, q => by
    unfold wE at q ⊢
    refine wE_mono a env h _ _ X X' (fun x h1 q => ?_) hx q
    try dsimp only at q ⊢
    split at q
    · exact hk _ _ q
    · exact q.elim
  | .cmp o a b, env, h, K, K', X, X', hk, hx, q => by
    unfold wE at q ⊢
    exact wE_mono a env h _ _ X X' (fun x h1 q => wE_mono b env h1 _ _ X X' (fun y h2 q => opCmp_mono hc hk hx q) hx q) hx q
  | .chain o1 o2 a b e, env, h, K, K', X, X', hk, hx, q => by
    unfold wE at q ⊢
    refine wE_mono a env h _ _ X X' (fun x h1 q => wE_mono b env h1 _ _ X X' (fun y h2 q => opCmp_mono hc (fun r h3 q => ?_) hx q) hx q) hx q
    try dsimp only at q ⊢
    split at q
    · exact wE_mono e env h3 _ _ X X' (fun z h4 q => opCmp_mono hc hk hx q) hx q
    · exact hk _ _ q
    · exact q.elim
  | .and a b, env, h, K, K', X, X', hk, hx, q => by
    unfold wE at q ⊢
    refine wE_mono a env h _ _ X X' (fun x h1 q => ?_) hx q
    try dsimp only at q ⊢
    split at q
    · exact wE_mono b env h1 _ _ X X' hk hx q
    · exact hk _ _ q
    · exact q.elim
  | .or a b, env, h, K, K', X, X', hk, hx, q => by
    unfold wE at q ⊢
    refine wE_mono a env h _ _ X X' (fun x h1 q => ?_) hx q
    try dsimp only at q ⊢
    split at q
    · exact hk _ _ q
    · exact wE_mono b env h1 _ _ X X' hk hx q
    · exact q.elim
  | .not a, env, h, K, K', X, X', hk, hx, q => by
    unfold wE at q ⊢
    refine wE_mono a env h _ _ X X' (fun x h1 q => ?_) hx q
    try dsimp only at q ⊢
    split at q
    · exact hk _ _ q
    · exact q.elim
  | .ite t a b, env, h, K, K', X, X', hk, hx, q => by
    unfold wE at q ⊢
    refine wT_mono t env h _ _ X X' (fun r h1 q => ?_) hx q
    cases r with
    | true => exact wE_mono a env h1 _ _ X X' hk hx q
    | false => exact wE_mono b env h1 _ _ X X' hk hx q
  | .tup es, env, h, K, K', X, X', hk, hx, q => by
    unfold wE at q ⊢
    exact wEs_mono es env h _ _ X X' (fun ds h1 q => ⟨q.1, hk _ _ q.2⟩) hx q
  | .lst es, env, h, K, K', X, X', hk, hx, q => by
    unfold wE at q ⊢
    exact wEs_mono es env h _ _ X X' (fun ds h1 q => ⟨q.1, new_mono hk q.2⟩) hx q
  | .call f es, env, h, K, K', X, X', hk, hx, q => by
    unfold wE at q ⊢
    exact wEs_mono es env h _ _ X X' (fun ds h1 q => hc _ _ _ _ _ _ _ hk hx q) hx q
  | .make C f es, env, h, K, K', X, X', hk, hx, q => by
    unfold wE at q ⊢
    exact wEs_mono es env h _ _ X X' (fun ds h1 q p n => hc _ _ _ _ _ _ _ (fun v h2 z => ⟨z.1, hk _ _ z.2⟩) hx (q p n)) hx q
  | .bi f es, env, h, K, K', X, X', hk, hx, q => by
    unfold wE at q ⊢
    exact wEs_mono es env h _ _ X X' (fun ds h1 q => bi_mono (P := P) (c := c) (X := X) (X' := X') hk q) hx q
  | .meth o m b es, env, h, K, K', X, X', hk, hx, q => by
    unfold wE at q ⊢
    refine wE_mono o env h _ _ X X' (fun x h1 q => ?_) hx q
    try dsimp only at q ⊢
    split at q
    · exact wEs_mono es env h1 _ _ X X' (fun ds h2 q => mth_mono hc hk hx q) hx q
    · exact q.elim
  | .attr o f, env, h, K, K', X, X', hk, hx, q => by
    unfold wE at q ⊢
    exact wE_mono o env h _ _ X X' (fun x h1 q => opAttr_mono hc hk q) hx q
  | .item o i, env, h, K, K', X, X', hk, hx, q => by
    unfold wE at q ⊢
    exact wE_mono o env h _ _ X X' (fun x h1 q => wE_mono i env h1 _ _ X X' (fun y h2 q => opItem_mono hk q) hx q) hx q
  | .slice o lo hi, env, h, K, K', X, X', hk, hx, q => by
    unfold wE at q ⊢
    exact wE_mono o env h _ _ X X' (fun x h1 q => wO_mono lo env h1 _ _ X X' (fun l h2 q => wO_mono hi env h2 _ _ X X' (fun u h3 q => opSlice_mono hk q) hx q) hx q) hx q
  | .comp e own g it ifs, env, h, K, K', X, X', hk, hx, q => by
    unfold wE at q ⊢
    refine wI_mono it env h _ _ X X' (fun ds grd h1 q p n => ?_) hx q
    refine compGo_mono (fun d h2 K1 K2 N1 N2 a1 a2 q => ?_) (fun h' q => hk _ _ q) ds [] _ (q p n)
    refine wG_mono g d (wipeE env own) h2 _ _ _ _ (fun env' h3 q => ?_) (fun _ _ z => z) q
    refine wIfs_mono ifs env' h3 _ _ _ _ (fun r h4 q => ?_) (fun _ _ z => z) q
    cases r with
    | true => exact wE_mono e env' h4 _ _ _ _ a1 (fun _ _ z => z) q
    | false => exact a2 _ q
  | .comp2 .., env, h, K, K', X, X', hk, hx, q => by unfold wE at q; exact q.elim
  | .fstr .., env, h, K, K', X, X', hk, hx, q => by unfold wE at q; exact q.elim
  | .isin e cs, env, h, K, K', X, X', hk, hx, q => by
    unfold wE at q ⊢
    exact wE_mono e env h _ _ X X' (fun x h1 q => isinD_mono hk q) hx q
  | .rngA t e, env, h, K, K', X, X', hk, hx, q => by
    unfold wE at q ⊢
    exact wE_mono e env h _ _ X X' (fun x h1 q => atInt_mono (fun j q => rngD_mono hk q) q) hx q
  | .rngB t a e, env, h, K, K', X, X', hk, hx, q => by
    unfold wE at q ⊢
    exact wE_mono a env h _ _ X X' (fun x h1 q => wE_mono e env h1 _ _ X X' (fun y h2 q => atInt_mono (fun i q => atInt_mono (fun j q => rngD_mono hk q) q) q) hx q) hx q
  | .nope, env, h, K, K', X, X', hk, hx, q => by unfold wE at q; exact q.elim
theorem wT_mono : ∀ (e : E) (env : Env) (h : Hq) (K K' : Bool → Hq → Prop) (X X' : Xq), (∀ d h', K d h' → K' d h') → (∀ x h', X x h' → X' x h') → wT P c e env h K X → wT P c e env h K' X'
  | .and a b, env, h, K, K', X, X', hk, hx, q => by
    unfold wT at q ⊢
    refine wT_mono a env h _ _ X X' (fun r h1 q => ?_) hx q
    cases r with
    | true => exact wT_mono b env h1 _ _ X X' hk hx q
    | false => exact hk _ _ q
  | .or a b, env, h, K, K', X, X', hk, hx, q => by
    unfold wT at q ⊢
    refine wT_mono a env h _ _ X X' (fun r h1 q => ?_) hx q
    cases r with
    | true => exact hk _ _ q
    | false => exact wT_mono b env h1 _ _ X X' hk hx q
  | .not a, env, h, K, K', X, X', hk, hx, q => by
    unfold wT at q ⊢
    exact wT_mono a env h _ _ X X' (fun r h1 q => hk _ _ q) hx q
  | .cmp o a b, env, h, K, K', X, X', hk, hx, q => by
    unfold wT at q ⊢
    refine wE_mono a env h _ _ X X' (fun x h1 q => wE_mono b env h1 _ _ X X' (fun y h2 q => opCmp_mono hc (fun r h3 q => ?_) hx q) hx q) hx q
    try dsimp only at q ⊢
    split at q
    · exact hk _ _ q
    · exact q.elim
  | .chain o1 o2 a b e, env, h, K, K', X, X', hk, hx, q => by
    unfold wT at q ⊢
    refine wE_mono a env h _ _ X X' (fun x h1 q => wE_mono b env h1 _ _ X X' (fun y h2 q => opCmp_mono hc (fun r h3 q => ?_) hx q) hx q) hx q
    try dsimp only at q ⊢
    split at q
    · refine wE_mono e env h3 _ _ X X' (fun z h4 q => opCmp_mono hc (fun r h5 q => ?_) hx q) hx q
      try dsimp only at q ⊢
      split at q
      · exact hk _ _ q
      · exact q.elim
    · exact hk _ _ q
    · exact q.elim
  | .ite .., env, h, K, K', X, X', hk, hx, q => by unfold wT at q; exact q.elim
  | .var i, env, h, K, K', X, X', hk, hx, q => by
    rw [wT_plain rfl] at q ⊢
    exact wE_mono (.var i) env h _ _ X X' (fun x h1 q => opTru_mono hk q) hx q
  | .cst d, env, h, K, K', X, X', hk, hx, q => by
    rw [wT_plain rfl] at q ⊢
    exact wE_mono (.cst d) env h _ _ X X' (fun x h1 q => opTru_mono hk q) hx q
  | .glob d, env, h, K, K', X, X', hk, hx, q => by
    rw [wT_plain rfl] at q ⊢
    exact wE_mono (.glob d) env h _ _ X X' (fun x h1 q => opTru_mono hk q) hx q
  | .bin o a b, env, h, K, K', X, X', hk, hx, q => by
    rw [wT_plain rfl] at q ⊢
    exact wE_mono (.bin o a b) env h _ _ X X' (fun x h1 q => opTru_mono hk q) hx q
  | .neg d, env, h, K, K', X, X', hk, hx, q => by
    rw [wT_plain rfl] at q ⊢
    exact wE_mono (.neg d) env h _ _ X X' (fun x h1 q => opTru_mono hk q) hx q
  | .tup d, env, h, K, K', X, X', hk, hx, q => by
    rw [wT_plain rfl] at q ⊢
    exact wE_mono (.tup d) env h _ _ X X' (fun x h1 q => opTru_mono hk q) hx q
  | .lst d, env, h, K, K', X, X', hk, hx, q => by
    rw [wT_plain rfl] at q ⊢
    exact wE_mono (.lst d) env h _ _ X X' (fun x h1 q => opTru_mono hk q) hx q
  | .call f es, env, h, K, K', X, X', hk, hx, q => by
    rw [wT_plain rfl] at q ⊢
    exact wE_mono (.call f es) env h _ _ X X' (fun x h1 q => opTru_mono hk q) hx q
  | .make C f es, env, h, K, K', X, X', hk, hx, q => by
    rw [wT_plain rfl] at q ⊢
    exact wE_mono (.make C f es) env h _ _ X X' (fun x h1 q => opTru_mono hk q) hx q
  | .bi f es, env, h, K, K', X, X', hk, hx, q => by
    rw [wT_plain rfl] at q ⊢
    exact wE_mono (.bi f es) env h _ _ X X' (fun x h1 q => opTru_mono hk q) hx q
  | .meth o m b es, env, h, K, K', X, X', hk, hx, q => by
    rw [wT_plain rfl] at q ⊢
    exact wE_mono (.meth o m b es) env h _ _ X X' (fun x h1 q => opTru_mono hk q) hx q
  | .attr o f, env, h, K, K', X, X', hk, hx, q => by
    rw [wT_plain rfl] at q ⊢
    exact wE_mono (.attr o f) env h _ _ X X' (fun x h1 q => opTru_mono hk q) hx q
  | .item o i, env, h, K, K', X, X', hk, hx, q => by
    rw [wT_plain rfl] at q ⊢
    exact wE_mono (.item o i) env h _ _ X X' (fun x h1 q => opTru_mono hk q) hx q
  | .slice o i j, env, h, K, K', X, X', hk, hx, q => by
    rw [wT_plain rfl] at q ⊢
    exact wE_mono (.slice o i j) env h _ _ X X' (fun x h1 q => opTru_mono hk q) hx q
  | .comp e o g i f, env, h, K, K', X, X', hk, hx, q => by
    rw [wT_plain rfl] at q ⊢
    exact wE_mono (.comp e o g i f) env h _ _ X X' (fun x h1 q => opTru_mono hk q) hx q
  | .comp2 .., env, h, K, K', X, X', hk, hx, q => by
    rw [wT_plain rfl] at q; unfold wE at q; exact q.elim
  | .fstr .., env, h, K, K', X, X', hk, hx, q => by
    rw [wT_plain rfl] at q; unfold wE at q; exact q.elim
  | .isin e cs, env, h, K, K', X, X', hk, hx, q => by
    rw [wT_plain rfl] at q ⊢
    exact wE_mono (.isin e cs) env h _ _ X X' (fun x h1 q => opTru_mono hk q) hx q
  | .rngA t e, env, h, K, K', X, X', hk, hx, q => by
    rw [wT_plain rfl] at q ⊢
    exact wE_mono (.rngA t e) env h _ _ X X' (fun x h1 q => opTru_mono hk q) hx q
  | .rngB t a e, env, h, K, K', X, X', hk, hx, q => by
    rw [wT_plain rfl] at q ⊢
    exact wE_mono (.rngB t a e) env h _ _ X X' (fun x h1 q => opTru_mono hk q) hx q
  | .nope, env, h, K, K', X, X', hk, hx, q => by
    rw [wT_plain rfl] at q; unfold wE at q; exact q.elim
theorem wEs_mono : ∀ (es : List E) (env : Env) (h : Hq) (K K' : List D → Hq → Prop) (X X' : Xq), (∀ d h', K d h' → K' d h') → (∀ x h', X x h' → X' x h') → wEs P c es env h K X → wEs P c es env h K' X'
  | [], env, h, K, K', X, X', hk, hx, q => by unfold wEs at q ⊢; exact hk _ _ q
  | e :: es, env, h, K, K', X, X', hk, hx, q => by
    unfold wEs at q ⊢
    exact wE_mono e env h _ _ X X' (fun d h1 q => wEs_mono es env h1 _ _ X X' (fun ds h2 q => hk _ _ q) hx q) hx q
theorem wO_mono : ∀ (e : Option E) (env : Env) (h : Hq) (K K' : Option Int → Hq → Prop) (X X' : Xq), (∀ d h', K d h' → K' d h') → (∀ x h', X x h' → X' x h') → wO P c e env h K X → wO P c e env h K' X'
  | none, env, h, K, K', X, X', hk, hx, q => by unfold wO at q ⊢; exact hk _ _ q
  | some e, env, h, K, K', X, X', hk, hx, q => by
    unfold wO at q ⊢
    refine wE_mono e env h _ _ X X' (fun d h1 q => ?_) hx q
    try dsimp only at q ⊢
    split at q
    · exact hk _ _ q
    · exact q.elim
theorem wIfs_mono : ∀ (es : List E) (env : Env) (h : Hq) (K K' : Bool → Hq → Prop) (X X' : Xq), (∀ d h', K d h' → K' d h') → (∀ x h', X x h' → X' x h') → wIfs P c es env h K X → wIfs P c es env h K' X'
  | [], env, h, K, K', X, X', hk, hx, q => by unfold wIfs at q ⊢; exact hk _ _ q
  | [e], env, h, K, K', X, X', hk, hx, q => by
    unfold wIfs at q ⊢
    exact wT_mono e env h _ _ X X' hk hx q
  | _ :: _ :: _, env, h, K, K', X, X', hk, hx, q => by unfold wIfs at q; exact q.elim
theorem wG_mono : ∀ (t : T) (d : D) (env : Env) (h : Hq) (K K' : Env → Hq → Prop) (X X' : Xq), (∀ d h', K d h' → K' d h') → (∀ x h', X x h' → X' x h') → wG P c t d env h K X → wG P c t d env h K' X'
  | .var i, d, env, h, K, K', X, X', hk, hx, q => by unfold wG at q ⊢; exact hk _ _ q
  | .tup ts, d, env, h, K, K', X, X', hk, hx, q => by
    unfold wG at q ⊢
    split at q
    · exact ⟨q.1, wGs_mono ts _ env h _ _ _ _ hk (fun _ _ z => z) q.2⟩
    · exact q.elim
  | .item o i, d, env, h, K, K', X, X', hk, hx, q => by
    unfold wG at q ⊢
    refine wE_mono o env h _ _ X X' (fun x h1 q => wE_mono i env h1 _ _ X X' (fun y h2 q => ?_) hx q) hx q
    try dsimp only at q ⊢
    split at q
    · split at q
      · split at q
        · exact hk _ _ q
        · exact q.elim
      · exact q.elim
    · exact q.elim
  | .attr o f, d, env, h, K, K', X, X', hk, hx, q => by
    unfold wG at q ⊢
    refine wE_mono o env h _ _ X X' (fun x h1 q => ?_) hx q
    try dsimp only at q ⊢
    split at q
    · split at q
      · exact ⟨q.1, q.2.1, hk _ _ q.2.2⟩
      · exact q.elim
    · exact q.elim
  | .nope, d, env, h, K, K', X, X', hk, hx, q => by unfold wG at q; exact q.elim
theorem wGs_mono : ∀ (ts : List T) (ds : List D) (env : Env) (h : Hq) (K K' : Env → Hq → Prop) (X X' : Xq), (∀ d h', K d h' → K' d h') → (∀ x h', X x h' → X' x h') → wGs P c ts ds env h K X → wGs P c ts ds env h K' X'
  | [], ds, env, h, K, K', X, X', hk, hx, q => by unfold wGs at q ⊢; exact ⟨q.1, hk _ _ q.2⟩
  | t :: ts, ds, env, h, K, K', X, X', hk, hx, q => by
    unfold wGs at q ⊢
    split at q
    · exact q.elim
    · exact wG_mono t _ env h _ _ X X' (fun env' h' q => wGs_mono ts _ env' h' _ _ X X' hk hx q) hx q
theorem wI_mono : ∀ (i : I) (env : Env) (h : Hq) (R R' : Kit) (X X' : Xq), (∀ ds g h', R ds g h' → R' ds g h') → (∀ x h', X x h' → X' x h') → wI P c i env h R X → wI P c i env h R' X'
  | .val e, env, h, R, R', X, X', hr, hx, q => by
    unfold wI at q ⊢
    exact wE_mono e env h _ _ X X' (fun x h1 q => walkVal_mono hr q) hx q
  | .rng1 a, env, h, R, R', X, X', hr, hx, q => by
    unfold wI at q ⊢
    refine wE_mono a env h _ _ X X' (fun x h1 q => ?_) hx q
    try dsimp only at q ⊢
    split at q
    · exact ⟨q.1, hr _ _ _ q.2⟩
    · exact q.elim
  | .rng2 a b, env, h, R, R', X, X', hr, hx, q => by
    unfold wI at q ⊢
    refine wE_mono a env h _ _ X X' (fun x h1 q => wE_mono b env h1 _ _ X X' (fun y h2 q => ?_) hx q) hx q
    try dsimp only at q ⊢
    split at q
    · exact ⟨q.1, hr _ _ _ q.2⟩
    · exact q.elim
  | .rng3 a b e, env, h, R, R', X, X', hr, hx, q => by
    unfold wI at q ⊢
    refine wE_mono a env h _ _ X X' (fun x h1 q => wE_mono b env h1 _ _ X X' (fun y h2 q => wE_mono e env h2 _ _ X X' (fun z h3 q => ?_) hx q) hx q) hx q
    try dsimp only at q ⊢
    split at q
    · obtain ⟨n, a, q⟩ := q
      exact ⟨n, a, hr _ _ _ q⟩
    · exact q.elim
  | .enum e, env, h, R, R', X, X', hr, hx, q => by
    unfold wI at q ⊢
    exact wE_mono e env h _ _ X X' (fun x h1 q => walkEnum_mono hr q) hx q
  | .zip a b, env, h, R, R', X, X', hr, hx, q => by
    unfold wI at q ⊢
    exact wE_mono a env h _ _ X X' (fun x h1 q => wE_mono b env h1 _ _ X X' (fun y h2 q => walkZip_mono hr q) hx q) hx q
  | .nope, env, h, R, R', X, X', hr, hx, q => by unfold wI at q; exact q.elim
end
/-! ### statements -/
structure FLe (F F' : Fin) : Prop where
  nx : ∀ e h, F.nx e h → F'.nx e h
  rt : ∀ e h, F.rt e h → F'.rt e h
  bk : ∀ e h, F.bk e h → F'.bk e h
  ct : ∀ e h, F.ct e h → F'.ct e h
  ex : ∀ e x h, F.ex e x h → F'.ex e x h
omit hc in
theorem forGo_mono {g : Hq → Prop} {body : D → Env → Hq → Fin → Prop} {body' : D → Env → Hq → Fin → Prop} {F F' : Fin} (hb : ∀ d env h G G', FLe G G' → body d env h G → body' d env h G') (f : FLe F F') :
    ∀ (ds : List D) (env : Env) (h : Hq), forGo g body F ds env h → forGo g body' F' ds env h
  | [], env, h, q => ⟨q.1, f.nx _ _ q.2⟩
  | d :: r, env, h, q => by
    unfold forGo at q ⊢
    refine ⟨q.1, hb d env h _ _ ?_ q.2⟩
    exact ⟨fun e h z => forGo_mono hb f r e h z, f.rt, f.nx, fun e h z => forGo_mono hb f r e h z, f.ex⟩
omit hc in
theorem opAug_mono {o : Operator} {x y : D} {h : Hq} {K K' : Kq} (hk : ∀ d h', K d h' → K' d h') (q : opAug o x y h K) : opAug o x y h K' := by
  unfold opAug at q ⊢
  split at q
  · exact hk _ _ q
  · exact hk _ _ q
  · exact q.elim
mutual
theorem wS_mono : ∀ (s : S) (env : Env) (h : Hq) (F F' : Fin), FLe F F' → wS P c s env h F → wS P c s env h F'
  | .asg t e, env, h, F, F', f, q => by
    unfold wS at q ⊢
    exact wE_mono hc e env h _ _ _ _ (fun d h1 q => wG_mono hc t d env h1 _ _ _ _ f.nx (f.ex env) q) (f.ex env) q
  | .par i j a b, env, h, F, F', f, q => by
    unfold wS at q ⊢
    exact wE_mono hc a env h _ _ _ _ (fun x h1 q => wE_mono hc b env h1 _ _ _ _ (fun y h2 q => f.nx _ _ q) (f.ex env) q) (f.ex env) q
  | .aug i o e, env, h, F, F', f, q => by
    unfold wS at q ⊢
    split at q
    · exact wE_mono hc e env h _ _ _ _ (fun y h1 q => opAug_mono (fun z h2 q => f.nx _ _ q) q) (f.ex env) q
    · exact q.elim
  | .expr e, env, h, F, F', f, q => by
    unfold wS at q ⊢
    exact wE_mono hc e env h _ _ _ _ (fun d h1 q => f.nx _ _ q) (f.ex env) q
  | .ret e, env, h, F, F', f, q => by
    unfold wS at q ⊢
    exact wE_mono hc e env h _ _ _ _ f.rt (f.ex env) q
  | .retN, env, h, F, F', f, q => by unfold wS at q ⊢; exact f.rt _ _ q
  | .ite e a b, env, h, F, F', f, q => by
    unfold wS at q ⊢
    refine wT_mono hc e env h _ _ _ _ (fun r h1 q => ?_) (f.ex env) q
    cases r with
    | true => exact wSs_mono a env h1 F F' f q
    | false => exact wSs_mono b env h1 F F' f q
  | .for t it b, env, h, F, F', f, q => by
    unfold wS at q ⊢
    refine wI_mono hc it env h _ _ _ _ (fun ds g h1 q => ?_) (f.ex env) q
    exact forGo_mono (fun d env' h' G G' g q => wG_mono hc t d env' h' _ _ _ _ (fun env2 h2 q => wSs_mono b env2 h2 G G' g q) (f.ex env') q) f ds env h1 q
  | .while e b, env, h, F, F', f, q => by
    unfold wS at q ⊢
    obtain ⟨J, m, j0, st⟩ := q
    refine ⟨J, m, j0, fun env h j => ?_⟩
    refine wT_mono hc e env h _ _ _ _ (fun r h1 q => ?_) (f.ex env) (st env h j)
    cases r with
    | true =>
      refine wSs_mono b env h1 _ _ ?_ q
      exact ⟨fun _ _ z => z, f.rt, f.nx, fun _ _ z => z, f.ex⟩
    | false => exact f.nx _ _ q
  | .brk, env, h, F, F', f, q => by unfold wS at q ⊢; exact f.bk _ _ q
  | .cont, env, h, F, F', f, q => by unfold wS at q ⊢; exact f.ct _ _ q
  | .pass, env, h, F, F', f, q => by unfold wS at q ⊢; exact f.nx _ _ q
  | .nope, env, h, F, F', f, q => by unfold wS at q; exact q.elim
theorem wSs_mono : ∀ (ss : List S) (env : Env) (h : Hq) (F F' : Fin), FLe F F' → wSs P c ss env h F → wSs P c ss env h F'
  | [], env, h, F, F', f, q => by unfold wSs at q ⊢; exact f.nx _ _ q
  | s :: r, env, h, F, F', f, q => by
    unfold wSs at q ⊢
    refine wS_mono s env h _ _ ?_ q
    exact ⟨fun env' h' q => wSs_mono r env' h' F F' f q, f.rt, f.bk, f.ct, f.ex⟩
end
end
theorem callW_mono {P : Cl} {fs : Fns} : ∀ d, Mono (callW P fs d)
  | 0, _, _, _, _, _, _, _, _, _, q => (show False from q).elim
  | d + 1, f, ds, h, K, K', X, X', hk, hx, q => by
    unfold callW at q ⊢
    split at q
    · refine ⟨q.1, wSs_mono (callW_mono d) _ _ _ _ _ ?_ q.2⟩
      exact ⟨fun _ h' z => hk _ _ z, hk, fun _ _ z => z, fun _ _ z => z, fun _ x h' z => hx x h' z⟩
    · exact q.elim
end MP
/-! Running the small Python by hand: the steps. -/
namespace MP
open PySem PySem.Spec PyProof.Rows
section
variable {P : Cl} {c : Csem} {env : Env} {h : Hq} {Q : Kq} {X : Xq} {F : Fin} {e : E} {es : List E}
theorem callW_of {P : Cl} {fs : Fns} {d : Nat} {key : Str} {F : Fn} {ds : List D} {h : Hq} {Q : Kq} {X : Xq} (hf : fs key = some F) (hl : ds.length = F.ps.length)
    (hw : wSs P (callW P fs d) F.body (startE F.slots ds) h ⟨fun _ h' => Q .non h', Q, fun _ _ => False, fun _ _ => False, fun _ x h' => X x h'⟩) : callW P fs (d + 1) key ds h Q X := by
  unfold callW
  rw [hf]
  exact ⟨hl, hw⟩
/-- the wish as a name -/
theorem gE (f : ∀ K : Kq, (∀ d h', Q d h' → K d h') → wE P c e env h K X) : wE P c e env h Q X := f Q fun _ _ z => z
theorem gT {R : Bool → Hq → Prop} (f : ∀ K : Bool → Hq → Prop, (∀ d h', R d h' → K d h') → wT P c e env h K X) : wT P c e env h R X := f R fun _ _ z => z
theorem gEs {R : List D → Hq → Prop} (f : ∀ K : List D → Hq → Prop, (∀ d h', R d h' → K d h') → wEs P c es env h K X) : wEs P c es env h R X := f R fun _ _ z => z
theorem ss_nil (q : F.nx env h) : wSs P c [] env h F := by unfold wSs; exact q
theorem ss_cons {s : S} {r : List S} (q : wS P c s env h { F with nx := fun env' h' => wSs P c r env' h' F }) : wSs P c (s :: r) env h F := by unfold wSs; exact q
theorem s_asg {t : T} (q : wE P c e env h (fun d h1 => wG P c t d env h1 F.nx (F.ex env)) (F.ex env)) : wS P c (.asg t e) env h F := by unfold wS; exact q
theorem s_set {i : Nat} (q : wE P c e env h (fun d h1 => F.nx (env.set i (some d)) h1) (F.ex env)) : wS P c (.asg (.var i) e) env h F := by
  unfold wS
  simp only [wG]
  exact q
theorem s_ret (q : wE P c e env h F.rt (F.ex env)) : wS P c (.ret e) env h F := by unfold wS; exact q
theorem s_expr (q : wE P c e env h (fun _ h1 => F.nx env h1) (F.ex env)) : wS P c (.expr e) env h F := by unfold wS; exact q
theorem s_ite {a b : List S} (q : wT P c e env h (fun r h1 => (r = true → wSs P c a env h1 F) ∧ (r = false → wSs P c b env h1 F)) (F.ex env)) (hc : Mono c) : wS P c (.ite e a b) env h F := by
  unfold wS
  refine wT_mono hc e env h _ _ _ _ (fun r h1 q => ?_) (fun _ _ z => z) q
  cases r with
  | true => exact q.1 rfl
  | false => exact q.2 rfl
theorem s_par {i j : Nat} {a b : E} (q : wE P c a env h (fun x h1 => wE P c b env h1 (fun y h2 => F.nx ((env.set i (some x)).set j (some y)) h2) (F.ex env)) (F.ex env)) : wS P c (.par i j a b) env h F := by unfold wS; exact q
theorem s_for {t : T} {it : I} {b : List S} (q : wI P c it env h (fun ds grd h1 => forGo grd (fun d env' h' F' => wG P c t d env' h' (fun env2 h2 => wSs P c b env2 h2 F') (F.ex env')) F ds env h1) (F.ex env)) : wS P c (.for t it b) env h F := by unfold wS; exact q
/-- a for loop by an invariant -/
theorem for_inv {grd : Hq → Prop} {body : D → Env → Hq → Fin → Prop} {F : Fin} (Pv : Nat → Env → Hq → Prop) (ds : List D) (hg : ∀ i env h, i ≤ ds.length → Pv i env h → grd h)
    (hs : ∀ i d env h, ds[i]? = some d → Pv i env h → ∀ G : Fin, (∀ env' h', Pv (i + 1) env' h' → G.nx env' h' ∧ G.ct env' h') → G.rt = F.rt → G.bk = F.nx → G.ex = F.ex → body d env h G)
    (hd : ∀ env h, Pv ds.length env h → F.nx env h) : ∀ (i : Nat) (env : Env) (h : Hq), i ≤ ds.length → Pv i env h → forGo grd body F (ds.drop i) env h := by
  intro i
  generalize hn : ds.length - i = n
  induction n generalizing i with
  | zero =>
    intro env h hi p
    have e : i = ds.length := by omega
    subst e
    rw [List.drop_length]
    exact ⟨hg _ _ _ hi p, hd _ _ p⟩
  | succ n ih =>
    intro env h hi p
    have hlt : i < ds.length := by omega
    rw [List.drop_eq_getElem_cons hlt]
    refine ⟨hg _ _ _ hi p, hs i ds[i] env h (by simp [hlt]) p _ (fun env' h' p' => ?_) rfl rfl rfl⟩
    have := ih (i + 1) (by omega) env' h' hlt p'
    exact ⟨this, this⟩
/-- a comprehension by an invariant: acc's items so far -/
theorem comp_inv {grd : Hq → Prop} {p : Nat} {body : D → Hq → Kq → (Hq → Prop) → Prop} {Q : Hq → Prop} (Pv : Nat → List D → Hq → Prop) (ds : List D) (hg : ∀ i acc h, i ≤ ds.length → Pv i acc h → grd h ∧ h p = some (.lst acc))
    (hs : ∀ i d acc h, ds[i]? = some d → Pv i acc h → ∀ (K : Kq) (N : Hq → Prop), (∀ y h', h' p = some (.lst acc) → acc.length < sizeLine → Pv (i + 1) (acc ++ [y]) (hset h' p (.lst (acc ++ [y]))) → K y h') → (∀ h', h' p = some (.lst acc) → Pv (i + 1) acc h' → N h') → body d h K N)
    (hd : ∀ acc h, Pv ds.length acc h → Q h) : ∀ (i : Nat) (acc : List D) (h : Hq), i ≤ ds.length → Pv i acc h → compGo grd p body Q (ds.drop i) acc h := by
  intro i
  generalize hn : ds.length - i = n
  induction n generalizing i with
  | zero =>
    intro acc h hi q
    have e : i = ds.length := by omega
    subst e
    rw [List.drop_length]
    obtain ⟨g1, g2⟩ := hg _ _ _ hi q
    exact ⟨g1, g2, hd _ _ q⟩
  | succ n ih =>
    intro acc h hi q
    have hlt : i < ds.length := by omega
    rw [List.drop_eq_getElem_cons hlt]
    obtain ⟨g1, g2⟩ := hg _ _ _ hi q
    exact ⟨g1, hs i ds[i] acc h (by simp [hlt]) q _ _ (fun y h' a z b => ⟨a, z, ih (i + 1) (by omega) _ _ hlt b⟩) (fun h' a b => ⟨a, ih (i + 1) (by omega) _ _ hlt b⟩)⟩
end
end MP
namespace MP
open PySem PySem.Spec PyProof.Rows L2 ClX
def F_law_hand : Fn := ⟨["_law_script"], 4, [.asg (.var 1) (.comp (.bi .int [(.var 3)]) [3] (.var 3) (.val (.slice (.var 0) none (some (.cst (.int 63))))) []),
  .asg (.var 2) (.bin .Add (.cst (.int 5615)) (.bin .Mult (.cst (.int 89)) (.bi .len [(.var 1)]))),
  .for (.var 3) (.val (.var 1)) [.asg (.var 2) (.bin .Mod (.bi .int [(.bin .Add (.bin .Mult (.var 2) (.cst (.int 7193))) (.var 3))]) (.cst (.int 2147483587)))],
  .ret (.lst [(.var 1), (.cst (.int 0)), (.cst (.int 0)), (.var 2)])]⟩
def F_law_pick : Fn := ⟨["_law_hand_here", "_law_many"], 6, [.ite (.cmp .Lt (.item (.var 0) (.cst (.int 2))) (.cst (.int 2))) [.asg (.item (.var 0) (.cst (.int 1))) (.bin .Add (.item (.var 0) (.cst (.int 1))) (.cst (.int 1))),
  .asg (.var 3) (.bin .Add (.item (.var 0) (.cst (.int 3))) (.bin .Mult (.item (.var 0) (.cst (.int 1))) (.cst (.int 9431)))),
  .ite (.cmp .LtE (.item (.var 0) (.cst (.int 1))) (.bi .len [(.item (.var 0) (.cst (.int 0)))])) [.asg (.var 3) (.item (.item (.var 0) (.cst (.int 0))) (.bin .Sub (.item (.var 0) (.cst (.int 1))) (.cst (.int 1))))] [],
  .ite (.or (.cmp .Gt (.item (.var 0) (.cst (.int 1))) (.bi .len [(.item (.var 0) (.cst (.int 0)))])) (.cmp .Lt (.var 3) (.bin .Pow (.cst (.int 10)) (.cst (.int 18))))) [.asg (.var 4) (.bin .Mod (.bi .int [(.bin .Add (.bin .Add (.bin .Mult (.var 3) (.cst (.int 40693))) (.bin .Mult (.item (.var 0) (.cst (.int 1))) (.cst (.int 39373)))) (.item (.var 0) (.cst (.int 3))))]) (.cst (.int 2147483647))),
  .asg (.var 5) (.bin .Mod (.bi .int [(.bin .Add (.bin .Mult (.var 4) (.var 4)) (.bin .Mult (.item (.var 0) (.cst (.int 1))) (.cst (.int 52774))))]) (.cst (.int 998244353))),
  .ret (.bin .Mod (.bin .FloorDiv (.bin .Mod (.bi .int [(.bin .Add (.bin .Mult (.var 5) (.cst (.int 48271))) (.var 4))]) (.cst (.int 2147483629))) (.cst (.int 17))) (.var 1))] [],
  .asg (.item (.var 0) (.cst (.int 2))) (.var 3)] [],
  .asg (.var 2) (.bin .Mod (.bi .int [(.item (.var 0) (.cst (.int 2)))]) (.var 1)),
  .asg (.item (.var 0) (.cst (.int 2))) (.bin .FloorDiv (.bi .int [(.item (.var 0) (.cst (.int 2)))]) (.var 1)),
  .ret (.var 2)]⟩
def F_law_of : Fn := ⟨["_law_hand_here", "_law_items"], 2, [.ret (.item (.var 1) (.call "_law_pick" [(.var 0), (.bi .len [(.var 1)])]))]⟩
/-- the numbers in hand: the cells, how many are used, what is left of one, the mark -/
structure Hand (h : Hq) (a c : Nat) (cells : List Int) : Prop where
  ex : ∃ u r m, h a = some (.lst [.ref c, .int u, .int r, .int m]) ∧ h c = some (.lst (intsD cells)) ∧ c ≠ a ∧ 0 ≤ u
theorem ixN_pos {n : Nat} {i : Int} (h0 : 0 ≤ i) (h1 : i < n) : L2.ixN n i = some i.toNat := by unfold L2.ixN; rw [if_pos h0, if_pos h1]
theorem intsD_get {ns : List Int} {i : Nat} (h : i < ns.length) : (intsD ns)[i]? = some (.int ns[i]) := by unfold intsD; simp [h]
theorem intsD_len (ns : List Int) : (intsD ns).length = ns.length := by unfold intsD; simp
theorem atI_ints {ns : List Int} {i : Int} (h0 : 0 ≤ i) (h1 : i < ns.length) : ∃ n, L2.atI (intsD ns) i = some (.int n) := by
  unfold L2.atI
  rw [intsD_len, ixN_pos h0 h1]
  exact ⟨_, intsD_get (by omega)⟩
theorem ix40 {a b c d : D} : L2.atI [a, b, c, d] 0 = some a := rfl
theorem ix41 {a b c d : D} : L2.atI [a, b, c, d] 1 = some b := rfl
theorem ix42 {a b c d : D} : L2.atI [a, b, c, d] 2 = some c := rfl
theorem ix43 {a b c d : D} : L2.atI [a, b, c, d] 3 = some d := rfl
theorem iw41 {a b c d : D} : L2.ixN [a, b, c, d].length 1 = some 1 := rfl
theorem iw42 {a b c d : D} : L2.ixN [a, b, c, d].length 2 = some 2 := rfl
theorem hset_id {h : Hq} {a : Nat} {o : O} (e : h a = some o) : hset h a o = h := by
  funext b
  by_cases q : b = a
  · subst q; rw [hset_same, e]
  · rw [hset_ne q]
theorem law_pick {P : Cl} {fs : Fns} {d : Nat} {a c : Nat} {cells : List Int} {many : Int} {h : Hq} {Q : Kq} {X : Xq} (hf : fs "_law_pick" = some F_law_pick) (H : Hand h a c cells) (h1 : 0 < many) (h2 : many < 1073741824)
    (hq : ∀ k h', 0 ≤ k → k < many → Hand h' a c cells → (∀ b, b ≠ a → h' b = h b) → Q (.int k) h') : callW P fs (d + 1) "_law_pick" [.ref a, .int many] h Q X := by
  refine callW_of hf rfl ?_
  obtain ⟨u, r, m, e1, e2, ne, hu⟩ := H
  have hc := callW_mono (P := P) (fs := fs) d
  have e2' : ∀ o, hset h a o c = some (.lst (intsD cells)) := fun o => by rw [hset_ne ne]; exact e2
  have tail : ∀ (h' : Hq) (u' r' : Int) (x3 x4 x5 : Option D), 0 ≤ u' → h' = hset h a (.lst [.ref c, .int u', .int r', .int m]) → wSs P (callW P fs d) [.asg (.var 2) (.bin .Mod (.bi .int [(.item (.var 0) (.cst (.int 2)))]) (.var 1)),
      .asg (.item (.var 0) (.cst (.int 2))) (.bin .FloorDiv (.bi .int [(.item (.var 0) (.cst (.int 2)))]) (.var 1)), .ret (.var 2)] [some (.ref a), some (.int many), none, x3, x4, x5] h' ⟨fun _ h' => Q .non h', Q, fun _ _ => False, fun _ _ => False, fun _ x h' => X x h'⟩ := by
    intro h' u' r' x3 x4 x5 hu' eh
    subst eh
    refine ss_cons (s_set (gE fun K hK => ?_))
    simp only [wE, wEs, opBin, opMod, opItem, bi, b1, biInt, List.getElem?_cons_zero, List.getElem?_cons_succ, hset_same, ix40, ix41, ix42, ix43]
    refine ⟨h1, hK _ _ ?_⟩
    simp only [List.set]
    refine ss_cons (s_asg (gE fun K hK => ?_))
    simp only [wE, wEs, opBin, opFdiv, opItem, bi, b1, biInt, List.getElem?_cons_zero, List.getElem?_cons_succ, hset_same, ix40, ix41, ix42, ix43]
    refine ⟨⟨h1, h2⟩, hK _ _ ?_⟩
    simp only [wG, wE, List.getElem?_cons_zero, List.getElem?_cons_succ, hset_same, hset_hset, iw41, iw42, List.set]
    refine ss_cons (s_ret (gE fun K hK => ?_))
    simp only [wE, List.getElem?_cons_zero, List.getElem?_cons_succ]
    exact hK _ _ (hq _ _ (Int.emod_nonneg _ (by omega)) (Int.emod_lt_of_pos _ h1) ⟨u', _, m, hset_same, e2' _, ne, hu'⟩ fun b hb => hset_ne hb)
  show wSs P (callW P fs d) F_law_pick.body [some (.ref a), some (.int many), none, none, none, none] h _
  refine ss_cons (s_ite (gT fun K hK => ?_) hc)
  simp only [wT, wE, opCmp, opLt, opI, opItem, startE, F_law_pick, List.map, List.cons_append, List.getElem?_cons_zero, List.getElem?_cons_succ, e1, ix40, ix41, ix42, ix43]
  refine hK _ _ ⟨fun _ => ?_, fun _ => ss_nil (tail _ u r none none none hu (hset_id e1).symm)⟩
  refine ss_cons (s_asg (gE fun K hK => ?_))
  simp only [wE, opBin, opAdd, opItem, List.getElem?_cons_zero, List.getElem?_cons_succ, e1, ix40, ix41, ix42, ix43]
  refine hK _ _ ?_
  simp only [wG, wE, List.getElem?_cons_zero, List.getElem?_cons_succ, e1, iw41, iw42, List.set]
  refine ss_cons (s_set (gE fun K hK => ?_))
  simp only [wE, opBin, opAdd, opMul, opItem, List.getElem?_cons_zero, List.getElem?_cons_succ, hset_same, ix40, ix41, ix42, ix43]
  refine ⟨.inr (.inl (by omega)), hK _ _ ?_⟩
  simp only [List.set]
  -- the cell, at whatever value
  have rest : ∀ (x3 : Int), wSs P (callW P fs d) (match F_law_pick.body with
      | [.ite _ b _, _, _, _] => b.drop 3
      | _ => []) [some (.ref a), some (.int many), none, some (.int x3), none, none] (hset h a (.lst [.ref c, .int (u + 1), .int r, .int m]))
      ⟨fun env' h' => wSs P (callW P fs d) [.asg (.var 2) (.bin .Mod (.bi .int [(.item (.var 0) (.cst (.int 2)))]) (.var 1)), .asg (.item (.var 0) (.cst (.int 2))) (.bin .FloorDiv (.bi .int [(.item (.var 0) (.cst (.int 2)))]) (.var 1)), .ret (.var 2)] env' h' ⟨fun _ h' => Q .non h', Q, fun _ _ => False, fun _ _ => False, fun _ x h' => X x h'⟩, Q, fun _ _ => False, fun _ _ => False, fun _ x h' => X x h'⟩ := by
    intro x3
    simp only [F_law_pick, List.drop]
    refine ss_cons (s_ite (gT fun K hK => ?_) hc)
    simp only [wT, wE, wEs, opCmp, opLt, opI, opItem, opBin, opPow, bi, b1, biLen, List.getElem?_cons_zero, List.getElem?_cons_succ, hset_same, e2', ix40, ix41, ix42, ix43, intsD_len]
    have fin : ∀ h', h' = hset h a (.lst [.ref c, .int (u + 1), .int r, .int m]) → wSs P (callW P fs d) (match F_law_pick.body with
      | [.ite _ b _, _, _, _] => (match b.drop 3 with
        | [.ite _ b2 _, _] => b2
        | _ => [])
      | _ => []) [some (.ref a), some (.int many), none, some (.int x3), none, none] h' ⟨fun _ _ => False, Q, fun _ _ => False, fun _ _ => False, fun _ x h' => X x h'⟩ := fun h' eh => by
      subst eh
      simp only [F_law_pick, List.drop]
      refine ss_cons (s_set (gE fun K hK => ?_))
      simp only [wE, wEs, opItem, opBin, opAdd, opMul, opMod, bi, b1, biInt, List.getElem?_cons_zero, List.getElem?_cons_succ, hset_same, ix40, ix41, ix42, ix43]
      refine ⟨.inr (.inl (by omega)), .inr (.inl (by omega)), by omega, hK _ _ ?_⟩
      simp only [List.set]
      generalize hx4 : (x3 * 40693 + (u + 1) * 39373 + m) % 2147483647 = x4
      have b4 : 0 ≤ x4 ∧ x4 < 2147483647 := by omega
      refine ss_cons (s_set (gE fun K hK => ?_))
      simp only [wE, wEs, opItem, opBin, opAdd, opMul, opMod, bi, b1, biInt, List.getElem?_cons_zero, List.getElem?_cons_succ, hset_same, ix40, ix41, ix42, ix43]
      refine ⟨.inl (by omega), .inr (.inl (by omega)), by omega, hK _ _ ?_⟩
      simp only [List.set]
      refine ss_cons (s_ret (gE fun K hK => ?_))
      simp only [wE, wEs, opItem, opBin, opAdd, opMul, opMod, opFdiv, bi, b1, biInt, List.getElem?_cons_zero, List.getElem?_cons_succ, hset_same, ix40, ix41, ix42, ix43]
      refine ⟨.inr (.inl (by omega)), by omega, by omega, h1, hK _ _ (hq _ _ (Int.emod_nonneg _ (by omega)) (Int.emod_lt_of_pos _ h1) ⟨u + 1, r, m, hset_same, e2' _, ne, by omega⟩ fun b hb => hset_ne hb)⟩
    by_cases ho : (cells.length : Int) < u + 1
    · rw [decide_eq_true ho]
      exact hK _ _ ⟨fun _ => fin _ rfl, fun e => by cases e⟩
    · rw [decide_eq_false ho]
      refine ⟨by decide, hK _ _ ⟨fun _ => fin _ rfl, fun _ => ss_nil ?_⟩⟩
      refine ss_cons (s_asg (gE fun K hK => ?_))
      simp only [wE, List.getElem?_cons_zero, List.getElem?_cons_succ]
      refine hK _ _ ?_
      simp only [wG, wE, List.getElem?_cons_zero, List.getElem?_cons_succ, hset_same, hset_hset, iw41, iw42, List.set]
      exact ss_nil (tail _ (u + 1) _ _ _ _ (by omega) rfl)
  refine ss_cons (s_ite (gT fun K hK => ?_) hc)
  simp only [wT, wE, wEs, opCmp, opI, opItem, bi, b1, biLen, List.getElem?_cons_zero, List.getElem?_cons_succ, hset_same, e2', ix40, ix41, ix42, ix43, intsD_len]
  refine hK _ _ ⟨fun e => ?_, fun _ => ss_nil (rest _)⟩
  have hl : u + 1 ≤ cells.length := of_decide_eq_true e
  obtain ⟨n, hn⟩ := atI_ints (ns := cells) (i := u + 1 - 1) (by omega) (by omega)
  refine ss_cons (s_set (gE fun K hK => ?_))
  simp only [wE, opItem, opBin, opSub, List.getElem?_cons_zero, List.getElem?_cons_succ, hset_same, e2', ix40, ix41, ix42, ix43, hn]
  refine hK _ _ ?_
  show wSs P (callW P fs d) [] _ _ _
  exact ss_nil (rest _)

/-- what stood stands -/
def Ext (h h' : Hq) : Prop := ∀ b o, h b = some o → h' b = some o
theorem Ext.refl (h : Hq) : Ext h h := fun _ _ e => e
theorem Ext.trans {h h1 h2 : Hq} (a : Ext h h1) (b : Ext h1 h2) : Ext h h2 := fun x o e => b x o (a x o e)
theorem Ext.new {h : Hq} {p : Nat} {o : O} (n : h p = none) : Ext h (hset h p o) := fun b u e => by
  rw [hset_ne (fun z => by rw [z, n] at e; cases e)]; exact e
theorem cut_ints (ns : List Int) (lo hi : Option Int) : ∃ ms : List Int, cut (intsD ns) lo hi = intsD ms ∧ ms.length ≤ ns.length := by
  refine ⟨(ns.drop (HT.sIx ns.length 0 lo)).take (HT.sIx ns.length ns.length hi - HT.sIx ns.length 0 lo), ?_, ?_⟩
  · unfold cut
    rw [intsD_len]
    unfold intsD
    rw [List.map_take, List.map_drop]
  · rw [List.length_take, List.length_drop]; omega
theorem law_hand {P : Cl} {fs : Fns} {d : Nat} {ns : List Int} {h : Hq} {Q : Kq} {X : Xq} (hf : fs "_law_hand" = some F_law_hand) (hl : ns.length ≤ 63)
    (hq : ∀ a c cells h', Hand h' a c cells → Ext h h' → h a = none → Q (.ref a) h') : callW P fs (d + 1) "_law_hand" [.rol (intsD ns)] h Q X := by
  refine callW_of hf rfl ?_
  have hc := callW_mono (P := P) (fs := fs) d
  show wSs P (callW P fs d) F_law_hand.body [some (.rol (intsD ns)), none, none, none] h _
  refine ss_cons (s_set (gE fun K hK => ?_))
  simp only [wE, wI, wO, opSlice, List.getElem?_cons_zero, List.getElem?_cons_succ]
  intro p0 n0
  obtain ⟨ms, em, hm⟩ := cut_ints ns none (some 63)
  rw [em]
  simp only [walkVal, hset_same]
  intro p1 n1
  have ne : p0 ≠ p1 := fun z => by rw [z, hset_same] at n1; cases n1
  have ndef : h p1 = none := by rw [hset_ne (Ne.symm ne)] at n1; exact n1
  refine comp_inv (fun i acc h' => acc = intsD (ms.take i) ∧ h' = hset (hset h p0 (.lst (intsD ms))) p1 (.lst acc)) (intsD ms) (fun i acc h' hi ⟨e1, e2⟩ => ?_) (fun i x acc h' hx ⟨e1, e2⟩ K' N' hK' hN' => ?_) (fun acc h' ⟨e1, e2⟩ => ?_) 0 [] _ (Nat.zero_le _) ⟨by simp [intsD], rfl⟩
  · subst e2
    exact ⟨by rw [hset_ne ne, hset_same], hset_same⟩
  · have hi : i < ms.length := by
      have := (List.getElem?_eq_some_iff.mp hx).1
      rwa [intsD_len] at this
    rw [intsD_get hi] at hx
    cases hx
    simp only [wG, wE, wEs, wIfs, wipeE, List.foldr, List.set, List.getElem?_cons_zero, List.getElem?_cons_succ, bi, b1, biInt]
    refine hK' _ _ (by subst e2; exact hset_same) ?_ ⟨?_, ?_⟩
    · rw [e1, intsD_len, List.length_take, sizeLine_eq]; omega
    · rw [e1]; unfold intsD; rw [← List.map_singleton, ← List.map_append, List.take_succ, List.getElem?_eq_getElem hi]; rfl
    · subst e2; rw [hset_hset]
  · rw [intsD_len, List.take_length] at e1
    subst e1
    subst e2
    generalize hh1 : hset (hset h p0 (.lst (intsD ms))) p1 (.lst (intsD ms)) = h1
    have g1 : h1 p1 = some (.lst (intsD ms)) := by rw [← hh1]; exact hset_same
    have x1 : Ext h h1 := by rw [← hh1]; exact (Ext.new n0).trans (.new n1)
    refine hK _ _ ?_
    simp only [List.set]
    refine ss_cons (s_set (gE fun K hK => ?_))
    simp only [wE, wEs, opBin, opAdd, opMul, bi, b1, biLen, List.getElem?_cons_zero, List.getElem?_cons_succ, g1, intsD_len]
    refine ⟨.inl (by omega), hK _ _ ?_⟩
    simp only [List.set]
    refine ss_cons (s_for ?_)
    simp only [wI, wE, walkVal, List.getElem?_cons_zero, List.getElem?_cons_succ, g1]
    refine for_inv (fun i env h' => ∃ m x3, env = [some (.rol (intsD ns)), some (.ref p1), some (.int m), x3] ∧ h' = h1) (intsD ms) (fun i env h' hi ⟨m, x3, e1, e2⟩ => by rw [e2]; exact g1) (fun i x env h' hx ⟨m, x3, e1, e2⟩ G hG1 hG2 hG3 hG4 => ?hs) (fun env h' ⟨m, x3, e1, e2⟩ => ?hd) 0 _ _ (Nat.zero_le _) ⟨_, _, rfl, rfl⟩
    case hs =>
      have hi : i < ms.length := by
        have := (List.getElem?_eq_some_iff.mp hx).1
        rwa [intsD_len] at this
      rw [intsD_get hi] at hx
      cases hx
      subst e1
      simp only [wG, List.set]
      refine ss_cons (s_set (gE fun K hK => ?_))
      simp only [wE, wEs, opBin, opAdd, opMul, opMod, bi, b1, biInt, List.getElem?_cons_zero, List.getElem?_cons_succ]
      refine ⟨.inr (.inl (by omega)), by omega, hK _ _ ?_⟩
      show wSs P (callW P fs d) [] _ _ _
      exact ss_nil (hG1 _ _ ⟨_, _, rfl, e2⟩).1
    case hd =>
      subst e1
      subst e2
      show wSs P (callW P fs d) [.ret _] _ _ _
      refine ss_cons (s_ret (gE fun K hK => ?_))
      simp only [wE, wEs, List.getElem?_cons_zero, List.getElem?_cons_succ]
      refine ⟨by simp, fun p n => hK _ _ (hq _ p1 ms _ ⟨0, 0, m, hset_same, ?_, ?_, by omega⟩ (x1.trans (.new n)) ?_)⟩
      · rw [hset_ne (fun z => by rw [← z, g1] at n; cases n)]; exact g1
      · intro z; rw [← z, g1] at n; cases n
      · cases q : h p with
        | none => rfl
        | some o => rw [x1 _ _ q] at n; cases n
end MP
namespace MP
open PySem PySem.Spec PyProof.Rows L2 ClX
def F_law_same : Fn := ⟨["_law_found", "_law_due"], 4, [.ite (.cmp .Is (.var 1) (.cst .non)) [.ret (.cmp .Is (.var 0) (.cst .non))] [],
  .ite (.or (.isin (.var 1) [.ty .bl]) (.isin (.var 0) [.ty .bl])) [.ret (.and (.isin (.var 1) [.ty .bl]) (.and (.isin (.var 0) [.ty .bl]) (.cmp .Eq (.var 0) (.var 1))))] [],
  .ite (.isin (.var 1) [.ty .int, .ty .str]) [.ret (.and (.isin (.var 0) [.ty .int, .ty .str]) (.and (.cmp .Eq (.isin (.var 0) [.ty .int]) (.isin (.var 1) [.ty .int])) (.cmp .Eq (.var 0) (.var 1))))] [],
  .ite (.or (.cmp .NotEq (.isin (.var 1) [.ty .lst]) (.isin (.var 0) [.ty .lst])) (.cmp .NotEq (.isin (.var 1) [.ty .tup]) (.isin (.var 0) [.ty .tup]))) [.ret (.cst (.bl false))] [],
  .ret (.and (.cmp .Eq (.bi .len [(.var 0)]) (.bi .len [(.var 1)])) (.bi .all [(.comp (.call "_law_same" [(.var 2), (.var 3)]) [2, 3] (.tup [(.var 2), (.var 3)]) (.zip (.var 0) (.var 1)) [])]))]⟩
def F_law_row : Fn := ⟨["_law_hand_here", "_law_size"], 4, [.asg (.var 2) (.lst []),
  .for (.var 3) (.rng1 (.var 1)) [.expr (.meth (.var 2) "insert" .insert [(.call "_law_pick" [(.var 0), (.bin .Add (.var 3) (.cst (.int 1)))]), (.bin .Add (.var 3) (.cst (.int 1)))])],
  .ret (.bi .tuple [(.var 2)])]⟩
/-- what stood stands, but for what is at a -/
def Keep (a : Nat) (h h' : Hq) : Prop := ∀ b o, b ≠ a → h b = some o → h' b = some o
theorem Keep.refl (a : Nat) (h : Hq) : Keep a h h := fun _ _ _ e => e
theorem Keep.trans {a : Nat} {h h1 h2 : Hq} (p : Keep a h h1) (q : Keep a h1 h2) : Keep a h h2 := fun x o n e => q x o n (p x o n e)
theorem Ext.keep {a : Nat} {h h' : Hq} (p : Ext h h') : Keep a h h' := fun x o _ e => p x o e
theorem Keep.of {a : Nat} {h h' : Hq} (p : ∀ b, b ≠ a → h' b = h b) : Keep a h h' := fun b o n e => by rw [p b n]; exact e
theorem atI_mem {ds : List D} {i : Int} (h0 : 0 ≤ i) (h1 : i < ds.length) : ∃ x, L2.atI ds i = some x ∧ x ∈ ds := by
  unfold L2.atI
  rw [ixN_pos h0 h1]
  refine ⟨ds[i.toNat]'(by omega), ?_, List.getElem_mem _⟩
  show ds[i.toNat]? = _
  simp
theorem law_of {P : Cl} {fs : Fns} {d : Nat} {a c L : Nat} {cells : List Int} {ds : List D} {h : Hq} {Q : Kq} {X : Xq} (hf : fs "_law_of" = some F_law_of) (hp : fs "_law_pick" = some F_law_pick) (H : Hand h a c cells) (hL : h L = some (.lst ds)) (ne : L ≠ a) (h1 : 0 < ds.length) (h2 : ds.length < 1073741824)
    (hq : ∀ x h', x ∈ ds → Hand h' a c cells → (∀ b, b ≠ a → h' b = h b) → Q x h') : callW P fs (d + 1 + 1) "_law_of" [.ref a, .ref L] h Q X := by
  refine callW_of hf rfl ?_
  show wSs P (callW P fs (d + 1)) F_law_of.body [some (.ref a), some (.ref L)] h _
  refine ss_cons (s_ret (gE fun K hK => ?_))
  simp only [wE, wEs, bi, b1, biLen, List.getElem?_cons_zero, List.getElem?_cons_succ, hL]
  refine law_pick hp H (by omega) (by omega) fun k h' k0 k1 H' fr => ?_
  have hL' : h' L = some (.lst ds) := by rw [fr L ne]; exact hL
  obtain ⟨x, e, hx⟩ := atI_mem k0 k1
  simp only [opItem, hL', e]
  exact hK _ _ (hq x h' hx H' fr)
/-- 1, 2, .. n -/
def ups (n : Nat) : List Int := (List.range n).map fun (k : Nat) => (k : Int) + 1
theorem ups_succ (n : Nat) : ups (n + 1) = ups n ++ [(n : Int) + 1] := by unfold ups; rw [List.range_succ, List.map_append]; rfl
theorem ups_len (n : Nat) : (ups n).length = n := by unfold ups; simp
theorem ins_perm {row : List Int} {n i : Nat} (p : row.Perm (ups n)) : (row.take i ++ [(n : Int) + 1] ++ row.drop i).Perm (ups (n + 1)) := by
  rw [ups_succ]
  have h1 : (row.take i ++ [(n : Int) + 1] ++ row.drop i).Perm (row ++ [(n : Int) + 1]) := by
    rw [List.append_assoc]
    refine (List.Perm.append_left _ List.perm_append_comm).trans ?_
    rw [← List.append_assoc, List.take_append_drop]
  exact h1.trans (p.append_right _)
theorem law_row {P : Cl} {fs : Fns} {d : Nat} {a c : Nat} {cells : List Int} {n : Nat} {h : Hq} {Q : Kq} {X : Xq} (hf : fs "_law_row" = some F_law_row) (hp : fs "_law_pick" = some F_law_pick) (H : Hand h a c cells) (hn : n ≤ 10000)
    (hq : ∀ row h', row.Perm (ups n) → Hand h' a c cells → Keep a h h' → Q (.tup (intsD row)) h') : callW P fs (d + 1 + 1) "_law_row" [.ref a, .int n] h Q X := by
  refine callW_of hf rfl ?_
  have hc := callW_mono (P := P) (fs := fs) (d + 1)
  show wSs P (callW P fs (d + 1)) F_law_row.body [some (.ref a), some (.int n), none, none] h _
  refine ss_cons (s_set (gE fun K hK => ?_))
  simp only [wE, wEs, List.length]
  refine ⟨by omega, fun p np => hK _ _ ?_⟩
  have pa : p ≠ a := fun z => by
    obtain ⟨u, r, m, e1, _⟩ := H.ex
    rw [z, e1] at np; cases np
  have pc : c ≠ p := fun z => by
    obtain ⟨u, r, m, _, e2, _⟩ := H.ex
    rw [← z, e2] at np; cases np
  simp only [List.set]
  refine ss_cons (s_for ?_)
  simp only [wI, wE, List.getElem?_cons_zero, List.getElem?_cons_succ]
  refine ⟨by omega, ?_⟩
  refine for_inv (fun i env h' => ∃ row x3, env = [some (.ref a), some (.int n), some (.ref p), x3] ∧ h' p = some (.lst (intsD row)) ∧ row.Perm (ups i) ∧ Hand h' a c cells ∧ Keep a h h') (rangeD 0 ((n : Int) - 0).toNat) (fun i env h' hi _ => trivial) (fun i x env h' hx ⟨row, x3, e1, e2, pr, H', kp⟩ G hG1 hG2 hG3 hG4 => ?hs) (fun env h' ⟨row, x3, e1, e2, pr, H', kp⟩ => ?hd) 0 _ _ (Nat.zero_le _) ⟨[], _, rfl, hset_same, .refl _, ?h0, (Ext.new np).keep⟩
  case h0 =>
    obtain ⟨u, r, m, e1, e2, ne, hu⟩ := H
    exact ⟨u, r, m, (Ext.new np) _ _ e1, (Ext.new np) _ _ e2, ne, hu⟩
  case hs =>
    have hlen : (rangeD 0 ((n : Int) - 0).toNat).length = n := by unfold rangeD; simp
    have hi : i < n := by
      have := (List.getElem?_eq_some_iff.mp hx).1
      rwa [hlen] at this
    have ex : x = .int (i : Int) := by
      unfold rangeD at hx
      rw [List.getElem?_map, List.getElem?_range (by omega)] at hx
      simpa using hx.symm
    subst ex
    subst e1
    simp only [wG, List.set]
    refine ss_cons (s_expr (gE fun K hK => ?_))
    simp only [wE, wEs, mkOf, bmLst, Option.isSome, opBin, opAdd, List.getElem?_cons_zero, List.getElem?_cons_succ, e2, if_true]
    refine law_pick hp H' (by omega) (by omega) fun k h2 k0 k1 H2 fr => ?_
    have e3 : h2 p = some (.lst (intsD row)) := by rw [fr p pa]; exact e2
    have hrl : row.length = i := by rw [pr.length_eq, ups_len]
    simp only [mth, mthB, e3, mthLst, b2, atInt, intsD_len]
    refine ⟨k0, by omega, by rw [hrl, sizeLine_eq]; omega, hK _ _ ?_⟩
    show wSs P (callW P fs (d + 1)) [] _ _ _
    refine ss_nil (hG1 _ _ ⟨row.take k.toNat ++ [(i : Int) + 1] ++ row.drop k.toNat, _, rfl, ?_, ins_perm pr, ?_, ?_⟩).1
    · rw [hset_same]
      unfold intsD
      rw [List.map_append, List.map_append, List.map_take, List.map_drop]; rfl
    · obtain ⟨u, r, m, g1, g2, ne, hu⟩ := H2
      exact ⟨u, r, m, by rw [hset_ne (Ne.symm pa)]; exact g1, by rw [hset_ne pc]; exact g2, ne, hu⟩
    · intro b o nb e
      have bp : b ≠ p := fun z => by rw [z, np] at e; cases e
      rw [hset_ne bp, fr b nb]
      exact kp b o nb e
  case hd =>
    have hlen : (rangeD 0 ((n : Int) - 0).toNat).length = n := by unfold rangeD; simp
    rw [hlen] at pr
    subst e1
    show wSs P (callW P fs (d + 1)) [.ret _] _ _ _
    refine ss_cons (s_ret (gE fun K hK => ?_))
    simp only [wE, wEs, bi, b1, atSeq, seqOf, List.getElem?_cons_zero, List.getElem?_cons_succ, e2]
    exact hK _ _ (hq row h' pr H' kp)
end MP
namespace MP
open PySem PySem.Spec PyProof.Rows L2 ClX
mutual
/-- d is the datum x in h, its lists all written ones -/
def Pw (h : Hq) : PyData → D → Prop
  | .none, d => d = .non
  | .bool b, d => d = .bl b
  | .int i, d => d = .int i
  | .str s, d => d = .str s
  | .tuple es, d => ∃ ds, d = .tup ds ∧ Pws h es ds
  | .list es, d => ∃ a ds, d = .ref a ∧ h a = some (.lst ds) ∧ Pws h es ds
  | .dict _, _ => False
def Pws (h : Hq) : List PyData → List D → Prop
  | [], ds => ds = []
  | e :: es, ds => ∃ d r, ds = d :: r ∧ Pw h e d ∧ Pws h es r
end
mutual
theorem Pw.pd {h : Hq} : ∀ {x : PyData} {d : D}, Pw h x d → Pd h x d
  | .none, _, q => q
  | .bool _, _, q => q
  | .int _, _, q => q
  | .str _, _, q => q
  | .tuple _, _, ⟨ds, e, q⟩ => ⟨ds, e, Pws.pd q⟩
  | .list _, _, ⟨a, ds, e, g, q⟩ => .inl ⟨a, ds, e, g, Pws.pd q⟩
  | .dict _, _, q => q.elim
theorem Pws.pd {h : Hq} : ∀ {xs : List PyData} {ds : List D}, Pws h xs ds → Pds h xs ds
  | [], _, q => q
  | _ :: _, _, ⟨d, r, e, p, q⟩ => ⟨d, r, e, p.pd, Pws.pd q⟩
end
mutual
theorem Pw.ext {h h' : Hq} (k : Ext h h') : ∀ {x : PyData} {d : D}, Pw h x d → Pw h' x d
  | .none, _, q => q
  | .bool _, _, q => q
  | .int _, _, q => q
  | .str _, _, q => q
  | .tuple _, _, ⟨ds, e, q⟩ => ⟨ds, e, Pws.ext k q⟩
  | .list _, _, ⟨a, ds, e, g, q⟩ => ⟨a, ds, e, k _ _ g, Pws.ext k q⟩
  | .dict _, _, q => q.elim
theorem Pws.ext {h h' : Hq} (k : Ext h h') : ∀ {xs : List PyData} {ds : List D}, Pws h xs ds → Pws h' xs ds
  | [], _, q => q
  | _ :: _, _, ⟨d, r, e, p, q⟩ => ⟨d, r, e, p.ext k, Pws.ext k q⟩
end
theorem Pws.len {h : Hq} : ∀ {xs : List PyData} {ds : List D}, Pws h xs ds → ds.length = xs.length
  | [], _, q => by cases q; rfl
  | _ :: _, _, ⟨d, r, e, p, q⟩ => by subst e; simp [Pws.len q]
theorem Pws.get {h : Hq} : ∀ {xs : List PyData} {ds : List D} {i : Nat} {d : D}, Pws h xs ds → ds[i]? = some d → ∃ x, xs[i]? = some x ∧ Pw h x d
  | [], _, _, _, q, e => by cases q; simp at e
  | x :: _, _, 0, _, ⟨d, r, e, p, q⟩, e2 => by subst e; simp at e2; subst e2; exact ⟨x, rfl, p⟩
  | _ :: _, _, i + 1, _, ⟨d, r, e, p, q⟩, e2 => by subst e; simp at e2; simpa using Pws.get q e2
mutual
/-- how deep it nests -/
def dep : PyData → Nat
  | .tuple es => deps es + 1
  | .list es => deps es + 1
  | _ => 0
def deps : List PyData → Nat
  | [] => 0
  | e :: es => max (dep e) (deps es)
end
theorem deps_get : ∀ {xs : List PyData} {i : Nat} {x : PyData}, xs[i]? = some x → dep x ≤ deps xs
  | y :: ys, 0, x, h => by simp at h; subst h; unfold deps; omega
  | y :: ys, i + 1, x, h => by
    have := deps_get (xs := ys) (i := i) (x := x) (by simpa using h)
    unfold deps; omega
theorem asBls_rep' (n : Nat) : asBls (List.replicate n (.bl true)) = some (List.replicate n true) := by
  induction n with
  | zero => rfl
  | succ n ih => rw [List.replicate_succ]; show (asBls _).map _ = _; rw [ih]; rfl
theorem eqB {P : Cl} {c : Csem} {h : Hq} {Q : Kq} {X : Xq} {a b : Bool} (q : Q (.bl (a == b)) h) : opEq P c (.bl a) (.bl b) h Q X := by
  unfold opEq
  rw [if_neg (by simp [isIns])]
  refine ⟨.bool a, .bool b, rfl, rfl, rfl, rfl, ?_⟩
  have e : PyData.eqv (.bool a) (.bool b) = (a == b) := by cases a <;> cases b <;> rfl
  rw [if_neg Bool.false_ne_true, e]
  exact q
theorem neB {P : Cl} {c : Csem} {h : Hq} {Q : Kq} {X : Xq} {a b : Bool} (q : Q (.bl (!(a == b))) h) : opNe P c (.bl a) (.bl b) h Q X := by
  refine ⟨.bool a, .bool b, rfl, rfl, rfl, rfl, ?_⟩
  have e : PyData.eqv (.bool a) (.bool b) = (a == b) := by cases a <;> cases b <;> rfl
  rw [if_pos rfl, e]
  exact q
theorem eqI {P : Cl} {c : Csem} {h : Hq} {Q : Kq} {X : Xq} {a b : Int} (q : Q (.bl (decide (a = b))) h) : opEq P c (.int a) (.int b) h Q X := by
  unfold opEq
  rw [if_neg (by simp [isIns])]
  refine ⟨.int a, .int b, rfl, rfl, rfl, rfl, ?_⟩
  have e : PyData.eqv (.int a) (.int b) = decide (a = b) := by unfold PyData.eqv; rw [Bool.beq_eq_decide_eq]
  rw [if_neg Bool.false_ne_true, e]
  exact q
theorem eqS {P : Cl} {c : Csem} {h : Hq} {Q : Kq} {X : Xq} {a : Str} (hs : PyData.canLay0 (.str a) = true) (q : Q (.bl true) h) : opEq P c (.str a) (.str a) h Q X := by
  unfold opEq
  rw [if_neg (by simp [isIns])]
  have sh : SeqAt.shaped (.str a) = true := by unfold SeqAt.shaped; rw [hs]; rfl
  refine ⟨.str a, .str a, rfl, rfl, sh, sh, ?_⟩
  have e : PyData.eqv (.str a) (.str a) = true := by unfold PyData.eqv; simp
  rw [if_neg Bool.false_ne_true, e]
  exact q
mutual
/-- texts of code points, rows not too long -/
def okP : PyData → Bool
  | .str x => PyData.strOk x
  | .tuple es => decide (es.length < 1000000) && okPs es
  | .list es => decide (es.length < 1000000) && okPs es
  | .dict _ => false
  | _ => true
def okPs : List PyData → Bool
  | [] => true
  | e :: es => okP e && okPs es
end
theorem ok_get : ∀ {xs : List PyData} {i : Nat} {x : PyData}, okPs xs = true → xs[i]? = some x → okP x = true
  | y :: ys, 0, x, h, e => by
    simp at e; subst e
    unfold okPs at h
    exact (Bool.and_eq_true_iff.mp h).1
  | y :: ys, i + 1, x, h, e => by
    unfold okPs at h
    exact ok_get (Bool.and_eq_true_iff.mp h).2 (by simpa using e)
theorem lay_get : ∀ {xs : List PyData} {i : Nat} {x : PyData}, PyData.canLayAll0 xs = true → xs[i]? = some x → PyData.canLay0 x = true
  | y :: ys, 0, x, h, e => by
    simp at e; subst e
    unfold PyData.canLayAll0 at h
    exact (Bool.and_eq_true_iff.mp h).1
  | y :: ys, i + 1, x, h, e => by
    unfold PyData.canLayAll0 at h
    exact lay_get (Bool.and_eq_true_iff.mp h).2 (by simpa using e)
theorem same_leaf {P : Cl} {fs : Fns} (hf : fs "_law_same" = some F_law_same) {d : Nat} {x : PyData} {d1 d2 : D} {h : Hq} {Q : Kq} {X : Xq} (hd : dep x = 0) (hl : okP x = true) (p1 : Pw h x d1) (p2 : Pw h x d2) (hq : Q (.bl true) h) :
    callW P fs (d + 1) "_law_same" [d1, d2] h Q X := by
  refine callW_of hf rfl ?_
  have hc := callW_mono (P := P) (fs := fs) d
  show wSs P (callW P fs d) F_law_same.body [some d1, some d2, none, none] h _
  cases x with
  | none =>
    cases p1; cases p2
    refine ss_cons (s_ite (gT fun K hK => ?_) hc)
    simp only [wT, wE, opCmp, opIs, List.getElem?_cons_zero, List.getElem?_cons_succ]
    refine hK _ _ ⟨fun _ => ?_, fun e => by cases e⟩
    refine ss_cons (s_ret (gE fun K hK => ?_))
    simp only [wT, wE, opCmp, opIs, List.getElem?_cons_zero, List.getElem?_cons_succ]
    exact hK _ _ hq
  | bool b =>
    cases p1; cases p2
    refine ss_cons (s_ite (gT fun K hK => ?_) hc)
    simp only [wT, wE, opCmp, opIs, List.getElem?_cons_zero, List.getElem?_cons_succ]
    refine hK _ _ ⟨fun e => (by cases e), fun _ => ss_nil ?_⟩
    refine ss_cons (s_ite (gT fun K hK => ?_) hc)
    simp only [wT, wE, isinD, tyD, isAny, isAns, isB, reduceCtorEq, decide_true, decide_false, opTru, List.getElem?_cons_zero, List.getElem?_cons_succ]
    refine hK _ _ ⟨fun _ => ?_, fun e => by simp at e⟩
    refine ss_cons (s_ret (gE fun K hK => ?_))
    simp only [wT, wE, isinD, tyD, isAny, isAns, isB, reduceCtorEq, decide_true, decide_false, opCmp, List.getElem?_cons_zero, List.getElem?_cons_succ]
    refine eqB (hK _ _ ?_)
    rw [beq_self_eq_true]; exact hq
  | int b =>
    cases p1; cases p2
    refine ss_cons (s_ite (gT fun K hK => ?_) hc)
    simp only [wT, wE, opCmp, opIs, List.getElem?_cons_zero, List.getElem?_cons_succ]
    refine hK _ _ ⟨fun e => (by cases e), fun _ => ss_nil ?_⟩
    refine ss_cons (s_ite (gT fun K hK => ?_) hc)
    simp only [wT, wE, isinD, tyD, isAny, isAns, isB, reduceCtorEq, decide_true, decide_false, opTru, List.getElem?_cons_zero, List.getElem?_cons_succ]
    refine hK _ _ ⟨fun e => (by simp at e), fun _ => ss_nil ?_⟩
    refine ss_cons (s_ite (gT fun K hK => ?_) hc)
    simp only [wT, wE, isinD, tyD, isAny, isAns, isB, reduceCtorEq, decide_true, decide_false, opTru, List.getElem?_cons_zero, List.getElem?_cons_succ]
    refine hK _ _ ⟨fun _ => ?_, fun e => by simp at e⟩
    refine ss_cons (s_ret (gE fun K hK => ?_))
    simp only [wT, wE, isinD, tyD, isAny, isAns, isB, reduceCtorEq, decide_true, decide_false, opCmp, List.getElem?_cons_zero, List.getElem?_cons_succ]
    refine eqB ?_
    simp only [beq_self_eq_true]
    refine eqI (hK _ _ ?_)
    simp only [decide_true]; exact hq
  | str b =>
    cases p1; cases p2
    refine ss_cons (s_ite (gT fun K hK => ?_) hc)
    simp only [wT, wE, opCmp, opIs, List.getElem?_cons_zero, List.getElem?_cons_succ]
    refine hK _ _ ⟨fun e => (by cases e), fun _ => ss_nil ?_⟩
    refine ss_cons (s_ite (gT fun K hK => ?_) hc)
    simp only [wT, wE, isinD, tyD, isAny, isAns, isB, reduceCtorEq, decide_true, decide_false, opTru, List.getElem?_cons_zero, List.getElem?_cons_succ]
    refine hK _ _ ⟨fun e => (by simp at e), fun _ => ss_nil ?_⟩
    refine ss_cons (s_ite (gT fun K hK => ?_) hc)
    simp only [wT, wE, isinD, tyD, isAny, isAns, isB, reduceCtorEq, decide_true, decide_false, opTru, List.getElem?_cons_zero, List.getElem?_cons_succ]
    refine hK _ _ ⟨fun _ => ?_, fun e => by simp at e⟩
    refine ss_cons (s_ret (gE fun K hK => ?_))
    simp only [wT, wE, isinD, tyD, isAny, isAns, isB, reduceCtorEq, decide_true, decide_false, opCmp, List.getElem?_cons_zero, List.getElem?_cons_succ]
    refine eqB ?_
    simp only [beq_self_eq_true]
    exact eqS (by unfold PyData.canLay0; unfold okP at hl; exact hl) (hK _ _ hq)
  | tuple es => unfold dep at hd; omega
  | list es => unfold dep at hd; omega
  | dict es => exact p1.elim
/-- alike data are the same -/
theorem law_same {P : Cl} {fs : Fns} (hf : fs "_law_same" = some F_law_same) : ∀ (d : Nat) (x : PyData) (d1 d2 : D) (h : Hq) (Q : Kq) (X : Xq), dep x ≤ d → okP x = true → Pw h x d1 → Pw h x d2 → (∀ h', Ext h h' → Q (.bl true) h') →
    callW P fs (d + 1) "_law_same" [d1, d2] h Q X := by
  intro d
  induction d with
  | zero => exact fun x d1 d2 h Q X hd hl p1 p2 hq => same_leaf hf (by omega) hl p1 p2 (hq h (.refl h))
  | succ d ih =>
    intro x d1 d2 h Q X hd hl p1 p2 hq
    have hc := callW_mono (P := P) (fs := fs) (d + 1)
    -- behind the questions: two rows of the same data
    have fin : ∀ (es : List PyData) (ds1 ds2 : List D) (grd : Hq → Prop), (∀ h', Ext h h' → grd h') → deps es ≤ d → es.length < 1000000 → okPs es = true → Pws h es ds1 → Pws h es ds2 → seqOf d1 h = some ds1 → seqOf d2 h = some ds2 →
        (∀ R : Kit, R (zipD ds1 ds2) grd h → walkZip d1 d2 h R) → wSs P (callW P fs (d + 1)) [.ret (.and (.cmp .Eq (.bi .len [(.var 0)]) (.bi .len [(.var 1)])) (.bi .all [(.comp (.call "_law_same" [(.var 2), (.var 3)]) [2, 3] (.tup [(.var 2), (.var 3)]) (.zip (.var 0) (.var 1)) [])]))]
          [some d1, some d2, none, none] h ⟨fun _ h' => Q .non h', Q, fun _ _ => False, fun _ _ => False, fun _ x h' => X x h'⟩ := by
      intro es ds1 ds2 grd hgr hd hlen hl q1 q2 s1 s2 hz
      have l1 := q1.len
      have l2 := q2.len
      have lenOf : ∀ {z : MP.D} {ds : List MP.D} {K : Kq} {X : Xq}, seqOf z h = some ds → K (.int ds.length) h → biLen P (callW P fs (d + 1)) z h K X := fun {z ds K X} e k => by
        unfold seqOf at e
        unfold biLen
        split at e
        · cases e; exact k
        · split at e
          · cases e; rename_i e1; simp only [e1]; exact k
          · cases e
        · cases e; exact k
        · cases e
      refine ss_cons (s_ret (gE fun K hK => ?_))
      simp only [wE, wEs, opCmp, bi, b1, List.getElem?_cons_zero, List.getElem?_cons_succ]
      refine lenOf s1 (lenOf s2 (eqI ?_))
      rw [decide_eq_true (by omega)]
      simp only [wI, wE, List.getElem?_cons_zero, List.getElem?_cons_succ]
      refine hz _ ?_
      intro p np
      have zl : (zipD ds1 ds2).length = es.length := by unfold zipD; rw [List.length_zipWith]; omega
      refine comp_inv (fun i acc h' => acc = List.replicate i (.bl true) ∧ h' p = some (.lst acc) ∧ Ext h h') (zipD ds1 ds2) (fun i acc h' hi ⟨e1, e2, e3⟩ => ⟨hgr _ e3, e2⟩) (fun i x acc h' hx ⟨e1, e2, e3⟩ K' N' hK' hN' => ?hs) (fun acc h' ⟨e1, e2, e3⟩ => ?hd) 0 [] _ (Nat.zero_le _) ⟨rfl, hset_same, .new np⟩
      case hs =>
        obtain ⟨a, b, ea, eb, rfl⟩ := zip_get hx
        obtain ⟨x1, g1, w1⟩ := q1.get ea
        obtain ⟨x2, g2, w2⟩ := q2.get eb
        rw [g1] at g2; cases g2
        simp only [wG, wGs, wE, wEs, wIfs, wipeE, List.foldr, List.set, List.getElem?_cons_zero, List.getElem?_cons_succ, List.length]
        refine ⟨trivial, trivial, ?_⟩
        refine ih x1 a b h' _ _ (Nat.le_trans (deps_get g1) hd) (ok_get hl g1) (w1.ext e3) (w2.ext e3) fun h2 x2 => ?_
        have e4 := x2 _ _ e2
        refine hK' _ _ e4 ?_ ⟨?_, hset_same, ?_⟩
        · have hi : i < (zipD ds1 ds2).length := (List.getElem?_eq_some_iff.mp hx).1
          rw [e1, List.length_replicate, sizeLine_eq]; omega
        · rw [e1]; exact (List.replicate_succ').symm
        · intro b o eb
          have nb : b ≠ p := fun z => by rw [z, np] at eb; cases eb
          rw [hset_ne nb]
          exact x2 _ _ (e3 _ _ eb)
      case hd =>
        rw [zl] at e1
        simp only [atLst, lstOf, e2, e1, atBls, asBls_rep']
        refine hK _ _ ?_
        have : (List.replicate es.length true).all id = true := by simp
        rw [this]
        exact hq _ e3
    cases x with
    | none => exact same_leaf hf rfl hl p1 p2 (hq h (.refl h))
    | bool b => exact same_leaf hf rfl hl p1 p2 (hq h (.refl h))
    | int b => exact same_leaf hf rfl hl p1 p2 (hq h (.refl h))
    | str b => exact same_leaf hf rfl hl p1 p2 (hq h (.refl h))
    | dict b => exact p1.elim
    | tuple es =>
      obtain ⟨ds1, rfl, q1⟩ := p1
      obtain ⟨ds2, rfl, q2⟩ := p2
      unfold okP at hl
      rw [Bool.and_eq_true, decide_eq_true_eq] at hl
      unfold dep at hd
      refine callW_of hf rfl ?_
      show wSs P (callW P fs (d + 1)) F_law_same.body [some (.tup ds1), some (.tup ds2), none, none] h _
      refine ss_cons (s_ite (gT fun K hK => ?_) hc)
      simp only [wT, wE, opCmp, opIs, List.getElem?_cons_zero, List.getElem?_cons_succ]
      refine hK _ _ ⟨fun e => (by cases e), fun _ => ss_nil ?_⟩
      refine ss_cons (s_ite (gT fun K hK => ?_) hc)
      simp only [wT, wE, isinD, tyD, isAny, isAns, isB, reduceCtorEq, decide_true, decide_false, opTru, List.getElem?_cons_zero, List.getElem?_cons_succ]
      refine hK _ _ ⟨fun e => (by simp at e), fun _ => ss_nil ?_⟩
      refine ss_cons (s_ite (gT fun K hK => ?_) hc)
      simp only [wT, wE, isinD, tyD, isAny, isAns, isB, reduceCtorEq, decide_true, decide_false, opTru, List.getElem?_cons_zero, List.getElem?_cons_succ]
      refine hK _ _ ⟨fun e => (by simp at e), fun _ => ss_nil ?_⟩
      refine ss_cons (s_ite (gT fun K hK => ?_) hc)
      simp only [wT, wE, isinD, tyD, isAny, isAns, isB, reduceCtorEq, decide_true, decide_false, opTru, opCmp, List.getElem?_cons_zero, List.getElem?_cons_succ]
      refine neB ?_
      simp only [beq_self_eq_true, Bool.not_true]
      refine neB ?_
      simp only [beq_self_eq_true, Bool.not_true]
      refine hK _ _ ⟨fun e => (by simp at e), fun _ => ss_nil ?_⟩
      exact fin es ds1 ds2 (fun _ => True) (fun _ _ => trivial) (by omega) hl.1 hl.2 q1 q2 rfl rfl fun R r => r
    | list es =>
      obtain ⟨a1, ds1, rfl, g1, q1⟩ := p1
      obtain ⟨a2, ds2, rfl, g2, q2⟩ := p2
      unfold okP at hl
      rw [Bool.and_eq_true, decide_eq_true_eq] at hl
      unfold dep at hd
      refine callW_of hf rfl ?_
      show wSs P (callW P fs (d + 1)) F_law_same.body [some (.ref a1), some (.ref a2), none, none] h _
      refine ss_cons (s_ite (gT fun K hK => ?_) hc)
      simp only [wT, wE, opCmp, opIs, List.getElem?_cons_zero, List.getElem?_cons_succ]
      refine hK _ _ ⟨fun e => (by cases e), fun _ => ss_nil ?_⟩
      refine ss_cons (s_ite (gT fun K hK => ?_) hc)
      simp only [wT, wE, isinD, tyD, g1, g2, isAny, isAns, isB, reduceCtorEq, decide_true, decide_false, opTru, List.getElem?_cons_zero, List.getElem?_cons_succ]
      refine hK _ _ ⟨fun e => (by simp at e), fun _ => ss_nil ?_⟩
      refine ss_cons (s_ite (gT fun K hK => ?_) hc)
      simp only [wT, wE, isinD, tyD, g1, g2, isAny, isAns, isB, reduceCtorEq, decide_true, decide_false, opTru, List.getElem?_cons_zero, List.getElem?_cons_succ]
      refine hK _ _ ⟨fun e => (by simp at e), fun _ => ss_nil ?_⟩
      refine ss_cons (s_ite (gT fun K hK => ?_) hc)
      simp only [wT, wE, isinD, tyD, g1, g2, isAny, isAns, isB, reduceCtorEq, decide_true, decide_false, opTru, opCmp, List.getElem?_cons_zero, List.getElem?_cons_succ]
      refine neB ?_
      simp only [beq_self_eq_true, Bool.not_true, wE, isinD, tyD, g1, g2, isAny, isAns, isB, reduceCtorEq, decide_true, decide_false, List.getElem?_cons_zero, List.getElem?_cons_succ]
      refine neB ?_
      simp only [beq_self_eq_true, Bool.not_true]
      refine hK _ _ ⟨fun e => (by simp at e), fun _ => ss_nil ?_⟩
      exact fin es ds1 ds2 (fun h' => h' a1 = some (.lst ds1) ∧ h' a2 = some (.lst ds2)) (fun h' x => ⟨x _ _ g1, x _ _ g2⟩) (by omega) hl.1 hl.2 q1 q2 (by simp only [seqOf, g1]) (by simp only [seqOf, g2]) fun R r => by simp only [walkZip, g1, g2]; exact r
end MP
namespace MP
open PySem PySem.Spec PyProof.Rows L2 ClX
def Fis_arrangement : Fn := ⟨["values"], 1, [.ret (.and (.cmp .LtE (.bi .len [(.var 0)]) (.glob "MOST_POINTS")) (.cmp .Eq (.bi .sorted [(.var 0)]) (.rngB false (.cst (.int 1)) (.bin .Add (.bi .len [(.var 0)]) (.cst (.int 1))))))]⟩
def FOrder___init__ : Fn := ⟨["self", "entries"], 2, [.ite (.not (.call "is_arrangement" [(.var 1)])) [.nope] [],
  .asg (.attr (.var 0) "row") (.bi .tuple [(.var 1)]),
  .asg (.attr (.var 0) "rank") (.tup [(.bi .len [(.attr (.var 0) "row")]), (.attr (.var 0) "row")])]⟩
def FOrder___lt__ : Fn := ⟨["self", "other"], 2, [.ite (.not (.isin (.var 1) [.own "Order"])) [.ret (.glob "NotImplemented")] [],
  .ret (.cmp .Lt (.attr (.var 0) "rank") (.attr (.var 1) "rank"))]⟩
def FOrder___eq__ : Fn := ⟨["self", "other"], 2, [.ret (.and (.isin (.var 1) [.own "Order"]) (.cmp .Eq (.attr (.var 0) "rank") (.attr (.var 1) "rank")))]⟩
theorem up_sorted {n : Nat} : (ups n).Pairwise (· ≤ ·) := by
  unfold ups
  rw [List.pairwise_map]
  exact (List.pairwise_lt_range (n := n)).imp fun h => by omega
theorem sorted_eq {ms ns : List Int} (p : ms.Perm ns) (h1 : ms.Pairwise (· ≤ ·)) (h2 : ns.Pairwise (· ≤ ·)) : ms = ns := by
  exact p.eq_of_pairwise (fun a b _ _ h h' => Int.le_antisymm h h') h1 h2
theorem pw_ints (h : Hq) : ∀ ns : List Int, Pws h (ns.map PyData.int) (intsD ns)
  | [] => rfl
  | n :: ns => ⟨_, _, rfl, rfl, pw_ints h ns⟩
theorem lay_ints : ∀ ns : List Int, PyData.canLayAll0 (ns.map PyData.int) = true
  | [] => rfl
  | n :: ns => by show (PyData.canLay0 (.int n) && PyData.canLayAll0 (ns.map PyData.int)) = true; rw [lay_ints ns]; rfl
theorem eqv_ints : ∀ ns ms : List Int, PyData.eqvAll (ns.map PyData.int) (ms.map PyData.int) = decide (ns = ms)
  | [], [] => rfl
  | [], _ :: _ => rfl
  | _ :: _, [] => rfl
  | n :: ns, m :: ms => by
    show (PyData.eqv (.int n) (.int m) && PyData.eqvAll (ns.map PyData.int) (ms.map PyData.int)) = _
    rw [eqv_ints ns ms]
    have e : PyData.eqv (.int n) (.int m) = decide (n = m) := by unfold PyData.eqv; rw [Bool.beq_eq_decide_eq]
    rw [e]
    by_cases h1 : n = m
    · by_cases h2 : ns = ms
      · subst h1; subst h2; simp
      · simp [h1, h2]
    · simp [h1]
theorem depth_ints (ns : List Int) : PyData.depthAll (ns.map PyData.int) = 0 := W.depth_ints ns
theorem shaped_lst (ns : List Int) : SeqAt.shaped (.list (ns.map PyData.int)) = true := by
  unfold SeqAt.shaped PyData.canLay0 PyData.depth
  rw [lay_ints, depth_ints]; rfl
theorem shaped_tup (ns : List Int) : SeqAt.shaped (.tuple (ns.map PyData.int)) = true := by
  unfold SeqAt.shaped PyData.canLay0 PyData.depth
  rw [lay_ints, depth_ints]; rfl
/-- == of two lists of numbers -/
theorem eqL {P : Cl} {c : Csem} {h : Hq} {Q : Kq} {X : Xq} {a b : Nat} {ns ms : List Int} (ha : h a = some (.lst (intsD ns))) (hb : h b = some (.lst (intsD ms))) (q : Q (.bl (decide (ns = ms))) h) : opEq P c (.ref a) (.ref b) h Q X := by
  unfold opEq
  rw [if_neg (by simp [isIns, ha])]
  refine ⟨.list (ns.map .int), .list (ms.map .int), .inl ⟨a, _, rfl, ha, (pw_ints h ns).pd⟩, .inl ⟨b, _, rfl, hb, (pw_ints h ms).pd⟩, shaped_lst ns, shaped_lst ms, ?_⟩
  have e : PyData.eqv (.list (ns.map .int)) (.list (ms.map .int)) = decide (ns = ms) := by unfold PyData.eqv; exact eqv_ints ns ms
  rw [if_neg Bool.false_ne_true, e]
  exact q
theorem rangeD_ups (n : Nat) : rangeD 1 ((n : Int) + 1 - 1).toNat = intsD (ups n) := by
  unfold rangeD intsD ups
  rw [List.map_map]
  have : ((n : Int) + 1 - 1).toNat = n := by omega
  rw [this]
  refine List.map_congr_left fun k _ => ?_
  show D.int (1 + (k : Int)) = D.int ((k : Int) + 1)
  rw [Int.add_comm]
theorem len_of {P : Cl} {c : Csem} {z : D} {ds : List D} {h : Hq} {K : Kq} {X : Xq} (e : seqOf z h = some ds) (k : K (.int ds.length) h) : biLen P c z h K X := by
  unfold seqOf at e
  unfold biLen
  split at e
  · cases e; exact k
  · split at e
    · cases e; rename_i e1; simp only [e1]; exact k
    · cases e
  · cases e; exact k
  · cases e
theorem seqOf_ext {x : D} {ds : List D} {h h' : Hq} (k : Ext h h') (e : seqOf x h = some ds) : seqOf x h' = some ds := by
  unfold seqOf at e ⊢
  split at e
  · exact e
  · split at e
    · rename_i e1; simp only [k _ _ e1]; exact e
    · cases e
  · exact e
  · cases e
/-- rows that are orders -/
theorem is_arr {P : Cl} {fs : Fns} {d : Nat} {x : D} {row : List Int} {n : Nat} {h : Hq} {Q : Kq} {X : Xq} (hf : fs "is_arrangement" = some Fis_arrangement) (hg : P.glob "MOST_POINTS" = some (.int 40)) (hx : seqOf x h = some (intsD row)) (pr : row.Perm (ups n)) (hn : n ≤ 40)
    (hq : ∀ h', Ext h h' → Q (.bl true) h') : callW P fs (d + 1) "is_arrangement" [x] h Q X := by
  refine callW_of hf rfl ?_
  show wSs P (callW P fs d) Fis_arrangement.body [some x] h _
  have hl : row.length = n := by rw [pr.length_eq, ups_len]
  refine ss_cons (s_ret (gE fun K hK => ?_))
  simp only [wE, wEs, opCmp, bi, b1, hg, List.getElem?_cons_zero]
  refine len_of hx ?_
  rw [intsD_len, hl]
  simp only [opI]
  rw [decide_eq_true (by omega)]
  simp only [atSeq, hx, atInts, asInts_ints]
  intro ms mp msd p np
  have em : ms = ups n := sorted_eq (mp.trans pr) msd up_sorted
  subst em
  refine len_of (seqOf_ext (.new np) hx) ?_
  rw [intsD_len, hl]
  simp only [opBin, opAdd, atInt, rngD]
  refine ⟨by omega, ?_⟩
  rw [rangeD_ups]
  intro p2 np2
  have e1 : (hset (hset h p (.lst (intsD (ups n)))) p2 (.lst (intsD (ups n)))) p = some (.lst (intsD (ups n))) := Ext.new np2 _ _ hset_same
  refine eqL e1 hset_same (hK _ _ ?_)
  rw [decide_eq_true rfl]
  exact hq _ ((Ext.new np).trans (.new np2))
/-- an order, made -/
def ordF (row : List Int) : List (Str × D) := [("row", .tup (intsD row)), ("rank", .tup [.int row.length, .tup (intsD row)])]
theorem order_init {P : Cl} {fs : Fns} {d : Nat} {p : Nat} {x : D} {row : List Int} {n : Nat} {h : Hq} {Q : Kq} {X : Xq} (hf : fs "Order.__init__" = some FOrder___init__) (ha : fs "is_arrangement" = some Fis_arrangement) (hg : P.glob "MOST_POINTS" = some (.int 40))
    (f1 : P.fld "Order" "row" = true) (f2 : P.fld "Order" "rank" = true) (hp : h p = some (.ins "Order" [])) (hx : seqOf x h = some (intsD row)) (pr : row.Perm (ups n)) (hn : n ≤ 40)
    (hq : ∀ h', h' p = some (.ins "Order" (ordF row)) → Keep p h h' → Q .non h') : callW P fs (d + 1 + 1) "Order.__init__" [.ref p, x] h Q X := by
  refine callW_of hf rfl ?_
  have hc := callW_mono (P := P) (fs := fs) (d + 1)
  show wSs P (callW P fs (d + 1)) FOrder___init__.body [some (.ref p), some x] h _
  refine ss_cons (s_ite (gT fun K hK => ?_) hc)
  simp only [wT]
  simp only [wE, wEs, List.getElem?_cons_zero, List.getElem?_cons_succ]
  refine is_arr ha hg hx pr hn fun h1 x1 => ?_
  simp only [opTru]
  refine hK _ _ ⟨fun e => (by cases e), fun _ => ss_nil ?_⟩
  have g1 := x1 _ _ hp
  have hx1 := seqOf_ext x1 hx
  refine ss_cons (s_asg (gE fun K hK => ?_))
  simp only [wE, wEs, bi, b1, atSeq, hx1, List.getElem?_cons_zero, List.getElem?_cons_succ]
  refine hK _ _ ?_
  simp only [wG, wE, List.getElem?_cons_zero, List.getElem?_cons_succ, g1, f1, putF]
  refine ⟨by simp, trivial, ?_⟩
  refine ss_cons (s_asg (gE fun K hK => ?_))
  simp only [wE, wEs, bi, b1, opAttr, atFs, hset_same, f1, List.getElem?_cons_zero, List.getElem?_cons_succ, List.lookup_cons, beq_self_eq_true]
  simp only [biLen, hset_same, f1, atFs, List.lookup_cons, beq_self_eq_true, opAttr]
  refine ⟨by simp, hK _ _ ?_⟩
  simp only [wG, wE, List.getElem?_cons_zero, List.getElem?_cons_succ, hset_same, f2, hset_hset]
  refine ⟨by simp, trivial, ss_nil (hq _ ?_ fun b o nb e => ?_)⟩
  · rw [hset_same, intsD_len]; rfl
  · rw [hset_ne nb]; exact x1 _ _ e
/-- an order's rank, as data -/
def rankP (row : List Int) : PyData := .tuple [.int row.length, .tuple (row.map .int)]
theorem rank_pd (h : Hq) (row : List Int) : Pd h (rankP row) (.tup [.int row.length, .tup (intsD row)]) :=
  ⟨_, rfl, _, _, rfl, rfl, _, _, rfl, ⟨_, rfl, (pw_ints h row).pd⟩, rfl⟩
theorem rank_shaped (row : List Int) : SeqAt.shaped (rankP row) = true := by
  unfold SeqAt.shaped rankP
  have e1 : PyData.canLay0 (.tuple [.int row.length, .tuple (row.map PyData.int)]) = true := by
    show (PyData.canLay0 (.int (row.length : Int)) && (PyData.canLayAll0 (row.map PyData.int) && true)) = true
    rw [lay_ints]; rfl
  have e2 : PyData.depth (.tuple [.int row.length, .tuple (row.map PyData.int)]) = 2 := by
    show max 0 (max (PyData.depthAll (row.map PyData.int) + 1) 0) + 1 = 2
    rw [depth_ints]; rfl
  rw [e1, e2]; rfl
theorem rank_alike (r1 r2 : List Int) : W.alike (rankP r1) (rankP r2) = true := by
  unfold rankP
  show (W.alike (.int (r1.length : Int)) (.int (r2.length : Int)) && (W.alike (.tuple (r1.map PyData.int)) (.tuple (r2.map PyData.int)) && W.alikeAll [] [])) = true
  have : W.alike (.tuple (r1.map PyData.int)) (.tuple (r2.map PyData.int)) = true := by
    show W.alikeAll _ _ = true
    exact W.alike_ints r1 r2
  rw [this]; rfl
theorem rank_eqv (r1 r2 : List Int) : PyData.eqv (rankP r1) (rankP r2) = decide (r1 = r2) := by
  unfold rankP
  show (PyData.eqv (.int (r1.length : Int)) (.int (r2.length : Int)) && (PyData.eqv (.tuple (r1.map PyData.int)) (.tuple (r2.map PyData.int)) && true)) = _
  have e1 : PyData.eqv (.tuple (r1.map PyData.int)) (.tuple (r2.map PyData.int)) = decide (r1 = r2) := by unfold PyData.eqv; exact eqv_ints r1 r2
  have e2 : PyData.eqv (.int r1.length) (.int r2.length) = decide ((r1.length : Int) = r2.length) := by unfold PyData.eqv; rw [Bool.beq_eq_decide_eq]
  rw [e1, e2]
  by_cases h : r1 = r2
  · subst h; simp
  · simp [h]
theorem rank_lt {P : Cl} {c : Csem} {h : Hq} {Q : Kq} {X : Xq} {r1 r2 : List Int} (q : Q (.bl (W.dataLt (rankP r1) (rankP r2))) h) : opLt P c (.tup [.int r1.length, .tup (intsD r1)]) (.tup [.int r2.length, .tup (intsD r2)]) h Q X :=
  ⟨rankP r1, rankP r2, rank_pd h r1, rank_pd h r2, rank_shaped r1, rank_shaped r2, rank_alike r1 r2, q⟩
theorem rank_eq {P : Cl} {c : Csem} {h : Hq} {Q : Kq} {X : Xq} {r1 r2 : List Int} (q : Q (.bl (decide (r1 = r2))) h) : opEq P c (.tup [.int r1.length, .tup (intsD r1)]) (.tup [.int r2.length, .tup (intsD r2)]) h Q X := by
  unfold opEq
  rw [if_neg (by simp [isIns])]
  refine ⟨rankP r1, rankP r2, rank_pd h r1, rank_pd h r2, rank_shaped r1, rank_shaped r2, ?_⟩
  rw [if_neg Bool.false_ne_true, rank_eqv]
  exact q
theorem order_lt {P : Cl} {fs : Fns} {d : Nat} {p q : Nat} {r1 r2 : List Int} {h : Hq} {Q : Kq} {X : Xq} (hf : fs "Order.__lt__" = some FOrder___lt__) (f1 : P.fld "Order" "rank" = true) (fs1 : P.sub "Order" "Order" = some true)
    (hp : h p = some (.ins "Order" (ordF r1))) (hp2 : h q = some (.ins "Order" (ordF r2))) (hq : Q (.bl (W.dataLt (rankP r1) (rankP r2))) h) : callW P fs (d + 1) "Order.__lt__" [.ref p, .ref q] h Q X := by
  refine callW_of hf rfl ?_
  have hc := callW_mono (P := P) (fs := fs) d
  show wSs P (callW P fs d) FOrder___lt__.body [some (.ref p), some (.ref q)] h _
  refine ss_cons (s_ite (gT fun K hK => ?_) hc)
  simp only [wT, wE, isinD, tyD, hp2, isAny, isAns, fs1, opTru, List.getElem?_cons_zero, List.getElem?_cons_succ]
  refine hK _ _ ⟨fun e => (by cases e), fun _ => ss_nil ?_⟩
  refine ss_cons (s_ret (gE fun K hK => ?_))
  have l1 : ∀ r, (ordF r).lookup ("rank" : Str) = some (D.tup [.int r.length, .tup (intsD r)]) := fun r => rfl
  simp only [wE, opCmp, opAttr, atFs, hp, hp2, f1, l1, List.getElem?_cons_zero, List.getElem?_cons_succ]
  exact rank_lt (hK _ _ hq)
theorem order_eq {P : Cl} {fs : Fns} {d : Nat} {p q : Nat} {r1 r2 : List Int} {h : Hq} {Q : Kq} {X : Xq} (hf : fs "Order.__eq__" = some FOrder___eq__) (f1 : P.fld "Order" "rank" = true) (fs1 : P.sub "Order" "Order" = some true)
    (hp : h p = some (.ins "Order" (ordF r1))) (hp2 : h q = some (.ins "Order" (ordF r2))) (hq : Q (.bl (decide (r1 = r2))) h) : callW P fs (d + 1) "Order.__eq__" [.ref p, .ref q] h Q X := by
  refine callW_of hf rfl ?_
  show wSs P (callW P fs d) FOrder___eq__.body [some (.ref p), some (.ref q)] h _
  refine ss_cons (s_ret (gE fun K hK => ?_))
  have l1 : ∀ r, (ordF r).lookup ("rank" : Str) = some (D.tup [.int r.length, .tup (intsD r)]) := fun r => rfl
  simp only [wE, isinD, tyD, hp2, isAny, isAns, fs1, opCmp, opAttr, atFs, hp, f1, l1, List.getElem?_cons_zero, List.getElem?_cons_succ]
  exact rank_eq (hK _ _ hq)
end MP
namespace MP
open PySem PySem.Spec PyProof.Rows L2 ClX
def Flaw : Fn := ⟨["_law_script"], 9, [.asg (.var 1) (.call "_law_hand" [(.var 0)]),
  .for (.var 2) (.rng1 (.cst (.int 16))) [.asg (.var 3) (.call "_law_row" [(.var 1), (.call "_law_of" [(.var 1), (.lst [(.call "_law_pick" [(.var 1), (.cst (.int 9))]), (.cst (.int 40)), (.call "_law_pick" [(.var 1), (.cst (.int 41))])])])]),
  .asg (.var 4) (.ite (.cmp .Eq (.call "_law_pick" [(.var 1), (.cst (.int 2))]) (.cst (.int 0))) (.call "_law_row" [(.var 1), (.bi .len [(.var 3)])]) (.call "_law_row" [(.var 1), (.call "_law_pick" [(.var 1), (.cst (.int 41))])])),
  .ite (.and (.cmp .Gt (.bi .len [(.var 3)]) (.cst (.int 1))) (.cmp .Eq (.call "_law_pick" [(.var 1), (.cst (.int 3))]) (.cst (.int 0)))) [.asg (.var 6) (.call "_law_pick" [(.var 1), (.bin .Sub (.bi .len [(.var 3)]) (.cst (.int 1)))]),
  .asg (.var 4) (.bin .Add (.bin .Add (.slice (.var 3) none (some (.var 6))) (.tup [(.item (.var 3) (.bin .Add (.var 6) (.cst (.int 1)))), (.item (.var 3) (.var 6))])) (.slice (.var 3) (some (.bin .Add (.var 6) (.cst (.int 2)))) none))] [],
  .asg (.var 5) (.lst [(.cmp .Lt (.tup [(.bi .len [(.var 3)]), (.var 3)]) (.tup [(.bi .len [(.var 4)]), (.var 4)])), (.cmp .Lt (.tup [(.bi .len [(.var 4)]), (.var 4)]) (.tup [(.bi .len [(.var 3)]), (.var 3)])), (.cmp .Eq (.var 3) (.var 4))]),
  .par 7 8 (.make "Order" "Order.__init__" [(.var 3)]) (.make "Order" "Order.__init__" [(.bi .list [(.var 4)])]),
  .ite (.not (.call "_law_same" [(.lst [(.cmp .Lt (.var 7) (.var 8)), (.cmp .Lt (.var 8) (.var 7)), (.cmp .Eq (.var 7) (.var 8))]), (.var 5)])) [.ret (.cst (.bl false))] []],
  .ret (.cst (.bl true))]⟩
theorem cut_take {ds : List D} {k : Int} (h0 : 0 ≤ k) (h1 : k ≤ ds.length) : cut ds none (some k) = ds.take k.toNat := by
  obtain ⟨n, rfl⟩ : ∃ n : Nat, k = n := ⟨k.toNat, by omega⟩
  unfold cut
  rw [HT.sIx_none, HT.sIx_nat]
  have : min n ds.length - 0 = n := by omega
  rw [this]; rfl
theorem cut_drop {ds : List D} {k : Int} (h0 : 0 ≤ k) (h1 : k ≤ ds.length) : cut ds (some k) none = ds.drop k.toNat := by
  obtain ⟨n, rfl⟩ : ∃ n : Nat, k = n := ⟨k.toNat, by omega⟩
  unfold cut
  rw [HT.sIx_none, HT.sIx_nat]
  have : min n ds.length = n := by omega
  rw [this]
  rw [List.take_of_length_le (by rw [List.length_drop]; exact Nat.le_refl _)]
  rfl
theorem swap_perm {row : List Int} {i : Nat} (h : i + 1 < row.length) : (row.take i ++ [row[i + 1], row[i]'(by omega)] ++ row.drop (i + 2)).Perm row := by
  have e : row = row.take i ++ [row[i]'(by omega), row[i + 1]] ++ row.drop (i + 2) := by
    have h1 : row.drop i = row[i]'(by omega) :: row.drop (i + 1) := List.drop_eq_getElem_cons (by omega)
    have h2 : row.drop (i + 1) = row[i + 1] :: row.drop (i + 2) := List.drop_eq_getElem_cons h
    rw [List.append_assoc]
    show row = row.take i ++ (row[i]'(by omega) :: row[i + 1] :: row.drop (i + 2))
    rw [← h2, ← h1, List.take_append_drop]
  have p : (row.take i ++ [row[i + 1], row[i]'(by omega)] ++ row.drop (i + 2)).Perm (row.take i ++ [row[i]'(by omega), row[i + 1]] ++ row.drop (i + 2)) :=
    (List.Perm.append_left _ (List.Perm.swap _ _ _)).append_right _
  rw [← e] at p
  exact p
theorem atI_at {row : List Int} {i : Int} (h0 : 0 ≤ i) (h1 : i < row.length) : L2.atI (intsD row) i = some (.int (row[i.toNat]'(by omega))) := by
  unfold L2.atI
  rw [intsD_len, ixN_pos h0 h1]
  exact intsD_get (by omega)
theorem Hand.ext {h h' : Hq} {a c : Nat} {cells : List Int} (H : Hand h a c cells) (x : Ext h h') : Hand h' a c cells := by
  obtain ⟨u, r, m, e1, e2, ne, hu⟩ := H
  exact ⟨u, r, m, x _ _ e1, x _ _ e2, ne, hu⟩
theorem Hand.at {h : Hq} {a c : Nat} {cells : List Int} (H : Hand h a c cells) : ∃ o, h a = some o := by
  obtain ⟨u, r, m, e1, _⟩ := H
  exact ⟨_, e1⟩
section
variable {P : Cl} {fs : Fns} {d : Nat} {X : Xq}
structure Has (P : Cl) (fs : Fns) : Prop where
  hand : fs "_law_hand" = some F_law_hand
  pick : fs "_law_pick" = some F_law_pick
  of : fs "_law_of" = some F_law_of
  row : fs "_law_row" = some F_law_row
  same : fs "_law_same" = some F_law_same
  arr : fs "is_arrangement" = some Fis_arrangement
  init : fs "Order.__init__" = some FOrder___init__
  lt : fs "Order.__lt__" = some FOrder___lt__
  eq : fs "Order.__eq__" = some FOrder___eq__
  law : fs "law" = some Flaw
  most : P.glob "MOST_POINTS" = some (.int 40)
  f1 : P.fld "Order" "row" = true
  f2 : P.fld "Order" "rank" = true
  sub : P.sub "Order" "Order" = some true
  mlt : P.meth "Order" "__lt__" = some (("Order.__lt__" : Str), 0)
  meq : P.meth "Order" "__eq__" = some (("Order.__eq__" : Str), 0)
theorem eqT {c : Csem} {h : Hq} {Q : Kq} {r1 r2 : List Int} (q : Q (.bl (decide (r1 = r2))) h) : opEq P c (.tup (intsD r1)) (.tup (intsD r2)) h Q X := by
  unfold opEq
  rw [if_neg (by simp [isIns])]
  refine ⟨.tuple (r1.map .int), .tuple (r2.map .int), ⟨_, rfl, (pw_ints h r1).pd⟩, ⟨_, rfl, (pw_ints h r2).pd⟩, shaped_tup r1, shaped_tup r2, ?_⟩
  have e : PyData.eqv (.tuple (r1.map .int)) (.tuple (r2.map .int)) = decide (r1 = r2) := by unfold PyData.eqv; exact eqv_ints r1 r2
  rw [if_neg Bool.false_ne_true, e]
  exact q
theorem ltO (H : Has P fs) {p q : Nat} {r1 r2 : List Int} {h : Hq} {Q : Kq} (hp : h p = some (.ins "Order" (ordF r1))) (hp2 : h q = some (.ins "Order" (ordF r2))) (hq : Q (.bl (W.dataLt (rankP r1) (rankP r2))) h) : opLt P (callW P fs (d + 1)) (.ref p) (.ref q) h Q X := by
  simp only [opLt, hp, opOwn, H.mlt, cmpOk, hp2]
  exact ⟨.inl trivial, order_lt H.lt H.f2 H.sub hp hp2 hq⟩
theorem eqO (H : Has P fs) {p q : Nat} {r1 r2 : List Int} {h : Hq} {Q : Kq} (hp : h p = some (.ins "Order" (ordF r1))) (hp2 : h q = some (.ins "Order" (ordF r2))) (hq : Q (.bl (decide (r1 = r2))) h) : opEq P (callW P fs (d + 1)) (.ref p) (.ref q) h Q X := by
  unfold opEq
  rw [if_pos (by simp [isIns, hp])]
  simp only [hp, opOwn, H.meq, cmpOk, hp2]
  exact ⟨.inl trivial, order_eq H.eq H.f2 H.sub hp hp2 hq⟩
/-- the law's last part: two rows -/
def part3 : List S := match Flaw.body with
  | [_, .for _ _ b, _] => b.drop 3
  | _ => []
theorem k03_part3 (H : Has P fs) {a c : Nat} {cells : List Int} {one two : List Int} {n m : Nat} {h : Hq} {F : Fin} {s : Option D} {x2 x5 x6 x7 x8 : Option D} (hd : 6 ≤ d) (Hh : Hand h a c cells) (p1 : one.Perm (ups n)) (p2 : two.Perm (ups m)) (hn : n ≤ 40) (hm : m ≤ 40)
    (hq : ∀ x5 x7 x8 h', Hand h' a c cells → F.nx [s, some (.ref a), x2, some (.tup (intsD one)), some (.tup (intsD two)), x5, x6, x7, x8] h') :
    wSs P (callW P fs d) part3 [s, some (.ref a), x2, some (.tup (intsD one)), some (.tup (intsD two)), x5, x6, x7, x8] h F := by
  obtain ⟨d, rfl⟩ : ∃ e, d = e + 6 := ⟨d - 6, by omega⟩
  have hc := callW_mono (P := P) (fs := fs) (d + 6)
  simp only [part3, Flaw, List.drop]
  refine ss_cons (s_set (gE fun K hK => ?_))
  simp only [wE, wEs, opCmp, bi, b1, biLen, List.getElem?_cons_zero, List.getElem?_cons_succ]
  simp only [intsD_len]
  refine ⟨by simp, by simp, rank_lt ⟨by simp, by simp, rank_lt (eqT ⟨by simp, fun p5 n5 => hK _ _ ?_⟩)⟩⟩
  simp only [List.set]
  generalize hb1 : W.dataLt (rankP one) (rankP two) = t1
  generalize hb2 : W.dataLt (rankP two) (rankP one) = t2
  generalize hb3 : decide (one = two) = t3
  have e5 : Ext h (hset h p5 (.lst [.bl t1, .bl t2, .bl t3])) := .new n5
  generalize hh5 : hset h p5 (.lst [.bl t1, .bl t2, .bl t3]) = h5
  have g5 : h5 p5 = some (.lst [.bl t1, .bl t2, .bl t3]) := by rw [← hh5]; exact hset_same
  rw [hh5] at e5
  refine ss_cons (s_par (gE fun K hK => ?_))
  simp only [wE, wEs, List.getElem?_cons_zero, List.getElem?_cons_succ]
  intro p7 n7
  refine order_init H.init H.arr H.most H.f1 H.f2 hset_same (x := .tup (intsD one)) rfl p1 hn fun h7 g7 k7 => ⟨rfl, hK _ _ (gE fun K hK => ?_)⟩
  have e7 : Ext h5 h7 := fun b o e => k7 b o (fun z => by rw [z, n7] at e; cases e) (Ext.new n7 _ _ e)
  simp only [wE, wEs, bi, b1, atSeq, seqOf, List.getElem?_cons_zero, List.getElem?_cons_succ]
  intro p' n' p8 n8
  refine order_init H.init H.arr H.most H.f1 H.f2 hset_same (x := .ref p') (row := two) ?_ p2 hm fun h8 g8 k8 => ⟨rfl, hK _ _ ?_⟩
  · have : p' ≠ p8 := fun z => by rw [z, hset_same] at n8; cases n8
    simp only [seqOf]
    rw [hset_ne this, hset_same]
  have e8 : Ext h7 h8 := fun b o e => by
    have n1 : b ≠ p8 := fun z => by
      have := (Ext.new n' (o := O.lst (intsD two))) _ _ e
      rw [z, n8] at this; cases this
    exact k8 b o n1 (Ext.new n8 _ _ (Ext.new n' _ _ e))
  have g7' := e8 _ _ g7
  simp only [List.set]
  refine ss_cons (s_ite (gT fun K hK => ?_) hc)
  simp only [wT, wE, wEs, opCmp, List.getElem?_cons_zero, List.getElem?_cons_succ]
  refine ltO H g7' g8 (ltO H g8 g7' (eqO H g7' g8 ⟨by simp, fun p9 n9 => ?_⟩))
  rw [hb1, hb2, hb3]
  have e9 : Ext h8 (hset h8 p9 (.lst [.bl t1, .bl t2, .bl t3])) := .new n9
  refine law_same H.same (d + 5) (.list [.bool t1, .bool t2, .bool t3]) _ _ _ _ _ ?_ rfl ⟨p9, _, rfl, hset_same, _, _, rfl, rfl, _, _, rfl, rfl, _, _, rfl, rfl, rfl⟩ ⟨p5, _, rfl, e9 _ _ (e8 _ _ (e7 _ _ g5)), _, _, rfl, rfl, _, _, rfl, rfl, _, _, rfl, rfl, rfl⟩ fun hf ef => ?_
  · simp only [dep, deps]; omega
  simp only [opTru]
  refine hK _ _ ⟨fun e => (by cases e), fun _ => ?_⟩
  show wSs P (callW P fs (d + 6)) [] _ _ _
  refine ss_nil ?_
  show wSs P (callW P fs (d + 6)) [] _ _ _
  refine ss_nil ?_
  exact hq _ _ _ _ (Hh.ext ((((e5.trans e7).trans e8).trans e9).trans ef))
theorem k03_law (H : Has P fs) {ns : List Int} (hd : 6 ≤ d) (hl : ns.length ≤ 63) : callW P fs (d + 1) "law" [.rol (intsD ns)] (fun _ => none) (fun v _ => v = .bl true) (fun _ _ => False) := by
  refine callW_of H.law rfl ?_
  have hc := callW_mono (P := P) (fs := fs) d
  obtain ⟨e, rfl⟩ : ∃ e, d = e + 1 + 1 := ⟨d - 2, by omega⟩
  show wSs P (callW P fs (e + 1 + 1)) Flaw.body [some (.rol (intsD ns)), none, none, none, none, none, none, none, none] _ _
  refine ss_cons (s_set (gE fun K hK => ?_))
  simp only [wE, wEs, List.getElem?_cons_zero, List.getElem?_cons_succ]
  refine law_hand H.hand hl fun a c cells h0 Hh _ _ => hK _ _ ?_
  simp only [List.set]
  refine ss_cons (s_for ?_)
  simp only [wI, wE]
  refine ⟨by omega, ?_⟩
  refine for_inv (fun i env h' => ∃ x2 x3 x4 x5 x6 x7 x8, env = [some (.rol (intsD ns)), some (.ref a), x2, x3, x4, x5, x6, x7, x8] ∧ Hand h' a c cells) (rangeD 0 (16 - 0 : Int).toNat) (fun i env h' hi _ => trivial) (fun i x env h' hx ⟨x2, x3, x4, x5, x6, x7, x8, e1, Hh⟩ G hG1 hG2 hG3 hG4 => ?hs) (fun env h' ⟨x2, x3, x4, x5, x6, x7, x8, e1, Hh⟩ => ?hd) 0 _ _ (Nat.zero_le _) ⟨_, _, _, _, _, _, _, rfl, Hh⟩
  case hd =>
    subst e1
    show wSs P (callW P fs (e + 1 + 1)) [.ret _] _ _ _
    refine ss_cons (s_ret (gE fun K hK => ?_))
    simp only [wE]
    exact hK _ _ rfl
  case hs =>
    subst e1
    simp only [wG, List.set]
    refine ss_cons (s_set (gE fun K hK => ?_))
    simp only [wE, wEs, List.getElem?_cons_zero, List.getElem?_cons_succ]
    refine law_pick H.pick Hh (by omega) (by omega) fun k1 h1 l1 u1 H1 _ => ?_
    refine law_pick H.pick H1 (by omega) (by omega) fun k2 h2 l2 u2 H2 _ => ?_
    refine ⟨by simp, fun p np => ?_⟩
    have pa : p ≠ a := fun z => by
      obtain ⟨o, eo⟩ := H2.at
      rw [z, eo] at np; cases np
    refine law_of H.of H.pick (H2.ext (.new np)) hset_same pa (by simp) (by simp) fun x h3 hx H3 _ => ?_
    have hxn : ∃ n : Nat, x = .int n ∧ n ≤ 40 := by
      simp only [List.mem_cons, List.not_mem_nil, or_false] at hx
      rcases hx with z | z | z
      · exact ⟨k1.toNat, by rw [z, Int.toNat_of_nonneg l1], by omega⟩
      · exact ⟨40, z, Nat.le_refl _⟩
      · exact ⟨k2.toNat, by rw [z, Int.toNat_of_nonneg l2], by omega⟩
    obtain ⟨n, rfl, hn⟩ := hxn
    refine law_row H.row H.pick H3 (by omega) fun one h4 p1 H4 _ => hK _ _ ?_
    simp only [List.set]
    refine ss_cons (s_set (gE fun K hK => ?_))
    have hl1 : one.length = n := by rw [p1.length_eq, ups_len]
    have two : ∀ (two : List Int) (m : Nat) h5, two.Perm (ups m) → m ≤ 40 → Hand h5 a c cells → K (.tup (intsD two)) h5 := fun two m h5 p2 hm H5 => hK _ _ (by
      simp only [List.set]
      have last : ∀ (two : List Int) (m : Nat) (x6 : Option MP.D) h6, two.Perm (ups m) → m ≤ 40 → Hand h6 a c cells → wSs P (callW P fs (e + 1 + 1)) part3 [some (.rol (intsD ns)), some (.ref a), some x, some (.tup (intsD one)), some (.tup (intsD two)), x5, x6, x7, x8] h6 G :=
        fun two m x6 h6 p2 hm H6 => k03_part3 H hd H6 p1 p2 hn hm fun _ _ _ h' H' => (hG1 _ _ ⟨_, _, _, _, _, _, _, rfl, H'⟩).1
      refine ss_cons (s_ite (gT fun K hK => ?_) hc)
      simp only [wT, wE, wEs, opCmp, opI, bi, b1, biLen, intsD_len, hl1, List.getElem?_cons_zero, List.getElem?_cons_succ]
      by_cases h1 : (1 : Int) < n
      · rw [decide_eq_true h1]
        refine law_pick H.pick H5 (by omega) (by omega) fun k5 h6 l5 u5 H6 _ => eqI (hK _ _ ⟨fun _ => ?_, fun _ => ss_nil (last two m _ h6 p2 hm H6)⟩)
        refine ss_cons (s_set (gE fun K hK => ?_))
        simp only [wE, wEs, opBin, opSub, bi, b1, biLen, intsD_len, hl1, List.getElem?_cons_zero, List.getElem?_cons_succ]
        refine law_pick H.pick H6 (by omega) (by omega) fun k6 h7 l6 u6 H7 _ => hK _ _ ?_
        simp only [List.set]
        refine ss_cons (s_set (gE fun K hK => ?_))
        have c1 : cut (intsD one) none (some k6) = intsD (one.take k6.toNat) := by
          rw [cut_take l6 (by rw [intsD_len]; omega)]; unfold intsD; rw [List.map_take]
        have c2 : cut (intsD one) (some (k6 + 2)) none = intsD (one.drop (k6.toNat + 2)) := by
          have e9 : (k6 + 2).toNat = k6.toNat + 2 := by omega
          rw [cut_drop (by omega) (by rw [intsD_len]; omega), e9]; unfold intsD; rw [List.map_drop]
        have a1 := atI_at (row := one) (i := k6 + 1) (by omega) (by omega)
        have a2 := atI_at (row := one) (i := k6) l6 (by omega)
        simp only [wE, wEs, wO, opBin, opAdd, opSlice, opItem, c1, c2, a1, a2, List.getElem?_cons_zero, List.getElem?_cons_succ, intsD_len]
        have e8 : (k6 + 1).toNat = k6.toNat + 1 := by omega
        have sw : intsD (one.take k6.toNat) ++ [.int (one[(k6 + 1).toNat]'(by omega)), .int (one[k6.toNat]'(by omega))] ++ intsD (one.drop (k6.toNat + 2)) = intsD (one.take k6.toNat ++ [one[k6.toNat + 1]'(by omega), one[k6.toNat]'(by omega)] ++ one.drop (k6.toNat + 2)) := by
          unfold intsD
          simp [e8]
        refine ⟨by simp, ?_, ?_, hK _ _ ?_⟩
        · rw [List.length_take, sizeLine_eq]; simp; omega
        · rw [List.length_append, intsD_len, List.length_take, List.length_drop, sizeLine_eq]; simp; omega
        · simp only [List.set]
          rw [sw]
          show wSs P (callW P fs (e + 1 + 1)) [] _ _ _
          exact ss_nil (last _ n _ h7 ((swap_perm (row := one) (i := k6.toNat) (by omega)).trans p1) hn H7)
      · rw [decide_eq_false h1]
        exact hK _ _ ⟨fun z => (by cases z), fun _ => ss_nil (last two m _ h5 p2 hm H5)⟩)
    simp only [wE, wT, wEs, opCmp, List.getElem?_cons_zero, List.getElem?_cons_succ]
    refine law_pick H.pick H4 (by omega) (by omega) fun k3 h5 l3 u3 H5 _ => eqI ?_
    by_cases hk : k3 = 0
    · rw [decide_eq_true hk]
      simp only [bi, b1, biLen, intsD_len, hl1]
      exact law_row H.row H.pick H5 (by omega) fun row h6 p6 H6 _ => two row n h6 p6 hn H6
    · rw [decide_eq_false hk]
      refine law_pick H.pick H5 (by omega) (by omega) fun k4 h6 l4 u4 H6 _ => ?_
      obtain ⟨m, rfl⟩ : ∃ m : Nat, k4 = m := ⟨k4.toNat, by omega⟩
      exact law_row H.row H.pick H6 (by omega) fun row h7 p7 H7 _ => two row m h7 p7 (by omega) H7
end
end MP
namespace MP
open PySem PySem.Spec PyProof.Rows L2 ClX HT
def top (i : Nat) : Stmt := PySem.Challenge.pw_pinrungs_k03_orders_compared.main.body.getD i (.Pass ⟨0, 0, 0, 0⟩)
def p_law : PD := { key := "law", dd := ⟨("law", none), "law", "law", defArgs (top 21), defBody (top 21), defScope (top 21), [], []⟩, N := ["_law_script", "_law_hand_here", "_law_step", "_law_one", "_law_two", "_law_due", "_law_at", "_law_first", "_law_second"], ps := ["_law_script"] }
def p__law_hand : PD := { key := "_law_hand", dd := ⟨("_law_hand", none), "_law_hand", "_law_hand", defArgs (top 16), defBody (top 16), defScope (top 16), [], []⟩, N := ["_law_script", "_law_cells", "_law_mark", "_law_cell"], ps := ["_law_script"] }
def p__law_pick : PD := { key := "_law_pick", dd := ⟨("_law_pick", none), "_law_pick", "_law_pick", defArgs (top 17), defBody (top 17), defScope (top 17), [], []⟩, N := ["_law_hand_here", "_law_many", "_law_drawn", "_law_cell", "_law_one", "_law_two"], ps := ["_law_hand_here", "_law_many"] }
def p__law_of : PD := { key := "_law_of", dd := ⟨("_law_of", none), "_law_of", "_law_of", defArgs (top 18), defBody (top 18), defScope (top 18), [], []⟩, N := ["_law_hand_here", "_law_items"], ps := ["_law_hand_here", "_law_items"] }
def p__law_same : PD := { key := "_law_same", dd := ⟨("_law_same", none), "_law_same", "_law_same", defArgs (top 19), defBody (top 19), defScope (top 19), [], []⟩, N := ["_law_found", "_law_due", "_law_one", "_law_two"], ps := ["_law_found", "_law_due"] }
def p__law_row : PD := { key := "_law_row", dd := ⟨("_law_row", none), "_law_row", "_law_row", defArgs (top 20), defBody (top 20), defScope (top 20), [], []⟩, N := ["_law_hand_here", "_law_size", "_law_row_here", "_law_k"], ps := ["_law_hand_here", "_law_size"] }
def p_is_arrangement : PD := { key := "is_arrangement", dd := ⟨("is_arrangement", none), "is_arrangement", "is_arrangement", defArgs (top 12), defBody (top 12), defScope (top 12), [], []⟩, N := ["values"], ps := ["values"] }
def p_Order___init__ : PD := { key := "Order.__init__", dd := ⟨("Order", some "__init__"), "__init__", "Order.__init__", defArgs (inClass (top 13) 1), defBody (inClass (top 13) 1), defScope (inClass (top 13) 1), [], []⟩, N := ["self", "entries"], ps := ["self", "entries"] }
def p_Order___lt__ : PD := { key := "Order.__lt__", dd := ⟨("Order", some "__lt__"), "__lt__", "Order.__lt__", defArgs (inClass (top 13) 9), defBody (inClass (top 13) 9), defScope (inClass (top 13) 9), [], []⟩, N := ["self", "other"], ps := ["self", "other"] }
def p_Order___eq__ : PD := { key := "Order.__eq__", dd := ⟨("Order", some "__eq__"), "__eq__", "Order.__eq__", defArgs (inClass (top 13) 8), defBody (inClass (top 13) 8), defScope (inClass (top 13) 8), [], []⟩, N := ["self", "other"], ps := ["self", "other"] }
def pds : List PD := [p_law, p__law_hand, p__law_pick, p__law_of, p__law_same, p__law_row, p_is_arrangement, p_Order___init__, p_Order___lt__, p_Order___eq__]
def tab : Tab where
  meths := [(("Order", "__lt__"), ("Order.__lt__", 0)), (("Order", "__eq__"), ("Order.__eq__", 0))]
  flds := [("Order", "row"), ("Order", "rank")]
  subs := [(("Order", "Order"), true)]
  globs := [("Order", .glo "Order"), ("MOST_POINTS", .int 40)]
  makes := [("Order", "Order.__init__")]
  frees := ["len", "int", "str", "all", "sorted", "list", "tuple", "range", "isinstance", "zip", "bool"]
def lo0 : List Str := ["_wall", "OrderError", "InvalidOrder", "TooLong", "fits_next", "seat_after", "seat_of", "row_text", "MOST_POINTS", "is_arrangement", "Order", "order_within", "_law_hand", "_law_pick", "_law_of", "_law_same", "_law_row"]
def loose : List Str := lo0
abbrev R : PySem.W.OpenRow := PySem.W.OpenLaw.row PySem.Challenge.rw_pinrungs_k03_orders_compared
abbrev hk : PySem.W.Hook := hookM 5 (pds.map PD.dd) (tabB tab pds)
def ob (s : PySem.W.SharedT) : He.AlD := obsMG 5 (pds.map PD.dd) (tabB tab pds) (HandSHeadRun.getT s)
theorem ob_eq (s : PySem.W.SharedT) : ob s = hk.obs s.abs := obsMG_eq (HandSHeadRun.getT_eq s)
theorem run (w : World) : HandSHeadRun.RunEq R (PySem.W.view R.prog [21]) hk ob 40000 (loose) w := by
  intro os
  kernel_rfl
def D0 : Nat := 12
theorem has : Has tab.cl (fsOf (tab.wc pds) pds) where
  hand := by kernel_rfl
  pick := by kernel_rfl
  of := by kernel_rfl
  row := by kernel_rfl
  same := by kernel_rfl
  arr := by kernel_rfl
  init := by kernel_rfl
  lt := by kernel_rfl
  eq := by kernel_rfl
  law := by kernel_rfl
  most := by kernel_rfl
  f1 := by kernel_rfl
  f2 := by kernel_rfl
  sub := by kernel_rfl
  mlt := by kernel_rfl
  meq := by kernel_rfl
theorem law_run (ns : List Int) (h : ns.length ≤ 63) : callW tab.cl (fsOf (tab.wc pds) pds) D0 "law" [.rol (intsD ns)] (fun _ => none) (fun v _ => v = .bl true) (fun _ _ => False) :=
  k03_law (d := 11) has (by omega) h
end MP
open PySem PySem.W PySem.Calls PyProof.Rows
theorem PySem.Challenge.cw_pinrungs_k03_orders_compared_holds : PySem.Challenge.rw_pinrungs_k03_orders_compared.Holds := by
  w_on; o_law
  refine HandSHeadRun.head_any (r := OpenLaw.row PySem.Challenge.rw_pinrungs_k03_orders_compared) (q := view (OpenLaw.row PySem.Challenge.rw_pinrungs_k03_orders_compared).prog [21]) (H := MP.hk) (ob := MP.ob) (M := 40000) (loose := MP.loose) (d := HandSHeadRun.topDef (OpenLaw.row PySem.Challenge.rw_pinrungs_k03_orders_compared).prog 21) (kwd := []) MP.ob_eq
    (by kernel_rfl) (fun s => by kernel_rfl) MP.run (by kernel_rfl) (by kernel_rfl) (by kernel_rfl) (by rfl) (by first | assumption | decide +kernel) (by decide +kernel) ⟨rfl, rfl, rfl, rfl, rfl, by decide +kernel⟩ ?hw ?hc
  case hw => w_witness2
  case hc =>
    exact MP.law_end (l := PySem.Challenge.rw_pinrungs_k03_orders_compared) (n := 63) (D := MP.D0) (t := MP.tab) (pds := MP.pds) (lp := MP.p_law) rfl (by decide) (by kernel_rfl) ⟨rfl, by decide, by decide⟩ (by decide +kernel) (by decide +kernel) (by kernel_rfl) rfl rfl (by kernel_rfl) MP.law_run
