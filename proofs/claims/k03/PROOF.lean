import PyProof.Rows.All
import PySem.Challenge.RW_thoughsomelie_k03_tables_and_inner_rules
import Wide.All
import OpenK.AllK
import Wide.FinOn
import HandS.ForMost
import HandS.Wide
import HandS.TupAny
import HandS.HeadHook1
import HandS.HeadHook2
import HandS.Dict
import HandS.Deep
import HandS.Style
import HandS.TupMul
import HandS.Flow
import HandS.ForExc
import HandS.Iter
import HandS.Comp
import HandS.Zip
import HandS.Conv
import HandS.SortInts
import HandS.SortOrd
import HandS.SortRule
import HandS.TupLe
import HandS.TupSets
import KE.KSortTupAny
import HandS.IsInst
import OpenK.KMore
import PyProof.P3In
import HandS.ListItems
import KE.KDictZip
import KE.KItemsList
import PyProof.EnumMake
import HandS.Text
import KE.KDictPairs
import HandS.SetFor
import HandS.CallLocal
import HandS.WrittenGet
import PyProof.DelItemList
import PyProof.EnumIter
import PyProof.CollectWalk
import PyProof.TupleCall
import PyProof.FactsAll.list_3
import HandS.HeadEnd
import HandS.Defaults
import HandS.Head0
import HandS.Head1
import HandS.Head2
import HandS.HeadHook3
import HandS.Head4
set_option Elab.async false
set_option linter.all false
set_option maxRecDepth 100000
/-! TL1: plain values, plain stores, and what each construct does with them. -/
namespace TL
open PySem L2

/-- a value: what never changes stands in it whole -/
inductive Val where
  | non | bl (b : Bool) | int (i : Int) | str (x : Str)
  | tup (xs : List Val) | lst (xs : List Val) | scr (ns : List Int) | set (xs : List Val)
  | ins (c : Str) (ns : List Str) (vs : List Val)
  | ref (a : Addr) | ty (n : String) | fn (f : Str)
  deriving Inhabited

/-- what may change -/
inductive Cell where
  | lst (xs : List Val)
  | dict (kvs : List (Key × Val))
  | ins (c : Str) (ns : List Str) (vs : List Val)

abbrev Sto := Addr → Option Cell
def Sto.put (S : Sto) (a : Addr) (c : Cell) : Sto := fun b => if b = a then some c else S b
def Sto.del (S : Sto) (a : Addr) : Sto := fun b => if b = a then none else S b
/-- S' without what S has not -/
def Sto.within (S' S : Sto) : Sto := fun a => match S a with
  | some _ => S' a
  | none => none
def noSto : Sto := fun _ => none

abbrev ISt := List (Option Val)
/-- an exception: its class, its attributes -/
structure Exc where
  cls : Str
  ns : List Str
  vs : List Val
abbrev VQ := Val → Sto → Prop
abbrev EQ := Exc → Sto → Prop
abbrev IE := ISt → Sto → VQ → EQ → Prop
abbrev IA := ISt → Sto → (List Val → Sto → Prop) → EQ → Prop
abbrev IT := ISt → Sto → (Bool → Sto → Prop) → EQ → Prop
structure IEnds where
  nx : ISt → Sto → Prop
  rt : VQ
  ex : ISt → Exc → Sto → Prop
  bk : ISt → Sto → Prop
  ct : ISt → Sto → Prop
abbrev IS := IEnds → ISt → Sto → Prop
/-- what is known of the defs -/
abbrev Calls := Str → List Val → Sto → VQ → EQ → Prop

def small (n : Nat) : Prop := n ≤ 16777216

/-! ### names, constants -/
@[reducible] def getS : ISt → Nat → (Val → Prop) → Prop
  | [], _, _ => False
  | o :: _, 0, K => match o with
    | some v => K v
    | none => False
  | _ :: r, n + 1, K => getS r n K
@[reducible] def setS : ISt → Nat → Val → ISt
  | _ :: r, 0, v => some v :: r
  | o :: r, n + 1, v => o :: setS r n v
  | [], _, _ => []
@[reducible] def wipe1 : ISt → Nat → ISt
  | _ :: r, 0 => none :: r
  | o :: r, n + 1 => o :: wipe1 r n
  | [], _ => []
@[reducible] def wipeI (ρ : ISt) : List Nat → ISt
  | [] => ρ
  | i :: is => wipe1 (wipeI ρ is) i
@[reducible] def varI (i : Nat) : IE := fun ρ S Q _ => getS ρ i fun v => Q v S
@[reducible] def conI (v : Val) : IE := fun _ S Q _ => Q v S
@[reducible] def noI : IE := fun _ _ _ _ => False

/-! ### operators -/
abbrev P1 := Val → Sto → VQ → Prop
abbrev P2 := Val → Val → Sto → VQ → Prop
abbrev PL := List Val → Sto → VQ → Prop
@[reducible] def un1 (r : P1) (a : IE) : IE := fun ρ S Q E => a ρ S (fun x S1 => r x S1 Q) E
@[reducible] def bin2 (r : P2) (a b : IE) : IE := fun ρ S Q E => a ρ S (fun x S1 => b ρ S1 (fun y S2 => r x y S2 Q) E) E

/-- the items of a list -/
@[reducible] def lstOf (S : Sto) : Val → Option (List Val)
  | .lst xs => some xs
  | .ref a => match S a with
    | some (.lst xs) => some xs
    | _ => none
  | _ => none
/-- .. the script's, too -/
@[reducible] def lsqOf (S : Sto) : Val → Option (List Val)
  | .scr ns => some (ns.map Val.int)
  | v => lstOf S v
@[reducible] def seqOf (S : Sto) : Val → Option (List Val)
  | .tup xs => some xs
  | v => lsqOf S v
@[reducible] def someP {α : Type} : Option α → (α → Prop) → Prop
  | some x, K => K x
  | none, _ => False

/-- a new list: a value of its own, or one that may change -/
@[reducible] def newL (c : Bool) (xs : List Val) (S : Sto) (Q : VQ) : Prop := match c with
  | false => Q (.lst xs) S
  | true => ∀ a, S a = none → Q (.ref a) (S.put a (.lst xs))
@[reducible] def addP (c : Bool) : P2 := fun x y S Q => match x, y with
  | .int i, .int j => Q (.int (i + j)) S
  | .str i, .str j => i.length + j.length ≤ sizeLine ∧ Q (.str (i ++ j)) S
  | .tup xs, .tup ys => xs.length + ys.length ≤ sizeLine ∧ Q (.tup (xs ++ ys)) S
  | x, y => someP (lstOf S x) fun xs => someP (lstOf S y) fun ys => xs.length + ys.length ≤ sizeLine ∧ newL c (xs ++ ys) S Q
@[reducible] def subP : P2 := fun x y S Q => match x, y with
  | .int i, .int j => Q (.int (i - j)) S
  | _, _ => False
@[reducible] def mulP (c : Bool) : P2 := fun x y S Q => match x, y with
  | .int i, .int j => CMulW i j ∧ Q (.int (i * j)) S
  | .tup xs, .int k => xs ≠ [] ∧ 2 ≤ k ∧ k ≤ 1000000 ∧ xs.length * k.toNat ≤ 1000000 ∧ Q (.tup (List.replicate k.toNat xs).flatten) S
  | x, .int k => someP (lstOf S x) fun xs => -(2 ^ 63) ≤ k ∧ k < 2 ^ 63 ∧ xs.length * k.toNat ≤ sizeLine ∧ newL c (List.replicate k.toNat xs).flatten S Q
  | _, _ => False
@[reducible] def fdivP : P2 := fun x y S Q => match x, y with
  | .int i, .int j => CDivW i j ∧ Q (.int (i / j)) S
  | _, _ => False
@[reducible] def modP : P2 := fun x y S Q => match x, y with
  | .int i, .int j => 0 < j ∧ Q (.int (i % j)) S
  | _, _ => False
@[reducible] def powP : P2 := fun x y S Q => match x, y with
  | .int i, .int j => CPow i j ∧ Q (.int (i ^ j.toNat)) S
  | _, _ => False
@[reducible] def negP : P1 := fun x S Q => match x with
  | .int i => Q (.int (-i)) S
  | _ => False

/-! ### equality, order, membership -/
mutual
def toD : Val → Option PyData
  | .non => some .none
  | .bl b => some (.bool b)
  | .int i => some (.int i)
  | .str x => some (.str x)
  | .tup xs => (toDs xs).map .tuple
  | .lst xs => (toDs xs).map .list
  | _ => none
def toDs : List Val → Option (List PyData)
  | [] => some []
  | x :: r => match toD x, toDs r with
    | some d, some ds => some (d :: ds)
    | _, _ => none
end
/-- as data, where it is such and not too deep -/
def datOf (S : Sto) (v : Val) : Option PyData := match v with
  | .ref a => match S a with
    | some (.lst xs) => match toD (.lst xs) with
      | some d => if SeqAt.shaped d then some d else none
      | none => none
    | _ => none
  | v => match toD v with
    | some d => if SeqAt.shaped d then some d else none
    | none => none
/-- two of the kinds that hold no others -/
def scalEq : Val → Val → Option Bool
  | .int i, .int j => some (decide (i = j))
  | .str i, .str j => some (decide (i = j))
  | .bl i, .bl j => some (decide (i = j))
  | .non, .non => some true
  | .non, .int _ => some false
  | .int _, .non => some false
  | .non, .bl _ => some false
  | .bl _, .non => some false
  | .non, .str _ => some false
  | .str _, .non => some false
  | .int _, .str _ => some false
  | .str _, .int _ => some false
  | .bl _, .str _ => some false
  | .str _, .bl _ => some false
  | _, _ => none
def eqOf (S : Sto) (x y : Val) : Option Bool := match scalEq x y with
  | some b => some b
  | none => match datOf S x, datOf S y with
    | some d, some e => some (PyData.eqv d e)
    | _, _ => none
def eqP0 : P2 := fun x y S Q => someP (eqOf S x y) fun b => Q (.bl b) S
structure eqP (x y : Val) (S : Sto) (Q : VQ) : Prop where
  h : eqP0 x y S Q
def neP0 : P2 := fun x y S Q => someP (eqOf S x y) fun b => Q (.bl (!b)) S
structure neP (x y : Val) (S : Sto) (Q : VQ) : Prop where
  h : neP0 x y S Q
@[reducible] def cmpP (p : Int → Int → Bool) : P2 := fun x y S Q => match x, y with
  | .int i, .int j => Q (.bl (p i j)) S
  | _, _ => False
@[reducible] def ltP : P2 := cmpP fun i j => decide (i < j)
@[reducible] def leP : P2 := cmpP fun i j => decide (i ≤ j)
@[reducible] def gtP : P2 := cmpP fun i j => decide (j < i)
@[reducible] def geP : P2 := cmpP fun i j => decide (j ≤ i)
@[reducible] def isNon : Val → Bool
  | .non => true
  | _ => false
@[reducible] def isNP : P1 := fun x S Q => Q (.bl (isNon x)) S
@[reducible] def notNP : P1 := fun x S Q => Q (.bl (!isNon x)) S

/-! ### tests -/
@[reducible] def truOf (S : Sto) : Val → Option Bool
  | .non => some false
  | .bl b => some b
  | .int i => some (i != 0)
  | .str x => if x.length ≤ sizeLine then some ((x.length : Int) != 0) else none
  | .lst xs => some (!xs.isEmpty)
  | .tup xs => some (!xs.isEmpty)
  | .ref a => match S a with
    | some (.lst xs) => some (!xs.isEmpty)
    | _ => none
  | _ => none
@[reducible] def tst (a : IE) : IT := fun ρ S Q E => a ρ S (fun x S1 => someP (truOf S1 x) fun k => Q k S1) E
@[reducible] def tstB (a : IE) : IT := fun ρ S Q E => a ρ S (fun x S1 => match x with
  | .bl k => Q k S1
  | _ => False) E
@[reducible] def notT (t : IT) : IT := fun ρ S Q E => t ρ S (fun k S1 => match k with
  | true => Q false S1
  | false => Q true S1) E
@[reducible] def andT (t u : IT) : IT := fun ρ S Q E => t ρ S (fun k S1 => match k with
  | true => u ρ S1 Q E
  | false => Q false S1) E
@[reducible] def orT (t u : IT) : IT := fun ρ S Q E => t ρ S (fun k S1 => match k with
  | true => Q true S1
  | false => u ρ S1 Q E) E
@[reducible] def ifE (t : IT) (a b : IE) : IE := fun ρ S Q E => t ρ S (fun k S1 => match k with
  | true => a ρ S1 Q E
  | false => b ρ S1 Q E) E
/-- and, or as values, by truth; not of a bool -/
@[reducible] def andV (a b : IE) : IE := fun ρ S Q E => a ρ S (fun x S1 => someP (truOf S1 x) fun k => match k with
  | true => b ρ S1 Q E
  | false => Q x S1) E
@[reducible] def orV (a b : IE) : IE := fun ρ S Q E => a ρ S (fun x S1 => someP (truOf S1 x) fun k => match k with
  | true => Q x S1
  | false => b ρ S1 Q E) E
@[reducible] def notP : P1 := fun x S Q => match x with
  | .bl true => Q (.bl false) S
  | .bl false => Q (.bl true) S
  | _ => False

/-! ### rows of expressions, displays, calls -/
@[reducible] def nilA : IA := fun _ S Q _ => Q [] S
@[reducible] def consA (a : IE) (r : IA) : IA := fun ρ S Q E => a ρ S (fun x S1 => r ρ S1 (fun xs S2 => Q (x :: xs) S2) E) E
@[reducible] def tupI (as : IA) : IE := fun ρ S Q E => as ρ S (fun xs S1 => xs.length ≤ sizeLine ∧ Q (.tup xs) S1) E
@[reducible] def lstI (c : Bool) (as : IA) : IE := fun ρ S Q E => as ρ S (fun xs S1 => xs.length ≤ sizeLine ∧ newL c xs S1 Q) E
@[reducible] def callP (r : PL) (as : IA) : IE := fun ρ S Q E => as ρ S (fun xs S1 => r xs S1 Q) E
@[reducible] def callF (Γ : Calls) (f : Str) (as : IA) : IE := fun ρ S Q E => as ρ S (fun xs S1 => Γ f xs S1 Q E) E
/-- o.m(..) of a built-in kind -/
@[reducible] def methP (r : Val → PL) (o : IE) (as : IA) : IE := fun ρ S Q E => o ρ S (fun x S1 => as ρ S1 (fun xs S2 => r x xs S2 Q) E) E

/-! ### built-ins -/
@[reducible] def lenP : PL := fun vs S Q => match vs with
  | [.str x] => x.length ≤ sizeLine ∧ Q (.int x.length) S
  | [.set xs] => Q (.int xs.length) S
  | [v] => someP (seqOf S v) fun xs => Q (.int xs.length) S
  | _ => False
@[reducible] def absP : PL := fun vs S Q => match vs with
  | [.int i] => Q (.int (if i < 0 then -i else i)) S
  | _ => False
@[reducible] def intP : PL := fun vs S Q => match vs with
  | [.int i] => Q (.int i) S
  | [.bl k] => Q (.int (if k then 1 else 0)) S
  | _ => False
@[reducible] def listP (c : Bool) : PL := fun vs S Q => match vs with
  | [v] => someP (seqOf S v) fun xs => newL c xs S Q
  | _ => False
@[reducible] def tupleP : PL := fun vs S Q => match vs with
  | [.set xs] => Q (.set xs) S
  | [v] => someP (seqOf S v) fun xs => Q (.tup xs) S
  | _ => False
def intsOf : List Val → Option (List Int)
  | [] => some []
  | .int i :: r => (intsOf r).map (i :: ·)
  | _ => none
def maxP : PL := fun vs S Q => match vs with
  | [.int i, .int j] => Q (.int (if j > i then j else i)) S
  | [v] => someP (seqOf S v) fun xs => someP (intsOf xs) fun ns => 0 < ns.length ∧ ∀ m, m ∈ ns → (∀ y, y ∈ ns → y ≤ m) → Q (.int m) S
  | _ => False
def minP : PL := fun vs S Q => match vs with
  | [.int i, .int j] => Q (.int (if j < i then j else i)) S
  | [v] => someP (lsqOf S v) fun xs => someP (intsOf xs) fun ns => 0 < ns.length ∧ ∀ m, m ∈ ns → (∀ y, y ∈ ns → m ≤ y) → Q (.int m) S
  | _ => False
def sumP : PL := fun vs S Q => match vs with
  | [v] => someP (lsqOf S v) fun xs => someP (intsOf xs) fun ns => Q (.int ns.sum) S
  | _ => False

/-- sorted of ints -/
def sortedP (c : Bool) : PL := fun vs S Q => match vs with
  | [v] => someP (lsqOf S v) fun xs => someP (intsOf xs) fun ns => ∀ ms : List Int, ms.Perm ns → ms.Pairwise (· ≤ ·) → newL c (ms.map Val.int) S Q
  | _ => False

/-! ### dicts -/
def keyV : Val → Option Key
  | .int i => some (.inl i)
  | .str x => some (.inr x)
  | _ => none
def dGet (kvs : List (Key × Val)) (k : Key) : Option Val := (kvs.find? fun kv => decide (kv.1 = k)).map (·.2)
def dPut (kvs : List (Key × Val)) (k : Key) (v : Val) : List (Key × Val) :=
  if (kvs.any fun kv => decide (kv.1 = k)) = true then kvs.map (fun kv => if kv.1 = k then (kv.1, v) else kv) else kvs ++ [(k, v)]
/-! ### places, slices -/
def ixP0 : P2 := fun x y S Q => match x, y with
  | .str z, .int i => z.length ≤ sizeLine ∧ someP (atI z.cps.toList i) fun c => Q (.str ⟨#[c]⟩) S
  | .ref a, y => (match S a with
    | some (.lst xs) => (match y with
      | .int i => someP (atI xs i) fun v => Q v S
      | _ => False)
    | some (.dict kvs) => someP (keyV y) fun k => someP (dGet kvs k) fun v => Q v S
    | _ => False)
  | x, .int i => someP (seqOf S x) fun xs => someP (atI xs i) fun v => Q v S
  | _, _ => False
structure ixP (x y : Val) (S : Sto) (Q : VQ) : Prop where
  h : ixP0 x y S Q
abbrev IO := ISt → Sto → (Option Int → Sto → Prop) → EQ → Prop
@[reducible] def noPart : IO := fun _ S Q _ => Q none S
@[reducible] def partI (a : IE) : IO := fun ρ S Q E => a ρ S (fun x S1 => match x with
  | .int i => Q (some i) S1
  | _ => False) E
def cutL {α : Type} (xs : List α) (lo hi : Option Int) : List α := (xs.drop (HT.sIx xs.length 0 lo)).take (HT.sIx xs.length xs.length hi - HT.sIx xs.length 0 lo)
def cutP (c : Bool) (x : Val) (lo hi : Option Int) (S : Sto) (Q : VQ) : Prop := match x with
  | .tup xs => Q (.tup (cutL xs lo hi)) S
  | x => someP (lsqOf S x) fun xs => newL c (cutL xs lo hi) S Q
@[reducible] def sliceI (c : Bool) (e : IE) (lo hi : IO) : IE := fun ρ S Q E => e ρ S (fun x S1 => lo ρ S1 (fun l S2 => hi ρ S2 (fun h S3 => cutP c x l h S3 Q) E) E) E

/-! ### what is walked -/
def walkStr (x : Str) : List Val := x.cps.toList.map fun c => Val.str ⟨#[c]⟩
/-- the items, and the list that must stay -/
abbrev II := ISt → Sto → (Option Addr → List Val → Sto → Prop) → EQ → Prop
@[reducible] def guardOk (g : Option Addr) (all : List Val) (S : Sto) : Prop := match g with
  | none => True
  | some a => S a = some (.lst all)
@[reducible] def walkI (a : IE) : II := fun ρ S Q E => a ρ S (fun x S1 => match x with
  | .tup xs => Q none xs S1
  | .set xs => Q none xs S1
  | .lst xs => Q none xs S1
  | .scr ns => Q none (ns.map Val.int) S1
  | .str x => Q none (walkStr x) S1
  | .ref a => match S1 a with
    | some (.lst xs) => Q (some a) xs S1
    | _ => False
  | _ => False) E
def range62 (i : Int) : Prop := -(2 ^ 62) ≤ i ∧ i < 2 ^ 62
def upTo (lo : Int) (n : Nat) : List Val := (List.range n).map fun (i : Nat) => Val.int (lo + (i : Int))
@[reducible] def rng1I (a : IE) : II := fun ρ S Q E => a ρ S (fun x S1 => match x with
  | .int j => range62 j ∧ Q none (upTo 0 j.toNat) S1
  | _ => False) E
@[reducible] def rng2I (a b : IE) : II := fun ρ S Q E => a ρ S (fun x S1 => b ρ S1 (fun y S2 => match x, y with
  | .int i, .int j => range62 i ∧ range62 j ∧ Q none (upTo i (j - i).toNat) S2
  | _, _ => False) E) E
/-- enumerate of a list, zip of two lists or two tuples -/
def enumFrom (n : Nat) : List Val → List Val
  | [] => []
  | x :: xs => .tup [.int n, x] :: enumFrom (n + 1) xs
def isCell : Val → Option Addr
  | .ref a => some a
  | _ => none
def zipV : List Val → List Val → List Val
  | x :: xs, y :: ys => .tup [x, y] :: zipV xs ys
  | _, _ => []
/-- (of values that do not change alone) -/
@[reducible] def enumI (a : IE) : II := fun ρ S Q E => a ρ S (fun x S1 => match x with
  | .lst xs => Q none (enumFrom 0 xs) S1
  | _ => False) E
@[reducible] def zipI (a b : IE) : II := fun ρ S Q E => a ρ S (fun x S1 => b ρ S1 (fun y S2 => match x, y with
  | .lst xs, .lst ys => Q none (zipV xs ys) S2
  | .tup xs, .tup ys => Q none (zipV xs ys) S2
  | _, _ => False) E) E

/-- where an item goes: a name, some names -/
inductive Tg where
  | nm (i : Nat) | tp (is : List Nat)
@[reducible] def setAll : ISt → List Nat → List Val → Option ISt
  | ρ, [], [] => some ρ
  | ρ, i :: is, v :: vs => setAll (setS ρ i v) is vs
  | _, _, _ => none
@[reducible] def tgI : Tg → Val → ISt → Option ISt
  | .nm i, v, ρ => some (setS ρ i v)
  | .tp is, .tup xs, ρ => setAll ρ is xs
  | _, _, _ => none

/-! ### comprehensions -/
/-- nothing is raised -/
def noX : EQ := fun _ _ => False
@[reducible] def yesT : IT := fun _ S Q _ => Q true S
def lcGo (g : Option Addr) (all : List Val) (t : Tg) (tt : IT) (te : IE) (ρ : ISt) : List Val → List Val → Sto → (List Val → Sto → Prop) → Prop
  | [], acc, S, Q => guardOk g all S ∧ Q acc S
  | x :: r, acc, S, Q => guardOk g all S ∧ someP (tgI t x ρ) fun ρ1 => tt ρ1 S (fun k S2 => match k with
    | true => te ρ1 S2 (fun y S3 => acc.length < sizeLine ∧ lcGo g all t tt te ρ r (acc ++ [y]) S3 Q) noX
    | false => lcGo g all t tt te ρ r acc S2 Q) noX
def lc2Go (g : Option Addr) (all : List Val) (t : Tg) (tt : IT) (it1 : II) (t1 : Tg) (tt1 : IT) (te : IE) (vs1 : List Nat) (ρ : ISt) : List Val → List Val → Sto → (List Val → Sto → Prop) → Prop
  | [], acc, S, Q => guardOk g all S ∧ Q acc S
  | x :: r, acc, S, Q => guardOk g all S ∧ someP (tgI t x ρ) fun ρ1 => tt ρ1 S (fun k S2 => match k with
    | true => it1 ρ1 S2 (fun g1 ys S3 => lcGo g1 ys t1 tt1 te (wipeI ρ1 vs1) ys acc S3 fun acc' S4 => lc2Go g all t tt it1 t1 tt1 te vs1 ρ r acc' S4 Q) noX
    | false => lc2Go g all t tt it1 t1 tt1 te vs1 ρ r acc S2 Q) noX
@[reducible] def lc2I (c : Bool) (it : II) (t : Tg) (tt : IT) (it1 : II) (t1 : Tg) (tt1 : IT) (te : IE) (own vs1 : List Nat) : IE := fun ρ S Q E => it ρ S (fun g xs S1 => lc2Go g xs t tt it1 t1 tt1 te vs1 (wipeI ρ own) xs [] S1 (fun ys S2 => newL c ys S2 Q)) E
@[reducible] def lcI (c : Bool) (it : II) (t : Tg) (tt : IT) (te : IE) (own : List Nat) : IE := fun ρ S Q E => it ρ S (fun g xs S1 => lcGo g xs t tt te (wipeI ρ own) xs [] S1 (fun ys S2 => newL c ys S2 Q)) E

/-! ### statements -/
@[reducible] def nextI : IS := fun D ρ S => D.nx ρ S
@[reducible] def seqI (a b : IS) : IS := fun D ρ S => a { D with nx := b D } ρ S
@[reducible] def breakI : IS := fun D ρ S => D.bk ρ S
@[reducible] def contI : IS := fun D ρ S => D.ct ρ S
@[reducible] def neverI : IS := fun _ _ _ => False
@[reducible] def dropI (e : IE) : IS := fun D ρ S => e ρ S (fun _ S1 => D.nx ρ S1) (D.ex ρ)
/-- a list that may change becomes a value -/
@[reducible] def frz (f : Bool) (v : Val) (S : Sto) (Q : VQ) : Prop := match f with
  | false => Q v S
  | true => match v with
    | .ref a => match S a with
      | some (.lst xs) => Q (.lst xs) (S.del a)
      | _ => Q v S
    | v => Q v S
@[reducible] def retI (f : Bool) (e : IE) : IS := fun D ρ S => e ρ S (fun v S1 => frz f v S1 D.rt) (D.ex ρ)
@[reducible] def retN : IS := fun D _ S => D.rt .non S
@[reducible] def ifI (t : IT) (a b : IS) : IS := fun D ρ S => t ρ S (fun k S1 => match k with
  | true => a D ρ S1
  | false => b D ρ S1) (D.ex ρ)
@[reducible] def setI (t : Tg) (e : IE) : IS := fun D ρ S => e ρ S (fun v S1 => someP (tgI t v ρ) fun ρ1 => D.nx ρ1 S1) (D.ex ρ)
/-- a, b = x, y without a tuple -/
@[reducible] def parI (is : List Nat) (as : IA) : IS := fun D ρ S => as ρ S (fun vs S1 => someP (setAll ρ is vs) fun ρ1 => D.nx ρ1 S1) (D.ex ρ)
@[reducible] def augI (i : Nat) (r : P2) (e : IE) : IS := fun D ρ S => getS ρ i fun x => e ρ S (fun y S1 => r x y S1 fun z S2 => D.nx (setS ρ i z) S2) (D.ex ρ)
@[reducible] def whileI (t : IT) (b : IS) : IS := fun D ρ S => ∃ W : Nat → ISt → Sto → Prop, (∃ m, W m ρ S) ∧ ∀ m ρ S, W m ρ S →
  t ρ S (fun k S1 => match k with
    | true => b { D with nx := fun ρ' S' => ∃ m', m' < m ∧ W m' ρ' S', ct := fun ρ' S' => ∃ m', m' < m ∧ W m' ρ' S', bk := D.nx } ρ S1
    | false => D.nx ρ S1) (D.ex ρ)
def forGo (g : Option Addr) (all : List Val) (t : Tg) (b : IS) (D : IEnds) : List Val → ISt → Sto → Prop
  | [], ρ, S => guardOk g all S ∧ D.nx ρ S
  | x :: r, ρ, S => guardOk g all S ∧ someP (tgI t x ρ) fun ρ1 => b { D with nx := forGo g all t b D r, ct := forGo g all t b D r, bk := D.nx } ρ1 S
@[reducible] def forI (it : II) (t : Tg) (b : IS) : IS := fun D ρ S => it ρ S (fun g xs S1 => forGo g xs t b D xs ρ S1) (D.ex ρ)

/-! ### lists that change -/
def putI (o : Val) (S : Sto) (K : Addr → List Val → Prop) : Prop := match o with
  | .ref a => match S a with
    | some (.lst xs) => K a xs
    | _ => False
  | _ => False
def appendP0 : Val → PL := fun o vs S Q => putI o S fun a xs => match vs with
  | [v] => xs.length < sizeLine ∧ Q .non (S.put a (.lst (xs ++ [v])))
  | _ => False
structure appendP (o : Val) (vs : List Val) (S : Sto) (Q : VQ) : Prop where
  h : appendP0 o vs S Q
def extendP0 : Val → PL := fun o vs S Q => putI o S fun a xs => match vs with
  | [v] => someP (lstOf S v) fun ys => xs.length + ys.length ≤ sizeLine ∧ Q .non (S.put a (.lst (xs ++ ys)))
  | _ => False
structure extendP (o : Val) (vs : List Val) (S : Sto) (Q : VQ) : Prop where
  h : extendP0 o vs S Q
def popP0 : Val → PL := fun o vs S Q => putI o S fun a xs => match vs with
  | [] => someP xs[xs.length - 1]? fun y => Q y (S.put a (.lst xs.dropLast))
  | [.int i] => -(2 ^ 63) ≤ i ∧ i < 2 ^ 63 ∧ someP (seqIndex? i xs.length) fun k => someP xs[k]? fun y => Q y (S.put a (.lst (xs.eraseIdx k)))
  | _ => False
structure popP (o : Val) (vs : List Val) (S : Sto) (Q : VQ) : Prop where
  h : popP0 o vs S Q
/-- o[i] = v -/
def setIx0 (o i v : Val) (S : Sto) (K : Sto → Prop) : Prop := match o with
  | .ref a => (match S a with
    | some (.lst xs) => (match i with
      | .int k => someP (ixN xs.length k) fun j => K (S.put a (.lst (xs.set j v)))
      | _ => False)
    | some (.dict kvs) => someP (keyV i) fun k => kvs.length < sizeLine ∧ K (S.put a (.dict (dPut kvs k v)))
    | _ => False)
  | _ => False
structure setIx (o i v : Val) (S : Sto) (K : Sto → Prop) : Prop where
  h : setIx0 o i v S K
@[reducible] def storeI (o i e : IE) : IS := fun D ρ S => e ρ S (fun v S1 => o ρ S1 (fun x S2 => i ρ S2 (fun y S3 => setIx x y v S3 fun S4 => D.nx ρ S4) (D.ex ρ)) (D.ex ρ)) (D.ex ρ)

/-! ### instances -/
def fldOf : List Str → List Val → Str → Option Val
  | n :: ns, v :: vs, f => if n = f then some v else fldOf ns vs f
  | _, _, _ => none
/-- o.f -/
def fldP0 (F : Str → Str → Bool) (f : Str) : P1 := fun x S Q => match x with
  | .ins c ns vs => F c f = true ∧ someP (fldOf ns vs f) fun v => Q v S
  | .ref a => match S a with
    | some (.ins c ns vs) => F c f = true ∧ someP (fldOf ns vs f) fun v => Q v S
    | _ => False
  | _ => False
structure fldP (F : Str → Str → Bool) (f : Str) (x : Val) (S : Sto) (Q : VQ) : Prop where
  h : fldP0 F f x S Q
def putFld : List Str → List Val → Str → Val → List Str × List Val
  | n :: ns, v :: vs, f, w => if n = f then (n :: ns, w :: vs) else match putFld ns vs f w with
    | (ms, us) => (n :: ms, v :: us)
  | _, _, f, w => ([f], [w])
def setFP0 (F : Str → Str → Bool) (f : Str) (x v : Val) (S : Sto) (K : Sto → Prop) : Prop := match x with
  | .ref a => match S a with
    | some (.ins c ns vs) => F c f = true ∧ ns.length < 1000 ∧ K (S.put a (match putFld ns vs f v with | (ms, us) => .ins c ms us))
    | _ => False
  | _ => False
structure setFP (F : Str → Str → Bool) (f : Str) (x v : Val) (S : Sto) (K : Sto → Prop) : Prop where
  h : setFP0 F f x v S K
/-- o.f = e -/
@[reducible] def setFldI (F : Str → Str → Bool) (f : Str) (o e : IE) : IS := fun D ρ S => e ρ S (fun v S1 => o ρ S1 (fun x S2 => setFP F f x v S2 fun S3 => D.nx ρ S3) (D.ex ρ)) (D.ex ρ)
/-- C(..): the new instance may change, or it is a value from now on -/
@[reducible] def frzI (f : Bool) (a : Addr) (S : Sto) (Q : VQ) : Prop := match f with
  | false => Q (.ref a) S
  | true => match S a with
    | some (.ins c ns vs) => Q (.ins c ns vs) (S.del a)
    | _ => False
@[reducible] def makeI (Γ : Calls) (c : Str) (f : Bool) (as : IA) : IE := fun ρ S Q E => as ρ S (fun xs S1 => ∀ a, S1 a = none →
  Γ (c ++ ".__init__") (.ref a :: xs) (S1.put a (.ins c [] [])) (fun v S2 => isNon v = true ∧ frzI f a S2 Q) noX) E

end TL

/-! TL2: how plain values and stores stand in the layer's heap; what an expression's, a statement's reading is lifted to. -/
namespace TL
open PySem PySem.Spec L2
open PyProof.Rows hiding St

/-! ### the relation -/
def TupAt (K : PySem.W.Frag) (B : Addr → Prop) (H : Hp) (S : Sto) (a : Addr) (vs : List V) : Prop := (Rd H a (.tup vs) ∧ S a = none ∧ ¬ B a) ∨ ∀ H', SqT K H' a vs
/-- a tuple of which all is known: it has no dict of its own (as a value: .set) -/
def KtAt (B : Addr → Prop) (H : Hp) (S : Sto) (a : Addr) (vs : List V) : Prop := ∃ ob : Obj, H a = some (.frz ob (.tup vs)) ∧ ob.cls = .type "tuple" ∧ ob.dict = none ∧ S a = none ∧ ¬ B a
def ScrAt (K : PySem.W.Frag) (B : Addr → Prop) (H : Hp) (S : Sto) (a : Addr) (vs : List V) : Prop := (Rd H a (.lst vs) ∧ S a = none ∧ ¬ B a) ∨ ∀ H', SqL K H' a vs
mutual
inductive RV (K : PySem.W.Frag) (B : Addr → Prop) (H : Hp) (S : Sto) : Val → V → Prop
  | non : RV K B H S .non .non
  | bl (b : Bool) : RV K B H S (.bl b) (.bl b)
  | int (i : Int) : RV K B H S (.int i) (.int i)
  | str (x : Str) : RV K B H S (.str x) (.str x)
  | ty (n : String) : RV K B H S (.ty n) (.ty n)
  | ref (a : Addr) : RV K B H S (.ref a) (.ref a)
  | fn (f : Str) : RV K B H S (.fn f) (.ref (He.ga K f))
  | tup {a : Addr} {xs : List Val} {vs : List V} : TupAt K B H S a vs → RVs K B H S xs vs → RV K B H S (.tup xs) (.ref a)
  | kt {a : Addr} {xs : List Val} {vs : List V} : KtAt B H S a vs → RVs K B H S xs vs → RV K B H S (.set xs) (.ref a)
  | lst {a : Addr} {xs : List Val} {vs : List V} : H a = some (.lst vs) → S a = none ∧ ¬ B a → RVs K B H S xs vs → RV K B H S (.lst xs) (.ref a)
  | scr {a : Addr} {ns : List Int} : ScrAt K B H S a (ns.map V.int) → RV K B H S (.scr ns) (.ref a)
  | ins {a dx : Addr} {c : Str} {ns : List Str} {vs : List Val} {fs : List (Str × V)} : H a = some (.ins (He.ga K c) dx fs) → S a = none ∧ ¬ B a → fs.map (·.1) = ns → RVs K B H S vs (fs.map (·.2)) → RV K B H S (.ins c ns vs) (.ref a)
inductive RVs (K : PySem.W.Frag) (B : Addr → Prop) (H : Hp) (S : Sto) : List Val → List V → Prop
  | nil : RVs K B H S [] []
  | cons {x : Val} {xs : List Val} {v : V} {vs : List V} : RV K B H S x v → RVs K B H S xs vs → RVs K B H S (x :: xs) (v :: vs)
end

/-- what is not of S stays as it is -/
def Ext (S S' : Sto) (H H' : Hp) : Prop := ∀ a o, S a = none → H a = some o → S' a = none ∧ H' a = some o
theorem Ext.refl {S : Sto} {H : Hp} : Ext S S H H := fun _ _ h1 h2 => ⟨h1, h2⟩
theorem Ext.trans {S S1 S2 : Sto} {H H1 H2 : Hp} (a : Ext S S1 H H1) (b : Ext S1 S2 H1 H2) : Ext S S2 H H2 := fun c o h1 h2 =>
  let ⟨h3, h4⟩ := a c o h1 h2
  b c o h3 h4
section
variable {K : PySem.W.Frag} {B : Addr → Prop} {H H' : Hp} {S S' : Sto}
/-- the same of what B does not hold -/
def ExtB (B : Addr → Prop) (S S' : Sto) (H H' : Hp) : Prop := ∀ a o, S a = none → ¬ B a → H a = some o → S' a = none ∧ H' a = some o
theorem Ext.b (e : Ext S S' H H') : ExtB B S S' H H' := fun a o h1 _ h2 => e a o h1 h2
theorem Rd.ext {a : Addr} {o : HO} (e : ExtB B S S' H H') (hs : S a = none ∧ ¬ B a) (h : Rd H a o) : Rd H' a o ∧ S' a = none ∧ ¬ B a := by
  rcases h with h | ⟨u, h⟩
  · obtain ⟨h1, h2⟩ := e a _ hs.1 hs.2 h
    exact ⟨.inl h2, h1, hs.2⟩
  · obtain ⟨h1, h2⟩ := e a _ hs.1 hs.2 h
    exact ⟨.inr ⟨u, h2⟩, h1, hs.2⟩
theorem TupAt.extB {a : Addr} {vs : List V} (e : ExtB B S S' H H') (h : TupAt K B H S a vs) : TupAt K B H' S' a vs := by
  rcases h with ⟨h, hs⟩ | h
  · exact .inl (Rd.ext e hs h)
  · exact .inr h
theorem KtAt.extB {a : Addr} {vs : List V} (e : ExtB B S S' H H') (h : KtAt B H S a vs) : KtAt B H' S' a vs := by
  obtain ⟨ob, h1, h2, h3, h4, h5⟩ := h
  obtain ⟨g1, g2⟩ := e a _ h4 h5 h1
  exact ⟨ob, g2, h2, h3, g1, h5⟩
theorem KtAt.at {a : Addr} {vs : List V} (h : KtAt B H S a vs) : TupAt K B H S a vs := by
  obtain ⟨ob, h1, h2, h3, h4, h5⟩ := h
  exact .inl ⟨.inr ⟨ob, h1⟩, h4, h5⟩
theorem ScrAt.extB {a : Addr} {vs : List V} (e : ExtB B S S' H H') (h : ScrAt K B H S a vs) : ScrAt K B H' S' a vs := by
  rcases h with ⟨h, hs⟩ | h
  · exact .inl (Rd.ext e hs h)
  · exact .inr h
theorem TupAt.ext {a : Addr} {vs : List V} (e : Ext S S' H H') (h : TupAt K B H S a vs) : TupAt K B H' S' a vs := h.extB e.b
theorem ScrAt.ext {a : Addr} {vs : List V} (e : Ext S S' H H') (h : ScrAt K B H S a vs) : ScrAt K B H' S' a vs := h.extB e.b
theorem TupAt.sq {a : Addr} {vs : List V} (h : TupAt K B H S a vs) : SqT K H a vs := by
  rcases h with ⟨h, hs⟩ | h
  · exact .inl h
  · exact h H
theorem ScrAt.sq {a : Addr} {vs : List V} (h : ScrAt K B H S a vs) : SqL K H a vs := by
  rcases h with ⟨h, hs⟩ | h
  · exact .inl h
  · exact h H
mutual
theorem RV.extB (e : ExtB B S S' H H') : ∀ {x : Val} {v : V}, RV K B H S x v → RV K B H' S' x v
  | _, _, .non => .non
  | _, _, .bl b => .bl b
  | _, _, .int i => .int i
  | _, _, .str x => .str x
  | _, _, .ty n => .ty n
  | _, _, .ref a => .ref a
  | _, _, .fn f => .fn f
  | _, _, .tup h r => .tup (h.extB e) (RVs.extB e r)
  | _, _, .kt h r => .kt (h.extB e) (RVs.extB e r)
  | _, _, .lst h hs r => .lst (e _ _ hs.1 hs.2 h).2 ⟨(e _ _ hs.1 hs.2 h).1, hs.2⟩ (RVs.extB e r)
  | _, _, .scr h => .scr (h.extB e)
  | _, _, .ins h hs hn r => .ins (e _ _ hs.1 hs.2 h).2 ⟨(e _ _ hs.1 hs.2 h).1, hs.2⟩ hn (RVs.extB e r)
theorem RVs.extB (e : ExtB B S S' H H') : ∀ {xs : List Val} {vs : List V}, RVs K B H S xs vs → RVs K B H' S' xs vs
  | _, _, .nil => .nil
  | _, _, .cons r t => .cons (RV.extB e r) (RVs.extB e t)
end
theorem RV.ext (e : Ext S S' H H') {x : Val} {v : V} (r : RV K B H S x v) : RV K B H' S' x v := r.extB e.b
theorem RVs.ext (e : Ext S S' H H') {xs : List Val} {vs : List V} (r : RVs K B H S xs vs) : RVs K B H' S' xs vs := r.extB e.b
mutual
/-- fewer hidden places -/
theorem RV.lessB {B' : Addr → Prop} (h : ∀ a, B a → B' a) : ∀ {x : Val} {v : V}, RV K B' H S x v → RV K B H S x v
  | _, _, .non => .non
  | _, _, .bl b => .bl b
  | _, _, .int i => .int i
  | _, _, .str x => .str x
  | _, _, .ty n => .ty n
  | _, _, .ref a => .ref a
  | _, _, .fn f => .fn f
  | _, _, .tup t r => .tup (t.elim (fun ⟨a1, a2, a3⟩ => .inl ⟨a1, a2, fun z => a3 (h _ z)⟩) .inr) (RVs.lessB h r)
  | _, _, .kt ⟨ob, h1, h2, h3, h4, h5⟩ r => .kt ⟨ob, h1, h2, h3, h4, fun z => h5 (h _ z)⟩ (RVs.lessB h r)
  | _, _, .lst t hs r => .lst t ⟨hs.1, fun z => hs.2 (h _ z)⟩ (RVs.lessB h r)
  | _, _, .scr t => .scr (t.elim (fun ⟨a1, a2, a3⟩ => .inl ⟨a1, a2, fun z => a3 (h _ z)⟩) .inr)
  | _, _, .ins t hs hn r => .ins t ⟨hs.1, fun z => hs.2 (h _ z)⟩ hn (RVs.lessB h r)
theorem RVs.lessB {B' : Addr → Prop} (h : ∀ a, B a → B' a) : ∀ {xs : List Val} {vs : List V}, RVs K B' H S xs vs → RVs K B H S xs vs
  | _, _, .nil => .nil
  | _, _, .cons r t => .cons (RV.lessB h r) (RVs.lessB h t)
end
/-- more hidden places, of which nothing was said -/
structure Wider (B B' : Addr → Prop) (H : Hp) : Prop where
  sub : ∀ a, B a → B' a
  new : ∀ a, B' a → B a ∨ H a = none
theorem Wider.refl : Wider B B H := ⟨fun _ h => h, fun _ h => .inl h⟩
theorem Wider.no {B' : Addr → Prop} (w : Wider B B' H) {a : Addr} {o : HO} (h : H a = some o) (hb : ¬ B a) : ¬ B' a := fun z => (w.new a z).elim hb fun e => by rw [h] at e; cases e
theorem Wider.rd {B' : Addr → Prop} (w : Wider B B' H) {a : Addr} {o : HO} (h : Rd H a o) (hb : ¬ B a) : ¬ B' a := by
  rcases h with h | ⟨u, h⟩
  · exact w.no h hb
  · exact w.no h hb
def More (B : Addr → Prop) (p : Addr) : Addr → Prop := fun a => a = p ∨ B a
theorem Wider.more {p : Addr} (h : H p = none) : Wider B (More B p) H := ⟨fun _ h => .inr h, fun a z => z.elim (fun e => .inr (by rw [e]; exact h)) .inl⟩
mutual
theorem RV.moreB {B' : Addr → Prop} (w : Wider B B' H) : ∀ {x : Val} {v : V}, RV K B H S x v → RV K B' H S x v
  | _, _, .non => .non
  | _, _, .bl b => .bl b
  | _, _, .int i => .int i
  | _, _, .str x => .str x
  | _, _, .ty n => .ty n
  | _, _, .ref a => .ref a
  | _, _, .fn f => .fn f
  | _, _, .tup t r => .tup (t.elim (fun ⟨a1, a2, a3⟩ => .inl ⟨a1, a2, w.rd a1 a3⟩) .inr) (RVs.moreB w r)
  | _, _, .kt ⟨ob, h1, h2, h3, h4, h5⟩ r => .kt ⟨ob, h1, h2, h3, h4, w.no h1 h5⟩ (RVs.moreB w r)
  | _, _, .lst t hs r => .lst t ⟨hs.1, w.no t hs.2⟩ (RVs.moreB w r)
  | _, _, .scr t => .scr (t.elim (fun ⟨a1, a2, a3⟩ => .inl ⟨a1, a2, w.rd a1 a3⟩) .inr)
  | _, _, .ins t hs hn r => .ins t ⟨hs.1, w.no t hs.2⟩ hn (RVs.moreB w r)
theorem RVs.moreB {B' : Addr → Prop} (w : Wider B B' H) : ∀ {xs : List Val} {vs : List V}, RVs K B H S xs vs → RVs K B' H S xs vs
  | _, _, .nil => .nil
  | _, _, .cons r t => .cons (RV.moreB w r) (RVs.moreB w t)
end
theorem TupAt.moreB {B' : Addr → Prop} (w : Wider B B' H) {a : Addr} {vs : List V} (t : TupAt K B H S a vs) : TupAt K B' H S a vs := t.elim (fun ⟨a1, a2, a3⟩ => .inl ⟨a1, a2, w.rd a1 a3⟩) .inr
theorem ScrAt.moreB {B' : Addr → Prop} (w : Wider B B' H) {a : Addr} {vs : List V} (t : ScrAt K B H S a vs) : ScrAt K B' H S a vs := t.elim (fun ⟨a1, a2, a3⟩ => .inl ⟨a1, a2, w.rd a1 a3⟩) .inr
theorem RVs.length : ∀ {xs : List Val} {vs : List V}, RVs K B H S xs vs → xs.length = vs.length
  | _, _, .nil => rfl
  | _, _, .cons _ t => congrArg Nat.succ (RVs.length t)
theorem RVs.get : ∀ {xs : List Val} {vs : List V} {i : Nat} {x : Val}, RVs K B H S xs vs → xs[i]? = some x → ∃ v, vs[i]? = some v ∧ RV K B H S x v
  | _, _, _, _, .nil, e => by simp at e
  | _, _, 0, _, .cons r _, e => by simp at e; subst e; exact ⟨_, rfl, r⟩
  | _, _, i + 1, x, .cons _ t, e => by
    obtain ⟨v, h1, h2⟩ := RVs.get (i := i) (x := x) t (by simpa using e)
    exact ⟨v, by simpa using h1, h2⟩
theorem RVs.getR : ∀ {xs : List Val} {vs : List V} {i : Nat} {v : V}, RVs K B H S xs vs → vs[i]? = some v → ∃ x, xs[i]? = some x ∧ RV K B H S x v
  | _, _, _, _, .nil, e => by simp at e
  | _, _, 0, _, .cons r _, e => by simp at e; subst e; exact ⟨_, rfl, r⟩
  | _, _, i + 1, v, .cons _ t, e => by
    obtain ⟨x, h1, h2⟩ := RVs.getR (i := i) (v := v) t (by simpa using e)
    exact ⟨x, by simpa using h1, h2⟩
theorem RVs.append : ∀ {xs ys : List Val} {vs ws : List V}, RVs K B H S xs vs → RVs K B H S ys ws → RVs K B H S (xs ++ ys) (vs ++ ws)
  | _, _, _, _, .nil, s => s
  | _, _, _, _, .cons r t, s => .cons r (RVs.append t s)
theorem RVs.take : ∀ {xs : List Val} {vs : List V} (n : Nat), RVs K B H S xs vs → RVs K B H S (xs.take n) (vs.take n)
  | _, _, 0, _ => .nil
  | _, _, _ + 1, .nil => .nil
  | _, _, n + 1, .cons r t => .cons r (RVs.take n t)
theorem RVs.drop : ∀ {xs : List Val} {vs : List V} (n : Nat), RVs K B H S xs vs → RVs K B H S (xs.drop n) (vs.drop n)
  | _, _, 0, r => r
  | _, _, _ + 1, .nil => .nil
  | _, _, n + 1, .cons _ t => RVs.drop n t
theorem RVs.set {x : Val} {v : V} (r : RV K B H S x v) : ∀ {xs : List Val} {vs : List V} (i : Nat), RVs K B H S xs vs → RVs K B H S (xs.set i x) (vs.set i v)
  | _, _, _, .nil => .nil
  | _, _, 0, .cons _ t => .cons r t
  | _, _, i + 1, .cons q t => .cons q (RVs.set r i t)
theorem RVs.eraseIdx : ∀ {xs : List Val} {vs : List V} (i : Nat), RVs K B H S xs vs → RVs K B H S (xs.eraseIdx i) (vs.eraseIdx i)
  | _, _, _, .nil => .nil
  | _, _, 0, .cons _ t => t
  | _, _, i + 1, .cons q t => .cons q (RVs.eraseIdx i t)
theorem RVs.dropLast : ∀ {xs : List Val} {vs : List V}, RVs K B H S xs vs → RVs K B H S xs.dropLast vs.dropLast
  | _, _, .nil => .nil
  | _, _, .cons _ .nil => .nil
  | _, _, .cons q (.cons r t) => .cons q (RVs.dropLast (.cons r t))
theorem RVs.reverse {xs : List Val} {vs : List V} (r : RVs K B H S xs vs) : RVs K B H S xs.reverse vs.reverse := by
  induction xs generalizing vs with
  | nil => cases r; exact .nil
  | cons x xs ih =>
    cases r with
    | cons h t =>
      rw [List.reverse_cons, List.reverse_cons]
      exact (ih t).append (.cons h .nil)
theorem RVs.ints : ∀ {xs : List Val} {vs : List V} {ns : List Int}, RVs K B H S xs vs → intsOf xs = some ns → vs = ns.map V.int
  | [], _, _, .nil, e => by cases e; rfl
  | x :: xs, _, ns, .cons (v := v) (vs := vs) h t, e => by
    cases x with
    | int i =>
      cases h
      have e2 : (intsOf xs).map (i :: ·) = some ns := e
      cases q : intsOf xs with
      | none => rw [q] at e2; cases e2
      | some ms =>
        rw [q] at e2
        cases e2
        rw [RVs.ints t q]
        rfl
    | _ => cases e
theorem RVs.of_ints : ∀ (ns : List Int), RVs K B H S (ns.map Val.int) (ns.map V.int)
  | [] => .nil
  | n :: ns => .cons (.int n) (RVs.of_ints ns)
end

/-! ### the store -/
def CellOk (K : PySem.W.Frag) (B : Addr → Prop) (H : Hp) (S : Sto) (a : Addr) : Cell → Prop
  | .lst xs => ∃ vs, H a = some (.lst vs) ∧ RVs K B H S xs vs
  | .dict kvs => ∃ us : List (Key × V), H a = some (.dK us) ∧ us.map (·.1) = kvs.map (·.1) ∧ RVs K B H S (kvs.map (·.2)) (us.map (·.2))
  | .ins c ns vs => ∃ dx fs, H a = some (.ins (He.ga K c) dx fs) ∧ fs.map (·.1) = ns ∧ RVs K B H S vs (fs.map (·.2))
structure HR (K : PySem.W.Frag) (B : Addr → Prop) (H : Hp) (S : Sto) : Prop where
  ok : ∀ a c, S a = some c → CellOk K B H S a c
  hid : ∀ a, B a → S a = none ∧ ∃ o, H a = some o
section
variable {K : PySem.W.Frag} {B : Addr → Prop} {H H' : Hp} {S S' : Sto}
theorem CellOk.extB {a : Addr} {c : Cell} (e : ExtB B S S' H H') (ha : H' a = H a) (h : CellOk K B H S a c) : CellOk K B H' S' a c := by
  cases c with
  | lst xs =>
    obtain ⟨vs, h1, h2⟩ := h
    exact ⟨vs, ha.trans h1, h2.extB e⟩
  | dict kvs =>
    obtain ⟨us, h1, h2, h3⟩ := h
    exact ⟨us, ha.trans h1, h2, h3.extB e⟩
  | ins c ns vs =>
    obtain ⟨dx, fs, h1, h2, h3⟩ := h
    exact ⟨dx, fs, ha.trans h1, h2, h3.extB e⟩
theorem CellOk.there {a : Addr} {c : Cell} (h : CellOk K B H S a c) : ∃ o, H a = some o := by
  cases c with
  | lst xs =>
    obtain ⟨vs, h1, h2⟩ := h
    exact ⟨_, h1⟩
  | dict kvs =>
    obtain ⟨us, h1, h2, h3⟩ := h
    exact ⟨_, h1⟩
  | ins c ns vs =>
    obtain ⟨dx, fs, h1, h2, h3⟩ := h
    exact ⟨_, h1⟩
theorem HR.free (r : HR K B H S) {a : Addr} (h : H a = none) : S a = none ∧ ¬ B a := by
  refine ⟨?_, fun hb => ?_⟩
  · cases q : S a with
    | none => rfl
    | some c =>
      obtain ⟨o, e⟩ := (r.ok a c q).there
      rw [h] at e
      cases e
  · obtain ⟨_, o, e⟩ := r.hid a hb
    rw [h] at e
    cases e
/-- a new object that no value of S tells of -/
theorem Ext.new {p : Addr} {o : HO} (h : H p = none) : Ext S S H (upd H p o) := fun a u hs ha => by
  refine ⟨hs, ?_⟩
  rw [upd_ne (ne_of_none ha h)]
  exact ha
theorem HR.new (r : HR K B H S) {p : Addr} {o : HO} (h : H p = none) : HR K B (upd H p o) S := ⟨fun a c q => by
  refine (r.ok a c q).extB (Ext.new h).b ?_
  obtain ⟨u, e⟩ := (r.ok a c q).there
  rw [upd_ne (ne_of_none e h)], fun a hb => by
  obtain ⟨h1, u, h2⟩ := r.hid a hb
  exact ⟨h1, u, ((Ext.new h) a u h1 h2).2⟩⟩
/-- a new cell -/
theorem Sto.put_same {a : Addr} {c : Cell} : S.put a c a = some c := by unfold Sto.put; rw [if_pos rfl]
theorem Sto.put_ne {a b : Addr} {c : Cell} (h : b ≠ a) : S.put a c b = S b := by unfold Sto.put; rw [if_neg h]
theorem Sto.del_same {a : Addr} : S.del a a = none := by unfold Sto.del; rw [if_pos rfl]
theorem Sto.del_ne {a b : Addr} (h : b ≠ a) : S.del a b = S b := by unfold Sto.del; rw [if_neg h]
theorem Ext.newCell {p : Addr} {o : HO} {c : Cell} (h : H p = none) : Ext S (S.put p c) H (upd H p o) := fun a u hs ha => by
  have ne := ne_of_none ha h
  rw [upd_ne ne, Sto.put_ne ne]
  exact ⟨hs, ha⟩
theorem HR.newCell (r : HR K B H S) {p : Addr} {o : HO} {c : Cell} (h : H p = none) (hc : CellOk K B (upd H p o) (S.put p c) p c) : HR K B (upd H p o) (S.put p c) := ⟨fun a c' q => by
  by_cases e : a = p
  · subst e
    rw [Sto.put_same] at q
    cases q
    exact hc
  · rw [Sto.put_ne e] at q
    exact (r.ok a c' q).extB (Ext.newCell h).b (upd_ne e), fun a hb => by
  obtain ⟨h1, u, h2⟩ := r.hid a hb
  have z := (Ext.newCell (o := o) (c := c) h) a u h1 h2
  exact ⟨z.1, u, z.2⟩⟩
/-- a cell changed -/
theorem Ext.write {p : Addr} {o : HO} {c c0 : Cell} (h : S p = some c0) : Ext S (S.put p c) H (upd H p o) := fun a u hs ha => by
  have ne : a ≠ p := fun z => by rw [z, h] at hs; cases hs
  rw [upd_ne ne, Sto.put_ne ne]
  exact ⟨hs, ha⟩
theorem HR.write (r : HR K B H S) {p : Addr} {o : HO} {c c0 : Cell} (h : S p = some c0) (hc : CellOk K B (upd H p o) (S.put p c) p c) : HR K B (upd H p o) (S.put p c) := ⟨fun a c' q => by
  by_cases e : a = p
  · subst e
    rw [Sto.put_same] at q
    cases q
    exact hc
  · rw [Sto.put_ne e] at q
    exact (r.ok a c' q).extB (Ext.write h).b (upd_ne e), fun a hb => by
  obtain ⟨h1, u, h2⟩ := r.hid a hb
  have z := (Ext.write (o := o) (c := c) h) a u h1 h2
  exact ⟨z.1, u, z.2⟩⟩
/-- cells let go -/
theorem Ext.less (h : ∀ a, S a = none → S' a = none) : Ext S S' H H := fun a u hs ha => ⟨h a hs, ha⟩
theorem HR.less (r : HR K B H S) (h : ∀ a c, S' a = some c → S a = some c) : HR K B H S' := by
  have hn : ∀ b, S b = none → S' b = none := fun b hb => by
    cases e : S' b with
    | none => rfl
    | some c => rw [h b c e] at hb; cases hb
  exact ⟨fun a c q => (r.ok a c (h a c q)).extB (Ext.less hn).b rfl, fun a hb => ⟨hn a (r.hid a hb).1, (r.hid a hb).2⟩⟩
theorem CellOk.moreB {B' : Addr → Prop} (w : Wider B B' H) {a : Addr} {c : Cell} (h : CellOk K B H S a c) : CellOk K B' H S a c := by
  cases c with
  | lst xs =>
    obtain ⟨vs, h1, h2⟩ := h
    exact ⟨vs, h1, h2.moreB w⟩
  | dict kvs =>
    obtain ⟨us, h1, h2, h3⟩ := h
    exact ⟨us, h1, h2, h3.moreB w⟩
  | ins c ns vs =>
    obtain ⟨dx, fs, h1, h2, h3⟩ := h
    exact ⟨dx, fs, h1, h2, h3.moreB w⟩
theorem CellOk.lessB {B' : Addr → Prop} (w : ∀ a, B a → B' a) {a : Addr} {c : Cell} (h : CellOk K B' H S a c) : CellOk K B H S a c := by
  cases c with
  | lst xs =>
    obtain ⟨vs, h1, h2⟩ := h
    exact ⟨vs, h1, RVs.lessB w h2⟩
  | dict kvs =>
    obtain ⟨us, h1, h2, h3⟩ := h
    exact ⟨us, h1, h2, RVs.lessB w h3⟩
  | ins c ns vs =>
    obtain ⟨dx, fs, h1, h2, h3⟩ := h
    exact ⟨dx, fs, h1, h2, RVs.lessB w h3⟩
theorem HR.lessB {B' : Addr → Prop} (w : ∀ a, B a → B' a) (r : HR K B' H S) : HR K B H S := ⟨fun a c q => (r.ok a c q).lessB w, fun a hb => r.hid a (w a hb)⟩
/-- a new object is laid and hidden -/
theorem HR.hide (r : HR K B H S) {p : Addr} {o : HO} (h : H p = none) : HR K (More B p) (upd H p o) S := ⟨fun a c q => by
  refine ((r.ok a c q).moreB (Wider.more h)).extB (Ext.new h).b ?_
  obtain ⟨u, e⟩ := (r.ok a c q).there
  rw [upd_ne (ne_of_none e h)], fun a hb => by
  rcases hb with e | hb
  · subst e
    exact ⟨(r.free h).1, o, upd_same⟩
  · obtain ⟨h1, u, h2⟩ := r.hid a hb
    exact ⟨h1, u, ((Ext.new h) a u h1 h2).2⟩⟩
/-- a hidden object is changed -/
theorem ExtB.hidden {p : Addr} {o : HO} (hp : B p) : ExtB B S S H (upd H p o) := fun a u hs hb ha => ⟨hs, by rw [upd_ne (fun z => hb (by rw [z]; exact hp))]; exact ha⟩
theorem HR.hidden (r : HR K B H S) {p : Addr} {o : HO} (hp : B p) : HR K B (upd H p o) S := ⟨fun a c q => by
  have ne : a ≠ p := fun z => by rw [z, (r.hid p hp).1] at q; cases q
  exact (r.ok a c q).extB (ExtB.hidden hp) (upd_ne ne), fun a hb => by
  obtain ⟨h1, u, h2⟩ := r.hid a hb
  by_cases e : a = p
  · subst e
    exact ⟨h1, o, upd_same⟩
  · exact ⟨h1, u, by rw [upd_ne e]; exact h2⟩⟩
theorem lstOf_h {x : Val} {v : V} {xs : List Val} (r : HR K B H S) (h : RV K B H S x v) (e : lstOf S x = some xs) : ∃ p vs, v = .ref p ∧ H p = some (.lst vs) ∧ RVs K B H S xs vs := by
  cases x with
  | lst ys =>
    cases e
    cases h with
    | lst h1 h2 h3 => exact ⟨_, _, rfl, h1, h3⟩
  | ref a =>
    cases h
    have e2 : (match S a with | some (.lst xs) => some xs | _ => none) = some xs := e
    split at e2
    · rename_i ys q
      cases e2
      obtain ⟨vs, h1, h2⟩ := r.ok a _ q
      exact ⟨a, vs, rfl, h1, h2⟩
    · cases e2
  | _ => cases e
theorem lsqOf_sq {x : Val} {v : V} {xs : List Val} (r : HR K B H S) (h : RV K B H S x v) (e : lsqOf S x = some xs) : ∃ p vs, v = .ref p ∧ SqL K H p vs ∧ RVs K B H S xs vs := by
  cases x with
  | scr ns =>
    cases e
    cases h with
    | scr h1 => exact ⟨_, _, rfl, h1.sq, RVs.of_ints ns⟩
  | lst ys =>
    obtain ⟨p, vs, h1, h2, h3⟩ := lstOf_h (xs := xs) r h e
    exact ⟨p, vs, h1, SqL.of h2, h3⟩
  | ref a =>
    obtain ⟨p, vs, h1, h2, h3⟩ := lstOf_h (xs := xs) r h e
    exact ⟨p, vs, h1, SqL.of h2, h3⟩
  | _ => cases e
theorem seqOf_sq {x : Val} {v : V} {xs : List Val} (r : HR K B H S) (h : RV K B H S x v) (e : seqOf S x = some xs) : ∃ p vs, v = .ref p ∧ ((SqL K H p vs ∧ lsqOf S x = some xs) ∨ (SqT K H p vs ∧ TupAt K B H S p vs ∧ x = .tup xs)) ∧ RVs K B H S xs vs := by
  cases x with
  | tup ys =>
    cases e
    cases h with
    | tup h1 h2 => exact ⟨_, _, rfl, .inr ⟨h1.sq, h1, rfl⟩, h2⟩
  | lst ys =>
    obtain ⟨p, vs, h1, h2, h3⟩ := lsqOf_sq (xs := xs) r h e
    exact ⟨p, vs, h1, .inl ⟨h2, e⟩, h3⟩
  | scr ys =>
    obtain ⟨p, vs, h1, h2, h3⟩ := lsqOf_sq (xs := xs) r h e
    exact ⟨p, vs, h1, .inl ⟨h2, e⟩, h3⟩
  | ref a =>
    obtain ⟨p, vs, h1, h2, h3⟩ := lsqOf_sq (xs := xs) r h e
    exact ⟨p, vs, h1, .inl ⟨h2, e⟩, h3⟩
  | _ => cases e
theorem someP_some {α : Type} {o : Option α} {P : α → Prop} (h : someP o P) : ∃ x, o = some x ∧ P x := by
  cases o with
  | none => exact h.elim
  | some x => exact ⟨x, rfl, h⟩
end

/-! ### names' values -/
def RSt (K : PySem.W.Frag) (B : Addr → Prop) (H : Hp) (S : Sto) (ρ : ISt) (σ : St) : Prop := ρ.length = σ.length ∧ ∀ (i : Nat) (v : Val), ρ[i]? = some (some v) → ∃ x, σ[i]? = some (some x) ∧ RV K B H S v x
structure Rl (K : PySem.W.Frag) (B : Addr → Prop) (ρ : ISt) (S : Sto) (σ : St) (H : Hp) : Prop where
  st : RSt K B H S ρ σ
  hr : HR K B H S
section
variable {K : PySem.W.Frag} {B : Addr → Prop} {H H' : Hp} {S S' : Sto} {ρ : ISt} {σ : St}
theorem RSt.extB (e : ExtB B S S' H H') (r : RSt K B H S ρ σ) : RSt K B H' S' ρ σ := ⟨r.1, fun i v h => by
  obtain ⟨x, h1, h2⟩ := r.2 i v h
  exact ⟨x, h1, h2.extB e⟩⟩
theorem RSt.moreB {B' : Addr → Prop} (w : Wider B B' H) (r : RSt K B H S ρ σ) : RSt K B' H S ρ σ := ⟨r.1, fun i v h => by
  obtain ⟨x, h1, h2⟩ := r.2 i v h
  exact ⟨x, h1, h2.moreB w⟩⟩
theorem RSt.ext (e : Ext S S' H H') (r : RSt K B H S ρ σ) : RSt K B H' S' ρ σ := ⟨r.1, fun i v h => by
  obtain ⟨x, h1, h2⟩ := r.2 i v h
  exact ⟨x, h1, h2.ext e⟩⟩
theorem Rl.ext (r : Rl K B ρ S σ H) (e : Ext S S' H H') (h : HR K B H' S') : Rl K B ρ S' σ H' := ⟨r.st.ext e, h⟩
theorem getS_some : ∀ {ρ : ISt} {i : Nat} {P : Val → Prop}, getS ρ i P → ∃ v, ρ[i]? = some (some v) ∧ P v
  | some v :: _, 0, P, h => ⟨v, rfl, h⟩
  | none :: _, 0, P, h => h.elim
  | [], _, P, h => h.elim
  | o :: r, i + 1, P, h => by
    have h : getS r i P := h
    obtain ⟨v, h1, h2⟩ := getS_some h
    exact ⟨v, by simpa using h1, h2⟩
theorem setS_eq : ∀ (ρ : ISt) (i : Nat) (v : Val), setS ρ i v = ρ.set i (some v)
  | [], i, v => by cases i <;> rfl
  | o :: r, 0, v => rfl
  | o :: r, i + 1, v => by
    show o :: setS r i v = _
    rw [setS_eq r i v]
    rfl
theorem wipe1_eq : ∀ (ρ : ISt) (i : Nat), wipe1 ρ i = ρ.set i none
  | [], i => by cases i <;> rfl
  | o :: r, 0 => rfl
  | o :: r, i + 1 => by
    show o :: wipe1 r i = _
    rw [wipe1_eq r i]
    rfl
theorem RSt.set (r : RSt K B H S ρ σ) {i : Nat} {v : Val} {x : V} (h : RV K B H S v x) : RSt K B H S (setS ρ i v) (σ.set i (some x)) := by
  rw [setS_eq]
  refine ⟨by rw [List.length_set, List.length_set]; exact r.1, fun j w e => ?_⟩
  by_cases hj : i = j
  · subst hj
    by_cases hl : i < ρ.length
    · rw [List.getElem?_set_self hl] at e
      cases e
      exact ⟨x, List.getElem?_set_self (by rw [← r.1]; exact hl), h⟩
    · rw [List.getElem?_eq_none (by rw [List.length_set]; omega)] at e
      cases e
  · rw [List.getElem?_set_ne hj] at e ⊢
    exact r.2 j w e
theorem RSt.wipe (r : RSt K B H S ρ σ) : ∀ (is : List Nat), RSt K B H S (wipeI ρ is) (wipe σ is)
  | [] => r
  | i :: is => by
    have q := RSt.wipe r is
    show RSt K B H S (wipe1 (wipeI ρ is) i) ((L2.wipe σ is).set i none)
    rw [wipe1_eq]
    refine ⟨by rw [List.length_set, List.length_set]; exact q.1, fun j w e => ?_⟩
    by_cases hj : i = j
    · subst hj
      by_cases hl : i < (wipeI ρ is).length
      · rw [List.getElem?_set_self hl] at e
        cases e
      · rw [List.getElem?_eq_none (by rw [List.length_set]; omega)] at e
        cases e
    · rw [List.getElem?_set_ne hj] at e ⊢
      exact q.2 j w e
end

/-! ### the lift -/
/-- an exception, as it lies: its class, its own dict -/
def XR (K : PySem.W.Frag) (B : Addr → Prop) (H : Hp) (S : Sto) (e : Exc) (c : Value) (d : Option Addr) : Prop :=
  c = .ref (He.ga K e.cls) ∧ ((d = none ∧ e.ns = [] ∧ e.vs = []) ∨ ∃ dd fs, d = some dd ∧ H dd = some (.xd fs) ∧ (S dd = none ∧ ¬ B dd) ∧ fs.map (·.1) = e.ns ∧ RVs K B H S e.vs (fs.map (·.2)))
def QR (K : PySem.W.Frag) (B : Addr → Prop) (S : Sto) (H : Hp) (Qi : VQ) (Q : VK) : Prop := ∀ v S' x H', RV K B H' S' v x → HR K B H' S' → Ext S S' H H' → Qi v S' → Q x H'
def ER (K : PySem.W.Frag) (W : WX) (B : Addr → Prop) (σ : St) (S : Sto) (H : Hp) (Ei : EQ) : Prop := ∀ e S' c d H', XR K B H' S' e c d → HR K B H' S' → Ext S S' H H' → Ei e S' → W c d σ H'
def liftE (K : PySem.W.Frag) (W : WX) (m : IE) : TE := fun σ H Q => ∃ ρ S B Qi Ei, Rl K B ρ S σ H ∧ m ρ S Qi Ei ∧ QR K B S H Qi Q ∧ ER K W B σ S H Ei
def liftA (K : PySem.W.Frag) (W : WX) (m : IA) : TA := fun σ H Q => ∃ ρ S B Qi Ei, Rl K B ρ S σ H ∧ m ρ S Qi Ei ∧ (∀ vs S' xs H', RVs K B H' S' vs xs → HR K B H' S' → Ext S S' H H' → Qi vs S' → Q xs H') ∧ ER K W B σ S H Ei
def liftT (K : PySem.W.Frag) (W : WX) (m : IT) : TT := fun σ H Q => ∃ ρ S B Qi Ei, Rl K B ρ S σ H ∧ m ρ S Qi Ei ∧ (∀ k S' H', HR K B H' S' → Ext S S' H H' → Qi k S' → Q k H') ∧ ER K W B σ S H Ei
def liftO (K : PySem.W.Frag) (W : WX) (m : IO) : TO := fun σ H Q => ∃ ρ S B Qi Ei, Rl K B ρ S σ H ∧ m ρ S Qi Ei ∧ (∀ k S' H', HR K B H' S' → Ext S S' H H' → Qi k S' → Q k H') ∧ ER K W B σ S H Ei
/-- what is wanted behind a statement, in both -/
structure DR (K : PySem.W.Frag) (W : WX) (B : Addr → Prop) (S : Sto) (H : Hp) (Di : IEnds) (D : Ends) : Prop where
  nx : ∀ ρ' S' σ' H', Rl K B ρ' S' σ' H' → Ext S S' H H' → Di.nx ρ' S' → D.nx σ' H'
  rt : QR K B S H Di.rt D.rt
  ex : ∀ ρ' e S' σ' c d H', RSt K B H' S' ρ' σ' → XR K B H' S' e c d → HR K B H' S' → Ext S S' H H' → Di.ex ρ' e S' → W c d σ' H'
  bk : ∀ ρ' S' σ' H', Rl K B ρ' S' σ' H' → Ext S S' H H' → Di.bk ρ' S' → D.bk σ' H'
  ct : ∀ ρ' S' σ' H', Rl K B ρ' S' σ' H' → Ext S S' H H' → Di.ct ρ' S' → D.ct σ' H'
def liftS (K : PySem.W.Frag) (W : WX) (m : IS) : TS := fun D σ H => ∃ ρ S B Di, Rl K B ρ S σ H ∧ m Di ρ S ∧ DR K W B S H Di D
section
variable {K : PySem.W.Frag} {B : Addr → Prop} {H H1 H' : Hp} {S S1 S' : Sto} {ρ : ISt} {σ : St} {W : WX}
theorem QR.ext {Qi : VQ} {Q : VK} (q : QR K B S H Qi Q) (e : Ext S S1 H H1) : QR K B S1 H1 Qi Q := fun v S' x H' h1 h2 h3 h4 => q v S' x H' h1 h2 (e.trans h3) h4
theorem ER.ext {Ei : EQ} (q : ER K W B σ S H Ei) (e : Ext S S1 H H1) : ER K W B σ S1 H1 Ei := fun v S' c d H' h1 h2 h3 h4 => q v S' c d H' h1 h2 (e.trans h3) h4
theorem DR.ext {Di : IEnds} {D : Ends} (q : DR K W B S H Di D) (e : Ext S S1 H H1) : DR K W B S1 H1 Di D :=
  ⟨fun a b c d h1 h2 => q.nx a b c d h1 (e.trans h2), q.rt.ext e, fun a b c d f g h h1 h2 h3 h4 => q.ex a b c d f g h h1 h2 h3 (e.trans h4), fun a b c d h1 h2 => q.bk a b c d h1 (e.trans h2), fun a b c d h1 h2 => q.ct a b c d h1 (e.trans h2)⟩
/-- a statement's exceptions, where the names are as they are -/
theorem DR.er {Di : IEnds} {D : Ends} (q : DR K W B S H Di D) (r : RSt K B H S ρ σ) : ER K W B σ S H (Di.ex ρ) := fun e S' c d H' h1 h2 h3 h4 => q.ex ρ e S' σ c d H' (r.ext h3) h1 h2 h3 h4
end
section
variable {X : Cx} {e : Expr} {st : Stmt}
theorem _root_.L2.PE.imp {t t' : TE} (h : PE X e t) (i : ∀ σ H Q, t' σ H Q → t σ H Q) : PE X e t' := ⟨fun pins s σ H Q I q => h.run pins s σ H Q I (i _ _ _ q)⟩
theorem _root_.L2.PT.imp {t t' : TT} (h : PT X e t) (i : ∀ σ H Q, t' σ H Q → t σ H Q) : PT X e t' := ⟨fun pins s σ H Q I q => h.run pins s σ H Q I (i _ _ _ q)⟩
theorem _root_.L2.PW.imp {t t' : TT} (h : PW X e t) (i : ∀ σ H Q, t' σ H Q → t σ H Q) : PW X e t' := ⟨fun wh pins s σ H Q I q => h.run wh pins s σ H Q I (i _ _ _ q)⟩
theorem _root_.L2.PA.imp {es : List Expr} {t t' : TA} (h : PA X es t) (i : ∀ σ H Q, t' σ H Q → t σ H Q) : PA X es t' := ⟨fun pos pins s σ H Q I q => h.run pos pins s σ H Q I (i _ _ _ q)⟩
theorem _root_.L2.PS.imp {t t' : TS} (h : PS X st t) (i : ∀ D σ H, t' D σ H → t D σ H) : PS X st t' := ⟨fun pins s σ H D I q => h.run pins s σ H D I (i _ _ _ q)⟩
theorem _root_.L2.PSs.imp {sts : List Stmt} {t t' : TS} (h : PSs X sts t) (i : ∀ D σ H, t' D σ H → t D σ H) : PSs X sts t' := ⟨fun pins s σ H D I q => h.run pins s σ H D I (i _ _ _ q)⟩
theorem _root_.L2.PO.imp {e : Option Expr} {t t' : TO} (h : PO X e t) (i : ∀ σ H Q, t' σ H Q → t σ H Q) : PO X e t' := ⟨fun pins s σ H Q I q => h.run pins s σ H Q I (i _ _ _ q)⟩
end

end TL

/-! TL3: operators, displays, built-ins, places: each plain rule is kept by the layer's. -/
namespace TL
open PySem PySem.Spec L2
open PyProof.Rows hiding St

section
variable {K : PySem.W.Frag} {B : Addr → Prop} {H H1 H' : Hp} {S S1 S' : Sto} {Qi : VQ} {Q : VK}
theorem QR.same (q : QR K B S H Qi Q) (hr : HR K B H S) {v : Val} {x : V} (r : RV K B H S v x) (h : Qi v S) : Q x H := q v S x H r hr Ext.refl h
theorem QR.tup (q : QR K B S H Qi Q) (hr : HR K B H S) {xs : List Val} {vs : List V} (r : RVs K B H S xs vs) (h : Qi (.tup xs) S) : ∀ p, H p = none → Q (.ref p) (upd H p (.tup vs)) := fun p hp =>
  q (.tup xs) S (.ref p) _ (.tup (.inl ⟨.inl upd_same, hr.free hp⟩) (r.ext (Ext.new hp))) (hr.new hp) (Ext.new hp) h
theorem QR.lst (q : QR K B S H Qi Q) (hr : HR K B H S) {xs : List Val} {vs : List V} {c : Bool} (r : RVs K B H S xs vs) (h : newL c xs S Qi) : ∀ p, H p = none → Q (.ref p) (upd H p (.lst vs)) := fun p hp => by
  cases c with
  | false => exact q (.lst xs) S (.ref p) _ (.lst upd_same (hr.free hp) (r.ext (Ext.new hp))) (hr.new hp) (Ext.new hp) h
  | true =>
    have e : Ext S (S.put p (.lst xs)) H (upd H p (.lst vs)) := Ext.newCell hp
    exact q (.ref p) (S.put p (.lst xs)) (.ref p) _ (.ref p) (hr.newCell hp ⟨vs, upd_same, r.ext e⟩) e (h p (hr.free hp).1)
/-- a cell's new content -/
theorem QR.wrote (q : QR K B S H Qi Q) (hr : HR K B H S) {a : Addr} {xs ys : List Val} {vs : List V} {v : Val} {x : V} (ha : S a = some (.lst xs)) (r : RVs K B H S ys vs) (rv : RV K B H S v x) (h : Qi v (S.put a (.lst ys))) : Q x (upd H a (.lst vs)) := by
  have e : Ext S (S.put a (.lst ys)) H (upd H a (.lst vs)) := Ext.write ha
  exact q v _ x _ (rv.ext e) (hr.write ha ⟨vs, upd_same, r.ext e⟩) e h
end

/-! ### what a plain rule must keep -/
def P1Ok (K : PySem.W.Frag) (r : P1) (rr : V → Hp → VK → Prop) : Prop := ∀ (B : Addr → Prop) (x : Val) (v : V) (S : Sto) (H : Hp) (Qi : VQ) (Q : VK), RV K B H S x v → HR K B H S → r x S Qi → QR K B S H Qi Q → rr v H Q
def P2Ok (K : PySem.W.Frag) (r : P2) (rr : R2) : Prop := ∀ (B : Addr → Prop) (x y : Val) (v u : V) (S : Sto) (H : Hp) (Qi : VQ) (Q : VK), RV K B H S x v → RV K B H S y u → HR K B H S → r x y S Qi → QR K B S H Qi Q → rr v u H Q
def PLOk (K : PySem.W.Frag) (r : PL) (rr : List V → Hp → VK → Prop) : Prop := ∀ (B : Addr → Prop) (xs : List Val) (vs : List V) (S : Sto) (H : Hp) (Qi : VQ) (Q : VK), RVs K B H S xs vs → HR K B H S → r xs S Qi → QR K B S H Qi Q → rr vs H Q
def PMOk (K : PySem.W.Frag) (r : Val → PL) (rr : V → List V → Hp → VK → Prop) : Prop := ∀ (B : Addr → Prop) (x : Val) (v : V) (xs : List Val) (vs : List V) (S : Sto) (H : Hp) (Qi : VQ) (Q : VK), RV K B H S x v → RVs K B H S xs vs → HR K B H S → r x xs S Qi → QR K B S H Qi Q → rr v vs H Q

section
variable {X : Cx} {K : PySem.W.Frag} {B : Addr → Prop}
/-! ### arithmetic -/
abbrev rrAdd (K : PySem.W.Frag) : R2 := fun x y H Q => (rI0 (fun i j => V.int (i + j)) x y H Q ∨ (∃ i j, x = .str i ∧ y = .str j ∧ i.length + j.length ≤ sizeLine ∧ Q (.str (i ++ j)) H)) ∨ (rCatA K x y H Q ∨ rCat x y H Q)
theorem op_addP : OpR X (binaryOp .Add) (rrAdd X.K) := (op_add.or op_add_str).or (op_catA.or op_cat)
theorem addP_ok (c : Bool) : P2Ok K (addP c) (rrAdd K) := by
  intro B x y v u S H Qi Q rx ry hr h q
  have lists : (someP (lstOf S x) fun xs => someP (lstOf S y) fun ys => xs.length + ys.length ≤ sizeLine ∧ newL c (xs ++ ys) S Qi) → rrAdd K v u H Q := fun h => by
    obtain ⟨xs, e1, h⟩ := someP_some h
    obtain ⟨ys, e2, hz, h⟩ := someP_some h
    obtain ⟨p, vs, rfl, a1, a2⟩ := lstOf_h hr rx e1
    obtain ⟨p2, us, rfl, b1, b2⟩ := lstOf_h hr ry e2
    refine .inr (.inr ⟨p, p2, vs, us, rfl, rfl, a1, b1, by rw [← a2.length, ← b2.length]; exact hz, q.lst hr (a2.append b2) h⟩)
  unfold addP at h
  split at h
  · cases rx; cases ry; exact .inl (.inl ⟨_, _, rfl, rfl, q.same hr (.int _) h⟩)
  · cases rx; cases ry; exact .inl (.inr ⟨_, _, rfl, rfl, h.1, q.same hr (.str _) h.2⟩)
  · rename_i xs ys
    cases rx with
    | tup h1 r1 =>
    cases ry with
    | tup h2 r2 =>
    obtain ⟨hz, hq⟩ := h
    refine .inr (.inl ⟨_, _, _, _, rfl, rfl, h1.sq, h2.sq, by rw [← r1.length, ← r2.length]; exact hz, fun e => ?_, fun _ e => ?_, fun _ _ => q.tup hr (r1.append r2) hq⟩)
    · subst e
      cases r1
      exact q.same hr (.tup h2 r2) hq
    · subst e
      cases r2
      rw [List.append_nil] at hq
      exact q.same hr (.tup h1 r1) hq
  · exact lists h
theorem subP_ok : P2Ok K subP (rI0 fun i j => .int (i - j)) := by
  intro B x y v u S H Qi Q rx ry hr h q
  unfold subP at h
  split at h
  · cases rx; cases ry; exact ⟨_, _, rfl, rfl, q.same hr (.int _) h⟩
  · exact h.elim
theorem fdivP_ok : P2Ok K fdivP (rI CDivW fun i j => .int (i / j)) := by
  intro B x y v u S H Qi Q rx ry hr h q
  unfold fdivP at h
  split at h
  · cases rx; cases ry; exact ⟨_, _, rfl, rfl, h.1, q.same hr (.int _) h.2⟩
  · exact h.elim
theorem modP_ok : P2Ok K modP (rI (fun _ j => 0 < j) fun i j => .int (i % j)) := by
  intro B x y v u S H Qi Q rx ry hr h q
  unfold modP at h
  split at h
  · cases rx; cases ry; exact ⟨_, _, rfl, rfl, h.1, q.same hr (.int _) h.2⟩
  · exact h.elim
theorem powP_ok : P2Ok K powP (rI CPow fun i j => .int (i ^ j.toNat)) := by
  intro B x y v u S H Qi Q rx ry hr h q
  unfold powP at h
  split at h
  · cases rx; cases ry; exact ⟨_, _, rfl, rfl, h.1, q.same hr (.int _) h.2⟩
  · exact h.elim
theorem negP_ok : P1Ok K negP (rU fun i => .int (-i)) := by
  intro B x v S H Qi Q rx hr h q
  unfold negP at h
  split at h
  · cases rx; exact ⟨_, rfl, q.same hr (.int _) h⟩
  · exact h.elim
/-! ### comparisons -/
theorem cmpP_ok (p : Int → Int → Bool) : P2Ok K (cmpP p) (rI0 fun i j => .bl (p i j)) := by
  intro B x y v u S H Qi Q rx ry hr h q
  unfold cmpP at h
  split at h
  · cases rx; cases ry; exact ⟨_, _, rfl, rfl, q.same hr (.bl _) h⟩
  · exact h.elim
theorem isNon_of {B : Addr → Prop} {H : Hp} {S : Sto} {x : Val} {v : V} (r : RV K B H S x v) : isNon x = decide (v = .non) := by
  cases r <;> first | rfl | simp [isNon]
theorem isNP_ok (X : Cx) : ∀ (B : Addr → Prop) (x : Val) (v : V) (S : Sto) (H : Hp) (Qi : VQ) (Q : VK), RV X.K B H S x v → HR X.K B H S → isNP x S Qi → QR X.K B S H Qi Q → Q (.bl (decide (v = .non))) H := by
  intro B x v S H Qi Q rx hr h q
  rw [← isNon_of rx]
  exact q.same hr (.bl _) h
theorem notNP_ok (X : Cx) : ∀ (B : Addr → Prop) (x : Val) (v : V) (S : Sto) (H : Hp) (Qi : VQ) (Q : VK), RV X.K B H S x v → HR X.K B H S → notNP x S Qi → QR X.K B S H Qi Q → Q (.bl (!decide (v = .non))) H := by
  intro B x v S H Qi Q rx hr h q
  rw [← isNon_of rx]
  exact q.same hr (.bl _) h
mutual
theorem toD_dp {B : Addr → Prop} {H : Hp} {S : Sto} : ∀ (x : Val) (v : V) (d : PyData), RV K B H S x v → toD x = some d → Dp K H v d
  | .non, _, _, h, e => by cases h; cases e; exact .non
  | .bl b, _, _, h, e => by cases h; cases e; exact .bl b
  | .int i, _, _, h, e => by cases h; cases e; exact .int i
  | .str i, _, _, h, e => by cases h; cases e; exact .str i
  | .tup xs, _, d, h, e => by
    cases h with
    | tup h1 h2 =>
      have e2 : (toDs xs).map PyData.tuple = some d := e
      cases q : toDs xs with
      | none => rw [q] at e2; cases e2
      | some ds =>
        rw [q] at e2
        cases e2
        exact .tup h1.sq (toDs_dp xs _ ds h2 q)
  | .lst xs, _, d, h, e => by
    cases h with
    | lst h1 _ h2 =>
      have e2 : (toDs xs).map PyData.list = some d := e
      cases q : toDs xs with
      | none => rw [q] at e2; cases e2
      | some ds =>
        rw [q] at e2
        cases e2
        exact .lst (SqL.of h1) (toDs_dp xs _ ds h2 q)
  | .scr _, _, _, _, e => by cases e
  | .set _, _, _, _, e => by cases e
  | .ins _ _ _, _, _, _, e => by cases e
  | .ref _, _, _, _, e => by cases e
  | .ty _, _, _, _, e => by cases e
  | .fn _, _, _, _, e => by cases e
theorem toDs_dp {B : Addr → Prop} {H : Hp} {S : Sto} : ∀ (xs : List Val) (vs : List V) (ds : List PyData), RVs K B H S xs vs → toDs xs = some ds → DpAll K H vs ds
  | [], _, _, h, e => by cases h; cases e; exact .nil
  | x :: xs, _, ds, h, e => by
    cases h with
    | cons h1 h2 =>
      have e2 : (match toD x, toDs xs with
        | some d, some ds => some (d :: ds)
        | _, _ => none) = some ds := e
      split at e2
      · rename_i d ds' q1 q2
        cases e2
        exact .cons (toD_dp x _ d h1 q1) (toDs_dp xs _ ds' h2 q2)
      · cases e2
end
theorem datOf_dp {B : Addr → Prop} {H : Hp} {S : Sto} {x : Val} {v : V} {d : PyData} (hr : HR K B H S) (r : RV K B H S x v) (e : datOf S x = some d) : Dp K H v d ∧ SeqAt.shaped d = true := by
  have main : ∀ x v, RV K B H S x v → (match toD x with
      | some d => if SeqAt.shaped d = true then some d else none
      | none => none) = some d → Dp K H v d ∧ SeqAt.shaped d = true := fun x v r e => by
    cases q : toD x with
    | none => rw [q] at e; cases e
    | some d' =>
      rw [q] at e
      by_cases hs : SeqAt.shaped d' = true
      · have e2 : (if SeqAt.shaped d' = true then some d' else none) = some d := e
        rw [if_pos hs] at e2
        cases e2
        exact ⟨toD_dp x v d r q, hs⟩
      · have e2 : (if SeqAt.shaped d' = true then some d' else none) = some d := e
        rw [if_neg hs] at e2
        cases e2
  cases x with
  | ref a =>
    cases r
    have e2 : (match S a with
      | some (.lst xs) => (match toD (.lst xs) with
        | some d => if SeqAt.shaped d = true then some d else none
        | none => none)
      | _ => none) = some d := e
    split at e2
    · rename_i xs q
      obtain ⟨vs, h1, h2⟩ := hr.ok a _ q
      cases q2 : toDs xs with
      | none =>
        have z : toD (.lst xs) = none := by show (toDs xs).map PyData.list = none; rw [q2]; rfl
        rw [z] at e2
        cases e2
      | some ds =>
        have z : toD (.lst xs) = some (.list ds) := by show (toDs xs).map PyData.list = _; rw [q2]; rfl
        rw [z] at e2
        have e3 : (if SeqAt.shaped (.list ds) = true then some (PyData.list ds) else none) = some d := e2
        by_cases hs : SeqAt.shaped (.list ds) = true
        · rw [if_pos hs] at e3
          cases e3
          exact ⟨.lst (SqL.of h1) (toDs_dp xs _ ds h2 q2), hs⟩
        · rw [if_neg hs] at e3
          cases e3
    · cases e2
  | _ => exact main _ v r e
theorem scalEq_ok {B : Addr → Prop} {H : Hp} {S : Sto} {x y : Val} {v u : V} {b : Bool} (rx : RV K B H S x v) (ry : RV K B H S y u) (e : scalEq x y = some b) : scal v u = true ∧ decide (v = u) = b := by
  unfold scalEq at e
  split at e <;> first
    | (cases e; cases rx; cases ry; exact ⟨rfl, by simp⟩)
    | cases e
theorem eqP_ok : P2Ok K eqP (fun x y H Q => rEq x y H Q ∨ rEqD K x y H Q) := by
  intro B x y v u S H Qi Q rx ry hr h q
  obtain ⟨b, e, h⟩ := someP_some h.h
  unfold eqOf at e
  split at e
  · rename_i b' q1
    cases e
    obtain ⟨h1, h2⟩ := scalEq_ok rx ry q1
    exact .inl ⟨h1, by rw [h2]; exact q.same hr (.bl _) h⟩
  · split at e
    · rename_i d d' q1 q2
      cases e
      obtain ⟨a1, a2⟩ := datOf_dp hr rx q1
      obtain ⟨b1, b2⟩ := datOf_dp hr ry q2
      exact .inr ⟨d, d', a1, b1, a2, b2, q.same hr (.bl _) h⟩
    · cases e
theorem neP_ok : P2Ok K neP (fun x y H Q => rNe x y H Q ∨ rNeD K x y H Q) := by
  intro B x y v u S H Qi Q rx ry hr h q
  obtain ⟨b, e, h⟩ := someP_some h.h
  unfold eqOf at e
  split at e
  · rename_i b' q1
    cases e
    obtain ⟨h1, h2⟩ := scalEq_ok rx ry q1
    exact .inl ⟨h1, by rw [h2]; exact q.same hr (.bl _) h⟩
  · split at e
    · rename_i d d' q1 q2
      cases e
      obtain ⟨a1, a2⟩ := datOf_dp hr rx q1
      obtain ⟨b1, b2⟩ := datOf_dp hr ry q2
      exact .inr ⟨d, d', a1, b1, a2, b2, q.same hr (.bl _) h⟩
    · cases e
/-! ### built-ins -/
theorem vs1 {B : Addr → Prop} {H : Hp} {S : Sto} {x : Val} {vs : List V} (r : RVs K B H S [x] vs) : ∃ v, vs = [v] ∧ RV K B H S x v := by
  cases r with
  | cons h t =>
    cases t
    exact ⟨_, rfl, h⟩
theorem vs2 {B : Addr → Prop} {H : Hp} {S : Sto} {x y : Val} {vs : List V} (r : RVs K B H S [x, y] vs) : ∃ v u, vs = [v, u] ∧ RV K B H S x v ∧ RV K B H S y u := by
  cases r with
  | cons h t =>
    obtain ⟨u, rfl, h2⟩ := vs1 t
    exact ⟨_, _, rfl, h, h2⟩
theorem vs0 {B : Addr → Prop} {H : Hp} {S : Sto} {vs : List V} (r : RVs K B H S [] vs) : vs = [] := by
  cases r
  rfl
abbrev rrLen (K : PySem.W.Frag) : List V → Hp → VK → Prop := fun xs H Q => (∃ p ys, xs = [.ref p] ∧ (SqL K H p ys ∨ SqT K H p ys) ∧ Q (.int ys.length) H) ∨ ∃ z, xs = [.str z] ∧ z.length ≤ sizeLine ∧ Q (.int z.length) H
theorem lenP_ok : PLOk K lenP (rrLen K) := by
  intro B xs vs S H Qi Q r hr h q
  unfold lenP at h
  split at h
  · obtain ⟨v, rfl, r1⟩ := vs1 r
    cases r1
    exact .inr ⟨_, rfl, h.1, q.same hr (.int _) h.2⟩
  · obtain ⟨v, rfl, r1⟩ := vs1 r
    cases r1 with
    | kt k r2 => exact .inl ⟨_, _, rfl, .inr k.at.sq, by rw [← r2.length]; exact q.same hr (.int _) h⟩
  · obtain ⟨v, rfl, r1⟩ := vs1 r
    obtain ⟨ys, e, h⟩ := someP_some h
    obtain ⟨p, us, rfl, h1, h2⟩ := seqOf_sq hr r1 e
    refine .inl ⟨p, us, rfl, ?_, by rw [← h2.length]; exact q.same hr (.int _) h⟩
    rcases h1 with h1 | h1
    · exact .inl h1.1
    · exact .inr h1.1
  · exact h.elim
theorem absP_ok : PLOk K absP (fun xs H Q => ∃ i, xs = [.int i] ∧ Q (.int (if i < 0 then -i else i)) H) := by
  intro B xs vs S H Qi Q r hr h q
  unfold absP at h
  split at h
  · obtain ⟨v, rfl, r1⟩ := vs1 r
    cases r1
    exact ⟨_, rfl, q.same hr (.int _) h⟩
  · exact h.elim
theorem intP_ok : PLOk K intP (fun xs H Q => (∃ i, xs = [.int i] ∧ Q (.int i) H) ∨ ∃ k, xs = [.bl k] ∧ Q (.int (if k then 1 else 0)) H) := by
  intro B xs vs S H Qi Q r hr h q
  unfold intP at h
  split at h
  · obtain ⟨v, rfl, r1⟩ := vs1 r
    cases r1
    exact .inl ⟨_, rfl, q.same hr (.int _) h⟩
  · obtain ⟨v, rfl, r1⟩ := vs1 r
    cases r1
    exact .inr ⟨_, rfl, q.same hr (.int _) h⟩
  · exact h.elim
theorem listP_ok (c : Bool) : PLOk K (listP c) (fun xs H Q => ∃ p ys, xs = [.ref p] ∧ (SqL K H p ys ∨ SqT K H p ys) ∧ ∀ l, H l = none → Q (.ref l) (upd H l (.lst ys))) := by
  intro B xs vs S H Qi Q r hr h q
  unfold listP at h
  split at h
  · obtain ⟨v, rfl, r1⟩ := vs1 r
    obtain ⟨ys, e, h⟩ := someP_some h
    obtain ⟨p, us, rfl, h1, h2⟩ := seqOf_sq hr r1 e
    refine ⟨p, us, rfl, ?_, q.lst hr h2 h⟩
    rcases h1 with h1 | h1
    · exact .inl h1.1
    · exact .inr h1.1
  · exact h.elim
theorem tupleP_ok : PLOk K tupleP (fun xs H Q => ∃ p ys, xs = [.ref p] ∧ ((SqL K H p ys ∧ ∀ l, H l = none → Q (.ref l) (upd H l (.tup ys))) ∨ (SqT K H p ys ∧ Q (.ref p) H))) := by
  intro B xs vs S H Qi Q r hr h q
  unfold tupleP at h
  split at h
  · obtain ⟨v, rfl, r1⟩ := vs1 r
    cases r1 with
    | kt k r2 => exact ⟨_, _, rfl, .inr ⟨k.at.sq, q.same hr (.kt k r2) h⟩⟩
  · obtain ⟨v, rfl, r1⟩ := vs1 r
    obtain ⟨ys, e, h⟩ := someP_some h
    obtain ⟨p, us, rfl, h1, h2⟩ := seqOf_sq hr r1 e
    refine ⟨p, us, rfl, ?_⟩
    rcases h1 with h1 | h1
    · exact .inl ⟨h1.1, q.tup hr h2 h⟩
    · exact .inr ⟨h1.1, q.same hr (.tup h1.2.1 h2) h⟩
  · exact h.elim
theorem ints_sq {B : Addr → Prop} {H : Hp} {S : Sto} {x : Val} {v : V} {xs : List Val} {ns : List Int} (hr : HR K B H S) (r : RV K B H S x v) (e : lsqOf S x = some xs) (e2 : intsOf xs = some ns) : ∃ p, v = .ref p ∧ SqL K H p (ns.map V.int) := by
  obtain ⟨p, vs, rfl, h1, h2⟩ := lsqOf_sq hr r e
  rw [h2.ints e2] at h1
  exact ⟨p, rfl, h1⟩
/-- max(xs) of a tuple of ints -/
def rMaxT (K : PySem.W.Frag) : List V → Hp → VK → Prop := fun vs H Q => ∃ (a : Addr) (ns : List Int), vs = [V.ref a] ∧ SqT K H a (ns.map V.int) ∧ 0 < ns.length ∧ ∀ m, m ∈ ns → (∀ y, y ∈ ns → y ≤ m) → Q (.int m) H
theorem maxP_ok : PLOk K maxP (fun xs H Q => ((∃ i j, xs = [.int i, .int j] ∧ Q (.int (if j > i then j else i)) H) ∨ rMax K xs H Q) ∨ rMaxT K xs H Q) := by
  intro B xs vs S H Qi Q r hr h q
  unfold maxP at h
  split at h
  · obtain ⟨v, u, rfl, r1, r2⟩ := vs2 r
    cases r1; cases r2
    exact .inl (.inl ⟨_, _, rfl, q.same hr (.int _) h⟩)
  · obtain ⟨v, rfl, r1⟩ := vs1 r
    obtain ⟨ys, e, h⟩ := someP_some h
    obtain ⟨ns, e2, h0, h⟩ := someP_some h
    obtain ⟨p, us, rfl, h1, h2⟩ := seqOf_sq hr r1 e
    rw [h2.ints e2] at h1
    rcases h1 with h1 | h1
    · exact .inl (.inr ⟨p, ns, rfl, h1.1, h0, fun m h2 h3 => q.same hr (.int m) (h m h2 h3)⟩)
    · exact .inr ⟨p, ns, rfl, h1.1, h0, fun m h2 h3 => q.same hr (.int m) (h m h2 h3)⟩
  · exact h.elim
theorem minP_ok : PLOk K minP (fun xs H Q => (∃ i j, xs = [.int i, .int j] ∧ Q (.int (if j < i then j else i)) H) ∨ rMin K xs H Q) := by
  intro B xs vs S H Qi Q r hr h q
  unfold minP at h
  split at h
  · obtain ⟨v, u, rfl, r1, r2⟩ := vs2 r
    cases r1; cases r2
    exact .inl ⟨_, _, rfl, q.same hr (.int _) h⟩
  · obtain ⟨v, rfl, r1⟩ := vs1 r
    obtain ⟨ys, e, h⟩ := someP_some h
    obtain ⟨ns, e2, h0, h⟩ := someP_some h
    obtain ⟨p, rfl, h1⟩ := ints_sq hr r1 e e2
    exact .inr ⟨p, ns, rfl, h1, h0, fun m h2 h3 => q.same hr (.int m) (h m h2 h3)⟩
  · exact h.elim
theorem sumP_ok : PLOk K sumP (rSum K) := by
  intro B xs vs S H Qi Q r hr h q
  unfold sumP at h
  split at h
  · obtain ⟨v, rfl, r1⟩ := vs1 r
    obtain ⟨ys, e, h⟩ := someP_some h
    obtain ⟨ns, e2, h⟩ := someP_some h
    obtain ⟨p, rfl, h1⟩ := ints_sq hr r1 e e2
    exact ⟨p, ns, rfl, h1, q.same hr (.int _) h⟩
  · exact h.elim
/-! ### places, slices -/
theorem RVs.at {B : Addr → Prop} {H : Hp} {S : Sto} {xs : List Val} {vs : List V} {i : Int} {x : Val} (r : RVs K B H S xs vs) (h : atI xs i = some x) : ∃ v, atI vs i = some v ∧ RV K B H S x v := by
  unfold atI at h ⊢
  rw [← r.length]
  cases e : ixN xs.length i with
  | none => rw [e] at h; cases h
  | some j =>
    rw [e] at h
    exact r.get (i := j) (x := x) h
/-! ### dicts -/
theorem dGet_val {k : Key} : ∀ {kvs : List (Key × Val)} {us : List (Key × V)}, us.map (·.1) = kvs.map (·.1) → RVs K B H S (kvs.map (·.2)) (us.map (·.2)) →
    (dGet kvs k = none → valV us k = none) ∧ ∀ v, dGet kvs k = some v → ∃ x, valV us k = some x ∧ RV K B H S v x
  | [], [], _, _ => ⟨fun _ => rfl, fun v e => by cases e⟩
  | [], _ :: _, e, _ => by cases e
  | _ :: _, [], e, _ => by cases e
  | (j, w) :: kvs, (i, y) :: us, e, r => by
    have e1 : i = j := (List.cons.inj e).1
    have e2 : us.map (·.1) = kvs.map (·.1) := (List.cons.inj e).2
    subst e1
    cases r with
    | cons r1 r2 =>
      by_cases h : i = k
      · have d1 : dGet ((i, w) :: kvs) k = some w := by simp [dGet, List.find?_cons, h]
        rw [d1, valV_pos h]
        exact ⟨fun z => (by cases z), fun v z => (by cases z; exact ⟨y, rfl, r1⟩)⟩
      · have d1 : dGet ((i, w) :: kvs) k = dGet kvs k := by simp [dGet, List.find?_cons, h]
        rw [d1, valV_neg h]
        exact dGet_val e2 r2
theorem dAny {k : Key} : ∀ {kvs : List (Key × Val)} {us : List (Key × V)}, us.map (·.1) = kvs.map (·.1) → (us.any fun kv => decide (kv.1 = k)) = (kvs.any fun kv => decide (kv.1 = k))
  | [], [], _ => rfl
  | [], _ :: _, e => by cases e
  | _ :: _, [], e => by cases e
  | (j, w) :: kvs, (i, y) :: us, e => by
    have e1 : i = j := (List.cons.inj e).1
    have e2 : us.map (·.1) = kvs.map (·.1) := (List.cons.inj e).2
    subst e1
    rw [List.any_cons, List.any_cons, dAny e2]
theorem dMap {k : Key} {v : Val} {x : V} (rv : RV K B H S v x) : ∀ {kvs : List (Key × Val)} {us : List (Key × V)}, us.map (·.1) = kvs.map (·.1) → RVs K B H S (kvs.map (·.2)) (us.map (·.2)) →
    (us.map (fun kv => if kv.1 = k then (kv.1, x) else kv)).map (·.1) = (kvs.map (fun kv => if kv.1 = k then (kv.1, v) else kv)).map (·.1) ∧
      RVs K B H S ((kvs.map (fun kv => if kv.1 = k then (kv.1, v) else kv)).map (·.2)) ((us.map (fun kv => if kv.1 = k then (kv.1, x) else kv)).map (·.2))
  | [], [], _, _ => ⟨rfl, .nil⟩
  | [], _ :: _, e, _ => by cases e
  | _ :: _, [], e, _ => by cases e
  | (j, w) :: kvs, (i, y) :: us, e, r => by
    have e1 : i = j := (List.cons.inj e).1
    have e2 : us.map (·.1) = kvs.map (·.1) := (List.cons.inj e).2
    subst e1
    cases r with
    | cons r1 r2 =>
      obtain ⟨h1, h2⟩ := dMap (k := k) rv e2 r2
      by_cases h : i = k
      · simp only [List.map_cons, if_pos h]
        exact ⟨by rw [h1], .cons rv h2⟩
      · simp only [List.map_cons, if_neg h]
        exact ⟨by rw [h1], .cons r1 h2⟩
theorem dPut_put {k : Key} {v : Val} {x : V} (rv : RV K B H S v x) {kvs : List (Key × Val)} {us : List (Key × V)} (e : us.map (·.1) = kvs.map (·.1)) (r : RVs K B H S (kvs.map (·.2)) (us.map (·.2))) :
    (putK us k x).map (·.1) = (dPut kvs k v).map (·.1) ∧ RVs K B H S ((dPut kvs k v).map (·.2)) ((putK us k x).map (·.2)) := by
  unfold putK dPut
  rw [dAny e]
  split
  · exact dMap rv e r
  · refine ⟨?_, ?_⟩
    · rw [List.map_append, List.map_append, e]
      rfl
    · rw [List.map_append, List.map_append]
      exact r.append (.cons rv .nil)
theorem keyV_kV {v : Val} {x : V} {k : Key} (r : RV K B H S v x) (h : keyV v = some k) : x = kV k := by
  cases r <;> cases h <;> rfl
abbrev rDict : R2 := fun x y H Q => ∃ a v, x = .ref a ∧ DGet H a y (some v) ∧ Q v H
theorem ix_dict {X : Cx} (hu : X.A.units + 2 < cLine) : IxR X rDict := by
  intro value slice pins s σ H x y v u Q I rx ry h hs
  obtain ⟨a, w, rfl, g, q⟩ := h
  obtain rfl : v = Value.ref a := rx
  have hT := dict_typeIs I g
  unfold subscriptTail
  refine wpAny_bind ?_
  rw [getitemInPython_of_ne hT.not_modules]
  refine wpAny_bind (wpAny_specialOf hT PySem.F.slot_dict_getitem.lookup ?_)
  have fin : wpAny (model X.prog X.w) X.A (subscripted slice false (.ref a) u) (fun r s₃ => wpAny (model X.prog X.w) X.A (letTemporaryGo value (.ref a) r >>= fun _ => pure r) (EP X pins σ Q) X.xe s₃) X.xe s := by
    rw [hs]
    exact wpAny_operating (d_getItem (by omega) I g ry fun w' s3 I3 rw' => wpAny_bind (wpAny_letTemporaryGo (wpAny_pure ⟨w, H, I3, rw', q⟩)))
  first
    | exact wpAny_pure (wpAny_bind fin)
    | exact wpAny_bind (wpAny_pure (wpAny_bind fin))
    | exact wpAny_bind fin
abbrev rrIx (K : PySem.W.Frag) : R2 := fun x y H Q => rIx K x y H Q ∨ rDict x y H Q
theorem ixP_ok : P2Ok K ixP (rrIx K) := by
  intro B x y v u S H Qi Q rx ry hr h q
  replace h := h.h
  unfold ixP0 at h
  split at h
  · cases rx; cases ry
    obtain ⟨hz, h⟩ := h
    obtain ⟨c, e, h⟩ := someP_some h
    exact .inl (.inr (.inr ⟨_, _, c, rfl, rfl, hz, e, q.same hr (.str _) h⟩))
  · cases rx
    split at h
    · rename_i xs q0
      split at h
      · cases ry
        obtain ⟨w, e2, h⟩ := someP_some h
        obtain ⟨vs, h1, h2⟩ := hr.ok _ _ q0
        obtain ⟨w', e3, rw'⟩ := h2.at e2
        exact .inl (.inl ⟨_, vs, _, w', rfl, rfl, SqL.of h1, e3, q.same hr rw' h⟩)
      · exact h.elim
    · rename_i kvs q0
      obtain ⟨k, e1, h⟩ := someP_some h
      obtain ⟨w, e2, h⟩ := someP_some h
      obtain ⟨us, h1, h2, h3⟩ := hr.ok _ _ q0
      obtain ⟨z, e3, rz⟩ := (dGet_val h2 h3).2 w e2
      refine .inr ⟨_, z, rfl, ?_, q.same hr rz h⟩
      rw [keyV_kV ry e1, ← e3]
      exact DGet.k h1
    · exact h.elim
  · cases ry
    obtain ⟨xs, e, h⟩ := someP_some h
    obtain ⟨w, e2, h⟩ := someP_some h
    obtain ⟨p, vs, rfl, h1, h2⟩ := seqOf_sq hr rx e
    obtain ⟨w', e3, rw'⟩ := h2.at e2
    rcases h1 with h1 | h1
    · exact .inl (.inl ⟨p, vs, _, w', rfl, rfl, h1.1, e3, q.same hr rw' h⟩)
    · exact .inl (.inr (.inl ⟨p, vs, _, w', rfl, rfl, h1.1, e3, q.same hr rw' h⟩))
  · exact h.elim
theorem cutL_length {α : Type} {xs : List α} {lo hi : Option Int} : (cutL xs lo hi).length ≤ xs.length := by
  unfold cutL
  rw [List.length_take, List.length_drop]
  omega
theorem cutL_whole {α : Type} {xs : List α} {lo hi : Option Int} (h : HT.sIx xs.length 0 lo = 0 ∧ HT.sIx xs.length xs.length hi = xs.length) : cutL xs lo hi = xs := by
  unfold cutL
  rw [h.1, h.2]
  simp
theorem RVs.cut {B : Addr → Prop} {H : Hp} {S : Sto} {xs : List Val} {vs : List V} {lo hi : Option Int} (r : RVs K B H S xs vs) : RVs K B H S (cutL xs lo hi) (cutV vs lo hi) := by
  unfold cutL cutV
  rw [r.length]
  exact (r.drop _).take _
abbrev rrSl (K : PySem.W.Frag) : V → Option Int → Option Int → Hp → VK → Prop := fun x lo hi H Q => rSlA K x lo hi H Q ∨ rSlL K x lo hi H Q
theorem sl_P : SlR X (rrSl X.K) := sl_tupA.or sl_list
theorem cutP_ok {c : Bool} {x : Val} {v : V} {lo hi : Option Int} {S : Sto} {H : Hp} {Qi : VQ} {Q : VK} (rx : RV K B H S x v) (hr : HR K B H S) (h : cutP c x lo hi S Qi) (q : QR K B S H Qi Q) : rrSl K v lo hi H Q := by
  unfold cutP at h
  split at h
  · cases rx with
    | tup h1 h2 =>
      refine .inl ⟨_, _, rfl, h1.sq, fun hw => ?_, fun _ => q.tup hr h2.cut h⟩
      rw [← h2.length] at hw
      rw [cutL_whole hw] at h
      exact q.same hr (.tup h1 h2) h
  · obtain ⟨xs, e, h⟩ := someP_some h
    obtain ⟨p, vs, rfl, h1, h2⟩ := lsqOf_sq hr rx e
    exact .inr ⟨p, vs, rfl, h1, q.lst hr h2.cut h⟩
end
end TL

/-! TL4: syntax: each construct's plain meaning, lifted, is a reading of it. -/
namespace TL
open PySem PySem.Spec L2
open PyProof.Rows hiding St

/-! ### premises of the layer's rules, for any expression -/
def starB : Expr → Bool
  | .Starred .. => true
  | _ => false
theorem starEach_one {e : Expr} {es : List Expr} {env : Env} (h : starB e = false) : starEach (e :: es) env = (false, eval e env) :: starEach es env := by
  cases e <;> first | rfl | cases h
theorem backTo_plain {pos : Pos} {env : Env} : ∀ {es : List Expr}, es.any starB = false → (backTo pos (starEach es env)).any (·.1) = false
  | [], _ => rfl
  | e :: es, h => by
    have h1 : (starB e || es.any starB) = false := h
    cases he : starB e with
    | true => rw [he] at h1; cases h1
    | false =>
      rw [he] at h1
      rw [starEach_one he]
      show (false || (backTo pos (starEach es env)).any (·.1)) = false
      rw [backTo_plain h1]
      rfl
theorem backTo_all {pos : Pos} {env : Env} : ∀ {es : List Expr}, es.any starB = false → (backTo pos (starEach es env)).all (fun x => !x.1) = true
  | [], _ => rfl
  | e :: es, h => by
    have h1 : (starB e || es.any starB) = false := h
    cases he : starB e with
    | true => rw [he] at h1; cases h1
    | false =>
      rw [he] at h1
      rw [starEach_one he]
      show (true && (backTo pos (starEach es env)).all (fun x => !x.1)) = true
      rw [backTo_all h1]
      rfl
/-- a test that is its value's truth -/
def plainTest : Expr → Bool
  | .UnaryOp .Not .. => false
  | .BoolOp .. => false
  | .IfExp .. => false
  | .Compare .. => false
  | _ => true
theorem isTrue_of_plain {e : Expr} {env : Env} (h : plainTest e = true) (whole : Sem Value) : isTrue e env whole = (do let v ← whole; standAt e.pos; holding [v] (truthy v)) := by
  cases e with
  | UnaryOp op x pos => cases op <;> first | rfl | cases h
  | BoolOp => cases h
  | IfExp => cases h
  | Compare => cases h
  | _ => rfl
def plainBase : Expr → Bool
  | .Call (.Name _ _) [] [] _ => false
  | _ => true
theorem base_of {o : Expr} {f : Str} {env : Env} (h : plainBase o = true) : attributeBase o f env (eval o env) = eval o env := by
  unfold attributeBase
  split
  · cases h
  · rfl
def compB : Expr → Bool
  | .ListComp .. | .SetComp .. | .DictComp .. => true
  | _ => false
theorem swaps_no {e : Expr} {t : Option Expr} {l : Nat} {env : Env} (h : compB e = false) : swapsWith e t l env = pure false := by
  cases e <;> first | rfl | cases h
theorem swapsSole_no {e tg : Expr} {l : Nat} {env : Env} (h : compB e = false) : swapsWithSole [tg] e l env = pure false := swaps_no h
def setB : Expr → Bool
  | .Set .. => true
  | _ => false
theorem marks_no {op : CmpOp} {b : Expr} (h : setB b = false) : behindInMarks op b = false := by
  cases b <;> first | rfl | cases h
def sliceB : Expr → Bool
  | .Slice .. => true
  | _ => false
theorem plainIx_of {b : Expr} (h : sliceB b = false) : PlainIx b := fun o i => by
  cases b <;> first | rfl | cases h
theorem folded_no {iter : Expr} {env : Env} (h : setB iter = false) (x : Value) : foldedSetIterable iter env x = pure x := by
  cases iter <;> first | rfl | cases h

section
variable {X : Cx} {W : WX} {a b c e o : Expr} {es : List Expr} {ma mb me mo : IE} {ta tb : IT} {pos : Pos} {K : PySem.W.Frag} {B : Addr → Prop}

/-! ### names, constants -/
theorem se_var {i : Nat} {x : Str} (hN : X.N[i]? = some x) (hv : Vis X.env.scope x) (hd : (x == ("__debug__" : Str)) = false) (hcd : (x == ("__classdict__" : Str)) = false) : PE X (.Name x pos) (liftE X.K W (varI i)) :=
  (pe_var hN hv hd hcd).imp fun σ H Q ⟨ρ, S, B, Qi, Ei, R, h, q, _⟩ => by
    obtain ⟨v, e, h⟩ := getS_some h
    obtain ⟨x, e2, r⟩ := R.st.2 i v e
    exact ⟨x, e2, q.same R.hr r h⟩
theorem con_imp {v : Val} {x : V} (r : ∀ B H S, RV K B H S v x) : ∀ σ H Q, liftE K W (conI v) σ H Q → tC x σ H Q := fun σ H Q ⟨ρ, S, B, Qi, Ei, R, h, q, _⟩ => q.same R.hr (r B H S) h
theorem se_int {i : Int} {j : Nat} : PE X (.Constant (.int i) j pos) (liftE X.K W (conI (.int i))) := pe_int.imp (con_imp fun _ _ _ => .int i)
theorem se_bl {i : Bool} {j : Nat} : PE X (.Constant (.bool i) j pos) (liftE X.K W (conI (.bl i))) := pe_bl.imp (con_imp fun _ _ _ => .bl i)
theorem se_str {i : Str} {j : Nat} : PE X (.Constant (.str i) j pos) (liftE X.K W (conI (.str i))) := pe_str.imp (con_imp fun _ _ _ => .str i)
theorem se_non {j : Nat} : PE X (.Constant .none j pos) (liftE X.K W (conI .non)) := pe_non.imp (con_imp fun _ _ _ => .non)
theorem se_glob {x : Str} {v : Val} {y : V} {u : Value} (hg : Gl X x) (hm : X.mg x = some u) (r : RelV y u) (rv : ∀ B H S, RV X.K B H S v y) (hd : (x == ("__debug__" : Str)) = false) : PE X (.Name x pos) (liftE X.K W (conI v)) := (pe_glob hg hm r hd).imp (con_imp rv)
theorem se_no : PE X e (liftE X.K W noI) := ⟨fun _ _ _ _ _ _ ⟨_, _, _, _, _, _, h, _⟩ => h.elim⟩

/-! ### operators -/
theorem un_imp {r : P1} {rr : V → Hp → VK → Prop} (hr : P1Ok K r rr) : ∀ σ H Q, liftE K W (un1 r ma) σ H Q → tUn rr (liftE K W ma) σ H Q := fun σ H Q ⟨ρ, S, B, Qi, Ei, R, h, q, er⟩ =>
  ⟨ρ, S, B, _, Ei, R, h, fun v S1 x H1 rv hr1 e h1 => hr B v x S1 H1 Qi Q rv hr1 h1 (q.ext e), er⟩
theorem bin_imp {r : P2} {rr : R2} (hr : P2Ok K r rr) : ∀ σ H Q, liftE K W (bin2 r ma mb) σ H Q → tOp rr (liftE K W ma) (liftE K W mb) σ H Q := fun σ H Q ⟨ρ, S, B, Qi, Ei, R, h, q, er⟩ =>
  ⟨ρ, S, B, _, Ei, R, h, fun v S1 x H1 rv hr1 e1 h1 => ⟨ρ, S1, B, _, Ei, R.ext e1 hr1, h1, fun u S2 y H2 ru hr2 e2 h2 => hr B v u x y S2 H2 Qi Q (rv.ext e2) ru hr2 h2 (q.ext (e1.trans e2)), er.ext e1⟩, er⟩
theorem se_un {op : UnaryOp} {r : P1} {rr : V → Hp → VK → Prop} (ho : UnR X (unaryOp op) rr) (hr : P1Ok X.K r rr) (ha : PE X a (liftE X.K W ma)) : PE X (.UnaryOp op a pos) (liftE X.K W (un1 r ma)) := (pe_un ho ha).imp (un_imp hr)
theorem se_bin {op : Operator} {r : P2} {rr : R2} (ho : OpR X (binaryOp op) rr) (hr : P2Ok X.K r rr) (ha : PE X a (liftE X.K W ma)) (hb : PE X b (liftE X.K W mb)) : PE X (.BinOp a op b pos) (liftE X.K W (bin2 r ma mb)) := (pe_op ho ha hb).imp (bin_imp hr)
theorem se_cmp {op : CmpOp} {r : P2} {rr : R2} (ho : OpR X (compareOp op) rr) (hr : P2Ok X.K r rr) (ha : PE X a (liftE X.K W ma)) (hb : PE X b (liftE X.K W mb)) (hm : behindInMarks op b = false) : PE X (.Compare a [op] [b] pos) (liftE X.K W (bin2 r ma mb)) := (pe_cmpR ho ha hb hm).imp (bin_imp hr)
theorem se_isN {j : Nat} {p : Pos} (ha : PE X a (liftE X.K W ma)) : PE X (.Compare a [.Is] [.Constant .none j p] pos) (liftE X.K W (un1 isNP ma)) :=
  (pe_cmp (pc_isN ha) rfl).imp (un_imp (rr := fun x H Q => Q (.bl (decide (x = .non))) H) (isNP_ok X))
theorem se_notN {j : Nat} {p : Pos} (ha : PE X a (liftE X.K W ma)) : PE X (.Compare a [.IsNot] [.Constant .none j p] pos) (liftE X.K W (un1 notNP ma)) :=
  (pe_cmp (pc_notN ha) rfl).imp (un_imp (rr := fun x H Q => Q (.bl (!decide (x = .non))) H) (notNP_ok X))

/-! ### tests -/
theorem tstB_imp {te : TE} (hi : ∀ σ H Q, liftE K W ma σ H Q → te σ H Q) : ∀ σ H Q, liftT K W (tstB ma) σ H Q → te σ H fun x H' => ∃ k, x = .bl k ∧ Q k H' := fun σ H Q ⟨ρ, S, B, Qi, Ei, R, h, q, er⟩ => hi _ _ _
  ⟨ρ, S, B, _, Ei, R, h, fun v S1 x H1 rv hr1 e h1 => by
    cases rv <;> first
      | exact ⟨_, rfl, q _ S1 H1 hr1 e h1⟩
      | exact (show False from h1).elim, er⟩
theorem st_cmp {op : CmpOp} {r : P2} {rr : R2} (ho : OpR X (compareOp op) rr) (hr : P2Ok X.K r rr) (ha : PE X a (liftE X.K W ma)) (hb : PE X b (liftE X.K W mb)) (hm : behindInMarks op b = false) : PT X (.Compare a [op] [b] pos) (liftT X.K W (tstB (bin2 r ma mb))) :=
  (pt_cmpR ho ha hb hm).imp (tstB_imp (bin_imp hr))
theorem st_isN {j : Nat} {p : Pos} (ha : PE X a (liftE X.K W ma)) : PT X (.Compare a [.Is] [.Constant .none j p] pos) (liftT X.K W (tstB (un1 isNP ma))) :=
  (pt_cmp (pc_isN ha) rfl).imp (tstB_imp (un_imp (rr := fun x H Q => Q (.bl (decide (x = .non))) H) (isNP_ok X)))
theorem st_notN {j : Nat} {p : Pos} (ha : PE X a (liftE X.K W ma)) : PT X (.Compare a [.IsNot] [.Constant .none j p] pos) (liftT X.K W (tstB (un1 notNP ma))) :=
  (pt_cmp (pc_notN ha) rfl).imp (tstB_imp (un_imp (rr := fun x H Q => Q (.bl (!decide (x = .non))) H) (notNP_ok X)))
theorem isEmpty_rvs {B : Addr → Prop} {H : Hp} {S : Sto} {xs : List Val} {vs : List V} (r : RVs K B H S xs vs) : xs.isEmpty = vs.isEmpty := by
  cases r <;> rfl
theorem truOf_tru {B : Addr → Prop} {H : Hp} {S : Sto} {x : Val} {v : V} {k : Bool} (r : RV K B H S x v) (hr : HR K B H S) (h : truOf S x = some k) : TruV K v H k := by
  cases r with
  | non => cases h; exact rfl
  | bl b => cases h; exact rfl
  | int i => cases h; exact rfl
  | str z =>
    have h2 : (if z.length ≤ sizeLine then some ((z.length : Int) != 0) else none) = some k := h
    by_cases hz : z.length ≤ sizeLine
    · rw [if_pos hz] at h2
      cases h2
      exact ⟨hz, rfl⟩
    · rw [if_neg hz] at h2
      cases h2
  | tup h1 h2 =>
    cases h
    exact .inr (.inl ⟨_, h1.sq, by rw [isEmpty_rvs h2]⟩)
  | lst h1 _ h2 =>
    cases h
    exact .inl ⟨_, SqL.of h1, by rw [isEmpty_rvs h2]⟩
  | ref a =>
    have h2 : (match S a with | some (.lst xs) => some (!xs.isEmpty) | _ => none) = some k := h
    split at h2
    · rename_i xs q
      cases h2
      obtain ⟨vs, h3, h4⟩ := hr.ok a _ q
      exact .inl ⟨vs, SqL.of h3, by rw [isEmpty_rvs h4]⟩
    · cases h2
  | _ => cases h
theorem st_tru (hp : plainTest a = true) (ha : PE X a (liftE X.K W ma)) : PT X a (liftT X.K W (tst ma)) :=
  (pt_truth ha (isTrue_of_plain hp)).imp fun σ H Q ⟨ρ, S, B, Qi, Ei, R, h, q, er⟩ => ⟨ρ, S, B, _, Ei, R, h, fun v S1 x H1 rv hr1 e h1 => by
    obtain ⟨k, e1, h2⟩ := someP_some h1
    exact ⟨k, truOf_tru rv hr1 e1, q k S1 H1 hr1 e h2⟩, er⟩
theorem not_imp : ∀ σ H Q, liftT K W (notT ta) σ H Q → tNot (liftT K W ta) σ H Q := fun σ H Q ⟨ρ, S, B, Qi, Ei, R, h, q, er⟩ => ⟨ρ, S, B, _, Ei, R, h, fun k S1 H1 hr1 e h1 => (by cases k <;> exact q _ S1 H1 hr1 e h1), er⟩
theorem and_imp : ∀ σ H Q, liftT K W (andT ta tb) σ H Q → tAnd (liftT K W ta) (liftT K W tb) σ H Q := fun σ H Q ⟨ρ, S, B, Qi, Ei, R, h, q, er⟩ => ⟨ρ, S, B, _, Ei, R, h, fun k S1 H1 hr1 e h1 => by
    cases k with
    | true => exact iteT ⟨ρ, S1, B, Qi, Ei, R.ext e hr1, h1, fun k S2 H2 a b => q k S2 H2 a (e.trans b), er.ext e⟩
    | false => exact iteF (q _ S1 H1 hr1 e h1), er⟩
theorem or_imp : ∀ σ H Q, liftT K W (orT ta tb) σ H Q → tOr (liftT K W ta) (liftT K W tb) σ H Q := fun σ H Q ⟨ρ, S, B, Qi, Ei, R, h, q, er⟩ => ⟨ρ, S, B, _, Ei, R, h, fun k S1 H1 hr1 e h1 => by
    cases k with
    | true => exact iteT (q _ S1 H1 hr1 e h1)
    | false => exact iteF ⟨ρ, S1, B, Qi, Ei, R.ext e hr1, h1, fun k S2 H2 a b => q k S2 H2 a (e.trans b), er.ext e⟩, er⟩
theorem st_not (ha : PT X a (liftT X.K W ta)) : PT X (.UnaryOp .Not a pos) (liftT X.K W (notT ta)) := (pt_not ha).imp not_imp
theorem sw_and1 (ha : PT X a (liftT X.K W ta)) : PW X (.BoolOp .And [a] pos) (liftT X.K W ta) := pw_and1 ha
theorem sw_or1 (ha : PT X a (liftT X.K W ta)) : PW X (.BoolOp .Or [a] pos) (liftT X.K W ta) := pw_or1 ha
theorem sw_and (ha : PT X a (liftT X.K W ta)) (hb : PW X (.BoolOp .And (b :: es) pos) (liftT X.K W tb)) : PW X (.BoolOp .And (a :: b :: es) pos) (liftT X.K W (andT ta tb)) := (pw_and ha hb).imp and_imp
theorem sw_or (ha : PT X a (liftT X.K W ta)) (hb : PW X (.BoolOp .Or (b :: es) pos) (liftT X.K W tb)) : PW X (.BoolOp .Or (a :: b :: es) pos) (liftT X.K W (orT ta tb)) := (pw_or ha hb).imp or_imp
/-! ### .. as values -/
theorem ifE_imp : ∀ σ H Q, liftE K W (ifE ta ma mb) σ H Q → tIf (liftT K W ta) (liftE K W ma) (liftE K W mb) σ H Q := fun σ H Q ⟨ρ, S, B, Qi, Ei, R, h, q, er⟩ => ⟨ρ, S, B, _, Ei, R, h, fun k S1 H1 hr1 e h1 => by
    cases k with
    | true => exact iteT ⟨ρ, S1, B, Qi, Ei, R.ext e hr1, h1, q.ext e, er.ext e⟩
    | false => exact iteF ⟨ρ, S1, B, Qi, Ei, R.ext e hr1, h1, q.ext e, er.ext e⟩, er⟩
theorem se_if (hc : PT X c (liftT X.K W ta)) (ha : PE X a (liftE X.K W ma)) (hb : PE X b (liftE X.K W mb)) : PE X (.IfExp c a b pos) (liftE X.K W (ifE ta ma mb)) := (pe_ifExp hc ha hb).imp ifE_imp
theorem se_one {op : BoolOp} (ha : PE X a (liftE X.K W ma)) : PE X (.BoolOp op [a] pos) (liftE X.K W ma) := pe_one ha
theorem se_and (ha : PE X a (liftE X.K W ma)) (hb : PE X (.BoolOp .And (b :: es) pos) (liftE X.K W mb)) : PE X (.BoolOp .And (a :: b :: es) pos) (liftE X.K W (andV ma mb)) :=
  (pe_andT ha hb).imp fun σ H Q ⟨ρ, S, B, Qi, Ei, R, h, q, er⟩ => ⟨ρ, S, B, _, Ei, R, h, fun v S1 x H1 rv hr1 e h1 => by
    obtain ⟨k, e1, h1⟩ := someP_some h1
    refine ⟨k, truOf_tru rv hr1 e1, ?_⟩
    cases k with
    | true => exact iteT ⟨ρ, S1, B, Qi, Ei, R.ext e hr1, h1, q.ext e, er.ext e⟩
    | false => exact iteF (q _ S1 _ H1 rv hr1 e h1), er⟩
theorem se_or (ha : PE X a (liftE X.K W ma)) (hb : PE X (.BoolOp .Or (b :: es) pos) (liftE X.K W mb)) : PE X (.BoolOp .Or (a :: b :: es) pos) (liftE X.K W (orV ma mb)) :=
  (pe_orT ha hb).imp fun σ H Q ⟨ρ, S, B, Qi, Ei, R, h, q, er⟩ => ⟨ρ, S, B, _, Ei, R, h, fun v S1 x H1 rv hr1 e h1 => by
    obtain ⟨k, e1, h1⟩ := someP_some h1
    refine ⟨k, truOf_tru rv hr1 e1, ?_⟩
    cases k with
    | true => exact iteT (q _ S1 _ H1 rv hr1 e h1)
    | false => exact iteF ⟨ρ, S1, B, Qi, Ei, R.ext e hr1, h1, q.ext e, er.ext e⟩, er⟩
theorem se_not (ha : PE X a (liftE X.K W ma)) : PE X (.UnaryOp .Not a pos) (liftE X.K W (un1 notP ma)) :=
  (pe_not ha).imp fun σ H Q ⟨ρ, S, B, Qi, Ei, R, h, q, er⟩ => ⟨ρ, S, B, _, Ei, R, h, fun v S1 x H1 rv hr1 e h1 => by
    cases rv with
    | bl k => cases k <;> exact ⟨_, rfl, q _ S1 _ H1 (.bl _) hr1 e h1⟩
    | _ => exact (show False from h1).elim, er⟩

/-! ### rows, displays -/
theorem sa_nil : PA X [] (liftA X.K W nilA) := pa_nil.imp fun σ H Q ⟨ρ, S, B, Qi, Ei, R, h, q, er⟩ => q [] S [] H .nil R.hr Ext.refl h
theorem cons_imp {mr : IA} {tr : TA} (hi : ∀ σ H Q, liftA K W mr σ H Q → tr σ H Q) : ∀ σ H Q, liftA K W (consA ma mr) σ H Q → tCons (liftE K W ma) tr σ H Q := fun σ H Q ⟨ρ, S, B, Qi, Ei, R, h, q, er⟩ =>
  ⟨ρ, S, B, _, Ei, R, h, fun v S1 x H1 rv hr1 e1 h1 => hi _ _ _ ⟨ρ, S1, B, _, Ei, R.ext e1 hr1, h1, fun us S2 ys H2 ru hr2 e2 h2 => q (v :: us) S2 (x :: ys) H2 (.cons (rv.ext e2) ru) hr2 (e1.trans e2) h2, er.ext e1⟩, er⟩
theorem sa_cons {mr : IA} (hs : starB a = false) (ha : PE X a (liftE X.K W ma)) (hr : PA X es (liftA X.K W mr)) : PA X (a :: es) (liftA X.K W (consA ma mr)) := (pa_cons ha hr (starEach_one hs)).imp (cons_imp fun _ _ _ h => h)
theorem se_tup {k : Nat} {mr : IA} (h : PA X es (liftA X.K W mr)) : PE X (.Tuple es k pos) (liftE X.K W (tupI mr)) :=
  (pe_tup h).imp fun σ H Q ⟨ρ, S, B, Qi, Ei, R, h, q, er⟩ => ⟨ρ, S, B, _, Ei, R, h, fun vs S1 xs H1 rv hr1 e h1 => ⟨by rw [← rv.length]; exact h1.1, (q.ext e).tup hr1 rv h1.2⟩, er⟩
theorem se_lst {c : Bool} {mr : IA} (h : PA X es (liftA X.K W mr)) : PE X (.List es pos) (liftE X.K W (lstI c mr)) :=
  (pe_lst h).imp fun σ H Q ⟨ρ, S, B, Qi, Ei, R, h, q, er⟩ => ⟨ρ, S, B, _, Ei, R, h, fun vs S1 xs H1 rv hr1 e h1 => ⟨by rw [← rv.length]; exact h1.1, (q.ext e).lst hr1 rv h1.2⟩, er⟩

/-! ### calls of built-ins -/
theorem call_imp {r : PL} {rr : List V → Hp → VK → Prop} {mr : IA} (hr : PLOk K r rr) : ∀ σ H Q, liftE K W (callP r mr) σ H Q → tCB rr (liftA K W mr) σ H Q := fun σ H Q ⟨ρ, S, B, Qi, Ei, R, h, q, er⟩ =>
  ⟨ρ, S, B, _, Ei, R, h, fun vs S1 xs H1 rv hr1 e h1 => hr B vs xs S1 H1 Qi Q rv hr1 h1 (q.ext e), er⟩
theorem se_callB {id : String} {r : PL} {rr : List V → Hp → VK → Prop} {mr : IA} {x : Str} {p : Pos} (hc : CallR X (.builtin id) rr) (hr : PLOk X.K r rr) (hg : Gl X x) (hm : X.mg x = none) (hv : bootBuiltins x = some (.builtin id)) (hn : x ≠ "__name__") (hdb : (x == ("__debug__" : Str)) = false)
    (hs : (a :: es).any starB = false) (ha : PA X (a :: es) (liftA X.K W mr)) : PE X (.Call (.Name x p) (a :: es) [] pos) (liftE X.K W (callP r mr)) := by
  have h1 : (starB a || es.any starB) = false := hs
  obtain ⟨h1, h2⟩ := Bool.or_eq_false_iff.mp h1
  exact (pe_callB hc hg hm hv ha hn hdb (starEach_one h1) (backTo_plain h2)).imp (call_imp hr)
theorem se_callTy {T : String} {r : PL} {rr : List V → Hp → VK → Prop} {mr : IA} {x : Str} {p : Pos} (hc : CallR X (.type T) rr) (hr : PLOk X.K r rr) (hg : Gl X x) (hm : X.mg x = none) (hv : bootBuiltins x = some (.type T)) (hn : x ≠ "__name__") (hdb : (x == ("__debug__" : Str)) = false)
    (hs : (a :: es).any starB = false) (ha : PA X (a :: es) (liftA X.K W mr)) : PE X (.Call (.Name x p) (a :: es) [] pos) (liftE X.K W (callP r mr)) := by
  have h1 : (starB a || es.any starB) = false := hs
  obtain ⟨h1, h2⟩ := Bool.or_eq_false_iff.mp h1
  exact (pe_callTy hc hg hm hv ha hn hdb (starEach_one h1) (backTo_plain h2)).imp (call_imp hr)

/-! ### places, slices -/
theorem se_ix (hu : X.A.units + 2 < cLine) (ha : PE X a (liftE X.K W ma)) (hb : PE X b (liftE X.K W mb)) (hs : sliceB b = false) : PE X (.Subscript a b pos) (liftE X.K W (bin2 ixP ma mb)) := (pe_ix (ix_seq.or (ix_dict hu)) ha hb (plainIx_of hs)).imp (bin_imp ixP_ok)
theorem so_none : PO X none (liftO X.K W noPart) := po_none.imp fun σ H Q ⟨ρ, S, B, Qi, Ei, R, h, q, er⟩ => q none S H R.hr Ext.refl h
theorem so_some (ha : PE X a (liftE X.K W ma)) : PO X (some a) (liftO X.K W (partI ma)) := (po_some ha).imp fun σ H Q ⟨ρ, S, B, Qi, Ei, R, h, q, er⟩ => ⟨ρ, S, B, _, Ei, R, h, fun v S1 x H1 rv hr1 e h1 => by
    cases rv with
    | int i => exact ⟨i, rfl, q _ S1 H1 hr1 e h1⟩
    | _ => exact (show False from h1).elim, er⟩
theorem se_slice {c : Bool} {lo hi : Option Expr} {ml mh : IO} {p : Pos} (he : PE X e (liftE X.K W me)) (hl : PO X lo (liftO X.K W ml)) (hh : PO X hi (liftO X.K W mh)) : PE X (.Subscript e (.Slice lo hi none p) pos) (liftE X.K W (sliceI c me ml mh)) :=
  (pe_slice sl_P he hl hh).imp fun σ H Q ⟨ρ, S, B, Qi, Ei, R, h, q, er⟩ => ⟨ρ, S, B, _, Ei, R, h, fun v S1 x H1 rv hr1 e1 h1 => ⟨ρ, S1, B, _, Ei, R.ext e1 hr1, h1, fun l S2 H2 hr2 e2 h2 => ⟨ρ, S2, B, _, Ei, R.ext (e1.trans e2) hr2, h2, fun u S3 H3 hr3 e3 h3 =>
    cutP_ok (rv.ext (e2.trans e3)) hr3 h3 (q.ext (e1.trans (e2.trans e3))), er.ext (e1.trans e2)⟩, er.ext e1⟩, er⟩
end
end TL

/-! TL5: fields, methods, own defs, targets, statements, loops, comprehensions. -/
namespace TL
open PySem PySem.Spec L2
open PyProof.Rows hiding St

/-! ### fields -/
/-- the classes' attributes that the text names -/
def FldOk (K : PySem.W.Frag) (F : Str → Str → Bool) : Prop := ∀ c f, F c f = true → Cls K (He.ga K c) ∧ NoAttr K (He.ga K c) f
section
variable {K : PySem.W.Frag} {B : Addr → Prop} {H : Hp} {S : Sto}
theorem fldOf_look : ∀ {ns : List Str} {vs : List Val} {fs : List (Str × V)} {f : Str} {v : Val}, fs.map (·.1) = ns → RVs K B H S vs (fs.map (·.2)) → fldOf ns vs f = some v → ∃ x, fs.lookup f = some x ∧ RV K B H S v x
  | [], _, _, _, _, _, _, h => by cases h
  | _ :: _, [], _, _, _, _, _, h => by cases h
  | n :: ns, w :: vs, [], f, v, e, r, h => by cases e
  | n :: ns, w :: vs, (g, y) :: fs, f, v, e, r, h => by
    have e1 : g = n := (List.cons.inj e).1
    have e2 : fs.map (·.1) = ns := (List.cons.inj e).2
    subst e1
    cases r with
    | cons r1 r2 =>
      have h2 : (if g = f then some w else fldOf ns vs f) = some v := h
      by_cases hf : g = f
      · rw [if_pos hf] at h2
        cases h2
        subst hf
        exact ⟨y, by simp [List.lookup], r1⟩
      · rw [if_neg hf] at h2
        obtain ⟨x, h3, h4⟩ := fldOf_look e2 r2 h2
        have hb : (f == g) = false := by simpa using fun z => hf z.symm
        exact ⟨x, by simp [List.lookup, hb, h3], h4⟩
theorem putFld_putF : ∀ {ns : List Str} {vs : List Val} {fs : List (Str × V)} {f : Str} {w : Val} {y : V}, fs.map (·.1) = ns → RVs K B H S vs (fs.map (·.2)) → RV K B H S w y →
    (putF f y fs).map (·.1) = (putFld ns vs f w).1 ∧ RVs K B H S (putFld ns vs f w).2 ((putF f y fs).map (·.2))
  | [], [], [], f, w, y, _, _, r => ⟨rfl, .cons r .nil⟩
  | [], _ :: _, fs, f, w, y, e, r, _ => by
    cases fs with
    | nil => cases r
    | cons p fs => cases e
  | _ :: _, _, [], _, _, _, e, _, _ => by cases e
  | [], [], _ :: _, _, _, _, e, _, _ => by cases e
  | n :: ns, [], _ :: _, _, _, _, _, r, _ => by cases r
  | n :: ns, v :: vs, (g, x) :: fs, f, w, y, e, r, rw_ => by
    have e1 : g = n := (List.cons.inj e).1
    have e2 : fs.map (·.1) = ns := (List.cons.inj e).2
    subst e1
    cases r with
    | cons r1 r2 =>
      by_cases hf : g = f
      · have z1 : putF f y ((g, x) :: fs) = (g, y) :: fs := by simp [putF, hf]
        have z2 : putFld (g :: ns) (v :: vs) f w = (g :: ns, w :: vs) := by simp [putFld, hf]
        rw [z1, z2]
        exact ⟨by simp [e2], .cons rw_ r2⟩
      · have z1 : putF f y ((g, x) :: fs) = (g, x) :: putF f y fs := by simp [putF, hf]
        have z2 : putFld (g :: ns) (v :: vs) f w = (g :: (putFld ns vs f w).1, v :: (putFld ns vs f w).2) := by simp [putFld, hf]
        obtain ⟨h1, h2⟩ := putFld_putF (f := f) (w := w) (y := y) e2 r2 rw_
        rw [z1, z2]
        exact ⟨by simp [h1], .cons r1 h2⟩
end
section
variable {X : Cx} {W : WX} {a b c e o : Expr} {es : List Expr} {ma mb me mo : IE} {ta tb : IT} {pos : Pos} {K : PySem.W.Frag} {B : Addr → Prop}
theorem se_fld {F : Str → Str → Bool} {f : Str} (hF : FldOk X.K F) (hb : plainBase e = true) (he : PE X e (liftE X.K W me)) : PE X (.Attribute e f pos) (liftE X.K W (un1 (fldP F f) me)) :=
  (pe_fld he (base_of hb)).imp fun σ H Q ⟨ρ, S, B, Qi, Ei, R, h, q, er⟩ => ⟨ρ, S, B, _, Ei, R, h, fun v S1 x H1 rv hr1 e h1 => by
    replace h1 := h1.h
    unfold fldP0 at h1
    split at h1
    · obtain ⟨hc, h1⟩ := h1
      obtain ⟨w, e1, h1⟩ := someP_some h1
      cases rv with
      | ins i1 i2 i3 i4 =>
        obtain ⟨y, l1, l2⟩ := fldOf_look i3 i4 e1
        exact ⟨_, _, _, _, y, rfl, i1, (hF _ _ hc).1, (hF _ _ hc).2, l1, q w S1 y H1 l2 hr1 e h1⟩
    · cases rv
      split at h1
      · rename_i ns vs q0
        obtain ⟨hc, h1⟩ := h1
        obtain ⟨w, e1, h1⟩ := someP_some h1
        obtain ⟨dx, fs, i1, i3, i4⟩ := hr1.ok _ _ q0
        obtain ⟨y, l1, l2⟩ := fldOf_look i3 i4 e1
        exact ⟨_, _, _, _, y, rfl, i1, (hF _ _ hc).1, (hF _ _ hc).2, l1, q w S1 y H1 l2 hr1 e h1⟩
      · exact h1.elim
    · exact h1.elim, er⟩
theorem ss_fld {F : Str → Str → Bool} {f : Str} {pos' : Pos} (hF : FldOk X.K F) (hc : compB e = false) (ho : PE X o (liftE X.K W mo)) (he : PE X e (liftE X.K W me)) : PS X (.Assign [.Attribute o f pos'] e pos) (liftS X.K W (setFldI F f mo me)) :=
  (ps_fld ho he (swaps_no hc)).imp fun D σ H ⟨ρ, S, B, Di, R, h, d⟩ => ⟨ρ, S, B, _, _, R, h, fun v S1 x H1 rv hr1 e1 h1 => ⟨ρ, S1, B, _, _, R.ext e1 hr1, h1, fun u S2 y H2 ru hr2 e2 h2 => by
    replace h2 := h2.h
    unfold setFP0 at h2
    dsimp only at h2
    split at h2
    · rename_i a
      cases ru
      split at h2
      · rename_i c ns vs q0
        obtain ⟨hc, hl, h2⟩ := h2
        obtain ⟨dx, fs, i1, i3, i4⟩ := hr2.ok _ _ q0
        have rv2 := rv.ext e2
        obtain ⟨p1, p2⟩ := putFld_putF (f := f) i3 i4 rv2
        refine ⟨_, _, _, _, rfl, i1, (hF _ _ hc).1, (hF _ _ hc).2, by rw [← List.length_map (f := (·.1)), i3]; exact hl, ?_⟩
        have ew : Ext S2 (S2.put a (.ins c (putFld ns vs f v).1 (putFld ns vs f v).2)) H2 (upd H2 a (.ins (He.ga X.K c) dx (putF f x fs))) := Ext.write q0
        refine d.nx ρ _ σ _ ((R.ext (e1.trans e2) hr2).ext ew (hr2.write q0 ⟨dx, _, upd_same, p1, p2.ext ew⟩)) ((e1.trans e2).trans ew) h2
      · exact h2.elim
    · exact h2.elim, (d.ext e1).er (R.ext e1 hr1).st⟩, d.er R.st⟩

/-! ### methods of lists -/
theorem appendP_ok : PMOk K appendP rAppend := by
  intro B x v xs vs S H Qi Q rx rs hr h q
  replace h := h.h
  unfold appendP0 putI at h
  split at h
  · cases rx
    split at h
    · rename_i a _ ys q0
      split at h
      · obtain ⟨hl, h⟩ := h
        obtain ⟨y, rfl, ry⟩ := vs1 rs
        obtain ⟨us, h1, h2⟩ := hr.ok _ _ q0
        exact ⟨a, us, y, rfl, rfl, h1, by rw [← h2.length]; exact hl, q.wrote hr q0 (h2.append (.cons ry .nil)) .non h⟩
      · exact h.elim
    · exact h.elim
  · exact h.elim
theorem extendP_ok : PMOk K extendP rExtend := by
  intro B x v xs vs S H Qi Q rx rs hr h q
  replace h := h.h
  unfold extendP0 putI at h
  split at h
  · cases rx
    split at h
    · rename_i a _ ys q0
      split at h
      · obtain ⟨y, rfl, ry⟩ := vs1 rs
        obtain ⟨zs, e1, hl, h⟩ := someP_some h
        obtain ⟨us, h1, h2⟩ := hr.ok _ _ q0
        obtain ⟨p, ws, rfl, h3, h4⟩ := lstOf_h hr ry e1
        exact ⟨a, p, us, ws, rfl, rfl, h1, h3, by rw [← h2.length, ← h4.length]; exact hl, q.wrote hr q0 (h2.append h4) .non h⟩
      · exact h.elim
    · exact h.elim
  · exact h.elim
theorem mt_popBoth : MtM X "list.pop" (fun x vs H Q => rPop x vs H Q ∨ rPopAt x vs H Q) := MtR.or mt_pop mt_popAt
theorem popP_ok : PMOk K popP (fun x vs H Q => rPop x vs H Q ∨ rPopAt x vs H Q) := by
  intro B x v xs vs S H Qi Q rx rs hr h q
  replace h := h.h
  unfold popP0 putI at h
  split at h
  · cases rx
    split at h
    · rename_i a _ ys q0
      obtain ⟨us, h1, h2⟩ := hr.ok _ _ q0
      split at h
      · have e := vs0 rs
        subst e
        obtain ⟨y, e1, h⟩ := someP_some h
        obtain ⟨w, e2, rw_⟩ := h2.get e1
        exact .inl ⟨a, us, w, rfl, rfl, h1, by rw [← h2.length]; exact e2, q.wrote hr q0 h2.dropLast rw_ h⟩
      · obtain ⟨y, rfl, ry⟩ := vs1 rs
        cases ry
        obtain ⟨b1, b2, h⟩ := h
        obtain ⟨k, e1, h⟩ := someP_some h
        obtain ⟨y, e2, h⟩ := someP_some h
        obtain ⟨w, e3, rw_⟩ := h2.get e2
        exact .inr ⟨a, us, _, k, w, rfl, rfl, h1, b1, b2, by rw [← h2.length]; exact e1, e3, q.wrote hr q0 (h2.eraseIdx k) rw_ h⟩
      · exact h.elim
    · exact h.elim
  · exact h.elim
/-- a list's method asks for a list -/
def isLst (S : Sto) (v : Val) : Bool := (lsqOf S v).isSome
theorem isLst_ty {B : Addr → Prop} {H : Hp} {S : Sto} {x : Val} {v : V} (hr : HR K B H S) (r : RV K B H S x v) (h : isLst S x = true) : tyV K "list" v H := by
  cases e : lsqOf S x with
  | none => unfold isLst at h; rw [e] at h; cases h
  | some xs =>
    obtain ⟨p, vs, rfl, h1, _⟩ := lsqOf_sq hr r e
    exact .inl ⟨rfl, _, h1⟩
/-- o.m(..), o a list -/
@[reducible] def lmethI (r : Val → PL) (o : IE) (as : IA) : IE := fun ρ S Q E => o ρ S (fun x S1 => isLst S1 x = true ∧ as ρ S1 (fun xs S2 => r x xs S2 Q) E) E
theorem se_lmeth0 {name : Str} {id : String} {r : Val → PL} {rr : V → List V → Hp → VK → Prop} {apos : Pos} (slot : Slot "list" name id) (hty : typeOf (.builtin id) = pure (.type "method_descriptor")) (hm : MtR X id rr) (hr : PMOk X.K r rr)
    (hb : plainBase o = true) (hl : (apos.endLine == pos.line) = true) (ho : PE X o (liftE X.K W mo)) : PE X (.Call (.Attribute o name apos) [] [] pos) (liftE X.K W (lmethI r mo nilA)) :=
  (pe_bm0 PySem.F.plainAttrs_list slot hty hm ho (base_of hb) hl).imp fun σ H Q ⟨ρ, S, B, Qi, Ei, R, h, q, er⟩ => ⟨ρ, S, B, _, Ei, R, h, fun v S1 x H1 rv hr1 e h1 =>
    ⟨isLst_ty hr1 rv h1.1, hr B v x [] [] S1 H1 Qi Q rv .nil hr1 h1.2 (q.ext e)⟩, er⟩
theorem se_lmeth {name : Str} {id : String} {r : Val → PL} {rr : V → List V → Hp → VK → Prop} {apos : Pos} {mr : IA} (slot : Slot "list" name id) (hty : typeOf (.builtin id) = pure (.type "method_descriptor")) (hm : MtR X id rr) (hr : PMOk X.K r rr)
    (hb : plainBase o = true) (hl : (apos.endLine == pos.line) = true) (hs : (a :: es).any starB = false) (hf : (a :: es).length < 30) (ho : PE X o (liftE X.K W mo)) (ha : PA X (a :: es) (liftA X.K W mr)) :
    PE X (.Call (.Attribute o name apos) (a :: es) [] pos) (liftE X.K W (lmethI r mo mr)) := by
  have h1 : (starB a || es.any starB) = false := hs
  obtain ⟨h1, h2⟩ := Bool.or_eq_false_iff.mp h1
  refine (pe_bm PySem.F.plainAttrs_list slot hty hm ho ha (base_of hb) ?_ hl (starEach_one h1) (backTo_plain h2)).imp fun σ H Q ⟨ρ, S, B, Qi, Ei, R, h, q, er⟩ => ⟨ρ, S, B, _, Ei, R, h, fun v S1 x H1 rv hr1 e h1 =>
    ⟨isLst_ty hr1 rv h1.1, ρ, S1, B, _, Ei, R.ext e hr1, h1.2, fun us S2 ys H2 ru hr2 e2 h2 => hr B v x us ys S2 H2 Qi Q (rv.ext e2) ru hr2 h2 (q.ext (e.trans e2)), er.ext e⟩, er⟩
  rw [backTo_all hs]
  show (true && true && decide ((a :: es).length + 0 + 0 < 30)) = true
  rw [decide_eq_true (by omega)]
  rfl

/-! ### own defs -/
/-- a def's promise, by what is known of it -/
def spG (K : PySem.W.Frag) (Γ : Calls) (f : Str) : Sp := fun vs H Q E => ∃ args S B Qi Ei, RVs K B H S args vs ∧ HR K B H S ∧ Γ f args S Qi Ei ∧ QR K B S H Qi Q ∧ (∀ e S' c d H', XR K B H' S' e c d → HR K B H' S' → Ext S S' H H' → Ei e S' → E c d H')
/-- the def f stands at its name, and keeps its promise -/
structure DefOk (X : Cx) (k : Nat) (Γ : Calls) (f : Str) (fd : FuncData) (ps : List Str) : Prop where
  ok : FnOk X.prog X.w X.K X.mg X.base (L2.CX X.prog X.w) k (He.ga X.K f) fd ps (spG X.K Γ f)
  mg : X.mg f = some (.ref (He.ga X.K f))
  kp : PySem.W.keepIn X.K (.ref (He.ga X.K f)) = true
  bi : Binds X.K fd ps []
theorem callF_imp {Γ : Calls} {f : Str} {mr : IA} : ∀ σ H Q, liftE K W (callF Γ f mr) σ H Q → tCallS (spG K Γ f) (WE W) (liftA K W mr) σ H Q := fun σ H Q ⟨ρ, S, B, Qi, Ei, R, h, q, er⟩ =>
  ⟨ρ, S, B, _, Ei, R, h, fun vs S1 xs H1 rv hr1 e h1 => ⟨vs, S1, B, Qi, Ei, rv, hr1, h1, q.ext e, er.ext e⟩, er⟩
theorem se_call {Γ : Calls} {f : Str} {fd : FuncData} {ps : List Str} {k : Nat} {mr : IA} {p : Pos} (D : DefOk X k Γ f fd ps) (hr : Room k X.A) (tk : Takes X W) (hg : Gl X f) (hdb : (f == ("__debug__" : Str)) = false)
    (hs : (a :: es).any starB = false) (ha : PA X (a :: es) (liftA X.K W mr)) : PE X (.Call (.Name f p) (a :: es) [] pos) (liftE X.K W (callF Γ f mr)) := by
  have h1 : (starB a || es.any starB) = false := hs
  obtain ⟨h1, h2⟩ := Bool.or_eq_false_iff.mp h1
  exact (pe_callS D.ok hr hg D.mg D.kp D.bi (fun σ => passAt tk σ) ha hdb (starEach_one h1) (backTo_plain h2)).imp callF_imp
theorem se_call0 {Γ : Calls} {f : Str} {fd : FuncData} {ps : List Str} {k : Nat} {p : Pos} (D : DefOk X k Γ f fd ps) (hr : Room k X.A) (tk : Takes X W) (hg : Gl X f) (hdb : (f == ("__debug__" : Str)) = false) : PE X (.Call (.Name f p) [] [] pos) (liftE X.K W (callF Γ f nilA)) := by
  refine ⟨fun pins s σ H Q I ⟨ρ, S, B, Qi, Ei, R, h, q, er⟩ => ?_⟩
  refine wpAny_Call_Name_kw (ld_glob I hg D.mg ?_ hdb)
  exact PySem.W.callWith_K0 I.kIn D.kp (run_fnS (us := []) (vs := []) (E := WE W) D.ok hr D.bi (passAt tk σ) I .nil ⟨[], S, B, Qi, Ei, .nil, R.hr, h, q, er⟩)
/-- the class c is made by its __init__ -/
structure MakeOk (X : Cx) (k : Nat) (Γ : Calls) (c : Str) (fd : FuncData) (ps : List Str) : Prop where
  mkr : ∃ f, Mk X.K (He.ga X.K c) f ∧ FnOk X.prog X.w X.K X.mg X.base (L2.CX X.prog X.w) k f fd ps (spG X.K Γ (c ++ ".__init__"))
  mg : X.mg c = some (.ref (He.ga X.K c))
  bi : Binds X.K fd ps []
theorem makeI_imp {Γ : Calls} {c : Str} {fz : Bool} {mr : IA} : ∀ σ H Q, liftE K W (makeI Γ c fz mr) σ H Q → tMake (He.ga K c) (spG K Γ (c ++ ".__init__")) [] E0 (liftA K W mr) σ H Q := fun σ H Q ⟨ρ, S, B, Qi, Ei, R, h, q, er⟩ =>
  ⟨ρ, S, B, _, Ei, R, h, fun vs S1 xs H1 rv hr1 e h1 a dx na nd ne => by
    have e1 : Ext S1 S1 H1 (upd H1 dx (.own a)) := Ext.new nd
    have na' : upd H1 dx (.own a) a = none := by rw [upd_ne ne.symm]; exact na
    have e2 : Ext S1 (S1.put a (.ins c [] [])) (upd H1 dx (.own a)) (upd (upd H1 dx (.own a)) a (.ins (He.ga K c) dx [])) := Ext.newCell na'
    have hr2 : HR K B (upd (upd H1 dx (.own a)) a (.ins (He.ga K c) dx [])) (S1.put a (.ins c [] [])) := (hr1.new nd).newCell na' ⟨dx, [], upd_same, rfl, .nil⟩
    refine ⟨.ref a :: vs, _, B, _, noX, .cons (.ref a) (by rw [List.append_nil]; exact rv.ext (e1.trans e2)), hr2, h1 a (hr1.free na).1, fun v S3 x H3 rv3 hr3 e3 h3 => ?_, fun _ _ _ _ _ _ _ _ z => z⟩
    obtain ⟨hn, h3⟩ := h3
    have hv : x = .non := by
      have z := isNon_of rv3
      rw [hn] at z
      exact of_decide_eq_true z.symm
    refine ⟨hv, ?_⟩
    have eAll : Ext S S3 H H3 := e.trans ((e1.trans e2).trans e3)
    unfold frzI at h3
    split at h3
    · exact q (.ref a) S3 (.ref a) H3 (.ref a) hr3 eAll h3
    · split at h3
      · rename_i c' ns vs' q0
        obtain ⟨dx', fs, i1, i3, i4⟩ := hr3.ok _ _ q0
        have ed : Ext S3 (S3.del a) H3 H3 := Ext.less fun b hb => by
          by_cases z : b = a
          · rw [z, Sto.del_same]
          · rw [Sto.del_ne z]; exact hb
        refine q (.ins c' ns vs') (S3.del a) (.ref a) H3 (.ins i1 ⟨Sto.del_same, fun z => by rw [(hr3.hid a z).1] at q0; cases q0⟩ i3 (i4.ext ed)) (hr3.less fun b k hb => ?_) (eAll.trans ed) h3
        by_cases z : b = a
        · rw [z, Sto.del_same] at hb; cases hb
        · rw [Sto.del_ne z] at hb; exact hb
      · exact h3.elim, er⟩
theorem se_make {Γ : Calls} {c : Str} {fz : Bool} {fd : FuncData} {ps : List Str} {k : Nat} {mr : IA} {p : Pos} (D : MakeOk X k Γ c fd ps) (hr : Room (k + 1) X.A) (hg : Gl X c) (hdb : (c == ("__debug__" : Str)) = false)
    (hs : (a :: es).any starB = false) (ha : PA X (a :: es) (liftA X.K W mr)) : PE X (.Call (.Name c p) (a :: es) [] pos) (liftE X.K W (makeI Γ c fz mr)) := by
  have h1 : (starB a || es.any starB) = false := hs
  obtain ⟨h1, h2⟩ := Bool.or_eq_false_iff.mp h1
  obtain ⟨f, M, F⟩ := D.mkr
  exact (pe_make M F hr hg D.mg D.bi .nil passL ha hdb (starEach_one h1) (backTo_plain h2)).imp makeI_imp
end
end TL

/-! TL6: targets, statements, what is walked, loops, comprehensions. -/
namespace TL
open PySem PySem.Spec L2
open PyProof.Rows hiding St

/-! ### targets -/
def gNames : List Nat → TGs
  | [] => gNil
  | i :: is => gCons (gName i) (gNames is)
def gT (K : PySem.W.Frag) : Tg → TG
  | .nm i => gName i
  | .tp is => gTup K is.length (gNames is)
def tgIdx : Tg → List Nat
  | .nm i => [i]
  | .tp is => is
/-- the slots of is alone may differ -/
def But (is : List Nat) (σ σ1 : St) : Prop := ∀ vs : List Nat, (∀ i ∈ is, i ∈ vs) → wipe σ1 vs = wipe σ vs
theorem wipe_get {σ : St} {j : Nat} : ∀ {vs : List Nat}, j ∈ vs → j < σ.length → (wipe σ vs)[j]? = some none
  | [], h, _ => by cases h
  | v :: vs, h, hl => by
    show ((L2.wipe σ vs).set v none)[j]? = some none
    by_cases e : v = j
    · subst e
      rw [List.getElem?_set_self (by rw [wipe_length]; exact hl)]
    · rw [List.getElem?_set_ne e]
      rcases List.mem_cons.mp h with z | z
      · exact absurd z.symm e
      · exact wipe_get z hl
theorem wipe_eq {σ σ1 : St} {vs : List Nat} (hl : σ1.length = σ.length) (h : ∀ j, j ∉ vs → σ1[j]? = σ[j]?) : wipe σ1 vs = wipe σ vs := by
  apply List.ext_getElem?
  intro j
  by_cases hj : j ∈ vs
  · by_cases hlt : j < σ.length
    · rw [wipe_get hj (by rw [hl]; exact hlt), wipe_get hj hlt]
    · rw [List.getElem?_eq_none (by rw [wipe_length]; omega), List.getElem?_eq_none (by rw [wipe_length]; omega)]
  · rw [wipe_out hj, wipe_out hj]
    exact h j hj
theorem But.set {σ : St} {i : Nat} {x : V} : But [i] σ (σ.set i (some x)) := fun vs h => wipe_eq (by simp) fun j hj => by
  rw [List.getElem?_set_ne (fun e => hj (by rw [← e]; exact h i (List.mem_singleton.mpr rfl)))]
section
variable {K : PySem.W.Frag} {B : Addr → Prop} {H : Hp} {S : Sto}
theorem setAll_ok : ∀ {is : List Nat} {xs : List Val} {vs : List V} {ρ ρ1 : ISt} {σ : St} {R : St → Hp → Prop}, RSt K B H S ρ σ → RVs K B H S xs vs → setAll ρ is xs = some ρ1 → (∀ σ1, RSt K B H S ρ1 σ1 → But is σ σ1 → R σ1 H) → gNames is vs σ H R
  | [], [], _, ρ, ρ1, σ, R, r, rv, e, h => by
    cases rv
    cases e
    exact ⟨rfl, h σ r fun _ _ => rfl⟩
  | [], _ :: _, _, _, _, _, _, _, _, e, _ => by cases e
  | _ :: _, [], _, _, _, _, _, _, _, e, _ => by cases e
  | i :: is, x :: xs, _, ρ, ρ1, σ, R, r, rv, e, h => by
    cases rv with
    | cons r1 r2 =>
      refine ⟨_, _, rfl, ?_⟩
      have e2 : setAll (setS ρ i x) is xs = some ρ1 := e
      refine setAll_ok (r.set r1) r2 e2 fun σ1 q b => h σ1 q fun vs hv => ?_
      rw [b vs fun j hj => hv j (List.mem_cons_of_mem _ hj)]
      exact But.set vs fun j hj => by
        rw [List.mem_singleton.mp hj]
        exact hv i List.mem_cons_self
theorem tg_ok {t : Tg} {x : Val} {v : V} {ρ ρ1 : ISt} {σ : St} {R : St → Hp → Prop} (r : RSt K B H S ρ σ) (rv : RV K B H S x v) (e : tgI t x ρ = some ρ1) (h : ∀ σ1, RSt K B H S ρ1 σ1 → But (tgIdx t) σ σ1 → R σ1 H) : gT K t v σ H R := by
  cases t with
  | nm i =>
    cases e
    exact h _ (r.set rv) But.set
  | tp is =>
    cases x with
    | tup xs =>
      have e2 : setAll ρ is xs = some ρ1 := e
      cases rv with
      | tup h1 h2 =>
        refine ⟨_, _, rfl, h1.sq, ?_, setAll_ok r h2 e2 h⟩
        rw [← h2.length]
        clear h h1 h2 r e
        induction is generalizing xs ρ with
        | nil => cases xs with
          | nil => rfl
          | cons x xs => cases e2
        | cons i is ih => cases xs with
          | nil => cases e2
          | cons x xs => exact congrArg Nat.succ (ih (xs := xs) e2)
    | _ => cases e
end
section
variable {X : Cx} {pos : Pos}
theorem pg_names {es : List Expr} {is : List Nat} (hN : X.N.Nodup) (h : Paired (fun e i => ∃ x p, e = Expr.Name x p ∧ X.N[i]? = some x ∧ Loc X.env.scope x ∧ (X.fn x = true ∨ X.env.scope.names.lookup x = some .local)) es is) :
    PGs X es (gNames is) ∧ (assignEach es X.env).length = is.length ∧ (assignEach es X.env).findIdx? (·.1) = none := by
  induction h with
  | nil => exact ⟨pgs_nil, rfl, rfl⟩
  | cons h1 h2 ih =>
    obtain ⟨x, p, rfl, a1, a2, a3⟩ := h1
    obtain ⟨i1, i2, i3⟩ := ih
    refine ⟨pgs_cons (pg_name hN a1 a2 a3) i1 rfl, ?_, ?_⟩
    · show (assignEach _ X.env).length + 1 = _
      rw [i2]
      rfl
    · show ((false, assign (.Name x p) X.env) :: assignEach _ X.env).findIdx? (·.1) = none
      rw [List.findIdx?_cons, i3]
      rfl
end

/-! ### statements -/
section
variable {X : Cx} {W : WX} {a b c e o : Expr} {es : List Expr} {ma mb me mo mi : IE} {ta tb : IT} {pos : Pos} {K : PySem.W.Frag} {st : Stmt} {sts : List Stmt} {m1 m2 : IS}
theorem frz_ok {f : Bool} {v : Val} {x : V} {S : Sto} {H : Hp} {Qi : VQ} {Q : VK} (rv : RV K B H S v x) (hr : HR K B H S) (h : frz f v S Qi) (q : QR K B S H Qi Q) : Q x H := by
  unfold frz at h
  split at h
  · exact q.same hr rv h
  · split at h
    · rename_i a
      split at h
      · rename_i xs q0
        cases rv
        obtain ⟨vs, h1, h2⟩ := hr.ok _ _ q0
        have ed : Ext S (S.del a) H H := Ext.less fun b hb => by
          by_cases z : b = a
          · rw [z, Sto.del_same]
          · rw [Sto.del_ne z]; exact hb
        refine q (.lst xs) (S.del a) (.ref a) H (.lst h1 ⟨Sto.del_same, fun z => by rw [(hr.hid _ z).1] at q0; cases q0⟩ (h2.ext ed)) (hr.less fun b k hb => ?_) ed h
        by_cases z : b = a
        · rw [z, Sto.del_same] at hb; cases hb
        · rw [Sto.del_ne z] at hb; exact hb
      · exact q.same hr rv h
    · exact q.same hr rv h
theorem ss_pass : PS X (.Pass pos) (liftS X.K W nextI) := ps_pass.imp fun D σ H ⟨ρ, S, B, Di, R, h, d⟩ => d.nx _ _ _ _ R Ext.refl h
theorem ss_break : PS X (.Break pos) (liftS X.K W breakI) := ps_break.imp fun D σ H ⟨ρ, S, B, Di, R, h, d⟩ => d.bk _ _ _ _ R Ext.refl h
theorem ss_cont : PS X (.Continue pos) (liftS X.K W contI) := ps_continue.imp fun D σ H ⟨ρ, S, B, Di, R, h, d⟩ => d.ct _ _ _ _ R Ext.refl h
theorem ss_never : PS X st (liftS X.K W neverI) := ⟨fun _ _ _ _ _ _ ⟨_, _, _, _, _, h, _⟩ => h.elim⟩
theorem sss_nil : PSs X [] (liftS X.K W nextI) := pss_nil.imp fun D σ H ⟨ρ, S, B, Di, R, h, d⟩ => d.nx _ _ _ _ R Ext.refl h
theorem DR.seq {S : Sto} {H : Hp} {Di : IEnds} {D : Ends} (d : DR K W B S H Di D) : DR K W B S H { Di with nx := m2 Di } { D with nx := liftS K W m2 D } :=
  ⟨fun ρ' S' σ' H' R e h => ⟨ρ', S', B, Di, R, h, d.ext e⟩, d.rt, d.ex, d.bk, d.ct⟩
theorem sss_cons (h1 : PS X st (liftS X.K W m1)) (h2 : PSs X sts (liftS X.K W m2)) : PSs X (st :: sts) (liftS X.K W (seqI m1 m2)) :=
  (pss_cons h1 h2).imp fun D σ H ⟨ρ, S, B, Di, R, h, d⟩ => ⟨ρ, S, B, _, R, h, d.seq⟩
theorem ss_expr (hc : compB e = false) (he : PE X e (liftE X.K W me)) : PS X (.Expr e pos) (liftS X.K W (dropI me)) :=
  (ps_expr he (swaps_no hc)).imp fun D σ H ⟨ρ, S, B, Di, R, h, d⟩ => ⟨ρ, S, B, _, _, R, h, fun v S1 x H1 rv hr1 e h1 => d.nx ρ S1 σ H1 (R.ext e hr1) e h1, d.er R.st⟩
theorem ss_doc {x : Str} {j : Nat} {p : Pos} : PS X (.Expr (.Constant (.str x) j p) pos) (liftS X.K W nextI) := ps_doc.imp fun D σ H ⟨ρ, S, B, Di, R, h, d⟩ => d.nx _ _ _ _ R Ext.refl h
theorem ss_ret {f : Bool} (he : PE X e (liftE X.K W me)) : PS X (.Return (some e) pos) (liftS X.K W (retI f me)) :=
  (ps_ret he).imp fun D σ H ⟨ρ, S, B, Di, R, h, d⟩ => ⟨ρ, S, B, _, _, R, h, fun v S1 x H1 rv hr1 e h1 => frz_ok rv hr1 h1 (d.rt.ext e), d.er R.st⟩
theorem ss_retN : PS X (.Return none pos) (liftS X.K W retN) := ps_retN.imp fun D σ H ⟨ρ, S, B, Di, R, h, d⟩ => d.rt.same R.hr .non h
theorem ss_if {s1 s2 : List Stmt} (hc : PT X c (liftT X.K W ta)) (ha : PSs X s1 (liftS X.K W m1)) (hb : PSs X s2 (liftS X.K W m2)) : PS X (.If c s1 s2 pos) (liftS X.K W (ifI ta m1 m2)) :=
  (ps_if hc ha hb).imp fun D σ H ⟨ρ, S, B, Di, R, h, d⟩ => ⟨ρ, S, B, _, _, R, h, fun k S1 H1 hr1 e h1 => by
    cases k with
    | true => exact iteT ⟨ρ, S1, B, Di, R.ext e hr1, h1, d.ext e⟩
    | false => exact iteF ⟨ρ, S1, B, Di, R.ext e hr1, h1, d.ext e⟩, d.er R.st⟩
theorem asg_imp {t : Tg} {te : TE} (hi : ∀ σ H Q, liftE K W me σ H Q → te σ H Q) : ∀ D σ H, liftS K W (setI t me) D σ H → tAsg te (gT K t) D σ H := fun D σ H ⟨ρ, S, B, Di, R, h, d⟩ => hi _ _ _
  ⟨ρ, S, B, _, _, R, h, fun v S1 x H1 rv hr1 e h1 => by
    obtain ⟨ρ1, e1, h1⟩ := someP_some h1
    exact tg_ok (R.st.ext e) rv e1 fun σ1 r1 _ => d.nx ρ1 S1 σ1 H1 ⟨r1, hr1⟩ e h1, d.er R.st⟩
/-- a name -/
theorem ss_set {i : Nat} {x : Str} {p : Pos} (hN : X.N.Nodup) (hi : X.N[i]? = some x) (hx : Loc X.env.scope x) (hf : X.fn x = true ∨ X.env.scope.names.lookup x = some .local) (hs : swapsWith e (some (.Name x p)) pos.line X.env = pure false) (he : PE X e (liftE X.K W me)) :
    PS X (.Assign [.Name x p] e pos) (liftS X.K W (setI (.nm i) me)) := (ps_set hN hi hx he hs hf).imp (asg_imp fun _ _ _ h => h)
/-- some names of a tuple -/
theorem ss_unpack {is : List Nat} {k : Nat} {p : Pos} (hc : X.calm = true) (hN : X.N.Nodup) (h : Paired (fun e i => ∃ x p, e = Expr.Name x p ∧ X.N[i]? = some x ∧ Loc X.env.scope x ∧ (X.fn x = true ∨ X.env.scope.names.lookup x = some .local)) es is)
    (hs : compB e = false) (hw : swappedStores [.Tuple es k p] e X.env = pure none) (he : PE X e (liftE X.K W me)) : PS X (.Assign [.Tuple es k p] e pos) (liftS X.K W (setI (.tp is) me)) := by
  obtain ⟨h1, h2, h3⟩ := pg_names hN h
  exact (ps_asg he (pg_tup hc h1 h2 h3) (swapsSole_no hs) hw).imp (asg_imp fun _ _ _ h => h)
/-- a, b = x, y -/
theorem ss_par2 {i j : Nat} {x y : Str} {px py pt : Pos} {kt k2 : Nat} {pt2 : Pos} {mr : IA} (hc : X.calm = true) (hN : X.N.Nodup) (hi : X.N[i]? = some x) (hj : X.N[j]? = some y) (hij : i ≠ j) (hx : X.env.scope.names.lookup x = some .local) (hy : X.env.scope.names.lookup y = some .local)
    (hw : swappedStores [.Tuple [.Name x px, .Name y py] kt pt] (.Tuple [a, b] k2 pt2) X.env = pure (some [x, y])) (ha : PA X [a, b] (liftA X.K W mr)) : PS X (.Assign [.Tuple [.Name x px, .Name y py] kt pt] (.Tuple [a, b] k2 pt2) pos) (liftS X.K W (parI [i, j] mr)) :=
  (ps_par hc hN hi hj hij hx hy ha hw rfl).imp fun D σ H ⟨ρ, S, B, Di, R, h, d⟩ => ⟨ρ, S, B, _, _, R, h, fun vs S1 xs H1 rv hr1 e h1 => by
    obtain ⟨ρ1, e1, h1⟩ := someP_some h1
    cases rv with
    | nil => cases e1
    | cons r1 rv => cases rv with
      | nil => cases e1
      | cons r2 rv => cases rv with
        | cons r3 rv => cases e1
        | nil =>
          cases e1
          exact ⟨_, _, rfl, d.nx _ S1 _ H1 ⟨((R.st.ext e).set r1).set r2, hr1⟩ e h1⟩, d.er R.st⟩
theorem ss_par3 {i j l : Nat} {x y z : Str} {px py pz pt : Pos} {kt k2 : Nat} {pt2 : Pos} {mr : IA} (hc : X.calm = true) (hN : X.N.Nodup) (hi : X.N[i]? = some x) (hj : X.N[j]? = some y) (hl : X.N[l]? = some z) (hij : i ≠ j) (hil : i ≠ l) (hjl : j ≠ l)
    (hx : X.env.scope.names.lookup x = some .local) (hy : X.env.scope.names.lookup y = some .local) (hz : X.env.scope.names.lookup z = some .local)
    (hw : swappedStores [.Tuple [.Name x px, .Name y py, .Name z pz] kt pt] (.Tuple [a, b, c] k2 pt2) X.env = pure (some [x, y, z])) (ha : PA X [a, b, c] (liftA X.K W mr)) : PS X (.Assign [.Tuple [.Name x px, .Name y py, .Name z pz] kt pt] (.Tuple [a, b, c] k2 pt2) pos) (liftS X.K W (parI [i, j, l] mr)) :=
  (ps_par3 hc hN hi hj hl hij hil hjl hx hy hz ha hw rfl).imp fun D σ H ⟨ρ, S, B, Di, R, h, d⟩ => ⟨ρ, S, B, _, _, R, h, fun vs S1 xs H1 rv hr1 e h1 => by
    obtain ⟨ρ1, e1, h1⟩ := someP_some h1
    cases rv with
    | nil => cases e1
    | cons r1 rv => cases rv with
      | nil => cases e1
      | cons r2 rv => cases rv with
        | nil => cases e1
        | cons r3 rv => cases rv with
          | cons r4 rv => cases e1
          | nil =>
            cases e1
            exact ⟨_, _, _, rfl, d.nx _ S1 _ H1 ⟨(((R.st.ext e).set r1).set r2).set r3, hr1⟩ e h1⟩, d.er R.st⟩
/-- x op= e -/
def AugOk (X : Cx) (op : Operator) (r : P2) : Prop := ∃ rr, PIp X op rr ∧ P2Ok X.K r rr
theorem ss_aug {i : Nat} {x : Str} {op : Operator} {r : P2} {p : Pos} (hN : X.N.Nodup) (hi : X.N[i]? = some x) (hx : Loc X.env.scope x) (hf : X.fn x = true ∨ X.env.scope.names.lookup x = some .local) (ho : AugOk X op r) (he : PE X e (liftE X.K W me)) :
    PS X (.AugAssign (.Name x p) op e pos) (liftS X.K W (augI i r me)) := by
  obtain ⟨rr, h1, h2⟩ := ho
  refine (ps_aug hN hi hx he h1 hf).imp fun D σ H ⟨ρ, S, B, Di, R, h, d⟩ => ?_
  obtain ⟨v, e0, h⟩ := getS_some h
  obtain ⟨y, e1, rv⟩ := R.st.2 i v e0
  refine ⟨y, e1, ρ, S, B, _, _, R, h, fun u S1 z H1 ru hr1 ee hq => ?_, d.er R.st⟩
  exact h2 B v u y z S1 H1 _ _ (rv.ext ee) ru hr1 hq fun w S2 t H2 rw_ hr2 e2 hn => d.nx _ S2 _ H2 ⟨(R.st.ext (ee.trans e2)).set rw_, hr2⟩ (ee.trans e2) hn
/-- o[i] = e -/
abbrev rSetD : TSet := fun o i v H R => ∃ a H4, o = .ref a ∧ DPut H a i v H4 ∧ R H4
theorem set_dict (hu : X.A.units + 1 < cLine) : PSet X rSetD := by
  intro pins s σ H o i v ov iv u Q I ro ri rv h
  obtain ⟨a, H4, rfl, g, q⟩ := h
  obtain rfl : ov = Value.ref a := ro
  exact d_setItem hu I g ri rv fun s4 I4 => ⟨H4, I4, q⟩
abbrev rrSet : TSet := fun o i v H R => rSetL o i v H R ∨ rSetD o i v H R
theorem set_both (hu : X.A.units + 1 < cLine) : PSet X rrSet := by
  intro pins s σ H o i v ov iv u Q I ro ri rv h
  rcases h with h | h
  · exact set_list pins s σ H o i v ov iv u Q I ro ri rv h
  · exact set_dict hu pins s σ H o i v ov iv u Q I ro ri rv h
theorem setIx_ok {o i v : Val} {x y z : V} {S : Sto} {H : Hp} {Kk : Sto → Prop} {R : Hp → Prop} (ro : RV K B H S o x) (ri : RV K B H S i y) (rv : RV K B H S v z) (hr : HR K B H S) (h : setIx o i v S Kk)
    (q : ∀ S' H', HR K B H' S' → Ext S S' H H' → Kk S' → R H') : rrSet x y z H R := by
  replace h := h.h
  unfold setIx0 at h
  split at h
  · cases ro
    split at h
    · rename_i a _ xs q0
      split at h
      · cases ri
        obtain ⟨j, e1, h⟩ := someP_some h
        obtain ⟨vs, h1, h2⟩ := hr.ok _ _ q0
        have e : Ext S (S.put a (.lst (xs.set j v))) H (upd H a (.lst (vs.set j z))) := Ext.write q0
        exact .inl ⟨a, vs, _, j, rfl, rfl, h1, by rw [← h2.length]; exact e1, q _ _ (hr.write (c := .lst (xs.set j v)) q0 ⟨_, upd_same, (h2.set rv j).ext e⟩) e h⟩
      · exact h.elim
    · rename_i a _ kvs q0
      obtain ⟨k, e1, h⟩ := someP_some h
      obtain ⟨us, h1, h2, h3⟩ := hr.ok _ _ q0
      have e : Ext S (S.put a (.dict (dPut kvs k v))) H (upd H a (.dK (putK us k z))) := Ext.write q0
      obtain ⟨p1, p2⟩ := dPut_put (k := k) rv h2 h3
      have hl : us.length < sizeLine := by
        have := congrArg List.length h2
        simp only [List.length_map] at this
        rw [this]
        exact h.1
      exact .inr ⟨a, _, rfl, by rw [keyV_kV ri e1]; exact DPut.k h1 hl, q _ _ (hr.write (c := .dict (dPut kvs k v)) q0 ⟨_, upd_same, p1, p2.ext e⟩) e h.2⟩
    · exact h.elim
  · exact h.elim
theorem swapsSole_sub {o i : Expr} {p : Pos} {e : Expr} {l : Nat} {env : Env} : swapsWithSole [.Subscript o i p] e l env = pure false := by
  cases e <;> rfl
theorem ss_store {p : Pos} (hu : X.A.units + 1 < cLine) (hi : sliceB b = false) (ho : PE X o (liftE X.K W mo)) (hb : PE X b (liftE X.K W mb)) (he : PE X e (liftE X.K W me)) : PS X (.Assign [.Subscript o b p] e pos) (liftS X.K W (storeI mo mb me)) :=
  (ps_asg he (pg_sub ho hb (set_both hu) (by intro v; cases b <;> first | rfl | cases hi)) swapsSole_sub rfl).imp fun D σ H ⟨ρ, S, B, Di, R, h, d⟩ => ⟨ρ, S, B, _, _, R, h, fun v S1 x H1 rv hr1 e1 h1 =>
    ⟨ρ, S1, B, _, _, R.ext e1 hr1, h1, fun u S2 y H2 ru hr2 e2 h2 => ⟨ρ, S2, B, _, _, R.ext (e1.trans e2) hr2, h2, fun w S3 z H3 rw_ hr3 e3 h3 =>
      setIx_ok (ru.ext e3) rw_ (rv.ext (e2.trans e3)) hr3 h3 fun S4 H4 hr4 e4 h4 => d.nx ρ S4 σ H4 (R.ext (e1.trans (e2.trans (e3.trans e4))) hr4) (e1.trans (e2.trans (e3.trans e4))) h4,
      (d.ext (e1.trans e2)).er (R.st.ext (e1.trans e2))⟩, (d.ext e1).er (R.st.ext e1)⟩, d.er R.st⟩

/-! ### while -/
theorem ss_while {body : List Stmt} (hp : PassesOwn (model X.prog X.w) X.A X.env X.xe) (hc : PT X c (liftT X.K W ta)) (hb : PSs X body (liftS X.K W m1)) : PS X (.While c body [] pos) (liftS X.K W (whileI ta m1)) :=
  (ps_while hp hc hb).imp fun D σ H ⟨ρ, S, B, Di, R, h, d⟩ => by
    obtain ⟨Wi, ⟨n, w0⟩, turn⟩ := h
    refine ⟨fun n σ1 H1 => ∃ ρ1 S1, Rl X.K B ρ1 S1 σ1 H1 ∧ Ext S S1 H H1 ∧ Wi n ρ1 S1, ⟨n, ρ, S, R, Ext.refl, w0⟩, fun n σ1 H1 ⟨ρ1, S1, R1, e1, w1⟩ => ?_⟩
    refine ⟨ρ1, S1, B, _, _, R1, turn n ρ1 S1 w1, fun k S2 H2 hr2 e2 h2 => ?_, (d.ext e1).er R1.st⟩
    cases k with
    | false => exact iteF (d.nx ρ1 S2 σ1 H2 (R1.ext e2 hr2) (e1.trans e2) h2)
    | true =>
      refine iteT ⟨fun σ3 H3 => ∃ ρ3 S3, Rl X.K B ρ3 S3 σ3 H3 ∧ Ext S S3 H H3 ∧ ∃ m', m' < n ∧ Wi m' ρ3 S3, fun σ3 H3 ⟨ρ3, S3, R3, e3, m', hm, w3⟩ => ⟨m', hm, ρ3, S3, R3, e3, w3⟩, ρ1, S2, B, _, R1.ext e2 hr2, h2, ?_⟩
      have d2 := d.ext (e1.trans e2)
      exact ⟨fun ρ3 S3 σ3 H3 R3 e3 w3 => ⟨ρ3, S3, R3, (e1.trans e2).trans e3, w3⟩, d2.rt, d2.ex, d2.nx, fun ρ3 S3 σ3 H3 R3 e3 w3 => ⟨ρ3, S3, R3, (e1.trans e2).trans e3, w3⟩⟩
end
end TL

/-! TL7: what is walked, for, comprehensions. -/
namespace TL
open PySem PySem.Spec L2
open PyProof.Rows hiding St
open RZ (ItzT pi_zipA)

/-- the layer's iterator J tells just these items, as long as the guarded list stays -/
structure ItOk (K : PySem.W.Frag) (B : Addr → Prop) (J : It) (S0 : Sto) (H0 : Hp) (g : Option Addr) (xs : List Val) : Prop where
  go : ∀ B' S H i, Wider B B' H0 → HR K B' H S → ExtB B' S0 S H0 H → guardOk g xs S → i < xs.length → J.go i H
  stop : ∀ B' S H i, Wider B B' H0 → HR K B' H S → ExtB B' S0 S H0 H → guardOk g xs S → xs.length ≤ i → J.stop i H
  yld : ∀ B' S H i x H', Wider B B' H0 → HR K B' H S → ExtB B' S0 S H0 H → guardOk g xs S → i < xs.length → J.yld i H x H' → ∃ v, xs[i]? = some v ∧ RV K B' H' S v x ∧ HR K B' H' S ∧ Ext S S H H'
def liftI (K : PySem.W.Frag) (W : WX) (m : II) : TI := fun σ H R => ∃ ρ S B Qi Ei, Rl K B ρ S σ H ∧ m ρ S Qi Ei ∧ (∀ g xs S' J H', HR K B H' S' → Ext S S' H H' → ItOk K B J S' H' g xs → Qi g xs S' → R J H') ∧ ER K W B σ S H Ei
theorem _root_.L2.PI.imp {X : Cx} {tg e : Expr} {t t' : TI} (h : PI X tg e t) (i : ∀ σ H Q, t' σ H Q → t σ H Q) : PI X tg e t' := ⟨fun pins s σ H Q I q => h.run pins s σ H Q I (i _ _ _ q)⟩

section
variable {K : PySem.W.Frag} {B : Addr → Prop} {S0 : Sto} {H0 : Hp}
theorem itOk_list {g : Option Addr} {a : Addr} {xs : List Val} (h : ∀ B' S H, Wider B B' H0 → HR K B' H S → ExtB B' S0 S H0 H → guardOk g xs S → ∃ vs, SqL K H a vs ∧ RVs K B' H S xs vs) : ItOk K B (Itl K a) S0 H0 g xs :=
  ⟨fun B' S H i wb hr e hg hi => by
    obtain ⟨vs, h1, h2⟩ := h B' S H wb hr e hg
    have hl := h2.length
    exact ⟨vs, vs[i]'(by omega), h1, List.getElem?_eq_getElem (by omega)⟩,
   fun B' S H i wb hr e hg hi => by
    obtain ⟨vs, h1, h2⟩ := h B' S H wb hr e hg
    have hl := h2.length
    exact ⟨vs, h1, by omega⟩,
   fun B' S H i x H' wb hr e hg hi hy => by
    obtain ⟨rfl, hy⟩ := hy
    obtain ⟨vs, h1, h2⟩ := h B' S _ wb hr e hg
    obtain ⟨v, h3, h4⟩ := h2.getR (hy vs h1)
    exact ⟨v, h3, h4, hr, Ext.refl⟩⟩
theorem itOk_tup {a : Addr} {xs : List Val} (h : ∀ B' S H, Wider B B' H0 → HR K B' H S → ExtB B' S0 S H0 H → ∃ vs, SqT K H a vs ∧ RVs K B' H S xs vs) : ItOk K B (Itt K a) S0 H0 none xs :=
  ⟨fun B' S H i wb hr e _ hi => by
    obtain ⟨vs, h1, h2⟩ := h B' S H wb hr e
    have hl := h2.length
    exact ⟨vs, vs[i]'(by omega), h1, List.getElem?_eq_getElem (by omega)⟩,
   fun B' S H i wb hr e _ hi => by
    obtain ⟨vs, h1, h2⟩ := h B' S H wb hr e
    have hl := h2.length
    exact ⟨vs, h1, by omega⟩,
   fun B' S H i x H' wb hr e _ hi hy => by
    obtain ⟨rfl, hy⟩ := hy
    obtain ⟨vs, h1, h2⟩ := h B' S _ wb hr e
    obtain ⟨v, h3, h4⟩ := h2.getR (hy vs h1)
    exact ⟨v, h3, h4, hr, Ext.refl⟩⟩
theorem itOk_str {x : Str} : ItOk K B (Its x) S0 H0 none (walkStr x) := by
  have hl : (walkStr x).length = x.cps.size := by unfold walkStr; rw [List.length_map, Array.length_toList]
  refine ⟨fun B' S H i wb hr e _ hi => by rw [hl] at hi; exact hi, fun B' S H i wb hr e _ hi => by rw [hl] at hi; exact hi, fun B' S H i y H' wb hr e _ hi hy => ?_⟩
  obtain ⟨rfl, c, hc, rfl⟩ := hy
  refine ⟨.str ⟨#[c]⟩, ?_, .str _, hr, Ext.refl⟩
  unfold walkStr
  rw [List.getElem?_map, Array.getElem?_toList, hc]
  rfl
theorem enumFrom_get : ∀ {xs : List Val} {n i : Nat} {x : Val}, xs[i]? = some x → (enumFrom n xs)[i]? = some (.tup [.int ((n + i : Nat) : Int), x])
  | [], _, _, _, h => by simp at h
  | y :: ys, n, 0, x, h => by
    simp at h
    subst h
    rfl
  | y :: ys, n, i + 1, x, h => by
    have h2 : ys[i]? = some x := by simpa using h
    have q := enumFrom_get (n := n + 1) h2
    have e : n + 1 + i = n + (i + 1) := by omega
    rw [e] at q
    exact q
theorem enumFrom_length : ∀ (xs : List Val) (n : Nat), (enumFrom n xs).length = xs.length
  | [], _ => rfl
  | _ :: xs, n => congrArg Nat.succ (enumFrom_length xs (n + 1))
theorem zipV_get : ∀ {xs ys : List Val} {i : Nat} {x y : Val}, xs[i]? = some x → ys[i]? = some y → (zipV xs ys)[i]? = some (.tup [x, y])
  | [], _, _, _, _, h, _ => by simp at h
  | _ :: _, [], _, _, _, _, h => by simp at h
  | a :: xs, b :: ys, 0, x, y, h, h2 => by
    simp at h h2
    subst h h2
    rfl
  | a :: xs, b :: ys, i + 1, x, y, h, h2 => zipV_get (xs := xs) (ys := ys) (i := i) (by simpa using h) (by simpa using h2)
theorem zipV_length : ∀ (xs ys : List Val), (zipV xs ys).length = min xs.length ys.length
  | [], ys => by simp [zipV]
  | _ :: _, [] => by simp [zipV]
  | _ :: xs, _ :: ys => by
    show (zipV xs ys).length + 1 = _
    rw [zipV_length xs ys]
    simp only [List.length_cons]
    omega
theorem itOk_enum {a : Addr} {xs : List Val} (h : ∀ B' S H, Wider B B' H0 → HR K B' H S → ExtB B' S0 S H0 H → ∃ vs, SqL K H a vs ∧ RVs K B' H S xs vs) : ItOk K B (Ite K a) S0 H0 none (enumFrom 0 xs) := by
  refine ⟨fun B' S H i wb hr e _ hi => ?_, fun B' S H i wb hr e _ hi => ?_, fun B' S H i x H' wb hr e _ hi hy => ?_⟩ <;> rw [enumFrom_length] at hi <;> obtain ⟨vs, h1, h2⟩ := h B' S H wb hr e <;> have hl := h2.length
  · exact ⟨vs, vs[i]'(by omega), h1, List.getElem?_eq_getElem (by omega)⟩
  · exact ⟨vs, h1, by omega⟩
  · obtain ⟨T, y, rfl, hT, rfl, hx⟩ := hy
    obtain ⟨v, h3, h4⟩ := h2.getR (hx vs h1)
    have q := enumFrom_get (n := 0) h3
    rw [Nat.zero_add] at q
    exact ⟨_, q, .tup (.inl ⟨.inl upd_same, hr.free hT⟩) (.cons (.int _) (.cons (h4.ext (Ext.new hT)) .nil)), hr.new hT, Ext.new hT⟩
theorem itOk_zip {a b : Addr} {xs ys : List Val} (h : ∀ B' S H, Wider B B' H0 → HR K B' H S → ExtB B' S0 S H0 H → ∃ vs us, SqL K H a vs ∧ SqL K H b us ∧ RVs K B' H S xs vs ∧ RVs K B' H S ys us) : ItOk K B (Itz K a b) S0 H0 none (zipV xs ys) := by
  refine ⟨fun B' S H i wb hr e _ hi => ?_, fun B' S H i wb hr e _ hi => ?_, fun B' S H i x H' wb hr e _ hi hy => ?_⟩ <;> rw [zipV_length] at hi <;> obtain ⟨vs, us, h1, h2, h3, h4⟩ := h B' S H wb hr e <;> have hl := h3.length <;> have hl2 := h4.length
  · exact ⟨vs, us, vs[i]'(by omega), us[i]'(by omega), h1, h2, List.getElem?_eq_getElem (by omega), List.getElem?_eq_getElem (by omega)⟩
  · exact ⟨vs, us, h1, h2, by omega⟩
  · obtain ⟨T, y, z, rfl, hT, rfl, hx, hz⟩ := hy
    obtain ⟨v, q1, q2⟩ := h3.getR (hx vs h1)
    obtain ⟨w, q3, q4⟩ := h4.getR (hz us h2)
    exact ⟨_, zipV_get q1 q3, .tup (.inl ⟨.inl upd_same, hr.free hT⟩) (.cons (q2.ext (Ext.new hT)) (.cons (q4.ext (Ext.new hT)) .nil)), hr.new hT, Ext.new hT⟩
theorem itOk_zipT {a b : Addr} {xs ys : List Val} (h : ∀ B' S H, Wider B B' H0 → HR K B' H S → ExtB B' S0 S H0 H → ∃ vs us, SqT K H a vs ∧ SqT K H b us ∧ RVs K B' H S xs vs ∧ RVs K B' H S ys us) : ItOk K B (ItzT K a b) S0 H0 none (zipV xs ys) := by
  refine ⟨fun B' S H i wb hr e _ hi => ?_, fun B' S H i wb hr e _ hi => ?_, fun B' S H i x H' wb hr e _ hi hy => ?_⟩ <;> rw [zipV_length] at hi <;> obtain ⟨vs, us, h1, h2, h3, h4⟩ := h B' S H wb hr e <;> have hl := h3.length <;> have hl2 := h4.length
  · exact ⟨vs, us, vs[i]'(by omega), us[i]'(by omega), h1, h2, List.getElem?_eq_getElem (by omega), List.getElem?_eq_getElem (by omega)⟩
  · exact ⟨vs, us, h1, h2, by omega⟩
  · obtain ⟨T, y, z, rfl, hT, rfl, hx, hz⟩ := hy
    obtain ⟨v, q1, q2⟩ := h3.getR (hx vs h1)
    obtain ⟨w, q3, q4⟩ := h4.getR (hz us h2)
    exact ⟨_, zipV_get q1 q3, .tup (.inl ⟨.inl upd_same, hr.free hT⟩) (.cons (q2.ext (Ext.new hT)) (.cons (q4.ext (Ext.new hT)) .nil)), hr.new hT, Ext.new hT⟩
theorem itOk_range {lo : Int} {n : Nat} : ItOk K B (Itr lo n) S0 H0 none (upTo lo n) := by
  have hl : (upTo lo n).length = n := by unfold upTo; rw [List.length_map, List.length_range]
  refine ⟨fun B' S H i wb hr e _ hi => by rw [hl] at hi; exact hi, fun B' S H i wb hr e _ hi => by rw [hl] at hi; exact hi, fun B' S H i x H' wb hr e _ hi hy => ?_⟩
  obtain ⟨rfl, rfl⟩ := hy
  rw [hl] at hi
  refine ⟨.int (lo + i), ?_, .int _, hr, Ext.refl⟩
  unfold upTo
  rw [List.getElem?_map, List.getElem?_range hi]
  rfl
end

section
variable {X : Cx} {W : WX} {a b c e o : Expr} {es : List Expr} {ma mb me mo : IE} {ta tb : IT} {pos : Pos} {tg : Expr}
/-- a list, a tuple, a text -/
theorem pi_walk (he : PE X e (liftE X.K W me)) : PI X tg e (liftI X.K W (walkI me)) := by
  refine ⟨fun pins s σ H R I ⟨ρ, S, B, Qi, Ei, Rr, h, q, er⟩ => ?_⟩
  let W0 : VK := fun x H1 => ∃ v S1, RV X.K B H1 S1 v x ∧ HR X.K B H1 S1 ∧ Ext S S1 H H1 ∧ (match v with
    | .tup xs => Qi none xs S1
    | .set xs => Qi none xs S1
    | .lst xs => Qi none xs S1
    | .scr ns => Qi none (ns.map Val.int) S1
    | .str x => Qi none (walkStr x) S1
    | .ref a => (match S1 a with
      | some (.lst xs) => Qi (some a) xs S1
      | _ => False)
    | _ => False)
  refine thn (he.run pins s σ H W0 I ⟨ρ, S, B, _, Ei, Rr, h, fun v S1 x H1 rv hr e h1 => ⟨v, S1, rv, hr, e, h1⟩, er⟩) fun u s1 ⟨x, H1, I1, r1, v, S1, rv, hr, ex, hv⟩ => ?_
  have lists : ∀ (p : Addr) (vs : List V) (g : Option Addr) (xs : List Val), x = .ref p → SqL X.K H1 p vs → (∀ B' S H, Wider B B' H1 → HR X.K B' H S → ExtB B' S1 S H1 H → guardOk g xs S → ∃ vs, SqL X.K H p vs ∧ RVs X.K B' H S xs vs) → Qi g xs S1 → wpAny (model X.prog X.w) X.A (pyIter u) (PIE X pins σ tg R) X.xe s1 := by
    intro p vs g xs e1 hs hi hq
    subst e1
    cases r1
    obtain ⟨its, rw_, pl, hz⟩ := I1.list hs
    refine wpAny_pyIter_list pl.isList ⟨_, [_], _, _, H1, rfl, I1.kept (t' := s1.toks) fun b o e => Heap.get?_push_of_some _ e, turn_list p _, ⟨_, Heap.get?_push_size _ rfl, rfl, rfl⟩, fun b hb => ?_, q g xs S1 _ H1 hr ex (itOk_list hi) hq⟩
    obtain rfl : b = _ := List.mem_singleton.mp hb
    exact I1.fpOk (Nat.le_refl _) (I1.hok.fresh (Nat.le_refl _))
  cases rv with
  | kt h0 h2 =>
    cases r1
    have h1 := h0.at (K := X.K)
    obtain ⟨its, rw_, pl, hz⟩ := I1.tuple h1.sq
    refine wpAny_pyIter_tuple (show s1.heap.IsTuple _ its.toArray from pl) ⟨_, [_], _, _, H1, rfl, I1.kept (t' := s1.toks) fun b o e => Heap.get?_push_of_some _ e, turn_tuple _ _, ⟨_, Heap.get?_push_size _ rfl, rfl, rfl⟩, fun b hb => ?_,
      q none _ S1 _ H1 hr ex (itOk_tup fun B' S2 H2 wb hr2 e2 => ⟨_, ((h1.moreB wb).extB e2).sq, (h2.moreB wb).extB e2⟩) hv⟩
    obtain rfl : b = _ := List.mem_singleton.mp hb
    exact I1.fpOk (Nat.le_refl _) (I1.hok.fresh (Nat.le_refl _))
  | tup h1 h2 =>
    cases r1
    obtain ⟨its, rw_, pl, hz⟩ := I1.tuple h1.sq
    refine wpAny_pyIter_tuple (show s1.heap.IsTuple _ its.toArray from pl) ⟨_, [_], _, _, H1, rfl, I1.kept (t' := s1.toks) fun b o e => Heap.get?_push_of_some _ e, turn_tuple _ _, ⟨_, Heap.get?_push_size _ rfl, rfl, rfl⟩, fun b hb => ?_,
      q none _ S1 _ H1 hr ex (itOk_tup fun B' S2 H2 wb hr2 e2 => ⟨_, ((h1.moreB wb).extB e2).sq, (h2.moreB wb).extB e2⟩) hv⟩
    obtain rfl : b = _ := List.mem_singleton.mp hb
    exact I1.fpOk (Nat.le_refl _) (I1.hok.fresh (Nat.le_refl _))
  | lst h1 h2 h3 => exact lists _ _ none _ rfl (SqL.of h1) (fun B' S2 H2 wb hr2 e2 _ => ⟨_, SqL.of (e2 _ _ h2.1 (wb.no h1 h2.2) h1).2, (h3.moreB wb).extB e2⟩) hv
  | scr h1 => exact lists _ _ none _ rfl h1.sq (fun B' S2 H2 wb hr2 e2 _ => ⟨_, ((h1.moreB wb).extB e2).sq, RVs.of_ints _⟩) hv
  | ref a =>
    dsimp only at hv
    split at hv
    · rename_i xs q0
      obtain ⟨vs, h1, h2⟩ := hr.ok _ _ q0
      refine lists a vs (some a) xs rfl (SqL.of h1) (fun B' S2 H2 wb hr2 e2 hg => ?_) hv
      obtain ⟨vs2, h3, h4⟩ := hr2.ok _ _ (show S2 a = some (.lst xs) from hg)
      exact ⟨vs2, SqL.of h3, h4⟩
    · exact hv.elim
  | str z =>
    obtain ⟨t, rfl⟩ := r1
    cases ha : z.cps.all (· < 128)
    · exact wpAny_pyIter_wide ha (pi_one (tk := s1.toks) I1 _ (turn_str _ z t "str_iterator" (.inr rfl)) ⟨_, Heap.get?_push_size _ rfl, rfl, rfl⟩ (q none _ S1 _ H1 hr ex itOk_str hv))
    · exact wpAny_pyIter_ascii ha (pi_one (tk := s1.toks) I1 _ (turn_str _ z t "str_ascii_iterator" (.inl rfl)) ⟨_, Heap.get?_push_size _ rfl, rfl, rfl⟩ (q none _ S1 _ H1 hr ex itOk_str hv))
  | _ => exact (show False from hv).elim
theorem pi_rng1 {p : Pos} (hg : Gl X "range") (hm : X.mg "range" = none) (hs : starB a = false) (ha : PE X a (liftE X.K W ma)) : PI X tg (.Call (.Name "range" p) [a] [] pos) (liftI X.K W (rng1I ma)) :=
  (pi_range1 hg hm (pa_cons ha pa_nil (starEach_one hs)) (starEach_one hs)).imp fun σ H R ⟨ρ, S, B, Qi, Ei, Rr, h, q, er⟩ => ⟨ρ, S, B, _, Ei, Rr, h, fun v S1 x H1 rv hr1 e h1 => by
    cases rv with
    | int j =>
      obtain ⟨⟨b1, b2⟩, h1⟩ := h1
      exact ⟨j, rfl, b1, b2, q none _ S1 _ H1 hr1 e itOk_range h1⟩
    | _ => exact (show False from h1).elim, er⟩
theorem pi_rng2 {p : Pos} (hg : Gl X "range") (hm : X.mg "range" = none) (hs : starB a = false) (hs2 : starB b = false) (ha : PE X a (liftE X.K W ma)) (hb : PE X b (liftE X.K W mb)) : PI X tg (.Call (.Name "range" p) [a, b] [] pos) (liftI X.K W (rng2I ma mb)) :=
  (pi_range2 hg hm (pa_cons ha (pa_cons hb pa_nil (starEach_one hs2)) (starEach_one hs)) (by rw [starEach_one hs, starEach_one hs2]; rfl) (starEach_one hs2)).imp fun σ H R ⟨ρ, S, B, Qi, Ei, Rr, h, q, er⟩ => ⟨ρ, S, B, _, Ei, Rr, h, fun v S1 x H1 rv hr1 e1 h1 =>
    ⟨ρ, S1, B, _, Ei, Rr.ext e1 hr1, h1, fun u S2 y H2 ru hr2 e2 h2 => by
      dsimp only at h2
      split at h2
      · cases rv; cases ru
        obtain ⟨⟨b1, b2⟩, ⟨b3, b4⟩, h2⟩ := h2
        exact ⟨_, _, rfl, ⟨b1, b2, b3, b4⟩, q none _ S2 _ H2 hr2 (e1.trans e2) itOk_range h2⟩
      · exact h2.elim, er.ext e1⟩, er⟩
theorem pi_enu {p : Pos} {elts : List Expr} {kk : Nat} {tpos : Pos} (hg : Gl X "enumerate") (hm : X.mg "enumerate" = none) (hs : starB a = false) (ha : PE X a (liftE X.K W ma)) : PI X (.Tuple elts kk tpos) (.Call (.Name "enumerate" p) [a] [] pos) (liftI X.K W (enumI ma)) :=
  (pi_enum hg hm (pa_cons ha pa_nil (starEach_one hs)) (starEach_one hs)).imp fun σ H R ⟨ρ, S, B, Qi, Ei, Rr, h, q, er⟩ => ⟨ρ, S, B, _, Ei, Rr, h, fun v S1 x H1 rv hr1 e h1 => by
    cases rv with
    | lst i1 i2 i3 => exact ⟨_, _, rfl, SqL.of i1, q none _ S1 _ H1 hr1 e (itOk_enum fun B' S2 H2 wb hr2 e2 => ⟨_, SqL.of (e2 _ _ i2.1 (wb.no i1 i2.2) i1).2, (i3.moreB wb).extB e2⟩) h1⟩
    | _ => exact (show False from h1).elim, er⟩
theorem pi_zp {p : Pos} {elts : List Expr} {kk : Nat} {tpos : Pos} (hg : Gl X "zip") (hm : X.mg "zip" = none) (hs : starB a = false) (hs2 : starB b = false) (ha : PE X a (liftE X.K W ma)) (hb : PE X b (liftE X.K W mb)) : PI X (.Tuple elts kk tpos) (.Call (.Name "zip" p) [a, b] [] pos) (liftI X.K W (zipI ma mb)) :=
  (pi_zipA hg hm (pa_cons ha (pa_cons hb pa_nil (starEach_one hs2)) (starEach_one hs)) (starEach_one hs) (backTo_plain (by show (starB b || false) = false; rw [hs2]; rfl))).imp fun σ H R ⟨ρ, S, B, Qi, Ei, Rr, h, q, er⟩ => ⟨ρ, S, B, _, Ei, Rr, h, fun v S1 x H1 rv hr1 e1 h1 =>
    ⟨ρ, S1, B, _, Ei, Rr.ext e1 hr1, h1, fun u S2 y H2 ru hr2 e2 h2 => by
      dsimp only at h2
      have rv2 := rv.ext e2
      split at h2
      · cases rv2 with
        | lst i1 i2 i3 =>
        cases ru with
        | lst j1 j2 j3 =>
        exact ⟨_, _, _, _, rfl, .inl ⟨SqL.of i1, SqL.of j1, q none _ S2 _ H2 hr2 (e1.trans e2) (itOk_zip fun B' S3 H3 wb hr3 e3 => ⟨_, _, SqL.of (e3 _ _ i2.1 (wb.no i1 i2.2) i1).2, SqL.of (e3 _ _ j2.1 (wb.no j1 j2.2) j1).2, (i3.moreB wb).extB e3, (j3.moreB wb).extB e3⟩) h2⟩⟩
      · cases rv2 with
        | tup i1 i2 =>
        cases ru with
        | tup j1 j2 =>
        exact ⟨_, _, _, _, rfl, .inr ⟨i1.sq, j1.sq, q none _ S2 _ H2 hr2 (e1.trans e2) (itOk_zipT fun B' S3 H3 wb hr3 e3 => ⟨_, _, ((i1.moreB wb).extB e3).sq, ((j1.moreB wb).extB e3).sq, (i2.moreB wb).extB e3, (j2.moreB wb).extB e3⟩) h2⟩⟩
      · exact h2.elim, er.ext e1⟩, er⟩

/-! ### for -/
theorem drop_nil {α : Type} {xs : List α} {i : Nat} (h : xs.drop i = []) (hi : i ≤ xs.length) : i = xs.length := by
  have := congrArg List.length h
  rw [List.length_drop] at this
  simp at this
  omega
theorem drop_cons {α : Type} {xs r : List α} {x : α} {i : Nat} (h : xs.drop i = x :: r) : i < xs.length ∧ xs[i]? = some x ∧ xs.drop (i + 1) = r := by
  have hl : i < xs.length := by
    have := congrArg List.length h
    rw [List.length_drop] at this
    simp at this
    omega
  refine ⟨hl, ?_, ?_⟩
  · have q : (xs.drop i)[0]? = some x := by rw [h]; rfl
    rw [List.getElem?_drop] at q
    exact q
  · rw [← List.drop_drop, h]
    rfl
theorem ss_for {iter : Expr} {body : List Stmt} {t : Tg} {m1 : IS} {mi : II} (hp : PassesOwn (model X.prog X.w) X.A X.env X.xe) (hc : X.calm = true) (hi : PI X tg iter (liftI X.K W mi)) (hg : PG X tg (gT X.K t)) (hb : PSs X body (liftS X.K W m1)) (hs : setB iter = false) :
    PS X (.For tg iter body [] pos) (liftS X.K W (forI mi t m1)) :=
  (ps_for hp hc hi hg hb (folded_no hs)).imp fun D σ H ⟨ρ, S, B, Di, R, h, d⟩ => ⟨ρ, S, B, _, _, R, h, fun g xs S1 J H1 hr1 e1 io h1 => by
    have R1 := R.ext e1 hr1
    refine ⟨fun i m σ2 H2 => m = xs.length - i ∧ i ≤ xs.length ∧ ∃ ρ2 S2, Rl X.K B ρ2 S2 σ2 H2 ∧ Ext S1 S2 H1 H2 ∧ forGo g xs t m1 Di (xs.drop i) ρ2 S2, ⟨xs.length, rfl, Nat.zero_le _, ρ, S1, R1, Ext.refl, h1⟩, fun i m σ2 H2 ⟨hm, hi, ρ2, S2, R2, e2, h2⟩ => ?_⟩
    cases hd : xs.drop i with
    | nil =>
      rw [hd] at h2
      obtain ⟨hgd, h2⟩ := h2
      have hi2 := drop_nil hd hi
      exact .inl ⟨io.stop B S2 H2 i Wider.refl R2.hr e2.b hgd (by omega), d.nx ρ2 S2 σ2 H2 R2 (e1.trans e2) h2⟩
    | cons x r =>
      rw [hd] at h2
      obtain ⟨hgd, h2⟩ := h2
      obtain ⟨hl, hx, hr⟩ := drop_cons hd
      obtain ⟨ρ3, e3, h2⟩ := someP_some h2
      refine .inr ⟨io.go B S2 H2 i Wider.refl R2.hr e2.b hgd hl, fun σ4 H4 => ∃ ρ4 S4, Rl X.K B ρ4 S4 σ4 H4 ∧ Ext S1 S4 H1 H4 ∧ forGo g xs t m1 Di r ρ4 S4, fun σ4 H4 ⟨ρ4, S4, R4, e4, h4⟩ => ⟨xs.length - (i + 1), by omega, rfl, hl, ρ4, S4, R4, e4, by rw [hr]; exact h4⟩, fun y H3 hy => ?_⟩
      obtain ⟨v, q1, rv, hr3, ee⟩ := io.yld B S2 H2 i y H3 Wider.refl R2.hr e2.b hgd hl hy
      rw [hx] at q1
      cases q1
      have eA := e2.trans ee
      refine tg_ok (R2.st.ext ee) rv e3 fun σ5 r5 _ => ⟨ρ3, S2, B, _, ⟨r5, hr3⟩, h2, ?_⟩
      have dA := d.ext (e1.trans eA)
      exact ⟨fun ρ6 S6 σ6 H6 R6 e6 h6 => ⟨ρ6, S6, R6, eA.trans e6, h6⟩, dA.rt, dA.ex, dA.nx, fun ρ6 S6 σ6 H6 R6 e6 h6 => ⟨ρ6, S6, R6, eA.trans e6, h6⟩⟩, d.er R.st⟩

/-! ### comprehensions -/
abbrev noW : WX := fun _ _ _ _ => False
theorem wipe_twice (σ : St) (vs : List Nat) : wipe (wipe σ vs) vs = wipe σ vs := wipe_eq (wipe_length _ _) fun j hj => wipe_out hj
/-- all but the place p -/
def ExtX (p : Addr) (S S' : Sto) (H H' : Hp) : Prop := ∀ a o, a ≠ p → S a = none → H a = some o → S' a = none ∧ H' a = some o
theorem Ext.x {p : Addr} {S S' : Sto} {H H' : Hp} (e : Ext S S' H H') : ExtX p S S' H H' := fun a o _ h1 h2 => e a o h1 h2
theorem ExtX.trans {p : Addr} {S S1 S2 : Sto} {H H1 H2 : Hp} (a : ExtX p S S1 H H1) (b : ExtX p S1 S2 H1 H2) : ExtX p S S2 H H2 := fun c o hp h1 h2 =>
  let ⟨h3, h4⟩ := a c o hp h1 h2
  b c o hp h3 h4
theorem ExtX.toB {p : Addr} {B : Addr → Prop} {S S' : Sto} {H H' : Hp} (hp : B p) (e : ExtX p S S' H H') : ExtB B S S' H H' := fun a o h1 h2 h3 => e a o (fun z => h2 (by rw [z]; exact hp)) h1 h3
theorem ExtX.upd {p : Addr} {S : Sto} {H : Hp} {o : HO} : ExtX p S S H (L2.upd H p o) := fun a u hp h1 h2 => ⟨h1, by rw [upd_ne hp]; exact h2⟩
theorem ExtX.ext {p : Addr} {S S' : Sto} {H H' : Hp} (hp : H p = none) (e : ExtX p S S' H H') : Ext S S' H H' := fun a o h1 h2 => e a o (ne_of_none h2 hp) h1 h2
/-- the loop of a comprehension: Dd the list that grows -/
theorem lc_loop {K : PySem.W.Frag} {B0 B1 : Addr → Prop} {J : It} {S1 : Sto} {H1 Hs : Hp} {g : Option Addr} {xs acc0 : List Val} {vs0 : List V} {Dd : Addr} {t : Tg} {ρw : ISt} {σ : St} {own : List Nat} {Kk : List Val → Sto → Prop} {Fin : Hp → Prop}
    (io : ItOk K B0 J S1 H1 g xs) (wb : Wider B0 B1 H1) (dD : B1 Dd) (hrs : HR K B1 Hs S1) (es : ExtX Dd S1 S1 H1 Hs) (hds : Hs Dd = some (.lst vs0)) (rvs : RVs K B1 Hs S1 acc0 vs0) (rst : RSt K B1 Hs S1 ρw (wipe σ own)) (ht : ∀ i ∈ tgIdx t, i ∈ own)
    (h : lcGo g xs t ta me ρw xs acc0 S1 Kk) (fin : ∀ acc S H vs, HR K B1 H S → ExtX Dd S1 S Hs H → H Dd = some (.lst vs) → RVs K B1 H S acc vs → Kk acc S → Fin H) :
    ∃ W : Nat → Nat → Hp → Prop, (∃ m, W 0 m Hs) ∧ ∀ i m H, W i m H → (J.stop i H ∧ Fin H) ∨ (J.go i H ∧ ∃ Nx : Hp → Prop, (∀ H', Nx H' → ∃ m', m' < m ∧ W (i + 1) m' H') ∧
      ∀ x H', J.yld i H x H' → gT K t x (wipe σ own) H' fun σ2 H2 => wipe σ2 own = wipe σ own ∧ liftT K noW ta σ2 H2 fun b H3 =>
        if b = true then liftE K noW me σ2 H3 fun y H4 => ∃ acc, H4 Dd = some (.lst acc) ∧ acc.length < sizeLine ∧ Nx (upd H4 Dd (.lst (acc ++ [y]))) else Nx H3) := by
  refine ⟨fun i m H2 => m = xs.length - i ∧ i ≤ xs.length ∧ ∃ S2 acc vs, HR K B1 H2 S2 ∧ ExtX Dd S1 S2 Hs H2 ∧ H2 Dd = some (.lst vs) ∧ RVs K B1 H2 S2 acc vs ∧ lcGo g xs t ta me ρw (xs.drop i) acc S2 Kk,
    ⟨xs.length, rfl, Nat.zero_le _, S1, acc0, vs0, hrs, Ext.refl.x, hds, rvs, h⟩, fun i m H2 ⟨hm, hi, S2, acc, vs, hr2, e2, hd2, rv2, h2⟩ => ?_⟩
  have s2 := (hr2.hid Dd dD).1
  have eA : ExtB B1 S1 S2 H1 H2 := (es.trans e2).toB dD
  cases hd : xs.drop i with
  | nil =>
    rw [hd] at h2
    obtain ⟨hgd, h2⟩ := h2
    have hi2 := drop_nil hd hi
    exact .inl ⟨io.stop B1 S2 H2 i wb hr2 eA hgd (by omega), fin acc S2 H2 vs hr2 e2 hd2 rv2 h2⟩
  | cons x r =>
    rw [hd] at h2
    obtain ⟨hgd, h2⟩ := h2
    obtain ⟨hl, hx, hr⟩ := drop_cons hd
    obtain ⟨ρ3, e3, h2⟩ := someP_some h2
    refine .inr ⟨io.go B1 S2 H2 i wb hr2 eA hgd hl, fun H4 => ∃ S4 acc4 vs4, HR K B1 H4 S4 ∧ ExtX Dd S1 S4 Hs H4 ∧ H4 Dd = some (.lst vs4) ∧ RVs K B1 H4 S4 acc4 vs4 ∧ lcGo g xs t ta me ρw r acc4 S4 Kk,
      fun H4 ⟨S4, acc4, vs4, a1, a2, a3, a4, a5⟩ => ⟨xs.length - (i + 1), by omega, rfl, hl, S4, acc4, vs4, a1, a2, a3, a4, by rw [hr]; exact a5⟩, fun y H3 hy => ?_⟩
    obtain ⟨v, q1, rv, hr3, ee⟩ := io.yld B1 S2 H2 i y H3 wb hr2 eA hgd hl hy
    rw [hx] at q1
    cases q1
    have e23 : ExtX Dd S1 S2 Hs H3 := e2.trans ee.x
    have rst3 : RSt K B1 H3 S2 ρw (wipe σ own) := rst.extB (e23.toB dD)
    have hd3 : H3 Dd = some (.lst vs) := (ee Dd _ s2 hd2).2
    refine tg_ok rst3 rv e3 fun σ5 r5 bt => ⟨bt _ ht |>.trans (wipe_twice _ _), ?_⟩
    refine ⟨ρ3, S2, B1, _, _, ⟨r5, hr3⟩, h2, fun k S4 H4 hr4 e4 h4 => ?_, fun _ _ _ _ _ _ _ _ z => z⟩
    have hd4 := (e4 Dd _ s2 hd3).2
    have s4 := (hr4.hid Dd dD).1
    have rv4 := (rv2.ext ee).ext e4
    cases k with
    | false => exact iteF ⟨S4, acc, vs, hr4, e23.trans e4.x, hd4, rv4, h4⟩
    | true =>
      refine iteT ⟨ρ3, S4, B1, _, _, ⟨r5.ext e4, hr4⟩, h4, fun u S5 z H5 ru hr5 e5 h5 => ?_, fun _ _ _ _ _ _ _ _ z => z⟩
      have hd5 := (e5 Dd _ s4 hd4).2
      have rv5 := rv4.ext e5
      exact ⟨vs, hd5, by rw [← rv5.length]; exact h5.1, S5, acc ++ [u], vs ++ [z], hr5.hidden dD, (e23.trans (e4.x.trans e5.x)).trans ExtX.upd, upd_same, (rv5.append (.cons ru .nil)).extB (ExtB.hidden dD), h5.2⟩
/-- the list is done -/
theorem lc_done {K : PySem.W.Frag} {B : Addr → Prop} {S S2 : Sto} {H H2 : Hp} {Dd : Addr} {acc : List Val} {vs : List V} {c : Bool} {Qi : VQ} {Q : VK} (q : QR K B S H Qi Q) (e : Ext S S2 H H2) (hr2 : HR K (More B Dd) H2 S2) (sD : ¬ B Dd) (hn : H Dd = none)
    (hd2 : H2 Dd = some (.lst vs)) (rv2 : RVs K (More B Dd) H2 S2 acc vs) (h2 : newL c acc S2 Qi) : Q (.ref Dd) H2 := by
  have sub : ∀ a, B a → More B Dd a := fun a z => .inr z
  have s2 := (hr2.hid Dd (.inl rfl)).1
  cases c with
  | false => exact q (.lst acc) S2 (.ref Dd) H2 (.lst hd2 ⟨s2, sD⟩ (RVs.lessB sub rv2)) (hr2.lessB sub) e h2
  | true =>
    have ex : ExtB (More B Dd) S2 (S2.put Dd (.lst acc)) H2 H2 := fun a u hs hb ha => by
      have ne : a ≠ Dd := fun z => hb (.inl z)
      exact ⟨by rw [Sto.put_ne ne]; exact hs, ha⟩
    have rv3 : RVs K B H2 (S2.put Dd (.lst acc)) acc vs := RVs.lessB sub (rv2.extB ex)
    have hr3 : HR K B H2 (S2.put Dd (.lst acc)) := ⟨fun a k hk => by
      by_cases z : a = Dd
      · subst z
        rw [Sto.put_same] at hk
        cases hk
        exact ⟨vs, hd2, rv3⟩
      · rw [Sto.put_ne z] at hk
        exact ((hr2.ok a k hk).extB ex rfl).lessB sub, fun a hb => by
      have z : a ≠ Dd := fun z => sD (by rw [← z]; exact hb)
      obtain ⟨q1, q2⟩ := hr2.hid a (.inr hb)
      exact ⟨by rw [Sto.put_ne z]; exact q1, q2⟩⟩
    refine q (.ref Dd) (S2.put Dd (.lst acc)) (.ref Dd) H2 (.ref Dd) hr3 (fun a u hs ha => ?_) (h2 Dd s2)
    have z : a ≠ Dd := ne_of_none ha hn
    obtain ⟨q1, q2⟩ := e a u hs ha
    exact ⟨by rw [Sto.put_ne z]; exact q1, q2⟩
theorem lc_imp {mi : II} {t : Tg} {c : Bool} {own : List (Str × Nat)} (ht : ∀ i ∈ tgIdx t, i ∈ own.map (·.2)) : ∀ σ H Q, liftE X.K W (lcI c mi t ta me (own.map (·.2))) σ H Q → tLc (liftI X.K W mi) (gT X.K t) (liftT X.K noW ta) (liftE X.K noW me) (own.map (·.2)) σ H Q := fun σ H Q ⟨ρ, S, B, Qi, Ei, R, h, q, er⟩ =>
  ⟨ρ, S, B, _, Ei, R, h, fun g xs S1 J H1 hr1 e1 io h1 Dd hD => by
    have R1 := R.ext e1 hr1
    have sD := hr1.free hD
    have wD : Wider B (More B Dd) H1 := Wider.more hD
    have eN : Ext S1 S1 H1 (upd H1 Dd (.lst [])) := Ext.new hD
    exact lc_loop io wD (.inl rfl) (hr1.hide hD) eN.x upd_same .nil (((R1.st.wipe (own.map (·.2))).moreB wD).ext eN) ht h1 fun acc S2 H2 vs hr2 e2 hd2 rv2 h2 =>
      lc_done (q.ext e1) (ExtX.ext hD (eN.x.trans e2)) hr2 sD.2 hD hd2 rv2 h2, er⟩
/-- two clauses -/
theorem lc2_imp {mi mi1 : II} {t t1 : Tg} {ta1 : IT} {c : Bool} {own : List (Str × Nat)} {vs1 : List Nat} (ht : ∀ i ∈ tgIdx t, i ∈ own.map (·.2)) (ht1 : ∀ i ∈ tgIdx t1, i ∈ vs1) :
    ∀ σ H Q, liftE X.K W (lc2I c mi t ta mi1 t1 ta1 me (own.map (·.2)) vs1) σ H Q → tLc2 (liftI X.K W mi) (gT X.K t) (liftT X.K noW ta) (liftI X.K noW mi1) (gT X.K t1) (liftT X.K noW ta1) (liftE X.K noW me) (own.map (·.2)) vs1 σ H Q := fun σ H Q ⟨ρ, S, B, Qi, Ei, R, h, q, er⟩ =>
  ⟨ρ, S, B, _, Ei, R, h, fun g xs S1 J H1 hr1 e1 io h1 Dd hD => by
    have R1 := R.ext e1 hr1
    have sD := hr1.free hD
    have wD : Wider B (More B Dd) H1 := Wider.more hD
    have dD : More B Dd Dd := .inl rfl
    have eN : Ext S1 S1 H1 (upd H1 Dd (.lst [])) := Ext.new hD
    have rw0 := ((R1.st.wipe (own.map (·.2))).moreB wD).ext eN
    refine ⟨fun i m H2 => m = xs.length - i ∧ i ≤ xs.length ∧ ∃ S2 acc vs, HR X.K (More B Dd) H2 S2 ∧ ExtX Dd S1 S2 (upd H1 Dd (.lst [])) H2 ∧ H2 Dd = some (.lst vs) ∧ RVs X.K (More B Dd) H2 S2 acc vs ∧ lc2Go g xs t ta mi1 t1 ta1 me vs1 (wipeI ρ (own.map (·.2))) (xs.drop i) acc S2 (fun ys S2 => newL c ys S2 Qi),
      ⟨xs.length, rfl, Nat.zero_le _, S1, [], [], hr1.hide hD, Ext.refl.x, upd_same, .nil, h1⟩, fun i m H2 ⟨hm, hi, S2, acc, vs, hr2, e2, hd2, rv2, h2⟩ => ?_⟩
    have s2 := (hr2.hid Dd dD).1
    have eA : ExtB (More B Dd) S1 S2 H1 H2 := (eN.x.trans e2).toB dD
    cases hd : xs.drop i with
    | nil =>
      rw [hd] at h2
      obtain ⟨hgd, h2⟩ := h2
      have hi2 := drop_nil hd hi
      exact .inl ⟨io.stop _ S2 H2 i wD hr2 eA hgd (by omega), lc_done (q.ext e1) (ExtX.ext hD (eN.x.trans e2)) hr2 sD.2 hD hd2 rv2 h2⟩
    | cons x r =>
      rw [hd] at h2
      obtain ⟨hgd, h2⟩ := h2
      obtain ⟨hl, hx, hr⟩ := drop_cons hd
      obtain ⟨ρ3, e3, h2⟩ := someP_some h2
      refine .inr ⟨io.go _ S2 H2 i wD hr2 eA hgd hl, fun H4 => ∃ S4 acc4 vs4, HR X.K (More B Dd) H4 S4 ∧ ExtX Dd S1 S4 (upd H1 Dd (.lst [])) H4 ∧ H4 Dd = some (.lst vs4) ∧ RVs X.K (More B Dd) H4 S4 acc4 vs4 ∧ lc2Go g xs t ta mi1 t1 ta1 me vs1 (wipeI ρ (own.map (·.2))) r acc4 S4 (fun ys S2 => newL c ys S2 Qi),
        fun H4 ⟨S4, acc4, vs4, a1, a2, a3, a4, a5⟩ => ⟨xs.length - (i + 1), by omega, rfl, hl, S4, acc4, vs4, a1, a2, a3, a4, by rw [hr]; exact a5⟩, fun y H3 hy => ?_⟩
      obtain ⟨v, q1, rv, hr3, ee⟩ := io.yld _ S2 H2 i y H3 wD hr2 eA hgd hl hy
      rw [hx] at q1
      cases q1
      have e23 : ExtX Dd S1 S2 (upd H1 Dd (.lst [])) H3 := e2.trans ee.x
      have rst3 := rw0.extB (e23.toB dD)
      have hd3 : H3 Dd = some (.lst vs) := (ee Dd _ s2 hd2).2
      refine tg_ok rst3 rv e3 fun σ5 r5 bt => ⟨bt _ ht |>.trans (wipe_twice _ _), ?_⟩
      refine ⟨ρ3, S2, More B Dd, _, _, ⟨r5, hr3⟩, h2, fun k S4 H4 hr4 e4 h4 => ?_, fun _ _ _ _ _ _ _ _ z => z⟩
      have hd4 := (e4 Dd _ s2 hd3).2
      have s4 := (hr4.hid Dd dD).1
      have rv4 := (rv2.ext ee).ext e4
      have e24 := e23.trans e4.x
      cases k with
      | false => exact iteF ⟨S4, acc, vs, hr4, e24, hd4, rv4, h4⟩
      | true =>
        refine iteT ⟨ρ3, S4, More B Dd, _, _, ⟨r5.ext e4, hr4⟩, h4, fun g1 ys S5 J1 H5 hr5 e5 io1 h5 => ?_, fun _ _ _ _ _ _ _ _ z => z⟩
        have hd5 := (e5 Dd _ s4 hd4).2
        have rv5 := rv4.ext e5
        exact lc_loop io1 Wider.refl dD hr5 Ext.refl.x hd5 rv5 (((r5.ext e4).ext e5).wipe vs1) ht1 h5 fun acc6 S6 H6 vs6 hr6 e6 hd6 rv6 h6 =>
          ⟨S6, acc6, vs6, hr6, e24.trans (e5.x.trans e6), hd6, rv6, h6⟩, er⟩
end
end TL

/-! TL8: comprehensions' rules, ranges as lists, sorted, repeated lists. -/
namespace TL
open PySem PySem.Spec L2
open PyProof.Rows hiding St

section
variable {X : Cx} {W : WX} {a b c e o elt iter tg : Expr} {es ifs : List Expr} {ma mb me mo : IE} {ta tb : IT} {pos spos : Pos} {K : PySem.W.Frag} {scope : Scope} {own : List (Str × Nat)} {t : Tg} {mi : II} {cl_ : Bool}
theorem sp_nil : PTs X [] (liftT X.K W yesT) := ⟨fun pins s σ H Q I ⟨ρ, S, B, Qi, Ei, R, h, q, er⟩ => pts_nil.run pins s σ H Q I (q true S H R.hr Ext.refl h)⟩
theorem sp_one (h : PT X c (liftT X.K W ta)) : PTs X [c] (liftT X.K W ta) := pts_one h
/-- a block of X: any state, any iterator -/
abbrev Blk (X : Cx) (scope : Scope) (P : Cx → Prop) : Prop := ∀ (s : Shared) (H : Hp) (C : Addr) (cl : List (Str × Addr)) (fp : List Addr), P (X.blk s H scope (compEnvC scope cl C X.env) fp)
theorem se_lc (hc : X.calm = true) (hN : X.N.Nodup) (hi : PI X tg iter (liftI X.K W mi)) (ok : BlkOk X.N X.env.scope scope own) (ht : ∀ i ∈ tgIdx t, i ∈ own.map (·.2)) (hs : setB iter = false)
    (hg : Blk X scope fun Y => PG Y tg (gT X.K t)) (hf : Blk X scope fun Y => PTs Y ifs (liftT X.K noW ta)) (he : Blk X scope fun Y => PE Y elt (liftE X.K noW me)) :
    PE X (.ListComp elt [⟨tg, iter, ifs, 0⟩] scope pos) (liftE X.K W (lcI cl_ mi t ta me (own.map (·.2)))) :=
  (pe_lc hc hN hi ok hg hf he (folded_no hs)).imp (lc_imp ht)
theorem ss_setLc {i : Nat} {y : Str} {py : Pos} (hc : X.calm = true) (hN : X.N.Nodup) (hy : X.N[i]? = some y) (hyl : X.env.scope.names.lookup y = some .local)
    (hsw : swapsWith (.ListComp elt [⟨tg, iter, ifs, 0⟩] scope pos) (some (.Name y py)) spos.line X.env = pure true) (hi : PI X tg iter (liftI X.K W mi)) (ok : BlkOk X.N X.env.scope scope own) (ht : ∀ i ∈ tgIdx t, i ∈ own.map (·.2)) (hs : setB iter = false)
    (hg : Blk X scope fun Y => PG Y tg (gT X.K t)) (hf : Blk X scope fun Y => PTs Y ifs (liftT X.K noW ta)) (he : Blk X scope fun Y => PE Y elt (liftE X.K noW me)) :
    PS X (.Assign [.Name y py] (.ListComp elt [⟨tg, iter, ifs, 0⟩] scope pos) spos) (liftS X.K W (setI (.nm i) (lcI cl_ mi t ta me (own.map (·.2))))) :=
  (ps_setLc hc hN hy hyl hsw hi ok hg hf he (folded_no hs)).imp (asg_imp (lc_imp ht))
theorem swaps_lc {elt : Expr} {gs : List Comprehension} {y : Str} {py : Pos} {l : Nat} (hk : X.env.scope.kind = .function) :
    swapsWith (.ListComp elt gs scope pos) (some (.Name y py)) l X.env = pure ((X.env.scope.names.lookup y == some .local) && (py.line == pos.line) && !(scope.names.any fun (n, k) => n == y && (k == .local || k == .cell))) := by
  have hb : X.env.blockKind = .function := by unfold Env.blockKind; rw [hk]; rfl
  unfold swapsWith
  simp only [hb, Env.kindOf, Expr.pos]
  rfl
/-! ### list(range(..)), tuple(range(..)) -/
theorem rgV_rvs {B : Addr → Prop} {H : Hp} {S : Sto} (a b : Int) : RVs K B H S (upTo a (b - a).toNat) (rgV a b) := by
  unfold upTo rgV
  have main : ∀ (f : Nat → Int) (l : List Nat), RVs K B H S (l.map fun i => Val.int (f i)) (l.map fun i => V.int (f i)) := fun f l => by
    induction l with
    | nil => exact .nil
    | cons x r ih => exact .cons (.int _) ih
  exact main (fun i => a + (i : Int)) _
@[reducible] def rgI (c : Bool) (tup : Bool) (a b : Int) (S : Sto) (Q : VQ) : Prop := RgOk a b ∧ match tup with
  | true => Q (.tup (upTo a (b - a).toNat)) S
  | false => newL c (upTo a (b - a).toNat) S Q
@[reducible] def rg1I (c tup : Bool) (a : IE) : IE := fun ρ S Q E => a ρ S (fun x S1 => match x with
  | .int j => rgI c tup 0 j S1 Q
  | _ => False) E
@[reducible] def rg2I (c tup : Bool) (a b : IE) : IE := fun ρ S Q E => a ρ S (fun x S1 => b ρ S1 (fun y S2 => match x, y with
  | .int i, .int j => rgI c tup i j S2 Q
  | _, _ => False) E) E
abbrev tRg (tup : Bool) (te : St → Hp → (Int → Int → Hp → Prop) → Prop) : TE := fun σ H Q => te σ H fun a b H1 => RgOk a b ∧ ∀ q, H1 q = none → Q (.ref q) (upd H1 q (if tup then .tup (rgV a b) else .lst (rgV a b)))
theorem rgI_ok {c tup : Bool} {i j : Int} {B : Addr → Prop} {S : Sto} {H : Hp} {Qi : VQ} {Q : VK} (hr : HR K B H S) (h : rgI c tup i j S Qi) (q : QR K B S H Qi Q) : RgOk i j ∧ ∀ p, H p = none → Q (.ref p) (upd H p (if tup then .tup (rgV i j) else .lst (rgV i j))) := by
  obtain ⟨h1, h2⟩ := h
  cases tup with
  | true => exact ⟨h1, q.tup hr (rgV_rvs i j) h2⟩
  | false => exact ⟨h1, q.lst hr (rgV_rvs i j) h2⟩
theorem rg1_imp {cl_ tup : Bool} : ∀ σ H Q, liftE K W (rg1I cl_ tup ma) σ H Q → tRg tup (tRg1 (liftE K W ma)) σ H Q := fun σ H Q ⟨ρ, S, B, Qi, Ei, R, h, q, er⟩ => ⟨ρ, S, B, _, Ei, R, h, fun v S1 x H1 rv hr1 e h1 => by
    cases rv with
    | int j => exact ⟨j, rfl, rgI_ok hr1 h1 (q.ext e)⟩
    | _ => exact (show False from h1).elim, er⟩
theorem rg2_imp {cl_ tup : Bool} : ∀ σ H Q, liftE K W (rg2I cl_ tup ma mb) σ H Q → tRg tup (tRg2 (liftE K W ma) (liftE K W mb)) σ H Q := fun σ H Q ⟨ρ, S, B, Qi, Ei, R, h, q, er⟩ => ⟨ρ, S, B, _, Ei, R, h, fun v S1 x H1 rv hr1 e1 h1 =>
    ⟨ρ, S1, B, _, Ei, R.ext e1 hr1, h1, fun u S2 y H2 ru hr2 e2 h2 => by
      dsimp only at h2
      split at h2
      · cases rv; cases ru
        exact ⟨_, _, rfl, rfl, rgI_ok hr2 h2 (q.ext (e1.trans e2))⟩
      · exact h2.elim, er.ext e1⟩, er⟩
theorem se_listRg1 {p p2 pos2 : Pos} (hc : X.calm = true) (hg : Gl X "list") (hm : X.mg "list" = none) (hg2 : Gl X "range") (hm2 : X.mg "range" = none) (hs : starB a = false) (ha : PE X a (liftE X.K W ma)) :
    PE X (.Call (.Name "list" p) [.Call (.Name "range" p2) [a] [] pos2] [] pos) (liftE X.K W (rg1I cl_ false ma)) := (pe_listRg hc hg hm (prg_1 hg2 hm2 ha (starEach_one hs)) rfl).imp (rg1_imp (tup := false))
theorem se_listRg2 {p p2 pos2 : Pos} (hc : X.calm = true) (hg : Gl X "list") (hm : X.mg "list" = none) (hg2 : Gl X "range") (hm2 : X.mg "range" = none) (hs : starB a = false) (hs2 : starB b = false) (ha : PE X a (liftE X.K W ma)) (hb : PE X b (liftE X.K W mb)) :
    PE X (.Call (.Name "list" p) [.Call (.Name "range" p2) [a, b] [] pos2] [] pos) (liftE X.K W (rg2I cl_ false ma mb)) := (pe_listRg hc hg hm (prg_2 hg2 hm2 ha hb (starEach_one hs) (starEach_one hs2) (backTo_plain (es := [b]) (by show (starB b || false) = false; rw [hs2]; rfl))) rfl).imp (rg2_imp (tup := false))
theorem se_tupRg1 {p p2 pos2 : Pos} (hc : X.calm = true) (hg : Gl X "tuple") (hm : X.mg "tuple" = none) (hg2 : Gl X "range") (hm2 : X.mg "range" = none) (hs : starB a = false) (ha : PE X a (liftE X.K W ma)) :
    PE X (.Call (.Name "tuple" p) [.Call (.Name "range" p2) [a] [] pos2] [] pos) (liftE X.K W (rg1I cl_ true ma)) := (pe_tupRg hc hg hm (prg_1 hg2 hm2 ha (starEach_one hs)) rfl).imp (rg1_imp (tup := true))
theorem se_tupRg2 {p p2 pos2 : Pos} (hc : X.calm = true) (hg : Gl X "tuple") (hm : X.mg "tuple" = none) (hg2 : Gl X "range") (hm2 : X.mg "range" = none) (hs : starB a = false) (hs2 : starB b = false) (ha : PE X a (liftE X.K W ma)) (hb : PE X b (liftE X.K W mb)) :
    PE X (.Call (.Name "tuple" p) [.Call (.Name "range" p2) [a, b] [] pos2] [] pos) (liftE X.K W (rg2I cl_ true ma mb)) := (pe_tupRg hc hg hm (prg_2 hg2 hm2 ha hb (starEach_one hs) (starEach_one hs2) (backTo_plain (es := [b]) (by show (starB b || false) = false; rw [hs2]; rfl))) rfl).imp (rg2_imp (tup := true))
/-! ### a list, a tuple times an int -/
def rRepB (K : PySem.W.Frag) : R2 := fun x y H Q => ∃ l k xs, x = .ref l ∧ y = .int k ∧ SqT K H l xs ∧ xs ≠ [] ∧ 2 ≤ k ∧ k ≤ 1000000 ∧ xs.length * k.toNat ≤ 1000000 ∧ ∀ p, H p = none → Q (.ref p) (upd H p (.tup (List.replicate k.toNat xs).flatten))
theorem op_repB : OpR X (binaryOp .Mult) (rRepB X.K) := by
  intro pins s σ H x y v u Q I rx ry h
  obtain ⟨l, k, xs, rfl, rfl, hT, hne, h1, h2, hz, q⟩ := h
  cases rx
  obtain ⟨t, rfl⟩ := ry
  obtain ⟨its, r, ⟨⟨cls, dd, data, sl⟩, ho, hc, n, hd⟩, hs⟩ := I.tuple hT
  simp only at hc hd
  subst hc hd
  have hle : its.length = xs.length := r.length.symm
  have hn : its ≠ [] := fun e => hne (by
    rw [e] at hle
    exact List.eq_nil_of_length_eq_zero hle.symm)
  have hi : its.toArray.isEmpty = false := by
    cases its with
    | nil => exact absurd rfl hn
    | cons a b => rfl
  have hsz0 : its.toArray.size = xs.length := by rw [List.size_toArray, hle]
  have hm : ((its.toArray.size : Nat) : Int) * k ≤ 1000000 := by
    rw [hsz0]
    have e : (k.toNat : Int) = k := by omega
    rw [← e, ← Int.natCast_mul]
    omega
  have fl0 : k.toNat * xs.length ≤ 1000000 := by rw [Nat.mul_comm]; exact hz
  have flen : (List.replicate k.toNat its).flatten.length ≤ sizeLine := by
    rw [PyProof.Rows.lm_len_rep_flat, hle, sizeLine_eq]
    omega
  have c0 : (decide (k < -(2 ^ 63)) || decide (k ≥ 2 ^ 63)) = false := by
    rw [decide_eq_false (by omega), decide_eq_false (by omega)] <;> rfl
  have c1 : (its.toArray.isEmpty || k == 1) = false := by
    rw [hi, Bool.false_or]
    exact beq_eq_false_iff_ne.mpr (by omega)
  have c2 : (decide (k ≤ 0) || its.toArray.isEmpty) = false := by
    rw [hi, Bool.or_false]
    exact decide_eq_false (by omega)
  have c4 : Builtin.Tuple.tupleTooMany (((its.toArray.size : Nat) : Int) * k) = false := by
    unfold Builtin.Tuple.tupleTooMany
    rw [sizeLine_eq]
    exact decide_eq_false (by omega)
  refine wpAny_binaryOp_repeat_ref (T := "tuple") (U := "int") (by decide) ⟨_, ho, rfl⟩ (fun s' => typeIs_int s' k t) noFill_tuple_mul F.fills_int_mul F.slot_int_rmul repeat_tuple F.slot_int_index.lookup
    (call_meets F.slot_int_rmul (typeIs_int s k t) F.entry_int_rmul (F.args_int_rmul_2 _ _) (int_rmul_tuple k t l its.toArray n dd sl)
      ⟨ho, rfl, ⟨_, ho, rfl⟩, call_meets F.slot_tuple_mul ⟨_, ho, rfl⟩ F.entry_tuple_mul (F.args_tuple_mul_2 _ _) (tuple_mulW l its.toArray n dd sl k t c0 c1 c2 (by omega) c4 (by rw [size_rep, List.size_toArray]; exact flen)) ⟨ho, ?_⟩⟩)
  rw [size_rep]
  refine ⟨.ref s.heap.objs.size, _, I.laid (t' := s.toks) (o := .tup (List.replicate k.toNat xs).flatten) (fun b ob q => Heap.get?_push_of_some _ q) (Nat.le_refl _) ?_, rfl, q _ (I.hok.fresh (Nat.le_refl _))⟩
  exact ⟨by rw [PyProof.Rows.lm_len_rep_flat, sizeLine_eq]; omega, _, r.rep k.toNat, IsTup.new _ _⟩
abbrev rrMul (K : PySem.W.Frag) : R2 := fun x y H Q => (rI CMulW (fun i j => V.int (i * j)) x y H Q ∨ rRep x y H Q) ∨ rRepB K x y H Q
theorem op_mulP : OpR X (binaryOp .Mult) (rrMul X.K) := (op_mulW.or op_rep).or op_repB
theorem RVs.rep {B : Addr → Prop} {H : Hp} {S : Sto} {xs : List Val} {vs : List V} (r : RVs K B H S xs vs) : ∀ k : Nat, RVs K B H S (List.replicate k xs).flatten (List.replicate k vs).flatten
  | 0 => .nil
  | k + 1 => by
    rw [List.replicate_succ, List.replicate_succ]
    exact r.append (RVs.rep r k)
theorem mulP_ok (c : Bool) : P2Ok K (mulP c) (rrMul K) := by
  intro B x y v u S H Qi Q rx ry hr h q
  unfold mulP at h
  split at h
  · cases rx; cases ry
    exact .inl (.inl ⟨_, _, rfl, rfl, h.1, q.same hr (.int _) h.2⟩)
  · cases ry
    obtain ⟨b0, b1, b2, b3, h⟩ := h
    cases rx with
    | tup h1 h2 => exact .inr ⟨_, _, _, rfl, rfl, h1.sq, fun e => b0 (by cases h2 with
      | nil => rfl
      | cons _ _ => cases e), b1, b2, by rw [← h2.length]; exact b3, q.tup hr (h2.rep _) h⟩
  · cases ry
    obtain ⟨xs, e1, b1, b2, hz, h⟩ := someP_some h
    obtain ⟨p, vs, rfl, a1, a2⟩ := lstOf_h hr rx e1
    exact .inl (.inr ⟨p, _, vs, rfl, rfl, a1, b1, b2, by rw [← a2.length]; exact hz, q.lst hr (a2.rep _) h⟩)
  · exact h.elim
/-! ### sorted -/
theorem sortedP_ok (c : Bool) : PLOk K (sortedP c) (rSortedI K) := by
  intro B xs vs S H Qi Q r hr h q
  unfold sortedP at h
  split at h
  · obtain ⟨v, rfl, r1⟩ := vs1 r
    obtain ⟨ys, e, h⟩ := someP_some h
    obtain ⟨ns, e2, h⟩ := someP_some h
    obtain ⟨p, rfl, h1⟩ := ints_sq hr r1 e e2
    exact ⟨p, ns, rfl, h1, fun ms a h2 h3 ha => q.lst hr (RVs.of_ints ms) (h ms h2 h3) a ha⟩
  · exact h.elim
end
end TL

/-! TLs: sorting tuples of ints of any lengths. -/
namespace TLS
open PySem PySem.Spec PyProof.Rows SrtO
open PySem.W (KatLex kat_nil kat_cons kat_go kat_yes kat_no kat_lt kat_one)

/-- the tuples' order -/
def ltL : List Int → List Int → Bool
  | [], [] => false
  | [], _ :: _ => true
  | _ :: _, [] => false
  | x :: xs, y :: ys => if x = y then ltL xs ys else decide (x < y)
theorem ltL_irrefl : ∀ a, ltL a a = false
  | [] => rfl
  | x :: xs => by unfold ltL; rw [if_pos rfl]; exact ltL_irrefl xs
theorem ltL_asym : ∀ a b, ltL a b = true → ltL b a = false
  | [], [], h => by cases h
  | [], _ :: _, _ => rfl
  | _ :: _, [], h => by cases h
  | x :: xs, y :: ys, h => by
    unfold ltL at h ⊢
    by_cases e : x = y
    · rw [if_pos e] at h
      rw [if_pos e.symm]
      exact ltL_asym xs ys h
    · rw [if_neg e] at h
      rw [if_neg fun z => e z.symm]
      have := of_decide_eq_true h
      exact decide_eq_false (by omega)
theorem ltL_tr : ∀ a b c, ltL b a = false → ltL c b = false → ltL c a = false
  | [], [], c, _, h => h
  | [], _ :: _, [], _, _ => rfl
  | [], y :: ys, z :: zs, _, _ => rfl
  | _ :: _, [], _, h, _ => by cases h
  | x :: xs, y :: ys, [], _, h => by cases h
  | x :: xs, y :: ys, z :: zs, h1, h2 => by
    unfold ltL at h1 h2 ⊢
    by_cases e : y = x
    · rw [if_pos e] at h1
      by_cases e2 : z = y
      · rw [if_pos e2] at h2
        rw [if_pos (e2.trans e)]
        exact ltL_tr xs ys zs h1 h2
      · rw [if_neg e2] at h2
        rw [if_neg (by omega)]
        have := of_decide_eq_false h2
        exact decide_eq_false (by omega)
    · rw [if_neg e] at h1
      have h3 := of_decide_eq_false h1
      by_cases e2 : z = y
      · rw [if_neg (by omega)]
        exact decide_eq_false (by omega)
      · rw [if_neg e2] at h2
        have h4 := of_decide_eq_false h2
        rw [if_neg (by omega)]
        exact decide_eq_false (by omega)
theorem ltL_eq : ∀ a b, ltL a b = false → ltL b a = false → a = b
  | [], [], _, _ => rfl
  | [], _ :: _, h, _ => by cases h
  | _ :: _, [], _, h => by cases h
  | x :: xs, y :: ys, h1, h2 => by
    unfold ltL at h1 h2
    by_cases e : x = y
    · rw [if_pos e] at h1
      rw [if_pos e.symm] at h2
      rw [e, ltL_eq xs ys h1 h2]
    · rw [if_neg e] at h1
      rw [if_neg fun z => e z.symm] at h2
      have := of_decide_eq_false h1
      have := of_decide_eq_false h2
      omega
theorem swo_ltL {α : Type} (k : α → List Int) : Swo fun v u => ltL (k v) (k u) := ⟨fun x y h => ltL_asym _ _ h, fun x y z h1 h2 => ltL_tr _ _ _ h1 h2⟩
theorem lexAt_ltL {z : Bool} (f g : Nat → Int) : ∀ (ns ms : List Int) (i : Nat), (∀ j, ns.getD j 0 = f (i + j)) → (∀ j, ms.getD j 0 = g (i + j)) → z = decide (ns.length < ms.length) →
    Ob.lexAt (fun j => decide (f j = g j)) (fun j => decide (f j < g j)) z i (min ns.length ms.length) = ltL ns ms
  | [], [], i, _, _, hz => by rw [hz]; rfl
  | [], _ :: _, i, _, _, hz => by
    rw [hz]
    simp [Ob.lexAt_zero, ltL]
  | _ :: _, [], i, _, _, hz => by
    rw [hz]
    simp [Ob.lexAt_zero, ltL]
  | x :: xs, y :: ys, i, hf, hg, hz => by
    have e : min (x :: xs).length (y :: ys).length = min xs.length ys.length + 1 := by simp only [List.length_cons]; omega
    rw [e, Ob.lexAt_succ]
    have fx : f i = x := (hf 0).symm
    have gy : g i = y := (hg 0).symm
    rw [fx, gy]
    unfold ltL
    by_cases h : x = y
    · rw [if_pos h, if_pos (decide_eq_true h)]
      refine lexAt_ltL f g xs ys (i + 1) (fun j => ?_) (fun j => ?_) (by rw [hz]; simp)
      · have := hf (j + 1)
        rw [show i + 1 + j = i + (j + 1) by omega]
        exact this
      · have := hg (j + 1)
        rw [show i + 1 + j = i + (j + 1) by omega]
        exact this
    · rw [if_neg h, if_neg (by simpa using h)]

/-- a tuple of ints -/
def IsTI (h : Heap) (v : Value) (ns : List Int) : Prop := ∃ a items, v = .ref a ∧ h.IsTuple a items ∧ IntsAre items.toList ns
theorem IsTI.keeps {h h' : Heap} {v : Value} {ns : List Int} (t : IsTI h v ns) (k : ∀ b o, h.get? b = some o → o.cls = .type "tuple" → h'.get? b = some o) : IsTI h' v ns := by
  obtain ⟨a, items, e, ⟨o, ho, hc, r⟩, hi⟩ := t
  exact ⟨a, items, e, ⟨o, k a o ho hc, hc, r⟩, hi⟩
theorem ints_getD {vs : List Value} {ns : List Int} (h : IntsAre vs ns) : ∀ j (hj : j < vs.length), ∃ t, vs[j] = .int (ns.getD j 0) t := by
  induction h with
  | nil => intro j hj; simp at hj
  | @cons n t vs ns _ ih =>
    intro j hj
    cases j with
    | zero => exact ⟨t, rfl⟩
    | succ j =>
      obtain ⟨t', e⟩ := ih j (by simpa using hj)
      exact ⟨t', by simpa using e⟩
section
variable {prog : Program} {w : World} {A : Around} {E : Value → Shared → Prop} {s : Shared} {M : Model}
theorem lt_ti {v u : Value} {ns ms : List Int} (hv : IsTI s.heap v ns) (hu : IsTI s.heap u ms) (hr : A.units < cLine) : Ob.RcOp .Lt A s v u (ltL ns ms) := by
  obtain ⟨a, its, rfl, ta, ia⟩ := hv
  obtain ⟨b, jts, rfl, tb, ib⟩ := hu
  have l1 : its.size = ns.length := by rw [← Array.length_toList]; exact ia.length
  have l2 : jts.size = ms.length := by rw [← Array.length_toList]; exact ib.length
  have R := Ob.RcOp.tuples_lt (A := A) (s := s) (e := fun j => decide (ns.getD j 0 = ms.getD j 0)) (r := fun j => decide (ns.getD j 0 < ms.getD j 0)) ta tb hr (fun j h1 h2 => by
    obtain ⟨t, et⟩ := ints_getD ia j (by rw [Array.length_toList]; exact h1)
    obtain ⟨t', et'⟩ := ints_getD ib j (by rw [Array.length_toList]; exact h2)
    rw [Array.getElem_toList] at et et'
    rw [et, et']
    have z : (ns.getD j 0 == ms.getD j 0) = decide (ns.getD j 0 = ms.getD j 0) := by
      by_cases q : ns.getD j 0 = ms.getD j 0
      · rw [decide_eq_true q]; exact beq_iff_eq.mpr q
      · rw [decide_eq_false q]; exact beq_eq_false_iff_ne.mpr q
    rw [← z]
    exact SeqAt.EqAt.int_int _ _ _ _) (fun j h1 h2 _ => by
    obtain ⟨t, et⟩ := ints_getD ia j (by rw [Array.length_toList]; exact h1)
    obtain ⟨t', et'⟩ := ints_getD ib j (by rw [Array.length_toList]; exact h2)
    rw [Array.getElem_toList] at et et'
    rw [et, et']
    exact Ob.RcOp.lt_int _ _ _ _)
  rw [l1, l2] at R
  have e := lexAt_ltL (z := decide (ns.length < ms.length)) (fun j => ns.getD j 0) (fun j => ms.getD j 0) ns ms 0 (fun j => by rw [Nat.zero_add]) (fun j => by rw [Nat.zero_add]) rfl
  rw [← e]
  exact R
theorem lex_ti {b fin : Bool} {Q : Bool → Shared → Prop} : ∀ (ps qs : List Value) (i : Nat) (as bs : List Int), IntsAre ps as → IntsAre qs bs → fin = decide (ps.length < qs.length) → Q (ltL as bs) s → KatLex prog w A b fin Q (ps.zip qs) i s
  | _, _, i, _, _, .nil, .nil, hf, h => by
    have e : fin = false := by rw [hf]; rfl
    subst e
    exact kat_nil h
  | _, _, i, _, _, .nil, .cons y t r, hf, h => by
    have e : fin = true := by rw [hf]; exact decide_eq_true (Nat.succ_pos _)
    subst e
    exact kat_nil h
  | _, _, i, _, _, .cons x t r, .nil, hf, h => by
    have e : fin = false := by rw [hf]; exact decide_eq_false (Nat.not_lt_zero _)
    subst e
    exact kat_nil h
  | _, _, i, _, _, .cons (vs := ps) (ns := as) x t r, .cons (vs := qs) (ns := bs) y u r2, hf, h => by
    have hf' : fin = decide (ps.length < qs.length) := by
      rw [hf]; simp only [List.length_cons, Nat.add_lt_add_iff_right]
    refine kat_cons (wpAny_eqBool_int ?_)
    unfold ltL at h
    refine kat_go (fun e => kat_yes ?_) (fun e => kat_no ?_)
    · have hnm : x = y := by simpa using e
      rw [if_pos hnm] at h
      exact lex_ti ps qs (i + 1) as bs r r2 hf' h
    · have hnm : ¬ x = y := by simpa using e
      rw [if_neg hnm] at h
      exact oneLt_any_int h
/-- any two compare, by each of the three kinds -/
theorem cmp_ti {κ : SortKind} {v u : Value} {ns ms : List Int} {Q : Bool → Shared → Prop} (hκ : κ = tuples' true ∨ κ = general' ∨ κ = oneType') (hr : A.units + 1 < cLine) (hv : IsTI s.heap v ns) (hu : IsTI s.heap u ms) (h : Q (ltL ns ms) s) :
    wpAny (model prog w) A (keyLt' κ v u) Q E s := by
  rcases hκ with rfl | rfl | rfl
  · obtain ⟨a, its, rfl, ⟨oa, ha, ca, na, da⟩, ia⟩ := hv
    obtain ⟨b, jts, rfl, ⟨ob, hb, cb, nb, db⟩, ib⟩ := hu
    exact kat_lt ha da hb db (lex_ti _ _ 0 ns ms ia ib (by rw [Array.length_toList, Array.length_toList]) h)
  · exact kat_one v u (lt_ti (A := A) hv hu (by omega) prog w E (PySem.W.BoolBack Q) (by exact h))
  · show wpAny (model prog w) A (oneLt' true v u) Q E s
    rw [oneLt'_eq]
    simp only [if_true]
    refine wpAny_bind (wpAny_cRoomFor (by omega) ?_)
    obtain ⟨a, its, rfl, ta, ia⟩ := id hv
    obtain ⟨b, jts, rfl, tb, ib⟩ := id hu
    obtain ⟨oa, ha, ca, na, da⟩ := id ta
    obtain ⟨ob, hb, cb, nb, db⟩ := id tb
    have l1 : its.size = ns.length := by rw [← Array.length_toList]; exact ia.length
    have l2 : jts.size = ms.length := by rw [← Array.length_toList]; exact ib.length
    refine wpAny_bind (wpAny_callSpecialIfBound?_slot ⟨oa, ha, ca⟩ PySem.F.slot_tuple_lt ?_)
    obtain ⟨acls, add, adata, asl⟩ := oa
    obtain ⟨bcls, bdd, bdata, bsl⟩ := ob
    simp only at ca da cb db
    subst ca da cb db
    refine call_meets PySem.F.slot_tuple_lt ⟨_, ha, rfl⟩ PySem.F.entry_tuple_lt (PySem.F.args_tuple_lt_2 _ _)
      (Ob.tuple_ltAt a b its jts na nb add bdd asl bsl (fun j => decide (ns.getD j 0 = ms.getD j 0)) (fun j => decide (ns.getD j 0 < ms.getD j 0)))
      ⟨ha, hb, fun j h1 h2 => ?_, fun j h1 h2 _ => ?_, ?_⟩
    · obtain ⟨t, et⟩ := ints_getD ia j (by rw [Array.length_toList]; exact h1)
      obtain ⟨t', et'⟩ := ints_getD ib j (by rw [Array.length_toList]; exact h2)
      rw [Array.getElem_toList] at et et'
      rw [et, et']
      have z : (ns.getD j 0 == ms.getD j 0) = decide (ns.getD j 0 = ms.getD j 0) := by
        by_cases q : ns.getD j 0 = ms.getD j 0
        · rw [decide_eq_true q]; exact beq_iff_eq.mpr q
        · rw [decide_eq_false q]; exact beq_eq_false_iff_ne.mpr q
      rw [← z]
      exact SeqAt.EqAt.int_int _ _ _ _
    · obtain ⟨t, et⟩ := ints_getD ia j (by rw [Array.length_toList]; exact h1)
      obtain ⟨t', et'⟩ := ints_getD ib j (by rw [Array.length_toList]; exact h2)
      rw [Array.getElem_toList] at et et'
      rw [et, et']
      exact Ob.RcOp.lt_int _ _ _ _
    · have e := lexAt_ltL (z := decide (ns.length < ms.length)) (fun j => ns.getD j 0) (fun j => ms.getD j 0) ns ms 0 (fun j => by rw [Nat.zero_add]) (fun j => by rw [Nat.zero_add]) rfl
      rw [l1, l2, e]
      exact wpAny_truthy_bool h
/-- the firsts -/
theorem firsts_ti : ∀ (vs : List Value) (fs : List (Option Value)) {Q : List (Option Value) → Shared → Prop}, Paired (fun v f => ∃ a o xs n, v = Value.ref a ∧ s.heap.get? a = some o ∧ o.cls = .type "tuple" ∧ o.data = .seq xs n ∧ xs[0]? = f) vs fs → Q fs s → wpAny M A (vs.mapM firstOfTuple') Q E s
  | _, _, Q, .nil, h => by rw [List.mapM_nil]; exact wpAny_pure h
  | _, _, Q, .cons t r, h => by
    obtain ⟨a, o, xs, n, rfl, ho, hc, hd, hf⟩ := t
    rw [List.mapM_cons]
    refine wpAny_bind ?_
    rw [PySem.W.kas_first_eq]
    refine wpAny_bind (PySem.W.Looks.here (show PySem.W.Looks M s.heap (typeOf (.ref a)) o.cls from (PySem.W.Looks.ld ho).andThen .now) ?_)
    rw [hc, if_neg (by first | decide | simp)]
    refine wpAny_bind (listItems_at ho hd (wpAny_pure ?_))
    rw [hf]
    exact wpAny_bind (firsts_ti _ _ r (wpAny_pure h))
theorem firsts_of_ti {h : Heap} : ∀ {vs : List Value}, (∀ v ∈ vs, ∃ ns, IsTI h v ns) → ∃ fs : List (Option Value), Paired (fun v f => ∃ a o xs n, v = Value.ref a ∧ h.get? a = some o ∧ o.cls = .type "tuple" ∧ o.data = .seq xs n ∧ xs[0]? = f) vs fs ∧ ∀ f, some f ∈ fs → ∃ n t, f = .int n t
  | [], _ => ⟨[], .nil, fun f hf => by cases hf⟩
  | v :: vs, hp => by
    obtain ⟨fs, r, hi⟩ := firsts_of_ti fun u hu => hp u (List.mem_cons_of_mem _ hu)
    obtain ⟨ns, a, items, e, ⟨o, ho, hc, n, hd⟩, ii⟩ := hp v List.mem_cons_self
    refine ⟨items[0]? :: fs, .cons ⟨a, o, items, n, e, ho, hc, hd, rfl⟩ r, fun f hf => ?_⟩
    rcases List.mem_cons.mp hf with z | z
    · have l : 0 < items.toList.length := by
        cases q : items.toList with
        | nil =>
          rw [← Array.getElem?_toList, q] at z
          cases z
        | cons x r => simp
      obtain ⟨t, et⟩ := ints_getD ii 0 l
      have : items.toList[0]? = some f := by rw [Array.getElem?_toList]; exact z.symm
      rw [List.getElem?_eq_getElem l, et] at this
      exact ⟨_, t, (Option.some.inj this).symm⟩
    · exact hi f z
theorem katTups_some {h : Heap} : ∀ {vs : List Value} {fs : List (Option Value)}, Paired (fun v f => ∃ a o xs n, v = Value.ref a ∧ h.get? a = some o ∧ o.cls = .type "tuple" ∧ o.data = .seq xs n ∧ xs[0]? = f) vs fs → fs.all (·.isSome) = true → ∃ gs, PySem.W.KatTups h vs gs ∧ fs = gs.map some
  | _, _, .nil, _ => ⟨[], PySem.W.KatTups.nil, rfl⟩
  | _, _, .cons (b := f) t r, ha => by
    rw [List.all_cons, Bool.and_eq_true] at ha
    obtain ⟨gs, g1, g2⟩ := katTups_some r ha.2
    obtain ⟨a, o, xs, n, rfl, ho, hc, hd, hf⟩ := t
    cases f with
    | none => cases ha.1
    | some f => exact ⟨f :: gs, PySem.W.KatTups.cons ho hc hd hf g1, by rw [g2]; rfl⟩
theorem kind_ti {s : Shared} {vs : List Value} (h2 : 2 ≤ vs.length) (hp : ∀ v ∈ vs, ∃ ns, IsTI s.heap v ns) : ∃ κ, (κ = tuples' true ∨ κ = general' ∨ κ = oneType') ∧ ∀ (M : Model) (A : Around) (Q : SortKind → Shared → Prop) (E : Value → Shared → Prop), Q κ s → wpAny M A (keyKind' vs.toArray) Q E s := by
  obtain ⟨fs, r, hi⟩ := firsts_of_ti hp
  have lf : fs.length = vs.length := (Paired.length r).symm
  by_cases ha : fs.all (·.isSome) = true
  · obtain ⟨gs, g1, g2⟩ := katTups_some r ha
    refine ⟨tuples' true, .inl rfl, fun M A Q E hq => ?_⟩
    refine PySem.W.kat_kind (T := .type "int") g1 ?_ (fun f hm => ?_) (by rfl) ?_
    · rw [g2, List.length_map] at lf
      omega
    · obtain ⟨x, t, rfl⟩ := hi f (by rw [g2]; exact List.mem_map.mpr ⟨f, hm, rfl⟩)
      exact PySem.W.Looks.now
    · have e : (Value.type "int" != Value.type "tuple") = true := by first | decide +kernel | rfl | decide
      rw [e]
      exact hq
  · obtain ⟨f0, fr, rfl⟩ : ∃ f0 fr, fs = f0 :: fr := by
      cases fs with
      | nil => simp at lf; omega
      | cons a b => exact ⟨a, b, rfl⟩
    cases f0 with
    | some f0 =>
      refine ⟨general', .inr (.inl rfl), fun M A Q E hq => ?_⟩
      rw [kat_kind_eq, List.mapM_toArray, map_eq_pure_bind]
      refine wpAny_bind (wpAny_bind (firsts_ti vs _ r (wpAny_pure ?_)))
      rw [if_neg (by simpa using ha), if_pos (by simp)]
      exact wpAny_pure hq
    | none =>
      refine ⟨oneType', .inr (.inr rfl), fun M A Q E hq => ?_⟩
      rw [kat_kind_eq, List.mapM_toArray, map_eq_pure_bind]
      refine wpAny_bind (wpAny_bind (firsts_ti vs _ r (wpAny_pure ?_)))
      rw [if_neg (by simpa using ha), if_neg (by simp)]
      rw [oneTypeOnly'_eq, List.mapM_toArray, map_eq_pure_bind]
      refine wpAny_bind (wpAny_bind (wpAny_bind (PySem.W.kas_mapM (r := Value.type "tuple") _ (fun v hv Q' hq => ?_) (wpAny_pure ?_))))
      · obtain ⟨ns, a, items, rfl, ⟨o, ho, hc, n, hd⟩, ii⟩ := hp v hv
        exact PySem.W.Looks.here (show PySem.W.Looks M s.heap (typeOf (.ref a)) (.type "tuple") from by rw [← hc]; exact (PySem.W.Looks.ld ho).andThen .now) hq
      · have hall : ((List.map (fun _ => Value.type "tuple") vs).toArray.all fun x => x == Value.type "tuple") = true := by
          simp only [List.all_toArray, List.all_map, List.all_eq_true]
          intro _ _
          exact beq_self_eq_true _
        have h0 : (List.map (fun _ => Value.type "tuple") vs).toArray[0]? = some (Value.type "tuple") := by
          cases vs with
          | nil => simp at h2
          | cons a b => simp
        rw [h0]
        simp only [hall, if_true]
        exact wpAny_pure (wpAny_pure hq)
section
variable {prog : Program} {w : World} {A : Around} {E : Value → Shared → Prop} {s : Shared}
theorem sortable_ti {a : Addr} {vs : List Value} {k : Value → List Int} (h2 : 2 ≤ vs.length) (hr : A.units + 1 < cLine) (hp : ∀ v ∈ vs, IsTI s.heap v (k v)) (ha : ∀ o, s.heap.get? a = some o → o.cls ≠ .type "tuple") : SortableO prog w A s a vs fun v u => ltL (k v) (k u) := by
  intro h' keep
  have hp' : ∀ v ∈ vs, IsTI h' v (k v) := fun v hm => (hp v hm).keeps fun b o e c => keep b o (fun z => by subst z; exact ha o e c) e
  obtain ⟨κ, hk, hq⟩ := kind_ti (s := { s with heap := h' }) h2 fun v hm => ⟨_, hp' v hm⟩
  refine ⟨κ, fun Q E q => hq _ _ Q E q, fun p q h1 h3 => ?_⟩
  exact cmp_ti (s := { s with heap := h' }) hk hr (hp' _ h1) (hp' _ h3) ⟨rfl, rfl⟩
/-- sorted(l) of tuples of ints -/
theorem sorted_ti {l : Addr} {vs : List Value} {k : Value → List Int} {Q : Value → Shared → Prop} (hr : A.units + 3 < cLine) (hl : s.heap.IsList l vs.toArray) (hz : vs.length ≤ sizeLine) (hp : ∀ v ∈ vs, IsTI s.heap v (k v))
    (h : ∀ (h' : Heap) (d : Addr) (out : List Value), Srtd (fun v u => ltL (k v) (k u)) out → Stb (fun v u => ltL (k v) (k u)) out vs → (∀ b o, s.heap.get? b = some o → h'.get? b = some o) → s.heap.objs.size ≤ d → (∃ n, h'.get? d = some (seqObj "list" out.toArray n)) → Q (.ref d) { s with heap := h' }) :
    wpAny (model prog w) A (call (.builtin "sorted") [.ref l]) Q E s := by
  refine sorted_ord (swo_ltL k) hl hz (fun h2 h₁ a ha kk => ?_) fun out hs hb => ?_
  · refine sortable_ti (s := { s with heap := h₁ }) h2 (by show A.units + 1 + 1 + 1 < cLine; omega) (fun v hm => (hp v hm).keeps fun b o e _ => (kk b o e).2) fun o e => ?_
    have e' : some o = some (seqObj "list" vs.toArray 0) := e.symm.trans ha
    cases e'
    intro c
    exact absurd (Value.type.inj c) (by decide)
  · exact h _ _ out hs hb (fun b o e => sortedAll_old e) (Nat.le_succ _) (sortedAll_at s.heap vs out.toArray)
end
end
end TLS

namespace L2
open PySem PySem.Spec PyProof.Rows
open TLS
theorem ti_of_isT {P : Program} {w : World} {h : Heap} {k : List Int} {b : Addr} (x : IsT P w h k b) : IsTI h (.ref b) k := by
  obtain ⟨o, items, n, ho, hc, hd, hi⟩ := x
  exact ⟨b, items, rfl, ⟨o, ho, hc, n, hd⟩, ints_of_items hi⟩
/-- sorted(xs), xs a list of tuples of ints: ks, place by place -/
def rSortedTI (K : PySem.W.Frag) : List V → Hp → VK → Prop := fun vs H Q => ∃ (a : Addr) (xs : List V) (ks : List (List Int)), vs = [V.ref a] ∧ SqL K H a xs ∧ Paired (fun x k => ∃ t, x = V.ref t ∧ SqT K H t (k.map V.int)) xs ks ∧
  ∀ (zs : List (V × List Int)) p, zs.Perm (xs.zip ks) → zs.Pairwise (fun q r => ltL r.2 q.2 = false) → H p = none → Q (.ref p) (upd H p (.lst (zs.map (·.1))))
/-- sorted(s), s a set of tuples of ints -/
def rSortedTS (K : PySem.W.Frag) (P : Program) (w : World) : List V → Hp → VK → Prop := fun vs H Q => ∃ (a : Addr) (L : List (Addr × List Int)), vs = [V.ref a] ∧ H a = some (SetTO P w a L) ∧ (∀ p ∈ L, SqT K H p.1 (p.2.map V.int)) ∧
  ∀ (L' : List (Addr × List Int)) (p : Addr), L'.Perm L → (L'.map (·.2)).Nodup → L'.length < 64 → L'.Pairwise (fun q r => ltL r.2 q.2 = false) → H p = none → Q (.ref p) (upd H p (.lst (L'.map fun q => V.ref q.1)))
section
variable {X : Cx}
theorem ints_inj {vs : List Value} {ns ms : List Int} (h : IntsAre vs ns) (h2 : IntsAre vs ms) : ns = ms := by
  induction h generalizing ms with
  | nil => cases h2; rfl
  | cons n t r ih =>
    cases h2 with
    | cons _ _ r2 => rw [ih r2]
theorem ti_inj {h : Heap} {v : Value} {ns ms : List Int} (a : IsTI h v ns) (b : IsTI h v ms) : ns = ms := by
  obtain ⟨p, i, rfl, ⟨o, h1, _, n, h2⟩, i1⟩ := a
  obtain ⟨q, j, e, ⟨o', h3, _, n', h4⟩, i2⟩ := b
  cases e
  rw [h1] at h3
  cases h3
  rw [h2] at h4
  cases h4
  exact ints_inj i1 i2
theorem cr_sortedTI (hu : X.A.units + 3 < cLine) : CallR X (.builtin "sorted") (rSortedTI X.K) := by
  intro pins s σ H vs us Q I r h
  obtain ⟨a, xs, ks, rfl, hs, hx, q⟩ := h
  obtain ⟨its, rv, hl, hz⟩ := I.list hs
  obtain ⟨u, rfl, ru⟩ := vals1 r
  obtain rfl : u = Value.ref a := ru
  classical
  let key : Value → List Int := fun v => if h : ∃ ns, IsTI s.heap v ns then h.choose else []
  have key_eq : ∀ v ns, IsTI s.heap v ns → key v = ns := fun v ns h => by
    have e : ∃ ns, IsTI s.heap v ns := ⟨ns, h⟩
    show (if h : ∃ ns, IsTI s.heap v ns then h.choose else []) = ns
    rw [dif_pos e]
    exact ti_inj e.choose_spec h
  have main : ∀ {xs : List V} {ks : List (List Int)} {its : List Value}, Paired (fun x k => ∃ t, x = V.ref t ∧ SqT X.K H t (k.map V.int)) xs ks → Vals xs its → (xs.zip ks = its.map fun u => (backV u, key u)) ∧ (∀ v ∈ its, IsTI s.heap v (key v)) ∧ ∀ v ∈ its, ∃ t, v = Value.ref t := by
    intro xs ks its hx rv
    induction hx generalizing its with
    | nil => cases rv; exact ⟨rfl, fun v hv => (by cases hv), fun v hv => (by cases hv)⟩
    | cons h1 h2 ih =>
      cases rv with
      | cons r1 r2 =>
        obtain ⟨t, e, ht⟩ := h1
        subst e
        rename_i u _
        obtain rfl : u = Value.ref t := r1
        obtain ⟨g1, g2, g3⟩ := ih r2
        have k1 := ti_of_isT (I.isT ht)
        have k2 := key_eq _ _ k1
        refine ⟨?_, fun v hv => ?_, fun v hv => ?_⟩
        · rw [List.zip_cons_cons, List.map_cons, g1, k2]
          rfl
        · rcases List.mem_cons.mp hv with z | z
          · rw [z, k2]; exact k1
          · exact g2 v z
        · rcases List.mem_cons.mp hv with z | z
          · exact ⟨t, z⟩
          · exact g3 v z
  obtain ⟨m1, m2, m3⟩ := main hx rv
  refine sorted_ti (k := key) hu hl.isList (by rw [← rv.length]; exact hz) m2 fun h' d out h1 h2 kp hd hn => ?_
  have h3 : ∀ u ∈ out, ∃ a, u = Value.ref a := fun u hu => m3 u (h2.perm.mem_iff.mp hu)
  obtain ⟨n, hn⟩ := hn
  have hl2 : out.length = xs.length := by rw [h2.perm.length_eq, ← rv.length]
  have e : out.map backV = (out.map fun u => (backV u, key u)).map (·.1) := by rw [List.map_map]; rfl
  refine ⟨.ref d, upd H d (.lst (out.map backV)), I.laid (t' := s.toks) kp hd ⟨?_, out, n, vals_back h3, hn⟩, rfl, ?_⟩
  · rw [List.length_map, hl2]
    exact hz
  · rw [e]
    refine q _ d (by rw [m1]; exact h2.perm.map _) (List.pairwise_map.mpr h1) (I.hok.fresh hd)
theorem sorted_setTI {P : Program} {w : World} {A : Around} {E : Value → Shared → Prop} {s : Shared} {a : Addr} {L : List (Addr × List Int)} {es : Array (Int × Value)} {ep : Nat} {t : SetTable} {Q : Value → Shared → Prop} (R : SetTR P w s.heap a L es ep t) (hh : A.handled = none) (hu : A.units + 3 < cLine)
    (hQ : ∀ s' p (out : Array Value) (c : Nat) (L' : List (Addr × List Int)), (∀ b o, s.heap.get? b = some o → s'.heap.get? b = some o) → s'.gens = s.gens → s'.os = s.os → s.heap.objs.size ≤ p →
      s'.heap.get? p = some (seqObj "list" out c) → out.toList = L'.map (fun q => Value.ref q.1) → L'.Perm L → L'.Pairwise (fun q r => ltL r.2 q.2 = false) → Q (.ref p) s') :
    wpAny (model P w) A (call (.builtin "sorted") [.ref a]) Q E s := by
  obtain ⟨o, ho, hex, hd⟩ := R.ob
  have hsz := R.size
  have hfew := R.few
  refine Calls.call_function_entry kind_sorted plain_sorted entry_sorted (args_sorted1 _) ?_
  unfold Builtin.«sorted»
  refine wpAny_bind (m := checkCount "sorted" 1 1 _) (wpAny_pure ?_)
  refine wpAny_bind (collect_set (A := A.in1) hh ⟨o, ho, hex.1, hd⟩ R.fits (by unfold scanBound; omega) R.tab.ris R.led fun s1 vs k1 hz g1 o1 pm => ?_)
  have hes : es.toList.map (·.2) = L.map fun q => Value.ref q.1 := by
    rw [R.rows]
    unfold rowsOf
    rw [List.map_map] <;> rfl
  rw [hes] at pm
  have ord : ∀ vs : List Value, (∀ v ∈ vs, ∃ q ∈ L, v = Value.ref q.1) → ∃ L1 : List (Addr × List Int), vs = L1.map (fun q => Value.ref q.1) ∧ ∀ q ∈ L1, q ∈ L := by
    intro vs
    induction vs with
    | nil => intro _; exact ⟨[], rfl, fun q hq => (by cases hq)⟩
    | cons v vs ih =>
      intro hv
      obtain ⟨q, hq, e⟩ := hv v List.mem_cons_self
      obtain ⟨L1, e1, hs⟩ := ih fun u hu => hv u (List.mem_cons_of_mem _ hu)
      refine ⟨q :: L1, by rw [List.map_cons, e, e1], fun r hr => ?_⟩
      rcases List.mem_cons.mp hr with z | z
      · rw [z]; exact hq
      · exact hs r z
  have one : ∀ q ∈ L, ∀ r ∈ L, q.1 = r.1 → q = r := fun q hq r hr e => by
    have a1 := R.tup q hq
    have a2 := R.tup r hr
    rw [e] at a1
    have e2 : q.2 = r.2 := a1.inj a2
    exact Prod.ext e e2
  have perm_of : ∀ L1 : List (Addr × List Int), (∀ q ∈ L1, q ∈ L) → (L1.map (fun q => Value.ref q.1)).Perm (L.map fun q => Value.ref q.1) → L1.Perm L := by
    intro L1 hs pm1
    have nL : L.Nodup := nodup_of_map R.nd
    have nref : (L.map fun q => Value.ref q.1).Nodup := by
      refine List.pairwise_map.mpr (List.Pairwise.imp_of_mem (fun {q r} hq hr hne e => ?_) nL)
      injection e with e
      exact hne (one q hq r hr e)
    have n1 : L1.Nodup := nodup_of_map (pm1.nodup_iff.mpr nref)
    refine (List.perm_ext_iff_of_nodup n1 nL).mpr fun q => ⟨hs q, fun hq => ?_⟩
    have hm : Value.ref q.1 ∈ L1.map (fun q => Value.ref q.1) := pm1.mem_iff.mpr (List.mem_map.mpr ⟨q, hq, rfl⟩)
    obtain ⟨r, hr, e⟩ := List.mem_map.mp hm
    injection e with e
    rw [← one r (hs r hr) q hq e]
    exact hr
  have hvl : vs.length < 64 := by rw [pm.length_eq, List.length_map]; exact hfew
  have hzz : vs.length ≤ sizeLine := by rw [sizeLine_eq]; omega
  refine wpAny_bind (wpAny_newList ?_ hzz)
  have hoL : (s1.heap.push (seqObj "list" vs.toArray 0)).get? s1.heap.objs.size = some (seqObj "list" vs.toArray 0) := Heap.get?_push_size _ rfl
  have tk : ∀ q ∈ L, IsTI (s1.heap.push (seqObj "list" vs.toArray 0)) (.ref q.1) q.2 := fun q hq => ti_of_isT (P := P) (w := w) (isT_keep (R.tup q hq) fun b u e => Heap.get?_push_of_some _ (k1 b u e))
  -- the key of an address
  classical
  let key : Value → List Int := fun v => match (L.find? fun q => decide (Value.ref q.1 = v)) with
    | some q => q.2
    | none => []
  have key_eq : ∀ q ∈ L, key (.ref q.1) = q.2 := fun q hq => by
    show (match (L.find? fun r => decide (Value.ref r.1 = Value.ref q.1)) with | some q => q.2 | none => []) = q.2
    cases f : L.find? fun r => decide (Value.ref r.1 = Value.ref q.1) with
    | none =>
      have := List.find?_eq_none.mp f q hq
      simp at this
    | some r =>
      have h1 := List.mem_of_find?_eq_some f
      have h2 := List.find?_some f
      have h3 : r.1 = q.1 := by simpa using h2
      show r.2 = q.2
      rw [one r h1 q hq h3]
  have x : ∀ v ∈ vs, IsTI (s1.heap.push (seqObj "list" vs.toArray 0)) v (key v) := fun v hv => by
    obtain ⟨q, hq, e⟩ := List.mem_map.mp (pm.mem_iff.mp hv)
    rw [← e, key_eq q hq]
    exact tk q hq
  refine wpAny_bind (wpAny_holding (wpAny_call_entry (s := { s1 with heap := s1.heap.push (seqObj "list" vs.toArray 0) }) slot_list_sort ⟨_, hoL, rfl⟩ entry_list_sort (SrtO.list_sort_ord (swo_ltL key) hoL hzz (fun h2 => ?_) fun out hs hb => ⟨_, rfl, ?_⟩) (args_list_sort _)))
  · refine sortable_ti (s := { s1 with heap := s1.heap.push (seqObj "list" vs.toArray 0) }) h2 (by show A.units + 1 + 1 + 1 < cLine; omega) x fun o e => ?_
    have e' : some o = some (seqObj "list" vs.toArray 0) := e.symm.trans hoL
    cases e'
    intro c
    exact absurd (Value.type.inj c) (by decide)
  obtain ⟨c, hc⟩ := sortedHeap_at (vs := vs) (out := out.toArray) hoL
  obtain ⟨L', e', hs'⟩ := ord out fun v hv => by
    obtain ⟨q, hq, e⟩ := List.mem_map.mp (pm.mem_iff.mp (hb.perm.mem_iff.mp hv))
    exact ⟨q, hq, e.symm⟩
  have pL : L'.Perm L := perm_of L' hs' (by rw [← e']; exact hb.perm.trans pm)
  have pw : L'.Pairwise (fun q r => ltL r.2 q.2 = false) := by
    rw [e'] at hs
    refine List.Pairwise.imp_of_mem (fun {q r} hq hr hle => ?_) (List.pairwise_map.mp hs)
    rw [← key_eq q (hs' q hq), ← key_eq r (hs' r hr)]
    exact hle
  refine wpAny_pure ⟨_, rfl, hQ _ s1.heap.objs.size out.toArray c L' (fun b u e => ?_) g1 o1 hz hc (by rw [List.toList_toArray]; exact e') pL pw⟩
  have q := k1 b u e
  have hlt := Heap.lt_size q
  show (sortedHeap (s1.heap.push (seqObj "list" vs.toArray 0)) s1.heap.objs.size vs out.toArray).get? b = some u
  rw [sortedHeap_old (Nat.ne_of_lt hlt) (by rw [size_push']; exact Nat.lt_succ_of_lt hlt)]
  exact Heap.get?_push_of_some _ q
theorem cr_sortedTS (hc : X.calm = true) (hu : X.A.units + 3 < cLine) : CallR X (.builtin "sorted") (rSortedTS X.K X.prog X.w) := by
  intro pins s σ H vs us Q I r h
  obtain ⟨a, L, rfl, ha, hk, q⟩ := h
  have R0 : SetT0 X.prog X.w s.heap a L := (I.hok a _ ha).1
  obtain ⟨es, ep, t, R⟩ := R0.full fun p hp => I.isT (hk p hp)
  rw [Vals.ref1 r]
  refine sorted_setTI R (I.ok.hd hc) hu fun s' p out c L' k g o hp hg hout pm pw => ?_
  have hfew : L'.length < 64 := by rw [pm.length_eq]; exact R.few
  have hlen : (L'.map fun q => V.ref q.1).length ≤ sizeLine := by rw [List.length_map, sizeLine_eq]; omega
  have hn : H p = none := I.hok.fresh hp
  have hv : Vals (L'.map fun q => V.ref q.1) out.toList := by rw [hout]; exact vals_of_refs L'
  have J : Inv X pins σ (upd H p (.lst (L'.map fun q => V.ref q.1))) { s with heap := s'.heap, gens := s'.gens, drawn := s'.drawn, toks := s'.toks } :=
    I.call (ch := []) (Un.laid k hp hn) (I.hok.laid k hp ⟨hlen, out.toList, c, hv, hg⟩) (by rw [g]; exact I.bare) (fun _ z => nomatch z)
  have e : s' = { s with heap := s'.heap, gens := s'.gens, drawn := s'.drawn, toks := s'.toks } := by
    cases s'
    cases s
    cases o
    rfl
  rw [e]
  exact ⟨.ref p, _, J, rfl, q L' p pm ((pm.map (·.2)).nodup_iff.mpr R.nd) hfew pw hn⟩
end
end L2

/-! TLt: is, in, isinstance, reversed slices, sorting, dicts, calls by keywords. -/
namespace TL
open PySem PySem.Spec L2
open PyProof.Rows hiding St

/-! ### is -/
@[reducible] def isVal (x : Val) : Val → Option Bool
  | .non => some (isNon x)
  | .bl b => some (match x with
    | .bl c => decide (c = b)
    | _ => false)
  | _ => none
@[reducible] def isP : P2 := fun x y S Q => someP (isVal x y) fun b => Q (.bl b) S
@[reducible] def isNotP : P2 := fun x y S Q => someP (isVal x y) fun b => match b with
  | true => Q (.bl false) S
  | false => Q (.bl true) S
section
variable {X : Cx} {K : PySem.W.Frag}
theorem is_bool {A : Around} {E : Value → Shared → Prop} {s : Shared} {x : V} {v : Value} {b : Bool} {Q : Bool → Shared → Prop} {M : Model} (r : RelV x v) (h : Q (decide (x = .bl b)) s) : wpAny M A (isSame v (.bool b)) Q E s := by
  have main : ∀ {u : Value} {k : Bool}, plainIs u (.bool b) = true → (u == Value.bool b) = k → Q k s → wpAny M A (isSame u (.bool b)) Q E s := fun h1 h2 h3 => wpAny_isSame_plain h1 (by rw [h2]; exact h3)
  cases x with
  | ref a => cases r; exact main rfl rfl h
  | non => cases r; exact main rfl rfl h
  | bl c =>
    cases r
    refine main rfl (k := decide (c = b)) (by cases b <;> cases c <;> rfl) ?_
    have e : decide (V.bl c = V.bl b) = decide (c = b) := by cases b <;> cases c <;> rfl
    rw [← e]
    exact h
  | int i => obtain ⟨t, rfl⟩ := r; exact main rfl rfl h
  | str x => obtain ⟨t, rfl⟩ := r; exact main rfl rfl h
  | byt x => obtain ⟨t, rfl⟩ := r; exact main rfl rfl h
  | flt x => obtain ⟨t, rfl⟩ := r; exact main rfl rfl h
  | ty n => cases r; exact main rfl rfl h
abbrev rIsB (neg : Bool) : R2 := fun x y H Q => ∃ b, y = .bl b ∧ Q (.bl (decide (x = .bl b) != neg)) H
theorem op_isB : OpR X (compareOp .Is) (rIsB false) := by
  intro pins s σ H x y v u Q I rx ry h
  obtain ⟨b, rfl, q⟩ := h
  cases ry
  show wpAny _ _ ((isSame v (Value.bool b)) >>= fun z => pure (Value.bool z)) _ _ s
  exact wpAny_bind (is_bool rx (wpAny_pure ⟨.bl (decide (x = .bl b)), H, I, rfl, by rw [Bool.bne_false] at q; exact q⟩))
theorem op_isNotB : OpR X (compareOp .IsNot) (rIsB true) := by
  intro pins s σ H x y v u Q I rx ry h
  obtain ⟨b, rfl, q⟩ := h
  cases ry
  show wpAny _ _ ((isSame v (Value.bool b)) >>= fun z => pure (Value.bool (!z))) _ _ s
  exact wpAny_bind (is_bool rx (wpAny_pure ⟨.bl (!decide (x = .bl b)), H, I, rfl, by rw [Bool.bne_true] at q; exact q⟩))
theorem isVal_eq {B : Addr → Prop} {H : Hp} {S : Sto} {x y : Val} {v u : V} {b : Bool} (rx : RV K B H S x v) (ry : RV K B H S y u) (e : isVal x y = some b) : (u = .non ∧ decide (v = .non) = b) ∨ ∃ c, u = .bl c ∧ decide (v = .bl c) = b := by
  cases ry with
  | non =>
    cases e
    exact .inl ⟨rfl, (isNon_of rx).symm⟩
  | bl c =>
    refine .inr ⟨c, rfl, ?_⟩
    cases rx <;> cases e <;> simp
  | _ => cases e
theorem isP_ok : P2Ok K isP (fun x y H Q => (y = .non ∧ Q (.bl (decide (x = .non))) H) ∨ rIsB false x y H Q) := by
  intro B x y v u S H Qi Q rx ry hr h q
  obtain ⟨b, e, h⟩ := someP_some h
  rcases isVal_eq rx ry e with ⟨e1, e2⟩ | ⟨c, e1, e2⟩
  · exact .inl ⟨e1, by rw [e2]; exact q.same hr (.bl b) h⟩
  · exact .inr ⟨c, e1, by rw [e2, Bool.bne_false]; exact q.same hr (.bl b) h⟩
theorem isNotP_ok : P2Ok K isNotP (fun x y H Q => (y = .non ∧ Q (.bl (!decide (x = .non))) H) ∨ rIsB true x y H Q) := by
  intro B x y v u S H Qi Q rx ry hr h q
  obtain ⟨b, e, h⟩ := someP_some h
  rcases isVal_eq rx ry e with ⟨e1, e2⟩ | ⟨c, e1, e2⟩
  · exact .inl ⟨e1, by rw [e2]; cases b <;> exact q.same hr (.bl _) h⟩
  · exact .inr ⟨c, e1, by rw [e2, Bool.bne_true]; cases b <;> exact q.same hr (.bl _) h⟩
end

/-! ### in -/
def flatE : Val → Bool
  | .non => true
  | .bl _ => true
  | .int _ => true
  | .str _ => true
  | _ => false
def eqE : Val → Val → Bool
  | .non, .non => true
  | .bl a, .bl b => a == b
  | .bl a, .int b => (if a then 1 else 0) == b
  | .int a, .bl b => a == (if b then 1 else 0)
  | .int a, .int b => a == b
  | .str a, .str b => a == b
  | _, _ => false
def isSub (i j : Str) : Bool := !(Builtin.Str.occurrences j i 0 j.length 1).isEmpty
def inOf (S : Sto) (x : Val) : Val → Option Bool
  | .str z => (match x with
    | .str i => some (isSub i z)
    | _ => none)
  | y => (match seqOf S y with
    | some xs => if flatE x && xs.all flatE then some (xs.any fun z => eqE z x) else (match datOf S x, datOf S y with
      | some d, some (.list ds) => some (ds.any fun z => PyData.eqv z d)
      | some d, some (.tuple ds) => some (ds.any fun z => PyData.eqv z d)
      | _, _ => none)
    | none => (match y with
      | .ref a => (match S a with
        | some (.dict kvs) => (keyV x).map fun k => (dGet kvs k).isSome
        | _ => none)
      | _ => none))
def inP0 (neg : Bool) : P2 := fun x y S Q => someP (inOf S x y) fun b => Q (.bl (if neg then !b else b)) S
structure inP (neg : Bool) (x y : Val) (S : Sto) (Q : VQ) : Prop where
  h : inP0 neg x y S Q
section
variable {X : Cx} {K : PySem.W.Frag} {B : Addr → Prop} {H : Hp} {S : Sto}
abbrev rInData (K : PySem.W.Frag) (neg : Bool) : R2 := fun x y H Q => ∃ d ds, Dp K H x d ∧ (Dp K H y (.list ds) ∧ SeqAt.shaped (.list ds) = true ∨ Dp K H y (.tuple ds) ∧ SeqAt.shaped (.tuple ds) = true) ∧ SeqAt.shaped d = true ∧
  Q (.bl (if neg then !(ds.any fun z => PyData.eqv z d) else ds.any fun z => PyData.eqv z d)) H
abbrev rInStr (neg : Bool) : R2 := fun x y H Q => ∃ i j, x = .str i ∧ y = .str j ∧ Q (.bl (if neg then !isSub i j else isSub i j)) H
abbrev rInDict (neg : Bool) : R2 := fun x y H Q => ∃ a o, y = .ref a ∧ DGet H a x o ∧ Q (.bl (if neg then !o.isSome else o.isSome)) H
abbrev rrIn (K : PySem.W.Frag) (neg : Bool) : R2 := fun x y H Q => (rIn K neg x y H Q ∨ rInData K neg x y H Q) ∨ (rInStr neg x y H Q ∨ rInDict neg x y H Q)
theorem op_inData (hu : X.A.units + 65 < cLine) : OpR X (compareOp .In) (rInData X.K false) := by
  intro pins s σ H x y v u Q I rx ry h
  obtain ⟨d, ds, hd, he, sd, q⟩ := h
  obtain ⟨as, r1⟩ := Dp.reads I d x v hd rx
  rcases he with ⟨he, se⟩ | ⟨he, se⟩
  · obtain ⟨bs, r2⟩ := Dp.reads I (.list ds) y u he ry
    exact SeqAt.in_list_reads r2 r1 (SeqAt.canLay_of_shaped se) (SeqAt.canLay_of_shaped sd) (room_in_shaped sd hu) ⟨.bl _, H, I, rfl, q⟩
  · obtain ⟨bs, r2⟩ := Dp.reads I (.tuple ds) y u he ry
    exact SeqAt.in_tuple_reads r2 r1 (SeqAt.canLay_of_shaped se) (SeqAt.canLay_of_shaped sd) (room_in_shaped sd hu) ⟨.bl _, H, I, rfl, q⟩
theorem op_notInData (hu : X.A.units + 65 < cLine) : OpR X (compareOp .NotIn) (rInData X.K true) := by
  intro pins s σ H x y v u Q I rx ry h
  obtain ⟨d, ds, hd, he, sd, q⟩ := h
  obtain ⟨as, r1⟩ := Dp.reads I d x v hd rx
  rcases he with ⟨he, se⟩ | ⟨he, se⟩
  · obtain ⟨bs, r2⟩ := Dp.reads I (.list ds) y u he ry
    exact SeqAt.notIn_list_reads r2 r1 (SeqAt.canLay_of_shaped se) (SeqAt.canLay_of_shaped sd) (room_in_shaped sd hu) ⟨.bl _, H, I, rfl, q⟩
  · obtain ⟨bs, r2⟩ := Dp.reads I (.tuple ds) y u he ry
    exact SeqAt.notIn_tuple_reads r2 r1 (SeqAt.canLay_of_shaped se) (SeqAt.canLay_of_shaped sd) (room_in_shaped sd hu) ⟨.bl _, H, I, rfl, q⟩
theorem op_inDict (hu : X.A.units + 65 < cLine) : OpR X (compareOp .In) (rInDict false) := by
  intro pins s σ H x y v u Q I rx ry h
  obtain ⟨a, o, rfl, g, q⟩ := h
  obtain rfl : u = Value.ref a := ry
  exact d_in (by omega) I g rx fun s' I' => ⟨.bl _, H, I', rfl, q⟩
theorem op_notInDict (hu : X.A.units + 65 < cLine) : OpR X (compareOp .NotIn) (rInDict true) := by
  intro pins s σ H x y v u Q I rx ry h
  obtain ⟨a, o, rfl, g, q⟩ := h
  obtain rfl : u = Value.ref a := ry
  exact d_notIn (by omega) I g rx fun s' I' => ⟨.bl _, H, I', rfl, q⟩
theorem op_inAll (hu : X.A.units + 65 < cLine) : OpR X (compareOp .In) (rrIn X.K false) := (op_in_seq.or (op_inData hu)).or (op_in_str.or (op_inDict hu))
theorem op_notInAll (hu : X.A.units + 65 < cLine) : OpR X (compareOp .NotIn) (rrIn X.K true) := (op_notIn_seq.or (op_notInData hu)).or (op_notin_str.or (op_notInDict hu))
theorem flatE_V {x : Val} {v : V} (r : RV K B H S x v) (h : flatE x = true) : flatV v = true := by
  cases r <;> first | rfl | cases h
theorem eqE_V {x y : Val} {v u : V} (rx : RV K B H S x v) (ry : RV K B H S y u) (fx : flatE x = true) (fy : flatE y = true) : eqE x y = eqV v u := by
  cases rx <;> first | (cases fx; done) | (cases ry <;> first | rfl | cases fy)
theorem allE_V : ∀ {xs : List Val} {vs : List V}, RVs K B H S xs vs → xs.all flatE = true → vs.all flatV = true
  | _, _, .nil, _ => rfl
  | _, _, .cons r t, h => by
    rw [List.all_cons, Bool.and_eq_true] at h ⊢
    exact ⟨flatE_V r h.1, allE_V t h.2⟩
theorem anyE_V {x : Val} {v : V} (rx : RV K B H S x v) (fx : flatE x = true) : ∀ {xs : List Val} {vs : List V}, RVs K B H S xs vs → xs.all flatE = true → (xs.any fun z => eqE z x) = inV v vs
  | _, _, .nil, _ => rfl
  | _, _, .cons r t, h => by
    rw [List.all_cons, Bool.and_eq_true] at h
    unfold inV
    rw [List.any_cons, List.any_cons, eqE_V r rx h.1 fx, anyE_V rx fx t h.2]
    rfl
theorem inP_ok (neg : Bool) : P2Ok K (inP neg) (rrIn K neg) := by
  intro B x y v u S H Qi Q rx ry hr h q
  obtain ⟨b, e, h⟩ := someP_some h.h
  have fin : Q (.bl (if neg then !b else b)) H := q.same hr (.bl _) h
  unfold inOf at e
  split at e
  · cases ry
    split at e
    · cases rx
      cases e
      exact .inr (.inl ⟨_, _, rfl, rfl, fin⟩)
    · cases e
  · split at e
    · rename_i xs es
      obtain ⟨p, vs, rfl, h1, h2⟩ := seqOf_sq hr ry es
      split at e
      · rename_i hf
        obtain ⟨f1, f2⟩ := Bool.and_eq_true_iff.mp hf
        cases e
        refine .inl (.inl ⟨p, vs, rfl, h1.elim (fun z => .inl z.1) (fun z => .inr z.1), flatE_V rx f1, allE_V h2 f2, ?_⟩)
        rw [← anyE_V rx f1 h2 f2]
        exact fin
      · split at e
        · rename_i d ds e1 e2
          cases e
          obtain ⟨d1, s1⟩ := datOf_dp hr rx e1
          obtain ⟨d2, s2⟩ := datOf_dp hr ry e2
          exact .inl (.inr ⟨d, ds, d1, .inl ⟨d2, s2⟩, s1, fin⟩)
        · rename_i d ds e1 e2
          cases e
          obtain ⟨d1, s1⟩ := datOf_dp hr rx e1
          obtain ⟨d2, s2⟩ := datOf_dp hr ry e2
          exact .inl (.inr ⟨d, ds, d1, .inr ⟨d2, s2⟩, s1, fin⟩)
        · cases e
    · split at e
      · cases ry
        split at e
        · rename_i kvs q0
          cases ek : keyV x with
          | none => rw [ek] at e; cases e
          | some k =>
            rw [ek] at e
            cases e
            obtain ⟨us, h1, h2, h3⟩ := hr.ok _ _ q0
            have eb : (dGet kvs k).isSome = (valV us k).isSome := by
              cases g : dGet kvs k with
              | none =>
                rw [(dGet_val h2 h3).1 g]
                rfl
              | some w =>
                obtain ⟨z, e3, _⟩ := (dGet_val h2 h3).2 w g
                rw [e3]
                rfl
            refine .inr (.inr ⟨_, valV us k, rfl, ?_, ?_⟩)
            · rw [keyV_kV rx ek]
              exact DGet.k h1
            · rw [← eb]
              exact fin
        · cases e
      · cases e
end

/-! ### isinstance -/
abbrev TyTag := Sum String Str
def tagOf (S : Sto) : Val → Option TyTag
  | .non => some (.inl "NoneType")
  | .bl _ => some (.inl "bool")
  | .int _ => some (.inl "int")
  | .str _ => some (.inl "str")
  | .tup _ => some (.inl "tuple")
  | .lst _ => some (.inl "list")
  | .scr _ => some (.inl "list")
  | .ins c _ _ => some (.inr c)
  | .ref a => (match S a with
    | some (.lst _) => some (.inl "list")
    | some (.dict _) => some (.inl "dict")
    | some (.ins c _ _) => some (.inr c)
    | none => none)
  | _ => none
abbrev Kit := List (TyTag × TyTag × Bool)
def tagV (K : PySem.W.Frag) : TyTag → Value
  | .inl n => .type n
  | .inr c => .ref (He.ga K c)
structure KitOk (K : PySem.W.Frag) (kit : Kit) (own : List Str) : Prop where
  kit : ∀ t u b, (t, u, b) ∈ kit → PySem.W.kitOne K (tagV K t) (tagV K u) = some b
  own : ∀ c ∈ own, Cls K (He.ga K c) ∧ PySem.W.findIn K (.ref (He.ga K c)) "__class__" = some (some (.builtin "object.__class__")) ∧ PySem.W.specialIn K (.builtin "object.__class__") "__get__" = some (some (.builtin "getset_descriptor.__get__")) ∧
    PySem.W.takesIn K (.builtin "object.__class__") = some true ∧ PySem.W.mroIn K (He.ga K c) (.type "object") = some true
def ownTag (own : List Str) : TyTag → Bool
  | .inl _ => true
  | .inr c => own.contains c
def kitLook (kit : Kit) (t u : TyTag) : Option Bool := (kit.find? fun q => decide (q.1 = t) && decide (q.2.1 = u)).map (·.2.2)
def kitAll (kit : Kit) (t : TyTag) : List TyTag → Option Bool
  | [] => some false
  | c :: r => match kitLook kit t c with
    | some true => some true
    | some false => kitAll kit t r
    | none => none
def isiP0 (kit : Kit) (own : List Str) (cs : List TyTag) : P1 := fun x S Q => someP (tagOf S x) fun t => ownTag own t = true ∧ someP (kitAll kit t cs) fun b => Q (.bl b) S
structure isiP (kit : Kit) (own : List Str) (cs : List TyTag) (x : Val) (S : Sto) (Q : VQ) : Prop where
  h : isiP0 kit own cs x S Q
section
variable {X : Cx} {K : PySem.W.Frag} {B : Addr → Prop} {H : Hp} {S : Sto} {W : WX}
theorem kitLook_ok {kit : Kit} {own : List Str} (k : KitOk K kit own) {t u : TyTag} {b : Bool} (h : kitLook kit t u = some b) : PySem.W.kitOne K (tagV K t) (tagV K u) = some b := by
  unfold kitLook at h
  cases f : kit.find? fun q => decide (q.1 = t) && decide (q.2.1 = u) with
  | none => rw [f] at h; cases h
  | some q =>
    rw [f] at h
    cases h
    obtain ⟨t', u', b'⟩ := q
    have h1 := List.find?_some f
    obtain ⟨h2, h3⟩ := Bool.and_eq_true_iff.mp h1
    have h2 := of_decide_eq_true h2
    have h3 := of_decide_eq_true h3
    dsimp only at h2 h3
    subst h2 h3
    exact k.kit _ _ _ (List.mem_of_find?_eq_some f)
theorem kitAll_ok {kit : Kit} {own : List Str} (k : KitOk K kit own) {t : TyTag} : ∀ {cs : List TyTag} {b : Bool}, kitAll kit t cs = some b → PySem.W.kitAny K (tagV K t) (cs.map (tagV K)) = some b
  | [], b, h => h
  | c :: r, b, h => by
    unfold kitAll at h
    show PySem.W.kitAny K (tagV K t) (tagV K c :: r.map (tagV K)) = some b
    unfold PySem.W.kitAny
    split at h
    · rename_i e
      rw [kitLook_ok k e]
      exact h
    · rename_i e
      rw [kitLook_ok k e]
      exact kitAll_ok k h
    · cases h
theorem rd_ty {a : Addr} {vs : List V} (h : Rd H a (.tup vs)) : TyX K H (.ref a) (.type "tuple") := by
  rcases h with h | ⟨u, h⟩
  · exact .base (.tup h)
  · exact .fTuple h
theorem tyOf_tag {kit : Kit} {own : List Str} (k : KitOk K kit own) {x : Val} {v : V} {t : TyTag} (hr : HR K B H S) (r : RV K B H S x v) (e : tagOf S x = some t) (ho : ownTag own t = true) : TyX K H v (tagV K t) := by
  have ins : ∀ {a dx : Addr} {c : Str} {fs : List (Str × V)}, H a = some (.ins (He.ga K c) dx fs) → ownTag own (.inr c) = true → TyX K H (.ref a) (tagV K (.inr c)) := fun h ho => by
    obtain ⟨a1, a2, a3, a4, a5⟩ := k.own _ (by simpa [ownTag] using ho)
    exact .base (.ins h a1 a2 a3 a4 a5)
  cases r with
  | non => cases e; exact .base .non
  | bl b => cases e; exact .base (.bl b)
  | int b => cases e; exact .base (.int b)
  | str b => cases e; exact .base (.str b)
  | tup h _ =>
    cases e
    rcases h with ⟨h, _⟩ | h
    · exact rd_ty h
    · rcases h H with h | ⟨o, its, n, h1, h2, _⟩
      · exact rd_ty h
      · exact .kTuple h1 h2
  | kt h _ => cases e
  | lst h _ _ => cases e; exact .base (.lst h)
  | scr h =>
    cases e
    have rd : ∀ {a : Addr} {vs : List V}, Rd H a (.lst vs) → TyX K H (.ref a) (.type "list") := fun h => by
      rcases h with h | ⟨u, h⟩
      · exact .base (.lst h)
      · exact .base (.frz h)
    rcases h with ⟨h, _⟩ | h
    · exact rd h
    · rcases h H with h | ⟨o, its, n, h1, h2, _⟩
      · exact rd h
      · exact .kList h1 h2
  | ins h _ _ _ => cases e; exact ins h ho
  | ref a =>
    have e2 : (match S a with
      | some (.lst _) => some (.inl "list")
      | some (.dict _) => some (.inl "dict")
      | some (.ins c _ _) => some (.inr c)
      | none => none) = some t := e
    split at e2
    · rename_i q0
      cases e2
      obtain ⟨vs, h1, _⟩ := hr.ok _ _ q0
      exact .base (.lst h1)
    · rename_i q0
      cases e2
      obtain ⟨vs, h1, _⟩ := hr.ok _ _ q0
      exact .base (.dK h1)
    · rename_i q0
      cases e2
      obtain ⟨dx, fs, h1, _⟩ := hr.ok _ _ q0
      exact ins h1 ho
    · cases e2
  | ty n => cases e
  | fn f => cases e
/-- a class as a value -/
def tagVV (K : PySem.W.Frag) : TyTag → V
  | .inl n => .ty n
  | .inr c => .ref (He.ga K c)
theorem tag_cls (t : TyTag) : ClsV (tagVV K t) (tagV K t) := by
  cases t with
  | inl n => exact .ty n
  | inr c => exact .own _
theorem tags_cls : ∀ cs : List TyTag, Paired ClsV (cs.map (tagVV K)) (cs.map (tagV K))
  | [] => .nil
  | c :: r => .cons (tag_cls c) (tags_cls r)
theorem isi1_imp {kit : Kit} {own : List Str} (k : KitOk K kit own) {c : TyTag} {ma : IE} : ∀ σ H Q, liftE K W (un1 (isiP kit own [c]) ma) σ H Q → tCB (rIsi K) (tCons (liftE K W ma) (tCons (tC (tagVV K c)) tNil)) σ H Q := fun σ H Q ⟨ρ, S, B, Qi, Ei, R, h, q, er⟩ =>
  ⟨ρ, S, B, _, Ei, R, h, fun v S1 x H1 rv hr1 e h1 => by
    obtain ⟨t, e1, ho, h1⟩ := someP_some h1.h
    obtain ⟨b, e2, h1⟩ := someP_some h1
    refine ⟨x, tagVV K c, tagV K t, tagV K c, b, rfl, tag_cls c, tyOf_tag k hr1 rv e1 ho, ?_, q _ S1 _ H1 (.bl b) hr1 e h1⟩
    have e3 : (match kitLook kit t c with
      | some true => some true
      | some false => some false
      | none => none) = some b := e2
    split at e3
    · rename_i e4; rw [kitLook_ok k e4]; exact e3
    · rename_i e4; rw [kitLook_ok k e4]; exact e3
    · exact (nomatch e3), er⟩
theorem isiT_imp {kit : Kit} {own : List Str} (k : KitOk K kit own) {cs : List TyTag} {ma : IE} {tt : TE} (ht : ∀ σ H Q, (∀ p, H p = none → Q (.ref p) (upd H p (.tup (cs.map (tagVV K))))) → tt σ H Q) :
    ∀ σ H Q, liftE K W (un1 (isiP kit own cs) ma) σ H Q → tCB (rIsiT K) (tCons (liftE K W ma) (tCons tt tNil)) σ H Q := fun σ H Q ⟨ρ, S, B, Qi, Ei, R, h, q, er⟩ =>
  ⟨ρ, S, B, _, Ei, R, h, fun v S1 x H1 rv hr1 e h1 => ht _ _ _ fun p hp => by
    obtain ⟨t, e1, ho, h1⟩ := someP_some h1.h
    obtain ⟨b, e2, h1⟩ := someP_some h1
    have eN : Ext S1 S1 H1 (upd H1 p (.tup (cs.map (tagVV K)))) := Ext.new hp
    exact ⟨x, p, cs.map (tagVV K), tagV K t, cs.map (tagV K), b, rfl, upd_same, tags_cls cs, tyOf_tag k (hr1.new hp) (rv.ext eN) e1 ho, kitAll_ok k e2, q _ S1 _ _ (.bl b) (hr1.new hp) (e.trans eN) h1⟩, er⟩
/-- the name of a class -/
structure ClsNm (X : Cx) (x : Str) (t : TyTag) : Prop where
  pe : ∀ p : Pos, PE X (.Name x p) (tC (tagVV X.K t))
theorem se_isi1 {kit : Kit} {own : List Str} {x : Str} {c : TyTag} {e : Expr} {p p2 pos : Pos} {ma : IE} (k : KitOk X.K kit own) (hg : Gl X "isinstance") (hm : X.mg "isinstance" = none) (hs : starB e = false) (hc : ClsNm X x c) (he : PE X e (liftE X.K W ma)) :
    PE X (.Call (.Name "isinstance" p) [e, .Name x p2] [] pos) (liftE X.K W (un1 (isiP kit own [c]) ma)) :=
  (pe_callB call_isi hg hm rfl (pa_cons he (pa_cons (hc.pe p2) pa_nil rfl) (starEach_one hs)) (by decide) (by decide) (starEach_one hs) rfl).imp (isi1_imp k)
def nmOf : Expr → Option Str
  | .Name x _ => some x
  | _ => none
theorem pa_cls : ∀ {es : List Expr} {cs : List TyTag}, Paired (fun e t => ∃ x p, e = Expr.Name x p ∧ ClsNm X x t) es cs → ∃ t, PA X es t ∧ ∀ σ H Q, Q (cs.map (tagVV X.K)) H → t σ H Q
  | _, _, .nil => ⟨_, pa_nil, fun σ H Q q => q⟩
  | _, _, .cons h r => by
    obtain ⟨x, p, rfl, hc⟩ := h
    obtain ⟨t, h1, h2⟩ := pa_cls r
    exact ⟨_, pa_cons (hc.pe p) h1 rfl, fun σ H Q q => h2 _ _ _ q⟩
theorem se_isiT {kit : Kit} {own : List Str} {es : List Expr} {cs : List TyTag} {e : Expr} {p p2 pos : Pos} {kk : Nat} {ma : IE} (k : KitOk X.K kit own) (hg : Gl X "isinstance") (hm : X.mg "isinstance" = none) (hs : starB e = false) (hl : cs.length ≤ 1000)
    (hc : Paired (fun e t => ∃ x p, e = Expr.Name x p ∧ ClsNm X x t) es cs) (he : PE X e (liftE X.K W ma)) : PE X (.Call (.Name "isinstance" p) [e, .Tuple es kk p2] [] pos) (liftE X.K W (un1 (isiP kit own cs) ma)) := by
  obtain ⟨t, h1, h2⟩ := pa_cls hc
  refine (pe_callB call_isiT hg hm rfl (pa_cons he (pa_cons (pe_tup h1) pa_nil rfl) (starEach_one hs)) (by decide) (by decide) (starEach_one hs) rfl).imp (isiT_imp k fun σ H Q q => h2 _ _ _ ⟨?_, q⟩)
  rw [List.length_map, sizeLine_eq]
  omega

/-! ### e[::-1] -/
@[reducible] def revI (c : Bool) (e : IE) : IE := fun ρ S Q E => e ρ S (fun x S1 => someP (lsqOf S1 x) fun xs => newL c xs.reverse S1 Q) E
theorem se_rev {c : Bool} {e : Expr} {kk : Nat} {p1 p2 p3 pos : Pos} {me : IE} (he : PE X e (liftE X.K W me)) : PE X (.Subscript e (.Slice none none (some (.UnaryOp .USub (.Constant (.int 1) kk p1) p2)) p3) pos) (liftE X.K W (revI c me)) :=
  (pe_revL he).imp fun σ H Q ⟨ρ, S, B, Qi, Ei, R, h, q, er⟩ => ⟨ρ, S, B, _, Ei, R, h, fun v S1 x H1 rv hr1 e1 h1 => by
    obtain ⟨xs, e2, h1⟩ := someP_some h1
    obtain ⟨p, vs, rfl, a1, a2⟩ := lsqOf_sq hr1 rv e2
    exact ⟨p, vs, rfl, a1, (q.ext e1).lst hr1 a2.reverse h1⟩, er⟩
end

/-! ### sorting, as a function -/
def insB {α : Type} (lt : α → α → Bool) (x : α) : List α → List α
  | [] => [x]
  | y :: r => if lt y x then y :: insB lt x r else x :: y :: r
def srtB {α : Type} (lt : α → α → Bool) : List α → List α
  | [] => []
  | x :: r => insB lt x (srtB lt r)
section
variable {α : Type} {lt : α → α → Bool}
theorem insB_perm (x : α) : ∀ l, (insB lt x l).Perm (x :: l)
  | [] => List.Perm.refl _
  | y :: r => by
    unfold insB
    split
    · exact ((insB_perm x r).cons y).trans (List.Perm.swap x y r)
    · exact List.Perm.refl _
theorem srtB_perm : ∀ l : List α, (srtB lt l).Perm l
  | [] => List.Perm.refl _
  | x :: r => (insB_perm x _).trans ((srtB_perm r).cons x)
theorem insB_srt (O : SrtO.Swo lt) (x : α) : ∀ l : List α, l.Pairwise (fun a b => lt b a = false) → (insB lt x l).Pairwise (fun a b => lt b a = false)
  | [], _ => List.pairwise_singleton _ _
  | y :: r, h => by
    obtain ⟨h1, h2⟩ := List.pairwise_cons.mp h
    unfold insB
    split
    · rename_i e
      refine List.pairwise_cons.mpr ⟨fun z hz => ?_, insB_srt O x r h2⟩
      rcases List.mem_cons.mp ((insB_perm x r).mem_iff.mp hz) with q | q
      · rw [q]; exact O.asym y x e
      · exact h1 z q
    · rename_i e
      have e : lt y x = false := by simpa using e
      refine List.pairwise_cons.mpr ⟨fun z hz => ?_, h⟩
      rcases List.mem_cons.mp hz with q | q
      · rw [q]; exact e
      · exact O.tr x y z e (h1 z q)
theorem srtB_srt (O : SrtO.Swo lt) : ∀ l : List α, (srtB lt l).Pairwise (fun a b => lt b a = false)
  | [] => List.Pairwise.nil
  | x :: r => insB_srt O x _ (srtB_srt O r)
theorem srtB_uniq (O : SrtO.Swo lt) (an : ∀ a b, lt a b = false → lt b a = false → a = b) {l m : List α} (p : m.Perm l) (h : m.Pairwise (fun a b => lt b a = false)) : m = srtB lt l :=
  List.Perm.eq_of_pairwise (fun a b _ _ h1 h2 => an a b h2 h1) h (srtB_srt O l) (p.trans (srtB_perm l).symm)
end
def ltI (a b : Int) : Bool := decide (a < b)
theorem swo_ltI : SrtO.Swo ltI := ⟨fun x y h => by unfold ltI at *; simp at *; omega, fun x y z h1 h2 => by unfold ltI at *; simp at *; omega⟩
theorem ltI_eq (a b : Int) (h1 : ltI a b = false) (h2 : ltI b a = false) : a = b := by unfold ltI at *; simp at *; omega
theorem swo_ltT : SrtO.Swo TLS.ltL := TLS.swo_ltL id
def tiV (ns : List Int) : Val := .tup (ns.map Val.int)
def tisOf : List Val → Option (List (List Int))
  | [] => some []
  | .tup xs :: r => (match intsOf xs, tisOf r with
    | some ns, some ks => some (ns :: ks)
    | _, _ => none)
  | _ => none
/-- sorted -/
def sortP0 (c : Bool) : PL := fun vs S Q => match vs with
  | [v] => someP (lsqOf S v) fun xs => (match intsOf xs with
    | some ns => newL c ((srtB ltI ns).map Val.int) S Q
    | none => someP (tisOf xs) fun ks => newL c ((srtB TLS.ltL ks).map tiV) S Q)
  | _ => False
structure sortP (c : Bool) (vs : List Val) (S : Sto) (Q : VQ) : Prop where
  h : sortP0 c vs S Q
section
variable {X : Cx} {K : PySem.W.Frag} {B : Addr → Prop} {H : Hp} {S : Sto} {W : WX}
theorem tis_rv : ∀ {xs : List Val} {vs : List V} {ks : List (List Int)}, RVs K B H S xs vs → tisOf xs = some ks → Paired (fun x k => ∃ t, x = V.ref t ∧ SqT K H t (k.map V.int)) vs ks ∧ Paired (fun x k => RV K B H S (tiV k) x) vs ks
  | [], _, _, .nil, e => by cases e; exact ⟨.nil, .nil⟩
  | x :: xs, _, ks, .cons (v := v) (vs := vs) h t, e => by
    cases x with
    | tup ys =>
      have e2 : (match intsOf ys, tisOf xs with
        | some ns, some ks => some (ns :: ks)
        | _, _ => none) = some ks := e
      split at e2
      · rename_i ns ls e3 e4
        cases e2
        obtain ⟨h1, h2⟩ := tis_rv t e4
        cases h with
        | tup a1 a2 =>
          have e5 := a2.ints e3
          subst e5
          exact ⟨.cons ⟨_, rfl, a1.sq⟩ h1, .cons (.tup a1 (RVs.of_ints ns)) h2⟩
      · cases e2
    | _ => cases e
theorem zip_fst : ∀ {vs : List V} {ks : List (List Int)} {P : V → List Int → Prop}, Paired P vs ks → (vs.zip ks).map (·.2) = ks ∧ ∀ z ∈ vs.zip ks, P z.1 z.2
  | _, _, _, .nil => ⟨rfl, fun z hz => (by cases hz)⟩
  | _, _, _, .cons h r => by
    obtain ⟨h1, h2⟩ := zip_fst r
    refine ⟨by rw [List.zip_cons_cons, List.map_cons, h1], fun z hz => ?_⟩
    rw [List.zip_cons_cons] at hz
    rcases List.mem_cons.mp hz with e | e
    · rw [e]; exact h
    · exact h2 z e
theorem zs_rv : ∀ {zs : List (V × List Int)}, (∀ z ∈ zs, RV K B H S (tiV z.2) z.1) → RVs K B H S ((zs.map (·.2)).map tiV) (zs.map (·.1))
  | [], _ => .nil
  | z :: zs, h => .cons (h z List.mem_cons_self) (zs_rv fun y hy => h y (List.mem_cons_of_mem _ hy))
theorem sortP_ok (c : Bool) : PLOk K (sortP c) (fun xs H Q => rSortedI K xs H Q ∨ rSortedTI K xs H Q) := by
  intro B xs vs S H Qi Q r hr h q
  replace h := h.h
  unfold sortP0 at h
  split at h
  · obtain ⟨v, rfl, r1⟩ := vs1 r
    obtain ⟨ys, e, h⟩ := someP_some h
    split at h
    · rename_i ns e2
      obtain ⟨p, rfl, h1⟩ := ints_sq hr r1 e e2
      refine .inl ⟨p, ns, rfl, h1, fun ms a h2 h3 ha => ?_⟩
      have em : ms = srtB ltI ns := srtB_uniq swo_ltI ltI_eq h2 (h3.imp fun {a b} z => by unfold ltI; exact decide_eq_false (by omega))
      subst em
      exact q.lst hr (RVs.of_ints _) h a ha
    · obtain ⟨ks, e2, h⟩ := someP_some h
      obtain ⟨p, us, rfl, h1, h2⟩ := lsqOf_sq hr r1 e
      obtain ⟨k1, k2⟩ := tis_rv h2 e2
      obtain ⟨z1, z2⟩ := zip_fst k2
      refine .inr ⟨p, us, ks, rfl, h1, k1, fun zs a hp hw ha => ?_⟩
      have em : zs.map (·.2) = srtB TLS.ltL ks := srtB_uniq swo_ltT TLS.ltL_eq (by rw [← z1]; exact hp.map _) (List.pairwise_map.mpr hw)
      have rz : RVs K B H S ((zs.map (·.2)).map tiV) (zs.map (·.1)) := zs_rv fun z hz => z2 z (hp.mem_iff.mp hz)
      rw [em] at rz
      exact q.lst hr rz h a ha
  · exact h.elim
theorem intsOf_map : ∀ l : List Int, intsOf (l.map Val.int) = some l
  | [] => rfl
  | x :: l => by
    show (intsOf (l.map Val.int)).map (x :: ·) = some (x :: l)
    rw [intsOf_map l]
    rfl
/-! ### sorted(set(..)) -/
def dedB {α : Type} [DecidableEq α] : List α → List α
  | [] => []
  | x :: r => if x ∈ r then dedB r else x :: dedB r
theorem dedB_mem {α : Type} [DecidableEq α] (x : α) : ∀ l : List α, x ∈ dedB l ↔ x ∈ l
  | [] => Iff.rfl
  | y :: r => by
    unfold dedB
    split
    · rename_i h
      rw [dedB_mem x r]
      constructor
      · exact fun z => List.mem_cons_of_mem _ z
      · intro z
        rcases List.mem_cons.mp z with e | e
        · rw [e]; exact h
        · exact e
    · rw [List.mem_cons, List.mem_cons, dedB_mem x r]
theorem dedB_nodup {α : Type} [DecidableEq α] : ∀ l : List α, (dedB l).Nodup
  | [] => List.nodup_nil
  | y :: r => by
    unfold dedB
    split
    · exact dedB_nodup r
    · rename_i h
      exact List.nodup_cons.mpr ⟨fun z => h ((dedB_mem y r).mp z), dedB_nodup r⟩
/-- of tuples of ints, less than 64 -/
def sortSetP0 (c : Bool) : P1 := fun x S Q => someP (lsqOf S x) fun xs => someP (tisOf xs) fun ks => ks.length < 64 ∧ newL c ((srtB TLS.ltL (dedB ks)).map tiV) S Q
structure sortSetP (c : Bool) (x : Val) (S : Sto) (Q : VQ) : Prop where
  h : sortSetP0 c x S Q
theorem sortSet_imp {c : Bool} {P : Program} {w : World} {ma : IE} : ∀ σ H Q, liftE K W (un1 (sortSetP c) ma) σ H Q → tCB (rSortedTS K P w) (tCons (tCB (rSetOfT K P w) (tCons (liftE K W ma) tNil)) tNil) σ H Q := fun σ H Q ⟨ρ, S, B, Qi, Ei, R, h, q, er⟩ =>
  ⟨ρ, S, B, _, Ei, R, h, fun v S1 x H1 rv hr1 e1 h1 => by
    obtain ⟨xs, e2, h1⟩ := someP_some h1.h
    obtain ⟨ks, e3, hl, h1⟩ := someP_some h1
    obtain ⟨p, us, rfl, a1, a2⟩ := lsqOf_sq hr1 rv e2
    obtain ⟨k1, k2⟩ := tis_rv a2 e3
    have main : ∀ {us : List V} {ks : List (List Int)}, Paired (fun x k => ∃ t, x = V.ref t ∧ SqT K H1 t (k.map V.int)) us ks → Paired (fun x k => RV K B H1 S1 (tiV k) x) us ks →
        ∃ ps : List (Addr × List Int), us = ps.map (fun p => V.ref p.1) ∧ ks = ps.map (·.2) ∧ (∀ p ∈ ps, SqT K H1 p.1 (p.2.map V.int)) ∧ ∀ p ∈ ps, RV K B H1 S1 (tiV p.2) (.ref p.1) := by
      intro us ks k1
      induction k1 with
      | nil => intro _; exact ⟨[], rfl, rfl, fun p hp => (by cases hp), fun p hp => (by cases hp)⟩
      | @cons x k us ks h1 h2 ih =>
        intro k2
        cases k2 with
        | cons g1 g2 =>
          obtain ⟨t, rfl, ht⟩ := h1
          obtain ⟨ps, b1, b2, b3, b4⟩ := ih g2
          refine ⟨(t, k) :: ps, by rw [b1]; rfl, by rw [b2]; rfl, fun p hp => ?_, fun p hp => ?_⟩
          · rcases List.mem_cons.mp hp with z | z
            · rw [z]; exact ht
            · exact b3 p z
          · rcases List.mem_cons.mp hp with z | z
            · rw [z]; exact g1
            · exact b4 p z
    obtain ⟨ps, b1, b2, b3, b4⟩ := main k1 k2
    refine ⟨p, ps, rfl, by rw [← b1]; exact a1, b3, by rw [← List.length_map (f := (·.2)), ← b2]; exact hl, fun a L ha hL1 hL2 => ?_⟩
    have eN : Ext S1 S1 H1 (upd H1 a (SetTO P w a L)) := Ext.new ha
    have rv2 : ∀ p ∈ L, RV K B (upd H1 a (SetTO P w a L)) S1 (tiV p.2) (.ref p.1) := fun p hp => (b4 p (hL1 p hp)).ext eN
    refine ⟨a, L, rfl, upd_same, fun p hp => ?_, fun L' d pm nd hfew pw hd => ?_⟩
    · cases rv2 p hp with
      | tup t1 t2 =>
        have e5 := t2.ints (ns := p.2) (intsOf_map p.2)
        rw [← e5]
        exact t1.sq
    · have em : L'.map (·.2) = srtB TLS.ltL (dedB ks) := by
        refine srtB_uniq swo_ltT TLS.ltL_eq ?_ (List.pairwise_map.mpr pw)
        refine (List.perm_ext_iff_of_nodup nd (dedB_nodup ks)).mpr fun k => ?_
        rw [dedB_mem]
        constructor
        · intro hk
          obtain ⟨z, hz, ez⟩ := List.mem_map.mp hk
          rw [b2, ← ez]
          exact List.mem_map.mpr ⟨z, hL1 z (pm.mem_iff.mp hz), rfl⟩
        · intro hk
          rw [b2] at hk
          obtain ⟨z, hz, ez⟩ := List.mem_map.mp hk
          have := hL2 z hz
          rw [ez] at this
          exact (pm.map (·.2)).mem_iff.mpr this
      have rz : ∀ {L' : List (Addr × List Int)}, (∀ z ∈ L', z ∈ L) → RVs K B (upd H1 a (SetTO P w a L)) S1 ((L'.map (·.2)).map tiV) (L'.map fun q => V.ref q.1) := by
        intro L'
        induction L' with
        | nil => intro _; exact .nil
        | cons z L' ih => intro hz; exact .cons (rv2 z (hz z List.mem_cons_self)) (ih fun y hy => hz y (List.mem_cons_of_mem _ hy))
      have r2 := rz fun z hz => pm.mem_iff.mp hz
      rw [em] at r2
      exact (q.ext (e1.trans eN)).lst (hr1.new ha) r2 h1 d hd, er⟩
theorem se_sortSet {c : Bool} {e : Expr} {p p2 pos pos2 : Pos} {ma : IE} (hc : X.calm = true) (hu : X.A.units + 65 < cLine) (hg : Gl X "sorted") (hm : X.mg "sorted" = none) (hg2 : Gl X "set") (hm2 : X.mg "set" = none) (hs : starB e = false) (he : PE X e (liftE X.K W ma)) :
    PE X (.Call (.Name "sorted" p) [.Call (.Name "set" p2) [e] [] pos2] [] pos) (liftE X.K W (un1 (sortSetP c) ma)) :=
  (pe_callB (cr_sortedTS hc (by omega)) hg hm rfl (pa_cons (pe_callTy (cr_setOfT hc (by omega)) hg2 hm2 rfl (pa_cons he pa_nil (starEach_one hs)) (by decide) (by decide) (starEach_one hs) rfl) pa_nil rfl) (by decide) (by decide) rfl rfl).imp sortSet_imp
end

/-! ### dicts -/
/-- a new dict -/
@[reducible] def newD (kvs : List (Key × Val)) (S : Sto) (Q : VQ) : Prop := ∀ a, S a = none → Q (.ref a) (S.put a (.dict kvs))
/-- {'k': v, ..}: the keys are texts, no one twice -/
@[reducible] def dspI (ks : List Str) (as : IA) : IE := fun ρ S Q E => as ρ S (fun vs S1 => vs.length = ks.length ∧ ks.length ≤ 15 ∧ newD ((ks.map Sum.inr).zip vs) S1 Q) noX
/-- dict(d) -/
@[reducible] def dictP : PL := fun vs S Q => match vs with
  | [.ref a] => (match S a with
    | some (.dict kvs) => newD kvs S Q
    | _ => False)
  | _ => False
section
variable {X : Cx} {K : PySem.W.Frag} {B : Addr → Prop} {H : Hp} {S : Sto} {W : WX} {Qi : VQ} {Q : VK}
theorem QR.dict (q : QR K B S H Qi Q) (hr : HR K B H S) {kvs : List (Key × Val)} {us : List (Key × V)} (e : us.map (·.1) = kvs.map (·.1)) (r : RVs K B H S (kvs.map (·.2)) (us.map (·.2))) (h : newD kvs S Qi) : ∀ p, H p = none → Q (.ref p) (upd H p (.dK us)) := fun p hp => by
  have ex : Ext S (S.put p (.dict kvs)) H (upd H p (.dK us)) := Ext.newCell hp
  exact q (.ref p) (S.put p (.dict kvs)) (.ref p) _ (.ref p) (hr.newCell (c := .dict kvs) hp ⟨us, upd_same, e, r.ext ex⟩) ex (h p (hr.free hp).1)
abbrev rDictCopy : List V → Hp → VK → Prop := fun xs H Q => ∃ a kvs, xs = [.ref a] ∧ Rd H a (.dK kvs) ∧ ∀ p, H p = none → Q (.ref p) (upd H p (.dK kvs))
theorem cr_dictCopy : CallR X (.type "dict") rDictCopy := by
  intro pins s σ H xs us Q I r h
  obtain ⟨a, kvs, rfl, hd, q⟩ := h
  obtain ⟨u, rfl, ru⟩ := vals1 r
  obtain rfl : u = Value.ref a := ru
  exact d_copyOf I hd fun p s' hp I' => ⟨.ref p, _, I', rfl, q p hp⟩
theorem dictP_ok : PLOk K dictP rDictCopy := by
  intro B xs vs S H Qi Q r hr h q
  unfold dictP at h
  split at h
  · obtain ⟨v, rfl, r1⟩ := vs1 r
    cases r1
    split at h
    · rename_i kvs q0
      obtain ⟨us, h1, h2, h3⟩ := hr.ok _ _ q0
      exact ⟨_, us, rfl, .inl h1, q.dict hr h2 h3 h⟩
    · exact h.elim
  · exact h.elim
/-- the pairs' values, the keys being texts -/
def trsOf (ks : List Str) (ts : List TE) : List (TE × TE) := (ks.map fun x => tC (.str x)).zip ts
structure StrKeys (keys : List (Option Expr)) (ks : List Str) : Prop where
  h : Paired (fun k x => ∃ j p, k = some (Expr.Constant (.str x) j p)) keys ks
/-- the display's values one by one -/
inductive PVs (X : Cx) : List Expr → List TE → Prop
  | nil : PVs X [] []
  | cons {e : Expr} {t : TE} {es : List Expr} {ts : List TE} : PE X e t → PVs X es ts → PVs X (e :: es) (t :: ts)
theorem pps_of {pos : Pos} : ∀ {keys : List (Option Expr)} {ks : List Str} {es : List Expr} {ts : List TE}, Paired (fun k x => ∃ j p, k = some (Expr.Constant (.str x) j p)) keys ks → PVs X es ts → keys.length = es.length → PPs X pos keys es (trsOf ks ts)
  | _, _, _, _, .nil, .nil, _ => pps_nil
  | _, _, _, _, .nil, .cons _ _, h => by cases h
  | _, _, _, _, .cons _ _, .nil, h => by cases h
  | _, _, _, _, .cons h1 h2, .cons g1 g2, h => by
    obtain ⟨j, p, rfl⟩ := h1
    exact pps_cons pe_str g1 (pps_of h2 g2 (by simpa using h))
@[reducible] def foldA : List IE → IA
  | [] => nilA
  | m :: r => consA m (foldA r)
/-- the values of a display, hidden dict Dd -/
theorem pairs_imp : ∀ {ks : List Str} {ms : List IE}, ks.length = ms.length → ∀ (Bh : Addr → Prop) (ρ : ISt) (S : Sto) (σ : St) (H : Hp) (Qi : List Val → Sto → Prop) (Q : List (V × V) → Hp → Prop), Rl K Bh ρ S σ H → foldA ms ρ S Qi noX →
    (∀ vs S' xs H', RVs K Bh H' S' vs xs → HR K Bh H' S' → Ext S S' H H' → Qi vs S' → Q ((ks.map V.str).zip xs) H') → tPairs (trsOf ks (ms.map (liftE K noW))) σ H Q
  | [], [], _, Bh, ρ, S, σ, H, Qi, Q, R, h, q => q [] S [] H .nil R.hr Ext.refl h
  | [], _ :: _, e, _, _, _, _, _, _, _, _, _, _ => by cases e
  | _ :: _, [], e, _, _, _, _, _, _, _, _, _, _ => by cases e
  | k :: ks, m :: ms, e, Bh, ρ, S, σ, H, Qi, Q, R, h, q => by
    show tPairs ((tC (.str k), liftE K noW m) :: trsOf ks (ms.map (liftE K noW))) σ H Q
    refine ⟨ρ, S, Bh, _, noX, R, h, fun v S1 x H1 rv hr1 e1 h1 => ?_, fun _ _ _ _ _ _ _ _ z => z⟩
    refine pairs_imp (by simpa using e) Bh ρ S1 σ H1 _ _ (R.ext e1 hr1) h1 fun vs S2 xs H2 rs hr2 e2 h2 => ?_
    exact q (v :: vs) S2 (x :: xs) H2 (.cons (rv.ext e2) rs) hr2 (e1.trans e2) h2
theorem mergeK_new : ∀ {kvs acc : List (Key × V)}, (acc.map (·.1) ++ kvs.map (·.1)).Nodup → mergeK acc kvs = acc ++ kvs
  | [], acc, _ => by rw [List.append_nil]; rfl
  | p :: r, acc, nd => by
    have nd2 : p.1 ∉ acc.map (·.1) := fun z => by
      rw [List.map_cons] at nd
      have := (List.nodup_append.mp nd).2.2
      exact this p.1 z p.1 List.mem_cons_self rfl
    have en : valV acc p.1 = none := by
      unfold valV
      cases f : acc.find? fun kv => decide (kv.1 = p.1) with
      | none => rfl
      | some q =>
        have h1 := List.mem_of_find?_eq_some f
        have h2 := List.find?_some f
        have h2 := of_decide_eq_true h2
        exact absurd (List.mem_map.mpr ⟨q, h1, h2⟩) nd2
    show mergeK (putK acc p.1 p.2) r = _
    rw [putK_new p.2 en, mergeK_new]
    · rw [List.append_assoc]
      rfl
    · rw [List.map_append, List.append_assoc]
      exact nd
theorem keys_some : ∀ {keys : List (Option Expr)} {ks : List Str}, Paired (fun k x => ∃ j p, k = some (Expr.Constant (.str x) j p)) keys ks → keys.all (·.isSome) = true
  | _, _, .nil => rfl
  | _, _, .cons h r => by
    obtain ⟨j, p, rfl⟩ := h
    rw [List.all_cons, keys_some r]
    rfl
theorem zip_map2 {α β γ : Type} (f : α → γ) (ks : List α) (xs : List β) : (ks.map f).zip xs = (ks.zip xs).map fun z => (f z.1, z.2) := by
  induction ks generalizing xs with
  | nil => rfl
  | cons k ks ih =>
    cases xs with
    | nil => rfl
    | cons x xs =>
      rw [List.map_cons, List.zip_cons_cons, List.zip_cons_cons, List.map_cons, ih]
theorem map_zip_fst {α β : Type} : ∀ (ks : List α) (xs : List β), ks.length = xs.length → (ks.zip xs).map (·.1) = ks ∧ (ks.zip xs).map (·.2) = xs
  | [], [], _ => ⟨rfl, rfl⟩
  | [], _ :: _, h => by cases h
  | _ :: _, [], h => by cases h
  | k :: ks, x :: xs, h => by
    obtain ⟨h1, h2⟩ := map_zip_fst ks xs (by simpa using h)
    exact ⟨by rw [List.zip_cons_cons, List.map_cons, h1], by rw [List.zip_cons_cons, List.map_cons, h2]⟩
theorem se_disp {keys : List (Option Expr)} {es : List Expr} {ks : List Str} {ms : List IE} {pos : Pos} (hk : Paired (fun k x => ∃ j p, k = some (Expr.Constant (.str x) j p)) keys ks) (hv : PVs X es (ms.map (liftE X.K noW))) (hl : keys.length = es.length) (hm : ks.length = ms.length) (h0 : keys ≠ [])
    (nd : ks.Nodup) (h15 : ks.length ≤ 15) : PE X (.Dict keys es pos) (liftE X.K W (dspI ks (foldA ms))) := by
  have ek : keys.length = ks.length := Paired.length hk
  refine (pe_disp (pps_of hk hv hl) (keys_some hk) hl h0 (by omega)).imp fun σ H Q ⟨ρ, S, B, Qi, Ei, R, h, q, er⟩ p hp => ?_
  have wD : Wider B (More B p) H := Wider.more hp
  have sp := (R.hr.free hp).1
  have nb := (R.hr.free hp).2
  have hr1 : HR X.K (More B p) (upd H p (.dK [])) S := R.hr.hide hp
  have R1 : Rl X.K (More B p) ρ S σ (upd H p (.dK [])) := ⟨(R.st.moreB wD).ext (Ext.new hp), hr1⟩
  have sub : ∀ a, B a → More B p a := fun a z => .inr z
  refine pairs_imp hm (More B p) ρ S σ _ _ _ R1 h fun vs S1 xs H1 rv hr2 e1 h1 => ?_
  obtain ⟨l1, l2, h1⟩ := h1
  obtain ⟨s1, d1⟩ := e1 p _ sp upd_same
  refine ⟨d1, (ks.map Sum.inr).zip xs, ?_, ?_, ?_⟩
  · rw [zip_map2, zip_map2, List.map_map]
    rfl
  · rw [List.length_zip, List.length_map]
    omega
  · have lx : ks.length = xs.length := by rw [← l1]; exact rv.length
    obtain ⟨z1, z2⟩ := map_zip_fst (ks.map (Sum.inr : Str → Key)) xs (by rw [List.length_map]; exact lx)
    obtain ⟨z3, z4⟩ := map_zip_fst (ks.map (Sum.inr : Str → Key)) vs (by rw [List.length_map]; exact l1.symm)
    have nk : (ks.map (Sum.inr : Str → Key)).Nodup := by
      refine List.pairwise_map.mpr (nd.imp fun {a b} hne e => hne ?_)
      cases e
      rfl
    rw [mergeK_new (acc := []) (by rw [List.map_nil, List.nil_append, z1]; exact nk), List.nil_append]
    -- the dict is no longer hidden
    have ex : ExtB (More B p) S1 (S1.put p (.dict ((ks.map Sum.inr).zip vs))) H1 (upd H1 p (.dK ((ks.map Sum.inr).zip xs))) := fun a u hs hb ha => by
      have ne : a ≠ p := fun z => hb (.inl z)
      exact ⟨by rw [Sto.put_ne ne]; exact hs, by rw [upd_ne ne]; exact ha⟩
    have rv3 : RVs X.K B (upd H1 p (.dK ((ks.map Sum.inr).zip xs))) (S1.put p (.dict ((ks.map Sum.inr).zip vs))) vs xs := RVs.lessB sub (rv.extB ex)
    have hr3 : HR X.K B (upd H1 p (.dK ((ks.map Sum.inr).zip xs))) (S1.put p (.dict ((ks.map Sum.inr).zip vs))) := ⟨fun a k hk2 => by
      by_cases z : a = p
      · subst z
        rw [Sto.put_same] at hk2
        cases hk2
        exact ⟨_, upd_same, by rw [z1, z3], by rw [z2, z4]; exact rv3⟩
      · rw [Sto.put_ne z] at hk2
        exact ((hr2.ok a k hk2).extB ex (upd_ne z)).lessB sub, fun a hb => by
      have z : a ≠ p := fun z => nb (by rw [← z]; exact hb)
      obtain ⟨q1, u, q2⟩ := hr2.hid a (.inr hb)
      exact ⟨by rw [Sto.put_ne z]; exact q1, u, by rw [upd_ne z]; exact q2⟩⟩
    refine q (.ref p) _ (.ref p) _ (.ref p) hr3 (fun a u hs ha => ?_) (h1 p s1)
    have z : a ≠ p := ne_of_none ha hp
    obtain ⟨q1, q2⟩ := e1 a u hs (by rw [upd_ne z]; exact ha)
    exact ⟨by rw [Sto.put_ne z]; exact q1, by rw [upd_ne z]; exact q2⟩
end

/-! ### f(k = v, ..): every parameter by its name, in their order -/
def Kb (K : PySem.W.Frag) (fd : FuncData) (ps : List Str) : Prop := ∀ (s : Shared) (ws : List Value), K.In s.heap → ws.length = ps.length → BindsTo s fd ⟨[], ps.zip ws⟩ (ps.zip ws)
section
variable {X : Cx} {W : WX}
theorem run_fnKS {CX : CXT} {k : Nat} {f : Addr} {fd : FuncData} {ps : List Str} {sp : Sp} {E : St → XK} {pins : List (Addr × Obj)} {σ : St} {H : Hp} {s : Shared} {Q : VK} {ws : List Value} {zs : List V} (F : FnOk X.prog X.w X.K X.mg X.base CX k f fd ps sp) (hr : Room k X.A) (hb : Kb X.K fd ps) (hx : PassesAt CX X σ (E σ))
    (I : Inv X pins σ H s) (rz : Vals zs ws) (h : sp zs H Q (E σ)) : wpAny (model X.prog X.w) X.A (call (.ref f) [] (ps.zip ws)) (EP X pins σ Q) X.xe s := by
  have hl : ws.length = ps.length := by rw [← rz.length]; exact F.len _ _ _ _ h
  refine wpAny_call (codeAny_mono (F.run X.A X.stack s H ⟨[], ps.zip ws⟩ ws zs Q (E σ) hr I.env0 (hb s ws I.kIn hl) rz h) fun r s' hq => ?_)
  cases r with
  | error e => exact hx pins H s e s' I hq
  | ok fl =>
    cases fl with
    | ret u => exact I.after hq
    | next => exact False.elim hq
    | brk => exact False.elim hq
    | cont => exact False.elim hq
theorem kw_names {pos : Pos} {env : Env} : ∀ {kws : List Keyword} {ps : List Str}, kws.map (·.arg) = ps.map some → ((backToKw pos (keywordEach kws env)).all (·.1.isSome) = true ∧ (backToKw pos (keywordEach kws env)).filterMap (·.1) = ps ∧ (backToKw pos (keywordEach kws env)).any (·.1.isNone) = false)
  | [], [], _ => ⟨rfl, rfl, rfl⟩
  | [], _ :: _, h => by cases h
  | _ :: _, [], h => by cases h
  | ⟨a, e, kp⟩ :: kws, p :: ps, h => by
    have h1 : a = some p := (List.cons.inj h).1
    have h2 : kws.map (·.arg) = ps.map some := (List.cons.inj h).2
    subst h1
    obtain ⟨g1, g2, g3⟩ := kw_names (pos := pos) (env := env) h2
    refine ⟨?_, ?_, ?_⟩
    · show (true && (backToKw pos (keywordEach kws env)).all (·.1.isSome)) = true
      rw [g1]
      rfl
    · show p :: (backToKw pos (keywordEach kws env)).filterMap (·.1) = p :: ps
      rw [g2]
    · show (false || (backToKw pos (keywordEach kws env)).any (·.1.isNone)) = false
      rw [g3]
      rfl
theorem sk_nil : PK X [] (liftA X.K W nilA) := ⟨fun pos pins s σ H Q I ⟨ρ, S, B, Qi, Ei, R, h, q, er⟩ => pk_nil.run pos pins s σ H Q I (q [] S [] H .nil R.hr Ext.refl h)⟩
theorem sk_cons {nm : Option Str} {e : Expr} {kpos : Pos} {kws : List Keyword} {ma : IE} {mr : IA} (ha : PE X e (liftE X.K W ma)) (hr : PK X kws (liftA X.K W mr)) : PK X (⟨nm, e, kpos⟩ :: kws) (liftA X.K W (consA ma mr)) :=
  ⟨fun pos pins s σ H Q I h => (pk_cons ha hr).run pos pins s σ H Q I (cons_imp (fun _ _ _ h => h) _ _ _ h)⟩
theorem se_callK {Γ : Calls} {f : Str} {fd : FuncData} {ps : List Str} {k : Nat} {mr : IA} {p pos : Pos} {kws : List Keyword} (D : DefOk X k Γ f fd ps) (hb : Kb X.K fd ps) (hr : Room k X.A) (tk : Takes X W) (hg : Gl X f) (hdb : (f == ("__debug__" : Str)) = false)
    (hn : kws.map (·.arg) = ps.map some) (ha : PK X kws (liftA X.K W mr)) : PE X (.Call (.Name f p) [] kws pos) (liftE X.K W (callF Γ f mr)) := by
  refine ⟨fun pins s σ H Q I h => ?_⟩
  obtain ⟨n1, n2, n3⟩ := kw_names (pos := pos) (env := X.env) hn
  refine wpAny_Call_Name_kw (ld_glob I hg D.mg ?_ hdb)
  refine PySem.W.callWith_KW0 (h₀ := X.base) I.ok.mod.kin D.kp n1 (thn (ha.run pos pins s σ H _ I (callF_imp σ H Q h)) fun ws s2 ⟨zs, H2, I2, rz, q2⟩ => ⟨I2.kIn, ?_⟩) (by show (false || (backToKw pos (keywordEach kws X.env)).any (·.1.isNone)) = false; rw [n3]; rfl)
  rw [n2]
  exact run_fnKS D.ok hr hb (passAt tk σ) I2 rz q2
/-! ### calls by keywords in another order than the def's -/
def pickI {α : Type} : List Nat → List α → Option (List α)
  | [], _ => some []
  | i :: r, xs => match xs[i]?, pickI r xs with
    | some x, some ys => some (x :: ys)
    | _, _ => none
def pickN {α : Type} (n : Nat) (ix : List Nat) (xs : List α) : Option (List α) := if xs.length = n then pickI ix xs else none
@[reducible] def callFP (Γ : Calls) (f : Str) (n : Nat) (ix : List Nat) (as : IA) : IE := fun ρ S Q E => as ρ S (fun xs S1 => someP (pickN n ix xs) fun ys => Γ f ys S1 Q E) E
theorem pick_rel {α β : Type} {R : α → β → Prop} {F : List α → List β → Prop} (f0 : F [] []) (f1 : ∀ x z ys us, R x z → F ys us → F (x :: ys) (z :: us)) {xs : List α} {zs : List β} (h : ∀ (i : Nat) x, xs[i]? = some x → ∃ z, zs[i]? = some z ∧ R x z) : ∀ (ix : List Nat) (ys : List α), pickI ix xs = some ys → ∃ us, pickI ix zs = some us ∧ F ys us
  | [], ys, e => by
    cases e
    exact ⟨[], rfl, f0⟩
  | i :: r, ys, e => by
    unfold pickI at e
    split at e
    · rename_i x ys' e1 e2
      cases e
      obtain ⟨z, h1, h2⟩ := h i x e1
      obtain ⟨us, h3, h4⟩ := pick_rel f0 f1 h r ys' e2
      exact ⟨z :: us, by unfold pickI; rw [h1, h3], f1 _ _ _ _ h2 h4⟩
    · cases e
theorem RVs.at_ {K : PySem.W.Frag} {B : Addr → Prop} {H : Hp} {S : Sto} : ∀ {xs : List Val} {vs : List V}, RVs K B H S xs vs → ∀ (i : Nat) x, xs[i]? = some x → ∃ v, vs[i]? = some v ∧ RV K B H S x v
  | _, _, .nil, i, x, e => by simp at e
  | _, _, .cons r t, 0, x, e => by
    have e := Option.some.inj e
    subst e
    exact ⟨_, rfl, r⟩
  | _, _, .cons r t, i + 1, x, e => t.at_ i x e
theorem paired_at {α β : Type} {R : α → β → Prop} : ∀ {xs : List α} {vs : List β}, Paired R xs vs → ∀ (i : Nat) x, xs[i]? = some x → ∃ v, vs[i]? = some v ∧ R x v
  | _, _, .nil, i, x, e => by simp at e
  | _, _, .cons r t, 0, x, e => by
    have e := Option.some.inj e
    subst e
    exact ⟨_, rfl, r⟩
  | _, _, .cons r t, i + 1, x, e => paired_at t i x e
theorem RVs.len_ {K : PySem.W.Frag} {B : Addr → Prop} {H : Hp} {S : Sto} : ∀ {xs : List Val} {vs : List V}, RVs K B H S xs vs → vs.length = xs.length
  | _, _, .nil => rfl
  | _, _, .cons r t => by rw [List.length_cons, List.length_cons, t.len_]
def Kbp (K : PySem.W.Frag) (fd : FuncData) (ps qs : List Str) (ix : List Nat) : Prop := ∀ (s : Shared) (ws : List Value), K.In s.heap → ws.length = qs.length → ∃ ys, pickI ix ws = some ys ∧ BindsTo s fd ⟨[], qs.zip ws⟩ (ps.zip ys)
def spP (sp : Sp) (n : Nat) (ix : List Nat) : Sp := fun zs H Q E => ∃ us, pickN n ix zs = some us ∧ sp us H Q E
theorem callFP_imp {Γ : Calls} {f : Str} {n : Nat} {ix : List Nat} {mr : IA} : ∀ σ H Q, liftE X.K W (callFP Γ f n ix mr) σ H Q → tCallS (spP (spG X.K Γ f) n ix) (WE W) (liftA X.K W mr) σ H Q := fun σ H Q ⟨ρ, S, B, Qi, Ei, R, h, q, er⟩ => by
  refine ⟨ρ, S, B, _, Ei, R, h, fun vs S1 xs H1 rv hr1 e h1 => ?_, er⟩
  obtain ⟨ys, e1, h1⟩ := someP_some h1
  unfold pickN at e1
  split at e1
  · rename_i hl
    obtain ⟨us, e2, r2⟩ := pick_rel (R := RV X.K B H1 S1) (F := RVs X.K B H1 S1) .nil (fun _ _ _ _ a b => .cons a b) rv.at_ ix ys e1
    exact ⟨us, by unfold pickN; rw [if_pos (by rw [rv.len_]; exact hl)]; exact e2, ys, S1, B, Qi, Ei, r2, hr1, h1, q.ext e, er.ext e⟩
  · cases e1
theorem se_callKP {Γ : Calls} {f : Str} {fd : FuncData} {ps qs : List Str} {ix : List Nat} {k : Nat} {mr : IA} {p pos : Pos} {kws : List Keyword} (D : DefOk X k Γ f fd ps) (hb : Kbp X.K fd ps qs ix) (hr : Room k X.A) (tk : Takes X W) (hg : Gl X f) (hdb : (f == ("__debug__" : Str)) = false)
    (hn : kws.map (·.arg) = qs.map some) (ha : PK X kws (liftA X.K W mr)) : PE X (.Call (.Name f p) [] kws pos) (liftE X.K W (callFP Γ f qs.length ix mr)) := by
  refine ⟨fun pins s σ H Q I h => ?_⟩
  obtain ⟨n1, n2, n3⟩ := kw_names (pos := pos) (env := X.env) hn
  refine wpAny_Call_Name_kw (ld_glob I hg D.mg ?_ hdb)
  refine PySem.W.callWith_KW0 (h₀ := X.base) I.ok.mod.kin D.kp n1 (thn (ha.run pos pins s σ H _ I (callFP_imp σ H Q h)) fun ws s2 ⟨zs, H2, I2, rz, us, e2, q2⟩ => ⟨I2.kIn, ?_⟩) (by show (false || (backToKw pos (keywordEach kws X.env)).any (·.1.isNone)) = false; rw [n3]; rfl)
  rw [n2]
  unfold pickN at e2
  split at e2
  · rename_i hl
    obtain ⟨ys, e3, r3⟩ := pick_rel (R := RelV) (F := Vals) .nil (fun _ _ _ _ a b => .cons a b) (paired_at rz) ix us e2
    obtain ⟨ys', e4, hb⟩ := hb s2 ws I2.kIn (by rw [← rz.length]; exact hl)
    rw [e3] at e4
    cases e4
    refine wpAny_call (codeAny_mono (D.ok.run X.A X.stack s2 H2 ⟨[], qs.zip ws⟩ ys us Q (WE W σ) hr I2.env0 hb r3 q2) fun r s' hq => ?_)
    cases r with
    | error e => exact (passAt tk σ) pins H2 s2 e s' I2 hq
    | ok fl =>
      cases fl with
      | ret u => exact I2.after hq
      | next => exact False.elim hq
      | brk => exact False.elim hq
      | cont => exact False.elim hq
  · cases e2
end
end TL

/-! TLv: x[a:b] = ys, open ends too. -/
namespace TL
open PySem PySem.Spec L2
theorem setItem_sliceT {prog : Program} {w : World} {A : Around} {E : Value → Shared → Prop} {s : Shared} {l b sl : Addr} {items new : Array Value} {n n2 : Nat} {vl vu : Value} {a c : Nat} {lo hi : Option Int} {Q : Unit → Shared → Prop}
    (e : s.heap.get? l = some { cls := Value.type "list", data := Data.seq items n }) (e2 : s.heap.get? b = some { cls := Value.type "list", data := Data.seq new n2 }) (hne : l ≠ b)
    (hs : s.heap.IsSliceOf sl vl vu Value.none) (pl : IsPart vl lo) (pu : IsPart vu hi) (hbd : sliceBounds lo hi none items.size = ((a : Int), (c : Int), 1)) (hac : a ≤ c) (hc : c ≤ items.size) (hsz : items.size + new.size ≤ sizeLine)
    (h : Q () { heap := s.heap.update l (Obj.mapSeq fun xs => xs.extract 0 a ++ new ++ xs.extract c), gens := s.gens, drawn := s.drawn, toks := s.toks, os := s.os }) :
    wpAny (model prog w) A (setItem (Value.ref l) (Value.ref sl) (Value.ref b)) Q E s := by
  have hl : s.heap.IsList l items := IsL.isList e
  have hb : s.heap.IsList b new := IsL.isList e2
  obtain ⟨os, hos, hcs, hds⟩ := id hs
  have hTs : s.TypeIs (Value.ref sl) "slice" := ⟨os, hos, hcs⟩
  have hsame : Builtin.List.listSameRef (Value.ref l) (Value.ref b) = false := beq_eq_false_iff_ne.mpr hne
  unfold setItem
  refine wpAny_holding (wpAny_bind (wpAny_sequenceKey hl.typeIs (by decide) (wpAny_bind (wpAny_callSpecial?_slot hl.typeIs slot_list_setitem (wpAny_call_entry slot_list_setitem hl.typeIs entry_list_setitem ?_ (args_list_setitem _ _ _))))))
  unfold Builtin.«list.__setitem__»
  refine wpAny_bind (wpAny_pure ?_)
  refine wpAny_bind ?_
  unfold Builtin.List.listSubscript?
  refine wpAny_bind (wpAny_specialOf hTs slice_no_index ?_)
  refine wpAny_pure ?_
  refine wpAny_bind (wpAny_typeOf hTs ?_)
  rw [if_neg (by decide)]
  refine wpAny_bind ?_
  rw [listSliceParts_eq]
  refine wpAny_bind (wpAny_field hos hds rfl (wpAny_bind (wpAny_listPart IsPart.none ?_)))
  rw [if_neg (by decide)]
  refine wpAny_bind (wpAny_field hos hds rfl (wpAny_bind (wpAny_listPart pl ?_)))
  refine wpAny_bind (wpAny_field hos hds rfl (wpAny_bind (wpAny_listPart pu (wpAny_pure ?_))))
  show wpAny _ _ (if Builtin.List.listSameRef (Value.ref l) (Value.ref b) = true then _ else _) _ _ _
  rw [if_neg (by rw [hsame]; decide)]
  unfold Builtin.List.listAllItems
  refine wpAny_bind (wpAny_bind (wpAny_typeOf hb.typeIs ?_))
  rw [if_pos (by decide)]
  refine wpAny_listItems e2 rfl ?_
  refine wpAny_bind (wpAny_listItems e rfl ?_)
  refine wpAny_bind (wpAny_of_eq (sliceIndices_raw lo hi none items.size nofun) ?_)
  rw [hbd]
  show wpAny _ _ (if ((1 : Int) == 1) = true then _ else _) _ _ _
  rw [if_pos (by decide)]
  refine wpAny_bind (wpAny_rule ?_)
  rw [if_neg (by rw [notLongL hsz]; decide)]
  have hmax : (max (a : Int) (c : Int)).toNat = c := by omega
  refine wpAny_bind (PyProof.Rows.listUpdate_at e rfl ?_ (by omega) (by simp; omega))
  refine wpAny_bind (wpAny_letGo (wpAny_pure ⟨_, rfl, wpAny_pure ?_⟩))
  simp only [hmax, Int.toNat_natCast]
  exact h

/-- .. in the layer -/
theorem set_sliceT {X : Cx} {pins : List (Addr × Obj)} {s : Shared} {σ : L2.St} {H : Hp} {l b sl : Addr} {xs ys : List V} {lo hi : Option Int} {vl vu : Value} {Q : Unit → Shared → Prop} (I : L2.Inv X pins σ H s) (hH : H l = some (.lst xs)) (hB : H b = some (.lst ys)) (hne : l ≠ b)
    (hs : s.heap.IsSliceOf sl vl vu Value.none) (pl : IsPart vl lo) (pu : IsPart vu hi) (hac : HT.sIx xs.length 0 lo ≤ HT.sIx xs.length xs.length hi) (hc : HT.sIx xs.length xs.length hi ≤ xs.length) (hz : xs.length + ys.length ≤ sizeLine)
    (h : ∀ s', L2.Inv X pins σ (upd H l (.lst (xs.take (HT.sIx xs.length 0 lo) ++ ys ++ xs.drop (HT.sIx xs.length xs.length hi)))) s' → Q () s') : wpAny (model X.prog X.w) X.A (setItem (Value.ref l) (Value.ref sl) (Value.ref b)) Q X.xe s := by
  obtain ⟨z, its, n, r, hl, e⟩ := Inv.lstM I hH
  obtain ⟨z2, its2, n2, r2, hl2, e2⟩ := Inv.lstM I hB
  have q := slice_bounds lo hi its.toArray.size
  have es : its.toArray.size = xs.length := by rw [List.size_toArray]; omega
  refine setItem_sliceT (a := HT.sIx xs.length 0 lo) (c := HT.sIx xs.length xs.length hi) e e2 hne hs pl pu ?_ hac (by rw [es]; exact hc) (by rw [es, List.size_toArray]; omega) (h _ (Inv.lset I hH e (splice_eq its its2 _ _) (Vals.append (Vals.append (Vals.take _ r) r2) (Vals.drop _ r)) ?_))
  · rw [es] at q
    rw [es]
    exact Prod.ext q.1 (Prod.ext q.2.1 q.2.2)
  · simp only [List.length_append, List.length_take, List.length_drop]
    omega
def _root_.L2.gSl (to : TE) (tl th : TO) : TG := fun v σ H Q => to σ H fun o H1 => tl σ H1 fun l H2 => th σ H2 fun u H3 => ∃ (a b : Addr) (xs ys : List V), o = .ref a ∧ v = .ref b ∧ H3 a = some (.lst xs) ∧ H3 b = some (.lst ys) ∧ a ≠ b ∧ HT.sIx xs.length 0 l ≤ HT.sIx xs.length xs.length u ∧ HT.sIx xs.length xs.length u ≤ xs.length ∧ xs.length + ys.length ≤ sizeLine ∧
  Q σ (upd H3 a (.lst (xs.take (HT.sIx xs.length 0 l) ++ ys ++ xs.drop (HT.sIx xs.length xs.length u))))
theorem pg_slice {X : Cx} {o : Expr} {lo hi : Option Expr} {p2 pos : Pos} {to : TE} {tl th : TO} (ho : PE X o to) (hl : PO X lo tl) (hu : PO X hi th) : PG X (.Subscript o (.Slice lo hi none p2) pos) (gSl to tl th) := ⟨fun pins s σ H v u Q I r h => by
  have ha : assign (.Subscript o (.Slice lo hi none p2) pos) X.env u = (do
      let ov ← holding [u] (eval o X.env)
      let iv ← holding [u, ov] (eval (.Slice lo hi none p2) X.env)
      standAt pos
      holding [u, ov, iv] (setItem ov iv u)
      PySem.release [iv, u, ov] []) := rfl
  rw [ha]
  refine wpAny_bind (wpAny_holding (thn (ho.run pins s σ H _ I h) ?_))
  rintro ov s1 ⟨x, H1, I1, r1, q1⟩
  refine wpAny_bind (wpAny_holding (wpAny_Slice (thn (hl.run pins s1 σ H1 _ I1 q1) ?_)))
  rintro vl s2 ⟨l, H2, I2, pl, q2⟩
  refine thn (hu.run pins s2 σ H2 _ I2 q2) ?_
  rintro vu s3 ⟨k, H3, I3, pu, q3⟩
  rw [evalPart_none]
  refine wpAny_pure ?_
  have I4 := Inv.kept (t' := s3.toks) I3 fun b ob q => Heap.get?_push_of_some { cls := Value.type "slice", data := Data.fields #[vl, vu, Value.none] } q
  obtain ⟨a, b, xs, ys, rfl, rfl, g1, g2, g3, g4, g5, g6, g7⟩ := q3
  cases r1
  cases r
  refine wpAny_bind (wpAny_standAt (wpAny_bind (wpAny_holding ?_)))
  exact set_sliceT I4 g1 g2 g3 (Heap.IsSliceOf.new s3.1 vl vu Value.none) pl pu g4 g5 g6 fun s' I' => wpAny_release ⟨σ, _, I', g7⟩⟩

/-! ### the plain meaning -/
def setSl0 (o v : Val) (lo hi : Option Int) (S : Sto) (Kn : Sto → Prop) : Prop := putI o S fun a xs => match v with
  | .lst ys => HT.sIx xs.length 0 lo ≤ HT.sIx xs.length xs.length hi ∧ HT.sIx xs.length xs.length hi ≤ xs.length ∧ xs.length + ys.length ≤ sizeLine ∧ Kn (S.put a (.lst (xs.take (HT.sIx xs.length 0 lo) ++ ys ++ xs.drop (HT.sIx xs.length xs.length hi))))
  | _ => False
structure setSl (o v : Val) (lo hi : Option Int) (S : Sto) (Kn : Sto → Prop) : Prop where
  h : setSl0 o v lo hi S Kn
@[reducible] def sstoreI (o : IE) (lo hi : IO) (e : IE) : IS := fun D ρ S => e ρ S (fun v S1 => o ρ S1 (fun x S2 => lo ρ S2 (fun l S3 => hi ρ S3 (fun u S4 => setSl x v l u S4 fun S5 => D.nx ρ S5) (D.ex ρ)) (D.ex ρ)) (D.ex ρ)) (D.ex ρ)
section
variable {X : Cx} {W : WX} {o e : Expr} {lo hi : Option Expr} {mo me : IE} {ml mh : IO} {p p2 pos : Pos}
theorem ss_sstore (ho : PE X o (liftE X.K W mo)) (hl : PO X lo (liftO X.K W ml)) (hh : PO X hi (liftO X.K W mh)) (he : PE X e (liftE X.K W me)) : PS X (.Assign [.Subscript o (.Slice lo hi none p2) p] e pos) (liftS X.K W (sstoreI mo ml mh me)) :=
  (ps_asg he (pg_slice ho hl hh) swapsSole_sub rfl).imp fun D σ H ⟨ρ, S, B, Di, R, h, d⟩ => ⟨ρ, S, B, _, _, R, h, fun v S1 x H1 rv hr1 e1 h1 =>
    ⟨ρ, S1, B, _, _, R.ext e1 hr1, h1, fun u S2 y H2 ru hr2 e2 h2 => ⟨ρ, S2, B, _, _, R.ext (e1.trans e2) hr2, h2, fun l S3 H3 hr3 e3 h3 => ⟨ρ, S3, B, _, _, R.ext (e1.trans (e2.trans e3)) hr3, h3, fun k S4 H4 hr4 e4 h4 => by
      have ru := ru.ext (e3.trans e4)
      have rv := rv.ext (e2.trans (e3.trans e4))
      replace h4 := h4.h
      unfold setSl0 putI at h4
      split at h4
      · cases ru
        split at h4
        · rename_i a _ ys q0
          split at h4
          · rename_i _ zs _
            cases rv with
            | @lst b _ ws i1 i2 i3 =>
            obtain ⟨us, g1, g2⟩ := hr4.ok _ _ q0
            obtain ⟨t1, t2, t3, h5⟩ := h4
            have l1 := g2.length
            have l2 := i3.length
            rw [l1] at t1 t2 t3 h5
            rw [l2] at t3
            have e5 : Ext S4 (S4.put a (.lst (ys.take (HT.sIx us.length 0 l) ++ zs ++ ys.drop (HT.sIx us.length us.length k)))) H4 (upd H4 a (.lst (us.take (HT.sIx us.length 0 l) ++ ws ++ us.drop (HT.sIx us.length us.length k)))) := Ext.write q0
            have ea := e1.trans (e2.trans (e3.trans (e4.trans e5)))
            refine ⟨a, _, us, _, rfl, rfl, g1, i1, fun z => ?_, t1, t2, t3, d.nx ρ _ σ _ (R.ext ea (hr4.write (c := .lst _) q0 ⟨_, upd_same, (((g2.take _).append i3).append (g2.drop _)).ext e5⟩)) ea h5⟩
            rw [z, i2.1] at q0
            cases q0
          · exact h4.elim
        · exact h4.elim
      · exact h4.elim, (d.ext (e1.trans (e2.trans e3))).er (R.st.ext (e1.trans (e2.trans e3)))⟩,
      (d.ext (e1.trans e2)).er (R.st.ext (e1.trans e2))⟩, (d.ext e1).er (R.st.ext e1)⟩, d.er R.st⟩
end

/-! ### max of a tuple of ints -/
theorem max_intTup {prog : Program} {w : World} {A : Around} {E : Value → Shared → Prop} {s : Shared} {l : Addr} {xs : Array (Int × Tok)} {Q : Value → Shared → Prop} (hh : A.handled = none) (hl : s.heap.IsTuple l (intItems xs)) (hne : 0 < xs.size)
    (h : ∀ v h' tk, (intItems xs)[argBest (fun i j => decide (numAt xs i > numAt xs j)) (xs.size - 1)]? = some v → (∀ b o, s.heap.get? b = some o → h'.get? b = some o) → Q v { s with heap := h', toks := tk }) :
    wpAny (model prog w) A (call (.builtin "max") [.ref l]) Q E s := by
  have hlt : l < s.heap.objs.size := by obtain ⟨_, e, _⟩ := hl; exact Heap.lt_size e
  have hnl : l ≠ s.heap.objs.size := Nat.ne_of_lt hlt
  refine call_max_walk (wpAny_pyIter_tuple hl ?_)
  refine ⟨_, [_, l], [_], _, _, _, _, rfl, Walks.tuple (A := A.in1) hh _ l hnl (intItems xs), ⟨⟨_, Heap.get?_push_size _ rfl, rfl, rfl⟩, hl.push _⟩, fun c hc => ?_, by simpa [intItems] using hne, CmpOf.ints_gt (numAt xs) (fun _ _ => intItems_at), fun v h' tk hP hk => ?_⟩
  · show c < (s.heap.push _).objs.size
    rw [Heap.size_push]
    rcases List.mem_cons.mp hc with rfl | hc
    · exact Nat.lt_succ_self _
    · rcases List.mem_cons.mp hc with rfl | hc
      · exact Nat.lt_succ_of_lt hlt
      · cases hc
  · refine h v h' tk (by simpa [intItems] using hP) fun b o e => hk b o (fun hm => ?_) (Heap.get?_push_of_some _ e)
    rcases List.mem_cons.mp hm with e1 | hm
    · exact absurd (e1 ▸ Heap.lt_size e) (Nat.lt_irrefl _)
    · cases hm
open PyProof.Rows hiding St in
theorem max_rawT {prog : Program} {w : World} {A : Around} {E : Value → Shared → Prop} {s : Shared} {l : Addr} {its : List Value} {ns : List Int} {Q : Value → Shared → Prop} (hh : A.handled = none) (hl : s.heap.IsTuple l its.toArray) (hi : IntsAre its ns) (hne : 0 < ns.length)
    (h : ∀ h' tk M t', (∀ b o, s.heap.get? b = some o → h'.get? b = some o) → M ∈ ns → (∀ a, a ∈ ns → a ≤ M) → Q (.int M t') { s with heap := h', toks := tk }) : wpAny (model prog w) A (call (.builtin "max") [.ref l]) Q E s := by
  obtain ⟨xs, e⟩ := hi.allInts.items
  have hn : numsOf (intItems xs).toList = ns := by rw [← e]; exact hi.numsOf
  rw [nums_intItems] at hn
  subst hn
  rw [e] at hl
  refine max_intTup hh hl (by simpa using hne) fun v h' tk hv hk => ?_
  obtain ⟨t, rfl⟩ := intItems_at hv
  obtain ⟨h1, h2⟩ := argBest_gt (numAt xs) (xs.size - 1)
  have hsz : 0 < xs.size := by simpa using hne
  refine h h' tk _ t hk ?_ fun a ha => ?_
  · rw [numAt_eq]; exact PySem.getD_mem (by rw [List.length_map, Array.length_toList]; omega)
  · obtain ⟨j, hj, rfl⟩ := mem_getD ha
    rw [List.length_map, Array.length_toList] at hj
    rw [← numAt_eq]; exact h2 j (by omega)
theorem cr_maxT {X : Cx} (hc : X.calm = true) : CallR X (.builtin "max") (rMaxT X.K) := by
  intro pins s σ H vs us Q I r h
  obtain ⟨a, ns, rfl, hs, hne, q⟩ := h
  obtain ⟨its, rv, hl, _⟩ := I.tuple hs
  rw [Vals.ref1 r]
  exact max_rawT (I.ok.hd hc) hl rv.ints hne fun h' tk m t' hk h1 h2 => ⟨.int _, H, I.kept hk, ⟨_, rfl⟩, q m h1 h2⟩
end TL

set_option maxHeartbeats 1000000
/-! TLz: list(zip(x, y)) of two tuples: the pairs are kept. -/
namespace TLZ
open PySem PySem.Spec L2
open PyProof.Rows hiding St
section
variable {prog : Program} {w : World} {A : Around} {E : Value → Shared → Prop} {s : Shared}
theorem next_item_held {z TI TO T i1 i2 l1 l2 : Addr} {f : Bool} {oT : Obj} {k1 k2 : Nat} {xs ys : Array Value} {x y : Value} {Q : Value → Shared → Prop} (D : ZipApart z TI TO i1 i2 l1 l2)
    (hz : IsZipHeld s.heap z TI TO T f) (hT : s.heap.get? T = some oT) (hTI : IsPair s.heap TI (.ref i1) (.ref i2))
    (h1 : s.heap.IsTupleIter i1 l1 k1) (h2 : s.heap.IsTupleIter i2 l2 k2) (hl1 : s.heap.IsTuple l1 xs) (hl2 : s.heap.IsTuple l2 ys) (hx : xs[k1]? = some x) (hy : ys[k2]? = some y)
    (hQ : ∀ h', IsZipHeld h' z TI TO T true → h'.IsTupleIter i1 l1 (k1 + 1) → h'.IsTupleIter i2 l2 (k2 + 1) → IsPair h' s.heap.objs.size x y → h'.objs.size = s.heap.objs.size + 1 →
      (∀ c o, c ≠ z → c ≠ i1 → c ≠ i2 → s.heap.get? c = some o → h'.get? c = some o) → Q (.ref s.heap.objs.size) { s with heap := h' }) :
    wpAny (model prog w) A (Builtin.«zip.__next__» ⟨[.ref z], []⟩) (fun fin s' => ∃ v, fin = .done (.ret v) ∧ Q v s') E s := by
  show wpAny _ _ (field (.ref z) 2 >>= _) _ _ _
  refine wpAny_bind (wpAny_field hz rfl (x := .bool false) rfl ?_)
  show wpAny _ _ (field (.ref z) 3 >>= _) _ _ _
  refine wpAny_bind (wpAny_field hz rfl (x := .ref TI) rfl ?_)
  refine wpAny_bind (wpAny_seqItems hTI rfl ?_)
  show wpAny _ _ (Builtin.SmallTypes.ownedTupleIsFree (.ref z) >>= _) _ _ _
  refine wpAny_bind (wpAny_tupleHeld_zip hz hT fun h₁ hz₁ hs₁ => ?_)
  simp only [Bool.false_eq_true, if_false]
  refine wpAny_bind ?_
  rw [← Array.forIn_toList]
  simp only [List.forIn_cons, List.forIn_nil]
  refine wpAny_bind (wpAny_bind (wpAny_holding ?_))
  show wpAny _ _ (Builtin.SmallTypes.nextOf (.ref i1) >>= _) _ _ _
  refine wpAny_bind (RZ.nextOf_tuple_item (s := { s with heap := h₁ }) (h1.extBut hs₁.extBut D.i1z) (hl1.extBut hs₁.extBut D.l1z) hx fun h₂ h1₂ hs₂ => wpAny_pure ?_)
  refine wpAny_pure ?_
  refine wpAny_bind (wpAny_bind (wpAny_holding ?_))
  show wpAny _ _ (Builtin.SmallTypes.nextOf (.ref i2) >>= _) _ _ _
  refine wpAny_bind (RZ.nextOf_tuple_item (s := { s with heap := h₂ }) ((h2.extBut hs₁.extBut D.i2z).extBut hs₂.extBut D.i12.symm) ((hl2.extBut hs₁.extBut D.l2z).extBut hs₂.extBut D.l2i1) hy fun h₃ h2₃ hs₃ => wpAny_pure ?_)
  refine wpAny_pure (wpAny_pure ?_)
  show wpAny _ _ (newTuple [x, y] >>= _) _ _ _
  refine wpAny_bind (wpAny_newTuple ?_)
  have hsz : h₃.objs.size = s.heap.objs.size := by rw [hs₃.1, hs₂.1, hs₁.1]
  have hz₃ : IsZipHeld h₃ z TI TO T true := hs₃.extBut _ _ D.i2z.symm (hs₂.extBut _ _ D.i1z.symm hz₁)
  have hk : ∀ c o, c ≠ z → c ≠ i1 → c ≠ i2 → s.heap.get? c = some o → h₃.get? c = some o := fun c o c1 c2 c3 e => hs₃.extBut _ _ c3 (hs₂.extBut _ _ c2 (hs₁.extBut _ _ c1 e))
  have h1₃ : h₃.IsTupleIter i1 l1 (k1 + 1) := h1₂.extBut hs₃.extBut D.i12
  refine wpAny_pure ⟨_, rfl, ?_⟩
  show Q (.ref h₃.objs.size) _
  have hp : IsPair (h₃.push { cls := .type "tuple", data := .seq #[x, y] }) h₃.objs.size x y := Heap.get?_push_size _ rfl
  have hz4 : (h₃.push { cls := .type "tuple", data := .seq #[x, y] }).objs.size = h₃.objs.size + 1 := Heap.size_push ..
  rw [hsz] at hp hz4 ⊢
  exact hQ _ (Heap.get?_push_of_some _ hz₃) (h1₃.at fun o e => Heap.get?_push_of_some _ e) (h2₃.at fun o e => Heap.get?_push_of_some _ e) hp hz4 fun c o c1 c2 c3 e => Heap.get?_push_of_some _ (hk c o c1 c2 c3 e)
theorem next_end_held {z TI TO T i1 i2 l1 l2 : Addr} {f : Bool} {oT : Obj} {k1 k2 : Nat} {xs ys : Array Value} {Q : Fin → Shared → Prop} (hh : A.handled = none) (D : ZipApart z TI TO i1 i2 l1 l2)
    (hz : IsZipHeld s.heap z TI TO T f) (hT : s.heap.get? T = some oT) (hTI : IsPair s.heap TI (.ref i1) (.ref i2))
    (h1 : s.heap.IsTupleIter i1 l1 k1) (h2 : s.heap.IsTupleIter i2 l2 k2) (hl1 : s.heap.IsTuple l1 xs) (hl2 : s.heap.IsTuple l2 ys) (hend : xs[k1]? = none ∨ ys[k2]? = none)
    (hE : ∀ h' e, (∀ c o, c ≠ z → c ≠ i1 → c ≠ i2 → s.heap.get? c = some o → h'.get? c = some o) → (∃ o, h'.get? e = some o ∧ o.cls = .type "StopIteration") → E (.ref e) { s with heap := h' }) :
    wpAny (model prog w) A (Builtin.«zip.__next__» ⟨[.ref z], []⟩) Q E s := by
  show wpAny _ _ (field (.ref z) 2 >>= _) _ _ _
  refine wpAny_bind (wpAny_field hz rfl (x := .bool false) rfl ?_)
  show wpAny _ _ (field (.ref z) 3 >>= _) _ _ _
  refine wpAny_bind (wpAny_field hz rfl (x := .ref TI) rfl ?_)
  refine wpAny_bind (wpAny_seqItems hTI rfl ?_)
  show wpAny _ _ (Builtin.SmallTypes.ownedTupleIsFree (.ref z) >>= _) _ _ _
  refine wpAny_bind (wpAny_tupleHeld_zip hz hT fun h₁ hz₁ hs₁ => ?_)
  simp only [Bool.false_eq_true, if_false]
  refine wpAny_bind ?_
  rw [← Array.forIn_toList]
  simp only [List.forIn_cons, List.forIn_nil]
  refine wpAny_bind (wpAny_bind (wpAny_holding ?_))
  show wpAny _ _ (Builtin.SmallTypes.nextOf (.ref i1) >>= _) _ _ _
  cases hx : xs[k1]? with
  | none =>
    refine wpAny_bind (RZ.nextOf_tuple_end (s := { s with heap := h₁ }) hh (h1.extBut hs₁.extBut D.i1z) (hl1.extBut hs₁.extBut D.l1z) hx fun h₂ e hs₂ he => ?_)
    exact hE h₂ e (fun c o c1 c2 _ x => hs₂ _ _ c2 (hs₁.extBut _ _ c1 x)) he
  | some x =>
    have hy : ys[k2]? = none := by rcases hend with h | h; rw [hx] at h; cases h; exact h
    refine wpAny_bind (RZ.nextOf_tuple_item (s := { s with heap := h₁ }) (h1.extBut hs₁.extBut D.i1z) (hl1.extBut hs₁.extBut D.l1z) hx fun h₂ h1₂ hs₂ => wpAny_pure ?_)
    refine wpAny_pure ?_
    refine wpAny_bind (wpAny_bind (wpAny_holding ?_))
    show wpAny _ _ (Builtin.SmallTypes.nextOf (.ref i2) >>= _) _ _ _
    refine wpAny_bind (RZ.nextOf_tuple_end (s := { s with heap := h₂ }) hh ((h2.extBut hs₁.extBut D.i2z).extBut hs₂.extBut D.i12.symm) ((hl2.extBut hs₁.extBut D.l2z).extBut hs₂.extBut D.l2i1) hy fun h₃ e hs₃ he => ?_)
    exact hE h₃ e (fun c o c1 c2 c3 x => hs₃ _ _ c3 (hs₂.extBut _ _ c2 (hs₁.extBut _ _ c1 x))) he
theorem pyNext_item_held {z TI TO T i1 i2 l1 l2 : Addr} {f : Bool} {oT : Obj} {k1 k2 : Nat} {xs ys : Array Value} {x y : Value} {Q : Option Value → Shared → Prop} (D : ZipApart z TI TO i1 i2 l1 l2)
    (hz : IsZipHeld s.heap z TI TO T f) (hT : s.heap.get? T = some oT) (hTI : IsPair s.heap TI (.ref i1) (.ref i2))
    (h1 : s.heap.IsTupleIter i1 l1 k1) (h2 : s.heap.IsTupleIter i2 l2 k2) (hl1 : s.heap.IsTuple l1 xs) (hl2 : s.heap.IsTuple l2 ys) (hx : xs[k1]? = some x) (hy : ys[k2]? = some y)
    (hQ : ∀ h', IsZipHeld h' z TI TO T true → h'.IsTupleIter i1 l1 (k1 + 1) → h'.IsTupleIter i2 l2 (k2 + 1) → IsPair h' s.heap.objs.size x y → h'.objs.size = s.heap.objs.size + 1 →
      (∀ c o, c ≠ z → c ≠ i1 → c ≠ i2 → s.heap.get? c = some o → h'.get? c = some o) → Q (some (.ref s.heap.objs.size)) { s with heap := h' }) :
    wpAny (model prog w) A (pyNext (.ref z)) Q E s := by
  have hTy : s.TypeIs (.ref z) "zip" := ⟨_, hz, rfl⟩
  unfold pyNext
  exact wpAny_bind (wpAny_attempt (wpAny_callSpecial?_slot (name := Str.ofString "__next__") hTy F.slot_zip_next
    (wpAny_call_entry F.slot_zip_next hTy F.entry_zip_next
      (next_item_held D hz hT hTI h1 h2 hl1 hl2 hx hy fun h' a1 a3 a4 a5 a6 a7 => wpAny_pure (hQ h' a1 a3 a4 a5 a6 a7)) (F.args_zip_next_1 _))))
theorem pyNext_end_held {z TI TO T i1 i2 l1 l2 : Addr} {f : Bool} {oT : Obj} {k1 k2 : Nat} {xs ys : Array Value} {Q : Option Value → Shared → Prop} (hh : A.handled = none) (D : ZipApart z TI TO i1 i2 l1 l2)
    (hz : IsZipHeld s.heap z TI TO T f) (hT : s.heap.get? T = some oT) (hTI : IsPair s.heap TI (.ref i1) (.ref i2))
    (h1 : s.heap.IsTupleIter i1 l1 k1) (h2 : s.heap.IsTupleIter i2 l2 k2) (hl1 : s.heap.IsTuple l1 xs) (hl2 : s.heap.IsTuple l2 ys) (hend : xs[k1]? = none ∨ ys[k2]? = none)
    (hQ : ∀ h', (∀ c o, c ≠ z → c ≠ i1 → c ≠ i2 → s.heap.get? c = some o → h'.get? c = some o) → Q none { s with heap := h' }) : wpAny (model prog w) A (pyNext (.ref z)) Q E s := by
  have hTy : s.TypeIs (.ref z) "zip" := ⟨_, hz, rfl⟩
  unfold pyNext
  refine wpAny_bind (wpAny_attempt (wpAny_callSpecial?_slot (name := Str.ofString "__next__") hTy F.slot_zip_next
    (wpAny_call_entry F.slot_zip_next hTy F.entry_zip_next (next_end_held hh D hz hT hTI h1 h2 hl1 hl2 hend fun h' e hk he => ?_) (F.args_zip_next_1 _))))
  obtain ⟨o, ho, hc⟩ := he
  refine wpAny_bind (wpAny_isInstance (T := "StopIteration") (b := true) ⟨o, ho, hc⟩ isSubtype_stop ?_)
  exact wpAny_pure (hQ _ hk)

/-! ### its states -/
structure ZSt (h : Heap) (z TI TO i1 i2 l1 l2 S : Addr) (i : Nat) : Prop where
  pair : IsPair h TI (.ref i1) (.ref i2)
  it1 : h.IsTupleIter i1 l1 i
  it2 : h.IsTupleIter i2 l2 i
  out : (IsZip h z TI TO .none ∧ ∃ x y, IsPair h TO x y) ∨ ∃ T f oT, IsZipHeld h z TI TO T f ∧ h.get? T = some oT ∧ T ≠ z ∧ T ≠ i1 ∧ T ≠ i2 ∧ T ≠ S
theorem ZSt.keep {h h' : Heap} {z TI TO i1 i2 l1 l2 S : Addr} {i : Nat} (x : ZSt h z TI TO i1 i2 l1 l2 S i) (hk : ∀ b o, b ≠ S → h.get? b = some o → h'.get? b = some o) (hz : z ≠ S) (h1 : TI ≠ S) (h2 : TO ≠ S) (h3 : i1 ≠ S) (h4 : i2 ≠ S) : ZSt h' z TI TO i1 i2 l1 l2 S i :=
  ⟨hk _ _ h1 x.pair, x.it1.at fun o e => hk _ _ h3 e, x.it2.at fun o e => hk _ _ h4 e, x.out.elim (fun ⟨a, p, q, b⟩ => .inl ⟨hk _ _ hz a, p, q, hk _ _ h2 b⟩) fun ⟨T, f, oT, a, b, c1, c2, c3, c4⟩ => .inr ⟨T, f, oT, hk _ _ hz a, hk _ _ c4 b, c1, c2, c3, c4⟩⟩
theorem zst_item {z TI TO i1 i2 l1 l2 S : Addr} {i : Nat} {xs ys : Array Value} {x y : Value} {Q : Option Value → Shared → Prop} (D : ZipApart z TI TO i1 i2 l1 l2) (st : ZSt s.heap z TI TO i1 i2 l1 l2 S i) (hS : S < s.heap.objs.size)
    (hl1 : s.heap.IsTuple l1 xs) (hl2 : s.heap.IsTuple l2 ys) (hx : xs[i]? = some x) (hy : ys[i]? = some y)
    (hQ : ∀ h', ZSt h' z TI TO i1 i2 l1 l2 S (i + 1) → IsPair h' s.heap.objs.size x y → h'.objs.size = s.heap.objs.size + 1 →
      (∀ c o, c ≠ z → c ≠ TO → c ≠ i1 → c ≠ i2 → s.heap.get? c = some o → h'.get? c = some o) → Q (some (.ref s.heap.objs.size)) { s with heap := h' }) :
    wpAny (model prog w) A (pyNext (.ref z)) Q E s := by
  obtain ⟨hp, h1, h2, ho⟩ := st
  have hi1 : i1 < s.heap.objs.size := let ⟨_, e, _⟩ := h1; Heap.lt_size e
  have hi2 : i2 < s.heap.objs.size := let ⟨_, e, _⟩ := h2; Heap.lt_size e
  rcases ho with ⟨hz, p, q, hTO⟩ | ⟨T, f, oT, hz, hT, n1, n2, n3, n4⟩
  · have hzl : z < s.heap.objs.size := Heap.lt_size hz
    refine RZ.pyNext_zipT_item D hz hp hTO h1 h2 hl1 hl2 hx hy fun h' a1 a2 a3 a4 a5 a6 a7 => hQ h' ⟨a7 _ _ D.TIz D.TITO D.TIi1 D.TIi2 hp, a3, a4, .inr ⟨_, false, _, a1, a5, Nat.ne_of_gt hzl, Nat.ne_of_gt hi1, Nat.ne_of_gt hi2, Nat.ne_of_gt hS⟩⟩ a5 a6 a7
  · refine pyNext_item_held D hz hT hp h1 h2 hl1 hl2 hx hy fun h' a1 a3 a4 a5 a6 a7 => hQ h' ⟨a7 _ _ D.TIz D.TIi1 D.TIi2 hp, a3, a4, .inr ⟨T, true, oT, a1, a7 _ _ n1 n2 n3 hT, n1, n2, n3, n4⟩⟩ a5 a6 fun c o c1 _ c3 c4 e => a7 c o c1 c3 c4 e
theorem zst_done {z TI TO i1 i2 l1 l2 S : Addr} {i : Nat} {xs ys : Array Value} {Q : Option Value → Shared → Prop} (hh : A.handled = none) (D : ZipApart z TI TO i1 i2 l1 l2) (st : ZSt s.heap z TI TO i1 i2 l1 l2 S i)
    (hl1 : s.heap.IsTuple l1 xs) (hl2 : s.heap.IsTuple l2 ys) (hend : xs[i]? = none ∨ ys[i]? = none)
    (hQ : ∀ h', (∀ c o, c ≠ z → c ≠ TO → c ≠ i1 → c ≠ i2 → s.heap.get? c = some o → h'.get? c = some o) → Q none { s with heap := h' }) : wpAny (model prog w) A (pyNext (.ref z)) Q E s := by
  obtain ⟨hp, h1, h2, ho⟩ := st
  rcases ho with ⟨hz, p, q, hTO⟩ | ⟨T, f, oT, hz, hT, n1, n2, n3, n4⟩
  · exact RZ.pyNext_zipT_end hh D hz hp hTO h1 h2 hl1 hl2 hend hQ
  · exact pyNext_end_held hh D hz hT hp h1 h2 hl1 hl2 hend fun h' k => hQ h' fun c o c1 _ c3 c4 e => k c o c1 c3 c4 e
end
/-- the pairs so far -/
structure ZG (xs ys : Array Value) (lo : Addr) (h : Heap) (as : List Addr) : Prop where
  rise : as.Pairwise (· < ·)
  above : ∀ a ∈ as, lo < a
  pairs : ∀ (j : Nat) (a : Addr), as[j]? = some a → ∃ x y, xs[j]? = some x ∧ ys[j]? = some y ∧ IsPair h a x y
theorem ZG.there {xs ys : Array Value} {lo : Addr} {h : Heap} {as : List Addr} (g : ZG xs ys lo h as) {a : Addr} (ha : a ∈ as) : a < h.objs.size := by
  obtain ⟨j, hj⟩ := List.mem_iff_getElem?.mp ha
  obtain ⟨_, _, _, _, e⟩ := g.pairs j a hj
  exact Heap.lt_size e

structure ZLow (z TI TO i1 i2 l1 l2 S : Addr) : Prop where
  pz : z < S
  pTI : TI < S
  pTO : TO < S
  p1 : i1 < S
  p2 : i2 < S
  q1 : l1 < S
  q2 : l2 < S
  n1 : l1 ≠ TO
  n2 : l2 ≠ TO
  n3 : l1 ≠ i1
  n4 : l2 ≠ i2
  n5 : l1 ≠ i2
  n6 : l2 ≠ i1
  n7 : l1 ≠ z
  n8 : l2 ≠ z
section
variable {prog : Program} {w : World} {A : Around} {s : Shared} {R : Result → Shared → Prop} {z TI TO i1 i2 l1 l2 S : Addr} {xs ys : Array Value} {n : Nat}
theorem zip_loop (hh : A.handled = none) (D : ZipApart z TI TO i1 i2 l1 l2) (Lw : ZLow z TI TO i1 i2 l1 l2 S) (hn : n ≤ sizeLine) (nx : n ≤ xs.size) (ny : n ≤ ys.size) (nm : n = xs.size ∨ n = ys.size) (res : Value) {h₁ : Heap}
    (hR : ∀ h' tk acc c as, (∀ b o, b ≠ S → b ≠ z → b ≠ TO → b ≠ i1 → b ≠ i2 → h₁.get? b = some o → h'.get? b = some o) → h'.get? S = some { cls := .type "list", dict := none, data := .seq acc c, slots := #[] } → as.length = n → ZG xs ys S h' as →
      acc.toList = as.map Value.ref → R (.ok (.ret res)) { s with heap := h', toks := tk }) :
    ∀ (k i : Nat) (h : Heap) (tk c : Nat) (acc : Array Value) (as : List Addr), n - i = k → i ≤ n → ZSt h z TI TO i1 i2 l1 l2 S i → h.IsTuple l1 xs → h.IsTuple l2 ys → (∀ b o, b ≠ S → b ≠ z → b ≠ TO → b ≠ i1 → b ≠ i2 → h₁.get? b = some o → h.get? b = some o) →
      h.get? S = some { cls := .type "list", dict := none, data := .seq acc c, slots := #[] } → acc.toList = as.map Value.ref → as.length = i → ZG xs ys S h as →
      codeAny (model prog w) A (.builtin "list.extend.loop" ⟨[.ref S, .ref z, res], []⟩) R { s with heap := h, toks := tk } := by
  have Sz : S ≠ z := Nat.ne_of_gt Lw.pz
  have ST : S ≠ TO := Nat.ne_of_gt Lw.pTO
  have S1 : S ≠ i1 := Nat.ne_of_gt Lw.p1
  have S2 : S ≠ i2 := Nat.ne_of_gt Lw.p2
  have hi : ∀ a, S < a → a ≠ z ∧ a ≠ TO ∧ a ≠ i1 ∧ a ≠ i2 := fun a ha => ⟨Nat.ne_of_gt (Nat.lt_trans Lw.pz ha), Nat.ne_of_gt (Nat.lt_trans Lw.pTO ha), Nat.ne_of_gt (Nat.lt_trans Lw.p1 ha), Nat.ne_of_gt (Nat.lt_trans Lw.p2 ha)⟩
  intro k
  induction k with
  | zero =>
    intro i h tk c acc as hk hin st ht1 ht2 hkeep hS hacc hal hG
    have hin : i = n := by omega
    refine codeAny_builtin PySem.F.entry_extend_loop ?_
    rw [Around.under_plainId PySem.F.plain_extend_loop _]
    show wpAny _ A.in1 (pyNext (.ref z) >>= _) _ _ _
    refine wpAny_bind (zst_done (s := { s with heap := h, toks := tk }) (A := A.in1) hh D st ht1 ht2 (nm.elim (fun e => .inl (Array.getElem?_eq_none (by omega))) fun e => .inr (Array.getElem?_eq_none (by omega))) fun h' he => ?_)
    refine wpAny_pure (hR h' tk acc c as (fun b o h1 h2 h3 h4 h5 e => he b o h2 h3 h4 h5 (hkeep b o h1 h2 h3 h4 h5 e)) (he S _ Sz ST S1 S2 hS) (by omega) ⟨hG.rise, hG.above, fun j a hj => ?_⟩ hacc)
    obtain ⟨x, y, e1, e2, e3⟩ := hG.pairs j a hj
    obtain ⟨a1, a2, a3, a4⟩ := hi a (hG.above a (List.mem_of_getElem? hj))
    exact ⟨x, y, e1, e2, he a _ a1 a2 a3 a4 e3⟩
  | succ k ih =>
    intro i h tk c acc as hk hin st ht1 ht2 hkeep hS hacc hal hG
    have hlt : i < n := by omega
    obtain ⟨x, hx⟩ : ∃ p, xs[i]? = some p := ⟨xs[i], Array.getElem?_eq_getElem (by omega)⟩
    obtain ⟨y, hy⟩ : ∃ p, ys[i]? = some p := ⟨ys[i], Array.getElem?_eq_getElem (by omega)⟩
    have hsz : acc.size = i := by rw [← Array.length_toList, hacc, List.length_map, hal]
    refine codeAny_builtin PySem.F.entry_extend_loop ?_
    rw [Around.under_plainId PySem.F.plain_extend_loop _]
    show wpAny _ A.in1 (pyNext (.ref z) >>= _) _ _ _
    refine wpAny_bind (zst_item (s := { s with heap := h, toks := tk }) D st (Heap.lt_size hS) ht1 ht2 hx hy fun h' st' ht hz hkp => ?_)
    dsimp only at ht hz hkp ⊢
    have hS' := hkp S _ Sz ST S1 S2 hS
    have up : ∀ b o, b ≠ S → h'.get? b = some o → (h'.update S (Obj.mapSeq (·.push (Value.ref h.objs.size)))).get? b = some o := fun b o hb e => (Heap.get?_update_other _ _ (Ne.symm hb)).trans e
    have hSl : S < h.objs.size := Heap.lt_size hS
    have tup : ∀ l zs, l < S → l ≠ z → l ≠ TO → l ≠ i1 → l ≠ i2 → h.IsTuple l zs → (h'.update S (Obj.mapSeq (·.push (Value.ref h.objs.size)))).IsTuple l zs := fun l zs a0 a1 a2 a3 a4 ⟨o, e, r⟩ => ⟨o, up _ _ (Nat.ne_of_lt a0) (hkp _ _ a1 a2 a3 a4 e), r⟩
    show wpAny _ A.in1 (updateSeq S (·.push (Value.ref h.objs.size)) >>= _) _ _ _
    refine wpAny_bind ?_
    refine wpAny_updateSeq hS' rfl (wpAny_pure ⟨plainId_quiet PySem.F.plain_extend_loop _, ih (i + 1) _ tk _ (acc.push (Value.ref h.objs.size)) (as ++ [h.objs.size]) (by omega) hlt
      (st'.keep up (Ne.symm Sz) (Nat.ne_of_lt Lw.pTI) (Ne.symm ST) (Ne.symm S1) (Ne.symm S2)) (tup l1 xs Lw.q1 Lw.n7 Lw.n1 Lw.n3 Lw.n5 ht1) (tup l2 ys Lw.q2 Lw.n8 Lw.n2 Lw.n6 Lw.n4 ht2)
      (fun b o h1 h2 h3 h4 h5 e => up b o h1 (hkp b o h2 h3 h4 h5 (hkeep b o h1 h2 h3 h4 h5 e))) (Heap.get?_update_self _ hS' rfl) (by rw [Array.toList_push, hacc, List.map_append]; rfl) (by rw [List.length_append, hal]; rfl) ⟨?_, ?_, ?_⟩⟩) (by rw [hsz]; omega) (by show (acc.push (Value.ref h.objs.size)).size ≤ sizeLine + 1; rw [Array.size_push, hsz]; omega)
    · refine List.pairwise_append.mpr ⟨hG.rise, List.pairwise_singleton _ _, fun a ha b hb => ?_⟩
      rw [List.mem_singleton.mp hb]
      exact hG.there ha
    · intro a ha
      rcases List.mem_append.mp ha with ha | ha
      · exact hG.above a ha
      · rw [List.mem_singleton.mp ha]; exact hSl
    · intro j b hj
      rcases Nat.lt_trichotomy j as.length with h1 | h1 | h1
      · rw [List.getElem?_append_left h1] at hj
        obtain ⟨x', y', e1, e2, e3⟩ := hG.pairs j b hj
        have hb := hG.above b (List.mem_of_getElem? hj)
        obtain ⟨a1, a2, a3, a4⟩ := hi b hb
        exact ⟨x', y', e1, e2, up b _ (Nat.ne_of_gt hb) (hkp b _ a1 a2 a3 a4 e3)⟩
      · subst h1
        have hb : h.objs.size = b := by simpa using hj
        subst hb
        exact ⟨x, y, by rw [hal]; exact hx, by rw [hal]; exact hy, up _ _ (Nat.ne_of_gt hSl) ht⟩
      · have hnone : (as ++ [h.objs.size])[j]? = none := List.getElem?_eq_none (by rw [List.length_append, List.length_singleton]; omega)
        rw [hnone] at hj; cases hj
end
theorem zip_no_len : typeLookup (.type "zip") "__len__" = pure none := am_miss_of_fast (by decide +kernel)
theorem zip_no_hint : typeLookup (.type "zip") "__length_hint__" = pure none := am_miss_of_fast (by decide +kernel)
section
variable {prog : Program} {w : World} {A : Around} {E : Value → Shared → Prop} {s : Shared} {z TI TO i1 i2 l1 l2 : Addr} {xs ys : Array Value} {n : Nat}
theorem hint_zip {r : Addr} (hT : s.TypeIs (.ref r) "zip") {Q : Bool → Shared → Prop} (h : Q true s) : wpAny (model prog w) A (Builtin.List.listLengthHint (.ref r)) Q E s := by
  unfold Builtin.List.listLengthHint
  refine wpAny_bind (wpAny_specialOf hT zip_no_len ?_)
  refine wpAny_bind (wpAny_specialOf hT zip_no_hint ?_)
  exact wpAny_pure h
theorem zip_extend {S : Addr} {R : Result → Shared → Prop} (hh : A.handled = none) (D : ZipApart z TI TO i1 i2 l1 l2) (Lw : ZLow z TI TO i1 i2 l1 l2 S) (hn : n ≤ sizeLine) (nx : n ≤ xs.size) (ny : n ≤ ys.size) (nm : n = xs.size ∨ n = ys.size) (res : Value) (c₀ : Nat)
    (hz : IsZip s.heap z TI TO .none) (hTI : IsPair s.heap TI (.ref i1) (.ref i2)) (hTO : ∃ x y, IsPair s.heap TO x y) (h1 : s.heap.IsTupleIter i1 l1 0) (h2 : s.heap.IsTupleIter i2 l2 0) (hl1 : s.heap.IsTuple l1 xs) (hl2 : s.heap.IsTuple l2 ys)
    (hS : s.heap.get? S = some { cls := .type "list", data := .seq #[] c₀ })
    (hR : ∀ h' tk acc c as, (∀ b o, b ≠ S → b ≠ z → b ≠ TO → b ≠ i1 → b ≠ i2 → s.heap.get? b = some o → h'.get? b = some o) → h'.get? S = some { cls := .type "list", dict := none, data := .seq acc c, slots := #[] } → as.length = n → ZG xs ys S h' as →
      acc.toList = as.map Value.ref → R (.ok (.ret res)) { s with heap := h', toks := tk }) :
    wpAny (model prog w) A.in1 (Builtin.List.listExtendWith (.ref S) (.ref z) res)
      (fun fin s' => match fin with | .done f => R (.ok f) s' | .again c' => c'.quiet = true ∧ codeAny (model prog w) A c' R s') (fun e s' => R (.error e) s') s := by
  have Sz : z ≠ S := Nat.ne_of_lt Lw.pz
  have hT : s.TypeIs (.ref z) "zip" := ⟨_, hz, rfl⟩
  have key : ∀ (h : Heap) (c₁ tk : Nat), (∀ b o, b ≠ S → s.heap.get? b = some o → h.get? b = some o) →
      h.get? S = some { cls := .type "list", data := .seq #[] c₁ } → codeAny (model prog w) A (.builtin "list.extend.loop" ⟨[.ref S, .ref z, res], []⟩) R { s with heap := h, toks := tk } := by
    intro h c₁ tk hk hS₁
    have tup : ∀ l zs, l < S → s.heap.IsTuple l zs → h.IsTuple l zs := fun l zs a0 ⟨o, e, r⟩ => ⟨o, hk _ _ (Nat.ne_of_lt a0) e, r⟩
    obtain ⟨x, y, hTO⟩ := hTO
    refine zip_loop (s := s) (h₁ := s.heap) hh D Lw hn nx ny nm res hR n 0 h tk c₁ #[] [] (Nat.sub_zero _) (Nat.zero_le _)
      ⟨hk _ _ (Nat.ne_of_lt Lw.pTI) hTI, h1.at fun o e => hk _ _ (Nat.ne_of_lt Lw.p1) e, h2.at fun o e => hk _ _ (Nat.ne_of_lt Lw.p2) e, .inl ⟨hk _ _ Sz hz, x, y, hk _ _ (Nat.ne_of_lt Lw.pTO) hTO⟩⟩
      (tup l1 xs Lw.q1 hl1) (tup l2 ys Lw.q2 hl2) (fun b o hb _ _ _ _ e => hk b o hb e) hS₁ rfl rfl ⟨List.Pairwise.nil, (fun _ ha => nomatch ha), (fun j a hj => by simp at hj)⟩
  unfold Builtin.List.listExtendWith
  refine wpAny_bind (wpAny_typeOf (T := "zip") hT ?_)
  have h1 : Builtin.List.listSameRef (.ref S) (.ref z) = false := by simp [Builtin.List.listSameRef, Ne.symm Sz]
  have h2 : (Value.type "zip" == Value.type "list") = false := by decide
  have h3 : (Value.type "zip" == Value.type "tuple") = false := by decide
  simp only [h1, h2, h3, Bool.or_false, Bool.false_eq_true, if_false]
  refine wpAny_bind (wpAny_pyIter_zip hz ?_)
  refine wpAny_bind (wpAny_holding (hint_zip hT ?_))
  refine wpAny_ite_split (fun _ => ?_) (fun hab => absurd rfl hab)
  refine wpAny_bind (wpAny_rule ?_)
  refine wpAny_bind ?_
  show wpAny _ _ (updateSeq S (·.push .none) >>= fun _ => updateSeq S (·.pop)) _ _ _
  refine wpAny_bind (wpAny_updateSeq hS rfl ?_)
  have hS₂ := Heap.get?_update_self (Obj.mapSeq (·.push Value.none)) hS rfl
  refine wpAny_updateSeq (hz := by seq_fits) hS₂ rfl ?_
  have hS₃ := Heap.get?_update_self (Obj.mapSeq (·.pop)) hS₂ rfl
  refine wpAny_pure ⟨plainId_quiet PySem.F.plain_extend_loop _, key _ _ _ (fun b o hb e => ?_) hS₃⟩
  exact (Heap.get?_update_other _ _ (Ne.symm hb)).trans ((Heap.get?_update_other _ _ (Ne.symm hb)).trans e)
theorem zip_init {S : Addr} {R : Result → Shared → Prop} (hh : A.handled = none) (D : ZipApart z TI TO i1 i2 l1 l2) (Lw : ZLow z TI TO i1 i2 l1 l2 S) (hn : n ≤ sizeLine) (nx : n ≤ xs.size) (ny : n ≤ ys.size) (nm : n = xs.size ∨ n = ys.size)
    (hz : IsZip s.heap z TI TO .none) (hTI : IsPair s.heap TI (.ref i1) (.ref i2)) (hTO : ∃ x y, IsPair s.heap TO x y) (h1 : s.heap.IsTupleIter i1 l1 0) (h2 : s.heap.IsTupleIter i2 l2 0) (hl1 : s.heap.IsTuple l1 xs) (hl2 : s.heap.IsTuple l2 ys)
    (hS : s.heap.get? S = some { cls := .type "list", data := .seq #[] })
    (hR : ∀ h' tk acc c as, (∀ b o, b ≠ S → b ≠ z → b ≠ TO → b ≠ i1 → b ≠ i2 → s.heap.get? b = some o → h'.get? b = some o) → h'.get? S = some { cls := .type "list", dict := none, data := .seq acc c, slots := #[] } → as.length = n → ZG xs ys S h' as →
      acc.toList = as.map Value.ref → R (.ok (.ret .none)) { s with heap := h', toks := tk }) :
    wpAny (model prog w) A.in1 (Builtin.«list.__init__» ⟨[.ref S, .ref z], []⟩)
      (fun fin s' => match fin with | .done f => R (.ok f) s' | .again c' => c'.quiet = true ∧ codeAny (model prog w) A c' R s') (fun e s' => R (.error e) s') s := by
  show wpAny _ _ (do let old ← Builtin.List.listItems (.ref S); Builtin.List.listUpdate (.ref S) (fun _ => #[]); letGo old.toList.reverse; Builtin.List.listExtendWith (.ref S) (.ref z) .none) _ _ s
  refine wpAny_bind ?_
  unfold Builtin.List.listItems
  refine wpAny_bind (wpAny_seqItems hS rfl (wpAny_pure ?_))
  show wpAny _ _ (updateSeq S (fun _ => #[]) >>= fun _ => letGo (#[] : Array Value).toList.reverse >>= fun _ => Builtin.List.listExtendWith (.ref S) (.ref z) .none) _ _ s
  refine wpAny_bind (wpAny_updateSeq hS rfl ?_)
  have hS₂ := Heap.get?_update_self (Obj.mapSeq (fun _ => (#[] : Array Value))) hS rfl
  have oth : ∀ b o, b ≠ S → s.heap.get? b = some o → (s.heap.update S (Obj.mapSeq (fun _ => (#[] : Array Value)))).get? b = some o :=
    fun b o hb e => (Heap.get?_update_other _ _ (Ne.symm hb)).trans e
  have tup : ∀ l zs, l < S → s.heap.IsTuple l zs → (s.heap.update S (Obj.mapSeq (fun _ => (#[] : Array Value)))).IsTuple l zs := fun l zs a0 ⟨o, e, r⟩ => ⟨o, oth _ _ (Nat.ne_of_lt a0) e, r⟩
  refine wpAny_bind (wpAny_letGo ?_)
  obtain ⟨x, y, hTO⟩ := hTO
  refine zip_extend hh D Lw hn nx ny nm .none _ (oth _ _ (Nat.ne_of_lt Lw.pz) hz) (oth _ _ (Nat.ne_of_lt Lw.pTI) hTI) ⟨x, y, oth _ _ (Nat.ne_of_lt Lw.pTO) hTO⟩ (h1.at fun o e => oth _ _ (Nat.ne_of_lt Lw.p1) e) (h2.at fun o e => oth _ _ (Nat.ne_of_lt Lw.p2) e) (tup l1 xs Lw.q1 hl1) (tup l2 ys Lw.q2 hl2) hS₂ (fun h' tk acc c as hk hS' hl hG hacc => ?_)
  exact hR h' tk acc c as (fun b o b1 b2 b3 b4 b5 e => hk b o b1 b2 b3 b4 b5 (oth b o b1 e)) hS' hl hG hacc
theorem zip_call {Q : Value → Shared → Prop} (hh : A.handled = none) (D : ZipApart z TI TO i1 i2 l1 l2) (Lw : ZLow z TI TO i1 i2 l1 l2 s.heap.objs.size) (hn : n ≤ sizeLine) (nx : n ≤ xs.size) (ny : n ≤ ys.size) (nm : n = xs.size ∨ n = ys.size)
    (hz : IsZip s.heap z TI TO .none) (hTI : IsPair s.heap TI (.ref i1) (.ref i2)) (hTO : ∃ x y, IsPair s.heap TO x y) (h1 : s.heap.IsTupleIter i1 l1 0) (h2 : s.heap.IsTupleIter i2 l2 0) (hl1 : s.heap.IsTuple l1 xs) (hl2 : s.heap.IsTuple l2 ys)
    (hQ : ∀ h' tk acc c as, (∀ b o, b ≠ z → b ≠ TO → b ≠ i1 → b ≠ i2 → s.heap.get? b = some o → h'.get? b = some o) → h'.get? s.heap.objs.size = some { cls := .type "list", dict := none, data := .seq acc c, slots := #[] } → as.length = n → ZG xs ys s.heap.objs.size h' as →
      acc.toList = as.map Value.ref → Q (.ref s.heap.objs.size) { s with heap := h', toks := tk }) :
    wpAny (model prog w) A (call (.type "list") [.ref z]) Q E s := by
  refine callType_codes (Q₁ := fun obj s₁ => obj = .ref s.heap.objs.size ∧ s₁ = { s with heap := s.heap.push { cls := .type "list", data := .seq #[] } }) PySem.F.called_list (PySem.F.typeCall_list_1 _) PySem.F.entry_list_init
    (code_list_new _ ⟨rfl, rfl⟩) fun obj s₁ h₁ => ?_
  obtain ⟨rfl, rfl⟩ := h₁
  have hS : (s.heap.push { cls := .type "list", data := .seq #[] }).get? s.heap.objs.size = some { cls := .type "list", data := .seq #[] } := Heap.get?_push_size _ rfl
  have pu : ∀ b o, s.heap.get? b = some o → (s.heap.push { cls := .type "list", data := .seq #[] }).get? b = some o := fun b o e => Heap.get?_push_of_some _ e
  obtain ⟨x, y, hTO⟩ := hTO
  refine ⟨⟨_, hS, rfl⟩, PySem.F.args_list_init_2 _ _, zip_init (A := A.in1) hh D Lw hn nx ny nm (pu _ _ hz) (pu _ _ hTI) ⟨x, y, pu _ _ hTO⟩ (h1.at fun o e => pu _ _ e) (h2.at fun o e => pu _ _ e) (hl1.push _) (hl2.push _) hS (fun h' tk acc c as hk hS' hl hG hacc => ?_)⟩
  exact ⟨rfl, hQ h' tk acc c as (fun b o b2 b3 b4 b5 e => hk b o (Nat.ne_of_lt (Heap.lt_size e)) b2 b3 b4 b5 (pu b o e)) hS' hl hG hacc⟩
end
end TLZ
namespace TLZ
open PySem PySem.Spec L2
open PyProof.Rows hiding St
def putZ : Hp → List Addr → List (V × V) → Hp
  | H, a :: as, p :: kvs => putZ (upd H a (.tup [p.1, p.2])) as kvs
  | H, _, _ => H
theorem putZ_off {b : Addr} : ∀ (as : List Addr) (kvs : List (V × V)) (H : Hp), b ∉ as → putZ H as kvs b = H b
  | [], _, _, _ => rfl
  | _ :: _, [], _, _ => rfl
  | a :: as, p :: kvs, H, h => by
    show putZ (upd H a (.tup [p.1, p.2])) as kvs b = H b
    rw [putZ_off as kvs _ (fun z => h (List.mem_cons_of_mem _ z)), upd_ne (fun z => h (by rw [z]; exact List.mem_cons_self))]
theorem putZ_at : ∀ (as : List Addr) (kvs : List (V × V)) (H : Hp), as.length = kvs.length → as.Nodup → Paired (fun (t : Addr) (p : V × V) => putZ H as kvs t = some (.tup [p.1, p.2])) as kvs
  | [], [], _, _, _ => .nil
  | [], _ :: _, _, h, _ => by cases h
  | _ :: _, [], _, h, _ => by cases h
  | a :: as, p :: kvs, H, h, hn => by
    have hn' := List.nodup_cons.mp hn
    have ih := putZ_at as kvs (upd H a (.tup [p.1, p.2])) (Nat.succ.inj h) hn'.2
    refine .cons ?_ ih
    show putZ (upd H a (.tup [p.1, p.2])) as kvs a = some (.tup [p.1, p.2])
    rw [putZ_off as kvs _ hn'.1, upd_same]
theorem zip_laid {X : Cx} {pins : List (Addr × Obj)} {σ : L2.St} {H : Hp} {s : Shared} {h' : Heap} {tk : Nat} {us vs : List V} {xs ys : List Value} {acc : Array Value} {c n : Nat} {S : Addr} {as : List Addr} (I : Inv X pins σ H s) (hz : n ≤ sizeLine) (rx : Vals us xs) (ry : Vals vs ys) (hn : (us.zip vs).length = n) (hSs : s.heap.objs.size ≤ S)
    (hk : ∀ b o, s.heap.get? b = some o → h'.get? b = some o) (hS : h'.get? S = some { cls := .type "list", dict := none, data := .seq acc c, slots := #[] }) (hl : as.length = n) (hG : ZG xs.toArray ys.toArray S h' as) (hacc : acc.toList = as.map Value.ref) :
    ∃ H' : Hp, (∀ b o, H b = some o → H' b = some o) ∧ H S = none ∧ (∀ t ∈ as, H t = none) ∧ S ∉ as ∧ H' S = some (.lst (as.map V.ref)) ∧ Paired (fun (t : Addr) (q : V × V) => H' t = some (.tup [q.1, q.2])) as (us.zip vs) ∧ Inv X pins σ H' { s with heap := h', toks := tk } := by
  have hSn : S ∉ as := fun z => Nat.lt_irrefl _ (hG.above _ z)
  have nd : as.Nodup := List.Pairwise.imp (fun {a b} (h : a < b) => Nat.ne_of_lt h) hG.rise
  have new : ∀ t ∈ as, H t = none := fun t ht => I.hok.fresh (Nat.le_trans hSs (Nat.le_of_lt (hG.above t ht)))
  have newS : H S = none := I.hok.fresh hSs
  have atP := putZ_at as (us.zip vs) (upd H S (.lst (as.map V.ref))) (by omega) nd
  have off : ∀ b, b ∉ as → b ≠ S → putZ (upd H S (.lst (as.map V.ref))) as (us.zip vs) b = H b := fun b h1 h2 => by rw [putZ_off as _ _ h1, upd_ne h2]
  have low : ∀ b o, s.heap.get? b = some o → b ∉ as ∧ b ≠ S := fun b o e => ⟨fun z => absurd (Heap.lt_size e) (Nat.not_lt.mpr (Nat.le_trans hSs (Nat.le_of_lt (hG.above b z)))), Nat.ne_of_lt (Nat.lt_of_lt_of_le (Heap.lt_size e) hSs)⟩
  have kp : ∀ b u, H b = some u → (putZ (upd H S (.lst (as.map V.ref))) as (us.zip vs)) b = some u := fun b u e => by
    rw [off b (fun z => by rw [new b z] at e; cases e) (fun z => by rw [z, newS] at e; cases e)]
    exact e
  have eS : putZ (upd H S (.lst (as.map V.ref))) as (us.zip vs) S = some (.lst (as.map V.ref)) := by rw [putZ_off as _ _ hSn, upd_same]
  refine ⟨putZ (upd H S (.lst (as.map V.ref))) as (us.zip vs), kp, newS, new, hSn, eS, atP, ?_⟩
  refine I.call' (ch := []) rfl ⟨fun b o q _ _ _ => hk b o q, fun b o q _ _ _ => ⟨o.slots, hk b o q⟩, fun b o q n _ => ?_, fun b o q _ => ⟨o, hk b o q⟩, fun b xs q => kp b _ q, fun b o u q => kp b _ q, fun b ps q => ⟨#[], by rw [kp b _ q]; simp⟩⟩ (fun b u q => ?_) I.bare fun b z => by simp at z
  · obtain ⟨z1, z2⟩ := low b o q
    rw [off b z1 z2]
    exact n
  · by_cases hb : b ∈ as
    · obtain ⟨j, pk, e1, e2, e3⟩ := LiI.paired_ix atP hb
      rw [e3] at q
      cases q
      obtain ⟨x, y, f1, f2, f3⟩ := hG.pairs j b e1
      obtain ⟨g1, g2⟩ := List.getElem?_zip_eq_some.mp e2
      obtain ⟨u1, k1, k2⟩ := rx.get g1
      obtain ⟨u2, m1, m2⟩ := ry.get g2
      have q1 : x = u1 := Option.some.inj (f1.symm.trans (by simpa using k1))
      have q2 : y = u2 := Option.some.inj (f2.symm.trans (by simpa using m1))
      subst q1 q2
      exact ⟨by show 2 ≤ sizeLine; decide, [x, y], .cons k2 (.cons m2 .nil), ⟨_, f3, rfl, _, rfl⟩⟩
    · by_cases hb2 : b = S
      · rw [hb2] at q ⊢
        rw [eS] at q
        cases q
        refine ⟨by rw [List.length_map]; omega, acc.toList, c, by rw [hacc]; exact LiI.vals_refs as, ?_⟩
        rw [Array.toArray_toList]
        exact hS
      · rw [off b hb hb2] at q
        exact (I.hok b u q).stay (fun d v _ y => hk d v y) (fun d y => kp d _ y) fun d xs y => kp d _ y
def rZipL (K : PySem.W.Frag) : List V → Hp → VK → Prop := fun ws H Q => ∃ (a b : Addr) (us vs : List V), ws = [.ref a, .ref b] ∧ SqT K H a us ∧ SqT K H b vs ∧
  ∀ (H' : Hp) (p : Addr) (ts : List Addr), (∀ b o, H b = some o → H' b = some o) → H p = none → (∀ t ∈ ts, H t = none) → p ∉ ts → H' p = some (.lst (ts.map V.ref)) → Paired (fun (t : Addr) (q : V × V) => H' t = some (.tup [q.1, q.2])) ts (us.zip vs) → Q (.ref p) H'
theorem pe_listZip {X : Cx} {e e2 : Expr} {ta : TA} {p p2 pos2 pos : Pos} (hc : X.calm = true) (hg : Gl X "list") (hm : X.mg "list" = none) (hg2 : Gl X "zip") (hm2 : X.mg "zip" = none) (ha : PA X [e, e2] ta)
    (hs : starEach [e, e2] X.env = (false, eval e X.env) :: starEach [e2] X.env) (hpl : (backTo pos2 (starEach [e2] X.env)).any (·.1) = false)
    (hs0 : starEach [.Call (.Name "zip" p2) [e, e2] [] pos2] X.env = (false, eval (.Call (.Name "zip" p2) [e, e2] [] pos2) X.env) :: starEach [] X.env := by rfl) :
    PE X (.Call (.Name "list" p) [.Call (.Name "zip" p2) [e, e2] [] pos2] [] pos) (fun σ H Q => ta σ H fun ws H1 => rZipL X.K ws H1 Q) := by
  refine ⟨fun pins s σ H Q I hq => ?_⟩
  refine wpAny_Call_Name_kw (ld_blt I hg hm rfl ?_)
  refine PyProof.Rows.callWith_type1 ?_ hs0 rfl
  rw [hs0]
  show wpAny _ _ (spliced ((false, eval (.Call (.Name "zip" p2) [e, e2] [] pos2) X.env) :: backTo pos (starEach [] X.env))) _ _ s
  refine Calls.spliced_cons ?_
  refine Call_ (ld_blt I hg2 hm2 PyProof.Rows.boot_zip (PyProof.Rows.callWith_type1 (thn (ha.run pos2 pins s σ H _ I hq) fun us s1 ⟨ws, H1, I1, r1, q1⟩ => ?_) hs hpl))
  obtain ⟨a, b, xs, ys, ex, hqx, hqy, q⟩ := q1
  subst ex
  cases r1 with
  | cons r rr =>
    cases rr with
    | cons r' rr =>
      cases rr
      cases r
      cases r'
      obtain ⟨its, rv, p1, hzx⟩ := I1.tuple hqx
      obtain ⟨its2, rv2, p2', hzy⟩ := I1.tuple hqy
      obtain ⟨o1, ho1, _⟩ := id p1
      obtain ⟨o2, ho2, _⟩ := id p2'
      have la : a < s1.heap.objs.size := Heap.lt_size ho1
      have lb : b < s1.heap.objs.size := Heap.lt_size ho2
      refine RZ.call_zipT (show s1.heap.IsTuple a its.toArray from p1) (show s1.heap.IsTuple b its2.toArray from p2') fun h' hz hTI hTO h1 h2 hsz hk => ?_
      refine Calls.spliced_nil ?_
      have hlen : its.length = xs.length := rv.length.symm
      have hlen2 : its2.length = ys.length := rv2.length.symm
      have ke : ∀ l zs, s1.heap.IsTuple l zs → h'.IsTuple l zs := fun l zs ⟨o, e, r⟩ => ⟨o, hk _ _ e, r⟩
      have Lw : ZLow (s1.heap.objs.size + 4) (s1.heap.objs.size + 2) (s1.heap.objs.size + 3) s1.heap.objs.size (s1.heap.objs.size + 1) a b h'.objs.size := by
        rw [hsz]
        have L : ∀ {x : Nat} (m : Nat), x < s1.heap.objs.size → x < s1.heap.objs.size + m := fun m h => Nat.lt_of_lt_of_le h (Nat.le_add_right _ _)
        exact ⟨Nat.add_lt_add_left (by decide) _, Nat.add_lt_add_left (by decide) _, Nat.add_lt_add_left (by decide) _, Nat.lt_add_of_pos_right (by decide), Nat.add_lt_add_left (by decide) _, L 5 la, L 5 lb, Nat.ne_of_lt (L 3 la), Nat.ne_of_lt (L 3 lb), Nat.ne_of_lt la, Nat.ne_of_lt (L 1 lb), Nat.ne_of_lt (L 1 la), Nat.ne_of_lt lb, Nat.ne_of_lt (L 4 la), Nat.ne_of_lt (L 4 lb)⟩
      refine zip_call (s := { s1 with heap := h' }) (n := (xs.zip ys).length) (xs := its.toArray) (ys := its2.toArray) (I1.ok.hd hc) (PySem.W.ktu_apart s1.heap.objs.size a b la lb) Lw (by rw [List.length_zip]; omega) (by rw [List.length_zip]; simp; omega) (by rw [List.length_zip]; simp; omega) (by rw [List.length_zip]; simp; omega) hz hTI ⟨_, _, hTO⟩ h1 h2 (ke _ _ p1) (ke _ _ p2') fun h'' tk acc c as hk2 hS hl hG hacc => ?_
      have hk3 : ∀ b o, s1.heap.get? b = some o → h''.get? b = some o := fun b o e => by
        have hb := Heap.lt_size e
        have L : ∀ (m : Nat), b < s1.heap.objs.size + m := fun m => Nat.lt_of_lt_of_le hb (Nat.le_add_right _ _)
        exact hk2 b o (Nat.ne_of_lt (L 4)) (Nat.ne_of_lt (L 3)) (Nat.ne_of_lt hb) (Nat.ne_of_lt (L 1)) (hk b o e)
      have hSs : s1.heap.objs.size ≤ h'.objs.size := by rw [hsz]; exact Nat.le_add_right _ _
      obtain ⟨H', k1, k2, k3, k4, k5, k6, J⟩ := zip_laid (tk := tk) I1 (n := (xs.zip ys).length) (by rw [List.length_zip]; omega) rv rv2 rfl hSs hk3 hS hl hG hacc
      exact ⟨.ref _, H', J, rfl, q H' _ as k1 k2 k3 k4 k5 k6⟩
end TLZ
namespace TL
open PySem PySem.Spec L2
open PyProof.Rows hiding St
/-- list(zip(x, y)) of two tuples -/
@[reducible] def lzipI (a b : IE) : IE := fun ρ S Q E => a ρ S (fun x S1 => b ρ S1 (fun y S2 => match x, y with
  | .tup xs, .tup ys => Q (.lst (zipV xs ys)) S2
  | _, _ => False) E) E
section
variable {X : Cx} {K : PySem.W.Frag} {B : Addr → Prop} {H H' : Hp} {S : Sto} {W : WX} {a b : Expr} {ma mb : IE} {p p2 pos2 pos : Pos}
theorem HR.kept (r : HR K B H S) (k : ∀ b o, H b = some o → H' b = some o) : HR K B H' S := ⟨fun a c q => by
  refine (r.ok a c q).extB (fun b o h1 _ h2 => ⟨h1, k b o h2⟩) ?_
  obtain ⟨u, e⟩ := (r.ok a c q).there
  rw [e, k a u e], fun a hb => let ⟨h1, u, h2⟩ := r.hid a hb; ⟨h1, u, k a u h2⟩⟩
theorem zip_rvs (hr : HR K B H S) : ∀ {xs ys : List Val} {us vs : List V} {ts : List Addr}, RVs K B H' S xs us → RVs K B H' S ys vs → (∀ t ∈ ts, H t = none) → Paired (fun (t : Addr) (q : V × V) => H' t = some (.tup [q.1, q.2])) ts (us.zip vs) → RVs K B H' S (zipV xs ys) (ts.map V.ref)
  | [], _, _, _, _, .nil, _, _, pr => by
    cases pr
    exact .nil
  | _ :: _, [], _, _, _, .cons _ _, .nil, _, pr => by
    cases pr
    exact .nil
  | _ :: _, _ :: _, _, _, _, .cons r1 t1, .cons r2 t2, hn, pr => by
    cases pr with
    | cons h pr =>
      exact .cons (.tup (.inl ⟨.inl h, hr.free (hn _ List.mem_cons_self)⟩) (.cons r1 (.cons r2 .nil))) (zip_rvs hr t1 t2 (fun t ht => hn t (List.mem_cons_of_mem _ ht)) pr)
theorem se_listZip (hc : X.calm = true) (hg : Gl X "list") (hm : X.mg "list" = none) (hg2 : Gl X "zip") (hm2 : X.mg "zip" = none) (hs : starB a = false) (hs2 : starB b = false) (ha : PE X a (liftE X.K W ma)) (hb : PE X b (liftE X.K W mb)) :
    PE X (.Call (.Name "list" p) [.Call (.Name "zip" p2) [a, b] [] pos2] [] pos) (liftE X.K W (lzipI ma mb)) :=
  (TLZ.pe_listZip hc hg hm hg2 hm2 (pa_cons ha (pa_cons hb pa_nil (starEach_one hs2)) (starEach_one hs)) (starEach_one hs) (backTo_plain (by show (starB b || false) = false; rw [hs2]; rfl))).imp fun σ H Q ⟨ρ, S, B, Qi, Ei, Rr, h, q, er⟩ => ⟨ρ, S, B, _, Ei, Rr, h, fun v S1 x H1 rv hr1 e1 h1 =>
    ⟨ρ, S1, B, _, Ei, Rr.ext e1 hr1, h1, fun u S2 y H2 ru hr2 e2 h2 => by
      dsimp only at h2
      have rv2 := rv.ext e2
      split at h2
      · cases rv2 with
        | tup i1 i2 =>
        cases ru with
        | tup j1 j2 =>
        refine ⟨_, _, _, _, rfl, i1.sq, j1.sq, fun H' p ts k hp hts hnp hl pr => ?_⟩
        have ex : Ext S2 S2 H2 H' := fun b o h1 h2 => ⟨h1, k b o h2⟩
        exact q _ S2 _ H' (.lst hl (hr2.free hp) (zip_rvs hr2 (i2.ext ex) (j2.ext ex) hts pr)) (hr2.kept k) ((e1.trans e2).trans ex) h2
      · exact h2.elim, er.ext e1⟩, er⟩
end
end TL

set_option maxHeartbeats 1000000
/-! TLe: enumerate of a tuple, range with a step. -/
namespace TLE
open PySem PySem.Spec L2
open PyProof.Rows hiding St
open AutoSeq1 (wpAny_loadPart')
theorem meets_new (l : Addr) (items : Array Value) (n : Nat) (dct : Option Addr) (sl : Array (Option Value)) :
    Meets (Builtin.«enumerate.__new__» ⟨[.type "enumerate", .ref l], []⟩) (fun _ R s => s.heap.get? l = some { cls := .type "tuple", dict := dct, data := .seq items n, slots := sl } ∧
      R (.ok (.ret (.ref (s.heap.push { cls := .type "tuple_iterator", data := .fields #[.ref l, .int 0 0] }).objs.size)))
        { s with heap := (s.heap.push { cls := .type "tuple_iterator", data := .fields #[.ref l, .int 0 0] }).push { cls := .type "enumerate", data := .fields #[.none, .bool false, .ref s.heap.objs.size, rawInt 0, .none, .none] } }) :=
  .of_wp fun prog w A R s h => by
    obtain ⟨hp, g, d, tk, os⟩ := s; obtain ⟨hl, h⟩ := h
    have hsub := sub_enumerate
    have hL : Heap.IsTuple (Shared.heap ⟨hp, g, d, tk, os⟩) l items := ⟨_, hl, rfl, n, rfl⟩
    wp_walk using wpAny_loadPart' hl
    refine wpAny_stack_any fun st => wpAny_pure ?_
    split
    · rename_i c _ _ _ _ _
      cases (c == Value.type "enumerate")
      · wp_walk using wpAny_loadPart' hl, wpAny_pyIter_tuple hL
        exact ⟨_, rfl, h⟩
      · wp_walk using wpAny_loadPart' hl, wpAny_pyIter_tuple hL
        exact ⟨_, rfl, h⟩
    · wp_walk using wpAny_loadPart' hl, wpAny_pyIter_tuple hL
      exact ⟨_, rfl, h⟩
section
variable {prog : Program} {w : World} {A : Around} {E : Value → Shared → Prop} {s : Shared}
theorem call_enum {l : Addr} {items : Array Value} {Q : Value → Shared → Prop} (hL : s.heap.IsTuple l items)
    (h : ∀ h', IsEnum h' (s.heap.objs.size + 1) s.heap.objs.size 0 .none → h'.IsTupleIter s.heap.objs.size l 0 → h'.objs.size = s.heap.objs.size + 2 →
      (∀ b o, s.heap.get? b = some o → h'.get? b = some o) → Q (.ref (s.heap.objs.size + 1)) { s with heap := h' }) :
    wpAny (model prog w) A (call (.type "enumerate") [.ref l]) Q E s := by
  obtain ⟨⟨c, dct, dt, sl⟩, hl, hc, n, hd⟩ := hL
  replace hc : c = .type "tuple" := hc
  replace hd : dt = .seq items n := hd
  subst hc hd
  refine callType_new F.called_enumerate (by decide) (F.typeCall_enumerate_1 _) (F.newCall_enumerate_1 _) (fun obj => F.args_object_init_2 obj _) F.entry_enumerate_new
    (meets_new l items n dct sl) ⟨hl, ?_⟩
  have hz : (s.heap.push { cls := .type "tuple_iterator", data := .fields #[.ref l, .int 0 0] }).objs.size = s.heap.objs.size + 1 := Heap.size_push ..
  show _ ∧ _
  rw [hz]
  have he : IsEnum ((s.heap.push { cls := .type "tuple_iterator", data := .fields #[.ref l, .int 0 0] }).push
      { cls := .type "enumerate", data := .fields #[.none, .bool false, .ref s.heap.objs.size, rawInt 0, .none, .none] }) (s.heap.objs.size + 1) s.heap.objs.size 0 .none := by
    have := Heap.get?_push_size (s.heap.push { cls := .type "tuple_iterator", data := .fields #[.ref l, .int 0 0] })
      (o := { cls := .type "enumerate", data := .fields #[.none, .bool false, .ref s.heap.objs.size, rawInt 0, .none, .none] }) rfl
    rw [hz] at this; exact this
  refine ⟨⟨_, he, rfl⟩, h _ he ⟨_, Heap.get?_push_of_some _ (Heap.get?_push_size _ rfl), rfl, rfl⟩ (by rw [Heap.size_push, hz]) fun b o x => Heap.get?_push_of_some _ (Heap.get?_push_of_some _ x)⟩
theorem next_item {e it l : Addr} {i : Nat} {items : Array Value} {x old : Value} {Q : Value → Shared → Prop}
    (he : IsEnum s.heap e it i old) (hit : s.heap.IsTupleIter it l i) (hl : s.heap.IsTuple l items) (hx : items[i]? = some x) (hne : e ≠ it)
    (hQ : ∀ h', IsEnumOut h' e it ((i : Int) + 1) x s.heap.objs.size → h'.IsTupleIter it l (i + 1) →
      h'.get? s.heap.objs.size = some { cls := .type "tuple", data := .seq #[.int i s.toks, x] } → h'.objs.size = s.heap.objs.size + 1 →
      (∀ b o, b ≠ e → b ≠ it → s.heap.get? b = some o → h'.get? b = some o) → Q (.ref s.heap.objs.size) { s with heap := h', toks := s.toks + 1 }) :
    wpAny (model prog w) A (Builtin.«enumerate.__next__» ⟨[.ref e], []⟩) (fun fin s' => ∃ v, fin = .done (.ret v) ∧ Q v s') E s := by
  obtain ⟨hp, g, d, tk, os⟩ := s
  show wpAny _ _ (field (.ref e) 2 >>= _) _ _ _
  refine wpAny_bind (wpAny_field he rfl (x := .ref it) rfl ?_)
  refine wpAny_bind (RZ.nextOf_tuple_item hit hl hx fun h₁ hit₁ hs₁ => ?_)
  replace hs₁ : Heap.SameBut it hp h₁ := hs₁
  have he₁ : IsEnum h₁ e it i old := (hs₁.2 e hne).trans he
  show wpAny _ _ (field (.ref e) 3 >>= _) _ _ ⟨h₁, g, d, tk, os⟩
  refine wpAny_bind (wpAny_field he₁ rfl (x := rawInt i) rfl ?_)
  show wpAny _ _ (field (.ref e) 4 >>= _) _ _ ⟨h₁, g, d, tk, os⟩
  refine wpAny_bind (wpAny_field he₁ rfl (x := .none) rfl ?_)
  show wpAny _ _ (mkInt i >>= _) _ _ ⟨h₁, g, d, tk, os⟩
  refine wpAny_bind (wpAny_mkInt ?_)
  show wpAny _ _ (setField (.ref e) 3 (rawInt ((i : Int) + 1)) >>= _) _ _ ⟨h₁, g, d, tk + 1, os⟩
  refine wpAny_bind (wpAny_setField_rec he₁ (by simp) fun h₂ he₂ hs₂ => ?_)
  replace hs₂ : Heap.SameBut e h₁ h₂ := hs₂
  replace he₂ : IsEnum h₂ e it ((i : Int) + 1) old := he₂
  show wpAny _ _ (setField (.ref e) 4 .none >>= _) _ _ ⟨h₂, g, d, tk + 1, os⟩
  refine wpAny_bind (wpAny_setField_rec he₂ (by simp) fun h₃ he₃ hs₃ => ?_)
  replace hs₃ : Heap.SameBut e h₂ h₃ := hs₃
  replace he₃ : IsEnum h₃ e it ((i : Int) + 1) old := he₃
  show wpAny _ _ (newTuple [.int i tk, x] >>= _) _ _ ⟨h₃, g, d, tk + 1, os⟩
  refine wpAny_bind (wpAny_newTuple ?_)
  have he₄ : IsEnum (h₃.push { cls := .type "tuple", data := .seq #[.int i tk, x] }) e it ((i : Int) + 1) old := Heap.get?_push_of_some _ he₃
  generalize hh₄ : h₃.push { cls := .type "tuple", data := .seq #[.int i tk, x] } = h₄ at he₄
  have hsz : h₃.objs.size = hp.objs.size := by rw [hs₃.1, hs₂.1, hs₁.1]
  have hel : e < hp.objs.size := Heap.lt_size he
  have ht₄ : h₄.get? hp.objs.size = some { cls := .type "tuple", data := .seq #[.int i tk, x] } := by rw [← hh₄, ← hsz]; exact Heap.get?_push_size _ rfl
  have hz₄ : h₄.objs.size = hp.objs.size + 1 := by rw [← hh₄, Heap.size_push, hsz]
  have hk₄ : ∀ b o, b ≠ e → b ≠ it → hp.get? b = some o → h₄.get? b = some o := fun b o hbe hbi hb => by
    rw [← hh₄]; exact Heap.get?_push_of_some _ (hs₃.extBut b o hbe (hs₂.extBut b o hbe (hs₁.extBut b o hbi hb)))
  have hit₄ : h₄.IsTupleIter it l (i + 1) := by
    rw [← hh₄]; obtain ⟨o, ho, r⟩ := (hit₁.extBut hs₂.extBut (Ne.symm hne)).extBut hs₃.extBut (Ne.symm hne); exact ⟨o, Heap.get?_push_of_some _ ho, r⟩
  show wpAny _ _ (Builtin.SmallTypes.ownedTupleIsFree (.ref e) >>= _) _ _ ⟨h₄, g, d, tk + 1, os⟩
  rw [hsz]
  clear hh₄ he₃ hs₃ he₂ hs₂ he₁ hs₁ hit₁ hsz h₃ h₂ h₁
  refine wpAny_bind ?_
  · unfold Builtin.SmallTypes.ownedTupleIsFree
    refine wpAny_bind (wpAny_field he₄ rfl (x := .none) rfl (wpAny_pure ?_))
    simp only [if_true]
    refine wpAny_bind (wpAny_rule ?_)
    refine wpAny_bind (wpAny_field he₄ rfl (x := old) rfl ?_)
    refine wpAny_bind (wpAny_setField_rec he₄ (by simp) fun h₅ he₅ hs₅ => ?_)
    replace hs₅ : Heap.SameBut e h₄ h₅ := hs₅
    replace he₅ : IsEnum h₅ e it ((i : Int) + 1) x := he₅
    show wpAny _ _ (Builtin.SmallTypes.ownedTupleHandOut (.ref e) (.ref hp.objs.size) >>= _) _ _ ⟨h₅, g, d, tk + 1, os⟩
    refine wpAny_bind ?_
    · unfold Builtin.SmallTypes.ownedTupleHandOut
      refine wpAny_bind (wpAny_setField_rec he₅ (by simp) fun h₆ he₆ hs₆ => ?_)
      replace hs₆ : Heap.SameBut e h₅ h₆ := hs₆
      replace he₆ : IsEnumOut h₆ e it ((i : Int) + 1) x hp.objs.size := he₆
      refine wpAny_setField_rec he₆ (by simp) fun h₇ he₇ hs₇ => ?_
      replace hs₇ : Heap.SameBut e h₆ h₇ := hs₇
      replace he₇ : IsEnumOut h₇ e it ((i : Int) + 1) x hp.objs.size := he₇
      refine wpAny_bind (wpAny_letGo (wpAny_pure ⟨_, rfl, hQ h₇ he₇ ?_ ?_ ?_ ?_⟩))
      · exact ((hit₄.extBut hs₅.extBut (Ne.symm hne)).extBut hs₆.extBut (Ne.symm hne)).extBut hs₇.extBut (Ne.symm hne)
      · exact hs₇.extBut _ _ (Nat.ne_of_gt hel) (hs₆.extBut _ _ (Nat.ne_of_gt hel) (hs₅.extBut _ _ (Nat.ne_of_gt hel) ht₄))
      · rw [hs₇.1, hs₆.1, hs₅.1, hz₄]
      · exact fun b o hbe hbi hb => hs₇.extBut b o hbe (hs₆.extBut b o hbe (hs₅.extBut b o hbe (hk₄ b o hbe hbi hb)))
theorem pyNext_item {e it l : Addr} {i : Nat} {items : Array Value} {x old : Value} {Q : Option Value → Shared → Prop}
    (he : IsEnum s.heap e it i old) (hit : s.heap.IsTupleIter it l i) (hl : s.heap.IsTuple l items) (hx : items[i]? = some x) (hne : e ≠ it)
    (hQ : ∀ h', IsEnumOut h' e it ((i : Int) + 1) x s.heap.objs.size → h'.IsTupleIter it l (i + 1) →
      h'.get? s.heap.objs.size = some { cls := .type "tuple", data := .seq #[.int i s.toks, x] } → h'.objs.size = s.heap.objs.size + 1 →
      (∀ b o, b ≠ e → b ≠ it → s.heap.get? b = some o → h'.get? b = some o) → Q (some (.ref s.heap.objs.size)) { s with heap := h', toks := s.toks + 1 }) :
    wpAny (model prog w) A (pyNext (.ref e)) Q E s := by
  have hT : s.TypeIs (.ref e) "enumerate" := ⟨_, he, rfl⟩
  unfold pyNext
  exact wpAny_bind (wpAny_attempt (wpAny_callSpecial?_slot (name := Str.ofString "__next__") hT F.slot_enumerate_next
    (wpAny_call_entry F.slot_enumerate_next hT F.entry_enumerate_next
      (next_item he hit hl hx hne fun h' a b c d k => wpAny_pure (hQ h' a b c d k)) (F.args_enumerate_next_1 _))))
theorem pyNext_end {e it l : Addr} {i : Nat} {items : Array Value} {old : Value} {Q : Option Value → Shared → Prop} (hh : A.handled = none)
    (he : IsEnum s.heap e it i old) (hit : s.heap.IsTupleIter it l i) (hl : s.heap.IsTuple l items) (hx : items[i]? = none)
    (hQ : ∀ h', Heap.ExtBut it s.heap h' → Q none { s with heap := h' }) : wpAny (model prog w) A (pyNext (.ref e)) Q E s := by
  have hT : s.TypeIs (.ref e) "enumerate" := ⟨_, he, rfl⟩
  unfold pyNext
  refine wpAny_bind (wpAny_attempt (wpAny_callSpecial?_slot (name := Str.ofString "__next__") hT F.slot_enumerate_next
    (wpAny_call_entry F.slot_enumerate_next hT F.entry_enumerate_next ?_ (F.args_enumerate_next_1 _))))
  show wpAny _ _ (field (.ref e) 2 >>= _) _ _ _
  refine wpAny_bind (wpAny_field he rfl (x := .ref it) rfl ?_)
  refine wpAny_bind (RZ.nextOf_tuple_end hh hit hl hx fun h' x he' hx' => ?_)
  obtain ⟨o, ho, hc⟩ := hx'
  refine wpAny_bind (wpAny_isInstance (T := "StopIteration") (b := true) ⟨o, ho, hc⟩ isSubtype_stop ?_)
  exact wpAny_pure (hQ _ he')
end
/-- the tuple at a, each item in a new pair -/
def IteT (K : PySem.W.Frag) (a : Addr) : It :=
  ⟨fun i H => ∃ (xs : List V) (x : V), SqT K H a xs ∧ xs[i]? = some x, fun i H v H' => ∃ T x, v = .ref T ∧ H T = none ∧ H' = upd H T (.tup [.int (i : Nat), x]) ∧ ∀ xs, SqT K H a xs → xs[i]? = some x, fun i H => ∃ xs : List V, SqT K H a xs ∧ xs.length ≤ i⟩
theorem turn_enumT {P : Program} {w : World} {K : PySem.W.Frag} {elts : List Expr} {kk : Nat} {tpos : Pos} (a e it : Addr) :
    Turn P w K (.Tuple elts kk tpos) (IteT K a) [e, it] e (fun i h => (∃ old, IsEnum h e it ((i : Nat) : Int) old) ∧ h.IsTupleIter it a i ∧ e ≠ it) where
  mem := by simp
  obj := fun i h st b hb => by
    obtain ⟨⟨old, he⟩, ⟨o, ho, hc, hd⟩, _⟩ := st
    have e' : b = e ∨ b = it := by simpa using hb
    rcases e' with z | z
    · rw [z]; exact ⟨_, he, fun v q => nomatch q⟩
    · rw [z]; exact ⟨o, ho, fun v q => by rw [hd] at q; cases q⟩
  keep := fun i h h' st k => let ⟨⟨old, he⟩, hi, hne⟩ := st; ⟨⟨old, k e (by simp) _ he⟩, hi.at fun o q => k it (by simp) o q, hne⟩
  item := by
    intro X hP hw hK hc i pins s σ H E I hf st hg
    subst hP hw hK
    obtain ⟨⟨old, he⟩, hit, hne⟩ := st
    obtain ⟨xs, x, hq, hx⟩ := hg
    obtain ⟨its, rv, p, hz⟩ := I.tuple hq
    obtain ⟨u, hu, ru⟩ := rv.get hx
    have hel : e < s.heap.objs.size := Heap.lt_size he
    have hil : it < s.heap.objs.size := by obtain ⟨_, q, _⟩ := hit; exact Heap.lt_size q
    refine pyNext_item he hit (show s.heap.IsTuple a its.toArray from p) (x := u) (by simpa using hu) hne fun h' ho hit' hT hsz hk => ?_
    refine ⟨_, rfl, wpAny_letOwnedTupleGo_enum (s := { s with heap := h', toks := s.toks + 1 }) ho fun h'' he' sb => ?_⟩
    have hT2 : h''.get? s.heap.objs.size = some { cls := .type "tuple", data := .seq #[.int i s.toks, u] } := (sb.2 _ (Nat.ne_of_gt hel)).trans hT
    have new : ObjOk X.prog X.w (upd H s.heap.objs.size (.tup [.int (i : Nat), x])) h'' s.heap.objs.size (.tup [.int (i : Nat), x]) :=
      ⟨by show 2 ≤ sizeLine; decide, [.int i s.toks, u], .cons ⟨_, rfl⟩ (.cons ru .nil), ⟨_, hT2, rfl, _, rfl⟩⟩
    have I1 : Inv X pins σ (upd H s.heap.objs.size (.tup [.int (i : Nat), x])) { s with heap := h'', toks := s.toks + 1 } :=
      I.turnedNew (ch := [e, it]) (fun b ob hb q => (sb.2 b (fun z => hb (by simp [z]))).trans (hk b ob (fun z => hb (by simp [z])) (fun z => hb (by simp [z])) q)) hf (Nat.le_refl _) new
    refine ⟨.ref s.heap.objs.size, _, I1, rfl, ⟨_, x, rfl, I.hok.fresh (Nat.le_refl _), rfl, fun ys hy => by rw [I.tuple_inj hy hq]; exact hx⟩, ⟨⟨u, ?_⟩, hit'.at fun o q => (sb.2 it (Ne.symm hne)).trans q, hne⟩, fun b hb => ?_⟩
    · have e1 : ((i + 1 : Nat) : Int) = (i : Int) + 1 := by omega
      rw [e1]; exact he'
    · have hb' : b < s.heap.objs.size := by
        have e' : b = e ∨ b = it := by simpa using hb
        rcases e' with z | z
        · rw [z]; exact hel
        · rw [z]; exact hil
      rw [upd_ne (Nat.ne_of_lt hb')]
      exact (hf b hb).1
  done := by
    intro X hP hw hK hc i pins s σ H E I hf st hg
    subst hP hw hK
    obtain ⟨⟨old, he⟩, hit, hne⟩ := st
    obtain ⟨xs, hq, hx⟩ := hg
    obtain ⟨its, rv, p, hz⟩ := I.tuple hq
    obtain ⟨f0, f1, f2, f3, f4, f5⟩ := hf it (by simp)
    have hl := rv.length
    exact pyNext_end (I.ok.hd hc) he hit (show s.heap.IsTuple a its.toArray from p) (by simp; omega) fun h' eb => ⟨rfl, I.turned (t' := s.toks) (fun b o hb q => eb b o hb q) f0 f1 f3 f4 f5⟩
  self := fun A i s Q E st h => let ⟨⟨_, he⟩, _⟩ := st; wpAny_pyIter_enum he h
def iEnumA (K : PySem.W.Frag) (ta : TA) : TI := fun σ H R => ta σ H fun vs H1 => ∃ a xs, vs = [.ref a] ∧ ((SqL K H1 a xs ∧ R (Ite K a) H1) ∨ (SqT K H1 a xs ∧ R (IteT K a) H1))
theorem pi_enumA {X : Cx} {e : Expr} {ta : TA} {p pos tpos : Pos} {elts : List Expr} {kk : Nat} (hg : Gl X "enumerate") (hm : X.mg "enumerate" = none) (ha : PA X [e] ta) (hs : starEach [e] X.env = [(false, eval e X.env)] := by rfl) :
    PI X (.Tuple elts kk tpos) (.Call (.Name "enumerate" p) [e] [] pos) (iEnumA X.K ta) := by
  refine ⟨fun pins s σ H R I h => ?_⟩
  refine Call_ (ld_blt I hg hm boot_enumerate (PyProof.Rows.callWith_type1 (thn (ha.run pos pins s σ H _ I h) fun us s1 ⟨vs, H1, I1, r1, q1⟩ => ?_) hs rfl))
  obtain ⟨a, xs, ex, q1⟩ := q1
  subst ex
  cases r1 with
  | cons r rr =>
    cases rr
    cases r
    have fp : ∀ b, b ∈ [s1.heap.objs.size + 1, s1.heap.objs.size] → FpOk X pins H1 b := fun b hb => by
      have e' : b = s1.heap.objs.size + 1 ∨ b = s1.heap.objs.size := by simpa using hb
      have hle : s1.heap.objs.size ≤ b := by
        rcases e' with z | z
        · rw [z]; exact Nat.le_add_right _ _
        · rw [z]; exact Nat.le_refl _
      exact I1.fpOk hle (I1.hok.fresh hle)
    rcases q1 with ⟨hq, q⟩ | ⟨hq, q⟩
    · obtain ⟨its, rv, p', hz⟩ := I1.list hq
      refine call_enumerate_list p'.isList fun h' he hit hsz hk => wpAny_pyIter_enum he ?_
      have I2 : Inv X pins σ H1 { s1 with heap := h' } := I1.kept (t' := s1.toks) hk
      exact ⟨s1.heap.objs.size + 1, [s1.heap.objs.size + 1, s1.heap.objs.size], _, _, H1, rfl, I2, turn_enum a (s1.heap.objs.size + 1) s1.heap.objs.size, ⟨⟨.none, he⟩, hit, Nat.succ_ne_self _⟩, fp, q⟩
    · obtain ⟨its, rv, p', hz⟩ := I1.tuple hq
      refine call_enum (show s1.heap.IsTuple a its.toArray from p') fun h' he hit hsz hk => wpAny_pyIter_enum he ?_
      have I2 : Inv X pins σ H1 { s1 with heap := h' } := I1.kept (t' := s1.toks) hk
      exact ⟨s1.heap.objs.size + 1, [s1.heap.objs.size + 1, s1.heap.objs.size], _, _, H1, rfl, I2, turn_enumT a (s1.heap.objs.size + 1) s1.heap.objs.size, ⟨⟨.none, he⟩, hit, Nat.succ_ne_self _⟩, fp, q⟩
end TLE

/-! TLf: enumerate of lists and tuples, range with a step: plain meanings. -/
namespace TL
open PySem PySem.Spec L2
open PyProof.Rows hiding St
@[reducible] def enumAI (a : IE) : II := fun ρ S Q E => a ρ S (fun x S1 => match x with
  | .lst xs => Q none (enumFrom 0 xs) S1
  | .tup xs => Q none (enumFrom 0 xs) S1
  | _ => False) E
/-- lo, lo + c, .. n of them -/
def stepTo (lo c : Int) (n : Nat) : List Val := (List.range n).map fun (i : Nat) => Val.int (lo + (i : Int) * c)
@[reducible] def rng3I (a b c : IE) : II := fun ρ S Q E => a ρ S (fun x S1 => b ρ S1 (fun y S2 => c ρ S2 (fun z S3 => match x, y, z with
  | .int i, .int j, .int k => ∃ n, RgC i j k n ∧ Q none (stepTo i k n) S3
  | _, _, _ => False) E) E) E
section
variable {K : PySem.W.Frag} {B : Addr → Prop} {H0 : Hp} {S0 : Sto}
theorem itOk_enumT {a : Addr} {xs : List Val} (h : ∀ B' S H, Wider B B' H0 → HR K B' H S → ExtB B' S0 S H0 H → ∃ vs, SqT K H a vs ∧ RVs K B' H S xs vs) : ItOk K B (TLE.IteT K a) S0 H0 none (enumFrom 0 xs) := by
  refine ⟨fun B' S H i wb hr e _ hi => ?_, fun B' S H i wb hr e _ hi => ?_, fun B' S H i x H' wb hr e _ hi hy => ?_⟩ <;> rw [enumFrom_length] at hi <;> obtain ⟨vs, h1, h2⟩ := h B' S H wb hr e <;> have hl := h2.length
  · exact ⟨vs, vs[i]'(by omega), h1, List.getElem?_eq_getElem (by omega)⟩
  · exact ⟨vs, h1, by omega⟩
  · obtain ⟨T, y, rfl, hT, rfl, hx⟩ := hy
    obtain ⟨v, h3, h4⟩ := h2.getR (hx vs h1)
    have q := enumFrom_get (n := 0) h3
    rw [Nat.zero_add] at q
    exact ⟨_, q, .tup (.inl ⟨.inl upd_same, hr.free hT⟩) (.cons (.int _) (.cons (h4.ext (Ext.new hT)) .nil)), hr.new hT, Ext.new hT⟩
theorem itOk_rangeC {lo c : Int} {n : Nat} : ItOk K B (Itc lo c n) S0 H0 none (stepTo lo c n) := by
  have hl : (stepTo lo c n).length = n := by unfold stepTo; rw [List.length_map, List.length_range]
  refine ⟨fun B' S H i wb hr e _ hi => by rw [hl] at hi; exact hi, fun B' S H i wb hr e _ hi => by rw [hl] at hi; exact hi, fun B' S H i x H' wb hr e _ hi hy => ?_⟩
  obtain ⟨rfl, rfl⟩ := hy
  rw [hl] at hi
  refine ⟨.int (lo + (i : Nat) * c), ?_, .int _, hr, Ext.refl⟩
  unfold stepTo
  rw [List.getElem?_map, List.getElem?_range hi]
  rfl
end
section
variable {X : Cx} {W : WX} {a b c : Expr} {ma mb mc : IE} {pos : Pos} {tg : Expr}
theorem pi_enuA {p : Pos} {elts : List Expr} {kk : Nat} {tpos : Pos} (hg : Gl X "enumerate") (hm : X.mg "enumerate" = none) (hs : starB a = false) (ha : PE X a (liftE X.K W ma)) : PI X (.Tuple elts kk tpos) (.Call (.Name "enumerate" p) [a] [] pos) (liftI X.K W (enumAI ma)) :=
  (TLE.pi_enumA hg hm (pa_cons ha pa_nil (starEach_one hs)) (starEach_one hs)).imp fun σ H R ⟨ρ, S, B, Qi, Ei, Rr, h, q, er⟩ => ⟨ρ, S, B, _, Ei, Rr, h, fun v S1 x H1 rv hr1 e h1 => by
    cases rv with
    | lst i1 i2 i3 => exact ⟨_, _, rfl, .inl ⟨SqL.of i1, q none _ S1 _ H1 hr1 e (itOk_enum fun B' S2 H2 wb hr2 e2 => ⟨_, SqL.of (e2 _ _ i2.1 (wb.no i1 i2.2) i1).2, (i3.moreB wb).extB e2⟩) h1⟩⟩
    | tup i1 i2 => exact ⟨_, _, rfl, .inr ⟨i1.sq, q none _ S1 _ H1 hr1 e (itOk_enumT fun B' S2 H2 wb hr2 e2 => ⟨_, ((i1.moreB wb).extB e2).sq, (i2.moreB wb).extB e2⟩) h1⟩⟩
    | _ => exact (show False from h1).elim, er⟩
theorem pi_rng3 {p : Pos} (hg : Gl X "range") (hm : X.mg "range" = none) (hs : starB a = false) (hs2 : starB b = false) (hs3 : starB c = false) (ha : PE X a (liftE X.K W ma)) (hb : PE X b (liftE X.K W mb)) (hc : PE X c (liftE X.K W mc)) : PI X tg (.Call (.Name "range" p) [a, b, c] [] pos) (liftI X.K W (rng3I ma mb mc)) :=
  (pi_range3 hg hm (pa_cons ha (pa_cons hb (pa_cons hc pa_nil (starEach_one hs3)) (by rw [starEach_one hs2, starEach_one hs3])) (by rw [starEach_one hs, starEach_one hs2])) (by rw [starEach_one hs, starEach_one hs2]) (backTo_plain (es := [b, c]) (by show (starB b || (starB c || false)) = false; rw [hs2, hs3]; rfl))).imp fun σ H R ⟨ρ, S, B, Qi, Ei, Rr, h, q, er⟩ => ⟨ρ, S, B, _, Ei, Rr, h, fun v S1 x H1 rv hr1 e1 h1 =>
    ⟨ρ, S1, B, _, Ei, Rr.ext e1 hr1, h1, fun u S2 y H2 ru hr2 e2 h2 => ⟨ρ, S2, B, _, Ei, Rr.ext (e1.trans e2) hr2, h2, fun t S3 z H3 rt hr3 e3 h3 => by
      dsimp only at h3
      split at h3
      · cases rv; cases ru; cases rt
        obtain ⟨n, b1, h3⟩ := h3
        exact ⟨_, _, _, n, rfl, b1, q none _ S3 _ H3 hr3 (e1.trans (e2.trans e3)) itOk_rangeC h3⟩
      · exact h3.elim, er.ext (e1.trans e2)⟩, er.ext e1⟩, er⟩
end
end TL

/-! TLj: ord, join, index, count. -/
namespace TL
open PySem PySem.Spec L2
open PyProof.Rows hiding St
def strsOf : List Val → Option (List Str)
  | [] => some []
  | .str x :: r => (strsOf r).map (x :: ·)
  | _ => none
def ordP : PL := fun vs S Q => match vs with
  | [.str x] => x.length = 1 ∧ Q (.int (x.cps.getD 0 0 : Nat)) S
  | _ => False
def joinP : Val → PL := fun x vs S Q => match x, vs with
  | .str a, [v] => someP (lsqOf S v) fun xs => someP (strsOf xs) fun ys => (ys.map (·.length)).sum + ys.length * a.length ≤ 16777216 ∧ Q (.str (Txt.join a ys)) S
  | _, _ => False
/-- the first place where it stands -/
def idxE (y : Val) : List Val → Option Nat
  | [] => none
  | x :: r => if eqE x y then some 0 else (idxE y r).map (· + 1)
structure indexP (x : Val) (vs : List Val) (S : Sto) (Q : VQ) : Prop where
  h : match vs with
    | [y] => someP (lsqOf S x) fun xs => (flatE y = true ∧ xs.all flatE = true) ∧ someP (idxE y xs) fun j => Q (.int (j : Nat)) S
    | _ => False
@[reducible] def isStrV : Val → Bool
  | .str _ => true
  | _ => false
/-- o.m(..), o a text -/
@[reducible] def smethI (r : Val → PL) (o : IE) (as : IA) : IE := fun ρ S Q E => o ρ S (fun x S1 => isStrV x = true ∧ as ρ S1 (fun xs S2 => r x xs S2 Q) E) E
section
variable {X : Cx} {K : PySem.W.Frag} {B : Addr → Prop} {H : Hp} {S : Sto} {W : WX} {o a : Expr} {es : List Expr} {mo : IE} {pos : Pos}
theorem RVs.strs : ∀ {xs : List Val} {vs : List V} {ys : List Str}, RVs K B H S xs vs → strsOf xs = some ys → vs = ys.map V.str
  | _, _, _, .nil, e => by
    cases e
    rfl
  | x :: r, _, _, .cons rx t, e => by
    cases x with
    | str z =>
      cases rx
      cases e2 : strsOf r with
      | none => rw [show strsOf (.str z :: r) = (strsOf r).map (z :: ·) from rfl, e2] at e; cases e
      | some ys =>
        rw [show strsOf (.str z :: r) = (strsOf r).map (z :: ·) from rfl, e2] at e
        cases e
        rw [t.strs e2]
        rfl
    | _ => cases e
theorem ordP_ok : PLOk K ordP (fun xs H Q => ∃ x, xs = [.str x] ∧ x.length = 1 ∧ Q (.int (x.cps.getD 0 0 : Nat)) H) := by
  intro B xs vs S H Qi Q r hr h q
  unfold ordP at h
  split at h
  · obtain ⟨v, rfl, r1⟩ := vs1 r
    cases r1
    exact ⟨_, rfl, h.1, q.same hr (.int _) h.2⟩
  · exact h.elim
theorem joinP_ok : PMOk K joinP (fun x xs H Q => ∃ a p, ∃ ys : List Str, x = .str a ∧ xs = [.ref p] ∧ (SqL K H p (ys.map V.str) ∨ SqT K H p (ys.map V.str)) ∧
    (ys.map (·.length)).sum + ys.length * a.length ≤ 16777216 ∧ Q (.str (Txt.join a ys)) H) := by
  intro B x v xs vs S H Qi Q rx rs hr h q
  unfold joinP at h
  split at h
  · cases rx
    obtain ⟨u, rfl, r1⟩ := vs1 rs
    obtain ⟨zs, e, h⟩ := someP_some h
    obtain ⟨ys, e2, h⟩ := someP_some h
    obtain ⟨p, us, rfl, h1, h2⟩ := lsqOf_sq hr r1 e
    have := h2.strs e2
    subst this
    exact ⟨_, p, ys, rfl, rfl, .inl h1, h.1, q.same hr (.str _) h.2⟩
  · exact h.elim
theorem idx_V {y : Val} {v : V} (ry : RV K B H S y v) (fy : flatE y = true) : ∀ {xs : List Val} {vs : List V} {j : Nat}, RVs K B H S xs vs → xs.all flatE = true → idxE y xs = some j →
    ∃ z, vs[j]? = some z ∧ eqV z v = true ∧ ∀ (m : Nat) (z' : V), m < j → vs[m]? = some z' → eqV z' v = false
  | _, _, _, .nil, _, e => by cases e
  | x :: r, _, j, .cons rx t, h, e => by
    rw [List.all_cons, Bool.and_eq_true] at h
    have e1 := eqE_V rx ry h.1 fy
    unfold idxE at e
    by_cases hx : eqE x y = true
    · rw [if_pos hx] at e
      cases e
      exact ⟨_, rfl, e1.symm.trans hx, fun m z' hm => absurd hm (Nat.not_lt_zero m)⟩
    · rw [if_neg hx] at e
      cases e2 : idxE y r with
      | none => rw [e2] at e; cases e
      | some i =>
        rw [e2] at e
        cases e
        obtain ⟨z, h1, h2, h3⟩ := idx_V ry fy t h.2 e2
        refine ⟨z, h1, h2, fun m z' hm hz => ?_⟩
        cases m with
        | zero =>
          cases hz
          rw [← e1]
          exact Bool.eq_false_iff.mpr hx
        | succ m => exact h3 m z' (Nat.lt_of_succ_lt_succ hm) hz
theorem indexP_ok : PMOk K indexP (rIndex K) := by
  intro B x v xs vs S H Qi Q rx rs hr h q
  replace h := h.h
  split at h
  · obtain ⟨u, rfl, r1⟩ := vs1 rs
    obtain ⟨zs, e, ⟨h1, h2⟩, h⟩ := someP_some h
    obtain ⟨j, e2, h⟩ := someP_some h
    obtain ⟨p, us, rfl, h3, h4⟩ := lsqOf_sq hr rx e
    obtain ⟨z, k1, k2, k3⟩ := idx_V r1 h1 h4 h2 e2
    exact ⟨p, us, u, j, z, rfl, rfl, h3, flatE_V r1 h1, allE_V h4 h2, k1, k2, k3, q.same hr (.int _) h⟩
  · exact h.elim
theorem isStr_ty {x : Val} {v : V} (r : RV K B H S x v) (h : isStrV x = true) : tyV K "str" v H := by
  cases x with
  | str z => cases r; rfl
  | _ => cases h
theorem se_smeth0 {name : Str} {id : String} {r : Val → PL} {rr : V → List V → Hp → VK → Prop} {apos : Pos} (slot : Slot "str" name id) (hty : typeOf (.builtin id) = pure (.type "method_descriptor")) (hm : MtR X id rr) (hr : PMOk X.K r rr)
    (hb : plainBase o = true) (hl : (apos.endLine == pos.line) = true) (ho : PE X o (liftE X.K W mo)) : PE X (.Call (.Attribute o name apos) [] [] pos) (liftE X.K W (smethI r mo nilA)) :=
  (pe_bm0 PySem.F.plainAttrs_str slot hty hm ho (base_of hb) hl).imp fun σ H Q ⟨ρ, S, B, Qi, Ei, R, h, q, er⟩ => ⟨ρ, S, B, _, Ei, R, h, fun v S1 x H1 rv hr1 e h1 =>
    ⟨isStr_ty rv h1.1, hr B v x [] [] S1 H1 Qi Q rv .nil hr1 h1.2 (q.ext e)⟩, er⟩
theorem se_smeth {name : Str} {id : String} {r : Val → PL} {rr : V → List V → Hp → VK → Prop} {apos : Pos} {mr : IA} (slot : Slot "str" name id) (hty : typeOf (.builtin id) = pure (.type "method_descriptor")) (hm : MtR X id rr) (hr : PMOk X.K r rr)
    (hb : plainBase o = true) (hl : (apos.endLine == pos.line) = true) (hs : (a :: es).any starB = false) (hf : (a :: es).length < 30) (ho : PE X o (liftE X.K W mo)) (ha : PA X (a :: es) (liftA X.K W mr)) :
    PE X (.Call (.Attribute o name apos) (a :: es) [] pos) (liftE X.K W (smethI r mo mr)) := by
  have h1 : (starB a || es.any starB) = false := hs
  obtain ⟨h1, h2⟩ := Bool.or_eq_false_iff.mp h1
  refine (pe_bm PySem.F.plainAttrs_str slot hty hm ho ha (base_of hb) ?_ hl (starEach_one h1) (backTo_plain h2)).imp fun σ H Q ⟨ρ, S, B, Qi, Ei, R, h, q, er⟩ => ⟨ρ, S, B, _, Ei, R, h, fun v S1 x H1 rv hr1 e h1 =>
    ⟨isStr_ty rv h1.1, ρ, S1, B, _, Ei, R.ext e hr1, h1.2, fun us S2 ys H2 ru hr2 e2 h2 => hr B v x us ys S2 H2 Qi Q (rv.ext e2) ru hr2 h2 (q.ext (e.trans e2)), er.ext e⟩, er⟩
  rw [backTo_all hs]
  show (true && true && decide ((a :: es).length + 0 + 0 < 30)) = true
  rw [decide_eq_true (by omega)]
  rfl
end
end TL

/-! TLk: tuples of which all is known, dicts of such tuples of pairs, list.count, tables of defs, defs called by a local name. -/
namespace TLK
open PySem PySem.Spec PyProof.Rows L2
theorem chooseL {α : Type} {P : Nat → α → Prop} : ∀ n : Nat, (∀ j, j < n → ∃ x, P j x) → ∃ l : List α, l.length = n ∧ ∀ j, j < n → ∃ x, l[j]? = some x ∧ P j x
  | 0, _ => ⟨[], rfl, fun j hj => absurd hj (Nat.not_lt_zero j)⟩
  | n + 1, h => by
    obtain ⟨l, h1, h2⟩ := chooseL n fun j hj => h j (by omega)
    obtain ⟨x, hx⟩ := h n (by omega)
    refine ⟨l ++ [x], by rw [List.length_append, h1]; rfl, fun j hj => ?_⟩
    by_cases e : j < n
    · obtain ⟨y, h3, h4⟩ := h2 j e
      exact ⟨y, by rw [List.getElem?_append_left (by omega)]; exact h3, h4⟩
    · have e2 : j = n := by omega
      subst e2
      exact ⟨x, by rw [List.getElem?_append_right (by omega), h1, Nat.sub_self]; rfl, hx⟩
section
variable {X : Cx}
/-- tuple(l) of a list, the new object told whole -/
theorem call_tupleK : CallR X (.type "tuple") (fun xs H Q => ∃ p ys, xs = [.ref p] ∧ SqL X.K H p ys ∧ ∀ (l : Addr) (ob : Obj), H l = none → ob.cls = .type "tuple" → ob.dict = none → Q (.ref l) (upd H l (.frz ob (.tup ys)))) := by
  intro pins s σ H xs us Q I r h
  obtain ⟨p, ys, rfl, hq, q⟩ := h
  obtain ⟨u, rfl, rx⟩ := vals1 r
  cases rx
  obtain ⟨its, r', pl, hz⟩ := I.list hq
  have hlen := r'.length
  refine call_tuple_list pl.isList (fun h' kp => ?_) (by simp only [List.size_toArray] <;> omega)
  have I1 : Inv X pins σ H { s with heap := h' } := I.kept (t' := s.toks) kp
  have I2 : Inv X pins σ (upd H h'.objs.size (.frz { cls := .type "tuple", data := .seq its.toArray } (.tup ys))) { s with heap := h'.push { cls := .type "tuple", data := .seq its.toArray } } :=
    I1.laid (t' := s.toks) (fun b o e => Heap.get?_push_of_some _ e) (Nat.le_refl _) (show ObjOk X.prog X.w _ _ _ (.frz { cls := .type "tuple", data := .seq its.toArray } (.tup ys)) from ⟨Heap.get?_push_size _ rfl, hz, its, r', IsTup.new _ _⟩)
  exact ⟨.ref h'.objs.size, _, I2, rfl, q _ _ (I1.hok.fresh (Nat.le_refl _)) rfl rfl⟩
/-- dict(t) of such a tuple of pairs (key, value) -/
theorem call_dictT (hcalm : X.calm = true) : CallR X (.type "dict") (fun xs H Q => ∃ (a : Addr) (ob : Obj) (ps : List Addr) (kvs : List (Key × V)), xs = [.ref a] ∧ H a = some (.frz ob (.tup (ps.map V.ref))) ∧ ob.cls = .type "tuple" ∧ ob.dict = none ∧ Paired (fun p kv => SqT X.K H p [kV kv.1, kv.2]) ps kvs ∧
    ∀ p, H p = none → Q (.ref p) (upd H p (.dK (mergeK [] kvs)))) := by
  intro pins s σ H xs us Q I r q
  obtain ⟨a, ob, ps, kvs, ex, hq, hc, hd, hp, q⟩ := q
  subst ex
  obtain ⟨u, eu, rx⟩ := vals1 r
  subst eu
  cases rx
  obtain ⟨ho, hz, its, rv, o2, ho2, hc2, n, hdat⟩ := (show ObjOk X.prog X.w H s.heap a (.frz ob (.tup (ps.map V.ref))) from I.hok a _ hq)
  rw [ho] at ho2
  cases ho2
  have ei := refs_at rv
  subst ei
  rw [List.length_map] at hz
  obtain ⟨prs, rel, hl, hpr⟩ := pairs_of I hp
  obtain ⟨qs, ql, hqs⟩ := chooseL (P := fun j (y : Value × Value) => ∃ (b : Addr) (q : Key × Value), prs[j]? = some q ∧ ps[j]? = some b ∧ IsTup s.heap b #[y.1, y.2] ∧ y.2 = q.2 ∧ keyIs q.1 y.1 = true) prs.length fun j hj => by
    obtain ⟨b, u, e1, e2, e3⟩ := hpr j _ (List.getElem?_eq_getElem hj)
    exact ⟨(u, prs[j].2), b, prs[j], List.getElem?_eq_getElem hj, e1, e2, rfl, e3⟩
  have PA := PairArg.tuple (prog := X.prog) (w := X.w) a (ps.map Value.ref).toArray (fun j => ps.getD j 0) qs
  have okk : PlainSeq "tuple" s.heap a (ps.map Value.ref).toArray ∧ PairItems s.heap (ps.map Value.ref).toArray (fun j => ps.getD j 0) qs := by
    refine ⟨⟨ob, n, ho, hc, hd, hdat⟩, by rw [List.size_toArray, List.length_map, ql, hl], fun j k v hj => ?_⟩
    have hjl : j < prs.length := by
      rw [← ql]
      exact (List.getElem?_eq_some_iff.mp hj).1
    obtain ⟨y, h1, b, q0, h2, h3, h4, h5, h6⟩ := hqs j hjl
    rw [hj] at h1
    cases h1
    have eb : ps.getD j 0 = b := by rw [List.getD_eq_getElem?_getD, h3]; rfl
    refine ⟨?_, .inl ?_⟩
    · show _ = some (Value.ref (ps.getD j 0))
      rw [eb]
      simp [h3]
    · show s.heap.IsTuple (ps.getD j 0) #[k, v]
      rw [eb]
      exact h4
  have hp2 : PairsHave (mixKind X.prog X.w) qs.length (PairRel qs) prs := by
    refine ⟨ql.symm, fun i key v hi => ?_⟩
    have hil : i < prs.length := by
      rw [← ql]
      exact (List.getElem?_eq_some_iff.mp hi).1
    obtain ⟨y, h1, b, q0, h2, h3, h4, h5, h6⟩ := hqs i hil
    have hi' : qs[i]? = some (key, v) := hi
    rw [hi'] at h1
    cases h1
    refine ⟨q0.1, ?_, h6⟩
    rw [h2]
    dsimp only at h5
    rw [h5]
  refine PySem.call_dict_pairs (knd := mixKind X.prog X.w) (kvs := prs) PA (I.ok.hd hcalm) okk hp2 (by rw [ql, hl]; exact hz) fun h' tk hd' k => ?_
  have hm : (s.heap.objs.size == sysModules) = false := beq_eq_false_iff_ne.mpr (Nat.ne_of_gt I.big)
  have hlen : (mergeK [] kvs).length ≤ sizeLine := by
    refine Nat.le_trans (length_mergeK kvs []) ?_
    rw [List.length_nil, Nat.zero_add, rel.length, hl]
    exact hz
  exact ⟨.ref s.heap.objs.size, upd H s.heap.objs.size (.dK (mergeK [] kvs)), I.laid (t' := tk) (fun b o e => k b o (fun z => nomatch z) e) (Nat.le_refl _) (show ObjOk X.prog X.w _ _ _ (.dK (mergeK [] kvs)) from ⟨hlen, hm, merged [] prs, KV.merge rel .nil, hd'⟩), rfl, q _ (I.hok.fresh (Nat.le_refl _))⟩
end
end TLK

namespace TL
open PySem PySem.Spec L2
open PyProof.Rows hiding St
/-- tuple(l), the tuple told whole -/
def tupleKP : PL := fun vs S Q => match vs with
  | [v] => someP (lsqOf S v) fun xs => Q (.set xs) S
  | _ => False
def pairsOf : List Val → Option (List (Key × Val))
  | [] => some []
  | .tup [k, v] :: r => match keyV k, pairsOf r with
    | some k, some kvs => some ((k, v) :: kvs)
    | _, _ => none
  | _ => none
def mergeP (kvs more : List (Key × Val)) : List (Key × Val) := more.foldl (fun acc kv => dPut acc kv.1 kv.2) kvs
/-- dict(d), dict(t) of a tuple of pairs -/
def dictKP : PL := fun vs S Q => match vs with
  | [.set xs] => someP (pairsOf xs) fun kvs => newD (mergeP [] kvs) S Q
  | vs => dictP vs S Q
structure countP (x : Val) (vs : List Val) (S : Sto) (Q : VQ) : Prop where
  h : match vs with
    | [.int k] => someP (lsqOf S x) fun xs => someP (intsOf xs) fun ns => Q (.int (ns.count k : Nat)) S
    | _ => False
section
variable {X : Cx} {K : PySem.W.Frag} {B : Addr → Prop} {H : Hp} {S : Sto} {W : WX} {o a : Expr} {es : List Expr} {mo : IE} {pos : Pos}
abbrev rTupK (K : PySem.W.Frag) : List V → Hp → VK → Prop := fun xs H Q => ∃ p ys, xs = [.ref p] ∧ SqL K H p ys ∧ ∀ (l : Addr) (ob : Obj), H l = none → ob.cls = .type "tuple" → ob.dict = none → Q (.ref l) (upd H l (.frz ob (.tup ys)))
theorem tupleKP_ok : PLOk K tupleKP (rTupK K) := by
  intro B xs vs S H Qi Q r hr h q
  unfold tupleKP at h
  split at h
  · obtain ⟨v, rfl, r1⟩ := vs1 r
    obtain ⟨ys, e, h⟩ := someP_some h
    obtain ⟨p, us, rfl, h1, h2⟩ := lsqOf_sq hr r1 e
    refine ⟨p, us, rfl, h1, fun l ob hn hc hd => ?_⟩
    have ex : Ext S S H (upd H l (.frz ob (.tup us))) := Ext.new hn
    exact q (.set ys) S (.ref l) _ (.kt ⟨ob, upd_same, hc, hd, hr.free hn⟩ (h2.ext ex)) (hr.new hn) ex h
  · exact h.elim
abbrev rDictT (K : PySem.W.Frag) : List V → Hp → VK → Prop := fun xs H Q => ∃ (a : Addr) (ob : Obj) (ps : List Addr) (kvs : List (Key × V)), xs = [.ref a] ∧ H a = some (.frz ob (.tup (ps.map V.ref))) ∧ ob.cls = .type "tuple" ∧ ob.dict = none ∧ Paired (fun p kv => SqT K H p [kV kv.1, kv.2]) ps kvs ∧
    ∀ p, H p = none → Q (.ref p) (upd H p (.dK (mergeK [] kvs)))
theorem pairs_rv : ∀ {xs : List Val} {vs : List V} {kvs : List (Key × Val)}, RVs K B H S xs vs → pairsOf xs = some kvs →
    ∃ (ps : List Addr) (us : List (Key × V)), vs = ps.map V.ref ∧ Paired (fun p kv => SqT K H p [kV kv.1, kv.2]) ps us ∧ us.map (·.1) = kvs.map (·.1) ∧ RVs K B H S (kvs.map (·.2)) (us.map (·.2))
  | _, _, _, .nil, e => by
    cases e
    exact ⟨[], [], rfl, .nil, rfl, .nil⟩
  | x :: r, _, kvs, .cons rx t, e => by
    unfold pairsOf at e
    split at e
    · rename_i ex
      cases ex
    · rename_i k v r0 ex
      cases ex
      split at e
      · rename_i kk kvs0 e1 e2
        cases e
        obtain ⟨ps, us, h1, h2, h3, h4⟩ := pairs_rv t e2
        cases rx with
        | tup at_ rr =>
          cases rr with
          | cons rk rr =>
            cases rr with
            | cons rv rr =>
              cases rr
              rename_i av kv0 vv
              refine ⟨av :: ps, (kk, vv) :: us, by rw [h1]; rfl, .cons ?_ h2, by rw [List.map_cons, List.map_cons, h3], .cons rv h4⟩
              have ek := keyV_kV rk e1
              have := at_.sq
              rw [ek] at this
              exact this
      · cases e
    · cases e
theorem merge_rv : ∀ {more : List (Key × Val)} {mv : List (Key × V)} {kvs : List (Key × Val)} {us : List (Key × V)}, mv.map (·.1) = more.map (·.1) → RVs K B H S (more.map (·.2)) (mv.map (·.2)) → us.map (·.1) = kvs.map (·.1) → RVs K B H S (kvs.map (·.2)) (us.map (·.2)) →
    (mergeK us mv).map (·.1) = (mergeP kvs more).map (·.1) ∧ RVs K B H S ((mergeP kvs more).map (·.2)) ((mergeK us mv).map (·.2))
  | [], [], kvs, us, _, _, h3, h4 => ⟨h3, h4⟩
  | [], _ :: _, _, _, h1, _, _, _ => by cases h1
  | _ :: _, [], _, _, h1, _, _, _ => by cases h1
  | (k, v) :: more, (k2, v2) :: mv, kvs, us, h1, h2, h3, h4 => by
    rw [List.map_cons, List.map_cons] at h1
    injection h1 with h1a h1b
    dsimp only at h1a
    subst h1a
    rw [List.map_cons, List.map_cons] at h2
    cases h2 with
    | cons r t =>
      obtain ⟨p1, p2⟩ := dPut_put (k := k2) r h3 h4
      exact merge_rv (more := more) (mv := mv) (kvs := dPut kvs k2 v) (us := putK us k2 v2) h1b t p1 p2
theorem dictKP_ok : PLOk K dictKP (fun xs H Q => rDictCopy xs H Q ∨ rDictT K xs H Q) := by
  intro B xs vs S H Qi Q r hr h q
  unfold dictKP at h
  split at h
  · obtain ⟨v, rfl, r1⟩ := vs1 r
    obtain ⟨kvs, e, h⟩ := someP_some h
    cases r1 with
    | kt k r2 =>
      obtain ⟨ob, h1, h2, h3, h4, h5⟩ := k
      obtain ⟨ps, us, g1, g2, g3, g4⟩ := pairs_rv r2 e
      subst g1
      obtain ⟨m1, m2⟩ := merge_rv (kvs := []) (us := []) g3 g4 rfl .nil
      exact .inr ⟨_, ob, ps, us, rfl, h1, h2, h3, g2, q.dict hr m1 m2 h⟩
  · exact .inl (dictP_ok B _ _ S H Qi Q r hr h q)
theorem countP_ok : PMOk K countP (rCntI K) := by
  intro B x v xs vs S H Qi Q rx rs hr h q
  replace h := h.h
  split at h
  · obtain ⟨u, rfl, r1⟩ := vs1 rs
    cases r1
    obtain ⟨zs, e, h⟩ := someP_some h
    obtain ⟨ns, e2, h⟩ := someP_some h
    obtain ⟨p, rfl, h1⟩ := ints_sq hr rx e e2
    exact ⟨p, ns, _, rfl, rfl, h1, q.same hr (.int _) h⟩
  · exact h.elim
end
end TL
namespace TL
open PySem PySem.Spec L2
open PyProof.Rows hiding St
/-- a table of defs by texts -/
@[reducible] def tabP (kvs : List (Str × Str)) : P1 := fun x S Q => match x with
  | .str z => someP (kvs.lookup z) fun f => Q (.fn f) S
  | _ => False
/-- a def that a local name holds -/
@[reducible] def callLI (Γ : Calls) (dfs : List Str) (i : Nat) (as : IA) : IE := fun ρ S Q E => getS ρ i fun v => match v with
  | .fn f => dfs.contains f = true ∧ as ρ S (fun xs S1 => Γ f xs S1 Q E) E
  | _ => False
section
variable {X : Cx} {W : WX} {a b : Expr} {es : List Expr} {mb : IE} {pos p : Pos}
theorem se_tab {x : Str} {t : Addr} {kvs : List (Str × Str)} (hg : Gl X x) (hm : X.mg x = some (.ref t)) (hk : ∀ z f, kvs.lookup z = some f → KDct X.K X.w t z (.ref (He.ga X.K f))) (hd : (x == ("__debug__" : Str)) = false) (hb : PE X b (liftE X.K W mb)) (hs : sliceB b = false) :
    PE X (.Subscript (.Name x p) b pos) (liftE X.K W (un1 (tabP kvs) mb)) :=
  (pe_ix ix_kdict (pe_glob (v := .ref t) hg hm (show RelV (.ref t) (.ref t) from rfl) hd) hb (plainIx_of hs)).imp fun σ H Q ⟨ρ, S, B, Qi, Ei, R, h, q, er⟩ =>
    ⟨ρ, S, B, _, Ei, R, h, fun v S1 y H1 rv hr1 e h1 => by
      cases v with
      | str z =>
        cases rv
        obtain ⟨f, e1, h1⟩ := someP_some h1
        exact ⟨t, _, _, rfl, rfl, hk _ _ e1, q (.fn f) S1 _ H1 (.fn f) hr1 e h1⟩
      | _ => exact (show False from h1).elim, er⟩
theorem se_callL {Γ : Calls} {dfs : List Str} {i k : Nat} {x : Str} {mr : IA} (D : ∀ f, f ∈ dfs → ∃ fd ps, DefOk X k Γ f fd ps) (hr : Room k X.A) (tk : Takes X W) (hN : X.N[i]? = some x) (hv : Vis X.env.scope x) (hdb : (x == ("__debug__" : Str)) = false) (hcd : (x == ("__classdict__" : Str)) = false)
    (hs : (a :: es).any starB = false) (ha : PA X (a :: es) (liftA X.K W mr)) : PE X (.Call (.Name x p) (a :: es) [] pos) (liftE X.K W (callLI Γ dfs i mr)) := by
  have h1 : (starB a || es.any starB) = false := hs
  obtain ⟨h1, h2⟩ := Bool.or_eq_false_iff.mp h1
  refine ⟨fun pins s σ H Q I ⟨ρ, S, B, Qi, Ei, R, h, q, er⟩ => ?_⟩
  obtain ⟨v, e1, h⟩ := getS_some h
  obtain ⟨y, e2, rv⟩ := R.st.2 i v e1
  split at h
  · rename_i f
    cases rv
    obtain ⟨hf, h⟩ := h
    obtain ⟨fd, ps, Df⟩ := D f (by simpa using hf)
    have slot : wpAny (model X.prog X.w) X.A (eval (.Name x p) X.env) (EP X pins σ fun z H1 => z = .ref (He.ga X.K f) ∧ H1 = H) X.xe s :=
      (pe_var (pos := p) hN hv hdb hcd).run pins s σ H _ I ⟨_, e2, rfl, rfl⟩
    refine wpAny_Call_Name_kw (thn slot ?_)
    rintro u s1 ⟨z, H1, I1, r1, rfl, rfl⟩
    cases r1
    have args := ha.run pos pins s1 σ H1 (fun ys H2 => spG X.K Γ f ys H2 Q (WE W σ)) I1 ⟨ρ, S, B, _, Ei, R, h, fun vs S1 xs H2 rv hr1 e h1 => ⟨vs, S1, B, Qi, Ei, rv, hr1, h1, q.ext e, er.ext e⟩, er⟩
    exact PySem.W.callWith_K I.ok.mod.kin Df.kp (thn args fun us s2 ⟨vs, H2, I2, r, q2⟩ => ⟨I2.kIn, run_fnS Df.ok hr Df.bi (passAt tk σ) I2 r q2⟩) (starEach_one h1) (backTo_plain h2)
  · exact h.elim
end
end TL

/-! TLd: del x[a:]. -/
namespace TL
open PySem PySem.Spec L2
theorem keep_take {α : Type} {sel : Nat → Bool} : ∀ (xs : List α) (i a : Nat), (∀ k, i ≤ k → k < i + xs.length → sel k = decide (a ≤ k)) → (xs.zipIdx i).filterMap (fun p => if sel p.2 = true then none else some p.1) = xs.take (a - i)
  | [], i, a, _ => by rw [List.take_nil]; rfl
  | x :: xs, i, a, h => by
    have h0 := h i (Nat.le_refl _) (by simp)
    have ih := keep_take xs (i + 1) a fun k h1 h2 => h k (by omega) (by rw [List.length_cons]; omega)
    rw [List.zipIdx_cons, List.filterMap_cons]
    by_cases c : a ≤ i
    · rw [decide_eq_true c] at h0
      simp only [h0, if_true]
      rw [ih, show a - (i + 1) = 0 from by omega, show a - i = 0 from by omega]
      simp
    · rw [decide_eq_false c] at h0
      simp only [h0, Bool.false_eq_true, if_false]
      rw [ih, show a - i = (a - (i + 1)) + 1 from by omega, List.take_succ_cons]
theorem keep_take' {α : Type} {sel : Nat → Bool} (xs : List α) (a : Nat) (h : ∀ k, k < xs.length → sel k = decide (a ≤ k)) : xs.zipIdx.filterMap (fun x => match x with
    | (x, k) => if sel k = true then none else some x) = xs.take a := by
  have := keep_take (sel := sel) xs 0 a fun k _ hk => h k (by omega)
  rw [Nat.sub_zero] at this
  exact this
theorem delItem_tail {prog : Program} {w : World} {A : Around} {E : Value → Shared → Prop} {s : Shared} {l sl : Addr} {items : Array Value} {n : Nat} {vl : Value} {a : Nat} {lo : Option Int} {Q : Unit → Shared → Prop}
    (e : s.heap.get? l = some { cls := Value.type "list", data := Data.seq items n }) (hs : s.heap.IsSliceOf sl vl Value.none Value.none) (pl : IsPart vl lo) (hbd : sliceBounds lo none none items.size = ((a : Int), (items.size : Int), 1)) (hz : items.size ≤ sizeLine)
    (h : ∀ f : Array Value → Array Value, f items = (items.toList.take a).toArray → Q () { heap := s.heap.update l (Obj.mapSeq f), gens := s.gens, drawn := s.drawn, toks := s.toks, os := s.os }) :
    wpAny (model prog w) A (delItem (Value.ref l) (Value.ref sl)) Q E s := by
  have hl : s.heap.IsList l items := IsL.isList e
  obtain ⟨os, hos, hcs, hds⟩ := id hs
  have hTs : s.TypeIs (Value.ref sl) "slice" := ⟨os, hos, hcs⟩
  refine wpAny_delItem_slot hl.typeIs (by decide) F.slot_list_delitem (wpAny_call_entry F.slot_list_delitem hl.typeIs F.entry_list_delitem ?_ (F.args_list_delitem_2 _ _))
  unfold Builtin.«list.__delitem__»
  refine wpAny_bind (wpAny_pure ?_)
  refine wpAny_bind ?_
  unfold Builtin.List.listSubscript?
  refine wpAny_bind (wpAny_specialOf hTs slice_no_index ?_)
  refine wpAny_pure ?_
  refine wpAny_bind (wpAny_typeOf hTs ?_)
  rw [if_neg (by decide)]
  refine wpAny_bind ?_
  rw [listSliceParts_eq]
  refine wpAny_bind (wpAny_field hos hds rfl (wpAny_bind (wpAny_listPart IsPart.none ?_)))
  rw [if_neg (by decide)]
  refine wpAny_bind (wpAny_field hos hds rfl (wpAny_bind (wpAny_listPart pl ?_)))
  refine wpAny_bind (wpAny_field hos hds rfl (wpAny_bind (wpAny_listPart IsPart.none (wpAny_pure ?_))))
  refine wpAny_bind (wpAny_listItems e rfl ?_)
  refine wpAny_bind (wpAny_of_eq (sliceIndices_raw lo none none items.size nofun) ?_)
  rw [hbd]
  refine wpAny_bind (wpAny_rule ?_)
  have key : ∀ k, k < items.toList.length → (if (1 : Int) > 0 then (decide ((a : Int) ≤ (k : Int)) && decide ((k : Int) < (items.size : Int)) && (((k : Int) - (a : Int)) % 1 == 0)) else (decide ((items.size : Int) < (k : Int)) && decide ((k : Int) ≤ (a : Int)) && (((a : Int) - (k : Int)) % (-1) == 0))) = decide (a ≤ k) := fun k hk => by
    have hk : k < items.size := by simpa using hk
    rw [if_pos (by decide), Int.emod_one]
    have h1 : decide ((k : Int) < (items.size : Int)) = true := decide_eq_true (by omega)
    rw [h1]
    simp
  refine wpAny_bind (PyProof.Rows.listUpdate_at e rfl ?_ (by omega) ?_)
  · refine wpAny_bind (wpAny_letGo (wpAny_pure ⟨_, rfl, ?_⟩))
    exact h _ (congrArg List.toArray (keep_take' items.toList a key))
  · refine Nat.le_trans (Nat.le_of_eq (congrArg Array.size (congrArg List.toArray (keep_take' items.toList a key)))) ?_
    rw [List.size_toArray, List.length_take]
    have : items.toList.length = items.size := by simp
    omega
/-- .. in the layer -/
theorem del_tail {X : Cx} {pins : List (Addr × Obj)} {s : Shared} {σ : L2.St} {H : Hp} {l sl : Addr} {xs : List V} {lo : Option Int} {vl : Value} {Q : Unit → Shared → Prop} (I : L2.Inv X pins σ H s) (hH : H l = some (.lst xs)) (hs : s.heap.IsSliceOf sl vl Value.none Value.none) (pl : IsPart vl lo) (hz : xs.length ≤ sizeLine)
    (h : ∀ s', L2.Inv X pins σ (upd H l (.lst (xs.take (HT.sIx xs.length 0 lo)))) s' → Q () s') : wpAny (model X.prog X.w) X.A (delItem (Value.ref l) (Value.ref sl)) Q X.xe s := by
  obtain ⟨z, its, n, r, hl, e⟩ := Inv.lstM I hH
  have q := slice_bounds lo none its.toArray.size
  have es : its.toArray.size = xs.length := by rw [List.size_toArray]; omega
  refine delItem_tail (a := HT.sIx xs.length 0 lo) e hs pl ?_ (by rw [es]; exact hz) fun f hf => h _ (Inv.lset I hH e hf (Vals.take _ r) ?_)
  · rw [es] at q
    rw [es]
    exact Prod.ext q.1 (Prod.ext q.2.1 q.2.2)
  · rw [List.length_take]
    omega
def _root_.L2.tDelS (to : TE) (tl : TO) : TS := fun D σ H => to σ H fun o H1 => tl σ H1 fun l H2 => ∃ (a : Addr) (xs : List V), o = .ref a ∧ H2 a = some (.lst xs) ∧ xs.length ≤ sizeLine ∧ D.nx σ (upd H2 a (.lst (xs.take (HT.sIx xs.length 0 l))))
theorem ps_delS {X : Cx} {o : Expr} {lo : Option Expr} {p2 tpos pos : Pos} {to : TE} {tl : TO} (ho : PE X o to) (hl : PO X lo tl) : PS X (.Delete [.Subscript o (.Slice lo none none p2) tpos] pos) (tDelS to tl) := by
  refine ⟨fun pins s σ H D I h => ?_⟩
  refine wpAny_Delete (wpAny_deleteEach_cons (wpAny_delete_Subscript (thn (ho.run pins s σ H _ I h) fun u s1 ⟨x, H1, I1, rx, q1⟩ => wpAny_Slice (thn (hl.run pins s1 σ H1 _ I1 q1) ?_))))
  rintro vl s2 ⟨k, H2, I2, pl, q2⟩
  rw [evalPart_none]
  refine wpAny_pure ?_
  refine wpAny_pure ?_
  have I4 := Inv.kept (t' := s2.toks) I2 fun b ob q => Heap.get?_push_of_some { cls := Value.type "slice", data := Data.fields #[vl, Value.none, Value.none] } q
  obtain ⟨a, xs, rfl, g1, g2, g3⟩ := q2
  cases rx
  exact del_tail I4 g1 (Heap.IsSliceOf.new s2.1 vl Value.none Value.none) pl g2 fun s3 I3 => wpAny_deleteEach_nil ⟨σ, _, I3, g3⟩
/-! the plain meaning -/
def delSl0 (o : Val) (lo : Option Int) (S : Sto) (Kn : Sto → Prop) : Prop := putI o S fun a xs => xs.length ≤ sizeLine ∧ Kn (S.put a (.lst (xs.take (HT.sIx xs.length 0 lo))))
structure delSl (o : Val) (lo : Option Int) (S : Sto) (Kn : Sto → Prop) : Prop where
  h : delSl0 o lo S Kn
@[reducible] def sdelI (o : IE) (lo : IO) : IS := fun D ρ S => o ρ S (fun x S1 => lo ρ S1 (fun l S2 => delSl x l S2 fun S3 => D.nx ρ S3) (D.ex ρ)) (D.ex ρ)
section
variable {X : Cx} {W : WX} {o : Expr} {lo : Option Expr} {mo : IE} {ml : IO} {p p2 pos : Pos}
theorem ss_sdel (ho : PE X o (liftE X.K W mo)) (hl : PO X lo (liftO X.K W ml)) : PS X (.Delete [.Subscript o (.Slice lo none none p2) p] pos) (liftS X.K W (sdelI mo ml)) :=
  (ps_delS ho hl).imp fun D σ H ⟨ρ, S, B, Di, R, h, d⟩ => ⟨ρ, S, B, _, _, R, h, fun u S1 y H1 ru hr1 e1 h1 => ⟨ρ, S1, B, _, _, R.ext e1 hr1, h1, fun l S2 H2 hr2 e2 h2 => by
      have ru := ru.ext e2
      replace h2 := h2.h
      unfold delSl0 putI at h2
      split at h2
      · cases ru
        split at h2
        · rename_i a _ ys q0
          obtain ⟨us, g1, g2⟩ := hr2.ok _ _ q0
          obtain ⟨t1, h3⟩ := h2
          have l1 := g2.length
          rw [l1] at t1 h3
          have e5 : Ext S2 (S2.put a (.lst (ys.take (HT.sIx us.length 0 l)))) H2 (upd H2 a (.lst (us.take (HT.sIx us.length 0 l)))) := Ext.write q0
          have ea := e1.trans (e2.trans e5)
          exact ⟨a, us, rfl, g1, t1, d.nx ρ _ σ _ (R.ext ea (hr2.write (c := .lst _) q0 ⟨_, upd_same, (g2.take _).ext e5⟩)) ea h3⟩
        · exact h2.elim
      · exact h2.elim,
      (d.ext e1).er (R.st.ext e1)⟩, d.er R.st⟩
end
end TL

set_option maxHeartbeats 1000000
/-! TLq: tuple(zip(t, l)) of a tuple and a list, told whole. Two iterators of any sort, told by what they do (Itr). -/
namespace TLQ
open PySem PySem.Spec L2
open PyProof.Rows hiding St
/-- the iterator at i walks ys, which lies at l; St h k: it stands at k -/
structure Itr (prog : Program) (w : World) (i l : Addr) (ys : Array Value) (St : Heap → Nat → Prop) : Prop where
  item : ∀ {A : Around} {E : Value → Shared → Prop} {s : Shared} {k : Nat} {y : Value} {Q : Value → Shared → Prop}, St s.heap k → ys[k]? = some y → (∀ h', St h' (k + 1) → Heap.SameBut i s.heap h' → Q y { s with heap := h' }) → wpAny (model prog w) A (Builtin.SmallTypes.nextOf (.ref i)) Q E s
  fin : ∀ {A : Around} {E : Value → Shared → Prop} {s : Shared} {k : Nat} {Q : Value → Shared → Prop}, A.handled = none → St s.heap k → ys[k]? = none → (∀ h' e, Heap.ExtBut i s.heap h' → (∃ o, h'.get? e = some o ∧ o.cls = .type "StopIteration") → E (.ref e) { s with heap := h' }) → wpAny (model prog w) A (Builtin.SmallTypes.nextOf (.ref i)) Q E s
  keep : ∀ {h h' : Heap} {k : Nat}, St h k → (∀ b o, b = i ∨ b = l → h.get? b = some o → h'.get? b = some o) → St h' k
section
variable {prog : Program} {w : World} {i l : Addr} {ys : Array Value}
theorem itr_tup (hne : l ≠ i) : Itr prog w i l ys fun h k => h.IsTupleIter i l k ∧ h.IsTuple l ys where
  item := fun ⟨a, b⟩ e q => RZ.nextOf_tuple_item a b e fun h' c d => q h' ⟨c, b.extBut d.extBut hne⟩ d
  fin := fun hh ⟨a, b⟩ e q => RZ.nextOf_tuple_end hh a b e q
  keep := fun ⟨a, o, e, r⟩ f => ⟨a.at fun o e => f _ o (.inl rfl) e, o, f _ _ (.inr rfl) e, r⟩
theorem itr_lst (hne : l ≠ i) : Itr prog w i l ys fun h k => h.IsListIter i l k ∧ h.IsList l ys where
  item := fun ⟨a, b⟩ e q => wpAny_nextOf_list_item a b e fun h' c d => q h' ⟨c, b.extBut d.extBut hne⟩ d
  fin := fun hh ⟨a, b⟩ e q => wpAny_nextOf_list_end hh a b e q
  keep := fun ⟨⟨o1, e1, r1⟩, o, e, r⟩ f => ⟨⟨o1, f _ _ (.inl rfl) e1, r1⟩, o, f _ _ (.inr rfl) e, r⟩
end
/-- the zip at n + 4, made of what lies at l1, l2 below n -/
def Out (n S : Nat) (h : Heap) : Prop := (IsZip h (n + 4) (n + 2) (n + 3) .none ∧ ∃ x y, IsPair h (n + 3) x y) ∨ ∃ (T : Nat) (f : Bool) (oT : Obj), IsZipHeld h (n + 4) (n + 2) (n + 3) T f ∧ h.get? T = some oT ∧ n + 5 ≤ T ∧ T ≠ S
structure ZS (S1 S2 : Heap → Nat → Prop) (n S : Nat) (h : Heap) (k : Nat) : Prop where
  pair : IsPair h (n + 2) (.ref n) (.ref (n + 1))
  a : S1 h k
  b : S2 h k
  out : Out n S h
section
variable {prog : Program} {w : World} {A : Around} {E : Value → Shared → Prop} {s : Shared} {n l1 l2 S : Nat} {xs ys : Array Value} {S1 S2 : Heap → Nat → Prop} {k : Nat}
/-- what a step keeps -/
def Kept (n : Nat) (h h' : Heap) : Prop := ∀ (c : Nat) (o : Obj), (c < n ∨ n + 5 ≤ c) → h.get? c = some o → h'.get? c = some o
theorem step_item (h1 : l1 < n) (h2 : l2 < n) (J1 : Itr prog w n l1 xs S1) (J2 : Itr prog w (n + 1) l2 ys S2) {x y : Value} {Q : Value → Shared → Prop} (Z : ZS S1 S2 n S s.heap k) (hS : S < s.heap.objs.size) (hx : xs[k]? = some x) (hy : ys[k]? = some y)
    (q : ∀ h', ZS S1 S2 n S h' (k + 1) → IsPair h' s.heap.objs.size x y → h'.objs.size = s.heap.objs.size + 1 → Kept n s.heap h' → Q (.ref s.heap.objs.size) { s with heap := h' }) :
    wpAny (model prog w) A (Builtin.«zip.__next__» ⟨[.ref (n + 4)], []⟩) (fun fin s' => ∃ v, fin = .done (.ret v) ∧ Q v s') E s := by
  obtain ⟨hp, ha, hb, ho⟩ := Z
  rcases ho with ⟨hz, p0, q0, hTO⟩ | ⟨T, f, oT, hz, hT, t1, t2⟩
  · show wpAny _ _ (field (.ref (n + 4)) 2 >>= _) _ _ _
    refine wpAny_bind (wpAny_field hz rfl (x := .bool false) rfl ?_)
    show wpAny _ _ (field (.ref (n + 4)) 3 >>= _) _ _ _
    refine wpAny_bind (wpAny_field hz rfl (x := .ref (n + 2)) rfl (wpAny_bind (wpAny_seqItems hp rfl ?_)))
    show wpAny _ _ (Builtin.SmallTypes.ownedTupleIsFree (.ref (n + 4)) >>= _) _ _ _
    refine wpAny_bind ?_
    unfold Builtin.SmallTypes.ownedTupleIsFree
    refine wpAny_bind (wpAny_field hz rfl (x := .none) rfl (wpAny_pure ?_))
    simp only [if_true]
    refine wpAny_bind (wpAny_rule (wpAny_bind (wpAny_field hz rfl (x := .ref (n + 3)) rfl (wpAny_bind (wpAny_setField_rec hz (by simp) fun g1 z1 e1 => ?_)))))
    replace z1 : IsZip g1 (n + 4) (n + 2) (n + 3) .ellipsis := z1
    refine wpAny_bind ?_
    simp only [List.zipIdx_cons, List.zipIdx_nil, List.forIn_cons, List.forIn_nil]
    refine wpAny_bind (wpAny_bind (wpAny_onRaise ?_))
    show wpAny _ _ (Builtin.SmallTypes.nextOf (.ref n) >>= _) _ _ _
    have a1 : S1 g1 k := J1.keep ha fun b o hbo e => e1.extBut _ _ (by rcases hbo with rfl | rfl <;> (first | omega | (show @Ne Nat _ _; omega))) e
    have b1 : S2 g1 k := J2.keep hb fun b o hbo e => e1.extBut _ _ (by rcases hbo with rfl | rfl <;> (first | omega | (show @Ne Nat _ _; omega))) e
    refine wpAny_bind (J1.item (s := { s with heap := g1 }) a1 hx fun g2 a2 e2 => wpAny_pure ?_)
    have o2 : IsPair g2 (n + 3) p0 q0 := e2.extBut _ _ (by (first | omega | (show @Ne Nat _ _; omega))) (e1.extBut _ _ (by (first | omega | (show @Ne Nat _ _; omega))) hTO)
    refine wpAny_bind (wpAny_seqItems o2 rfl (wpAny_bind (wpAny_updateSeq_pair o2 fun g3 o3 e3 => wpAny_bind (wpAny_letGo (wpAny_pure ?_)))))
    replace o3 : IsPair g3 (n + 3) x q0 := o3
    refine wpAny_bind (wpAny_bind (wpAny_onRaise ?_))
    show wpAny _ _ (Builtin.SmallTypes.nextOf (.ref (n + 1)) >>= _) _ _ _
    have b3 : S2 g3 k := J2.keep b1 fun b o hbo e => e3.extBut _ _ (by rcases hbo with rfl | rfl <;> (first | omega | (show @Ne Nat _ _; omega))) (e2.extBut _ _ (by rcases hbo with rfl | rfl <;> (first | omega | (show @Ne Nat _ _; omega))) e)
    refine wpAny_bind (J2.item (s := { s with heap := g3 }) b3 hy fun g4 b4 e4 => wpAny_pure ?_)
    have o4 : IsPair g4 (n + 3) x q0 := e4.extBut _ _ (by (first | omega | (show @Ne Nat _ _; omega))) o3
    refine wpAny_bind (wpAny_seqItems o4 rfl (wpAny_bind (wpAny_updateSeq_pair o4 fun g5 o5 e5 => wpAny_bind (wpAny_letGo (wpAny_pure (wpAny_pure ?_))))))
    replace o5 : IsPair g5 (n + 3) x y := o5
    refine wpAny_bind (wpAny_seqItems o5 rfl (wpAny_bind (wpAny_newTuple ?_)))
    have sz : g5.objs.size = s.heap.objs.size := by rw [e5.1, e4.1, e3.1, e2.1, e1.1]
    have z5 : IsZip g5 (n + 4) (n + 2) (n + 3) .ellipsis := e5.extBut _ _ (by (first | omega | (show @Ne Nat _ _; omega))) (e4.extBut _ _ (by (first | omega | (show @Ne Nat _ _; omega))) (e3.extBut _ _ (by (first | omega | (show @Ne Nat _ _; omega))) (e2.extBut _ _ (by (first | omega | (show @Ne Nat _ _; omega))) z1)))
    have kp5 : ∀ (c : Nat) (o : Obj), c ≠ n → c ≠ n + 1 → c ≠ n + 3 → c ≠ n + 4 → s.heap.get? c = some o → g5.get? c = some o := fun c o c1 c2 c3 c4 e => e5.extBut _ _ c3 (e4.extBut _ _ c2 (e3.extBut _ _ c3 (e2.extBut _ _ c1 (e1.extBut _ _ c4 e))))
    have a5 : S1 g5 (k + 1) := J1.keep a2 fun b o hbo e => e5.extBut _ _ (by rcases hbo with rfl | rfl <;> (first | omega | (show @Ne Nat _ _; omega))) (e4.extBut _ _ (by rcases hbo with rfl | rfl <;> (first | omega | (show @Ne Nat _ _; omega))) (e3.extBut _ _ (by rcases hbo with rfl | rfl <;> (first | omega | (show @Ne Nat _ _; omega))) e))
    have b5 : S2 g5 (k + 1) := J2.keep b4 fun b o hbo e => e5.extBut _ _ (by rcases hbo with rfl | rfl <;> (first | omega | (show @Ne Nat _ _; omega))) e
    have zl : n + 4 < g5.objs.size := Heap.lt_size z5
    show wpAny _ _ (Builtin.SmallTypes.ownedTupleHandOut (.ref (n + 4)) (.ref g5.objs.size) >>= _) _ _ _
    refine wpAny_bind ?_
    unfold Builtin.SmallTypes.ownedTupleHandOut
    refine wpAny_bind (wpAny_setField_rec (Heap.get?_push_of_some _ z5) (by simp) fun g7 z7 e7 => ?_)
    replace z7 : IsZip g7 (n + 4) (n + 2) (n + 3) (rawInt g5.objs.size) := z7
    refine wpAny_setField_rec z7 (by simp) fun g8 z8 e8 => wpAny_pure ⟨_, rfl, ?_⟩
    replace z8 : IsZipHeld g8 (n + 4) (n + 2) (n + 3) g5.objs.size false := z8
    have up : ∀ (c : Nat) (o : Obj), c ≠ n + 4 → g5.get? c = some o → g8.get? c = some o := fun c o c1 e => e8.extBut _ _ c1 (e7.extBut _ _ c1 (Heap.get?_push_of_some _ e))
    have t8 : IsPair g8 g5.objs.size x y := e8.extBut _ _ (by (first | omega | (show @Ne Nat _ _; omega))) (e7.extBut _ _ (by (first | omega | (show @Ne Nat _ _; omega))) (Heap.get?_push_size _ rfl))
    have s8 : g8.objs.size = g5.objs.size + 1 := by rw [e8.1, e7.1, Heap.size_push]
    show Q (.ref g5.objs.size) _
    rw [sz] at t8 s8 z8 zl ⊢
    exact q g8 ⟨up _ _ (by (first | omega | (show @Ne Nat _ _; omega))) (kp5 _ _ (by (first | omega | (show @Ne Nat _ _; omega))) (by (first | omega | (show @Ne Nat _ _; omega))) (by (first | omega | (show @Ne Nat _ _; omega))) (by (first | omega | (show @Ne Nat _ _; omega))) hp), J1.keep a5 fun b o hbo e => up _ _ (by rcases hbo with rfl | rfl <;> (first | omega | (show @Ne Nat _ _; omega))) e, J2.keep b5 fun b o hbo e => up _ _ (by rcases hbo with rfl | rfl <;> (first | omega | (show @Ne Nat _ _; omega))) e, .inr ⟨_, false, _, z8, t8, by (first | omega | (show @Ne Nat _ _; omega)), by (first | omega | (show @Ne Nat _ _; omega))⟩⟩ t8 s8 fun c o hc e => up c o (by (first | omega | (show @Ne Nat _ _; omega))) (kp5 c o (by (first | omega | (show @Ne Nat _ _; omega))) (by (first | omega | (show @Ne Nat _ _; omega))) (by (first | omega | (show @Ne Nat _ _; omega))) (by (first | omega | (show @Ne Nat _ _; omega))) e)
  · show wpAny _ _ (field (.ref (n + 4)) 2 >>= _) _ _ _
    refine wpAny_bind (wpAny_field hz rfl (x := .bool false) rfl ?_)
    show wpAny _ _ (field (.ref (n + 4)) 3 >>= _) _ _ _
    refine wpAny_bind (wpAny_field hz rfl (x := .ref (n + 2)) rfl (wpAny_bind (wpAny_seqItems hp rfl ?_)))
    show wpAny _ _ (Builtin.SmallTypes.ownedTupleIsFree (.ref (n + 4)) >>= _) _ _ _
    refine wpAny_bind (wpAny_tupleHeld_zip hz hT fun g1 z1 e1 => ?_)
    simp only [Bool.false_eq_true, if_false]
    refine wpAny_bind ?_
    rw [← Array.forIn_toList]
    simp only [List.forIn_cons, List.forIn_nil]
    refine wpAny_bind (wpAny_bind (wpAny_holding ?_))
    show wpAny _ _ (Builtin.SmallTypes.nextOf (.ref n) >>= _) _ _ _
    have a1 : S1 g1 k := J1.keep ha fun b o hbo e => e1.extBut _ _ (by rcases hbo with rfl | rfl <;> (first | omega | (show @Ne Nat _ _; omega))) e
    have b1 : S2 g1 k := J2.keep hb fun b o hbo e => e1.extBut _ _ (by rcases hbo with rfl | rfl <;> (first | omega | (show @Ne Nat _ _; omega))) e
    refine wpAny_bind (J1.item (s := { s with heap := g1 }) a1 hx fun g2 a2 e2 => wpAny_pure (wpAny_pure ?_))
    refine wpAny_bind (wpAny_bind (wpAny_holding ?_))
    show wpAny _ _ (Builtin.SmallTypes.nextOf (.ref (n + 1)) >>= _) _ _ _
    have b2 : S2 g2 k := J2.keep b1 fun b o hbo e => e2.extBut _ _ (by rcases hbo with rfl | rfl <;> (first | omega | (show @Ne Nat _ _; omega))) e
    refine wpAny_bind (J2.item (s := { s with heap := g2 }) b2 hy fun g3 b3 e3 => wpAny_pure (wpAny_pure (wpAny_pure ?_)))
    show wpAny _ _ (newTuple [x, y] >>= _) _ _ _
    refine wpAny_bind (wpAny_newTuple ?_)
    have sz : g3.objs.size = s.heap.objs.size := by rw [e3.1, e2.1, e1.1]
    have z3 : IsZipHeld g3 (n + 4) (n + 2) (n + 3) T true := e3.extBut _ _ (by (first | omega | (show @Ne Nat _ _; omega))) (e2.extBut _ _ (by (first | omega | (show @Ne Nat _ _; omega))) z1)
    have kp : ∀ (c : Nat) (o : Obj), c ≠ n → c ≠ n + 1 → c ≠ n + 4 → s.heap.get? c = some o → g3.get? c = some o := fun c o c1 c2 c4 e => e3.extBut _ _ c2 (e2.extBut _ _ c1 (e1.extBut _ _ c4 e))
    have a3 : S1 g3 (k + 1) := J1.keep a2 fun b o hbo e => e3.extBut _ _ (by rcases hbo with rfl | rfl <;> (first | omega | (show @Ne Nat _ _; omega))) e
    refine wpAny_pure ⟨_, rfl, ?_⟩
    show Q (.ref g3.objs.size) _
    have t4 : IsPair (g3.push { cls := .type "tuple", data := .seq #[x, y] }) g3.objs.size x y := Heap.get?_push_size _ rfl
    have s4 : (g3.push { cls := .type "tuple", data := .seq #[x, y] }).objs.size = g3.objs.size + 1 := Heap.size_push ..
    rw [sz] at t4 s4 ⊢
    exact q _ ⟨Heap.get?_push_of_some _ (kp _ _ (by (first | omega | (show @Ne Nat _ _; omega))) (by (first | omega | (show @Ne Nat _ _; omega))) (by (first | omega | (show @Ne Nat _ _; omega))) hp), J1.keep a3 fun b o _ e => Heap.get?_push_of_some _ e, J2.keep b3 fun b o _ e => Heap.get?_push_of_some _ e, .inr ⟨T, true, oT, Heap.get?_push_of_some _ z3, Heap.get?_push_of_some _ (kp _ _ (by (first | omega | (show @Ne Nat _ _; omega))) (by (first | omega | (show @Ne Nat _ _; omega))) (by (first | omega | (show @Ne Nat _ _; omega))) hT), t1, t2⟩⟩ t4 s4 fun c o hc e => Heap.get?_push_of_some _ (kp c o (by (first | omega | (show @Ne Nat _ _; omega))) (by (first | omega | (show @Ne Nat _ _; omega))) (by (first | omega | (show @Ne Nat _ _; omega))) e)
theorem step_end (hh : A.handled = none) (h1 : l1 < n) (h2 : l2 < n) (J1 : Itr prog w n l1 xs S1) (J2 : Itr prog w (n + 1) l2 ys S2) {Q : Fin → Shared → Prop} (Z : ZS S1 S2 n S s.heap k) (hend : xs[k]? = none ∨ ys[k]? = none)
    (q : ∀ h' e, Kept n s.heap h' → (∃ o, h'.get? e = some o ∧ o.cls = .type "StopIteration") → E (.ref e) { s with heap := h' }) :
    wpAny (model prog w) A (Builtin.«zip.__next__» ⟨[.ref (n + 4)], []⟩) Q E s := by
  obtain ⟨hp, ha, hb, ho⟩ := Z
  rcases ho with ⟨hz, p0, q0, hTO⟩ | ⟨T, f, oT, hz, hT, t1, t2⟩
  · show wpAny _ _ (field (.ref (n + 4)) 2 >>= _) _ _ _
    refine wpAny_bind (wpAny_field hz rfl (x := .bool false) rfl ?_)
    show wpAny _ _ (field (.ref (n + 4)) 3 >>= _) _ _ _
    refine wpAny_bind (wpAny_field hz rfl (x := .ref (n + 2)) rfl (wpAny_bind (wpAny_seqItems hp rfl ?_)))
    show wpAny _ _ (Builtin.SmallTypes.ownedTupleIsFree (.ref (n + 4)) >>= _) _ _ _
    refine wpAny_bind ?_
    unfold Builtin.SmallTypes.ownedTupleIsFree
    refine wpAny_bind (wpAny_field hz rfl (x := .none) rfl (wpAny_pure ?_))
    simp only [if_true]
    refine wpAny_bind (wpAny_rule (wpAny_bind (wpAny_field hz rfl (x := .ref (n + 3)) rfl (wpAny_bind (wpAny_setField_rec hz (by simp) fun g1 z1 e1 => ?_)))))
    replace z1 : IsZip g1 (n + 4) (n + 2) (n + 3) .ellipsis := z1
    refine wpAny_bind ?_
    simp only [List.zipIdx_cons, List.zipIdx_nil, List.forIn_cons, List.forIn_nil]
    refine wpAny_bind (wpAny_bind (wpAny_onRaise ?_))
    show wpAny _ _ (Builtin.SmallTypes.nextOf (.ref n) >>= _) _ _ _
    have a1 : S1 g1 k := J1.keep ha fun b o hbo e => e1.extBut _ _ (by rcases hbo with rfl | rfl <;> (first | omega | (show @Ne Nat _ _; omega))) e
    have b1 : S2 g1 k := J2.keep hb fun b o hbo e => e1.extBut _ _ (by rcases hbo with rfl | rfl <;> (first | omega | (show @Ne Nat _ _; omega))) e
    cases hx : xs[k]? with
    | none =>
      refine wpAny_bind (J1.fin (s := { s with heap := g1 }) hh a1 hx fun g2 e e2 he => ?_)
      obtain ⟨oe, hoe, hce⟩ := he
      have z2 : IsZip g2 (n + 4) (n + 2) (n + 3) .ellipsis := e2 _ _ (by (first | omega | (show @Ne Nat _ _; omega))) z1
      have hez : e ≠ n + 4 := fun x => by subst x; rw [z2] at hoe; cases hoe; simp at hce
      exact wpAny_setField_rec z2 (by simp) fun g3 _ e3 => q g3 e (fun c o hc x => e3.extBut _ _ (by (first | omega | (show @Ne Nat _ _; omega))) (e2 _ _ (by (first | omega | (show @Ne Nat _ _; omega))) (e1.extBut _ _ (by (first | omega | (show @Ne Nat _ _; omega))) x))) ⟨oe, e3.extBut _ _ hez hoe, hce⟩
    | some x =>
      have hy : ys[k]? = none := by rcases hend with h | h; rw [hx] at h; cases h; exact h
      refine wpAny_bind (J1.item (s := { s with heap := g1 }) a1 hx fun g2 a2 e2 => wpAny_pure ?_)
      have o2 : IsPair g2 (n + 3) p0 q0 := e2.extBut _ _ (by (first | omega | (show @Ne Nat _ _; omega))) (e1.extBut _ _ (by (first | omega | (show @Ne Nat _ _; omega))) hTO)
      refine wpAny_bind (wpAny_seqItems o2 rfl (wpAny_bind (wpAny_updateSeq_pair o2 fun g3 o3 e3 => wpAny_bind (wpAny_letGo (wpAny_pure ?_)))))
      refine wpAny_bind (wpAny_bind (wpAny_onRaise ?_))
      show wpAny _ _ (Builtin.SmallTypes.nextOf (.ref (n + 1)) >>= _) _ _ _
      have b3 : S2 g3 k := J2.keep b1 fun b o hbo e => e3.extBut _ _ (by rcases hbo with rfl | rfl <;> (first | omega | (show @Ne Nat _ _; omega))) (e2.extBut _ _ (by rcases hbo with rfl | rfl <;> (first | omega | (show @Ne Nat _ _; omega))) e)
      refine wpAny_bind (J2.fin (s := { s with heap := g3 }) hh b3 hy fun g4 e e4 he => ?_)
      obtain ⟨oe, hoe, hce⟩ := he
      have z4 : IsZip g4 (n + 4) (n + 2) (n + 3) .ellipsis := e4 _ _ (by (first | omega | (show @Ne Nat _ _; omega))) (e3.extBut _ _ (by (first | omega | (show @Ne Nat _ _; omega))) (e2.extBut _ _ (by (first | omega | (show @Ne Nat _ _; omega))) z1))
      have hez : e ≠ n + 4 := fun x => by subst x; rw [z4] at hoe; cases hoe; simp at hce
      exact wpAny_setField_rec z4 (by simp) fun g5 _ e5 => q g5 e (fun c o hc x => e5.extBut _ _ (by (first | omega | (show @Ne Nat _ _; omega))) (e4 _ _ (by (first | omega | (show @Ne Nat _ _; omega))) (e3.extBut _ _ (by (first | omega | (show @Ne Nat _ _; omega))) (e2.extBut _ _ (by (first | omega | (show @Ne Nat _ _; omega))) (e1.extBut _ _ (by (first | omega | (show @Ne Nat _ _; omega))) x))))) ⟨oe, e5.extBut _ _ hez hoe, hce⟩
  · show wpAny _ _ (field (.ref (n + 4)) 2 >>= _) _ _ _
    refine wpAny_bind (wpAny_field hz rfl (x := .bool false) rfl ?_)
    show wpAny _ _ (field (.ref (n + 4)) 3 >>= _) _ _ _
    refine wpAny_bind (wpAny_field hz rfl (x := .ref (n + 2)) rfl (wpAny_bind (wpAny_seqItems hp rfl ?_)))
    show wpAny _ _ (Builtin.SmallTypes.ownedTupleIsFree (.ref (n + 4)) >>= _) _ _ _
    refine wpAny_bind (wpAny_tupleHeld_zip hz hT fun g1 z1 e1 => ?_)
    simp only [Bool.false_eq_true, if_false]
    refine wpAny_bind ?_
    rw [← Array.forIn_toList]
    simp only [List.forIn_cons, List.forIn_nil]
    refine wpAny_bind (wpAny_bind (wpAny_holding ?_))
    show wpAny _ _ (Builtin.SmallTypes.nextOf (.ref n) >>= _) _ _ _
    have a1 : S1 g1 k := J1.keep ha fun b o hbo e => e1.extBut _ _ (by rcases hbo with rfl | rfl <;> (first | omega | (show @Ne Nat _ _; omega))) e
    have b1 : S2 g1 k := J2.keep hb fun b o hbo e => e1.extBut _ _ (by rcases hbo with rfl | rfl <;> (first | omega | (show @Ne Nat _ _; omega))) e
    cases hx : xs[k]? with
    | none => exact wpAny_bind (J1.fin (s := { s with heap := g1 }) hh a1 hx fun g2 e e2 he => q g2 e (fun c o hc x => e2 _ _ (by (first | omega | (show @Ne Nat _ _; omega))) (e1.extBut _ _ (by (first | omega | (show @Ne Nat _ _; omega))) x)) he)
    | some x =>
      have hy : ys[k]? = none := by rcases hend with h | h; rw [hx] at h; cases h; exact h
      refine wpAny_bind (J1.item (s := { s with heap := g1 }) a1 hx fun g2 a2 e2 => wpAny_pure (wpAny_pure ?_))
      refine wpAny_bind (wpAny_bind (wpAny_holding ?_))
      show wpAny _ _ (Builtin.SmallTypes.nextOf (.ref (n + 1)) >>= _) _ _ _
      have b2 : S2 g2 k := J2.keep b1 fun b o hbo e => e2.extBut _ _ (by rcases hbo with rfl | rfl <;> (first | omega | (show @Ne Nat _ _; omega))) e
      exact wpAny_bind (J2.fin (s := { s with heap := g2 }) hh b2 hy fun g3 e e3 he => q g3 e (fun c o hc x => e3 _ _ (by (first | omega | (show @Ne Nat _ _; omega))) (e2.extBut _ _ (by (first | omega | (show @Ne Nat _ _; omega))) (e1.extBut _ _ (by (first | omega | (show @Ne Nat _ _; omega))) x))) he)
theorem zip_typ {h : Heap} (o : Out n S h) : ∃ ob, h.get? (n + 4) = some ob ∧ ob.cls = .type "zip" := by
  rcases o with ⟨hz, _⟩ | ⟨T, f, oT, hz, _⟩
  · exact ⟨_, hz, rfl⟩
  · exact ⟨_, hz, rfl⟩
theorem nx_item (h1 : l1 < n) (h2 : l2 < n) (J1 : Itr prog w n l1 xs S1) (J2 : Itr prog w (n + 1) l2 ys S2) {x y : Value} {Q : Option Value → Shared → Prop} (Z : ZS S1 S2 n S s.heap k) (hS : S < s.heap.objs.size) (hx : xs[k]? = some x) (hy : ys[k]? = some y)
    (q : ∀ h', ZS S1 S2 n S h' (k + 1) → IsPair h' s.heap.objs.size x y → h'.objs.size = s.heap.objs.size + 1 → Kept n s.heap h' → Q (some (.ref s.heap.objs.size)) { s with heap := h' }) : wpAny (model prog w) A (pyNext (.ref (n + 4))) Q E s := by
  have ty : s.TypeIs (.ref (n + 4)) "zip" := zip_typ Z.out
  unfold pyNext
  exact wpAny_bind (wpAny_attempt (wpAny_callSpecial?_slot (name := Str.ofString "__next__") ty F.slot_zip_next (wpAny_call_entry F.slot_zip_next ty F.entry_zip_next (step_item h1 h2 J1 J2 Z hS hx hy fun h' a b c d => wpAny_pure (q h' a b c d)) (F.args_zip_next_1 _))))
theorem nx_end (hh : A.handled = none) (h1 : l1 < n) (h2 : l2 < n) (J1 : Itr prog w n l1 xs S1) (J2 : Itr prog w (n + 1) l2 ys S2) {Q : Option Value → Shared → Prop} (Z : ZS S1 S2 n S s.heap k) (hend : xs[k]? = none ∨ ys[k]? = none)
    (q : ∀ h', Kept n s.heap h' → Q none { s with heap := h' }) : wpAny (model prog w) A (pyNext (.ref (n + 4))) Q E s := by
  have ty : s.TypeIs (.ref (n + 4)) "zip" := zip_typ Z.out
  unfold pyNext
  refine wpAny_bind (wpAny_attempt (wpAny_callSpecial?_slot (name := Str.ofString "__next__") ty F.slot_zip_next (wpAny_call_entry F.slot_zip_next ty F.entry_zip_next (step_end (A := A.in1) hh h1 h2 J1 J2 Z hend fun h' e hk he => ?_) (F.args_zip_next_1 _))))
  exact wpAny_bind (wpAny_isInstance (T := "StopIteration") (b := true) he isSubtype_stop (wpAny_pure (q _ hk)))
end
section
variable {prog : Program} {w : World} {A : Around} {E : Value → Shared → Prop} {s : Shared} {n l1 l2 S m : Nat} {xs ys : Array Value} {S1 S2 : Heap → Nat → Prop}
theorem ZS.up (J1 : Itr prog w n l1 xs S1) (J2 : Itr prog w (n + 1) l2 ys S2) (h1 : l1 < n) (h2 : l2 < n) (hS : n + 5 ≤ S) {h h' : Heap} {k : Nat} (Z : ZS S1 S2 n S h k) (f : ∀ (b : Nat) (o : Obj), b ≠ S → h.get? b = some o → h'.get? b = some o) : ZS S1 S2 n S h' k :=
  ⟨f _ _ (by (first | omega | (show @Ne Nat _ _; omega))) Z.pair, J1.keep Z.a fun b o hb e => f b o (by rcases hb with rfl | rfl <;> (first | omega | (show @Ne Nat _ _; omega))) e, J2.keep Z.b fun b o hb e => f b o (by rcases hb with rfl | rfl <;> (first | omega | (show @Ne Nat _ _; omega))) e,
    Z.out.elim (fun ⟨a, x, y, b⟩ => .inl ⟨f _ _ (by (first | omega | (show @Ne Nat _ _; omega))) a, x, y, f _ _ (by (first | omega | (show @Ne Nat _ _; omega))) b⟩) fun ⟨T, g, oT, a, b, c, d⟩ => .inr ⟨T, g, oT, f _ _ (by (first | omega | (show @Ne Nat _ _; omega))) a, f _ _ d b, c, d⟩⟩
theorem loop {R : Result → Shared → Prop} (hh : A.handled = none) (h1 : l1 < n) (h2 : l2 < n) (hSn : n + 5 ≤ S) (J1 : Itr prog w n l1 xs S1) (J2 : Itr prog w (n + 1) l2 ys S2) (hm : m ≤ sizeLine) (mx : m ≤ xs.size) (my : m ≤ ys.size) (mm : m = xs.size ∨ m = ys.size) (res : Value) {h0 : Heap}
    (hR : ∀ h' tk acc c as, (∀ (b : Nat) (o : Obj), b ≠ S → (b < n ∨ n + 5 ≤ b) → h0.get? b = some o → h'.get? b = some o) → h'.get? S = some { cls := .type "list", dict := none, data := .seq acc c, slots := #[] } → as.length = m → TLZ.ZG xs ys S h' as → acc.toList = as.map Value.ref → R (.ok (.ret res)) { s with heap := h', toks := tk }) :
    ∀ (j i : Nat) (h : Heap) (tk c : Nat) (acc : Array Value) (as : List Addr), m - i = j → i ≤ m → ZS S1 S2 n S h i → (∀ (b : Nat) (o : Obj), b ≠ S → (b < n ∨ n + 5 ≤ b) → h0.get? b = some o → h.get? b = some o) →
      h.get? S = some { cls := .type "list", dict := none, data := .seq acc c, slots := #[] } → acc.toList = as.map Value.ref → as.length = i → TLZ.ZG xs ys S h as → codeAny (model prog w) A (.builtin "list.extend.loop" ⟨[.ref S, .ref (n + 4), res], []⟩) R { s with heap := h, toks := tk } := by
  intro j
  induction j with
  | zero =>
    intro i h tk c acc as hj hi Z hk hS hacc hal G
    have e : i = m := by omega
    refine codeAny_builtin PySem.F.entry_extend_loop ?_
    rw [Around.under_plainId PySem.F.plain_extend_loop _]
    show wpAny _ A.in1 (pyNext (.ref (n + 4)) >>= _) _ _ _
    refine wpAny_bind (nx_end (s := { s with heap := h, toks := tk }) (A := A.in1) hh h1 h2 J1 J2 Z (mm.elim (fun e => .inl (Array.getElem?_eq_none (by omega))) fun e => .inr (Array.getElem?_eq_none (by omega))) fun h' kp => ?_)
    refine wpAny_pure (hR h' tk acc c as (fun b o b1 b2 e => kp b o b2 (hk b o b1 b2 e)) (kp S _ (.inr hSn) hS) (by omega) ⟨G.rise, G.above, fun q a hq => ?_⟩ hacc)
    obtain ⟨x, y, e1, e2, e3⟩ := G.pairs q a hq
    have ha : S < a := G.above a (List.mem_of_getElem? hq)
    exact ⟨x, y, e1, e2, kp a _ (.inr (by omega)) e3⟩
  | succ j ih =>
    intro i h tk c acc as hj hi Z hk hS hacc hal G
    have hlt : i < m := by omega
    obtain ⟨x, hx⟩ : ∃ p, xs[i]? = some p := ⟨xs[i], Array.getElem?_eq_getElem (by omega)⟩
    obtain ⟨y, hy⟩ : ∃ p, ys[i]? = some p := ⟨ys[i], Array.getElem?_eq_getElem (by omega)⟩
    have hsz : acc.size = i := by rw [← Array.length_toList, hacc, List.length_map, hal]
    have hSl : S < h.objs.size := Heap.lt_size hS
    refine codeAny_builtin PySem.F.entry_extend_loop ?_
    rw [Around.under_plainId PySem.F.plain_extend_loop _]
    show wpAny _ A.in1 (pyNext (.ref (n + 4)) >>= _) _ _ _
    refine wpAny_bind (nx_item (s := { s with heap := h, toks := tk }) h1 h2 J1 J2 Z hSl hx hy fun h' Z' pr sz kp => ?_)
    dsimp only at pr sz kp ⊢
    have hS' := kp S _ (.inr hSn) hS
    have up : ∀ (b : Nat) (o : Obj), b ≠ S → h'.get? b = some o → (h'.update S (Obj.mapSeq (·.push (Value.ref h.objs.size)))).get? b = some o := fun b o hb e => (Heap.get?_update_other _ _ (Ne.symm hb)).trans e
    show wpAny _ A.in1 (updateSeq S (·.push (Value.ref h.objs.size)) >>= _) _ _ _
    refine wpAny_bind ?_
    refine wpAny_updateSeq hS' rfl (wpAny_pure ⟨plainId_quiet PySem.F.plain_extend_loop _, ih (i + 1) _ tk _ (acc.push (Value.ref h.objs.size)) (as ++ [h.objs.size]) (by omega) hlt
      (Z'.up J1 J2 h1 h2 hSn up) (fun b o b1 b2 e => up b o b1 (kp b o b2 (hk b o b1 b2 e))) (Heap.get?_update_self _ hS' rfl) (by rw [Array.toList_push, hacc, List.map_append]; rfl) (by rw [List.length_append, hal]; rfl) ⟨?_, ?_, ?_⟩⟩) (by rw [hsz]; omega) (by show (acc.push (Value.ref h.objs.size)).size ≤ sizeLine + 1; rw [Array.size_push, hsz]; omega)
    · refine List.pairwise_append.mpr ⟨G.rise, List.pairwise_singleton _ _, fun a ha b hb => ?_⟩
      rw [List.mem_singleton.mp hb]
      exact G.there ha
    · intro a ha
      rcases List.mem_append.mp ha with ha | ha
      · exact G.above a ha
      · rw [List.mem_singleton.mp ha]
        exact hSl
    · intro q b hq
      rcases Nat.lt_trichotomy q as.length with g | g | g
      · rw [List.getElem?_append_left g] at hq
        obtain ⟨x', y', e1, e2, e3⟩ := G.pairs q b hq
        have hb : S < b := G.above b (List.mem_of_getElem? hq)
        exact ⟨x', y', e1, e2, up b _ (by (first | omega | (show @Ne Nat _ _; omega))) (kp b _ (.inr (by omega)) e3)⟩
      · subst g
        have hb : h.objs.size = b := by simpa using hq
        subst hb
        exact ⟨x, y, by rw [hal]; exact hx, by rw [hal]; exact hy, up _ _ (Nat.ne_of_gt hSl) pr⟩
      · have hnone : (as ++ [h.objs.size])[q]? = none := List.getElem?_eq_none (by rw [List.length_append, List.length_singleton]; omega)
        rw [hnone] at hq
        cases hq
theorem extend {R : Result → Shared → Prop} (hh : A.handled = none) (h1 : l1 < n) (h2 : l2 < n) (hSn : n + 5 ≤ S) (J1 : Itr prog w n l1 xs S1) (J2 : Itr prog w (n + 1) l2 ys S2) (hm : m ≤ sizeLine) (mx : m ≤ xs.size) (my : m ≤ ys.size) (mm : m = xs.size ∨ m = ys.size) (res : Value) (c0 : Nat)
    (Z : ZS S1 S2 n S s.heap 0) (hz : IsZip s.heap (n + 4) (n + 2) (n + 3) .none) (hS : s.heap.get? S = some { cls := .type "list", data := .seq #[] c0 })
    (hR : ∀ h' tk acc c as, (∀ (b : Nat) (o : Obj), b ≠ S → (b < n ∨ n + 5 ≤ b) → s.heap.get? b = some o → h'.get? b = some o) → h'.get? S = some { cls := .type "list", dict := none, data := .seq acc c, slots := #[] } → as.length = m → TLZ.ZG xs ys S h' as → acc.toList = as.map Value.ref → R (.ok (.ret res)) { s with heap := h', toks := tk }) :
    wpAny (model prog w) A.in1 (Builtin.List.listExtendWith (.ref S) (.ref (n + 4)) res)
      (fun fin s' => match fin with | .done f => R (.ok f) s' | .again c' => c'.quiet = true ∧ codeAny (model prog w) A c' R s') (fun e s' => R (.error e) s') s := by
  have ty : s.TypeIs (.ref (n + 4)) "zip" := ⟨_, hz, rfl⟩
  have key : ∀ (h : Heap) (c1 tk : Nat), (∀ (b : Nat) (o : Obj), b ≠ S → s.heap.get? b = some o → h.get? b = some o) → h.get? S = some { cls := .type "list", data := .seq #[] c1 } → codeAny (model prog w) A (.builtin "list.extend.loop" ⟨[.ref S, .ref (n + 4), res], []⟩) R { s with heap := h, toks := tk } :=
    fun h c1 tk hk e => loop hh h1 h2 hSn J1 J2 hm mx my mm res hR m 0 h tk c1 #[] [] (Nat.sub_zero _) (Nat.zero_le _) (Z.up J1 J2 h1 h2 hSn hk) (fun b o hb _ e => hk b o hb e) e rfl rfl ⟨List.Pairwise.nil, (fun _ ha => nomatch ha), (fun q a hq => by simp at hq)⟩
  unfold Builtin.List.listExtendWith
  refine wpAny_bind (wpAny_typeOf (T := "zip") ty ?_)
  have e1 : Builtin.List.listSameRef (.ref S) (.ref (n + 4)) = false := beq_eq_false_iff_ne.mpr (by (first | omega | (show @Ne Nat _ _; omega)))
  have e2 : (Value.type "zip" == Value.type "list") = false := by decide
  have e3 : (Value.type "zip" == Value.type "tuple") = false := by decide
  simp only [e1, e2, e3, Bool.or_false, Bool.false_eq_true, if_false]
  refine wpAny_bind (wpAny_pyIter_zip hz (wpAny_bind (wpAny_holding (TLZ.hint_zip ty ?_))))
  refine wpAny_ite_split (fun _ => ?_) (fun hab => absurd rfl hab)
  refine wpAny_bind (wpAny_rule (wpAny_bind ?_))
  show wpAny _ _ (updateSeq S (·.push .none) >>= fun _ => updateSeq S (·.pop)) _ _ _
  refine wpAny_bind (wpAny_updateSeq hS rfl ?_)
  have g1 := Heap.get?_update_self (Obj.mapSeq (·.push Value.none)) hS rfl
  refine wpAny_updateSeq (hz := by seq_fits) g1 rfl ?_
  have g2 := Heap.get?_update_self (Obj.mapSeq (·.pop)) g1 rfl
  exact wpAny_pure ⟨plainId_quiet PySem.F.plain_extend_loop _, key _ _ _ (fun b o hb e => (Heap.get?_update_other _ _ (Ne.symm hb)).trans ((Heap.get?_update_other _ _ (Ne.symm hb)).trans e)) g2⟩
/-- all that a zip tells, gathered -/
theorem gather {Q : List Value → Shared → Prop} (hh : A.handled = none) (h1 : l1 < n) (h2 : l2 < n) (hn5 : n + 5 ≤ s.heap.objs.size) (J1 : Itr prog w n l1 xs S1) (J2 : Itr prog w (n + 1) l2 ys S2) (hm : m ≤ sizeLine) (mx : m ≤ xs.size) (my : m ≤ ys.size) (mm : m = xs.size ∨ m = ys.size)
    (Z : ZS S1 S2 n s.heap.objs.size s.heap 0) (hz : IsZip s.heap (n + 4) (n + 2) (n + 3) .none)
    (q : ∀ h' tk acc as, (∀ (b : Nat) (o : Obj), (b < n ∨ n + 5 ≤ b) → s.heap.get? b = some o → h'.get? b = some o) → s.heap.objs.size < h'.objs.size → as.length = m → TLZ.ZG xs ys s.heap.objs.size h' as → acc = as.map Value.ref → Q acc { s with heap := h', toks := tk }) : wpAny (model prog w) A (collect (.ref (n + 4))) Q E s := by
  unfold collect
  refine wpAny_bind (wpAny_runValue (codeAny_builtin F.entry_proto_collect ?_))
  rw [Around.under_plainId F.plain_proto_collect _]
  show wpAny _ A.in1 (newList [] >>= fun l => again (.builtin "list.__iadd__" ⟨[l, .ref (n + 4)], []⟩)) _ _ s
  refine wpAny_bind (wpAny_newObj_type ?_)
  refine wpAny_pure ⟨plainId_quiet F.plain_list_iadd _, codeAny_builtin F.entry_list_iadd ?_⟩
  rw [Around.under_plainId F.plain_list_iadd _]
  show wpAny _ A.in1 (Builtin.List.listExtendWith (.ref s.heap.objs.size) (.ref (n + 4)) (.ref s.heap.objs.size)) _ _ _
  have pu : ∀ (b : Nat) (o : Obj), s.heap.get? b = some o → (s.heap.push { cls := .type "list", data := .seq ([] : List Value).toArray }).get? b = some o := fun b o e => Heap.get?_push_of_some _ e
  have gS : (s.heap.push { cls := .type "list", data := .seq ([] : List Value).toArray }).get? s.heap.objs.size = some { cls := .type "list", data := .seq #[] 0 } := Heap.get?_push_size _ rfl
  have done : ∀ s' : Shared, (∃ (h' : Heap) (tk : Nat) (acc : Array Value) (c : Nat) (as : List Addr), s' = { s with heap := h', toks := tk } ∧ (∀ (b : Nat) (o : Obj), (b < n ∨ n + 5 ≤ b) → s.heap.get? b = some o → h'.get? b = some o) ∧ h'.get? s.heap.objs.size = some { cls := .type "list", dict := none, data := .seq acc c, slots := #[] } ∧ as.length = m ∧ TLZ.ZG xs ys s.heap.objs.size h' as ∧ acc.toList = as.map Value.ref) →
      wpAny (model prog w) A (match Value.ref s.heap.objs.size with
        | Value.ref a => do
          match (← load a).data with
            | Data.seq xs _ => pure xs.toList
            | _ => unsupported "internal:collect"
        | _ => unsupported "internal:collect") Q E s' := by
    rintro s' ⟨h', tk, acc, c, as, rfl, e1, e2, e3, e4, e5⟩
    show wpAny _ A (load s.heap.objs.size >>= _) _ _ _
    exact wpAny_bind (wpAny_load e2 (wpAny_pure (q h' tk acc.toList as e1 (Heap.lt_size e2) e3 e4 e5)))
  refine wpAny_mono (extend (R := fun r s' => r = .ok (.ret (.ref s.heap.objs.size)) ∧ ∃ (h' : Heap) (tk : Nat) (acc : Array Value) (c : Nat) (as : List Addr), s' = { s with heap := h', toks := tk } ∧ (∀ (b : Nat) (o : Obj), (b < n ∨ n + 5 ≤ b) → s.heap.get? b = some o → h'.get? b = some o) ∧ h'.get? s.heap.objs.size = some { cls := .type "list", dict := none, data := .seq acc c, slots := #[] } ∧ as.length = m ∧ TLZ.ZG xs ys s.heap.objs.size h' as ∧ acc.toList = as.map Value.ref)
    (s := { s with heap := s.heap.push { cls := .type "list", data := .seq ([] : List Value).toArray } }) hh h1 h2 hn5 J1 J2 hm mx my mm (.ref s.heap.objs.size) 0 (Z.up J1 J2 h1 h2 hn5 fun b o _ e => pu b o e) (pu _ _ hz) gS fun h' tk acc c as hk hS' hl G hacc => ⟨rfl, h', tk, acc, c, as, rfl, fun b o hb e => hk b o (Nat.ne_of_lt (Heap.lt_size e)) hb (pu b o e), hS', hl, G, hacc⟩) (fun fin s' h => ?_) (fun e s' h => ?_)
  · cases fin with
    | done f =>
      obtain ⟨e, h⟩ := h
      cases e
      exact done s' h
    | again c' =>
      obtain ⟨hq, hc⟩ := h
      refine ⟨hq, codeAny_mono hc fun r s'' hr => ?_⟩
      obtain ⟨e, hr⟩ := hr
      subst e
      exact done s'' hr
  · obtain ⟨e, h⟩ := h
    cases e
theorem tuple_zip {Q : Value → Shared → Prop} (hh : A.handled = none) (h1 : l1 < n) (h2 : l2 < n) (hn5 : n + 5 ≤ s.heap.objs.size) (J1 : Itr prog w n l1 xs S1) (J2 : Itr prog w (n + 1) l2 ys S2) (hm : m ≤ sizeLine) (mx : m ≤ xs.size) (my : m ≤ ys.size) (mm : m = xs.size ∨ m = ys.size)
    (Z : ZS S1 S2 n s.heap.objs.size s.heap 0) (hz : IsZip s.heap (n + 4) (n + 2) (n + 3) .none)
    (q : ∀ h' tk as, (∀ (b : Nat) (o : Obj), (b < n ∨ n + 5 ≤ b) → s.heap.get? b = some o → h'.get? b = some o) → s.heap.objs.size < h'.objs.size → as.length = m → TLZ.ZG xs ys s.heap.objs.size h' as → Q (.ref h'.objs.size) { s with heap := h'.push { cls := .type "tuple", data := .seq (as.map Value.ref).toArray }, toks := tk }) :
    wpAny (model prog w) A (call (.type "tuple") [.ref (n + 4)]) Q E s := by
  have ty : s.TypeIs (.ref (n + 4)) "zip" := ⟨_, hz, rfl⟩
  have code : codeAny (model prog w) A.in1 (.call (.builtin "tuple.__new__") ⟨[.type "tuple", .ref (n + 4)], []⟩) (wants (fun obj s₁ => s₁.TypeIs obj "tuple" ∧ Q obj s₁) E) s := by
    refine codeAny_of_tree ?_
    show wpAny _ _ (do checkBuiltinCall "tuple.__new__" ⟨[.type "tuple", .ref (n + 4)], []⟩; again (.builtin "tuple.__new__" ⟨[.type "tuple", .ref (n + 4)], []⟩)) _ _ s
    refine wpAny_bind (wpAny_of_eq (F.newCall_tuple_1 _) (wpAny_pure ⟨plainId_quiet F.plain_tuple_new _, codeAny_builtin F.entry_tuple_new ?_⟩))
    rw [Around.under_plainId F.plain_tuple_new _]
    have hsub := sub_tuple_self
    have hinit := init_tuple_lookup
    have hmh := madeHere_tuple
    have gt := fun (Q : List Value → Shared → Prop) (E : Value → Shared → Prop) => gather (prog := prog) (w := w) (A := A.in1.in1) (E := E) (s := s) (Q := Q) hh h1 h2 hn5 J1 J2 hm mx my mm Z hz
    wp_walk using wpAny_typeOf ty, gt
    intro h' tk acc as hk hs hl G hacc
    subst hacc
    refine wpAny_bind (wpAny_pure ?_)
    show wpAny _ _ (Builtin.Tuple.tupleExact (as.map Value.ref).toArray >>= fun v => ret v) _ _ _
    unfold Builtin.Tuple.tupleExact
    refine wpAny_bind (wpAny_newObj_type ?_ (by show (as.map Value.ref).toArray.size ≤ sizeLine; rw [List.size_toArray, List.length_map]; omega))
    exact wpAny_pure ⟨⟨_, Heap.get?_push_size _ rfl, rfl⟩, q h' tk as hk hs hl G⟩
  refine callType_codes (Q₁ := fun obj s₁ => s₁.TypeIs obj "tuple" ∧ Q obj s₁) F.called_tuple (F.typeCall_tuple_1 _) F.entry_object_init code fun obj s₁ h₁ => ?_
  exact ⟨h₁.1, F.args_object_init_2 obj _, object_init_meets F.called_tuple.init.lookup F.called_tuple.made (by decide) prog w A.in1 _ s₁ ⟨h₁.1, rfl, h₁.2⟩⟩
end
/-! zip(t, l) of a tuple and a list -/
abbrev zh1 (h : Heap) (l1 : Addr) : Heap := h.push { cls := .type "tuple_iterator", data := .fields #[.ref l1, .int 0 0] }
abbrev zh2 (h : Heap) (l1 l2 : Addr) : Heap := (zh1 h l1).push { cls := .type "list_iterator", data := .fields #[.ref l2, .int 0 0] }
abbrev zh3 (h : Heap) (l1 l2 : Addr) : Heap := (zh2 h l1 l2).push { cls := .type "tuple", data := .seq #[.ref h.objs.size, .ref (zh1 h l1).objs.size] }
abbrev zh4 (h : Heap) (l1 l2 : Addr) : Heap := (zh3 h l1 l2).push { cls := .type "tuple", data := .seq #[.none, .none] }
abbrev zh5 (h : Heap) (l1 l2 : Addr) : Heap := (zh4 h l1 l2).push { cls := .type "zip", data := .fields #[.none, .bool false, .bool false, .ref (zh2 h l1 l2).objs.size, .ref (zh3 h l1 l2).objs.size] }
theorem new_zip (l1 l2 : Addr) (xs ys : Array Value) : Meets (Builtin.«zip.__new__» ⟨[.type "zip", .ref l1, .ref l2], []⟩) (fun _ R s => s.heap.IsTuple l1 xs ∧ s.heap.IsList l2 ys ∧ R (.ok (.ret (.ref (zh4 s.heap l1 l2).objs.size))) { s with heap := zh5 s.heap l1 l2 }) :=
  .of_wp fun prog w A R s h => by
    obtain ⟨hp, g, d, tk, os⟩ := s
    obtain ⟨a, b, h⟩ := h
    have hsub := sub_zip
    have g1 : Heap.IsTuple (Shared.heap ⟨hp, g, d, tk, os⟩) l1 xs := a
    have g2 : Heap.IsList (Shared.heap ⟨hp.push { cls := .type "tuple_iterator", data := .fields #[.ref l1, .int 0 0] }, g, d, tk, os⟩) l2 ys := Heap.IsList.push b _
    wp_walk using wpAny_pyIter_tuple g1, wpAny_pyIter_list g2
    exact ⟨_, rfl, h⟩
section
variable {prog : Program} {w : World} {A : Around} {E : Value → Shared → Prop} {s : Shared} {l1 l2 : Nat} {xs ys : Array Value}
theorem call_zip {Q : Value → Shared → Prop} (ha : s.heap.IsTuple l1 xs) (hb : s.heap.IsList l2 ys)
    (q : ∀ (h' : Heap), IsZip h' (s.heap.objs.size + 4) (s.heap.objs.size + 2) (s.heap.objs.size + 3) .none → IsPair h' (s.heap.objs.size + 2) (.ref s.heap.objs.size) (.ref (s.heap.objs.size + 1)) → IsPair h' (s.heap.objs.size + 3) .none .none →
      h'.IsTupleIter s.heap.objs.size l1 0 → h'.IsListIter (s.heap.objs.size + 1) l2 0 → h'.objs.size = s.heap.objs.size + 5 → (∀ (c : Nat) (o : Obj), s.heap.get? c = some o → h'.get? c = some o) → Q (.ref (s.heap.objs.size + 4)) { s with heap := h' }) : wpAny (model prog w) A (call (.type "zip") [.ref l1, .ref l2]) Q E s := by
  refine callType_new F.called_zip (by decide) (F.typeCall_zip_2 _ _) (F.newCall_zip_2 _ _) (fun obj => F.args_object_init_3 obj _ _) F.entry_zip_new (new_zip l1 l2 xs ys) ⟨ha, hb, ?_⟩
  have z1 : (zh1 s.heap l1).objs.size = s.heap.objs.size + 1 := Heap.size_push ..
  have z2 : (zh2 s.heap l1 l2).objs.size = s.heap.objs.size + 2 := by rw [Heap.size_push, z1]
  have z3 : (zh3 s.heap l1 l2).objs.size = s.heap.objs.size + 3 := by rw [Heap.size_push, z2]
  have z4 : (zh4 s.heap l1 l2).objs.size = s.heap.objs.size + 4 := by rw [Heap.size_push, z3]
  have z5 : (zh5 s.heap l1 l2).objs.size = s.heap.objs.size + 5 := by rw [Heap.size_push, z4]
  have u1 : ∀ (h : Heap) (o o' : Obj) (c : Nat), h.get? c = some o → (h.push o').get? c = some o := fun h o o' c e => Heap.get?_push_of_some _ e
  have k5 : (zh5 s.heap l1 l2).get? (zh4 s.heap l1 l2).objs.size = some _ := Heap.get?_push_size _ rfl
  have k4 : (zh5 s.heap l1 l2).get? (zh3 s.heap l1 l2).objs.size = some _ := u1 _ _ _ _ (Heap.get?_push_size _ rfl)
  have k3 : (zh5 s.heap l1 l2).get? (zh2 s.heap l1 l2).objs.size = some _ := u1 _ _ _ _ (u1 _ _ _ _ (Heap.get?_push_size _ rfl))
  have k2 : (zh5 s.heap l1 l2).get? (zh1 s.heap l1).objs.size = some _ := u1 _ _ _ _ (u1 _ _ _ _ (u1 _ _ _ _ (Heap.get?_push_size _ rfl)))
  have k1 : (zh5 s.heap l1 l2).get? s.heap.objs.size = some _ := u1 _ _ _ _ (u1 _ _ _ _ (u1 _ _ _ _ (u1 _ _ _ _ (Heap.get?_push_size _ rfl))))
  rw [z2, z3, z4] at k5
  rw [z1, z2] at k3
  rw [z3] at k4
  rw [z1] at k2
  show _ ∧ _
  rw [z4]
  exact ⟨⟨_, k5, rfl⟩, q _ k5 k3 k4 ⟨_, k1, rfl, rfl⟩ ⟨_, k2, rfl, rfl⟩ z5 fun c o e => u1 _ _ _ _ (u1 _ _ _ _ (u1 _ _ _ _ (u1 _ _ _ _ (u1 _ _ _ _ e))))⟩
end
end TLQ

set_option maxHeartbeats 1000000
/-! TLr: tuple(zip(t, l)) in the layer. -/
namespace TLQ
open PySem PySem.Spec L2
open PyProof.Rows hiding St
theorem laidK {X : Cx} {pins : List (Addr × Obj)} {σ : L2.St} {H : Hp} {s : Shared} {h' : Heap} {tk n S : Nat} {us vs : List V} {xs ys : List Value} {as : List Addr} (I : Inv X pins σ H s) (hz : n ≤ sizeLine) (rx : Vals us xs) (ry : Vals vs ys) (hn : (us.zip vs).length = n) (hS : s.heap.objs.size ≤ S) (hp : s.heap.objs.size ≤ h'.objs.size)
    (hk : ∀ (b : Nat) (o : Obj), s.heap.get? b = some o → h'.get? b = some o) (hl : as.length = n) (G : TLZ.ZG xs.toArray ys.toArray S h' as) :
    ∃ H' : Hp, (∀ b o, H b = some o → H' b = some o) ∧ H h'.objs.size = none ∧ (∀ t ∈ as, H t = none) ∧ h'.objs.size ∉ as ∧ (∃ ob : Obj, H' h'.objs.size = some (.frz ob (.tup (as.map V.ref))) ∧ ob.cls = .type "tuple" ∧ ob.dict = none) ∧ Paired (fun (t : Addr) (q : V × V) => H' t = some (.tup [q.1, q.2])) as (us.zip vs) ∧
      Inv X pins σ H' { s with heap := h'.push { cls := .type "tuple", data := .seq (as.map Value.ref).toArray }, toks := tk } := by
  have no : h'.objs.size ∉ as := fun z => Nat.lt_irrefl _ (G.there z)
  have nd : as.Nodup := List.Pairwise.imp (fun {a b} (h : a < b) => Nat.ne_of_lt h) G.rise
  have new : ∀ t ∈ as, H t = none := fun t ht => I.hok.fresh (Nat.le_trans hS (Nat.le_of_lt (G.above t ht)))
  have newP : H h'.objs.size = none := I.hok.fresh hp
  have atP := TLZ.putZ_at as (us.zip vs) (upd H h'.objs.size (.frz { cls := .type "tuple", data := .seq (as.map Value.ref).toArray } (.tup (as.map V.ref)))) (by omega) nd
  have off : ∀ b, b ∉ as → b ≠ h'.objs.size → TLZ.putZ (upd H h'.objs.size (.frz { cls := .type "tuple", data := .seq (as.map Value.ref).toArray } (.tup (as.map V.ref)))) as (us.zip vs) b = H b := fun b h1 h2 => by rw [TLZ.putZ_off as _ _ h1, upd_ne h2]
  have low : ∀ (b : Nat) (o : Obj), s.heap.get? b = some o → b ∉ as ∧ b ≠ h'.objs.size := fun b o e => ⟨fun z => absurd (Heap.lt_size e) (Nat.not_lt.mpr (Nat.le_trans hS (Nat.le_of_lt (G.above b z)))), Nat.ne_of_lt (Nat.lt_of_lt_of_le (Heap.lt_size e) hp)⟩
  have kp : ∀ b u, H b = some u → (TLZ.putZ (upd H h'.objs.size (.frz { cls := .type "tuple", data := .seq (as.map Value.ref).toArray } (.tup (as.map V.ref)))) as (us.zip vs)) b = some u := fun b u e => by
    rw [off b (fun z => by rw [new b z] at e; cases e) (fun z => by rw [z, newP] at e; cases e)]
    exact e
  have eP : TLZ.putZ (upd H h'.objs.size (.frz { cls := .type "tuple", data := .seq (as.map Value.ref).toArray } (.tup (as.map V.ref)))) as (us.zip vs) h'.objs.size = some (.frz { cls := .type "tuple", data := .seq (as.map Value.ref).toArray } (.tup (as.map V.ref))) := by rw [TLZ.putZ_off as _ _ no, upd_same]
  have hk2 : ∀ (b : Nat) (o : Obj), s.heap.get? b = some o → (h'.push { cls := .type "tuple", data := .seq (as.map Value.ref).toArray }).get? b = some o := fun b o e => Heap.get?_push_of_some _ (hk b o e)
  refine ⟨TLZ.putZ (upd H h'.objs.size (.frz { cls := .type "tuple", data := .seq (as.map Value.ref).toArray } (.tup (as.map V.ref)))) as (us.zip vs), kp, newP, new, no, ⟨_, eP, rfl, rfl⟩, atP, ?_⟩
  refine I.call' (ch := []) rfl ⟨fun b o q _ _ _ => hk2 b o q, fun b o q _ _ _ => ⟨o.slots, hk2 b o q⟩, fun b o q n _ => ?_, fun b o q _ => ⟨o, hk2 b o q⟩, fun b xs q => kp b _ q, fun b o u q => kp b _ q, fun b ps q => ⟨#[], by rw [kp b _ q]; simp⟩⟩ (fun b u q => ?_) I.bare fun b z => by simp at z
  · obtain ⟨z1, z2⟩ := low b o q
    rw [off b z1 z2]
    exact n
  · by_cases hb : b ∈ as
    · obtain ⟨j, pk, e1, e2, e3⟩ := LiI.paired_ix atP hb
      rw [e3] at q
      cases q
      obtain ⟨x, y, f1, f2, f3⟩ := G.pairs j b e1
      obtain ⟨g1, g2⟩ := List.getElem?_zip_eq_some.mp e2
      obtain ⟨u1, k1, k2⟩ := rx.get g1
      obtain ⟨u2, m1, m2⟩ := ry.get g2
      have q1 : x = u1 := Option.some.inj (f1.symm.trans (by simpa using k1))
      have q2 : y = u2 := Option.some.inj (f2.symm.trans (by simpa using m1))
      subst q1 q2
      exact ⟨by show 2 ≤ sizeLine; decide, [x, y], .cons k2 (.cons m2 .nil), ⟨_, Heap.get?_push_of_some _ f3, rfl, _, rfl⟩⟩
    · by_cases hb2 : b = h'.objs.size
      · rw [hb2] at q ⊢
        rw [eP] at q
        cases q
        exact ⟨Heap.get?_push_size _ rfl, by rw [List.length_map]; omega, as.map Value.ref, LiI.vals_refs as, IsTup.new _ _⟩
      · rw [off b hb hb2] at q
        exact (I.hok b u q).stay (fun d v _ y => hk2 d v y) (fun d y => kp d _ y) fun d xs y => kp d _ y
def rZipK (K : PySem.W.Frag) : List V → Hp → VK → Prop := fun ws H Q => ∃ (a b : Addr) (us vs : List V), ws = [.ref a, .ref b] ∧ SqT K H a us ∧ SqL K H b vs ∧
  ∀ (H' : Hp) (p : Addr) (ts : List Addr) (ob : Obj), (∀ b o, H b = some o → H' b = some o) → H p = none → (∀ t ∈ ts, H t = none) → p ∉ ts → H' p = some (.frz ob (.tup (ts.map V.ref))) → ob.cls = .type "tuple" → ob.dict = none → Paired (fun (t : Addr) (q : V × V) => H' t = some (.tup [q.1, q.2])) ts (us.zip vs) → Q (.ref p) H'
theorem pe_tupZip {X : Cx} {e e2 : Expr} {ta : TA} {p p2 pos2 pos : Pos} (hc : X.calm = true) (hg : Gl X "tuple") (hm : X.mg "tuple" = none) (hg2 : Gl X "zip") (hm2 : X.mg "zip" = none) (ha : PA X [e, e2] ta)
    (hs : starEach [e, e2] X.env = (false, eval e X.env) :: starEach [e2] X.env) (hpl : (backTo pos2 (starEach [e2] X.env)).any (·.1) = false)
    (hs0 : starEach [.Call (.Name "zip" p2) [e, e2] [] pos2] X.env = (false, eval (.Call (.Name "zip" p2) [e, e2] [] pos2) X.env) :: starEach [] X.env := by rfl) :
    PE X (.Call (.Name "tuple" p) [.Call (.Name "zip" p2) [e, e2] [] pos2] [] pos) (fun σ H Q => ta σ H fun ws H1 => rZipK X.K ws H1 Q) := by
  refine ⟨fun pins s σ H Q I hq => ?_⟩
  refine wpAny_Call_Name_kw (ld_blt I hg hm rfl ?_)
  refine PyProof.Rows.callWith_type1 ?_ hs0 rfl
  rw [hs0]
  show wpAny _ _ (spliced ((false, eval (.Call (.Name "zip" p2) [e, e2] [] pos2) X.env) :: backTo pos (starEach [] X.env))) _ _ s
  refine Calls.spliced_cons ?_
  refine Call_ (ld_blt I hg2 hm2 PyProof.Rows.boot_zip (PyProof.Rows.callWith_type1 (thn (ha.run pos2 pins s σ H _ I hq) fun us s1 ⟨ws, H1, I1, r1, q1⟩ => ?_) hs hpl))
  obtain ⟨a, b, xs, ys, ex, hqx, hqy, q⟩ := q1
  subst ex
  cases r1 with
  | cons r rr =>
    cases rr with
    | cons r' rr =>
      cases rr
      cases r
      cases r'
      obtain ⟨its, rv, t1, hzx⟩ := I1.tuple hqx
      obtain ⟨its2, rv2, t2, hzy⟩ := I1.list hqy
      have ha1 : s1.heap.IsTuple a its.toArray := t1
      have hb1 : s1.heap.IsList b its2.toArray := t2.isList
      have la : a < s1.heap.objs.size := by obtain ⟨_, e, _⟩ := id ha1; exact Heap.lt_size e
      have lb : b < s1.heap.objs.size := by obtain ⟨_, e, _⟩ := id hb1; exact Heap.lt_size e
      refine call_zip ha1 hb1 fun h' e1 e2 e3 e4 e5 e6 e7 => Calls.spliced_nil ?_
      have ha' : h'.IsTuple a its.toArray := by obtain ⟨o, e, r⟩ := ha1; exact ⟨o, e7 _ _ e, r⟩
      have hb' : h'.IsList b its2.toArray := by obtain ⟨o, e, r⟩ := hb1; exact ⟨o, e7 _ _ e, r⟩
      have n1 : its.length = xs.length := rv.length.symm
      have n2 : its2.length = ys.length := rv2.length.symm
      have nz : (xs.zip ys).length ≤ sizeLine := by rw [List.length_zip]; omega
      refine tuple_zip (s := { s1 with heap := h' }) (m := (xs.zip ys).length) (xs := its.toArray) (ys := its2.toArray) (I1.ok.hd hc) la lb (show s1.heap.objs.size + 5 ≤ h'.objs.size by omega) (itr_tup (Nat.ne_of_lt la)) (itr_lst (Nat.ne_of_lt (Nat.lt_succ_of_lt lb))) nz (by rw [List.length_zip]; simp; omega) (by rw [List.length_zip]; simp; omega) (by rw [List.length_zip]; simp; omega) ⟨e2, ⟨e4, ha'⟩, ⟨e5, hb'⟩, .inl ⟨e1, _, _, e3⟩⟩ e1 fun h'' tk as k1 k0 k2 k3 => ?_
      have k3' : TLZ.ZG its.toArray its2.toArray h'.objs.size h'' as := k3
      have k0' : h'.objs.size < h''.objs.size := k0
      obtain ⟨H', m1, m2, m3, m4, ⟨ob, m5, m6, m7⟩, m8, J⟩ := laidK (tk := tk) I1 nz rv rv2 rfl (show s1.heap.objs.size ≤ h'.objs.size by omega) (show s1.heap.objs.size ≤ h''.objs.size by omega) (fun b o e => k1 b o (.inl (Heap.lt_size e)) (e7 b o e)) k2 k3'
      exact ⟨.ref _, H', J, rfl, q H' _ as ob m1 m2 m3 m4 m5 m6 m7 m8⟩
end TLQ
namespace TL
open PySem PySem.Spec L2
open PyProof.Rows hiding St
/-- tuple(zip(t, l)) of a tuple and a list, told whole -/
@[reducible] def tzipI (a b : IE) : IE := fun ρ S Q E => a ρ S (fun x S1 => b ρ S1 (fun y S2 => match x with
  | .tup xs => someP (lsqOf S2 y) fun ys => Q (.set (zipV xs ys)) S2
  | _ => False) E) E
section
variable {X : Cx} {K : PySem.W.Frag} {B : Addr → Prop} {H H' : Hp} {S : Sto} {W : WX} {a b : Expr} {ma mb : IE} {p p2 pos2 pos : Pos}
theorem se_tupZip (hc : X.calm = true) (hg : Gl X "tuple") (hm : X.mg "tuple" = none) (hg2 : Gl X "zip") (hm2 : X.mg "zip" = none) (hs : starB a = false) (hs2 : starB b = false) (ha : PE X a (liftE X.K W ma)) (hb : PE X b (liftE X.K W mb)) :
    PE X (.Call (.Name "tuple" p) [.Call (.Name "zip" p2) [a, b] [] pos2] [] pos) (liftE X.K W (tzipI ma mb)) :=
  (TLQ.pe_tupZip hc hg hm hg2 hm2 (pa_cons ha (pa_cons hb pa_nil (starEach_one hs2)) (starEach_one hs)) (starEach_one hs) (backTo_plain (by show (starB b || false) = false; rw [hs2]; rfl))).imp fun σ H Q ⟨ρ, S, B, Qi, Ei, Rr, h, q, er⟩ => ⟨ρ, S, B, _, Ei, Rr, h, fun v S1 x H1 rv hr1 e1 h1 =>
    ⟨ρ, S1, B, _, Ei, Rr.ext e1 hr1, h1, fun u S2 y H2 ru hr2 e2 h2 => by
      dsimp only at h2
      have rv2 := rv.ext e2
      split at h2
      · obtain ⟨ys, e3, h2⟩ := someP_some h2
        obtain ⟨pl, ws, rfl, j1, j2⟩ := lsqOf_sq hr2 ru e3
        cases rv2 with
        | tup i1 i2 =>
        refine ⟨_, _, _, _, rfl, i1.sq, j1, fun H' p ts ob k hp hts hnp hl c1 c2 pr => ?_⟩
        have ex : Ext S2 S2 H2 H' := fun b o h1 h2 => ⟨h1, k b o h2⟩
        exact q _ S2 _ H' (.kt ⟨ob, hl, c1, c2, hr2.free hp⟩ (zip_rvs hr2 (i2.ext ex) (j2.ext ex) hts pr)) (hr2.kept k) ((e1.trans e2).trans ex) h2
      · exact h2.elim, er.ext e1⟩, er⟩
end
end TL

/-! TL9: the plain meaning of the syntax itself, and that it is a reading of it. -/
namespace TL
open PySem PySem.Spec L2
open PyProof.Rows hiding St

structure Tab where
  con : List (Str × Val)
  dfs : List Str
  cls : List Str
  flds : List (Str × Str)
  free : List Str
  kwf : List (Str × List Str) := []
  cob : List Str := []
  own : List Str := []
  kit : Kit := []
  tabs : List (Str × List (Str × Str)) := []
  kwp : List (Str × List Str × List Nat) := []
def Tab.F (T : Tab) : Str → Str → Bool := fun c f => T.flds.contains (c, f)
/-- where one stands -/
structure SC where
  N : List Str
  sc : Scope
  fn : Str → Bool
  T : Tab
  cel : Pos → Bool
  frz : Pos → Bool
  Γ : Calls
structure Dn where
  E : Expr → IE
  T : Expr → IT
  S : Stmt → IS

def idxOf : List Str → Str → Nat → Option Nat
  | [], _, _ => none
  | y :: r, x, i => if y = x then some i else idxOf r x (i + 1)
def SC.knd (C : SC) (x : Str) : Option NameKind := C.sc.names.lookup x
/-- a built-in's own name -/
def SC.isB (C : SC) (x : Str) : Bool := (C.knd x == some .globalImplicit) && C.T.free.contains x
def SC.isG (C : SC) (x : Str) : Bool := C.knd x == some .globalImplicit
def badName (x : Str) : Bool := x == ("__debug__" : Str) || x == ("__classdict__" : Str)

def denName (C : SC) (x : Str) : IE := if badName x then noI else match C.knd x with
  | some .globalImplicit => match C.T.con.lookup x with
    | some v => conI v
    | none => noI
  | some .globalExplicit => noI
  | some _ => match idxOf C.N x 0 with
    | some i => varI i
    | none => noI
  | none => noI
def opB (c : Bool) : Operator → Option P2
  | .Add => some (addP c)
  | .Sub => some subP
  | .Mult => some (mulP c)
  | .FloorDiv => some fdivP
  | .Mod => some modP
  | .Pow => some powP
  | _ => none
def opC : CmpOp → Option P2
  | .Eq => some eqP
  | .NotEq => some neP
  | .Lt => some ltP
  | .LtE => some leP
  | .Gt => some gtP
  | .GtE => some geP
  | .Is => some isP
  | .IsNot => some isNotP
  | .In => some (inP false)
  | .NotIn => some (inP true)
def denA (f : Expr → IE) : List Expr → IA
  | [] => nilA
  | e :: es => if starB e then (fun _ _ _ _ => False) else consA (f e) (denA f es)
def denAnd (f : Expr → IE) : List Expr → IE
  | [] => noI
  | [a] => f a
  | a :: b :: r => andV (f a) (denAnd f (b :: r))
def denOr (f : Expr → IE) : List Expr → IE
  | [] => noI
  | [a] => f a
  | a :: b :: r => orV (f a) (denOr f (b :: r))
def noT : IT := fun _ _ _ _ => False
def denAndT (f : Expr → IT) : List Expr → IT
  | [] => noT
  | [a] => f a
  | a :: b :: r => andT (f a) (denAndT f (b :: r))
def denOrT (f : Expr → IT) : List Expr → IT
  | [] => noT
  | [a] => f a
  | a :: b :: r => orT (f a) (denOrT f (b :: r))
/-- a comparison -/
def denCmp (f : Expr → IE) (a : Expr) (ops : List CmpOp) (bs : List Expr) : IE := match ops, bs with
  | [op], [b] => if setB b then noI else match opC op with
    | some r => bin2 r (f a) (f b)
    | none => noI
  | _, _ => noI
def bltB (c : Bool) (x : Str) : Option PL :=
  if x = "len" then some lenP else if x = "abs" then some absP else if x = "max" then some maxP else if x = "min" then some minP else if x = "sum" then some sumP else if x = "sorted" then some (sortP c) else if x = "ord" then some ordP else none
def bltT (c : Bool) (x : Str) : Option PL :=
  if x = "int" then some intP else if x = "list" then some (listP c) else if x = "tuple" then some (if c then tupleKP else tupleP) else if x = "dict" then some dictKP else none
def lmeth (m : Str) : Option (Val → PL) := if m = "append" then some appendP else if m = "extend" then some extendP else if m = "pop" then some popP else if m = "index" then some indexP else if m = "count" then some countP else none
def smeth (m : Str) : Option (Val → PL) := if m = "join" then some joinP else none
/-- list(range(..)), tuple(range(..)) -/
def denRg (f : Expr → IE) (C : SC) (c tup : Bool) : List Expr → Option IE
  | [.Call (.Name g _) [a] [] _] => if g = "range" then (if C.isB "range" && !starB a then some (rg1I c tup (f a)) else some noI) else none
  | [.Call (.Name g _) [a, b] [] _] => if g = "range" then (if C.isB "range" && !starB a && !starB b then some (rg2I c tup (f a) (f b)) else some noI)
    else if g = "zip" then (if !tup && !c && C.isB "zip" && !starB a && !starB b then some (lzipI (f a) (f b)) else if tup && C.isB "zip" && !starB a && !starB b then some (tzipI (f a) (f b)) else some noI) else none
  | _ => none
/-- a built-in class by its name -/
def tyName (x : Str) : Option TyTag :=
  if x = "int" then some (.inl "int") else if x = "str" then some (.inl "str") else if x = "tuple" then some (.inl "tuple") else if x = "list" then some (.inl "list") else if x = "bool" then some (.inl "bool") else if x = "dict" then some (.inl "dict") else none
def denTag (C : SC) (x : Str) : Option TyTag := if badName x then none else if C.isB x then tyName x else if C.isG x && C.T.cob.contains x then some (.inr x) else none
def denTags (C : SC) : List Expr → Option (List TyTag)
  | [] => some []
  | .Name x _ :: r => (match denTag C x, denTags C r with
    | some t, some ts => some (t :: ts)
    | _, _ => none)
  | _ => none
def denIsi (f : Expr → IE) (C : SC) : List Expr → IE
  | [e, .Name x _] => if starB e then noI else (match denTag C x with
    | some t => un1 (isiP C.T.kit C.T.own [t]) (f e)
    | none => noI)
  | [e, .Tuple es _ _] => if starB e then noI else (match denTags C es with
    | some ts => if ts.length ≤ 1000 then un1 (isiP C.T.kit C.T.own ts) (f e) else noI
    | none => noI)
  | _ => noI
/-- sorted(set(e)) -/
def denSet (f : Expr → IE) (C : SC) (c : Bool) : List Expr → Option IE
  | [.Call (.Name g _) [e] [] _] => if g = "set" then (if C.isB "set" && !starB e then some (un1 (sortSetP c) (f e)) else some noI) else none
  | _ => none
def denKws (f : Expr → IE) : List Keyword → IA
  | [] => nilA
  | k :: r => consA (f k.value) (denKws f r)
def denCallK (f : Expr → IE) (C : SC) (x : Str) (kws : List Keyword) : IE :=
  if badName x || !C.isG x then noI else match C.T.kwf.lookup x with
    | some ps => if kws.map (·.arg) = ps.map some then callF C.Γ x (denKws f kws) else noI
    | none => match C.T.kwp.lookup x with
      | some (qs, ix) => if kws.map (·.arg) = qs.map some then callFP C.Γ x qs.length ix (denKws f kws) else noI
      | none => noI
def keysOf : List (Option Expr) → Option (List Str)
  | [] => some []
  | some (.Constant (.str x) _ _) :: r => (keysOf r).map (x :: ·)
  | _ => none
def nodupB : List Str → Bool
  | [] => true
  | x :: r => !r.contains x && nodupB r
def denDict (f : Expr → IE) (keys : List (Option Expr)) (es : List Expr) : IE := match keysOf keys with
  | some ks => if ks.isEmpty || !(ks.length == es.length) || !nodupB ks || decide (15 < ks.length) then noI else dspI ks (foldA (es.map f))
  | none => noI
def denCall (f : Expr → IE) (C : SC) (x : Str) (as : List Expr) (pos : Pos) : IE :=
  if as.any starB || badName x then noI
  else if !C.isG x then (match C.knd x, idxOf C.N x 0, as with
    | some .local, some i, a :: r => callLI C.Γ C.T.dfs i (denA f (a :: r))
    | _, _, _ => noI)
  else if C.T.dfs.contains x then callF C.Γ x (denA f as)
  else if C.T.cls.contains x then (match as with
    | [] => noI
    | a :: r => makeI C.Γ x (C.frz pos) (denA f (a :: r)))
  else if !C.T.free.contains x then noI
  else if x = "isinstance" then denIsi f C as
  else match (if x = "list" then denRg f C (C.cel pos) false as else if x = "tuple" then denRg f C (C.cel pos) true as else if x = "sorted" then denSet f C (C.cel pos) as else none) with
    | some m => m
    | none => match as with
      | [] => noI
      | a :: r => match bltB (C.cel pos) x with
        | some p => callP p (denA f (a :: r))
        | none => match bltT (C.cel pos) x with
          | some p => callP p (denA f (a :: r))
          | none => noI
def denMeth (f : Expr → IE) (o : Expr) (m : Str) (ap : Pos) (as : List Expr) (pos : Pos) : IE :=
  if !plainBase o || !(ap.endLine == pos.line) || as.any starB || !decide (as.length < 30) then noI else match lmeth m with
    | some p => lmethI p (f o) (denA f as)
    | none => match smeth m with
      | some p => smethI p (f o) (denA f as)
      | none => noI
def denPart (f : Expr → IE) : Option Expr → IO
  | none => noPart
  | some e => partI (f e)
def tgName (C : SC) (e : Expr) : Option Nat := match e with
  | .Name x _ => (match C.knd x with
    | some .local => idxOf C.N x 0
    | some .cell => if C.fn x then idxOf C.N x 0 else none
    | _ => none)
  | _ => none
def tgNames (C : SC) : List Expr → Option (List Nat)
  | [] => some []
  | e :: es => match tgName C e, tgNames C es with
    | some i, some is => some (i :: is)
    | _, _ => none
def tgOf (C : SC) (e : Expr) : Option Tg := match e with
  | .Name .. => (tgName C e).map .nm
  | .Tuple es _ _ => (tgNames C es).map .tp
  | _ => none
def isTupE : Expr → Bool
  | .Tuple .. => true
  | _ => false
def noII : II := fun _ _ _ _ => False
def denI (f : Expr → IE) (C : SC) (tg it : Expr) : II := match it with
  | .Call (.Name g p) as kws pos =>
    if g = "range" && kws.isEmpty then (match as with
      | [a] => if C.isB "range" && !starB a then rng1I (f a) else noII
      | [a, b] => if C.isB "range" && !starB a && !starB b then rng2I (f a) (f b) else noII
      | [a, b, c] => if C.isB "range" && !starB a && !starB b && !starB c then rng3I (f a) (f b) (f c) else noII
      | _ => noII)
    else if g = "enumerate" && kws.isEmpty then (match as with
      | [a] => if C.isB "enumerate" && !starB a && isTupE tg then enumAI (f a) else noII
      | _ => noII)
    else if g = "zip" && kws.isEmpty then (match as with
      | [a, b] => if C.isB "zip" && !starB a && !starB b && isTupE tg then zipI (f a) (f b) else noII
      | _ => noII)
    else walkI (f (.Call (.Name g p) as kws pos))
  | e => walkI (f e)
def SC.blk (C : SC) (scope : Scope) : SC := { C with sc := relS scope C.sc, fn := fun x => scope.names.lookup x == some .cell }
def ownOf (N : List Str) : List (Str × NameKind) → List (Str × Nat)
  | [] => []
  | (x, k) :: r => if k = .local ∨ k = .cell then (match idxOf N x 0 with
    | some i => (x, i) :: ownOf N r
    | none => ownOf N r) else ownOf N r
def denIfs (f : Expr → IT) : List Expr → Option IT
  | [] => some yesT
  | [c] => some (f c)
  | _ => none
def subI (is js : List Nat) : Bool := is.all fun i => js.contains i
/-- a list comprehension -/
def denLC (d : SC → Dn) (C : SC) (elt : Expr) (gs : List Comprehension) (scope : Scope) (pos : Pos) : IE := match gs with
  | [⟨tg, it, ifs, a⟩] =>
    if a ≠ 0 || setB it || !blkC C.N C.sc scope (ownOf C.N scope.names) then noI
    else match tgOf (C.blk scope) tg, denIfs (d (C.blk scope)).T ifs with
      | some t, some tt => if subI (tgIdx t) ((ownOf C.N scope.names).map (·.2)) then lcI (C.cel pos) (denI (d C).E C tg it) t tt ((d (C.blk scope)).E elt) ((ownOf C.N scope.names).map (·.2)) else noI
      | _, _ => noI
  | [⟨tg, it, ifs, a⟩, ⟨tg1, it1, ifs1, a1⟩] =>
    if a ≠ 0 || a1 ≠ 0 || setB it || setB it1 || !blkC C.N C.sc scope (ownOf C.N scope.names) then noI
    else match tgOf (C.blk scope) tg, denIfs (d (C.blk scope)).T ifs, tgOf (C.blk scope) tg1, denIfs (d (C.blk scope)).T ifs1 with
      | some t, some tt, some t1, some tt1 => if subI (tgIdx t) ((ownOf C.N scope.names).map (·.2)) && subI (tgIdx t1) ((ownOf C.N scope.names).map (·.2)) then
          lc2I (C.cel pos) (denI (d C).E C tg it) t tt (denI (d (C.blk scope)).E (C.blk scope) tg1 it1) t1 tt1 ((d (C.blk scope)).E elt) ((ownOf C.N scope.names).map (·.2)) (tgIdx t1) else noI
      | _, _, _, _ => noI
  | _ => noI
/-- a table of defs, by its name -/
def tabOf (C : SC) : Expr → Option (List (Str × Str))
  | .Name x _ => if badName x || !C.isG x then none else C.T.tabs.lookup x
  | _ => none
def denE (d : SC → Dn) (C : SC) (e : Expr) : IE := match e with
  | .Constant .none _ _ => conI .non
  | .Constant (.bool b) _ _ => conI (.bl b)
  | .Constant (.int i) _ _ => conI (.int i)
  | .Constant (.str x) _ _ => conI (.str x)
  | .Name x _ => denName C x
  | .BinOp a op b pos => match opB (C.cel pos) op with
    | some r => bin2 r ((d C).E a) ((d C).E b)
    | none => noI
  | .UnaryOp .Not a _ => un1 notP ((d C).E a)
  | .UnaryOp .USub a _ => un1 negP ((d C).E a)
  | .BoolOp .And es _ => denAnd (d C).E es
  | .BoolOp .Or es _ => denOr (d C).E es
  | .Compare a ops bs _ => denCmp (d C).E a ops bs
  | .IfExp t a b _ => ifE ((d C).T t) ((d C).E a) ((d C).E b)
  | .Tuple es _ _ => tupI (denA (d C).E es)
  | .List es pos => lstI (C.cel pos) (denA (d C).E es)
  | .Attribute o f _ => if plainBase o then un1 (fldP C.T.F f) ((d C).E o) else noI
  | .Subscript o (.Slice none none (some (.UnaryOp .USub (.Constant (.int 1) _ _) _)) _) pos => revI (C.cel pos) ((d C).E o)
  | .Dict keys es _ => denDict (d C).E keys es
  | .Call (.Name x _) [] (k :: kws) _ => denCallK (d C).E C x (k :: kws)
  | .Subscript o (.Slice lo hi none _) pos => sliceI (C.cel pos) ((d C).E o) (denPart (d C).E lo) (denPart (d C).E hi)
  | .Subscript o i _ => if sliceB i then noI else match tabOf C o with
    | some kvs => un1 (tabP kvs) ((d C).E i)
    | none => bin2 ixP ((d C).E o) ((d C).E i)
  | .Call (.Name x _) as [] pos => denCall (d C).E C x as pos
  | .Call (.Attribute o m ap) as [] pos => denMeth (d C).E o m ap as pos
  | .ListComp elt gs scope pos => denLC d C elt gs scope pos
  | _ => noI
def denT (d : SC → Dn) (C : SC) (e : Expr) : IT := match e with
  | .UnaryOp .Not a _ => notT ((d C).T a)
  | .BoolOp .And es _ => denAndT (d C).T es
  | .BoolOp .Or es _ => denOrT (d C).T es
  | .Compare a ops bs _ => tstB (denCmp (d C).E a ops bs)
  | .IfExp .. => noT
  | e => tst ((d C).E e)
def denSs (f : Stmt → IS) : List Stmt → IS
  | [] => nextI
  | s :: r => seqI (f s) (denSs f r)
def swapC (C : SC) (ts vs : List Expr) : Option (Option (List Str)) :=
  if !(ts.length == 2 || ts.length == 3) || vs.length != ts.length then some none
  else if vs.any starB then some none
  else
    let line := (ts.head?.map (·.pos.line)).getD 0
    let names := ts.filterMap fun
      | .Name id pos => if C.knd id == some .local && pos.line == line then some id else none
      | _ => none
    if names.length != ts.length || names.eraseDups.length != names.length then some none
    else if vs.all (foldedForSure 8) then some none
    else if vs.all (constantsAlone 8) then none
    else some (some names)
def isLoc (C : SC) (x : Str) : Bool := C.knd x == some .local
def denPar (f : Expr → IE) (C : SC) (es vs : List Expr) (is : List Nat) (nms : List Str) : IS := match es, vs, is with
  | [.Name x _, .Name y _], [a, b], [i, j] => if isLoc C x && isLoc C y && decide (i ≠ j) && decide (nms = [x, y]) then parI [i, j] (denA f [a, b]) else neverI
  | [.Name x _, .Name y _, .Name z _], [a, b, c], [i, j, l] => if isLoc C x && isLoc C y && isLoc C z && decide (i ≠ j) && decide (i ≠ l) && decide (j ≠ l) && decide (nms = [x, y, z]) then parI [i, j, l] (denA f [a, b, c]) else neverI
  | _, _, _ => neverI
def denAsg (d : SC → Dn) (C : SC) (tg e : Expr) : IS := match tg with
  | .Name x p => match tgName C (.Name x p) with
    | none => neverI
    | some i => match e with
      | .ListComp elt gs scope cpos => if (C.knd x == some .local) && (p.line == cpos.line) && !(scope.names.any fun (n, k) => n == x && (k == .local || k == .cell)) then setI (.nm i) (denLC d C elt gs scope cpos) else setI (.nm i) ((d C).E e)
      | e => if compB e then neverI else setI (.nm i) ((d C).E e)
  | .Tuple es _ _ => match tgNames C es with
    | none => neverI
    | some is => match e with
      | .Tuple vs _ _ => (match swapC C es vs with
        | none => neverI
        | some none => setI (.tp is) ((d C).E e)
        | some (some nms) => denPar (d C).E C es vs is nms)
      | e => if compB e then neverI else setI (.tp is) ((d C).E e)
  | .Subscript o (.Slice lo hi none _) _ => sstoreI ((d C).E o) (denPart (d C).E lo) (denPart (d C).E hi) ((d C).E e)
  | .Subscript o i _ => if sliceB i then neverI else storeI ((d C).E o) ((d C).E i) ((d C).E e)
  | .Attribute o f _ => if compB e then neverI else setFldI C.T.F f ((d C).E o) ((d C).E e)
  | _ => neverI
@[reducible] def addI : P2 := fun x y S Q => match x, y with
  | .int i, .int j => Q (.int (i + j)) S
  | _, _ => False
@[reducible] def mulI : P2 := fun x y S Q => match x, y with
  | .int i, .int j => CMul i j ∧ Q (.int (i * j)) S
  | _, _ => False
def opA : Operator → Option P2
  | .Add => some addI
  | .Sub => some subP
  | .Mult => some mulI
  | _ => none
def denS (d : SC → Dn) (C : SC) (s : Stmt) : IS := match s with
  | .Pass _ => nextI
  | .Break _ => breakI
  | .Continue _ => contI
  | .Return none _ => retN
  | .Return (some e) pos => retI (C.frz pos) ((d C).E e)
  | .Expr e _ => if compB e then neverI else dropI ((d C).E e)
  | .If c a b _ => ifI ((d C).T c) (denSs (d C).S a) (denSs (d C).S b)
  | .While c a [] _ => whileI ((d C).T c) (denSs (d C).S a)
  | .For tg it a [] _ => if setB it then neverI else match tgOf C tg with
    | some t => forI (denI (d C).E C tg it) t (denSs (d C).S a)
    | none => neverI
  | .Assign [tg] e _ => denAsg d C tg e
  | .AugAssign (.Name x p) op e _ => match tgName C (.Name x p), opA op with
    | some i, some r => augI i r ((d C).E e)
    | _, _ => neverI
  | .Delete [.Subscript o (.Slice lo none none _) _] _ => sdelI ((d C).E o) (denPart (d C).E lo)
  | _ => neverI
def den : Nat → SC → Dn
  | 0, _ => ⟨fun _ => noI, fun _ => noT, fun _ => neverI⟩
  | n + 1, C => ⟨denE (den n) C, denT (den n) C, denS (den n) C⟩
end TL

/-! TL10: the plain meaning of the syntax is a reading of it. -/
namespace TL
open PySem PySem.Spec L2
open PyProof.Rows hiding St

/-- where a text runs -/
structure CtxOk (C : SC) (X : Cx) (W : WX) (k : Nat) : Prop where
  N : X.N = C.N
  sc : X.env.scope = C.sc
  nd : X.N.Nodup
  kind : C.sc.kind = .function
  calm : X.calm = true
  fn : ∀ x, C.fn x = true → X.fn x = true
  tk : Takes X W
  po : PassesOwn (model X.prog X.w) X.A X.env X.xe
  room : Room (k + 1) X.A
  con : ∀ x v, C.T.con.lookup x = some v → ∃ y u, X.mg x = some u ∧ RelV y u ∧ ∀ B H S, RV X.K B H S v y
  dfs : ∀ f, f ∈ C.T.dfs → ∃ fd ps, DefOk X k C.Γ f fd ps
  cls : ∀ c, c ∈ C.T.cls → ∃ fd ps, MakeOk X k C.Γ c fd ps
  fld : FldOk X.K C.T.F
  free : ∀ x, x ∈ C.T.free → X.mg x = none
  kwf : ∀ f ps, C.T.kwf.lookup f = some ps → ∃ fd, DefOk X k C.Γ f fd ps ∧ Kb X.K fd ps
  kwp : ∀ f qs ix, C.T.kwp.lookup f = some (qs, ix) → ∃ fd ps, DefOk X k C.Γ f fd ps ∧ Kbp X.K fd ps qs ix
  cob : ∀ c, c ∈ C.T.cob → X.mg c = some (.ref (He.ga X.K c))
  kit : KitOk X.K C.T.kit C.T.own
  tab : ∀ x kvs, C.T.tabs.lookup x = some kvs → ∃ t, X.mg x = some (.ref t) ∧ ∀ z f, kvs.lookup z = some f → KDct X.K X.w t z (.ref (He.ga X.K f))

section
variable {C : SC} {X : Cx} {W : WX} {k : Nat}
theorem CtxOk.blk (c : CtxOk C X W k) {scope : Scope} (hk : scope.kind = .function) (s : Shared) (H : Hp) (a : Addr) (cl : List (Str × Addr)) (fp : List Addr) : CtxOk (C.blk scope) (X.blk s H scope (compEnvC scope cl a X.env) fp) noW k where
  N := c.N
  sc := by show relS scope X.env.scope = relS scope C.sc; rw [c.sc]
  nd := c.nd
  kind := hk
  calm := c.calm
  fn := fun x h => h
  tk := takes0
  po := .never
  room := c.room
  con := c.con
  dfs := fun f h => let ⟨fd, ps, d⟩ := c.dfs f h; ⟨fd, ps, ⟨d.ok, d.mg, d.kp, d.bi⟩⟩
  cls := fun f h => let ⟨fd, ps, d⟩ := c.cls f h; ⟨fd, ps, ⟨d.mkr, d.mg, d.bi⟩⟩
  fld := c.fld
  free := c.free
  kwf := fun f ps h => let ⟨fd, d, b⟩ := c.kwf f ps h; ⟨fd, ⟨d.ok, d.mg, d.kp, d.bi⟩, b⟩
  kwp := fun f qs ix h => let ⟨fd, ps, d, b⟩ := c.kwp f qs ix h; ⟨fd, ps, ⟨d.ok, d.mg, d.kp, d.bi⟩, b⟩
  cob := c.cob
  kit := c.kit
  tab := c.tab
theorem CtxOk.noW (c : CtxOk C X W k) : CtxOk C X noW k := { c with tk := takes0 }
theorem CtxOk.knd (c : CtxOk C X W k) (x : Str) : X.env.kindOf x = C.knd x := by
  show X.env.scope.names.lookup x = C.sc.names.lookup x
  rw [c.sc]
theorem CtxOk.look (c : CtxOk C X W k) (x : Str) : X.env.scope.names.lookup x = C.knd x := by
  show X.env.scope.names.lookup x = C.sc.names.lookup x
  rw [c.sc]
theorem CtxOk.un (c : CtxOk C X W k) : X.A.units + 65 < cLine := by have := c.room.un; omega
theorem idxOf_get : ∀ {N : List Str} {x : Str} {i j : Nat}, idxOf N x i = some j → ∃ m, j = i + m ∧ N[m]? = some x
  | [], _, _, _, h => by cases h
  | y :: r, x, i, j, h => by
    unfold idxOf at h
    split at h
    · rename_i e
      cases h
      exact ⟨0, rfl, by rw [e]; rfl⟩
    · obtain ⟨m, e1, e2⟩ := idxOf_get h
      exact ⟨m + 1, by omega, by simpa using e2⟩
theorem CtxOk.ix (c : CtxOk C X W k) {x : Str} {j : Nat} (h : idxOf C.N x 0 = some j) : X.N[j]? = some x := by
  obtain ⟨m, e1, e2⟩ := idxOf_get h
  rw [c.N, e1, Nat.zero_add]
  exact e2
theorem beq_kind {a b : Option NameKind} (h : (a == b) = true) : a = b := by simpa using h
theorem CtxOk.isG (c : CtxOk C X W k) {x : Str} (h : C.isG x = true) : Gl X x := by
  show X.env.kindOf x = _
  rw [c.knd]
  exact beq_kind h
theorem CtxOk.isB (c : CtxOk C X W k) {x : Str} (h : C.isB x = true) : Gl X x ∧ X.mg x = none := by
  unfold SC.isB at h
  obtain ⟨h1, h2⟩ := Bool.and_eq_true_iff.mp h
  exact ⟨c.isG h1, c.free x (by simpa using h2)⟩
theorem badName_no {x : Str} (h : ¬ badName x = true) : (x == ("__debug__" : Str)) = false ∧ (x == ("__classdict__" : Str)) = false := by
  unfold badName at h
  rw [Bool.or_eq_true] at h
  exact ⟨by simpa using fun z => h (.inl (by simpa using z)), by simpa using fun z => h (.inr (by simpa using z))⟩
theorem denName_ok (c : CtxOk C X W k) {x : Str} {p : Pos} : PE X (.Name x p) (liftE X.K W (denName C x)) := by
  unfold denName
  split
  · exact se_no
  · rename_i hb
    obtain ⟨hd, hcd⟩ := badName_no hb
    split
    · rename_i q
      split
      · rename_i v e
        obtain ⟨y, u, h1, h2, h3⟩ := c.con x v e
        exact se_glob (by show X.env.kindOf x = _; rw [c.knd, q]) h1 h2 h3 hd
      · exact se_no
    · exact se_no
    · rename_i kd h1 h2 q
      split
      · rename_i i e
        refine se_var (c.ix e) ?_ hd hcd
        unfold Vis
        rw [c.look, q]
        cases kd with
        | «local» => exact .inl rfl
        | cell => exact .inr (.inl rfl)
        | free => exact .inr (.inr rfl)
        | globalExplicit => exact absurd rfl h2
        | globalImplicit => exact absurd rfl h1
      · exact se_no
    · exact se_no

/-! ### the tables of operators -/
theorem opB_ok {cl : Bool} {op : Operator} {r : P2} (h : opB cl op = some r) : ∃ rr, OpR X (binaryOp op) rr ∧ P2Ok X.K r rr := by
  cases op <;> first | cases h
  · exact ⟨_, op_addP, addP_ok cl⟩
  · exact ⟨_, op_sub, subP_ok⟩
  · exact ⟨_, op_mulP, mulP_ok cl⟩
  · exact ⟨_, op_mod, modP_ok⟩
  · exact ⟨_, op_pow, powP_ok⟩
  · exact ⟨_, op_fdivW, fdivP_ok⟩
theorem opC_ok (c : CtxOk C X W k) {op : CmpOp} {r : P2} (h : opC op = some r) : ∃ rr, OpR X (compareOp op) rr ∧ P2Ok X.K r rr := by
  cases op <;> first | cases h
  · exact ⟨_, op_eq.or (op_eqD (by have := c.un; omega)), eqP_ok⟩
  · exact ⟨_, op_ne.or (op_neD (by have := c.un; omega)), neP_ok⟩
  · exact ⟨_, op_lt, cmpP_ok _⟩
  · exact ⟨_, op_le, cmpP_ok _⟩
  · exact ⟨_, op_gt, cmpP_ok _⟩
  · exact ⟨_, op_ge, cmpP_ok _⟩
  · exact ⟨_, op_isN.or op_isB, isP_ok⟩
  · exact ⟨_, op_notN.or op_isNotB, isNotP_ok⟩
  · exact ⟨_, op_inAll c.un, inP_ok false⟩
  · exact ⟨_, op_notInAll c.un, inP_ok true⟩

/-! ### rows -/
theorem liftA_no {es : List Expr} : PA X es (liftA X.K W (fun _ _ _ _ => False)) := ⟨fun _ _ _ _ _ _ _ ⟨_, _, _, _, _, _, h, _⟩ => h.elim⟩
theorem denA_ok {f : Expr → IE} (h : ∀ e, PE X e (liftE X.K W (f e))) : ∀ es, PA X es (liftA X.K W (denA f es))
  | [] => sa_nil
  | e :: es => by
    unfold denA
    split
    · exact liftA_no
    · rename_i hs
      exact sa_cons (by simpa using hs) (h e) (denA_ok h es)
theorem denAnd_ok {f : Expr → IE} {pos : Pos} (h : ∀ e, PE X e (liftE X.K W (f e))) : ∀ es, PE X (.BoolOp .And es pos) (liftE X.K W (denAnd f es))
  | [] => se_no
  | [a] => se_one (h a)
  | a :: b :: r => se_and (h a) (denAnd_ok h (b :: r))
theorem denOr_ok {f : Expr → IE} {pos : Pos} (h : ∀ e, PE X e (liftE X.K W (f e))) : ∀ es, PE X (.BoolOp .Or es pos) (liftE X.K W (denOr f es))
  | [] => se_no
  | [a] => se_one (h a)
  | a :: b :: r => se_or (h a) (denOr_ok h (b :: r))
theorem st_no {e : Expr} : PT X e (liftT X.K W noT) := ⟨fun _ _ _ _ _ _ ⟨_, _, _, _, _, _, h, _⟩ => h.elim⟩
theorem sw_no {e : Expr} : PW X e (liftT X.K W noT) := ⟨fun _ _ _ _ _ _ _ ⟨_, _, _, _, _, _, h, _⟩ => h.elim⟩
theorem denAndT_ok {f : Expr → IT} {pos : Pos} (h : ∀ e, PT X e (liftT X.K W (f e))) : ∀ es, PW X (.BoolOp .And es pos) (liftT X.K W (denAndT f es))
  | [] => sw_no
  | [a] => sw_and1 (h a)
  | a :: b :: r => sw_and (h a) (denAndT_ok h (b :: r))
theorem denOrT_ok {f : Expr → IT} {pos : Pos} (h : ∀ e, PT X e (liftT X.K W (f e))) : ∀ es, PW X (.BoolOp .Or es pos) (liftT X.K W (denOrT f es))
  | [] => sw_no
  | [a] => sw_or1 (h a)
  | a :: b :: r => sw_or (h a) (denOrT_ok h (b :: r))
theorem denCmp_ok (c : CtxOk C X W k) {f : Expr → IE} {pos : Pos} (h : ∀ e, PE X e (liftE X.K W (f e))) (a : Expr) (ops : List CmpOp) (bs : List Expr) :
    PE X (.Compare a ops bs pos) (liftE X.K W (denCmp f a ops bs)) ∧ PT X (.Compare a ops bs pos) (liftT X.K W (tstB (denCmp f a ops bs))) := by
  unfold denCmp
  split
  · split
    · exact ⟨se_no, ⟨fun _ _ _ _ _ _ ⟨_, _, _, _, _, _, h, _⟩ => h.elim⟩⟩
    · rename_i hs
      have hs := Bool.eq_false_iff.mpr hs
      split
      · rename_i r e
        obtain ⟨rr, h1, h2⟩ := opC_ok c e
        exact ⟨se_cmp h1 h2 (h _) (h _) (marks_no hs), st_cmp h1 h2 (h _) (h _) (marks_no hs)⟩
      · exact ⟨se_no, ⟨fun _ _ _ _ _ _ ⟨_, _, _, _, _, _, h, _⟩ => h.elim⟩⟩
  · exact ⟨se_no, ⟨fun _ _ _ _ _ _ ⟨_, _, _, _, _, _, h, _⟩ => h.elim⟩⟩

/-! ### calls -/
theorem str_ne (x : Str) : (decide (x = "list") = true) → x = "list" := fun h => of_decide_eq_true h
theorem bltB_ok (c : CtxOk C X W k) {cl : Bool} {x : Str} {p : PL} (h : bltB cl x = some p) : ∃ id rr, bootBuiltins x = some (.builtin id) ∧ x ≠ "__name__" ∧ CallR X (.builtin id) rr ∧ PLOk X.K p rr := by
  unfold bltB at h
  split at h
  · rename_i e; subst e; cases h
    exact ⟨"len", _, rfl, by decide, call_len_seq.or call_len_str, lenP_ok⟩
  split at h
  · rename_i e; subst e; cases h
    exact ⟨"abs", _, rfl, by decide, call_abs, absP_ok⟩
  split at h
  · rename_i e; subst e; cases h
    exact ⟨"max", _, rfl, by decide, ((call_max2 c.calm).or (cr_max c.calm)).or (cr_maxT c.calm), maxP_ok⟩
  split at h
  · rename_i e; subst e; cases h
    exact ⟨"min", _, rfl, by decide, (call_min2 c.calm).or (cr_min c.calm), minP_ok⟩
  split at h
  · rename_i e; subst e; cases h
    exact ⟨"sum", _, rfl, by decide, cr_sum c.calm, sumP_ok⟩
  split at h
  · rename_i e; subst e; cases h
    exact ⟨"sorted", _, rfl, by decide, cr_sortedI.or (cr_sortedTI (by have := c.un; omega)), sortP_ok cl⟩
  split at h
  · rename_i e; subst e; cases h
    exact ⟨"ord", _, rfl, by decide, call_ord, ordP_ok⟩
  · cases h
theorem bltT_ok (c : CtxOk C X W k) {cl : Bool} {x : Str} {p : PL} (h : bltT cl x = some p) : ∃ id rr, bootBuiltins x = some (.type id) ∧ x ≠ "__name__" ∧ CallR X (.type id) rr ∧ PLOk X.K p rr := by
  unfold bltT at h
  split at h
  · rename_i e; subst e; cases h
    exact ⟨"int", _, rfl, by decide, call_int1, intP_ok⟩
  split at h
  · rename_i e; subst e; cases h
    exact ⟨"list", _, rfl, by decide, call_list_of, listP_ok cl⟩
  split at h
  · rename_i e; subst e; cases h
    cases cl with
    | false => exact ⟨"tuple", _, rfl, by decide, call_tuple_of, tupleP_ok⟩
    | true => exact ⟨"tuple", _, rfl, by decide, TLK.call_tupleK, tupleKP_ok⟩
  split at h
  · rename_i e; subst e; cases h
    exact ⟨"dict", _, rfl, by decide, cr_dictCopy.or (TLK.call_dictT c.calm), dictKP_ok⟩
  · cases h
theorem denRg_ok (c : CtxOk C X W k) {f : Expr → IE} {p pos : Pos} (h : ∀ e, PE X e (liftE X.K W (f e))) {cl tup : Bool} {as : List Expr} {m : IE} {x : Str} (hx : x = (if tup then "tuple" else "list")) (hg : Gl X x) (hm : X.mg x = none) (e : denRg f C cl tup as = some m) :
    PE X (.Call (.Name x p) as [] pos) (liftE X.K W m) := by
  unfold denRg at e
  split at e
  · split at e
    · rename_i eg
      subst eg
      split at e
      · rename_i hh
        cases e
        obtain ⟨h1, h2⟩ := Bool.and_eq_true_iff.mp hh
        obtain ⟨b1, b2⟩ := c.isB h1
        cases tup with
        | true => subst hx; exact se_tupRg1 c.calm hg hm b1 b2 (by simpa using h2) (h _)
        | false => subst hx; exact se_listRg1 c.calm hg hm b1 b2 (by simpa using h2) (h _)
      · cases e; exact se_no
    · cases e
  · split at e
    · rename_i eg
      subst eg
      split at e
      · rename_i hh
        cases e
        obtain ⟨h0, h3⟩ := Bool.and_eq_true_iff.mp hh
        obtain ⟨h1, h2⟩ := Bool.and_eq_true_iff.mp h0
        obtain ⟨b1, b2⟩ := c.isB h1
        cases tup with
        | true => subst hx; exact se_tupRg2 c.calm hg hm b1 b2 (by simpa using h2) (by simpa using h3) (h _) (h _)
        | false => subst hx; exact se_listRg2 c.calm hg hm b1 b2 (by simpa using h2) (by simpa using h3) (h _) (h _)
      · cases e; exact se_no
    · split at e
      · rename_i eg
        subst eg
        split at e
        · rename_i hh
          cases e
          obtain ⟨h0, h3⟩ := Bool.and_eq_true_iff.mp hh
          obtain ⟨h0, h2⟩ := Bool.and_eq_true_iff.mp h0
          obtain ⟨h0, h1⟩ := Bool.and_eq_true_iff.mp h0
          obtain ⟨h4, h5⟩ := Bool.and_eq_true_iff.mp h0
          obtain ⟨b1, b2⟩ := c.isB h1
          cases tup with
          | true => cases h4
          | false => subst hx; exact se_listZip c.calm hg hm b1 b2 (by simpa using h2) (by simpa using h3) (h _) (h _)
        · split at e
          · rename_i hh
            cases e
            obtain ⟨h0, h3⟩ := Bool.and_eq_true_iff.mp hh
            obtain ⟨h0, h2⟩ := Bool.and_eq_true_iff.mp h0
            obtain ⟨h4, h1⟩ := Bool.and_eq_true_iff.mp h0
            obtain ⟨b1, b2⟩ := c.isB h1
            cases tup with
            | true => subst hx; exact se_tupZip c.calm hg hm b1 b2 (by simpa using h2) (by simpa using h3) (h _) (h _)
            | false => cases h4
          · cases e; exact se_no
      · cases e
  · cases e
theorem tyName_ok {x : Str} {t : TyTag} (h : tyName x = some t) : ∃ n, t = .inl n ∧ bootBuiltins x = some (.type n) ∧ x ≠ "__name__" := by
  unfold tyName at h
  split at h
  · rename_i e; subst e; cases h; exact ⟨_, rfl, rfl, by decide⟩
  split at h
  · rename_i e; subst e; cases h; exact ⟨_, rfl, rfl, by decide⟩
  split at h
  · rename_i e; subst e; cases h; exact ⟨_, rfl, rfl, by decide⟩
  split at h
  · rename_i e; subst e; cases h; exact ⟨_, rfl, rfl, by decide⟩
  split at h
  · rename_i e; subst e; cases h; exact ⟨_, rfl, rfl, by decide⟩
  split at h
  · rename_i e; subst e; cases h; exact ⟨_, rfl, rfl, by decide⟩
  · cases h
theorem denTag_ok (c : CtxOk C X W k) {x : Str} {t : TyTag} (h : denTag C x = some t) : ClsNm X x t := by
  unfold denTag at h
  split at h
  · cases h
  · rename_i hb
    obtain ⟨hd, _⟩ := badName_no hb
    split at h
    · rename_i hB
      obtain ⟨b1, b2⟩ := c.isB hB
      obtain ⟨n, rfl, h2, h3⟩ := tyName_ok h
      exact ⟨fun p => pe_bltn b1 b2 h2 rfl h3 hd⟩
    · split at h
      · rename_i hG
        obtain ⟨g1, g2⟩ := Bool.and_eq_true_iff.mp hG
        cases h
        exact ⟨fun p => pe_glob (c.isG g1) (c.cob x (by simpa using g2)) rfl hd⟩
      · cases h
theorem denTags_ok (c : CtxOk C X W k) : ∀ {es : List Expr} {ts : List TyTag}, denTags C es = some ts → Paired (fun e t => ∃ x p, e = Expr.Name x p ∧ ClsNm X x t) es ts
  | [], ts, h => by cases h; exact .nil
  | e :: es, ts, h => by
    unfold denTags at h
    split at h
    · rename_i e2; cases e2
    · rename_i x p r e2
      cases e2
      split at h
      · rename_i t ts h1 h2
        cases h
        exact .cons ⟨_, _, rfl, denTag_ok c h1⟩ (denTags_ok c h2)
      · cases h
    · cases h
theorem denIsi_ok (c : CtxOk C X W k) {f : Expr → IE} {p pos : Pos} (h : ∀ e, PE X e (liftE X.K W (f e))) (hg : Gl X "isinstance") (hm : X.mg "isinstance" = none) (as : List Expr) : PE X (.Call (.Name "isinstance" p) as [] pos) (liftE X.K W (denIsi f C as)) := by
  unfold denIsi
  split
  · split
    · exact se_no
    · rename_i hs
      split
      · rename_i t e
        exact se_isi1 c.kit hg hm (Bool.eq_false_iff.mpr hs) (denTag_ok c e) (h _)
      · exact se_no
  · split
    · exact se_no
    · rename_i hs
      split
      · rename_i ts e
        split
        · rename_i hl
          exact se_isiT c.kit hg hm (Bool.eq_false_iff.mpr hs) hl (denTags_ok c e) (h _)
        · exact se_no
      · exact se_no
  · exact se_no
theorem denSet_ok (c : CtxOk C X W k) {f : Expr → IE} {p pos : Pos} {cl : Bool} {as : List Expr} {m : IE} (h : ∀ e, PE X e (liftE X.K W (f e))) (hg : Gl X "sorted") (hm : X.mg "sorted" = none) (e : denSet f C cl as = some m) :
    PE X (.Call (.Name "sorted" p) as [] pos) (liftE X.K W m) := by
  unfold denSet at e
  split at e
  · split at e
    · rename_i eg
      subst eg
      split at e
      · rename_i hh
        cases e
        obtain ⟨h1, h2⟩ := Bool.and_eq_true_iff.mp hh
        obtain ⟨b1, b2⟩ := c.isB h1
        exact se_sortSet c.calm c.un hg hm b1 b2 (by simpa using h2) (h _)
      · cases e; exact se_no
    · cases e
  · cases e
theorem denKws_ok {f : Expr → IE} (h : ∀ e, PE X e (liftE X.K W (f e))) : ∀ kws, PK X kws (liftA X.K W (denKws f kws))
  | [] => sk_nil
  | ⟨a, e, p⟩ :: r => sk_cons (h e) (denKws_ok h r)
theorem denCallK_ok (c : CtxOk C X W k) {f : Expr → IE} {p pos : Pos} (h : ∀ e, PE X e (liftE X.K W (f e))) (x : Str) (kws : List Keyword) : PE X (.Call (.Name x p) [] kws pos) (liftE X.K W (denCallK f C x kws)) := by
  unfold denCallK
  split
  · exact se_no
  · rename_i hh
    simp only [Bool.or_eq_true, not_or, Bool.not_eq_true, Bool.not_eq_false', Bool.not_eq_eq_eq_not] at hh
    obtain ⟨h2, h3⟩ := hh
    obtain ⟨hdb, _⟩ := badName_no (x := x) (by rw [h2]; decide)
    split
    · rename_i ps e
      split
      · rename_i hn
        obtain ⟨fd, D, b⟩ := c.kwf x ps e
        exact se_callK D b (c.room.mono (by omega)) c.tk (c.isG (by simpa using h3)) hdb hn (denKws_ok h kws)
      · exact se_no
    · split
      · rename_i qs ix e
        split
        · rename_i hn
          obtain ⟨fd, ps, D, b⟩ := c.kwp x qs ix e
          exact se_callKP D b (c.room.mono (by omega)) c.tk (c.isG (by simpa using h3)) hdb hn (denKws_ok h kws)
        · exact se_no
      · exact se_no
theorem keysOf_ok : ∀ {keys : List (Option Expr)} {ks : List Str}, keysOf keys = some ks → Paired (fun k x => ∃ j p, k = some (Expr.Constant (.str x) j p)) keys ks
  | [], ks, h => by cases h; exact .nil
  | k :: r, ks, h => by
    unfold keysOf at h
    split at h
    · rename_i e; cases e
    · rename_i x j p r' e
      cases e
      cases q : keysOf r with
      | none => rw [q] at h; cases h
      | some ls =>
        rw [q] at h
        cases h
        exact .cons ⟨_, _, rfl⟩ (keysOf_ok q)
    · cases h
theorem nodupB_ok : ∀ {ks : List Str}, nodupB ks = true → ks.Nodup
  | [], _ => List.nodup_nil
  | x :: r, h => by
    unfold nodupB at h
    obtain ⟨h1, h2⟩ := Bool.and_eq_true_iff.mp h
    exact List.nodup_cons.mpr ⟨by simpa using h1, nodupB_ok h2⟩
theorem pvs_of {f : Expr → IE} (h : ∀ e, PE X e (liftE X.K noW (f e))) : ∀ es, PVs X es ((es.map f).map (liftE X.K noW))
  | [] => .nil
  | e :: es => .cons (h e) (pvs_of h es)
theorem denDict_ok {f : Expr → IE} {pos : Pos} (h : ∀ e, PE X e (liftE X.K noW (f e))) (keys : List (Option Expr)) (es : List Expr) : PE X (.Dict keys es pos) (liftE X.K W (denDict f keys es)) := by
  unfold denDict
  split
  · rename_i ks e
    split
    · exact se_no
    · rename_i hh
      simp only [Bool.or_eq_true, not_or, Bool.not_eq_true, Bool.not_eq_false', Bool.not_eq_eq_eq_not, decide_eq_true_eq] at hh
      obtain ⟨⟨⟨h1, h2⟩, h3⟩, h4⟩ := hh
      have P := keysOf_ok e
      have lk : keys.length = ks.length := Paired.length P
      have le : ks.length = es.length := by simpa using h2
      refine se_disp P (pvs_of h es) (by omega) (by rw [List.length_map]; exact le) (fun z => ?_) (nodupB_ok (by simpa using h3)) (by simp at h4; omega)
      rw [z] at lk
      cases ks with
      | nil => cases h1
      | cons a b => cases lk
  · exact se_no
theorem tabOf_ok (c : CtxOk C X W k) {o b : Expr} {kvs : List (Str × Str)} {m : IE} {pos : Pos} (h : tabOf C o = some kvs) (hb : PE X b (liftE X.K W m)) (hs : sliceB b = false) : PE X (.Subscript o b pos) (liftE X.K W (un1 (tabP kvs) m)) := by
  unfold tabOf at h
  split at h
  · split at h
    · cases h
    · rename_i x p hh
      simp only [Bool.or_eq_true, not_or, Bool.not_eq_true, Bool.not_eq_eq_eq_not, Bool.not_false] at hh
      obtain ⟨h1, h2⟩ := hh
      obtain ⟨t, e1, e2⟩ := c.tab x kvs h
      exact se_tab (c.isG (by simpa using h2)) e1 e2 (badName_no (x := x) (by rw [h1]; decide)).1 hb hs
  · cases h
theorem denCall_ok (c : CtxOk C X W k) {f : Expr → IE} {p pos : Pos} (h : ∀ e, PE X e (liftE X.K W (f e))) (x : Str) (as : List Expr) : PE X (.Call (.Name x p) as [] pos) (liftE X.K W (denCall f C x as pos)) := by
  unfold denCall
  split
  · exact se_no
  · rename_i hh
    simp only [Bool.or_eq_true, not_or, Bool.not_eq_true] at hh
    obtain ⟨h1, h2⟩ := hh
    obtain ⟨hdb, hcd⟩ := badName_no (x := x) (by rw [h2]; decide)
    split
    · split
      · rename_i i a r q e
        refine se_callL c.dfs (c.room.mono (by omega)) c.tk (c.ix e) (.inl ?_) hdb hcd h1 (denA_ok h (a :: r))
        rw [c.look, q]
      · exact se_no
    rename_i h3
    have hg : Gl X x := c.isG (by simpa using h3)
    split
    · rename_i hd
      obtain ⟨fd, ps, D⟩ := c.dfs x (by simpa using hd)
      cases as with
      | nil => exact se_call0 D (c.room.mono (by omega)) c.tk hg hdb
      | cons a r => exact se_call D (c.room.mono (by omega)) c.tk hg hdb h1 (denA_ok h (a :: r))
    split
    · rename_i hd
      obtain ⟨fd, ps, D⟩ := c.cls x (by simpa using hd)
      cases as with
      | nil => exact se_no
      | cons a r => exact se_make D c.room hg hdb h1 (denA_ok h (a :: r))
    split
    · exact se_no
    · rename_i hf
      have hm : X.mg x = none := c.free x (by simpa using hf)
      split
      · rename_i ex; subst ex
        exact denIsi_ok c h hg hm as
      split
      · rename_i m e
        split at e
        · rename_i ex; exact denRg_ok c h (tup := false) ex hg hm e
        · split at e
          · rename_i ex; exact denRg_ok c h (tup := true) ex hg hm e
          · split at e
            · rename_i ex; subst ex; exact denSet_ok c h hg hm e
            · cases e
      · cases as with
        | nil => exact se_no
        | cons a r =>
          dsimp only
          split
          · rename_i q e
            obtain ⟨id, rr, b1, b2, b3, b4⟩ := bltB_ok c e
            exact se_callB b3 b4 hg hm b1 b2 hdb h1 (denA_ok h (a :: r))
          · split
            · rename_i q e
              obtain ⟨id, rr, b1, b2, b3, b4⟩ := bltT_ok c e
              exact se_callTy b3 b4 hg hm b1 b2 hdb h1 (denA_ok h (a :: r))
            · exact se_no
theorem denMeth_ok (c : CtxOk C X W k) {f : Expr → IE} {ap pos : Pos} (h : ∀ e, PE X e (liftE X.K W (f e))) (o : Expr) (m : Str) (as : List Expr) : PE X (.Call (.Attribute o m ap) as [] pos) (liftE X.K W (denMeth f o m ap as pos)) := by
  unfold denMeth
  split
  · exact se_no
  · rename_i hh
    simp only [Bool.or_eq_true, not_or, Bool.not_eq_true, Bool.not_eq_false', Bool.not_eq_eq_eq_not] at hh
    obtain ⟨⟨⟨h1, h2⟩, h3⟩, h4⟩ := hh
    have h1 : plainBase o = true := by simpa using h1
    have h2 : (ap.endLine == pos.line) = true := by simpa using h2
    have h4 : as.length < 30 := by simpa using h4
    unfold lmeth
    split
    · rename_i p e
      split at e
      · rename_i em; subst em; cases e
        cases as with
        | nil => exact se_lmeth0 slot_list_append rfl mt_append appendP_ok h1 h2 (h o)
        | cons a r => exact se_lmeth slot_list_append rfl mt_append appendP_ok h1 h2 h3 h4 (h o) (denA_ok h (a :: r))
      split at e
      · rename_i em; subst em; cases e
        cases as with
        | nil => exact se_lmeth0 PySem.F.slot_list_extend rfl mt_extend extendP_ok h1 h2 (h o)
        | cons a r => exact se_lmeth PySem.F.slot_list_extend rfl mt_extend extendP_ok h1 h2 h3 h4 (h o) (denA_ok h (a :: r))
      split at e
      · rename_i em; subst em; cases e
        cases as with
        | nil => exact se_lmeth0 PySem.F.slot_list_pop rfl mt_popBoth popP_ok h1 h2 (h o)
        | cons a r => exact se_lmeth PySem.F.slot_list_pop rfl mt_popBoth popP_ok h1 h2 h3 h4 (h o) (denA_ok h (a :: r))
      split at e
      · rename_i em; subst em; cases e
        cases as with
        | nil => exact se_lmeth0 PySem.F.slot_list_index rfl mt_index indexP_ok h1 h2 (h o)
        | cons a r => exact se_lmeth PySem.F.slot_list_index rfl mt_index indexP_ok h1 h2 h3 h4 (h o) (denA_ok h (a :: r))
      split at e
      · rename_i em; subst em; cases e
        cases as with
        | nil => exact se_lmeth0 PySem.F.slot_list_count rfl mt_lcount countP_ok h1 h2 (h o)
        | cons a r => exact se_lmeth PySem.F.slot_list_count rfl mt_lcount countP_ok h1 h2 h3 h4 (h o) (denA_ok h (a :: r))
      · cases e
    · unfold smeth
      split
      · rename_i p e
        split at e
        · rename_i em; subst em; cases e
          cases as with
          | nil => exact se_smeth0 PySem.F.slot_str_join PySem.F.type_str_join mt_join joinP_ok h1 h2 (h o)
          | cons a r => exact se_smeth PySem.F.slot_str_join PySem.F.type_str_join mt_join joinP_ok h1 h2 h3 h4 (h o) (denA_ok h (a :: r))
        · cases e
      · exact se_no

/-! ### targets, what is walked -/
theorem tgName_ok (c : CtxOk C X W k) {e : Expr} {i : Nat} (h : tgName C e = some i) : ∃ x p, e = Expr.Name x p ∧ X.N[i]? = some x ∧ Loc X.env.scope x ∧ (X.fn x = true ∨ X.env.scope.names.lookup x = some .local) := by
  unfold tgName at h
  split at h
  · rename_i x p
    split at h
    · rename_i q
      exact ⟨x, p, rfl, c.ix h, .inl (by rw [c.look, q]), .inr (by rw [c.look, q])⟩
    · rename_i q
      split at h
      · rename_i hf
        exact ⟨x, p, rfl, c.ix h, .inr (by rw [c.look, q]), .inl (c.fn x hf)⟩
      · cases h
    · cases h
  · cases h
theorem tgNames_ok (c : CtxOk C X W k) : ∀ {es : List Expr} {is : List Nat}, tgNames C es = some is → Paired (fun e i => ∃ x p, e = Expr.Name x p ∧ X.N[i]? = some x ∧ Loc X.env.scope x ∧ (X.fn x = true ∨ X.env.scope.names.lookup x = some .local)) es is
  | [], is, h => by cases h; exact .nil
  | e :: es, is, h => by
    unfold tgNames at h
    split at h
    · rename_i i js h1 h2
      cases h
      exact .cons (tgName_ok c h1) (tgNames_ok c h2)
    · cases h
theorem tgOf_ok (c : CtxOk C X W k) {e : Expr} {t : Tg} (h : tgOf C e = some t) : PG X e (gT X.K t) := by
  unfold tgOf at h
  split at h
  · cases q : tgName C (.Name _ _) with
    | none => rw [q] at h; cases h
    | some i =>
      rw [q] at h
      cases h
      obtain ⟨x, p, e, h1, h2, h3⟩ := tgName_ok c q
      cases e
      exact pg_name c.nd h1 h2 h3
  · cases q : tgNames C _ with
    | none => rw [q] at h; cases h
    | some is =>
      rw [q] at h
      cases h
      obtain ⟨h1, h2, h3⟩ := pg_names c.nd (tgNames_ok c q)
      exact pg_tup c.calm h1 h2 h3
  · cases h
theorem pi_no {tg e : Expr} : PI X tg e (liftI X.K W noII) := ⟨fun _ _ _ _ _ _ ⟨_, _, _, _, _, _, h, _⟩ => h.elim⟩
theorem denI_ok (c : CtxOk C X W k) {f : Expr → IE} (h : ∀ e, PE X e (liftE X.K W (f e))) (tg it : Expr) : PI X tg it (liftI X.K W (denI f C tg it)) := by
  unfold denI
  split
  · rename_i g p as kws pos
    split
    · rename_i hh
      obtain ⟨e1, e2⟩ := Bool.and_eq_true_iff.mp hh
      have e1 := of_decide_eq_true e1
      have e2 : kws = [] := by simpa using e2
      subst e1 e2
      split
      · split
        · rename_i hb
          obtain ⟨h1, h2⟩ := Bool.and_eq_true_iff.mp hb
          obtain ⟨b1, b2⟩ := c.isB h1
          exact pi_rng1 b1 b2 (by simpa using h2) (h _)
        · exact pi_no
      · split
        · rename_i hb
          obtain ⟨h0, h3⟩ := Bool.and_eq_true_iff.mp hb
          obtain ⟨h1, h2⟩ := Bool.and_eq_true_iff.mp h0
          obtain ⟨b1, b2⟩ := c.isB h1
          exact pi_rng2 b1 b2 (by simpa using h2) (by simpa using h3) (h _) (h _)
        · exact pi_no
      · split
        · rename_i hb
          obtain ⟨h0, h4⟩ := Bool.and_eq_true_iff.mp hb
          obtain ⟨h0, h3⟩ := Bool.and_eq_true_iff.mp h0
          obtain ⟨h1, h2⟩ := Bool.and_eq_true_iff.mp h0
          obtain ⟨b1, b2⟩ := c.isB h1
          exact pi_rng3 b1 b2 (by simpa using h2) (by simpa using h3) (by simpa using h4) (h _) (h _) (h _)
        · exact pi_no
      · exact pi_no
    · split
      · rename_i hh
        obtain ⟨e1, e2⟩ := Bool.and_eq_true_iff.mp hh
        have e1 := of_decide_eq_true e1
        have e2 : kws = [] := by simpa using e2
        subst e1 e2
        split
        · split
          · rename_i hb
            obtain ⟨h0, h3⟩ := Bool.and_eq_true_iff.mp hb
            obtain ⟨h1, h2⟩ := Bool.and_eq_true_iff.mp h0
            obtain ⟨b1, b2⟩ := c.isB h1
            cases tg <;> first | exact pi_enuA b1 b2 (by simpa using h2) (h _) | cases h3
          · exact pi_no
        · exact pi_no
      · split
        · rename_i hh
          obtain ⟨e1, e2⟩ := Bool.and_eq_true_iff.mp hh
          have e1 := of_decide_eq_true e1
          have e2 : kws = [] := by simpa using e2
          subst e1 e2
          split
          · split
            · rename_i hb
              obtain ⟨h0, h4⟩ := Bool.and_eq_true_iff.mp hb
              obtain ⟨h0, h3⟩ := Bool.and_eq_true_iff.mp h0
              obtain ⟨h1, h2⟩ := Bool.and_eq_true_iff.mp h0
              obtain ⟨b1, b2⟩ := c.isB h1
              cases tg <;> first | exact pi_zp b1 b2 (by simpa using h2) (by simpa using h3) (h _) (h _) | cases h4
            · exact pi_no
          · exact pi_no
        · exact pi_walk (h _)
  · exact pi_walk (h _)
theorem denIfs_ok {f : Expr → IT} (h : ∀ e, PT X e (liftT X.K W (f e))) {ifs : List Expr} {t : IT} (e : denIfs f ifs = some t) : PTs X ifs (liftT X.K W t) := by
  unfold denIfs at e
  split at e
  · cases e; exact sp_nil
  · cases e; exact sp_one (h _)
  · cases e

/-! ### comprehensions -/
structure Snd (d : Dn) (X : Cx) (W : WX) : Prop where
  E : ∀ e, PE X e (liftE X.K W (d.E e))
  T : ∀ e, PT X e (liftT X.K W (d.T e))
  S : ∀ s, PS X s (liftS X.K W (d.S s))
def DOk (d : SC → Dn) : Prop := ∀ C X W k, CtxOk C X W k → Snd (d C) X W
theorem subI_mem {is js : List Nat} (h : subI is js = true) : ∀ i ∈ is, i ∈ js := fun i hi => by
  unfold subI at h
  have := List.all_eq_true.mp h i hi
  simpa using this
theorem blkC_kind {N : List Str} {sc scope : Scope} {own : List (Str × Nat)} (h : blkC N sc scope own = true) : scope.kind = .function := (blkOk_by h).kind
theorem set_no {i : Nat} {s : Stmt} : PS X s (liftS X.K W (setI (.nm i) noI)) := ⟨fun _ _ _ _ _ _ ⟨_, _, _, _, _, h, _⟩ => h.elim⟩
theorem denLC_ok (c : CtxOk C X W k) {d : SC → Dn} (ih : DOk d) (elt : Expr) (gs : List Comprehension) (scope : Scope) (pos : Pos) : PE X (.ListComp elt gs scope pos) (liftE X.K W (denLC d C elt gs scope pos)) ∧
    ∀ (i : Nat) (y : Str) (py spos : Pos), X.N[i]? = some y → X.env.scope.names.lookup y = some .local → swapsWith (.ListComp elt gs scope pos) (some (.Name y py)) spos.line X.env = pure true →
      PS X (.Assign [.Name y py] (.ListComp elt gs scope pos) spos) (liftS X.K W (setI (.nm i) (denLC d C elt gs scope pos))) := by
  unfold denLC
  split
  · split
    · exact ⟨se_no, fun _ _ _ _ _ _ _ => set_no⟩
    · rename_i hh
      simp only [Bool.or_eq_true, not_or, Bool.not_eq_true, Bool.not_eq_false', Bool.not_eq_eq_eq_not, decide_eq_true_eq, ne_eq, Decidable.not_not] at hh
      obtain ⟨⟨h1, h2⟩, h3⟩ := hh
      subst h1
      have h3 : blkC C.N C.sc scope (ownOf C.N scope.names) = true := by simpa using h3
      have bk : BlkOk X.N X.env.scope scope (ownOf C.N scope.names) := by rw [c.N, c.sc]; exact blkOk_by h3
      split
      · rename_i t tt e1 e2
        split
        · rename_i hs
          have cb := c.blk (blkC_kind h3)
          have hg := fun s H a cl fp => tgOf_ok (cb s H a cl fp) e1
          have hf := fun s H a cl fp => denIfs_ok (ih _ _ _ _ (cb s H a cl fp)).T e2
          have he := fun s H a cl fp => (ih _ _ _ _ (cb s H a cl fp)).E elt
          have hi := denI_ok c (ih _ _ _ _ c).E
          exact ⟨se_lc c.calm c.nd (hi _ _) bk (subI_mem hs) h2 hg hf he,
            fun i y py spos q1 q2 q3 => ss_setLc c.calm c.nd q1 q2 q3 (hi _ _) bk (subI_mem hs) h2 hg hf he⟩
        · exact ⟨se_no, fun _ _ _ _ _ _ _ => set_no⟩
      · exact ⟨se_no, fun _ _ _ _ _ _ _ => set_no⟩
  · split
    · exact ⟨se_no, fun _ _ _ _ _ _ _ => set_no⟩
    · rename_i hh
      simp only [Bool.or_eq_true, not_or, Bool.not_eq_true, Bool.not_eq_false', Bool.not_eq_eq_eq_not, decide_eq_true_eq, ne_eq, Decidable.not_not] at hh
      obtain ⟨⟨⟨⟨h1, h1'⟩, h2⟩, h2'⟩, h3⟩ := hh
      subst h1 h1'
      have h3 : blkC C.N C.sc scope (ownOf C.N scope.names) = true := by simpa using h3
      have bk : BlkOk X.N X.env.scope scope (ownOf C.N scope.names) := by rw [c.N, c.sc]; exact blkOk_by h3
      split
      · rename_i t tt t1 tt1 e1 e2 e3 e4
        split
        · rename_i hs
          obtain ⟨hs1, hs2⟩ := Bool.and_eq_true_iff.mp hs
          have cb := c.blk (blkC_kind h3)
          have hg := fun s H a cl fp => tgOf_ok (cb s H a cl fp) e1
          have hf := fun s H a cl fp => denIfs_ok (ih _ _ _ _ (cb s H a cl fp)).T e2
          have hi1 := fun tg it s H a cl fp => denI_ok (cb s H a cl fp) (ih _ _ _ _ (cb s H a cl fp)).E tg it
          have hg1 := fun s H a cl fp => tgOf_ok (cb s H a cl fp) e3
          have hf1 := fun s H a cl fp => denIfs_ok (ih _ _ _ _ (cb s H a cl fp)).T e4
          have he := fun s H a cl fp => (ih _ _ _ _ (cb s H a cl fp)).E elt
          have hi := denI_ok c (ih _ _ _ _ c).E
          exact ⟨(pe_lc2 c.calm c.nd (hi _ _) bk (subI_mem hs2) hg hf (hi1 _ _) hg1 hf1 he (folded_no h2) (fun env => folded_no h2')).imp (lc2_imp (subI_mem hs1) fun i hi => hi),
            fun i y py spos q1 q2 q3 => (ps_setLc2 c.calm c.nd q1 q2 q3 (hi _ _) bk (subI_mem hs2) hg hf (hi1 _ _) hg1 hf1 he (folded_no h2) (fun env => folded_no h2')).imp (asg_imp (lc2_imp (subI_mem hs1) fun i hi => hi))⟩
        · exact ⟨se_no, fun _ _ _ _ _ _ _ => set_no⟩
      · exact ⟨se_no, fun _ _ _ _ _ _ _ => set_no⟩
  · exact ⟨se_no, fun _ _ _ _ _ _ _ => set_no⟩
theorem denPart_ok {f : Expr → IE} (h : ∀ e, PE X e (liftE X.K W (f e))) : ∀ o, PO X o (liftO X.K W (denPart f o))
  | none => so_none
  | some a => so_some (h a)
theorem denE_ok (c : CtxOk C X W k) {d : SC → Dn} (ih : DOk d) (e : Expr) : PE X e (liftE X.K W (denE d C e)) := by
  have hE := (ih _ _ _ _ c).E
  have hT := (ih _ _ _ _ c).T
  unfold denE
  split
  · exact se_non
  · exact se_bl
  · exact se_int
  · exact se_str
  · exact denName_ok c
  · split
    · rename_i r e
      obtain ⟨rr, h1, h2⟩ := opB_ok (X := X) e
      exact se_bin h1 h2 (hE _) (hE _)
    · exact se_no
  · exact se_not (hE _)
  · exact se_un un_neg negP_ok (hE _)
  · exact denAnd_ok hE _
  · exact denOr_ok hE _
  · exact (denCmp_ok c hE _ _ _).1
  · exact se_if (hT _) (hE _) (hE _)
  · exact se_tup (denA_ok hE _)
  · exact se_lst (denA_ok hE _)
  · split
    · rename_i hb
      exact se_fld c.fld hb (hE _)
    · exact se_no
  · exact se_rev (hE _)
  · exact denDict_ok (ih _ _ _ _ c.noW).E _ _
  · exact denCallK_ok c hE _ _
  · exact se_slice (hE _) (denPart_ok hE _) (denPart_ok hE _)
  · split
    · exact se_no
    · rename_i hs
      split
      · rename_i ht
        exact tabOf_ok c ht (hE _) (Bool.eq_false_iff.mpr hs)
      · exact se_ix (by have := c.un; omega) (hE _) (hE _) (Bool.eq_false_iff.mpr hs)
  · exact denCall_ok c hE _ _
  · exact denMeth_ok c hE _ _ _
  · exact (denLC_ok c ih _ _ _ _).1
  · exact se_no
theorem denT_ok (c : CtxOk C X W k) {d : SC → Dn} (ih : DOk d) (e : Expr) : PT X e (liftT X.K W (denT d C e)) := by
  have hE := (ih _ _ _ _ c).E
  have hT := (ih _ _ _ _ c).T
  unfold denT
  split
  · exact st_not (hT _)
  · exact (denAndT_ok hT _).pt
  · exact (denOrT_ok hT _).pt
  · exact (denCmp_ok c hE _ _ _).2
  · exact st_no
  · rename_i h1 h2 h3 h4 h5
    refine st_tru ?_ (hE _)
    cases e with
    | UnaryOp op a pos => cases op <;> first | rfl | exact absurd rfl (h1 _ _)
    | BoolOp op es pos => cases op <;> first | exact absurd rfl (h2 _ _) | exact absurd rfl (h3 _ _)
    | Compare a ops bs pos => exact absurd rfl (h4 _ _ _ _)
    | IfExp t a b pos => exact absurd rfl (h5 _ _ _ _)
    | _ => rfl

/-! ### statements -/
theorem denSs_ok {f : Stmt → IS} (h : ∀ s, PS X s (liftS X.K W (f s))) : ∀ ss, PSs X ss (liftS X.K W (denSs f ss))
  | [] => sss_nil
  | s :: r => sss_cons (m1 := f s) (m2 := denSs f r) (h s) (denSs_ok h r)
theorem swapC_ok (c : CtxOk C X W k) {ts vs : List Expr} {o : Option (List Str)} {k1 k2 : Nat} {p1 p2 : Pos} (h : swapC C ts vs = some o) : swappedStores [.Tuple ts k1 p1] (.Tuple vs k2 p2) X.env = pure o := by
  have hb : X.env.blockKind = .function := by unfold Env.blockKind; rw [c.sc, c.kind]; rfl
  have hkk : X.env.kindOf = C.knd := funext c.knd
  unfold swapC at h
  unfold swappedStores
  rw [hb, hkk]
  dsimp only
  rw [show (ScopeKind.function != ScopeKind.function) = false from rfl, Bool.or_false]
  split at h
  · rename_i h1
    cases h
    exact if_pos h1
  rename_i h1
  refine (if_neg h1).trans ?_
  split at h
  · rename_i h2
    cases h
    exact if_pos h2
  rename_i h2
  refine (if_neg h2).trans ?_
  dsimp only at h
  split at h
  · rename_i h3
    cases h
    exact if_pos h3
  rename_i h3
  refine (if_neg h3).trans ?_
  split at h
  · rename_i h4
    cases h
    exact if_pos h4
  rename_i h4
  refine (if_neg h4).trans ?_
  split at h
  · cases h
  · rename_i h5
    cases h
    exact if_neg h5
theorem set_noT {t : Tg} {s : Stmt} : PS X s (liftS X.K W (setI t noI)) := ⟨fun _ _ _ _ _ _ ⟨_, _, _, _, _, h, _⟩ => h.elim⟩
theorem isLoc_ok (c : CtxOk C X W k) {x : Str} (h : isLoc C x = true) : X.env.scope.names.lookup x = some .local := by
  rw [c.look]
  exact beq_kind h
theorem denPar_ok (c : CtxOk C X W k) {f : Expr → IE} (h : ∀ e, PE X e (liftE X.K W (f e))) {es vs : List Expr} {is : List Nat} {nms : List Str} {k1 k2 : Nat} {p1 p2 pos : Pos} (hn : tgNames C es = some is) (hw : swapC C es vs = some (some nms)) :
    PS X (.Assign [.Tuple es k1 p1] (.Tuple vs k2 p2) pos) (liftS X.K W (denPar f C es vs is nms)) := by
  have P := tgNames_ok c hn
  have hw := swapC_ok c (k1 := k1) (k2 := k2) (p1 := p1) (p2 := p2) hw
  unfold denPar
  split
  · rename_i x px y py a b i j
    split
    · rename_i hh
      simp only [Bool.and_eq_true, decide_eq_true_eq] at hh
      obtain ⟨⟨⟨h1, h2⟩, h3⟩, rfl⟩ := hh
      cases P with
      | cons q1 P => cases P with
        | cons q2 P =>
          obtain ⟨_, _, e1, a1, _, _⟩ := q1
          obtain ⟨_, _, e2, a2, _, _⟩ := q2
          cases e1; cases e2
          exact ss_par2 c.calm c.nd a1 a2 h3 (isLoc_ok c h1) (isLoc_ok c h2) hw (denA_ok h _)
    · exact ss_never
  · rename_i x px y py z pz a b e i j l
    split
    · rename_i hh
      simp only [Bool.and_eq_true, decide_eq_true_eq] at hh
      obtain ⟨⟨⟨⟨⟨⟨h1, h2⟩, h3⟩, h4⟩, h5⟩, h6⟩, rfl⟩ := hh
      cases P with
      | cons q1 P => cases P with
        | cons q2 P => cases P with
          | cons q3 P =>
            obtain ⟨_, _, e1, a1, _, _⟩ := q1
            obtain ⟨_, _, e2, a2, _, _⟩ := q2
            obtain ⟨_, _, e3, a3, _, _⟩ := q3
            cases e1; cases e2; cases e3
            exact ss_par3 c.calm c.nd a1 a2 a3 h4 h5 h6 (isLoc_ok c h1) (isLoc_ok c h2) (isLoc_ok c h3) hw (denA_ok h _)
    · exact ss_never
  · exact ss_never
theorem denAsg_ok (c : CtxOk C X W k) {d : SC → Dn} (ih : DOk d) (tg e : Expr) (pos : Pos) : PS X (.Assign [tg] e pos) (liftS X.K W (denAsg d C tg e)) := by
  have hE := (ih _ _ _ _ c).E
  unfold denAsg
  split
  · rename_i x p
    split
    · exact ss_never
    · rename_i i hi
      obtain ⟨x', p', e1, a1, a2, a3⟩ := tgName_ok c hi
      cases e1
      split
      · rename_i elt gs scope cpos
        have sw := swaps_lc (X := X) (elt := elt) (gs := gs) (scope := scope) (pos := cpos) (y := x) (py := p) (l := pos.line) (by rw [c.sc]; exact c.kind)
        rw [c.look] at sw
        split
        · rename_i hh
          refine (denLC_ok c ih elt gs scope cpos).2 i x p pos a1 ?_ (sw.trans ?_)
          · obtain ⟨h1, _⟩ := Bool.and_eq_true_iff.mp hh
            obtain ⟨h1, _⟩ := Bool.and_eq_true_iff.mp h1
            rw [c.look]
            exact beq_kind h1
          · rw [hh]
        · rename_i hh
          refine ss_set c.nd a1 a2 a3 (sw.trans ?_) (hE _)
          rw [Bool.eq_false_iff.mpr hh]
      · split
        · exact ss_never
        · rename_i hc
          exact ss_set c.nd a1 a2 a3 (swaps_no (Bool.eq_false_iff.mpr hc)) (hE _)
  · rename_i es k1 p1
    split
    · exact ss_never
    · rename_i is hn
      split
      · split
        · exact ss_never
        · rename_i hw
          exact ss_unpack c.calm c.nd (tgNames_ok c hn) rfl (swapC_ok c hw) (hE _)
        · rename_i nms hw
          exact denPar_ok c hE hn hw
      · rename_i hnt
        split
        · exact ss_never
        · rename_i hc
          refine ss_unpack c.calm c.nd (tgNames_ok c hn) (Bool.eq_false_iff.mpr hc) ?_ (hE _)
          cases e <;> first | rfl | exact absurd rfl (hnt _ _ _)
  · exact ss_sstore (hE _) (denPart_ok hE _) (denPart_ok hE _) (hE _)
  · split
    · exact ss_never
    · rename_i hh
      exact ss_store (by have := c.un; omega) (Bool.eq_false_iff.mpr hh) (hE _) (hE _) (hE _)
  · split
    · exact ss_never
    · rename_i hc
      exact ss_fld c.fld (Bool.eq_false_iff.mpr hc) (hE _) (hE _)
  · exact ss_never
theorem addI_ok : P2Ok X.K addI (fun x y H Q => ipI (fun i j => i + j) x y H Q) := by
  intro B x y v u S H Qi Q rx ry hr h q
  unfold addI at h
  split at h
  · cases rx; cases ry
    exact ⟨_, _, rfl, rfl, q.same hr (.int _) h⟩
  · exact h.elim
theorem mulI_ok : P2Ok X.K mulI (rI CMul fun i j => .int (i * j)) := by
  intro B x y v u S H Qi Q rx ry hr h q
  unfold mulI at h
  split at h
  · cases rx; cases ry
    exact ⟨_, _, rfl, rfl, h.1, q.same hr (.int _) h.2⟩
  · exact h.elim
theorem opA_ok {op : Operator} {r : P2} (h : opA op = some r) : AugOk X op r := by
  cases op <;> first | cases h
  · exact ⟨_, ip_add, addI_ok⟩
  · exact ⟨_, ip_sub, subP_ok⟩
  · exact ⟨_, iop_mul, mulI_ok⟩
theorem denS_ok (c : CtxOk C X W k) {d : SC → Dn} (ih : DOk d) (s : Stmt) : PS X s (liftS X.K W (denS d C s)) := by
  have hE := (ih _ _ _ _ c).E
  have hT := (ih _ _ _ _ c).T
  have hS := denSs_ok (ih _ _ _ _ c).S
  unfold denS
  split
  · exact ss_pass
  · exact ss_break
  · exact ss_cont
  · exact ss_retN
  · exact ss_ret (hE _)
  · split
    · exact ss_never
    · rename_i hc
      exact ss_expr (Bool.eq_false_iff.mpr hc) (hE _)
  · exact ss_if (hT _) (hS _) (hS _)
  · exact ss_while c.po (hT _) (hS _)
  · split
    · exact ss_never
    · rename_i hs
      split
      · rename_i t e
        exact ss_for c.po c.calm (denI_ok c hE _ _) (tgOf_ok c e) (hS _) (Bool.eq_false_iff.mpr hs)
      · exact ss_never
  · exact denAsg_ok c ih _ _ _
  · split
    · rename_i i r e1 e2
      obtain ⟨x', p', e1, a1, a2, a3⟩ := tgName_ok c e1
      cases e1
      exact ss_aug c.nd a1 a2 a3 (opA_ok e2) (hE _)
    · exact ss_never
  · exact ss_sdel (hE _) (denPart_ok hE _)
  · exact ss_never
theorem den_ok : ∀ n, DOk (den n)
  | 0 => fun C X W k c => ⟨fun _ => se_no, fun _ => st_no, fun _ => ss_never⟩
  | n + 1 => fun C X W k c => ⟨denE_ok c (den_ok n), denT_ok c (den_ok n), denS_ok c (den_ok n)⟩
end
end TL

/-! TL11: defs by their plain meanings. -/
namespace TL
open PySem PySem.Spec L2
open PyProof.Rows hiding St

structure FD where
  ps : List Str
  N : List Str
  m : Calls → IS
  gc : Bool := true
abbrev FTab := List (Str × FD)
/-- what is wanted behind a body: what was made in it and is not told of is let go -/
@[reducible] def gcS (g : Bool) (S S' : Sto) : Sto := match g with
  | true => S'.within S
  | false => S'
@[reducible] def endsI (g : Bool) (S : Sto) (Q : VQ) (E : EQ) : IEnds where
  nx := fun _ S' => Q .non (gcS g S S')
  rt := fun v S' => Q v (gcS g S S')
  ex := fun _ => E
  bk := fun _ _ => False
  ct := fun _ _ => False
def startI (N : List Str) (args : List Val) : ISt := args.map some ++ List.replicate (N.length - args.length) none
def callI (P : FTab) : Nat → Calls
  | 0 => fun _ _ _ _ _ => False
  | d + 1 => fun f args S Q E => match P.lookup f with
    | none => False
    | some D => args.length = D.ps.length ∧ D.m (callI P d) (endsI D.gc S Q E) (startI D.N args) S

/-- how a def of the text stands: its body means what is told of it -/
structure DefAt (K : PySem.W.Frag) (T : Tab) (D : FD) (fa : Addr) (fd : FuncData) : Prop where
  ex : ∃ (name qual : Str) (params : Arguments) (body : List Stmt) (scope : Scope) (n : Nat) (cel frz : Pos → Bool), FunD K name qual params body scope [] [] fa fd ∧ FnScope D.N D.ps scope ∧
    ∀ Γ : Calls, D.m Γ = denSs (den n ⟨D.N, scope, fun _ => true, T, cel, frz, Γ⟩).S body
structure Facts (K : PySem.W.Frag) (mg : Str → Option Value) (P : FTab) (T : Tab) (adr : Str → Addr) (fdo : Str → FuncData) (w : World) : Prop where
  def_ : ∀ f D, P.lookup f = some D → DefAt K T D (adr f) (fdo f)
  dfs : ∀ f, f ∈ T.dfs → ∃ D, P.lookup f = some D ∧ adr f = He.ga K f ∧ mg f = some (.ref (He.ga K f)) ∧ Binds K (fdo f) D.ps []
  cls : ∀ c, c ∈ T.cls → ∃ D, P.lookup (c ++ ".__init__") = some D ∧ Mk K (He.ga K c) (adr (c ++ ".__init__")) ∧ mg c = some (.ref (He.ga K c)) ∧ Binds K (fdo (c ++ ".__init__")) D.ps []
  con : ∀ x v, T.con.lookup x = some v → ∃ y u, mg x = some u ∧ RelV y u ∧ ∀ B H S, RV K B H S v y
  fld : FldOk K T.F
  free : ∀ x, x ∈ T.free → mg x = none
  kwf : ∀ f ps, T.kwf.lookup f = some ps → f ∈ T.dfs ∧ (∀ D, P.lookup f = some D → D.ps = ps) ∧ Kb K (fdo f) ps
  kwp : ∀ f qs ix, T.kwp.lookup f = some (qs, ix) → f ∈ T.dfs ∧ ∀ D, P.lookup f = some D → Kbp K (fdo f) D.ps qs ix
  cob : ∀ c, c ∈ T.cob → mg c = some (.ref (He.ga K c))
  kit : KitOk K T.kit T.own
  tab : ∀ x kvs, T.tabs.lookup x = some kvs → ∃ t, mg x = some (.ref t) ∧ ∀ z f, kvs.lookup z = some f → KDct K w t z (.ref (He.ga K f))

theorem within_some {S S' : Sto} {a : Addr} {c : Cell} (h : (S'.within S) a = some c) : S' a = some c := by
  unfold Sto.within at h
  split at h
  · exact h
  · cases h
theorem within_none {S S' : Sto} {a : Addr} (h : S' a = none) : (S'.within S) a = none := by
  unfold Sto.within
  split
  · exact h
  · rfl
section
variable {K : PySem.W.Frag} {B : Addr → Prop} {H H' : Hp} {S S' : Sto}
theorem QR.within {Qi : VQ} {Q : VK} {g : Bool} (q : QR K B S H Qi Q) {v : Val} {x : V} (hr : HR K B H' S') (e : Ext S S' H H') (rv : RV K B H' S' v x) (h : Qi v (gcS g S S')) : Q x H' := by
  cases g with
  | false => exact q v S' x H' rv hr e h
  | true =>
  have ed : Ext S' (S'.within S) H' H' := Ext.less fun b hb => within_none hb
  exact q v (S'.within S) x H' (rv.ext ed) (hr.less fun a c hc => within_some hc) (e.trans ed) h
theorem startI_rl {N : List Str} {args : List Val} {vs : List V} (r : RVs K B H S args vs) : RSt K B H S (startI N args) (L2.start N vs) := by
  have hl := r.length
  unfold startI L2.start
  refine ⟨by simp [hl], fun i v h => ?_⟩
  by_cases hi : i < args.length
  · rw [List.getElem?_append_left (by simpa using hi), List.getElem?_map] at h
    cases e : args[i]? with
    | none => rw [e] at h; cases h
    | some a =>
      rw [e] at h
      cases h
      obtain ⟨x, h1, h2⟩ := r.get e
      refine ⟨x, ?_, h2⟩
      rw [List.getElem?_append_left (by simp; omega), List.getElem?_map, h1]
      rfl
  · rw [List.getElem?_append_right (by simpa using hi), List.getElem?_replicate] at h
    split at h <;> cases h
end

section
variable {K : PySem.W.Frag} {mg : Str → Option Value} {P : FTab} {T : Tab} {adr : Str → Addr} {fdo : Str → FuncData} {prog : Program} {w : World} {base : Heap}
theorem fnOk_all (F : Facts K mg P T adr fdo w) : ∀ (d : Nat) (f : Str) (D : FD), P.lookup f = some D → FnOk prog w K mg base (L2.CX prog w) (2 * d) (adr f) (fdo f) D.ps (spG K (callI P d) f)
  | 0, f, D, _ => ⟨fun vs H Q E ⟨_, _, _, _, _, _, _, h, _⟩ => h.elim, fun A outer s H args us vs Q E hr e0 hb rv ⟨_, _, _, _, _, _, _, h, _⟩ => h.elim⟩
  | d + 1, f, D, hf => by
    have ih := fnOk_all F d
    obtain ⟨name, qual, params, body, scope, n, cel, frz, FD_, sc, em⟩ := (F.def_ f D hf).ex
    have e2 : 2 * (d + 1) = (2 * d + 1) + 1 := by omega
    rw [e2]
    refine FD_.ok sc (fun vs H Q E h => ?_) fun cdv A outer s H vs Q E hr h => ?_
    · obtain ⟨args, S, B, Qi, Ei, rv, hr, h, q, er⟩ := h
      have h : (match P.lookup f with
        | none => False
        | some D => args.length = D.ps.length ∧ D.m (callI P d) (endsI D.gc S Qi Ei) (startI D.N args) S) := h
      rw [hf] at h
      rw [← rv.length]
      exact h.1
    · obtain ⟨args, S, B, Qi, Ei, rv, hrr, h, q, er⟩ := h
      have h : (match P.lookup f with
        | none => False
        | some D => args.length = D.ps.length ∧ D.m (callI P d) (endsI D.gc S Qi Ei) (startI D.N args) S) := h
      rw [hf] at h
      obtain ⟨hl, h⟩ := h
      rw [em] at h
      -- the context of the body
      have cx : CtxOk ⟨D.N, scope, fun _ => true, T, cel, frz, callI P d⟩ (cxOf (L2.CX prog w) prog w K mg base D.N qual scope (adr f) cdv A outer s H E) (fun c d _ H => E c d H) (2 * d) :=
        { N := rfl, sc := rfl, nd := sc.nd, kind := sc.kind, calm := rfl, fn := fun _ _ => rfl,
          tk := takes_of rfl rfl rfl rfl, po := passes_of rfl, room := hr, con := F.con,
          dfs := fun g hg => by
            obtain ⟨D', h1, h2, h3, h4⟩ := F.dfs g hg
            obtain ⟨_, _, _, _, _, _, _, _, FD', _, _⟩ := (F.def_ g D' h1).ex
            refine ⟨fdo g, D'.ps, ⟨?_, h3, ?_, h4⟩⟩
            · have z := ih g D' h1
              rw [h2] at z
              exact z
            · have z := FD'.kp
              rw [h2] at z
              exact z
          cls := fun c hc => by
            obtain ⟨D', h1, h2, h3, h4⟩ := F.cls c hc
            exact ⟨fdo (c ++ ".__init__"), D'.ps, ⟨⟨_, h2, ih _ D' h1⟩, h3, h4⟩⟩
          fld := F.fld, free := F.free,
          kwf := fun g ps hg => by
            obtain ⟨h0, h5, h6⟩ := F.kwf g ps hg
            obtain ⟨D', h1, h2, h3, h4⟩ := F.dfs g h0
            obtain ⟨_, _, _, _, _, _, _, _, FD', _, _⟩ := (F.def_ g D' h1).ex
            have e := h5 D' h1
            subst e
            refine ⟨fdo g, ⟨?_, h3, ?_, h4⟩, h6⟩
            · have z := ih g D' h1
              rw [h2] at z
              exact z
            · have z := FD'.kp
              rw [h2] at z
              exact z
          kwp := fun g qs ix hg => by
            obtain ⟨h0, h6⟩ := F.kwp g qs ix hg
            obtain ⟨D', h1, h2, h3, h4⟩ := F.dfs g h0
            obtain ⟨_, _, _, _, _, _, _, _, FD', _, _⟩ := (F.def_ g D' h1).ex
            refine ⟨fdo g, D'.ps, ⟨?_, h3, ?_, h4⟩, h6 D' h1⟩
            · have z := ih g D' h1
              rw [h2] at z
              exact z
            · have z := FD'.kp
              rw [h2] at z
              exact z
          cob := F.cob, kit := F.kit, tab := F.tab }
      refine ⟨_, denSs_ok (den_ok n _ _ _ _ cx).S body, startI D.N args, S, B, _, ⟨startI_rl rv, hrr⟩, h, ?_⟩
      refine ⟨fun ρ' S' σ' H' R e h => ?_, fun v S' x H' rv hr e h => ?_, fun ρ' e S' σ' c d H' rs xr hr ex h => ?_, fun _ _ _ _ _ _ h => h.elim, fun _ _ _ _ _ _ h => h.elim⟩
      · exact q.within R.hr e .non h
      · exact q.within hr e rv h
      · exact er e S' c d H' xr hr ex h
/-- a def is called -/
theorem callI_of {P : FTab} {d : Nat} {f : Str} {args : List Val} {S : Sto} {Q : VQ} {E : EQ} {D : FD} (h : P.lookup f = some D) (hl : args.length = D.ps.length) (hm : D.m (callI P d) (endsI D.gc S Q E) (startI D.N args) S) : callI P (d + 1) f args S Q E := by
  show (match P.lookup f with
    | none => False
    | some D => args.length = D.ps.length ∧ D.m (callI P d) (endsI D.gc S Q E) (startI D.N args) S)
  rw [h]
  exact ⟨hl, hm⟩
/-- the law -/
def lawP (P : FTab) (d : Nat) (law : Str) : Prop := ∀ ns : List Int, ns.length ≤ 63 → callI P d law [.scr ns] noSto (fun v _ => v = .bl true) noX
theorem law_sp {law : Str} {d : Nat} (h : lawP P d law) {H : Hp} {a : Addr} {ns : List Int} (hl : ns.length ≤ 63) (hs : SqL K H a (ns.map V.int)) : spG K (callI P d) law [.ref a] H (fun v _ => v = .bl true) fun _ _ _ => False := by
  refine ⟨[.scr ns], noSto, fun _ => False, _, noX, .cons (.scr ?_) .nil, ⟨fun a c e => (by cases e), fun a z => z.elim⟩, h ns hl, fun v S' x H' rv hr e hq => ?_, fun _ _ _ _ _ _ _ _ z => z⟩
  · rcases hs with hs | hs
    · exact .inl ⟨hs, rfl, fun z => z⟩
    · exact .inr fun _ => .inr hs
  · rw [hq] at rv
    cases rv
    rfl
end
end TL

/-! TL12: the head's facts for a whole text of defs. -/
namespace TL
open PySem PySem.Spec L2
open PyProof.Rows hiding St

/-- a def of the text: its name (C.m of a method), its plain meaning, where it stands -/
structure Ent where
  nm : Str
  fd : FD
  df : He.DefD
  cel : Pos → Bool
  frz : Pos → Bool
abbrev FnP0 (df : He.DefD) (kV doc pm : Value) (an : Option Addr) (cdv ct : Value) : FuncData := PySem.W.fnOf df.name df.qual df.params df.body df.scope .none kV doc pm an cdv ct
structure EntOk (T : Tab) (n : Nat) (e : Ent) : Prop where
  sc : FnScope e.fd.N e.fd.ps e.df.scope
  em : ∀ Γ : Calls, e.fd.m Γ = denSs (den n ⟨e.fd.N, e.df.scope, fun _ => true, T, e.cel, e.frz, Γ⟩).S e.df.body
  bi : ∀ (kV doc pm : Value) (an : Option Addr) (cdv ct : Value) (us : List Value), us.length = e.fd.ps.length → bindArgs (FnP0 e.df kV doc pm an cdv ct) ⟨us, []⟩ = pure (e.fd.ps.zip us)
  nod : e.df.dfl = [] ∧ e.df.kwd = []
def KwOk (e : Ent) : Prop := ∀ (kV doc pm : Value) (an : Option Addr) (cdv ct : Value) (us : List Value), us.length = e.fd.ps.length → bindArgs (FnP0 e.df kV doc pm an cdv ct) ⟨[], e.fd.ps.zip us⟩ = pure (e.fd.ps.zip us)

/-! ### facts by Bool -/
/-- the value u is v, all of it in the written part -/
def rvB (K : PySem.W.Frag) : Nat → Val → Value → Bool
  | 0, _, _ => false
  | n + 1, v, u => match v, u with
    | .non, .none => true
    | .bl b, .bool c => b == c
    | .int i, .int j _ => decide (i = j)
    | .str x, .str y _ => decide (x = y)
    | .tup xs, .ref a => (match K.lookup a with
      | some ⟨.type c, _, .seq its _, _⟩ => decide (c = "tuple") && (decide (its.size ≤ sizeLine) && rvsB (rvB K n) xs its.toList)
      | _ => false)
    | _, _ => false
where rvsB (f : Val → Value → Bool) : List Val → List Value → Bool
  | [], [] => true
  | x :: xs, u :: us => f x u && rvsB f xs us
  | _, _ => false
theorem rvB_ok {K : PySem.W.Frag} : ∀ (n : Nat) (v : Val) (u : Value), rvB K n v u = true → ∃ y, RelV y u ∧ ∀ B H S, RV K B H S v y
  | 0, _, _, h => by cases h
  | n + 1, v, u, h => by
    have ih := rvB_ok (K := K) n
    have all : ∀ (xs : List Val) (us : List Value), rvB.rvsB (rvB K n) xs us = true → ∃ ys, Vals ys us ∧ ∀ B H S, RVs K B H S xs ys := by
      intro xs
      induction xs with
      | nil =>
        intro us h
        cases us with
        | nil => exact ⟨[], .nil, fun _ _ _ => .nil⟩
        | cons u us => cases h
      | cons x xs ihx =>
        intro us h
        cases us with
        | nil => cases h
        | cons u us =>
          obtain ⟨h1, h2⟩ := He.ba (show (rvB K n x u && rvB.rvsB (rvB K n) xs us) = true from h)
          obtain ⟨y, r1, r2⟩ := ih x u h1
          obtain ⟨ys, r3, r4⟩ := ihx us h2
          exact ⟨y :: ys, .cons r1 r3, fun B H S => .cons (r2 B H S) (r4 B H S)⟩
    unfold rvB at h
    split at h
    · exact ⟨.non, rfl, fun _ _ _ => .non⟩
    · rename_i b c
      have e : b = c := eq_of_beq h
      subst e
      exact ⟨.bl b, rfl, fun _ _ _ => .bl b⟩
    · rename_i i j t
      have e := of_decide_eq_true h
      subst e
      exact ⟨.int i, ⟨t, rfl⟩, fun _ _ _ => .int i⟩
    · rename_i x y t
      have e := of_decide_eq_true h
      subst e
      exact ⟨.str x, ⟨t, rfl⟩, fun _ _ _ => .str x⟩
    · rename_i xs a
      split at h
      · rename_i c dd its m sl lk
        obtain ⟨h1, h2⟩ := He.ba h
        obtain ⟨h3, h4⟩ := He.ba h2
        obtain ⟨ys, r1, r2⟩ := all xs its.toList h4
        refine ⟨.ref a, rfl, fun B H S => .tup (.inr fun H' => .inr ⟨_, its, m, lk, congrArg Value.type (of_decide_eq_true h1), rfl, of_decide_eq_true h3, r1⟩) (r2 B H S)⟩
      · cases h
    · cases h
def conB (K : PySem.W.Frag) (x : Str) (v : Val) : Bool := match PySem.W.nsIn K mainGlobals x with
  | some (some u) => rvB K 20 v u
  | _ => false
theorem conB_ok {K : PySem.W.Frag} {h : Heap} {mg : Str → Option Value} (X : K.In h) (G : h.Ns mainGlobals mg) {x : Str} {v : Val} (c : conB K x v = true) : ∃ y u, mg x = some u ∧ RelV y u ∧ ∀ B H S, RV K B H S v y := by
  unfold conB at c
  split at c
  · rename_i u e
    obtain ⟨y, r1, r2⟩ := rvB_ok 20 v u c
    exact ⟨y, u, PySem.W.mg_of X G e, r1, r2⟩
  · cases c
def kitB1 (K : PySem.W.Frag) (q : TyTag × TyTag × Bool) : Bool := decide (PySem.W.kitOne K (tagV K q.1) (tagV K q.2.1) = some q.2.2)
def ownB (K : PySem.W.Frag) (c : Str) : Bool := decide (PySem.W.findIn K (.ref (He.ga K c)) "__class__" = some (some (.builtin "object.__class__"))) && (decide (PySem.W.specialIn K (.builtin "object.__class__") "__get__" = some (some (.builtin "getset_descriptor.__get__"))) &&
  (decide (PySem.W.takesIn K (.builtin "object.__class__") = some true) && decide (PySem.W.mroIn K (He.ga K c) (.type "object") = some true)))
/-- a table of defs: where it stands; its values -/
def tabA (x : Str) (K : PySem.W.Frag) : Addr := match PySem.W.nsIn K mainGlobals x with
  | some (some (.ref a)) => a
  | _ => 0
def tabW (K : PySem.W.Frag) (q : Str × List (Str × Str)) : Bool := decide (PySem.W.nsIn K mainGlobals q.1 = some (some (.ref (tabA q.1 K)))) && q.2.all fun kv => decide (PySem.W.nsIn K (tabA q.1 K) kv.1 = some (some (.ref (He.ga K kv.2))))
def tsOf (T : Tab) : List He.Tab := T.tabs.map fun q => (tabA q.1, q.2.map (·.1))
def exB (T : Tab) (K : PySem.W.Frag) : Bool := (T.tabs.all (tabW K)) && ((T.con.all fun q => conB K q.1 q.2) && ((T.kit.all fun q => kitB1 K q) && (T.own.all fun c => ownB K c)))
def faOf (T : Tab) : List He.Fa := T.dfs.map .glo ++ (T.cls.map .mkr ++ (T.cls.map .glo ++ (T.cob.map .glo ++ (T.free.map .free ++ (T.own.map .cls ++ (T.flds.map (fun q => .cls q.1) ++ T.flds.map (fun q => .noat q.1 q.2)))))))

/-! ### the Hook -/
def obsY (fa : List He.Fa) (fn : List He.DefD) (ts : List He.Tab) (ex : PySem.W.Frag → Bool) (K : PySem.W.Frag) : He.AlT := (((fa.all fun f => f.ok K) && ((fn.all fun d => d.ok K) && ex K), fn.map fun d => He.fnW K d.at_), ts.map fun t => He.dicW K (t.1 K))
structure SaysY (fa : List He.Fa) (fn : List He.DefD) (ts : List He.Tab) (ex : PySem.W.Frag → Bool) (w : World) (K : PySem.W.Frag) : Prop where
  d : He.SaysD fa fn K
  ex : ex K = true
  tab : ∀ t ∈ ts, He.dicW K (t.1 K) = some (He.keysIn w.params t.2)
theorem map_eq_mem {α β : Type} {f g : α → β} : ∀ {l : List α}, l.map f = l.map g → ∀ x ∈ l, f x = g x
  | [], _, x, hx => by cases hx
  | y :: l, h, x, hx => by
    rw [List.map_cons, List.map_cons] at h
    injection h with h1 h2
    rcases List.mem_cons.mp hx with rfl | hx
    · exact h1
    · exact map_eq_mem h2 x hx
theorem saysY_of {fa : List He.Fa} {fn : List He.DefD} {ts : List He.Tab} {ex : PySem.W.Frag → Bool} {w : World} {K : PySem.W.Frag} (h : obsY fa fn ts ex K = He.valT fn ts w) : SaysY fa fn ts ex w K := by
  have h1 : ((fa.all fun f => f.ok K) && ((fn.all fun d => d.ok K) && ex K)) = true := congrArg (fun z : He.AlT => z.1.1) h
  have h2 : (fn.map fun d => He.fnW K d.at_) = fn.map He.DefD.val := congrArg (fun z : He.AlT => z.1.2) h
  have h3 : (ts.map fun t => He.dicW K (t.1 K)) = ts.map fun t => some (He.keysIn w.params t.2) := congrArg (fun z : He.AlT => z.2) h
  obtain ⟨a, b⟩ := He.ba h1
  obtain ⟨b, c⟩ := He.ba b
  refine ⟨?_, c, map_eq_mem h3⟩
  show He.obsD fa fn K = He.valD fn
  unfold He.obsD He.valD
  rw [a, b, h2]
  rfl
def obsYG (n : Nat) (fa : List He.Fa) (fn : List He.DefD) (ts : List He.Tab) (ex : PySem.W.Frag → Bool) (g : Addr → Option Obj) : He.AlT := obsY fa fn ts ex (He.frG g (He.asD g n))
def hookY (n : Nat) (fa : List He.Fa) (fn : List He.DefD) (ts : List He.Tab) (ex : PySem.W.Frag → Bool) : PySem.W.Hook where
  α := He.AlT
  obs := fun s => obsYG n fa fn ts ex s.heap.get?
  val := fun w => He.valT fn ts w
  says := fun w h => ∃ K : PySem.W.Frag, K.In h ∧ SaysY fa fn ts ex w K
  of := fun _ _ e => ⟨_, He.frG_in, saysY_of e⟩
  keeps := fun _ _ _ ⟨K, hK, c⟩ k => ⟨K, PySem.W.Frag.In.keeps hK k, c⟩
theorem obsYG_eq {n : Nat} {fa : List He.Fa} {fn : List He.DefD} {ts : List He.Tab} {ex : PySem.W.Frag → Bool} {g : Addr → Option Obj} {s : Shared} (h : ∀ a, g a = s.heap.get? a) : obsYG n fa fn ts ex g = (hookY n fa fn ts ex).obs s := by
  have e : g = s.heap.get? := funext h
  rw [e] <;> rfl
theorem facts_mem {fa : List He.Fa} {fn : List He.DefD} {K : PySem.W.Frag} (c : He.SaysD fa fn K) {f : He.Fa} (h : f ∈ fa) : f.ok K = true := by
  obtain ⟨i, hi, e⟩ := List.mem_iff_getElem.mp h
  exact c.fact i (f := f) (by rw [List.getElem?_eq_getElem hi, e])
theorem defs_mem {fa : List He.Fa} {fn : List He.DefD} {K : PySem.W.Frag} (c : He.SaysD fa fn K) {d : He.DefD} (h : d ∈ fn) : ∃ fd, FunD K d.name d.qual d.params d.body d.scope (d.dvs K) (d.kws K) (He.fAd K d.at_) fd := by
  obtain ⟨i, hi, e⟩ := List.mem_iff_getElem.mp h
  exact c.def_ i (d := d) (by rw [List.getElem?_eq_getElem hi, e])

/-! ### from the hook to the facts -/
def entOf (es : List Ent) (f : Str) : Option Ent := es.find? fun e => decide (e.nm = f)
def ptab (es : List Ent) : FTab := es.map fun e => (e.nm, e.fd)
def adrOf (es : List Ent) (K : PySem.W.Frag) (f : Str) : Addr := match entOf es f with
  | some e => He.fAd K e.df.at_
  | none => 0
def fdOf (es : List Ent) (K : PySem.W.Frag) (f : Str) : FuncData := match K.lookup (adrOf es K f) with
  | some ⟨_, _, .func fd, _⟩ => fd
  | _ => PySem.W.fnOf f f ⟨[], [], none, [], [], none, []⟩ [] ⟨.function, [], false, false, []⟩ .none .none .none .none none .none .none
/-- the table fits the defs -/
def tabB (es : List Ent) (T : Tab) : Bool :=
  (T.dfs.all fun f => match entOf es f with
    | some e => decide (e.df.at_ = (f, none))
    | none => false) &&
  ((T.cls.all fun c => match entOf es (c ++ ".__init__") with
    | some e => decide (e.df.at_ = (c, some ("__init__" : Str)))
    | none => false) &&
  (T.kwf.all fun q => T.dfs.contains q.1 && (match entOf es q.1 with
    | some e => decide (e.fd.ps = q.2)
    | none => false)))
/-- a def that is called by keywords in another order -/
def KwP (es : List Ent) (T : Tab) (q : Str × List Str × List Nat) : Prop := T.dfs.contains q.1 = true ∧ ∃ e, entOf es q.1 = some e ∧ ∀ (kV doc pm : Value) (an : Option Addr) (cdv ct : Value) (us : List Value), us.length = q.2.1.length →
  ∃ ys, pickI q.2.2 us = some ys ∧ bindArgs (FnP0 e.df kV doc pm an cdv ct) ⟨[], q.2.1.zip us⟩ = pure (e.fd.ps.zip ys)
theorem lookup_mem {α : Type} {x : Str} {v : α} : ∀ {l : List (Str × α)}, l.lookup x = some v → (x, v) ∈ l
  | [], h => by cases h
  | (a, b) :: r, hx => by
    have h2 : (match x == a with | true => some b | false => r.lookup x) = some v := hx
    cases q : x == a with
    | true =>
      rw [q] at h2
      cases h2
      rw [beq_iff_eq.mp q]
      exact List.mem_cons_self
    | false =>
      rw [q] at h2
      exact List.mem_cons_of_mem _ (lookup_mem h2)
theorem ptab_lookup {es : List Ent} {f : Str} {D : FD} (h : (ptab es).lookup f = some D) : ∃ e, entOf es f = some e ∧ e.fd = D ∧ e ∈ es := by
  induction es with
  | nil => cases h
  | cons a r ih =>
    have h2 : (match f == a.nm with | true => some a.fd | false => (ptab r).lookup f) = some D := h
    by_cases e : a.nm = f
    · rw [show (f == a.nm) = true from by rw [e]; exact beq_self_eq_true _] at h2
      have h2 : some a.fd = some D := h2
      exact ⟨a, by unfold entOf; rw [List.find?_cons, decide_eq_true e], Option.some.inj h2, List.mem_cons_self⟩
    · rw [show (f == a.nm) = false from beq_eq_false_iff_ne.mpr fun z => e z.symm] at h2
      obtain ⟨b, h3, h4, h5⟩ := ih h2
      exact ⟨b, by unfold entOf; rw [List.find?_cons, decide_eq_false e]; exact h3, h4, List.mem_cons_of_mem _ h5⟩
theorem entOf_ptab {es : List Ent} {f : Str} {e : Ent} (h : entOf es f = some e) : (ptab es).lookup f = some e.fd ∧ e ∈ es ∧ e.nm = f := by
  induction es with
  | nil => cases h
  | cons a r ih =>
    unfold entOf at h
    rw [List.find?_cons] at h
    by_cases q : a.nm = f
    · rw [decide_eq_true q] at h
      cases h
      refine ⟨?_, List.mem_cons_self, q⟩
      show (match f == e.nm with | true => some e.fd | false => (ptab r).lookup f) = some e.fd
      rw [show (f == e.nm) = true from by rw [q]; exact beq_self_eq_true _]
    · rw [decide_eq_false q] at h
      obtain ⟨h1, h2, h3⟩ := ih h
      refine ⟨?_, List.mem_cons_of_mem _ h2, h3⟩
      show (match f == a.nm with | true => some a.fd | false => (ptab r).lookup f) = some e.fd
      rw [show (f == a.nm) = false from beq_eq_false_iff_ne.mpr fun z => q z.symm]
      exact h1
section
variable {K : PySem.W.Frag} {h : Heap} {mg : Str → Option Value} {es : List Ent} {T : Tab}
theorem facts_of {n : Nat} {w : World} (X : K.In h) (G : h.Ns mainGlobals mg) (c : SaysY (faOf T) (es.map (·.df)) (tsOf T) (exB T) w K) (ok : ∀ e ∈ es, EntOk T n e) (tb : tabB es T = true) (kw : ∀ e ∈ es, (T.kwf.lookup e.nm).isSome = true → KwOk e) (kw2 : ∀ q ∈ T.kwp, KwP es T q) :
    Facts K mg (ptab es) T (adrOf es K) (fdOf es K) w := by
  obtain ⟨t1, t2⟩ := He.ba tb
  obtain ⟨t2, t3⟩ := He.ba t2
  obtain ⟨x0, x1⟩ := He.ba c.ex
  obtain ⟨x1, x2⟩ := He.ba x1
  obtain ⟨x2, x3⟩ := He.ba x2
  have fct : ∀ {f : He.Fa}, f ∈ faOf T → f.ok K = true := fun hf => facts_mem c.d hf
  have mem : ∀ {f : He.Fa}, (f ∈ T.dfs.map He.Fa.glo ∨ f ∈ T.cls.map He.Fa.mkr ∨ f ∈ T.cls.map He.Fa.glo ∨ f ∈ T.cob.map He.Fa.glo ∨ f ∈ T.free.map He.Fa.free ∨ f ∈ T.own.map He.Fa.cls ∨ f ∈ T.flds.map (fun q => He.Fa.cls q.1) ∨ f ∈ T.flds.map (fun q => He.Fa.noat q.1 q.2)) → f ∈ faOf T := fun z => by
    unfold faOf
    simp only [List.mem_append]
    exact z
  -- a def's object
  have obj : ∀ (f : Str) (e : Ent), entOf es f = some e → FunD K e.df.name e.df.qual e.df.params e.df.body e.df.scope [] [] (adrOf es K f) (fdOf es K f) := fun f e he => by
    obtain ⟨h1, h2, h3⟩ := entOf_ptab he
    obtain ⟨fd, F⟩ := defs_mem c.d (d := e.df) (List.mem_map.mpr ⟨e, h2, rfl⟩)
    obtain ⟨n1, n2⟩ := (ok e h2).nod
    have e1 : e.df.dvs K = [] := by unfold He.DefD.dvs; rw [n1]; rfl
    have e2 : e.df.kws K = [] := by unfold He.DefD.kws; rw [n2]; rfl
    rw [e1, e2] at F
    have ea : adrOf es K f = He.fAd K e.df.at_ := by unfold adrOf; rw [he]
    have ef : fdOf es K f = fd := by
      obtain ⟨oc, od, dV, kV, doc, pm, an, cdv, ct, osl, q1, q2, _⟩ := F.ex
      unfold fdOf
      rw [ea, q2]
    rw [ea, ef]
    exact F
  have bnd : ∀ (f : Str) (e : Ent), entOf es f = some e → Binds K (fdOf es K f) e.fd.ps [] := fun f e he => (obj f e he).bindsN fun kV doc pm an cdv ct us hl => (ok e (entOf_ptab he).2.1).bi kV doc pm an cdv ct us hl
  refine ⟨fun f D hf => ?_, fun f hf => ?_, fun x hx => ?_, fun x v hx => ?_, fun a f hf => ?_, fun x hx => ?_, fun f ps hf => ?_, fun f qs ix hf => ?_, fun x hx => ?_, ⟨fun t u b hq => ?_, fun x hx => ?_⟩, fun x kvs hx => ?_⟩
  · obtain ⟨e, h1, h2, h3⟩ := ptab_lookup hf
    subst h2
    exact ⟨_, _, _, _, _, n, e.cel, e.frz, obj f e h1, (ok e h3).sc, (ok e h3).em⟩
  · have q := List.all_eq_true.mp t1 f hf
    split at q
    · rename_i e he
      have ea : adrOf es K f = He.ga K f := by
        unfold adrOf
        rw [he]
        dsimp only
        rw [of_decide_eq_true q]
        rfl
      refine ⟨e.fd, (entOf_ptab he).1, ea, He.glo_ok X G (fct (mem (.inl (List.mem_map.mpr ⟨f, hf, rfl⟩)))), bnd f e he⟩
    · cases q
  · have q := List.all_eq_true.mp t2 x hx
    split at q
    · rename_i e he
      have ea : adrOf es K (x ++ ".__init__") = He.ma K (He.ga K x) "__init__" := by
        unfold adrOf
        rw [he]
        dsimp only
        rw [of_decide_eq_true q]
        rfl
      refine ⟨e.fd, (entOf_ptab he).1, by rw [ea]; exact He.mkr_ok (fct (mem (.inr (.inl (List.mem_map.mpr ⟨x, hx, rfl⟩))))), He.glo_ok X G (fct (mem (.inr (.inr (.inl (List.mem_map.mpr ⟨x, hx, rfl⟩)))))), bnd _ e he⟩
    · cases q
  · have hm : (x, v) ∈ T.con := lookup_mem hx
    exact conB_ok X G (List.all_eq_true.mp x1 _ hm)
  · have hm : (a, f) ∈ T.flds := by
      have : T.flds.contains (a, f) = true := hf
      simpa using this
    exact ⟨He.cls_ok (fct (mem (.inr (.inr (.inr (.inr (.inr (.inr (.inl (List.mem_map.mpr ⟨_, hm, rfl⟩)))))))))), He.noat_ok (fct (mem (.inr (.inr (.inr (.inr (.inr (.inr (.inr (List.mem_map.mpr ⟨_, hm, rfl⟩))))))))))⟩
  · exact He.free_ok X G (fct (mem (.inr (.inr (.inr (.inr (.inl (List.mem_map.mpr ⟨x, hx, rfl⟩))))))))
  · have hm : (f, ps) ∈ T.kwf := lookup_mem hf
    have q := List.all_eq_true.mp t3 _ hm
    obtain ⟨q1, q2⟩ := He.ba q
    split at q2
    · rename_i e he
      have e2 : e.fd.ps = ps := of_decide_eq_true q2
      obtain ⟨p1, p2, p3⟩ := entOf_ptab he
      refine ⟨by simpa using q1, fun D hD => ?_, fun s ws X' hl => ?_⟩
      · have p1 : (ptab es).lookup f = some e.fd := p1
        rw [p1] at hD
        cases hD
        exact e2
      · have F := obj f e he
        obtain ⟨oc, od, dV, kV, doc, pm, an, cdv, ct, osl, q3, q4, q5, hD, hK⟩ := F.ex
        rw [q3]
        rcases hD with ⟨_, rfl⟩ | ⟨z, _⟩
        · have k := kw e p2 (by rw [p3]; show (T.kwf.lookup f).isSome = true; rw [hf]; rfl) kV doc pm an cdv ct ws (by rw [e2]; exact hl)
          rw [e2] at k
          exact .of_eq k
        · exact absurd rfl z
    · cases q2
  · have hm : (f, qs, ix) ∈ T.kwp := lookup_mem hf
    obtain ⟨q1, e, he, hb⟩ := kw2 _ hm
    refine ⟨by simpa using q1, fun D hD s ws X' hl => ?_⟩
    obtain ⟨p1, p2, p3⟩ := entOf_ptab he
    have p1 : (ptab es).lookup f = some e.fd := p1
    rw [p1] at hD
    cases hD
    have F := obj f e he
    obtain ⟨oc, od, dV, kV, doc, pm, an, cdv, ct, osl, q3, q4, q5, hD, hK⟩ := F.ex
    rw [q3]
    rcases hD with ⟨_, rfl⟩ | ⟨z, _⟩
    · obtain ⟨ys, h1, h2⟩ := hb kV doc pm an cdv ct ws hl
      exact ⟨ys, h1, .of_eq h2⟩
    · exact absurd rfl z
  · exact He.glo_ok X G (fct (mem (.inr (.inr (.inr (.inl (List.mem_map.mpr ⟨x, hx, rfl⟩)))))))
  · exact of_decide_eq_true (List.all_eq_true.mp x2 _ hq)
  · have q := List.all_eq_true.mp x3 _ hx
    obtain ⟨o1, q⟩ := He.ba q
    obtain ⟨o2, q⟩ := He.ba q
    obtain ⟨o3, o4⟩ := He.ba q
    exact ⟨He.cls_ok (fct (mem (.inr (.inr (.inr (.inr (.inr (.inl (List.mem_map.mpr ⟨x, hx, rfl⟩))))))))), of_decide_eq_true o1, of_decide_eq_true o2, of_decide_eq_true o3, of_decide_eq_true o4⟩
  · have hm : (x, kvs) ∈ T.tabs := lookup_mem hx
    obtain ⟨q1, q2⟩ := He.ba (List.all_eq_true.mp x0 _ hm)
    obtain ⟨es0, n0, kd1, kd2, kd3⟩ := He.dicW_ok (c.tab (tabA x, kvs.map (·.1)) (List.mem_map.mpr ⟨_, hm, rfl⟩))
    refine ⟨tabA x K, PySem.W.mg_of X G (of_decide_eq_true q1), fun z f hz => ?_⟩
    have hv := of_decide_eq_true (List.all_eq_true.mp q2 _ (lookup_mem hz))
    exact ⟨es0, n0, _, kd1, kd2, hv, rfl⟩
end
end TL

/-! TL13: the end of a law. -/
namespace TL
open PySem PySem.Spec L2
open PyProof.Rows hiding St
/-- the law's end, what defs may let out being told of each world -/
theorem walk_end {l : PySem.W.OpenLaw} {d : DefRec} {q : Program} {loose : List Str} {x : Str} {k : Nat} {XP : (Str → Option Value) → Heap → Prop} {YP : World → Heap → Prop} {CX : World → CXT}
    (hn : l.most = some 63) (hdf : d.params.defaults = []) (hr : Room k callerA)
    (F : ∀ (w : World) (mg : Str → Option Value) (fa : Addr) (h : Heap), YP w h → h.Ns mainGlobals mg → mg d.name = some (.ref fa) →
      ∃ (K : PySem.W.Frag) (fd : FuncData) (sp : Sp), K.In h ∧ (∀ (s : Shared) (u : Value), BindsTo s fd ⟨[u], []⟩ [(x, u)]) ∧
        (∀ (H : Hp) (a : Addr) (ns : List Int), ns.length ≤ 63 → SqL K H a (ns.map V.int) → sp [.ref a] H (fun v _ => v = .bl true) fun _ _ _ => False) ∧
        (∀ base : Heap, K.In base → base.Ns mainGlobals mg → FnOk l.prog w K mg base (CX w) k fa fd [x] sp))
    (no : ∀ (w : World) (H : Hp) (s : Shared) (e : Value) (s' : Shared), CX w [] H s (fun _ _ _ => False) e s' → False) :
    PySem.W.WalkO q loose XP YP l.row.toRowW d [] (fun f vs => PySem.call f vs) := by
  refine Att.attach_call hn hdf fun w s0 s1 mg mb fa o pm cd doc a vs ns G Y ho hd hcd hmg hobj hints hlen hg => ?_
  obtain ⟨K, fd, sp, KX, hb, hsp, hF⟩ := F w mg fa _ Y G.T.g hmg
  exact law_call KX G.T.g G.T.b G.T.builtins G.T.nolimit hg hobj hints (Nat.le_trans hlen (by decide)) hr hF hb (fun H hO hS => hsp H a ns hlen hS) fun H e s' => no w H s1 e s'
theorem noCX {p : Program} {w : World} (H : Hp) (s : Shared) (e : Value) (s' : Shared) (h : L2.CX p w [] H s (fun _ _ _ => False) e s') : False := by
  obtain ⟨_, _, _, _, _, _, _, _, _, _, _, _, z⟩ := h
  exact z
/-- the facts give the law -/
theorem facts_law {p : Program} {w : World} {K : PySem.W.Frag} {h : Heap} {mg : Str → Option Value} {f : Addr} {es : List Ent} {T : Tab} {n d : Nat} (X : K.In h) (G : h.Ns mainGlobals mg) (hfa : mg ("law" : Str) = some (.ref f)) (c : SaysY (faOf T) (es.map (·.df)) (tsOf T) (exB T) w K)
    (ok : ∀ e ∈ es, EntOk T n e) (tb : tabB es T = true) (kw : ∀ e ∈ es, (T.kwf.lookup e.nm).isSome = true → KwOk e) (kw2 : ∀ q ∈ T.kwp, KwP es T q) {D : FD} (hD : (ptab es).lookup ("law" : Str) = some D) (hps : D.ps = [("script" : Str)]) (hl : T.dfs.contains ("law" : Str) = true) (law : lawP (ptab es) d "law") :
    ∃ (fd : FuncData) (sp : Sp), (∀ (s : Shared) (u : Value), BindsTo s fd ⟨[u], []⟩ [(("script" : Str), u)]) ∧
      (∀ (H : Hp) (a : Addr) (ns : List Int), ns.length ≤ 63 → SqL K H a (ns.map V.int) → sp [.ref a] H (fun v _ => v = .bl true) fun _ _ _ => False) ∧
      (∀ base : Heap, K.In base → base.Ns mainGlobals mg → FnOk p w K mg base (L2.CX p w) (2 * d) f fd [("script" : Str)] sp) := by
  have F := facts_of X G c ok tb kw kw2
  obtain ⟨D', h1, h2, h3, h4⟩ := F.dfs "law" (by simpa using hl)
  rw [hD] at h1
  cases h1
  rw [hfa] at h3
  have e : f = He.ga K "law" := by
    have := Option.some.inj h3
    injection this
  obtain ⟨ent, he, hf, hm⟩ := ptab_lookup hD
  have hb : ∀ (s : Shared) (u : Value), BindsTo s (fdOf es K "law") ⟨[u], []⟩ [(("script" : Str), u)] := fun s u => by
    obtain ⟨name, qual, params, body, scope, n', cel, frz, FDD, _, _⟩ := (F.def_ "law" D hD).ex
    -- the binding, of the same object
    have ob := F.def_ "law" D hD
    have hob : FunD K ent.df.name ent.df.qual ent.df.params ent.df.body ent.df.scope [] [] (adrOf es K "law") (fdOf es K "law") := by
      obtain ⟨fd, F0⟩ := defs_mem c.d (d := ent.df) (List.mem_map.mpr ⟨ent, hm, rfl⟩)
      obtain ⟨n1, n2⟩ := (ok ent hm).nod
      have e1 : ent.df.dvs K = [] := by unfold He.DefD.dvs; rw [n1]; rfl
      have e2 : ent.df.kws K = [] := by unfold He.DefD.kws; rw [n2]; rfl
      rw [e1, e2] at F0
      have ea : adrOf es K "law" = He.fAd K ent.df.at_ := by unfold adrOf; rw [he]
      have ef : fdOf es K "law" = fd := by
        obtain ⟨oc, od, dV, kV, doc, pm, an, cdv, ct, osl, q1, q2, _⟩ := F0.ex
        unfold fdOf
        rw [ea, q2]
      rw [ea, ef]
      exact F0
    have z := hob.bindsA (ps := ent.fd.ps) (fun kV doc pm an cdv ct us hl => (ok ent hm).bi kV doc pm an cdv ct us hl) s [u] (by rw [hf, hps]; rfl)
    rw [hf, hps] at z
    exact z
  refine ⟨fdOf es K "law", spG K (callI (ptab es) d) "law", hb, fun H a ns h5 h6 => law_sp law h5 h6, fun base _ _ => ?_⟩
  have z := fnOk_all (prog := p) (w := w) (base := base) F d "law" D hD
  rw [h2, ← e, hps] at z
  exact z
end TL

/-! TLu: working with plain meanings: equality, loops, lists of ints. -/
namespace TL
open PySem PySem.Spec L2
open PyProof.Rows hiding St

/-! ### stores -/
theorem within_eq {S S' : Sto} (h : ∀ c, S c = none → S' c = none) : S'.within S = S' := by
  funext c
  unfold Sto.within
  cases e : S c with
  | none => exact (h c e).symm
  | some x => rfl
theorem put_same {S : Sto} {a : Addr} {c : Cell} : S.put a c a = some c := Sto.put_same
theorem put_ne {S : Sto} {a b : Addr} {c : Cell} (h : b ≠ a) : S.put a c b = S b := Sto.put_ne h
theorem put_put {S : Sto} {a : Addr} {c c' : Cell} : (S.put a c).put a c' = S.put a c' := by
  funext b
  unfold Sto.put
  split <;> rfl

/-! ### loops -/
theorem forGo_ind {g : Option Addr} {all : List Val} {t : Tg} {b : IS} {D : IEnds} (Inv : List Val → ISt → Sto → Prop) (h0 : ∀ ρ S, Inv [] ρ S → guardOk g all S ∧ D.nx ρ S)
    (hs : ∀ x r ρ S (Kn : ISt → Sto → Prop), (∀ ρ S, Inv r ρ S → Kn ρ S) → Inv (x :: r) ρ S → guardOk g all S ∧ someP (tgI t x ρ) fun ρ1 => b { D with nx := Kn, ct := Kn, bk := D.nx } ρ1 S) :
    ∀ xs ρ S, Inv xs ρ S → forGo g all t b D xs ρ S
  | [], ρ, S, h => h0 ρ S h
  | x :: r, ρ, S, h => hs x r ρ S _ (forGo_ind Inv h0 hs r) h
theorem lcGo_ind {g : Option Addr} {all : List Val} {t : Tg} {tt : IT} {te : IE} {ρ : ISt} {Q : List Val → Sto → Prop} (Inv : List Val → List Val → Sto → Prop) (h0 : ∀ acc S, Inv [] acc S → guardOk g all S ∧ Q acc S)
    (hs : ∀ x r acc S (Kn : List Val → Sto → Prop), (∀ acc S, Inv r acc S → Kn acc S) → Inv (x :: r) acc S → guardOk g all S ∧ someP (tgI t x ρ) fun ρ1 => tt ρ1 S (fun k S2 => match k with
      | true => te ρ1 S2 (fun y S3 => acc.length < sizeLine ∧ Kn (acc ++ [y]) S3) noX
      | false => Kn acc S2) noX) :
    ∀ xs acc S, Inv xs acc S → lcGo g all t tt te ρ xs acc S Q
  | [], acc, S, h => h0 acc S h
  | x :: r, acc, S, h => hs x r acc S (fun acc S => lcGo g all t tt te ρ r acc S Q) (lcGo_ind Inv h0 hs r) h
/-- a comprehension whose test and part are pure -/
theorem lcGo_pure {g : Option Addr} {all : List Val} {t : Tg} {tt : IT} {te : IE} {ρ : ISt} {S : Sto} {Q : List Val → Sto → Prop} (p : Val → Bool) (f : Val → Val) (hg : guardOk g all S) : ∀ (xs acc : List Val), acc.length + xs.length ≤ sizeLine →
    (∀ x ∈ xs, ∃ ρ1, tgI t x ρ = some ρ1 ∧ (∀ Q : Bool → Sto → Prop, Q (p x) S → tt ρ1 S Q noX) ∧ (p x = true → ∀ Q : VQ, Q (f x) S → te ρ1 S Q noX)) → Q (acc ++ (xs.filter p).map f) S → lcGo g all t tt te ρ xs acc S Q
  | [], acc, _, _, h => ⟨hg, by simpa using h⟩
  | x :: r, acc, hl, hx, h => by
    obtain ⟨ρ1, e, h1, h2⟩ := hx x List.mem_cons_self
    refine ⟨hg, ?_⟩
    rw [e]
    refine h1 _ ?_
    have hl2 : acc.length + (r.length + 1) ≤ sizeLine := by simpa using hl
    cases hp : p x with
    | true =>
      refine h2 hp _ ⟨by omega, ?_⟩
      refine lcGo_pure p f hg r (acc ++ [f x]) (by simp; omega) (fun y hy => hx y (List.mem_cons_of_mem _ hy)) ?_
      rw [List.filter_cons, hp] at h
      simpa using h
    | false =>
      refine lcGo_pure p f hg r acc (by omega) (fun y hy => hx y (List.mem_cons_of_mem _ hy)) ?_
      rw [List.filter_cons, hp] at h
      simpa using h

/-! ### equality of plain data -/
theorem toDs_ints : ∀ ns : List Int, toDs (ns.map Val.int) = some (ns.map PyData.int)
  | [] => rfl
  | n :: ns => by
    show (match toD (.int n), toDs (ns.map Val.int) with
      | some d, some ds => some (d :: ds)
      | _, _ => none) = _
    rw [toDs_ints ns]
    rfl
theorem lay_ints : ∀ ns : List Int, PyData.canLayAll0 (ns.map PyData.int) = true
  | [] => rfl
  | n :: ns => by
    show (true && PyData.canLayAll0 (ns.map PyData.int)) = true
    rw [lay_ints ns]
    rfl
theorem depth_ints : ∀ ns : List Int, PyData.depthAll (ns.map PyData.int) = 0
  | [] => rfl
  | n :: ns => by
    show max 0 (PyData.depthAll (ns.map PyData.int)) = 0
    rw [depth_ints ns]
    rfl
theorem eqv_ints : ∀ ns ms : List Int, PyData.eqvAll (ns.map PyData.int) (ms.map PyData.int) = decide (ns = ms)
  | [], [] => rfl
  | [], m :: ms => rfl
  | n :: ns, [] => rfl
  | n :: ns, m :: ms => by
    show (n == m && PyData.eqvAll (ns.map PyData.int) (ms.map PyData.int)) = _
    rw [eqv_ints ns ms]
    by_cases h : n = m
    · subst h
      by_cases h2 : ns = ms
      · subst h2; simp
      · simp [h2]
    · simp [h]
theorem shaped_ti (ns : List Int) : SeqAt.shaped (.tuple (ns.map PyData.int)) = true := by
  unfold SeqAt.shaped
  show (PyData.canLayAll0 (ns.map PyData.int) && decide (PyData.depthAll (ns.map PyData.int) + 1 ≤ 64)) = true
  rw [lay_ints, depth_ints]
  rfl
theorem shaped_li (ns : List Int) : SeqAt.shaped (.list (ns.map PyData.int)) = true := by
  unfold SeqAt.shaped
  show (PyData.canLayAll0 (ns.map PyData.int) && decide (PyData.depthAll (ns.map PyData.int) + 1 ≤ 64)) = true
  rw [lay_ints, depth_ints]
  rfl
theorem toD_ti (ns : List Int) : toD (tiV ns) = some (.tuple (ns.map PyData.int)) := by
  show (toDs (ns.map Val.int)).map PyData.tuple = _
  rw [toDs_ints]
  rfl
theorem toD_li (ns : List Int) : toD (.lst (ns.map Val.int)) = some (.list (ns.map PyData.int)) := by
  show (toDs (ns.map Val.int)).map PyData.list = _
  rw [toDs_ints]
  rfl
theorem dat_ti (S : Sto) (ns : List Int) : datOf S (tiV ns) = some (.tuple (ns.map PyData.int)) := by
  show (match toD (tiV ns) with
    | some d => if SeqAt.shaped d then some d else none
    | none => none) = _
  rw [toD_ti]
  dsimp only
  rw [if_pos (shaped_ti ns)]
theorem dat_li (S : Sto) (ns : List Int) : datOf S (.lst (ns.map Val.int)) = some (.list (ns.map PyData.int)) := by
  show (match toD (.lst (ns.map Val.int)) with
    | some d => if SeqAt.shaped d then some d else none
    | none => none) = _
  rw [toD_li]
  dsimp only
  rw [if_pos (shaped_li ns)]
theorem dat_ref {S : Sto} {a : Addr} {ns : List Int} (h : S a = some (.lst (ns.map Val.int))) : datOf S (.ref a) = some (.list (ns.map PyData.int)) := by
  show (match S a with
    | some (.lst xs) => (match toD (.lst xs) with
      | some d => if SeqAt.shaped d then some d else none
      | none => none)
    | _ => none) = _
  rw [h]
  dsimp only
  rw [toD_li]
  dsimp only
  rw [if_pos (shaped_li ns)]
theorem eqOf_ti (S : Sto) (ns ms : List Int) : eqOf S (tiV ns) (tiV ms) = some (decide (ns = ms)) := by
  show (match datOf S (tiV ns), datOf S (tiV ms) with
    | some d, some e => some (PyData.eqv d e)
    | _, _ => none) = _
  rw [dat_ti, dat_ti]
  dsimp only
  rw [show PyData.eqv (.tuple (ns.map PyData.int)) (.tuple (ms.map PyData.int)) = PyData.eqvAll (ns.map PyData.int) (ms.map PyData.int) from by simp only [PyData.eqv], eqv_ints]
theorem eqOf_li (S : Sto) (ns ms : List Int) : eqOf S (.lst (ns.map Val.int)) (.lst (ms.map Val.int)) = some (decide (ns = ms)) := by
  show (match datOf S (.lst (ns.map Val.int)), datOf S (.lst (ms.map Val.int)) with
    | some d, some e => some (PyData.eqv d e)
    | _, _ => none) = _
  rw [dat_li, dat_li]
  dsimp only
  rw [show PyData.eqv (.list (ns.map PyData.int)) (.list (ms.map PyData.int)) = PyData.eqvAll (ns.map PyData.int) (ms.map PyData.int) from by simp only [PyData.eqv], eqv_ints]
theorem eqOf_rl {S : Sto} {a : Addr} {ns : List Int} (h : S a = some (.lst (ns.map Val.int))) (ms : List Int) : eqOf S (.ref a) (.lst (ms.map Val.int)) = some (decide (ns = ms)) := by
  show (match datOf S (.ref a), datOf S (.lst (ms.map Val.int)) with
    | some d, some e => some (PyData.eqv d e)
    | _, _ => none) = _
  rw [dat_ref h, dat_li]
  dsimp only
  rw [show PyData.eqv (.list (ns.map PyData.int)) (.list (ms.map PyData.int)) = PyData.eqvAll (ns.map PyData.int) (ms.map PyData.int) from by simp only [PyData.eqv], eqv_ints]

/-! ### the draw's cells -/
/-- deal at a, its cells at b -/
structure Deal (a b : Addr) (S : Sto) : Prop where
  ne : a ≠ b
  ex : ∃ (cs : List Int) (mix : Int), S a = some (.lst [.ref b, .int mix]) ∧ S b = some (.lst (cs.map Val.int)) ∧ 0 ≤ mix ∧ mix < 2147483647 ∧ cs.length ≤ 63
/-- nothing but the deal has changed -/
structure Fr (a b : Addr) (S S' : Sto) : Prop where
  eq : ∀ c, c ≠ a → c ≠ b → S' c = S c
theorem Fr.refl {a b : Addr} {S : Sto} : Fr a b S S := ⟨fun _ _ _ => rfl⟩
theorem Fr.trans {a b : Addr} {S S1 S2 : Sto} (h : Fr a b S S1) (h2 : Fr a b S1 S2) : Fr a b S S2 := ⟨fun c x y => (h2.eq c x y).trans (h.eq c x y)⟩
theorem Deal.within {a b : Addr} {S S' : Sto} (h : Deal a b S) (f : Fr a b S S') : S'.within S = S' := within_eq fun c hc => by
  obtain ⟨cs, mix, e1, e2, _, _, _⟩ := h.ex
  rw [f.eq c (fun z => by rw [z, e1] at hc; cases hc) (fun z => by rw [z, e2] at hc; cases hc)]
  exact hc

/-! ### one step each -/
theorem at_nat {xs : List Val} {n : Nat} (h : n < xs.length) : atI xs (n : Int) = xs[n]? := by
  unfold atI ixN
  rw [if_pos (by omega), if_pos (by omega)]
  rfl
theorem at0 {v : Val} {xs : List Val} : atI (v :: xs) 0 = some v := at_nat (n := 0) (by simp)
theorem at1 {x v : Val} {xs : List Val} : atI (x :: v :: xs) 1 = some v := at_nat (n := 1) (by simp)
theorem at2 {x0 x1 v : Val} {xs : List Val} : atI (x0 :: x1 :: v :: xs) 2 = some v := at_nat (n := 2) (by simp)
theorem at3 {x0 x1 x2 v : Val} {xs : List Val} : atI (x0 :: x1 :: x2 :: v :: xs) 3 = some v := at_nat (n := 3) (by simp)
theorem at4 {x0 x1 x2 x3 v : Val} {xs : List Val} : atI (x0 :: x1 :: x2 :: x3 :: v :: xs) 4 = some v := at_nat (n := 4) (by simp)
theorem at5 {x0 x1 x2 x3 x4 v : Val} {xs : List Val} : atI (x0 :: x1 :: x2 :: x3 :: x4 :: v :: xs) 5 = some v := at_nat (n := 5) (by simp)
theorem at6 {x0 x1 x2 x3 x4 x5 v : Val} {xs : List Val} : atI (x0 :: x1 :: x2 :: x3 :: x4 :: x5 :: v :: xs) 6 = some v := at_nat (n := 6) (by simp)
theorem at7 {x0 x1 x2 x3 x4 x5 x6 v : Val} {xs : List Val} : atI (x0 :: x1 :: x2 :: x3 :: x4 :: x5 :: x6 :: v :: xs) 7 = some v := at_nat (n := 7) (by simp)
section
variable {S : Sto} {Q : VQ} {a : Addr} {xs ys : List Val} {x y v : Val} {i j : Int} {b : Bool}
theorem ix_ref (h : S a = some (.lst xs)) (h2 : atI xs i = some v) (q : Q v S) : ixP (.ref a) (.int i) S Q := by
  refine ⟨?_⟩
  show (match S a with
    | some (.lst xs) => someP (atI xs i) fun v => Q v S
    | some (.dict kvs) => someP (keyV (.int i)) fun k => someP (dGet kvs k) fun v => Q v S
    | _ => False)
  rw [h]
  show someP (atI xs i) fun v => Q v S
  rw [h2]
  exact q
theorem ix_ref0 (h : S a = some (.lst (v :: xs))) (q : Q v S) : ixP (.ref a) (.int 0) S Q := ix_ref h at0 q
theorem ix_ref1 (h : S a = some (.lst (x :: v :: xs))) (q : Q v S) : ixP (.ref a) (.int 1) S Q := ix_ref h at1 q
theorem ixL_of (h2 : atI xs i = some v) (q : Q v S) : ixP (.lst xs) (.int i) S Q := by
  refine ⟨?_⟩
  show someP (atI xs i) fun v => Q v S
  rw [h2]
  exact q
theorem ixT_of (h2 : atI xs i = some v) (q : Q v S) : ixP (.tup xs) (.int i) S Q := by
  refine ⟨?_⟩
  show someP (atI xs i) fun v => Q v S
  rw [h2]
  exact q
theorem ix_dict_ {kvs : List (Key × Val)} {k : Key} (h : S a = some (.dict kvs)) (hk : keyV y = some k) (h2 : dGet kvs k = some v) (q : Q v S) : ixP (.ref a) y S Q := by
  refine ⟨?_⟩
  unfold ixP0
  simp only [h, hk, someP, h2]
  exact q
theorem eq_of (h : eqOf S x y = some b) (q : Q (.bl b) S) : eqP x y S Q := by
  refine ⟨?_⟩
  unfold eqP0
  rw [h]
  exact q
theorem ne_of (h : eqOf S x y = some b) (q : Q (.bl (!b)) S) : neP x y S Q := by
  refine ⟨?_⟩
  unfold neP0
  rw [h]
  exact q
theorem ne_t (h : eqOf S x y = some false) (q : Q (.bl true) S) : neP x y S Q := ne_of h q
theorem ne_f (h : eqOf S x y = some true) (q : Q (.bl false) S) : neP x y S Q := ne_of h q
theorem eqOf_rlt {ns ms : List Int} (h : S a = some (.lst (ns.map Val.int))) (e : ns = ms) : eqOf S (.ref a) (.lst (ms.map Val.int)) = some true := by rw [eqOf_rl h, decide_eq_true e]
theorem eqOf_rlf {ns ms : List Int} (h : S a = some (.lst (ns.map Val.int))) (e : ns ≠ ms) : eqOf S (.ref a) (.lst (ms.map Val.int)) = some false := by rw [eqOf_rl h, decide_eq_false e]
theorem eqOf_r0t {ns : List Int} (h : S a = some (.lst (ns.map Val.int))) (e : ns = []) : eqOf S (.ref a) (.lst []) = some true := eqOf_rlt h e
theorem eqOf_r0f {ns : List Int} (h : S a = some (.lst (ns.map Val.int))) (e : ns ≠ []) : eqOf S (.ref a) (.lst []) = some false := eqOf_rlf (ms := []) h e
theorem eqOf_ii : eqOf S (.int i) (.int j) = some (decide (i = j)) := rfl
theorem eqOf_iit (e : i = j) : eqOf S (.int i) (.int j) = some true := by rw [eqOf_ii, decide_eq_true e]
theorem eqOf_iif (e : i ≠ j) : eqOf S (.int i) (.int j) = some false := by rw [eqOf_ii, decide_eq_false e]
theorem pop_of (h : S a = some (.lst xs)) (h2 : xs[xs.length - 1]? = some y) (q : Q y (S.put a (.lst xs.dropLast))) : popP (.ref a) [] S Q := by
  refine ⟨?_⟩
  show (match S a with
    | some (.lst xs) => someP xs[xs.length - 1]? fun y => Q y (S.put a (.lst xs.dropLast))
    | _ => False)
  rw [h]
  show someP xs[xs.length - 1]? fun y => Q y (S.put a (.lst xs.dropLast))
  rw [h2]
  exact q
theorem app_of (h : S a = some (.lst xs)) (hl : xs.length < sizeLine) (q : Q .non (S.put a (.lst (xs ++ [v])))) : appendP (.ref a) [v] S Q := by
  refine ⟨?_⟩
  show (match S a with
    | some (.lst xs) => xs.length < sizeLine ∧ Q .non (S.put a (.lst (xs ++ [v])))
    | _ => False)
  rw [h]
  exact ⟨hl, q⟩
theorem isl_ref (h : S a = some (.lst xs)) : isLst S (.ref a) = true := by
  unfold isLst lsqOf lstOf
  simp only [h]
  rfl
theorem set_of {Kk : Sto → Prop} {jj : Nat} (h : S a = some (.lst xs)) (hj : ixN xs.length i = some jj) (q : Kk (S.put a (.lst (xs.set jj v)))) : setIx (.ref a) (.int i) v S Kk := by
  refine ⟨?_⟩
  show (match S a with
    | some (.lst xs) => someP (ixN xs.length i) fun j => Kk (S.put a (.lst (xs.set j v)))
    | some (.dict kvs) => someP (keyV (.int i)) fun k => kvs.length < sizeLine ∧ Kk (S.put a (.dict (dPut kvs k v)))
    | _ => False)
  rw [h]
  show someP (ixN xs.length i) fun j => Kk (S.put a (.lst (xs.set j v)))
  rw [hj]
  exact q
theorem setD_of {Kk : Sto → Prop} {kvs : List (Key × Val)} {k : Key} (h : S a = some (.dict kvs)) (hk : keyV y = some k) (hl : kvs.length < sizeLine) (q : Kk (S.put a (.dict (dPut kvs k v)))) : setIx (.ref a) y v S Kk := by
  refine ⟨?_⟩
  unfold setIx0
  simp only [h, hk, someP]
  exact ⟨hl, q⟩
theorem mul_of {c : Bool} (h : CMulW i j) (q : Q (.int (i * j)) S) : mulP c (.int i) (.int j) S Q := ⟨h, q⟩
theorem fdiv_of (h : CDivW i j) (q : Q (.int (i / j)) S) : fdivP (.int i) (.int j) S Q := ⟨h, q⟩
theorem mod_of (h : 0 < j) (q : Q (.int (i % j)) S) : modP (.int i) (.int j) S Q := ⟨h, q⟩
theorem pow_of (h : CPow i j) (q : Q (.int (i ^ j.toNat)) S) : powP (.int i) (.int j) S Q := ⟨h, q⟩
end
theorem getLast_map {ns : List Int} {n : Int} : (ns ++ [n]).map Val.int = ns.map Val.int ++ [Val.int n] := by simp
/-- the end of a list of ints -/
theorem snoc_of {ns : List Int} (h : ns ≠ []) : ∃ ms n, ns = ms ++ [n] := ⟨ns.dropLast, ns.getLast h, (List.dropLast_concat_getLast h).symm⟩
theorem atI_last {ms : List Int} {n : Int} : atI ((ms ++ [n]).map Val.int) (-1) = some (.int n) := by
  have hl : ((ms ++ [n]).map Val.int).length = ms.length + 1 := by simp
  unfold atI ixN
  rw [hl, if_neg (by decide), if_pos (by omega)]
  show ((ms ++ [n]).map Val.int)[((-1 : Int) + ((ms.length + 1 : Nat) : Int)).toNat]? = _
  rw [show ((-1 : Int) + ((ms.length + 1 : Nat) : Int)).toNat = ms.length by omega]
  simp
theorem get_last {ms : List Int} {n : Int} : ((ms ++ [n]).map Val.int)[((ms ++ [n]).map Val.int).length - 1]? = some (.int n) := by simp
theorem drop_last {ms : List Int} {n : Int} : ((ms ++ [n]).map Val.int).dropLast = ms.map Val.int := by simp
theorem mulw_small {i j : Int} (h : i.natAbs < 2 ^ 200) (h2 : j.natAbs < 2 ^ 200) : CMulW i j := wide_mul h h2 (by omega) (by omega) (by omega)
theorem divw_small {i j : Int} (h : 0 < j) (h2 : j < 2 ^ 200) : CDivW i j := wide_div h (b := 200) (by omega) (by omega) (by omega)

theorem cutL_map {α β : Type} (f : α → β) (xs : List α) (lo hi : Option Int) : cutL (xs.map f) lo hi = (cutL xs lo hi).map f := by
  unfold cutL
  rw [List.length_map, List.map_take, List.map_drop]
theorem cmul_dec {i j : Int} (h : decide (i.natAbs.log2 + j.natAbs.log2 < 1000000) = true) : CMulW i j := by
  unfold CMulW
  exact of_decide_eq_true h
theorem all_ints {xs : List Val} : ∀ {ns : List Int}, xs = ns.map Val.int → ∀ x ∈ xs, ∃ n ∈ ns, x = .int n := fun {ns} e x hx => by
  subst e
  obtain ⟨n, hn, e⟩ := List.mem_map.mp hx
  exact ⟨n, hn, e.symm⟩
/-- a list comprehension over ints, pure -/
theorem lc_ints {g : Option Addr} {ns : List Int} {i : Nat} {tt : IT} {te : IE} {ρ : ISt} {S : Sto} {Q : List Val → Sto → Prop} (p : Int → Bool) (f : Int → Val) (hg : guardOk g (ns.map Val.int) S) (hl : ns.length ≤ sizeLine)
    (hx : ∀ n ∈ ns, (∀ Q : Bool → Sto → Prop, Q (p n) S → tt (setS ρ i (.int n)) S Q noX) ∧ (p n = true → ∀ Q : VQ, Q (f n) S → te (setS ρ i (.int n)) S Q noX)) (h : Q ((ns.filter p).map f) S) : lcGo g (ns.map Val.int) (.nm i) tt te ρ (ns.map Val.int) [] S Q := by
  refine lcGo_pure (fun v => match v with | .int n => p n | _ => false) (fun v => match v with | .int n => f n | v => v) hg (ns.map Val.int) [] (by simpa using hl) (fun x hx' => ?_) ?_
  · obtain ⟨n, hn, rfl⟩ := all_ints rfl x hx'
    exact ⟨_, rfl, (hx n hn).1, (hx n hn).2⟩
  · rw [List.nil_append, List.filter_map, List.map_map]
    exact h

theorem within_self {S : Sto} : S.within S = S := within_eq fun _ h => h
theorem isi_of {kit : Kit} {own : List Str} {cs : List TyTag} {x : Val} {S : Sto} {Q : VQ} {t : TyTag} {b : Bool} (h1 : tagOf S x = some t) (h2 : ownTag own t = true) (h3 : kitAll kit t cs = some b) (q : Q (.bl b) S) : isiP kit own cs x S Q := by
  refine ⟨?_⟩
  unfold isiP0
  rw [h1]
  refine ⟨h2, ?_⟩
  rw [h3]
  exact q
theorem upTo_ints (lo : Int) (n : Nat) : upTo lo n = ((List.range n).map fun i : Nat => lo + (i : Int)).map Val.int := by
  unfold upTo
  rw [List.map_map]
  rfl
/-- what the law compares: values with no lists in them -/
def RD : Nat → Val → Prop
  | 0, _ => False
  | n + 1, v => match v with
    | .non => True
    | .bl _ => True
    | .int _ => True
    | .str _ => True
    | .tup xs => xs.length ≤ 1048576 ∧ ∀ x ∈ xs, RD n x
    | _ => False
theorem RD.mono {n : Nat} : ∀ {m : Nat} {v : Val}, RD n v → n ≤ m → RD m v := by
  induction n with
  | zero => intro m v h; exact h.elim
  | succ n ih =>
    intro m v h hm
    cases m with
    | zero => omega
    | succ m =>
      cases v with
      | tup xs => exact ⟨h.1, fun x hx => ih (h.2 x hx) (by omega)⟩
      | _ => first | trivial | exact h
theorem rd_ti {n : Nat} (ns : List Int) (h : ns.length ≤ 1048576) : RD (n + 2) (tiV ns) := ⟨by rw [List.length_map]; exact h, fun x hx => by
  obtain ⟨i, _, rfl⟩ := List.mem_map.mp hx
  trivial⟩

/-- .. behind what is there already -/
theorem lc_intsA {g : Option Addr} {ns : List Int} {i : Nat} {tt : IT} {te : IE} {ρ : ISt} {S : Sto} {Q : List Val → Sto → Prop} {acc : List Val} (p : Int → Bool) (f : Int → Val) (hg : guardOk g (ns.map Val.int) S) (hl : acc.length + ns.length ≤ sizeLine)
    (hx : ∀ n ∈ ns, (∀ Q : Bool → Sto → Prop, Q (p n) S → tt (setS ρ i (.int n)) S Q noX) ∧ (p n = true → ∀ Q : VQ, Q (f n) S → te (setS ρ i (.int n)) S Q noX)) (h : Q (acc ++ (ns.filter p).map f) S) : lcGo g (ns.map Val.int) (.nm i) tt te ρ (ns.map Val.int) acc S Q := by
  refine lcGo_pure (fun v => match v with | .int n => p n | _ => false) (fun v => match v with | .int n => f n | v => v) hg (ns.map Val.int) acc (by simpa using hl) (fun x hx' => ?_) ?_
  · obtain ⟨n, hn, rfl⟩ := all_ints rfl x hx'
    exact ⟨_, rfl, (hx n hn).1, (hx n hn).2⟩
  · rw [List.filter_map, List.map_map]
    exact h
/-- the same over anything that is coded -/
theorem lc_codes {α : Type} (e : α → Val) {g : Option Addr} {ns : List α} {t : Tg} {tt : IT} {te : IE} {ρ : ISt} {S : Sto} {Q : List Val → Sto → Prop} {acc : List Val} {all : List Val} (p : α → Bool) (f : α → Val) (hg : guardOk g all S) : ∀ (ns : List α) (acc : List Val), acc.length + ns.length ≤ sizeLine →
    (∀ n ∈ ns, ∃ ρ1, tgI t (e n) ρ = some ρ1 ∧ (∀ Q : Bool → Sto → Prop, Q (p n) S → tt ρ1 S Q noX) ∧ (p n = true → ∀ Q : VQ, Q (f n) S → te ρ1 S Q noX)) → Q (acc ++ (ns.filter p).map f) S → lcGo g all t tt te ρ (ns.map e) acc S Q
  | [], acc, _, _, h => ⟨hg, by simpa using h⟩
  | x :: r, acc, hl, hx, h => by
    obtain ⟨ρ1, e1, h1, h2⟩ := hx x List.mem_cons_self
    refine ⟨hg, ?_⟩
    rw [e1]
    refine h1 _ ?_
    have hl2 : acc.length + (r.length + 1) ≤ sizeLine := by simpa using hl
    cases hp : p x with
    | true =>
      refine h2 hp _ ⟨by omega, ?_⟩
      refine lc_codes e (ns := r) (acc := acc) p f hg r (acc ++ [f x]) (by simp; omega) (fun y hy => hx y (List.mem_cons_of_mem _ hy)) ?_
      rw [List.filter_cons, hp] at h
      simpa using h
    | false =>
      refine lc_codes e (ns := r) (acc := acc) p f hg r acc (by omega) (fun y hy => hx y (List.mem_cons_of_mem _ hy)) ?_
      rw [List.filter_cons, hp] at h
      simpa using h
/-- two clauses, pure -/
theorem lc2_codes {α : Type} (e : α → Val) {g : Option Addr} {t : Tg} {tt : IT} {it1 : II} {t1 : Tg} {tt1 : IT} {te : IE} {vs1 : List Nat} {ρ : ISt} {S : Sto} {Q : List Val → Sto → Prop} {all : List Val} (f : α → List Val) (hg : guardOk g all S) : ∀ (ns : List α) (acc : List Val), acc.length + (ns.flatMap f).length ≤ sizeLine →
    (∀ n ∈ ns, ∃ ρ1, tgI t (e n) ρ = some ρ1 ∧ (∀ Q : Bool → Sto → Prop, Q true S → tt ρ1 S Q noX) ∧ ∀ (acc : List Val) (Q : List Val → Sto → Prop), acc.length + (f n).length ≤ sizeLine → Q (acc ++ f n) S → it1 ρ1 S (fun g1 ys S3 => lcGo g1 ys t1 tt1 te (wipeI ρ1 vs1) ys acc S3 Q) noX) →
    Q (acc ++ ns.flatMap f) S → lc2Go g all t tt it1 t1 tt1 te vs1 ρ (ns.map e) acc S Q
  | [], acc, _, _, h => ⟨hg, by simpa using h⟩
  | x :: r, acc, hl, hx, h => by
    obtain ⟨ρ1, e1, h1, h2⟩ := hx x List.mem_cons_self
    refine ⟨hg, ?_⟩
    rw [e1]
    rw [List.flatMap_cons, List.length_append] at hl
    refine h1 _ (h2 acc _ (by omega) ?_)
    refine lc2_codes e f hg r (acc ++ f x) (by rw [List.length_append]; omega) (fun y hy => hx y (List.mem_cons_of_mem _ hy)) ?_
    rw [List.flatMap_cons] at h
    simpa using h
/-- a loop that looks for the first one -/
theorem for_find {α : Type} (e : α → Val) {all : List Val} {t : Tg} {b : IS} {D : IEnds} {S : Sto} (P : ISt → Prop) (f : α → Option Val) : ∀ (as : List α) (ρ : ISt), P ρ →
    (∀ x ∈ as, ∀ ρ, P ρ → ∃ ρ1, tgI t (e x) ρ = some ρ1 ∧ ∀ Kn : ISt → Sto → Prop, (f x = none → ∀ ρ', P ρ' → Kn ρ' S) → (∀ v, f x = some v → D.rt v S) → b { D with nx := Kn, ct := Kn, bk := D.nx } ρ1 S) →
    (∀ v, as.findSome? f = some v → D.rt v S) → (as.findSome? f = none → ∀ ρ', P ρ' → D.nx ρ' S) → forGo none all t b D (as.map e) ρ S
  | [], ρ, hp, _, _, h2 => ⟨trivial, h2 rfl ρ hp⟩
  | x :: r, ρ, hp, hb, h1, h2 => by
    obtain ⟨ρ1, e1, h3⟩ := hb x List.mem_cons_self ρ hp
    refine ⟨trivial, ?_⟩
    rw [e1]
    refine h3 _ (fun hn ρ' hp' => ?_) fun v hv => h1 v (by rw [List.findSome?_cons, hv])
    refine for_find e P f r ρ' hp' (fun y hy => hb y (List.mem_cons_of_mem _ hy)) (fun v hv => h1 v (by rw [List.findSome?_cons, hn]; exact hv)) fun hv => h2 (by rw [List.findSome?_cons, hn]; exact hv)
theorem fld_of {F : Str → Str → Bool} {c f : Str} {ns : List Str} {vs : List Val} {v : Val} {S : Sto} {Q : VQ} (hF : F c f = true) (h : fldOf ns vs f = some v) (q : Q v S) : fldP F f (.ins c ns vs) S Q := by
  refine ⟨?_⟩
  unfold fldP0
  refine ⟨hF, ?_⟩
  rw [h]
  exact q
theorem sort_i {c : Bool} {ns : List Int} {S : Sto} {Q : VQ} (q : newL c ((srtB ltI ns).map Val.int) S Q) : sortP c [.lst (ns.map Val.int)] S Q := by
  refine ⟨?_⟩
  unfold sortP0
  show someP (some (ns.map Val.int)) _
  show (match intsOf (ns.map Val.int) with
    | some ns => newL c ((srtB ltI ns).map Val.int) S Q
    | none => someP (tisOf (ns.map Val.int)) fun ks => newL c ((srtB TLS.ltL ks).map tiV) S Q)
  rw [intsOf_map]
  exact q
theorem tisOf_map : ∀ ks : List (List Int), tisOf (ks.map tiV) = some ks
  | [] => rfl
  | k :: ks => by
    show (match intsOf (k.map Val.int), tisOf (ks.map tiV) with
      | some ns, some ks => some (ns :: ks)
      | _, _ => none) = _
    rw [intsOf_map, tisOf_map ks]
theorem sort_t {c : Bool} {ks : List (List Int)} {S : Sto} {Q : VQ} (h : ks ≠ []) (q : newL c ((srtB TLS.ltL ks).map tiV) S Q) : sortP c [.lst (ks.map tiV)] S Q := by
  refine ⟨?_⟩
  unfold sortP0
  show (match intsOf (ks.map tiV) with
    | some ns => newL c ((srtB ltI ns).map Val.int) S Q
    | none => someP (tisOf (ks.map tiV)) fun ks => newL c ((srtB TLS.ltL ks).map tiV) S Q)
  cases ks with
  | nil => exact absurd rfl h
  | cons k r =>
    show someP (tisOf ((k :: r).map tiV)) _
    rw [tisOf_map]
    exact q
theorem sortSet_of {c : Bool} {ks : List (List Int)} {x : Val} {S : Sto} {Q : VQ} (e : lsqOf S x = some (ks.map tiV)) (hl : ks.length < 64) (q : newL c ((srtB TLS.ltL (dedB ks)).map tiV) S Q) : sortSetP c x S Q := by
  refine ⟨?_⟩
  show someP (lsqOf S x) fun xs => someP (tisOf xs) fun ks => ks.length < 64 ∧ newL c ((srtB TLS.ltL (dedB ks)).map tiV) S Q
  rw [e]
  show someP (tisOf (ks.map tiV)) _
  rw [tisOf_map]
  exact ⟨hl, q⟩
theorem eqOf_tit {S : Sto} {ns ms : List Int} (e : ns = ms) : eqOf S (tiV ns) (tiV ms) = some true := by rw [eqOf_ti, decide_eq_true e]
theorem eqOf_tif {S : Sto} {ns ms : List Int} (e : ns ≠ ms) : eqOf S (tiV ns) (tiV ms) = some false := by rw [eqOf_ti, decide_eq_false e]

theorem setf_of {F : Str → Str → Bool} {f c : Str} {ns ms : List Str} {vs us : List Val} {v : Val} {a : Addr} {S : Sto} {Kn : Sto → Prop} (h : S a = some (.ins c ns vs)) (hF : F c f = true) (hl : ns.length < 1000) (hp : putFld ns vs f v = (ms, us))
    (q : Kn (S.put a (.ins c ms us))) : setFP F f (.ref a) v S Kn := by
  refine ⟨?_⟩
  unfold setFP0
  simp only [h, hp]
  exact ⟨hF, hl, q⟩
theorem put_del {S : Sto} {a : Addr} {c : Cell} (h : S a = none) : (S.put a c).del a = S := by
  funext b
  unfold Sto.put Sto.del
  by_cases e : b = a
  · subst e
    simp [h]
  · simp [e]
theorem frzI_of {a : Addr} {S : Sto} {Q : VQ} {c : Str} {ns : List Str} {vs : List Val} (h : S a = some (.ins c ns vs)) (q : Q (.ins c ns vs) (S.del a)) : frzI true a S Q := by
  show (match S a with
    | some (.ins c ns vs) => Q (.ins c ns vs) (S.del a)
    | _ => False)
  rw [h]
  exact q

theorem len_ref {S : Sto} {a : Addr} {xs : List Val} {Q : VQ} (h : S a = some (.lst xs)) (q : Q (.int xs.length) S) : lenP [.ref a] S Q := by
  show someP (match S a with
    | some (.lst xs) => some xs
    | _ => none) fun xs => Q (.int xs.length) S
  rw [h]
  exact q
theorem tup_ref {S : Sto} {a : Addr} {xs : List Val} {Q : VQ} (h : S a = some (.lst xs)) (q : Q (.tup xs) S) : tupleP [.ref a] S Q := by
  show someP (match S a with
    | some (.lst xs) => some xs
    | _ => none) fun xs => Q (.tup xs) S
  rw [h]
  exact q
theorem lsq_ref {S : Sto} {a : Addr} {xs : List Val} (h : S a = some (.lst xs)) : lsqOf S (.ref a) = some xs := by
  show (match S a with
    | some (.lst xs) => some xs
    | _ => none) = some xs
  rw [h]
/-- what a def leaves behind its own cells -/
theorem Deal.gc {a b : Addr} {S S' : Sto} (h : Deal a b S) (h' : Deal a b S') (f : ∀ c, S c ≠ none → c ≠ a → c ≠ b → S' c = S c) : Deal a b (S'.within S) ∧ Fr a b S (S'.within S) := by
  obtain ⟨ne, cs, mix, e1, e2, r⟩ := h
  obtain ⟨_, cs', mix', e1', e2', r'⟩ := h'
  refine ⟨⟨ne, cs', mix', ?_, ?_, r'⟩, ⟨fun c h1 h2 => ?_⟩⟩
  · unfold Sto.within
    rw [e1]
    exact e1'
  · unfold Sto.within
    rw [e2]
    exact e2'
  · unfold Sto.within
    cases e : S c with
    | none => rfl
    | some x =>
      show S' c = some x
      rw [f c (by rw [e]; exact fun z => nomatch z) h1 h2, e]
/-- a place that is none of the deal's -/
theorem Deal.off {a b e : Addr} {S : Sto} (h : Deal a b S) (he : S e = none) : e ≠ a ∧ e ≠ b := by
  obtain ⟨ne, cs, mix, e1, e2, r⟩ := h
  exact ⟨fun z => (by rw [z, e1] at he; cases he), fun z => (by rw [z, e2] at he; cases he)⟩
theorem Deal.put {a b e : Addr} {S : Sto} {c : Cell} (h : Deal a b S) (h1 : e ≠ a) (h2 : e ≠ b) : Deal a b (S.put e c) := by
  obtain ⟨ne, cs, mix, e1, e2, r⟩ := h
  exact ⟨ne, cs, mix, by rw [put_ne h1.symm]; exact e1, by rw [put_ne h2.symm]; exact e2, r⟩
end TL

/-! TLw: pure parts, put together: EV (an expression tells a value, the store stays), TT (a test tells a truth). -/
namespace TL
open PySem PySem.Spec L2
open PyProof.Rows hiding St

abbrev EV (e : IE) (ρ : ISt) (S : Sto) (v : Val) : Prop := ∀ (Q : VQ) (E : EQ), Q v S → e ρ S Q E
abbrev TT (t : IT) (ρ : ISt) (S : Sto) (k : Bool) : Prop := ∀ (Q : Bool → Sto → Prop) (E : EQ), Q k S → t ρ S Q E
section
variable {ρ : ISt} {S : Sto} {a b m : IE} {x y v w : Val} {i j : Int} {t u : IT} {D : IEnds} {Kx A1 A2 : IS} {Γ : Calls} {f : Str} {k : Bool}
theorem EV.con (v : Val) : EV (conI v) ρ S v := fun _ _ h => h
theorem EV.add (ha : EV a ρ S (.int i)) (hb : EV b ρ S (.int j)) {c : Bool} : EV (bin2 (addP c) a b) ρ S (.int (i + j)) := fun Q E h => ha _ _ (hb _ _ h)
theorem EV.sub (ha : EV a ρ S (.int i)) (hb : EV b ρ S (.int j)) : EV (bin2 subP a b) ρ S (.int (i - j)) := fun Q E h => ha _ _ (hb _ _ h)
theorem EV.mul (ha : EV a ρ S (.int i)) (hb : EV b ρ S (.int j)) (hm : CMulW i j) {c : Bool} : EV (bin2 (mulP c) a b) ρ S (.int (i * j)) := fun Q E h => ha _ _ (hb _ _ ⟨hm, h⟩)
theorem EV.mod (ha : EV a ρ S (.int i)) (hb : EV b ρ S (.int j)) (hm : 0 < j) : EV (bin2 modP a b) ρ S (.int (i % j)) := fun Q E h => ha _ _ (hb _ _ ⟨hm, h⟩)
theorem EV.fdiv (ha : EV a ρ S (.int i)) (hb : EV b ρ S (.int j)) (hm : CDivW i j) : EV (bin2 fdivP a b) ρ S (.int (i / j)) := fun Q E h => ha _ _ (hb _ _ ⟨hm, h⟩)
theorem EV.pow (ha : EV a ρ S (.int i)) (hb : EV b ρ S (.int j)) (hm : CPow i j) : EV (bin2 powP a b) ρ S (.int (i ^ j.toNat)) := fun Q E h => ha _ _ (hb _ _ ⟨hm, h⟩)
theorem EV.int (ha : EV a ρ S (.int i)) : EV (callP intP (consA a nilA)) ρ S (.int i) := fun Q E h => ha _ _ h
theorem EV.ixT {xs : List Val} (ha : EV a ρ S (.tup xs)) (hb : EV b ρ S (.int i)) (h : atI xs i = some v) : EV (bin2 ixP a b) ρ S v := fun Q E q => ha _ _ (hb _ _ (ixT_of h q))
theorem EV.ixL {xs : List Val} (ha : EV a ρ S (.lst xs)) (hb : EV b ρ S (.int i)) (h : atI xs i = some v) : EV (bin2 ixP a b) ρ S v := fun Q E q => ha _ _ (hb _ _ (ixL_of h q))
theorem EV.ixR {xs : List Val} {e : Addr} (ha : EV a ρ S (.ref e)) (he : S e = some (.lst xs)) (hb : EV b ρ S (.int i)) (h : atI xs i = some v) : EV (bin2 ixP a b) ρ S v := fun Q E q => ha _ _ (hb _ _ (ix_ref he h q))
theorem ixS_of {x : Str} {Q : VQ} {c : Nat} (hl : x.length ≤ sizeLine) (h : atI x.cps.toList i = some c) (q : Q (.str ⟨#[c]⟩) S) : ixP (.str x) (.int i) S Q := by
  refine ⟨?_⟩
  show x.length ≤ sizeLine ∧ someP (atI x.cps.toList i) fun c => Q (.str ⟨#[c]⟩) S
  rw [h]
  exact ⟨hl, q⟩
theorem EV.ixS {x : Str} {c : Nat} (ha : EV a ρ S (.str x)) (hb : EV b ρ S (.int i)) (hl : x.length ≤ sizeLine) (h : atI x.cps.toList i = some c) : EV (bin2 ixP a b) ρ S (.str ⟨#[c]⟩) := fun Q E q => ha _ _ (hb _ _ (ixS_of hl h q))
theorem EV.len {xs : List Val} (hm : EV m ρ S v) (h : seqOf S v = some xs) (hs : ∀ x, v ≠ .str x) : EV (callP lenP (consA m nilA)) ρ S (.int xs.length) := fun Q E q => hm _ _ (by
  have e : lenP [v] S Q = someP (seqOf S v) (fun xs => Q (.int xs.length) S) := by
    cases v <;> first | rfl | exact absurd rfl (hs _) | cases h
  show lenP [v] S Q
  rw [e, h]
  exact q)
theorem EV.lenT {xs : List Val} (hm : EV m ρ S (.tup xs)) : EV (callP lenP (consA m nilA)) ρ S (.int xs.length) := EV.len hm rfl nofun
theorem EV.lenL {xs : List Val} (hm : EV m ρ S (.lst xs)) : EV (callP lenP (consA m nilA)) ρ S (.int xs.length) := EV.len hm rfl nofun
theorem EV.lenR {xs : List Val} {e : Addr} (hm : EV m ρ S (.ref e)) (he : S e = some (.lst xs)) : EV (callP lenP (consA m nilA)) ρ S (.int xs.length) := EV.len hm (lsq_ref he) nofun
theorem EV.lenS {x : Str} (hm : EV m ρ S (.str x)) (h : x.length ≤ sizeLine) : EV (callP lenP (consA m nilA)) ρ S (.int x.length) := fun Q E q => hm _ _ ⟨h, q⟩
theorem EV.tuple {xs : List Val} (hm : EV m ρ S v) (h : seqOf S v = some xs) : EV (callP tupleP (consA m nilA)) ρ S (.tup xs) := fun Q E q => hm _ _ (by
  have e : tupleP [v] S Q = someP (seqOf S v) (fun xs => Q (.tup xs) S) := by
    cases v <;> first | rfl | cases h
  show tupleP [v] S Q
  rw [e, h]
  exact q)
theorem EV.tup1 (ha : EV a ρ S x) : EV (tupI (consA a nilA)) ρ S (.tup [x]) := fun Q E q => ha _ _ ⟨show 1 ≤ sizeLine by decide, q⟩
theorem EV.tup2 (ha : EV a ρ S x) (hb : EV b ρ S y) : EV (tupI (consA a (consA b nilA))) ρ S (.tup [x, y]) := fun Q E q => ha _ _ (hb _ _ ⟨show 2 ≤ sizeLine by decide, q⟩)
theorem EV.lst1 (ha : EV a ρ S x) : EV (lstI false (consA a nilA)) ρ S (.lst [x]) := fun Q E q => ha _ _ ⟨show 1 ≤ sizeLine by decide, q⟩
theorem EV.addL {xs ys : List Val} (ha : EV a ρ S (.lst xs)) (hb : EV b ρ S (.lst ys)) (hl : xs.length + ys.length ≤ sizeLine) : EV (bin2 (addP false) a b) ρ S (.lst (xs ++ ys)) := fun Q E q => ha _ _ (hb _ _ ⟨hl, q⟩)
theorem EV.addT {xs ys : List Val} (ha : EV a ρ S (.tup xs)) (hb : EV b ρ S (.tup ys)) (hl : xs.length + ys.length ≤ sizeLine) {c : Bool} : EV (bin2 (addP c) a b) ρ S (.tup (xs ++ ys)) := fun Q E q => ha _ _ (hb _ _ ⟨hl, q⟩)
theorem EV.call0 (h : ∀ (Q : VQ) (E : EQ), Q v S → Γ f [] S Q E) : EV (callF Γ f nilA) ρ S v := fun Q E q => h _ _ q
theorem EV.call1 (ha : EV a ρ S x) (h : ∀ (Q : VQ) (E : EQ), Q v S → Γ f [x] S Q E) : EV (callF Γ f (consA a nilA)) ρ S v := fun Q E q => ha _ _ (h _ _ q)
theorem EV.call2 (ha : EV a ρ S x) (hb : EV b ρ S y) (h : ∀ (Q : VQ) (E : EQ), Q v S → Γ f [x, y] S Q E) : EV (callF Γ f (consA a (consA b nilA))) ρ S v := fun Q E q => ha _ _ (hb _ _ (h _ _ q))
theorem EV.sliceT {xs ys : List Val} {lo hi : IO} {l h : Option Int} {c : Bool} (ha : EV a ρ S (.tup xs)) (hl : ∀ (Q : Option Int → Sto → Prop) (E : EQ), Q l S → lo ρ S Q E) (hh : ∀ (Q : Option Int → Sto → Prop) (E : EQ), Q h S → hi ρ S Q E) (e : cutL xs l h = ys) : EV (sliceI c a lo hi) ρ S (.tup ys) := fun Q E q => ha _ _ (hl _ _ (hh _ _ (by subst e; exact q)))
theorem EV.sliceL {xs ys : List Val} {lo hi : IO} {l h : Option Int} (ha : EV a ρ S (.lst xs)) (hl : ∀ (Q : Option Int → Sto → Prop) (E : EQ), Q l S → lo ρ S Q E) (hh : ∀ (Q : Option Int → Sto → Prop) (E : EQ), Q h S → hi ρ S Q E) (e : cutL xs l h = ys) : EV (sliceI false a lo hi) ρ S (.lst ys) := fun Q E q => ha _ _ (hl _ _ (hh _ _ (by subst e; exact q)))
theorem part_of (ha : EV a ρ S (.int i)) (Q : Option Int → Sto → Prop) (E : EQ) (q : Q (some i) S) : partI a ρ S Q E := ha _ _ q
theorem part_no (Q : Option Int → Sto → Prop) (E : EQ) (q : Q none S) : noPart ρ S Q E := q
theorem EV.ife (ht : TT t ρ S k) (h : if k then EV a ρ S v else EV b ρ S v) : EV (ifE t a b) ρ S v := fun Q E q => ht _ _ (by
  cases k with
  | true => exact h _ _ q
  | false => exact h _ _ q)
theorem EV.var {n : Nat} (h : ∀ K : Val → Prop, K v → getS ρ n K) : EV (varI n) ρ S v := fun Q E q => h _ q
theorem EV.lcP {α : Type} (e : α → Val) (ns : List α) (p : α → Bool) (f : α → Val) {g : Option Addr} {it : II} {tg : Tg} {tt : IT} {te : IE} {own : List Nat} (hit : ∀ (K : Option Addr → List Val → Sto → Prop) (E : EQ), K g (ns.map e) S → it ρ S K E) (hg : guardOk g (ns.map e) S) (hl : ns.length ≤ sizeLine)
    (hx : ∀ n ∈ ns, ∃ ρ1, tgI tg (e n) (wipeI ρ own) = some ρ1 ∧ TT tt ρ1 S (p n) ∧ (p n = true → EV te ρ1 S (f n))) : EV (lcI false it tg tt te own) ρ S (.lst ((ns.filter p).map f)) := fun Q E q => by
  refine hit _ _ ?_
  refine lc_codes e (ns := ns) (acc := []) p f hg ns [] (by rw [List.length_nil, Nat.zero_add]; exact hl) (fun n hn => ?_) ?_
  · obtain ⟨ρ1, h1, h2, h3⟩ := hx n hn
    exact ⟨ρ1, h1, fun Q' h => h2 _ _ h, fun hp Q' h => h3 hp _ _ h⟩
  · rw [List.nil_append]
    exact q
theorem EV.lc {α : Type} (e : α → Val) (ns : List α) (f : α → Val) {g : Option Addr} {it : II} {tg : Tg} {te : IE} {own : List Nat} (hit : ∀ (K : Option Addr → List Val → Sto → Prop) (E : EQ), K g (ns.map e) S → it ρ S K E) (hg : guardOk g (ns.map e) S) (hl : ns.length ≤ sizeLine)
    (hx : ∀ n ∈ ns, ∃ ρ1, tgI tg (e n) (wipeI ρ own) = some ρ1 ∧ EV te ρ1 S (f n)) : EV (lcI false it tg yesT te own) ρ S (.lst (ns.map f)) := by
  have h := EV.lcP (ρ := ρ) e ns (fun _ => true) f (tt := yesT) hit hg hl fun n hn => by
    obtain ⟨ρ1, h1, h2⟩ := hx n hn
    exact ⟨ρ1, h1, fun Q E q => q, fun _ => h2⟩
  rw [List.filter_eq_self.mpr (fun _ _ => rfl)] at h
  exact h
theorem walkL {xs : List Val} (ha : EV a ρ S (.lst xs)) (K : Option Addr → List Val → Sto → Prop) (E : EQ) (q : K none xs S) : walkI a ρ S K E := ha _ _ q
theorem walkT {xs : List Val} (ha : EV a ρ S (.tup xs)) (K : Option Addr → List Val → Sto → Prop) (E : EQ) (q : K none xs S) : walkI a ρ S K E := ha _ _ q
theorem walkS {x : Str} (ha : EV a ρ S (.str x)) (K : Option Addr → List Val → Sto → Prop) (E : EQ) (q : K none (walkStr x) S) : walkI a ρ S K E := ha _ _ q
theorem walkR {xs : List Val} {e : Addr} (ha : EV a ρ S (.ref e)) (he : S e = some (.lst xs)) (K : Option Addr → List Val → Sto → Prop) (E : EQ) (q : K (some e) xs S) : walkI a ρ S K E := ha _ _ (by
  show (match S e with
    | some (.lst xs) => K (some e) xs S
    | _ => False)
  rw [he]
  exact q)
theorem rng1 (ha : EV a ρ S (.int i)) (h1 : -(2 ^ 62) ≤ i) (h2 : i < 2 ^ 62) (K : Option Addr → List Val → Sto → Prop) (E : EQ) (q : K none (upTo 0 i.toNat) S) : rng1I a ρ S K E := ha _ _ ⟨⟨h1, h2⟩, q⟩
theorem strsOf_map : ∀ ys : List Str, strsOf (ys.map Val.str) = some ys
  | [] => rfl
  | y :: ys => by
    show (strsOf (ys.map Val.str)).map (y :: ·) = _
    rw [strsOf_map ys]
    rfl
theorem EV.join {z : Str} {ys : List Str} (ha : EV a ρ S (.str z)) (hb : EV b ρ S (.lst (ys.map Val.str))) (hz : (ys.map (·.length)).sum + ys.length * z.length ≤ 16777216) : EV (smethI joinP a (consA b nilA)) ρ S (.str (Txt.join z ys)) := fun Q E q => ha _ _ ⟨rfl, hb _ _ (by
  show someP (strsOf (ys.map Val.str)) fun ys => (ys.map (·.length)).sum + ys.length * z.length ≤ 16777216 ∧ Q (.str (Txt.join z ys)) S
  rw [strsOf_map]
  exact ⟨hz, q⟩)⟩
theorem EV.index {xs : List Val} {j : Nat} (ha : EV a ρ S (.lst xs)) (hb : EV b ρ S y) (f1 : flatE y = true) (f2 : xs.all flatE = true) (e : idxE y xs = some j) : EV (lmethI indexP a (consA b nilA)) ρ S (.int j) := fun Q E q => ha _ _ ⟨rfl, hb _ _ ⟨by
  show (flatE y = true ∧ xs.all flatE = true) ∧ someP (idxE y xs) fun j => Q (.int (j : Nat)) S
  rw [e]
  exact ⟨⟨f1, f2⟩, q⟩⟩⟩
theorem idx_int (o : Int) : ∀ ns : List Int, o ∈ ns → ∃ j, idxE (.int o) (ns.map Val.int) = some j ∧ ns[j]? = some o
  | n :: ns, h => by
    by_cases e : n = o
    · exact ⟨0, by show (if (n == o) = true then some 0 else _) = _; rw [if_pos (beq_iff_eq.mpr e)], by rw [e]; rfl⟩
    · obtain ⟨j, h1, h2⟩ := idx_int o ns ((List.mem_cons.mp h).resolve_left (fun z => e z.symm))
      refine ⟨j + 1, ?_, h2⟩
      show (if (n == o) = true then some 0 else (idxE (.int o) (ns.map Val.int)).map (· + 1)) = _
      rw [if_neg (fun z => e (beq_iff_eq.mp z)), h1]
      rfl
theorem EV.ord {c : Nat} (ha : EV a ρ S (.str ⟨#[c]⟩)) : EV (callP ordP (consA a nilA)) ρ S (.int c) := fun Q E q => ha _ _ ⟨rfl, q⟩
/-! tests -/
theorem TT.cmp {p : Int → Int → Bool} (ha : EV a ρ S (.int i)) (hb : EV b ρ S (.int j)) (hk : p i j = k) : TT (tstB (bin2 (cmpP p) a b)) ρ S k := fun Q E q => ha _ _ (hb _ _ (by show Q (p i j) S; rw [hk]; exact q))
theorem TT.eq (ha : EV a ρ S x) (hb : EV b ρ S y) (hk : eqOf S x y = some k) : TT (tstB (bin2 eqP a b)) ρ S k := fun Q E q => ha _ _ (hb _ _ (eq_of hk q))
theorem TT.ne (ha : EV a ρ S x) (hb : EV b ρ S y) (hk : eqOf S x y = some (!k)) : TT (tstB (bin2 neP a b)) ρ S k := fun Q E q => ha _ _ (hb _ _ (ne_of hk (by rw [Bool.not_not]; exact q)))
theorem TT.inn {neg : Bool} (ha : EV a ρ S x) (hb : EV b ρ S y) (hk : inOf S x y = some k) : TT (tstB (bin2 (inP neg) a b)) ρ S (if neg then !k else k) := fun Q E q => ha _ _ (hb _ _ ⟨by
  show someP (inOf S x y) _
  rw [hk]
  exact q⟩)
theorem TT.tb (ha : EV a ρ S (.bl k)) : TT (tstB a) ρ S k := fun Q E q => ha _ _ q
theorem TT.or_f (h1 : TT t ρ S false) (h2 : TT u ρ S k) : TT (orT t u) ρ S k := fun Q E q => h1 _ _ (h2 _ _ q)
theorem TT.or_t (h1 : TT t ρ S true) : TT (orT t u) ρ S true := fun Q E q => h1 _ _ q
theorem TT.and_t (h1 : TT t ρ S true) (h2 : TT u ρ S k) : TT (andT t u) ρ S k := fun Q E q => h1 _ _ (h2 _ _ q)
theorem TT.and_f (h1 : TT t ρ S false) : TT (andT t u) ρ S false := fun Q E q => h1 _ _ q
theorem TT.not_t (h1 : TT t ρ S false) : TT (notT t) ρ S true := fun Q E q => h1 _ _ q
theorem TT.not_f (h1 : TT t ρ S true) : TT (notT t) ρ S false := fun Q E q => h1 _ _ q
/-! statements -/
theorem sq_set {n : Nat} (h : EV a ρ S v) (q : Kx D (setS ρ n v) S) : seqI (setI (.nm n) a) Kx D ρ S := h _ _ q
theorem sq_tp {is : List Nat} {vs : List Val} {ρ1 : ISt} (h : EV a ρ S (.tup vs)) (e : setAll ρ is vs = some ρ1) (q : Kx D ρ1 S) : seqI (setI (.tp is) a) Kx D ρ S := h _ _ (by
  show someP (setAll ρ is vs) fun ρ1 => Kx D ρ1 S
  rw [e]
  exact q)
theorem sq_par2 {i j : Nat} {ρ1 : ISt} (ha : EV a ρ S x) (hb : EV b ρ S y) (e : setAll ρ [i, j] [x, y] = some ρ1) (q : Kx D ρ1 S) : seqI (parI [i, j] (consA a (consA b nilA))) Kx D ρ S := ha _ _ (hb _ _ (by
  show someP (setAll ρ [i, j] [x, y]) fun ρ1 => Kx D ρ1 S
  rw [e]
  exact q))
theorem sq_drop (h : EV a ρ S v) (q : Kx D ρ S) : seqI (dropI a) Kx D ρ S := h _ _ q
theorem sq_ret (h : EV a ρ S v) (q : D.rt v S) : seqI (retI false a) Kx D ρ S := h _ _ q
theorem sq_if_t (h : TT t ρ S true) (q : A1 { D with nx := Kx D } ρ S) : seqI (ifI t A1 A2) Kx D ρ S := h _ _ q
theorem sq_if_f (h : TT t ρ S false) (q : A2 { D with nx := Kx D } ρ S) : seqI (ifI t A1 A2) Kx D ρ S := h _ _ q
/-- an if without an else -/
theorem sq_if_n (h : TT t ρ S false) (q : Kx D ρ S) : seqI (ifI t A1 nextI) Kx D ρ S := h _ _ q
/-- an if that returns -/
theorem sq_if_r (h : TT t ρ S true) (h2 : EV a ρ S v) (q : D.rt v S) : seqI (ifI t (seqI (retI false a) nextI) nextI) Kx D ρ S := h _ _ (h2 _ _ q)
end
end TL

/-! TLx: more small lemmas: data that is compared, in, sorted, stacks, tables of defs. -/
namespace TL
open PySem PySem.Spec L2
open PyProof.Rows hiding St

theorem within_old {S S' : Sto} (hS : ∀ c, S c ≠ none → S' c = S c) : S'.within S = S := by
  funext c
  unfold Sto.within
  cases e : S c with
  | none => rfl
  | some x => exact (hS c (by rw [e]; exact fun z => nomatch z)).trans e
theorem within_put {S S' : Sto} {a : Addr} {c : Cell} (ha : S a ≠ none) (hS : ∀ b, S b ≠ none → b ≠ a → S' b = S b) (h : S' a = some c) : S'.within S = S.put a c := by
  funext b
  unfold Sto.within
  by_cases e : b = a
  · subst e
    rw [put_same]
    cases e2 : S b with
    | none => exact absurd e2 ha
    | some x => exact h
  · rw [put_ne e]
    cases e2 : S b with
    | none => rfl
    | some x => exact (hS b (by rw [e2]; exact fun z => nomatch z) e).trans e2
/-! ### data -/
def DD (n : Nat) (v : Val) : Prop := ∃ d, toD v = some d ∧ d.canLay0 = true ∧ d.depth ≤ n
theorem DD.mono {n m : Nat} {v : Val} (h : DD n v) (hm : n ≤ m) : DD m v := by
  obtain ⟨d, a, b, c⟩ := h
  exact ⟨d, a, b, by omega⟩
theorem dd_int (n : Nat) (i : Int) : DD n (.int i) := ⟨.int i, rfl, by simp [PyData.canLay0], by simp [PyData.depth]⟩
theorem dd_str (n : Nat) {x : Str} (h : PyData.strOk x = true) : DD n (.str x) := ⟨.str x, rfl, by simpa [PyData.canLay0] using h, by simp [PyData.depth]⟩
theorem dd_all {n : Nat} : ∀ {xs : List Val}, (∀ x ∈ xs, DD n x) → ∃ ds, toDs xs = some ds ∧ PyData.canLayAll0 ds = true ∧ PyData.depthAll ds ≤ n ∧ ds.isEmpty = xs.isEmpty
  | [], _ => ⟨[], rfl, by simp [PyData.canLayAll0], by simp [PyData.depthAll], rfl⟩
  | x :: r, h => by
    obtain ⟨d, a, b, c⟩ := h x List.mem_cons_self
    obtain ⟨ds, a2, b2, c2, _⟩ := dd_all (xs := r) fun y hy => h y (List.mem_cons_of_mem _ hy)
    refine ⟨d :: ds, ?_, ?_, ?_, rfl⟩
    · show (match toD x, toDs r with
        | some d, some ds => some (d :: ds)
        | _, _ => none) = _
      rw [a, a2]
    · simp only [PyData.canLayAll0, b, b2]
      rfl
    · simp only [PyData.depthAll]
      omega
theorem dd_tup {n : Nat} {xs : List Val} (h : ∀ x ∈ xs, DD n x) : DD (n + 1) (.tup xs) := by
  obtain ⟨ds, a, b, c, _⟩ := dd_all h
  refine ⟨.tuple ds, ?_, by simpa [PyData.canLay0] using b, by simp only [PyData.depth]; omega⟩
  show (toDs xs).map PyData.tuple = _
  rw [a]
  rfl
theorem dat_lst {S : Sto} {xs : List Val} (h : ∀ x ∈ xs, DD 63 x) : ∃ ds, datOf S (.lst xs) = some (.list ds) ∧ ds.isEmpty = xs.isEmpty := by
  obtain ⟨ds, a, b, c, e⟩ := dd_all h
  refine ⟨ds, ?_, e⟩
  show (match toD (.lst xs) with
    | some d => if SeqAt.shaped d then some d else none
    | none => none) = _
  rw [show toD (.lst xs) = some (.list ds) from by
    show (toDs xs).map PyData.list = _
    rw [a]
    rfl]
  dsimp only
  rw [if_pos]
  unfold SeqAt.shaped
  have e1 : (PyData.list ds).canLay0 = true := by simpa [PyData.canLay0] using b
  have e2 : (PyData.list ds).depth ≤ 64 := by simp only [PyData.depth]; omega
  rw [e1, decide_eq_true e2]
  rfl
theorem dat_rlst {S : Sto} {e : Addr} {xs : List Val} (he : S e = some (.lst xs)) (h : ∀ x ∈ xs, DD 63 x) : ∃ ds, datOf S (.ref e) = some (.list ds) ∧ ds.isEmpty = xs.isEmpty := by
  obtain ⟨ds, a, b⟩ := dat_lst (S := S) h
  refine ⟨ds, ?_, b⟩
  show (match S e with
    | some (.lst xs) => (match toD (.lst xs) with
      | some d => if SeqAt.shaped d then some d else none
      | none => none)
    | _ => none) = _
  rw [he]
  exact a
theorem eqv_nil (ds : List PyData) : PyData.eqv (.list ds) (.list []) = ds.isEmpty := by
  cases ds <;> simp [PyData.eqv, PyData.eqvAll]
theorem eq0_lst {S : Sto} {xs : List Val} (h : ∀ x ∈ xs, DD 63 x) : eqOf S (.lst xs) (.lst []) = some xs.isEmpty := by
  obtain ⟨ds, a, b⟩ := dat_lst (S := S) h
  obtain ⟨ds2, a2, b2⟩ := dat_lst (S := S) (xs := []) (fun x hx => by cases hx)
  have e : ds2 = [] := List.isEmpty_iff.mp b2
  subst e
  show (match datOf S (.lst xs), datOf S (.lst []) with
    | some d, some e => some (PyData.eqv d e)
    | _, _ => none) = _
  rw [a, a2]
  dsimp only
  rw [eqv_nil, b]
theorem eq0_ref {S : Sto} {e : Addr} {xs : List Val} (he : S e = some (.lst xs)) (h : ∀ x ∈ xs, DD 63 x) : eqOf S (.ref e) (.lst []) = some xs.isEmpty := by
  obtain ⟨ds, a, b⟩ := dat_rlst (S := S) he h
  obtain ⟨ds2, a2, b2⟩ := dat_lst (S := S) (xs := []) (fun x hx => by cases hx)
  have e : ds2 = [] := List.isEmpty_iff.mp b2
  subst e
  show (match datOf S (.ref _), datOf S (.lst []) with
    | some d, some e => some (PyData.eqv d e)
    | _, _ => none) = _
  rw [a, a2]
  dsimp only
  rw [eqv_nil, b]

/-! ### in -/
theorem in_of {neg : Bool} {x y : Val} {S : Sto} {Q : VQ} {b : Bool} (h : inOf S x y = some b) (q : Q (.bl (if neg then !b else b)) S) : inP neg x y S Q := by
  refine ⟨?_⟩
  unfold inP0
  rw [h]
  exact q
theorem flat_strs : ∀ ws : List Str, (ws.map Val.str).all flatE = true
  | [] => rfl
  | w :: ws => by rw [List.map_cons, List.all_cons, flat_strs ws]; rfl
theorem any_strs (w : Str) : ∀ ws : List Str, ((ws.map Val.str).any fun z => eqE z (.str w)) = decide (w ∈ ws)
  | [] => rfl
  | u :: ws => by
    rw [List.map_cons, List.any_cons, any_strs w ws]
    show ((u == w) || _) = _
    by_cases h : u = w
    · subst h; simp
    · have h' : ¬ w = u := fun e => h e.symm
      simp [h, h']
theorem inw_lst (S : Sto) (w : Str) (ws : List Str) : inOf S (.str w) (.lst (ws.map Val.str)) = some (decide (w ∈ ws)) := by
  show (if flatE (.str w) && (ws.map Val.str).all flatE then some ((ws.map Val.str).any fun z => eqE z (.str w)) else _) = _
  rw [flat_strs, any_strs]
  rfl
theorem inw_tup (S : Sto) (w : Str) (ws : List Str) : inOf S (.str w) (.tup (ws.map Val.str)) = some (decide (w ∈ ws)) := by
  show (if flatE (.str w) && (ws.map Val.str).all flatE then some ((ws.map Val.str).any fun z => eqE z (.str w)) else _) = _
  rw [flat_strs, any_strs]
  rfl
theorem flat_ints : ∀ ws : List Int, (ws.map Val.int).all flatE = true
  | [] => rfl
  | w :: ws => by rw [List.map_cons, List.all_cons, flat_ints ws]; rfl
theorem any_ints (w : Int) : ∀ ws : List Int, ((ws.map Val.int).any fun z => eqE z (.int w)) = decide (w ∈ ws)
  | [] => rfl
  | u :: ws => by
    rw [List.map_cons, List.any_cons, any_ints w ws]
    show ((u == w) || _) = _
    by_cases h : u = w
    · subst h; simp
    · have h' : ¬ w = u := fun e => h e.symm
      simp [h, h']
theorem ini_tup (S : Sto) (w : Int) (ws : List Int) : inOf S (.int w) (tiV ws) = some (decide (w ∈ ws)) := by
  show (if flatE (.int w) && (ws.map Val.int).all flatE then some ((ws.map Val.int).any fun z => eqE z (.int w)) else _) = _
  rw [flat_ints, any_ints]
  rfl
theorem eqOf_ss (S : Sto) (x y : Str) : eqOf S (.str x) (.str y) = some (decide (x = y)) := rfl

theorem inT_t {w : Str} (ws : List Str) {S : Sto} {Q : VQ} (h : w ∈ ws) (q : Q (.bl true) S) : inP false (.str w) (.tup (ws.map Val.str)) S Q := in_of (inw_tup S w ws) (by rw [decide_eq_true h]; exact q)
theorem inT_f {w : Str} (ws : List Str) {S : Sto} {Q : VQ} (h : ¬ w ∈ ws) (q : Q (.bl false) S) : inP false (.str w) (.tup (ws.map Val.str)) S Q := in_of (inw_tup S w ws) (by rw [decide_eq_false h]; exact q)
theorem inL_t {w : Str} (ws : List Str) {S : Sto} {Q : VQ} (h : w ∈ ws) (q : Q (.bl true) S) : inP false (.str w) (.lst (ws.map Val.str)) S Q := in_of (inw_lst S w ws) (by rw [decide_eq_true h]; exact q)
theorem inL_f {w : Str} (ws : List Str) {S : Sto} {Q : VQ} (h : ¬ w ∈ ws) (q : Q (.bl false) S) : inP false (.str w) (.lst (ws.map Val.str)) S Q := in_of (inw_lst S w ws) (by rw [decide_eq_false h]; exact q)
theorem eqS_t {x y : Str} {S : Sto} {Q : VQ} (h : x = y) (q : Q (.bl true) S) : eqP (.str x) (.str y) S Q := eq_of (eqOf_ss S x y) (by rw [decide_eq_true h]; exact q)
theorem eqS_f {x y : Str} {S : Sto} {Q : VQ} (h : x ≠ y) (q : Q (.bl false) S) : eqP (.str x) (.str y) S Q := eq_of (eqOf_ss S x y) (by rw [decide_eq_false h]; exact q)
theorem neS_t {x y : Str} {S : Sto} {Q : VQ} (h : x = y) (q : Q (.bl false) S) : neP (.str x) (.str y) S Q := ne_of (eqOf_ss S x y) (by rw [decide_eq_true h]; exact q)
theorem neS_f {x y : Str} {S : Sto} {Q : VQ} (h : x ≠ y) (q : Q (.bl true) S) : neP (.str x) (.str y) S Q := ne_of (eqOf_ss S x y) (by rw [decide_eq_false h]; exact q)


theorem cut_tail {α : Type} (x : α) (xs : List α) : cutL (x :: xs) (some 1) none = xs := by
  have e : HT.sIx (x :: xs).length 0 (some 1) = 1 := by
    have := HT.sIx_nat (x :: xs).length 0 1
    rw [show ((1 : Nat) : Int) = 1 from rfl] at this
    rw [this, List.length_cons]
    omega
  unfold cutL
  rw [e]
  show (List.drop 1 (x :: xs)).take ((x :: xs).length - 1) = xs
  rw [List.drop_succ_cons, List.drop_zero]
  exact List.take_of_length_le (by simp)
theorem cut_from {α : Type} (xs ys : List α) {i : Int} (h : i = (xs.length : Int)) : cutL (xs ++ ys) (some i) none = ys := by
  subst h
  unfold cutL
  rw [HT.sIx_nat, show min xs.length (xs ++ ys).length = xs.length from by rw [List.length_append]; omega, List.drop_left]
  exact List.take_of_length_le (by show ys.length ≤ (xs ++ ys).length - xs.length; rw [List.length_append]; omega)
theorem take_to {α : Type} (xs ys : List α) {i : Int} (h : i = (xs.length : Int)) : (xs ++ ys).take (HT.sIx (xs ++ ys).length 0 (some i)) = xs := by
  subst h
  rw [HT.sIx_nat, show min xs.length (xs ++ ys).length = xs.length from by rw [List.length_append]; omega, List.take_left]
/-! ### expressions -/
section
variable {ρ : ISt} {S : Sto} {a b m : IE} {x y v w : Val} {i j : Int} {t u : IT} {D : IEnds} {Kx A1 A2 : IS} {Γ : Calls} {f : Str} {k : Bool}
theorem EV.neg (ha : EV a ρ S (.int i)) : EV (un1 negP a) ρ S (.int (-i)) := fun Q E q => ha _ _ q
theorem EV.max2 (ha : EV a ρ S (.int i)) (hb : EV b ρ S (.int j)) : EV (callP maxP (consA a (consA b nilA))) ρ S (.int (if j > i then j else i)) := fun Q E q => ha _ _ (hb _ _ q)
theorem EV.sort {ns : List Int} (ha : EV a ρ S (.lst (ns.map Val.int))) : EV (callP (sortP false) (consA a nilA)) ρ S (.lst ((srtB ltI ns).map Val.int)) := fun Q E q => ha _ _ (sort_i q)
theorem EV.eqb (ha : EV a ρ S x) (hb : EV b ρ S y) (hk : eqOf S x y = some k) : EV (bin2 eqP a b) ρ S (.bl k) := fun Q E q => ha _ _ (hb _ _ (eq_of hk q))
theorem EV.cmpb {p : Int → Int → Bool} (ha : EV a ρ S (.int i)) (hb : EV b ρ S (.int j)) (hk : p i j = k) : EV (bin2 (cmpP p) a b) ρ S (.bl k) := fun Q E q => ha _ _ (hb _ _ (by show Q (.bl (p i j)) S; rw [hk]; exact q))
theorem EV.call3 {z : Val} {c : IE} (ha : EV a ρ S x) (hb : EV b ρ S y) (hc : EV c ρ S z) (h : ∀ (Q : VQ) (E : EQ), Q v S → Γ f [x, y, z] S Q E) : EV (callF Γ f (consA a (consA b (consA c nilA)))) ρ S v := fun Q E q => ha _ _ (hb _ _ (hc _ _ (h _ _ q)))
theorem EV.tup0 : EV (tupI nilA) ρ S (.tup []) := fun Q E q => ⟨show 0 ≤ sizeLine by decide, q⟩
theorem EV.call4 {z u : Val} {c d : IE} (ha : EV a ρ S x) (hb : EV b ρ S y) (hc : EV c ρ S z) (hd : EV d ρ S u) (h : ∀ (Q : VQ) (E : EQ), Q v S → Γ f [x, y, z, u] S Q E) : EV (callF Γ f (consA a (consA b (consA c (consA d nilA))))) ρ S v := fun Q E q => ha _ _ (hb _ _ (hc _ _ (hd _ _ (h _ _ q))))
theorem EV.tup4 {z u : Val} {c d : IE} (ha : EV a ρ S x) (hb : EV b ρ S y) (hc : EV c ρ S z) (hd : EV d ρ S u) : EV (tupI (consA a (consA b (consA c (consA d nilA))))) ρ S (.tup [x, y, z, u]) := fun Q E q => ha _ _ (hb _ _ (hc _ _ (hd _ _ ⟨show 4 ≤ sizeLine by decide, q⟩)))
theorem sq_par3 {i1 i2 i3 : Nat} {z : Val} {c : IE} {ρ1 : ISt} (ha : EV a ρ S x) (hb : EV b ρ S y) (hc : EV c ρ S z) (e : setAll ρ [i1, i2, i3] [x, y, z] = some ρ1) (q : Kx D ρ1 S) : seqI (parI [i1, i2, i3] (consA a (consA b (consA c nilA)))) Kx D ρ S := ha _ _ (hb _ _ (hc _ _ (by
  show someP (setAll ρ [i1, i2, i3] [x, y, z]) fun ρ1 => Kx D ρ1 S
  rw [e]
  exact q)))
theorem EV.revL {xs : List Val} (ha : EV a ρ S (.lst xs)) : EV (revI false a) ρ S (.lst xs.reverse) := fun Q E q => ha _ _ q
theorem EV.lst0 : EV (lstI false nilA) ρ S (.lst []) := fun Q E q => ⟨show 0 ≤ sizeLine by decide, q⟩
theorem EV.tup3 {z : Val} {c : IE} (ha : EV a ρ S x) (hb : EV b ρ S y) (hc : EV c ρ S z) : EV (tupI (consA a (consA b (consA c nilA)))) ρ S (.tup [x, y, z]) := fun Q E q => ha _ _ (hb _ _ (hc _ _ ⟨show 3 ≤ sizeLine by decide, q⟩))
theorem EV.lst3 {z : Val} {c : IE} (ha : EV a ρ S x) (hb : EV b ρ S y) (hc : EV c ρ S z) : EV (lstI false (consA a (consA b (consA c nilA)))) ρ S (.lst [x, y, z]) := fun Q E q => ha _ _ (hb _ _ (hc _ _ ⟨show 3 ≤ sizeLine by decide, q⟩))
theorem EV.count {ns : List Int} (ha : EV a ρ S (.lst (ns.map Val.int))) (hb : EV b ρ S (.int i)) : EV (lmethI countP a (consA b nilA)) ρ S (.int (ns.count i : Nat)) := fun Q E q => ha _ _ ⟨rfl, hb _ _ ⟨by
  show someP (intsOf (ns.map Val.int)) fun ns => Q (.int (ns.count i : Nat)) S
  rw [intsOf_map]
  exact q⟩⟩
theorem EV.tab {kvs : List (Str × Str)} {z g : Str} (ha : EV a ρ S (.str z)) (h : kvs.lookup z = some g) : EV (un1 (tabP kvs) a) ρ S (.fn g) := fun Q E q => ha _ _ (by
  show someP (kvs.lookup z) fun f => Q (.fn f) S
  rw [h]
  exact q)
theorem TT.tru (ha : EV a ρ S x) (h : truOf S x = some k) : TT (tst a) ρ S k := fun Q E q => ha _ _ (by
  show someP (truOf S x) fun k => Q k S
  rw [h]
  exact q)
theorem TT.eqS {p q : Str} (ha : EV a ρ S (.str p)) (hb : EV b ρ S (.str q)) (hk : decide (p = q) = k) : TT (tstB (bin2 eqP a b)) ρ S k := TT.eq ha hb (by rw [eqOf_ss, hk])
theorem TT.neS {p q : Str} (ha : EV a ρ S (.str p)) (hb : EV b ρ S (.str q)) (hk : decide (p = q) = !k) : TT (tstB (bin2 neP a b)) ρ S k := TT.ne ha hb (by rw [eqOf_ss, hk])
theorem TT.eqI (ha : EV a ρ S (.int i)) (hb : EV b ρ S (.int j)) (hk : decide (i = j) = k) : TT (tstB (bin2 eqP a b)) ρ S k := TT.eq ha hb (by rw [eqOf_ii, hk])
theorem TT.neI (ha : EV a ρ S (.int i)) (hb : EV b ρ S (.int j)) (hk : decide (i = j) = !k) : TT (tstB (bin2 neP a b)) ρ S k := TT.ne ha hb (by rw [eqOf_ii, hk])
theorem TT.inT {p : Str} {ws : List Str} (ha : EV a ρ S (.str p)) (hb : EV b ρ S (.tup (ws.map Val.str))) (hk : decide (p ∈ ws) = k) : TT (tstB (bin2 (inP false) a b)) ρ S k := TT.inn ha hb (by rw [inw_tup, hk])
theorem TT.inL {p : Str} {ws : List Str} (ha : EV a ρ S (.str p)) (hb : EV b ρ S (.lst (ws.map Val.str))) (hk : decide (p ∈ ws) = k) : TT (tstB (bin2 (inP false) a b)) ρ S k := TT.inn ha hb (by rw [inw_lst, hk])
theorem sq_for {it : II} {t : Tg} {bd : IS} {g : Option Addr} {xs : List Val} (hit : ∀ (K : Option Addr → List Val → Sto → Prop) (E : EQ), K g xs S → it ρ S K E) (q : forGo g xs t bd { D with nx := Kx D } xs ρ S) : seqI (forI it t bd) Kx D ρ S := hit _ _ q
theorem sq_slc {n : Nat} {o : IE} {lo hi : IO} {ys : List Val} (h : EV (sliceI false o lo hi) ρ S (.lst ys)) (q : ∀ l, S l = none → Kx D (setS ρ n (.ref l)) (S.put l (.lst ys))) : seqI (setI (.nm n) (sliceI true o lo hi)) Kx D ρ S := by
  have key : ∀ (x : Val) (l h : Option Int) (S3 : Sto) (Q : VQ), cutP true x l h S3 Q = cutP false x l h S3 fun v S2 => match v with
      | .lst ys => newL true ys S2 Q
      | .tup ys => Q (.tup ys) S2
      | _ => False := fun x l h S3 Q => by
    unfold cutP
    cases x <;> rfl
  show o ρ S (fun x S1 => lo ρ S1 (fun l S2 => hi ρ S2 (fun h S3 => cutP true x l h S3 fun v S1 => someP (tgI (.nm n) v ρ) fun ρ1 => Kx D ρ1 S1) (D.ex ρ)) (D.ex ρ)) (D.ex ρ)
  simp only [key]
  exact h _ _ q
theorem sq_lcc {n : Nat} {it : II} {tg : Tg} {tt : IT} {te : IE} {own : List Nat} {ys : List Val} (h : EV (lcI false it tg tt te own) ρ S (.lst ys)) (q : ∀ l, S l = none → Kx D (setS ρ n (.ref l)) (S.put l (.lst ys))) : seqI (setI (.nm n) (lcI true it tg tt te own)) Kx D ρ S := h (fun v S2 => match v with
  | .lst ys => newL true ys S2 fun v S1 => someP (tgI (.nm n) v ρ) fun ρ1 => Kx D ρ1 S1
  | _ => False) (D.ex ρ) q
theorem EV.sliceR {xs ys : List Val} {lo hi : IO} {l h : Option Int} {e : Addr} (ha : EV a ρ S (.ref e)) (he : S e = some (.lst xs)) (hl : ∀ (Q : Option Int → Sto → Prop) (E : EQ), Q l S → lo ρ S Q E) (hh : ∀ (Q : Option Int → Sto → Prop) (E : EQ), Q h S → hi ρ S Q E) (e2 : cutL xs l h = ys) : EV (sliceI false a lo hi) ρ S (.lst ys) := fun Q E q => ha _ _ (hl _ _ (hh _ _ (by
  show someP (lsqOf S (.ref e)) fun xs => newL false (cutL xs l h) S Q
  rw [lsq_ref he]
  show Q (.lst (cutL xs l h)) S
  rw [e2]
  exact q)))
theorem EV.tzip {xs ys : List Val} (ha : EV a ρ S (.tup xs)) (hb : EV b ρ S (.lst ys)) : EV (tzipI a b) ρ S (.set (zipV xs ys)) := fun Q E q => ha _ _ (hb _ _ q)
theorem sq_del {n : Nat} {e : Addr} {xs ys : List Val} (hn : ∀ K : Val → Prop, K (.ref e) → getS ρ n K) (he : S e = some (.lst xs)) (hl : xs.length ≤ sizeLine) (ha : EV a ρ S (.int i)) (e2 : xs.take (HT.sIx xs.length 0 (some i)) = ys) (q : Kx D ρ (S.put e (.lst ys))) : seqI (sdelI (varI n) (partI a)) Kx D ρ S := hn _ (ha _ _ ⟨by
  show (match S e with
    | some (.lst xs) => xs.length ≤ sizeLine ∧ Kx D ρ (S.put e (.lst (xs.take (HT.sIx xs.length 0 (some i)))))
    | _ => False)
  rw [he]
  refine ⟨hl, ?_⟩
  rw [e2]
  exact q⟩)
/-! ### stacks -/
theorem pop_end {S : Sto} {Q : VQ} {a : Addr} {xs : List Val} {y : Val} (h : S a = some (.lst (xs ++ [y]))) (q : Q y (S.put a (.lst xs))) : popP (.ref a) [] S Q := pop_of h (y := y) (by simp) (by rw [List.dropLast_concat]; exact q)
theorem sq_app {n : Nat} {a : Addr} {xs : List Val} (hn : ∀ K : Val → Prop, K (.ref a) → getS ρ n K) (h : S a = some (.lst xs)) (hl : xs.length < sizeLine) (hm : EV m ρ S v) (q : Kx D ρ (S.put a (.lst (xs ++ [v])))) : seqI (dropI (lmethI appendP (varI n) (consA m nilA))) Kx D ρ S := hn _ ⟨isl_ref h, hm _ _ (app_of h hl q)⟩
theorem sq_pop {n j : Nat} {a : Addr} {xs : List Val} (hn : ∀ K : Val → Prop, K (.ref a) → getS ρ n K) (h : S a = some (.lst (xs ++ [v]))) (q : Kx D (setS ρ j v) (S.put a (.lst xs))) : seqI (setI (.nm j) (lmethI popP (varI n) nilA)) Kx D ρ S := hn _ ⟨isl_ref h, pop_end h q⟩
theorem sq_pop2 {n i j : Nat} {a : Addr} {xs : List Val} {ρ1 : ISt} (hn : ∀ K : Val → Prop, K (.ref a) → getS ρ n K) (h : S a = some (.lst (xs ++ [x] ++ [y]))) (e : setAll ρ [i, j] [y, x] = some ρ1) (q : Kx D ρ1 (S.put a (.lst xs))) : seqI (parI [i, j] (consA (lmethI popP (varI n) nilA) (consA (lmethI popP (varI n) nilA) nilA))) Kx D ρ S := hn _ ⟨isl_ref h, pop_end h (hn _ ⟨isl_ref put_same, pop_end put_same (by
  show someP (setAll ρ [i, j] [y, x]) fun ρ1 => Kx D ρ1 _
  rw [e, put_put]
  exact q)⟩)⟩
theorem sq_pop4 {n : Nat} {is : List Nat} {a : Addr} {xs : List Val} {x1 x2 x3 x4 : Val} {ρ1 : ISt} (hn : ∀ K : Val → Prop, K (.ref a) → getS ρ n K) (h : S a = some (.lst (xs ++ [x1] ++ [x2] ++ [x3] ++ [x4]))) (e : setAll ρ is [x4, x3, x2, x1] = some ρ1) (q : Kx D ρ1 (S.put a (.lst xs))) :
    seqI (setI (.tp is) (tupI (consA (lmethI popP (varI n) nilA) (consA (lmethI popP (varI n) nilA) (consA (lmethI popP (varI n) nilA) (consA (lmethI popP (varI n) nilA) nilA)))))) Kx D ρ S := hn _ ⟨isl_ref h, pop_end h (hn _ ⟨isl_ref put_same, pop_end put_same (hn _ ⟨isl_ref put_same, pop_end put_same (hn _ ⟨isl_ref put_same, pop_end put_same ⟨show 4 ≤ sizeLine by decide, by
  show someP (setAll ρ is [x4, x3, x2, x1]) fun ρ1 => Kx D ρ1 _
  rw [e, put_put, put_put, put_put]
  exact q⟩⟩)⟩)⟩)⟩
theorem EV.maxL {ns : List Int} (ha : EV a ρ S (.lst (ns.map Val.int))) (hi : i ∈ ns) (hm : ∀ y ∈ ns, y ≤ i) : EV (callP maxP (consA a nilA)) ρ S (.int i) := fun Q E q => ha _ _ (by
  show someP (intsOf (ns.map Val.int)) fun ns => 0 < ns.length ∧ ∀ m, m ∈ ns → (∀ y, y ∈ ns → y ≤ m) → Q (.int m) S
  rw [intsOf_map]
  refine ⟨List.length_pos_of_mem hi, fun m h1 h2 => ?_⟩
  have e : m = i := Int.le_antisymm (hm m h1) (h2 i hi)
  rw [e]
  exact q)
end
end TL

/-! TLy: expressions that draw: DV (a value of which something is known, nothing but the deal has changed), DA (rows of such). -/
namespace TL
open PySem PySem.Spec L2
open PyProof.Rows hiding St

/-- two rows that go together -/
inductive F2 {α : Type} (R : α → Val → Prop) : List α → List Val → Prop
  | nil : F2 R [] []
  | cons {x : α} {v : Val} {xs : List α} {vs : List Val} : R x v → F2 R xs vs → F2 R (x :: xs) (v :: vs)
theorem F2.snoc {α : Type} {R : α → Val → Prop} {x : α} {v : Val} : ∀ {xs : List α} {vs : List Val}, F2 R xs vs → R x v → F2 R (xs ++ [x]) (vs ++ [v])
  | _, _, .nil, h => .cons h .nil
  | _, _, .cons h1 t, h => .cons h1 (t.snoc h)
theorem F2.length {α : Type} {R : α → Val → Prop} : ∀ {xs : List α} {vs : List Val}, F2 R xs vs → vs.length = xs.length
  | _, _, .nil => rfl
  | _, _, .cons _ t => by rw [List.length_cons, List.length_cons, t.length]
theorem f2_ints {α : Type} {Pe : Int → Prop} : ∀ {ns : List α} {vs : List Val}, F2 (fun _ v => ∃ n : Int, v = .int n ∧ Pe n) ns vs → ∃ ms : List Int, vs = ms.map Val.int ∧ ms.length = ns.length ∧ ∀ m ∈ ms, Pe m
  | _, _, .nil => ⟨[], rfl, rfl, fun m hm => nomatch hm⟩
  | _, _, .cons ⟨n, e, hn⟩ t => by
    obtain ⟨ms, h1, h2, h3⟩ := f2_ints t
    refine ⟨n :: ms, by rw [e, h1]; rfl, by rw [List.length_cons, List.length_cons, h2], fun m hm => ?_⟩
    rcases List.mem_cons.mp hm with rfl | hm
    · exact hn
    · exact h3 m hm
abbrev GAny (Γ : Calls) : Prop := ∀ (a b : Addr) (bound : Int) (S : Sto) (Q : VQ) (E : EQ), Deal a b S → 0 < bound → bound < 2 ^ 200 → (∀ k S', 0 ≤ k → k < bound → Deal a b S' → Fr a b S S' → Q (.int k) S') → Γ "_law_any" [.ref a, .int bound] S Q E
abbrev GOf (Γ : Calls) : Prop := ∀ (a b : Addr) (xs : List Val) (S : Sto) (Q : VQ) (E : EQ), Deal a b S → xs ≠ [] → xs.length ≤ sizeLine → (∀ v S', v ∈ xs → Deal a b S' → Fr a b S S' → Q v S') → Γ "_law_of" [.ref a, .lst xs] S Q E
abbrev DV (a b : Addr) (m : IE) (ρ : ISt) (P : Val → Prop) : Prop := ∀ (S : Sto) (Q : VQ) (E : EQ), Deal a b S → (∀ v S', P v → Deal a b S' → Fr a b S S' → Q v S') → m ρ S Q E
abbrev DA (a b : Addr) (m : IA) (ρ : ISt) (P : List Val → Prop) : Prop := ∀ (S : Sto) (Q : List Val → Sto → Prop) (E : EQ), Deal a b S → (∀ vs S', P vs → Deal a b S' → Fr a b S S' → Q vs S') → m ρ S Q E
section
variable {a b : Addr} {m e e1 e2 : IE} {as r : IA} {ρ : ISt} {P P1 P2 : Val → Prop} {R : List Val → Prop} {Γ : Calls} {f : Str} {v : Val} {n : Nat}
theorem DV.pure (h : ∀ S, EV m ρ S v) (hp : P v) : DV a b m ρ P := fun S Q E hd q => h S _ _ (q v S hp hd Fr.refl)
theorem DV.imp (h : DV a b m ρ P1) (hp : ∀ v, P1 v → P v) : DV a b m ρ P := fun S Q E hd q => h S Q E hd fun v S' h1 => q v S' (hp v h1)
theorem DA.nil (hp : R []) : DA a b nilA ρ R := fun S Q E hd q => q [] S hp hd Fr.refl
theorem DA.cons (h : DV a b e ρ P1) (h2 : ∀ v, P1 v → DA a b r ρ fun vs => R (v :: vs)) : DA a b (consA e r) ρ R := fun S Q E hd q => h S _ _ hd fun v S1 hv hd1 f1 => h2 v hv S1 _ _ hd1 fun vs S2 hvs hd2 f2 => q (v :: vs) S2 hvs hd2 (f1.trans f2)
theorem DV.tup (h : DA a b as ρ fun vs => vs.length ≤ sizeLine ∧ P (.tup vs)) : DV a b (tupI as) ρ P := fun S Q E hd q => h S _ _ hd fun vs S' hv hd1 f1 => ⟨hv.1, q _ S' hv.2 hd1 f1⟩
theorem DV.lst (h : DA a b as ρ fun vs => vs.length ≤ sizeLine ∧ P (.lst vs)) : DV a b (lstI false as) ρ P := fun S Q E hd q => h S _ _ hd fun vs S' hv hd1 f1 => ⟨hv.1, q _ S' hv.2 hd1 f1⟩
theorem DV.add (h1 : DV a b e1 ρ fun v => ∃ i, v = .int i ∧ P1 (.int i)) (h2 : DV a b e2 ρ fun v => ∃ j, v = .int j ∧ P2 (.int j)) (hp : ∀ i j, P1 (.int i) → P2 (.int j) → P (.int (i + j))) {c : Bool} : DV a b (bin2 (addP c) e1 e2) ρ P := fun S Q E hd q => h1 S _ _ hd fun v S1 hv hd1 f1 => by
  obtain ⟨i, rfl, hi⟩ := hv
  exact h2 S1 _ _ hd1 fun w S2 hw hd2 f2 => by
    obtain ⟨j, rfl, hj⟩ := hw
    exact q _ S2 (hp i j hi hj) hd2 (f1.trans f2)
theorem DV.sub (h1 : DV a b e1 ρ fun v => ∃ i, v = .int i ∧ P1 (.int i)) (h2 : DV a b e2 ρ fun v => ∃ j, v = .int j ∧ P2 (.int j)) (hp : ∀ i j, P1 (.int i) → P2 (.int j) → P (.int (i - j))) : DV a b (bin2 subP e1 e2) ρ P := fun S Q E hd q => h1 S _ _ hd fun v S1 hv hd1 f1 => by
  obtain ⟨i, rfl, hi⟩ := hv
  exact h2 S1 _ _ hd1 fun w S2 hw hd2 f2 => by
    obtain ⟨j, rfl, hj⟩ := hw
    exact q _ S2 (hp i j hi hj) hd2 (f1.trans f2)
theorem DV.addL (h1 : DV a b e1 ρ fun v => ∃ xs, v = .lst xs ∧ P1 (.lst xs)) (h2 : ∀ xs, P1 (.lst xs) → DV a b e2 ρ fun v => ∃ ys, v = .lst ys ∧ xs.length + ys.length ≤ sizeLine ∧ P (.lst (xs ++ ys))) : DV a b (bin2 (addP false) e1 e2) ρ P := fun S Q E hd q => h1 S _ _ hd fun v S1 hv hd1 f1 => by
  obtain ⟨xs, rfl, hi⟩ := hv
  exact h2 xs hi S1 _ _ hd1 fun w S2 hw hd2 f2 => by
    obtain ⟨ys, rfl, hl, hj⟩ := hw
    exact ⟨hl, q _ S2 hj hd2 (f1.trans f2)⟩
/-- a def that draws no more -/
theorem DV.call (h : DA a b as ρ fun vs => ∀ (S : Sto) (Q : VQ) (E : EQ), Deal a b S → (∀ v S', P v → Deal a b S' → Fr a b S S' → Q v S') → Γ f vs S Q E) : DV a b (callF Γ f as) ρ P := fun S Q E hd q => h S _ _ hd fun vs S' hv hd1 f1 => hv S' _ _ hd1 fun v S2 hp hd2 f2 => q v S2 hp hd2 (f1.trans f2)
theorem DA.one (h : DV a b e ρ fun v => R [v]) : DA a b (consA e nilA) ρ R := DA.cons h fun v hv => DA.nil hv
theorem DA.var {w : Val} (hn : ∀ K : Val → Prop, K w → getS ρ n K) (h2 : DA a b r ρ fun vs => R (w :: vs)) : DA a b (consA (varI n) r) ρ R := fun S Q E hd q => hn _ (h2 S _ _ hd fun vs S' hv hd1 f1 => q _ S' hv hd1 f1)
theorem DV.anyD (hA : GAny Γ) (hn : ∀ K : Val → Prop, K (.ref a) → getS ρ n K) (he : DV a b e ρ fun v => ∃ k, v = .int k ∧ 0 < k ∧ k < 2 ^ 200 ∧ ∀ i, 0 ≤ i → i < k → P (.int i)) : DV a b (callF Γ "_law_any" (consA (varI n) (consA e nilA))) ρ P := DV.call (DA.var hn (DA.one (he.imp fun v hv S Q E hd q => by
  obtain ⟨k, rfl, h1, h2, h3⟩ := hv
  exact hA a b k S Q E hd h1 h2 fun i S' i1 i2 hd' f => q _ S' (h3 i i1 i2) hd' f)))
theorem DV.any {k : Int} (hA : GAny Γ) (hn : ∀ K : Val → Prop, K (.ref a) → getS ρ n K) (h0 : 0 < k) (h1 : k < 2 ^ 200) (hp : ∀ i, 0 ≤ i → i < k → P (.int i)) : DV a b (callF Γ "_law_any" (consA (varI n) (consA (conI (.int k)) nilA))) ρ P := DV.anyD hA hn (DV.pure (fun S => EV.con _) ⟨k, rfl, h0, h1, hp⟩)
theorem DV.of (hO : GOf Γ) (hn : ∀ K : Val → Prop, K (.ref a) → getS ρ n K) (he : DV a b e ρ fun v => ∃ xs, v = .lst xs ∧ xs ≠ [] ∧ xs.length ≤ sizeLine ∧ ∀ x ∈ xs, P x) : DV a b (callF Γ "_law_of" (consA (varI n) (consA e nilA))) ρ P := DV.call (DA.var hn (DA.one (he.imp fun v hv S Q E hd q => by
  obtain ⟨xs, rfl, h1, h2, h3⟩ := hv
  exact hO a b xs S Q E hd h1 h2 fun v S' hv hd' f => q _ S' (h3 v hv) hd' f)))
theorem DV.var {w : Val} (hn : ∀ K : Val → Prop, K w → getS ρ n K) (hp : P w) : DV a b (varI n) ρ P := DV.pure (fun S => EV.var hn) hp
theorem DV.con {w : Val} (hp : P w) : DV a b (conI w) ρ P := DV.pure (fun S => EV.con _) hp
theorem DV.ife {t : IT} {k : Bool} (ht : ∀ S, TT t ρ S k) (h : if k then DV a b e1 ρ P else DV a b e2 ρ P) : DV a b (ifE t e1 e2) ρ P := fun S Q E hd q => ht S _ _ (by
  cases k with
  | true => exact h S Q E hd q
  | false => exact h S Q E hd q)
/-- a comprehension that draws, over a walk of its own -/
theorem DV.lc {α : Type} (en : α → Val) (ns : List α) (Pe : α → Val → Prop) {it : II} {tg : Tg} {te : IE} {own : List Nat} (hit : ∀ (S : Sto) (K : Option Addr → List Val → Sto → Prop) (E : EQ), K none (ns.map en) S → it ρ S K E) (hl : ns.length ≤ sizeLine)
    (hx : ∀ n ∈ ns, ∃ ρ1, tgI tg (en n) (wipeI ρ own) = some ρ1 ∧ DV a b te ρ1 (Pe n)) (hp : ∀ vs, F2 Pe ns vs → P (.lst vs)) : DV a b (lcI false it tg yesT te own) ρ P := fun S Q E hd q => by
  refine hit S _ _ ?_
  refine lcGo_ind (fun r acc S' => ∃ ls ms, ns = ms ++ ls ∧ r = ls.map en ∧ F2 Pe ms acc ∧ Deal a b S' ∧ Fr a b S S') ?_ ?_ _ _ _ ⟨ns, [], rfl, rfl, .nil, hd, Fr.refl⟩
  · rintro acc S' ⟨ls, ms, e1, e2, e3, hd', fr⟩
    have : ls = [] := List.map_eq_nil_iff.mp e2.symm
    subst this
    rw [List.append_nil] at e1
    subst e1
    exact ⟨trivial, q _ S' (hp acc e3) hd' fr⟩
  · rintro x r acc S' Kn hK ⟨ls, ms, e1, e2, e3, hd', fr⟩
    cases ls with
    | nil => cases e2
    | cons l ls =>
      have ex : x = en l := (List.cons.inj e2).1
      have er : r = ls.map en := (List.cons.inj e2).2
      subst ex
      obtain ⟨ρ1, h1, h2⟩ := hx l (by rw [e1]; exact List.mem_append_right _ List.mem_cons_self)
      refine ⟨trivial, ?_⟩
      rw [h1]
      have hlen : ns.length = ms.length + (ls.length + 1) := by rw [e1, List.length_append, List.length_cons]
      have hl3 := e3.length
      exact h2 S' _ _ hd' fun v S2 hv hd2 f2 => ⟨by omega, hK _ _ ⟨ls, ms ++ [l], by rw [e1, List.append_assoc]; rfl, er, e3.snoc hv, hd2, fr.trans f2⟩⟩
/-- .. over a range whose end is drawn -/
theorem DV.lcR {tg : Tg} {tt : IT} {te : IE} {own : List Nat} {P0 : Int → Prop} (he : DV a b e ρ fun v => ∃ j, v = .int j ∧ P0 j) (h2 : ∀ j, P0 j → DV a b (lcI false (rng1I (conI (.int j))) tg tt te own) ρ P) : DV a b (lcI false (rng1I e) tg tt te own) ρ P := fun S Q E hd q => he S _ _ hd fun v S1 hv hd1 f1 => by
  obtain ⟨j, rfl, hj⟩ := hv
  exact h2 j hj S1 Q E hd1 fun v S' hv hd' f => q v S' hv hd' (f1.trans f)
theorem DV.lcE {tg : Tg} {tt : IT} {te : IE} {own : List Nat} {j : Int} (he : ∀ S, EV e ρ S (.int j)) (h2 : DV a b (lcI false (rng1I (conI (.int j))) tg tt te own) ρ P) : DV a b (lcI false (rng1I e) tg tt te own) ρ P := fun S Q E hd q => he S _ _ (h2 S Q E hd q)
theorem hit_rng {j : Nat} (hj : j < 1000000) (S : Sto) (K : Option Addr → List Val → Sto → Prop) (E : EQ) (q : K none ((List.range j).map fun i : Nat => Val.int (0 + (i : Int))) S) : rng1I (conI (.int (j : Int))) ρ S K E := ⟨⟨by omega, by omega⟩, q⟩
/-- .. whose test draws -/
theorem DV.lcT {α : Type} (en : α → Val) (ns : List α) (f : α → Val) {it : II} {tg : Tg} {tt : IT} {te : IE} {own : List Nat} (hit : ∀ (S : Sto) (K : Option Addr → List Val → Sto → Prop) (E : EQ), K none (ns.map en) S → it ρ S K E) (hl : ns.length ≤ sizeLine)
    (hx : ∀ n ∈ ns, ∃ ρ1, tgI tg (en n) (wipeI ρ own) = some ρ1 ∧ (∀ (S : Sto) (Q : Bool → Sto → Prop) (E : EQ), Deal a b S → (∀ k S', Deal a b S' → Fr a b S S' → Q k S') → tt ρ1 S Q E) ∧ ∀ S, EV te ρ1 S (f n)) (hp : ∀ ms : List α, ms.Sublist ns → P (.lst (ms.map f))) : DV a b (lcI false it tg tt te own) ρ P := fun S Q E hd q => by
  refine hit S _ _ ?_
  refine lcGo_ind (fun r acc S' => ∃ ls ms ks, ns = ms ++ ls ∧ r = ls.map en ∧ acc = ks.map f ∧ ks.Sublist ms ∧ Deal a b S' ∧ Fr a b S S') ?_ ?_ _ _ _ ⟨ns, [], [], rfl, rfl, rfl, List.Sublist.refl _, hd, Fr.refl⟩
  · rintro acc S' ⟨ls, ms, ks, e1, e2, rfl, e4, hd', fr⟩
    have : ls = [] := List.map_eq_nil_iff.mp e2.symm
    subst this
    rw [List.append_nil] at e1
    subst e1
    exact ⟨trivial, q _ S' (hp ks e4) hd' fr⟩
  · rintro x r acc S' Kn hK ⟨ls, ms, ks, e1, e2, rfl, e4, hd', fr⟩
    cases ls with
    | nil => cases e2
    | cons l ls =>
      have ex : x = en l := (List.cons.inj e2).1
      have er : r = ls.map en := (List.cons.inj e2).2
      subst ex
      obtain ⟨ρ1, h1, h2, h3⟩ := hx l (by rw [e1]; exact List.mem_append_right _ List.mem_cons_self)
      refine ⟨trivial, ?_⟩
      rw [h1]
      have hlen : ns.length = ms.length + (ls.length + 1) := by rw [e1, List.length_append, List.length_cons]
      have hl3 := e4.length_le
      refine h2 S' _ _ hd' fun k S2 hd2 f2 => ?_
      cases k with
      | true => exact h3 S2 _ _ ⟨by rw [List.length_map]; omega, hK _ _ ⟨ls, ms ++ [l], ks ++ [l], by rw [e1, List.append_assoc]; rfl, er, by rw [List.map_append]; rfl, e4.append (List.Sublist.refl _), hd2, fr.trans f2⟩⟩
      | false => exact hK _ _ ⟨ls, ms ++ [l], ks, by rw [e1, List.append_assoc]; rfl, er, rfl, List.Sublist.trans e4 (List.sublist_append_left _ _), hd2, fr.trans f2⟩
/-! statements -/
variable {D : IEnds} {Kx : IS} {S : Sto}
theorem dq_set {i : Nat} (h : DV a b e ρ P) (hd : Deal a b S) (q : ∀ v S', P v → Deal a b S' → Fr a b S S' → Kx D (setS ρ i v) S') : seqI (setI (.nm i) e) Kx D ρ S := h S _ _ hd q
theorem dq_par {is : List Nat} (h : DA a b as ρ R) (hd : Deal a b S) (q : ∀ vs S', R vs → Deal a b S' → Fr a b S S' → ∃ ρ1, setAll ρ is vs = some ρ1 ∧ Kx D ρ1 S') : seqI (parI is as) Kx D ρ S := h S _ _ hd fun vs S' hv hd1 f1 => by
  obtain ⟨ρ1, e, q⟩ := q vs S' hv hd1 f1
  show someP (setAll ρ is vs) fun ρ1 => Kx D ρ1 S'
  rw [e]
  exact q
theorem sq_tpA {is : List Nat} {Rr : List Val → Sto → Prop} (h : ∀ (Q : List Val → Sto → Prop) (E : EQ), (∀ vs S', Rr vs S' → Q vs S') → as ρ S Q E) (q : ∀ vs S', Rr vs S' → vs.length ≤ sizeLine ∧ ∃ ρ1, setAll ρ is vs = some ρ1 ∧ Kx D ρ1 S') : seqI (setI (.tp is) (tupI as)) Kx D ρ S := h _ _ fun vs S' hv => by
  obtain ⟨hl, ρ1, e, q⟩ := q vs S' hv
  refine ⟨hl, ?_⟩
  show someP (setAll ρ is vs) fun ρ1 => Kx D ρ1 S'
  rw [e]
  exact q
theorem dq_lst {i : Nat} (h : DA a b as ρ R) (hd : Deal a b S) (q : ∀ vs S', R vs → Deal a b S' → Fr a b S S' → vs.length ≤ sizeLine ∧ ∀ l, S' l = none → Kx D (setS ρ i (.ref l)) (S'.put l (.lst vs))) : seqI (setI (.nm i) (lstI true as)) Kx D ρ S := h S _ _ hd fun vs S' hv hd1 f1 => q vs S' hv hd1 f1
theorem dq_ret (h : DV a b e ρ P) (hd : Deal a b S) (q : ∀ v S', P v → Deal a b S' → Fr a b S S' → D.rt v S') : seqI (retI false e) Kx D ρ S := h S _ _ hd q
theorem dq_app {i : Nat} {l : Addr} {xs : List Val} (hn : ∀ K : Val → Prop, K (.ref l) → getS ρ i K) (hl : S l = some (.lst xs)) (ha : l ≠ a) (hb : l ≠ b) (hlen : xs.length < sizeLine) (h : DV a b e ρ P) (hd : Deal a b S) (q : ∀ v S', P v → Deal a b S' → Fr a b S S' → Kx D ρ (S'.put l (.lst (xs ++ [v])))) : seqI (dropI (lmethI appendP (varI i) (consA e nilA))) Kx D ρ S := hn _ ⟨isl_ref hl, h S _ _ hd fun v S' hv hd1 f1 => app_of ((f1.eq l ha hb).trans hl) hlen (q v S' hv hd1 f1)⟩
theorem dq_if {t : IT} {A1 A2 : IS} (ht : ∀ (Q : Bool → Sto → Prop) (E : EQ), (∀ k S', Deal a b S' → Fr a b S S' → Q k S') → t ρ S Q E) (q : ∀ S', Deal a b S' → Fr a b S S' → A1 { D with nx := Kx D } ρ S' ∧ A2 { D with nx := Kx D } ρ S') : seqI (ifI t A1 A2) Kx D ρ S := ht _ _ fun k S' hd f => by
  cases k with
  | true => exact (q S' hd f).1
  | false => exact (q S' hd f).2
theorem Fr.put {l : Addr} {c : Cell} {S S' : Sto} (h : Fr a b S S') : Fr a b (S.put l c) (S'.put l c) := ⟨fun x h1 h2 => by
  unfold Sto.put
  split
  · rfl
  · exact h.eq x h1 h2⟩
end
theorem er_perm {α : Type} : ∀ (l : List α) (k : Nat) (h : k < l.length), (l[k] :: l.eraseIdx k).Perm l
  | x :: l, 0, _ => List.Perm.refl _
  | x :: l, k + 1, h => ((List.Perm.swap x (l[k]'(Nat.lt_of_succ_lt_succ h)) (l.eraseIdx k)).trans ((er_perm l k (by simpa using h)).cons x))
theorem popI_of {S : Sto} {Q : VQ} {a : Addr} {xs : List Val} {k : Nat} (h : S a = some (.lst xs)) (hk : k < xs.length) (hl : xs.length ≤ sizeLine) (q : Q xs[k] (S.put a (.lst (xs.eraseIdx k)))) : popP (.ref a) [.int (k : Int)] S Q := by
  rw [sizeLine_eq] at hl
  refine ⟨?_⟩
  show (match S a with
    | some (.lst xs) => -(2 ^ 63) ≤ (k : Int) ∧ (k : Int) < 2 ^ 63 ∧ someP (seqIndex? (k : Int) xs.length) fun k => someP xs[k]? fun y => Q y (S.put a (.lst (xs.eraseIdx k)))
    | _ => False)
  rw [h]
  refine ⟨by omega, by omega, ?_⟩
  have e : seqIndex? (k : Int) xs.length = some k := by
    unfold seqIndex?
    have h1 : ¬ ((k : Int) < 0) := by omega
    have h2 : (0 : Int) ≤ k := by omega
    have h3 : (k : Int) < xs.length := by omega
    simp only [h1, if_false, h2, h3, decide_true, Bool.and_self, if_true]
    rfl
  rw [e]
  show someP xs[k]? _
  rw [List.getElem?_eq_getElem hk]
  exact q
theorem addR_of {S : Sto} {Q : VQ} {a : Addr} {xs ys : List Val} (h : S a = some (.lst xs)) (hl : xs.length + ys.length ≤ sizeLine) (q : Q (.lst (xs ++ ys)) S) : addP false (.ref a) (.lst ys) S Q := by
  show someP (match S a with
    | some (.lst xs) => some xs
    | _ => none) fun xs => xs.length + ys.length ≤ sizeLine ∧ Q (.lst (xs ++ ys)) S
  rw [h]
  exact ⟨hl, q⟩
theorem addRt_of {S : Sto} {Q : VQ} {a : Addr} {xs ys : List Val} (h : S a = some (.lst xs)) (hl : xs.length + ys.length ≤ sizeLine) (q : ∀ l, S l = none → Q (.ref l) (S.put l (.lst (xs ++ ys)))) : addP true (.ref a) (.lst ys) S Q := by
  show someP (match S a with
    | some (.lst xs) => some xs
    | _ => none) fun xs => xs.length + ys.length ≤ sizeLine ∧ newL true (xs ++ ys) S Q
  rw [h]
  exact ⟨hl, q⟩
theorem ext_ofL {S : Sto} {Q : VQ} {a : Addr} {xs ys : List Val} (h : S a = some (.lst xs)) (hl : xs.length + ys.length ≤ sizeLine) (q : Q .non (S.put a (.lst (xs ++ ys)))) : extendP (.ref a) [.lst ys] S Q := by
  refine ⟨?_⟩
  show (match S a with
    | some (.lst xs) => xs.length + ys.length ≤ sizeLine ∧ Q .non (S.put a (.lst (xs ++ ys)))
    | _ => False)
  rw [h]
  exact ⟨hl, q⟩
theorem sq_ext {ρ : ISt} {S : Sto} {D : IEnds} {Kx : IS} {m : IE} {n : Nat} {a : Addr} {xs ys : List Val} (hn : ∀ K : Val → Prop, K (.ref a) → getS ρ n K) (h : S a = some (.lst xs)) (hm : EV m ρ S (.lst ys)) (hl : xs.length + ys.length ≤ sizeLine) (q : Kx D ρ (S.put a (.lst (xs ++ ys)))) : seqI (dropI (lmethI extendP (varI n) (consA m nilA))) Kx D ρ S := hn _ ⟨isl_ref h, hm _ _ (ext_ofL h hl q)⟩
/-- a list that changes becomes a new one, with more behind it -/
theorem dq_addR {a b r : Addr} {e : IE} {ρ : ISt} {D : IEnds} {Kx : IS} {S : Sto} {i j : Nat} {xs : List Val} {R : List Val → Prop} (hn : ∀ K : Val → Prop, K (.ref r) → getS ρ j K) (hr : S r = some (.lst xs)) (ra : r ≠ a) (rb : r ≠ b) (h : DV a b e ρ fun v => ∃ ys, v = .lst ys ∧ xs.length + ys.length ≤ sizeLine ∧ R ys) (hd : Deal a b S)
    (q : ∀ ys S' l, R ys → Deal a b S' → Fr a b S S' → S' l = none → Kx D (setS ρ i (.ref l)) (S'.put l (.lst (xs ++ ys)))) : seqI (setI (.nm i) (bin2 (addP true) (varI j) e)) Kx D ρ S := hn _ (h S _ _ hd fun v S' hv hd1 f1 => by
  obtain ⟨ys, rfl, hl, hR⟩ := hv
  exact addRt_of ((f1.eq r ra rb).trans hr) hl fun l hl0 => q ys S' l hR hd1 f1 hl0)
end TL

namespace K03
open PySem PySem.Spec L2 TL
open PyProof.Rows hiding St
/-! ### the text -/
abbrev prg : Program := PySem.Challenge.pw_thoughsomelie_k03_tables_and_inner_rules
def topS (i : Nat) : Stmt := prg.main.body.getD i (.Pass ⟨0, 0, 0, 0⟩)
def inC (s : Stmt) (j : Nat) : Stmt := match s with
  | .ClassDef _ _ _ b _ _ _ _ _ _ _ => b.getD j (.Pass ⟨0, 0, 0, 0⟩)
  | s => s
def atP (l : List (Nat × Nat × Nat)) (p : Pos) : Bool := l.contains (p.line, p.col, p.endCol)
def tb : Tab where
  con := [("LEAVE", (.str "leave")), ("PAIRED", (.tup [(.str "plus"), (.str "less"), (.str "times")])), ("PLAIN", (.tup [(.str "number"), (.str "own"), (.str "heard"), (.str "count"), (.str "most"), (.str "sorted"), (.str "mostof"), (.str "table")])), ("SILENT", (.int (-1))), ("STEP", (.str "step"))]
  dfs := (["things_of", "steps_of", "told_letters", "most_told", "power", "base_of", "entry_of", "do_number", "do_own", "do_heard", "do_count", "do_most", "do_mostof", "do_sorted", "do_table", "do_plus", "do_less", "do_times", "do_div", "do_rest", "do_if", "do_with", "do_leave", "steps_worth", "worth", "_law_deal", "_law_any", "_law_of", "_law_is_kind", "_law_same"] : List Str) ++ (["_law_all", "_law_mixed", "_law_power", "_law_leaf", "_law_plain_program", "_law_with_program", "_law_tree", "_law_told_letters", "_law_most", "_law_entry", "_law_leaf_worth", "_law_do_step", "_law_plain_worth", "_law_worth", "_law_hearing", "_law_shape", "_law_tables", "_law_through", "law"] : List Str)
  cls := []
  flds := []
  free := ["abs", "bool", "dict", "int", "isinstance", "len", "list", "max", "range", "sorted", "str", "sum", "tuple", "zip"]
  kwf := [("worth", ["rule", "letters", "own", "hearing"])]
  cob := []
  own := []
  kit := [(.inl "NoneType", .inl "tuple", false), (.inl "bool", .inl "tuple", false), (.inl "int", .inl "tuple", false), (.inl "str", .inl "tuple", false), (.inl "tuple", .inl "tuple", true), (.inl "list", .inl "tuple", false), (.inl "dict", .inl "tuple", false), (.inl "NoneType", .inl "list", false), (.inl "bool", .inl "list", false), (.inl "int", .inl "list", false), (.inl "str", .inl "list", false), (.inl "tuple", .inl "list", false), (.inl "list", .inl "list", true), (.inl "dict", .inl "list", false), (.inl "NoneType", .inl "dict", false), (.inl "bool", .inl "dict", false), (.inl "int", .inl "dict", false), (.inl "str", .inl "dict", false), (.inl "tuple", .inl "dict", false), (.inl "list", .inl "dict", false), (.inl "dict", .inl "dict", true), (.inl "NoneType", .inl "bool", false), (.inl "bool", .inl "bool", true), (.inl "int", .inl "bool", false), (.inl "str", .inl "bool", false), (.inl "tuple", .inl "bool", false), (.inl "list", .inl "bool", false), (.inl "dict", .inl "bool", false), (.inl "NoneType", .inl "int", false), (.inl "bool", .inl "int", true), (.inl "int", .inl "int", true), (.inl "str", .inl "int", false), (.inl "tuple", .inl "int", false), (.inl "list", .inl "int", false), (.inl "dict", .inl "int", false), (.inl "NoneType", .inl "str", false), (.inl "bool", .inl "str", false), (.inl "int", .inl "str", false), (.inl "str", .inl "str", true), (.inl "tuple", .inl "str", false), (.inl "list", .inl "str", false), (.inl "dict", .inl "str", false)]
  tabs := [("WORKS", [("number", "do_number"), ("own", "do_own"), ("heard", "do_heard"), ("count", "do_count"), ("most", "do_most"), ("mostof", "do_mostof"), ("sorted", "do_sorted"), ("table", "do_table"), ("plus", "do_plus"), ("less", "do_less"), ("times", "do_times"), ("div", "do_div"), ("rest", "do_rest"), ("if", "do_if"), ("with", "do_with"), ("leave", "do_leave")])]
/-- things_of: 0 rule 1 word 2 found 3 machines 4 _ 5 part 6 machine -/
def m_things_of (Γ : Calls) : IS := (seqI (setI (.nm 1) (bin2 ixP (varI 0) (conI (.int 0))))
  (seqI (ifI (tstB (bin2 (inP false) (varI 1) (conI (.tup [(.str "plus"), (.str "less"), (.str "times")])))) (seqI (retI false (lstI false (consA (bin2 ixP (varI 0) (conI (.int 1))) (consA (bin2 ixP (varI 0) (conI (.int 2))) (consA (tupI (consA (conI (.str "step")) (consA (tupI (consA (varI 1) nilA)) nilA))) nilA)))))
  nextI) nextI)
  (seqI (ifI (tstB (bin2 eqP (varI 1) (conI (.str "if")))) (seqI (retI false (lstI false (consA (bin2 ixP (varI 0) (conI (.int 2))) (consA (bin2 ixP (varI 0) (conI (.int 3))) (consA (bin2 ixP (varI 0) (conI (.int 4))) (consA (bin2 ixP (varI 0) (conI (.int 5))) (consA (tupI (consA (conI (.str "step")) (consA (sliceI false (varI 0) noPart (partI (conI (.int 2)))) nilA))) nilA)))))))
  nextI) nextI)
  (seqI (ifI (tstB (bin2 neP (varI 1) (conI (.str "with")))) (seqI (retI false (lstI false (consA (bin2 ixP (varI 0) (conI (.int 1))) (consA (tupI (consA (conI (.str "step")) (consA (tupI (consA (varI 1) (consA (bin2 ixP (varI 0) (conI (.int 2))) nilA))) nilA))) nilA))))
  nextI) nextI)
  (seqI (setI (.nm 2) (lstI true (consA (bin2 ixP (varI 0) (conI (.int 3))) nilA)))
  (seqI (dropI (lmethI extendP (varI 2) (consA (lcI false (walkI (bin2 ixP (varI 0) (conI (.int 4)))) (.tp [4, 5]) yesT (varI 5) [4, 5]) nilA)))
  (seqI (setI (.nm 3) (callP tupleP (consA (lcI false (walkI (bin2 ixP (varI 0) (conI (.int 4)))) (.tp [6, 4]) yesT (varI 6) [6, 4]) nilA)))
  (seqI (retI false (bin2 (addP false) (varI 2) (lstI false (consA (tupI (consA (conI (.str "step")) (consA (tupI (consA (varI 1) (consA (bin2 ixP (varI 0) (conI (.int 1))) (consA (varI 3) nilA)))) nilA))) (consA (bin2 ixP (varI 0) (conI (.int 2))) (consA (tupI (consA (conI (.str "step")) (consA (tupI (consA (conI (.str "leave")) nilA)) nilA))) nilA))))))
  nextI))))))))
/-- steps_of: 0 rule 1 found 2 todo 3 thing -/
def m_steps_of (Γ : Calls) : IS := (seqI (setI (.nm 1) (lstI true nilA))
  (seqI (setI (.nm 2) (lstI true (consA (varI 0) nilA)))
  (seqI (whileI (tstB (bin2 neP (varI 2) (lstI false nilA))) (seqI (setI (.nm 3) (lmethI popP (varI 2) nilA))
  (seqI (ifI (tstB (bin2 eqP (bin2 ixP (varI 3) (conI (.int 0))) (conI (.str "step")))) (seqI (dropI (lmethI appendP (varI 1) (consA (bin2 ixP (varI 3) (conI (.int 1))) nilA)))
  nextI) (seqI (ifI (tstB (bin2 (inP false) (bin2 ixP (varI 3) (conI (.int 0))) (conI (.tup [(.str "number"), (.str "own"), (.str "heard"), (.str "count"), (.str "most"), (.str "sorted"), (.str "mostof"), (.str "table")])))) (seqI (dropI (lmethI appendP (varI 1) (consA (varI 3) nilA)))
  nextI) (seqI (dropI (lmethI extendP (varI 2) (consA (revI false (callF Γ "things_of" (consA (varI 3) nilA))) nilA)))
  nextI))
  nextI))
  nextI)))
  (seqI (retI true (varI 1))
  nextI))))
/-- told_letters: 0 hearing 1 _ 2 letter -/
def m_told_letters (Γ : Calls) : IS := (seqI (retI false (lcI false (walkI (varI 0)) (.tp [1, 2]) (tstB (bin2 neP (varI 2) (conI (.int (-1))))) (varI 2) [1, 2]))
  nextI)
/-- most_told: 0 letters 1 found 2 most 3 letter 4 many -/
def m_most_told (Γ : Calls) : IS := (seqI (setI (.tp [1, 2]) (tupI (consA (conI (.int 0)) (consA (conI (.int 0)) nilA))))
  (seqI (forI (walkI (callP (sortP false) (consA (varI 0) nilA))) (.nm 3) (seqI (setI (.nm 4) (lmethI countP (varI 0) (consA (varI 3) nilA)))
  (seqI (ifI (tstB (bin2 gtP (varI 4) (varI 2))) (seqI (parI [1, 2] (consA (varI 3) (consA (varI 4) nilA)))
  nextI) nextI)
  nextI)))
  (seqI (retI false (varI 1))
  nextI)))
/-- power: 0 base 1 times 2 found 3 _ -/
def m_power (Γ : Calls) : IS := (seqI (setI (.nm 2) (conI (.int 1)))
  (seqI (forI (rng1I (varI 1)) (.nm 3) (seqI (augI 2 mulI (varI 0))
  nextI))
  (seqI (retI false (varI 2))
  nextI)))
/-- base_of: 0 many 1 figures 2 base -/
def m_base_of (Γ : Calls) : IS := (seqI (setI (.nm 2) (conI (.int 1)))
  (seqI (whileI (tstB (bin2 ltP (callF Γ "power" (consA (varI 2) (consA (varI 1) nilA))) (varI 0))) (seqI (augI 2 addI (conI (.int 1)))
  nextI))
  (seqI (retI false (varI 2))
  nextI)))
/-- entry_of: 0 entries 1 own 2 hearing 3 base 4 number 5 _ 6 letter -/
def m_entry_of (Γ : Calls) : IS := (seqI (setI (.nm 3) (callF Γ "base_of" (consA (callP lenP (consA (varI 0) nilA)) (consA (bin2 (addP false) (conI (.int 1)) (callP lenP (consA (varI 2) nilA))) nilA))))
  (seqI (setI (.nm 4) (varI 1))
  (seqI (forI (walkI (varI 2)) (.tp [5, 6]) (seqI (setI (.nm 4) (bin2 (addP false) (bin2 (mulP false) (varI 4) (varI 3)) (callP maxP (consA (varI 6) (consA (conI (.int 0)) nilA)))))
  nextI))
  (seqI (retI false (bin2 ixP (varI 0) (varI 4)))
  nextI))))
/-- do_number: 0 step 1 worths 2 views -/
def m_do_number (Γ : Calls) : IS := (seqI (dropI (lmethI appendP (varI 1) (consA (bin2 ixP (varI 0) (conI (.int 1))) nilA)))
  nextI)
/-- do_own: 0 step 1 worths 2 views -/
def m_do_own (Γ : Calls) : IS := (seqI (dropI (lmethI appendP (varI 1) (consA (bin2 ixP (bin2 ixP (varI 2) (un1 negP (conI (.int 1)))) (conI (.int 0))) nilA)))
  nextI)
/-- do_heard: 0 step 1 worths 2 views -/
def m_do_heard (Γ : Calls) : IS := (seqI (dropI (lmethI appendP (varI 1) (consA (callP maxP (consA (bin2 ixP (callP dictKP (consA (bin2 ixP (bin2 ixP (varI 2) (un1 negP (conI (.int 1)))) (conI (.int 1))) nilA)) (bin2 ixP (varI 0) (conI (.int 1)))) (consA (conI (.int 0)) nilA))) nilA)))
  nextI)
/-- do_count: 0 step 1 worths 2 views -/
def m_do_count (Γ : Calls) : IS := (seqI (dropI (lmethI appendP (varI 1) (consA (lmethI countP (callF Γ "told_letters" (consA (bin2 ixP (bin2 ixP (varI 2) (un1 negP (conI (.int 1)))) (conI (.int 1))) nilA)) (consA (bin2 ixP (varI 0) (conI (.int 1))) nilA)) nilA)))
  nextI)
/-- do_most: 0 step 1 worths 2 views -/
def m_do_most (Γ : Calls) : IS := (seqI (dropI (lmethI appendP (varI 1) (consA (callF Γ "most_told" (consA (callF Γ "told_letters" (consA (bin2 ixP (bin2 ixP (varI 2) (un1 negP (conI (.int 1)))) (conI (.int 1))) nilA)) nilA)) nilA)))
  nextI)
/-- do_mostof: 0 step 1 worths 2 views 3 pair -/
def m_do_mostof (Γ : Calls) : IS := (seqI (dropI (lmethI appendP (varI 1) (consA (callF Γ "most_told" (consA (callF Γ "told_letters" (consA (lcI false (walkI (bin2 ixP (bin2 ixP (varI 2) (un1 negP (conI (.int 1)))) (conI (.int 1)))) (.nm 3) (tstB (bin2 (inP false) (bin2 ixP (varI 3) (conI (.int 0))) (bin2 ixP (varI 0) (conI (.int 1))))) (varI 3) [3]) nilA)) nilA)) nilA)))
  nextI)
/-- do_sorted: 0 step 1 worths 2 views 3 letters -/
def m_do_sorted (Γ : Calls) : IS := (seqI (setI (.nm 3) (callP (sortP false) (consA (callF Γ "told_letters" (consA (bin2 ixP (bin2 ixP (varI 2) (un1 negP (conI (.int 1)))) (conI (.int 1))) nilA)) nilA)))
  (seqI (dropI (lmethI appendP (varI 1) (consA (ifE (tstB (bin2 ltP (bin2 ixP (varI 0) (conI (.int 1))) (callP lenP (consA (varI 3) nilA)))) (bin2 ixP (varI 3) (bin2 ixP (varI 0) (conI (.int 1)))) (conI (.int 0))) nilA)))
  nextI))
/-- do_table: 0 step 1 worths 2 views -/
def m_do_table (Γ : Calls) : IS := (seqI (dropI (lmethI appendP (varI 1) (consA (callF Γ "entry_of" (consA (bin2 ixP (varI 0) (conI (.int 1))) (consA (bin2 ixP (bin2 ixP (varI 2) (un1 negP (conI (.int 1)))) (conI (.int 0))) (consA (bin2 ixP (bin2 ixP (varI 2) (un1 negP (conI (.int 1)))) (conI (.int 1))) nilA)))) nilA)))
  nextI)
/-- do_plus: 0 step 1 worths 2 views 3 other -/
def m_do_plus (Γ : Calls) : IS := (seqI (setI (.nm 3) (lmethI popP (varI 1) nilA))
  (seqI (dropI (lmethI appendP (varI 1) (consA (bin2 (addP false) (lmethI popP (varI 1) nilA) (varI 3)) nilA)))
  nextI))
/-- do_less: 0 step 1 worths 2 views 3 other -/
def m_do_less (Γ : Calls) : IS := (seqI (setI (.nm 3) (lmethI popP (varI 1) nilA))
  (seqI (dropI (lmethI appendP (varI 1) (consA (bin2 subP (lmethI popP (varI 1) nilA) (varI 3)) nilA)))
  nextI))
/-- do_times: 0 step 1 worths 2 views 3 other -/
def m_do_times (Γ : Calls) : IS := (seqI (setI (.nm 3) (lmethI popP (varI 1) nilA))
  (seqI (dropI (lmethI appendP (varI 1) (consA (bin2 (mulP false) (lmethI popP (varI 1) nilA) (varI 3)) nilA)))
  nextI))
/-- do_div: 0 step 1 worths 2 views -/
def m_do_div (Γ : Calls) : IS := (seqI (dropI (lmethI appendP (varI 1) (consA (bin2 fdivP (lmethI popP (varI 1) nilA) (bin2 ixP (varI 0) (conI (.int 1)))) nilA)))
  nextI)
/-- do_rest: 0 step 1 worths 2 views -/
def m_do_rest (Γ : Calls) : IS := (seqI (dropI (lmethI appendP (varI 1) (consA (bin2 modP (lmethI popP (varI 1) nilA) (bin2 ixP (varI 0) (conI (.int 1)))) nilA)))
  nextI)
/-- do_if: 0 step 1 worths 2 views 3 last 4 third 5 second 6 first 7 is_so -/
def m_do_if (Γ : Calls) : IS := (seqI (setI (.nm 3) (lmethI popP (varI 1) nilA))
  (seqI (setI (.nm 4) (lmethI popP (varI 1) nilA))
  (seqI (setI (.nm 5) (lmethI popP (varI 1) nilA))
  (seqI (setI (.nm 6) (lmethI popP (varI 1) nilA))
  (seqI (setI (.nm 7) (ifE (tstB (bin2 eqP (bin2 ixP (varI 0) (conI (.int 1))) (conI (.str "same")))) (bin2 eqP (varI 6) (varI 5)) (bin2 ltP (varI 6) (varI 5))))
  (seqI (dropI (lmethI appendP (varI 1) (consA (ifE (tst (varI 7)) (varI 4) (varI 3)) nilA)))
  nextI))))))
/-- do_with: 0 step 1 worths 2 views 3 machines 4 first 5 letters 6 worth -/
def m_do_with (Γ : Calls) : IS := (seqI (setI (.nm 3) (bin2 ixP (varI 0) (conI (.int 2))))
  (seqI (setI (.nm 4) (bin2 subP (callP lenP (consA (varI 1) nilA)) (callP lenP (consA (varI 3) nilA))))
  (seqI (setI (.nm 5) (lcI false (walkI (sliceI false (varI 1) (partI (bin2 subP (varI 4) (conI (.int 1)))) noPart)) (.nm 6) yesT (bin2 modP (varI 6) (bin2 ixP (varI 0) (conI (.int 1)))) [6]))
  (seqI (sdelI (varI 1) (partI (bin2 subP (varI 4) (conI (.int 1)))))
  (seqI (dropI (lmethI appendP (varI 2) (consA (tupI (consA (bin2 ixP (varI 5) (conI (.int 0))) (consA (tzipI (varI 3) (sliceI false (varI 5) (partI (conI (.int 1))) noPart)) nilA))) nilA)))
  nextI)))))
/-- do_leave: 0 step 1 worths 2 views -/
def m_do_leave (Γ : Calls) : IS := (seqI (dropI (lmethI popP (varI 2) nilA))
  nextI)
/-- steps_worth: 0 steps 1 own 2 hearing 3 worths 4 views 5 step 6 work -/
def m_steps_worth (Γ : Calls) : IS := (seqI (setI (.nm 3) (lstI true nilA))
  (seqI (setI (.nm 4) (lstI true (consA (tupI (consA (varI 1) (consA (callP tupleP (consA (varI 2) nilA)) nilA))) nilA)))
  (seqI (forI (walkI (varI 0)) (.nm 5) (seqI (setI (.nm 6) (un1 (tabP [("number", "do_number"), ("own", "do_own"), ("heard", "do_heard"), ("count", "do_count"), ("most", "do_most"), ("mostof", "do_mostof"), ("sorted", "do_sorted"), ("table", "do_table"), ("plus", "do_plus"), ("less", "do_less"), ("times", "do_times"), ("div", "do_div"), ("rest", "do_rest"), ("if", "do_if"), ("with", "do_with"), ("leave", "do_leave")]) (bin2 ixP (varI 5) (conI (.int 0)))))
  (seqI (dropI (callLI Γ tb.dfs 6 (consA (varI 5) (consA (varI 3) (consA (varI 4) nilA)))))
  nextI)))
  (seqI (retI false (bin2 ixP (varI 3) (conI (.int 0))))
  nextI))))
/-- worth: 0 rule 1 letters 2 own 3 hearing -/
def m_worth (Γ : Calls) : IS := (seqI (retI false (callF Γ "steps_worth" (consA (callF Γ "steps_of" (consA (varI 0) nilA)) (consA (varI 2) (consA (varI 3) nilA)))))
  nextI)
/-- _law_deal: 0 script 1 salt 2 most 3 cell 4 cells 5 mix -/
def m__law_deal (Γ : Calls) : IS := (seqI (setI (.nm 2) (bin2 (mulP false) (bin2 (mulP false) (bin2 (mulP false) (bin2 (mulP false) (bin2 (mulP false) (bin2 powP (conI (.int 10)) (conI (.int 64))) (bin2 powP (conI (.int 10)) (conI (.int 64)))) (bin2 powP (conI (.int 10)) (conI (.int 64)))) (bin2 powP (conI (.int 10)) (conI (.int 64)))) (bin2 powP (conI (.int 10)) (conI (.int 64)))) (bin2 powP (conI (.int 10)) (conI (.int 64)))))
  (seqI (setI (.nm 4) (lcI false (walkI (sliceI false (varI 0) noPart (partI (conI (.int 63))))) (.nm 3) yesT (bin2 modP (callP intP (consA (callP absP (consA (callP intP (consA (varI 3) nilA)) nilA)) nilA)) (varI 2)) [3]))
  (seqI (setI (.nm 5) (bin2 (addP false) (conI (.int 70001)) (bin2 (mulP false) (conI (.int 7919)) (varI 1))))
  (seqI (forI (walkI (varI 4)) (.nm 3) (seqI (setI (.nm 5) (bin2 modP (callP intP (consA (bin2 (addP false) (bin2 (addP false) (bin2 (mulP false) (varI 5) (conI (.int 69621))) (bin2 modP (callP intP (consA (varI 3) nilA)) (conI (.int 2147483563)))) (conI (.int 23))) nilA)) (conI (.int 2147483647))))
  nextI))
  (seqI (retI false (lstI true (consA (revI true (lcI false (walkI (varI 4)) (.nm 3) (tstB (bin2 geP (varI 3) (bin2 powP (conI (.int 10)) (conI (.int 18))))) (varI 3) [3])) (consA (varI 5) nilA))))
  nextI)))))
/-- _law_any: 0 deal 1 bound 2 rest -/
def m__law_any (Γ : Calls) : IS := (seqI (whileI (andT (tstB (bin2 gtP (callP lenP (consA (bin2 ixP (varI 0) (conI (.int 0))) nilA)) (conI (.int 0)))) (tstB (bin2 eqP (bin2 ixP (bin2 ixP (varI 0) (conI (.int 0))) (un1 negP (conI (.int 1)))) (conI (.int 0))))) (seqI (dropI (lmethI popP (bin2 ixP (varI 0) (conI (.int 0))) nilA))
  nextI))
  (seqI (ifI (tstB (bin2 gtP (callP lenP (consA (bin2 ixP (varI 0) (conI (.int 0))) nilA)) (conI (.int 0)))) (seqI (setI (.nm 2) (callP intP (consA (lmethI popP (bin2 ixP (varI 0) (conI (.int 0))) nilA) nilA)))
  (seqI (dropI (lmethI appendP (bin2 ixP (varI 0) (conI (.int 0))) (consA (bin2 fdivP (varI 2) (varI 1)) nilA)))
  (seqI (retI false (bin2 modP (varI 2) (varI 1)))
  nextI))) nextI)
  (seqI (storeI (varI 0) (conI (.int 1)) (bin2 modP (callP intP (consA (bin2 (addP false) (bin2 (mulP false) (bin2 ixP (varI 0) (conI (.int 1))) (conI (.int 48271))) (conI (.int 31))) nilA)) (conI (.int 2147483647))))
  (seqI (retI false (bin2 modP (callP intP (consA (bin2 fdivP (bin2 ixP (varI 0) (conI (.int 1))) (conI (.int 64))) nilA)) (varI 1)))
  nextI))))
/-- _law_of: 0 deal 1 some -/
def m__law_of (Γ : Calls) : IS := (seqI (retI false (bin2 ixP (varI 1) (callF Γ "_law_any" (consA (varI 0) (consA (callP lenP (consA (varI 1) nilA)) nilA)))))
  nextI)
/-- _law_is_kind: 0 told 1 due -/
def m__law_is_kind (Γ : Calls) : IS := (seqI (ifI (tstB (bin2 isP (varI 1) (conI .non))) (seqI (retI false (bin2 isP (varI 0) (conI .non)))
  nextI) nextI)
  (seqI (ifI (orT (tstB (bin2 isP (varI 1) (conI (.bl true)))) (tstB (bin2 isP (varI 1) (conI (.bl false))))) (seqI (retI false (ifE (tst (varI 1)) (bin2 isP (varI 0) (conI (.bl true))) (bin2 isP (varI 0) (conI (.bl false)))))
  nextI) nextI)
  (seqI (ifI (tst (un1 (isiP tb.kit tb.own [(.inl "str")]) (varI 1))) (seqI (retI false (andV (un1 (isiP tb.kit tb.own [(.inl "str")]) (varI 0)) (bin2 eqP (varI 0) (varI 1))))
  nextI) nextI)
  (seqI (retI false (andV (un1 (isiP tb.kit tb.own [(.inl "int")]) (varI 0)) (andV (un1 notP (un1 (isiP tb.kit tb.own [(.inl "bool")]) (varI 0))) (bin2 eqP (varI 0) (varI 1)))))
  nextI))))
/-- _law_same: 0 told 1 due 2 todo 3 one 4 other 5 at -/
def m__law_same (Γ : Calls) : IS := (seqI (setI (.nm 2) (lstI true (consA (tupI (consA (varI 0) (consA (varI 1) nilA))) nilA)))
  (seqI (whileI (tstB (bin2 gtP (callP lenP (consA (varI 2) nilA)) (conI (.int 0)))) (seqI (setI (.tp [3, 4]) (lmethI popP (varI 2) nilA))
  (seqI (ifI (tst (un1 (isiP tb.kit tb.own [(.inl "tuple")]) (varI 4))) (seqI (ifI (orT (notT (tst (un1 (isiP tb.kit tb.own [(.inl "tuple")]) (varI 3)))) (tstB (bin2 neP (callP lenP (consA (varI 3) nilA)) (callP lenP (consA (varI 4) nilA))))) (seqI (retI false (conI (.bl false)))
  nextI) nextI)
  (seqI (forI (rng1I (callP lenP (consA (varI 4) nilA))) (.nm 5) (seqI (dropI (lmethI appendP (varI 2) (consA (tupI (consA (bin2 ixP (varI 3) (varI 5)) (consA (bin2 ixP (varI 4) (varI 5)) nilA))) nilA)))
  nextI))
  nextI)) (seqI (ifI (orT (tst (un1 (isiP tb.kit tb.own [(.inl "tuple"), (.inl "list"), (.inl "dict")]) (varI 3))) (notT (tst (callF Γ "_law_is_kind" (consA (varI 3) (consA (varI 4) nilA)))))) (seqI (retI false (conI (.bl false)))
  nextI) nextI)
  nextI))
  nextI)))
  (seqI (retI false (conI (.bl true)))
  nextI)))
/-- _law_all: 0 pairs 1 told 2 due -/
def m__law_all (Γ : Calls) : IS := (seqI (retI false (bin2 eqP (callP lenP (consA (lcI false (walkI (varI 0)) (.tp [1, 2]) (notT (tst (callF Γ "_law_same" (consA (varI 1) (consA (varI 2) nilA))))) (varI 1) [1, 2]) nilA)) (conI (.int 0))))
  nextI)
/-- _law_mixed: 0 deal 1 some 2 left 3 found 4 turn -/
def m__law_mixed (Γ : Calls) : IS := (seqI (parI [2, 3] (consA (callP (listP true) (consA (varI 1) nilA)) (consA (lstI true nilA) nilA)))
  (seqI (forI (rng1I (callP lenP (consA (varI 1) nilA))) (.nm 4) (seqI (dropI (lmethI appendP (varI 3) (consA (lmethI popP (varI 2) (consA (callF Γ "_law_any" (consA (varI 0) (consA (callP lenP (consA (varI 2) nilA)) nilA))) nilA)) nilA)))
  nextI))
  (seqI (retI true (varI 3))
  nextI)))
/-- _law_power: 0 base 1 times 2 found 3 turn -/
def m__law_power (Γ : Calls) : IS := (seqI (setI (.nm 2) (conI (.int 1)))
  (seqI (forI (rng1I (varI 1)) (.nm 3) (seqI (setI (.nm 2) (bin2 (mulP false) (varI 2) (varI 0)))
  nextI))
  (seqI (retI false (varI 2))
  nextI)))
/-- _law_leaf: 0 deal 1 view 2 hears 3 base 4 sort 5 machine 6 turn -/
def m__law_leaf (Γ : Calls) : IS := (seqI (setI (.tp [2, 3, 4]) (tupI (consA (bin2 ixP (varI 1) (conI (.str "hears"))) (consA (bin2 ixP (varI 1) (conI (.str "base"))) (consA (callF Γ "_law_any" (consA (varI 0) (consA (conI (.int 9)) nilA))) nilA)))))
  (seqI (ifI (tstB (bin2 eqP (varI 4) (conI (.int 0)))) (seqI (retI false (tupI (consA (conI (.str "most")) nilA)))
  nextI) nextI)
  (seqI (ifI (tstB (bin2 eqP (varI 4) (conI (.int 1)))) (seqI (retI false (tupI (consA (conI (.str "count")) (consA (callF Γ "_law_any" (consA (varI 0) (consA (bin2 (addP false) (varI 3) (conI (.int 1))) nilA))) nilA))))
  nextI) nextI)
  (seqI (ifI (tstB (bin2 eqP (varI 4) (conI (.int 2)))) (seqI (retI false (tupI (consA (conI (.str "sorted")) (consA (callF Γ "_law_any" (consA (varI 0) (consA (bin2 (addP false) (callP lenP (consA (varI 2) nilA)) (conI (.int 2))) nilA))) nilA))))
  nextI) nextI)
  (seqI (ifI (andT (tstB (bin2 eqP (varI 4) (conI (.int 3)))) (tstB (bin2 gtP (callP lenP (consA (varI 2) nilA)) (conI (.int 0))))) (seqI (retI false (tupI (consA (conI (.str "mostof")) (consA (callP tupleP (consA (lcI false (walkI (varI 2)) (.nm 5) (tstB (bin2 eqP (callF Γ "_law_any" (consA (varI 0) (consA (conI (.int 2)) nilA))) (conI (.int 0)))) (varI 5) [5]) nilA)) nilA))))
  nextI) nextI)
  (seqI (ifI (andT (tstB (bin2 eqP (varI 4) (conI (.int 4)))) (tstB (bin2 leP (callF Γ "_law_power" (consA (varI 3) (consA (bin2 (addP false) (conI (.int 1)) (callP lenP (consA (varI 2) nilA))) nilA))) (bin2 ixP (varI 1) (conI (.str "most")))))) (seqI (retI false (tupI (consA (conI (.str "table")) (consA (callP tupleP (consA (lcI false (rng1I (callF Γ "_law_power" (consA (varI 3) (consA (bin2 (addP false) (conI (.int 1)) (callP lenP (consA (varI 2) nilA))) nilA)))) (.nm 6) yesT (callF Γ "_law_any" (consA (varI 0) (consA (bin2 (addP false) (varI 3) (conI (.int 1))) nilA))) [6]) nilA)) nilA))))
  nextI) nextI)
  (seqI (ifI (tstB (bin2 eqP (varI 4) (conI (.int 5)))) (seqI (retI false (tupI (consA (conI (.str "number")) (consA (callF Γ "_law_of" (consA (varI 0) (consA (lstI false (consA (conI (.int 0)) (consA (conI (.int 1)) (consA (conI (.int 2)) (consA (conI (.int 3)) (consA (callF Γ "_law_any" (consA (varI 0) (consA (conI (.int 100)) nilA))) (consA (conI (.int 999999)) nilA))))))) nilA))) nilA))))
  nextI) nextI)
  (seqI (ifI (andT (tstB (bin2 ltP (varI 4) (conI (.int 8)))) (tstB (bin2 gtP (callP lenP (consA (varI 2) nilA)) (conI (.int 0))))) (seqI (retI false (tupI (consA (conI (.str "heard")) (consA (callF Γ "_law_of" (consA (varI 0) (consA (varI 2) nilA))) nilA))))
  nextI) nextI)
  (seqI (retI false (tupI (consA (conI (.str "own")) nilA)))
  nextI)))))))))
/-- _law_plain_program: 0 deal 1 view 2 size 3 found 4 high 5 turn 6 sort -/
def m__law_plain_program (Γ : Calls) : IS := (seqI (parI [3, 4] (consA (lstI true nilA) (consA (conI (.int 0)) nilA)))
  (seqI (forI (rng1I (varI 2)) (.nm 5) (seqI (setI (.nm 6) (callF Γ "_law_any" (consA (varI 0) (consA (conI (.int 7)) nilA))))
  (seqI (ifI (andT (tstB (bin2 eqP (varI 6) (conI (.int 0)))) (tstB (bin2 gtP (varI 4) (conI (.int 3))))) (seqI (dropI (lmethI appendP (varI 3) (consA (tupI (consA (conI (.str "if")) (consA (callF Γ "_law_of" (consA (varI 0) (consA (lstI false (consA (conI (.str "same")) (consA (conI (.str "below")) nilA))) nilA))) nilA))) nilA)))
  (seqI (setI (.nm 4) (bin2 subP (varI 4) (conI (.int 3))))
  nextI)) (seqI (ifI (andT (tstB (bin2 ltP (varI 6) (conI (.int 3)))) (tstB (bin2 gtP (varI 4) (conI (.int 1))))) (seqI (dropI (lmethI appendP (varI 3) (consA (tupI (consA (callF Γ "_law_of" (consA (varI 0) (consA (lstI false (consA (conI (.str "plus")) (consA (conI (.str "less")) (consA (conI (.str "times")) nilA)))) nilA))) nilA)) nilA)))
  (seqI (setI (.nm 4) (bin2 subP (varI 4) (conI (.int 1))))
  nextI)) (seqI (ifI (andT (tstB (bin2 eqP (varI 6) (conI (.int 3)))) (tstB (bin2 gtP (varI 4) (conI (.int 0))))) (seqI (dropI (lmethI appendP (varI 3) (consA (tupI (consA (callF Γ "_law_of" (consA (varI 0) (consA (lstI false (consA (conI (.str "div")) (consA (conI (.str "rest")) nilA))) nilA))) (consA (bin2 (addP false) (conI (.int 1)) (callF Γ "_law_any" (consA (varI 0) (consA (conI (.int 5)) nilA)))) nilA))) nilA)))
  nextI) (seqI (dropI (lmethI appendP (varI 3) (consA (callF Γ "_law_leaf" (consA (varI 0) (consA (varI 1) nilA))) nilA)))
  (seqI (setI (.nm 4) (bin2 (addP false) (varI 4) (conI (.int 1))))
  nextI)))
  nextI))
  nextI))
  nextI)))
  (seqI (forI (rng1I (bin2 subP (varI 4) (conI (.int 1)))) (.nm 5) (seqI (dropI (lmethI appendP (varI 3) (consA (tupI (consA (callF Γ "_law_of" (consA (varI 0) (consA (lstI false (consA (conI (.str "plus")) (consA (conI (.str "less")) (consA (conI (.str "times")) nilA)))) nilA))) nilA)) nilA)))
  nextI))
  (seqI (retI true (varI 3))
  nextI))))
/-- _law_with_program: 0 deal 1 view 2 machines 3 number 4 found 5 inner 6 turn -/
def m__law_with_program (Γ : Calls) : IS := (seqI (setI (.nm 2) (callP tupleP (consA (callP (sortP false) (consA (sliceI false (callF Γ "_law_mixed" (consA (varI 0) (consA (lstI false (consA (conI (.int 0)) (consA (conI (.int 1)) (consA (conI (.int 2)) (consA (conI (.int 5)) (consA (conI (.int 8)) nilA)))))) nilA))) noPart (partI (callF Γ "_law_any" (consA (varI 0) (consA (conI (.int 4)) nilA))))) nilA)) nilA)))
  (seqI (parI [3, 4] (consA (bin2 (addP false) (conI (.int 1)) (callF Γ "_law_any" (consA (varI 0) (consA (conI (.int 4)) nilA)))) (consA (lstI false nilA) nilA)))
  (seqI (setI (.nm 5) (callF Γ "_law_plain_program" (consA (varI 0) (consA (dspI ["hears", "base", "most"] (foldA [(varI 2), (varI 3), (bin2 ixP (varI 1) (conI (.str "most")))])) (consA (bin2 (addP false) (conI (.int 1)) (callF Γ "_law_any" (consA (varI 0) (consA (conI (.int 5)) nilA)))) nilA)))))
  (seqI (forI (rng1I (bin2 (addP false) (conI (.int 1)) (callP lenP (consA (varI 2) nilA)))) (.nm 6) (seqI (setI (.nm 4) (bin2 (addP false) (varI 4) (callF Γ "_law_plain_program" (consA (varI 0) (consA (varI 1) (consA (bin2 (addP false) (conI (.int 1)) (callF Γ "_law_any" (consA (varI 0) (consA (conI (.int 2)) nilA)))) nilA))))))
  nextI))
  (seqI (retI false (bin2 (addP false) (varI 4) (lstI false (consA (tupI (consA (conI (.str "with")) (consA (varI 3) (consA (varI 5) (consA (varI 2) nilA))))) nilA))))
  nextI)))))
/-- _law_tree: 0 program 1 made 2 step 3 word 4 other 5 one 6 last 7 third 8 second 9 first 10 many 11 parts 12 own 13 at -/
def m__law_tree (Γ : Calls) : IS := (seqI (setI (.nm 1) (lstI true nilA))
  (seqI (forI (walkI (varI 0)) (.nm 2) (seqI (setI (.nm 3) (bin2 ixP (varI 2) (conI (.int 0))))
  (seqI (ifI (tstB (bin2 (inP false) (varI 3) (lstI false (consA (conI (.str "plus")) (consA (conI (.str "less")) (consA (conI (.str "times")) nilA)))))) (seqI (parI [4, 5] (consA (lmethI popP (varI 1) nilA) (consA (lmethI popP (varI 1) nilA) nilA)))
  (seqI (dropI (lmethI appendP (varI 1) (consA (tupI (consA (varI 3) (consA (varI 5) (consA (varI 4) nilA)))) nilA)))
  nextI)) (seqI (ifI (tstB (bin2 (inP false) (varI 3) (lstI false (consA (conI (.str "div")) (consA (conI (.str "rest")) nilA))))) (seqI (dropI (lmethI appendP (varI 1) (consA (tupI (consA (varI 3) (consA (lmethI popP (varI 1) nilA) (consA (bin2 ixP (varI 2) (conI (.int 1))) nilA)))) nilA)))
  nextI) (seqI (ifI (tstB (bin2 eqP (varI 3) (conI (.str "if")))) (seqI (setI (.tp [6, 7, 8, 9]) (tupI (consA (lmethI popP (varI 1) nilA) (consA (lmethI popP (varI 1) nilA) (consA (lmethI popP (varI 1) nilA) (consA (lmethI popP (varI 1) nilA) nilA))))))
  (seqI (dropI (lmethI appendP (varI 1) (consA (tupI (consA (varI 3) (consA (bin2 ixP (varI 2) (conI (.int 1))) (consA (varI 9) (consA (varI 8) (consA (varI 7) (consA (varI 6) nilA))))))) nilA)))
  nextI)) (seqI (ifI (tstB (bin2 eqP (varI 3) (conI (.str "with")))) (seqI (setI (.nm 10) (callP lenP (consA (bin2 ixP (varI 2) (conI (.int 3))) nilA)))
  (seqI (setI (.nm 11) (sliceI false (varI 1) (partI (bin2 subP (callP lenP (consA (varI 1) nilA)) (varI 10))) noPart))
  (seqI (setI (.nm 12) (bin2 ixP (varI 1) (bin2 subP (bin2 subP (callP lenP (consA (varI 1) nilA)) (varI 10)) (conI (.int 1)))))
  (seqI (setI (.nm 1) (sliceI true (varI 1) noPart (partI (bin2 subP (bin2 subP (callP lenP (consA (varI 1) nilA)) (varI 10)) (conI (.int 1))))))
  (seqI (dropI (lmethI appendP (varI 1) (consA (tupI (consA (varI 3) (consA (bin2 ixP (varI 2) (conI (.int 1))) (consA (callF Γ "_law_tree" (consA (bin2 ixP (varI 2) (conI (.int 2))) nilA)) (consA (varI 12) (consA (callP tupleP (consA (lcI false (rng1I (varI 10)) (.nm 13) yesT (tupI (consA (bin2 ixP (bin2 ixP (varI 2) (conI (.int 3))) (varI 13)) (consA (bin2 ixP (varI 11) (varI 13)) nilA))) [13]) nilA)) nilA)))))) nilA)))
  nextI))))) (seqI (dropI (lmethI appendP (varI 1) (consA (varI 2) nilA)))
  nextI))
  nextI))
  nextI))
  nextI))
  nextI)))
  (seqI (retI false (bin2 ixP (varI 1) (conI (.int 0))))
  nextI)))
/-- _law_told_letters: 0 hearing 1 machine 2 letter -/
def m__law_told_letters (Γ : Calls) : IS := (seqI (retI false (callP (sortP false) (consA (lcI false (walkI (varI 0)) (.tp [1, 2]) (tstB (bin2 geP (varI 2) (conI (.int 0)))) (varI 2) [1, 2]) nilA)))
  nextI)
/-- _law_most: 0 letters 1 found 2 many 3 letter 4 count 5 other -/
def m__law_most (Γ : Calls) : IS := (seqI (setI (.tp [1, 2]) (tupI (consA (conI (.int 0)) (consA (conI (.int 0)) nilA))))
  (seqI (forI (walkI (varI 0)) (.nm 3) (seqI (setI (.nm 4) (callP lenP (consA (lcI false (walkI (varI 0)) (.nm 5) (tstB (bin2 eqP (varI 5) (varI 3))) (varI 5) [5]) nilA)))
  (seqI (ifI (tstB (bin2 gtP (varI 4) (varI 2))) (seqI (parI [1, 2] (consA (varI 3) (consA (varI 4) nilA)))
  nextI) nextI)
  nextI)))
  (seqI (retI false (varI 1))
  nextI)))
/-- _law_entry: 0 entries 1 own 2 hearing 3 base 4 turn 5 number 6 machine 7 letter -/
def m__law_entry (Γ : Calls) : IS := (seqI (setI (.nm 3) (conI (.int 1)))
  (seqI (forI (rng1I (callP lenP (consA (varI 0) nilA))) (.nm 4) (seqI (ifI (tstB (bin2 ltP (callF Γ "_law_power" (consA (varI 3) (consA (bin2 (addP false) (conI (.int 1)) (callP lenP (consA (varI 2) nilA))) nilA))) (callP lenP (consA (varI 0) nilA)))) (seqI (setI (.nm 3) (bin2 (addP false) (varI 3) (conI (.int 1))))
  nextI) nextI)
  nextI))
  (seqI (setI (.nm 5) (varI 1))
  (seqI (forI (walkI (varI 2)) (.tp [6, 7]) (seqI (setI (.nm 5) (bin2 (addP false) (bin2 (mulP false) (varI 5) (varI 3)) (ifE (tstB (bin2 gtP (varI 7) (conI (.int 0)))) (varI 7) (conI (.int 0)))))
  nextI))
  (seqI (retI false (bin2 ixP (varI 0) (varI 5)))
  nextI)))))
/-- _law_leaf_worth: 0 step 1 own 2 hearing 3 word 4 letters 5 machine 6 letter 7 pair -/
def m__law_leaf_worth (Γ : Calls) : IS := (seqI (parI [3, 4] (consA (bin2 ixP (varI 0) (conI (.int 0))) (consA (callF Γ "_law_told_letters" (consA (varI 2) nilA)) nilA)))
  (seqI (ifI (tstB (bin2 eqP (varI 3) (conI (.str "number")))) (seqI (retI false (bin2 ixP (varI 0) (conI (.int 1))))
  nextI) nextI)
  (seqI (ifI (tstB (bin2 eqP (varI 3) (conI (.str "own")))) (seqI (retI false (varI 1))
  nextI) nextI)
  (seqI (ifI (tstB (bin2 eqP (varI 3) (conI (.str "heard")))) (seqI (retI false (callP maxP (consA (bin2 (addP false) (lcI false (walkI (varI 2)) (.tp [5, 6]) (tstB (bin2 eqP (varI 5) (bin2 ixP (varI 0) (conI (.int 1))))) (varI 6) [5, 6]) (lstI false (consA (conI (.int 0)) nilA))) nilA)))
  nextI) nextI)
  (seqI (ifI (tstB (bin2 eqP (varI 3) (conI (.str "count")))) (seqI (retI false (callP lenP (consA (lcI false (walkI (varI 4)) (.nm 6) (tstB (bin2 eqP (varI 6) (bin2 ixP (varI 0) (conI (.int 1))))) (varI 6) [6]) nilA)))
  nextI) nextI)
  (seqI (ifI (tstB (bin2 eqP (varI 3) (conI (.str "most")))) (seqI (retI false (callF Γ "_law_most" (consA (varI 4) nilA)))
  nextI) nextI)
  (seqI (ifI (tstB (bin2 eqP (varI 3) (conI (.str "mostof")))) (seqI (retI false (callF Γ "_law_most" (consA (callF Γ "_law_told_letters" (consA (lcI false (walkI (varI 2)) (.nm 7) (tstB (bin2 (inP false) (bin2 ixP (varI 7) (conI (.int 0))) (bin2 ixP (varI 0) (conI (.int 1))))) (varI 7) [7]) nilA)) nilA)))
  nextI) nextI)
  (seqI (ifI (tstB (bin2 eqP (varI 3) (conI (.str "sorted")))) (seqI (retI false (ifE (tstB (bin2 ltP (bin2 ixP (varI 0) (conI (.int 1))) (callP lenP (consA (varI 4) nilA)))) (bin2 ixP (varI 4) (bin2 ixP (varI 0) (conI (.int 1)))) (conI (.int 0))))
  nextI) nextI)
  (seqI (retI false (callF Γ "_law_entry" (consA (bin2 ixP (varI 0) (conI (.int 1))) (consA (varI 1) (consA (varI 2) nilA)))))
  nextI)))))))))
/-- _law_do_step: 0 step 1 worths 2 own 3 hearing 4 word 5 other 6 one 7 last 8 third 9 second 10 first 11 is_so -/
def m__law_do_step (Γ : Calls) : IS := (seqI (setI (.nm 4) (bin2 ixP (varI 0) (conI (.int 0))))
  (seqI (ifI (tstB (bin2 (inP false) (varI 4) (lstI false (consA (conI (.str "plus")) (consA (conI (.str "less")) (consA (conI (.str "times")) nilA)))))) (seqI (parI [5, 6] (consA (lmethI popP (varI 1) nilA) (consA (lmethI popP (varI 1) nilA) nilA)))
  (seqI (dropI (lmethI appendP (varI 1) (consA (ifE (tstB (bin2 eqP (varI 4) (conI (.str "plus")))) (bin2 (addP false) (varI 6) (varI 5)) (ifE (tstB (bin2 eqP (varI 4) (conI (.str "less")))) (bin2 subP (varI 6) (varI 5)) (bin2 (mulP false) (varI 6) (varI 5)))) nilA)))
  nextI)) (seqI (ifI (tstB (bin2 eqP (varI 4) (conI (.str "div")))) (seqI (dropI (lmethI appendP (varI 1) (consA (bin2 fdivP (callP intP (consA (lmethI popP (varI 1) nilA) nilA)) (bin2 ixP (varI 0) (conI (.int 1)))) nilA)))
  nextI) (seqI (ifI (tstB (bin2 eqP (varI 4) (conI (.str "rest")))) (seqI (dropI (lmethI appendP (varI 1) (consA (bin2 modP (callP intP (consA (lmethI popP (varI 1) nilA) nilA)) (bin2 ixP (varI 0) (conI (.int 1)))) nilA)))
  nextI) (seqI (ifI (tstB (bin2 eqP (varI 4) (conI (.str "if")))) (seqI (setI (.tp [7, 8, 9, 10]) (tupI (consA (lmethI popP (varI 1) nilA) (consA (lmethI popP (varI 1) nilA) (consA (lmethI popP (varI 1) nilA) (consA (lmethI popP (varI 1) nilA) nilA))))))
  (seqI (setI (.nm 11) (ifE (tstB (bin2 eqP (bin2 ixP (varI 0) (conI (.int 1))) (conI (.str "same")))) (bin2 eqP (varI 10) (varI 9)) (bin2 ltP (varI 10) (varI 9))))
  (seqI (dropI (lmethI appendP (varI 1) (consA (ifE (tst (varI 11)) (varI 8) (varI 7)) nilA)))
  nextI))) (seqI (dropI (lmethI appendP (varI 1) (consA (callF Γ "_law_leaf_worth" (consA (varI 0) (consA (varI 2) (consA (varI 3) nilA)))) nilA)))
  nextI))
  nextI))
  nextI))
  nextI))
  nextI))
/-- _law_plain_worth: 0 program 1 own 2 hearing 3 worths 4 step -/
def m__law_plain_worth (Γ : Calls) : IS := (seqI (setI (.nm 3) (lstI true nilA))
  (seqI (forI (walkI (varI 0)) (.nm 4) (seqI (dropI (callF Γ "_law_do_step" (consA (varI 4) (consA (varI 3) (consA (varI 1) (consA (varI 2) nilA))))))
  nextI))
  (seqI (retI false (bin2 ixP (varI 3) (conI (.int 0))))
  nextI)))
/-- _law_worth: 0 program 1 own 2 hearing 3 worths 4 step 5 many 6 letters 7 turn 8 inner 9 one 10 at -/
def m__law_worth (Γ : Calls) : IS := (seqI (setI (.nm 3) (lstI true nilA))
  (seqI (forI (walkI (varI 0)) (.nm 4) (seqI (ifI (tstB (bin2 eqP (bin2 ixP (varI 4) (conI (.int 0))) (conI (.str "with")))) (seqI (setI (.nm 5) (bin2 (addP false) (conI (.int 1)) (callP lenP (consA (bin2 ixP (varI 4) (conI (.int 3))) nilA))))
  (seqI (setI (.nm 6) (lcI false (walkI (sliceI false (varI 3) (partI (bin2 subP (callP lenP (consA (varI 3) nilA)) (varI 5))) noPart)) (.nm 9) yesT (bin2 modP (callP intP (consA (varI 9) nilA)) (bin2 ixP (varI 4) (conI (.int 1)))) [9]))
  (seqI (forI (rng1I (varI 5)) (.nm 7) (seqI (dropI (lmethI popP (varI 3) nilA))
  nextI))
  (seqI (setI (.nm 8) (lcI false (rng1I (callP lenP (consA (bin2 ixP (varI 4) (conI (.int 3))) nilA))) (.nm 10) yesT (tupI (consA (bin2 ixP (bin2 ixP (varI 4) (conI (.int 3))) (varI 10)) (consA (bin2 ixP (varI 6) (bin2 (addP false) (conI (.int 1)) (varI 10))) nilA))) [10]))
  (seqI (dropI (lmethI appendP (varI 3) (consA (callF Γ "_law_plain_worth" (consA (bin2 ixP (varI 4) (conI (.int 2))) (consA (bin2 ixP (varI 6) (conI (.int 0))) (consA (varI 8) nilA)))) nilA)))
  nextI))))) (seqI (dropI (callF Γ "_law_do_step" (consA (varI 4) (consA (varI 3) (consA (varI 1) (consA (varI 2) nilA))))))
  nextI))
  nextI))
  (seqI (retI false (bin2 ixP (varI 3) (conI (.int 0))))
  nextI)))
/-- _law_hearing: 0 deal 1 many 2 most 3 machines 4 machine -/
def m__law_hearing (Γ : Calls) : IS := (seqI (setI (.nm 3) (callP (sortP false) (consA (sliceI false (callF Γ "_law_mixed" (consA (varI 0) (consA (lstI false (consA (conI (.int 0)) (consA (conI (.int 1)) (consA (conI (.int 2)) (consA (conI (.int 3)) (consA (conI (.int 4)) (consA (conI (.int 5)) (consA (conI (.int 7)) (consA (conI (.int 8)) nilA))))))))) nilA))) noPart (partI (varI 1))) nilA)))
  (seqI (retI false (callP tupleKP (consA (lcI false (walkI (varI 3)) (.nm 4) yesT (tupI (consA (varI 4) (consA (bin2 subP (callF Γ "_law_any" (consA (varI 0) (consA (bin2 (addP false) (varI 2) (conI (.int 1))) nilA))) (conI (.int 1))) nilA))) [4]) nilA)))
  nextI))
/-- _law_shape: 0 deal -/
def m__law_shape (Γ : Calls) : IS := (seqI (retI false (callF Γ "_law_of" (consA (varI 0) (consA (lstI false (consA (tupI (consA (conI (.int 1)) (consA (conI (.int 0)) nilA))) (consA (tupI (consA (conI (.int 1)) (consA (conI (.int 4)) nilA))) (consA (tupI (consA (conI (.int 2)) (consA (conI (.int 0)) nilA))) (consA (tupI (consA (conI (.int 2)) (consA (conI (.int 3)) nilA))) (consA (tupI (consA (conI (.int 2)) (consA (conI (.int 7)) nilA))) (consA (tupI (consA (conI (.int 3)) (consA (conI (.int 1)) nilA))) (consA (tupI (consA (conI (.int 3)) (consA (conI (.int 4)) nilA))) (consA (tupI (consA (conI (.int 4)) (consA (conI (.int 2)) nilA))) (consA (tupI (consA (conI (.int 4)) (consA (conI (.int 3)) nilA))) (consA (tupI (consA (conI (.int 5)) (consA (conI (.int 2)) nilA))) (consA (tupI (consA (conI (.int 6)) (consA (conI (.int 2)) nilA))) (consA (tupI (consA (conI (.int 16)) (consA (conI (.int 0)) nilA))) (consA (tupI (consA (conI (.int 16)) (consA (conI (.int 1)) nilA))) (consA (tupI (consA (conI (.int 15)) (consA (conI (.int 1)) nilA))) nilA))))))))))))))) nilA))))
  nextI)
/-- _law_tables: 0 deal 1 base 2 own 3 hearing 4 many 5 entries 6 pairs 7 first 8 total 9 letters 10 at 11 step 12 one 13 turn 14 number 15 machine 16 letter -/
def m__law_tables (Γ : Calls) : IS := (seqI (setI (.nm 4) (callF Γ "_law_power" (consA (varI 1) (consA (bin2 (addP false) (conI (.int 1)) (callP lenP (consA (varI 3) nilA))) nilA))))
  (seqI (setI (.nm 5) (callP tupleP (consA (lcI false (rng1I (varI 4)) (.nm 13) yesT (callF Γ "_law_of" (consA (varI 0) (consA (lstI false (consA (callF Γ "_law_any" (consA (varI 0) (consA (varI 1) nilA))) (consA (callF Γ "_law_any" (consA (varI 0) (consA (conI (.int 1000)) nilA))) nilA))) nilA))) [13]) nilA)))
  (seqI (setI (.nm 6) (lstI true (consA (tupI (consA (callF Γ "worth" (consA (tupI (consA (conI (.str "table")) (consA (varI 5) nilA))) (consA (varI 1) (consA (varI 2) (consA (varI 3) nilA))))) (consA (callF Γ "_law_entry" (consA (varI 5) (consA (varI 2) (consA (varI 3) nilA)))) nilA))) nilA)))
  (seqI (setI (.nm 7) (callP tupleP (consA (lcI false (rng1I (varI 4)) (.nm 14) yesT (bin2 fdivP (varI 14) (callF Γ "_law_power" (consA (varI 1) (consA (callP lenP (consA (varI 3) nilA)) nilA)))) [14]) nilA)))
  (seqI (dropI (lmethI appendP (varI 6) (consA (tupI (consA (callF Γ "worth" (consA (tupI (consA (conI (.str "table")) (consA (varI 7) nilA))) (consA (varI 1) (consA (varI 2) (consA (varI 3) nilA))))) (consA (varI 2) nilA))) nilA)))
  (seqI (setI (.tp [8, 9]) (tupI (consA (bin2 (mulP false) (lstI false (consA (conI (.int 0)) nilA)) (varI 4)) (consA (bin2 (addP false) (lstI false (consA (varI 2) nilA)) (lcI false (walkI (varI 3)) (.tp [15, 16]) yesT (callP maxP (consA (conI (.int 0)) (consA (varI 16) nilA))) [15, 16])) nilA))))
  (seqI (forI (rng1I (callP lenP (consA (varI 9) nilA))) (.nm 10) (seqI (setI (.nm 11) (callF Γ "_law_power" (consA (varI 1) (consA (bin2 subP (callP lenP (consA (varI 3) nilA)) (varI 10)) nilA))))
  (seqI (setI (.nm 8) (lcI false (rng1I (varI 4)) (.nm 14) yesT (bin2 (addP false) (bin2 ixP (varI 8) (varI 14)) (bin2 modP (callP intP (consA (bin2 fdivP (varI 14) (varI 11)) nilA)) (varI 1))) [14]))
  nextI)))
  (seqI (dropI (lmethI appendP (varI 6) (consA (tupI (consA (callF Γ "worth" (consA (tupI (consA (conI (.str "table")) (consA (callP tupleP (consA (varI 8) nilA)) nilA))) (consA (varI 1) (consA (varI 2) (consA (varI 3) nilA))))) (consA (callP sumP (consA (varI 9) nilA)) nilA))) nilA)))
  (seqI (ifI (tstB (bin2 gtP (callP lenP (consA (varI 3) nilA)) (conI (.int 0)))) (seqI (setI (.nm 10) (callF Γ "_law_any" (consA (varI 0) (consA (callP lenP (consA (varI 3) nilA)) nilA))))
  (seqI (setI (.nm 11) (callF Γ "_law_power" (consA (varI 1) (consA (bin2 subP (bin2 subP (callP lenP (consA (varI 3) nilA)) (conI (.int 1))) (varI 10)) nilA))))
  (seqI (setI (.nm 12) (callP tupleP (consA (lcI false (rng1I (varI 4)) (.nm 14) yesT (bin2 modP (callP intP (consA (bin2 fdivP (varI 14) (varI 11)) nilA)) (varI 1)) [14]) nilA)))
  (seqI (dropI (lmethI appendP (varI 6) (consA (tupI (consA (callF Γ "worth" (consA (tupI (consA (conI (.str "table")) (consA (varI 12) nilA))) (consA (varI 1) (consA (varI 2) (consA (varI 3) nilA))))) (consA (bin2 ixP (varI 9) (bin2 (addP false) (conI (.int 1)) (varI 10))) nilA))) nilA)))
  nextI)))) nextI)
  (seqI (retI true (varI 6))
  nextI))))))))))
/-- _law_through: 0 deal 1 base 2 own 3 hearing 4 view 5 program 6 told 7 through 8 due 9 machine 10 letter -/
def m__law_through (Γ : Calls) : IS := (seqI (setI (.nm 4) (dspI ["hears", "base", "most"] (foldA [(callP tupleP (consA (lcI false (walkI (varI 3)) (.tp [9, 10]) yesT (varI 9) [9, 10]) nilA)), (varI 1), (conI (.int 256))])))
  (seqI (setI (.nm 5) (callF Γ "_law_plain_program" (consA (varI 0) (consA (varI 4) (consA (bin2 (addP false) (conI (.int 1)) (callF Γ "_law_any" (consA (varI 0) (consA (conI (.int 8)) nilA)))) nilA)))))
  (seqI (setI (.nm 6) (callP tupleKP (consA (lcI false (walkI (varI 3)) (.tp [9, 10]) yesT (tupI (consA (varI 9) (consA (callP maxP (consA (conI (.int 0)) (consA (varI 10) nilA))) nilA))) [9, 10]) nilA)))
  (seqI (setI (.nm 7) (tupI (consA (conI (.str "with")) (consA (varI 1) (consA (callF Γ "_law_tree" (consA (varI 5) nilA)) (consA (tupI (consA (conI (.str "own")) nilA)) (consA (callP tupleP (consA (lcI false (walkI (varI 3)) (.tp [9, 10]) yesT (tupI (consA (varI 9) (consA (tupI (consA (conI (.str "heard")) (consA (varI 9) nilA))) nilA))) [9, 10]) nilA)) nilA)))))))
  (seqI (setI (.nm 8) (callF Γ "_law_plain_worth" (consA (varI 5) (consA (varI 2) (consA (varI 6) nilA)))))
  (seqI (retI false (lstI false (consA (tupI (consA (callF Γ "worth" (consA (callF Γ "_law_tree" (consA (varI 5) nilA)) (consA (varI 1) (consA (varI 2) (consA (varI 6) nilA))))) (consA (varI 8) nilA))) (consA (tupI (consA (callF Γ "worth" (consA (varI 7) (consA (varI 1) (consA (varI 2) (consA (varI 6) nilA))))) (consA (varI 8) nilA))) (consA (tupI (consA (callF Γ "worth" (consA (varI 7) (consA (varI 1) (consA (varI 2) (consA (varI 3) nilA))))) (consA (varI 8) nilA))) nilA)))))
  nextI))))))
/-- law: 0 script 1 deal 2 pairs 3 turn 4 base 5 many 6 own 7 hearing 8 view 9 again 10 program 11 machine 12 letter -/
def m_law (Γ : Calls) : IS := (seqI (setI (.nm 1) (callF Γ "_law_deal" (consA (varI 0) (consA (conI (.int 103)) nilA))))
  (seqI (setI (.nm 2) (lstI true nilA))
  (seqI (forI (rng1I (conI (.int 4))) (.nm 3) (seqI (setI (.tp [4, 5]) (callF Γ "_law_shape" (consA (varI 1) nilA)))
  (seqI (parI [6, 7] (consA (callF Γ "_law_any" (consA (varI 1) (consA (varI 4) nilA))) (consA (callF Γ "_law_hearing" (consA (varI 1) (consA (varI 5) (consA (varI 4) nilA)))) nilA)))
  (seqI (setI (.nm 2) (bin2 (addP true) (bin2 (addP false) (varI 2) (callF Γ "_law_tables" (consA (varI 1) (consA (varI 4) (consA (varI 6) (consA (varI 7) nilA)))))) (callF Γ "_law_through" (consA (varI 1) (consA (varI 4) (consA (varI 6) (consA (varI 7) nilA)))))))
  (seqI (setI (.nm 7) (callF Γ "_law_hearing" (consA (varI 1) (consA (callF Γ "_law_any" (consA (varI 1) (consA (conI (.int 4)) nilA))) (consA (conI (.int 4)) nilA)))))
  (seqI (parI [6, 8] (consA (callF Γ "_law_any" (consA (varI 1) (consA (conI (.int 4)) nilA))) (consA (dspI ["hears", "base", "most"] (foldA [(callP tupleP (consA (lcI false (walkI (varI 7)) (.tp [11, 12]) yesT (varI 11) [11, 12]) nilA)), (conI (.int 4)), (conI (.int 64))])) nilA)))
  (seqI (forI (rng1I (conI (.int 3))) (.nm 9) (seqI (setI (.nm 10) (callF Γ "_law_with_program" (consA (varI 1) (consA (varI 8) nilA))))
  (seqI (setI (.nm 10) (bin2 (addP false) (varI 10) (ifE (tstB (bin2 eqP (varI 9) (conI (.int 0)))) (lstI false (consA (tupI (consA (conI (.str "number")) (consA (conI (.int 3)) nilA))) (consA (tupI (consA (conI (.str "times")) nilA)) nilA))) (lstI false nilA))))
  (seqI (dropI (lmethI appendP (varI 2) (consA (tupI (consA (callF Γ "worth" (consA (callF Γ "_law_tree" (consA (varI 10) nilA)) (consA (conI (.int 4)) (consA (varI 6) (consA (varI 7) nilA))))) (consA (callF Γ "_law_worth" (consA (varI 10) (consA (varI 6) (consA (varI 7) nilA)))) nilA))) nilA)))
  nextI))))
  nextI)))))))
  (seqI (retI false (callF Γ "_law_all" (consA (varI 2) nilA)))
  nextI))))
def e_things_of : Ent := ⟨"things_of", ⟨["rule"], ["rule", "word", "found", "machines", "_", "part", "machine"], m_things_of, true⟩, ⟨("things_of", none), "things_of", "things_of", defArgs (topS 5), defBody (topS 5), defScope (topS 5), [], []⟩, atP [(14, 12, 21)], atP []⟩
def e_steps_of : Ent := ⟨"steps_of", ⟨["rule"], ["rule", "found", "todo", "thing"], m_steps_of, true⟩, ⟨("steps_of", none), "steps_of", "steps_of", defArgs (topS 6), defBody (topS 6), defScope (topS 6), [], []⟩, atP [(19, 12, 14), (20, 11, 17)], atP [(29, 4, 16)]⟩
def e_told_letters : Ent := ⟨"told_letters", ⟨["hearing"], ["hearing", "_", "letter"], m_told_letters, true⟩, ⟨("told_letters", none), "told_letters", "told_letters", defArgs (topS 9), defBody (topS 9), defScope (topS 9), [], []⟩, atP [], atP []⟩
def e_most_told : Ent := ⟨"most_told", ⟨["letters"], ["letters", "found", "most", "letter", "many"], m_most_told, true⟩, ⟨("most_told", none), "most_told", "most_told", defArgs (topS 10), defBody (topS 10), defScope (topS 10), [], []⟩, atP [], atP []⟩
def e_power : Ent := ⟨"power", ⟨["base", "times"], ["base", "times", "found", "_"], m_power, true⟩, ⟨("power", none), "power", "power", defArgs (topS 11), defBody (topS 11), defScope (topS 11), [], []⟩, atP [], atP []⟩
def e_base_of : Ent := ⟨"base_of", ⟨["many", "figures"], ["many", "figures", "base"], m_base_of, true⟩, ⟨("base_of", none), "base_of", "base_of", defArgs (topS 12), defBody (topS 12), defScope (topS 12), [], []⟩, atP [], atP []⟩
def e_entry_of : Ent := ⟨"entry_of", ⟨["entries", "own", "hearing"], ["entries", "own", "hearing", "base", "number", "_", "letter"], m_entry_of, true⟩, ⟨("entry_of", none), "entry_of", "entry_of", defArgs (topS 13), defBody (topS 13), defScope (topS 13), [], []⟩, atP [], atP []⟩
def e_do_number : Ent := ⟨"do_number", ⟨["step", "worths", "views"], ["step", "worths", "views"], m_do_number, true⟩, ⟨("do_number", none), "do_number", "do_number", defArgs (topS 14), defBody (topS 14), defScope (topS 14), [], []⟩, atP [], atP []⟩
def e_do_own : Ent := ⟨"do_own", ⟨["step", "worths", "views"], ["step", "worths", "views"], m_do_own, true⟩, ⟨("do_own", none), "do_own", "do_own", defArgs (topS 15), defBody (topS 15), defScope (topS 15), [], []⟩, atP [], atP []⟩
def e_do_heard : Ent := ⟨"do_heard", ⟨["step", "worths", "views"], ["step", "worths", "views"], m_do_heard, true⟩, ⟨("do_heard", none), "do_heard", "do_heard", defArgs (topS 16), defBody (topS 16), defScope (topS 16), [], []⟩, atP [], atP []⟩
def e_do_count : Ent := ⟨"do_count", ⟨["step", "worths", "views"], ["step", "worths", "views"], m_do_count, true⟩, ⟨("do_count", none), "do_count", "do_count", defArgs (topS 17), defBody (topS 17), defScope (topS 17), [], []⟩, atP [], atP []⟩
def e_do_most : Ent := ⟨"do_most", ⟨["step", "worths", "views"], ["step", "worths", "views"], m_do_most, true⟩, ⟨("do_most", none), "do_most", "do_most", defArgs (topS 18), defBody (topS 18), defScope (topS 18), [], []⟩, atP [], atP []⟩
def e_do_mostof : Ent := ⟨"do_mostof", ⟨["step", "worths", "views"], ["step", "worths", "views", "pair"], m_do_mostof, true⟩, ⟨("do_mostof", none), "do_mostof", "do_mostof", defArgs (topS 19), defBody (topS 19), defScope (topS 19), [], []⟩, atP [], atP []⟩
def e_do_sorted : Ent := ⟨"do_sorted", ⟨["step", "worths", "views"], ["step", "worths", "views", "letters"], m_do_sorted, true⟩, ⟨("do_sorted", none), "do_sorted", "do_sorted", defArgs (topS 20), defBody (topS 20), defScope (topS 20), [], []⟩, atP [], atP []⟩
def e_do_table : Ent := ⟨"do_table", ⟨["step", "worths", "views"], ["step", "worths", "views"], m_do_table, true⟩, ⟨("do_table", none), "do_table", "do_table", defArgs (topS 21), defBody (topS 21), defScope (topS 21), [], []⟩, atP [], atP []⟩
def e_do_plus : Ent := ⟨"do_plus", ⟨["step", "worths", "views"], ["step", "worths", "views", "other"], m_do_plus, true⟩, ⟨("do_plus", none), "do_plus", "do_plus", defArgs (topS 22), defBody (topS 22), defScope (topS 22), [], []⟩, atP [], atP []⟩
def e_do_less : Ent := ⟨"do_less", ⟨["step", "worths", "views"], ["step", "worths", "views", "other"], m_do_less, true⟩, ⟨("do_less", none), "do_less", "do_less", defArgs (topS 23), defBody (topS 23), defScope (topS 23), [], []⟩, atP [], atP []⟩
def e_do_times : Ent := ⟨"do_times", ⟨["step", "worths", "views"], ["step", "worths", "views", "other"], m_do_times, true⟩, ⟨("do_times", none), "do_times", "do_times", defArgs (topS 24), defBody (topS 24), defScope (topS 24), [], []⟩, atP [], atP []⟩
def e_do_div : Ent := ⟨"do_div", ⟨["step", "worths", "views"], ["step", "worths", "views"], m_do_div, true⟩, ⟨("do_div", none), "do_div", "do_div", defArgs (topS 25), defBody (topS 25), defScope (topS 25), [], []⟩, atP [], atP []⟩
def e_do_rest : Ent := ⟨"do_rest", ⟨["step", "worths", "views"], ["step", "worths", "views"], m_do_rest, true⟩, ⟨("do_rest", none), "do_rest", "do_rest", defArgs (topS 26), defBody (topS 26), defScope (topS 26), [], []⟩, atP [], atP []⟩
def e_do_if : Ent := ⟨"do_if", ⟨["step", "worths", "views"], ["step", "worths", "views", "last", "third", "second", "first", "is_so"], m_do_if, true⟩, ⟨("do_if", none), "do_if", "do_if", defArgs (topS 27), defBody (topS 27), defScope (topS 27), [], []⟩, atP [], atP []⟩
def e_do_with : Ent := ⟨"do_with", ⟨["step", "worths", "views"], ["step", "worths", "views", "machines", "first", "letters", "worth"], m_do_with, true⟩, ⟨("do_with", none), "do_with", "do_with", defArgs (topS 28), defBody (topS 28), defScope (topS 28), [], []⟩, atP [], atP []⟩
def e_do_leave : Ent := ⟨"do_leave", ⟨["step", "worths", "views"], ["step", "worths", "views"], m_do_leave, true⟩, ⟨("do_leave", none), "do_leave", "do_leave", defArgs (topS 29), defBody (topS 29), defScope (topS 29), [], []⟩, atP [], atP []⟩
def e_steps_worth : Ent := ⟨"steps_worth", ⟨["steps", "own", "hearing"], ["steps", "own", "hearing", "worths", "views", "step", "work"], m_steps_worth, true⟩, ⟨("steps_worth", none), "steps_worth", "steps_worth", defArgs (topS 31), defBody (topS 31), defScope (topS 31), [], []⟩, atP [(104, 13, 15), (105, 12, 35)], atP []⟩
def e_worth : Ent := ⟨"worth", ⟨["rule", "letters", "own", "hearing"], ["rule", "letters", "own", "hearing"], m_worth, true⟩, ⟨("worth", none), "worth", "worth", defArgs (topS 32), defBody (topS 32), defScope (topS 32), [], []⟩, atP [], atP []⟩
def e__law_deal : Ent := ⟨"_law_deal", ⟨["script", "salt"], ["script", "salt", "most", "cell", "cells", "mix"], m__law_deal, false⟩, ⟨("_law_deal", none), "_law_deal", "_law_deal", defArgs (topS 34), defBody (topS 34), defScope (topS 34), [], []⟩, atP [(119, 11, 68), (119, 12, 62)], atP []⟩
def e__law_any : Ent := ⟨"_law_any", ⟨["deal", "bound"], ["deal", "bound", "rest"], m__law_any, true⟩, ⟨("_law_any", none), "_law_any", "_law_any", defArgs (topS 35), defBody (topS 35), defScope (topS 35), [], []⟩, atP [], atP []⟩
def e__law_of : Ent := ⟨"_law_of", ⟨["deal", "some"], ["deal", "some"], m__law_of, true⟩, ⟨("_law_of", none), "_law_of", "_law_of", defArgs (topS 36), defBody (topS 36), defScope (topS 36), [], []⟩, atP [], atP []⟩
def e__law_is_kind : Ent := ⟨"_law_is_kind", ⟨["told", "due"], ["told", "due"], m__law_is_kind, true⟩, ⟨("_law_is_kind", none), "_law_is_kind", "_law_is_kind", defArgs (topS 37), defBody (topS 37), defScope (topS 37), [], []⟩, atP [], atP []⟩
def e__law_same : Ent := ⟨"_law_same", ⟨["told", "due"], ["told", "due", "todo", "one", "other", "at"], m__law_same, true⟩, ⟨("_law_same", none), "_law_same", "_law_same", defArgs (topS 38), defBody (topS 38), defScope (topS 38), [], []⟩, atP [(140, 11, 24)], atP []⟩
def e__law_all : Ent := ⟨"_law_all", ⟨["pairs"], ["pairs", "told", "due"], m__law_all, true⟩, ⟨("_law_all", none), "_law_all", "_law_all", defArgs (topS 39), defBody (topS 39), defScope (topS 39), [], []⟩, atP [], atP []⟩
def e__law_mixed : Ent := ⟨"_law_mixed", ⟨["deal", "some"], ["deal", "some", "left", "found", "turn"], m__law_mixed, true⟩, ⟨("_law_mixed", none), "_law_mixed", "_law_mixed", defArgs (topS 40), defBody (topS 40), defScope (topS 40), [], []⟩, atP [(154, 19, 29), (154, 31, 33)], atP [(157, 4, 16)]⟩
def e__law_power : Ent := ⟨"_law_power", ⟨["base", "times"], ["base", "times", "found", "turn"], m__law_power, true⟩, ⟨("_law_power", none), "_law_power", "_law_power", defArgs (topS 41), defBody (topS 41), defScope (topS 41), [], []⟩, atP [], atP []⟩
def e__law_leaf : Ent := ⟨"_law_leaf", ⟨["deal", "view"], ["deal", "view", "hears", "base", "sort", "machine", "turn"], m__law_leaf, true⟩, ⟨("_law_leaf", none), "_law_leaf", "_law_leaf", defArgs (topS 42), defBody (topS 42), defScope (topS 42), [], []⟩, atP [], atP []⟩
def e__law_plain_program : Ent := ⟨"_law_plain_program", ⟨["deal", "view", "size"], ["deal", "view", "size", "found", "high", "turn", "sort"], m__law_plain_program, true⟩, ⟨("_law_plain_program", none), "_law_plain_program", "_law_plain_program", defArgs (topS 43), defBody (topS 43), defScope (topS 43), [], []⟩, atP [(181, 19, 21)], atP [(197, 4, 16)]⟩
def e__law_with_program : Ent := ⟨"_law_with_program", ⟨["deal", "view"], ["deal", "view", "machines", "number", "found", "inner", "turn"], m__law_with_program, true⟩, ⟨("_law_with_program", none), "_law_with_program", "_law_with_program", defArgs (topS 44), defBody (topS 44), defScope (topS 44), [], []⟩, atP [], atP []⟩
def e__law_tree : Ent := ⟨"_law_tree", ⟨["program"], ["program", "made", "step", "word", "other", "one", "last", "third", "second", "first", "many", "parts", "own", "at"], m__law_tree, true⟩, ⟨("_law_tree", none), "_law_tree", "_law_tree", defArgs (topS 45), defBody (topS 45), defScope (topS 45), [], []⟩, atP [(206, 11, 13), (221, 19, 46)], atP []⟩
def e__law_told_letters : Ent := ⟨"_law_told_letters", ⟨["hearing"], ["hearing", "machine", "letter"], m__law_told_letters, true⟩, ⟨("_law_told_letters", none), "_law_told_letters", "_law_told_letters", defArgs (topS 46), defBody (topS 46), defScope (topS 46), [], []⟩, atP [], atP []⟩
def e__law_most : Ent := ⟨"_law_most", ⟨["letters"], ["letters", "found", "many", "letter", "count", "other"], m__law_most, true⟩, ⟨("_law_most", none), "_law_most", "_law_most", defArgs (topS 47), defBody (topS 47), defScope (topS 47), [], []⟩, atP [], atP []⟩
def e__law_entry : Ent := ⟨"_law_entry", ⟨["entries", "own", "hearing"], ["entries", "own", "hearing", "base", "turn", "number", "machine", "letter"], m__law_entry, true⟩, ⟨("_law_entry", none), "_law_entry", "_law_entry", defArgs (topS 48), defBody (topS 48), defScope (topS 48), [], []⟩, atP [], atP []⟩
def e__law_leaf_worth : Ent := ⟨"_law_leaf_worth", ⟨["step", "own", "hearing"], ["step", "own", "hearing", "word", "letters", "machine", "letter", "pair"], m__law_leaf_worth, true⟩, ⟨("_law_leaf_worth", none), "_law_leaf_worth", "_law_leaf_worth", defArgs (topS 49), defBody (topS 49), defScope (topS 49), [], []⟩, atP [], atP []⟩
def e__law_do_step : Ent := ⟨"_law_do_step", ⟨["step", "worths", "own", "hearing"], ["step", "worths", "own", "hearing", "word", "other", "one", "last", "third", "second", "first", "is_so"], m__law_do_step, true⟩, ⟨("_law_do_step", none), "_law_do_step", "_law_do_step", defArgs (topS 50), defBody (topS 50), defScope (topS 50), [], []⟩, atP [], atP []⟩
def e__law_plain_worth : Ent := ⟨"_law_plain_worth", ⟨["program", "own", "hearing"], ["program", "own", "hearing", "worths", "step"], m__law_plain_worth, true⟩, ⟨("_law_plain_worth", none), "_law_plain_worth", "_law_plain_worth", defArgs (topS 51), defBody (topS 51), defScope (topS 51), [], []⟩, atP [(277, 13, 15)], atP []⟩
def e__law_worth : Ent := ⟨"_law_worth", ⟨["program", "own", "hearing"], ["program", "own", "hearing", "worths", "step", "many", "letters", "turn", "inner", "one", "at"], m__law_worth, true⟩, ⟨("_law_worth", none), "_law_worth", "_law_worth", defArgs (topS 52), defBody (topS 52), defScope (topS 52), [], []⟩, atP [(282, 13, 15)], atP []⟩
def e__law_hearing : Ent := ⟨"_law_hearing", ⟨["deal", "many", "most"], ["deal", "many", "most", "machines", "machine"], m__law_hearing, true⟩, ⟨("_law_hearing", none), "_law_hearing", "_law_hearing", defArgs (topS 53), defBody (topS 53), defScope (topS 53), [], []⟩, atP [(296, 11, 83)], atP []⟩
def e__law_shape : Ent := ⟨"_law_shape", ⟨["deal"], ["deal"], m__law_shape, true⟩, ⟨("_law_shape", none), "_law_shape", "_law_shape", defArgs (topS 54), defBody (topS 54), defScope (topS 54), [], []⟩, atP [], atP []⟩
def e__law_tables : Ent := ⟨"_law_tables", ⟨["deal", "base", "own", "hearing"], ["deal", "base", "own", "hearing", "many", "entries", "pairs", "first", "total", "letters", "at", "step", "one", "turn", "number", "machine", "letter"], m__law_tables, true⟩, ⟨("_law_tables", none), "_law_tables", "_law_tables", defArgs (topS 55), defBody (topS 55), defScope (topS 55), [], []⟩, atP [(302, 12, 96)], atP [(315, 4, 16)]⟩
def e__law_through : Ent := ⟨"_law_through", ⟨["deal", "base", "own", "hearing"], ["deal", "base", "own", "hearing", "view", "program", "told", "through", "due", "machine", "letter"], m__law_through, true⟩, ⟨("_law_through", none), "_law_through", "_law_through", defArgs (topS 56), defBody (topS 56), defScope (topS 56), [], []⟩, atP [(319, 11, 76)], atP []⟩
def e_law : Ent := ⟨"law", ⟨["script"], ["script", "deal", "pairs", "turn", "base", "many", "own", "hearing", "view", "again", "program", "machine", "letter"], m_law, true⟩, ⟨("law", none), "law", "law", defArgs (topS 57), defBody (topS 57), defScope (topS 57), [], []⟩, atP [(325, 12, 14), (329, 16, 102)], atP []⟩
def ents : List Ent := [e_things_of, e_steps_of, e_told_letters, e_most_told, e_power, e_base_of, e_entry_of, e_do_number, e_do_own, e_do_heard, e_do_count, e_do_most, e_do_mostof, e_do_sorted, e_do_table, e_do_plus, e_do_less, e_do_times, e_do_div, e_do_rest, e_do_if, e_do_with, e_do_leave, e_steps_worth, e_worth, e__law_deal, e__law_any, e__law_of, e__law_is_kind, e__law_same, e__law_all, e__law_mixed, e__law_power, e__law_leaf, e__law_plain_program, e__law_with_program, e__law_tree, e__law_told_letters, e__law_most, e__law_entry, e__law_leaf_worth, e__law_do_step, e__law_plain_worth, e__law_worth, e__law_hearing, e__law_shape, e__law_tables, e__law_through, e_law]
/-! ### the meanings are right -/
theorem ok_things_of : EntOk tb 60 e_things_of := ⟨⟨rfl, rfl, rfl, by decide +kernel, rfl, by decide +kernel, by decide +kernel⟩, fun Γ => by kernel_rfl, fun _ _ _ _ _ _ us hl => match us, hl with | [_], _ => rfl, ⟨rfl, rfl⟩⟩
theorem ok_steps_of : EntOk tb 60 e_steps_of := ⟨⟨rfl, rfl, rfl, by decide +kernel, rfl, by decide +kernel, by decide +kernel⟩, fun Γ => by kernel_rfl, fun _ _ _ _ _ _ us hl => match us, hl with | [_], _ => rfl, ⟨rfl, rfl⟩⟩
theorem ok_told_letters : EntOk tb 60 e_told_letters := ⟨⟨rfl, rfl, rfl, by decide +kernel, rfl, by decide +kernel, by decide +kernel⟩, fun Γ => by kernel_rfl, fun _ _ _ _ _ _ us hl => match us, hl with | [_], _ => rfl, ⟨rfl, rfl⟩⟩
theorem ok_most_told : EntOk tb 60 e_most_told := ⟨⟨rfl, rfl, rfl, by decide +kernel, rfl, by decide +kernel, by decide +kernel⟩, fun Γ => by kernel_rfl, fun _ _ _ _ _ _ us hl => match us, hl with | [_], _ => rfl, ⟨rfl, rfl⟩⟩
theorem ok_power : EntOk tb 60 e_power := ⟨⟨rfl, rfl, rfl, by decide +kernel, rfl, by decide +kernel, by decide +kernel⟩, fun Γ => by kernel_rfl, fun _ _ _ _ _ _ us hl => match us, hl with | [_, _], _ => rfl, ⟨rfl, rfl⟩⟩
theorem ok_base_of : EntOk tb 60 e_base_of := ⟨⟨rfl, rfl, rfl, by decide +kernel, rfl, by decide +kernel, by decide +kernel⟩, fun Γ => by kernel_rfl, fun _ _ _ _ _ _ us hl => match us, hl with | [_, _], _ => rfl, ⟨rfl, rfl⟩⟩
theorem ok_entry_of : EntOk tb 60 e_entry_of := ⟨⟨rfl, rfl, rfl, by decide +kernel, rfl, by decide +kernel, by decide +kernel⟩, fun Γ => by kernel_rfl, fun _ _ _ _ _ _ us hl => match us, hl with | [_, _, _], _ => rfl, ⟨rfl, rfl⟩⟩
theorem ok_do_number : EntOk tb 60 e_do_number := ⟨⟨rfl, rfl, rfl, by decide +kernel, rfl, by decide +kernel, by decide +kernel⟩, fun Γ => by kernel_rfl, fun _ _ _ _ _ _ us hl => match us, hl with | [_, _, _], _ => rfl, ⟨rfl, rfl⟩⟩
theorem ok_do_own : EntOk tb 60 e_do_own := ⟨⟨rfl, rfl, rfl, by decide +kernel, rfl, by decide +kernel, by decide +kernel⟩, fun Γ => by kernel_rfl, fun _ _ _ _ _ _ us hl => match us, hl with | [_, _, _], _ => rfl, ⟨rfl, rfl⟩⟩
theorem ok_do_heard : EntOk tb 60 e_do_heard := ⟨⟨rfl, rfl, rfl, by decide +kernel, rfl, by decide +kernel, by decide +kernel⟩, fun Γ => by kernel_rfl, fun _ _ _ _ _ _ us hl => match us, hl with | [_, _, _], _ => rfl, ⟨rfl, rfl⟩⟩
theorem ok_do_count : EntOk tb 60 e_do_count := ⟨⟨rfl, rfl, rfl, by decide +kernel, rfl, by decide +kernel, by decide +kernel⟩, fun Γ => by kernel_rfl, fun _ _ _ _ _ _ us hl => match us, hl with | [_, _, _], _ => rfl, ⟨rfl, rfl⟩⟩
theorem ok_do_most : EntOk tb 60 e_do_most := ⟨⟨rfl, rfl, rfl, by decide +kernel, rfl, by decide +kernel, by decide +kernel⟩, fun Γ => by kernel_rfl, fun _ _ _ _ _ _ us hl => match us, hl with | [_, _, _], _ => rfl, ⟨rfl, rfl⟩⟩
theorem ok_do_mostof : EntOk tb 60 e_do_mostof := ⟨⟨rfl, rfl, rfl, by decide +kernel, rfl, by decide +kernel, by decide +kernel⟩, fun Γ => by kernel_rfl, fun _ _ _ _ _ _ us hl => match us, hl with | [_, _, _], _ => rfl, ⟨rfl, rfl⟩⟩
theorem ok_do_sorted : EntOk tb 60 e_do_sorted := ⟨⟨rfl, rfl, rfl, by decide +kernel, rfl, by decide +kernel, by decide +kernel⟩, fun Γ => by kernel_rfl, fun _ _ _ _ _ _ us hl => match us, hl with | [_, _, _], _ => rfl, ⟨rfl, rfl⟩⟩
theorem ok_do_table : EntOk tb 60 e_do_table := ⟨⟨rfl, rfl, rfl, by decide +kernel, rfl, by decide +kernel, by decide +kernel⟩, fun Γ => by kernel_rfl, fun _ _ _ _ _ _ us hl => match us, hl with | [_, _, _], _ => rfl, ⟨rfl, rfl⟩⟩
theorem ok_do_plus : EntOk tb 60 e_do_plus := ⟨⟨rfl, rfl, rfl, by decide +kernel, rfl, by decide +kernel, by decide +kernel⟩, fun Γ => by kernel_rfl, fun _ _ _ _ _ _ us hl => match us, hl with | [_, _, _], _ => rfl, ⟨rfl, rfl⟩⟩
theorem ok_do_less : EntOk tb 60 e_do_less := ⟨⟨rfl, rfl, rfl, by decide +kernel, rfl, by decide +kernel, by decide +kernel⟩, fun Γ => by kernel_rfl, fun _ _ _ _ _ _ us hl => match us, hl with | [_, _, _], _ => rfl, ⟨rfl, rfl⟩⟩
theorem ok_do_times : EntOk tb 60 e_do_times := ⟨⟨rfl, rfl, rfl, by decide +kernel, rfl, by decide +kernel, by decide +kernel⟩, fun Γ => by kernel_rfl, fun _ _ _ _ _ _ us hl => match us, hl with | [_, _, _], _ => rfl, ⟨rfl, rfl⟩⟩
theorem ok_do_div : EntOk tb 60 e_do_div := ⟨⟨rfl, rfl, rfl, by decide +kernel, rfl, by decide +kernel, by decide +kernel⟩, fun Γ => by kernel_rfl, fun _ _ _ _ _ _ us hl => match us, hl with | [_, _, _], _ => rfl, ⟨rfl, rfl⟩⟩
theorem ok_do_rest : EntOk tb 60 e_do_rest := ⟨⟨rfl, rfl, rfl, by decide +kernel, rfl, by decide +kernel, by decide +kernel⟩, fun Γ => by kernel_rfl, fun _ _ _ _ _ _ us hl => match us, hl with | [_, _, _], _ => rfl, ⟨rfl, rfl⟩⟩
theorem ok_do_if : EntOk tb 60 e_do_if := ⟨⟨rfl, rfl, rfl, by decide +kernel, rfl, by decide +kernel, by decide +kernel⟩, fun Γ => by kernel_rfl, fun _ _ _ _ _ _ us hl => match us, hl with | [_, _, _], _ => rfl, ⟨rfl, rfl⟩⟩
theorem ok_do_with : EntOk tb 60 e_do_with := ⟨⟨rfl, rfl, rfl, by decide +kernel, rfl, by decide +kernel, by decide +kernel⟩, fun Γ => by kernel_rfl, fun _ _ _ _ _ _ us hl => match us, hl with | [_, _, _], _ => rfl, ⟨rfl, rfl⟩⟩
theorem ok_do_leave : EntOk tb 60 e_do_leave := ⟨⟨rfl, rfl, rfl, by decide +kernel, rfl, by decide +kernel, by decide +kernel⟩, fun Γ => by kernel_rfl, fun _ _ _ _ _ _ us hl => match us, hl with | [_, _, _], _ => rfl, ⟨rfl, rfl⟩⟩
theorem ok_steps_worth : EntOk tb 60 e_steps_worth := ⟨⟨rfl, rfl, rfl, by decide +kernel, rfl, by decide +kernel, by decide +kernel⟩, fun Γ => by kernel_rfl, fun _ _ _ _ _ _ us hl => match us, hl with | [_, _, _], _ => rfl, ⟨rfl, rfl⟩⟩
theorem ok_worth : EntOk tb 60 e_worth := ⟨⟨rfl, rfl, rfl, by decide +kernel, rfl, by decide +kernel, by decide +kernel⟩, fun Γ => by kernel_rfl, fun _ _ _ _ _ _ us hl => match us, hl with | [_, _, _, _], _ => rfl, ⟨rfl, rfl⟩⟩
theorem ok__law_deal : EntOk tb 60 e__law_deal := ⟨⟨rfl, rfl, rfl, by decide +kernel, rfl, by decide +kernel, by decide +kernel⟩, fun Γ => by kernel_rfl, fun _ _ _ _ _ _ us hl => match us, hl with | [_, _], _ => rfl, ⟨rfl, rfl⟩⟩
theorem ok__law_any : EntOk tb 60 e__law_any := ⟨⟨rfl, rfl, rfl, by decide +kernel, rfl, by decide +kernel, by decide +kernel⟩, fun Γ => by kernel_rfl, fun _ _ _ _ _ _ us hl => match us, hl with | [_, _], _ => rfl, ⟨rfl, rfl⟩⟩
theorem ok__law_of : EntOk tb 60 e__law_of := ⟨⟨rfl, rfl, rfl, by decide +kernel, rfl, by decide +kernel, by decide +kernel⟩, fun Γ => by kernel_rfl, fun _ _ _ _ _ _ us hl => match us, hl with | [_, _], _ => rfl, ⟨rfl, rfl⟩⟩
theorem ok__law_is_kind : EntOk tb 60 e__law_is_kind := ⟨⟨rfl, rfl, rfl, by decide +kernel, rfl, by decide +kernel, by decide +kernel⟩, fun Γ => by kernel_rfl, fun _ _ _ _ _ _ us hl => match us, hl with | [_, _], _ => rfl, ⟨rfl, rfl⟩⟩
theorem ok__law_same : EntOk tb 60 e__law_same := ⟨⟨rfl, rfl, rfl, by decide +kernel, rfl, by decide +kernel, by decide +kernel⟩, fun Γ => by kernel_rfl, fun _ _ _ _ _ _ us hl => match us, hl with | [_, _], _ => rfl, ⟨rfl, rfl⟩⟩
theorem ok__law_all : EntOk tb 60 e__law_all := ⟨⟨rfl, rfl, rfl, by decide +kernel, rfl, by decide +kernel, by decide +kernel⟩, fun Γ => by kernel_rfl, fun _ _ _ _ _ _ us hl => match us, hl with | [_], _ => rfl, ⟨rfl, rfl⟩⟩
theorem ok__law_mixed : EntOk tb 60 e__law_mixed := ⟨⟨rfl, rfl, rfl, by decide +kernel, rfl, by decide +kernel, by decide +kernel⟩, fun Γ => by kernel_rfl, fun _ _ _ _ _ _ us hl => match us, hl with | [_, _], _ => rfl, ⟨rfl, rfl⟩⟩
theorem ok__law_power : EntOk tb 60 e__law_power := ⟨⟨rfl, rfl, rfl, by decide +kernel, rfl, by decide +kernel, by decide +kernel⟩, fun Γ => by kernel_rfl, fun _ _ _ _ _ _ us hl => match us, hl with | [_, _], _ => rfl, ⟨rfl, rfl⟩⟩
theorem ok__law_leaf : EntOk tb 60 e__law_leaf := ⟨⟨rfl, rfl, rfl, by decide +kernel, rfl, by decide +kernel, by decide +kernel⟩, fun Γ => by kernel_rfl, fun _ _ _ _ _ _ us hl => match us, hl with | [_, _], _ => rfl, ⟨rfl, rfl⟩⟩
theorem ok__law_plain_program : EntOk tb 60 e__law_plain_program := ⟨⟨rfl, rfl, rfl, by decide +kernel, rfl, by decide +kernel, by decide +kernel⟩, fun Γ => by kernel_rfl, fun _ _ _ _ _ _ us hl => match us, hl with | [_, _, _], _ => rfl, ⟨rfl, rfl⟩⟩
theorem ok__law_with_program : EntOk tb 60 e__law_with_program := ⟨⟨rfl, rfl, rfl, by decide +kernel, rfl, by decide +kernel, by decide +kernel⟩, fun Γ => by kernel_rfl, fun _ _ _ _ _ _ us hl => match us, hl with | [_, _], _ => rfl, ⟨rfl, rfl⟩⟩
theorem ok__law_tree : EntOk tb 60 e__law_tree := ⟨⟨rfl, rfl, rfl, by decide +kernel, rfl, by decide +kernel, by decide +kernel⟩, fun Γ => by kernel_rfl, fun _ _ _ _ _ _ us hl => match us, hl with | [_], _ => rfl, ⟨rfl, rfl⟩⟩
theorem ok__law_told_letters : EntOk tb 60 e__law_told_letters := ⟨⟨rfl, rfl, rfl, by decide +kernel, rfl, by decide +kernel, by decide +kernel⟩, fun Γ => by kernel_rfl, fun _ _ _ _ _ _ us hl => match us, hl with | [_], _ => rfl, ⟨rfl, rfl⟩⟩
theorem ok__law_most : EntOk tb 60 e__law_most := ⟨⟨rfl, rfl, rfl, by decide +kernel, rfl, by decide +kernel, by decide +kernel⟩, fun Γ => by kernel_rfl, fun _ _ _ _ _ _ us hl => match us, hl with | [_], _ => rfl, ⟨rfl, rfl⟩⟩
theorem ok__law_entry : EntOk tb 60 e__law_entry := ⟨⟨rfl, rfl, rfl, by decide +kernel, rfl, by decide +kernel, by decide +kernel⟩, fun Γ => by kernel_rfl, fun _ _ _ _ _ _ us hl => match us, hl with | [_, _, _], _ => rfl, ⟨rfl, rfl⟩⟩
theorem ok__law_leaf_worth : EntOk tb 60 e__law_leaf_worth := ⟨⟨rfl, rfl, rfl, by decide +kernel, rfl, by decide +kernel, by decide +kernel⟩, fun Γ => by kernel_rfl, fun _ _ _ _ _ _ us hl => match us, hl with | [_, _, _], _ => rfl, ⟨rfl, rfl⟩⟩
theorem ok__law_do_step : EntOk tb 60 e__law_do_step := ⟨⟨rfl, rfl, rfl, by decide +kernel, rfl, by decide +kernel, by decide +kernel⟩, fun Γ => by kernel_rfl, fun _ _ _ _ _ _ us hl => match us, hl with | [_, _, _, _], _ => rfl, ⟨rfl, rfl⟩⟩
theorem ok__law_plain_worth : EntOk tb 60 e__law_plain_worth := ⟨⟨rfl, rfl, rfl, by decide +kernel, rfl, by decide +kernel, by decide +kernel⟩, fun Γ => by kernel_rfl, fun _ _ _ _ _ _ us hl => match us, hl with | [_, _, _], _ => rfl, ⟨rfl, rfl⟩⟩
theorem ok__law_worth : EntOk tb 60 e__law_worth := ⟨⟨rfl, rfl, rfl, by decide +kernel, rfl, by decide +kernel, by decide +kernel⟩, fun Γ => by kernel_rfl, fun _ _ _ _ _ _ us hl => match us, hl with | [_, _, _], _ => rfl, ⟨rfl, rfl⟩⟩
theorem ok__law_hearing : EntOk tb 60 e__law_hearing := ⟨⟨rfl, rfl, rfl, by decide +kernel, rfl, by decide +kernel, by decide +kernel⟩, fun Γ => by kernel_rfl, fun _ _ _ _ _ _ us hl => match us, hl with | [_, _, _], _ => rfl, ⟨rfl, rfl⟩⟩
theorem ok__law_shape : EntOk tb 60 e__law_shape := ⟨⟨rfl, rfl, rfl, by decide +kernel, rfl, by decide +kernel, by decide +kernel⟩, fun Γ => by kernel_rfl, fun _ _ _ _ _ _ us hl => match us, hl with | [_], _ => rfl, ⟨rfl, rfl⟩⟩
theorem ok__law_tables : EntOk tb 60 e__law_tables := ⟨⟨rfl, rfl, rfl, by decide +kernel, rfl, by decide +kernel, by decide +kernel⟩, fun Γ => by kernel_rfl, fun _ _ _ _ _ _ us hl => match us, hl with | [_, _, _, _], _ => rfl, ⟨rfl, rfl⟩⟩
theorem ok__law_through : EntOk tb 60 e__law_through := ⟨⟨rfl, rfl, rfl, by decide +kernel, rfl, by decide +kernel, by decide +kernel⟩, fun Γ => by kernel_rfl, fun _ _ _ _ _ _ us hl => match us, hl with | [_, _, _, _], _ => rfl, ⟨rfl, rfl⟩⟩
theorem ok_law : EntOk tb 60 e_law := ⟨⟨rfl, rfl, rfl, by decide +kernel, rfl, by decide +kernel, by decide +kernel⟩, fun Γ => by kernel_rfl, fun _ _ _ _ _ _ us hl => match us, hl with | [_], _ => rfl, ⟨rfl, rfl⟩⟩
theorem kw_worth : KwOk e_worth := fun _ _ _ _ _ _ us hl => match us, hl with | [_, _, _, _], _ => rfl
theorem oks : ∀ e ∈ ents, EntOk tb 60 e := fun e he => by
  simp only [ents, List.mem_cons, List.not_mem_nil, or_false] at he
  rcases he with rfl | rfl | rfl | rfl | rfl | rfl | rfl | rfl | rfl | rfl | rfl | rfl | rfl | rfl | rfl | rfl | rfl | rfl | rfl | rfl | rfl | rfl | rfl | rfl | rfl | rfl | rfl | rfl | rfl | rfl | rfl | rfl | rfl | rfl | rfl | rfl | rfl | rfl | rfl | rfl | rfl | rfl | rfl | rfl | rfl | rfl | rfl | rfl | rfl
  · exact ok_things_of
  · exact ok_steps_of
  · exact ok_told_letters
  · exact ok_most_told
  · exact ok_power
  · exact ok_base_of
  · exact ok_entry_of
  · exact ok_do_number
  · exact ok_do_own
  · exact ok_do_heard
  · exact ok_do_count
  · exact ok_do_most
  · exact ok_do_mostof
  · exact ok_do_sorted
  · exact ok_do_table
  · exact ok_do_plus
  · exact ok_do_less
  · exact ok_do_times
  · exact ok_do_div
  · exact ok_do_rest
  · exact ok_do_if
  · exact ok_do_with
  · exact ok_do_leave
  · exact ok_steps_worth
  · exact ok_worth
  · exact ok__law_deal
  · exact ok__law_any
  · exact ok__law_of
  · exact ok__law_is_kind
  · exact ok__law_same
  · exact ok__law_all
  · exact ok__law_mixed
  · exact ok__law_power
  · exact ok__law_leaf
  · exact ok__law_plain_program
  · exact ok__law_with_program
  · exact ok__law_tree
  · exact ok__law_told_letters
  · exact ok__law_most
  · exact ok__law_entry
  · exact ok__law_leaf_worth
  · exact ok__law_do_step
  · exact ok__law_plain_worth
  · exact ok__law_worth
  · exact ok__law_hearing
  · exact ok__law_shape
  · exact ok__law_tables
  · exact ok__law_through
  · exact ok_law
theorem kws : ∀ e ∈ ents, (tb.kwf.lookup e.nm).isSome = true → KwOk e := fun e he hk => by
  simp only [ents, List.mem_cons, List.not_mem_nil, or_false] at he
  rcases he with rfl | rfl | rfl | rfl | rfl | rfl | rfl | rfl | rfl | rfl | rfl | rfl | rfl | rfl | rfl | rfl | rfl | rfl | rfl | rfl | rfl | rfl | rfl | rfl | rfl | rfl | rfl | rfl | rfl | rfl | rfl | rfl | rfl | rfl | rfl | rfl | rfl | rfl | rfl | rfl | rfl | rfl | rfl | rfl | rfl | rfl | rfl | rfl | rfl
  · exact absurd hk (by decide +kernel)
  · exact absurd hk (by decide +kernel)
  · exact absurd hk (by decide +kernel)
  · exact absurd hk (by decide +kernel)
  · exact absurd hk (by decide +kernel)
  · exact absurd hk (by decide +kernel)
  · exact absurd hk (by decide +kernel)
  · exact absurd hk (by decide +kernel)
  · exact absurd hk (by decide +kernel)
  · exact absurd hk (by decide +kernel)
  · exact absurd hk (by decide +kernel)
  · exact absurd hk (by decide +kernel)
  · exact absurd hk (by decide +kernel)
  · exact absurd hk (by decide +kernel)
  · exact absurd hk (by decide +kernel)
  · exact absurd hk (by decide +kernel)
  · exact absurd hk (by decide +kernel)
  · exact absurd hk (by decide +kernel)
  · exact absurd hk (by decide +kernel)
  · exact absurd hk (by decide +kernel)
  · exact absurd hk (by decide +kernel)
  · exact absurd hk (by decide +kernel)
  · exact absurd hk (by decide +kernel)
  · exact absurd hk (by decide +kernel)
  · exact kw_worth
  · exact absurd hk (by decide +kernel)
  · exact absurd hk (by decide +kernel)
  · exact absurd hk (by decide +kernel)
  · exact absurd hk (by decide +kernel)
  · exact absurd hk (by decide +kernel)
  · exact absurd hk (by decide +kernel)
  · exact absurd hk (by decide +kernel)
  · exact absurd hk (by decide +kernel)
  · exact absurd hk (by decide +kernel)
  · exact absurd hk (by decide +kernel)
  · exact absurd hk (by decide +kernel)
  · exact absurd hk (by decide +kernel)
  · exact absurd hk (by decide +kernel)
  · exact absurd hk (by decide +kernel)
  · exact absurd hk (by decide +kernel)
  · exact absurd hk (by decide +kernel)
  · exact absurd hk (by decide +kernel)
  · exact absurd hk (by decide +kernel)
  · exact absurd hk (by decide +kernel)
  · exact absurd hk (by decide +kernel)
  · exact absurd hk (by decide +kernel)
  · exact absurd hk (by decide +kernel)
  · exact absurd hk (by decide +kernel)
  · exact absurd hk (by decide +kernel)
theorem kwps : ∀ q ∈ tb.kwp, KwP ents tb q := fun q hq => by
  exact absurd (show q ∈ ([] : List (Str × List Str × List Nat)) from hq) List.not_mem_nil
theorem tbs : tabB ents tb = true := by kernel_rfl
theorem lk_things_of : (ptab ents).lookup ("things_of" : Str) = some e_things_of.fd := by kernel_rfl
theorem lk_steps_of : (ptab ents).lookup ("steps_of" : Str) = some e_steps_of.fd := by kernel_rfl
theorem lk_told_letters : (ptab ents).lookup ("told_letters" : Str) = some e_told_letters.fd := by kernel_rfl
theorem lk_most_told : (ptab ents).lookup ("most_told" : Str) = some e_most_told.fd := by kernel_rfl
theorem lk_power : (ptab ents).lookup ("power" : Str) = some e_power.fd := by kernel_rfl
theorem lk_base_of : (ptab ents).lookup ("base_of" : Str) = some e_base_of.fd := by kernel_rfl
theorem lk_entry_of : (ptab ents).lookup ("entry_of" : Str) = some e_entry_of.fd := by kernel_rfl
theorem lk_do_number : (ptab ents).lookup ("do_number" : Str) = some e_do_number.fd := by kernel_rfl
theorem lk_do_own : (ptab ents).lookup ("do_own" : Str) = some e_do_own.fd := by kernel_rfl
theorem lk_do_heard : (ptab ents).lookup ("do_heard" : Str) = some e_do_heard.fd := by kernel_rfl
theorem lk_do_count : (ptab ents).lookup ("do_count" : Str) = some e_do_count.fd := by kernel_rfl
theorem lk_do_most : (ptab ents).lookup ("do_most" : Str) = some e_do_most.fd := by kernel_rfl
theorem lk_do_mostof : (ptab ents).lookup ("do_mostof" : Str) = some e_do_mostof.fd := by kernel_rfl
theorem lk_do_sorted : (ptab ents).lookup ("do_sorted" : Str) = some e_do_sorted.fd := by kernel_rfl
theorem lk_do_table : (ptab ents).lookup ("do_table" : Str) = some e_do_table.fd := by kernel_rfl
theorem lk_do_plus : (ptab ents).lookup ("do_plus" : Str) = some e_do_plus.fd := by kernel_rfl
theorem lk_do_less : (ptab ents).lookup ("do_less" : Str) = some e_do_less.fd := by kernel_rfl
theorem lk_do_times : (ptab ents).lookup ("do_times" : Str) = some e_do_times.fd := by kernel_rfl
theorem lk_do_div : (ptab ents).lookup ("do_div" : Str) = some e_do_div.fd := by kernel_rfl
theorem lk_do_rest : (ptab ents).lookup ("do_rest" : Str) = some e_do_rest.fd := by kernel_rfl
theorem lk_do_if : (ptab ents).lookup ("do_if" : Str) = some e_do_if.fd := by kernel_rfl
theorem lk_do_with : (ptab ents).lookup ("do_with" : Str) = some e_do_with.fd := by kernel_rfl
theorem lk_do_leave : (ptab ents).lookup ("do_leave" : Str) = some e_do_leave.fd := by kernel_rfl
theorem lk_steps_worth : (ptab ents).lookup ("steps_worth" : Str) = some e_steps_worth.fd := by kernel_rfl
theorem lk_worth : (ptab ents).lookup ("worth" : Str) = some e_worth.fd := by kernel_rfl
theorem lk__law_deal : (ptab ents).lookup ("_law_deal" : Str) = some e__law_deal.fd := by kernel_rfl
theorem lk__law_any : (ptab ents).lookup ("_law_any" : Str) = some e__law_any.fd := by kernel_rfl
theorem lk__law_of : (ptab ents).lookup ("_law_of" : Str) = some e__law_of.fd := by kernel_rfl
theorem lk__law_is_kind : (ptab ents).lookup ("_law_is_kind" : Str) = some e__law_is_kind.fd := by kernel_rfl
theorem lk__law_same : (ptab ents).lookup ("_law_same" : Str) = some e__law_same.fd := by kernel_rfl
theorem lk__law_all : (ptab ents).lookup ("_law_all" : Str) = some e__law_all.fd := by kernel_rfl
theorem lk__law_mixed : (ptab ents).lookup ("_law_mixed" : Str) = some e__law_mixed.fd := by kernel_rfl
theorem lk__law_power : (ptab ents).lookup ("_law_power" : Str) = some e__law_power.fd := by kernel_rfl
theorem lk__law_leaf : (ptab ents).lookup ("_law_leaf" : Str) = some e__law_leaf.fd := by kernel_rfl
theorem lk__law_plain_program : (ptab ents).lookup ("_law_plain_program" : Str) = some e__law_plain_program.fd := by kernel_rfl
theorem lk__law_with_program : (ptab ents).lookup ("_law_with_program" : Str) = some e__law_with_program.fd := by kernel_rfl
theorem lk__law_tree : (ptab ents).lookup ("_law_tree" : Str) = some e__law_tree.fd := by kernel_rfl
theorem lk__law_told_letters : (ptab ents).lookup ("_law_told_letters" : Str) = some e__law_told_letters.fd := by kernel_rfl
theorem lk__law_most : (ptab ents).lookup ("_law_most" : Str) = some e__law_most.fd := by kernel_rfl
theorem lk__law_entry : (ptab ents).lookup ("_law_entry" : Str) = some e__law_entry.fd := by kernel_rfl
theorem lk__law_leaf_worth : (ptab ents).lookup ("_law_leaf_worth" : Str) = some e__law_leaf_worth.fd := by kernel_rfl
theorem lk__law_do_step : (ptab ents).lookup ("_law_do_step" : Str) = some e__law_do_step.fd := by kernel_rfl
theorem lk__law_plain_worth : (ptab ents).lookup ("_law_plain_worth" : Str) = some e__law_plain_worth.fd := by kernel_rfl
theorem lk__law_worth : (ptab ents).lookup ("_law_worth" : Str) = some e__law_worth.fd := by kernel_rfl
theorem lk__law_hearing : (ptab ents).lookup ("_law_hearing" : Str) = some e__law_hearing.fd := by kernel_rfl
theorem lk__law_shape : (ptab ents).lookup ("_law_shape" : Str) = some e__law_shape.fd := by kernel_rfl
theorem lk__law_tables : (ptab ents).lookup ("_law_tables" : Str) = some e__law_tables.fd := by kernel_rfl
theorem lk__law_through : (ptab ents).lookup ("_law_through" : Str) = some e__law_through.fd := by kernel_rfl
theorem lk_law : (ptab ents).lookup ("law" : Str) = some e_law.fd := by kernel_rfl
end K03

namespace K03
open PySem PySem.Spec L2 TL
open PyProof.Rows hiding St

abbrev Cl (d : Nat) : Calls := callI (ptab ents) d
abbrev SpAny (Γ : Calls) : Prop := ∀ (a b : Addr) (bound : Int) (S : Sto) (Q : VQ) (E : EQ), Deal a b S → 0 < bound → bound < 2 ^ 200 → (∀ k S', 0 ≤ k → k < bound → Deal a b S' → Fr a b S S' → Q (.int k) S') → Γ "_law_any" [.ref a, .int bound] S Q E
theorem t_len {a b : Addr} {mix : Int} {xs : List Val} {w1 w2 : Option Val} {S : Sto} {Q : Bool → Sto → Prop} {E : EQ} (a1 : S a = some (.lst [.ref b, .int mix])) (a2 : S b = some (.lst xs)) (q : Q (decide (0 < xs.length)) S) :
    tstB (bin2 gtP (callP lenP (consA (bin2 ixP (varI 0) (conI (.int 0))) nilA)) (conI (.int 0))) [some (.ref a), w1, w2] S Q E := by
  refine ix_ref0 a1 ?_
  show someP (match S b with
    | some (.lst xs) => some xs
    | _ => none) fun xs => Q (decide ((0 : Int) < (xs.length : Int))) S
  rw [a2]
  show Q (decide ((0 : Int) < (xs.length : Int))) S
  rw [show decide ((0 : Int) < (xs.length : Int)) = decide (0 < xs.length) from decide_eq_decide.mpr (by omega)]
  exact q
theorem any_ok (d : Nat) : SpAny (Cl (d + 1)) := by
  intro a b bound S Q E hd hb hb2 h
  refine callI_of lk__law_any rfl ?_
  generalize Cl d = Γ
  have hd0 := hd
  obtain ⟨ne, cs, mix, e1, e2, m1, m2, ml⟩ := hd
  have ne' : b ≠ a := fun z => ne z.symm
  have hdiv : ∀ n, CDivW n bound := fun n => divw_small hb hb2
  have h64 : ∀ n, CDivW n 64 := fun n => divw_small (by decide) (by decide)
  have hm : CMulW mix 48271 := mulw_small (by omega) (by decide)
  -- the end
  have fin : ∀ k S', 0 ≤ k → k < bound → Deal a b S' → Fr a b S S' → Q (.int k) (gcS true S S') := fun k S' h1 h2 h3 h4 => by
    show Q (.int k) (S'.within S)
    rw [hd0.within h4]
    exact h k S' h1 h2 h3 h4
  show m__law_any Γ (endsI true S Q E) [some (.ref a), some (.int bound), none] S
  unfold m__law_any
  refine ⟨fun m ρ S1 => ρ = [some (.ref a), some (.int bound), none] ∧ ∃ cs1 : List Int, cs1.length = m ∧ S1 a = some (.lst [.ref b, .int mix]) ∧ S1 b = some (.lst (cs1.map Val.int)) ∧ Fr a b S S1 ∧ cs1.length ≤ 63, ⟨cs.length, rfl, cs, rfl, e1, e2, Fr.refl, ml⟩, ?_⟩
  rintro m ρ S1 ⟨rfl, cs1, rfl, a1, a2, fr, l1⟩
  by_cases hcs : cs1 = []
  · subst hcs
    refine t_len a1 a2 ?_
    rw [show decide (0 < (([] : List Int).map Val.int).length) = false from rfl]
    refine t_len a1 a2 ?_
    rw [show decide (0 < (([] : List Int).map Val.int).length) = false from rfl]
    with_reducible refine ix_ref1 a1 ⟨hm, by decide, set_of (jj := 1) a1 rfl (ix_ref1 (x := .ref b) (v := .int ((mix * 48271 + 31) % 2147483647)) (xs := []) put_same ⟨h64 _, hb, ?_⟩)⟩
    refine fin _ _ (Int.emod_nonneg _ (by omega)) (Int.emod_lt_of_pos _ hb) ⟨ne, [], (mix * 48271 + 31) % 2147483647, put_same, ?_, by omega, by omega, l1⟩ ⟨fun c h1 h2 => ?_⟩
    · rw [put_ne ne']; exact a2
    · rw [put_ne h1]; exact fr.eq c h1 h2
  · obtain ⟨ms, n, rfl⟩ := snoc_of hcs
    have hpos : decide (0 < ((ms ++ [n]).map Val.int).length) = true := decide_eq_true (by rw [List.length_map, List.length_append]; exact Nat.succ_pos _)
    refine t_len a1 a2 ?_
    rw [hpos]
    by_cases hn : n = 0
    · with_reducible refine ix_ref0 a1 (ix_ref a2 atI_last (eq_of (eqOf_iit hn) ?_))
      with_reducible refine ix_ref0 a1 ⟨isl_ref a2, pop_of a2 get_last ?_⟩
      rw [List.length_append, List.length_singleton] at l1
      refine ⟨ms.length, by simp, rfl, ms, rfl, ?_, ?_, ⟨fun c h1 h2 => ?_⟩, by omega⟩
      · rw [put_ne ne]; exact a1
      · rw [put_same, drop_last]
      · rw [put_ne h2]; exact fr.eq c h1 h2
    · with_reducible refine ix_ref0 a1 (ix_ref a2 atI_last (eq_of (eqOf_iif hn) ?_))
      have b1 : (S1.put b (.lst (((ms ++ [n]).map Val.int).dropLast))) a = some (.lst [.ref b, .int mix]) := by rw [put_ne ne]; exact a1
      have b2 : (S1.put b (.lst (((ms ++ [n]).map Val.int).dropLast))) b = some (.lst (ms.map Val.int)) := by rw [put_same, drop_last]
      refine t_len a1 a2 ?_
      rw [hpos]
      with_reducible refine ix_ref0 a1 ⟨isl_ref a2, pop_of a2 get_last (ix_ref0 b1 ⟨isl_ref b2, hdiv _, app_of b2 ?_ ⟨hb, ?_⟩⟩)⟩
      · rw [List.length_append, List.length_singleton] at l1
        rw [List.length_map, sizeLine_eq]
        omega
      · refine fin _ _ (Int.emod_nonneg _ (by omega)) (Int.emod_lt_of_pos _ hb) ⟨ne, ms ++ [n / bound], mix, ?_, ?_, m1, m2, by simpa using l1⟩ ⟨fun c h1 h2 => ?_⟩
        · rw [put_ne ne]; exact b1
        · rw [put_same, getLast_map]
        · rw [put_ne h2, put_ne h2]; exact fr.eq c h1 h2

abbrev SpOf (Γ : Calls) : Prop := ∀ (a b : Addr) (xs : List Val) (S : Sto) (Q : VQ) (E : EQ), Deal a b S → xs ≠ [] → xs.length ≤ sizeLine → (∀ v S', v ∈ xs → Deal a b S' → Fr a b S S' → Q v S') → Γ "_law_of" [.ref a, .lst xs] S Q E
theorem of_ok (d : Nat) : SpOf (Cl (d + 2)) := by
  intro a b xs S Q E hd hne hl h
  refine callI_of lk__law_of rfl ?_
  show m__law_of (Cl (d + 1)) (endsI true S Q E) [some (.ref a), some (.lst xs)] S
  unfold m__law_of
  have hA := any_ok d
  generalize Cl (d + 1) = Γ at hA
  have h0 : 0 < xs.length := List.length_pos_iff.mpr hne
  rw [sizeLine_eq] at hl
  refine hA a b _ S _ _ hd (by omega) (by omega) fun k S' h1 h2 h3 h4 => ?_
  obtain ⟨n, rfl⟩ := Int.eq_ofNat_of_zero_le h1
  have hn : n < xs.length := by omega
  refine ixL_of (v := xs[n]) (by rw [at_nat hn]; exact List.getElem?_eq_getElem hn) ?_
  show Q xs[n] (S'.within S)
  rw [hd.within h4]
  exact h _ S' (List.getElem_mem hn) h3 h4

abbrev SpDeal (Γ : Calls) : Prop := ∀ (ns : List Int) (salt : Int) (S : Sto) (Q : VQ) (E : EQ), ns.length ≤ 63 → 0 ≤ salt → salt < 1000 → (∀ a b S', Deal a b S' → S a = none → S b = none → Fr a b S S' → Q (.ref a) S') → Γ "_law_deal" [.scr ns, .int salt] S Q E
theorem deal_ok (d : Nat) : SpDeal (Cl (d + 1)) := by
  intro ns salt S Q E hl s0 s1 h
  refine callI_of lk__law_deal rfl ?_
  generalize Cl d = Γ
  show m__law_deal Γ (endsI false S Q E) [some (.scr ns), some (.int salt), none, none, none, none] S
  unfold m__law_deal
  have hp : CPow 10 64 := ⟨by decide, by decide, by decide⟩
  have hp2 : CPow 10 18 := ⟨by decide, by decide, by decide⟩
  have c1 : CMulW ((10 : Int) ^ (64 : Int).toNat) ((10 : Int) ^ (64 : Int).toNat) := cmul_dec (by decide +kernel)
  have c2 : CMulW ((10 : Int) ^ (64 : Int).toNat * (10 : Int) ^ (64 : Int).toNat) ((10 : Int) ^ (64 : Int).toNat) := cmul_dec (by decide +kernel)
  have c3 : CMulW ((10 : Int) ^ (64 : Int).toNat * (10 : Int) ^ (64 : Int).toNat * (10 : Int) ^ (64 : Int).toNat) ((10 : Int) ^ (64 : Int).toNat) := cmul_dec (by decide +kernel)
  have c4 : CMulW ((10 : Int) ^ (64 : Int).toNat * (10 : Int) ^ (64 : Int).toNat * (10 : Int) ^ (64 : Int).toNat * (10 : Int) ^ (64 : Int).toNat) ((10 : Int) ^ (64 : Int).toNat) := cmul_dec (by decide +kernel)
  have c5 : CMulW ((10 : Int) ^ (64 : Int).toNat * (10 : Int) ^ (64 : Int).toNat * (10 : Int) ^ (64 : Int).toNat * (10 : Int) ^ (64 : Int).toNat * (10 : Int) ^ (64 : Int).toNat) ((10 : Int) ^ (64 : Int).toNat) := cmul_dec (by decide +kernel)
  have mp : (0 : Int) < (10 : Int) ^ (64 : Int).toNat * (10 : Int) ^ (64 : Int).toNat * (10 : Int) ^ (64 : Int).toNat * (10 : Int) ^ (64 : Int).toNat * (10 : Int) ^ (64 : Int).toNat * (10 : Int) ^ (64 : Int).toNat := by decide +kernel
  with_reducible refine ⟨hp, hp, c1, hp, c2, hp, c3, hp, c4, hp, c5, ?_⟩
  generalize (10 : Int) ^ (64 : Int).toNat * (10 : Int) ^ (64 : Int).toNat * (10 : Int) ^ (64 : Int).toNat * (10 : Int) ^ (64 : Int).toNat * (10 : Int) ^ (64 : Int).toNat * (10 : Int) ^ (64 : Int).toNat = most at mp ⊢
  have hcut : cutL (ns.map Val.int) none (some 63) = (cutL ns none (some 63)).map Val.int := cutL_map _ _ _ _
  have hcl : (cutL ns none (some 63)).length ≤ 63 := Nat.le_trans cutL_length hl
  show lcGo none (cutL (ns.map Val.int) none (some 63)) _ _ _ _ (cutL (ns.map Val.int) none (some 63)) [] S _
  rw [hcut]
  generalize cutL ns none (some 63) = ms at hcl
  refine lc_ints (fun _ => true) (fun n => .int ((if n < 0 then -n else n) % most)) trivial (by rw [sizeLine_eq]; omega) (fun n hn => ⟨fun Q hQ => hQ, fun _ Q hQ => ⟨mp, hQ⟩⟩) ?_
  have hfl : ((ms.filter fun _ => true).map fun n => Val.int ((if n < 0 then -n else n) % most)) = (ms.map fun n => (if n < 0 then -n else n) % most).map Val.int := by
    rw [List.filter_eq_self.mpr (fun _ _ => rfl), List.map_map]
    rfl
  rw [hfl]
  have hcl2 : (ms.map fun n => (if n < 0 then -n else n) % most).length ≤ 63 := by rw [List.length_map]; exact hcl
  generalize (ms.map fun n => (if n < 0 then -n else n) % most) = cs at hcl2
  refine ⟨mulw_small (by decide) (by omega), ?_⟩
  refine forGo_ind (fun r ρ S' => S' = S ∧ (∃ l : List Int, r = l.map Val.int) ∧ ∃ c mix, ρ = [some (.scr ns), some (.int salt), some (.int most), c, some (.lst (cs.map Val.int)), some (.int mix)] ∧ 0 ≤ mix ∧ mix < 2147483647) ?_ ?_ _ _ _ ⟨rfl, ⟨cs, rfl⟩, _, _, rfl, by omega, by omega⟩
  · rintro ρ S' ⟨rfl, _, c, mix, rfl, m0, m1⟩
    refine ⟨trivial, ?_⟩
    with_reducible refine lc_ints (fun n => decide ((10 : Int) ^ (18 : Int).toNat ≤ n)) Val.int ?_ ?_ ?_ ?_
    · trivial
    · rw [sizeLine_eq]
      omega
    · exact fun n hn => ⟨fun Q hQ => ⟨hp2, hQ⟩, fun _ Q hQ => hQ⟩
    have hcl3 : (cs.filter fun n => decide ((10 : Int) ^ (18 : Int).toNat ≤ n)).length ≤ 63 := Nat.le_trans (List.length_filter_le _ _) hcl2
    generalize (cs.filter fun n => decide ((10 : Int) ^ (18 : Int).toNat ≤ n)) = ds at hcl3
    intro b0 hb0
    refine ⟨show 2 ≤ sizeLine by decide, fun a0 ha0 => ?_⟩
    show Q (.ref a0) ((S'.put b0 (.lst (ds.map Val.int).reverse)).put a0 (.lst [.ref b0, .int mix]))
    have ne : a0 ≠ b0 := fun z => by rw [z, put_same] at ha0; cases ha0
    rw [put_ne ne] at ha0
    refine h a0 b0 _ ⟨ne, ds.reverse, mix, put_same, ?_, m0, m1, by rw [List.length_reverse]; exact hcl3⟩ ha0 hb0 ⟨fun c h1 h2 => ?_⟩
    · rw [put_ne ne.symm, put_same, List.map_reverse]
    · rw [put_ne h1, put_ne h2]
  · rintro x r ρ S' Kn hK ⟨rfl, ⟨l, hr⟩, c, mix, rfl, m0, m1⟩
    cases l with
    | nil => cases hr
    | cons n l =>
      have e1 : x = .int n := (List.cons.inj hr).1
      have e2 : r = l.map Val.int := (List.cons.inj hr).2
      subst e1
      with_reducible refine ⟨trivial, mulw_small (by omega) (by decide), by decide, by decide, ?_⟩
      exact hK _ _ ⟨rfl, ⟨l, e2⟩, _, _, rfl, Int.emod_nonneg _ (by decide), Int.emod_lt_of_pos _ (by decide)⟩
theorem len_eq' {S : Sto} {L : Val} {xs : List Val} (h : lstOf S L = some xs) (Q : VQ) : lenP [L] S Q = Q (.int xs.length) S := by
  cases L with
  | lst ys => cases h; rfl
  | ref e =>
    have h' : (match S e with
      | some (.lst xs) => some xs
      | _ => none) = some xs := h
    show someP (match S e with
      | some (.lst xs) => some xs
      | _ => none) (fun xs => Q (.int xs.length) S) = _
    rw [h']
  | _ => cases h
theorem t_gt {m : IE} {L : Val} {xs : List Val} {ρ : ISt} {S : Sto} {Q : Bool → Sto → Prop} {E : EQ} (hm : ∀ Q : VQ, m ρ S Q E = Q L S) (h : lstOf S L = some xs) (k : Nat) (q : Q (decide (k < xs.length)) S) : tstB (bin2 gtP (callP lenP (consA m nilA)) (conI (.int k))) ρ S Q E := by
  show m ρ S (fun x S1 => lenP [x] S1 fun v S2 => gtP v (.int k) S2 fun x S1 => match x with
    | .bl k => Q k S1
    | _ => False) E
  rw [hm, len_eq' h]
  show Q (decide ((k : Int) < (xs.length : Int))) S
  rw [show decide ((k : Int) < (xs.length : Int)) = decide (k < xs.length) from decide_eq_decide.mpr (by omega)]
  exact q
/-! ### equality told -/
abbrev SpKind (Γ : Calls) : Prop := ∀ (v : Val) (S : Sto) (Q : VQ) (E : EQ), (match v with
  | .non => True
  | .bl _ => True
  | .int _ => True
  | .str _ => True
  | _ => False) → Q (.bl true) S → Γ "_law_is_kind" [v, v] S Q E
theorem kind_ok (d : Nat) : SpKind (Cl (d + 1)) := by
  intro v S Q E h hq
  refine callI_of lk__law_is_kind rfl ?_
  have fin : Q (.bl true) (S.within S) := by rw [within_self]; exact hq
  show m__law_is_kind (Cl d) (endsI true S Q E) [some v, some v] S
  unfold m__law_is_kind
  generalize Cl d = Γ
  cases v with
  | non => exact fin
  | bl k => cases k <;> exact fin
  | int i =>
    with_reducible refine isi_of (b := false) rfl rfl (by decide +kernel) ?_
    with_reducible refine isi_of (b := true) rfl rfl (by decide +kernel) ?_
    with_reducible refine isi_of (b := false) rfl rfl (by decide +kernel) ?_
    exact eq_of (eqOf_iit rfl) fin
  | str x =>
    with_reducible refine isi_of (b := true) rfl rfl (by decide +kernel) ?_
    with_reducible refine isi_of (b := true) rfl rfl (by decide +kernel) ?_
    exact eq_of (b := true) (show some (decide (x = x)) = some true by rw [decide_eq_true rfl]) fin
  | _ => exact h.elim
@[reducible] def pp (v : Val) : Val := .tup [v, v]
abbrev SpSame (Γ : Calls) : Prop := ∀ (i : Int) (S : Sto) (Q : VQ) (E : EQ), Q (.bl true) S → Γ "_law_same" [.int i, .int i] S Q E
theorem same_ok (d : Nat) : SpSame (Cl (d + 2)) := by
  intro i S Q E hq
  refine callI_of lk__law_same rfl ?_
  show m__law_same (Cl (d + 1)) (endsI true S Q E) [some (.int i), some (.int i), none, none, none, none] S
  have hK := kind_ok d
  unfold m__law_same
  generalize Cl (d + 1) = Γ at hK ⊢
  refine ⟨show 2 ≤ sizeLine by decide, show 1 ≤ sizeLine by decide, fun e he => ?_⟩
  refine ⟨fun m ρ S1 => ∃ (ts : List Int) (c3 c4 : Option Val), m = ts.length ∧ ts.length ≤ 1 ∧ (∀ t ∈ ts, t = i) ∧ ρ = [some (.int i), some (.int i), some (.ref e), c3, c4, none] ∧ S1 e = some (.lst (ts.map fun t => pp (.int t))) ∧ ∀ c, S c ≠ none → S1 c = S c,
    ⟨1, [i], none, none, rfl, Nat.le_refl _, fun t ht => List.mem_singleton.mp ht, rfl, put_same, fun c hc => put_ne fun z => hc (by rw [z]; exact he)⟩, ?_⟩
  rintro m ρ S1 ⟨ts, c3, c4, rfl, hm, hts, rfl, s1e, fr⟩
  have lt : lstOf S1 (.ref e) = some (ts.map fun t => pp (.int t)) := lsq_ref s1e
  refine t_gt (m := varI 2) (fun _ => rfl) lt 0 ?_
  cases ts with
  | nil =>
    show Q (.bl true) (S1.within S)
    rw [TL.within_old fr]
    exact hq
  | cons t r =>
    have hr : r = [] := by
      cases r with
      | nil => rfl
      | cons x r => simp at hm
    subst hr
    have ht : t = i := hts t List.mem_cons_self
    subst ht
    refine ⟨isl_ref s1e, pop_of s1e (y := pp (.int t)) rfl ?_⟩
    with_reducible refine isi_of (b := false) rfl rfl (by decide +kernel) ?_
    with_reducible refine isi_of (b := false) rfl rfl (by decide +kernel) ?_
    refine hK _ _ _ _ trivial ?_
    refine ⟨0, Nat.zero_lt_one, [], _, _, rfl, Nat.zero_le _, (fun _ h => nomatch h), rfl, put_same, fun c hc => ?_⟩
    rw [put_ne fun z => hc (by rw [z]; exact he)]
    exact fr c hc
abbrev SpAll (Γ : Calls) : Prop := ∀ (vs : List Int) (S : Sto) (Q : VQ) (E : EQ) (a : Addr), S a = some (.lst (vs.map fun i => pp (.int i))) → vs.length ≤ 1048576 → Q (.bl true) S → Γ "_law_all" [.ref a] S Q E
theorem all_ok (d : Nat) : SpAll (Cl (d + 3)) := fun vs S Q E a ha hl hq => by
  refine callI_of lk__law_all rfl ?_
  have hs := same_ok d
  have fin : Q (.bl true) (S.within S) := by rw [within_self]; exact hq
  show m__law_all (Cl (d + 2)) (endsI true S Q E) [some (.ref a), none, none] S
  unfold m__law_all
  generalize Cl (d + 2) = Γ at hs ⊢
  show (match S a with
    | some (.lst xs) => _
    | _ => False)
  rw [ha]
  refine lcGo_pure (fun _ => false) (fun v => v) ha _ [] (by rw [List.length_map, List.length_nil, sizeLine_eq]; omega) (fun x hx => ?_) ?_
  · obtain ⟨v, hv', rfl⟩ := List.mem_map.mp hx
    refine ⟨_, rfl, fun Q' hQ' => ?_, fun z => nomatch z⟩
    refine hs v S _ _ ?_
    exact hQ'
  · rw [List.filter_eq_nil_iff.mpr (fun _ _ => Bool.false_ne_true)]
    exact eq_of (eqOf_iit rfl) fin
end K03

namespace K03
open PySem PySem.Spec L2 TL
open PyProof.Rows hiding St

/-! ### expressions and steps, plainly -/
inductive Lf where
  | num (n : Int) | own | most | count (l : Int) | sorted (j : Nat) | mostof (ms : List Int) | heard (m : Int) | table (b : Nat) (es : List Int)
inductive Op where
  | plus | less | times
inductive Tr where
  | lf (l : Lf) | bi (o : Op) (a b : Tr) | un (dv : Bool) (n : Int) (a : Tr) | ife (s : Bool) (a b c d : Tr)
inductive Stp where
  | lf (l : Lf) | bi (o : Op) | un (dv : Bool) (n : Int) | ife (s : Bool)
def Lf.w : Lf → Str
  | .num _ => "number" | .own => "own" | .most => "most" | .count _ => "count" | .sorted _ => "sorted" | .mostof _ => "mostof" | .heard _ => "heard" | .table _ _ => "table"
def Lf.args : Lf → List Val
  | .num n => [.int n] | .own => [] | .most => [] | .count l => [.int l] | .sorted j => [.int j] | .mostof ms => [tiV ms] | .heard m => [.int m] | .table _ es => [tiV es]
def Op.w : Op → Str
  | .plus => "plus" | .less => "less" | .times => "times"
def unW : Bool → Str
  | true => "div" | false => "rest"
def ifW : Bool → Str
  | true => "same" | false => "below"
def Stp.w : Stp → Str
  | .lf l => l.w | .bi o => o.w | .un dv _ => unW dv | .ife _ => "if"
def Stp.args : Stp → List Val
  | .lf l => l.args | .bi _ => [] | .un _ n => [.int n] | .ife s => [.str (ifW s)]
def Lf.val (l : Lf) : Val := .tup (.str l.w :: l.args)
def Stp.val (s : Stp) : Val := .tup (.str s.w :: s.args)
def Tr.val : Tr → Val
  | .lf l => l.val
  | .bi o a b => .tup [.str o.w, a.val, b.val]
  | .un dv n a => .tup [.str (unW dv), a.val, .int n]
  | .ife s a b c d => .tup [.str "if", .str (ifW s), a.val, b.val, c.val, d.val]
def Tr.steps : Tr → List Stp
  | .lf l => [.lf l]
  | .bi o a b => a.steps ++ (b.steps ++ [.bi o])
  | .un dv n a => a.steps ++ [.un dv n]
  | .ife s a b c d => a.steps ++ (b.steps ++ (c.steps ++ (d.steps ++ [.ife s])))
def Tr.ht : Tr → Nat
  | .lf _ => 2
  | .bi _ a b => max a.ht b.ht + 1
  | .un _ _ a => a.ht + 1
  | .ife _ a b c d => max (max a.ht b.ht) (max c.ht d.ht) + 1
abbrev plainW : List Str := ["number", "own", "heard", "count", "most", "sorted", "mostof", "table"]
abbrev pairW : List Str := ["plus", "less", "times"]

/-! ### the worth, plainly -/
abbrev Hr := List (Int × Int)
def prV (p : Int × Int) : Val := .tup [.int p.1, .int p.2]
def hrV (h : Hr) : List Val := h.map prV
def told (h : Hr) : List Int := (h.filter fun p => decide (0 ≤ p.2)).map (·.2)
def mostN (cs ls : List Int) : Int := (ls.foldl (fun (s : Int × Int) l => if s.2 < (cs.count l : Int) then (l, (cs.count l : Int)) else s) (0, 0)).1
def mostW (ls : List Int) : Int := mostN ls (srtB ltI ls)
/-- the number of a table's entry -/
def numE (b : Nat) (own : Int) (h : Hr) : Int := h.foldl (fun a p => a * (b : Int) + (if 0 > p.2 then 0 else p.2)) own
def Lf.worth (own : Int) (h : Hr) : Lf → Option Int
  | .num n => some n
  | .own => some own
  | .most => some (mostW (told h))
  | .count l => some (((told h).count l : Nat) : Int)
  | .sorted j => some ((srtB ltI (told h)).getD j 0)
  | .mostof ms => some (mostW (told (h.filter fun p => decide (p.1 ∈ ms))))
  | .heard m => (h.find? (fun p => decide (p.1 = m))).map fun p => if 0 > p.2 then 0 else p.2
  | .table b es => if es.length = b ^ (1 + h.length) ∧ (1 ≤ b ∧ b ≤ 16) ∧ es.length ≤ 1000 ∧ 0 ≤ own then es[(numE b own h).toNat]? else none
instance (i j : Int) : Decidable (CMulW i j) := by unfold CMulW; infer_instance
def opW : Op → Int → Int → Option Int
  | .plus, a, b => some (a + b)
  | .less, a, b => some (a - b)
  | .times, a, b => if CMulW a b then some (a * b) else none
def unF (dv : Bool) (n a : Int) : Option Int := if 0 < n ∧ n < 2 ^ 200 then some (if dv then a / n else a % n) else none
def ifF (s : Bool) (a b c d : Int) : Int := if (if s then decide (a = b) else decide (a < b)) then c else d
def stepW (own : Int) (h : Hr) : Stp → List Int → Option (List Int)
  | .lf l, st => (l.worth own h).map (· :: st)
  | .bi o, b :: a :: st => (opW o a b).map (· :: st)
  | .un dv n, a :: st => (unF dv n a).map (· :: st)
  | .ife s, d :: c :: b :: a :: st => some (ifF s a b c d :: st)
  | _, _ => none
def runW (own : Int) (h : Hr) : List Stp → List Int → Option (List Int)
  | [], st => some st
  | s :: r, st => (stepW own h s st).bind (runW own h r)
def Tr.worth (own : Int) (h : Hr) : Tr → Option Int
  | .lf l => l.worth own h
  | .bi o a b => (a.worth own h).bind fun x => (b.worth own h).bind fun y => opW o x y
  | .un dv n a => (a.worth own h).bind fun x => unF dv n x
  | .ife s a b c d => (a.worth own h).bind fun x => (b.worth own h).bind fun y => (c.worth own h).bind fun z => (d.worth own h).map fun w => ifF s x y z w
theorem run_tree {own : Int} {h : Hr} : ∀ (t : Tr) (w : Int) (r : List Stp) (st : List Int), t.worth own h = some w → runW own h (t.steps ++ r) st = runW own h r (w :: st)
  | .lf l, w, r, st, e => by
    have e : l.worth own h = some w := e
    show ((l.worth own h).map (· :: st)).bind (runW own h r) = _
    rw [e]
    rfl
  | .bi o a b, w, r, st, e => by
    obtain ⟨x, hx, e⟩ := Option.bind_eq_some_iff.mp (show ((a.worth own h).bind fun x => (b.worth own h).bind fun y => opW o x y) = some w from e)
    obtain ⟨y, hy, e⟩ := Option.bind_eq_some_iff.mp e
    show runW own h ((a.steps ++ (b.steps ++ [.bi o])) ++ r) st = _
    rw [List.append_assoc, run_tree a x _ _ hx, List.append_assoc, run_tree b y _ _ hy]
    show ((opW o x y).map (· :: st)).bind (runW own h r) = _
    rw [e]
    rfl
  | .un dv n a, w, r, st, e => by
    obtain ⟨x, hx, e⟩ := Option.bind_eq_some_iff.mp (show ((a.worth own h).bind fun x => unF dv n x) = some w from e)
    show runW own h ((a.steps ++ [.un dv n]) ++ r) st = _
    rw [List.append_assoc, run_tree a x _ _ hx]
    show ((unF dv n x).map (· :: st)).bind (runW own h r) = _
    rw [e]
    rfl
  | .ife s a b c d, w, r, st, e => by
    obtain ⟨x, hx, e⟩ := Option.bind_eq_some_iff.mp (show ((a.worth own h).bind fun x => (b.worth own h).bind fun y => (c.worth own h).bind fun z => (d.worth own h).map fun w => ifF s x y z w) = some w from e)
    obtain ⟨y, hy, e⟩ := Option.bind_eq_some_iff.mp e
    obtain ⟨z, hz, e⟩ := Option.bind_eq_some_iff.mp e
    obtain ⟨v, hv, e⟩ := Option.map_eq_some_iff.mp e
    subst e
    show runW own h ((a.steps ++ (b.steps ++ (c.steps ++ (d.steps ++ [.ife s])))) ++ r) st = _
    rw [List.append_assoc, run_tree a x _ _ hx, List.append_assoc, run_tree b y _ _ hy, List.append_assoc, run_tree c z _ _ hz, List.append_assoc, run_tree d v _ _ hv]
    rfl
theorem run_top {own : Int} {h : Hr} {t : Tr} {w : Int} (e : t.worth own h = some w) : runW own h t.steps [] = some [w] := by
  have := run_tree t w [] [] e
  rw [List.append_nil] at this
  exact this
/-! ### the trees that steps make -/
def stepT : Stp → List Tr → Option (List Tr)
  | .lf l, st => some (.lf l :: st)
  | .bi o, b :: a :: st => some (.bi o a b :: st)
  | .un dv n, a :: st => some (.un dv n a :: st)
  | .ife s, d :: c :: b :: a :: st => some (.ife s a b c d :: st)
  | _, _ => none
def runT : List Stp → List Tr → Option (List Tr)
  | [], st => some st
  | s :: r, st => (stepT s st).bind (runT r)
theorem runT_tree : ∀ (t : Tr) (r : List Stp) (st : List Tr), runT (t.steps ++ r) st = runT r (t :: st)
  | .lf l, r, st => rfl
  | .bi o a b, r, st => by
    show runT ((a.steps ++ (b.steps ++ [.bi o])) ++ r) st = _
    rw [List.append_assoc, runT_tree a, List.append_assoc, runT_tree b]
    rfl
  | .un dv n a, r, st => by
    show runT ((a.steps ++ [.un dv n]) ++ r) st = _
    rw [List.append_assoc, runT_tree a]
    rfl
  | .ife s a b c d, r, st => by
    show runT ((a.steps ++ (b.steps ++ (c.steps ++ (d.steps ++ [.ife s])))) ++ r) st = _
    rw [List.append_assoc, runT_tree a, List.append_assoc, runT_tree b, List.append_assoc, runT_tree c, List.append_assoc, runT_tree d]
    rfl
theorem runT_top (t : Tr) : runT t.steps [] = some [t] := by
  have := runT_tree t [] []
  rw [List.append_nil] at this
  exact this
/-! ### stacks -/
def stk (st : List Int) : List Val := (st.map Val.int).reverse
theorem stk_cons {x : Int} {st : List Int} : stk (x :: st) = stk st ++ [.int x] := by simp [stk]
theorem stk_len {st : List Int} : (stk st).length = st.length := by simp [stk]
theorem stepW_len {own : Int} {h : Hr} {s : Stp} {st st' : List Int} (e : stepW own h s st = some st') : st'.length ≤ st.length + 1 := by
  unfold stepW at e
  split at e
  · obtain ⟨x, _, rfl⟩ := Option.map_eq_some_iff.mp e; simp
  · obtain ⟨x, _, rfl⟩ := Option.map_eq_some_iff.mp e; simp
  · obtain ⟨x, _, rfl⟩ := Option.map_eq_some_iff.mp e; simp
  · cases e; simp only [List.length_cons]; omega
  · cases e
def stkT (st : List Tr) : List Val := (st.map Tr.val).reverse
theorem stkT_cons {x : Tr} {st : List Tr} : stkT (x :: st) = stkT st ++ [x.val] := by simp [stkT]
theorem stkT_len {st : List Tr} : (stkT st).length = st.length := by simp [stkT]
theorem stepT_len {s : Stp} {st st' : List Tr} (e : stepT s st = some st') : st'.length ≤ st.length + 1 := by
  unfold stepT at e
  split at e <;> cases e <;> simp <;> omega
/-! ### told letters -/
theorem most_eq (ls : List Int) : mostN (srtB ltI ls) (srtB ltI ls) = mostW ls := by
  unfold mostW mostN
  simp only [fun l => (srtB_perm (lt := ltI) ls).count_eq l]
end K03

namespace K03
open PySem PySem.Spec L2 TL
open PyProof.Rows hiding St

/-! ### the program's steps -/
structure GH (h : Hr) : Prop where
  lo : ∀ p ∈ h, -1 ≤ p.2
  hi : ∀ p ∈ h, p.2 ≤ 1000
  nd : (h.map (·.1)).Nodup
  len : h.length ≤ 1000
theorem GH.filter {h : Hr} (g : GH h) (q : Int × Int → Bool) : GH (h.filter q) := ⟨fun p hp => g.lo p (List.mem_filter.mp hp).1, fun p hp => g.hi p (List.mem_filter.mp hp).1, (g.nd.sublist (List.Sublist.map _ List.filter_sublist)), Nat.le_trans (List.length_filter_le _ _) g.len⟩
theorem told_len (h : Hr) : (told h).length ≤ h.length := by
  unfold told
  rw [List.length_map]
  exact List.length_filter_le _ _
theorem walkX {a : IE} {ρ : ISt} {S : Sto} {v : Val} {xs : List Val} (ha : EV a ρ S v) (h : v = .set xs ∨ v = .lst xs) (K : Option Addr → List Val → Sto → Prop) (E : EQ) (q : K none xs S) : walkI a ρ S K E := ha _ _ (by
  rcases h with rfl | rfl <;> exact q)
abbrev SpTold (Γ : Calls) : Prop := ∀ (v : Val) (h : Hr) (S : Sto) (Q : VQ) (E : EQ), (v = .set (hrV h) ∨ v = .lst (hrV h)) → GH h → Q (.lst ((told h).map Val.int)) S → Γ "told_letters" [v] S Q E
theorem told_ok (d : Nat) : SpTold (Cl (d + 1)) := by
  intro v h S Q E hv g hq
  refine callI_of lk_told_letters rfl ?_
  show m_told_letters (Cl d) (endsI true S Q E) [some v, none, none] S
  unfold m_told_letters
  have hl := g.len
  refine sq_ret (EV.lcP prV h (fun p => decide (0 ≤ p.2)) (fun p => .int p.2) (walkX (EV.var fun _ z => z) hv) trivial (by rw [sizeLine_eq]; omega) fun p hp => ⟨[some v, some (.int p.1), some (.int p.2)], rfl, TT.neI (EV.var fun _ z => z) (EV.con _) ?_, fun _ => EV.var fun _ z => z⟩) ?_
  · have := g.lo p hp
    by_cases e : p.2 = -1
    · rw [e]; rfl
    · rw [decide_eq_false e, decide_eq_true (by omega)]; rfl
  · show Q _ (S.within S)
    rw [within_self]
    have e : (h.filter fun p => decide (0 ≤ p.2)).map (fun p => Val.int p.2) = (told h).map Val.int := by
      unfold told
      rw [List.map_map]
      rfl
    rw [e]
    exact hq
abbrev SpMost (Γ : Calls) : Prop := ∀ (ls : List Int) (S : Sto) (Q : VQ) (E : EQ), Q (.int (mostW ls)) S → Γ "most_told" [.lst (ls.map Val.int)] S Q E
theorem most_ok (d : Nat) : SpMost (Cl (d + 1)) := by
  intro ls S Q E hq
  refine callI_of lk_most_told rfl ?_
  show m_most_told (Cl d) (endsI true S Q E) [some (.lst (ls.map Val.int)), none, none, none, none] S
  unfold m_most_told
  refine sq_tp (ρ1 := [some (.lst (ls.map Val.int)), some (.int 0), some (.int 0), none, none]) (EV.tup2 (EV.con _) (EV.con _)) rfl ?_
  refine sq_for (walkL (EV.sort (ns := ls) (EV.var fun _ z => z))) ?_
  refine forGo_ind (fun r ρ S' => S' = S ∧ ∃ (rl : List Int) (s : Int × Int) (c3 c4 : Option Val), r = rl.map Val.int ∧ ρ = [some (.lst (ls.map Val.int)), some (.int s.1), some (.int s.2), c3, c4] ∧
    (rl.foldl (fun (s : Int × Int) l => if s.2 < (ls.count l : Int) then (l, (ls.count l : Int)) else s) s).1 = mostW ls) ?_ ?_ _ _ _ ⟨rfl, srtB ltI ls, (0, 0), none, none, rfl, rfl, rfl⟩
  · rintro ρ S' ⟨rfl, rl, s, c3, c4, e, rfl, h⟩
    refine ⟨trivial, ?_⟩
    have : rl = [] := List.map_eq_nil_iff.mp e.symm
    subst this
    have h : s.1 = mostW ls := h
    show Q (.int s.1) (S'.within S')
    rw [within_self, h]
    exact hq
  · rintro x r ρ S' Kn hK ⟨rfl, rl, s, c3, c4, e, rfl, h⟩
    cases rl with
    | nil => cases e
    | cons l rl =>
      have e1 : x = .int l := (List.cons.inj e).1
      have e2 : r = rl.map Val.int := (List.cons.inj e).2
      subst e1
      refine ⟨trivial, ?_⟩
      refine sq_set (EV.count (ns := ls) (EV.var fun _ z => z) (EV.var fun _ z => z)) ?_
      rw [List.foldl_cons] at h
      by_cases hc : s.2 < (ls.count l : Int)
      · refine sq_if_t (TT.cmp (EV.var fun _ z => z) (EV.var fun _ z => z) (decide_eq_true hc)) ?_
        rw [if_pos hc] at h
        exact sq_par2 (EV.var fun _ z => z) (EV.var fun _ z => z) rfl (hK _ _ ⟨rfl, rl, _, _, _, e2, rfl, h⟩)
      · refine sq_if_n (TT.cmp (EV.var fun _ z => z) (EV.var fun _ z => z) (decide_eq_false hc)) ?_
        rw [if_neg hc] at h
        exact hK _ _ ⟨rfl, rl, s, _, _, e2, rfl, h⟩

structure Wk (wa va : Addr) (vv : List Val) (own : Int) (h : Hr) (st : List Int) (S : Sto) : Prop where
  ne : wa ≠ va
  w : S wa = some (.lst (stk st))
  v : S va = some (.lst (vv ++ [.tup [.int own, .set (hrV h)]]))
  l : st.length ≤ 1000
abbrev SpDo (Γ : Calls) (f : Str) (s : Stp) : Prop := ∀ (vv : List Val) (own : Int) (h : Hr) (wa va : Addr) (st st' : List Int) (S : Sto) (Q : VQ) (E : EQ), GH h → Wk wa va vv own h st S → stepW own h s st = some st' → Q .non (S.put wa (.lst (stk st'))) → Γ f [s.val, .ref wa, .ref va] S Q E
theorem atI_end {vv : List Val} {x : Val} : atI (vv ++ [x]) (-1) = some x := by
  have hl : (vv ++ [x]).length = vv.length + 1 := by simp
  unfold atI ixN
  rw [hl, if_neg (by decide), if_pos (by omega)]
  show (vv ++ [x])[((-1 : Int) + ((vv.length + 1 : Nat) : Int)).toNat]? = some x
  rw [show ((-1 : Int) + ((vv.length + 1 : Nat) : Int)).toNat = vv.length from by omega]
  simp
theorem Wk.fin {vv : List Val} {wa va : Addr} {own : Int} {h : Hr} {st : List Int} {S : Sto} {c : Cell} (W : Wk wa va vv own h st S) {S' : Sto} (h1 : S' wa = some c) (h2 : ∀ b, S b ≠ none → b ≠ wa → S' b = S b) : S'.within S = S.put wa c := within_put (by rw [W.w]; exact fun z => nomatch z) h2 h1
theorem Wk.fin1 {vv : List Val} {wa va : Addr} {own : Int} {h : Hr} {st : List Int} {S : Sto} {c : Cell} (W : Wk wa va vv own h st S) : (S.put wa c).within S = S.put wa c := W.fin put_same fun b _ e => put_ne e
section
variable {ρ : ISt} {S : Sto} {wa va : Addr} {own : Int} {h : Hr} {st : List Int} {vv : List Val}
theorem ev_own (W : Wk wa va vv own h st S) (hn : ∀ K : Val → Prop, K (.ref va) → getS ρ 2 K) : EV (bin2 ixP (bin2 ixP (varI 2) (un1 negP (conI (.int 1)))) (conI (.int 0))) ρ S (.int own) := EV.ixT (EV.ixR (EV.var hn) W.v (EV.neg (EV.con _)) atI_end) (EV.con _) at0
theorem ev_hr (W : Wk wa va vv own h st S) (hn : ∀ K : Val → Prop, K (.ref va) → getS ρ 2 K) : EV (bin2 ixP (bin2 ixP (varI 2) (un1 negP (conI (.int 1)))) (conI (.int 1))) ρ S (.set (hrV h)) := EV.ixT (EV.ixR (EV.var hn) W.v (EV.neg (EV.con _)) atI_end) (EV.con _) at1
end
/-- the end of a leaf -/
theorem leaf_end {vv : List Val} {wa va : Addr} {own x : Int} {h : Hr} {st st' : List Int} {S : Sto} {Q : VQ} {E : EQ} {l : Lf} {ρ : ISt} {m : IE} (W : Wk wa va vv own h st S) (e : stepW own h (.lf l) st = some st') (ew : l.worth own h = some x) (hn : ∀ K : Val → Prop, K (.ref wa) → getS ρ 1 K) (hm : EV m ρ S (.int x)) (hq : Q .non (S.put wa (.lst (stk st')))) :
    seqI (dropI (lmethI appendP (varI 1) (consA m nilA))) nextI (endsI true S Q E) ρ S := by
  have e : (l.worth own h).map (· :: st) = some st' := e
  rw [ew] at e
  cases e
  have hl := W.l
  refine sq_app hn W.w (by rw [stk_len, sizeLine_eq]; omega) hm ?_
  show Q .non ((S.put wa (.lst (stk st ++ [.int x]))).within S)
  rw [W.fin1, ← stk_cons]
  exact hq
theorem do_number (d : Nat) (n : Int) : SpDo (Cl (d + 1)) "do_number" (.lf (.num n)) := fun vv own h wa va st st' S Q E g W e hq => by
  refine callI_of lk_do_number rfl ?_
  show m_do_number (Cl d) (endsI true S Q E) [some (.tup [.str "number", .int n]), some (.ref wa), some (.ref va)] S
  exact leaf_end W e rfl (fun _ z => z) (EV.ixT (EV.var fun _ z => z) (EV.con _) at1) hq
theorem do_own (d : Nat) : SpDo (Cl (d + 1)) "do_own" (.lf .own) := fun vv own h wa va st st' S Q E g W e hq => by
  refine callI_of lk_do_own rfl ?_
  show m_do_own (Cl d) (endsI true S Q E) [some (.tup [.str "own"]), some (.ref wa), some (.ref va)] S
  exact leaf_end W e rfl (fun _ z => z) (ev_own W fun _ z => z) hq
theorem do_count (d : Nat) (l : Int) : SpDo (Cl (d + 2)) "do_count" (.lf (.count l)) := fun vv own h wa va st st' S Q E g W e hq => by
  refine callI_of lk_do_count rfl ?_
  have hT := told_ok d
  show m_do_count (Cl (d + 1)) (endsI true S Q E) [some (.tup [.str "count", .int l]), some (.ref wa), some (.ref va)] S
  unfold m_do_count
  generalize Cl (d + 1) = Γ at hT ⊢
  exact leaf_end W e rfl (fun _ z => z) (EV.count (EV.call1 (ev_hr W fun _ z => z) fun Q E q => hT _ h S Q E (.inl rfl) g q) (EV.ixT (EV.var fun _ z => z) (EV.con _) at1)) hq
theorem do_most (d : Nat) : SpDo (Cl (d + 2)) "do_most" (.lf .most) := fun vv own h wa va st st' S Q E g W e hq => by
  refine callI_of lk_do_most rfl ?_
  have hT := told_ok d
  have hM := most_ok d
  show m_do_most (Cl (d + 1)) (endsI true S Q E) [some (.tup [.str "most"]), some (.ref wa), some (.ref va)] S
  unfold m_do_most
  generalize Cl (d + 1) = Γ at hT hM ⊢
  exact leaf_end W e rfl (fun _ z => z) (EV.call1 (EV.call1 (ev_hr W fun _ z => z) fun Q E q => hT _ h S Q E (.inl rfl) g q) fun Q E q => hM _ S Q E q) hq
theorem ev_of (ms : List Int) (h : Hr) {ρ : ISt} {S : Sto} {a : IE} {k : Nat} {e0 : Val} (hl : h.length ≤ 1000) (ha : EV a ρ S (.set (hrV h)) ∨ EV a ρ S (.lst (hrV h)))
    (hx : ∀ p ∈ h, ∃ ρ1, tgI (.nm k) (prV p) (wipeI ρ [k]) = some ρ1 ∧ (∀ K : Val → Prop, K (prV p) → getS ρ1 k K) ∧ (∀ K : Val → Prop, K (.tup [e0, tiV ms]) → getS ρ1 0 K)) :
    EV (lcI false (walkI a) (.nm k) (tstB (bin2 (inP false) (bin2 ixP (varI k) (conI (.int 0))) (bin2 ixP (varI 0) (conI (.int 1))))) (varI k) [k]) ρ S (.lst (hrV (h.filter fun p => decide (p.1 ∈ ms)))) := by
  unfold hrV
  refine EV.lcP prV h (fun p => decide (p.1 ∈ ms)) prV (g := none) (fun K E q => ?_) trivial (by rw [sizeLine_eq]; omega) fun p hp => ?_
  · rcases ha with ha | ha
    · exact ha _ _ q
    · exact ha _ _ q
  · obtain ⟨ρ1, h1, h2, h3⟩ := hx p hp
    refine ⟨ρ1, h1, TT.inn (neg := false) (EV.ixT (EV.var h2) (EV.con _) at0) (EV.ixT (EV.var h3) (EV.con _) at1) (ini_tup _ _ _), fun _ => EV.var h2⟩
theorem do_mostof (d : Nat) (ms : List Int) : SpDo (Cl (d + 2)) "do_mostof" (.lf (.mostof ms)) := fun vv own h wa va st st' S Q E g W e hq => by
  refine callI_of lk_do_mostof rfl ?_
  have hT := told_ok d
  have hM := most_ok d
  show m_do_mostof (Cl (d + 1)) (endsI true S Q E) [some (.tup [.str "mostof", tiV ms]), some (.ref wa), some (.ref va), none] S
  unfold m_do_mostof
  generalize Cl (d + 1) = Γ at hT hM ⊢
  refine leaf_end W e rfl (fun _ z => z) (EV.call1 (EV.call1 (ev_of ms h g.len (.inl (ev_hr W fun _ z => z)) fun p hp => ⟨_, rfl, fun _ z => z, fun _ z => z⟩) fun Q E q => hT _ (h.filter fun p => decide (p.1 ∈ ms)) S Q E (.inr rfl) (g.filter _) q) fun Q E q => hM _ S Q E q) hq
theorem getD_at (ls : List Int) (j : Nat) (hj : j < ls.length) : atI (ls.map Val.int) (j : Int) = some (.int (ls.getD j 0)) := by
  rw [at_nat (by rw [List.length_map]; exact hj), List.getElem?_map, List.getElem?_eq_getElem hj]
  simp [List.getD, List.getElem?_eq_getElem hj]
theorem ev_nth (ls : List Int) (j : Nat) {ρ : ISt} {S : Sto} {a b : IE} (ha : EV a ρ S (.lst (ls.map Val.int))) (hb : EV b ρ S (.int j)) : EV (ifE (tstB (bin2 ltP b (callP lenP (consA a nilA)))) (bin2 ixP a b) (conI (.int 0))) ρ S (.int (ls.getD j 0)) := by
  by_cases hj : j < ls.length
  · exact EV.ife (k := true) (TT.cmp hb (EV.lenL ha) (decide_eq_true (by rw [List.length_map]; omega))) (EV.ixL ha hb (getD_at ls j hj))
  · refine EV.ife (k := false) (TT.cmp hb (EV.lenL ha) (decide_eq_false (by rw [List.length_map]; omega))) ?_
    rw [show ls.getD j 0 = 0 from by simp [List.getD, List.getElem?_eq_none (Nat.le_of_not_lt hj)]]
    exact EV.con _
theorem do_sorted (d : Nat) (j : Nat) : SpDo (Cl (d + 2)) "do_sorted" (.lf (.sorted j)) := fun vv own h wa va st st' S Q E g W e hq => by
  refine callI_of lk_do_sorted rfl ?_
  have hT := told_ok d
  show m_do_sorted (Cl (d + 1)) (endsI true S Q E) [some (.tup [.str "sorted", .int j]), some (.ref wa), some (.ref va), none] S
  unfold m_do_sorted
  generalize Cl (d + 1) = Γ at hT ⊢
  refine sq_set (EV.sort (EV.call1 (ev_hr W fun _ z => z) fun Q E q => hT _ h S Q E (.inl rfl) g q)) ?_
  exact leaf_end W e rfl (fun _ z => z) (ev_nth _ j (EV.var fun _ z => z) (EV.ixT (EV.var fun _ z => z) (EV.con _) at1)) hq
theorem pairs_hr : ∀ h : Hr, pairsOf (hrV h) = some (h.map fun p => ((.inl p.1 : Key), Val.int p.2))
  | [] => rfl
  | p :: h => by
    show (match keyV (.int p.1), pairsOf (hrV h) with
      | some k, some kvs => some ((k, Val.int p.2) :: kvs)
      | _, _ => none) = _
    rw [pairs_hr h]
    rfl
theorem merge_nd : ∀ (h acc : Hr), ((acc ++ h).map (·.1)).Nodup → mergeP (acc.map fun p => ((.inl p.1 : Key), Val.int p.2)) (h.map fun p => ((.inl p.1 : Key), Val.int p.2)) = (acc ++ h).map fun p => ((.inl p.1 : Key), Val.int p.2)
  | [], acc, _ => by rw [List.append_nil]; rfl
  | p :: h, acc, nd => by
    have e : dPut (acc.map fun p => ((.inl p.1 : Key), Val.int p.2)) (.inl p.1) (.int p.2) = (acc ++ [p]).map fun p => ((.inl p.1 : Key), Val.int p.2) := by
      unfold dPut
      rw [if_neg]
      · rw [List.map_append]; rfl
      · intro hc
        obtain ⟨kv, h1, h2⟩ := List.any_eq_true.mp hc
        obtain ⟨q, h3, rfl⟩ := List.mem_map.mp h1
        have h2 : (.inl q.1 : Key) = .inl p.1 := of_decide_eq_true h2
        have h2 : q.1 = p.1 := Sum.inl.inj h2
        rw [List.map_append, List.map_cons] at nd
        have := (List.nodup_append.mp nd).2.2 q.1 (List.mem_map.mpr ⟨q, h3, rfl⟩) p.1 List.mem_cons_self
        exact this h2
    show mergeP (dPut (acc.map fun p => ((.inl p.1 : Key), Val.int p.2)) (.inl p.1) (.int p.2)) (h.map fun p => ((.inl p.1 : Key), Val.int p.2)) = _
    rw [e, merge_nd h (acc ++ [p]) (by rw [List.append_assoc]; exact nd), List.append_assoc]
    rfl
theorem dget_hr (m : Int) : ∀ h : Hr, dGet (h.map fun p => ((.inl p.1 : Key), Val.int p.2)) (.inl m) = (h.find? fun p => decide (p.1 = m)).map fun p => Val.int p.2
  | [] => rfl
  | p :: h => by
    have ih := dget_hr m h
    unfold dGet at ih ⊢
    rw [List.map_cons, List.find?_cons, List.find?_cons]
    by_cases e : p.1 = m
    · subst e
      rw [decide_eq_true rfl]
      simp
    · have e2 : ¬ (.inl p.1 : Key) = .inl m := fun z => e (Sum.inl.inj z)
      rw [decide_eq_false e]
      simp only [decide_eq_false e2]
      exact ih
theorem do_heard (d : Nat) (m : Int) : SpDo (Cl (d + 1)) "do_heard" (.lf (.heard m)) := fun vv own h wa va st st' S Q E g W e hq => by
  refine callI_of lk_do_heard rfl ?_
  show m_do_heard (Cl d) (endsI true S Q E) [some (.tup [.str "heard", .int m]), some (.ref wa), some (.ref va)] S
  have e : (((h.find? (fun p => decide (p.1 = m))).map fun p => if 0 > p.2 then 0 else p.2).map (· :: st)) = some st' := e
  have hl := W.l
  obtain ⟨x, hx, rfl⟩ := Option.map_eq_some_iff.mp e
  obtain ⟨p, hp, rfl⟩ := Option.map_eq_some_iff.mp hx
  have hg : dGet (mergeP [] (h.map fun p => ((.inl p.1 : Key), Val.int p.2))) (.inl m) = some (.int p.2) := by
    have := merge_nd h [] (by rw [List.nil_append]; exact g.nd)
    rw [List.map_nil, List.nil_append] at this
    rw [this, dget_hr, hp]
    rfl
  refine ⟨isl_ref W.w, ev_hr W (fun _ z => z) _ _ ?_⟩
  show someP (pairsOf (hrV h)) _
  rw [pairs_hr]
  refine fun a ha => ?_
  have hne : wa ≠ a := fun z => by rw [← z, W.w] at ha; cases ha
  refine ixT_of at1 (ix_dict_ put_same rfl hg ?_)
  refine app_of (xs := stk st) (by rw [put_ne hne]; exact W.w) (by rw [stk_len, sizeLine_eq]; omega) ?_
  show Q .non (Sto.within _ S)
  refine Eq.mpr (congrArg (Q .non) (W.fin (c := .lst (stk st ++ [.int (if 0 > p.2 then 0 else p.2)])) put_same (fun b hb hbw => ?_))) ?_
  · rw [put_ne hbw, put_ne (fun z => hb (by rw [z]; exact ha))]
  · rw [← stk_cons]
    exact hq
/-! two parts and more -/
theorem do_plus (d : Nat) : SpDo (Cl (d + 1)) "do_plus" (.bi .plus) := fun vv own h wa va st st' S Q E g W e hq => by
  refine callI_of lk_do_plus rfl ?_
  show m_do_plus (Cl d) (endsI true S Q E) [some (.tup [.str "plus"]), some (.ref wa), some (.ref va), none] S
  have hl := W.l
  match st, e, hl, W with
  | b :: a :: st, e, hl, W =>
    cases e
    have w := W.w
    rw [stk_cons, stk_cons] at w
    refine sq_pop (fun _ z => z) w ?_
    refine ⟨isl_ref put_same, isl_ref put_same, pop_end put_same (app_of put_same (by rw [stk_len, sizeLine_eq]; simp at hl; omega) ?_)⟩
    rw [put_put, put_put, ← stk_cons]
    show Q .non ((S.put wa _).within S)
    rw [W.fin1]
    exact hq
theorem do_less (d : Nat) : SpDo (Cl (d + 1)) "do_less" (.bi .less) := fun vv own h wa va st st' S Q E g W e hq => by
  refine callI_of lk_do_less rfl ?_
  show m_do_less (Cl d) (endsI true S Q E) [some (.tup [.str "less"]), some (.ref wa), some (.ref va), none] S
  have hl := W.l
  match st, e, hl, W with
  | b :: a :: st, e, hl, W =>
    cases e
    have w := W.w
    rw [stk_cons, stk_cons] at w
    refine sq_pop (fun _ z => z) w ?_
    refine ⟨isl_ref put_same, isl_ref put_same, pop_end put_same (app_of put_same (by rw [stk_len, sizeLine_eq]; simp at hl; omega) ?_)⟩
    rw [put_put, put_put, ← stk_cons]
    show Q .non ((S.put wa _).within S)
    rw [W.fin1]
    exact hq
theorem mulO {a b : Int} {st st' : List Int} {own : Int} {h : Hr} (e : stepW own h (.bi .times) (b :: a :: st) = some st') : CMulW a b ∧ st' = a * b :: st := by
  have e : (if CMulW a b then some (a * b) else none).map (· :: st) = some st' := e
  split at e
  · rename_i hc
    cases e
    exact ⟨hc, rfl⟩
  · cases e
theorem do_times (d : Nat) : SpDo (Cl (d + 1)) "do_times" (.bi .times) := fun vv own h wa va st st' S Q E g W e hq => by
  refine callI_of lk_do_times rfl ?_
  show m_do_times (Cl d) (endsI true S Q E) [some (.tup [.str "times"]), some (.ref wa), some (.ref va), none] S
  have hl := W.l
  match st, e, hl, W with
  | b :: a :: st, e, hl, W =>
    obtain ⟨hc, rfl⟩ := mulO e
    have w := W.w
    rw [stk_cons, stk_cons] at w
    refine sq_pop (fun _ z => z) w ?_
    refine ⟨isl_ref put_same, isl_ref put_same, pop_end put_same ⟨hc, app_of put_same (by rw [stk_len, sizeLine_eq]; simp at hl; omega) ?_⟩⟩
    rw [put_put, put_put, ← stk_cons]
    show Q .non ((S.put wa _).within S)
    rw [W.fin1]
    exact hq
theorem unO {dv : Bool} {n a : Int} {st st' : List Int} {own : Int} {h : Hr} (e : stepW own h (.un dv n) (a :: st) = some st') : (0 < n ∧ n < 2 ^ 200) ∧ st' = (if dv then a / n else a % n) :: st := by
  have e : (if 0 < n ∧ n < 2 ^ 200 then some (if dv then a / n else a % n) else none).map (· :: st) = some st' := e
  split at e
  · rename_i hc
    cases e
    exact ⟨hc, rfl⟩
  · cases e
theorem do_div (d : Nat) (n : Int) : SpDo (Cl (d + 1)) "do_div" (.un true n) := fun vv own h wa va st st' S Q E g W e hq => by
  refine callI_of lk_do_div rfl ?_
  show m_do_div (Cl d) (endsI true S Q E) [some (.tup [.str "div", .int n]), some (.ref wa), some (.ref va)] S
  have hl := W.l
  match st, e, hl, W with
  | a :: st, e, hl, W =>
    obtain ⟨⟨h1, h2⟩, rfl⟩ := unO e
    have w := W.w
    rw [stk_cons] at w
    refine ⟨isl_ref w, isl_ref w, pop_end w (ixT_of at1 ⟨divw_small h1 h2, app_of put_same (by rw [stk_len, sizeLine_eq]; simp at hl; omega) ?_⟩)⟩
    rw [put_put, ← stk_cons]
    show Q .non ((S.put wa _).within S)
    rw [W.fin1]
    exact hq
theorem do_rest (d : Nat) (n : Int) : SpDo (Cl (d + 1)) "do_rest" (.un false n) := fun vv own h wa va st st' S Q E g W e hq => by
  refine callI_of lk_do_rest rfl ?_
  show m_do_rest (Cl d) (endsI true S Q E) [some (.tup [.str "rest", .int n]), some (.ref wa), some (.ref va)] S
  have hl := W.l
  match st, e, hl, W with
  | a :: st, e, hl, W =>
    obtain ⟨⟨h1, h2⟩, rfl⟩ := unO e
    have w := W.w
    rw [stk_cons] at w
    refine ⟨isl_ref w, isl_ref w, pop_end w (ixT_of at1 ⟨h1, app_of put_same (by rw [stk_len, sizeLine_eq]; simp at hl; omega) ?_⟩)⟩
    rw [put_put, ← stk_cons]
    show Q .non ((S.put wa _).within S)
    rw [W.fin1]
    exact hq
theorem do_if (d : Nat) (s : Bool) : SpDo (Cl (d + 1)) "do_if" (.ife s) := fun vv own h wa va st st' S Q E g W e hq => by
  refine callI_of lk_do_if rfl ?_
  show m_do_if (Cl d) (endsI true S Q E) [some (.tup [.str "if", .str (ifW s)]), some (.ref wa), some (.ref va), none, none, none, none, none] S
  have hl := W.l
  match st, e, hl, W with
  | dd :: c :: b :: a :: st, e, hl, W =>
    cases e
    have w := W.w
    rw [stk_cons, stk_cons, stk_cons, stk_cons] at w
    refine sq_pop (fun _ z => z) w ?_
    refine sq_pop (fun _ z => z) put_same ?_
    refine sq_pop (fun _ z => z) put_same ?_
    refine sq_pop (fun _ z => z) put_same ?_
    rw [put_put, put_put, put_put]
    have hev : EV (ifE (tstB (bin2 eqP (bin2 ixP (varI 0) (conI (.int 1))) (conI (.str "same")))) (bin2 eqP (varI 6) (varI 5)) (bin2 ltP (varI 6) (varI 5))) [some (.tup [.str "if", .str (ifW s)]), some (.ref wa), some (.ref va), some (.int dd), some (.int c), some (.int b), some (.int a), none] (S.put wa (.lst (stk st))) (.bl (if s then decide (a = b) else decide (a < b))) := by
      refine EV.ife (k := s) (TT.eqS (EV.ixT (EV.var fun _ z => z) (EV.con _) at1) (EV.con _) (by cases s <;> decide +kernel)) ?_
      cases s with
      | true => exact EV.eqb (EV.var fun _ z => z) (EV.var fun _ z => z) eqOf_ii
      | false => exact EV.cmpb (EV.var fun _ z => z) (EV.var fun _ z => z) rfl
    refine sq_set hev ?_
    refine sq_app (v := .int (ifF s a b c dd)) (fun _ z => z) put_same (by rw [stk_len, sizeLine_eq]; simp at hl; omega) (EV.ife (TT.tru (EV.var fun _ z => z) rfl) ?_) ?_
    · unfold ifF
      generalize (if s then decide (a = b) else decide (a < b)) = k
      cases k with
      | true => exact EV.var fun _ z => z
      | false => exact EV.var fun _ z => z
    · rw [put_put, ← stk_cons]
      show Q .non ((S.put wa _).within S)
      rw [W.fin1]
      exact hq
end K03

namespace K03
open PySem PySem.Spec L2 TL
open PyProof.Rows hiding St

/-! ### tables -/
theorem pow_lt {b j : Nat} (hb : b ≤ 16) : b ^ j ≤ 2 ^ (4 * j) := by
  rw [Nat.pow_mul]
  exact Nat.pow_le_pow_left hb j
abbrev SpPower (Γ : Calls) : Prop := ∀ (b t : Nat) (S : Sto) (Q : VQ) (E : EQ), b ≤ 16 → t ≤ 1001 → Q (.int ((b ^ t : Nat) : Int)) S → Γ "power" [.int b, .int t] S Q E
theorem power_ok (d : Nat) : SpPower (Cl (d + 1)) := by
  intro b t S Q E hb ht hq
  refine callI_of lk_power rfl ?_
  show m_power (Cl d) (endsI true S Q E) [some (.int b), some (.int t), none, none] S
  unfold m_power
  refine sq_set (EV.con _) ?_
  refine sq_for (rng1 (EV.var fun _ z => z) (by omega) (by omega)) ?_
  refine forGo_ind (fun r ρ S' => S' = S ∧ ∃ (j : Nat) (c3 : Option Val), j + r.length = t ∧ ρ = [some (.int b), some (.int t), some (.int ((b ^ j : Nat) : Int)), c3]) ?_ ?_ _ _ _ ⟨rfl, 0, none, by unfold TL.upTo; simp, rfl⟩
  · rintro ρ S' ⟨rfl, j, c3, hj, rfl⟩
    refine ⟨trivial, ?_⟩
    rw [List.length_nil, Nat.add_zero] at hj
    subst hj
    show Q (.int ((b ^ j : Nat) : Int)) (S'.within S')
    rw [within_self]
    exact hq
  · rintro x r ρ S' Kn hK ⟨rfl, j, c3, hj, rfl⟩
    rw [List.length_cons] at hj
    refine ⟨trivial, ?_⟩
    have e : ((b ^ j : Nat) : Int) * (b : Int) = ((b ^ (j + 1) : Nat) : Int) := by rw [Nat.pow_succ]; push_cast; rfl
    refine ⟨.inr ⟨by omega, by omega⟩, ?_⟩
    have := hK [some (.int b), some (.int t), some (.int ((b ^ (j + 1) : Nat) : Int)), some x] S' ⟨rfl, j + 1, _, by omega, rfl⟩
    rw [← e] at this
    exact this
abbrev SpLPow (Γ : Calls) : Prop := ∀ (b t : Nat) (S : Sto) (Q : VQ) (E : EQ), b ≤ 16 → t ≤ 1001 → Q (.int ((b ^ t : Nat) : Int)) S → Γ "_law_power" [.int b, .int t] S Q E
theorem cmul_pow {b j : Nat} (hb : b ≤ 16) (hj : j ≤ 1001) : CMulW ((b ^ j : Nat) : Int) (b : Int) := by
  unfold CMulW
  rw [Int.natAbs_natCast, Int.natAbs_natCast]
  have h1 : (b ^ j).log2 ≤ 4 * j := by
    have := Nat.log2_lt (n := b ^ j) (k := 4 * j + 1)
    by_cases e : b ^ j = 0
    · rw [e]
      exact Nat.zero_le _
    · have h2 : b ^ j < 2 ^ (4 * j + 1) := Nat.lt_of_le_of_lt (pow_lt hb) (Nat.pow_lt_pow_right (by decide) (by omega))
      have := (Nat.log2_lt e).mpr h2
      omega
  have h2 : b.log2 ≤ 4 := by
    by_cases e : b = 0
    · rw [e]
      decide
    · have := (Nat.log2_lt (n := b) (k := 5) e).mpr (by omega)
      omega
  omega
theorem lpow_ok (d : Nat) : SpLPow (Cl (d + 1)) := by
  intro b t S Q E hb ht hq
  refine callI_of lk__law_power rfl ?_
  show m__law_power (Cl d) (endsI true S Q E) [some (.int b), some (.int t), none, none] S
  unfold m__law_power
  refine sq_set (EV.con _) ?_
  refine sq_for (rng1 (EV.var fun _ z => z) (by omega) (by omega)) ?_
  refine forGo_ind (fun r ρ S' => S' = S ∧ ∃ (j : Nat) (c3 : Option Val), j + r.length = t ∧ ρ = [some (.int b), some (.int t), some (.int ((b ^ j : Nat) : Int)), c3]) ?_ ?_ _ _ _ ⟨rfl, 0, none, by unfold TL.upTo; simp, rfl⟩
  · rintro ρ S' ⟨rfl, j, c3, hj, rfl⟩
    refine ⟨trivial, ?_⟩
    rw [List.length_nil, Nat.add_zero] at hj
    subst hj
    show Q (.int ((b ^ j : Nat) : Int)) (S'.within S')
    rw [within_self]
    exact hq
  · rintro x r ρ S' Kn hK ⟨rfl, j, c3, hj, rfl⟩
    rw [List.length_cons] at hj
    refine ⟨trivial, ?_⟩
    have e : ((b ^ j : Nat) : Int) * (b : Int) = ((b ^ (j + 1) : Nat) : Int) := by rw [Nat.pow_succ]; push_cast; rfl
    refine sq_set (v := .int ((b ^ (j + 1) : Nat) : Int)) ?_ (hK _ _ ⟨rfl, j + 1, _, by omega, rfl⟩)
    rw [← e]
    exact EV.mul (EV.var fun _ z => z) (EV.var fun _ z => z) (cmul_pow hb (by omega))
/-- the least base -/
abbrev SpBase (Γ : Calls) : Prop := ∀ (b k : Nat) (S : Sto) (Q : VQ) (E : EQ), 1 ≤ b → b ≤ 16 → k ≤ 1000 → Q (.int b) S → Γ "base_of" [.int ((b ^ (1 + k) : Nat) : Int), .int ((1 + k : Nat) : Int)] S Q E
theorem base_ok (d : Nat) : SpBase (Cl (d + 2)) := by
  intro b k S Q E hb hb2 hk hq
  refine callI_of lk_base_of rfl ?_
  have hP := power_ok d
  show m_base_of (Cl (d + 1)) (endsI true S Q E) [some (.int ((b ^ (1 + k) : Nat) : Int)), some (.int ((1 + k : Nat) : Int)), none] S
  unfold m_base_of
  generalize Cl (d + 1) = Γ at hP ⊢
  refine sq_set (EV.con _) ?_
  refine ⟨fun m ρ S' => S' = S ∧ ∃ c : Nat, m = b - c ∧ 1 ≤ c ∧ c ≤ b ∧ ρ = [some (.int ((b ^ (1 + k) : Nat) : Int)), some (.int ((1 + k : Nat) : Int)), some (.int (c : Int))], ⟨b - 1, rfl, 1, rfl, Nat.le_refl 1, hb, rfl⟩, ?_⟩
  rintro m ρ S' ⟨rfl, c, rfl, c1, c2, rfl⟩
  by_cases h : c < b
  · refine TT.cmp (p := fun i j => decide (i < j)) (i := ((c ^ (1 + k) : Nat) : Int)) (k := true) (EV.call2 (EV.var fun _ z => z) (EV.var fun _ z => z) fun Q E q => hP c (1 + k) S' Q E (by omega) (by omega) q) (EV.var fun _ z => z) (decide_eq_true ?_) _ _ ?_
    · have := Nat.pow_lt_pow_left h (show 1 + k ≠ 0 by omega)
      omega
    · exact ⟨b - (c + 1), by omega, rfl, c + 1, rfl, by omega, h, rfl⟩
  · have e : c = b := by omega
    subst e
    refine TT.cmp (p := fun i j => decide (i < j)) (i := ((c ^ (1 + k) : Nat) : Int)) (k := false) (EV.call2 (EV.var fun _ z => z) (EV.var fun _ z => z) fun Q E q => hP c (1 + k) S' Q E (by omega) (by omega) q) (EV.var fun _ z => z) (decide_eq_false (by omega)) _ _ ?_
    show Q (.int (c : Int)) (S'.within S')
    rw [within_self]
    exact hq
theorem num_mono {b : Nat} (hb : 1 ≤ b) : ∀ (h : Hr) (own : Int), 0 ≤ own → own ≤ numE b own h
  | [], own, _ => Int.le_refl _
  | p :: h, own, h0 => by
    have h1 : own ≤ own * (b : Int) := by
      have := Int.mul_le_mul_of_nonneg_left (show (1 : Int) ≤ b by omega) h0
      rw [Int.mul_one] at this
      exact this
    have h2 : 0 ≤ (if 0 > p.2 then 0 else p.2) := by split <;> omega
    have := num_mono hb h (own * (b : Int) + (if 0 > p.2 then 0 else p.2)) (by omega)
    show own ≤ numE b (own * (b : Int) + (if 0 > p.2 then 0 else p.2)) h
    omega
/-- what is known of a table's worth -/
theorem tab_inv {b : Nat} {es : List Int} {own x : Int} {h : Hr} (e : (Lf.table b es).worth own h = some x) : es.length = b ^ (1 + h.length) ∧ (1 ≤ b ∧ b ≤ 16) ∧ es.length ≤ 1000 ∧ 0 ≤ own ∧ 0 ≤ numE b own h ∧ numE b own h < es.length ∧ es[(numE b own h).toNat]? = some x := by
  have e : (if es.length = b ^ (1 + h.length) ∧ (1 ≤ b ∧ b ≤ 16) ∧ es.length ≤ 1000 ∧ 0 ≤ own then es[(numE b own h).toNat]? else none) = some x := e
  split at e
  · rename_i c
    obtain ⟨c1, c2, c3, c4⟩ := c
    have := num_mono c2.1 h own c4
    have hlt := (List.getElem?_eq_some_iff.mp e).1
    exact ⟨c1, c2, c3, c4, by omega, by omega, e⟩
  · cases e
theorem tab_at {es : List Int} {n x : Int} (h0 : 0 ≤ n) (e : es[n.toNat]? = some x) : atI (es.map Val.int) n = some (.int x) := by
  obtain ⟨n, rfl⟩ := Int.eq_ofNat_of_zero_le h0
  have hlt := (List.getElem?_eq_some_iff.mp e).1
  have hlt : n < es.length := hlt
  rw [at_nat (by rw [List.length_map]; exact hlt), List.getElem?_map]
  have e : es[n]? = some x := e
  rw [e]
  rfl
abbrev SpEntry (Γ : Calls) : Prop := ∀ (b : Nat) (es : List Int) (own x : Int) (h : Hr) (v : Val) (S : Sto) (Q : VQ) (E : EQ), (v = .set (hrV h) ∨ v = .lst (hrV h)) → GH h → (Lf.table b es).worth own h = some x → Q (.int x) S → Γ "entry_of" [tiV es, .int own, v] S Q E
theorem lenX {a : IE} {ρ : ISt} {S : Sto} {v : Val} {xs : List Val} (ha : EV a ρ S v) (h : v = .set xs ∨ v = .lst xs) : EV (callP lenP (consA a nilA)) ρ S (.int xs.length) := fun Q E q => ha _ _ (by
  rcases h with rfl | rfl <;> exact q)
theorem entry_ok (d : Nat) : SpEntry (Cl (d + 3)) := by
  intro b es own x h v S Q E hv g hx hq
  refine callI_of lk_entry_of rfl ?_
  have hB := base_ok d
  show m_entry_of (Cl (d + 2)) (endsI true S Q E) [some (tiV es), some (.int own), some v, none, none, none, none] S
  unfold m_entry_of
  generalize Cl (d + 2) = Γ at hB ⊢
  obtain ⟨c1, ⟨c2, c3⟩, c4, c5, c6, c7, c8⟩ := tab_inv hx
  have hl := g.len
  have hk : h.length ≤ 1000 := hl
  refine sq_set (v := .int (b : Int)) (EV.call2 (x := .int (es.map Val.int).length) (y := .int (1 + ((hrV h).length : Int))) (EV.lenT (EV.var fun _ z => z)) (EV.add (EV.con _) (lenX (EV.var fun _ z => z) hv)) fun Q E q => ?_) ?_
  · have e1 : ((es.map Val.int).length : Int) = ((b ^ (1 + h.length) : Nat) : Int) := by rw [List.length_map, c1]
    have e2 : (1 : Int) + ((hrV h).length : Int) = ((1 + h.length : Nat) : Int) := by
      unfold hrV
      rw [List.length_map]
      omega
    rw [e1, e2]
    exact hB b h.length S Q E c2 c3 hk q
  refine sq_set (EV.var fun _ z => z) ?_
  refine sq_for (walkX (EV.var fun _ z => z) hv) ?_
  refine forGo_ind (fun r ρ S' => S' = S ∧ ∃ (hr : Hr) (y : Int) (c5 c6 : Option Val), r = hrV hr ∧ 0 ≤ y ∧ numE b y hr = numE b own h ∧ (∀ p ∈ hr, p ∈ h) ∧ ρ = [some (tiV es), some (.int own), some v, some (.int (b : Int)), some (.int y), c5, c6]) ?_ ?_ _ _ _ ⟨rfl, h, own, none, none, rfl, c5, rfl, fun p hp => hp, rfl⟩
  · rintro ρ S' ⟨rfl, hr, y, c5, c6', e, y0, ey, _, rfl⟩
    refine ⟨trivial, ?_⟩
    have : hr = [] := List.map_eq_nil_iff.mp e.symm
    subst this
    have ey : y = numE b own h := ey
    refine sq_ret (EV.ixT (v := .int x) (EV.var fun _ z => z) (EV.var fun _ z => z) (tab_at y0 (by rw [ey]; exact c8))) ?_
    show Q (.int x) (S'.within S')
    rw [within_self]
    exact hq
  · rintro z r ρ S' Kn hK ⟨rfl, hr, y, c5', c6', e, y0, ey, hmem, rfl⟩
    cases hr with
    | nil => cases e
    | cons p hr =>
      have e1 : z = prV p := (List.cons.inj e).1
      have e2 : r = hrV hr := (List.cons.inj e).2
      subst e1
      have hym := num_mono c2 (p :: hr) y y0
      have h2 : 0 ≤ (if 0 > p.2 then 0 else p.2) := by split <;> omega
      have hyb : 0 ≤ y * (b : Int) := Int.mul_nonneg y0 (by omega)
      refine ⟨trivial, ?_⟩
      refine sq_set (v := .int (y * (b : Int) + (if 0 > p.2 then 0 else p.2))) (EV.add (EV.mul (EV.var fun _ z => z) (EV.var fun _ z => z) (mulw_small (by omega) (by omega))) (EV.max2 (EV.var fun _ z => z) (EV.con _))) ?_
      exact hK _ _ ⟨rfl, hr, _, _, _, e2, Int.add_nonneg hyb h2, ey, fun q hq => hmem q (List.mem_cons_of_mem _ hq), rfl⟩
theorem do_table (d : Nat) (b : Nat) (es : List Int) : SpDo (Cl (d + 4)) "do_table" (.lf (.table b es)) := fun vv own h wa va st st' S Q E g W e hq => by
  refine callI_of lk_do_table rfl ?_
  have hE := entry_ok d
  show m_do_table (Cl (d + 3)) (endsI true S Q E) [some (.tup [.str "table", tiV es]), some (.ref wa), some (.ref va)] S
  unfold m_do_table
  generalize Cl (d + 3) = Γ at hE ⊢
  obtain ⟨x, hx, _⟩ := Option.map_eq_some_iff.mp (show ((Lf.table b es).worth own h).map (· :: st) = some st' from e)
  exact leaf_end W e hx (fun _ z => z) (EV.call3 (EV.ixT (EV.var fun _ z => z) (EV.con _) at1) (ev_own W fun _ z => z) (ev_hr W fun _ z => z) fun Q E q => hE b es own x h _ S Q E (.inl rfl) g hx q) hq
/-- the law's own -/
abbrev SpLEntry (Γ : Calls) : Prop := ∀ (b : Nat) (es : List Int) (own x : Int) (h : Hr) (v : Val) (S : Sto) (Q : VQ) (E : EQ), (v = .set (hrV h) ∨ v = .lst (hrV h)) → GH h → (Lf.table b es).worth own h = some x → Q (.int x) S → Γ "_law_entry" [tiV es, .int own, v] S Q E
theorem lentry_ok (d : Nat) : SpLEntry (Cl (d + 2)) := by
  intro b es own x h v S Q E hv g hx hq
  refine callI_of lk__law_entry rfl ?_
  have hP := lpow_ok d
  show m__law_entry (Cl (d + 1)) (endsI true S Q E) [some (tiV es), some (.int own), some v, none, none, none, none, none] S
  unfold m__law_entry
  generalize Cl (d + 1) = Γ at hP ⊢
  obtain ⟨c1, ⟨c2, c3⟩, c4, c5, c6, c7, c8⟩ := tab_inv hx
  have hk : h.length ≤ 1000 := g.len
  have hbl : b ≤ es.length := by
    rw [c1]
    exact Nat.le_self_pow (by omega) b
  refine sq_set (EV.con _) ?_
  refine sq_for (rng1 (EV.lenT (EV.var fun _ z => z)) (by omega) (by rw [List.length_map]; omega)) ?_
  refine forGo_ind (fun r ρ S' => S' = S ∧ ∃ (c : Nat) (c4 : Option Val), 1 ≤ c ∧ c ≤ b ∧ b ≤ c + r.length ∧ ρ = [some (tiV es), some (.int own), some v, some (.int (c : Int)), c4, none, none, none]) ?_ ?_ _ _ _ ⟨rfl, 1, none, Nat.le_refl 1, c2, by unfold TL.upTo; rw [List.length_map, List.length_range, List.length_map, Int.toNat_natCast]; omega, rfl⟩
  · rintro ρ S' ⟨rfl, c, c4', h1, h2, h3, rfl⟩
    refine ⟨trivial, ?_⟩
    have e : c = b := by
      rw [List.length_nil] at h3
      omega
    subst e
    refine sq_set (EV.var fun _ z => z) ?_
    refine sq_for (walkX (EV.var fun _ z => z) hv) ?_
    refine forGo_ind (fun r ρ S1 => S1 = S' ∧ ∃ (hr : Hr) (y : Int) (c6 c7 : Option Val), r = hrV hr ∧ 0 ≤ y ∧ numE c y hr = numE c own h ∧ ρ = [some (tiV es), some (.int own), some v, some (.int (c : Int)), c4', some (.int y), c6, c7]) ?_ ?_ _ _ _ ⟨rfl, h, own, none, none, rfl, c5, rfl, rfl⟩
    · rintro ρ S1 ⟨rfl, hr, y, c6', c7', e, y0, ey, rfl⟩
      refine ⟨trivial, ?_⟩
      have : hr = [] := List.map_eq_nil_iff.mp e.symm
      subst this
      have ey : y = numE c own h := ey
      refine sq_ret (EV.ixT (v := .int x) (EV.var fun _ z => z) (EV.var fun _ z => z) (tab_at y0 (by rw [ey]; exact c8))) ?_
      show Q (.int x) (S1.within S1)
      rw [within_self]
      exact hq
    · rintro z r ρ S1 Kn hK ⟨rfl, hr, y, c6', c7', e, y0, ey, rfl⟩
      cases hr with
      | nil => cases e
      | cons p hr =>
        have e1 : z = prV p := (List.cons.inj e).1
        have e2 : r = hrV hr := (List.cons.inj e).2
        subst e1
        have hym := num_mono c2 (p :: hr) y y0
        have hyb : 0 ≤ y * (c : Int) := Int.mul_nonneg y0 (by omega)
        have h2 : 0 ≤ (if 0 > p.2 then 0 else p.2) := by split <;> omega
        have hif : EV (ifE (tstB (bin2 gtP (varI 7) (conI (.int 0)))) (varI 7) (conI (.int 0))) [some (tiV es), some (.int own), some v, some (.int (c : Int)), c4', some (.int y), some (.int p.1), some (.int p.2)] S1 (.int (if 0 > p.2 then 0 else p.2)) := by
          by_cases hp : 0 < p.2
          · rw [if_neg (by omega)]
            exact EV.ife (k := true) (TT.cmp (EV.var fun _ z => z) (EV.con _) (decide_eq_true hp)) (EV.var fun _ z => z)
          · have : (if 0 > p.2 then 0 else p.2) = 0 := by split <;> omega
            rw [this]
            exact EV.ife (k := false) (TT.cmp (EV.var fun _ z => z) (EV.con _) (decide_eq_false hp)) (EV.con _)
        refine ⟨trivial, ?_⟩
        refine sq_set (v := .int (y * (c : Int) + (if 0 > p.2 then 0 else p.2))) (EV.add (EV.mul (EV.var fun _ z => z) (EV.var fun _ z => z) (mulw_small (by omega) (by omega))) hif) ?_
        exact hK _ _ ⟨rfl, hr, _, _, _, e2, Int.add_nonneg hyb h2, ey, rfl⟩
  · rintro z r ρ S' Kn hK ⟨rfl, c, c4', h1, h2, h3, rfl⟩
    rw [List.length_cons] at h3
    refine ⟨trivial, ?_⟩
    have hlen : EV (bin2 (addP false) (conI (.int 1)) (callP lenP (consA (varI 2) nilA))) [some (tiV es), some (.int own), some v, some (.int (c : Int)), some z, none, none, none] S' (.int ((1 + h.length : Nat) : Int)) := by
      have e2 : ((1 + h.length : Nat) : Int) = (1 : Int) + ((hrV h).length : Int) := by
        unfold hrV
        rw [List.length_map]
        omega
      rw [e2]
      exact EV.add (EV.con _) (lenX (EV.var fun _ z => z) hv)
    by_cases hc : c < b
    · refine sq_if_t (TT.cmp (p := fun i j => decide (i < j)) (i := ((c ^ (1 + h.length) : Nat) : Int)) (EV.call2 (EV.var fun _ z => z) hlen fun Q E q => hP c (1 + h.length) S' Q E (by omega) (by omega) q) (EV.lenT (EV.var fun _ z => z)) (decide_eq_true ?_)) ?_
      · have := Nat.pow_lt_pow_left hc (show 1 + h.length ≠ 0 by omega)
        rw [List.length_map, c1]
        omega
      · have e5 : ((c + 1 : Nat) : Int) = (c : Int) + 1 := by omega
        refine sq_set (v := .int ((c + 1 : Nat) : Int)) ?_ (hK _ _ ⟨rfl, c + 1, _, by omega, hc, by omega, rfl⟩)
        rw [e5]
        exact EV.add (EV.var fun _ z => z) (EV.con _)
    · have e : c = b := by omega
      subst e
      refine sq_if_n (TT.cmp (p := fun i j => decide (i < j)) (i := ((c ^ (1 + h.length) : Nat) : Int)) (EV.call2 (EV.var fun _ z => z) hlen fun Q E q => hP c (1 + h.length) S' Q E (by omega) (by omega) q) (EV.lenT (EV.var fun _ z => z)) (decide_eq_false (by rw [List.length_map, c1]; omega))) ?_
      exact hK _ _ ⟨rfl, c, _, h1, h2, by omega, rfl⟩
end K03

namespace K03
open PySem PySem.Spec L2 TL
open PyProof.Rows hiding St

/-! ### the program's steps, those of "with", too -/
abbrev Vw := Int × Hr
def vwV (v : Vw) : Val := .tup [.int v.1, .set (hrV v.2)]
def vws (vs : List Vw) : List Val := (vs.map vwV).reverse
theorem vws_cons {v : Vw} {vs : List Vw} : vws (v :: vs) = vws vs ++ [.tup [.int v.1, .set (hrV v.2)]] := by simp [vws, vwV]
theorem vws_len {vs : List Vw} : (vws vs).length = vs.length := by simp [vws]
inductive PStp where
  | pl (s : Stp) | wth (n : Int) (ms : List Int) | leave
def PStp.w : PStp → Str
  | .pl s => s.w | .wth _ _ => "with" | .leave => "leave"
def PStp.args : PStp → List Val
  | .pl s => s.args | .wth n ms => [.int n, tiV ms] | .leave => []
def PStp.val (p : PStp) : Val := .tup (.str p.w :: p.args)
def stepP : PStp → List Int → List Vw → Option (List Int × List Vw)
  | .pl s, st, v :: vs => (stepW v.1 v.2 s st).map fun st' => (st', v :: vs)
  | .wth n ms, st, vs => match ((st.take (ms.length + 1)).reverse).map (· % n) with
    | l0 :: ls => if (0 < n ∧ n ≤ 1000) ∧ ms.Nodup ∧ ms.length ≤ 900 ∧ ls.length = ms.length then some (st.drop (ms.length + 1), (l0, ms.zip ls) :: vs) else none
    | [] => none
  | .leave, st, _ :: vs => some (st, vs)
  | _, _, _ => none
theorem wth_inv {n : Int} {ms st st' : List Int} {vs vs' : List Vw} (e : stepP (.wth n ms) st vs = some (st', vs')) : ∃ l0 ls, ((st.take (ms.length + 1)).reverse).map (· % n) = l0 :: ls ∧ (0 < n ∧ n ≤ 1000) ∧ ms.Nodup ∧ ms.length ≤ 900 ∧ ls.length = ms.length ∧ st' = st.drop (ms.length + 1) ∧ vs' = (l0, ms.zip ls) :: vs := by
  unfold stepP at e
  dsimp only at e
  split at e
  · rename_i l0 ls el
    split at e
    · rename_i c
      cases e
      exact ⟨l0, ls, el, c.1, c.2.1, c.2.2.1, c.2.2.2, rfl, rfl⟩
    · cases e
  · cases e
theorem zip_fst : ∀ {ms ls : List Int}, ls.length = ms.length → (ms.zip ls).map (·.1) = ms
  | [], [], _ => rfl
  | m :: ms, l :: ls, h => by
    show m :: (ms.zip ls).map (·.1) = m :: ms
    rw [zip_fst (Nat.succ.inj h)]
  | [], _ :: _, h => by cases h
  | _ :: _, [], h => by cases h
theorem zip_snd {ms ls : List Int} {p : Int × Int} (h : p ∈ ms.zip ls) : p.2 ∈ ls := (List.of_mem_zip (a := p.1) (b := p.2) h).2
theorem gh_zip {n : Int} {ms ls : List Int} (hn : 0 < n ∧ n ≤ 1000) (nd : ms.Nodup) (hl : ms.length ≤ 900) (e : ls.length = ms.length) (hm : ∀ l ∈ ls, 0 ≤ l ∧ l < n) : GH (ms.zip ls) :=
  ⟨fun p hp => by have := hm _ (zip_snd hp); omega, fun p hp => by have := hm _ (zip_snd hp); omega, by rw [zip_fst e]; exact nd, by rw [List.length_zip]; omega⟩
theorem mod_mem {n : Int} (hn : 0 < n) {xs : List Int} {l : Int} (h : l ∈ xs.map (· % n)) : 0 ≤ l ∧ l < n := by
  obtain ⟨x, _, rfl⟩ := List.mem_map.mp h
  exact ⟨Int.emod_nonneg _ (by omega), Int.emod_lt_of_pos _ hn⟩
theorem stepP_gh {p : PStp} {st st' : List Int} {vs vs' : List Vw} (h : ∀ v ∈ vs, GH v.2) (e : stepP p st vs = some (st', vs')) : ∀ v ∈ vs', GH v.2 := by
  cases p with
  | pl s =>
    cases vs with
    | nil => cases e
    | cons v vs =>
      obtain ⟨x, _, ex⟩ := Option.map_eq_some_iff.mp (show (stepW v.1 v.2 s st).map (fun st' => (st', v :: vs)) = some (st', vs') from e)
      cases ex
      exact h
  | wth n ms =>
    obtain ⟨l0, ls, el, hn, nd, hl, e2, rfl, rfl⟩ := wth_inv e
    intro v hv
    rcases List.mem_cons.mp hv with rfl | hv
    · exact gh_zip hn nd hl e2 fun l hl => mod_mem hn.1 (by rw [el]; exact List.mem_cons_of_mem _ hl)
    · exact h v hv
  | leave =>
    cases vs with
    | nil => cases e
    | cons v vs =>
      cases e
      exact fun u hu => h u (List.mem_cons_of_mem _ hu)
theorem stepP_len {p : PStp} {st st' : List Int} {vs vs' : List Vw} (e : stepP p st vs = some (st', vs')) : st'.length ≤ st.length + 1 ∧ vs'.length ≤ vs.length + 1 := by
  cases p with
  | pl s =>
    cases vs with
    | nil => cases e
    | cons v vs =>
      obtain ⟨x, h, ex⟩ := Option.map_eq_some_iff.mp (show (stepW v.1 v.2 s st).map (fun st' => (st', v :: vs)) = some (st', vs') from e)
      cases ex
      exact ⟨stepW_len h, by omega⟩
  | wth n ms =>
    obtain ⟨l0, ls, el, hn, nd, hl, e2, rfl, rfl⟩ := wth_inv e
    exact ⟨by rw [List.length_drop]; omega, by rw [List.length_cons]; omega⟩
  | leave =>
    cases vs with
    | nil => cases e
    | cons v vs =>
      cases e
      exact ⟨by omega, by rw [List.length_cons]; omega⟩
abbrev SpDoP (Γ : Calls) (f : Str) (p : PStp) : Prop := ∀ (wa va : Addr) (vs vs' : List Vw) (st st' : List Int) (S : Sto) (Q : VQ) (E : EQ), wa ≠ va → S wa = some (.lst (stk st)) → S va = some (.lst (vws vs)) → (∀ v ∈ vs, GH v.2) → st.length ≤ 1000 → vs.length ≤ 1000 → stepP p st vs = some (st', vs') →
  (∀ S', S' wa = some (.lst (stk st')) → S' va = some (.lst (vws vs')) → (∀ c, c ≠ wa → c ≠ va → S' c = S c) → Q .non S') → Γ f [p.val, .ref wa, .ref va] S Q E
theorem do_of {Γ : Calls} {f : Str} {s : Stp} (h : SpDo Γ f s) : SpDoP Γ f (.pl s) := by
  intro wa va vs vs' st st' S Q E hne w v g hl hl2 e q
  cases vs with
  | nil => cases e
  | cons u vs =>
    obtain ⟨x, e1, ex⟩ := Option.map_eq_some_iff.mp (show (stepW u.1 u.2 s st).map (fun st' => (st', u :: vs)) = some (st', vs') from e)
    cases ex
    rw [vws_cons] at v
    refine h (vws vs) u.1 u.2 wa va st st' S Q E (g u List.mem_cons_self) ⟨hne, w, v, hl⟩ e1 (q _ put_same ?_ fun c h1 _ => put_ne h1)
    rw [put_ne hne.symm, v, vws_cons]
theorem zipV_hr : ∀ ms ls : List Int, zipV (ms.map Val.int) (ls.map Val.int) = hrV (ms.zip ls)
  | [], _ => rfl
  | _ :: _, [] => rfl
  | m :: ms, l :: ls => by
    show Val.tup [.int m, .int l] :: zipV (ms.map Val.int) (ls.map Val.int) = prV (m, l) :: hrV (ms.zip ls)
    rw [zipV_hr ms ls]
    rfl
theorem within_two {S S' : Sto} {wa va : Addr} {c1 c2 : Cell} (h1 : S wa ≠ none) (h2 : S va ≠ none) (e1 : S' wa = some c1) (e2 : S' va = some c2) (fr : ∀ c, S c ≠ none → c ≠ wa → c ≠ va → S' c = S c) : (S'.within S) wa = some c1 ∧ (S'.within S) va = some c2 ∧ ∀ c, c ≠ wa → c ≠ va → (S'.within S) c = S c := by
  unfold Sto.within
  refine ⟨?_, ?_, fun c n1 n2 => ?_⟩
  · cases e : S wa with
    | none => exact absurd e h1
    | some x => exact e1
  · cases e : S va with
    | none => exact absurd e h2
    | some x => exact e2
  · cases e : S c with
    | none => rfl
    | some x => exact (fr c (by rw [e]; exact fun z => nomatch z) n1 n2).trans e
theorem do_with (d : Nat) (n : Int) (ms : List Int) : SpDoP (Cl (d + 1)) "do_with" (.wth n ms) := by
  intro wa va vs vs' st st' S Q E hne w v g hl hl2 e q
  refine callI_of lk_do_with rfl ?_
  show m_do_with (Cl d) (endsI true S Q E) [some (.tup [.str "with", .int n, tiV ms]), some (.ref wa), some (.ref va), none, none, none, none] S
  unfold m_do_with
  obtain ⟨l0, ls, el, hn, nd, hml, e2, rfl, rfl⟩ := wth_inv e
  have hz : sizeLine = 16777216 := sizeLine_eq
  have htl : (st.take (ms.length + 1)).length = ms.length + 1 := by
    have := congrArg List.length el
    rw [List.length_map, List.length_reverse, List.length_cons] at this
    omega
  have hst : ms.length + 1 ≤ st.length := by
    rw [List.length_take] at htl
    omega
  have hsplit : stk st = stk (st.drop (ms.length + 1)) ++ ((st.take (ms.length + 1)).reverse).map Val.int := by
    unfold stk
    rw [← List.map_reverse, ← List.map_reverse, ← List.map_append, ← List.reverse_append, List.take_append_drop]
  have w2 := w
  rw [hsplit] at w2
  have hdl : (stk (st.drop (ms.length + 1))).length = st.length - (ms.length + 1) := by rw [stk_len, List.length_drop]
  refine sq_set (EV.ixT (EV.var fun _ z => z) (EV.con _) at2) ?_
  refine sq_set (EV.sub (EV.lenR (EV.var fun _ z => z) w) (EV.lenT (EV.var fun _ z => z))) ?_
  have hix : ((((stk st).length : Nat) : Int) - (((ms.map Val.int).length : Nat) : Int)) - 1 = ((stk (st.drop (ms.length + 1))).length : Int) := by
    rw [stk_len, List.length_map, hdl]
    omega
  refine sq_set (v := .lst (((st.take (ms.length + 1)).reverse).map fun x => Val.int (x % n))) ?_ ?_
  · exact EV.lc Val.int ((st.take (ms.length + 1)).reverse) (fun x => Val.int (x % n)) (walkL (EV.sliceR (EV.var fun _ z => z) w2 (part_of (EV.sub (EV.var fun _ z => z) (EV.con _))) part_no (cut_from _ _ hix))) trivial (by rw [List.length_reverse, htl]; omega) fun x hx => ⟨_, rfl, EV.mod (EV.var fun _ z => z) (EV.ixT (EV.var fun _ z => z) (EV.con _) at1) hn.1⟩
  have eml : ((st.take (ms.length + 1)).reverse).map (fun x => Val.int (x % n)) = .int l0 :: ls.map Val.int := by
    have : ((st.take (ms.length + 1)).reverse).map (fun x => Val.int (x % n)) = (((st.take (ms.length + 1)).reverse).map (· % n)).map Val.int := by rw [List.map_map]; rfl
    rw [this, el]
    rfl
  rw [eml]
  refine sq_del (fun _ z => z) w2 (by rw [List.length_append, hdl, List.length_map, List.length_reverse, htl]; omega) (EV.sub (EV.var fun _ z => z) (EV.con _)) (take_to _ _ hix) ?_
  refine sq_app (v := .tup [.int l0, .set (hrV (ms.zip ls))]) (fun _ z => z) (by rw [put_ne hne.symm]; exact v) (by rw [vws_len]; omega) (EV.tup2 (EV.ixL (EV.var fun _ z => z) (EV.con _) at0) ?_) ?_
  · rw [← zipV_hr]
    exact EV.tzip (EV.var fun _ z => z) (EV.sliceL (EV.var fun _ z => z) (part_of (EV.con _)) part_no (cut_tail _ _))
  · obtain ⟨g1, g2, g3⟩ := within_two (S := S) (S' := (S.put wa (.lst (stk (st.drop (ms.length + 1))))).put va (.lst (vws vs ++ [.tup [.int l0, .set (hrV (ms.zip ls))]]))) (wa := wa) (va := va) (by rw [w]; exact fun z => nomatch z) (by rw [v]; exact fun z => nomatch z) (by rw [put_ne hne]; exact put_same) put_same fun c _ n1 n2 => by rw [put_ne n2, put_ne n1]
    exact q _ g1 (g2.trans (by rw [vws_cons])) g3
theorem do_leave (d : Nat) : SpDoP (Cl (d + 1)) "do_leave" .leave := by
  intro wa va vs vs' st st' S Q E hne w v g hl hl2 e q
  refine callI_of lk_do_leave rfl ?_
  show m_do_leave (Cl d) (endsI true S Q E) [some (.tup [.str "leave"]), some (.ref wa), some (.ref va)] S
  cases vs with
  | nil => cases e
  | cons u vs =>
    obtain ⟨e1, e2⟩ := Prod.mk.inj (Option.some.inj (show some (st, vs) = some (st', vs') from e))
    rw [vws_cons] at v
    refine ⟨isl_ref v, pop_end v ?_⟩
    obtain ⟨g1, g2, g3⟩ := within_two (S := S) (S' := S.put va (.lst (vws vs))) (wa := wa) (va := va) (by rw [w]; exact fun z => nomatch z) (by rw [v]; exact fun z => nomatch z) (by rw [put_ne hne]; exact w) put_same fun c _ n1 n2 => put_ne n2
    exact q _ (by rw [← e1]; exact g1) (by rw [← e2]; exact g2) g3
def runP : List PStp → List Int → List Vw → Option (List Int × List Vw)
  | [], st, vs => some (st, vs)
  | p :: r, st, vs => (stepP p st vs).bind fun q => runP r q.1 q.2
end K03

namespace K03
open PySem PySem.Spec L2 TL
open PyProof.Rows hiding St

/-! ### steps_worth -/
abbrev tabl : List (Str × Str) := [("number", "do_number"), ("own", "do_own"), ("heard", "do_heard"), ("count", "do_count"), ("most", "do_most"), ("mostof", "do_mostof"), ("sorted", "do_sorted"), ("table", "do_table"), ("plus", "do_plus"), ("less", "do_less"), ("times", "do_times"), ("div", "do_div"), ("rest", "do_rest"), ("if", "do_if"), ("with", "do_with"), ("leave", "do_leave")]
theorem do_all (d : Nat) : ∀ s : Stp, ∃ f, tabl.lookup s.w = some f ∧ tb.dfs.contains f = true ∧ SpDo (Cl (d + 4)) f s
  | .lf (.num n) => ⟨"do_number", by kernel_rfl, by kernel_rfl, do_number (d + 3) n⟩
  | .lf .own => ⟨"do_own", by kernel_rfl, by kernel_rfl, do_own (d + 3)⟩
  | .lf .most => ⟨"do_most", by kernel_rfl, by kernel_rfl, do_most (d + 2)⟩
  | .lf (.count l) => ⟨"do_count", by kernel_rfl, by kernel_rfl, do_count (d + 2) l⟩
  | .lf (.sorted j) => ⟨"do_sorted", by kernel_rfl, by kernel_rfl, do_sorted (d + 2) j⟩
  | .lf (.mostof ms) => ⟨"do_mostof", by kernel_rfl, by kernel_rfl, do_mostof (d + 2) ms⟩
  | .lf (.table b es) => ⟨"do_table", by kernel_rfl, by kernel_rfl, do_table d b es⟩
  | .lf (.heard m) => ⟨"do_heard", by kernel_rfl, by kernel_rfl, do_heard (d + 3) m⟩
  | .bi .plus => ⟨"do_plus", by kernel_rfl, by kernel_rfl, do_plus (d + 3)⟩
  | .bi .less => ⟨"do_less", by kernel_rfl, by kernel_rfl, do_less (d + 3)⟩
  | .bi .times => ⟨"do_times", by kernel_rfl, by kernel_rfl, do_times (d + 3)⟩
  | .un true n => ⟨"do_div", by kernel_rfl, by kernel_rfl, do_div (d + 3) n⟩
  | .un false n => ⟨"do_rest", by kernel_rfl, by kernel_rfl, do_rest (d + 3) n⟩
  | .ife s => ⟨"do_if", by kernel_rfl, by kernel_rfl, do_if (d + 3) s⟩
theorem do_allP (d : Nat) : ∀ p : PStp, ∃ f, tabl.lookup p.w = some f ∧ tb.dfs.contains f = true ∧ SpDoP (Cl (d + 4)) f p
  | .pl s => let ⟨f, h1, h2, h3⟩ := do_all d s; ⟨f, h1, h2, do_of h3⟩
  | .wth n ms => ⟨"do_with", by kernel_rfl, by kernel_rfl, do_with (d + 3) n ms⟩
  | .leave => ⟨"do_leave", by kernel_rfl, by kernel_rfl, do_leave (d + 3)⟩
abbrev SpSW (Γ : Calls) : Prop := ∀ (p : List PStp) (own : Int) (h : Hr) (w : Int) (vv : List Vw) (S : Sto) (Q : VQ) (E : EQ), GH h → runP p [] [(own, h)] = some ([w], vv) → p.length ≤ 900 → Q (.int w) S → Γ "steps_worth" [.lst (p.map PStp.val), .int own, .set (hrV h)] S Q E
theorem sw_ok (d : Nat) : SpSW (Cl (d + 5)) := by
  intro p own h w vv S Q E g hr hl hq
  refine callI_of lk_steps_worth rfl ?_
  have hD := do_allP d
  show m_steps_worth (Cl (d + 4)) (endsI true S Q E) [some (.lst (p.map PStp.val)), some (.int own), some (.set (hrV h)), none, none, none, none] S
  unfold m_steps_worth
  generalize Cl (d + 4) = Γ at hD ⊢
  refine ⟨show 0 ≤ sizeLine by decide, fun wa hwa => ?_⟩
  refine ⟨show 2 ≤ sizeLine by decide, show 1 ≤ sizeLine by decide, fun va hva => ?_⟩
  have hne : wa ≠ va := fun z => by rw [← z, put_same] at hva; cases hva
  rw [put_ne hne.symm] at hva
  refine sq_for (walkL (EV.var fun _ z => z)) ?_
  refine forGo_ind (fun r ρ S' => ∃ (p' : List PStp) (st : List Int) (vs : List Vw) (c5 c6 : Option Val), r = p'.map PStp.val ∧ runP p' st vs = some ([w], vv) ∧ st.length + p'.length ≤ 1000 ∧ vs.length + p'.length ≤ 1000 ∧ (∀ v ∈ vs, GH v.2) ∧ ρ = [some (.lst (p.map PStp.val)), some (.int own), some (.set (hrV h)), some (.ref wa), some (.ref va), c5, c6] ∧ S' wa = some (.lst (stk st)) ∧ S' va = some (.lst (vws vs)) ∧ ∀ c, S c ≠ none → S' c = S c) ?_ ?_ _ _ _
    ⟨p, [], [(own, h)], none, none, rfl, hr, by simp; omega, by simp; omega, fun v hv => by rw [List.mem_singleton.mp hv]; exact g, rfl, by rw [put_ne hne, put_same]; rfl, put_same, fun c hc => by rw [put_ne (fun z => hc (by rw [z]; exact hva)), put_ne (fun z => hc (by rw [z]; exact hwa))]⟩
  · rintro ρ S' ⟨p', st, vs, c5, c6, e, hr', hl', hl2, _, rfl, sw, _, fr⟩
    refine ⟨trivial, ?_⟩
    have : p' = [] := List.map_eq_nil_iff.mp e.symm
    subst this
    have hst : st = [w] := (Prod.mk.inj (Option.some.inj hr')).1
    subst hst
    refine sq_ret (EV.ixR (EV.var fun _ z => z) sw (EV.con _) (v := .int w) rfl) ?_
    show Q (.int w) (S'.within S)
    rw [within_old fr]
    exact hq
  · rintro x r ρ S' Kn hK ⟨p', st, vs, c5, c6, e, hr', hl', hl2, hg, rfl, sw, sv, fr⟩
    cases p' with
    | nil => cases e
    | cons s p' =>
      have e1 : x = s.val := (List.cons.inj e).1
      have e2 : r = p'.map PStp.val := (List.cons.inj e).2
      subst e1
      obtain ⟨⟨st', vs'⟩, h1, h2⟩ := Option.bind_eq_some_iff.mp (show (stepP s st vs).bind (fun q => runP p' q.1 q.2) = some ([w], vv) from hr')
      obtain ⟨f, f1, f2, f3⟩ := hD s
      refine ⟨trivial, ?_⟩
      refine sq_set (EV.tab (z := s.w) (EV.ixT (EV.var fun _ z => z) (EV.con _) at0) f1) ?_
      obtain ⟨hsl, hsv⟩ := stepP_len h1
      simp only [List.length_cons] at hl' hl2
      refine ⟨f2, f3 wa va vs vs' st st' S' _ _ hne sw sv hg (by omega) (by omega) h1 fun S'' k1 k2 k3 => ?_⟩
      refine hK _ _ ⟨p', st', vs', _, _, e2, h2, by omega, by omega, stepP_gh hg h1, rfl, k1, k2, fun c hc => ?_⟩
      rw [k3 c (fun z => hc (by rw [z]; exact hwa)) (fun z => hc (by rw [z]; exact hva))]
      exact fr c hc

/-! ### the law's worth -/
abbrev SpLTold (Γ : Calls) : Prop := ∀ (v : Val) (h : Hr) (S : Sto) (Q : VQ) (E : EQ), (v = .set (hrV h) ∨ v = .lst (hrV h)) → h.length ≤ 1000 → Q (.lst ((srtB ltI (told h)).map Val.int)) S → Γ "_law_told_letters" [v] S Q E
theorem ltold_ok (d : Nat) : SpLTold (Cl (d + 1)) := by
  intro v h S Q E hv hl hq
  refine callI_of lk__law_told_letters rfl ?_
  show m__law_told_letters (Cl d) (endsI true S Q E) [some v, none, none] S
  unfold m__law_told_letters
  have e : (h.filter fun p => decide (0 ≤ p.2)).map (fun p => Val.int p.2) = (told h).map Val.int := by
    unfold told
    rw [List.map_map]
    rfl
  refine sq_ret (EV.sort (ns := told h) ?_) ?_
  · rw [← e]
    exact EV.lcP prV h (fun p => decide (0 ≤ p.2)) (fun p => .int p.2) (walkX (EV.var fun _ z => z) hv) trivial (by rw [sizeLine_eq]; omega) fun p hp => ⟨[some v, some (.int p.1), some (.int p.2)], rfl, TT.cmp (EV.var fun _ z => z) (EV.con _) rfl, fun _ => EV.var fun _ z => z⟩
  · show Q _ (S.within S)
    rw [within_self]
    exact hq
theorem cnt_fil (ls : List Int) (l : Int) : (ls.filter fun z => decide (z = l)).length = ls.count l := by
  rw [List.count_eq_countP, List.countP_eq_length_filter]
  congr 1
abbrev SpLMost (Γ : Calls) : Prop := ∀ (ls : List Int) (S : Sto) (Q : VQ) (E : EQ), ls.length ≤ 1000 → Q (.int (mostN ls ls)) S → Γ "_law_most" [.lst (ls.map Val.int)] S Q E
theorem lmost_ok (d : Nat) : SpLMost (Cl (d + 1)) := by
  intro ls S Q E hl hq
  refine callI_of lk__law_most rfl ?_
  show m__law_most (Cl d) (endsI true S Q E) [some (.lst (ls.map Val.int)), none, none, none, none, none] S
  unfold m__law_most
  refine sq_tp (ρ1 := [some (.lst (ls.map Val.int)), some (.int 0), some (.int 0), none, none, none]) (EV.tup2 (EV.con _) (EV.con _)) rfl ?_
  refine sq_for (walkL (EV.var fun _ z => z)) ?_
  refine forGo_ind (fun r ρ S' => S' = S ∧ ∃ (rl : List Int) (s : Int × Int) (c3 c4 c5 : Option Val), r = rl.map Val.int ∧ ρ = [some (.lst (ls.map Val.int)), some (.int s.1), some (.int s.2), c3, c4, c5] ∧
    (rl.foldl (fun (s : Int × Int) l => if s.2 < (ls.count l : Int) then (l, (ls.count l : Int)) else s) s).1 = mostN ls ls) ?_ ?_ _ _ _ ⟨rfl, ls, (0, 0), none, none, none, rfl, rfl, rfl⟩
  · rintro ρ S' ⟨rfl, rl, s, c3, c4, c5, e, rfl, h⟩
    refine ⟨trivial, ?_⟩
    have : rl = [] := List.map_eq_nil_iff.mp e.symm
    subst this
    have h : s.1 = mostN ls ls := h
    show Q (.int s.1) (S'.within S')
    rw [within_self, h]
    exact hq
  · rintro x r ρ S' Kn hK ⟨rfl, rl, s, c3, c4, c5, e, rfl, h⟩
    cases rl with
    | nil => cases e
    | cons l rl =>
      have e1 : x = .int l := (List.cons.inj e).1
      have e2 : r = rl.map Val.int := (List.cons.inj e).2
      subst e1
      refine ⟨trivial, ?_⟩
      have hev : EV (callP lenP (consA (lcI false (walkI (varI 0)) (.nm 5) (tstB (bin2 eqP (varI 5) (varI 3))) (varI 5) [5]) nilA)) [some (.lst (ls.map Val.int)), some (.int s.1), some (.int s.2), some (.int l), c4, c5] S' (.int (ls.count l : Nat)) := by
        have := EV.lenL (EV.lcP (ρ := [some (.lst (ls.map Val.int)), some (.int s.1), some (.int s.2), some (.int l), c4, c5]) (S := S') Val.int ls (fun z => decide (z = l)) Val.int (it := walkI (varI 0)) (tg := .nm 5) (tt := tstB (bin2 eqP (varI 5) (varI 3))) (te := varI 5) (own := [5]) (walkL (EV.var fun _ z => z)) trivial (by rw [sizeLine_eq]; omega) fun z hz => ⟨[some (.lst (ls.map Val.int)), some (.int s.1), some (.int s.2), some (.int l), c4, some (.int z)], rfl, TT.eqI (EV.var fun _ z => z) (EV.var fun _ z => z) rfl, fun _ => EV.var fun _ z => z⟩)
        rw [List.length_map, cnt_fil] at this
        exact this
      refine sq_set hev ?_
      rw [List.foldl_cons] at h
      by_cases hc : s.2 < (ls.count l : Int)
      · refine sq_if_t (TT.cmp (EV.var fun _ z => z) (EV.var fun _ z => z) (decide_eq_true hc)) ?_
        rw [if_pos hc] at h
        exact sq_par2 (EV.var fun _ z => z) (EV.var fun _ z => z) rfl (hK _ _ ⟨rfl, rl, _, _, _, _, e2, rfl, h⟩)
      · refine sq_if_n (TT.cmp (EV.var fun _ z => z) (EV.var fun _ z => z) (decide_eq_false hc)) ?_
        rw [if_neg hc] at h
        exact hK _ _ ⟨rfl, rl, s, _, _, _, e2, rfl, h⟩
theorem find_fil {m : Int} : ∀ {h : Hr} {p : Int × Int}, (h.map (·.1)).Nodup → h.find? (fun p => decide (p.1 = m)) = some p → h.filter (fun p => decide (p.1 = m)) = [p]
  | [], _, _, e => by cases e
  | q :: h, p, nd, e => by
    rw [List.map_cons, List.nodup_cons] at nd
    rw [List.find?_cons] at e
    rw [List.filter_cons]
    by_cases hc : q.1 = m
    · rw [decide_eq_true hc] at e ⊢
      cases e
      simp only [if_true]
      rw [List.filter_eq_nil_iff.mpr]
      intro z hz hz2
      have hz2 : z.1 = m := of_decide_eq_true hz2
      exact nd.1 (List.mem_map.mpr ⟨z, hz, by rw [hz2, hc]⟩)
    · rw [decide_eq_false hc] at e ⊢
      exact find_fil nd.2 e
abbrev SpLLeaf (Γ : Calls) : Prop := ∀ (l : Lf) (own : Int) (h : Hr) (x : Int) (v : Val) (S : Sto) (Q : VQ) (E : EQ), (v = .set (hrV h) ∨ v = .lst (hrV h)) → GH h → l.worth own h = some x → Q (.int x) S → Γ "_law_leaf_worth" [l.val, .int own, v] S Q E
theorem lleaf_ok (d : Nat) : SpLLeaf (Cl (d + 3)) := by
  intro l own h x v S Q E hv g hx hq
  refine callI_of lk__law_leaf_worth rfl ?_
  have hT := ltold_ok (d + 1)
  have hN := lentry_ok d
  have hM := lmost_ok (d + 1)
  show m__law_leaf_worth (Cl (d + 2)) (endsI true S Q E) [some l.val, some (.int own), some v, none, none, none, none, none] S
  unfold m__law_leaf_worth
  generalize Cl (d + 2) = Γ at hT hM hN ⊢
  have hl := g.len
  have hsl : (srtB ltI (told h)).length ≤ 1000 := by rw [(srtB_perm (lt := ltI) (told h)).length_eq]; exact Nat.le_trans (told_len h) hl
  have fin : Q (.int x) (S.within S) := by rw [within_self]; exact hq
  refine sq_par2 (ρ1 := [some l.val, some (.int own), some v, some (.str l.w), some (.lst ((srtB ltI (told h)).map Val.int)), none, none, none]) (EV.ixT (EV.var fun _ z => z) (EV.con _) at0) (EV.call1 (EV.var fun _ z => z) fun Q E q => hT _ h S Q E hv hl q) rfl ?_
  cases l with
  | num n =>
    cases hx
    exact sq_if_r (TT.eqS (EV.var fun _ z => z) (EV.con _) (by kernel_rfl)) (EV.ixT (EV.var fun _ z => z) (EV.con _) at1) fin
  | own =>
    cases hx
    refine sq_if_n (TT.eqS (EV.var fun _ z => z) (EV.con _) (by kernel_rfl)) ?_
    exact sq_if_r (TT.eqS (EV.var fun _ z => z) (EV.con _) (by kernel_rfl)) (EV.var fun _ z => z) fin
  | heard m =>
    obtain ⟨p, hp, rfl⟩ := Option.map_eq_some_iff.mp (show (h.find? (fun p => decide (p.1 = m))).map (fun p => if 0 > p.2 then 0 else p.2) = some x from hx)
    refine sq_if_n (TT.eqS (EV.var fun _ z => z) (EV.con _) (by kernel_rfl)) ?_
    refine sq_if_n (TT.eqS (EV.var fun _ z => z) (EV.con _) (by kernel_rfl)) ?_
    refine sq_if_r (v := .int (if 0 > p.2 then 0 else p.2)) (TT.eqS (EV.var fun _ z => z) (EV.con _) (by kernel_rfl)) (EV.maxL (ns := [p.2, 0]) ?_ ?_ ?_) fin
    · have := EV.lcP (ρ := [some (Lf.val (.heard m)), some (.int own), some v, some (.str (Lf.w (.heard m))), some (.lst ((srtB ltI (told h)).map Val.int)), none, none, none]) (S := S) prV h (fun p => decide (p.1 = m)) (fun p => .int p.2) (it := walkI (varI 2)) (tg := .tp [5, 6]) (tt := tstB (bin2 eqP (varI 5) (bin2 ixP (varI 0) (conI (.int 1))))) (te := varI 6) (own := [5, 6]) (walkX (EV.var fun _ z => z) hv) trivial (by rw [sizeLine_eq]; omega) fun p hp => ⟨_, rfl, TT.eqI (EV.var fun _ z => z) (EV.ixT (EV.var fun _ z => z) (EV.con _) at1) rfl, fun _ => EV.var fun _ z => z⟩
      rw [find_fil g.nd hp] at this
      exact EV.addL this (EV.lst1 (EV.con _)) (show 2 ≤ sizeLine by decide)
    · split <;> simp
    · intro y hy
      rcases List.mem_cons.mp hy with rfl | hy
      · split <;> omega
      · rw [List.mem_singleton.mp hy]
        split <;> omega
  | count c =>
    cases hx
    refine sq_if_n (TT.eqS (EV.var fun _ z => z) (EV.con _) (by kernel_rfl)) ?_
    refine sq_if_n (TT.eqS (EV.var fun _ z => z) (EV.con _) (by kernel_rfl)) ?_
    refine sq_if_n (TT.eqS (EV.var fun _ z => z) (EV.con _) (by kernel_rfl)) ?_
    refine sq_if_r (v := .int ((told h).count c : Nat)) (TT.eqS (EV.var fun _ z => z) (EV.con _) (by kernel_rfl)) ?_ fin
    have := EV.lenL (EV.lcP (ρ := [some (Lf.val (.count c)), some (.int own), some v, some (.str (Lf.w (.count c))), some (.lst ((srtB ltI (told h)).map Val.int)), none, none, none]) (S := S) Val.int (srtB ltI (told h)) (fun z => decide (z = c)) Val.int (it := walkI (varI 4)) (tg := .nm 6) (tt := tstB (bin2 eqP (varI 6) (bin2 ixP (varI 0) (conI (.int 1))))) (te := varI 6) (own := [6]) (walkL (EV.var fun _ z => z)) trivial (by rw [sizeLine_eq]; omega) fun z hz => ⟨_, rfl, TT.eqI (EV.var fun _ z => z) (EV.ixT (EV.var fun _ z => z) (EV.con _) at1) rfl, fun _ => EV.var fun _ z => z⟩)
    rw [List.length_map, cnt_fil, (srtB_perm (lt := ltI) (told h)).count_eq] at this
    exact this
  | most =>
    cases hx
    refine sq_if_n (TT.eqS (EV.var fun _ z => z) (EV.con _) (by kernel_rfl)) ?_
    refine sq_if_n (TT.eqS (EV.var fun _ z => z) (EV.con _) (by kernel_rfl)) ?_
    refine sq_if_n (TT.eqS (EV.var fun _ z => z) (EV.con _) (by kernel_rfl)) ?_
    refine sq_if_n (TT.eqS (EV.var fun _ z => z) (EV.con _) (by kernel_rfl)) ?_
    exact sq_if_r (TT.eqS (EV.var fun _ z => z) (EV.con _) (by kernel_rfl)) (EV.call1 (EV.var fun _ z => z) fun Q E q => hM _ S Q E hsl (by rw [most_eq]; exact q)) fin
  | mostof ms =>
    cases hx
    refine sq_if_n (TT.eqS (EV.var fun _ z => z) (EV.con _) (by kernel_rfl)) ?_
    refine sq_if_n (TT.eqS (EV.var fun _ z => z) (EV.con _) (by kernel_rfl)) ?_
    refine sq_if_n (TT.eqS (EV.var fun _ z => z) (EV.con _) (by kernel_rfl)) ?_
    refine sq_if_n (TT.eqS (EV.var fun _ z => z) (EV.con _) (by kernel_rfl)) ?_
    refine sq_if_n (TT.eqS (EV.var fun _ z => z) (EV.con _) (by kernel_rfl)) ?_
    have hfl : (h.filter fun p => decide (p.1 ∈ ms)).length ≤ 1000 := Nat.le_trans (List.length_filter_le _ _) hl
    exact sq_if_r (TT.eqS (EV.var fun _ z => z) (EV.con _) (by kernel_rfl)) (EV.call1 (EV.call1 (ev_of ms h (e0 := .str "mostof") hl (hv.elim (fun e => .inl (EV.var fun _ z => by rw [e]; exact z)) fun e => .inr (EV.var fun _ z => by rw [e]; exact z)) fun p hp => ⟨_, rfl, fun _ z => z, fun _ z => z⟩) fun Q E q => hT _ (h.filter fun p => decide (p.1 ∈ ms)) S Q E (.inr rfl) hfl q)
      fun Q E q => hM _ S Q E (by rw [(srtB_perm (lt := ltI) _).length_eq]; exact Nat.le_trans (told_len _) hfl) (by rw [most_eq]; exact q)) fin
  | sorted j =>
    cases hx
    refine sq_if_n (TT.eqS (EV.var fun _ z => z) (EV.con _) (by kernel_rfl)) ?_
    refine sq_if_n (TT.eqS (EV.var fun _ z => z) (EV.con _) (by kernel_rfl)) ?_
    refine sq_if_n (TT.eqS (EV.var fun _ z => z) (EV.con _) (by kernel_rfl)) ?_
    refine sq_if_n (TT.eqS (EV.var fun _ z => z) (EV.con _) (by kernel_rfl)) ?_
    refine sq_if_n (TT.eqS (EV.var fun _ z => z) (EV.con _) (by kernel_rfl)) ?_
    refine sq_if_n (TT.eqS (EV.var fun _ z => z) (EV.con _) (by kernel_rfl)) ?_
    exact sq_if_r (TT.eqS (EV.var fun _ z => z) (EV.con _) (by kernel_rfl)) (ev_nth _ j (EV.var fun _ z => z) (EV.ixT (EV.var fun _ z => z) (EV.con _) at1)) fin
  | table b es =>
    refine sq_if_n (TT.eqS (EV.var fun _ z => z) (EV.con _) (by kernel_rfl)) ?_
    refine sq_if_n (TT.eqS (EV.var fun _ z => z) (EV.con _) (by kernel_rfl)) ?_
    refine sq_if_n (TT.eqS (EV.var fun _ z => z) (EV.con _) (by kernel_rfl)) ?_
    refine sq_if_n (TT.eqS (EV.var fun _ z => z) (EV.con _) (by kernel_rfl)) ?_
    refine sq_if_n (TT.eqS (EV.var fun _ z => z) (EV.con _) (by kernel_rfl)) ?_
    refine sq_if_n (TT.eqS (EV.var fun _ z => z) (EV.con _) (by kernel_rfl)) ?_
    refine sq_if_n (TT.eqS (EV.var fun _ z => z) (EV.con _) (by kernel_rfl)) ?_
    exact sq_ret (EV.call3 (EV.ixT (EV.var fun _ z => z) (EV.con _) at1) (EV.var fun _ z => z) (EV.var fun _ z => z) fun Q E q => hN b es own x h v S Q E hv g hx q) fin
end K03

namespace K03
open PySem PySem.Spec L2 TL
open PyProof.Rows hiding St

/-! ### the law's steps -/
abbrev SpLDo (Γ : Calls) : Prop := ∀ (s : Stp) (own : Int) (h : Hr) (v : Val) (wa : Addr) (st st' : List Int) (S : Sto) (Q : VQ) (E : EQ), (v = .set (hrV h) ∨ v = .lst (hrV h)) → GH h → S wa = some (.lst (stk st)) → st.length ≤ 1000 → stepW own h s st = some st' → Q .non (S.put wa (.lst (stk st'))) → Γ "_law_do_step" [s.val, .ref wa, .int own, v] S Q E
theorem put_within {wa : Addr} {S : Sto} {c c' : Cell} (h : S wa = some c) : (S.put wa c').within S = S.put wa c' := within_put (by rw [h]; exact fun z => nomatch z) (fun b _ e => put_ne e) put_same
theorem ldo_ok (d : Nat) : SpLDo (Cl (d + 4)) := by
  intro s own h v wa st st' S Q E hv g w hl e hq
  refine callI_of lk__law_do_step rfl ?_
  have hL := lleaf_ok d
  show m__law_do_step (Cl (d + 3)) (endsI true S Q E) [some s.val, some (.ref wa), some (.int own), some v, none, none, none, none, none, none, none, none] S
  unfold m__law_do_step
  generalize Cl (d + 3) = Γ at hL ⊢
  have fin : Q .non ((S.put wa (.lst (stk st'))).within S) := by rw [put_within w]; exact hq
  refine sq_set (v := .str s.w) (EV.ixT (EV.var fun _ z => z) (EV.con _) at0) ?_
  have hin : EV (lstI false (consA (conI (.str "plus")) (consA (conI (.str "less")) (consA (conI (.str "times")) nilA)))) [some s.val, some (.ref wa), some (.int own), some v, some (.str s.w), none, none, none, none, none, none, none] S (.lst (pairW.map Val.str)) := EV.lst3 (EV.con _) (EV.con _) (EV.con _)
  cases s with
  | bi o =>
    match st, e, hl, w with
    | b :: a :: st, e, hl, w =>
      rw [stk_cons, stk_cons] at w
      refine sq_if_t (TT.inL (EV.var fun _ z => z) hin (by cases o <;> kernel_rfl)) ?_
      refine sq_pop2 (ρ1 := [some (Stp.bi o).val, some (.ref wa), some (.int own), some v, some (.str o.w), some (.int b), some (.int a), none, none, none, none, none]) (fun _ z => z) w rfl ?_
      have hl' : (stk st).length < sizeLine := by rw [stk_len, sizeLine_eq]; simp at hl; omega
      have e : (opW o a b).map (· :: st) = some st' := e
      obtain ⟨x, hx, rfl⟩ := Option.map_eq_some_iff.mp e
      refine sq_app (v := .int x) (fun _ z => z) put_same hl' ?_ ?_
      · cases o with
        | plus =>
          cases hx
          exact EV.ife (k := true) (TT.eqS (EV.var fun _ z => z) (EV.con _) (by kernel_rfl)) (EV.add (EV.var fun _ z => z) (EV.var fun _ z => z))
        | less =>
          cases hx
          exact EV.ife (k := false) (TT.eqS (EV.var fun _ z => z) (EV.con _) (by kernel_rfl)) (EV.ife (k := true) (TT.eqS (EV.var fun _ z => z) (EV.con _) (by kernel_rfl)) (EV.sub (EV.var fun _ z => z) (EV.var fun _ z => z)))
        | times =>
          obtain ⟨hc, ex⟩ := mulO (own := own) (h := h) (st := []) (st' := [x]) (by
            show (opW .times a b).map (· :: []) = _
            rw [hx]
            rfl)
          cases ex
          exact EV.ife (k := false) (TT.eqS (EV.var fun _ z => z) (EV.con _) (by kernel_rfl)) (EV.ife (k := false) (TT.eqS (EV.var fun _ z => z) (EV.con _) (by kernel_rfl)) (EV.mul (EV.var fun _ z => z) (EV.var fun _ z => z) hc))
      · rw [put_put, ← stk_cons]
        exact fin
  | un dv n =>
    match st, e, hl, w with
    | a :: st, e, hl, w =>
      rw [stk_cons] at w
      obtain ⟨⟨h1, h2⟩, rfl⟩ := unO e
      have hl' : (stk st).length < sizeLine := by rw [stk_len, sizeLine_eq]; simp at hl; omega
      refine sq_if_f (TT.inL (EV.var fun _ z => z) hin (by cases dv <;> kernel_rfl)) ?_
      cases dv with
      | true =>
        refine sq_if_t (TT.eqS (EV.var fun _ z => z) (EV.con _) (by kernel_rfl)) ?_
        refine ⟨isl_ref w, isl_ref w, pop_end w (ixT_of at1 ⟨divw_small h1 h2, app_of put_same hl' ?_⟩)⟩
        rw [put_put, ← stk_cons]
        exact fin
      | false =>
        refine sq_if_f (TT.eqS (EV.var fun _ z => z) (EV.con _) (by kernel_rfl)) ?_
        refine sq_if_t (TT.eqS (EV.var fun _ z => z) (EV.con _) (by kernel_rfl)) ?_
        refine ⟨isl_ref w, isl_ref w, pop_end w (ixT_of at1 ⟨h1, app_of put_same hl' ?_⟩)⟩
        rw [put_put, ← stk_cons]
        exact fin
  | ife s =>
    match st, e, hl, w with
    | dd :: c :: b :: a :: st, e, hl, w =>
      rw [stk_cons, stk_cons, stk_cons, stk_cons] at w
      cases e
      have hl' : (stk st).length < sizeLine := by rw [stk_len, sizeLine_eq]; simp at hl; omega
      refine sq_if_f (TT.inL (EV.var fun _ z => z) hin (by kernel_rfl)) ?_
      refine sq_if_f (TT.eqS (EV.var fun _ z => z) (EV.con _) (by kernel_rfl)) ?_
      refine sq_if_f (TT.eqS (EV.var fun _ z => z) (EV.con _) (by kernel_rfl)) ?_
      refine sq_if_t (TT.eqS (EV.var fun _ z => z) (EV.con _) (by kernel_rfl)) ?_
      refine sq_pop4 (ρ1 := [some (Stp.ife s).val, some (.ref wa), some (.int own), some v, some (.str "if"), none, none, some (.int dd), some (.int c), some (.int b), some (.int a), none]) (fun _ z => z) w rfl ?_
      have hev : EV (ifE (tstB (bin2 eqP (bin2 ixP (varI 0) (conI (.int 1))) (conI (.str "same")))) (bin2 eqP (varI 10) (varI 9)) (bin2 ltP (varI 10) (varI 9))) [some (Stp.ife s).val, some (.ref wa), some (.int own), some v, some (.str "if"), none, none, some (.int dd), some (.int c), some (.int b), some (.int a), none] (S.put wa (.lst (stk st))) (.bl (if s then decide (a = b) else decide (a < b))) := by
        refine EV.ife (k := s) (TT.eqS (EV.ixT (EV.var fun _ z => z) (EV.con _) at1) (EV.con _) (by cases s <;> kernel_rfl)) ?_
        cases s with
        | true => exact EV.eqb (EV.var fun _ z => z) (EV.var fun _ z => z) eqOf_ii
        | false => exact EV.cmpb (EV.var fun _ z => z) (EV.var fun _ z => z) rfl
      refine sq_set hev ?_
      refine sq_app (v := .int (ifF s a b c dd)) (fun _ z => z) put_same hl' (EV.ife (TT.tru (EV.var fun _ z => z) rfl) ?_) ?_
      · unfold ifF
        generalize (if s then decide (a = b) else decide (a < b)) = k
        cases k with
        | true => exact EV.var fun _ z => z
        | false => exact EV.var fun _ z => z
      · rw [put_put, ← stk_cons]
        exact fin
  | lf l =>
    have e : (l.worth own h).map (· :: st) = some st' := e
    obtain ⟨x, hx, rfl⟩ := Option.map_eq_some_iff.mp e
    have hl' : (stk st).length < sizeLine := by rw [stk_len, sizeLine_eq]; omega
    refine sq_if_f (TT.inL (EV.var fun _ z => z) hin (by cases l <;> kernel_rfl)) ?_
    refine sq_if_f (TT.eqS (EV.var fun _ z => z) (EV.con _) (by cases l <;> kernel_rfl)) ?_
    refine sq_if_f (TT.eqS (EV.var fun _ z => z) (EV.con _) (by cases l <;> kernel_rfl)) ?_
    refine sq_if_f (TT.eqS (EV.var fun _ z => z) (EV.con _) (by cases l <;> kernel_rfl)) ?_
    refine sq_app (v := .int x) (fun _ z => z) w hl' (EV.call3 (EV.var fun _ z => z) (EV.var fun _ z => z) (EV.var fun _ z => z) fun Q E q => hL l own h x v S Q E hv g hx q) ?_
    rw [← stk_cons]
    exact fin
abbrev SpPW (Γ : Calls) : Prop := ∀ (p : List Stp) (own : Int) (h : Hr) (v : Val) (w : Int) (S : Sto) (Q : VQ) (E : EQ), (v = .set (hrV h) ∨ v = .lst (hrV h)) → GH h → runW own h p [] = some [w] → p.length ≤ 1000 → Q (.int w) S → Γ "_law_plain_worth" [.lst (p.map Stp.val), .int own, v] S Q E
theorem pw_ok (d : Nat) : SpPW (Cl (d + 5)) := by
  intro p own h v w S Q E hv g hr hl hq
  refine callI_of lk__law_plain_worth rfl ?_
  have hD := ldo_ok d
  show m__law_plain_worth (Cl (d + 4)) (endsI true S Q E) [some (.lst (p.map Stp.val)), some (.int own), some v, none, none] S
  unfold m__law_plain_worth
  generalize Cl (d + 4) = Γ at hD ⊢
  refine ⟨show 0 ≤ sizeLine by decide, fun wa hwa => ?_⟩
  refine sq_for (walkL (EV.var fun _ z => z)) ?_
  refine forGo_ind (fun r ρ S' => ∃ (p' : List Stp) (st : List Int) (c4 : Option Val), r = p'.map Stp.val ∧ runW own h p' st = some [w] ∧ st.length + p'.length ≤ 1000 ∧ ρ = [some (.lst (p.map Stp.val)), some (.int own), some v, some (.ref wa), c4] ∧ S' wa = some (.lst (stk st)) ∧ ∀ c, S c ≠ none → S' c = S c) ?_ ?_ _ _ _
    ⟨p, [], none, rfl, hr, by simpa using hl, rfl, put_same, fun c hc => by rw [put_ne (fun z => hc (by rw [z]; exact hwa))]⟩
  · rintro ρ S' ⟨p', st, c4, e, hr', hl', rfl, W, fr⟩
    refine ⟨trivial, ?_⟩
    have : p' = [] := List.map_eq_nil_iff.mp e.symm
    subst this
    have hst : st = [w] := Option.some.inj hr'
    subst hst
    refine sq_ret (EV.ixR (EV.var fun _ z => z) W (EV.con _) (v := .int w) rfl) ?_
    show Q (.int w) (S'.within S)
    rw [within_old fr]
    exact hq
  · rintro x r ρ S' Kn hK ⟨p', st, c4, e, hr', hl', rfl, W, fr⟩
    cases p' with
    | nil => cases e
    | cons s p' =>
      have e1 : x = s.val := (List.cons.inj e).1
      have e2 : r = p'.map Stp.val := (List.cons.inj e).2
      subst e1
      obtain ⟨st', h1, h2⟩ := Option.bind_eq_some_iff.mp (show (stepW own h s st).bind (runW own h p') = some [w] from hr')
      refine ⟨trivial, ?_⟩
      have hsl := stepW_len h1
      simp only [List.length_cons] at hl'
      refine hD s own h v wa st st' S' _ _ hv g W (by omega) h1 ?_
      refine hK _ _ ⟨p', st', _, e2, h2, by omega, rfl, put_same, fun c hc => ?_⟩
      rw [put_ne (fun z => hc (by rw [z]; exact hwa))]
      exact fr c hc

/-! ### the law's steps, "with" among them -/
def prog (t : Tr) : Val := .lst (t.steps.map Stp.val)
inductive LStp where
  | pl (s : Stp) | wth (n : Int) (t : Tr) (ms : List Int)
def LStp.w : LStp → Str
  | .pl x => x.w | .wth _ _ _ => "with"
def LStp.val : LStp → Val
  | .pl x => x.val
  | .wth n t ms => .tup [.str "with", .int n, prog t, tiV ms]
def stepL (own : Int) (h : Hr) : LStp → List Int → Option (List Int)
  | .pl x, st => stepW own h x st
  | .wth n t ms, st => match ((st.take (ms.length + 1)).reverse).map (· % n) with
    | l0 :: ls => if (0 < n ∧ n ≤ 1000) ∧ ms.Nodup ∧ ms.length ≤ 900 ∧ ls.length = ms.length ∧ t.steps.length ≤ 900 then (t.worth l0 (ms.zip ls)).map fun x => x :: st.drop (ms.length + 1) else none
    | [] => none
def runL (own : Int) (h : Hr) : List LStp → List Int → Option (List Int)
  | [], st => some st
  | s :: r, st => (stepL own h s st).bind (runL own h r)
theorem wthL_inv {own : Int} {h : Hr} {n : Int} {t : Tr} {ms st st' : List Int} (e : stepL own h (.wth n t ms) st = some st') : ∃ l0 ls x, ((st.take (ms.length + 1)).reverse).map (· % n) = l0 :: ls ∧ (0 < n ∧ n ≤ 1000) ∧ ms.Nodup ∧ ms.length ≤ 900 ∧ ls.length = ms.length ∧ t.steps.length ≤ 900 ∧ t.worth l0 (ms.zip ls) = some x ∧ st' = x :: st.drop (ms.length + 1) := by
  unfold stepL at e
  dsimp only at e
  split at e
  · rename_i l0 ls el
    split at e
    · rename_i c
      obtain ⟨x, hx, rfl⟩ := Option.map_eq_some_iff.mp e
      exact ⟨l0, ls, x, el, c.1, c.2.1, c.2.2.1, c.2.2.2.1, c.2.2.2.2, hx, rfl⟩
    · cases e
  · cases e
theorem stepL_len {own : Int} {h : Hr} {s : LStp} {st st' : List Int} (e : stepL own h s st = some st') : st'.length ≤ st.length + 1 := by
  cases s with
  | pl x => exact stepW_len e
  | wth n t ms =>
    obtain ⟨l0, ls, x, _, _, _, _, _, _, _, rfl⟩ := wthL_inv e
    rw [List.length_cons, List.length_drop]
    omega
theorem inner_eq {ms ls : List Int} (e : ls.length = ms.length) : (List.range ms.length).map (fun i : Nat => Val.tup [.int (ms.getD i 0), .int (ls.getD i 0)]) = hrV (ms.zip ls) := by
  refine List.ext_getElem (by simp [hrV, e]) fun i h1 h2 => ?_
  have hi : i < ms.length := by simpa using h1
  have hi2 : i < ls.length := by omega
  simp [hrV, prV, List.getD, List.getElem?_eq_getElem hi, List.getElem?_eq_getElem hi2]
abbrev SpLW (Γ : Calls) : Prop := ∀ (p : List LStp) (own : Int) (h : Hr) (w : Int) (S : Sto) (Q : VQ) (E : EQ), GH h → runL own h p [] = some [w] → p.length ≤ 900 → Q (.int w) S → Γ "_law_worth" [.lst (p.map LStp.val), .int own, .set (hrV h)] S Q E
theorem lw_ok (d : Nat) : SpLW (Cl (d + 6)) := by
  intro p own h w S Q E g hr hl hq
  refine callI_of lk__law_worth rfl ?_
  have hD := ldo_ok (d + 1)
  have hP := pw_ok d
  show m__law_worth (Cl (d + 5)) (endsI true S Q E) [some (.lst (p.map LStp.val)), some (.int own), some (.set (hrV h)), none, none, none, none, none, none, none, none] S
  unfold m__law_worth
  generalize Cl (d + 5) = Γ at hD hP ⊢
  have hz : sizeLine = 16777216 := sizeLine_eq
  refine ⟨show 0 ≤ sizeLine by decide, fun wa hwa => ?_⟩
  refine sq_for (walkL (EV.var fun _ z => z)) ?_
  refine forGo_ind (fun r ρ S' => ∃ (p' : List LStp) (st : List Int) (c4 c5 c6 c7 c8 : Option Val), r = p'.map LStp.val ∧ runL own h p' st = some [w] ∧ st.length + p'.length ≤ 1000 ∧ ρ = [some (.lst (p.map LStp.val)), some (.int own), some (.set (hrV h)), some (.ref wa), c4, c5, c6, c7, c8, none, none] ∧ S' wa = some (.lst (stk st)) ∧ ∀ c, S c ≠ none → S' c = S c) ?_ ?_ _ _ _
    ⟨p, [], none, none, none, none, none, rfl, hr, by simp; omega, rfl, put_same, fun c hc => by rw [put_ne (fun z => hc (by rw [z]; exact hwa))]⟩
  · rintro ρ S' ⟨p', st, c4, c5, c6, c7, c8, e, hr', hl', rfl, W, fr⟩
    refine ⟨trivial, ?_⟩
    have : p' = [] := List.map_eq_nil_iff.mp e.symm
    subst this
    have hst : st = [w] := Option.some.inj hr'
    subst hst
    refine sq_ret (EV.ixR (EV.var fun _ z => z) W (EV.con _) (v := .int w) rfl) ?_
    show Q (.int w) (S'.within S)
    rw [within_old fr]
    exact hq
  · rintro x r ρ S' Kn hK ⟨p', st, c4, c5, c6, c7, c8, e, hr', hl', rfl, W, fr⟩
    cases p' with
    | nil => cases e
    | cons s p' =>
      have e1 : x = s.val := (List.cons.inj e).1
      have e2 : r = p'.map LStp.val := (List.cons.inj e).2
      subst e1
      obtain ⟨st', h1, h2⟩ := Option.bind_eq_some_iff.mp (show (stepL own h s st).bind (runL own h p') = some [w] from hr')
      have hsl := stepL_len h1
      simp only [List.length_cons] at hl'
      refine ⟨trivial, ?_⟩
      have frp : ∀ (S2 : Sto) (c' : Cell), (∀ c, S c ≠ none → S2 c = S c) → ∀ c, S c ≠ none → (S2.put wa c') c = S c := fun S2 c' f c hc => by
        rw [put_ne (fun z => hc (by rw [z]; exact hwa))]
        exact f c hc
      cases s with
      | pl x =>
        have hw : decide (x.w = ("with" : Str)) = false := by
          cases x with
          | lf l => cases l <;> kernel_rfl
          | bi o => cases o <;> kernel_rfl
          | un dv n => cases dv <;> kernel_rfl
          | ife s => kernel_rfl
        refine sq_if_f (TT.eqS (p := x.w) (EV.ixT (EV.var fun _ z => z) (EV.con _) at0) (EV.con _) hw) ?_
        refine hD x own h _ wa st st' S' _ _ (.inl rfl) g W (by omega) h1 ?_
        exact hK _ _ ⟨p', st', _, _, _, _, _, e2, h2, by omega, rfl, put_same, frp S' _ fr⟩
      | wth n t ms =>
        obtain ⟨l0, ls, y, el, hn, nd, hml, el2, htl, hty, rfl⟩ := wthL_inv h1
        have htk : (st.take (ms.length + 1)).length = ms.length + 1 := by
          have := congrArg List.length el
          rw [List.length_map, List.length_reverse, List.length_cons] at this
          omega
        have hst : ms.length + 1 ≤ st.length := by
          rw [List.length_take] at htk
          omega
        have hsplit : stk st = stk (st.drop (ms.length + 1)) ++ ((st.take (ms.length + 1)).reverse).map Val.int := by
          unfold stk
          rw [← List.map_reverse, ← List.map_reverse, ← List.map_append, ← List.reverse_append, List.take_append_drop]
        have hdl : (stk (st.drop (ms.length + 1))).length = st.length - (ms.length + 1) := by rw [stk_len, List.length_drop]
        have W2 := W
        rw [hsplit] at W2
        refine sq_if_t (TT.eqS (p := "with") (EV.ixT (EV.var fun _ z => z) (EV.con _) at0) (EV.con _) (by kernel_rfl)) ?_
        refine sq_set (EV.add (EV.con _) (EV.lenT (EV.ixT (EV.var fun _ z => z) (EV.con _) at3))) ?_
        have hix : (((stk st).length : Nat) : Int) - (1 + (((ms.map Val.int).length : Nat) : Int)) = ((stk (st.drop (ms.length + 1))).length : Int) := by
          rw [stk_len, List.length_map, hdl]
          omega
        refine sq_set (v := .lst (((st.take (ms.length + 1)).reverse).map fun x => Val.int (x % n))) ?_ ?_
        · exact EV.lc Val.int ((st.take (ms.length + 1)).reverse) (fun x => Val.int (x % n)) (walkL (EV.sliceR (EV.var fun _ z => z) W2 (part_of (EV.sub (EV.lenR (EV.var fun _ z => z) W) (EV.var fun _ z => z))) part_no (cut_from _ _ hix))) trivial (by rw [List.length_reverse, htk]; omega) fun x hx => ⟨_, rfl, EV.mod (EV.int (EV.var fun _ z => z)) (EV.ixT (EV.var fun _ z => z) (EV.con _) at1) hn.1⟩
        have eml : ((st.take (ms.length + 1)).reverse).map (fun x => Val.int (x % n)) = .int l0 :: ls.map Val.int := by
          have : ((st.take (ms.length + 1)).reverse).map (fun x => Val.int (x % n)) = (((st.take (ms.length + 1)).reverse).map (· % n)).map Val.int := by rw [List.map_map]; rfl
          rw [this, el]
          rfl
        rw [eml]
        refine sq_for (rng1 (EV.var fun _ z => z) (by rw [List.length_map]; omega) (by rw [List.length_map]; omega)) ?_
        refine forGo_ind (fun r ρ S2 => ∃ (j : Nat) (c7 : Option Val), j + r.length = ms.length + 1 ∧ S2 wa = some (.lst (stk (st.drop j))) ∧ (∀ c, S c ≠ none → S2 c = S c) ∧ ρ = [some (.lst (p.map LStp.val)), some (.int own), some (.set (hrV h)), some (.ref wa), some (LStp.wth n t ms).val, some (.int (1 + (((ms.map Val.int).length : Nat) : Int))), some (.lst (.int l0 :: ls.map Val.int)), c7, c8, none, none]) ?_ ?_ _ _ _ ⟨0, c7, by unfold TL.upTo; rw [List.length_map, List.length_range, List.length_map]; omega, W, fr, rfl⟩
        · rintro ρ S2 ⟨j, c7', hj, W3, fr3, rfl⟩
          refine ⟨trivial, ?_⟩
          rw [List.length_nil, Nat.add_zero] at hj
          subst hj
          dsimp only
          refine sq_set (v := .lst (hrV (ms.zip ls))) ?_ ?_
          · rw [← inner_eq el2]
            refine EV.lc (fun i : Nat => Val.int (0 + (i : Int))) (List.range ms.length) (fun i : Nat => Val.tup [.int (ms.getD i 0), .int (ls.getD i 0)]) (g := none) (fun K E q => ?_) trivial (by rw [List.length_range]; omega) fun i hi => ⟨_, rfl, ?_⟩
            · refine rng1 (EV.lenT (EV.ixT (EV.var fun _ z => z) (EV.con _) at3)) (by rw [List.length_map]; omega) (by rw [List.length_map]; omega) _ _ ?_
              rw [List.length_map, Int.toNat_natCast]
              exact q
            · have hi := List.mem_range.mp hi
              refine EV.tup2 (EV.ixT (EV.ixT (EV.var fun _ z => z) (EV.con _) at3) (EV.var fun _ z => z) ?_) (EV.ixL (EV.var fun _ z => z) (EV.add (EV.con _) (EV.var fun _ z => z)) ?_)
              · rw [Int.zero_add]
                exact getD_at ms i hi
              · rw [Int.zero_add, show (1 : Int) + (i : Int) = ((i + 1 : Nat) : Int) from by omega, at_nat (by rw [List.length_cons, List.length_map]; omega), List.getElem?_cons_succ]
                have := getD_at ls i (by omega)
                rw [at_nat (by rw [List.length_map]; omega)] at this
                exact this
          · refine sq_app (v := .int y) (fun _ z => z) W3 (by rw [stk_len, List.length_drop]; omega) (EV.call3 (EV.ixT (EV.var fun _ z => z) (EV.con _) at2) (EV.ixL (EV.var fun _ z => z) (EV.con _) at0) (EV.var fun _ z => z) fun Q E q => ?_) ?_
            · exact hP t.steps l0 (ms.zip ls) _ y _ Q E (.inr rfl) (gh_zip hn nd hml el2 fun l hl => mod_mem hn.1 (by rw [el]; exact List.mem_cons_of_mem _ hl)) (run_top hty) (by omega) q
            · rw [← stk_cons]
              exact hK _ _ ⟨p', _, _, _, _, _, _, e2, h2, by omega, rfl, put_same, frp S2 _ fr3⟩
        · rintro z r ρ S2 Kn2 hK2 ⟨j, c7', hj, W3, fr3, rfl⟩
          rw [List.length_cons] at hj
          refine ⟨trivial, ?_⟩
          have hjl : j < st.length := by omega
          have ed : st.drop j = st[j] :: st.drop (j + 1) := List.drop_eq_getElem_cons hjl
          rw [ed, stk_cons] at W3
          refine ⟨isl_ref W3, pop_end W3 (hK2 _ _ ⟨j + 1, _, by omega, put_same, frp S2 _ fr3, rfl⟩)⟩
end K03

namespace K03
open PySem PySem.Spec L2 TL
open PyProof.Rows hiding St

/-! ### the trees that the law's steps make, as values -/
def stepV : LStp → List Val → Option (List Val)
  | .pl (.lf l), st => some (l.val :: st)
  | .pl (.bi o), b :: a :: st => some (.tup [.str o.w, a, b] :: st)
  | .pl (.un dv n), a :: st => some (.tup [.str (unW dv), a, .int n] :: st)
  | .pl (.ife s), d :: c :: b :: a :: st => some (.tup [.str "if", .str (ifW s), a, b, c, d] :: st)
  | .wth n t ms, st => match (st.take (ms.length + 1)).reverse with
    | o :: ps => if ps.length = ms.length ∧ ms.length ≤ 900 then some (.tup [.str "with", .int n, t.val, o, .tup (zipV (ms.map Val.int) ps)] :: st.drop (ms.length + 1)) else none
    | [] => none
  | _, _ => none
def runV : List LStp → List Val → Option (List Val)
  | [], st => some st
  | s :: r, st => (stepV s st).bind (runV r)
theorem runV_tree : ∀ (t : Tr) (r : List LStp) (st : List Val), runV (t.steps.map .pl ++ r) st = runV r (t.val :: st)
  | .lf l, r, st => rfl
  | .bi o a b, r, st => by
    show runV ((a.steps ++ (b.steps ++ [Stp.bi o])).map .pl ++ r) st = _
    rw [List.map_append, List.append_assoc, runV_tree a, List.map_append, List.append_assoc, runV_tree b]
    rfl
  | .un dv n a, r, st => by
    show runV ((a.steps ++ [Stp.un dv n]).map .pl ++ r) st = _
    rw [List.map_append, List.append_assoc, runV_tree a]
    rfl
  | .ife s a b c d, r, st => by
    show runV ((a.steps ++ (b.steps ++ (c.steps ++ (d.steps ++ [Stp.ife s])))).map .pl ++ r) st = _
    rw [List.map_append, List.append_assoc, runV_tree a, List.map_append, List.append_assoc, runV_tree b, List.map_append, List.append_assoc, runV_tree c, List.map_append, List.append_assoc, runV_tree d]
    rfl
theorem wthV_inv {n : Int} {t : Tr} {ms : List Int} {st st' : List Val} (e : stepV (.wth n t ms) st = some st') : ∃ o ps, (st.take (ms.length + 1)).reverse = o :: ps ∧ ps.length = ms.length ∧ ms.length ≤ 900 ∧ st' = .tup [.str "with", .int n, t.val, o, .tup (zipV (ms.map Val.int) ps)] :: st.drop (ms.length + 1) := by
  unfold stepV at e
  dsimp only at e
  split at e
  · rename_i o ps el
    split at e
    · rename_i c
      cases e
      exact ⟨o, ps, el, c.1, c.2, rfl⟩
    · cases e
  · cases e
theorem stepV_len {s : LStp} {st st' : List Val} (e : stepV s st = some st') : st'.length ≤ st.length + 1 := by
  cases s with
  | wth n t ms =>
    obtain ⟨o, ps, _, _, _, rfl⟩ := wthV_inv e
    rw [List.length_cons, List.length_drop]
    omega
  | pl x =>
    unfold stepV at e
    split at e
    · cases e; simp
    · cases e; simp only [List.length_cons]; omega
    · cases e; simp
    · cases e; simp only [List.length_cons]; omega
    · rename_i h; cases h
    · cases e
theorem zipV_eq : ∀ {ms : List Int} {ps : List Val}, ps.length = ms.length → (List.range ms.length).map (fun i : Nat => Val.tup [.int (ms.getD i 0), ps.getD i .non]) = zipV (ms.map Val.int) ps := by
  intro ms
  induction ms with
  | nil => intro ps h; rfl
  | cons m ms ih =>
    intro ps h
    cases ps with
    | nil => cases h
    | cons p ps =>
      rw [List.length_cons, List.range_succ_eq_map, List.map_cons, List.map_map]
      show _ = Val.tup [.int m, p] :: zipV (ms.map Val.int) ps
      rw [← ih (Nat.succ.inj h)]
      rfl
abbrev SpTreeG (Γ : Calls) (p : List LStp) : Prop := ∀ (v : Val) (S : Sto) (Q : VQ) (E : EQ), runV p [] = some [v] → p.length ≤ 1000 → Q v S → Γ "_law_tree" [.lst (p.map LStp.val)] S Q E
theorem tree_gen (d : Nat) (P : List LStp) (hin : ∀ n t ms, LStp.wth n t ms ∈ P → ∀ (S : Sto) (Q : VQ) (E : EQ), Q t.val S → Cl d "_law_tree" [prog t] S Q E) : SpTreeG (Cl (d + 1)) P := by
  intro v S Q E hrun hl hq
  refine callI_of lk__law_tree rfl ?_
  show m__law_tree (Cl d) (endsI true S Q E) [some (.lst (P.map LStp.val)), none, none, none, none, none, none, none, none, none, none, none, none, none] S
  unfold m__law_tree
  generalize Cl d = Γ at hin
  have hz : sizeLine = 16777216 := sizeLine_eq
  refine ⟨show 0 ≤ sizeLine by decide, fun wa hwa => ?_⟩
  refine sq_for (walkL (EV.var fun _ z => z)) ?_
  refine forGo_ind (fun r ρ S' => ∃ (p' : List LStp) (st : List Val) (wa : Addr) (c2 c3 c4 c5 c6 c7 c8 c9 c10 c11 c12 : Option Val), r = p'.map LStp.val ∧ runV p' st = some [v] ∧ st.length + p'.length ≤ 1000 ∧ (∀ s ∈ p', s ∈ P) ∧ ρ = [some (.lst (P.map LStp.val)), some (.ref wa), c2, c3, c4, c5, c6, c7, c8, c9, c10, c11, c12, none] ∧ S wa = none ∧ S' wa = some (.lst st.reverse) ∧ ∀ c, S c ≠ none → S' c = S c) ?_ ?_ _ _ _
    ⟨P, [], wa, none, none, none, none, none, none, none, none, none, none, none, rfl, hrun, by simpa using hl, fun s hs => hs, rfl, hwa, put_same, fun c hc => by rw [put_ne (fun z => hc (by rw [z]; exact hwa))]⟩
  · rintro ρ S' ⟨p', st, wa, c2, c3, c4, c5, c6, c7, c8, c9, c10, c11, c12, e, hr', hl', _, rfl, hwa, W, fr⟩
    refine ⟨trivial, ?_⟩
    have : p' = [] := List.map_eq_nil_iff.mp e.symm
    subst this
    have hst : st = [v] := Option.some.inj hr'
    subst hst
    refine sq_ret (EV.ixR (EV.var fun _ z => z) W (EV.con _) (v := v) rfl) ?_
    show Q v (S'.within S)
    rw [within_old fr]
    exact hq
  · rintro x r ρ S' Kn hK ⟨p', st, wa, c2, c3, c4, c5, c6, c7, c8, c9, c10, c11, c12, e, hr', hl', hmem, rfl, hwa, W, fr⟩
    cases p' with
    | nil => cases e
    | cons s p' =>
      have e1 : x = s.val := (List.cons.inj e).1
      have e2 : r = p'.map LStp.val := (List.cons.inj e).2
      subst e1
      obtain ⟨st', h1, h2⟩ := Option.bind_eq_some_iff.mp (show (stepV s st).bind (runV p') = some [v] from hr')
      have hsl := stepV_len h1
      simp only [List.length_cons] at hl'
      have hmem2 : ∀ s ∈ p', s ∈ P := fun q hq => hmem q (List.mem_cons_of_mem _ hq)
      have fr' : ∀ c', ∀ c, S c ≠ none → (S'.put wa c') c = S c := fun c' c hc => by
        rw [put_ne (fun z => hc (by rw [z]; exact hwa))]
        exact fr c hc
      refine ⟨trivial, ?_⟩
      have ew : ∃ as, s.val = .tup (.str s.w :: as) := by
        cases s with
        | pl x => exact ⟨_, rfl⟩
        | wth n t ms => exact ⟨_, rfl⟩
      obtain ⟨as, ew⟩ := ew
      refine sq_set (v := .str s.w) (EV.ixT (xs := .str s.w :: as) (by rw [← ew]; exact EV.var fun _ z => z) (EV.con _) at0) ?_
      have hin1 : EV (lstI false (consA (conI (.str "plus")) (consA (conI (.str "less")) (consA (conI (.str "times")) nilA)))) [some (.lst (P.map LStp.val)), some (.ref wa), some s.val, some (.str s.w), c4, c5, c6, c7, c8, c9, c10, c11, c12, none] S' (.lst (pairW.map Val.str)) := EV.lst3 (EV.con _) (EV.con _) (EV.con _)
      have hin2 : EV (lstI false (consA (conI (.str "div")) (consA (conI (.str "rest")) nilA))) [some (.lst (P.map LStp.val)), some (.ref wa), some s.val, some (.str s.w), c4, c5, c6, c7, c8, c9, c10, c11, c12, none] S' (.lst ((["div", "rest"] : List Str).map Val.str)) := fun Q E q => ⟨show 2 ≤ sizeLine by decide, q⟩
      cases s with
      | wth n t ms =>
        obtain ⟨o, ps, el, el2, hml, rfl⟩ := wthV_inv h1
        have htk : (st.take (ms.length + 1)).length = ms.length + 1 := by
          have := congrArg List.length el
          rw [List.length_reverse, List.length_cons] at this
          omega
        have hst : ms.length + 1 ≤ st.length := by
          rw [List.length_take] at htk
          omega
        have hsplit : st.reverse = (st.drop (ms.length + 1)).reverse ++ (o :: ps) := by
          rw [← el, ← List.reverse_append, List.take_append_drop]
        have hdl : ((st.drop (ms.length + 1)).reverse).length = st.length - (ms.length + 1) := by rw [List.length_reverse, List.length_drop]
        have hrl : (st.reverse).length = st.length := List.length_reverse
        have W2 := W
        rw [hsplit] at W2
        have W3 := W2
        rw [show (st.drop (ms.length + 1)).reverse ++ (o :: ps) = ((st.drop (ms.length + 1)).reverse ++ [o]) ++ ps from by simp] at W3
        refine sq_if_f (TT.inL (EV.var fun _ z => z) hin1 (by kernel_rfl)) ?_
        refine sq_if_f (TT.inL (EV.var fun _ z => z) hin2 (by kernel_rfl)) ?_
        refine sq_if_f (TT.eqS (EV.var fun _ z => z) (EV.con _) (by kernel_rfl)) ?_
        refine sq_if_t (TT.eqS (EV.var fun _ z => z) (EV.con _) (by kernel_rfl)) ?_
        refine sq_set (EV.lenT (EV.ixT (EV.var fun _ z => z) (EV.con _) at3)) ?_
        have i1 : (((st.reverse).length : Nat) : Int) - (((ms.map Val.int).length : Nat) : Int) = ((((st.drop (ms.length + 1)).reverse ++ [o]).length : Nat) : Int) := by
          rw [hrl, List.length_map, List.length_append, hdl, List.length_singleton]
          omega
        have i2 : ((((st.reverse).length : Nat) : Int) - (((ms.map Val.int).length : Nat) : Int)) - 1 = (((st.drop (ms.length + 1)).reverse.length : Nat) : Int) := by
          rw [hrl, List.length_map, hdl]
          omega
        refine sq_set (v := .lst ps) (EV.sliceR (EV.var fun _ z => z) W3 (part_of (EV.sub (EV.lenR (EV.var fun _ z => z) W) (EV.var fun _ z => z))) part_no (cut_from _ _ i1)) ?_
        refine sq_set (v := o) (EV.ixR (EV.var fun _ z => z) W2 (EV.sub (EV.sub (EV.lenR (EV.var fun _ z => z) W) (EV.var fun _ z => z)) (EV.con _)) (by rw [i2, at_nat (by rw [List.length_append, List.length_cons]; omega)]; simp)) ?_
        have hsl2 : EV (sliceI false (varI 1) noPart (partI (bin2 subP (bin2 subP (callP lenP (consA (varI 1) nilA)) (varI 10)) (conI (.int 1))))) [some (.lst (P.map LStp.val)), some (.ref wa), some (LStp.wth n t ms).val, some (.str "with"), c4, c5, c6, c7, c8, c9, some (.int (((ms.map Val.int).length : Nat) : Int)), some (.lst ps), some o, none] S' (.lst ((st.drop (ms.length + 1)).reverse)) := by
          refine EV.sliceR (EV.var fun _ z => z) W2 part_no (part_of (EV.sub (EV.sub (EV.lenR (EV.var fun _ z => z) W) (EV.var fun _ z => z)) (EV.con _))) ?_
          rw [i2]
          unfold cutL
          rw [HT.sIx_nat]
          show (List.drop 0 _).take (min _ _ - 0) = _
          rw [List.drop_zero, Nat.sub_zero, show min (st.drop (ms.length + 1)).reverse.length ((st.drop (ms.length + 1)).reverse ++ (o :: ps)).length = (st.drop (ms.length + 1)).reverse.length from by rw [List.length_append]; omega, List.take_left]
        refine sq_slc hsl2 fun wb hwb => ?_
        have hwbS : S wb = none := by
          cases ec : S wb with
          | none => rfl
          | some c0 =>
            have := fr wb (by rw [ec]; exact fun z => nomatch z)
            rw [hwb, ec] at this
            cases this
        have fr2 : ∀ c', ∀ c, S c ≠ none → ((S'.put wb (.lst ((st.drop (ms.length + 1)).reverse))).put wb c') c = S c := fun c' c hc => by
          rw [put_ne (fun z => hc (by rw [z]; exact hwbS)), put_ne (fun z => hc (by rw [z]; exact hwbS))]
          exact fr c hc
        have htree := hin n t ms (hmem _ List.mem_cons_self)
        refine sq_app (v := .tup [.str "with", .int n, t.val, o, .tup (zipV (ms.map Val.int) ps)]) (fun _ z => z) put_same (by rw [hdl]; omega) ?_ ?_
        · have hlc : EV (callP tupleP (consA (lcI false (rng1I (varI 10)) (.nm 13) yesT (tupI (consA (bin2 ixP (bin2 ixP (varI 2) (conI (.int 3))) (varI 13)) (consA (bin2 ixP (varI 11) (varI 13)) nilA))) [13]) nilA)) [some (.lst (P.map LStp.val)), some (.ref wb), some (LStp.wth n t ms).val, some (.str "with"), c4, c5, c6, c7, c8, c9, some (.int (((ms.map Val.int).length : Nat) : Int)), some (.lst ps), some o, none] (S'.put wb (.lst ((st.drop (ms.length + 1)).reverse))) (.tup (zipV (ms.map Val.int) ps)) := by
            refine EV.tuple (xs := zipV (ms.map Val.int) ps) (v := .lst (zipV (ms.map Val.int) ps)) ?_ rfl
            rw [← zipV_eq el2]
            refine EV.lc (fun i : Nat => Val.int (0 + (i : Int))) (List.range ms.length) (fun i : Nat => Val.tup [.int (ms.getD i 0), ps.getD i .non]) (g := none) (fun K E q => ?_) trivial (by rw [List.length_range]; omega) fun i hi => ⟨_, rfl, ?_⟩
            · refine rng1 (EV.var fun _ z => z) (by rw [List.length_map]; omega) (by rw [List.length_map]; omega) _ _ ?_
              rw [List.length_map, Int.toNat_natCast]
              exact q
            · have hi := List.mem_range.mp hi
              refine EV.tup2 (EV.ixT (EV.ixT (EV.var fun _ z => z) (EV.con _) at3) (EV.var fun _ z => z) ?_) (EV.ixL (EV.var fun _ z => z) (EV.var fun _ z => z) ?_)
              · rw [Int.zero_add]
                exact getD_at ms i hi
              · rw [Int.zero_add, at_nat (by omega)]
                simp [List.getD, List.getElem?_eq_getElem (show i < ps.length by omega)]
          exact fun Q E q => ixT_of at1 (ixT_of at2 (htree _ _ _ (hlc _ E ⟨show 5 ≤ sizeLine by decide, q⟩)))
        · rw [put_put]
          refine hK _ _ ⟨p', _, wb, _, _, _, _, _, _, _, _, _, _, _, e2, h2, by omega, hmem2, rfl, hwbS, ?_, fun c hc => ?_⟩
          · rw [put_same, List.reverse_cons]
          · rw [put_ne (fun z => hc (by rw [z]; exact hwbS))]
            exact fr c hc
      | pl x =>
        cases x with
        | bi o =>
          match st, h1, hl', W with
          | b :: a :: st, h1, hl', W =>
            cases h1
            rw [List.reverse_cons, List.reverse_cons] at W
            simp only [List.length_cons] at hl'
            refine sq_if_t (TT.inL (EV.var fun _ z => z) hin1 (by cases o <;> kernel_rfl)) ?_
            refine sq_pop2 (x := a) (y := b) (ρ1 := [some (.lst (P.map LStp.val)), some (.ref wa), some (Stp.bi o).val, some (.str o.w), some b, some a, c6, c7, c8, c9, c10, c11, c12, none]) (fun _ z => z) W rfl ?_
            refine sq_app (v := .tup [.str o.w, a, b]) (fun _ z => z) put_same (by rw [List.length_reverse]; omega) (EV.tup3 (EV.var fun _ z => z) (EV.var fun _ z => z) (EV.var fun _ z => z)) ?_
            rw [put_put]
            exact hK _ _ ⟨p', _, wa, _, _, _, _, _, _, _, _, _, _, _, e2, h2, by simp only [List.length_cons]; omega, hmem2, rfl, hwa, by rw [put_same, List.reverse_cons], fr' _⟩
        | un dv n =>
          match st, h1, hl', W with
          | a :: st, h1, hl', W =>
            cases h1
            rw [List.reverse_cons] at W
            simp only [List.length_cons] at hl'
            refine sq_if_f (TT.inL (EV.var fun _ z => z) hin1 (by cases dv <;> kernel_rfl)) ?_
            refine sq_if_t (TT.inL (EV.var fun _ z => z) hin2 (by cases dv <;> kernel_rfl)) ?_
            refine ⟨isl_ref W, isl_ref W, pop_end W (ixT_of at1 ⟨show 3 ≤ sizeLine by decide, app_of put_same (by rw [List.length_reverse]; omega) ?_⟩)⟩
            rw [put_put]
            refine hK _ _ ⟨p', .tup [.str (unW dv), a, .int n] :: st, wa, _, _, _, _, _, _, _, _, _, _, _, e2, h2, by simp only [List.length_cons]; omega, hmem2, rfl, hwa, ?_, fr' _⟩
            rw [List.reverse_cons]
            exact put_same
        | ife s =>
          match st, h1, hl', W with
          | dd :: c :: b :: a :: st, h1, hl', W =>
            cases h1
            rw [List.reverse_cons, List.reverse_cons, List.reverse_cons, List.reverse_cons] at W
            simp only [List.length_cons] at hl'
            refine sq_if_f (TT.inL (EV.var fun _ z => z) hin1 (by kernel_rfl)) ?_
            refine sq_if_f (TT.inL (EV.var fun _ z => z) hin2 (by kernel_rfl)) ?_
            refine sq_if_t (TT.eqS (EV.var fun _ z => z) (EV.con _) (by kernel_rfl)) ?_
            refine sq_pop4 (ρ1 := [some (.lst (P.map LStp.val)), some (.ref wa), some (Stp.ife s).val, some (.str "if"), c4, c5, some dd, some c, some b, some a, c10, c11, c12, none]) (fun _ z => z) W rfl ?_
            refine sq_app (v := .tup [.str "if", .str (ifW s), a, b, c, dd]) (fun _ z => z) put_same (by rw [List.length_reverse]; omega) ?_ ?_
            · exact fun Q E q => ixT_of at1 ⟨show 6 ≤ sizeLine by decide, q⟩
            rw [put_put]
            exact hK _ _ ⟨p', _, wa, _, _, _, _, _, _, _, _, _, _, _, e2, h2, by simp only [List.length_cons]; omega, hmem2, rfl, hwa, by rw [put_same, List.reverse_cons], fr' _⟩
        | lf l =>
          cases h1
          refine sq_if_f (TT.inL (EV.var fun _ z => z) hin1 (by cases l <;> kernel_rfl)) ?_
          refine sq_if_f (TT.inL (EV.var fun _ z => z) hin2 (by cases l <;> kernel_rfl)) ?_
          refine sq_if_f (TT.eqS (EV.var fun _ z => z) (EV.con _) (by cases l <;> kernel_rfl)) ?_
          refine sq_if_f (TT.eqS (EV.var fun _ z => z) (EV.con _) (by cases l <;> kernel_rfl)) ?_
          refine sq_app (v := l.val) (fun _ z => z) W (by rw [List.length_reverse]; omega) (EV.var fun _ z => z) ?_
          exact hK _ _ ⟨p', _, wa, _, _, _, _, _, _, _, _, _, _, _, e2, h2, by simp only [List.length_cons]; omega, hmem2, rfl, hwa, by rw [put_same, List.reverse_cons], fr' _⟩
theorem runV_top (t : Tr) : runV (t.steps.map .pl) [] = some [t.val] := by
  have := runV_tree t [] []
  rw [List.append_nil] at this
  exact this
theorem pl_vals (xs : List Stp) : (xs.map LStp.pl).map LStp.val = xs.map Stp.val := by rw [List.map_map]; rfl
abbrev SpTree (Γ : Calls) : Prop := ∀ (t : Tr) (S : Sto) (Q : VQ) (E : EQ), t.steps.length ≤ 900 → Q t.val S → Γ "_law_tree" [prog t] S Q E
theorem tree_ok (d : Nat) : SpTree (Cl (d + 1)) := by
  intro t S Q E hl hq
  have := tree_gen d (t.steps.map .pl) (fun n t ms h => by
    obtain ⟨x, _, hx⟩ := List.mem_map.mp h
    cases hx) t.val S Q E (runV_top t) (by rw [List.length_map]; omega) hq
  rw [pl_vals] at this
  exact this
abbrev SpTreeW (Γ : Calls) : Prop := ∀ (p : List LStp) (v : Val) (S : Sto) (Q : VQ) (E : EQ), (∀ n t ms, LStp.wth n t ms ∈ p → t.steps.length ≤ 900) → runV p [] = some [v] → p.length ≤ 900 → Q v S → Γ "_law_tree" [.lst (p.map LStp.val)] S Q E
theorem treeW_ok (d : Nat) : SpTreeW (Cl (d + 2)) := fun p v S Q E hp hr hl hq => tree_gen (d + 1) p (fun n t ms h S Q E q => tree_ok d t S Q E (hp n t ms h) q) v S Q E hr (by omega) hq
end K03

namespace K03
open PySem PySem.Spec L2 TL
open PyProof.Rows hiding St

/-! ### the steps of a tree -/
structure Wt where
  n : Int
  inner : Tr
  own : Tr
  ps : List (Int × Tr)
def Wt.ms (w : Wt) : List Int := w.ps.map (·.1)
def Wt.val (w : Wt) : Val := .tup [.str "with", .int w.n, w.inner.val, w.own.val, .tup (w.ps.map fun p => .tup [.int p.1, p.2.val])]
def nm3 : Tr := .lf (.num 3)
inductive It where
  | tr (t : Tr) | wt (w : Wt) | wx (w : Wt) | st (p : PStp)
def It.val : It → Val
  | .tr t => t.val
  | .wt w => w.val
  | .wx w => .tup [.str "times", w.val, nm3.val]
  | .st p => .tup [.str "step", p.val]
def Tr.ps (t : Tr) : List PStp := t.steps.map .pl
def Wt.steps (w : Wt) : List PStp := w.own.ps ++ (w.ps.flatMap (fun p => p.2.ps) ++ (.wth w.n w.ms :: (w.inner.ps ++ [.leave])))
def its : It → List It
  | .tr (.lf _) => []
  | .tr (.bi o a b) => [.tr a, .tr b, .st (.pl (.bi o))]
  | .tr (.un dv n a) => [.tr a, .st (.pl (.un dv n))]
  | .tr (.ife s a b c d) => [.tr a, .tr b, .tr c, .tr d, .st (.pl (.ife s))]
  | .wt w => .tr w.own :: (w.ps.map (fun p => It.tr p.2) ++ [.st (.wth w.n w.ms), .tr w.inner, .st .leave])
  | .wx w => [.wt w, .tr nm3, .st (.pl (.bi .times))]
  | .st _ => []
def It.flat : It → List PStp
  | .tr t => t.ps
  | .wt w => w.steps
  | .wx w => w.steps ++ [.pl (.lf (.num 3)), .pl (.bi .times)]
  | .st p => [p]
def Tr.sz : Tr → Nat
  | .lf _ => 1
  | .bi _ a b => a.sz + b.sz + 2
  | .un _ _ a => a.sz + 2
  | .ife _ a b c d => a.sz + b.sz + c.sz + d.sz + 2
def Wt.sz (w : Wt) : Nat := w.own.sz + (w.ps.map (fun p => p.2.sz)).sum + w.inner.sz + 3
def It.sz : It → Nat
  | .tr t => t.sz
  | .wt w => w.sz
  | .wx w => w.sz + 3
  | .st _ => 1
structure Wt.ok (w : Wt) : Prop where
  i : w.inner.ht ≤ 50
  o : w.own.ht ≤ 50
  p : ∀ q ∈ w.ps, q.2.ht ≤ 50
  l : w.ps.length ≤ 900
def It.ok : It → Prop
  | .tr t => t.ht ≤ 60
  | .wt w => w.ok
  | .wx w => w.ok
  | .st _ => True
def It.isC : It → Bool
  | .tr (.lf _) => false
  | .st _ => false
  | _ => true
theorem flat_tr (ps : List (Int × Tr)) : (ps.map (fun p => It.tr p.2)).flatMap It.flat = ps.flatMap (fun p => p.2.ps) := by
  induction ps with
  | nil => rfl
  | cons p ps ih => rw [List.map_cons, List.flatMap_cons, List.flatMap_cons, ih]; rfl
theorem its_flat : ∀ i : It, i.isC = true → (its i).flatMap It.flat = i.flat
  | .tr (.lf l), h => nomatch h
  | .tr (.bi o a b), _ => by simp [its, It.flat, Tr.ps, Tr.steps]
  | .tr (.un dv n a), _ => by simp [its, It.flat, Tr.ps, Tr.steps]
  | .tr (.ife s a b c d), _ => by simp [its, It.flat, Tr.ps, Tr.steps]
  | .wt w, _ => by
    show (It.tr w.own :: (w.ps.map (fun p => It.tr p.2) ++ [.st (.wth w.n w.ms), .tr w.inner, .st .leave])).flatMap It.flat = w.steps
    rw [List.flatMap_cons, List.flatMap_append, flat_tr]
    simp [It.flat, Wt.steps]
  | .wx w, _ => by simp [its, It.flat, nm3, Tr.ps, Tr.steps]
  | .st _, h => nomatch h
theorem sz_tr (ps : List (Int × Tr)) : ((ps.map (fun p => It.tr p.2)).map It.sz).sum = (ps.map (fun p => p.2.sz)).sum := by
  rw [List.map_map]
  rfl
theorem its_sz : ∀ i : It, i.isC = true → ((its i).map It.sz).sum < i.sz
  | .tr (.lf l), h => nomatch h
  | .tr (.bi o a b), _ => by simp [its, It.sz, Tr.sz]; omega
  | .tr (.un dv n a), _ => by simp [its, It.sz, Tr.sz]
  | .tr (.ife s a b c d), _ => by simp [its, It.sz, Tr.sz]; omega
  | .wt w, _ => by
    show ((It.tr w.own :: (w.ps.map (fun p => It.tr p.2) ++ [.st (.wth w.n w.ms), .tr w.inner, .st .leave])).map It.sz).sum < w.sz
    rw [List.map_cons, List.map_append, List.sum_cons, List.sum_append, sz_tr]
    simp [It.sz, Wt.sz]
    omega
  | .wx w, _ => by simp [its, It.sz, nm3, Tr.sz] <;> omega
  | .st _, h => nomatch h
theorem its_ok : ∀ i : It, i.ok → ∀ j ∈ its i, j.ok
  | .tr (.lf l), _, j, hj => nomatch hj
  | .tr (.bi o a b), h, j, hj => by
    simp only [It.ok, Tr.ht] at h
    simp only [its, List.mem_cons, List.not_mem_nil, or_false] at hj
    rcases hj with rfl | rfl | rfl <;> simp only [It.ok] <;> omega
  | .tr (.un dv m a), h, j, hj => by
    simp only [It.ok, Tr.ht] at h
    simp only [its, List.mem_cons, List.not_mem_nil, or_false] at hj
    rcases hj with rfl | rfl <;> simp only [It.ok] <;> omega
  | .tr (.ife s a b c d), h, j, hj => by
    simp only [It.ok, Tr.ht] at h
    simp only [its, List.mem_cons, List.not_mem_nil, or_false] at hj
    rcases hj with rfl | rfl | rfl | rfl | rfl <;> simp only [It.ok] <;> omega
  | .wt w, h, j, hj => by
    have h : w.ok := h
    rcases List.mem_cons.mp hj with rfl | hj
    · show w.own.ht ≤ 60
      have := h.o
      omega
    · rcases List.mem_append.mp hj with hj | hj
      · obtain ⟨q, hq, rfl⟩ := List.mem_map.mp hj
        show q.2.ht ≤ 60
        have := h.p q hq
        omega
      · simp only [List.mem_cons, List.not_mem_nil, or_false] at hj
        rcases hj with rfl | rfl | rfl
        · trivial
        · show w.inner.ht ≤ 60
          have := h.i
          omega
        · trivial
  | .wx w, h, j, hj => by
    simp only [its, List.mem_cons, List.not_mem_nil, or_false] at hj
    rcases hj with rfl | rfl | rfl
    · exact h
    · exact (show (2 : Nat) ≤ 60 by decide)
    · trivial
  | .st _, _, j, hj => nomatch hj
/-! as data -/
theorem dd_ti (n : Nat) (ms : List Int) : DD (n + 1) (tiV ms) := dd_tup fun x hx => by
  obtain ⟨m, _, rfl⟩ := List.mem_map.mp hx
  exact dd_int n m
theorem dd_leaf (l : Lf) : DD 2 l.val := dd_tup fun x hx => by
  rcases List.mem_cons.mp hx with rfl | hx
  · exact dd_str 1 (by cases l <;> kernel_rfl)
  · cases l <;> simp only [Lf.args, List.mem_cons, List.not_mem_nil, or_false] at hx <;> subst hx <;> first | exact dd_int 1 _ | exact dd_ti 0 _
theorem dd_step (s : Stp) : DD 2 s.val := by
  refine dd_tup fun x hx => ?_
  rcases List.mem_cons.mp hx with rfl | hx
  · refine dd_str 1 ?_
    cases s with
    | lf l => cases l <;> kernel_rfl
    | bi o => cases o <;> kernel_rfl
    | un dv n => cases dv <;> kernel_rfl
    | ife s => kernel_rfl
  · cases s with
    | lf l => cases l <;> simp only [Stp.args, Lf.args, List.mem_cons, List.not_mem_nil, or_false] at hx <;> subst hx <;> first | exact dd_int 1 _ | exact dd_ti 0 _
    | bi o => cases hx
    | un dv n =>
      rw [List.mem_singleton.mp hx]
      exact dd_int 1 _
    | ife s =>
      rw [List.mem_singleton.mp hx]
      exact dd_str 1 (by cases s <;> kernel_rfl)
theorem dd_tree : ∀ t : Tr, DD t.ht t.val
  | .lf l => dd_leaf l
  | .bi o a b => dd_tup fun x hx => by
      simp only [List.mem_cons, List.not_mem_nil, or_false] at hx
      rcases hx with rfl | rfl | rfl
      · exact dd_str _ (by cases o <;> kernel_rfl)
      · exact (dd_tree a).mono (by omega)
      · exact (dd_tree b).mono (by omega)
  | .un dv n a => dd_tup fun x hx => by
      simp only [List.mem_cons, List.not_mem_nil, or_false] at hx
      rcases hx with rfl | rfl | rfl
      · exact dd_str _ (by cases dv <;> kernel_rfl)
      · exact (dd_tree a).mono (by omega)
      · exact dd_int _ _
  | .ife s a b c d => dd_tup fun x hx => by
      simp only [List.mem_cons, List.not_mem_nil, or_false] at hx
      rcases hx with rfl | rfl | rfl | rfl | rfl | rfl
      · exact dd_str _ (by kernel_rfl)
      · exact dd_str _ (by cases s <;> kernel_rfl)
      · exact (dd_tree a).mono (by omega)
      · exact (dd_tree b).mono (by omega)
      · exact (dd_tree c).mono (by omega)
      · exact (dd_tree d).mono (by omega)
theorem dd_wt {w : Wt} (h : w.ok) : DD 53 w.val := dd_tup (n := 52) fun x hx => by
  simp only [List.mem_cons, List.not_mem_nil, or_false] at hx
  rcases hx with rfl | rfl | rfl | rfl | rfl
  · exact dd_str _ (by kernel_rfl)
  · exact dd_int _ _
  · exact (dd_tree _).mono (Nat.le_trans h.i (by omega))
  · exact (dd_tree _).mono (Nat.le_trans h.o (by omega))
  · refine (dd_tup (n := 51) fun y hy => ?_)
    obtain ⟨q, hq, rfl⟩ := List.mem_map.mp hy
    refine dd_tup (n := 50) fun z hz => ?_
    simp only [List.mem_cons, List.not_mem_nil, or_false] at hz
    rcases hz with rfl | rfl
    · exact dd_int _ _
    · exact (dd_tree _).mono (h.p q hq)
theorem dd_pstep (p : PStp) : DD 2 p.val := by
  cases p with
  | pl x => exact dd_step x
  | wth n ms =>
    refine dd_tup fun x hx => ?_
    simp only [PStp.args, List.mem_cons, List.not_mem_nil, or_false] at hx
    rcases hx with rfl | rfl | rfl
    · exact dd_str 1 (by kernel_rfl)
    · exact dd_int 1 _
    · exact dd_ti 0 _
  | leave =>
    refine dd_tup fun x hx => ?_
    simp only [PStp.args, List.mem_cons, List.not_mem_nil, or_false] at hx
    subst hx
    exact dd_str 1 (by kernel_rfl)
theorem dd_it {i : It} (h : i.ok) : DD 63 i.val := by
  cases i with
  | tr t => exact (dd_tree t).mono (Nat.le_trans (show t.ht ≤ 60 from h) (by omega))
  | st p =>
    refine (dd_tup (n := 2) fun x hx => ?_).mono (m := 63) (by omega)
    simp only [List.mem_cons, List.not_mem_nil, or_false] at hx
    rcases hx with rfl | rfl
    · exact dd_str _ (by kernel_rfl)
    · exact dd_pstep p
  | wt w => exact (dd_wt h).mono (by omega)
  | wx w =>
    refine (dd_tup (n := 53) fun x hx => ?_).mono (m := 63) (by omega)
    simp only [List.mem_cons, List.not_mem_nil, or_false] at hx
    rcases hx with rfl | rfl | rfl
    · exact dd_str _ (by kernel_rfl)
    · exact dd_wt h
    · exact (dd_tree nm3).mono (show (2 : Nat) ≤ 53 by decide)
/-! things_of -/
abbrev SpThings (Γ : Calls) : Prop := ∀ (i : It) (S : Sto) (Q : VQ) (E : EQ), i.ok → i.isC = true → Q (.lst ((its i).map It.val)) S → Γ "things_of" [i.val] S Q E
theorem ext_of {S : Sto} {Q : VQ} {a : Addr} {xs ys : List Val} (h : S a = some (.lst xs)) (hl : xs.length + ys.length ≤ sizeLine) (q : Q .non (S.put a (.lst (xs ++ ys)))) : extendP (.ref a) [.lst ys] S Q := by
  refine ⟨?_⟩
  show (match S a with
    | some (.lst xs) => xs.length + ys.length ≤ sizeLine ∧ Q .non (S.put a (.lst (xs ++ ys)))
    | _ => False)
  rw [h]
  exact ⟨hl, q⟩
theorem things_ok (d : Nat) : SpThings (Cl (d + 1)) := by
  intro i S Q E hok hc hq
  refine callI_of lk_things_of rfl ?_
  show m_things_of (Cl d) (endsI true S Q E) [some i.val, none, none, none, none, none, none] S
  unfold m_things_of
  generalize Cl d = Γ
  have hz : sizeLine = 16777216 := sizeLine_eq
  have fin : Q (.lst ((its i).map It.val)) (S.within S) := by rw [within_self]; exact hq
  cases i with
  | st p => cases hc
  | wx w =>
    refine sq_set (v := .str "times") (EV.ixT (EV.var fun _ z => z) (EV.con _) at0) ?_
    refine sq_if_r (TT.inT (p := "times") (ws := pairW) (EV.var fun _ z => z) (EV.con _) (by kernel_rfl)) ?_ fin
    exact EV.lst3 (EV.ixT (EV.var fun _ z => z) (EV.con _) at1) (EV.ixT (EV.var fun _ z => z) (EV.con _) at2) (EV.tup2 (EV.con _) (EV.tup1 (EV.var fun _ z => z)))
  | wt w =>
    have hl : w.ps.length ≤ 900 := (show w.ok from hok).l
    refine sq_set (v := .str "with") (EV.ixT (EV.var fun _ z => z) (EV.con _) at0) ?_
    refine sq_if_n (TT.inT (p := "with") (ws := pairW) (EV.var fun _ z => z) (EV.con _) (by kernel_rfl)) ?_
    refine sq_if_n (TT.eqS (p := "with") (EV.var fun _ z => z) (EV.con _) (by kernel_rfl)) ?_
    refine sq_if_n (TT.neS (p := "with") (EV.var fun _ z => z) (EV.con _) (by kernel_rfl)) ?_
    refine ixT_of at3 ⟨show 1 ≤ sizeLine by decide, fun fa hfa => ?_⟩
    have frp : ∀ c', Sto.within ((S.put fa (.lst [w.own.val])).put fa c') S = S := fun c' => within_old fun c hc => by
      rw [put_ne (fun z => hc (by rw [z]; exact hfa)), put_ne (fun z => hc (by rw [z]; exact hfa))]
    have hlc : EV (lcI false (walkI (bin2 ixP (varI 0) (conI (.int 4)))) (.tp [4, 5]) yesT (varI 5) [4, 5]) [some w.val, some (.str "with"), some (.ref fa), none, none, none, none] (S.put fa (.lst [w.own.val])) (.lst (w.ps.map fun p => p.2.val)) := EV.lc (fun p : Int × Tr => Val.tup [.int p.1, p.2.val]) w.ps (fun p => p.2.val) (walkT (EV.ixT (EV.var fun _ z => z) (EV.con _) at4)) trivial (by omega) fun p hp => ⟨_, rfl, EV.var fun _ z => z⟩
    refine sq_ext (fun _ z => z) put_same hlc (by rw [List.length_map, List.length_singleton]; omega) ?_
    rw [put_put]
    have hms : EV (callP tupleP (consA (lcI false (walkI (bin2 ixP (varI 0) (conI (.int 4)))) (.tp [6, 4]) yesT (varI 6) [6, 4]) nilA)) [some w.val, some (.str "with"), some (.ref fa), none, none, none, none] (S.put fa (.lst ([w.own.val] ++ w.ps.map fun p => p.2.val))) (tiV w.ms) := by
      refine EV.tuple (xs := w.ms.map Val.int) (v := .lst (w.ms.map Val.int)) ?_ rfl
      have := EV.lc (ρ := [some w.val, some (.str "with"), some (.ref fa), none, none, none, none]) (S := S.put fa (.lst ([w.own.val] ++ w.ps.map fun p => p.2.val))) (fun p : Int × Tr => Val.tup [.int p.1, p.2.val]) w.ps (fun p => Val.int p.1) (it := walkI (bin2 ixP (varI 0) (conI (.int 4)))) (tg := .tp [6, 4]) (te := varI 6) (own := [6, 4]) (walkT (EV.ixT (EV.var fun _ z => z) (EV.con _) at4)) trivial (by omega) fun p hp => ⟨_, rfl, EV.var fun _ z => z⟩
      have e : w.ms.map Val.int = w.ps.map fun p => Val.int p.1 := by unfold Wt.ms; rw [List.map_map]; rfl
      rw [e]
      exact this
    refine sq_set hms ?_
    have e : (its (.wt w)).map It.val = ([w.own.val] ++ w.ps.map fun p => p.2.val) ++ [.tup [.str "step", .tup [.str "with", .int w.n, tiV w.ms]], w.inner.val, .tup [.str "step", .tup [.str "leave"]]] := by
      show ((It.tr w.own :: (w.ps.map (fun p => It.tr p.2) ++ [.st (.wth w.n w.ms), .tr w.inner, .st .leave])).map It.val) = _
      rw [List.map_cons, List.map_append, List.map_map]
      rfl
    have fr1 : (S.put fa (.lst ([w.own.val] ++ w.ps.map fun p => p.2.val))).within S = S := within_old fun c hc => by rw [put_ne (fun z => hc (by rw [z]; exact hfa))]
    refine sq_ret (v := .lst ((its (.wt w)).map It.val)) (fun Q E q => ?_) ?_
    · rw [e] at q
      exact ixT_of at1 ⟨show 3 ≤ sizeLine by decide, show 2 ≤ sizeLine by decide, ixT_of at2 ⟨show 1 ≤ sizeLine by decide, show 2 ≤ sizeLine by decide, show 3 ≤ sizeLine by decide, addR_of put_same (by rw [List.length_append, List.length_map]; simp; omega) q⟩⟩
    · show Q _ (Sto.within _ S)
      rw [fr1]
      exact hq
  | tr t =>
    cases t with
    | lf l => cases hc
    | bi o a b =>
      refine sq_set (v := .str o.w) (EV.ixT (EV.var fun _ z => z) (EV.con _) at0) ?_
      refine sq_if_r (TT.inT (p := o.w) (ws := pairW) (EV.var fun _ z => z) (EV.con _) (by cases o <;> kernel_rfl)) ?_ fin
      exact EV.lst3 (EV.ixT (EV.var fun _ z => z) (EV.con _) at1) (EV.ixT (EV.var fun _ z => z) (EV.con _) at2) (EV.tup2 (EV.con _) (EV.tup1 (EV.var fun _ z => z)))
    | un dv n a =>
      refine sq_set (v := .str (unW dv)) (EV.ixT (EV.var fun _ z => z) (EV.con _) at0) ?_
      refine sq_if_n (TT.inT (p := unW dv) (ws := pairW) (EV.var fun _ z => z) (EV.con _) (by cases dv <;> kernel_rfl)) ?_
      refine sq_if_n (TT.eqS (p := unW dv) (EV.var fun _ z => z) (EV.con _) (by cases dv <;> kernel_rfl)) ?_
      refine sq_if_r (TT.neS (p := unW dv) (EV.var fun _ z => z) (EV.con _) (by cases dv <;> kernel_rfl)) ?_ fin
      exact fun Q E q => ixT_of at1 (ixT_of at2 ⟨show 2 ≤ sizeLine by decide, show 2 ≤ sizeLine by decide, show 2 ≤ sizeLine by decide, q⟩)
    | ife s a b c d =>
      refine sq_set (v := .str "if") (EV.ixT (EV.var fun _ z => z) (EV.con _) at0) ?_
      refine sq_if_n (TT.inT (p := "if") (ws := pairW) (EV.var fun _ z => z) (EV.con _) (by kernel_rfl)) ?_
      refine sq_if_r (TT.eqS (p := "if") (EV.var fun _ z => z) (EV.con _) (by kernel_rfl)) ?_ fin
      have hcut : EV (sliceI false (varI 0) noPart (partI (conI (.int 2)))) [some (Tr.ife s a b c d).val, some (.str "if"), none, none, none, none, none] S (Stp.ife s).val := EV.sliceT (EV.var fun _ z => z) part_no (part_of (EV.con _)) rfl
      exact fun Q E q => ixT_of at2 (ixT_of at3 (ixT_of at4 (ixT_of at5 (hcut _ E ⟨show 2 ≤ sizeLine by decide, show 5 ≤ sizeLine by decide, q⟩))))
theorem It.pos (i : It) : 1 ≤ i.sz := by
  cases i with
  | tr t => cases t <;> simp only [It.sz, Tr.sz] <;> omega
  | st s => exact Nat.le_refl _
  | wt w => simp only [It.sz, Wt.sz]; omega
  | wx w => simp only [It.sz]; omega
theorem its_len : ∀ l : List It, l.length ≤ (l.map It.sz).sum
  | [] => Nat.le_refl _
  | i :: l => by
    have := its_len l
    have := i.pos
    simp only [List.length_cons, List.map_cons, List.sum_cons]
    omega
abbrev SpSteps (Γ : Calls) : Prop := ∀ (t : It) (S : Sto) (Q : VQ) (E : EQ), t.ok → t.sz ≤ 10000 → t.flat.length ≤ 1000 → (∀ p, t ≠ .st p) → Q (.lst (t.flat.map PStp.val)) S → Γ "steps_of" [t.val] S Q E
theorem steps_ok (d : Nat) : SpSteps (Cl (d + 2)) := by
  intro t S Q E ht hsz hl hns hq
  refine callI_of lk_steps_of rfl ?_
  have hT := things_ok d
  show m_steps_of (Cl (d + 1)) (endsI true S Q E) [some t.val, none, none, none] S
  unfold m_steps_of
  generalize Cl (d + 1) = Γ at hT ⊢
  refine ⟨show 0 ≤ sizeLine by decide, fun fa hfa => ?_⟩
  refine ⟨show 1 ≤ sizeLine by decide, fun ta hta => ?_⟩
  have hne : fa ≠ ta := fun z => by rw [← z, put_same] at hta; cases hta
  rw [put_ne hne.symm] at hta
  refine ⟨fun m ρ S' => ∃ (l : List It) (fs : List PStp) (c3 : Option Val), m = (l.map It.sz).sum ∧ m ≤ t.sz ∧ ρ = [some t.val, some (.ref fa), some (.ref ta), c3] ∧ S' fa = some (.lst (fs.map PStp.val)) ∧ S' ta = some (.lst ((l.map It.val).reverse)) ∧ fs ++ l.flatMap It.flat = t.flat ∧ (∀ i ∈ l, i.ok) ∧ ∀ c, S c ≠ none → S' c = S c,
    ⟨t.sz, [t], [], none, by simp, Nat.le_refl _, rfl, by rw [put_ne hne, put_same]; rfl, put_same, by simp, fun i hi => by rw [List.mem_singleton.mp hi]; exact ht, fun c hc => by rw [put_ne (fun z => hc (by rw [z]; exact hta)), put_ne (fun z => hc (by rw [z]; exact hfa))]⟩, ?_⟩
  rintro m ρ S' ⟨l, fs, c3, rfl, hm, rfl, s1, s2, hfl, hok, fr⟩
  have hdd : ∀ x ∈ (l.map It.val).reverse, DD 63 x := fun x hx => by
    obtain ⟨i, hi, rfl⟩ := List.mem_map.mp (List.mem_reverse.mp hx)
    exact dd_it (hok i hi)
  refine TT.ne (k := !((l.map It.val).reverse).isEmpty) (EV.var fun _ z => z) EV.lst0 (by rw [eq0_ref s2 hdd, Bool.not_not]) _ _ ?_
  cases l with
  | nil =>
    show frz true (.ref fa) S' _
    show (match S' fa with
      | some (.lst xs) => Q (.lst xs) ((S'.del fa).within S)
      | _ => Q (.ref fa) (S'.within S))
    rw [s1]
    have e : fs = t.flat := by simpa using hfl
    show Q (.lst (fs.map PStp.val)) ((S'.del fa).within S)
    rw [within_old (S' := S'.del fa) fun c hc => ?_, e]
    · exact hq
    · show (if c = fa then none else S' c) = S c
      rw [if_neg (fun z => hc (by rw [z]; exact hfa))]
      exact fr c hc
  | cons i l =>
    have e0 : (!(((i :: l).map It.val).reverse).isEmpty) = true := by simp
    rw [e0]
    have e1 : ((i :: l).map It.val).reverse = (l.map It.val).reverse ++ [i.val] := by simp
    rw [e1] at s2
    rw [List.map_cons, List.sum_cons] at hm
    have hli := its_len l
    have hfs : fs.length ≤ 1000 := by
      have := congrArg List.length hfl
      rw [List.length_append] at this
      omega
    refine sq_pop (fun _ z => z) s2 ?_
    have g1 : (S'.put ta (.lst (l.map It.val).reverse)) fa = some (.lst (fs.map PStp.val)) := by rw [put_ne hne]; exact s1
    have g2 : (S'.put ta (.lst (l.map It.val).reverse)) ta = some (.lst (l.map It.val).reverse) := put_same
    have g3 : ∀ c, S c ≠ none → (S'.put ta (.lst (l.map It.val).reverse)) c = S c := fun c hc => by
      rw [put_ne (fun z => hc (by rw [z]; exact hta))]
      exact fr c hc
    generalize S'.put ta (.lst (l.map It.val).reverse) = S2 at g1 g2 g3 ⊢
    have hok2 : ∀ i ∈ l, i.ok := fun j hj => hok j (List.mem_cons_of_mem _ hj)
    have hu : i.ok := hok i List.mem_cons_self
    rw [List.flatMap_cons] at hfl
    by_cases hC : i.isC = true
    · have hw : ∃ w xs, i.val = .tup (.str w :: xs) ∧ decide (w = ("step" : Str)) = false ∧ decide (w ∈ plainW) = false := by
        cases i with
        | st p => cases hC
        | wt w => exact ⟨_, _, rfl, by kernel_rfl, by kernel_rfl⟩
        | wx w => exact ⟨_, _, rfl, by kernel_rfl, by kernel_rfl⟩
        | tr u =>
          cases u with
          | lf lv => cases hC
          | bi o a b => exact ⟨_, _, rfl, by cases o <;> kernel_rfl, by cases o <;> kernel_rfl⟩
          | un dv n a => exact ⟨_, _, rfl, by cases dv <;> kernel_rfl, by cases dv <;> kernel_rfl⟩
          | ife s a b c d => exact ⟨_, _, rfl, by kernel_rfl, by kernel_rfl⟩
      obtain ⟨w, xs, ew, w1, w2⟩ := hw
      have hv : EV (bin2 ixP (varI 3) (conI (.int 0))) [some t.val, some (.ref fa), some (.ref ta), some i.val] S2 (.str w) := by
        rw [ew]
        exact EV.ixT (EV.var fun _ z => z) (EV.con _) at0
      refine sq_if_f (TT.eqS (p := w) hv (EV.con _) w1) ?_
      refine sq_if_f (TT.inT (p := w) (ws := plainW) hv (EV.con _) w2) ?_
      have hs1 := its_sz i hC
      have hs2 := its_len (its i)
      refine ⟨isl_ref g2, hT i S2 _ _ hu hC (ext_of g2 (by rw [List.length_reverse, List.length_reverse, List.length_map, List.length_map, sizeLine_eq]; omega) ?_)⟩
      refine ⟨((its i ++ l).map It.sz).sum, ?_, its i ++ l, fs, _, rfl, ?_, rfl, ?_, ?_, ?_, ?_, fun c hc => ?_⟩
      · rw [List.map_append, List.sum_append, List.map_cons, List.sum_cons]; omega
      · rw [List.map_append, List.sum_append]; omega
      · rw [put_ne hne]; exact g1
      · rw [put_same, List.map_append, List.reverse_append]
      · rw [List.flatMap_append, its_flat i hC]; exact hfl
      · intro j hj
        rcases List.mem_append.mp hj with hj | hj
        · exact its_ok i hu j hj
        · exact hok2 j hj
      · rw [put_ne (fun z => hc (by rw [z]; exact hta))]; exact g3 c hc
    · cases i with
      | wt w => exact absurd rfl hC
      | wx w => exact absurd rfl hC
      | st p =>
        refine sq_if_t (TT.eqS (p := "step") (EV.ixT (EV.var fun _ z => z) (EV.con _) at0) (EV.con _) (by kernel_rfl)) ?_
        refine sq_app (v := p.val) (fun _ z => z) g1 (by rw [List.length_map, sizeLine_eq]; omega) (EV.ixT (EV.var fun _ z => z) (EV.con _) at1) ?_
        refine ⟨(l.map It.sz).sum, by rw [List.map_cons, List.sum_cons]; simp only [It.sz]; omega, l, fs ++ [p], _, rfl, by omega, rfl, ?_, ?_, ?_, hok2, fun c hc => ?_⟩
        · rw [put_same, List.map_append]; rfl
        · rw [put_ne hne.symm]; exact g2
        · rw [List.append_assoc]; exact hfl
        · rw [put_ne (fun z => hc (by rw [z]; exact hfa))]; exact g3 c hc
      | tr u =>
        cases u with
        | lf lv =>
          refine sq_if_f (TT.eqS (p := lv.w) (EV.ixT (EV.var fun _ z => z) (EV.con _) at0) (EV.con _) (by cases lv <;> kernel_rfl)) ?_
          refine sq_if_t (TT.inT (p := lv.w) (ws := plainW) (EV.ixT (EV.var fun _ z => z) (EV.con _) at0) (EV.con _) (by cases lv <;> kernel_rfl)) ?_
          refine sq_app (v := (PStp.pl (.lf lv)).val) (fun _ z => z) g1 (by rw [List.length_map, sizeLine_eq]; omega) (EV.var fun _ z => z) ?_
          refine ⟨(l.map It.sz).sum, by rw [List.map_cons, List.sum_cons]; simp only [It.sz, Tr.sz]; omega, l, fs ++ [.pl (.lf lv)], _, rfl, by omega, rfl, ?_, ?_, ?_, hok2, fun c hc => ?_⟩
          · rw [put_same, List.map_append]; rfl
          · rw [put_ne hne.symm]; exact g2
          · rw [List.append_assoc]; exact hfl
          · rw [put_ne (fun z => hc (by rw [z]; exact hfa))]; exact g3 c hc
        | _ => exact absurd rfl hC
abbrev SpWorth (Γ : Calls) : Prop := ∀ (t : It) (lets : Val) (own : Int) (h : Hr) (w : Int) (vv : List Vw) (S : Sto) (Q : VQ) (E : EQ), GH h → runP t.flat [] [(own, h)] = some ([w], vv) → t.ok → t.sz ≤ 10000 → t.flat.length ≤ 900 → (∀ p, t ≠ .st p) → Q (.int w) S → Γ "worth" [t.val, lets, .int own, .set (hrV h)] S Q E
theorem worth_ok (d : Nat) : SpWorth (Cl (d + 6)) := by
  intro t lets own h w vv S Q E g hw h1 h2 h3 hns hq
  refine callI_of lk_worth rfl ?_
  have hS := steps_ok (d + 3)
  have hW := sw_ok d
  show m_worth (Cl (d + 5)) (endsI true S Q E) [some t.val, some lets, some (.int own), some (.set (hrV h))] S
  unfold m_worth
  generalize Cl (d + 5) = Γ at hS hW ⊢
  refine sq_ret (EV.call3 (EV.call1 (EV.var fun _ z => z) fun Q E q => hS t S Q E h1 h2 (by omega) hns q) (EV.var fun _ z => z) (EV.var fun _ z => z) fun Q E q => hW t.flat own h w vv S Q E g hw h3 q) ?_
  show Q (.int w) (S.within S)
  rw [within_self]
  exact hq
end K03

namespace K03
open PySem PySem.Spec L2 TL
open PyProof.Rows hiding St

/-! ### draws -/
theorem er_map {α β : Type} (f : α → β) : ∀ (l : List α) (k : Nat), (l.map f).eraseIdx k = (l.eraseIdx k).map f
  | [], _ => rfl
  | x :: l, 0 => rfl
  | x :: l, k + 1 => by
    show f x :: (l.map f).eraseIdx k = f x :: (l.eraseIdx k).map f
    rw [er_map f l k]
abbrev SpMixed (Γ : Calls) : Prop := ∀ (α : Type) (en : α → Val) (a b : Addr) (xs : List α) (S : Sto) (Q : VQ) (E : EQ), Deal a b S → xs.length ≤ 1000 → (∀ (ys : List α) (S' : Sto), ys.Perm xs → Deal a b S' → Fr a b S S' → Q (.lst (ys.map en)) S') → Γ "_law_mixed" [.ref a, .lst (xs.map en)] S Q E
theorem mixed_ok (d : Nat) : SpMixed (Cl (d + 2)) := by
  intro α en a b xs S Q E hd hl h
  refine callI_of lk__law_mixed rfl ?_
  have hA := any_ok d
  show m__law_mixed (Cl (d + 1)) (endsI true S Q E) [some (.ref a), some (.lst (xs.map en)), none, none, none] S
  unfold m__law_mixed
  generalize Cl (d + 1) = Γ at hA ⊢
  refine fun la hla => ⟨show 0 ≤ sizeLine by decide, fun fa hfa => ?_⟩
  have hne : fa ≠ la := fun z => by rw [z, put_same] at hfa; cases hfa
  rw [put_ne hne] at hfa
  obtain ⟨la1, la2⟩ := hd.off hla
  obtain ⟨fa1, fa2⟩ := hd.off hfa
  refine sq_for (rng1 (EV.lenL (EV.var fun _ z => z)) (by omega) (by rw [List.length_map]; omega)) ?_
  refine forGo_ind (fun r ρ S' => ∃ (lf fd : List α) (c4 : Option Val), r.length = lf.length ∧ lf.length + fd.length = xs.length ∧ (fd ++ lf).Perm xs ∧ ρ = [some (.ref a), some (.lst (xs.map en)), some (.ref la), some (.ref fa), c4] ∧ S' la = some (.lst (lf.map en)) ∧ S' fa = some (.lst (fd.map en)) ∧ Deal a b S' ∧ ∀ c, S c ≠ none → c ≠ a → c ≠ b → S' c = S c) ?_ ?_ _ _ _
    ⟨xs, [], none, by unfold TL.upTo; simp, rfl, by simp, rfl, by rw [put_ne hne.symm, put_same], put_same, (hd.put la1 la2).put fa1 fa2, fun c hc _ _ => by rw [put_ne (fun z => hc (by rw [z]; exact hfa)), put_ne (fun z => hc (by rw [z]; exact hla))]⟩
  · rintro ρ S' ⟨lf, fd, c4, e1, e2, e3, rfl, s1, s2, hd', fr⟩
    refine ⟨trivial, ?_⟩
    have : lf = [] := List.length_eq_zero_iff.mp e1.symm
    subst this
    show (match S' fa with
      | some (.lst xs) => Q (.lst xs) ((S'.del fa).within S)
      | _ => Q (.ref fa) (S'.within S))
    rw [s2]
    have hd2 : Deal a b (S'.del fa) := by
      obtain ⟨ne, cs, mix, h1, h2, r⟩ := hd'
      exact ⟨ne, cs, mix, (if_neg (fun z => fa1 z.symm)).trans h1, (if_neg (fun z => fa2 z.symm)).trans h2, r⟩
    have hg := Deal.gc hd hd2 fun c hc h1 h2 => (if_neg (fun z => hc (by rw [z]; exact hfa))).trans (fr c hc h1 h2)
    exact h fd _ (by simpa using e3) hg.1 hg.2
  · rintro x r ρ S' Kn hK ⟨lf, fd, c4, e1, e2, e3, rfl, s1, s2, hd', fr⟩
    refine ⟨trivial, ?_⟩
    have hlf : 0 < lf.length := by rw [← e1, List.length_cons]; omega
    refine ⟨isl_ref s2, isl_ref s1, (EV.lenR (EV.var fun _ z => z) s1) _ (fun _ _ => False) ?_⟩
    rw [List.length_map]
    refine hA a b _ S' _ _ hd' (by omega) (by omega) fun k S2 k0 k1 hd2 f2 => ?_
    obtain ⟨k, rfl⟩ := Int.eq_ofNat_of_zero_le k0
    have hk : k < lf.length := by omega
    have g1 := (f2.eq la la1 la2).trans s1
    have g2 := (f2.eq fa fa1 fa2).trans s2
    refine popI_of g1 (by rw [List.length_map]; exact hk) (by rw [List.length_map, sizeLine_eq]; omega) (app_of (by rw [put_ne hne]; exact g2) (by rw [List.length_map, sizeLine_eq]; omega) ?_)
    refine hK _ _ ⟨lf.eraseIdx k, fd ++ [lf[k]], _, ?_, ?_, ?_, rfl, ?_, ?_, (hd2.put la1 la2).put fa1 fa2, fun c hc h1 h2 => ?_⟩
    · rw [List.length_eraseIdx, if_pos hk]
      rw [List.length_cons] at e1
      omega
    · rw [List.length_eraseIdx, if_pos hk, List.length_append, List.length_singleton]
      omega
    · rw [List.append_assoc]
      exact ((er_perm lf k hk).append_left fd).trans e3
    · rw [put_ne hne.symm, put_same]
      congr 2
      rw [er_map]
    · rw [put_same, List.map_append]
      congr 3
      simp
    · rw [put_ne (fun z => hc (by rw [z]; exact hfa)), put_ne (fun z => hc (by rw [z]; exact hla)), f2.eq c h1 h2]
      exact fr c hc h1 h2
theorem cut_sub {α : Type} (xs : List α) (l h : Option Int) : (cutL xs l h).Sublist xs := (List.take_sublist _ _).trans (List.drop_sublist _ _)
theorem f2_hr {Pe : Int → Int → Prop} : ∀ {ms : List Int} {vs : List Val}, F2 (fun m v => ∃ l, v = prV (m, l) ∧ Pe m l) ms vs → ∃ h : Hr, vs = hrV h ∧ h.map (·.1) = ms ∧ ∀ p ∈ h, Pe p.1 p.2
  | _, _, .nil => ⟨[], rfl, rfl, fun p hp => nomatch hp⟩
  | _, _, .cons (x := m) ⟨l, e, hp⟩ t => by
    obtain ⟨h, h1, h2, h3⟩ := f2_hr t
    refine ⟨(m, l) :: h, by rw [h1, e]; rfl, by rw [← h2]; rfl, fun p hpp => ?_⟩
    rcases List.mem_cons.mp hpp with rfl | hpp
    · exact hp
    · exact h3 p hpp
abbrev SpHear (Γ : Calls) : Prop := ∀ (a b : Addr) (many : Nat) (most : Int) (S : Sto) (Q : VQ) (E : EQ), Deal a b S → many ≤ 8 → 1 ≤ most → most ≤ 16 → (∀ h S', GH h → h.length ≤ many → (∀ p ∈ h, p.2 < most) → Deal a b S' → Fr a b S S' → Q (.set (hrV h)) S') → Γ "_law_hearing" [.ref a, .int many, .int most] S Q E
theorem hear_ok (d : Nat) : SpHear (Cl (d + 3)) := by
  intro a b many most S Q E hd hm m0 m1 h
  refine callI_of lk__law_hearing rfl ?_
  have hA : GAny (Cl (d + 2)) := any_ok (d + 1)
  have hM := mixed_ok d
  show m__law_hearing (Cl (d + 2)) (endsI true S Q E) [some (.ref a), some (.int (many : Int)), some (.int most), none, none] S
  unfold m__law_hearing
  generalize Cl (d + 2) = Γ at hA hM ⊢
  refine ⟨show 8 ≤ sizeLine by decide, hM Int Val.int a b [0, 1, 2, 3, 4, 5, 7, 8] S _ _ hd (by decide) fun ys S2 hp hd2 f2 => ?_⟩
  show sortP false [.lst (cutL (ys.map Val.int) none (some (many : Int)))] S2 _
  rw [cutL_map]
  refine sort_i ?_
  have hnd : (srtB ltI (cutL ys none (some (many : Int)))).Nodup := (srtB_perm (lt := ltI) _).nodup_iff.mpr ((hp.nodup_iff.mpr (by decide)).sublist (cut_sub _ _ _))
  have hlen : (srtB ltI (cutL ys none (some (many : Int)))).length ≤ many := by
    rw [(srtB_perm (lt := ltI) _).length_eq]
    unfold cutL
    rw [HT.sIx_nat]
    show ((List.drop 0 ys).take (min many ys.length - 0)).length ≤ many
    rw [List.length_take]
    omega
  generalize srtB ltI (cutL ys none (some (many : Int))) = ms at hnd hlen
  have hdv : DV a b (lcI false (walkI (varI 3)) (.nm 4) yesT (tupI (consA (varI 4) (consA (bin2 subP (callF Γ "_law_any" (consA (varI 0) (consA (bin2 (addP false) (varI 2) (conI (.int 1))) nilA))) (conI (.int 1))) nilA))) [4]) [some (.ref a), some (.int (many : Int)), some (.int most), some (.lst (ms.map Val.int)), none] (fun v => ∃ h : Hr, v = .lst (hrV h) ∧ h.map (·.1) = ms ∧ ∀ p ∈ h, -1 ≤ p.2 ∧ p.2 < most) := by
    refine DV.lc Val.int ms (fun m v => ∃ l, v = prV (m, l) ∧ (-1 ≤ l ∧ l < most)) (fun S K E q => q) (by rw [sizeLine_eq]; omega) (fun m hm => ⟨[some (.ref a), some (.int (many : Int)), some (.int most), some (.lst (ms.map Val.int)), some (.int m)], rfl, ?_⟩) fun vs hv => ?_
    · refine DV.tup (DA.var (fun _ z => z) (DA.one (DV.sub (P1 := fun v => ∃ i, v = .int i ∧ 0 ≤ i ∧ i < most + 1) (P2 := fun v => v = .int 1) (DV.anyD hA (fun _ z => z) (DV.pure (v := .int (most + 1)) (fun S => EV.add (EV.var fun _ z => z) (EV.con _)) ⟨most + 1, rfl, by omega, by omega, fun i h0 h1 => ⟨i, rfl, i, rfl, h0, h1⟩⟩)) (DV.con ⟨1, rfl, rfl⟩) ?_)))
      rintro i j ⟨i', e, h0, h1⟩ e2
      cases e
      cases e2
      exact ⟨show 2 ≤ sizeLine by decide, i - 1, rfl, by omega, by omega⟩
    · obtain ⟨h, e1, e2, e3⟩ := f2_hr (Pe := fun _ l => -1 ≤ l ∧ l < most) hv
      exact ⟨h, by rw [e1], e2, e3⟩
  refine hdv S2 _ (fun _ _ => False) hd2 fun v S3 hv hd3 f3 => ?_
  obtain ⟨hh, rfl, e1, e2⟩ := hv
  show Q (.set (hrV hh)) (S3.within S)
  have fr := f2.trans f3
  rw [hd.within fr]
  have hhl : hh.length ≤ many := by rw [← List.length_map (f := (·.1)), e1]; exact hlen
  exact h hh S3 ⟨fun p hp => (e2 p hp).1, fun p hp => by have := (e2 p hp).2; omega, by rw [e1]; exact hnd, by omega⟩ hhl (fun p hp => (e2 p hp).2) hd3 fr
/-! ### what fits -/
def LV (B : Nat) (ms : List Int) : Lf → Prop
  | .num n => n.natAbs < 2 ^ 20
  | .heard m => m ∈ ms
  | .table b es => b = B ∧ es.length = B ^ (1 + ms.length) ∧ es.length ≤ 1000 ∧ ∀ e ∈ es, e.natAbs < 2 ^ 20
  | _ => True
structure Fit (B : Nat) (ms : List Int) (own : Int) (h : Hr) : Prop where
  g : GH h
  ms : h.map (·.1) = ms
  lt : ∀ p ∈ h, p.2 < (B : Int)
  o0 : 0 ≤ own
  o1 : own < (B : Int)
  b1 : 1 ≤ B
  b2 : B ≤ 16
theorem Fit.len {B : Nat} {ms : List Int} {own : Int} {h : Hr} (F : Fit B ms own h) : h.length = ms.length := by rw [← F.ms, List.length_map]
theorem num_lt {B : Nat} (hB : 1 ≤ B) : ∀ (h : Hr) (own : Int) (C : Nat), 0 ≤ own → own + 1 ≤ (C : Int) → (∀ p ∈ h, p.2 < (B : Int)) → numE B own h + 1 ≤ ((C * B ^ h.length : Nat) : Int)
  | [], own, C, _, h1, _ => by
    show own + 1 ≤ ((C * 1 : Nat) : Int)
    rw [Nat.mul_one]
    exact h1
  | p :: h, own, C, h0, h1, hp => by
    have hl : (if 0 > p.2 then 0 else p.2) < (B : Int) := by
      have := hp p List.mem_cons_self
      split <;> omega
    have hl0 : 0 ≤ (if 0 > p.2 then 0 else p.2) := by split <;> omega
    have hm : 0 ≤ own * (B : Int) := Int.mul_nonneg h0 (by omega)
    have key : own * (B : Int) + (if 0 > p.2 then 0 else p.2) + 1 ≤ ((C * B : Nat) : Int) := by
      have := Int.mul_le_mul_of_nonneg_right h1 (show (0 : Int) ≤ B by omega)
      rw [Int.add_mul, Int.one_mul] at this
      push_cast
      omega
    have := num_lt hB h (own * (B : Int) + (if 0 > p.2 then 0 else p.2)) (C * B) (by omega) key fun q hq => hp q (List.mem_cons_of_mem _ hq)
    rw [List.length_cons, Nat.pow_succ, Nat.mul_comm (B ^ h.length) B, ← Nat.mul_assoc]
    exact this
theorem most_mem (cs : List Int) : ∀ (ls : List Int) (s : Int × Int), (ls.foldl (fun (s : Int × Int) l => if s.2 < (cs.count l : Int) then (l, (cs.count l : Int)) else s) s).1 ∈ s.1 :: ls
  | [], s => List.mem_cons_self
  | l :: ls, s => by
    rw [List.foldl_cons]
    by_cases hc : s.2 < (cs.count l : Int)
    · rw [if_pos hc]
      exact List.mem_cons_of_mem _ (most_mem cs ls (l, (cs.count l : Int)))
    · rw [if_neg hc]
      rcases List.mem_cons.mp (most_mem cs ls s) with e | e
      · rw [e]; exact List.mem_cons_self
      · exact List.mem_cons_of_mem _ (List.mem_cons_of_mem _ e)
theorem told_lo {h : Hr} (g : GH h) {x : Int} (hx : x ∈ told h) : 0 ≤ x ∧ x ≤ 1000 := by
  obtain ⟨p, hp, rfl⟩ := List.mem_map.mp hx
  obtain ⟨h1, h2⟩ := List.mem_filter.mp hp
  exact ⟨of_decide_eq_true h2, g.hi p h1⟩
theorem mostW_lo {h : Hr} (g : GH h) : (mostW (told h)).natAbs < 2 ^ 20 := by
  have := most_mem (told h) (srtB ltI (told h)) (0, 0)
  rcases List.mem_cons.mp this with e | e
  · unfold mostW mostN
    rw [e]
    decide
  · have := told_lo g ((srtB_perm (lt := ltI) (told h)).mem_iff.mp e)
    unfold mostW mostN
    omega
theorem LV.ok {B : Nat} {ms : List Int} {own : Int} {h : Hr} (F : Fit B ms own h) {l : Lf} (k : LV B ms l) : ∃ x, l.worth own h = some x ∧ x.natAbs < 2 ^ 20 := by
  have g := F.g
  have o0 := F.o0
  have o1 := F.o1
  have b1 := F.b1
  have b2 := F.b2
  cases l with
  | num n => exact ⟨n, rfl, k⟩
  | own => exact ⟨own, rfl, by omega⟩
  | most => exact ⟨_, rfl, mostW_lo g⟩
  | count c =>
    refine ⟨_, rfl, ?_⟩
    have h1 : (told h).count c ≤ (told h).length := List.count_le_length
    have h2 := told_len h
    have h3 := g.len
    omega
  | sorted j =>
    refine ⟨_, rfl, ?_⟩
    by_cases hj : j < (srtB ltI (told h)).length
    · have e : (srtB ltI (told h)).getD j 0 = (srtB ltI (told h))[j] := by simp [List.getD, List.getElem?_eq_getElem hj]
      rw [e]
      have := told_lo g ((srtB_perm (lt := ltI) (told h)).mem_iff.mp (List.getElem_mem hj))
      omega
    · rw [show (srtB ltI (told h)).getD j 0 = 0 from by simp [List.getD, List.getElem?_eq_none (Nat.le_of_not_lt hj)]]
      decide
  | mostof ns => exact ⟨_, rfl, mostW_lo (g.filter _)⟩
  | heard m =>
    have k : m ∈ h.map (·.1) := by rw [F.ms]; exact k
    obtain ⟨p, hp, rfl⟩ := List.mem_map.mp k
    cases e : h.find? (fun q => decide (q.1 = p.1)) with
    | none => exact absurd (List.find?_eq_none.mp e p hp) (by simp)
    | some q =>
      refine ⟨if 0 > q.2 then 0 else q.2, by show (h.find? _).map _ = _; rw [e]; rfl, ?_⟩
      have := g.hi q (List.mem_of_find?_eq_some e)
      split <;> omega
  | table b es =>
    obtain ⟨rfl, k1, k2, k3⟩ := k
    have h1 := num_mono b1 h own o0
    have h2 := num_lt b1 h own b o0 (by omega) F.lt
    have e1 : es.length = b ^ (1 + h.length) := by rw [k1, F.len]
    have e2 : b * b ^ h.length = b ^ (1 + h.length) := by rw [Nat.add_comm, Nat.pow_succ, Nat.mul_comm]
    rw [e2, ← e1] at h2
    have hlt : (numE b own h).toNat < es.length := by omega
    refine ⟨es[(numE b own h).toNat], ?_, k3 _ (List.getElem_mem hlt)⟩
    show (if es.length = b ^ (1 + h.length) ∧ (1 ≤ b ∧ b ≤ 16) ∧ es.length ≤ 1000 ∧ 0 ≤ own then es[(numE b own h).toNat]? else none) = some _
    rw [if_pos ⟨e1, ⟨b1, b2⟩, k2, o0⟩, List.getElem?_eq_getElem hlt]
end K03

namespace K03
open PySem PySem.Spec L2 TL
open PyProof.Rows hiding St

/-! ### trees whose leaves are good: their worth, and how great it is -/
def opI : Op → Int → Int → Int
  | .plus, a, b => a + b
  | .less, a, b => a - b
  | .times, a, b => a * b
def Tr.lok (B : Nat) (ms : List Int) : Tr → Prop
  | .lf l => LV B ms l
  | .bi _ a b => a.lok B ms ∧ b.lok B ms
  | .un _ n a => (0 < n ∧ n < 2 ^ 20) ∧ a.lok B ms
  | .ife _ a b c d => a.lok B ms ∧ b.lok B ms ∧ c.lok B ms ∧ d.lok B ms
def Tr.nl : Tr → Nat
  | .lf _ => 1
  | .bi _ a b => a.nl + b.nl
  | .un _ _ a => a.nl
  | .ife _ a b c d => a.nl + b.nl + c.nl + d.nl
def Tr.wv (own : Int) (h : Hr) : Tr → Int
  | .lf l => (l.worth own h).getD 0
  | .bi o a b => opI o (a.wv own h) (b.wv own h)
  | .un dv n a => if dv then a.wv own h / n else a.wv own h % n
  | .ife s a b c d => ifF s (a.wv own h) (b.wv own h) (c.wv own h) (d.wv own h)
theorem Tr.nl_pos : ∀ t : Tr, 1 ≤ t.nl
  | .lf _ => Nat.le_refl 1
  | .bi _ a b => Nat.le_trans a.nl_pos (Nat.le_add_right _ _)
  | .un _ _ a => a.nl_pos
  | .ife _ a b c d => by
    have := a.nl_pos
    show 1 ≤ a.nl + b.nl + c.nl + d.nl
    omega
theorem add_le_mul {A B : Nat} (ha : 2 ≤ A) (hb : 2 ≤ B) : A + B ≤ A * B := by
  obtain ⟨a, rfl⟩ := Nat.exists_eq_add_of_le ha
  obtain ⟨b, rfl⟩ := Nat.exists_eq_add_of_le hb
  have : (2 + a) * (2 + b) = 4 + 2 * b + 2 * a + a * b := by
    rw [Nat.add_mul, Nat.mul_add, Nat.mul_add]
    omega
  rw [this]
  omega
theorem two_le {m : Nat} (h : 1 ≤ m) : 2 ≤ 2 ^ (21 * m) := Nat.pow_le_pow_right (show 1 ≤ 2 by decide) (show 1 ≤ 21 * m by omega) |> fun z => by simpa using z
theorem b_add {x y : Int} {m n : Nat} (hm : 1 ≤ m) (hn : 1 ≤ n) (hx : x.natAbs < 2 ^ (21 * m)) (hy : y.natAbs < 2 ^ (21 * n)) {z : Int} (hz : z.natAbs ≤ x.natAbs + y.natAbs) : z.natAbs < 2 ^ (21 * (m + n)) := by
  have := add_le_mul (two_le hm) (two_le hn)
  rw [Nat.mul_add, Nat.pow_add]
  omega
theorem b_mul {x y : Int} {m n : Nat} (hx : x.natAbs < 2 ^ (21 * m)) (hy : y.natAbs < 2 ^ (21 * n)) : (x * y).natAbs < 2 ^ (21 * (m + n)) := by
  rw [Nat.mul_add, Nat.pow_add, Int.natAbs_mul]
  exact Nat.mul_lt_mul'' hx hy
theorem b_le {x : Int} {m n : Nat} (h : m ≤ n) (hx : x.natAbs < 2 ^ (21 * m)) : x.natAbs < 2 ^ (21 * n) := Nat.lt_of_lt_of_le hx (Nat.pow_le_pow_right (by decide) (by omega))
theorem lg {x m : Nat} (hm : 0 < m) (h : x < 2 ^ m) : x.log2 < m := by
  by_cases e : x = 0
  · subst e
    exact hm
  · exact (Nat.log2_lt e).mpr h
theorem cmul_of {x y : Int} {m n : Nat} (hm : 1 ≤ m) (hn : 1 ≤ n) (h : m + n ≤ 100) (hx : x.natAbs < 2 ^ (21 * m)) (hy : y.natAbs < 2 ^ (21 * n)) : CMulW x y := by
  unfold CMulW
  have := lg (by omega) hx
  have := lg (by omega) hy
  omega
theorem b_div {x n : Int} (h : 0 < n) : (x / n).natAbs ≤ x.natAbs := by
  by_cases h0 : 0 ≤ x
  · have h1 : 0 ≤ x / n := Int.ediv_nonneg h0 (by omega)
    have h2 : x / n ≤ x := Int.ediv_le_self n h0
    omega
  · have h1 : x / n < 0 := Int.ediv_neg_of_neg_of_pos (by omega) h
    have h2 : x ≤ x / n := by
      have e := Int.emod_add_mul_ediv x n
      have e1 := Int.emod_lt_of_pos x h
      have e2 := Int.emod_nonneg x (show n ≠ 0 by omega)
      have e3 : (n - 1) * (x / n + 1) ≤ 0 := Int.mul_nonpos_of_nonneg_of_nonpos (by omega) (by omega)
      rw [Int.sub_mul, Int.mul_add] at e3
      omega
    omega
theorem worth_wv {B : Nat} {ms : List Int} {own : Int} {h : Hr} (F : Fit B ms own h) : ∀ t : Tr, t.lok B ms → t.nl ≤ 100 → t.worth own h = some (t.wv own h) ∧ (t.wv own h).natAbs < 2 ^ (21 * t.nl)
  | .lf l, hk, _ => by
    obtain ⟨x, e, hx⟩ := LV.ok F hk
    have e2 : (Tr.lf l).wv own h = x := by
      show (l.worth own h).getD 0 = x
      rw [e]
      rfl
    rw [e2]
    exact ⟨e, Nat.lt_of_lt_of_le hx (by show 2 ^ 20 ≤ 2 ^ (21 * 1); decide)⟩
  | .bi o a b, hk, hn => by
    have hn : a.nl + b.nl ≤ 100 := hn
    have pa := a.nl_pos
    have pb := b.nl_pos
    obtain ⟨ea, ba⟩ := worth_wv F a hk.1 (by omega)
    obtain ⟨eb, bb⟩ := worth_wv F b hk.2 (by omega)
    show ((a.worth own h).bind fun x => (b.worth own h).bind fun y => opW o x y) = some (opI o (a.wv own h) (b.wv own h)) ∧ (opI o (a.wv own h) (b.wv own h)).natAbs < 2 ^ (21 * (a.nl + b.nl))
    rw [ea, eb]
    cases o with
    | plus => exact ⟨rfl, b_add pa pb ba bb (by show (_ + _ : Int).natAbs ≤ _; omega)⟩
    | less => exact ⟨rfl, b_add pa pb ba bb (by show (_ - _ : Int).natAbs ≤ _; omega)⟩
    | times => exact ⟨if_pos (cmul_of pa pb hn ba bb), b_mul ba bb⟩
  | .un dv n a, hk, hn => by
    obtain ⟨⟨h0, h1⟩, hk⟩ := hk
    obtain ⟨ea, ba⟩ := worth_wv F a hk hn
    show ((a.worth own h).bind fun x => unF dv n x) = some (if dv then a.wv own h / n else a.wv own h % n) ∧ (if dv then a.wv own h / n else a.wv own h % n).natAbs < 2 ^ (21 * a.nl)
    rw [ea]
    refine ⟨if_pos ⟨h0, by omega⟩, ?_⟩
    cases dv with
    | true => exact Nat.lt_of_le_of_lt (b_div h0) ba
    | false =>
      have e1 := Int.emod_lt_of_pos (a.wv own h) h0
      have e2 := Int.emod_nonneg (a.wv own h) (show n ≠ 0 by omega)
      show (a.wv own h % n).natAbs < _
      refine Nat.lt_of_lt_of_le (m := 2 ^ 21) (by omega) (Nat.pow_le_pow_right (by decide) ?_)
      have := a.nl_pos
      omega
  | .ife s a b c d, hk, hn => by
    have hn : a.nl + b.nl + c.nl + d.nl ≤ 100 := hn
    obtain ⟨ea, ba⟩ := worth_wv F a hk.1 (by omega)
    obtain ⟨eb, bb⟩ := worth_wv F b hk.2.1 (by omega)
    obtain ⟨ec, bc⟩ := worth_wv F c hk.2.2.1 (by omega)
    obtain ⟨ed, bd⟩ := worth_wv F d hk.2.2.2 (by omega)
    show ((a.worth own h).bind fun x => (b.worth own h).bind fun y => (c.worth own h).bind fun z => (d.worth own h).map fun w => ifF s x y z w) = some (ifF s (a.wv own h) (b.wv own h) (c.wv own h) (d.wv own h)) ∧ (ifF s (a.wv own h) (b.wv own h) (c.wv own h) (d.wv own h)).natAbs < 2 ^ (21 * (a.nl + b.nl + c.nl + d.nl))
    rw [ea, eb, ec, ed]
    refine ⟨rfl, ?_⟩
    unfold ifF
    generalize (if s then decide (a.wv own h = b.wv own h) else decide (a.wv own h < b.wv own h)) = k
    cases k with
    | true => exact b_le (by omega) bc
    | false => exact b_le (by omega) bd
theorem Tr.nl_le : ∀ t : Tr, t.nl ≤ t.steps.length
  | .lf _ => Nat.le_refl 1
  | .bi _ a b => by
    have := a.nl_le
    have := b.nl_le
    simp only [Tr.nl, Tr.steps, List.length_append, List.length_singleton]
    omega
  | .un _ _ a => by
    have := a.nl_le
    simp only [Tr.nl, Tr.steps, List.length_append, List.length_singleton]
    omega
  | .ife _ a b c d => by
    have := a.nl_le
    have := b.nl_le
    have := c.nl_le
    have := d.nl_le
    simp only [Tr.nl, Tr.steps, List.length_append, List.length_singleton]
    omega
theorem Tr.ht_le : ∀ t : Tr, t.ht ≤ t.steps.length + 1
  | .lf _ => Nat.le_refl 2
  | .bi _ a b => by
    have := a.ht_le
    have := b.ht_le
    simp only [Tr.ht, Tr.steps, List.length_append, List.length_singleton]
    omega
  | .un _ _ a => by
    have := a.ht_le
    simp only [Tr.ht, Tr.steps, List.length_append, List.length_singleton]
    omega
  | .ife _ a b c d => by
    have := a.ht_le
    have := b.ht_le
    have := c.ht_le
    have := d.ht_le
    simp only [Tr.ht, Tr.steps, List.length_append, List.length_singleton]
    omega
theorem Tr.st_pos (t : Tr) : 1 ≤ t.steps.length := Nat.le_trans t.nl_pos t.nl_le
theorem Tr.sz_le : ∀ t : Tr, t.sz ≤ 2 * t.steps.length
  | .lf _ => (show 1 ≤ 2 by decide)
  | .bi _ a b => by
    have := a.sz_le
    have := b.sz_le
    simp only [Tr.sz, Tr.steps, List.length_append, List.length_singleton]
    omega
  | .un _ _ a => by
    have := a.sz_le
    simp only [Tr.sz, Tr.steps, List.length_append, List.length_singleton]
    omega
  | .ife _ a b c d => by
    have := a.sz_le
    have := b.sz_le
    have := c.sz_le
    have := d.sz_le
    simp only [Tr.sz, Tr.steps, List.length_append, List.length_singleton]
    omega
theorem runP_tree {own : Int} {h : Hr} {vs : List Vw} : ∀ (xs : List Stp) (r : List PStp) (st st' : List Int), runW own h xs st = some st' → runP (xs.map .pl ++ r) st ((own, h) :: vs) = runP r st' ((own, h) :: vs)
  | [], r, st, st', e => by
    cases e
    rfl
  | x :: xs, r, st, st', e => by
    obtain ⟨st1, h1, h2⟩ := Option.bind_eq_some_iff.mp (show (stepW own h x st).bind (runW own h xs) = some st' from e)
    show ((stepW own h x st).map fun st' => (st', (own, h) :: vs)).bind (fun q => runP (xs.map .pl ++ r) q.1 q.2) = _
    rw [h1]
    exact runP_tree xs r st1 st' h2
theorem runL_tree {own : Int} {h : Hr} : ∀ (xs : List Stp) (r : List LStp) (st st' : List Int), runW own h xs st = some st' → runL own h (xs.map .pl ++ r) st = runL own h r st'
  | [], r, st, st', e => by
    cases e
    rfl
  | x :: xs, r, st, st', e => by
    obtain ⟨st1, h1, h2⟩ := Option.bind_eq_some_iff.mp (show (stepW own h x st).bind (runW own h xs) = some st' from e)
    show (stepW own h x st).bind (runL own h (xs.map .pl ++ r)) = _
    rw [h1]
    exact runL_tree xs r st1 st' h2
theorem run_st {own : Int} {h : Hr} {t : Tr} {w : Int} (e : t.worth own h = some w) (st : List Int) : runW own h t.steps st = some (w :: st) := by
  have := run_tree t w [] st e
  rw [List.append_nil] at this
  exact this
/-- worth of a good tree that is not too long -/
abbrev SpWv (Γ : Calls) : Prop := ∀ (B : Nat) (ms : List Int) (t : Tr) (lets : Val) (own : Int) (h : Hr) (S : Sto) (Q : VQ) (E : EQ), Fit B ms own h → t.lok B ms → t.steps.length ≤ 59 → Q (.int (t.wv own h)) S → Γ "worth" [t.val, lets, .int own, .set (hrV h)] S Q E
theorem wv_of {Γ : Calls} (hW : SpWorth Γ) : SpWv Γ := fun B ms t lets own h S Q E F hk hl hq => by
  have h1 := t.ht_le
  have h2 := t.sz_le
  have h3 := t.nl_le
  have hw := (worth_wv F t hk (by omega)).1
  refine hW (.tr t) lets own h _ [(own, h)] S Q E F.g ?_ (show t.ht ≤ 60 by omega) (show t.sz ≤ 10000 by omega) (show (t.steps.map PStp.pl).length ≤ 900 by rw [List.length_map]; omega) (fun p => by intro z; cases z) hq
  show runP (t.steps.map .pl) [] [(own, h)] = _
  have := runP_tree (vs := []) t.steps [] [] _ (run_st hw [])
  rw [List.append_nil] at this
  exact this
end K03

namespace K03
open PySem PySem.Spec L2 TL
open PyProof.Rows hiding St

/-! ### drawn rules -/
def viewK (ms : List Int) (B M : Nat) : List (Key × Val) := [(.inr "hears", tiV ms), (.inr "base", .int (B : Int)), (.inr "most", .int (M : Int))]
theorem view1 (ms : List Int) (B M : Nat) : dGet (viewK ms B M) (.inr "hears") = some (tiV ms) := by kernel_rfl
theorem view2 (ms : List Int) (B M : Nat) : dGet (viewK ms B M) (.inr "base") = some (.int (B : Int)) := by kernel_rfl
theorem view3 (ms : List Int) (B M : Nat) : dGet (viewK ms B M) (.inr "most") = some (.int (M : Int)) := by kernel_rfl
abbrev GOfT (Γ : Calls) : Prop := ∀ (a b : Addr) (xs : List Val) (S : Sto) (Q : VQ) (E : EQ), Deal a b S → xs ≠ [] → xs.length ≤ sizeLine → (∀ v S', v ∈ xs → Deal a b S' → Fr a b S S' → Q v S') → Γ "_law_of" [.ref a, .tup xs] S Q E
theorem ofT_ok (d : Nat) : GOfT (Cl (d + 2)) := by
  intro a b xs S Q E hd hne hl h
  refine callI_of lk__law_of rfl ?_
  show m__law_of (Cl (d + 1)) (endsI true S Q E) [some (.ref a), some (.tup xs)] S
  unfold m__law_of
  have hA := any_ok d
  generalize Cl (d + 1) = Γ at hA
  have h0 : 0 < xs.length := List.length_pos_iff.mpr hne
  rw [sizeLine_eq] at hl
  refine hA a b _ S _ _ hd (by omega) (by omega) fun k S' h1 h2 h3 h4 => ?_
  obtain ⟨n, rfl⟩ := Int.eq_ofNat_of_zero_le h1
  have hn : n < xs.length := by omega
  refine ixT_of (v := xs[n]) (by rw [at_nat hn]; exact List.getElem?_eq_getElem hn) ?_
  show Q xs[n] (S'.within S)
  rw [hd.within h4]
  exact h _ S' (List.getElem_mem hn) h3 h4
theorem dq_ofT {Γ : Calls} {a b : Addr} {e : IE} {ρ : ISt} {P : Val → Prop} {n : Nat} (hO : GOfT Γ) (hn : ∀ K : Val → Prop, K (.ref a) → getS ρ n K) (he : DV a b e ρ fun v => ∃ xs, v = .tup xs ∧ xs ≠ [] ∧ xs.length ≤ sizeLine ∧ ∀ x ∈ xs, P x) : DV a b (callF Γ "_law_of" (consA (varI n) (consA e nilA))) ρ P := DV.call (DA.var hn (DA.one (he.imp fun v hv S Q E hd q => by
  obtain ⟨xs, rfl, h1, h2, h3⟩ := hv
  exact hO a b xs S Q E hd h1 h2 fun v S' hv hd' f => q _ S' (h3 v hv) hd' f)))
abbrev SpLeaf (Γ : Calls) : Prop := ∀ (a b vw : Addr) (ms : List Int) (B M : Nat) (S : Sto) (Q : VQ) (E : EQ), Deal a b S → ms.length ≤ 8 → B ≤ 16 → M ≤ 1000 → S vw = some (.dict (viewK ms B M)) → (∀ l S', LV B ms l → Deal a b S' → Fr a b S S' → Q (Lf.val l) S') → Γ "_law_leaf" [.ref a, .ref vw] S Q E
theorem leaf_ok (d : Nat) : SpLeaf (Cl (d + 3)) := by
  intro a b vw ms B M S Q E hd hl hB hM hv hq
  refine callI_of lk__law_leaf rfl ?_
  have hA : GAny (Cl (d + 2)) := any_ok (d + 1)
  have hO : GOf (Cl (d + 2)) := of_ok d
  have hOT := ofT_ok d
  have hP := lpow_ok (d + 1)
  show m__law_leaf (Cl (d + 2)) (endsI true S Q E) [some (.ref a), some (.ref vw), none, none, none, none, none] S
  unfold m__law_leaf
  generalize Cl (d + 2) = Γ at hA hO hOT hP ⊢
  have va : vw ≠ a := fun z => by
    obtain ⟨_, cs, mix, h1, _⟩ := hd
    rw [z, h1] at hv
    cases hv
  have vb : vw ≠ b := fun z => by
    obtain ⟨_, cs, mix, _, h1, _⟩ := hd
    rw [z, h1] at hv
    cases hv
  refine sq_tpA (Rr := fun vs S1 => ∃ k : Int, vs = [tiV ms, .int (B : Int), .int k] ∧ 0 ≤ k ∧ k < 9 ∧ Deal a b S1 ∧ Fr a b S S1) (fun Q E q => ix_dict_ hv rfl (view1 ms B M) (ix_dict_ hv rfl (view2 ms B M) (hA a b 9 S _ _ hd (by decide) (by decide) fun k S1 k0 k1 hd1 f1 => q _ S1 ⟨k, rfl, k0, k1, hd1, f1⟩))) fun vs S1 hvs => ?_
  obtain ⟨k, rfl, k0, k1, hd1, f1⟩ := hvs
  refine ⟨show 3 ≤ sizeLine by decide, _, rfl, ?_⟩
  have hv1 := (f1.eq vw va vb).trans hv
  have fin : ∀ l S2, LV B ms l → Deal a b S2 → Fr a b S1 S2 → Q (Lf.val l) (S2.within S) := fun l S2 hk hd2 f2 => by
    rw [hd.within (f1.trans f2)]
    exact hq l S2 hk hd2 (f1.trans f2)
  have fin1 : ∀ l, LV B ms l → Q (Lf.val l) (S1.within S) := fun l hk => fin l S1 hk hd1 Fr.refl
  have hml := hl
  by_cases c0 : k = 0
  · exact sq_if_r (TT.eqI (EV.var fun _ z => z) (EV.con _) (decide_eq_true c0)) (EV.tup1 (EV.con _)) (fin1 .most trivial)
  refine sq_if_n (TT.eqI (EV.var fun _ z => z) (EV.con _) (decide_eq_false c0)) ?_
  by_cases c1 : k = 1
  · refine sq_if_t (TT.eqI (EV.var fun _ z => z) (EV.con _) (decide_eq_true c1)) ?_
    refine dq_ret (P := fun v => ∃ c : Int, v = Lf.val (.count c)) ?_ hd1 fun v S2 hv hd2 f2 => ?_
    · exact DV.tup (DA.cons (P1 := fun v => v = .str "count") (DV.con rfl) fun v hv => DA.one (DV.anyD hA (fun _ z => z) (DV.pure (v := .int ((B : Int) + 1)) (fun S => EV.add (EV.var fun _ z => z) (EV.con _)) ⟨(B : Int) + 1, rfl, by omega, by omega, fun i _ _ => ⟨show 2 ≤ sizeLine by decide, i, by rw [hv]; rfl⟩⟩)))
    · obtain ⟨c, rfl⟩ := hv
      exact fin _ S2 trivial hd2 f2
  refine sq_if_n (TT.eqI (EV.var fun _ z => z) (EV.con _) (decide_eq_false c1)) ?_
  by_cases c2 : k = 2
  · refine sq_if_t (TT.eqI (EV.var fun _ z => z) (EV.con _) (decide_eq_true c2)) ?_
    refine dq_ret (P := fun v => ∃ j : Nat, v = Lf.val (.sorted j)) ?_ hd1 fun v S2 hv hd2 f2 => ?_
    · exact DV.tup (DA.cons (P1 := fun v => v = .str "sorted") (DV.con rfl) fun v hv => DA.one (DV.anyD hA (fun _ z => z) (DV.pure (v := .int (((ms.map Val.int).length : Int) + 2)) (fun S => EV.add (EV.lenT (EV.var fun _ z => z)) (EV.con _)) ⟨_, rfl, by omega, by rw [List.length_map]; omega, fun i i0 _ => ⟨show 2 ≤ sizeLine by decide, i.toNat, by rw [hv]; show Val.tup [_, .int i] = Val.tup [_, .int (i.toNat : Int)]; rw [Int.toNat_of_nonneg i0]; rfl⟩⟩)))
    · obtain ⟨c, rfl⟩ := hv
      exact fin _ S2 trivial hd2 f2
  refine sq_if_n (TT.eqI (EV.var fun _ z => z) (EV.con _) (decide_eq_false c2)) ?_
  have tlen : ∀ S, TT (tstB (bin2 gtP (callP lenP (consA (varI 2) nilA)) (conI (.int 0)))) [some (.ref a), some (.ref vw), some (tiV ms), some (.int (B : Int)), some (.int k), none, none] S (decide (0 < ms.length)) := fun S => TT.cmp (EV.lenT (EV.var fun _ z => z)) (EV.con _) (by rw [List.length_map]; exact decide_eq_decide.mpr (by omega))
  have t3 : TT (andT (tstB (bin2 eqP (varI 4) (conI (.int 3)))) (tstB (bin2 gtP (callP lenP (consA (varI 2) nilA)) (conI (.int 0))))) [some (.ref a), some (.ref vw), some (tiV ms), some (.int (B : Int)), some (.int k), none, none] S1 (decide (k = 3) && decide (0 < ms.length)) := by
    by_cases e : k = 3
    · rw [decide_eq_true e, Bool.true_and]
      exact TT.and_t (TT.eqI (EV.var fun _ z => z) (EV.con _) (decide_eq_true e)) (tlen S1)
    · rw [decide_eq_false e, Bool.false_and]
      exact TT.and_f (TT.eqI (EV.var fun _ z => z) (EV.con _) (decide_eq_false e))
  by_cases c3 : (decide (k = 3) && decide (0 < ms.length)) = true
  · rw [c3] at t3
    refine sq_if_t t3 ?_
    refine dq_ret (P := fun v => ∃ ns : List Int, v = Lf.val (.mostof ns)) ?_ hd1 fun v S2 hv hd2 f2 => ?_
    · refine DV.tup (DA.cons (P1 := fun v => v = .str "mostof") (DV.con rfl) fun v hv => DA.one fun S Q E hd q => ?_)
      refine DV.lcT (P := fun v => ∃ ns : List Int, v = .lst (ns.map Val.int)) Val.int ms Val.int (fun S K E q => q) (by rw [sizeLine_eq]; omega) (fun m hm => ⟨[some (.ref a), some (.ref vw), some (tiV ms), some (.int (B : Int)), some (.int k), some (.int m), none], rfl, fun S Q E hd q => ?_, fun S => EV.var fun _ z => z⟩) (fun ns hms => ⟨ns, rfl⟩) S _ E hd fun w S' hw hd' f' => ?_
      · exact hA a b 2 S _ _ hd (by decide) (by decide) fun k S' _ _ hd' f' => eq_of eqOf_ii (q _ S' hd' f')
      · obtain ⟨ns, rfl⟩ := hw
        exact q (tiV ns) S' ⟨show 2 ≤ sizeLine by decide, ns, by rw [hv]; rfl⟩ hd' f'
    · obtain ⟨c, rfl⟩ := hv
      exact fin _ S2 trivial hd2 f2
  rw [Bool.eq_false_iff.mpr c3] at t3
  refine sq_if_n t3 ?_
  have hpw : ∀ S, EV (callF Γ "_law_power" (consA (varI 3) (consA (bin2 (addP false) (conI (.int 1)) (callP lenP (consA (varI 2) nilA))) nilA))) [some (.ref a), some (.ref vw), some (tiV ms), some (.int (B : Int)), some (.int k), none, none] S (.int ((B ^ (1 + ms.length) : Nat) : Int)) := fun S => by
    refine EV.call2 (x := .int (B : Int)) (y := .int ((1 + ms.length : Nat) : Int)) (EV.var fun _ z => z) ?_ fun Q E q => hP B (1 + ms.length) S Q E hB (by omega) q
    have : (((1 + ms.length : Nat)) : Int) = 1 + (((ms.map Val.int).length : Nat) : Int) := by rw [List.length_map]; omega
    rw [this]
    exact EV.add (EV.con _) (EV.lenT (EV.var fun _ z => z))
  have t4 : TT (andT (tstB (bin2 eqP (varI 4) (conI (.int 4)))) (tstB (bin2 leP (callF Γ "_law_power" (consA (varI 3) (consA (bin2 (addP false) (conI (.int 1)) (callP lenP (consA (varI 2) nilA))) nilA))) (bin2 ixP (varI 1) (conI (.str "most")))))) [some (.ref a), some (.ref vw), some (tiV ms), some (.int (B : Int)), some (.int k), none, none] S1 (decide (k = 4) && decide (((B ^ (1 + ms.length) : Nat) : Int) ≤ (M : Int))) := by
    by_cases e : k = 4
    · rw [decide_eq_true e, Bool.true_and]
      exact TT.and_t (TT.eqI (EV.var fun _ z => z) (EV.con _) (decide_eq_true e)) (TT.cmp (hpw S1) (fun Q E q => ix_dict_ hv1 rfl (view3 ms B M) q) rfl)
    · rw [decide_eq_false e, Bool.false_and]
      exact TT.and_f (TT.eqI (EV.var fun _ z => z) (EV.con _) (decide_eq_false e))
  by_cases c4 : (decide (k = 4) && decide (((B ^ (1 + ms.length) : Nat) : Int) ≤ (M : Int))) = true
  · rw [c4] at t4
    obtain ⟨_, hle⟩ := Bool.and_eq_true_iff.mp c4
    have hle : ((B ^ (1 + ms.length) : Nat) : Int) ≤ (M : Int) := of_decide_eq_true hle
    have hle2 : B ^ (1 + ms.length) ≤ 1000 := by omega
    refine sq_if_t t4 ?_
    refine dq_ret (P := fun v => ∃ es : List Int, v = Lf.val (.table B es) ∧ es.length = B ^ (1 + ms.length) ∧ ∀ e ∈ es, e.natAbs < 2 ^ 20) ?_ hd1 fun v S2 hv hd2 f2 => ?_
    · refine DV.tup (DA.cons (P1 := fun v => v = .str "table") (DV.con rfl) fun v hv => DA.one fun S Q E hd q => ?_)
      have hlc : DV a b (lcI false (rng1I (conI (.int ((B ^ (1 + ms.length) : Nat) : Int)))) (.nm 6) yesT (callF Γ "_law_any" (consA (varI 0) (consA (bin2 (addP false) (varI 3) (conI (.int 1))) nilA))) [6]) [some (.ref a), some (.ref vw), some (tiV ms), some (.int (B : Int)), some (.int k), none, none] (fun v => ∃ es : List Int, v = .lst (es.map Val.int) ∧ es.length = B ^ (1 + ms.length) ∧ ∀ e ∈ es, e.natAbs < 2 ^ 20) := by
        refine DV.lc (fun i : Nat => Val.int (0 + (i : Int))) (List.range (B ^ (1 + ms.length))) (fun _ v => ∃ n : Int, v = .int n ∧ n.natAbs < 2 ^ 20) (hit_rng (by omega)) (by rw [List.length_range, sizeLine_eq]; omega) (fun i hi => ⟨[some (.ref a), some (.ref vw), some (tiV ms), some (.int (B : Int)), some (.int k), none, some (.int (0 + (i : Int)))], rfl, ?_⟩) fun vs hv => ?_
        · exact DV.anyD hA (fun _ z => z) (DV.pure (v := .int ((B : Int) + 1)) (fun S => EV.add (EV.var fun _ z => z) (EV.con _)) ⟨(B : Int) + 1, rfl, by omega, by omega, fun i i0 i1 => ⟨i, rfl, by omega⟩⟩)
        · obtain ⟨es, rfl, e2, e3⟩ := f2_ints (Pe := fun n => n.natAbs < 2 ^ 20) hv
          rw [List.length_range] at e2
          exact ⟨es, rfl, e2, e3⟩
      refine DV.lcE hpw hlc S _ E hd fun w S' hw hd' f' => ?_
      obtain ⟨es, rfl, e2, e3⟩ := hw
      exact q (tiV es) S' ⟨show 2 ≤ sizeLine by decide, es, by rw [hv]; rfl, e2, e3⟩ hd' f'
    · obtain ⟨es, rfl, e2, e3⟩ := hv
      exact fin _ S2 ⟨rfl, e2, by omega, e3⟩ hd2 f2
  rw [Bool.eq_false_iff.mpr c4] at t4
  refine sq_if_n t4 ?_
  by_cases c5 : k = 5
  · refine sq_if_t (TT.eqI (EV.var fun _ z => z) (EV.con _) (decide_eq_true c5)) ?_
    refine dq_ret (P := fun v => ∃ n : Int, v = Lf.val (.num n) ∧ n.natAbs < 2 ^ 20) ?_ hd1 fun v S2 hv hd2 f2 => ?_
    · refine DV.tup (DA.cons (P1 := fun v => v = .str "number") (DV.con rfl) fun v hv => DA.one (DV.of hO (fun _ z => z) (DV.lst (DA.cons (P1 := fun v => v = .int 0) (DV.con rfl) fun v1 h1 => DA.cons (P1 := fun v => v = .int 1) (DV.con rfl) fun v2 h2 => DA.cons (P1 := fun v => v = .int 2) (DV.con rfl) fun v3 h3 => DA.cons (P1 := fun v => v = .int 3) (DV.con rfl) fun v4 h4 => DA.cons (P1 := fun v => ∃ i : Int, v = .int i ∧ i.natAbs < 2 ^ 20) (DV.any hA (fun _ z => z) (by decide) (by decide) fun i i0 i1 => ⟨i, rfl, by omega⟩) fun v5 h5 => DA.one (DV.con ?_)))))
      obtain ⟨i, rfl, hi⟩ := h5
      subst h1 h2 h3 h4 hv
      refine ⟨show 6 ≤ sizeLine by decide, _, rfl, by simp, show 6 ≤ sizeLine by decide, fun x hx => ?_⟩
      simp only [List.mem_cons, List.not_mem_nil, or_false] at hx
      rcases hx with rfl | rfl | rfl | rfl | rfl | rfl
      · exact ⟨show 2 ≤ sizeLine by decide, 0, rfl, by decide⟩
      · exact ⟨show 2 ≤ sizeLine by decide, 1, rfl, by decide⟩
      · exact ⟨show 2 ≤ sizeLine by decide, 2, rfl, by decide⟩
      · exact ⟨show 2 ≤ sizeLine by decide, 3, rfl, by decide⟩
      · exact ⟨show 2 ≤ sizeLine by decide, i, rfl, hi⟩
      · exact ⟨show 2 ≤ sizeLine by decide, 999999, rfl, by decide⟩
    · obtain ⟨n, rfl, hn⟩ := hv
      exact fin _ S2 hn hd2 f2
  refine sq_if_n (TT.eqI (EV.var fun _ z => z) (EV.con _) (decide_eq_false c5)) ?_
  have t8 : TT (andT (tstB (bin2 ltP (varI 4) (conI (.int 8)))) (tstB (bin2 gtP (callP lenP (consA (varI 2) nilA)) (conI (.int 0))))) [some (.ref a), some (.ref vw), some (tiV ms), some (.int (B : Int)), some (.int k), none, none] S1 (decide (k < 8) && decide (0 < ms.length)) := by
    by_cases e : k < 8
    · rw [decide_eq_true e, Bool.true_and]
      exact TT.and_t (TT.cmp (EV.var fun _ z => z) (EV.con _) (decide_eq_true e)) (tlen S1)
    · rw [decide_eq_false e, Bool.false_and]
      exact TT.and_f (TT.cmp (EV.var fun _ z => z) (EV.con _) (decide_eq_false e))
  by_cases c8 : (decide (k < 8) && decide (0 < ms.length)) = true
  · rw [c8] at t8
    obtain ⟨_, hpos⟩ := Bool.and_eq_true_iff.mp c8
    have hpos : 0 < ms.length := of_decide_eq_true hpos
    refine sq_if_t t8 ?_
    refine dq_ret (P := fun v => ∃ m : Int, v = Lf.val (.heard m) ∧ m ∈ ms) ?_ hd1 fun v S2 hv hd2 f2 => ?_
    · refine DV.tup (DA.cons (P1 := fun v => v = .str "heard") (DV.con rfl) fun v hv => DA.one (dq_ofT hOT (fun _ z => z) (DV.var (w := tiV ms) (fun _ z => z) ⟨_, rfl, ?_, by rw [List.length_map, sizeLine_eq]; omega, fun x hx => ?_⟩)))
      · intro e
        have := congrArg List.length e
        rw [List.length_map] at this
        simp at this
        simp [this] at hpos
      · obtain ⟨m, hm, rfl⟩ := List.mem_map.mp hx
        exact ⟨show 2 ≤ sizeLine by decide, m, by rw [hv]; rfl, hm⟩
    · obtain ⟨m, rfl, hm⟩ := hv
      exact fin _ S2 hm hd2 f2
  rw [Bool.eq_false_iff.mpr c8] at t8
  refine sq_if_n t8 ?_
  exact sq_ret (EV.tup1 (EV.con _)) (fin1 .own trivial)
end K03

namespace K03
open PySem PySem.Spec L2 TL
open PyProof.Rows hiding St

/-! ### a drawn rule -/
def flat : List Tr → List Stp
  | [] => []
  | t :: r => flat r ++ t.steps
theorem flat_len : ∀ st : List Tr, st.length ≤ (flat st).length
  | [] => Nat.le_refl _
  | t :: r => by
    have := flat_len r
    have := t.st_pos
    simp only [flat, List.length_append, List.length_cons]
    omega
structure PP (a b fa vw : Addr) (ms : List Int) (B M : Nat) (S0 : Sto) (stk : List Tr) (S' : Sto) : Prop where
  d : Deal a b S'
  hf : S' fa = some (.lst ((flat stk).map Stp.val))
  hv : S' vw = some (.dict (viewK ms B M))
  ok : ∀ t ∈ stk, t.lok B ms
  old : ∀ c, S0 c ≠ none → c ≠ a → c ≠ b → S' c = S0 c
structure PA0 (a b fa vw : Addr) (S0 : Sto) : Prop where
  xa : fa ≠ a
  xb : fa ≠ b
  xv : fa ≠ vw
  va : vw ≠ a
  vb : vw ≠ b
  f0 : S0 fa = none
theorem PP.draw {a b fa vw : Addr} {ms : List Int} {B M : Nat} {S0 S' S2 : Sto} {stk : List Tr} (A : PA0 a b fa vw S0) (P : PP a b fa vw ms B M S0 stk S') (hd : Deal a b S2) (f : Fr a b S' S2) : PP a b fa vw ms B M S0 stk S2 :=
  ⟨hd, (f.eq fa A.xa A.xb).trans P.hf, (f.eq vw A.va A.vb).trans P.hv, P.ok, fun c hc h1 h2 => (f.eq c h1 h2).trans (P.old c hc h1 h2)⟩
theorem PP.app {a b fa vw : Addr} {ms : List Int} {B M : Nat} {S0 S' : Sto} {stk stk' : List Tr} {s : Stp} {v : Val} (A : PA0 a b fa vw S0) (P : PP a b fa vw ms B M S0 stk S') (e : flat stk' = flat stk ++ [s]) (hv : v = s.val) (ok : ∀ t ∈ stk', t.lok B ms) : PP a b fa vw ms B M S0 stk' (S'.put fa (.lst ((flat stk).map Stp.val ++ [v]))) :=
  ⟨P.d.put A.xa A.xb, by rw [put_same, e, List.map_append, hv]; rfl, by rw [put_ne A.xv.symm]; exact P.hv, ok, fun c hc h1 h2 => by rw [put_ne (fun z => hc (by rw [z]; exact A.f0))]; exact P.old c hc h1 h2⟩
theorem ofOp {Γ : Calls} {a b : Addr} {ρ : ISt} (hO : GOf Γ) (hn : ∀ K : Val → Prop, K (.ref a) → getS ρ 0 K) : DV a b (tupI (consA (callF Γ "_law_of" (consA (varI 0) (consA (lstI false (consA (conI (.str "plus")) (consA (conI (.str "less")) (consA (conI (.str "times")) nilA)))) nilA))) nilA)) ρ (fun v => ∃ o : Op, v = (Stp.bi o).val) := by
  refine DV.tup (DA.one (DV.of hO hn (DV.pure (v := .lst [.str "plus", .str "less", .str "times"]) (fun S => EV.lst3 (EV.con _) (EV.con _) (EV.con _)) ⟨_, rfl, by simp, show 3 ≤ sizeLine by decide, fun x hx => ?_⟩)))
  simp only [List.mem_cons, List.not_mem_nil, or_false] at hx
  rcases hx with rfl | rfl | rfl
  · exact ⟨show 1 ≤ sizeLine by decide, .plus, rfl⟩
  · exact ⟨show 1 ≤ sizeLine by decide, .less, rfl⟩
  · exact ⟨show 1 ≤ sizeLine by decide, .times, rfl⟩
theorem four_of {α : Type} {l : List α} (h : 3 < (l.length : Int)) : ∃ a b c d r, l = a :: b :: c :: d :: r := by
  match l, h with
  | [], h => exact absurd h (show ¬ (3 : Int) < 0 by decide)
  | [_], h => exact absurd h (show ¬ (3 : Int) < 1 by decide)
  | [_, _], h => exact absurd h (show ¬ (3 : Int) < 2 by decide)
  | [_, _, _], h => exact absurd h (show ¬ (3 : Int) < 3 by decide)
  | a :: b :: c :: d :: r, _ => exact ⟨a, b, c, d, r, rfl⟩
theorem two_of {α : Type} {l : List α} (h : 1 < (l.length : Int)) : ∃ a b r, l = a :: b :: r := by
  match l, h with
  | [], h => exact absurd h (show ¬ (1 : Int) < 0 by decide)
  | [_], h => exact absurd h (show ¬ (1 : Int) < 1 by decide)
  | a :: b :: r, _ => exact ⟨a, b, r, rfl⟩
theorem one_of {α : Type} {l : List α} (h : 0 < (l.length : Int)) : ∃ a r, l = a :: r := by
  match l, h with
  | [], h => exact absurd h (show ¬ (0 : Int) < 0 by decide)
  | a :: r, _ => exact ⟨a, r, rfl⟩
abbrev SpPP (Γ : Calls) : Prop := ∀ (a b vw : Addr) (ms : List Int) (B M : Nat) (size : Int) (S : Sto) (Q : VQ) (E : EQ), Deal a b S → ms.length ≤ 8 → B ≤ 16 → M ≤ 1000 → S vw = some (.dict (viewK ms B M)) → 1 ≤ size → size ≤ 20 → (∀ t S', t.lok B ms → t.steps.length ≤ 39 → Deal a b S' → Fr a b S S' → Q (prog t) S') → Γ "_law_plain_program" [.ref a, .ref vw, .int size] S Q E
theorem pp_ok (d : Nat) : SpPP (Cl (d + 4)) := by
  intro a b vw ms B M size S Q E hd hl hB hM hv hs1 hs2 hq
  refine callI_of lk__law_plain_program rfl ?_
  have hA : GAny (Cl (d + 3)) := any_ok (d + 2)
  have hO : GOf (Cl (d + 3)) := of_ok (d + 1)
  have hLf := leaf_ok d
  show m__law_plain_program (Cl (d + 3)) (endsI true S Q E) [some (.ref a), some (.ref vw), some (.int size), none, none, none, none] S
  unfold m__law_plain_program
  generalize Cl (d + 3) = Γ at hA hO hLf ⊢
  refine ⟨show 0 ≤ sizeLine by decide, fun fa hfa => ?_⟩
  obtain ⟨fa1, fa2⟩ := hd.off hfa
  have ea : vw ≠ a := fun z => by
    obtain ⟨_, cs, mix, h1, _⟩ := hd
    rw [z, h1] at hv
    cases hv
  have eb : vw ≠ b := fun z => by
    obtain ⟨_, cs, mix, _, h1, _⟩ := hd
    rw [z, h1] at hv
    cases hv
  have ev : fa ≠ vw := fun z => by
    rw [z, hv] at hfa
    cases hfa
  have A : PA0 a b fa vw S := ⟨fa1, fa2, ev, ea, eb, hfa⟩
  have P0 : PP a b fa vw ms B M S [] (S.put fa (.lst [])) := ⟨hd.put fa1 fa2, put_same, by rw [put_ne A.xv.symm]; exact hv, (fun t ht => nomatch ht), fun c hc h1 h2 => put_ne (fun z => hc (by rw [z]; exact hfa))⟩
  generalize S.put fa (.lst []) = S1 at P0 ⊢
  refine sq_for (rng1 (EV.var fun _ z => z) (by omega) (by omega)) ?_
  refine forGo_ind (fun r ρ S' => ∃ (stk : List Tr) (c5 c6 : Option Val), PP a b fa vw ms B M S stk S' ∧ ρ = [some (.ref a), some (.ref vw), some (.int size), some (.ref fa), some (.int (stk.length : Int)), c5, c6] ∧ (flat stk).length + r.length = size.toNat ∧ (stk ≠ [] ∨ r.length = size.toNat)) ?_ ?_ _ _ _ ⟨[], none, none, P0, rfl, by unfold TL.upTo; simp [flat], .inr (by unfold TL.upTo; simp)⟩
  · rintro ρ S' ⟨stk, c5, c6, P, rfl, h1, h2⟩
    refine ⟨trivial, ?_⟩
    rw [List.length_nil, Nat.add_zero] at h1
    have hne : stk ≠ [] := by
      rcases h2 with h2 | h2
      · exact h2
      · rw [List.length_nil] at h2
        omega
    have hpos : 0 < stk.length := List.length_pos_iff.mpr hne
    have hfl := flat_len stk
    refine sq_for (rng1 (EV.sub (EV.var fun _ z => z) (EV.con _)) (by omega) (by omega)) ?_
    refine forGo_ind (fun r ρ S' => ∃ (st : List Tr) (c5 : Option Val), PP a b fa vw ms B M S st S' ∧ ρ = [some (.ref a), some (.ref vw), some (.int size), some (.ref fa), some (.int (stk.length : Int)), c5, c6] ∧ st.length = r.length + 1 ∧ (flat st).length + r.length ≤ 39) ?_ ?_ _ _ _ ⟨stk, c5, P, rfl, by unfold TL.upTo; rw [List.length_map, List.length_range]; omega, by unfold TL.upTo; rw [List.length_map, List.length_range]; omega⟩
    · rintro ρ S' ⟨st, c5, P, rfl, h3, h4⟩
      refine ⟨trivial, ?_⟩
      match st, h3, P, h4 with
      | [t], _, P, h4 =>
        show (match S' fa with
          | some (.lst xs) => Q (.lst xs) ((S'.del fa).within S)
          | _ => Q (.ref fa) (S'.within S))
        rw [P.hf]
        have hd2 : Deal a b (S'.del fa) := by
          obtain ⟨ne, cs, mix, h1, h2, r⟩ := P.d
          exact ⟨ne, cs, mix, (if_neg (fun z => fa1 z.symm)).trans h1, (if_neg (fun z => fa2 z.symm)).trans h2, r⟩
        have hg := Deal.gc hd hd2 fun c hc h1 h2 => (if_neg (fun z => hc (by rw [z]; exact hfa))).trans (P.old c hc h1 h2)
        have e : flat [t] = t.steps := by simp [flat]
        show Q (.lst ((flat [t]).map Stp.val)) _
        rw [e]
        rw [e] at h4
        exact hq t _ (P.ok t List.mem_cons_self) (by omega) hg.1 hg.2
    · rintro x r ρ S' Kn hK ⟨st, c5, P, rfl, h3, h4⟩
      rw [List.length_cons] at h3 h4
      refine ⟨trivial, ?_⟩
      match st, h3, P, h4 with
      | u :: t :: st, h3, P, h4 =>
        refine dq_app (P := fun v => ∃ o : Op, v = (Stp.bi o).val) (fun _ z => z) P.hf fa1 fa2 (by rw [List.length_map, sizeLine_eq]; omega) (ofOp hO fun _ z => z) P.d fun v S2 hv2 hd2 f2 => ?_
        obtain ⟨o, rfl⟩ := hv2
        have P2 := (P.draw A hd2 f2).app A (stk' := .bi o t u :: st) (s := .bi o) (by simp [flat, Tr.steps]) rfl fun w hw => by
          rcases List.mem_cons.mp hw with rfl | hw
          · exact ⟨P.ok t (List.mem_cons_of_mem _ List.mem_cons_self), P.ok u List.mem_cons_self⟩
          · exact P.ok w (List.mem_cons_of_mem _ (List.mem_cons_of_mem _ hw))
        refine hK _ _ ⟨_, _, P2, rfl, by simpa using h3, ?_⟩
        have : flat (.bi o t u :: st) = flat (u :: t :: st) ++ [.bi o] := by simp [flat, Tr.steps]
        rw [this, List.length_append, List.length_singleton]
        omega
  · rintro x r ρ S' Kn hK ⟨stk, c5, c6, P, rfl, h1, h2⟩
    rw [List.length_cons] at h1
    refine ⟨trivial, ?_⟩
    have hfl := flat_len stk
    have hap : ((flat stk).map Stp.val).length < sizeLine := by rw [List.length_map, sizeLine_eq]; omega
    refine dq_set (P := fun v => ∃ k : Int, v = .int k) (DV.any hA (fun _ z => z) (by decide) (by decide) fun i _ _ => ⟨i, rfl⟩) P.d fun v S2 hv2 hd2 f2 => ?_
    obtain ⟨k, rfl⟩ := hv2
    have P2 := P.draw A hd2 f2
    clear hd2 f2
    have tand : ∀ (c : Bool) (m : Int) (t : IT), TT t [some (.ref a), some (.ref vw), some (.int size), some (.ref fa), some (.int (stk.length : Int)), some x, some (.int k)] S2 c → TT (andT t (tstB (bin2 gtP (varI 4) (conI (.int m))))) [some (.ref a), some (.ref vw), some (.int size), some (.ref fa), some (.int (stk.length : Int)), some x, some (.int k)] S2 (c && decide (m < (stk.length : Int))) := fun c m t ht => by
      cases c with
      | true => exact TT.and_t ht (TT.cmp (EV.var fun _ z => z) (EV.con _) rfl)
      | false => exact TT.and_f ht
    have t1 := tand (decide (k = 0)) 3 _ (TT.eqI (a := varI 6) (b := conI (.int 0)) (EV.var fun _ z => z) (EV.con _) rfl)
    by_cases c1 : (decide (k = 0) && decide (3 < (stk.length : Int))) = true
    · rw [c1] at t1
      refine sq_if_t t1 ?_
      have hlen : 3 < (stk.length : Int) := of_decide_eq_true (Bool.and_eq_true_iff.mp c1).2
      obtain ⟨w4, w3, w2, w1, st, rfl⟩ := four_of hlen
      refine dq_app (P := fun v => ∃ s : Bool, v = (Stp.ife s).val) (fun _ z => z) P2.hf fa1 fa2 hap ?_ P2.d fun v S3 hv3 hd3 f3 => ?_
      · refine DV.tup (DA.cons (P1 := fun v => v = .str "if") (DV.con rfl) fun v hv => DA.one (DV.of hO (fun _ z => z) (DV.pure (v := .lst [.str "same", .str "below"]) (fun S Q E q => ⟨show 2 ≤ sizeLine by decide, q⟩) ⟨_, rfl, by simp, show 2 ≤ sizeLine by decide, fun y hy => ?_⟩)))
        subst hv
        simp only [List.mem_cons, List.not_mem_nil, or_false] at hy
        rcases hy with rfl | rfl
        · exact ⟨show 2 ≤ sizeLine by decide, true, rfl⟩
        · exact ⟨show 2 ≤ sizeLine by decide, false, rfl⟩
      · obtain ⟨s, rfl⟩ := hv3
        have P3 := (P2.draw A hd3 f3).app A (stk' := .ife s w1 w2 w3 w4 :: st) (s := .ife s) (by simp [flat, Tr.steps]) rfl fun w hw => by
          rcases List.mem_cons.mp hw with rfl | hw
          · exact ⟨P2.ok w1 (by simp), P2.ok w2 (by simp), P2.ok w3 (by simp), P2.ok w4 (by simp)⟩
          · exact P2.ok w (by simp [hw])
        refine sq_set (v := .int (((w4 :: w3 :: w2 :: w1 :: st).length : Int) - 3)) (EV.sub (EV.var fun _ z => z) (EV.con _)) (hK _ _ ⟨_, some x, some (.int k), P3, ?_, ?_, .inl (by simp)⟩)
        · have e4 : ((w4 :: w3 :: w2 :: w1 :: st).length : Int) - 3 = ((Tr.ife s w1 w2 w3 w4 :: st).length : Int) := by simp only [List.length_cons]; omega
          rw [e4]
        · have : flat (.ife s w1 w2 w3 w4 :: st) = flat (w4 :: w3 :: w2 :: w1 :: st) ++ [.ife s] := by simp [flat, Tr.steps]
          rw [this, List.length_append, List.length_singleton]
          omega
    rw [Bool.eq_false_iff.mpr c1] at t1
    refine sq_if_f t1 ?_
    have t2 := tand (decide (k < 3)) 1 _ (TT.cmp (p := fun i j => decide (i < j)) (a := varI 6) (b := conI (.int 3)) (EV.var fun _ z => z) (EV.con _) rfl)
    by_cases c2 : (decide (k < 3) && decide (1 < (stk.length : Int))) = true
    · rw [c2] at t2
      refine sq_if_t t2 ?_
      have hlen : 1 < (stk.length : Int) := of_decide_eq_true (Bool.and_eq_true_iff.mp c2).2
      obtain ⟨w2, w1, st, rfl⟩ := two_of hlen
      refine dq_app (P := fun v => ∃ o : Op, v = (Stp.bi o).val) (fun _ z => z) P2.hf fa1 fa2 hap (ofOp hO fun _ z => z) P2.d fun v S3 hv3 hd3 f3 => ?_
      obtain ⟨o, rfl⟩ := hv3
      have P3 := (P2.draw A hd3 f3).app A (stk' := .bi o w1 w2 :: st) (s := .bi o) (by simp [flat, Tr.steps]) rfl fun w hw => by
        rcases List.mem_cons.mp hw with rfl | hw
        · exact ⟨P2.ok w1 (by simp), P2.ok w2 (by simp)⟩
        · exact P2.ok w (by simp [hw])
      refine sq_set (v := .int (((w2 :: w1 :: st).length : Int) - 1)) (EV.sub (EV.var fun _ z => z) (EV.con _)) (hK _ _ ⟨_, some x, some (.int k), P3, ?_, ?_, .inl (by simp)⟩)
      · have e4 : ((w2 :: w1 :: st).length : Int) - 1 = ((Tr.bi o w1 w2 :: st).length : Int) := by simp only [List.length_cons]; omega
        rw [e4]
      · have : flat (.bi o w1 w2 :: st) = flat (w2 :: w1 :: st) ++ [.bi o] := by simp [flat, Tr.steps]
        rw [this, List.length_append, List.length_singleton]
        omega
    rw [Bool.eq_false_iff.mpr c2] at t2
    refine sq_if_f t2 ?_
    have t3 := tand (decide (k = 3)) 0 _ (TT.eqI (a := varI 6) (b := conI (.int 3)) (EV.var fun _ z => z) (EV.con _) rfl)
    by_cases c3 : (decide (k = 3) && decide (0 < (stk.length : Int))) = true
    · rw [c3] at t3
      refine sq_if_t t3 ?_
      have hlen : 0 < (stk.length : Int) := of_decide_eq_true (Bool.and_eq_true_iff.mp c3).2
      obtain ⟨w1, st, rfl⟩ := one_of hlen
      refine dq_app (P := fun v => ∃ (dv : Bool) (n : Int), v = (Stp.un dv n).val ∧ 0 < n ∧ n < 2 ^ 20) (fun _ z => z) P2.hf fa1 fa2 hap ?_ P2.d fun v S3 hv3 hd3 f3 => ?_
      · refine DV.tup (DA.cons (P1 := fun v => ∃ dv : Bool, v = .str (unW dv)) (DV.of hO (fun _ z => z) (DV.pure (v := .lst [.str "div", .str "rest"]) (fun S Q E q => ⟨show 2 ≤ sizeLine by decide, q⟩) ⟨_, rfl, by simp, show 2 ≤ sizeLine by decide, fun y hy => ?_⟩)) fun v hv => DA.one (DV.add (P1 := fun v => v = .int 1) (P2 := fun v => ∃ i, v = .int i ∧ 0 ≤ i ∧ i < 5) (DV.con ⟨1, rfl, rfl⟩) (DV.any hA (fun _ z => z) (by decide) (by decide) fun i i0 i1 => ⟨i, rfl, i, rfl, i0, i1⟩) ?_))
        · simp only [List.mem_cons, List.not_mem_nil, or_false] at hy
          rcases hy with rfl | rfl
          · exact ⟨true, rfl⟩
          · exact ⟨false, rfl⟩
        · rintro i j e ⟨k', e2, k0, k1⟩
          obtain ⟨dv, rfl⟩ := hv
          cases e
          cases e2
          exact ⟨show 2 ≤ sizeLine by decide, dv, 1 + j, rfl, by omega, by omega⟩
      · obtain ⟨dv, n, rfl, n0, n1⟩ := hv3
        have P3 := (P2.draw A hd3 f3).app A (stk' := .un dv n w1 :: st) (s := .un dv n) (by simp [flat, Tr.steps]) rfl fun w hw => by
          rcases List.mem_cons.mp hw with rfl | hw
          · exact ⟨⟨n0, n1⟩, P2.ok w1 (by simp)⟩
          · exact P2.ok w (by simp [hw])
        refine hK _ _ ⟨_, _, _, P3, rfl, ?_, .inl (by simp)⟩
        have : flat (.un dv n w1 :: st) = flat (w1 :: st) ++ [.un dv n] := by simp [flat, Tr.steps]
        rw [this, List.length_append, List.length_singleton]
        omega
    rw [Bool.eq_false_iff.mpr c3] at t3
    refine sq_if_f t3 ?_
    refine ⟨isl_ref P2.hf, hLf a b vw ms B M S2 _ _ P2.d hl hB hM P2.hv fun l S3 hk hd3 f3 => app_of ((f3.eq fa fa1 fa2).trans P2.hf) hap ?_⟩
    have P3 := (P2.draw A hd3 f3).app A (stk' := .lf l :: stk) (s := .lf l) (v := l.val) (by simp [flat, Tr.steps]) rfl fun w hw => by
      rcases List.mem_cons.mp hw with rfl | hw
      · exact hk
      · exact P2.ok w hw
    refine sq_set (v := .int ((stk.length : Int) + 1)) (EV.add (EV.var fun _ z => z) (EV.con _)) (hK _ _ ⟨_, some x, some (.int k), P3, ?_, ?_, .inl (by simp)⟩)
    · have e4 : (stk.length : Int) + 1 = ((Tr.lf l :: stk).length : Int) := by simp only [List.length_cons]; omega
      rw [e4]
    · have : flat (.lf l :: stk) = flat stk ++ [.lf l] := by simp [flat, Tr.steps]
      rw [this, List.length_append, List.length_singleton]
      omega
end K03

namespace K03
open PySem PySem.Spec L2 TL
open PyProof.Rows hiding St

/-! ### "with": its worth on both sides -/
structure Wok (B : Nat) (ms : List Int) (w : Wt) : Prop where
  n0 : 1 ≤ w.n
  n1 : w.n ≤ 16
  nd : w.ms.Nodup
  l : w.ps.length ≤ 8
  i : w.inner.lok w.n.toNat w.ms
  il : w.inner.steps.length ≤ 39
  o : w.own.lok B ms
  ol : w.own.steps.length ≤ 39
  p : ∀ q ∈ w.ps, q.2.lok B ms ∧ q.2.steps.length ≤ 39
def Wt.ls (own : Int) (h : Hr) (w : Wt) : List Int := w.ps.map fun q => q.2.wv own h % w.n
def Wt.wv (own : Int) (h : Hr) (w : Wt) : Int := w.inner.wv (w.own.wv own h % w.n) (w.ms.zip (w.ls own h))
def Wt.lp (w : Wt) : List LStp := w.own.steps.map .pl ++ (w.ps.flatMap (fun q => q.2.steps.map LStp.pl) ++ [.wth w.n w.inner w.ms])
section
variable {B : Nat} {ms : List Int} {own : Int} {h : Hr} {w : Wt}
theorem Wt.lsl : (w.ls own h).length = w.ms.length := by simp [Wt.ls, Wt.ms]
theorem Wt.fit (K : Wok B ms w) : Fit w.n.toNat w.ms (w.own.wv own h % w.n) (w.ms.zip (w.ls own h)) := by
  have n0 := K.n0
  have n1 := K.n1
  have hm : ∀ l ∈ w.ls own h, 0 ≤ l ∧ l < w.n := fun l hl => by
    obtain ⟨q, _, rfl⟩ := List.mem_map.mp hl
    exact ⟨Int.emod_nonneg _ (by omega), Int.emod_lt_of_pos _ (by omega)⟩
  have hl := K.l
  have hml : w.ms.length ≤ 900 := by
    unfold Wt.ms
    rw [List.length_map]
    omega
  have e1 := Int.emod_nonneg (w.own.wv own h) (show w.n ≠ 0 by omega)
  have e2 := Int.emod_lt_of_pos (w.own.wv own h) (show 0 < w.n by omega)
  exact ⟨gh_zip (n := w.n) ⟨by omega, by omega⟩ K.nd hml Wt.lsl hm, zip_fst Wt.lsl, fun p hp => by have := (hm _ (zip_snd hp)).2; omega, e1, by omega, by omega, by omega⟩
theorem lok_worth (F : Fit B ms own h) {t : Tr} (hk : t.lok B ms) (hl : t.steps.length ≤ 39) : t.worth own h = some (t.wv own h) := by
  have := t.nl_le
  exact (worth_wv F t hk (by omega)).1
theorem parts_P (F : Fit B ms own h) {vs : List Vw} : ∀ (ps : List (Int × Tr)) (r : List PStp) (st : List Int), (∀ q ∈ ps, q.2.lok B ms ∧ q.2.steps.length ≤ 39) → runP (ps.flatMap (fun q => q.2.ps) ++ r) st ((own, h) :: vs) = runP r ((ps.map fun q => q.2.wv own h).reverse ++ st) ((own, h) :: vs)
  | [], r, st, _ => rfl
  | q :: ps, r, st, hp => by
    obtain ⟨h1, h2⟩ := hp q List.mem_cons_self
    rw [List.flatMap_cons, List.append_assoc]
    show runP (q.2.steps.map .pl ++ _) st _ = _
    rw [runP_tree q.2.steps _ st _ (run_st (lok_worth F h1 h2) st), parts_P F ps r _ fun q hq => hp q (List.mem_cons_of_mem _ hq)]
    simp
theorem parts_L (F : Fit B ms own h) : ∀ (ps : List (Int × Tr)) (r : List LStp) (st : List Int), (∀ q ∈ ps, q.2.lok B ms ∧ q.2.steps.length ≤ 39) → runL own h (ps.flatMap (fun q => q.2.steps.map LStp.pl) ++ r) st = runL own h r ((ps.map fun q => q.2.wv own h).reverse ++ st)
  | [], r, st, _ => rfl
  | q :: ps, r, st, hp => by
    obtain ⟨h1, h2⟩ := hp q List.mem_cons_self
    rw [List.flatMap_cons, List.append_assoc, runL_tree q.2.steps _ st _ (run_st (lok_worth F h1 h2) st), parts_L F ps r _ fun q hq => hp q (List.mem_cons_of_mem _ hq)]
    simp
theorem parts_V : ∀ (ps : List (Int × Tr)) (r : List LStp) (st : List Val), runV (ps.flatMap (fun q => q.2.steps.map LStp.pl) ++ r) st = runV r ((ps.map fun q => q.2.val).reverse ++ st)
  | [], r, st => rfl
  | q :: ps, r, st => by
    rw [List.flatMap_cons, List.append_assoc, runV_tree, parts_V ps r _]
    simp
theorem top_st {α : Type} (xs : List α) (x : α) (k : Nat) (hk : xs.length = k) : ((xs.reverse ++ [x]).take (k + 1)).reverse = x :: xs ∧ (xs.reverse ++ [x]).drop (k + 1) = [] := by
  have hl : (xs.reverse ++ [x]).length = k + 1 := by simp [hk]
  rw [List.take_of_length_le (by omega), List.drop_of_length_le (by omega)]
  simp
theorem runP_w (F : Fit B ms own h) (K : Wok B ms w) (r : List PStp) : runP (w.steps ++ r) [] [(own, h)] = runP r [w.wv own h] [(own, h)] := by
  have n0 := K.n0
  have n1 := K.n1
  have hl := K.l
  have hml : w.ms.length ≤ 900 := by
    unfold Wt.ms
    rw [List.length_map]
    omega
  show runP ((w.own.steps.map .pl ++ (w.ps.flatMap (fun p => p.2.ps) ++ (.wth w.n w.ms :: (w.inner.ps ++ [.leave])))) ++ r) [] [(own, h)] = _
  rw [List.append_assoc, runP_tree w.own.steps _ [] _ (run_st (lok_worth F K.o K.ol) []), List.append_assoc, parts_P F w.ps _ _ K.p]
  obtain ⟨t1, t2⟩ := top_st (w.ps.map fun q => q.2.wv own h) (w.own.wv own h) w.ms.length (by simp [Wt.ms])
  have hstep : stepP (.wth w.n w.ms) ((w.ps.map fun q => q.2.wv own h).reverse ++ [w.own.wv own h]) [(own, h)] = some ([], [(w.own.wv own h % w.n, w.ms.zip (w.ls own h)), (own, h)]) := by
    unfold stepP
    dsimp only
    rw [t1, t2, List.map_cons]
    dsimp only
    rw [show (w.ps.map fun q => q.2.wv own h).map (· % w.n) = w.ls own h from by unfold Wt.ls; rw [List.map_map]; rfl]
    rw [if_pos ⟨⟨by omega, by omega⟩, K.nd, hml, Wt.lsl⟩]
  show (stepP (.wth w.n w.ms) _ _).bind (fun q => runP ((w.inner.ps ++ [.leave]) ++ r) q.1 q.2) = _
  rw [hstep]
  show runP ((w.inner.steps.map .pl ++ [.leave]) ++ r) [] ((w.own.wv own h % w.n, w.ms.zip (w.ls own h)) :: [(own, h)]) = _
  rw [List.append_assoc, runP_tree w.inner.steps _ [] _ (run_st (lok_worth (Wt.fit K) K.i K.il) [])]
  rfl
theorem runL_w (F : Fit B ms own h) (K : Wok B ms w) (r : List LStp) : runL own h (w.lp ++ r) [] = runL own h r [w.wv own h] := by
  have n0 := K.n0
  have n1 := K.n1
  have hl := K.l
  have hil := K.il
  have hml : w.ms.length ≤ 900 := by
    unfold Wt.ms
    rw [List.length_map]
    omega
  show runL own h ((w.own.steps.map .pl ++ (w.ps.flatMap (fun q => q.2.steps.map LStp.pl) ++ [.wth w.n w.inner w.ms])) ++ r) [] = _
  rw [List.append_assoc, runL_tree w.own.steps _ [] _ (run_st (lok_worth F K.o K.ol) []), List.append_assoc, parts_L F w.ps _ _ K.p]
  obtain ⟨t1, t2⟩ := top_st (w.ps.map fun q => q.2.wv own h) (w.own.wv own h) w.ms.length (by simp [Wt.ms])
  have hstep : stepL own h (.wth w.n w.inner w.ms) ((w.ps.map fun q => q.2.wv own h).reverse ++ [w.own.wv own h]) = some [w.wv own h] := by
    unfold stepL
    dsimp only
    rw [t1, t2, List.map_cons]
    dsimp only
    rw [show (w.ps.map fun q => q.2.wv own h).map (· % w.n) = w.ls own h from by unfold Wt.ls; rw [List.map_map]; rfl]
    rw [if_pos ⟨⟨by omega, by omega⟩, K.nd, hml, Wt.lsl, by omega⟩, lok_worth (Wt.fit K) K.i K.il]
    rfl
  show (stepL own h (.wth w.n w.inner w.ms) _).bind (runL own h r) = _
  rw [hstep]
  rfl
theorem zip_ps : ∀ ps : List (Int × Tr), zipV ((ps.map (·.1)).map Val.int) (ps.map fun q => q.2.val) = ps.map fun p => Val.tup [.int p.1, p.2.val]
  | [] => rfl
  | p :: ps => by
    show Val.tup [.int p.1, p.2.val] :: zipV ((ps.map (·.1)).map Val.int) (ps.map fun q => q.2.val) = _
    rw [zip_ps ps]
    rfl
theorem runV_w (hl : w.ps.length ≤ 8) (r : List LStp) : runV (w.lp ++ r) [] = runV r [w.val] := by
  have hml : w.ms.length ≤ 900 := by
    unfold Wt.ms
    rw [List.length_map]
    omega
  show runV ((w.own.steps.map .pl ++ (w.ps.flatMap (fun q => q.2.steps.map LStp.pl) ++ [.wth w.n w.inner w.ms])) ++ r) [] = _
  rw [List.append_assoc, runV_tree, List.append_assoc, parts_V]
  obtain ⟨t1, t2⟩ := top_st (w.ps.map fun q => q.2.val) w.own.val w.ms.length (by simp [Wt.ms])
  have hstep : stepV (.wth w.n w.inner w.ms) ((w.ps.map fun q => q.2.val).reverse ++ [w.own.val]) = some [w.val] := by
    unfold stepV
    dsimp only
    rw [t1, t2]
    dsimp only
    rw [if_pos ⟨by simp [Wt.ms], hml⟩]
    show some [Val.tup [.str "with", .int w.n, w.inner.val, w.own.val, .tup (zipV ((w.ps.map (·.1)).map Val.int) (w.ps.map fun q => q.2.val))]] = _
    rw [zip_ps]
    rfl
  show (stepV (.wth w.n w.inner w.ms) _).bind (runV r) = _
  rw [hstep]
  rfl
theorem sum_sz : ∀ ps : List (Int × Tr), (∀ q ∈ ps, q.2.steps.length ≤ 39) → (ps.map (fun p => p.2.sz)).sum ≤ 78 * ps.length
  | [], _ => Nat.le_refl _
  | q :: ps, h => by
    have h1 := h q List.mem_cons_self
    have h2 := q.2.sz_le
    have := sum_sz ps fun q hq => h q (List.mem_cons_of_mem _ hq)
    rw [List.map_cons, List.sum_cons, List.length_cons]
    omega
theorem flat_sz : ∀ ps : List (Int × Tr), (∀ q ∈ ps, q.2.steps.length ≤ 39) → (ps.flatMap (fun q => q.2.ps)).length ≤ 39 * ps.length
  | [], _ => Nat.le_refl _
  | q :: ps, h => by
    have h1 := h q List.mem_cons_self
    have := flat_sz ps fun q hq => h q (List.mem_cons_of_mem _ hq)
    rw [List.flatMap_cons, List.length_append, List.length_cons]
    have e : q.2.ps.length = q.2.steps.length := by unfold Tr.ps; rw [List.length_map]
    omega
theorem flat_sz2 : ∀ ps : List (Int × Tr), (∀ q ∈ ps, q.2.steps.length ≤ 39) → (ps.flatMap (fun q => q.2.steps.map LStp.pl)).length ≤ 39 * ps.length
  | [], _ => Nat.le_refl _
  | q :: ps, h => by
    have h1 := h q List.mem_cons_self
    have := flat_sz2 ps fun q hq => h q (List.mem_cons_of_mem _ hq)
    rw [List.flatMap_cons, List.length_append, List.length_cons, List.length_map]
    omega
theorem Wok.ok (K : Wok B ms w) : w.ok := by
  have g : ∀ t : Tr, t.steps.length ≤ 39 → t.ht ≤ 50 := fun t h => by have := t.ht_le; omega
  have hl := K.l
  exact ⟨g _ K.il, g _ K.ol, fun q hq => g _ (K.p q hq).2, by omega⟩
theorem Wok.sz (K : Wok B ms w) : w.sz ≤ 2000 := by
  have h1 := w.own.sz_le
  have h2 := w.inner.sz_le
  have h3 := K.ol
  have h4 := K.il
  have h5 := sum_sz w.ps fun q hq => (K.p q hq).2
  have h6 := K.l
  unfold Wt.sz
  omega
theorem Wok.stl (K : Wok B ms w) : w.steps.length ≤ 700 := by
  have h3 := K.ol
  have h4 := K.il
  have h5 := flat_sz w.ps fun q hq => (K.p q hq).2
  have h6 := K.l
  unfold Wt.steps Tr.ps
  simp only [List.length_append, List.length_map, List.length_cons, List.length_nil]
  unfold Tr.ps at h5
  omega
theorem Wok.lpl (K : Wok B ms w) : w.lp.length ≤ 700 := by
  have h3 := K.ol
  have h5 := flat_sz2 w.ps fun q hq => (K.p q hq).2
  have h6 := K.l
  unfold Wt.lp
  simp only [List.length_append, List.length_map, List.length_cons, List.length_nil]
  omega
end
end K03

namespace K03
open PySem PySem.Spec L2 TL
open PyProof.Rows hiding St

/-! ### a drawn program with "with" -/
theorem pp_dict {Γ : Calls} {a b : Addr} {m1 m2 m3 e : IE} {ms : List Int} {n M : Nat} {ρ : ISt} {D : IEnds} {Kx : IS} {S : Sto} {i j : Nat} (hPP : SpPP Γ) (hn : ∀ K : Val → Prop, K (.ref a) → getS ρ j K) (h1 : EV m1 ρ S (tiV ms)) (h2 : EV m2 ρ S (.int (n : Int))) (h3 : EV m3 ρ S (.int (M : Int))) (he : DV a b e ρ fun v => ∃ k, v = .int k ∧ 1 ≤ k ∧ k ≤ 20) (hd : Deal a b S) (hl : ms.length ≤ 8) (hB : n ≤ 16) (hM : M ≤ 1000)
    (q : ∀ t S', t.lok n ms → t.steps.length ≤ 39 → Deal a b S' → (∀ c, S c ≠ none → c ≠ a → c ≠ b → S' c = S c) → Kx D (setS ρ i (prog t)) S') : seqI (setI (.nm i) (callF Γ "_law_plain_program" (consA (varI j) (consA (dspI ["hears", "base", "most"] (foldA [m1, m2, m3])) (consA e nilA))))) Kx D ρ S := hn _ (h1 _ _ (h2 _ _ (h3 _ _ ⟨rfl, by decide, fun vw hvw => by
  obtain ⟨w1, w2⟩ := hd.off hvw
  show (consA e nilA) ρ (S.put vw (.dict (viewK ms n M))) _ _
  refine he _ _ _ (hd.put w1 w2) fun v S1 hv d1 f1 => ?_
  obtain ⟨k, rfl, k0, k1⟩ := hv
  exact hPP a b vw ms n M k S1 _ _ d1 hl hB hM ((f1.eq vw w1 w2).trans put_same) k0 k1 fun t S2 hk hlen d2 f2 => q t S2 hk hlen d2 fun c hc c1 c2 => ((f2.eq c c1 c2).trans (f1.eq c c1 c2)).trans (put_ne fun z => hc (by rw [z]; exact hvw))⟩)))
theorem one_any {Γ : Calls} {a b : Addr} {ρ : ISt} {n : Nat} {k : Int} (hA : GAny Γ) (hn : ∀ K : Val → Prop, K (.ref a) → getS ρ n K) (k0 : 0 < k) (k1 : k < 2 ^ 200) : DV a b (bin2 (addP false) (conI (.int 1)) (callF Γ "_law_any" (consA (varI n) (consA (conI (.int k)) nilA)))) ρ fun v => ∃ i, v = .int i ∧ 1 ≤ i ∧ i ≤ k :=
  DV.add (P1 := fun v => v = .int 1) (P2 := fun v => ∃ i, v = .int i ∧ 0 ≤ i ∧ i < k) (DV.con ⟨1, rfl, rfl⟩) (DV.any hA hn k0 k1 fun i i0 i1 => ⟨i, rfl, i, rfl, i0, i1⟩) (by
    rintro i j e ⟨k', e2, h0, h1⟩
    cases e
    cases e2
    exact ⟨1 + j, rfl, by omega, by omega⟩)
theorem zip_flat (f : Tr → List LStp) : ∀ (ms : List Int) (ts : List Tr), ts.length = ms.length → (ms.zip ts).flatMap (fun q => f q.2) = ts.flatMap f
  | [], [], _ => rfl
  | m :: ms, t :: ts, h => by
    rw [List.zip_cons_cons, List.flatMap_cons, List.flatMap_cons, zip_flat f ms ts (by simpa using h)]
abbrev SpWp (Γ : Calls) : Prop := ∀ (a b vw : Addr) (ms : List Int) (B M : Nat) (S : Sto) (Q : VQ) (E : EQ), Deal a b S → ms.length ≤ 8 → B ≤ 16 → M ≤ 1000 → S vw = some (.dict (viewK ms B M)) → (∀ w S', Wok B ms w → Deal a b S' → Fr a b S S' → Q (.lst (w.lp.map LStp.val)) S') → Γ "_law_with_program" [.ref a, .ref vw] S Q E
def fl (ts : List Tr) : List LStp := ts.flatMap fun t => t.steps.map LStp.pl
theorem fl_len : ∀ ts : List Tr, (∀ t ∈ ts, t.steps.length ≤ 39) → (fl ts).length ≤ 39 * ts.length
  | [], _ => Nat.le_refl _
  | t :: ts, h => by
    have h1 := h t List.mem_cons_self
    have := fl_len ts fun t ht => h t (List.mem_cons_of_mem _ ht)
    unfold fl at this ⊢
    rw [List.flatMap_cons, List.length_append, List.length_cons, List.length_map]
    omega
theorem wp_ok (d : Nat) : SpWp (Cl (d + 5)) := by
  intro a b vw ms B M S Q E hd hl hB hM hv hq
  refine callI_of lk__law_with_program rfl ?_
  have hA : GAny (Cl (d + 4)) := any_ok (d + 3)
  have hMx := mixed_ok (d + 2)
  have hPP := pp_ok d
  show m__law_with_program (Cl (d + 4)) (endsI true S Q E) [some (.ref a), some (.ref vw), none, none, none, none, none] S
  unfold m__law_with_program
  generalize Cl (d + 4) = Γ at hA hMx hPP ⊢
  have va : vw ≠ a := fun z => by
    obtain ⟨_, cs, mix, h1, _⟩ := hd
    rw [z, h1] at hv
    cases hv
  have vb : vw ≠ b := fun z => by
    obtain ⟨_, cs, mix, _, h1, _⟩ := hd
    rw [z, h1] at hv
    cases hv
  have hms : DV a b (callP tupleP (consA (callP (sortP false) (consA (sliceI false (callF Γ "_law_mixed" (consA (varI 0) (consA (lstI false (consA (conI (.int 0)) (consA (conI (.int 1)) (consA (conI (.int 2)) (consA (conI (.int 5)) (consA (conI (.int 8)) nilA)))))) nilA))) noPart (partI (callF Γ "_law_any" (consA (varI 0) (consA (conI (.int 4)) nilA))))) nilA)) nilA)) [some (.ref a), some (.ref vw), none, none, none, none, none] (fun v => ∃ ns : List Int, v = tiV ns ∧ ns.Nodup ∧ ns.length ≤ 8) := by
    intro S Q E hd q
    refine ⟨show 5 ≤ sizeLine by decide, hMx Int Val.int a b [0, 1, 2, 5, 8] S _ _ hd (by decide) fun ys S1 hp hd1 f1 => ?_⟩
    refine hA a b 4 S1 _ _ hd1 (by decide) (by decide) fun k S2 k0 k1 hd2 f2 => ?_
    show sortP false [.lst (cutL (ys.map Val.int) none (some k))] S2 _
    rw [cutL_map]
    refine sort_i ?_
    have hnd : (srtB ltI (cutL ys none (some k))).Nodup := (srtB_perm (lt := ltI) _).nodup_iff.mpr ((hp.nodup_iff.mpr (by decide)).sublist (cut_sub _ _ _))
    have hlen : (srtB ltI (cutL ys none (some k))).length ≤ 8 := by
      rw [(srtB_perm (lt := ltI) _).length_eq]
      have h1 := (cut_sub ys none (some k)).length_le
      have h2 := hp.length_eq
      simp at h2
      omega
    exact q _ S2 ⟨_, rfl, hnd, hlen⟩ hd2 (f1.trans f2)
  refine dq_set hms hd fun v S1 hv1 d1 f1 => ?_
  obtain ⟨ns, rfl, hnd, hnl⟩ := hv1
  clear hms
  refine dq_par (R := fun vs => ∃ n : Nat, vs = [.int (n : Int), .lst []] ∧ 1 ≤ n ∧ n ≤ 16) ?_ d1 fun vs S2 hv2 d2 f2 => ?_
  · refine DA.cons (one_any hA (fun _ z => z) (by decide) (by decide)) fun v hv => DA.one (DV.pure (v := .lst []) (fun S => EV.lst0) ?_)
    obtain ⟨i, rfl, i0, i1⟩ := hv
    exact ⟨i.toNat, by rw [Int.toNat_of_nonneg (by omega)], by omega, by omega⟩
  obtain ⟨n, rfl, n0, n1⟩ := hv2
  refine ⟨_, rfl, ?_⟩
  have f12 := f1.trans f2
  refine pp_dict (ms := ns) (n := n) (M := M) hPP (fun _ z => z) (EV.var fun _ z => z) (EV.var fun _ z => z) (fun Q E q => ix_dict_ ((f12.eq vw va vb).trans hv) rfl (view3 ms B M) q) ((one_any hA (fun _ z => z) (by decide) (by decide)).imp ?_) d2 hnl n1 hM fun inner S3 hin hil d3 f3 => ?_
  · rintro v ⟨i, rfl, i0, i1⟩
    exact ⟨i, rfl, i0, by omega⟩
  have fr3 : ∀ c, S c ≠ none → c ≠ a → c ≠ b → S3 c = S c := fun c hc c1 c2 => (f3 c (by rw [f12.eq c c1 c2]; exact hc) c1 c2).trans (f12.eq c c1 c2)
  refine sq_for (rng1 (EV.add (EV.con _) (EV.lenT (EV.var fun _ z => z))) (by omega) (by rw [List.length_map]; omega)) ?_
  refine forGo_ind (fun r ρ S' => ∃ (ts : List Tr) (c6 : Option Val), r.length + ts.length = 1 + ns.length ∧ (∀ t ∈ ts, t.lok B ms ∧ t.steps.length ≤ 39) ∧ ρ = [some (.ref a), some (.ref vw), some (tiV ns), some (.int (n : Int)), some (.lst ((fl ts).map LStp.val)), some (prog inner), c6] ∧ Deal a b S' ∧ ∀ c, S c ≠ none → c ≠ a → c ≠ b → S' c = S c) ?_ ?_ _ _ _ ⟨[], none, by unfold TL.upTo; rw [List.length_map, List.length_range, List.length_map, List.length_nil]; omega, (fun t ht => nomatch ht), rfl, d3, fr3⟩
  · rintro ρ S' ⟨ts, c6, e, hts, rfl, d', fr⟩
    refine ⟨trivial, ?_⟩
    rw [List.length_nil, Nat.zero_add] at e
    match ts, e, hts with
    | [], e, _ =>
      rw [List.length_nil] at e
      omega
    | t :: ts, e, hts =>
      rw [List.length_cons] at e
      have el : ts.length = ns.length := by omega
      have hw : Wok B ms ⟨n, inner, t, ns.zip ts⟩ := by
        have em : (⟨n, inner, t, ns.zip ts⟩ : Wt).ms = ns := List.map_fst_zip (by omega)
        refine ⟨by show (1 : Int) ≤ (n : Int); omega, by show (n : Int) ≤ 16; omega, by rw [em]; exact hnd, ?_, ?_, hil, (hts t List.mem_cons_self).1, (hts t List.mem_cons_self).2, fun q hq => ?_⟩
        · show (ns.zip ts).length ≤ 8
          rw [List.length_zip]
          omega
        · rw [em]
          exact hin
        · exact hts q.2 (List.mem_cons_of_mem _ (List.of_mem_zip hq).2)
      have elp : (⟨n, inner, t, ns.zip ts⟩ : Wt).lp = fl (t :: ts) ++ [.wth n inner ns] := by
        show t.steps.map LStp.pl ++ ((ns.zip ts).flatMap (fun q => q.2.steps.map LStp.pl) ++ [.wth n inner ((ns.zip ts).map (·.1))]) = _
        rw [zip_flat (fun t => t.steps.map LStp.pl) ns ts el, List.map_fst_zip (by omega)]
        show _ = (fl (t :: ts)) ++ _
        unfold fl
        rw [List.flatMap_cons, List.append_assoc]
      have hfl := fl_len (t :: ts) fun t ht => (hts t ht).2
      rw [List.length_cons] at hfl
      dsimp only
      refine sq_ret (v := .lst ((⟨n, inner, t, ns.zip ts⟩ : Wt).lp.map LStp.val)) ?_ ?_
      · rw [elp, List.map_append]
        exact EV.addL (EV.var fun _ z => z) (EV.lst1 (EV.tup4 (EV.con _) (EV.var fun _ z => z) (EV.var fun _ z => z) (EV.var fun _ z => z))) (by rw [List.length_map, List.length_map, List.length_singleton, sizeLine_eq]; omega)
      · have hg := Deal.gc hd d' fr
        exact hq _ _ hw hg.1 hg.2
  · rintro x r ρ S' Kn hK ⟨ts, c6, e, hts, rfl, d', fr⟩
    refine ⟨trivial, ?_⟩
    rw [List.length_cons] at e
    have hfl := fl_len ts fun t ht => (hts t ht).2
    have hv' : S' vw = some (.dict (viewK ms B M)) := (fr vw (by rw [hv]; exact fun z => nomatch z) va vb).trans hv
    have hdv : DV a b (bin2 (addP false) (conI (.int 1)) (callF Γ "_law_any" (consA (varI 0) (consA (conI (.int 2)) nilA)))) [some (.ref a), some (.ref vw), some (tiV ns), some (.int (n : Int)), some (.lst ((fl ts).map LStp.val)), some (prog inner), some x] _ := one_any hA (fun _ z => z) (by decide) (by decide)
    refine hdv S' _ _ d' fun v S2 hv2 d2 f2 => ?_
    obtain ⟨k, rfl, k0, k1⟩ := hv2
    refine hPP a b vw ms B M k S2 _ _ d2 hl hB hM ((f2.eq vw va vb).trans hv') k0 (by omega) fun t S4 hk hlen d4 f4 => ⟨by rw [List.length_map, List.length_map, sizeLine_eq]; omega, ?_⟩
    have e5 : (fl ts).map LStp.val ++ t.steps.map Stp.val = (fl (ts ++ [t])).map LStp.val := by
      unfold fl
      rw [List.flatMap_append, List.map_append, List.flatMap_cons, List.flatMap_nil, List.append_nil, List.map_map]
      rfl
    rw [e5]
    refine hK _ _ ⟨ts ++ [t], _, by rw [List.length_append, List.length_singleton]; omega, fun u hu => ?_, rfl, d4, fun c hc c1 c2 => ((f2.trans f4).eq c c1 c2).trans (fr c hc c1 c2)⟩
    rcases List.mem_append.mp hu with hu | hu
    · exact hts u hu
    · rw [List.mem_singleton.mp hu]
      exact ⟨hk, hlen⟩
end K03

namespace K03
open PySem PySem.Spec L2 TL
open PyProof.Rows hiding St

/-! ### digits of a table's number -/
def zl (l : Int) : Int := if l > 0 then l else 0
theorem zl_eq (l : Int) : (if 0 > l then 0 else l) = zl l := by
  unfold zl
  split <;> split <;> omega
theorem zl_0 (l : Int) : 0 ≤ zl l := by
  unfold zl
  split <;> omega
def dgs (own : Int) (h : Hr) : List Int := own :: h.map fun p => zl p.2
theorem dgs_len (own : Int) (h : Hr) : (dgs own h).length = 1 + h.length := by simp [dgs, Nat.add_comm]
theorem numE_cons (B : Nat) (x : Int) (p : Int × Int) (h : Hr) : numE B x (p :: h) = numE B (x * B + zl p.2) h := by
  show numE B (x * B + (if 0 > p.2 then 0 else p.2)) h = _
  rw [zl_eq]
theorem numE_app (B : Nat) (x : Int) (h1 h2 : Hr) : numE B x (h1 ++ h2) = numE B (numE B x h1) h2 := List.foldl_append
theorem zl_lt {B : Nat} {l : Int} (hB : 1 ≤ B) (h : l < (B : Int)) : zl l < (B : Int) := by
  unfold zl
  split <;> omega
theorem num_div {B : Nat} (hB : 1 ≤ B) : ∀ (h : Hr) (x : Int), 0 ≤ x → (∀ p ∈ h, p.2 < (B : Int)) → numE B x h / ((B ^ h.length : Nat) : Int) = x
  | [], x, _, _ => by
    show x / ((1 : Nat) : Int) = x
    simp
  | p :: h, x, h0, hp => by
    have hz := zl_lt hB (hp p List.mem_cons_self)
    have hz0 := zl_0 p.2
    have hm : 0 ≤ x * (B : Int) := Int.mul_nonneg h0 (by omega)
    rw [numE_cons, List.length_cons, Nat.pow_succ]
    rw [show ((B ^ h.length * B : Nat) : Int) = ((B ^ h.length : Nat) : Int) * (B : Int) from by push_cast; rfl]
    rw [← Int.ediv_ediv_of_nonneg (show (0 : Int) ≤ ((B ^ h.length : Nat) : Int) by omega), num_div hB h _ (by omega) fun q hq => hp q (List.mem_cons_of_mem _ hq)]
    rw [Int.add_comm, Int.add_mul_ediv_right _ _ (by omega), Int.ediv_eq_zero_of_lt hz0 hz, Int.zero_add]
theorem num_0 {B : Nat} : ∀ (h : Hr) (x : Int), 0 ≤ x → 0 ≤ numE B x h
  | [], x, h0 => h0
  | p :: h, x, h0 => by
    have hz0 := zl_0 p.2
    have hm : 0 ≤ x * (B : Int) := Int.mul_nonneg h0 (by omega)
    rw [numE_cons]
    exact num_0 h _ (by omega)
theorem num_dig {B : Nat} (hB : 1 ≤ B) {own : Int} {h : Hr} (o0 : 0 ≤ own) (o1 : own < (B : Int)) (hp : ∀ p ∈ h, p.2 < (B : Int)) (j : Nat) (hj : j < (dgs own h).length) : numE B own h / ((B ^ (h.length - j) : Nat) : Int) % (B : Int) = (dgs own h)[j] := by
  cases j with
  | zero =>
    rw [Nat.sub_zero, num_div hB h own o0 hp]
    exact Int.emod_eq_of_lt o0 o1
  | succ j =>
    rw [dgs_len] at hj
    have hj : j < h.length := by omega
    have e : h = h.take j ++ (h[j] :: h.drop (j + 1)) := by
      rw [← List.drop_eq_getElem_cons hj, List.take_append_drop]
    have e2 : numE B own h = numE B (numE B own (h.take j) * B + zl h[j].2) (h.drop (j + 1)) := by
      rw [← numE_cons, ← numE_app, ← e]
    have hpj := hp h[j] (List.getElem_mem hj)
    have hz := zl_lt hB hpj
    have hz0 := zl_0 h[j].2
    have hn := num_0 (B := B) (h.take j) own o0
    have hm : 0 ≤ numE B own (h.take j) * (B : Int) := Int.mul_nonneg hn (by omega)
    have el : h.length - (j + 1) = (h.drop (j + 1)).length := by rw [List.length_drop]
    rw [e2, el, num_div hB _ _ (by omega) fun q hq => hp q (List.mem_of_mem_drop hq), Int.mul_add_emod_self_right, Int.emod_eq_of_lt hz0 hz]
    simp [dgs]
def dg (B k : Nat) (i : Int) (j : Nat) : Int := i / ((B ^ (k - j) : Nat) : Int) % (B : Int)
def sg (B k : Nat) (i : Int) : Nat → Int
  | 0 => 0
  | j + 1 => sg B k i j + dg B k i j
theorem sg_take {B : Nat} (hB : 1 ≤ B) {own : Int} {h : Hr} (o0 : 0 ≤ own) (o1 : own < (B : Int)) (hp : ∀ p ∈ h, p.2 < (B : Int)) : ∀ j, j ≤ (dgs own h).length → sg B h.length (numE B own h) j = ((dgs own h).take j).sum
  | 0, _ => rfl
  | j + 1, hj => by
    have hj' : j < (dgs own h).length := by omega
    rw [← List.take_append_getElem hj', List.sum_append, ← sg_take hB o0 o1 hp j (by omega)]
    show _ + dg B h.length (numE B own h) j = _
    rw [show dg B h.length (numE B own h) j = (dgs own h)[j] from num_dig hB o0 o1 hp j hj']
    simp
theorem sg_all {B : Nat} (hB : 1 ≤ B) {own : Int} {h : Hr} (o0 : 0 ≤ own) (o1 : own < (B : Int)) (hp : ∀ p ∈ h, p.2 < (B : Int)) : sg B h.length (numE B own h) (1 + h.length) = (dgs own h).sum := by
  rw [sg_take hB o0 o1 hp _ (by rw [dgs_len]; omega), List.take_of_length_le (by rw [dgs_len]; omega)]
/-- a table of what a function says -/
def tbl (N : Nat) (f : Int → Int) : List Int := (List.range N).map fun i : Nat => f (0 + (i : Int))
theorem tb_at {B : Nat} {own : Int} {h : Hr} (hB : 1 ≤ B) (hB2 : B ≤ 16) (o0 : 0 ≤ own) (o1 : own < (B : Int)) (hp : ∀ p ∈ h, p.2 < (B : Int)) (hN : B ^ (1 + h.length) ≤ 1000) (f : Int → Int) : (Lf.table B (tbl (B ^ (1 + h.length)) f)).worth own h = some (f (numE B own h)) := by
  have hn := num_0 (B := B) h own o0
  have h2 := num_lt hB h own B o0 (by omega) hp
  have e2 : B * B ^ h.length = B ^ (1 + h.length) := by rw [Nat.add_comm, Nat.pow_succ, Nat.mul_comm]
  rw [e2] at h2
  have hl : (tbl (B ^ (1 + h.length)) f).length = B ^ (1 + h.length) := by simp [tbl]
  show (if _ then _ else none) = _
  rw [if_pos ⟨hl, ⟨hB, hB2⟩, by omega, o0⟩]
  have hlt : (numE B own h).toNat < B ^ (1 + h.length) := by omega
  unfold tbl
  rw [List.getElem?_map, List.getElem?_range hlt]
  show some (f (0 + ((numE B own h).toNat : Int))) = _
  rw [Int.toNat_of_nonneg hn, Int.zero_add]
/-! ### the worth of a leaf alone -/
abbrev SpTab (Γ : Calls) : Prop := ∀ (l : Lf) (lets : Val) (own : Int) (h : Hr) (x : Int) (S : Sto) (Q : VQ) (E : EQ), GH h → l.worth own h = some x → Q (.int x) S → Γ "worth" [l.val, lets, .int own, .set (hrV h)] S Q E
theorem tab_of {Γ : Calls} (hW : SpWorth Γ) : SpTab Γ := fun l lets own h x S Q E g hx hq => by
  refine hW (.tr (.lf l)) lets own h x [(own, h)] S Q E g ?_ (show (2 : Nat) ≤ 60 by decide) (show (1 : Nat) ≤ 10000 by decide) (show (1 : Nat) ≤ 900 by decide) (fun p => by intro z; cases z) hq
  show runP ((Tr.lf l).steps.map .pl) [] [(own, h)] = _
  have := runP_tree (vs := []) (Tr.lf l).steps [] [] _ (run_st (t := .lf l) (w := x) hx [])
  rw [List.append_nil] at this
  exact this
/-! ### shapes -/
def shp : List (Nat × Nat) := [(1, 0), (1, 4), (2, 0), (2, 3), (2, 7), (3, 1), (3, 4), (4, 2), (4, 3), (5, 2), (6, 2), (16, 0), (16, 1), (15, 1)]
abbrev SpShape (Γ : Calls) : Prop := ∀ (a b : Addr) (S : Sto) (Q : VQ) (E : EQ), Deal a b S → (∀ (B m : Nat) S', 1 ≤ B → B ≤ 16 → m ≤ 8 → B ^ (1 + m) ≤ 256 → Deal a b S' → Fr a b S S' → Q (.tup [.int (B : Int), .int (m : Int)]) S') → Γ "_law_shape" [.ref a] S Q E
theorem shape_ok (d : Nat) : SpShape (Cl (d + 3)) := by
  intro a b S Q E hd hq
  refine callI_of lk__law_shape rfl ?_
  have hO : GOf (Cl (d + 2)) := of_ok d
  show m__law_shape (Cl (d + 2)) (endsI true S Q E) [some (.ref a)] S
  unfold m__law_shape
  generalize Cl (d + 2) = Γ at hO ⊢
  have hsh : ∀ p ∈ shp, 1 ≤ p.1 ∧ p.1 ≤ 16 ∧ p.2 ≤ 8 ∧ p.1 ^ (1 + p.2) ≤ 256 := by decide
  have two : 2 ≤ sizeLine := by decide
  refine dq_ret (P := fun v => ∃ p ∈ shp, v = .tup [.int ((p.1 : Nat) : Int), .int ((p.2 : Nat) : Int)]) (DV.of hO (fun _ z => z) (DV.pure (v := .lst (shp.map fun p : Nat × Nat => Val.tup [.int ((p.1 : Nat) : Int), .int ((p.2 : Nat) : Int)])) (fun S Q E q => ⟨two, two, two, two, two, two, two, two, two, two, two, two, two, two, show 14 ≤ sizeLine by decide, q⟩) ⟨_, rfl, by simp [shp], show 14 ≤ sizeLine by decide, fun x hx => ?_⟩)) hd fun v S1 hv d1 f1 => ?_
  · obtain ⟨p, hp, rfl⟩ := List.mem_map.mp hx
    exact ⟨p, hp, rfl⟩
  · obtain ⟨p, hp, rfl⟩ := hv
    obtain ⟨h1, h2, h3, h4⟩ := hsh p hp
    show Q _ (S1.within S)
    rw [hd.within f1]
    exact hq p.1 p.2 S1 h1 h2 h3 h4 d1 f1
end K03

namespace K03
open PySem PySem.Spec L2 TL
open PyProof.Rows hiding St

/-! ### tables -/
section
variable {ρ : ISt} {S : Sto} {a b m : IE} {i k : Int}
theorem evRep {xs : List Val} (ha : EV a ρ S (.lst xs)) (hb : EV b ρ S (.int k)) (h0 : 0 ≤ k) (h1 : k ≤ 1000) (hl : xs.length ≤ 1000) : EV (bin2 (mulP false) a b) ρ S (.lst (List.replicate k.toNat xs).flatten) := fun Q E q => ha _ _ (hb _ _ ⟨by omega, by omega, by
  have := Nat.mul_le_mul hl (show k.toNat ≤ 1000 by omega)
  rw [sizeLine_eq]
  omega, q⟩)
theorem evSum {ns : List Int} (ha : EV a ρ S (.lst (ns.map Val.int))) : EV (callP sumP (consA a nilA)) ρ S (.int ns.sum) := fun Q E q => ha _ _ (by
  show someP (intsOf (ns.map Val.int)) fun ns => Q (.int ns.sum) S
  rw [intsOf_map]
  exact q)
end
theorem rep0 (N : Nat) (f : Int → Int) (hf : ∀ i, f i = 0) : (List.replicate N [Val.int 0]).flatten = (tbl N f).map Val.int := by
  have e : tbl N f = List.replicate N 0 := by
    unfold tbl
    simp only [hf]
    rw [List.map_const', List.length_range]
  rw [e, List.map_replicate]
  induction N with
  | zero => rfl
  | succ n ih =>
    rw [List.replicate_succ, List.flatten_cons, List.replicate_succ]
    have e : tbl n f = List.replicate n 0 := by
      unfold tbl
      simp only [hf]
      rw [List.map_const', List.length_range]
    rw [ih e]
    rfl
theorem tbl_ix {N : Nat} {f : Int → Int} {i : Nat} (hi : i < N) : atI ((tbl N f).map Val.int) (0 + (i : Int)) = some (.int (f (0 + (i : Int)))) := by
  have hl : ((tbl N f).map Val.int).length = N := by simp [tbl]
  have e : (0 + (i : Int)) = (i : Int) := Int.zero_add _
  rw [e, at_nat (by omega), List.getElem?_map]
  unfold tbl
  rw [List.getElem?_map, List.getElem?_range hi, e.symm]
  simp
structure TB (S0 : Sto) (a b p : Addr) (vs : List Int) (S : Sto) : Prop where
  d : Deal a b S
  hp : S p = some (.lst (vs.map fun i => pp (.int i)))
  p0 : S0 p = none
  pa : p ≠ a
  pb : p ≠ b
  l : vs.length ≤ 10
  old : ∀ c, S0 c ≠ none → c ≠ a → c ≠ b → S c = S0 c
theorem TB.add {S0 S : Sto} {a b p : Addr} {vs : List Int} (L : TB S0 a b p vs S) (i : Int) (hl : vs.length ≤ 9) : TB S0 a b p (vs ++ [i]) (S.put p (.lst ((vs.map fun i => pp (.int i)) ++ [pp (.int i)]))) := ⟨L.d.put L.pa L.pb, by rw [put_same]; simp, L.p0, L.pa, L.pb, by simpa using hl, fun c hc h1 h2 => by rw [put_ne (fun z => hc (by rw [z]; exact L.p0))]; exact L.old c hc h1 h2⟩
theorem TB.draw {S0 S S' : Sto} {a b p : Addr} {vs : List Int} (L : TB S0 a b p vs S) (d : Deal a b S') (f : Fr a b S S') : TB S0 a b p vs S' := ⟨d, (f.eq p L.pa L.pb).trans L.hp, L.p0, L.pa, L.pb, L.l, fun c hc h1 h2 => (f.eq c h1 h2).trans (L.old c hc h1 h2)⟩
theorem TB.len {S0 S : Sto} {a b p : Addr} {vs : List Int} (L : TB S0 a b p vs S) : (vs.map fun i => pp (.int i)).length < sizeLine := by
  have := L.l
  rw [List.length_map, sizeLine_eq]
  omega
/-- a comprehension over the table's numbers -/
theorem evTbl {ρ : ISt} {S : Sto} {e te : IE} {tg : Tg} {own : List Nat} {N : Nat} {f : Int → Int} (he : EV e ρ S (.int (N : Int))) (hN : N ≤ 1000) (hx : ∀ i : Nat, i < N → ∃ ρ1, tgI tg (.int (0 + (i : Int))) (wipeI ρ own) = some ρ1 ∧ EV te ρ1 S (.int (f (0 + (i : Int))))) : EV (lcI false (rng1I e) tg yesT te own) ρ S (.lst ((tbl N f).map Val.int)) := by
  have := EV.lc (ρ := ρ) (S := S) (fun i : Nat => Val.int (0 + (i : Int))) (List.range N) (fun i : Nat => Val.int (f (0 + (i : Int)))) (it := rng1I e) (tg := tg) (te := te) (own := own) (rng1 he (by omega) (by omega)) trivial (by rw [List.length_range, sizeLine_eq]; omega) fun i hi => hx i (List.mem_range.mp hi)
  rw [show (tbl N f).map Val.int = (List.range N).map fun i : Nat => Val.int (f (0 + (i : Int))) from by unfold tbl; rw [List.map_map]; rfl]
  exact this
abbrev SpTables (Γ : Calls) : Prop := ∀ (a b : Addr) (B : Nat) (own : Int) (h : Hr) (S : Sto) (Q : VQ) (E : EQ), Deal a b S → GH h → 1 ≤ B → B ≤ 16 → 0 ≤ own → own < (B : Int) → (∀ p ∈ h, p.2 < (B : Int)) → B ^ (1 + h.length) ≤ 256 → (∀ (vs : List Int) S', vs.length ≤ 10 → Deal a b S' → Fr a b S S' → Q (.lst (vs.map fun i => pp (.int i))) S') → Γ "_law_tables" [.ref a, .int (B : Int), .int own, .set (hrV h)] S Q E
theorem tables_ok (d : Nat) : SpTables (Cl (d + 7)) := by
  intro a b B own h S Q E hd g b1 b2 o0 o1 hp hN hq
  refine callI_of lk__law_tables rfl ?_
  have hA : GAny (Cl (d + 6)) := any_ok (d + 5)
  have hO : GOf (Cl (d + 6)) := of_ok (d + 4)
  have hP := lpow_ok (d + 5)
  have hW := tab_of (worth_ok d)
  have hE := lentry_ok (d + 4)
  show m__law_tables (Cl (d + 6)) (endsI true S Q E) [some (.ref a), some (.int (B : Int)), some (.int own), some (.set (hrV h)), none, none, none, none, none, none, none, none, none, none, none, none, none] S
  unfold m__law_tables
  generalize Cl (d + 6) = Γ at hA hO hP hW hE ⊢
  have hk : h.length ≤ 1000 := g.len
  have hlen : ∀ {ρ : ISt} {S : Sto}, (∀ K : Val → Prop, K (.set (hrV h)) → getS ρ 3 K) → EV (callP lenP (consA (varI 3) nilA)) ρ S (.int (h.length : Int)) := fun {ρ S} hn => by
    have := lenX (ρ := ρ) (S := S) (xs := hrV h) (EV.var hn) (.inl rfl)
    rw [show (hrV h).length = h.length from by simp [hrV]] at this
    exact this
  have wT : ∀ {f : Int → Int}, (Lf.table B (tbl (B ^ (1 + h.length)) f)).worth own h = some (f (numE B own h)) := tb_at b1 b2 o0 o1 hp (by omega) _
  have hpw : ∀ (k : Nat), k ≤ 1001 → (0 : Int) < ((B ^ k : Nat) : Int) := fun k _ => by
    have := Nat.pow_pos (n := k) (show 0 < B by omega)
    omega
  have hpl : ∀ (k : Nat), k ≤ h.length → ((B ^ k : Nat) : Int) < 2 ^ 200 := fun k hk => by
    have h1 : B ^ k ≤ B ^ (1 + h.length) := Nat.pow_le_pow_right (by omega) (by omega)
    omega
  refine sq_set (v := .int ((B ^ (1 + h.length) : Nat) : Int)) (EV.call2 (x := .int (B : Int)) (y := .int ((1 + h.length : Nat) : Int)) (EV.var fun _ z => z) (by rw [show ((1 + h.length : Nat) : Int) = 1 + (h.length : Int) from by omega]; exact EV.add (EV.con _) (hlen fun _ z => z)) fun Q E q => hP B (1 + h.length) S Q E b2 (by omega) q) ?_
  have hNe : ∃ N, N = B ^ (1 + h.length) := ⟨_, rfl⟩
  obtain ⟨N, eN⟩ := hNe
  rw [← eN] at hN wT ⊢
  refine dq_set (P := fun v => ∃ es : List Int, v = tiV es ∧ es.length = N) ?_ hd fun v S1 hv d1 f1 => ?_
  · have hlc : DV a b (lcI false (rng1I (conI (.int (N : Int)))) (.nm 13) yesT (callF Γ "_law_of" (consA (varI 0) (consA (lstI false (consA (callF Γ "_law_any" (consA (varI 0) (consA (varI 1) nilA))) (consA (callF Γ "_law_any" (consA (varI 0) (consA (conI (.int 1000)) nilA))) nilA))) nilA))) [13]) [some (.ref a), some (.int (B : Int)), some (.int own), some (.set (hrV h)), some (.int (N : Int)), none, none, none, none, none, none, none, none, none, none, none, none] (fun v => ∃ es : List Int, v = .lst (es.map Val.int) ∧ es.length = N) := by
      refine DV.lc (fun i : Nat => Val.int (0 + (i : Int))) (List.range N) (fun _ v => ∃ n : Int, v = .int n ∧ True) (hit_rng (by omega)) (by rw [List.length_range, sizeLine_eq]; omega) (fun i hi => ⟨_, rfl, ?_⟩) fun vs hv => ?_
      · refine DV.of hO (fun _ z => z) (DV.lst (DA.cons (P1 := fun v => ∃ n : Int, v = .int n) (DV.anyD hA (fun _ z => z) (DV.var (w := .int (B : Int)) (fun _ z => z) ⟨_, rfl, by omega, by omega, fun i _ _ => ⟨i, rfl⟩⟩)) fun v1 h1 => DA.one (DV.any hA (fun _ z => z) (by decide) (by decide) fun i _ _ => ⟨show 2 ≤ sizeLine by decide, _, rfl, by simp, show 2 ≤ sizeLine by decide, fun x hx => ?_⟩)))
        obtain ⟨n, rfl⟩ := h1
        simp only [List.mem_cons, List.not_mem_nil, or_false] at hx
        rcases hx with rfl | rfl
        · exact ⟨n, rfl, trivial⟩
        · exact ⟨i, rfl, trivial⟩
      · obtain ⟨es, rfl, e2, _⟩ := f2_ints (Pe := fun _ => True) hv
        rw [List.length_range] at e2
        exact ⟨es, rfl, e2⟩
    intro S Q E hd q
    refine DV.lcE (fun S => EV.var fun _ z => z) hlc S _ E hd fun w S' hw hd' f' => ?_
    obtain ⟨es, rfl, e2⟩ := hw
    exact q (tiV es) S' ⟨es, rfl, e2⟩ hd' f'
  obtain ⟨es, rfl, hel⟩ := hv
  have hx : ∃ x, (Lf.table B es).worth own h = some x := by
    have hn := num_0 (B := B) h own o0
    have h2 := num_lt b1 h own B o0 (by omega) hp
    have e2 : B * B ^ h.length = N := by rw [eN, Nat.add_comm, Nat.pow_succ, Nat.mul_comm]
    rw [e2] at h2
    have hlt : (numE B own h).toNat < es.length := by omega
    refine ⟨es[(numE B own h).toNat], ?_⟩
    show (if _ then _ else none) = _
    rw [if_pos ⟨by rw [hel, eN], ⟨b1, b2⟩, by omega, o0⟩, List.getElem?_eq_getElem hlt]
  obtain ⟨x, hx⟩ := hx
  refine dq_lst (R := fun vs => vs = [pp (.int x)]) (DA.one (DV.pure (v := pp (.int x)) (fun S => EV.tup2 (EV.call4 (x := (Lf.table B es).val) (EV.tup2 (EV.con _) (EV.var fun _ z => z)) (EV.var fun _ z => z) (EV.var fun _ z => z) (EV.var fun _ z => z) fun Q E q => hW (.table B es) (.int (B : Int)) own h x S Q E g hx q) (EV.call3 (EV.var fun _ z => z) (EV.var fun _ z => z) (EV.var fun _ z => z) fun Q E q => hE B es own x h _ S Q E (.inl rfl) g hx q)) rfl)) d1 fun vs S2 hv d2 f2 => ?_
  subst hv
  refine ⟨show 1 ≤ sizeLine by decide, fun p hpn => ?_⟩
  obtain ⟨p1, p2⟩ := d2.off hpn
  have f12 := f1.trans f2
  have T1 : TB S a b p [x] (S2.put p (.lst [pp (.int x)])) := ⟨d2.put p1 p2, put_same, by rw [← f12.eq p p1 p2]; exact hpn, p1, p2, by simp, fun c hc h1 h2 => by rw [put_ne (fun z => hc (by rw [z, ← f12.eq p p1 p2]; exact hpn))]; exact f12.eq c h1 h2⟩
  generalize S2.put p (.lst [pp (.int x)]) = S3 at T1 ⊢
  clear f12 f2 d2 hpn f1 d1 S2 S1
  -- the first digit
  refine sq_set (v := tiV (tbl N fun i => i / ((B ^ h.length : Nat) : Int))) (EV.tuple (xs := (tbl N fun i => i / ((B ^ h.length : Nat) : Int)).map Val.int) (v := .lst ((tbl N fun i => i / ((B ^ h.length : Nat) : Int)).map Val.int)) (evTbl (EV.var fun _ z => z) (by omega) fun i hi => ⟨_, rfl, EV.fdiv (EV.var fun _ z => z) (EV.call2 (EV.var fun _ z => z) (hlen fun _ z => z) fun Q E q => hP B h.length S3 Q E b2 (by omega) q) (divw_small (hpw _ (by omega)) (hpl _ (Nat.le_refl _)))⟩) rfl) ?_
  refine sq_app (v := pp (.int own)) (fun _ z => z) T1.hp T1.len (EV.tup2 (EV.call4 (x := (Lf.table B (tbl N fun i => i / ((B ^ h.length : Nat) : Int))).val) (EV.tup2 (EV.con _) (EV.var fun _ z => z)) (EV.var fun _ z => z) (EV.var fun _ z => z) (EV.var fun _ z => z) fun Q E q => hW _ (.int (B : Int)) own h own S3 Q E g (by rw [wT, num_div b1 h own o0 hp]) q) (EV.var fun _ z => z)) ?_
  have T2 := T1.add own (by simp)
  generalize S3.put p (.lst (([x].map fun i => pp (.int i)) ++ [pp (.int own)])) = S4 at T2 ⊢
  clear T1 S3
  -- letters
  have hlets : ∀ {ρ : ISt}, (∀ K : Val → Prop, K (.int own) → getS ρ 2 K) → (∀ K : Val → Prop, K (.set (hrV h)) → getS ρ 3 K) → (∀ q ∈ h, ∃ ρ1, tgI (.tp [15, 16]) (prV q) (wipeI ρ [15, 16]) = some ρ1 ∧ ∀ K : Val → Prop, K (.int q.2) → getS ρ1 16 K) → EV (bin2 (addP false) (lstI false (consA (varI 2) nilA)) (lcI false (walkI (varI 3)) (.tp [15, 16]) yesT (callP maxP (consA (conI (.int 0)) (consA (varI 16) nilA))) [15, 16])) ρ S4 (.lst ((dgs own h).map Val.int)) := fun {ρ} h1 h2 h3 => by
    have := EV.lc (ρ := ρ) (S := S4) prV h (fun p => Val.int (zl p.2)) (it := walkI (varI 3)) (tg := .tp [15, 16]) (te := callP maxP (consA (conI (.int 0)) (consA (varI 16) nilA))) (own := [15, 16]) (walkX (EV.var h2) (.inl rfl)) trivial (by rw [sizeLine_eq]; omega) fun q hq => by
      obtain ⟨ρ1, e, hn⟩ := h3 q hq
      exact ⟨ρ1, e, EV.max2 (EV.con _) (EV.var hn)⟩
    have := EV.addL (EV.lst1 (EV.var h1)) this (by rw [List.length_singleton, List.length_map, sizeLine_eq]; omega)
    rw [show (dgs own h).map Val.int = [Val.int own] ++ h.map (fun p => Val.int (zl p.2)) from by simp [dgs]]
    exact this
  refine sq_tp (vs := [.lst ((tbl N fun i => sg B h.length i 0).map Val.int), .lst ((dgs own h).map Val.int)]) (EV.tup2 ?_ (hlets (fun _ z => z) (fun _ z => z) fun q hq => ⟨_, rfl, fun _ z => z⟩)) rfl ?_
  · have := evRep (ρ := [some (.ref a), some (.int (B : Int)), some (.int own), some (.set (hrV h)), some (.int (N : Int)), some (tiV es), some (.ref p), some (tiV (tbl N fun i => i / ((B ^ h.length : Nat) : Int))), none, none, none, none, none, none, none, none, none]) (S := S4) (EV.lst1 (EV.con (.int 0))) (EV.var (n := 4) (v := .int (N : Int)) fun _ z => z) (by omega) (by omega) (by simp)
    rw [Int.toNat_natCast, rep0 N (fun i => sg B h.length i 0) fun _ => rfl] at this
    exact this
  have fin : ∀ (vs : List Int) (S' : Sto) (ρ : ISt), TB S a b p vs S' → (∀ K : Val → Prop, K (.ref p) → getS ρ 6 K) → (seqI (retI true (varI 6)) nextI) (endsI true S Q E) ρ S' := fun vs S' ρ T hn => by
    refine hn _ ?_
    show (match S' p with
      | some (.lst xs) => Q (.lst xs) ((S'.del p).within S)
      | _ => Q (.ref p) (S'.within S))
    rw [T.hp]
    have hd2 : Deal a b (S'.del p) := by
      obtain ⟨ne, cs, mix, h1, h2, r⟩ := T.d
      exact ⟨ne, cs, mix, (if_neg (fun z => T.pa z.symm)).trans h1, (if_neg (fun z => T.pb z.symm)).trans h2, r⟩
    have hg := Deal.gc hd hd2 fun c hc h1 h2 => (if_neg (fun z => hc (by rw [z]; exact T.p0))).trans (T.old c hc h1 h2)
    exact hq vs _ T.l hg.1 hg.2
  generalize seqI (retI true (varI 6)) nextI = Kf at fin ⊢
  generalize endsI true S Q E = D at fin ⊢
  refine sq_for (rng1 (EV.lenL (EV.var fun _ z => z)) (by omega) (by rw [List.length_map, dgs_len]; omega)) ?_
  refine forGo_ind (fun r ρ S' => S' = S4 ∧ ∃ (j : Nat) (c10 c11 : Option Val), r = TL.upTo (j : Int) (1 + h.length - j) ∧ j ≤ 1 + h.length ∧ ρ = [some (.ref a), some (.int (B : Int)), some (.int own), some (.set (hrV h)), some (.int (N : Int)), some (tiV es), some (.ref p), some (tiV (tbl N fun i => i / ((B ^ h.length : Nat) : Int))), some (.lst ((tbl N fun i => sg B h.length i j).map Val.int)), some (.lst ((dgs own h).map Val.int)), c10, c11, none, none, none, none, none]) ?_ ?_ _ _ _ ⟨rfl, 0, none, none, by rw [List.length_map, dgs_len, Int.toNat_natCast]; rfl, Nat.zero_le _, rfl⟩
  · rintro ρ S' ⟨rfl, j, c10, c11, e, hj, rfl⟩
    refine ⟨trivial, ?_⟩
    have ej : j = 1 + h.length := by
      have := congrArg List.length e
      unfold TL.upTo at this
      rw [List.length_map, List.length_range, List.length_nil] at this
      omega
    subst ej
    dsimp only
    refine sq_app (v := pp (.int (dgs own h).sum)) (fun _ z => z) T2.hp T2.len (EV.tup2 (EV.call4 (x := (Lf.table B (tbl N fun i => sg B h.length i (1 + h.length))).val) (EV.tup2 (EV.con _) (EV.tuple (EV.var fun _ z => z) rfl)) (EV.var fun _ z => z) (EV.var fun _ z => z) (EV.var fun _ z => z) fun Q E q => hW _ (.int (B : Int)) own h (dgs own h).sum S' Q E g (by rw [wT, sg_all b1 o0 o1 hp]) q) (evSum (EV.var fun _ z => z))) ?_
    have T3 := T2.add (dgs own h).sum (by simp)
    generalize S'.put p (.lst ((([x] ++ [own]).map fun i => pp (.int i)) ++ [pp (.int (dgs own h).sum)])) = S5 at T3 ⊢
    by_cases hh : h.length = 0
    · refine sq_if_n (TT.cmp (hlen fun _ z => z) (EV.con _) (by rw [hh]; rfl)) ?_
      exact fin _ _ _ T3 fun _ z => z
    · refine sq_if_t (TT.cmp (hlen fun _ z => z) (EV.con _) (decide_eq_true (by omega))) ?_
      refine dq_set (P := fun v => ∃ k : Nat, v = .int (k : Int) ∧ k < h.length) (fun S Q E hd q => (hlen fun _ z => z) _ E (hA a b _ S _ _ hd (by omega) (by omega) fun k S' k0 k1 d f => q _ S' ⟨k.toNat, by rw [Int.toNat_of_nonneg k0], by omega⟩ d f)) T3.d fun v S6 hv d6 f6 => ?_
      obtain ⟨k, rfl, hk2⟩ := hv
      have T4 := T3.draw d6 f6
      have ek : ((h.length : Int) - 1) - (k : Int) = ((h.length - (k + 1) : Nat) : Int) := by omega
      refine sq_set (v := .int ((B ^ (h.length - (k + 1)) : Nat) : Int)) (EV.call2 (x := .int (B : Int)) (y := .int ((h.length - (k + 1) : Nat) : Int)) (EV.var fun _ z => z) (by rw [← ek]; exact EV.sub (EV.sub (hlen fun _ z => z) (EV.con _)) (EV.var fun _ z => z)) fun Q E q => hP B _ S6 Q E b2 (by omega) q) ?_
      refine sq_set (v := tiV (tbl N fun i => dg B h.length i (k + 1))) (EV.tuple (xs := (tbl N fun i => dg B h.length i (k + 1)).map Val.int) (v := .lst ((tbl N fun i => dg B h.length i (k + 1)).map Val.int)) (evTbl (EV.var fun _ z => z) (by omega) fun i hi => ⟨_, rfl, EV.mod (EV.int (EV.fdiv (EV.var fun _ z => z) (EV.var fun _ z => z) (divw_small (hpw _ (by omega)) (hpl _ (by omega))))) (EV.var fun _ z => z) (by omega)⟩) rfl) ?_
      have hkl : k + 1 < (dgs own h).length := by rw [dgs_len]; omega
      refine sq_app (v := pp (.int (dgs own h)[k + 1])) (fun _ z => z) T4.hp T4.len (EV.tup2 (EV.call4 (x := (Lf.table B (tbl N fun i => dg B h.length i (k + 1))).val) (EV.tup2 (EV.con _) (EV.var fun _ z => z)) (EV.var fun _ z => z) (EV.var fun _ z => z) (EV.var fun _ z => z) fun Q E q => hW _ (.int (B : Int)) own h (dgs own h)[k + 1] S6 Q E g (by rw [wT]; exact congrArg some (num_dig b1 o0 o1 hp (k + 1) hkl)) q) (EV.ixL (EV.var fun _ z => z) (EV.add (EV.con _) (EV.var fun _ z => z)) ?_)) ?_
      · rw [show (1 : Int) + (k : Int) = ((k + 1 : Nat) : Int) from by omega, at_nat (by rw [List.length_map]; exact hkl), List.getElem?_map, List.getElem?_eq_getElem hkl]
        rfl
      · exact fin _ _ _ (T4.add _ (by simp)) fun _ z => z
  · rintro x0 r ρ S' Kn hK ⟨rfl, j, c10, c11, e, hj, rfl⟩
    have hjm : j < 1 + h.length := by
      rcases Nat.lt_or_ge j (1 + h.length) with hh | hh
      · exact hh
      · rw [show 1 + h.length - j = 0 from by omega] at e
        cases e
    obtain ⟨k, ek⟩ : ∃ k, 1 + h.length - j = k + 1 := ⟨h.length - j, by omega⟩
    rw [ek] at e
    have e' : TL.upTo (j : Int) (k + 1) = .int (j : Int) :: TL.upTo ((j + 1 : Nat) : Int) (1 + h.length - (j + 1)) := by
      unfold TL.upTo
      rw [List.range_succ_eq_map, List.map_cons, List.map_map, show 1 + h.length - (j + 1) = k from by omega]
      refine congr (congrArg _ (by simp)) ?_
      refine List.map_congr_left fun i _ => ?_
      show Val.int ((j : Int) + ((i + 1 : Nat) : Int)) = Val.int (((j + 1 : Nat) : Int) + (i : Int))
      congr 1
      omega
    rw [e'] at e
    have ex : x0 = .int (j : Int) := (List.cons.inj e).1
    have er := (List.cons.inj e).2
    subst ex
    refine ⟨trivial, ?_⟩
    have en : ((h.length : Int)) - (j : Int) = ((h.length - j : Nat) : Int) := by omega
    refine sq_set (v := .int ((B ^ (h.length - j) : Nat) : Int)) (EV.call2 (x := .int (B : Int)) (y := .int ((h.length - j : Nat) : Int)) (EV.var fun _ z => z) (by rw [← en]; exact EV.sub (hlen fun _ z => z) (EV.var fun _ z => z)) fun Q E q => hP B _ S' Q E b2 (by omega) q) ?_
    refine sq_set (v := .lst ((tbl N fun i => sg B h.length i (j + 1)).map Val.int)) (evTbl (EV.var fun _ z => z) (by omega) fun i hi => ⟨_, rfl, ?_⟩) ?_
    · refine EV.add (i := sg B h.length (0 + (i : Int)) j) (j := dg B h.length (0 + (i : Int)) j) (EV.ixL (EV.var fun _ z => z) (EV.var fun _ z => z) (tbl_ix (f := fun i => sg B h.length i j) hi)) ?_
      exact EV.mod (EV.int (EV.fdiv (EV.var fun _ z => z) (EV.var fun _ z => z) (divw_small (hpw (h.length - j) (by omega)) (hpl (h.length - j) (by omega))))) (EV.var fun _ z => z) (show (0 : Int) < (B : Int) by omega)
    exact hK _ _ ⟨rfl, j + 1, _, _, er, hjm, rfl⟩
end K03

namespace K03
open PySem PySem.Spec L2 TL
open PyProof.Rows hiding St

/-! ### through "with" -/
def zh (h : Hr) : Hr := h.map fun p => (p.1, zl p.2)
def thr (B : Nat) (t : Tr) (h : Hr) : Wt := ⟨(B : Int), t, .lf .own, h.map fun p => (p.1, .lf (.heard p.1))⟩
theorem zh_fst (h : Hr) : (zh h).map (·.1) = h.map (·.1) := by
  unfold zh
  rw [List.map_map]
  rfl
theorem zl_zl (l : Int) : zl (zl l) = zl l := by
  have := zl_0 l
  show (if zl l > 0 then zl l else 0) = zl l
  split <;> omega
theorem zh_zh (h : Hr) : zh (zh h) = zh h := by
  unfold zh
  rw [List.map_map]
  refine List.map_congr_left fun p _ => ?_
  show (p.1, zl (zl p.2)) = (p.1, zl p.2)
  rw [zl_zl]
theorem GH.zh {h : Hr} (g : GH h) : GH (zh h) := ⟨fun p hp => by
  obtain ⟨q, _, rfl⟩ := List.mem_map.mp hp
  have := zl_0 q.2
  show -1 ≤ zl q.2
  omega, fun p hp => by
  obtain ⟨q, hq, rfl⟩ := List.mem_map.mp hp
  have := g.hi q hq
  show zl q.2 ≤ 1000
  unfold zl
  split <;> omega, by rw [zh_fst]; exact g.nd, by unfold K03.zh; rw [List.length_map]; exact g.len⟩
theorem Fit.zh {B : Nat} {ms : List Int} {own : Int} {h : Hr} (F : Fit B ms own h) : Fit B ms own (zh h) := ⟨F.g.zh, by rw [zh_fst]; exact F.ms, fun p hp => by
  obtain ⟨q, hq, rfl⟩ := List.mem_map.mp hp
  exact zl_lt F.b1 (F.lt q hq), F.o0, F.o1, F.b1, F.b2⟩
theorem find_nd : ∀ h : Hr, (h.map (·.1)).Nodup → ∀ p ∈ h, h.find? (fun q => decide (q.1 = p.1)) = some p
  | [], _, p, hp => nomatch hp
  | q :: h, nd, p, hp => by
    rw [List.map_cons, List.nodup_cons] at nd
    rcases List.mem_cons.mp hp with rfl | hp
    · rw [List.find?_cons_of_pos (by simp)]
    · have : ¬ q.1 = p.1 := fun e => nd.1 (by rw [e]; exact List.mem_map_of_mem hp)
      rw [List.find?_cons_of_neg (by simpa using this)]
      exact find_nd h nd.2 p hp
theorem heard_wv {own : Int} {h : Hr} (nd : (h.map (·.1)).Nodup) {p : Int × Int} (hp : p ∈ h) : (Tr.lf (.heard p.1)).wv own h = zl p.2 := by
  show (((h.find? (fun q => decide (q.1 = p.1))).map fun p => if 0 > p.2 then 0 else p.2).getD 0) = _
  rw [find_nd h nd p hp]
  exact zl_eq p.2
theorem thr_eq {B : Nat} {t : Tr} {h : Hr} {ms : List Int} {own : Int} (F : Fit B ms own h) : (thr B t h).wv own h = t.wv own (zh h) := by
  have e1 : (thr B t h).ms = h.map (·.1) := by
    show (h.map fun p => (p.1, Tr.lf (.heard p.1))).map (·.1) = _
    rw [List.map_map]
    rfl
  have e2 : (thr B t h).ls own h = h.map fun p => zl p.2 := by
    show (h.map fun p => (p.1, Tr.lf (.heard p.1))).map (fun q => q.2.wv own h % (B : Int)) = _
    rw [List.map_map]
    refine List.map_congr_left fun p hp => ?_
    show (Tr.lf (.heard p.1)).wv own h % (B : Int) = zl p.2
    rw [heard_wv F.g.nd hp, Int.emod_eq_of_lt (zl_0 _) (zl_lt F.b1 (F.lt p hp))]
  show t.wv (own % (B : Int)) ((thr B t h).ms.zip ((thr B t h).ls own h)) = _
  rw [e1, e2, Int.emod_eq_of_lt F.o0 F.o1, List.zip_map']
  rfl
theorem thr_zh (B : Nat) (t : Tr) (h : Hr) : thr B t (zh h) = thr B t h := by
  unfold thr zh
  rw [List.map_map]
  rfl
theorem thr_ok {B : Nat} {t : Tr} {h : Hr} {ms : List Int} {own : Int} (F : Fit B ms own h) (hl : h.length ≤ 8) (hk : t.lok B ms) (hs : t.steps.length ≤ 39) : Wok B ms (thr B t h) := by
  have e1 : (thr B t h).ms = ms := by
    rw [← F.ms]
    show (h.map fun p => (p.1, Tr.lf (.heard p.1))).map (·.1) = _
    rw [List.map_map]
    rfl
  have b1 := F.b1
  have b2 := F.b2
  refine ⟨by show (1 : Int) ≤ (B : Int); omega, by show (B : Int) ≤ 16; omega, by rw [e1, ← F.ms]; exact F.g.nd, by show (h.map _).length ≤ 8; rw [List.length_map]; exact hl, by rw [e1]; exact hk, hs, trivial, show (1 : Nat) ≤ 39 by decide, fun q hq => ?_⟩
  obtain ⟨p, hp, rfl⟩ := List.mem_map.mp hq
  refine ⟨?_, show (1 : Nat) ≤ 39 by decide⟩
  show p.1 ∈ ms
  rw [← F.ms]
  exact List.mem_map_of_mem hp
abbrev SpWw (Γ : Calls) : Prop := ∀ (B : Nat) (ms : List Int) (w : Wt) (lets : Val) (own : Int) (h : Hr) (S : Sto) (Q : VQ) (E : EQ), Fit B ms own h → Wok B ms w → Q (.int (w.wv own h)) S → Γ "worth" [w.val, lets, .int own, .set (hrV h)] S Q E
theorem ww_of {Γ : Calls} (hW : SpWorth Γ) : SpWw Γ := fun B ms w lets own h S Q E F K hq => by
  have h1 := K.sz
  have h2 := K.stl
  refine hW (.wt w) lets own h _ [(own, h)] S Q E F.g ?_ K.ok (show w.sz ≤ 10000 by omega) (show w.steps.length ≤ 900 by omega) (fun p => by intro z; cases z) hq
  have := runP_w F K []
  rw [List.append_nil] at this
  exact this
theorem sq_view {m1 m2 m3 : IE} {x1 x2 x3 : Val} {ρ : ISt} {D : IEnds} {Kx : IS} {S : Sto} {i : Nat} {ks : List Str} {kvs : List (Key × Val)} (h1 : EV m1 ρ S x1) (h2 : EV m2 ρ S x2) (h3 : EV m3 ρ S x3) (hk : ks.length = 3) (e : (ks.map Sum.inr).zip [x1, x2, x3] = kvs)
    (q : ∀ vw, S vw = none → Kx D (setS ρ i (.ref vw)) (S.put vw (.dict kvs))) : seqI (setI (.nm i) (dspI ks (foldA [m1, m2, m3]))) Kx D ρ S := h1 _ _ (h2 _ _ (h3 _ _ ⟨by rw [hk]; rfl, by rw [hk]; decide, fun vw hvw => by
  rw [e]
  exact q vw hvw⟩))
theorem pp_var {Γ : Calls} {a b vw : Addr} {e : IE} {ms : List Int} {n M : Nat} {ρ : ISt} {D : IEnds} {Kx : IS} {S : Sto} {i j k : Nat} (hPP : SpPP Γ) (hn : ∀ K : Val → Prop, K (.ref a) → getS ρ j K) (hn2 : ∀ K : Val → Prop, K (.ref vw) → getS ρ k K) (he : DV a b e ρ fun v => ∃ k, v = .int k ∧ 1 ≤ k ∧ k ≤ 20) (hd : Deal a b S) (hl : ms.length ≤ 8) (hB : n ≤ 16) (hM : M ≤ 1000) (hv : S vw = some (.dict (viewK ms n M))) (w1 : vw ≠ a) (w2 : vw ≠ b)
    (q : ∀ t S', t.lok n ms → t.steps.length ≤ 39 → Deal a b S' → Fr a b S S' → Kx D (setS ρ i (prog t)) S') : seqI (setI (.nm i) (callF Γ "_law_plain_program" (consA (varI j) (consA (varI k) (consA e nilA))))) Kx D ρ S := hn _ (hn2 _ (he _ _ _ hd fun v S1 hv1 d1 f1 => by
  obtain ⟨k, rfl, k0, k1⟩ := hv1
  exact hPP a b vw ms n M k S1 _ _ d1 hl hB hM ((f1.eq vw w1 w2).trans hv) k0 k1 fun t S2 hk hlen d2 f2 => q t S2 hk hlen d2 (f1.trans f2)))
abbrev SpThrough (Γ : Calls) : Prop := ∀ (a b : Addr) (B : Nat) (own : Int) (h : Hr) (S : Sto) (Q : VQ) (E : EQ), Deal a b S → GH h → h.length ≤ 8 → 1 ≤ B → B ≤ 16 → 0 ≤ own → own < (B : Int) → (∀ p ∈ h, p.2 < (B : Int)) → (∀ (vs : List Int) S', vs.length ≤ 10 → Deal a b S' → Fr a b S S' → Q (.lst (vs.map fun i => pp (.int i))) S') → Γ "_law_through" [.ref a, .int (B : Int), .int own, .set (hrV h)] S Q E
theorem through_ok (d : Nat) : SpThrough (Cl (d + 7)) := by
  intro a b B own h S Q E hd g hl b1 b2 o0 o1 hp hq
  refine callI_of lk__law_through rfl ?_
  have hA : GAny (Cl (d + 6)) := any_ok (d + 5)
  have hPP := pp_ok (d + 2)
  have hT := tree_ok (d + 5)
  have hP := pw_ok (d + 1)
  have hW := wv_of (worth_ok d)
  have hWw := ww_of (worth_ok d)
  show m__law_through (Cl (d + 6)) (endsI true S Q E) [some (.ref a), some (.int (B : Int)), some (.int own), some (.set (hrV h)), none, none, none, none, none, none, none] S
  unfold m__law_through
  generalize Cl (d + 6) = Γ at hA hPP hT hP hW hWw ⊢
  have F : Fit B (h.map (·.1)) own h := ⟨g, rfl, hp, o0, o1, b1, b2⟩
  have hrow : EV (callP tupleP (consA (lcI false (walkI (varI 3)) (.tp [9, 10]) yesT (varI 9) [9, 10]) nilA)) [some (.ref a), some (.int (B : Int)), some (.int own), some (.set (hrV h)), none, none, none, none, none, none, none] S (tiV (h.map (·.1))) := by
    have := EV.lc (ρ := [some (.ref a), some (.int (B : Int)), some (.int own), some (.set (hrV h)), none, none, none, none, none, none, none]) (S := S) prV h (fun p => Val.int p.1) (it := walkI (varI 3)) (tg := .tp [9, 10]) (te := varI 9) (own := [9, 10]) (walkX (EV.var fun _ z => z) (.inl rfl)) trivial (by rw [sizeLine_eq]; omega) fun p hp => ⟨_, rfl, EV.var fun _ z => z⟩
    refine EV.tuple (xs := (h.map (·.1)).map Val.int) (v := .lst ((h.map (·.1)).map Val.int)) ?_ rfl
    rw [List.map_map]
    exact this
  refine sq_view (kvs := viewK (h.map (·.1)) B 256) hrow (EV.var fun _ z => z) (EV.con _) rfl rfl fun vw hvw => ?_
  obtain ⟨w1, w2⟩ := hd.off hvw
  have d1 : Deal a b (S.put vw (.dict (viewK (h.map (·.1)) B 256))) := hd.put w1 w2
  have hv1 : (S.put vw (.dict (viewK (h.map (·.1)) B 256))) vw = some (.dict (viewK (h.map (·.1)) B 256)) := put_same
  have fr1 : ∀ c, S c ≠ none → c ≠ a → c ≠ b → (S.put vw (.dict (viewK (h.map (·.1)) B 256))) c = S c := fun c hc _ _ => put_ne fun z => hc (by rw [z]; exact hvw)
  generalize S.put vw (.dict (viewK (h.map (·.1)) B 256)) = S1 at d1 hv1 fr1 ⊢
  refine pp_var (M := 256) hPP (fun _ z => z) (fun _ z => z) ((one_any hA (fun _ z => z) (by decide) (by decide)).imp ?_) d1 (by rw [List.length_map]; exact hl) b2 (by decide) hv1 w1 w2 fun t S2 hk hs d2 f2 => ?_
  · rintro v ⟨i, rfl, i0, i1⟩
    exact ⟨i, rfl, i0, by omega⟩
  have hwv := (worth_wv F.zh t hk (by have := t.nl_le; omega)).1
  have K := thr_ok (own := own) F hl hk hs
  have K2 : Wok B (h.map (·.1)) (thr B t h) := K
  have e1 := thr_eq (t := t) F
  have e2 : (thr B t h).wv own (zh h) = t.wv own (zh h) := by
    have := thr_eq (t := t) F.zh
    rw [thr_zh, zh_zh] at this
    exact this
  have hlc : ∀ (v4 v5 : Option Val), EV (callP tupleKP (consA (lcI false (walkI (varI 3)) (.tp [9, 10]) yesT (tupI (consA (varI 9) (consA (callP maxP (consA (conI (.int 0)) (consA (varI 10) nilA))) nilA))) [9, 10]) nilA)) [some (.ref a), some (.int (B : Int)), some (.int own), some (.set (hrV h)), v4, v5, none, none, none, none, none] S2 (.set (hrV (zh h))) := fun v4 v5 => by
    have := EV.lc (ρ := [some (.ref a), some (.int (B : Int)), some (.int own), some (.set (hrV h)), v4, v5, none, none, none, none, none]) (S := S2) prV h (fun p => prV (p.1, zl p.2)) (it := walkI (varI 3)) (tg := .tp [9, 10]) (te := tupI (consA (varI 9) (consA (callP maxP (consA (conI (.int 0)) (consA (varI 10) nilA))) nilA))) (own := [9, 10]) (walkX (EV.var fun _ z => z) (.inl rfl)) trivial (by rw [sizeLine_eq]; omega) fun p hp => ⟨_, rfl, EV.tup2 (EV.var fun _ z => z) (EV.max2 (EV.con _) (EV.var fun _ z => z))⟩
    have e : hrV (zh h) = h.map fun p => prV (p.1, zl p.2) := by
      unfold hrV zh
      rw [List.map_map]
      rfl
    rw [e]
    exact fun Q E q => this _ E q
  refine sq_set (hlc _ _) ?_
  clear hlc
  have hthr : ∀ (v4 v5 v6 : Option Val), EV (callP tupleP (consA (lcI false (walkI (varI 3)) (.tp [9, 10]) yesT (tupI (consA (varI 9) (consA (tupI (consA (conI (.str "heard")) (consA (varI 9) nilA))) nilA))) [9, 10]) nilA)) [some (.ref a), some (.int (B : Int)), some (.int own), some (.set (hrV h)), v4, v5, v6, none, none, none, none] S2 (.tup (h.map fun p => .tup [.int p.1, (Tr.lf (.heard p.1)).val])) := fun v4 v5 v6 => by
    have := EV.lc (ρ := [some (.ref a), some (.int (B : Int)), some (.int own), some (.set (hrV h)), v4, v5, v6, none, none, none, none]) (S := S2) prV h (fun p => .tup [.int p.1, (Tr.lf (.heard p.1)).val]) (it := walkI (varI 3)) (tg := .tp [9, 10]) (te := tupI (consA (varI 9) (consA (tupI (consA (conI (.str "heard")) (consA (varI 9) nilA))) nilA))) (own := [9, 10]) (walkX (EV.var fun _ z => z) (.inl rfl)) trivial (by rw [sizeLine_eq]; omega) fun p hp => ⟨_, rfl, EV.tup2 (EV.var fun _ z => z) (EV.tup2 (EV.con _) (EV.var fun _ z => z))⟩
    exact EV.tuple this rfl
  have ev : (thr B t h).val = .tup [.str "with", .int (B : Int), t.val, .tup [.str "own"], .tup (h.map fun p => .tup [.int p.1, (Tr.lf (.heard p.1)).val])] := by
    show Val.tup [.str "with", .int (B : Int), t.val, .tup [.str "own"], .tup ((h.map fun p => (p.1, Tr.lf (.heard p.1))).map fun p => .tup [.int p.1, p.2.val])] = _
    rw [List.map_map]
    rfl
  refine sq_set (v := (thr B t h).val) (fun Q E q => ?_) ?_
  · rw [ev] at q
    refine hT t S2 _ _ (by omega) ⟨show 1 ≤ sizeLine by decide, hthr _ _ _ _ E ⟨show 5 ≤ sizeLine by decide, q⟩⟩
  refine sq_set (v := .int (t.wv own (zh h))) (EV.call3 (EV.var fun _ z => z) (EV.var fun _ z => z) (EV.var fun _ z => z) fun Q E q => hP t.steps own (zh h) _ _ S2 Q E (.inl rfl) g.zh (run_top hwv) (by omega) q) ?_
  refine sq_ret (v := .lst ([t.wv own (zh h), t.wv own (zh h), t.wv own (zh h)].map fun i => pp (.int i))) (EV.lst3 (EV.tup2 (EV.call4 (x := t.val) (EV.call1 (EV.var fun _ z => z) fun Q E q => hT t S2 Q E (by omega) q) (EV.var fun _ z => z) (EV.var fun _ z => z) (EV.var fun _ z => z) fun Q E q => hW B _ t (.int (B : Int)) own (zh h) S2 Q E F.zh hk (by omega) q) (EV.var fun _ z => z)) (EV.tup2 (EV.call4 (EV.var fun _ z => z) (EV.var fun _ z => z) (EV.var fun _ z => z) (EV.var fun _ z => z) fun Q E q => hWw B _ (thr B t h) (.int (B : Int)) own (zh h) S2 Q E F.zh K (by rw [e2]; exact q)) (EV.var fun _ z => z)) (EV.tup2 (EV.call4 (EV.var fun _ z => z) (EV.var fun _ z => z) (EV.var fun _ z => z) (EV.var fun _ z => z) fun Q E q => hWw B _ (thr B t h) (.int (B : Int)) own h S2 Q E F K (by rw [e1]; exact q)) (EV.var fun _ z => z))) ?_
  have hg := Deal.gc hd d2 fun c hc c1 c2 => (f2.eq c c1 c2).trans (fr1 c hc c1 c2)
  exact hq _ _ (show 3 ≤ 10 by decide) hg.1 hg.2
end K03

namespace K03
open PySem PySem.Spec L2 TL
open PyProof.Rows hiding St

/-! ### "with", and three times it -/
def exS (k : Bool) : List LStp := if k then [.pl (.lf (.num 3)), .pl (.bi .times)] else []
def tvx (k : Bool) (w : Wt) : Val := if k then .tup [.str "times", w.val, nm3.val] else w.val
def wvx (k : Bool) (w : Wt) (own : Int) (h : Hr) : Int := if k then w.wv own h * 3 else w.wv own h
section
variable {B : Nat} {ms : List Int} {own : Int} {h : Hr} {w : Wt}
theorem wv_lt (F : Fit B ms own h) (K : Wok B ms w) : CMulW (w.wv own h) 3 := by
  have hf := Wt.fit (own := own) (h := h) K
  have h1 := w.inner.nl_le
  have h2 := K.il
  have h3 := (worth_wv hf w.inner K.i (by omega)).2
  exact cmul_of (m := w.inner.nl) (n := 1) w.inner.nl_pos (Nat.le_refl 1) (by omega) h3 (by show 3 < 2 ^ (21 * 1); decide)
theorem runL_x (F : Fit B ms own h) (K : Wok B ms w) (k : Bool) : runL own h (w.lp ++ exS k) [] = some [wvx k w own h] := by
  rw [runL_w F K]
  cases k with
  | false => rfl
  | true =>
    show ((if CMulW (w.wv own h) 3 then some (w.wv own h * 3) else none).map (· :: [])).bind (runL own h []) = _
    rw [if_pos (wv_lt F K)]
    rfl
theorem runV_x (K : Wok B ms w) (k : Bool) : runV (w.lp ++ exS k) [] = some [tvx k w] := by
  rw [runV_w K.l]
  cases k <;> rfl
theorem mem_x {w : Wt} {k : Bool} {n : Int} {t : Tr} {ms' : List Int} (hm : LStp.wth n t ms' ∈ w.lp ++ exS k) : t = w.inner := by
  rcases List.mem_append.mp hm with hm | hm
  · unfold Wt.lp at hm
    rcases List.mem_append.mp hm with hm | hm
    · obtain ⟨x, _, e⟩ := List.mem_map.mp hm
      cases e
    · rcases List.mem_append.mp hm with hm | hm
      · obtain ⟨q, _, hm⟩ := List.mem_flatMap.mp hm
        obtain ⟨x, _, e⟩ := List.mem_map.mp hm
        cases e
      · cases List.mem_singleton.mp hm
        rfl
  · cases k with
    | false => cases hm
    | true =>
      simp [exS] at hm
abbrev SpWx (Γ : Calls) : Prop := ∀ (B : Nat) (ms : List Int) (w : Wt) (k : Bool) (lets : Val) (own : Int) (h : Hr) (S : Sto) (Q : VQ) (E : EQ), Fit B ms own h → Wok B ms w → Q (.int (wvx k w own h)) S → Γ "worth" [tvx k w, lets, .int own, .set (hrV h)] S Q E
theorem wx_of {Γ : Calls} (hW : SpWorth Γ) : SpWx Γ := fun B ms w k lets own h S Q E F K hq => by
  cases k with
  | false => exact ww_of hW B ms w lets own h S Q E F K hq
  | true =>
    have h1 := K.sz
    have h2 := K.stl
    refine hW (.wx w) lets own h _ [(own, h)] S Q E F.g ?_ K.ok (show w.sz + 3 ≤ 10000 by omega) (show (w.steps ++ [PStp.pl (.lf (.num 3)), PStp.pl (.bi .times)]).length ≤ 900 by rw [List.length_append]; show w.steps.length + 2 ≤ 900; omega) (fun p => by intro z; cases z) hq
    show runP (w.steps ++ [.pl (.lf (.num 3)), .pl (.bi .times)]) [] [(own, h)] = _
    rw [runP_w F K]
    show (((if CMulW (w.wv own h) 3 then some (w.wv own h * 3) else none).map (· :: [])).map fun st' => (st', [(own, h)])).bind (fun q => runP [] q.1 q.2) = _
    rw [if_pos (wv_lt F K)]
    rfl
end
abbrev SpTx (Γ : Calls) : Prop := ∀ (B : Nat) (ms : List Int) (w : Wt) (k : Bool) (S : Sto) (Q : VQ) (E : EQ), Wok B ms w → Q (tvx k w) S → Γ "_law_tree" [.lst ((w.lp ++ exS k).map LStp.val)] S Q E
theorem xl {B : Nat} {ms : List Int} {w : Wt} (K : Wok B ms w) (k : Bool) : (w.lp ++ exS k).length ≤ 900 := by
  have := K.lpl
  rw [List.length_append]
  have : (exS k).length ≤ 2 := by cases k <;> decide
  omega
theorem tx_of {Γ : Calls} (hT : SpTreeW Γ) : SpTx Γ := fun B ms w k S Q E K hq => hT _ _ S Q E (fun n t ms' hm => by
  rw [mem_x hm]
  have := K.il
  omega) (runV_x K k) (xl K k) hq
abbrev SpLx (Γ : Calls) : Prop := ∀ (B : Nat) (ms : List Int) (w : Wt) (k : Bool) (own : Int) (h : Hr) (S : Sto) (Q : VQ) (E : EQ), Fit B ms own h → Wok B ms w → Q (.int (wvx k w own h)) S → Γ "_law_worth" [.lst ((w.lp ++ exS k).map LStp.val), .int own, .set (hrV h)] S Q E
theorem lx_of {Γ : Calls} (hL : SpLW Γ) : SpLx Γ := fun B ms w k own h S Q E F K hq => hL _ own h _ S Q E F.g (runL_x F K k) (xl K k) hq
/-! ### the turn's steps -/
section
variable {a b r : Addr} {e e1 e2 m1 m2 m3 : IE} {ρ : ISt} {D : IEnds} {Kx : IS} {S : Sto} {i j : Nat} {xs : List Val} {P : Val → Prop}
theorem dq_tp {tg : Tg} (h : DV a b e ρ P) (hd : Deal a b S) (q : ∀ v S', P v → Deal a b S' → Fr a b S S' → ∃ ρ1, tgI tg v ρ = some ρ1 ∧ Kx D ρ1 S') : seqI (setI tg e) Kx D ρ S := h S _ _ hd fun v S' hv hd1 f1 => by
  obtain ⟨ρ1, e, q⟩ := q v S' hv hd1 f1
  show someP (tgI tg v ρ) fun ρ1 => Kx D ρ1 S'
  rw [e]
  exact q
theorem seq_add2 {R1 R2 R : List Val → Prop} (hn : ∀ K : Val → Prop, K (.ref r) → getS ρ j K) (hr : S r = some (.lst xs)) (ra : r ≠ a) (rb : r ≠ b)
    (h1 : DV a b e1 ρ fun v => ∃ ys, v = .lst ys ∧ ys.length ≤ 100 ∧ R1 ys) (h2 : DV a b e2 ρ fun v => ∃ ys, v = .lst ys ∧ ys.length ≤ 100 ∧ R2 ys) (hlen : xs.length ≤ 10000)
    (hP : ∀ y1 y2, R1 y1 → R2 y2 → R (xs ++ y1 ++ y2)) (hd : Deal a b S)
    (q : ∀ u S' l, R u → Deal a b S' → S' l = none → Kx D (setS ρ i (.ref l)) (S'.put l (.lst u))) : seqI (setI (.nm i) (bin2 (addP true) (bin2 (addP false) (varI j) e1) e2)) Kx D ρ S := hn _ (h1 S _ _ hd fun v1 S1 p1 d1 f1 => by
  have hz : sizeLine = 16777216 := sizeLine_eq
  obtain ⟨y1, rfl, l1, r1⟩ := p1
  refine addR_of ((f1.eq r ra rb).trans hr) (by omega) (h2 S1 _ _ d1 fun v2 S2 p2 d2 f2 => ?_)
  obtain ⟨y2, rfl, l2, r2⟩ := p2
  refine ⟨by rw [List.length_append]; omega, fun l hl => ?_⟩
  exact q _ S2 l (hP y1 y2 r1 r2) d2 hl)
theorem sq_parview {x1 x2 x3 : Val} {ks : List Str} {kvs : List (Key × Val)} (he : DV a b e ρ P) (hd : Deal a b S) (h1 : ∀ S, EV m1 ρ S x1) (h2 : ∀ S, EV m2 ρ S x2) (h3 : ∀ S, EV m3 ρ S x3) (hk : ks.length = 3) (ek : (ks.map Sum.inr).zip [x1, x2, x3] = kvs)
    (q : ∀ v S1 vw, P v → Deal a b S1 → Fr a b S S1 → S1 vw = none → ∃ ρ1, setAll ρ [i, j] [v, .ref vw] = some ρ1 ∧ Kx D ρ1 (S1.put vw (.dict kvs))) : seqI (parI [i, j] (consA e (consA (dspI ks (foldA [m1, m2, m3])) nilA))) Kx D ρ S := he S _ _ hd fun v S1 hv d1 f1 => h1 S1 _ _ (h2 S1 _ _ (h3 S1 _ _ ⟨by rw [hk]; rfl, by rw [hk]; decide, fun vw hvw => by
  rw [ek]
  obtain ⟨ρ1, e, q⟩ := q v S1 vw hv d1 f1 hvw
  show someP (setAll ρ [i, j] [v, .ref vw]) fun ρ1 => Kx D ρ1 _
  rw [e]
  exact q⟩))
end
end K03

namespace K03
open PySem PySem.Spec L2 TL
open PyProof.Rows hiding St

structure LP (a b p : Addr) (vs : List Int) (S : Sto) : Prop where
  d : Deal a b S
  hp : S p = some (.lst (vs.map fun i => pp (.int i)))
  pa : p ≠ a
  pb : p ≠ b
theorem LP.draw {a b p : Addr} {vs : List Int} {S S' : Sto} (L : LP a b p vs S) (d : Deal a b S') (f : Fr a b S S') : LP a b p vs S' := ⟨d, (f.eq p L.pa L.pb).trans L.hp, L.pa, L.pb⟩
theorem LP.add {a b p : Addr} {vs : List Int} {S : Sto} (L : LP a b p vs S) (i : Int) : LP a b p (vs ++ [i]) (S.put p (.lst ((vs.map fun i => pp (.int i)) ++ [pp (.int i)]))) := ⟨L.d.put L.pa L.pb, by rw [put_same]; simp, L.pa, L.pb⟩
section
variable {Γ : Calls} {a b p : Addr} {h : Hr} {own : Int} {vs : List Int} {S : Sto} {Kx : IS} {D : IEnds} {v0 v2 v3 v4 v5 v6 v7 v8 v9 v10 v11 v12 : Option Val}
theorem blk1 {B : Nat} (hTa : SpTables Γ) (hTh : SpThrough Γ) (g : GH h) (hl : h.length ≤ 8) (b1 : 1 ≤ B) (b2 : B ≤ 16) (o0 : 0 ≤ own) (o1 : own < (B : Int)) (hp : ∀ p ∈ h, p.2 < (B : Int)) (hN : B ^ (1 + h.length) ≤ 256) (L : LP a b p vs S) (hvl : vs.length ≤ 1000)
    (q : ∀ (p' : Addr) (vs' : List Int) (S' : Sto), LP a b p' vs' S' → vs'.length ≤ vs.length + 20 → Kx D [v0, some (.ref a), some (.ref p'), v3, some (.int (B : Int)), v5, some (.int own), some (.set (hrV h)), v8, v9, v10, v11, v12] S') :
    seqI (setI (.nm 2) (bin2 (addP true) (bin2 (addP false) (varI 2) (callF Γ "_law_tables" (consA (varI 1) (consA (varI 4) (consA (varI 6) (consA (varI 7) nilA)))))) (callF Γ "_law_through" (consA (varI 1) (consA (varI 4) (consA (varI 6) (consA (varI 7) nilA))))))) Kx D [v0, some (.ref a), some (.ref p), v3, some (.int (B : Int)), v5, some (.int own), some (.set (hrV h)), v8, v9, v10, v11, v12] S := by
  have hof : ∀ (f : Str), (∀ (S : Sto) (Q : VQ) (E : EQ), Deal a b S → (∀ (ws : List Int) (S' : Sto), ws.length ≤ 10 → Deal a b S' → Fr a b S S' → Q (.lst (ws.map fun i => pp (.int i))) S') → Γ f [.ref a, .int (B : Int), .int own, .set (hrV h)] S Q E) →
      DV a b (callF Γ f (consA (varI 1) (consA (varI 4) (consA (varI 6) (consA (varI 7) nilA))))) [v0, some (.ref a), some (.ref p), v3, some (.int (B : Int)), v5, some (.int own), some (.set (hrV h)), v8, v9, v10, v11, v12] (fun v => ∃ ys, v = .lst ys ∧ ys.length ≤ 100 ∧ ∃ ws : List Int, ys = (ws.map fun i => pp (.int i)) ∧ ws.length ≤ 10) := fun f hf => DV.call (DA.var (fun _ z => z) (DA.var (fun _ z => z) (DA.var (fun _ z => z) (DA.var (fun _ z => z) (DA.nil fun S Q E hd q => hf S Q E hd fun ws S' hl hd' f => q _ S' ⟨_, rfl, by rw [List.length_map]; omega, ws, rfl, hl⟩ hd' f)))))
  refine seq_add2 (R := fun u => ∃ ws : List Int, u = (ws.map fun i => pp (.int i)) ∧ ws.length ≤ vs.length + 20) (fun _ z => z) L.hp L.pa L.pb (hof "_law_tables" fun S Q E hd q => hTa a b B own h S Q E hd g b1 b2 o0 o1 hp hN q) (hof "_law_through" fun S Q E hd q => hTh a b B own h S Q E hd g hl b1 b2 o0 o1 hp q) (by rw [List.length_map]; omega) ?_ L.d fun u S' p' hu hd' hn => ?_
  · rintro y1 y2 ⟨w1, rfl, l1⟩ ⟨w2, rfl, l2⟩
    exact ⟨vs ++ w1 ++ w2, by simp, by simp only [List.length_append]; omega⟩
  · obtain ⟨ws, rfl, hl⟩ := hu
    obtain ⟨p1, p2⟩ := hd'.off hn
    exact q p' ws _ ⟨hd'.put p1 p2, put_same, p1, p2⟩ hl
theorem blk2 {ms : List Int} {vw : Addr} (hWp : SpWp Γ) (hTx : SpTx Γ) (hWx : SpWx Γ) (hLx : SpLx Γ) (F : Fit 4 ms own h) (hl : ms.length ≤ 8) (L : LP a b p vs S) (hvl : vs.length ≤ 1000) (hvw : S vw = some (.dict (viewK ms 4 64))) (va : vw ≠ a) (vb : vw ≠ b)
    (q : ∀ (vs' : List Int) (S' : Sto) (v9 v10 v11 v12 : Option Val), LP a b p vs' S' → vs'.length = vs.length + 3 → Kx D [v0, some (.ref a), some (.ref p), v3, v4, v5, some (.int own), some (.set (hrV h)), some (.ref vw), v9, v10, v11, v12] S') :
    seqI (forI (rng1I (conI (.int 3))) (.nm 9) (seqI (setI (.nm 10) (callF Γ "_law_with_program" (consA (varI 1) (consA (varI 8) nilA)))) (seqI (setI (.nm 10) (bin2 (addP false) (varI 10) (ifE (tstB (bin2 eqP (varI 9) (conI (.int 0)))) (lstI false (consA (tupI (consA (conI (.str "number")) (consA (conI (.int 3)) nilA))) (consA (tupI (consA (conI (.str "times")) nilA)) nilA))) (lstI false nilA)))) (seqI (dropI (lmethI appendP (varI 2) (consA (tupI (consA (callF Γ "worth" (consA (callF Γ "_law_tree" (consA (varI 10) nilA)) (consA (conI (.int 4)) (consA (varI 6) (consA (varI 7) nilA))))) (consA (callF Γ "_law_worth" (consA (varI 10) (consA (varI 6) (consA (varI 7) nilA)))) nilA))) nilA))) nextI)))) Kx D [v0, some (.ref a), some (.ref p), v3, v4, v5, some (.int own), some (.set (hrV h)), some (.ref vw), v9, v10, v11, v12] S := by
  have hpv : vw ≠ p := fun z => by
    rw [z, L.hp] at hvw
    cases hvw
  refine sq_for (xs := ([0, 1, 2] : List Int).map Val.int) (rng1 (EV.con (.int 3)) (by decide) (by decide)) ?_
  refine forGo_ind (fun rr ρ S' => ∃ (us : List Int) (vs' : List Int) (v9 v10 v11 v12 : Option Val), rr = us.map Val.int ∧ ρ = [v0, some (.ref a), some (.ref p), v3, v4, v5, some (.int own), some (.set (hrV h)), some (.ref vw), v9, v10, v11, v12] ∧ LP a b p vs' S' ∧ S' vw = some (.dict (viewK ms 4 64)) ∧ vs'.length + us.length = vs.length + 3) ?_ ?_ _ _ _ ⟨[0, 1, 2], vs, v9, v10, v11, v12, rfl, rfl, L, hvw, rfl⟩
  · rintro ρ S' ⟨us, vs', v9, v10, v11, v12, e, rfl, L', hv', hl⟩
    have : us = [] := List.map_eq_nil_iff.mp e.symm
    subst this
    exact ⟨trivial, q vs' S' v9 v10 v11 v12 L' hl⟩
  · rintro x rr ρ S' Kn hK ⟨us, vs', v9, v10, v11, v12, e, rfl, L', hv', hl'⟩
    cases us with
    | nil => cases e
    | cons u us =>
      have e1 : x = .int u := (List.cons.inj e).1
      have e2 : rr = us.map Val.int := (List.cons.inj e).2
      subst e1
      rw [List.length_cons] at hl'
      refine ⟨trivial, ?_⟩
      refine hWp a b vw ms 4 64 S' _ _ L'.d hl (by decide) (by decide) hv' fun w S2 K d2 f2 => ?_
      have L2 := L'.draw d2 f2
      have hv2 := (f2.eq vw va vb).trans hv'
      have hll := K.lpl
      have hex : EV (ifE (tstB (bin2 eqP (varI 9) (conI (.int 0)))) (lstI false (consA (tupI (consA (conI (.str "number")) (consA (conI (.int 3)) nilA))) (consA (tupI (consA (conI (.str "times")) nilA)) nilA))) (lstI false nilA)) [v0, some (.ref a), some (.ref p), v3, v4, v5, some (.int own), some (.set (hrV h)), some (.ref vw), some (.int u), some (.lst (w.lp.map LStp.val)), v11, v12] S2 (.lst ((exS (decide (u = 0))).map LStp.val)) := by
        refine EV.ife (k := decide (u = 0)) (TT.eqI (EV.var fun _ z => z) (EV.con _) rfl) ?_
        cases decide (u = 0) with
        | false => exact EV.lst0
        | true => exact fun Q E q => ⟨show 2 ≤ sizeLine by decide, show 1 ≤ sizeLine by decide, show 2 ≤ sizeLine by decide, q⟩
      generalize decide (u = 0) = k at hex ⊢
      refine sq_set (v := .lst ((w.lp ++ exS k).map LStp.val)) (by
        rw [List.map_append]
        exact EV.addL (EV.var (n := 10) fun _ z => z) hex (by
          have hx : (exS k).length ≤ 2 := by cases k <;> decide
          rw [List.length_map, List.length_map, sizeLine_eq]
          omega)) ?_
      refine sq_app (v := pp (.int (wvx k w own h))) (fun _ z => z) L2.hp (by rw [List.length_map, sizeLine_eq]; omega) (EV.tup2 (EV.call4 (EV.call1 (EV.var fun _ z => z) fun Q E q => hTx 4 ms w k S2 Q E K q) (EV.con _) (EV.var fun _ z => z) (EV.var fun _ z => z) fun Q E q => hWx 4 ms w k (.int 4) own h S2 Q E F K q) (EV.call3 (EV.var fun _ z => z) (EV.var fun _ z => z) (EV.var fun _ z => z) fun Q E q => hLx 4 ms w k own h S2 Q E F K q)) ?_
      exact hK _ _ ⟨us, _, _, _, _, _, e2, rfl, L2.add _, by rw [put_ne hpv]; exact hv2, by rw [List.length_append, List.length_singleton]; omega⟩
end
theorem turn {Γ : Calls} {a b p : Addr} {vs : List Int} {S : Sto} {D : IEnds} {v0 v3 v4 v5 v6 v7 v8 v9 v10 v11 v12 : Option Val}
    (hA : GAny Γ) (hS : SpShape Γ) (hH : SpHear Γ) (hTa : SpTables Γ) (hTh : SpThrough Γ) (hWp : SpWp Γ) (hTx : SpTx Γ) (hWx : SpWx Γ) (hLx : SpLx Γ) (L : LP a b p vs S) (hvl : vs.length ≤ 900)
    (hK : ∀ (p' : Addr) (vs' : List Int) (S' : Sto) (v4 v5 v6 v7 v8 v9 v10 v11 v12 : Option Val), LP a b p' vs' S' → vs'.length ≤ vs.length + 23 → D.nx [v0, some (.ref a), some (.ref p'), v3, v4, v5, v6, v7, v8, v9, v10, v11, v12] S') :
    (seqI (setI (.tp [4, 5]) (callF Γ "_law_shape" (consA (varI 1) nilA))) (seqI (parI [6, 7] (consA (callF Γ "_law_any" (consA (varI 1) (consA (varI 4) nilA))) (consA (callF Γ "_law_hearing" (consA (varI 1) (consA (varI 5) (consA (varI 4) nilA)))) nilA))) (seqI (setI (.nm 2) (bin2 (addP true) (bin2 (addP false) (varI 2) (callF Γ "_law_tables" (consA (varI 1) (consA (varI 4) (consA (varI 6) (consA (varI 7) nilA)))))) (callF Γ "_law_through" (consA (varI 1) (consA (varI 4) (consA (varI 6) (consA (varI 7) nilA))))))) (seqI (setI (.nm 7) (callF Γ "_law_hearing" (consA (varI 1) (consA (callF Γ "_law_any" (consA (varI 1) (consA (conI (.int 4)) nilA))) (consA (conI (.int 4)) nilA))))) (seqI (parI [6, 8] (consA (callF Γ "_law_any" (consA (varI 1) (consA (conI (.int 4)) nilA))) (consA (dspI ["hears", "base", "most"] (foldA [(callP tupleP (consA (lcI false (walkI (varI 7)) (.tp [11, 12]) yesT (varI 11) [11, 12]) nilA)), (conI (.int 4)), (conI (.int 64))])) nilA))) (seqI (forI (rng1I (conI (.int 3))) (.nm 9) (seqI (setI (.nm 10) (callF Γ "_law_with_program" (consA (varI 1) (consA (varI 8) nilA)))) (seqI (setI (.nm 10) (bin2 (addP false) (varI 10) (ifE (tstB (bin2 eqP (varI 9) (conI (.int 0)))) (lstI false (consA (tupI (consA (conI (.str "number")) (consA (conI (.int 3)) nilA))) (consA (tupI (consA (conI (.str "times")) nilA)) nilA))) (lstI false nilA)))) (seqI (dropI (lmethI appendP (varI 2) (consA (tupI (consA (callF Γ "worth" (consA (callF Γ "_law_tree" (consA (varI 10) nilA)) (consA (conI (.int 4)) (consA (varI 6) (consA (varI 7) nilA))))) (consA (callF Γ "_law_worth" (consA (varI 10) (consA (varI 6) (consA (varI 7) nilA)))) nilA))) nilA))) nextI)))) nextI)))))) D [v0, some (.ref a), some (.ref p), v3, v4, v5, v6, v7, v8, v9, v10, v11, v12] S := by
  refine dq_tp (P := fun v => ∃ B m : Nat, v = .tup [.int (B : Int), .int (m : Int)] ∧ 1 ≤ B ∧ B ≤ 16 ∧ m ≤ 8 ∧ B ^ (1 + m) ≤ 256) (DV.call (DA.var (fun _ z => z) (DA.nil fun S Q E hd q => hS a b S Q E hd fun B m S' h1 h2 h3 h4 hd' f => q _ S' ⟨B, m, rfl, h1, h2, h3, h4⟩ hd' f))) L.d fun v S1 hv d1 f1 => ?_
  obtain ⟨B, m, rfl, b1, b2, hm, hN⟩ := hv
  have L1 := L.draw d1 f1
  refine ⟨_, rfl, ?_⟩
  refine dq_par (R := fun ws => ∃ (own : Int) (h : Hr), ws = [.int own, .set (hrV h)] ∧ 0 ≤ own ∧ own < (B : Int) ∧ GH h ∧ h.length ≤ m ∧ ∀ p ∈ h, p.2 < (B : Int)) ?_ L1.d fun ws S2 hv d2 f2 => ?_
  · refine DA.cons (P1 := fun v => ∃ own : Int, v = .int own ∧ 0 ≤ own ∧ own < (B : Int)) (DV.anyD hA (fun _ z => z) (DV.var (w := .int (B : Int)) (fun _ z => z) ⟨_, rfl, by omega, by omega, fun i i0 i1 => ⟨i, rfl, i0, i1⟩⟩)) fun v1 h1 => ?_
    refine DA.one ((DV.call (P := fun v => ∃ h, v = .set (hrV h) ∧ GH h ∧ h.length ≤ m ∧ ∀ p ∈ h, p.2 < (B : Int)) (DA.var (fun _ z => z) (DA.var (fun _ z => z) (DA.var (fun _ z => z) (DA.nil fun S Q E hd q => hH a b m (B : Int) S Q E hd hm (by omega) (by omega) fun h S' g hl hlt hd' f => q _ S' ⟨h, rfl, g, hl, hlt⟩ hd' f))))).imp ?_)
    rintro v2 ⟨h, rfl, g, hl, hlt⟩
    obtain ⟨own, rfl, o0, o1⟩ := h1
    exact ⟨own, h, rfl, o0, o1, g, hl, hlt⟩
  obtain ⟨own, h, rfl, o0, o1, g, hl, hlt⟩ := hv
  have L2 := L1.draw d2 f2
  refine ⟨_, rfl, ?_⟩
  have hN2 : B ^ (1 + h.length) ≤ 256 := Nat.le_trans (Nat.pow_le_pow_right (by omega) (by omega)) hN
  refine blk1 hTa hTh g (by omega) b1 b2 o0 o1 hlt hN2 L2 (by omega) fun p' vs1 S3 L3 l3 => ?_
  clear hN2 hlt g hl o0 o1 L2 L1 f2 d2 f1 d1
  refine dq_set (P := fun v => ∃ h : Hr, v = .set (hrV h) ∧ GH h ∧ h.length ≤ 8 ∧ ∀ p ∈ h, p.2 < (4 : Int)) (DV.call (DA.var (fun _ z => z) (DA.cons (P1 := fun v => ∃ k : Nat, v = .int (k : Int) ∧ k ≤ 8) (DV.any hA (fun _ z => z) (by decide) (by decide) fun i i0 i1 => ⟨i.toNat, by rw [Int.toNat_of_nonneg i0], by omega⟩) fun v hv => DA.one (DV.con fun S Q E hd q => by
    obtain ⟨k, rfl, hk⟩ := hv
    exact hH a b k 4 S Q E hd hk (by decide) (by decide) fun h S' g hl hlt hd' f => q _ S' ⟨h, rfl, g, by omega, hlt⟩ hd' f)))) L3.d fun v S4 hv d4 f4 => ?_
  obtain ⟨h2, rfl, g, hl, hlt⟩ := hv
  have L4 := L3.draw d4 f4
  have hrow : ∀ (S : Sto), EV (callP tupleP (consA (lcI false (walkI (varI 7)) (.tp [11, 12]) yesT (varI 11) [11, 12]) nilA)) [v0, some (.ref a), some (.ref p'), v3, some (.int (B : Int)), some (.int (m : Int)), some (.int own), some (.set (hrV h2)), v8, v9, v10, v11, v12] S (tiV (h2.map (·.1))) := fun S => by
    have := EV.lc (ρ := [v0, some (.ref a), some (.ref p'), v3, some (.int (B : Int)), some (.int (m : Int)), some (.int own), some (.set (hrV h2)), v8, v9, v10, v11, v12]) (S := S) prV h2 (fun p => Val.int p.1) (it := walkI (varI 7)) (tg := .tp [11, 12]) (te := varI 11) (own := [11, 12]) (walkX (EV.var fun _ z => z) (.inl rfl)) trivial (by rw [sizeLine_eq]; omega) fun p hp => ⟨_, rfl, EV.var fun _ z => z⟩
    refine EV.tuple (xs := (h2.map (·.1)).map Val.int) (v := .lst ((h2.map (·.1)).map Val.int)) ?_ rfl
    rw [List.map_map]
    exact this
  refine sq_parview (P := fun v => ∃ own : Int, v = .int own ∧ 0 ≤ own ∧ own < 4) (kvs := viewK (h2.map (·.1)) 4 64) (DV.any hA (fun _ z => z) (by decide) (by decide) fun i i0 i1 => ⟨i, rfl, i0, i1⟩) L4.d hrow (fun S => EV.con _) (fun S => EV.con _) rfl rfl fun v S5 vw hv d5 f5 hvw => ?_
  obtain ⟨own2, rfl, o0, o1⟩ := hv
  have L5 := L4.draw d5 f5
  refine ⟨_, rfl, ?_⟩
  obtain ⟨w1, w2⟩ := d5.off hvw
  have hpw : p' ≠ vw := fun z => by rw [← z, L5.hp] at hvw; cases hvw
  have L6 : LP a b p' vs1 (S5.put vw (.dict (viewK (h2.map (·.1)) 4 64))) := ⟨d5.put w1 w2, by rw [put_ne hpw]; exact L5.hp, L5.pa, L5.pb⟩
  have hv6 : (S5.put vw (.dict (viewK (h2.map (·.1)) 4 64))) vw = some (.dict (viewK (h2.map (·.1)) 4 64)) := put_same
  generalize S5.put vw (.dict (viewK (h2.map (·.1)) 4 64)) = S6 at L6 hv6 ⊢
  refine blk2 hWp hTx hWx hLx ⟨g, rfl, hlt, o0, o1, by decide, by decide⟩ (by rw [List.length_map]; exact hl) L6 (by omega) hv6 w1 w2 fun vs2 S7 v9 v10 v11 v12 L7 l7 => ?_
  exact hK p' vs2 S7 _ _ _ _ _ _ _ _ _ L7 (by omega)
theorem law_ok : lawP (ptab ents) 60 "law" := by
  intro ns hns
  refine callI_of lk_law rfl ?_
  show m_law (Cl 59) (endsI true noSto (fun v _ => v = .bl true) noX) [some (.scr ns), none, none, none, none, none, none, none, none, none, none, none, none] noSto
  have hD := deal_ok 58
  have hA : GAny (Cl 59) := any_ok 58
  have hS := shape_ok 56
  have hH := hear_ok 56
  have hTa := tables_ok 52
  have hTh := through_ok 52
  have hWp := wp_ok 54
  have hTx := tx_of (treeW_ok 57)
  have hWx := wx_of (worth_ok 53)
  have hLx := lx_of (lw_ok 53)
  have hV := all_ok 56
  unfold m_law
  generalize Cl 59 = Γ at hD hA hS hH hTa hTh hWp hTx hWx hLx hV ⊢
  refine hD ns 103 noSto _ _ hns (by decide) (by decide) fun a b S1 d1 _ _ f1 => ?_
  refine ⟨show 0 ≤ sizeLine by decide, fun p hp => ?_⟩
  obtain ⟨pa, pb⟩ := d1.off hp
  have L0 : LP a b p [] (S1.put p (.lst [])) := ⟨d1.put pa pb, put_same, pa, pb⟩
  generalize S1.put p (.lst []) = S2 at L0 ⊢
  refine sq_for (rng1 (EV.con _) (by decide) (by decide)) ?_
  have el : (TL.upTo 0 (4 : Int).toNat).length = 4 := rfl
  generalize TL.upTo 0 (4 : Int).toNat = turns at el
  refine forGo_ind (fun us ρ S' => ∃ (p : Addr) (vs : List Int) (v3 v4 v5 v6 v7 v8 v9 v10 v11 v12 : Option Val), vs.length + 23 * us.length ≤ 100 ∧ LP a b p vs S' ∧ ρ = [some (.scr ns), some (.ref a), some (.ref p), v3, v4, v5, v6, v7, v8, v9, v10, v11, v12]) ?_ ?_ _ _ _
    ⟨p, [], none, none, none, none, none, none, none, none, none, none, by rw [el]; decide, L0, rfl⟩
  · rintro ρ S' ⟨p, vs, v3, v4, v5, v6, v7, v8, v9, v10, v11, v12, h1, L, rfl⟩
    refine ⟨trivial, ?_⟩
    exact hV vs S' _ _ p L.hp (by omega) rfl
  · rintro x us ρ S' Kn hK ⟨p, vs, v3, v4, v5, v6, v7, v8, v9, v10, v11, v12, h1, L, rfl⟩
    refine ⟨trivial, ?_⟩
    rw [List.length_cons] at h1
    exact turn hA hS hH hTa hTh hWp hTx hWx hLx L (by omega) fun p' vs' S'' _ _ _ _ _ _ _ _ _ L' hl => hK _ _ ⟨p', vs', _, _, _, _, _, _, _, _, _, _, by omega, L', rfl⟩
end K03

namespace K03
open PySem PySem.Spec L2 TL
open PyProof.Rows hiding St
/-! ### the head -/
abbrev R : PySem.W.OpenRow := PySem.W.OpenLaw.row PySem.Challenge.rw_thoughsomelie_k03_tables_and_inner_rules
abbrev fas : List He.Fa := faOf tb
abbrev fns : List He.DefD := ents.map (·.df)
abbrev hk : PySem.W.Hook := hookY 6 fas fns (tsOf tb) (exB tb)
def ob (s : PySem.W.SharedT) : He.AlT := obsYG 6 fas fns (tsOf tb) (exB tb) (HandSHeadRun.getT s)
theorem ob_eq (s : PySem.W.SharedT) : ob s = hk.obs s.abs := obsYG_eq (HandSHeadRun.getT_eq s)
def looseN : List PySem.Str := (["STEP", "LEAVE", "PLAIN", "PAIRED", "things_of", "steps_of", "SILENT", "told_letters", "most_told", "power", "base_of", "entry_of", "do_number", "do_own", "do_heard", "do_count", "do_most", "do_mostof", "do_sorted", "do_table", "do_plus", "do_less", "do_times", "do_div", "do_rest", "do_if", "do_with", "do_leave", "WORKS", "steps_worth"] : List PySem.Str) ++ (["worth", "_law_deal", "_law_any", "_law_of", "_law_is_kind", "_law_same", "_law_all", "_law_mixed", "_law_power", "_law_leaf", "_law_plain_program", "_law_with_program", "_law_tree", "_law_told_letters", "_law_most", "_law_entry", "_law_leaf_worth", "_law_do_step", "_law_plain_worth", "_law_worth", "_law_hearing", "_law_shape", "_law_tables", "_law_through"] : List PySem.Str)
/-- the world, what it follows at one place told (a dict of texts in the head asks it) -/
def setF (w : World) (b : Bool) : World := { w with params := { w.params with followText := fun s => match decide (s = "special-get-raises") with | true => b | false => w.params.followText s } }
theorem setF_eq (w : World) : setF w (w.params.followText "special-get-raises") = w := by
  have e : (fun s => match decide (s = "special-get-raises") with | true => w.params.followText "special-get-raises" | false => w.params.followText s) = w.params.followText := by
    funext s
    by_cases h : s = "special-get-raises"
    · rw [decide_eq_true h, h]
    · rw [decide_eq_false h]
  unfold setF
  rw [e]
set_option maxHeartbeats 0 in
theorem run_t (w : World) : HandSHeadRun.RunEq R (PySem.W.view R.prog [57]) hk ob 3000 looseN (setF w true) := by
  intro os
  kernel_rfl
set_option maxHeartbeats 0 in
theorem run_f (w : World) : HandSHeadRun.RunEq R (PySem.W.view R.prog [57]) hk ob 3000 looseN (setF w false) := by
  intro os
  kernel_rfl
theorem run (w : World) : HandSHeadRun.RunEq R (PySem.W.view R.prog [57]) hk ob 3000 looseN w := by
  rw [← setF_eq w]
  cases w.params.followText "special-get-raises" with
  | true => exact run_t w
  | false => exact run_f w
end K03

open PySem PySem.W PySem.Calls PyProof.Rows
set_option maxHeartbeats 0 in
theorem PySem.Challenge.cw_thoughsomelie_k03_tables_and_inner_rules_holds : PySem.Challenge.rw_thoughsomelie_k03_tables_and_inner_rules.Holds := by
  w_on; o_law
  refine HandSHeadRun.head_any (r := OpenLaw.row PySem.Challenge.rw_thoughsomelie_k03_tables_and_inner_rules) (q := view (OpenLaw.row PySem.Challenge.rw_thoughsomelie_k03_tables_and_inner_rules).prog [57]) (H := K03.hk) (ob := K03.ob) (M := 3000) (loose := K03.looseN) (d := HandSHeadRun.topDef (OpenLaw.row PySem.Challenge.rw_thoughsomelie_k03_tables_and_inner_rules).prog 57) (kwd := []) K03.ob_eq
    (by kernel_rfl) (fun s => by kernel_rfl) K03.run (by kernel_rfl) (by kernel_rfl) (by kernel_rfl) (by rfl) (by first | assumption | decide +kernel) (by decide +kernel) ⟨rfl, rfl, rfl, rfl, rfl, by decide +kernel⟩ ?hw ?hc
  case hw => w_witness2
  case hc =>
    refine TL.walk_end (l := PySem.Challenge.rw_thoughsomelie_k03_tables_and_inner_rules) (x := "script") (k := 2 * 60) (CX := fun w => L2.CX (PySem.Challenge.rw_thoughsomelie_k03_tables_and_inner_rules).prog w) rfl (by kernel_rfl) ⟨rfl, by decide, by decide⟩ ?F fun w H s e s' => TL.noCX H s e s'
    intro w mg fa h Y G hmg0
    obtain ⟨K, KX, c⟩ := Y
    have hmg : mg ("law" : PySem.Str) = some (.ref fa) := by
      have e : (HandSHeadRun.topDef (OpenLaw.row PySem.Challenge.rw_thoughsomelie_k03_tables_and_inner_rules).prog 57).name = ("law" : PySem.Str) := by kernel_rfl
      rw [← e]
      exact hmg0
    obtain ⟨fd, sp, h1, h2, h3⟩ := TL.facts_law (p := (PySem.Challenge.rw_thoughsomelie_k03_tables_and_inner_rules).prog) (w := w) (d := 60) KX G hmg c K03.oks K03.tbs K03.kws K03.kwps K03.lk_law rfl (by decide +kernel) K03.law_ok
    exact ⟨K, fd, sp, KX, h1, h2, h3⟩


