import PyProof.Rows.All
import PySem.Challenge.RW_thoughsomelie_k07_promises_are_let_exact
import Wide.All
import OpenK.AllK
import Wide.FinOn
import HandS.ForMost
import HandS.Wide
import HandS.TupAny
import HandS.HeadHook1
import HandS.HeadHook2
import HandS.Dict
import HandS.Deep
import HandS.Style
import HandS.TupMul
import HandS.Flow
import HandS.ForExc
import HandS.Iter
import HandS.Comp
import HandS.Zip
import HandS.Conv
import HandS.SortInts
import HandS.SortOrd
import HandS.SortRule
import HandS.TupLe
import HandS.TupSets
import KE.KSortTupAny
import HandS.IsInst
import OpenK.KMore
import PyProof.P3In
import HandS.ListItems
import KE.KDictZip
import KE.KItemsList
import PyProof.EnumMake
import HandS.Text
import KE.KDictPairs
import HandS.SetFor
import HandS.CallLocal
import HandS.WrittenGet
import PyProof.DelItemList
import PyProof.EnumIter
import PyProof.CollectWalk
import PyProof.TupleCall
import HandS.ExcInit
import HandS.ExcSuper
import HandS.ExcField
import KE.KExcInit
import HandS.TryMany
import PyProof.NeKinds
import PyProof.FactsAll.list_3
import HandS.HeadEnd
import HandS.Defaults
import HandS.Head0
import HandS.Head1
import HandS.Head2
import HandS.HeadHook3
import HandS.Head4
set_option Elab.async false
set_option linter.all false
set_option maxRecDepth 100000
/-! TL1: plain values, plain stores, and what each construct does with them. -/
namespace TL
open PySem L2

/-- a value: what never changes stands in it whole -/
inductive Val where
  | non | bl (b : Bool) | int (i : Int) | str (x : Str)
  | tup (xs : List Val) | lst (xs : List Val) | scr (ns : List Int) | set (xs : List Val)
  | ins (c : Str) (ns : List Str) (vs : List Val)
  | ref (a : Addr) | ty (n : String) | fn (f : Str)
  deriving Inhabited

/-- what may change -/
inductive Cell where
  | lst (xs : List Val)
  | dict (kvs : List (Key × Val))
  | ins (c : Str) (ns : List Str) (vs : List Val)

abbrev Sto := Addr → Option Cell
def Sto.put (S : Sto) (a : Addr) (c : Cell) : Sto := fun b => if b = a then some c else S b
def Sto.del (S : Sto) (a : Addr) : Sto := fun b => if b = a then none else S b
/-- S' without what S has not -/
def Sto.within (S' S : Sto) : Sto := fun a => match S a with
  | some _ => S' a
  | none => none
def noSto : Sto := fun _ => none

abbrev ISt := List (Option Val)
/-- an exception: its class, its attributes -/
structure Exc where
  cls : Str
  ns : List Str
  vs : List Val
abbrev VQ := Val → Sto → Prop
abbrev EQ := Exc → Sto → Prop
abbrev IE := ISt → Sto → VQ → EQ → Prop
abbrev IA := ISt → Sto → (List Val → Sto → Prop) → EQ → Prop
abbrev IT := ISt → Sto → (Bool → Sto → Prop) → EQ → Prop
structure IEnds where
  nx : ISt → Sto → Prop
  rt : VQ
  ex : ISt → Exc → Sto → Prop
  bk : ISt → Sto → Prop
  ct : ISt → Sto → Prop
abbrev IS := IEnds → ISt → Sto → Prop
/-- what is known of the defs -/
abbrev Calls := Str → List Val → Sto → VQ → EQ → Prop

def small (n : Nat) : Prop := n ≤ 16777216

/-! ### names, constants -/
@[reducible] def getS : ISt → Nat → (Val → Prop) → Prop
  | [], _, _ => False
  | o :: _, 0, K => match o with
    | some v => K v
    | none => False
  | _ :: r, n + 1, K => getS r n K
@[reducible] def setS : ISt → Nat → Val → ISt
  | _ :: r, 0, v => some v :: r
  | o :: r, n + 1, v => o :: setS r n v
  | [], _, _ => []
@[reducible] def wipe1 : ISt → Nat → ISt
  | _ :: r, 0 => none :: r
  | o :: r, n + 1 => o :: wipe1 r n
  | [], _ => []
@[reducible] def wipeI (ρ : ISt) : List Nat → ISt
  | [] => ρ
  | i :: is => wipe1 (wipeI ρ is) i
@[reducible] def varI (i : Nat) : IE := fun ρ S Q _ => getS ρ i fun v => Q v S
@[reducible] def conI (v : Val) : IE := fun _ S Q _ => Q v S
@[reducible] def noI : IE := fun _ _ _ _ => False

/-! ### operators -/
abbrev P1 := Val → Sto → VQ → Prop
abbrev P2 := Val → Val → Sto → VQ → Prop
abbrev PL := List Val → Sto → VQ → Prop
@[reducible] def un1 (r : P1) (a : IE) : IE := fun ρ S Q E => a ρ S (fun x S1 => r x S1 Q) E
@[reducible] def bin2 (r : P2) (a b : IE) : IE := fun ρ S Q E => a ρ S (fun x S1 => b ρ S1 (fun y S2 => r x y S2 Q) E) E

/-- the items of a list -/
@[reducible] def lstOf (S : Sto) : Val → Option (List Val)
  | .lst xs => some xs
  | .ref a => match S a with
    | some (.lst xs) => some xs
    | _ => none
  | _ => none
/-- .. the script's, too -/
@[reducible] def lsqOf (S : Sto) : Val → Option (List Val)
  | .scr ns => some (ns.map Val.int)
  | v => lstOf S v
@[reducible] def seqOf (S : Sto) : Val → Option (List Val)
  | .tup xs => some xs
  | v => lsqOf S v
@[reducible] def someP {α : Type} : Option α → (α → Prop) → Prop
  | some x, K => K x
  | none, _ => False

/-- a new list: a value of its own, or one that may change -/
@[reducible] def newL (c : Bool) (xs : List Val) (S : Sto) (Q : VQ) : Prop := match c with
  | false => Q (.lst xs) S
  | true => ∀ a, S a = none → Q (.ref a) (S.put a (.lst xs))
@[reducible] def addP (c : Bool) : P2 := fun x y S Q => match x, y with
  | .int i, .int j => Q (.int (i + j)) S
  | .str i, .str j => i.length + j.length ≤ sizeLine ∧ Q (.str (i ++ j)) S
  | .tup xs, .tup ys => xs.length + ys.length ≤ sizeLine ∧ Q (.tup (xs ++ ys)) S
  | x, y => someP (lstOf S x) fun xs => someP (lstOf S y) fun ys => xs.length + ys.length ≤ sizeLine ∧ newL c (xs ++ ys) S Q
@[reducible] def subP : P2 := fun x y S Q => match x, y with
  | .int i, .int j => Q (.int (i - j)) S
  | _, _ => False
@[reducible] def mulP (c : Bool) : P2 := fun x y S Q => match x, y with
  | .int i, .int j => CMulW i j ∧ Q (.int (i * j)) S
  | .tup xs, .int k => (k = 1 ∧ xs ≠ [] ∧ Q (.tup xs) S) ∨ (xs ≠ [] ∧ 2 ≤ k ∧ k ≤ 1000000 ∧ xs.length * k.toNat ≤ 1000000 ∧ Q (.tup (List.replicate k.toNat xs).flatten) S)
  | x, .int k => someP (lstOf S x) fun xs => -(2 ^ 63) ≤ k ∧ k < 2 ^ 63 ∧ xs.length * k.toNat ≤ sizeLine ∧ newL c (List.replicate k.toNat xs).flatten S Q
  | _, _ => False
@[reducible] def fdivP : P2 := fun x y S Q => match x, y with
  | .int i, .int j => CDivW i j ∧ Q (.int (i / j)) S
  | _, _ => False
@[reducible] def modP : P2 := fun x y S Q => match x, y with
  | .int i, .int j => 0 < j ∧ Q (.int (i % j)) S
  | _, _ => False
@[reducible] def powP : P2 := fun x y S Q => match x, y with
  | .int i, .int j => CPow i j ∧ Q (.int (i ^ j.toNat)) S
  | _, _ => False
@[reducible] def negP : P1 := fun x S Q => match x with
  | .int i => Q (.int (-i)) S
  | _ => False

/-! ### equality, order, membership -/
mutual
def toD : Val → Option PyData
  | .non => some .none
  | .bl b => some (.bool b)
  | .int i => some (.int i)
  | .str x => some (.str x)
  | .tup xs => (toDs xs).map .tuple
  | .lst xs => (toDs xs).map .list
  | _ => none
def toDs : List Val → Option (List PyData)
  | [] => some []
  | x :: r => match toD x, toDs r with
    | some d, some ds => some (d :: ds)
    | _, _ => none
end
/-- as data, where it is such and not too deep -/
def datOf (S : Sto) (v : Val) : Option PyData := match v with
  | .ref a => match S a with
    | some (.lst xs) => match toD (.lst xs) with
      | some d => if SeqAt.shaped d then some d else none
      | none => none
    | _ => none
  | v => match toD v with
    | some d => if SeqAt.shaped d then some d else none
    | none => none
/-- two of the kinds that hold no others -/
def scalEq : Val → Val → Option Bool
  | .int i, .int j => some (decide (i = j))
  | .str i, .str j => some (decide (i = j))
  | .bl i, .bl j => some (decide (i = j))
  | .non, .non => some true
  | .non, .int _ => some false
  | .int _, .non => some false
  | .non, .bl _ => some false
  | .bl _, .non => some false
  | .non, .str _ => some false
  | .str _, .non => some false
  | .int _, .str _ => some false
  | .str _, .int _ => some false
  | .bl _, .str _ => some false
  | .str _, .bl _ => some false
  | _, _ => none
def eqOf (S : Sto) (x y : Val) : Option Bool := match scalEq x y with
  | some b => some b
  | none => match datOf S x, datOf S y with
    | some d, some e => some (PyData.eqv d e)
    | _, _ => none
/-- a list of whatever against the empty one -/
def nilEq (S : Sto) (x y : Val) : Option Bool := match y with
  | .lst [] => (lstOf S x).map List.isEmpty
  | _ => none
def eqP0 : P2 := fun x y S Q => (someP (eqOf S x y) fun b => Q (.bl b) S) ∨ someP (nilEq S x y) fun b => Q (.bl b) S
structure eqP (x y : Val) (S : Sto) (Q : VQ) : Prop where
  h : eqP0 x y S Q
def neP0 : P2 := fun x y S Q => (someP (eqOf S x y) fun b => Q (.bl (!b)) S) ∨ someP (nilEq S x y) fun b => Q (.bl (!b)) S
structure neP (x y : Val) (S : Sto) (Q : VQ) : Prop where
  h : neP0 x y S Q
def intsOf : List Val → Option (List Int)
  | [] => some []
  | .int i :: r => (intsOf r).map (i :: ·)
  | _ => none
/-- two rows of whole numbers by their first unlike pair, else by their lengths -/
def lexP (p : Int → Int → Bool) : List Int → List Int → Bool
  | [], ms => p 0 ms.length
  | x :: xs, [] => p (x :: xs).length 0
  | x :: xs, y :: ys => if x = y then lexP p xs ys else p x y
@[reducible] def cmpP (p : Int → Int → Bool) : P2 := fun x y S Q => match x, y with
  | .int i, .int j => Q (.bl (p i j)) S
  | .tup xs, .tup ys => someP (intsOf xs) fun ns => someP (intsOf ys) fun ms => Q (.bl (lexP p ns ms)) S
  | _, _ => False
@[reducible] def ltP : P2 := cmpP fun i j => decide (i < j)
@[reducible] def leP : P2 := cmpP fun i j => decide (i ≤ j)
@[reducible] def gtP : P2 := cmpP fun i j => decide (j < i)
@[reducible] def geP : P2 := cmpP fun i j => decide (j ≤ i)
@[reducible] def isNon : Val → Bool
  | .non => true
  | _ => false
@[reducible] def isNP : P1 := fun x S Q => Q (.bl (isNon x)) S
@[reducible] def notNP : P1 := fun x S Q => Q (.bl (!isNon x)) S

/-! ### tests -/
@[reducible] def truOf (S : Sto) : Val → Option Bool
  | .non => some false
  | .bl b => some b
  | .int i => some (i != 0)
  | .str x => if x.length ≤ sizeLine then some ((x.length : Int) != 0) else none
  | .lst xs => some (!xs.isEmpty)
  | .tup xs => some (!xs.isEmpty)
  | .ref a => match S a with
    | some (.lst xs) => some (!xs.isEmpty)
    | _ => none
  | _ => none
@[reducible] def tst (a : IE) : IT := fun ρ S Q E => a ρ S (fun x S1 => someP (truOf S1 x) fun k => Q k S1) E
@[reducible] def tstB (a : IE) : IT := fun ρ S Q E => a ρ S (fun x S1 => match x with
  | .bl k => Q k S1
  | _ => False) E
@[reducible] def notT (t : IT) : IT := fun ρ S Q E => t ρ S (fun k S1 => match k with
  | true => Q false S1
  | false => Q true S1) E
@[reducible] def andT (t u : IT) : IT := fun ρ S Q E => t ρ S (fun k S1 => match k with
  | true => u ρ S1 Q E
  | false => Q false S1) E
@[reducible] def orT (t u : IT) : IT := fun ρ S Q E => t ρ S (fun k S1 => match k with
  | true => Q true S1
  | false => u ρ S1 Q E) E
@[reducible] def ifE (t : IT) (a b : IE) : IE := fun ρ S Q E => t ρ S (fun k S1 => match k with
  | true => a ρ S1 Q E
  | false => b ρ S1 Q E) E
/-- and, or as values, by truth; not of a bool -/
@[reducible] def andV (a b : IE) : IE := fun ρ S Q E => a ρ S (fun x S1 => someP (truOf S1 x) fun k => match k with
  | true => b ρ S1 Q E
  | false => Q x S1) E
@[reducible] def orV (a b : IE) : IE := fun ρ S Q E => a ρ S (fun x S1 => someP (truOf S1 x) fun k => match k with
  | true => Q x S1
  | false => b ρ S1 Q E) E
@[reducible] def notP : P1 := fun x S Q => match x with
  | .bl true => Q (.bl false) S
  | .bl false => Q (.bl true) S
  | _ => False

/-! ### rows of expressions, displays, calls -/
@[reducible] def nilA : IA := fun _ S Q _ => Q [] S
@[reducible] def consA (a : IE) (r : IA) : IA := fun ρ S Q E => a ρ S (fun x S1 => r ρ S1 (fun xs S2 => Q (x :: xs) S2) E) E
@[reducible] def tupI (as : IA) : IE := fun ρ S Q E => as ρ S (fun xs S1 => xs.length ≤ sizeLine ∧ Q (.tup xs) S1) E
@[reducible] def lstI (c : Bool) (as : IA) : IE := fun ρ S Q E => as ρ S (fun xs S1 => xs.length ≤ sizeLine ∧ newL c xs S1 Q) E
@[reducible] def callP (r : PL) (as : IA) : IE := fun ρ S Q E => as ρ S (fun xs S1 => r xs S1 Q) E
@[reducible] def callF (Γ : Calls) (f : Str) (as : IA) : IE := fun ρ S Q E => as ρ S (fun xs S1 => Γ f xs S1 Q E) E
/-- o.m(..) of a built-in kind -/
@[reducible] def methP (r : Val → PL) (o : IE) (as : IA) : IE := fun ρ S Q E => o ρ S (fun x S1 => as ρ S1 (fun xs S2 => r x xs S2 Q) E) E

/-! ### built-ins -/
@[reducible] def lenP : PL := fun vs S Q => match vs with
  | [.str x] => x.length ≤ sizeLine ∧ Q (.int x.length) S
  | [.set xs] => Q (.int xs.length) S
  | [v] => someP (seqOf S v) fun xs => Q (.int xs.length) S
  | _ => False
@[reducible] def absP : PL := fun vs S Q => match vs with
  | [.int i] => Q (.int (if i < 0 then -i else i)) S
  | _ => False
@[reducible] def intP : PL := fun vs S Q => match vs with
  | [.int i] => Q (.int i) S
  | [.bl k] => Q (.int (if k then 1 else 0)) S
  | _ => False
@[reducible] def listP (c : Bool) : PL := fun vs S Q => match vs with
  | [v] => someP (seqOf S v) fun xs => newL c xs S Q
  | _ => False
@[reducible] def tupleP : PL := fun vs S Q => match vs with
  | [.set xs] => Q (.set xs) S
  | [v] => someP (seqOf S v) fun xs => Q (.tup xs) S
  | _ => False
def maxP : PL := fun vs S Q => match vs with
  | [.int i, .int j] => Q (.int (if j > i then j else i)) S
  | [v] => someP (seqOf S v) fun xs => someP (intsOf xs) fun ns => 0 < ns.length ∧ ∀ m, m ∈ ns → (∀ y, y ∈ ns → y ≤ m) → Q (.int m) S
  | _ => False
def minP : PL := fun vs S Q => match vs with
  | [.int i, .int j] => Q (.int (if j < i then j else i)) S
  | [v] => someP (lsqOf S v) fun xs => someP (intsOf xs) fun ns => 0 < ns.length ∧ ∀ m, m ∈ ns → (∀ y, y ∈ ns → m ≤ y) → Q (.int m) S
  | _ => False
def sumP : PL := fun vs S Q => match vs with
  | [v] => someP (lsqOf S v) fun xs => someP (intsOf xs) fun ns => Q (.int ns.sum) S
  | _ => False

/-- sorted of ints -/
def sortedP (c : Bool) : PL := fun vs S Q => match vs with
  | [v] => someP (lsqOf S v) fun xs => someP (intsOf xs) fun ns => ∀ ms : List Int, ms.Perm ns → ms.Pairwise (· ≤ ·) → newL c (ms.map Val.int) S Q
  | _ => False

/-! ### dicts -/
def keyV : Val → Option Key
  | .int i => some (.inl i)
  | .str x => some (.inr x)
  | _ => none
def dGet (kvs : List (Key × Val)) (k : Key) : Option Val := (kvs.find? fun kv => decide (kv.1 = k)).map (·.2)
def dPut (kvs : List (Key × Val)) (k : Key) (v : Val) : List (Key × Val) :=
  if (kvs.any fun kv => decide (kv.1 = k)) = true then kvs.map (fun kv => if kv.1 = k then (kv.1, v) else kv) else kvs ++ [(k, v)]
/-! ### places, slices -/
def ixP0 : P2 := fun x y S Q => match x, y with
  | .str z, .int i => z.length ≤ sizeLine ∧ someP (atI z.cps.toList i) fun c => Q (.str ⟨#[c]⟩) S
  | .ref a, y => (match S a with
    | some (.lst xs) => (match y with
      | .int i => someP (atI xs i) fun v => Q v S
      | _ => False)
    | some (.dict kvs) => someP (keyV y) fun k => someP (dGet kvs k) fun v => Q v S
    | _ => False)
  | x, .int i => someP (seqOf S x) fun xs => someP (atI xs i) fun v => Q v S
  | _, _ => False
structure ixP (x y : Val) (S : Sto) (Q : VQ) : Prop where
  h : ixP0 x y S Q
abbrev IO := ISt → Sto → (Option Int → Sto → Prop) → EQ → Prop
@[reducible] def noPart : IO := fun _ S Q _ => Q none S
@[reducible] def partI (a : IE) : IO := fun ρ S Q E => a ρ S (fun x S1 => match x with
  | .int i => Q (some i) S1
  | _ => False) E
def cutL {α : Type} (xs : List α) (lo hi : Option Int) : List α := (xs.drop (HT.sIx xs.length 0 lo)).take (HT.sIx xs.length xs.length hi - HT.sIx xs.length 0 lo)
def cutP (c : Bool) (x : Val) (lo hi : Option Int) (S : Sto) (Q : VQ) : Prop := match x with
  | .tup xs => Q (.tup (cutL xs lo hi)) S
  | x => someP (lsqOf S x) fun xs => newL c (cutL xs lo hi) S Q
@[reducible] def sliceI (c : Bool) (e : IE) (lo hi : IO) : IE := fun ρ S Q E => e ρ S (fun x S1 => lo ρ S1 (fun l S2 => hi ρ S2 (fun h S3 => cutP c x l h S3 Q) E) E) E

/-! ### what is walked -/
def walkStr (x : Str) : List Val := x.cps.toList.map fun c => Val.str ⟨#[c]⟩
/-- the items, and the list that must stay -/
abbrev II := ISt → Sto → (Option Addr → List Val → Sto → Prop) → EQ → Prop
@[reducible] def guardOk (g : Option Addr) (all : List Val) (S : Sto) : Prop := match g with
  | none => True
  | some a => S a = some (.lst all)
@[reducible] def walkI (a : IE) : II := fun ρ S Q E => a ρ S (fun x S1 => match x with
  | .tup xs => Q none xs S1
  | .set xs => Q none xs S1
  | .lst xs => Q none xs S1
  | .scr ns => Q none (ns.map Val.int) S1
  | .str x => Q none (walkStr x) S1
  | .ref a => match S1 a with
    | some (.lst xs) => Q (some a) xs S1
    | _ => False
  | _ => False) E
def range62 (i : Int) : Prop := -(2 ^ 62) ≤ i ∧ i < 2 ^ 62
def upTo (lo : Int) (n : Nat) : List Val := (List.range n).map fun (i : Nat) => Val.int (lo + (i : Int))
@[reducible] def rng1I (a : IE) : II := fun ρ S Q E => a ρ S (fun x S1 => match x with
  | .int j => range62 j ∧ Q none (upTo 0 j.toNat) S1
  | _ => False) E
@[reducible] def rng2I (a b : IE) : II := fun ρ S Q E => a ρ S (fun x S1 => b ρ S1 (fun y S2 => match x, y with
  | .int i, .int j => range62 i ∧ range62 j ∧ Q none (upTo i (j - i).toNat) S2
  | _, _ => False) E) E
/-- enumerate of a list, zip of two lists or two tuples -/
def enumFrom (n : Nat) : List Val → List Val
  | [] => []
  | x :: xs => .tup [.int n, x] :: enumFrom (n + 1) xs
def isCell : Val → Option Addr
  | .ref a => some a
  | _ => none
def zipV : List Val → List Val → List Val
  | x :: xs, y :: ys => .tup [x, y] :: zipV xs ys
  | _, _ => []
/-- (of values that do not change alone) -/
@[reducible] def enumI (a : IE) : II := fun ρ S Q E => a ρ S (fun x S1 => match x with
  | .lst xs => Q none (enumFrom 0 xs) S1
  | _ => False) E
@[reducible] def zipI (a b : IE) : II := fun ρ S Q E => a ρ S (fun x S1 => b ρ S1 (fun y S2 => match x, y with
  | .lst xs, .lst ys => Q none (zipV xs ys) S2
  | .tup xs, .tup ys => Q none (zipV xs ys) S2
  | _, _ => False) E) E

/-- where an item goes: a name, some names -/
inductive Tg where
  | nm (i : Nat) | tp (is : List Nat)
@[reducible] def setAll : ISt → List Nat → List Val → Option ISt
  | ρ, [], [] => some ρ
  | ρ, i :: is, v :: vs => setAll (setS ρ i v) is vs
  | _, _, _ => none
@[reducible] def tgI : Tg → Val → ISt → Option ISt
  | .nm i, v, ρ => some (setS ρ i v)
  | .tp is, .tup xs, ρ => setAll ρ is xs
  | _, _, _ => none

/-! ### comprehensions -/
/-- nothing is raised -/
def noX : EQ := fun _ _ => False
@[reducible] def yesT : IT := fun _ S Q _ => Q true S
def lcGo (g : Option Addr) (all : List Val) (t : Tg) (tt : IT) (te : IE) (ρ : ISt) : List Val → List Val → Sto → (List Val → Sto → Prop) → Prop
  | [], acc, S, Q => guardOk g all S ∧ Q acc S
  | x :: r, acc, S, Q => guardOk g all S ∧ someP (tgI t x ρ) fun ρ1 => tt ρ1 S (fun k S2 => match k with
    | true => te ρ1 S2 (fun y S3 => acc.length < sizeLine ∧ lcGo g all t tt te ρ r (acc ++ [y]) S3 Q) noX
    | false => lcGo g all t tt te ρ r acc S2 Q) noX
def lc2Go (g : Option Addr) (all : List Val) (t : Tg) (tt : IT) (it1 : II) (t1 : Tg) (tt1 : IT) (te : IE) (vs1 : List Nat) (ρ : ISt) : List Val → List Val → Sto → (List Val → Sto → Prop) → Prop
  | [], acc, S, Q => guardOk g all S ∧ Q acc S
  | x :: r, acc, S, Q => guardOk g all S ∧ someP (tgI t x ρ) fun ρ1 => tt ρ1 S (fun k S2 => match k with
    | true => it1 ρ1 S2 (fun g1 ys S3 => lcGo g1 ys t1 tt1 te (wipeI ρ1 vs1) ys acc S3 fun acc' S4 => lc2Go g all t tt it1 t1 tt1 te vs1 ρ r acc' S4 Q) noX
    | false => lc2Go g all t tt it1 t1 tt1 te vs1 ρ r acc S2 Q) noX
@[reducible] def lc2I (c : Bool) (it : II) (t : Tg) (tt : IT) (it1 : II) (t1 : Tg) (tt1 : IT) (te : IE) (own vs1 : List Nat) : IE := fun ρ S Q E => it ρ S (fun g xs S1 => lc2Go g xs t tt it1 t1 tt1 te vs1 (wipeI ρ own) xs [] S1 (fun ys S2 => newL c ys S2 Q)) E
@[reducible] def lcI (c : Bool) (it : II) (t : Tg) (tt : IT) (te : IE) (own : List Nat) : IE := fun ρ S Q E => it ρ S (fun g xs S1 => lcGo g xs t tt te (wipeI ρ own) xs [] S1 (fun ys S2 => newL c ys S2 Q)) E

/-! ### statements -/
@[reducible] def nextI : IS := fun D ρ S => D.nx ρ S
@[reducible] def seqI (a b : IS) : IS := fun D ρ S => a { D with nx := b D } ρ S
@[reducible] def breakI : IS := fun D ρ S => D.bk ρ S
@[reducible] def contI : IS := fun D ρ S => D.ct ρ S
@[reducible] def neverI : IS := fun _ _ _ => False
@[reducible] def dropI (e : IE) : IS := fun D ρ S => e ρ S (fun _ S1 => D.nx ρ S1) (D.ex ρ)
/-- a list that may change becomes a value -/
@[reducible] def frz (f : Bool) (v : Val) (S : Sto) (Q : VQ) : Prop := match f with
  | false => Q v S
  | true => match v with
    | .ref a => match S a with
      | some (.lst xs) => Q (.lst xs) (S.del a)
      | _ => Q v S
    | v => Q v S
@[reducible] def retI (f : Bool) (e : IE) : IS := fun D ρ S => e ρ S (fun v S1 => frz f v S1 D.rt) (D.ex ρ)
@[reducible] def retN : IS := fun D _ S => D.rt .non S
@[reducible] def ifI (t : IT) (a b : IS) : IS := fun D ρ S => t ρ S (fun k S1 => match k with
  | true => a D ρ S1
  | false => b D ρ S1) (D.ex ρ)
@[reducible] def setI (t : Tg) (e : IE) : IS := fun D ρ S => e ρ S (fun v S1 => someP (tgI t v ρ) fun ρ1 => D.nx ρ1 S1) (D.ex ρ)
/-- a, b = x, y without a tuple -/
@[reducible] def parI (is : List Nat) (as : IA) : IS := fun D ρ S => as ρ S (fun vs S1 => someP (setAll ρ is vs) fun ρ1 => D.nx ρ1 S1) (D.ex ρ)
@[reducible] def augI (i : Nat) (r : P2) (e : IE) : IS := fun D ρ S => getS ρ i fun x => e ρ S (fun y S1 => r x y S1 fun z S2 => D.nx (setS ρ i z) S2) (D.ex ρ)
@[reducible] def whileI (t : IT) (b : IS) : IS := fun D ρ S => ∃ W : Nat → ISt → Sto → Prop, (∃ m, W m ρ S) ∧ ∀ m ρ S, W m ρ S →
  t ρ S (fun k S1 => match k with
    | true => b { D with nx := fun ρ' S' => ∃ m', m' < m ∧ W m' ρ' S', ct := fun ρ' S' => ∃ m', m' < m ∧ W m' ρ' S', bk := D.nx } ρ S1
    | false => D.nx ρ S1) (D.ex ρ)
def forGo (g : Option Addr) (all : List Val) (t : Tg) (b : IS) (D : IEnds) : List Val → ISt → Sto → Prop
  | [], ρ, S => guardOk g all S ∧ D.nx ρ S
  | x :: r, ρ, S => guardOk g all S ∧ someP (tgI t x ρ) fun ρ1 => b { D with nx := forGo g all t b D r, ct := forGo g all t b D r, bk := D.nx } ρ1 S
@[reducible] def forI (it : II) (t : Tg) (b : IS) : IS := fun D ρ S => it ρ S (fun g xs S1 => forGo g xs t b D xs ρ S1) (D.ex ρ)

/-! ### lists that change -/
def putI (o : Val) (S : Sto) (K : Addr → List Val → Prop) : Prop := match o with
  | .ref a => match S a with
    | some (.lst xs) => K a xs
    | _ => False
  | _ => False
def appendP0 : Val → PL := fun o vs S Q => putI o S fun a xs => match vs with
  | [v] => xs.length < sizeLine ∧ Q .non (S.put a (.lst (xs ++ [v])))
  | _ => False
structure appendP (o : Val) (vs : List Val) (S : Sto) (Q : VQ) : Prop where
  h : appendP0 o vs S Q
def extendP0 : Val → PL := fun o vs S Q => putI o S fun a xs => match vs with
  | [v] => someP (lstOf S v) fun ys => xs.length + ys.length ≤ sizeLine ∧ Q .non (S.put a (.lst (xs ++ ys)))
  | _ => False
structure extendP (o : Val) (vs : List Val) (S : Sto) (Q : VQ) : Prop where
  h : extendP0 o vs S Q
def popP0 : Val → PL := fun o vs S Q => putI o S fun a xs => match vs with
  | [] => someP xs[xs.length - 1]? fun y => Q y (S.put a (.lst xs.dropLast))
  | [.int i] => -(2 ^ 63) ≤ i ∧ i < 2 ^ 63 ∧ someP (seqIndex? i xs.length) fun k => someP xs[k]? fun y => Q y (S.put a (.lst (xs.eraseIdx k)))
  | _ => False
structure popP (o : Val) (vs : List Val) (S : Sto) (Q : VQ) : Prop where
  h : popP0 o vs S Q
/-- o[i] = v -/
def setIx0 (o i v : Val) (S : Sto) (K : Sto → Prop) : Prop := match o with
  | .ref a => (match S a with
    | some (.lst xs) => (match i with
      | .int k => someP (ixN xs.length k) fun j => K (S.put a (.lst (xs.set j v)))
      | _ => False)
    | some (.dict kvs) => someP (keyV i) fun k => kvs.length < sizeLine ∧ K (S.put a (.dict (dPut kvs k v)))
    | _ => False)
  | _ => False
structure setIx (o i v : Val) (S : Sto) (K : Sto → Prop) : Prop where
  h : setIx0 o i v S K
@[reducible] def storeI (o i e : IE) : IS := fun D ρ S => e ρ S (fun v S1 => o ρ S1 (fun x S2 => i ρ S2 (fun y S3 => setIx x y v S3 fun S4 => D.nx ρ S4) (D.ex ρ)) (D.ex ρ)) (D.ex ρ)

/-! ### instances -/
def fldOf : List Str → List Val → Str → Option Val
  | n :: ns, v :: vs, f => if n = f then some v else fldOf ns vs f
  | _, _, _ => none
/-- o.f -/
def fldP0 (F : Str → Str → Bool) (f : Str) : P1 := fun x S Q => match x with
  | .ins c ns vs => F c f = true ∧ someP (fldOf ns vs f) fun v => Q v S
  | .ref a => match S a with
    | some (.ins c ns vs) => F c f = true ∧ someP (fldOf ns vs f) fun v => Q v S
    | _ => False
  | _ => False
structure fldP (F : Str → Str → Bool) (f : Str) (x : Val) (S : Sto) (Q : VQ) : Prop where
  h : fldP0 F f x S Q
def putFld : List Str → List Val → Str → Val → List Str × List Val
  | n :: ns, v :: vs, f, w => if n = f then (n :: ns, w :: vs) else match putFld ns vs f w with
    | (ms, us) => (n :: ms, v :: us)
  | _, _, f, w => ([f], [w])
def setFP0 (F : Str → Str → Bool) (f : Str) (x v : Val) (S : Sto) (K : Sto → Prop) : Prop := match x with
  | .ref a => match S a with
    | some (.ins c ns vs) => F c f = true ∧ ns.length < 1000 ∧ K (S.put a (match putFld ns vs f v with | (ms, us) => .ins c ms us))
    | _ => False
  | _ => False
structure setFP (F : Str → Str → Bool) (f : Str) (x v : Val) (S : Sto) (K : Sto → Prop) : Prop where
  h : setFP0 F f x v S K
/-- o.f = e -/
@[reducible] def setFldI (F : Str → Str → Bool) (f : Str) (o e : IE) : IS := fun D ρ S => e ρ S (fun v S1 => o ρ S1 (fun x S2 => setFP F f x v S2 fun S3 => D.nx ρ S3) (D.ex ρ)) (D.ex ρ)
/-- C(..): the new instance may change, or it is a value from now on -/
@[reducible] def frzI (f : Bool) (a : Addr) (S : Sto) (Q : VQ) : Prop := match f with
  | false => Q (.ref a) S
  | true => match S a with
    | some (.ins c ns vs) => Q (.ins c ns vs) (S.del a)
    | _ => False
@[reducible] def makeI (Γ : Calls) (c : Str) (f : Bool) (as : IA) : IE := fun ρ S Q E => as ρ S (fun xs S1 => ∀ a, S1 a = none →
  Γ (c ++ ".__init__") (.ref a :: xs) (S1.put a (.ins c [] [])) (fun v S2 => isNon v = true ∧ frzI f a S2 Q) noX) E

end TL

/-! TL2: how plain values and stores stand in the layer's heap; what an expression's, a statement's reading is lifted to. -/
namespace TL
open PySem PySem.Spec L2
open PyProof.Rows hiding St

/-! ### the relation -/
def TupAt (K : PySem.W.Frag) (B : Addr → Prop) (H : Hp) (S : Sto) (a : Addr) (vs : List V) : Prop := (Rd H a (.tup vs) ∧ S a = none ∧ ¬ B a) ∨ ∀ H', SqT K H' a vs
/-- a tuple of which all is known: it has no dict of its own (as a value: .set) -/
def KtAt (B : Addr → Prop) (H : Hp) (S : Sto) (a : Addr) (vs : List V) : Prop := ∃ ob : Obj, H a = some (.frz ob (.tup vs)) ∧ ob.cls = .type "tuple" ∧ ob.dict = none ∧ S a = none ∧ ¬ B a
def ScrAt (K : PySem.W.Frag) (B : Addr → Prop) (H : Hp) (S : Sto) (a : Addr) (vs : List V) : Prop := (Rd H a (.lst vs) ∧ S a = none ∧ ¬ B a) ∨ ∀ H', SqL K H' a vs
mutual
inductive RV (K : PySem.W.Frag) (B : Addr → Prop) (H : Hp) (S : Sto) : Val → V → Prop
  | non : RV K B H S .non .non
  | bl (b : Bool) : RV K B H S (.bl b) (.bl b)
  | int (i : Int) : RV K B H S (.int i) (.int i)
  | str (x : Str) : RV K B H S (.str x) (.str x)
  | ty (n : String) : RV K B H S (.ty n) (.ty n)
  | ref (a : Addr) : RV K B H S (.ref a) (.ref a)
  | fn (f : Str) : RV K B H S (.fn f) (.ref (He.ga K f))
  | tup {a : Addr} {xs : List Val} {vs : List V} : TupAt K B H S a vs → RVs K B H S xs vs → RV K B H S (.tup xs) (.ref a)
  | kt {a : Addr} {xs : List Val} {vs : List V} : KtAt B H S a vs → RVs K B H S xs vs → RV K B H S (.set xs) (.ref a)
  | lst {a : Addr} {xs : List Val} {vs : List V} : H a = some (.lst vs) → S a = none ∧ ¬ B a → RVs K B H S xs vs → RV K B H S (.lst xs) (.ref a)
  | scr {a : Addr} {ns : List Int} : ScrAt K B H S a (ns.map V.int) → RV K B H S (.scr ns) (.ref a)
  | ins {a dx : Addr} {c : Str} {ns : List Str} {vs : List Val} {fs : List (Str × V)} : H a = some (.ins (He.ga K c) dx fs) → S a = none ∧ ¬ B a → fs.map (·.1) = ns → RVs K B H S vs (fs.map (·.2)) → RV K B H S (.ins c ns vs) (.ref a)
inductive RVs (K : PySem.W.Frag) (B : Addr → Prop) (H : Hp) (S : Sto) : List Val → List V → Prop
  | nil : RVs K B H S [] []
  | cons {x : Val} {xs : List Val} {v : V} {vs : List V} : RV K B H S x v → RVs K B H S xs vs → RVs K B H S (x :: xs) (v :: vs)
end

/-- what is not of S stays as it is -/
def Ext (S S' : Sto) (H H' : Hp) : Prop := ∀ a o, S a = none → H a = some o → S' a = none ∧ H' a = some o
theorem Ext.refl {S : Sto} {H : Hp} : Ext S S H H := fun _ _ h1 h2 => ⟨h1, h2⟩
theorem Ext.trans {S S1 S2 : Sto} {H H1 H2 : Hp} (a : Ext S S1 H H1) (b : Ext S1 S2 H1 H2) : Ext S S2 H H2 := fun c o h1 h2 =>
  let ⟨h3, h4⟩ := a c o h1 h2
  b c o h3 h4
section
variable {K : PySem.W.Frag} {B : Addr → Prop} {H H' : Hp} {S S' : Sto}
/-- the same of what B does not hold -/
def ExtB (B : Addr → Prop) (S S' : Sto) (H H' : Hp) : Prop := ∀ a o, S a = none → ¬ B a → H a = some o → S' a = none ∧ H' a = some o
theorem Ext.b (e : Ext S S' H H') : ExtB B S S' H H' := fun a o h1 _ h2 => e a o h1 h2
theorem Rd.ext {a : Addr} {o : HO} (e : ExtB B S S' H H') (hs : S a = none ∧ ¬ B a) (h : Rd H a o) : Rd H' a o ∧ S' a = none ∧ ¬ B a := by
  rcases h with h | ⟨u, h⟩
  · obtain ⟨h1, h2⟩ := e a _ hs.1 hs.2 h
    exact ⟨.inl h2, h1, hs.2⟩
  · obtain ⟨h1, h2⟩ := e a _ hs.1 hs.2 h
    exact ⟨.inr ⟨u, h2⟩, h1, hs.2⟩
theorem TupAt.extB {a : Addr} {vs : List V} (e : ExtB B S S' H H') (h : TupAt K B H S a vs) : TupAt K B H' S' a vs := by
  rcases h with ⟨h, hs⟩ | h
  · exact .inl (Rd.ext e hs h)
  · exact .inr h
theorem KtAt.extB {a : Addr} {vs : List V} (e : ExtB B S S' H H') (h : KtAt B H S a vs) : KtAt B H' S' a vs := by
  obtain ⟨ob, h1, h2, h3, h4, h5⟩ := h
  obtain ⟨g1, g2⟩ := e a _ h4 h5 h1
  exact ⟨ob, g2, h2, h3, g1, h5⟩
theorem KtAt.at {a : Addr} {vs : List V} (h : KtAt B H S a vs) : TupAt K B H S a vs := by
  obtain ⟨ob, h1, h2, h3, h4, h5⟩ := h
  exact .inl ⟨.inr ⟨ob, h1⟩, h4, h5⟩
theorem ScrAt.extB {a : Addr} {vs : List V} (e : ExtB B S S' H H') (h : ScrAt K B H S a vs) : ScrAt K B H' S' a vs := by
  rcases h with ⟨h, hs⟩ | h
  · exact .inl (Rd.ext e hs h)
  · exact .inr h
theorem TupAt.ext {a : Addr} {vs : List V} (e : Ext S S' H H') (h : TupAt K B H S a vs) : TupAt K B H' S' a vs := h.extB e.b
theorem ScrAt.ext {a : Addr} {vs : List V} (e : Ext S S' H H') (h : ScrAt K B H S a vs) : ScrAt K B H' S' a vs := h.extB e.b
theorem TupAt.sq {a : Addr} {vs : List V} (h : TupAt K B H S a vs) : SqT K H a vs := by
  rcases h with ⟨h, hs⟩ | h
  · exact .inl h
  · exact h H
theorem ScrAt.sq {a : Addr} {vs : List V} (h : ScrAt K B H S a vs) : SqL K H a vs := by
  rcases h with ⟨h, hs⟩ | h
  · exact .inl h
  · exact h H
mutual
theorem RV.extB (e : ExtB B S S' H H') : ∀ {x : Val} {v : V}, RV K B H S x v → RV K B H' S' x v
  | _, _, .non => .non
  | _, _, .bl b => .bl b
  | _, _, .int i => .int i
  | _, _, .str x => .str x
  | _, _, .ty n => .ty n
  | _, _, .ref a => .ref a
  | _, _, .fn f => .fn f
  | _, _, .tup h r => .tup (h.extB e) (RVs.extB e r)
  | _, _, .kt h r => .kt (h.extB e) (RVs.extB e r)
  | _, _, .lst h hs r => .lst (e _ _ hs.1 hs.2 h).2 ⟨(e _ _ hs.1 hs.2 h).1, hs.2⟩ (RVs.extB e r)
  | _, _, .scr h => .scr (h.extB e)
  | _, _, .ins h hs hn r => .ins (e _ _ hs.1 hs.2 h).2 ⟨(e _ _ hs.1 hs.2 h).1, hs.2⟩ hn (RVs.extB e r)
theorem RVs.extB (e : ExtB B S S' H H') : ∀ {xs : List Val} {vs : List V}, RVs K B H S xs vs → RVs K B H' S' xs vs
  | _, _, .nil => .nil
  | _, _, .cons r t => .cons (RV.extB e r) (RVs.extB e t)
end
theorem RV.ext (e : Ext S S' H H') {x : Val} {v : V} (r : RV K B H S x v) : RV K B H' S' x v := r.extB e.b
theorem RVs.ext (e : Ext S S' H H') {xs : List Val} {vs : List V} (r : RVs K B H S xs vs) : RVs K B H' S' xs vs := r.extB e.b
mutual
/-- fewer hidden places -/
theorem RV.lessB {B' : Addr → Prop} (h : ∀ a, B a → B' a) : ∀ {x : Val} {v : V}, RV K B' H S x v → RV K B H S x v
  | _, _, .non => .non
  | _, _, .bl b => .bl b
  | _, _, .int i => .int i
  | _, _, .str x => .str x
  | _, _, .ty n => .ty n
  | _, _, .ref a => .ref a
  | _, _, .fn f => .fn f
  | _, _, .tup t r => .tup (t.elim (fun ⟨a1, a2, a3⟩ => .inl ⟨a1, a2, fun z => a3 (h _ z)⟩) .inr) (RVs.lessB h r)
  | _, _, .kt ⟨ob, h1, h2, h3, h4, h5⟩ r => .kt ⟨ob, h1, h2, h3, h4, fun z => h5 (h _ z)⟩ (RVs.lessB h r)
  | _, _, .lst t hs r => .lst t ⟨hs.1, fun z => hs.2 (h _ z)⟩ (RVs.lessB h r)
  | _, _, .scr t => .scr (t.elim (fun ⟨a1, a2, a3⟩ => .inl ⟨a1, a2, fun z => a3 (h _ z)⟩) .inr)
  | _, _, .ins t hs hn r => .ins t ⟨hs.1, fun z => hs.2 (h _ z)⟩ hn (RVs.lessB h r)
theorem RVs.lessB {B' : Addr → Prop} (h : ∀ a, B a → B' a) : ∀ {xs : List Val} {vs : List V}, RVs K B' H S xs vs → RVs K B H S xs vs
  | _, _, .nil => .nil
  | _, _, .cons r t => .cons (RV.lessB h r) (RVs.lessB h t)
end
/-- more hidden places, of which nothing was said -/
structure Wider (B B' : Addr → Prop) (H : Hp) : Prop where
  sub : ∀ a, B a → B' a
  new : ∀ a, B' a → B a ∨ H a = none
theorem Wider.refl : Wider B B H := ⟨fun _ h => h, fun _ h => .inl h⟩
theorem Wider.no {B' : Addr → Prop} (w : Wider B B' H) {a : Addr} {o : HO} (h : H a = some o) (hb : ¬ B a) : ¬ B' a := fun z => (w.new a z).elim hb fun e => by rw [h] at e; cases e
theorem Wider.rd {B' : Addr → Prop} (w : Wider B B' H) {a : Addr} {o : HO} (h : Rd H a o) (hb : ¬ B a) : ¬ B' a := by
  rcases h with h | ⟨u, h⟩
  · exact w.no h hb
  · exact w.no h hb
def More (B : Addr → Prop) (p : Addr) : Addr → Prop := fun a => a = p ∨ B a
theorem Wider.more {p : Addr} (h : H p = none) : Wider B (More B p) H := ⟨fun _ h => .inr h, fun a z => z.elim (fun e => .inr (by rw [e]; exact h)) .inl⟩
mutual
theorem RV.moreB {B' : Addr → Prop} (w : Wider B B' H) : ∀ {x : Val} {v : V}, RV K B H S x v → RV K B' H S x v
  | _, _, .non => .non
  | _, _, .bl b => .bl b
  | _, _, .int i => .int i
  | _, _, .str x => .str x
  | _, _, .ty n => .ty n
  | _, _, .ref a => .ref a
  | _, _, .fn f => .fn f
  | _, _, .tup t r => .tup (t.elim (fun ⟨a1, a2, a3⟩ => .inl ⟨a1, a2, w.rd a1 a3⟩) .inr) (RVs.moreB w r)
  | _, _, .kt ⟨ob, h1, h2, h3, h4, h5⟩ r => .kt ⟨ob, h1, h2, h3, h4, w.no h1 h5⟩ (RVs.moreB w r)
  | _, _, .lst t hs r => .lst t ⟨hs.1, w.no t hs.2⟩ (RVs.moreB w r)
  | _, _, .scr t => .scr (t.elim (fun ⟨a1, a2, a3⟩ => .inl ⟨a1, a2, w.rd a1 a3⟩) .inr)
  | _, _, .ins t hs hn r => .ins t ⟨hs.1, w.no t hs.2⟩ hn (RVs.moreB w r)
theorem RVs.moreB {B' : Addr → Prop} (w : Wider B B' H) : ∀ {xs : List Val} {vs : List V}, RVs K B H S xs vs → RVs K B' H S xs vs
  | _, _, .nil => .nil
  | _, _, .cons r t => .cons (RV.moreB w r) (RVs.moreB w t)
end
theorem TupAt.moreB {B' : Addr → Prop} (w : Wider B B' H) {a : Addr} {vs : List V} (t : TupAt K B H S a vs) : TupAt K B' H S a vs := t.elim (fun ⟨a1, a2, a3⟩ => .inl ⟨a1, a2, w.rd a1 a3⟩) .inr
theorem ScrAt.moreB {B' : Addr → Prop} (w : Wider B B' H) {a : Addr} {vs : List V} (t : ScrAt K B H S a vs) : ScrAt K B' H S a vs := t.elim (fun ⟨a1, a2, a3⟩ => .inl ⟨a1, a2, w.rd a1 a3⟩) .inr
theorem RVs.length : ∀ {xs : List Val} {vs : List V}, RVs K B H S xs vs → xs.length = vs.length
  | _, _, .nil => rfl
  | _, _, .cons _ t => congrArg Nat.succ (RVs.length t)
theorem RVs.get : ∀ {xs : List Val} {vs : List V} {i : Nat} {x : Val}, RVs K B H S xs vs → xs[i]? = some x → ∃ v, vs[i]? = some v ∧ RV K B H S x v
  | _, _, _, _, .nil, e => by simp at e
  | _, _, 0, _, .cons r _, e => by simp at e; subst e; exact ⟨_, rfl, r⟩
  | _, _, i + 1, x, .cons _ t, e => by
    obtain ⟨v, h1, h2⟩ := RVs.get (i := i) (x := x) t (by simpa using e)
    exact ⟨v, by simpa using h1, h2⟩
theorem RVs.getR : ∀ {xs : List Val} {vs : List V} {i : Nat} {v : V}, RVs K B H S xs vs → vs[i]? = some v → ∃ x, xs[i]? = some x ∧ RV K B H S x v
  | _, _, _, _, .nil, e => by simp at e
  | _, _, 0, _, .cons r _, e => by simp at e; subst e; exact ⟨_, rfl, r⟩
  | _, _, i + 1, v, .cons _ t, e => by
    obtain ⟨x, h1, h2⟩ := RVs.getR (i := i) (v := v) t (by simpa using e)
    exact ⟨x, by simpa using h1, h2⟩
theorem RVs.append : ∀ {xs ys : List Val} {vs ws : List V}, RVs K B H S xs vs → RVs K B H S ys ws → RVs K B H S (xs ++ ys) (vs ++ ws)
  | _, _, _, _, .nil, s => s
  | _, _, _, _, .cons r t, s => .cons r (RVs.append t s)
theorem RVs.take : ∀ {xs : List Val} {vs : List V} (n : Nat), RVs K B H S xs vs → RVs K B H S (xs.take n) (vs.take n)
  | _, _, 0, _ => .nil
  | _, _, _ + 1, .nil => .nil
  | _, _, n + 1, .cons r t => .cons r (RVs.take n t)
theorem RVs.drop : ∀ {xs : List Val} {vs : List V} (n : Nat), RVs K B H S xs vs → RVs K B H S (xs.drop n) (vs.drop n)
  | _, _, 0, r => r
  | _, _, _ + 1, .nil => .nil
  | _, _, n + 1, .cons _ t => RVs.drop n t
theorem RVs.set {x : Val} {v : V} (r : RV K B H S x v) : ∀ {xs : List Val} {vs : List V} (i : Nat), RVs K B H S xs vs → RVs K B H S (xs.set i x) (vs.set i v)
  | _, _, _, .nil => .nil
  | _, _, 0, .cons _ t => .cons r t
  | _, _, i + 1, .cons q t => .cons q (RVs.set r i t)
theorem RVs.eraseIdx : ∀ {xs : List Val} {vs : List V} (i : Nat), RVs K B H S xs vs → RVs K B H S (xs.eraseIdx i) (vs.eraseIdx i)
  | _, _, _, .nil => .nil
  | _, _, 0, .cons _ t => t
  | _, _, i + 1, .cons q t => .cons q (RVs.eraseIdx i t)
theorem RVs.dropLast : ∀ {xs : List Val} {vs : List V}, RVs K B H S xs vs → RVs K B H S xs.dropLast vs.dropLast
  | _, _, .nil => .nil
  | _, _, .cons _ .nil => .nil
  | _, _, .cons q (.cons r t) => .cons q (RVs.dropLast (.cons r t))
theorem RVs.reverse {xs : List Val} {vs : List V} (r : RVs K B H S xs vs) : RVs K B H S xs.reverse vs.reverse := by
  induction xs generalizing vs with
  | nil => cases r; exact .nil
  | cons x xs ih =>
    cases r with
    | cons h t =>
      rw [List.reverse_cons, List.reverse_cons]
      exact (ih t).append (.cons h .nil)
theorem RVs.ints : ∀ {xs : List Val} {vs : List V} {ns : List Int}, RVs K B H S xs vs → intsOf xs = some ns → vs = ns.map V.int
  | [], _, _, .nil, e => by cases e; rfl
  | x :: xs, _, ns, .cons (v := v) (vs := vs) h t, e => by
    cases x with
    | int i =>
      cases h
      have e2 : (intsOf xs).map (i :: ·) = some ns := e
      cases q : intsOf xs with
      | none => rw [q] at e2; cases e2
      | some ms =>
        rw [q] at e2
        cases e2
        rw [RVs.ints t q]
        rfl
    | _ => cases e
theorem RVs.of_ints : ∀ (ns : List Int), RVs K B H S (ns.map Val.int) (ns.map V.int)
  | [] => .nil
  | n :: ns => .cons (.int n) (RVs.of_ints ns)
end

/-! ### the store -/
def CellOk (K : PySem.W.Frag) (B : Addr → Prop) (H : Hp) (S : Sto) (a : Addr) : Cell → Prop
  | .lst xs => ∃ vs, H a = some (.lst vs) ∧ RVs K B H S xs vs
  | .dict kvs => ∃ us : List (Key × V), H a = some (.dK us) ∧ us.map (·.1) = kvs.map (·.1) ∧ RVs K B H S (kvs.map (·.2)) (us.map (·.2))
  | .ins c ns vs => ∃ dx fs, H a = some (.ins (He.ga K c) dx fs) ∧ fs.map (·.1) = ns ∧ RVs K B H S vs (fs.map (·.2))
structure HR (K : PySem.W.Frag) (B : Addr → Prop) (H : Hp) (S : Sto) : Prop where
  ok : ∀ a c, S a = some c → CellOk K B H S a c
  hid : ∀ a, B a → S a = none ∧ ∃ o, H a = some o
section
variable {K : PySem.W.Frag} {B : Addr → Prop} {H H' : Hp} {S S' : Sto}
theorem CellOk.extB {a : Addr} {c : Cell} (e : ExtB B S S' H H') (ha : H' a = H a) (h : CellOk K B H S a c) : CellOk K B H' S' a c := by
  cases c with
  | lst xs =>
    obtain ⟨vs, h1, h2⟩ := h
    exact ⟨vs, ha.trans h1, h2.extB e⟩
  | dict kvs =>
    obtain ⟨us, h1, h2, h3⟩ := h
    exact ⟨us, ha.trans h1, h2, h3.extB e⟩
  | ins c ns vs =>
    obtain ⟨dx, fs, h1, h2, h3⟩ := h
    exact ⟨dx, fs, ha.trans h1, h2, h3.extB e⟩
theorem CellOk.there {a : Addr} {c : Cell} (h : CellOk K B H S a c) : ∃ o, H a = some o := by
  cases c with
  | lst xs =>
    obtain ⟨vs, h1, h2⟩ := h
    exact ⟨_, h1⟩
  | dict kvs =>
    obtain ⟨us, h1, h2, h3⟩ := h
    exact ⟨_, h1⟩
  | ins c ns vs =>
    obtain ⟨dx, fs, h1, h2, h3⟩ := h
    exact ⟨_, h1⟩
theorem HR.free (r : HR K B H S) {a : Addr} (h : H a = none) : S a = none ∧ ¬ B a := by
  refine ⟨?_, fun hb => ?_⟩
  · cases q : S a with
    | none => rfl
    | some c =>
      obtain ⟨o, e⟩ := (r.ok a c q).there
      rw [h] at e
      cases e
  · obtain ⟨_, o, e⟩ := r.hid a hb
    rw [h] at e
    cases e
/-- a new object that no value of S tells of -/
theorem Ext.new {p : Addr} {o : HO} (h : H p = none) : Ext S S H (upd H p o) := fun a u hs ha => by
  refine ⟨hs, ?_⟩
  rw [upd_ne (ne_of_none ha h)]
  exact ha
theorem HR.new (r : HR K B H S) {p : Addr} {o : HO} (h : H p = none) : HR K B (upd H p o) S := ⟨fun a c q => by
  refine (r.ok a c q).extB (Ext.new h).b ?_
  obtain ⟨u, e⟩ := (r.ok a c q).there
  rw [upd_ne (ne_of_none e h)], fun a hb => by
  obtain ⟨h1, u, h2⟩ := r.hid a hb
  exact ⟨h1, u, ((Ext.new h) a u h1 h2).2⟩⟩
/-- a new cell -/
theorem Sto.put_same {a : Addr} {c : Cell} : S.put a c a = some c := by unfold Sto.put; rw [if_pos rfl]
theorem Sto.put_ne {a b : Addr} {c : Cell} (h : b ≠ a) : S.put a c b = S b := by unfold Sto.put; rw [if_neg h]
theorem Sto.del_same {a : Addr} : S.del a a = none := by unfold Sto.del; rw [if_pos rfl]
theorem Sto.del_ne {a b : Addr} (h : b ≠ a) : S.del a b = S b := by unfold Sto.del; rw [if_neg h]
theorem Ext.newCell {p : Addr} {o : HO} {c : Cell} (h : H p = none) : Ext S (S.put p c) H (upd H p o) := fun a u hs ha => by
  have ne := ne_of_none ha h
  rw [upd_ne ne, Sto.put_ne ne]
  exact ⟨hs, ha⟩
theorem HR.newCell (r : HR K B H S) {p : Addr} {o : HO} {c : Cell} (h : H p = none) (hc : CellOk K B (upd H p o) (S.put p c) p c) : HR K B (upd H p o) (S.put p c) := ⟨fun a c' q => by
  by_cases e : a = p
  · subst e
    rw [Sto.put_same] at q
    cases q
    exact hc
  · rw [Sto.put_ne e] at q
    exact (r.ok a c' q).extB (Ext.newCell h).b (upd_ne e), fun a hb => by
  obtain ⟨h1, u, h2⟩ := r.hid a hb
  have z := (Ext.newCell (o := o) (c := c) h) a u h1 h2
  exact ⟨z.1, u, z.2⟩⟩
/-- a cell changed -/
theorem Ext.write {p : Addr} {o : HO} {c c0 : Cell} (h : S p = some c0) : Ext S (S.put p c) H (upd H p o) := fun a u hs ha => by
  have ne : a ≠ p := fun z => by rw [z, h] at hs; cases hs
  rw [upd_ne ne, Sto.put_ne ne]
  exact ⟨hs, ha⟩
theorem HR.write (r : HR K B H S) {p : Addr} {o : HO} {c c0 : Cell} (h : S p = some c0) (hc : CellOk K B (upd H p o) (S.put p c) p c) : HR K B (upd H p o) (S.put p c) := ⟨fun a c' q => by
  by_cases e : a = p
  · subst e
    rw [Sto.put_same] at q
    cases q
    exact hc
  · rw [Sto.put_ne e] at q
    exact (r.ok a c' q).extB (Ext.write h).b (upd_ne e), fun a hb => by
  obtain ⟨h1, u, h2⟩ := r.hid a hb
  have z := (Ext.write (o := o) (c := c) h) a u h1 h2
  exact ⟨z.1, u, z.2⟩⟩
/-- cells let go -/
theorem Ext.less (h : ∀ a, S a = none → S' a = none) : Ext S S' H H := fun a u hs ha => ⟨h a hs, ha⟩
theorem HR.less (r : HR K B H S) (h : ∀ a c, S' a = some c → S a = some c) : HR K B H S' := by
  have hn : ∀ b, S b = none → S' b = none := fun b hb => by
    cases e : S' b with
    | none => rfl
    | some c => rw [h b c e] at hb; cases hb
  exact ⟨fun a c q => (r.ok a c (h a c q)).extB (Ext.less hn).b rfl, fun a hb => ⟨hn a (r.hid a hb).1, (r.hid a hb).2⟩⟩
theorem CellOk.moreB {B' : Addr → Prop} (w : Wider B B' H) {a : Addr} {c : Cell} (h : CellOk K B H S a c) : CellOk K B' H S a c := by
  cases c with
  | lst xs =>
    obtain ⟨vs, h1, h2⟩ := h
    exact ⟨vs, h1, h2.moreB w⟩
  | dict kvs =>
    obtain ⟨us, h1, h2, h3⟩ := h
    exact ⟨us, h1, h2, h3.moreB w⟩
  | ins c ns vs =>
    obtain ⟨dx, fs, h1, h2, h3⟩ := h
    exact ⟨dx, fs, h1, h2, h3.moreB w⟩
theorem CellOk.lessB {B' : Addr → Prop} (w : ∀ a, B a → B' a) {a : Addr} {c : Cell} (h : CellOk K B' H S a c) : CellOk K B H S a c := by
  cases c with
  | lst xs =>
    obtain ⟨vs, h1, h2⟩ := h
    exact ⟨vs, h1, RVs.lessB w h2⟩
  | dict kvs =>
    obtain ⟨us, h1, h2, h3⟩ := h
    exact ⟨us, h1, h2, RVs.lessB w h3⟩
  | ins c ns vs =>
    obtain ⟨dx, fs, h1, h2, h3⟩ := h
    exact ⟨dx, fs, h1, h2, RVs.lessB w h3⟩
theorem HR.lessB {B' : Addr → Prop} (w : ∀ a, B a → B' a) (r : HR K B' H S) : HR K B H S := ⟨fun a c q => (r.ok a c q).lessB w, fun a hb => r.hid a (w a hb)⟩
/-- a new object is laid and hidden -/
theorem HR.hide (r : HR K B H S) {p : Addr} {o : HO} (h : H p = none) : HR K (More B p) (upd H p o) S := ⟨fun a c q => by
  refine ((r.ok a c q).moreB (Wider.more h)).extB (Ext.new h).b ?_
  obtain ⟨u, e⟩ := (r.ok a c q).there
  rw [upd_ne (ne_of_none e h)], fun a hb => by
  rcases hb with e | hb
  · subst e
    exact ⟨(r.free h).1, o, upd_same⟩
  · obtain ⟨h1, u, h2⟩ := r.hid a hb
    exact ⟨h1, u, ((Ext.new h) a u h1 h2).2⟩⟩
/-- a hidden object is changed -/
theorem ExtB.hidden {p : Addr} {o : HO} (hp : B p) : ExtB B S S H (upd H p o) := fun a u hs hb ha => ⟨hs, by rw [upd_ne (fun z => hb (by rw [z]; exact hp))]; exact ha⟩
theorem HR.hidden (r : HR K B H S) {p : Addr} {o : HO} (hp : B p) : HR K B (upd H p o) S := ⟨fun a c q => by
  have ne : a ≠ p := fun z => by rw [z, (r.hid p hp).1] at q; cases q
  exact (r.ok a c q).extB (ExtB.hidden hp) (upd_ne ne), fun a hb => by
  obtain ⟨h1, u, h2⟩ := r.hid a hb
  by_cases e : a = p
  · subst e
    exact ⟨h1, o, upd_same⟩
  · exact ⟨h1, u, by rw [upd_ne e]; exact h2⟩⟩
theorem lstOf_h {x : Val} {v : V} {xs : List Val} (r : HR K B H S) (h : RV K B H S x v) (e : lstOf S x = some xs) : ∃ p vs, v = .ref p ∧ H p = some (.lst vs) ∧ RVs K B H S xs vs := by
  cases x with
  | lst ys =>
    cases e
    cases h with
    | lst h1 h2 h3 => exact ⟨_, _, rfl, h1, h3⟩
  | ref a =>
    cases h
    have e2 : (match S a with | some (.lst xs) => some xs | _ => none) = some xs := e
    split at e2
    · rename_i ys q
      cases e2
      obtain ⟨vs, h1, h2⟩ := r.ok a _ q
      exact ⟨a, vs, rfl, h1, h2⟩
    · cases e2
  | _ => cases e
theorem lsqOf_sq {x : Val} {v : V} {xs : List Val} (r : HR K B H S) (h : RV K B H S x v) (e : lsqOf S x = some xs) : ∃ p vs, v = .ref p ∧ SqL K H p vs ∧ RVs K B H S xs vs := by
  cases x with
  | scr ns =>
    cases e
    cases h with
    | scr h1 => exact ⟨_, _, rfl, h1.sq, RVs.of_ints ns⟩
  | lst ys =>
    obtain ⟨p, vs, h1, h2, h3⟩ := lstOf_h (xs := xs) r h e
    exact ⟨p, vs, h1, SqL.of h2, h3⟩
  | ref a =>
    obtain ⟨p, vs, h1, h2, h3⟩ := lstOf_h (xs := xs) r h e
    exact ⟨p, vs, h1, SqL.of h2, h3⟩
  | _ => cases e
theorem seqOf_sq {x : Val} {v : V} {xs : List Val} (r : HR K B H S) (h : RV K B H S x v) (e : seqOf S x = some xs) : ∃ p vs, v = .ref p ∧ ((SqL K H p vs ∧ lsqOf S x = some xs) ∨ (SqT K H p vs ∧ TupAt K B H S p vs ∧ x = .tup xs)) ∧ RVs K B H S xs vs := by
  cases x with
  | tup ys =>
    cases e
    cases h with
    | tup h1 h2 => exact ⟨_, _, rfl, .inr ⟨h1.sq, h1, rfl⟩, h2⟩
  | lst ys =>
    obtain ⟨p, vs, h1, h2, h3⟩ := lsqOf_sq (xs := xs) r h e
    exact ⟨p, vs, h1, .inl ⟨h2, e⟩, h3⟩
  | scr ys =>
    obtain ⟨p, vs, h1, h2, h3⟩ := lsqOf_sq (xs := xs) r h e
    exact ⟨p, vs, h1, .inl ⟨h2, e⟩, h3⟩
  | ref a =>
    obtain ⟨p, vs, h1, h2, h3⟩ := lsqOf_sq (xs := xs) r h e
    exact ⟨p, vs, h1, .inl ⟨h2, e⟩, h3⟩
  | _ => cases e
theorem someP_some {α : Type} {o : Option α} {P : α → Prop} (h : someP o P) : ∃ x, o = some x ∧ P x := by
  cases o with
  | none => exact h.elim
  | some x => exact ⟨x, rfl, h⟩
end

/-! ### names' values -/
def RSt (K : PySem.W.Frag) (B : Addr → Prop) (H : Hp) (S : Sto) (ρ : ISt) (σ : St) : Prop := ρ.length = σ.length ∧ ∀ (i : Nat) (v : Val), ρ[i]? = some (some v) → ∃ x, σ[i]? = some (some x) ∧ RV K B H S v x
structure Rl (K : PySem.W.Frag) (B : Addr → Prop) (ρ : ISt) (S : Sto) (σ : St) (H : Hp) : Prop where
  st : RSt K B H S ρ σ
  hr : HR K B H S
section
variable {K : PySem.W.Frag} {B : Addr → Prop} {H H' : Hp} {S S' : Sto} {ρ : ISt} {σ : St}
theorem RSt.extB (e : ExtB B S S' H H') (r : RSt K B H S ρ σ) : RSt K B H' S' ρ σ := ⟨r.1, fun i v h => by
  obtain ⟨x, h1, h2⟩ := r.2 i v h
  exact ⟨x, h1, h2.extB e⟩⟩
theorem RSt.moreB {B' : Addr → Prop} (w : Wider B B' H) (r : RSt K B H S ρ σ) : RSt K B' H S ρ σ := ⟨r.1, fun i v h => by
  obtain ⟨x, h1, h2⟩ := r.2 i v h
  exact ⟨x, h1, h2.moreB w⟩⟩
theorem RSt.ext (e : Ext S S' H H') (r : RSt K B H S ρ σ) : RSt K B H' S' ρ σ := ⟨r.1, fun i v h => by
  obtain ⟨x, h1, h2⟩ := r.2 i v h
  exact ⟨x, h1, h2.ext e⟩⟩
theorem Rl.ext (r : Rl K B ρ S σ H) (e : Ext S S' H H') (h : HR K B H' S') : Rl K B ρ S' σ H' := ⟨r.st.ext e, h⟩
theorem getS_some : ∀ {ρ : ISt} {i : Nat} {P : Val → Prop}, getS ρ i P → ∃ v, ρ[i]? = some (some v) ∧ P v
  | some v :: _, 0, P, h => ⟨v, rfl, h⟩
  | none :: _, 0, P, h => h.elim
  | [], _, P, h => h.elim
  | o :: r, i + 1, P, h => by
    have h : getS r i P := h
    obtain ⟨v, h1, h2⟩ := getS_some h
    exact ⟨v, by simpa using h1, h2⟩
theorem setS_eq : ∀ (ρ : ISt) (i : Nat) (v : Val), setS ρ i v = ρ.set i (some v)
  | [], i, v => by cases i <;> rfl
  | o :: r, 0, v => rfl
  | o :: r, i + 1, v => by
    show o :: setS r i v = _
    rw [setS_eq r i v]
    rfl
theorem wipe1_eq : ∀ (ρ : ISt) (i : Nat), wipe1 ρ i = ρ.set i none
  | [], i => by cases i <;> rfl
  | o :: r, 0 => rfl
  | o :: r, i + 1 => by
    show o :: wipe1 r i = _
    rw [wipe1_eq r i]
    rfl
theorem RSt.set (r : RSt K B H S ρ σ) {i : Nat} {v : Val} {x : V} (h : RV K B H S v x) : RSt K B H S (setS ρ i v) (σ.set i (some x)) := by
  rw [setS_eq]
  refine ⟨by rw [List.length_set, List.length_set]; exact r.1, fun j w e => ?_⟩
  by_cases hj : i = j
  · subst hj
    by_cases hl : i < ρ.length
    · rw [List.getElem?_set_self hl] at e
      cases e
      exact ⟨x, List.getElem?_set_self (by rw [← r.1]; exact hl), h⟩
    · rw [List.getElem?_eq_none (by rw [List.length_set]; omega)] at e
      cases e
  · rw [List.getElem?_set_ne hj] at e ⊢
    exact r.2 j w e
theorem RSt.wipe (r : RSt K B H S ρ σ) : ∀ (is : List Nat), RSt K B H S (wipeI ρ is) (wipe σ is)
  | [] => r
  | i :: is => by
    have q := RSt.wipe r is
    show RSt K B H S (wipe1 (wipeI ρ is) i) ((L2.wipe σ is).set i none)
    rw [wipe1_eq]
    refine ⟨by rw [List.length_set, List.length_set]; exact q.1, fun j w e => ?_⟩
    by_cases hj : i = j
    · subst hj
      by_cases hl : i < (wipeI ρ is).length
      · rw [List.getElem?_set_self hl] at e
        cases e
      · rw [List.getElem?_eq_none (by rw [List.length_set]; omega)] at e
        cases e
    · rw [List.getElem?_set_ne hj] at e ⊢
      exact q.2 j w e
end

/-! ### the lift -/
/-- an exception, as it lies: its class, its own dict -/
def XR (K : PySem.W.Frag) (B : Addr → Prop) (H : Hp) (S : Sto) (e : Exc) (c : Value) (d : Option Addr) : Prop :=
  c = .ref (He.ga K e.cls) ∧ ((d = none ∧ e.ns = [] ∧ e.vs = []) ∨ ∃ dd fs, d = some dd ∧ H dd = some (.xd fs) ∧ (S dd = none ∧ ¬ B dd) ∧ fs.map (·.1) = e.ns ∧ RVs K B H S e.vs (fs.map (·.2)))
def QR (K : PySem.W.Frag) (B : Addr → Prop) (S : Sto) (H : Hp) (Qi : VQ) (Q : VK) : Prop := ∀ v S' x H', RV K B H' S' v x → HR K B H' S' → Ext S S' H H' → Qi v S' → Q x H'
def ER (K : PySem.W.Frag) (W : WX) (B : Addr → Prop) (σ : St) (S : Sto) (H : Hp) (Ei : EQ) : Prop := ∀ e S' c d H', XR K B H' S' e c d → HR K B H' S' → Ext S S' H H' → Ei e S' → W c d σ H'
def liftE (K : PySem.W.Frag) (W : WX) (m : IE) : TE := fun σ H Q => ∃ ρ S B Qi Ei, Rl K B ρ S σ H ∧ m ρ S Qi Ei ∧ QR K B S H Qi Q ∧ ER K W B σ S H Ei
def liftA (K : PySem.W.Frag) (W : WX) (m : IA) : TA := fun σ H Q => ∃ ρ S B Qi Ei, Rl K B ρ S σ H ∧ m ρ S Qi Ei ∧ (∀ vs S' xs H', RVs K B H' S' vs xs → HR K B H' S' → Ext S S' H H' → Qi vs S' → Q xs H') ∧ ER K W B σ S H Ei
def liftT (K : PySem.W.Frag) (W : WX) (m : IT) : TT := fun σ H Q => ∃ ρ S B Qi Ei, Rl K B ρ S σ H ∧ m ρ S Qi Ei ∧ (∀ k S' H', HR K B H' S' → Ext S S' H H' → Qi k S' → Q k H') ∧ ER K W B σ S H Ei
def liftO (K : PySem.W.Frag) (W : WX) (m : IO) : TO := fun σ H Q => ∃ ρ S B Qi Ei, Rl K B ρ S σ H ∧ m ρ S Qi Ei ∧ (∀ k S' H', HR K B H' S' → Ext S S' H H' → Qi k S' → Q k H') ∧ ER K W B σ S H Ei
/-- what is wanted behind a statement, in both -/
structure DR (K : PySem.W.Frag) (W : WX) (B : Addr → Prop) (S : Sto) (H : Hp) (Di : IEnds) (D : Ends) : Prop where
  nx : ∀ ρ' S' σ' H', Rl K B ρ' S' σ' H' → Ext S S' H H' → Di.nx ρ' S' → D.nx σ' H'
  rt : QR K B S H Di.rt D.rt
  ex : ∀ ρ' e S' σ' c d H', RSt K B H' S' ρ' σ' → XR K B H' S' e c d → HR K B H' S' → Ext S S' H H' → Di.ex ρ' e S' → W c d σ' H'
  bk : ∀ ρ' S' σ' H', Rl K B ρ' S' σ' H' → Ext S S' H H' → Di.bk ρ' S' → D.bk σ' H'
  ct : ∀ ρ' S' σ' H', Rl K B ρ' S' σ' H' → Ext S S' H H' → Di.ct ρ' S' → D.ct σ' H'
def liftS (K : PySem.W.Frag) (W : WX) (m : IS) : TS := fun D σ H => ∃ ρ S B Di, Rl K B ρ S σ H ∧ m Di ρ S ∧ DR K W B S H Di D
section
variable {K : PySem.W.Frag} {B : Addr → Prop} {H H1 H' : Hp} {S S1 S' : Sto} {ρ : ISt} {σ : St} {W : WX}
theorem QR.ext {Qi : VQ} {Q : VK} (q : QR K B S H Qi Q) (e : Ext S S1 H H1) : QR K B S1 H1 Qi Q := fun v S' x H' h1 h2 h3 h4 => q v S' x H' h1 h2 (e.trans h3) h4
theorem ER.ext {Ei : EQ} (q : ER K W B σ S H Ei) (e : Ext S S1 H H1) : ER K W B σ S1 H1 Ei := fun v S' c d H' h1 h2 h3 h4 => q v S' c d H' h1 h2 (e.trans h3) h4
theorem DR.ext {Di : IEnds} {D : Ends} (q : DR K W B S H Di D) (e : Ext S S1 H H1) : DR K W B S1 H1 Di D :=
  ⟨fun a b c d h1 h2 => q.nx a b c d h1 (e.trans h2), q.rt.ext e, fun a b c d f g h h1 h2 h3 h4 => q.ex a b c d f g h h1 h2 h3 (e.trans h4), fun a b c d h1 h2 => q.bk a b c d h1 (e.trans h2), fun a b c d h1 h2 => q.ct a b c d h1 (e.trans h2)⟩
/-- a statement's exceptions, where the names are as they are -/
theorem DR.er {Di : IEnds} {D : Ends} (q : DR K W B S H Di D) (r : RSt K B H S ρ σ) : ER K W B σ S H (Di.ex ρ) := fun e S' c d H' h1 h2 h3 h4 => q.ex ρ e S' σ c d H' (r.ext h3) h1 h2 h3 h4
end
section
variable {X : Cx} {e : Expr} {st : Stmt}
theorem _root_.L2.PE.imp {t t' : TE} (h : PE X e t) (i : ∀ σ H Q, t' σ H Q → t σ H Q) : PE X e t' := ⟨fun pins s σ H Q I q => h.run pins s σ H Q I (i _ _ _ q)⟩
theorem _root_.L2.PT.imp {t t' : TT} (h : PT X e t) (i : ∀ σ H Q, t' σ H Q → t σ H Q) : PT X e t' := ⟨fun pins s σ H Q I q => h.run pins s σ H Q I (i _ _ _ q)⟩
theorem _root_.L2.PW.imp {t t' : TT} (h : PW X e t) (i : ∀ σ H Q, t' σ H Q → t σ H Q) : PW X e t' := ⟨fun wh pins s σ H Q I q => h.run wh pins s σ H Q I (i _ _ _ q)⟩
theorem _root_.L2.PA.imp {es : List Expr} {t t' : TA} (h : PA X es t) (i : ∀ σ H Q, t' σ H Q → t σ H Q) : PA X es t' := ⟨fun pos pins s σ H Q I q => h.run pos pins s σ H Q I (i _ _ _ q)⟩
theorem _root_.L2.PS.imp {t t' : TS} (h : PS X st t) (i : ∀ D σ H, t' D σ H → t D σ H) : PS X st t' := ⟨fun pins s σ H D I q => h.run pins s σ H D I (i _ _ _ q)⟩
theorem _root_.L2.PSs.imp {sts : List Stmt} {t t' : TS} (h : PSs X sts t) (i : ∀ D σ H, t' D σ H → t D σ H) : PSs X sts t' := ⟨fun pins s σ H D I q => h.run pins s σ H D I (i _ _ _ q)⟩
theorem _root_.L2.PO.imp {e : Option Expr} {t t' : TO} (h : PO X e t) (i : ∀ σ H Q, t' σ H Q → t σ H Q) : PO X e t' := ⟨fun pins s σ H Q I q => h.run pins s σ H Q I (i _ _ _ q)⟩
end

end TL

/-! TL3: operators, displays, built-ins, places: each plain rule is kept by the layer's. -/
namespace TL
open PySem PySem.Spec L2
open PyProof.Rows hiding St

section
variable {K : PySem.W.Frag} {B : Addr → Prop} {H H1 H' : Hp} {S S1 S' : Sto} {Qi : VQ} {Q : VK}
theorem QR.same (q : QR K B S H Qi Q) (hr : HR K B H S) {v : Val} {x : V} (r : RV K B H S v x) (h : Qi v S) : Q x H := q v S x H r hr Ext.refl h
theorem QR.tup (q : QR K B S H Qi Q) (hr : HR K B H S) {xs : List Val} {vs : List V} (r : RVs K B H S xs vs) (h : Qi (.tup xs) S) : ∀ p, H p = none → Q (.ref p) (upd H p (.tup vs)) := fun p hp =>
  q (.tup xs) S (.ref p) _ (.tup (.inl ⟨.inl upd_same, hr.free hp⟩) (r.ext (Ext.new hp))) (hr.new hp) (Ext.new hp) h
theorem QR.lst (q : QR K B S H Qi Q) (hr : HR K B H S) {xs : List Val} {vs : List V} {c : Bool} (r : RVs K B H S xs vs) (h : newL c xs S Qi) : ∀ p, H p = none → Q (.ref p) (upd H p (.lst vs)) := fun p hp => by
  cases c with
  | false => exact q (.lst xs) S (.ref p) _ (.lst upd_same (hr.free hp) (r.ext (Ext.new hp))) (hr.new hp) (Ext.new hp) h
  | true =>
    have e : Ext S (S.put p (.lst xs)) H (upd H p (.lst vs)) := Ext.newCell hp
    exact q (.ref p) (S.put p (.lst xs)) (.ref p) _ (.ref p) (hr.newCell hp ⟨vs, upd_same, r.ext e⟩) e (h p (hr.free hp).1)
/-- a cell's new content -/
theorem QR.wrote (q : QR K B S H Qi Q) (hr : HR K B H S) {a : Addr} {xs ys : List Val} {vs : List V} {v : Val} {x : V} (ha : S a = some (.lst xs)) (r : RVs K B H S ys vs) (rv : RV K B H S v x) (h : Qi v (S.put a (.lst ys))) : Q x (upd H a (.lst vs)) := by
  have e : Ext S (S.put a (.lst ys)) H (upd H a (.lst vs)) := Ext.write ha
  exact q v _ x _ (rv.ext e) (hr.write ha ⟨vs, upd_same, r.ext e⟩) e h
end

/-! ### what a plain rule must keep -/
def P1Ok (K : PySem.W.Frag) (r : P1) (rr : V → Hp → VK → Prop) : Prop := ∀ (B : Addr → Prop) (x : Val) (v : V) (S : Sto) (H : Hp) (Qi : VQ) (Q : VK), RV K B H S x v → HR K B H S → r x S Qi → QR K B S H Qi Q → rr v H Q
def P2Ok (K : PySem.W.Frag) (r : P2) (rr : R2) : Prop := ∀ (B : Addr → Prop) (x y : Val) (v u : V) (S : Sto) (H : Hp) (Qi : VQ) (Q : VK), RV K B H S x v → RV K B H S y u → HR K B H S → r x y S Qi → QR K B S H Qi Q → rr v u H Q
def PLOk (K : PySem.W.Frag) (r : PL) (rr : List V → Hp → VK → Prop) : Prop := ∀ (B : Addr → Prop) (xs : List Val) (vs : List V) (S : Sto) (H : Hp) (Qi : VQ) (Q : VK), RVs K B H S xs vs → HR K B H S → r xs S Qi → QR K B S H Qi Q → rr vs H Q
def PMOk (K : PySem.W.Frag) (r : Val → PL) (rr : V → List V → Hp → VK → Prop) : Prop := ∀ (B : Addr → Prop) (x : Val) (v : V) (xs : List Val) (vs : List V) (S : Sto) (H : Hp) (Qi : VQ) (Q : VK), RV K B H S x v → RVs K B H S xs vs → HR K B H S → r x xs S Qi → QR K B S H Qi Q → rr v vs H Q

section
variable {X : Cx} {K : PySem.W.Frag} {B : Addr → Prop}
/-! ### arithmetic -/
abbrev rrAdd (K : PySem.W.Frag) : R2 := fun x y H Q => (rI0 (fun i j => V.int (i + j)) x y H Q ∨ (∃ i j, x = .str i ∧ y = .str j ∧ i.length + j.length ≤ sizeLine ∧ Q (.str (i ++ j)) H)) ∨ (rCatA K x y H Q ∨ rCat x y H Q)
theorem op_addP : OpR X (binaryOp .Add) (rrAdd X.K) := (op_add.or op_add_str).or (op_catA.or op_cat)
theorem addP_ok (c : Bool) : P2Ok K (addP c) (rrAdd K) := by
  intro B x y v u S H Qi Q rx ry hr h q
  have lists : (someP (lstOf S x) fun xs => someP (lstOf S y) fun ys => xs.length + ys.length ≤ sizeLine ∧ newL c (xs ++ ys) S Qi) → rrAdd K v u H Q := fun h => by
    obtain ⟨xs, e1, h⟩ := someP_some h
    obtain ⟨ys, e2, hz, h⟩ := someP_some h
    obtain ⟨p, vs, rfl, a1, a2⟩ := lstOf_h hr rx e1
    obtain ⟨p2, us, rfl, b1, b2⟩ := lstOf_h hr ry e2
    refine .inr (.inr ⟨p, p2, vs, us, rfl, rfl, a1, b1, by rw [← a2.length, ← b2.length]; exact hz, q.lst hr (a2.append b2) h⟩)
  unfold addP at h
  split at h
  · cases rx; cases ry; exact .inl (.inl ⟨_, _, rfl, rfl, q.same hr (.int _) h⟩)
  · cases rx; cases ry; exact .inl (.inr ⟨_, _, rfl, rfl, h.1, q.same hr (.str _) h.2⟩)
  · rename_i xs ys
    cases rx with
    | tup h1 r1 =>
    cases ry with
    | tup h2 r2 =>
    obtain ⟨hz, hq⟩ := h
    refine .inr (.inl ⟨_, _, _, _, rfl, rfl, h1.sq, h2.sq, by rw [← r1.length, ← r2.length]; exact hz, fun e => ?_, fun _ e => ?_, fun _ _ => q.tup hr (r1.append r2) hq⟩)
    · subst e
      cases r1
      exact q.same hr (.tup h2 r2) hq
    · subst e
      cases r2
      rw [List.append_nil] at hq
      exact q.same hr (.tup h1 r1) hq
  · exact lists h
theorem subP_ok : P2Ok K subP (rI0 fun i j => .int (i - j)) := by
  intro B x y v u S H Qi Q rx ry hr h q
  unfold subP at h
  split at h
  · cases rx; cases ry; exact ⟨_, _, rfl, rfl, q.same hr (.int _) h⟩
  · exact h.elim
theorem fdivP_ok : P2Ok K fdivP (rI CDivW fun i j => .int (i / j)) := by
  intro B x y v u S H Qi Q rx ry hr h q
  unfold fdivP at h
  split at h
  · cases rx; cases ry; exact ⟨_, _, rfl, rfl, h.1, q.same hr (.int _) h.2⟩
  · exact h.elim
theorem modP_ok : P2Ok K modP (rI (fun _ j => 0 < j) fun i j => .int (i % j)) := by
  intro B x y v u S H Qi Q rx ry hr h q
  unfold modP at h
  split at h
  · cases rx; cases ry; exact ⟨_, _, rfl, rfl, h.1, q.same hr (.int _) h.2⟩
  · exact h.elim
theorem powP_ok : P2Ok K powP (rI CPow fun i j => .int (i ^ j.toNat)) := by
  intro B x y v u S H Qi Q rx ry hr h q
  unfold powP at h
  split at h
  · cases rx; cases ry; exact ⟨_, _, rfl, rfl, h.1, q.same hr (.int _) h.2⟩
  · exact h.elim
theorem negP_ok : P1Ok K negP (rU fun i => .int (-i)) := by
  intro B x v S H Qi Q rx hr h q
  unfold negP at h
  split at h
  · cases rx; exact ⟨_, rfl, q.same hr (.int _) h⟩
  · exact h.elim
/-! ### comparisons -/
def rLex (K : PySem.W.Frag) (p : Int → Int → Bool) : R2 := fun x y H Q => ∃ (a b : Addr) (ns ms : List Int), x = .ref a ∧ y = .ref b ∧ SqT K H a (ns.map V.int) ∧ SqT K H b (ms.map V.int) ∧ Q (.bl (lexP p ns ms)) H
def rCmp (K : PySem.W.Frag) (p : Int → Int → Bool) : R2 := fun x y H Q => rI0 (fun i j => .bl (p i j)) x y H Q ∨ rLex K p x y H Q
theorem cmpP_ok (p : Int → Int → Bool) : P2Ok K (cmpP p) (rCmp K p) := by
  intro B x y v u S H Qi Q rx ry hr h q
  unfold cmpP at h
  split at h
  · cases rx; cases ry; exact .inl ⟨_, _, rfl, rfl, q.same hr (.bl _) h⟩
  · obtain ⟨ns, e1, h⟩ := someP_some h
    obtain ⟨ms, e2, h⟩ := someP_some h
    cases rx with
    | tup h1 r1 => cases ry with
      | tup h2 r2 =>
        have z1 := r1.ints e1
        have z2 := r2.ints e2
        subst z1 z2
        exact .inr ⟨_, _, _, _, rfl, rfl, h1.sq, h2.sq, q.same hr (.bl _) h⟩
  · exact h.elim
theorem isNon_of {B : Addr → Prop} {H : Hp} {S : Sto} {x : Val} {v : V} (r : RV K B H S x v) : isNon x = decide (v = .non) := by
  cases r <;> first | rfl | simp [isNon]
theorem isNP_ok (X : Cx) : ∀ (B : Addr → Prop) (x : Val) (v : V) (S : Sto) (H : Hp) (Qi : VQ) (Q : VK), RV X.K B H S x v → HR X.K B H S → isNP x S Qi → QR X.K B S H Qi Q → Q (.bl (decide (v = .non))) H := by
  intro B x v S H Qi Q rx hr h q
  rw [← isNon_of rx]
  exact q.same hr (.bl _) h
theorem notNP_ok (X : Cx) : ∀ (B : Addr → Prop) (x : Val) (v : V) (S : Sto) (H : Hp) (Qi : VQ) (Q : VK), RV X.K B H S x v → HR X.K B H S → notNP x S Qi → QR X.K B S H Qi Q → Q (.bl (!decide (v = .non))) H := by
  intro B x v S H Qi Q rx hr h q
  rw [← isNon_of rx]
  exact q.same hr (.bl _) h
mutual
theorem toD_dp {B : Addr → Prop} {H : Hp} {S : Sto} : ∀ (x : Val) (v : V) (d : PyData), RV K B H S x v → toD x = some d → Dp K H v d
  | .non, _, _, h, e => by cases h; cases e; exact .non
  | .bl b, _, _, h, e => by cases h; cases e; exact .bl b
  | .int i, _, _, h, e => by cases h; cases e; exact .int i
  | .str i, _, _, h, e => by cases h; cases e; exact .str i
  | .tup xs, _, d, h, e => by
    cases h with
    | tup h1 h2 =>
      have e2 : (toDs xs).map PyData.tuple = some d := e
      cases q : toDs xs with
      | none => rw [q] at e2; cases e2
      | some ds =>
        rw [q] at e2
        cases e2
        exact .tup h1.sq (toDs_dp xs _ ds h2 q)
  | .lst xs, _, d, h, e => by
    cases h with
    | lst h1 _ h2 =>
      have e2 : (toDs xs).map PyData.list = some d := e
      cases q : toDs xs with
      | none => rw [q] at e2; cases e2
      | some ds =>
        rw [q] at e2
        cases e2
        exact .lst (SqL.of h1) (toDs_dp xs _ ds h2 q)
  | .scr _, _, _, _, e => by cases e
  | .set _, _, _, _, e => by cases e
  | .ins _ _ _, _, _, _, e => by cases e
  | .ref _, _, _, _, e => by cases e
  | .ty _, _, _, _, e => by cases e
  | .fn _, _, _, _, e => by cases e
theorem toDs_dp {B : Addr → Prop} {H : Hp} {S : Sto} : ∀ (xs : List Val) (vs : List V) (ds : List PyData), RVs K B H S xs vs → toDs xs = some ds → DpAll K H vs ds
  | [], _, _, h, e => by cases h; cases e; exact .nil
  | x :: xs, _, ds, h, e => by
    cases h with
    | cons h1 h2 =>
      have e2 : (match toD x, toDs xs with
        | some d, some ds => some (d :: ds)
        | _, _ => none) = some ds := e
      split at e2
      · rename_i d ds' q1 q2
        cases e2
        exact .cons (toD_dp x _ d h1 q1) (toDs_dp xs _ ds' h2 q2)
      · cases e2
end
theorem datOf_dp {B : Addr → Prop} {H : Hp} {S : Sto} {x : Val} {v : V} {d : PyData} (hr : HR K B H S) (r : RV K B H S x v) (e : datOf S x = some d) : Dp K H v d ∧ SeqAt.shaped d = true := by
  have main : ∀ x v, RV K B H S x v → (match toD x with
      | some d => if SeqAt.shaped d = true then some d else none
      | none => none) = some d → Dp K H v d ∧ SeqAt.shaped d = true := fun x v r e => by
    cases q : toD x with
    | none => rw [q] at e; cases e
    | some d' =>
      rw [q] at e
      by_cases hs : SeqAt.shaped d' = true
      · have e2 : (if SeqAt.shaped d' = true then some d' else none) = some d := e
        rw [if_pos hs] at e2
        cases e2
        exact ⟨toD_dp x v d r q, hs⟩
      · have e2 : (if SeqAt.shaped d' = true then some d' else none) = some d := e
        rw [if_neg hs] at e2
        cases e2
  cases x with
  | ref a =>
    cases r
    have e2 : (match S a with
      | some (.lst xs) => (match toD (.lst xs) with
        | some d => if SeqAt.shaped d = true then some d else none
        | none => none)
      | _ => none) = some d := e
    split at e2
    · rename_i xs q
      obtain ⟨vs, h1, h2⟩ := hr.ok a _ q
      cases q2 : toDs xs with
      | none =>
        have z : toD (.lst xs) = none := by show (toDs xs).map PyData.list = none; rw [q2]; rfl
        rw [z] at e2
        cases e2
      | some ds =>
        have z : toD (.lst xs) = some (.list ds) := by show (toDs xs).map PyData.list = _; rw [q2]; rfl
        rw [z] at e2
        have e3 : (if SeqAt.shaped (.list ds) = true then some (PyData.list ds) else none) = some d := e2
        by_cases hs : SeqAt.shaped (.list ds) = true
        · rw [if_pos hs] at e3
          cases e3
          exact ⟨.lst (SqL.of h1) (toDs_dp xs _ ds h2 q2), hs⟩
        · rw [if_neg hs] at e3
          cases e3
    · cases e2
  | _ => exact main _ v r e
theorem scalEq_ok {B : Addr → Prop} {H : Hp} {S : Sto} {x y : Val} {v u : V} {b : Bool} (rx : RV K B H S x v) (ry : RV K B H S y u) (e : scalEq x y = some b) : scal v u = true ∧ decide (v = u) = b := by
  unfold scalEq at e
  split at e <;> first
    | (cases e; cases rx; cases ry; exact ⟨rfl, by simp⟩)
    | cases e
def rNil (K : PySem.W.Frag) (neg : Bool) : R2 := fun x y H Q => ∃ (a b : Addr) (xs : List V), x = .ref a ∧ y = .ref b ∧ SqL K H a xs ∧ SqL K H b [] ∧ Q (.bl (if neg then !xs.isEmpty else xs.isEmpty)) H
theorem eqP_ok : P2Ok K eqP (fun x y H Q => (rEq x y H Q ∨ rEqD K x y H Q) ∨ rNil K false x y H Q) := by
  intro B x y v u S H Qi Q rx ry hr h q
  rcases h.h with h | h
  · obtain ⟨b, e, h⟩ := someP_some h
    unfold eqOf at e
    split at e
    · rename_i b' q1
      cases e
      obtain ⟨h1, h2⟩ := scalEq_ok rx ry q1
      exact .inl (.inl ⟨h1, by rw [h2]; exact q.same hr (.bl _) h⟩)
    · split at e
      · rename_i d d' q1 q2
        cases e
        obtain ⟨a1, a2⟩ := datOf_dp hr rx q1
        obtain ⟨b1, b2⟩ := datOf_dp hr ry q2
        exact .inl (.inr ⟨d, d', a1, b1, a2, b2, q.same hr (.bl _) h⟩)
      · cases e
  · obtain ⟨b, e, h⟩ := someP_some h
    unfold nilEq at e
    split at e
    · obtain ⟨xs, e1, rfl⟩ := Option.map_eq_some_iff.mp e
      obtain ⟨p, vs, rfl, a1, a2⟩ := lstOf_h hr rx e1
      obtain ⟨p2, vs2, rfl, b1, b2⟩ := lstOf_h hr ry (show lstOf S (.lst []) = some [] from rfl)
      cases b2
      refine .inr ⟨p, p2, vs, rfl, rfl, SqL.of a1, SqL.of b1, ?_⟩
      rw [show vs.isEmpty = xs.isEmpty from by cases a2 <;> rfl]
      exact q.same hr (.bl _) h
    · cases e
theorem neP_ok : P2Ok K neP (fun x y H Q => (rNe x y H Q ∨ rNeD K x y H Q) ∨ rNil K true x y H Q) := by
  intro B x y v u S H Qi Q rx ry hr h q
  rcases h.h with h | h
  · obtain ⟨b, e, h⟩ := someP_some h
    unfold eqOf at e
    split at e
    · rename_i b' q1
      cases e
      obtain ⟨h1, h2⟩ := scalEq_ok rx ry q1
      exact .inl (.inl ⟨h1, by rw [h2]; exact q.same hr (.bl _) h⟩)
    · split at e
      · rename_i d d' q1 q2
        cases e
        obtain ⟨a1, a2⟩ := datOf_dp hr rx q1
        obtain ⟨b1, b2⟩ := datOf_dp hr ry q2
        exact .inl (.inr ⟨d, d', a1, b1, a2, b2, q.same hr (.bl _) h⟩)
      · cases e
  · obtain ⟨b, e, h⟩ := someP_some h
    unfold nilEq at e
    split at e
    · obtain ⟨xs, e1, rfl⟩ := Option.map_eq_some_iff.mp e
      obtain ⟨p, vs, rfl, a1, a2⟩ := lstOf_h hr rx e1
      obtain ⟨p2, vs2, rfl, b1, b2⟩ := lstOf_h hr ry (show lstOf S (.lst []) = some [] from rfl)
      cases b2
      refine .inr ⟨p, p2, vs, rfl, rfl, SqL.of a1, SqL.of b1, ?_⟩
      rw [show vs.isEmpty = xs.isEmpty from by cases a2 <;> rfl]
      exact q.same hr (.bl _) h
    · cases e
/-! ### built-ins -/
theorem vs1 {B : Addr → Prop} {H : Hp} {S : Sto} {x : Val} {vs : List V} (r : RVs K B H S [x] vs) : ∃ v, vs = [v] ∧ RV K B H S x v := by
  cases r with
  | cons h t =>
    cases t
    exact ⟨_, rfl, h⟩
theorem vs2 {B : Addr → Prop} {H : Hp} {S : Sto} {x y : Val} {vs : List V} (r : RVs K B H S [x, y] vs) : ∃ v u, vs = [v, u] ∧ RV K B H S x v ∧ RV K B H S y u := by
  cases r with
  | cons h t =>
    obtain ⟨u, rfl, h2⟩ := vs1 t
    exact ⟨_, _, rfl, h, h2⟩
theorem vs0 {B : Addr → Prop} {H : Hp} {S : Sto} {vs : List V} (r : RVs K B H S [] vs) : vs = [] := by
  cases r
  rfl
abbrev rrLen (K : PySem.W.Frag) : List V → Hp → VK → Prop := fun xs H Q => (∃ p ys, xs = [.ref p] ∧ (SqL K H p ys ∨ SqT K H p ys) ∧ Q (.int ys.length) H) ∨ ∃ z, xs = [.str z] ∧ z.length ≤ sizeLine ∧ Q (.int z.length) H
theorem lenP_ok : PLOk K lenP (rrLen K) := by
  intro B xs vs S H Qi Q r hr h q
  unfold lenP at h
  split at h
  · obtain ⟨v, rfl, r1⟩ := vs1 r
    cases r1
    exact .inr ⟨_, rfl, h.1, q.same hr (.int _) h.2⟩
  · obtain ⟨v, rfl, r1⟩ := vs1 r
    cases r1 with
    | kt k r2 => exact .inl ⟨_, _, rfl, .inr k.at.sq, by rw [← r2.length]; exact q.same hr (.int _) h⟩
  · obtain ⟨v, rfl, r1⟩ := vs1 r
    obtain ⟨ys, e, h⟩ := someP_some h
    obtain ⟨p, us, rfl, h1, h2⟩ := seqOf_sq hr r1 e
    refine .inl ⟨p, us, rfl, ?_, by rw [← h2.length]; exact q.same hr (.int _) h⟩
    rcases h1 with h1 | h1
    · exact .inl h1.1
    · exact .inr h1.1
  · exact h.elim
theorem absP_ok : PLOk K absP (fun xs H Q => ∃ i, xs = [.int i] ∧ Q (.int (if i < 0 then -i else i)) H) := by
  intro B xs vs S H Qi Q r hr h q
  unfold absP at h
  split at h
  · obtain ⟨v, rfl, r1⟩ := vs1 r
    cases r1
    exact ⟨_, rfl, q.same hr (.int _) h⟩
  · exact h.elim
theorem intP_ok : PLOk K intP (fun xs H Q => (∃ i, xs = [.int i] ∧ Q (.int i) H) ∨ ∃ k, xs = [.bl k] ∧ Q (.int (if k then 1 else 0)) H) := by
  intro B xs vs S H Qi Q r hr h q
  unfold intP at h
  split at h
  · obtain ⟨v, rfl, r1⟩ := vs1 r
    cases r1
    exact .inl ⟨_, rfl, q.same hr (.int _) h⟩
  · obtain ⟨v, rfl, r1⟩ := vs1 r
    cases r1
    exact .inr ⟨_, rfl, q.same hr (.int _) h⟩
  · exact h.elim
theorem listP_ok (c : Bool) : PLOk K (listP c) (fun xs H Q => ∃ p ys, xs = [.ref p] ∧ (SqL K H p ys ∨ SqT K H p ys) ∧ ∀ l, H l = none → Q (.ref l) (upd H l (.lst ys))) := by
  intro B xs vs S H Qi Q r hr h q
  unfold listP at h
  split at h
  · obtain ⟨v, rfl, r1⟩ := vs1 r
    obtain ⟨ys, e, h⟩ := someP_some h
    obtain ⟨p, us, rfl, h1, h2⟩ := seqOf_sq hr r1 e
    refine ⟨p, us, rfl, ?_, q.lst hr h2 h⟩
    rcases h1 with h1 | h1
    · exact .inl h1.1
    · exact .inr h1.1
  · exact h.elim
theorem tupleP_ok : PLOk K tupleP (fun xs H Q => ∃ p ys, xs = [.ref p] ∧ ((SqL K H p ys ∧ ∀ l, H l = none → Q (.ref l) (upd H l (.tup ys))) ∨ (SqT K H p ys ∧ Q (.ref p) H))) := by
  intro B xs vs S H Qi Q r hr h q
  unfold tupleP at h
  split at h
  · obtain ⟨v, rfl, r1⟩ := vs1 r
    cases r1 with
    | kt k r2 => exact ⟨_, _, rfl, .inr ⟨k.at.sq, q.same hr (.kt k r2) h⟩⟩
  · obtain ⟨v, rfl, r1⟩ := vs1 r
    obtain ⟨ys, e, h⟩ := someP_some h
    obtain ⟨p, us, rfl, h1, h2⟩ := seqOf_sq hr r1 e
    refine ⟨p, us, rfl, ?_⟩
    rcases h1 with h1 | h1
    · exact .inl ⟨h1.1, q.tup hr h2 h⟩
    · exact .inr ⟨h1.1, q.same hr (.tup h1.2.1 h2) h⟩
  · exact h.elim
theorem ints_sq {B : Addr → Prop} {H : Hp} {S : Sto} {x : Val} {v : V} {xs : List Val} {ns : List Int} (hr : HR K B H S) (r : RV K B H S x v) (e : lsqOf S x = some xs) (e2 : intsOf xs = some ns) : ∃ p, v = .ref p ∧ SqL K H p (ns.map V.int) := by
  obtain ⟨p, vs, rfl, h1, h2⟩ := lsqOf_sq hr r e
  rw [h2.ints e2] at h1
  exact ⟨p, rfl, h1⟩
/-- max(xs) of a tuple of ints -/
def rMaxT (K : PySem.W.Frag) : List V → Hp → VK → Prop := fun vs H Q => ∃ (a : Addr) (ns : List Int), vs = [V.ref a] ∧ SqT K H a (ns.map V.int) ∧ 0 < ns.length ∧ ∀ m, m ∈ ns → (∀ y, y ∈ ns → y ≤ m) → Q (.int m) H
theorem maxP_ok : PLOk K maxP (fun xs H Q => ((∃ i j, xs = [.int i, .int j] ∧ Q (.int (if j > i then j else i)) H) ∨ rMax K xs H Q) ∨ rMaxT K xs H Q) := by
  intro B xs vs S H Qi Q r hr h q
  unfold maxP at h
  split at h
  · obtain ⟨v, u, rfl, r1, r2⟩ := vs2 r
    cases r1; cases r2
    exact .inl (.inl ⟨_, _, rfl, q.same hr (.int _) h⟩)
  · obtain ⟨v, rfl, r1⟩ := vs1 r
    obtain ⟨ys, e, h⟩ := someP_some h
    obtain ⟨ns, e2, h0, h⟩ := someP_some h
    obtain ⟨p, us, rfl, h1, h2⟩ := seqOf_sq hr r1 e
    rw [h2.ints e2] at h1
    rcases h1 with h1 | h1
    · exact .inl (.inr ⟨p, ns, rfl, h1.1, h0, fun m h2 h3 => q.same hr (.int m) (h m h2 h3)⟩)
    · exact .inr ⟨p, ns, rfl, h1.1, h0, fun m h2 h3 => q.same hr (.int m) (h m h2 h3)⟩
  · exact h.elim
theorem minP_ok : PLOk K minP (fun xs H Q => (∃ i j, xs = [.int i, .int j] ∧ Q (.int (if j < i then j else i)) H) ∨ rMin K xs H Q) := by
  intro B xs vs S H Qi Q r hr h q
  unfold minP at h
  split at h
  · obtain ⟨v, u, rfl, r1, r2⟩ := vs2 r
    cases r1; cases r2
    exact .inl ⟨_, _, rfl, q.same hr (.int _) h⟩
  · obtain ⟨v, rfl, r1⟩ := vs1 r
    obtain ⟨ys, e, h⟩ := someP_some h
    obtain ⟨ns, e2, h0, h⟩ := someP_some h
    obtain ⟨p, rfl, h1⟩ := ints_sq hr r1 e e2
    exact .inr ⟨p, ns, rfl, h1, h0, fun m h2 h3 => q.same hr (.int m) (h m h2 h3)⟩
  · exact h.elim
theorem sumP_ok : PLOk K sumP (rSum K) := by
  intro B xs vs S H Qi Q r hr h q
  unfold sumP at h
  split at h
  · obtain ⟨v, rfl, r1⟩ := vs1 r
    obtain ⟨ys, e, h⟩ := someP_some h
    obtain ⟨ns, e2, h⟩ := someP_some h
    obtain ⟨p, rfl, h1⟩ := ints_sq hr r1 e e2
    exact ⟨p, ns, rfl, h1, q.same hr (.int _) h⟩
  · exact h.elim
/-! ### places, slices -/
theorem RVs.at {B : Addr → Prop} {H : Hp} {S : Sto} {xs : List Val} {vs : List V} {i : Int} {x : Val} (r : RVs K B H S xs vs) (h : atI xs i = some x) : ∃ v, atI vs i = some v ∧ RV K B H S x v := by
  unfold atI at h ⊢
  rw [← r.length]
  cases e : ixN xs.length i with
  | none => rw [e] at h; cases h
  | some j =>
    rw [e] at h
    exact r.get (i := j) (x := x) h
/-! ### dicts -/
theorem dGet_val {k : Key} : ∀ {kvs : List (Key × Val)} {us : List (Key × V)}, us.map (·.1) = kvs.map (·.1) → RVs K B H S (kvs.map (·.2)) (us.map (·.2)) →
    (dGet kvs k = none → valV us k = none) ∧ ∀ v, dGet kvs k = some v → ∃ x, valV us k = some x ∧ RV K B H S v x
  | [], [], _, _ => ⟨fun _ => rfl, fun v e => by cases e⟩
  | [], _ :: _, e, _ => by cases e
  | _ :: _, [], e, _ => by cases e
  | (j, w) :: kvs, (i, y) :: us, e, r => by
    have e1 : i = j := (List.cons.inj e).1
    have e2 : us.map (·.1) = kvs.map (·.1) := (List.cons.inj e).2
    subst e1
    cases r with
    | cons r1 r2 =>
      by_cases h : i = k
      · have d1 : dGet ((i, w) :: kvs) k = some w := by simp [dGet, List.find?_cons, h]
        rw [d1, valV_pos h]
        exact ⟨fun z => (by cases z), fun v z => (by cases z; exact ⟨y, rfl, r1⟩)⟩
      · have d1 : dGet ((i, w) :: kvs) k = dGet kvs k := by simp [dGet, List.find?_cons, h]
        rw [d1, valV_neg h]
        exact dGet_val e2 r2
theorem dAny {k : Key} : ∀ {kvs : List (Key × Val)} {us : List (Key × V)}, us.map (·.1) = kvs.map (·.1) → (us.any fun kv => decide (kv.1 = k)) = (kvs.any fun kv => decide (kv.1 = k))
  | [], [], _ => rfl
  | [], _ :: _, e => by cases e
  | _ :: _, [], e => by cases e
  | (j, w) :: kvs, (i, y) :: us, e => by
    have e1 : i = j := (List.cons.inj e).1
    have e2 : us.map (·.1) = kvs.map (·.1) := (List.cons.inj e).2
    subst e1
    rw [List.any_cons, List.any_cons, dAny e2]
theorem dMap {k : Key} {v : Val} {x : V} (rv : RV K B H S v x) : ∀ {kvs : List (Key × Val)} {us : List (Key × V)}, us.map (·.1) = kvs.map (·.1) → RVs K B H S (kvs.map (·.2)) (us.map (·.2)) →
    (us.map (fun kv => if kv.1 = k then (kv.1, x) else kv)).map (·.1) = (kvs.map (fun kv => if kv.1 = k then (kv.1, v) else kv)).map (·.1) ∧
      RVs K B H S ((kvs.map (fun kv => if kv.1 = k then (kv.1, v) else kv)).map (·.2)) ((us.map (fun kv => if kv.1 = k then (kv.1, x) else kv)).map (·.2))
  | [], [], _, _ => ⟨rfl, .nil⟩
  | [], _ :: _, e, _ => by cases e
  | _ :: _, [], e, _ => by cases e
  | (j, w) :: kvs, (i, y) :: us, e, r => by
    have e1 : i = j := (List.cons.inj e).1
    have e2 : us.map (·.1) = kvs.map (·.1) := (List.cons.inj e).2
    subst e1
    cases r with
    | cons r1 r2 =>
      obtain ⟨h1, h2⟩ := dMap (k := k) rv e2 r2
      by_cases h : i = k
      · simp only [List.map_cons, if_pos h]
        exact ⟨by rw [h1], .cons rv h2⟩
      · simp only [List.map_cons, if_neg h]
        exact ⟨by rw [h1], .cons r1 h2⟩
theorem dPut_put {k : Key} {v : Val} {x : V} (rv : RV K B H S v x) {kvs : List (Key × Val)} {us : List (Key × V)} (e : us.map (·.1) = kvs.map (·.1)) (r : RVs K B H S (kvs.map (·.2)) (us.map (·.2))) :
    (putK us k x).map (·.1) = (dPut kvs k v).map (·.1) ∧ RVs K B H S ((dPut kvs k v).map (·.2)) ((putK us k x).map (·.2)) := by
  unfold putK dPut
  rw [dAny e]
  split
  · exact dMap rv e r
  · refine ⟨?_, ?_⟩
    · rw [List.map_append, List.map_append, e]
      rfl
    · rw [List.map_append, List.map_append]
      exact r.append (.cons rv .nil)
theorem keyV_kV {v : Val} {x : V} {k : Key} (r : RV K B H S v x) (h : keyV v = some k) : x = kV k := by
  cases r <;> cases h <;> rfl
abbrev rDict : R2 := fun x y H Q => ∃ a v, x = .ref a ∧ DGet H a y (some v) ∧ Q v H
theorem ix_dict {X : Cx} (hu : X.A.units + 2 < cLine) : IxR X rDict := by
  intro value slice pins s σ H x y v u Q I rx ry h hs
  obtain ⟨a, w, rfl, g, q⟩ := h
  obtain rfl : v = Value.ref a := rx
  have hT := dict_typeIs I g
  unfold subscriptTail
  refine wpAny_bind ?_
  rw [getitemInPython_of_ne hT.not_modules]
  refine wpAny_bind (wpAny_specialOf hT PySem.F.slot_dict_getitem.lookup ?_)
  have fin : wpAny (model X.prog X.w) X.A (subscripted slice false (.ref a) u) (fun r s₃ => wpAny (model X.prog X.w) X.A (letTemporaryGo value (.ref a) r >>= fun _ => pure r) (EP X pins σ Q) X.xe s₃) X.xe s := by
    rw [hs]
    exact wpAny_operating (d_getItem (by omega) I g ry fun w' s3 I3 rw' => wpAny_bind (wpAny_letTemporaryGo (wpAny_pure ⟨w, H, I3, rw', q⟩)))
  first
    | exact wpAny_pure (wpAny_bind fin)
    | exact wpAny_bind (wpAny_pure (wpAny_bind fin))
    | exact wpAny_bind fin
abbrev rrIx (K : PySem.W.Frag) : R2 := fun x y H Q => rIx K x y H Q ∨ rDict x y H Q
theorem ixP_ok : P2Ok K ixP (rrIx K) := by
  intro B x y v u S H Qi Q rx ry hr h q
  replace h := h.h
  unfold ixP0 at h
  split at h
  · cases rx; cases ry
    obtain ⟨hz, h⟩ := h
    obtain ⟨c, e, h⟩ := someP_some h
    exact .inl (.inr (.inr ⟨_, _, c, rfl, rfl, hz, e, q.same hr (.str _) h⟩))
  · cases rx
    split at h
    · rename_i xs q0
      split at h
      · cases ry
        obtain ⟨w, e2, h⟩ := someP_some h
        obtain ⟨vs, h1, h2⟩ := hr.ok _ _ q0
        obtain ⟨w', e3, rw'⟩ := h2.at e2
        exact .inl (.inl ⟨_, vs, _, w', rfl, rfl, SqL.of h1, e3, q.same hr rw' h⟩)
      · exact h.elim
    · rename_i kvs q0
      obtain ⟨k, e1, h⟩ := someP_some h
      obtain ⟨w, e2, h⟩ := someP_some h
      obtain ⟨us, h1, h2, h3⟩ := hr.ok _ _ q0
      obtain ⟨z, e3, rz⟩ := (dGet_val h2 h3).2 w e2
      refine .inr ⟨_, z, rfl, ?_, q.same hr rz h⟩
      rw [keyV_kV ry e1, ← e3]
      exact DGet.k h1
    · exact h.elim
  · cases ry
    obtain ⟨xs, e, h⟩ := someP_some h
    obtain ⟨w, e2, h⟩ := someP_some h
    obtain ⟨p, vs, rfl, h1, h2⟩ := seqOf_sq hr rx e
    obtain ⟨w', e3, rw'⟩ := h2.at e2
    rcases h1 with h1 | h1
    · exact .inl (.inl ⟨p, vs, _, w', rfl, rfl, h1.1, e3, q.same hr rw' h⟩)
    · exact .inl (.inr (.inl ⟨p, vs, _, w', rfl, rfl, h1.1, e3, q.same hr rw' h⟩))
  · exact h.elim
theorem cutL_length {α : Type} {xs : List α} {lo hi : Option Int} : (cutL xs lo hi).length ≤ xs.length := by
  unfold cutL
  rw [List.length_take, List.length_drop]
  omega
theorem cutL_whole {α : Type} {xs : List α} {lo hi : Option Int} (h : HT.sIx xs.length 0 lo = 0 ∧ HT.sIx xs.length xs.length hi = xs.length) : cutL xs lo hi = xs := by
  unfold cutL
  rw [h.1, h.2]
  simp
theorem RVs.cut {B : Addr → Prop} {H : Hp} {S : Sto} {xs : List Val} {vs : List V} {lo hi : Option Int} (r : RVs K B H S xs vs) : RVs K B H S (cutL xs lo hi) (cutV vs lo hi) := by
  unfold cutL cutV
  rw [r.length]
  exact (r.drop _).take _
abbrev rrSl (K : PySem.W.Frag) : V → Option Int → Option Int → Hp → VK → Prop := fun x lo hi H Q => rSlA K x lo hi H Q ∨ rSlL K x lo hi H Q
theorem sl_P : SlR X (rrSl X.K) := sl_tupA.or sl_list
theorem cutP_ok {c : Bool} {x : Val} {v : V} {lo hi : Option Int} {S : Sto} {H : Hp} {Qi : VQ} {Q : VK} (rx : RV K B H S x v) (hr : HR K B H S) (h : cutP c x lo hi S Qi) (q : QR K B S H Qi Q) : rrSl K v lo hi H Q := by
  unfold cutP at h
  split at h
  · cases rx with
    | tup h1 h2 =>
      refine .inl ⟨_, _, rfl, h1.sq, fun hw => ?_, fun _ => q.tup hr h2.cut h⟩
      rw [← h2.length] at hw
      rw [cutL_whole hw] at h
      exact q.same hr (.tup h1 h2) h
  · obtain ⟨xs, e, h⟩ := someP_some h
    obtain ⟨p, vs, rfl, h1, h2⟩ := lsqOf_sq hr rx e
    exact .inr ⟨p, vs, rfl, h1, q.lst hr h2.cut h⟩
end
end TL

/-! TL4: syntax: each construct's plain meaning, lifted, is a reading of it. -/
namespace TL
open PySem PySem.Spec L2
open PyProof.Rows hiding St

/-! ### premises of the layer's rules, for any expression -/
def starB : Expr → Bool
  | .Starred .. => true
  | _ => false
theorem starEach_one {e : Expr} {es : List Expr} {env : Env} (h : starB e = false) : starEach (e :: es) env = (false, eval e env) :: starEach es env := by
  cases e <;> first | rfl | cases h
theorem backTo_plain {pos : Pos} {env : Env} : ∀ {es : List Expr}, es.any starB = false → (backTo pos (starEach es env)).any (·.1) = false
  | [], _ => rfl
  | e :: es, h => by
    have h1 : (starB e || es.any starB) = false := h
    cases he : starB e with
    | true => rw [he] at h1; cases h1
    | false =>
      rw [he] at h1
      rw [starEach_one he]
      show (false || (backTo pos (starEach es env)).any (·.1)) = false
      rw [backTo_plain h1]
      rfl
theorem backTo_all {pos : Pos} {env : Env} : ∀ {es : List Expr}, es.any starB = false → (backTo pos (starEach es env)).all (fun x => !x.1) = true
  | [], _ => rfl
  | e :: es, h => by
    have h1 : (starB e || es.any starB) = false := h
    cases he : starB e with
    | true => rw [he] at h1; cases h1
    | false =>
      rw [he] at h1
      rw [starEach_one he]
      show (true && (backTo pos (starEach es env)).all (fun x => !x.1)) = true
      rw [backTo_all h1]
      rfl
/-- a test that is its value's truth -/
def plainTest : Expr → Bool
  | .UnaryOp .Not .. => false
  | .BoolOp .. => false
  | .IfExp .. => false
  | .Compare .. => false
  | _ => true
theorem isTrue_of_plain {e : Expr} {env : Env} (h : plainTest e = true) (whole : Sem Value) : isTrue e env whole = (do let v ← whole; standAt e.pos; holding [v] (truthy v)) := by
  cases e with
  | UnaryOp op x pos => cases op <;> first | rfl | cases h
  | BoolOp => cases h
  | IfExp => cases h
  | Compare => cases h
  | _ => rfl
def plainBase : Expr → Bool
  | .Call (.Name _ _) [] [] _ => false
  | _ => true
theorem base_of {o : Expr} {f : Str} {env : Env} (h : plainBase o = true) : attributeBase o f env (eval o env) = eval o env := by
  unfold attributeBase
  split
  · cases h
  · rfl
def compB : Expr → Bool
  | .ListComp .. | .SetComp .. | .DictComp .. => true
  | _ => false
theorem swaps_no {e : Expr} {t : Option Expr} {l : Nat} {env : Env} (h : compB e = false) : swapsWith e t l env = pure false := by
  cases e <;> first | rfl | cases h
theorem swapsSole_no {e tg : Expr} {l : Nat} {env : Env} (h : compB e = false) : swapsWithSole [tg] e l env = pure false := swaps_no h
def setB : Expr → Bool
  | .Set .. => true
  | _ => false
theorem marks_no {op : CmpOp} {b : Expr} (h : setB b = false) : behindInMarks op b = false := by
  cases b <;> first | rfl | cases h
def sliceB : Expr → Bool
  | .Slice .. => true
  | _ => false
theorem plainIx_of {b : Expr} (h : sliceB b = false) : PlainIx b := fun o i => by
  cases b <;> first | rfl | cases h
theorem folded_no {iter : Expr} {env : Env} (h : setB iter = false) (x : Value) : foldedSetIterable iter env x = pure x := by
  cases iter <;> first | rfl | cases h

section
variable {X : Cx} {W : WX} {a b c e o : Expr} {es : List Expr} {ma mb me mo : IE} {ta tb : IT} {pos : Pos} {K : PySem.W.Frag} {B : Addr → Prop}

/-! ### names, constants -/
theorem se_var {i : Nat} {x : Str} (hN : X.N[i]? = some x) (hv : Vis X.env.scope x) (hd : (x == ("__debug__" : Str)) = false) (hcd : (x == ("__classdict__" : Str)) = false) : PE X (.Name x pos) (liftE X.K W (varI i)) :=
  (pe_var hN hv hd hcd).imp fun σ H Q ⟨ρ, S, B, Qi, Ei, R, h, q, _⟩ => by
    obtain ⟨v, e, h⟩ := getS_some h
    obtain ⟨x, e2, r⟩ := R.st.2 i v e
    exact ⟨x, e2, q.same R.hr r h⟩
theorem con_imp {v : Val} {x : V} (r : ∀ B H S, RV K B H S v x) : ∀ σ H Q, liftE K W (conI v) σ H Q → tC x σ H Q := fun σ H Q ⟨ρ, S, B, Qi, Ei, R, h, q, _⟩ => q.same R.hr (r B H S) h
theorem se_int {i : Int} {j : Nat} : PE X (.Constant (.int i) j pos) (liftE X.K W (conI (.int i))) := pe_int.imp (con_imp fun _ _ _ => .int i)
theorem se_bl {i : Bool} {j : Nat} : PE X (.Constant (.bool i) j pos) (liftE X.K W (conI (.bl i))) := pe_bl.imp (con_imp fun _ _ _ => .bl i)
theorem se_str {i : Str} {j : Nat} : PE X (.Constant (.str i) j pos) (liftE X.K W (conI (.str i))) := pe_str.imp (con_imp fun _ _ _ => .str i)
theorem se_non {j : Nat} : PE X (.Constant .none j pos) (liftE X.K W (conI .non)) := pe_non.imp (con_imp fun _ _ _ => .non)
theorem se_glob {x : Str} {v : Val} {y : V} {u : Value} (hg : Gl X x) (hm : X.mg x = some u) (r : RelV y u) (rv : ∀ B H S, RV X.K B H S v y) (hd : (x == ("__debug__" : Str)) = false) : PE X (.Name x pos) (liftE X.K W (conI v)) := (pe_glob hg hm r hd).imp (con_imp rv)
theorem se_no : PE X e (liftE X.K W noI) := ⟨fun _ _ _ _ _ _ ⟨_, _, _, _, _, _, h, _⟩ => h.elim⟩

/-! ### operators -/
theorem un_imp {r : P1} {rr : V → Hp → VK → Prop} (hr : P1Ok K r rr) : ∀ σ H Q, liftE K W (un1 r ma) σ H Q → tUn rr (liftE K W ma) σ H Q := fun σ H Q ⟨ρ, S, B, Qi, Ei, R, h, q, er⟩ =>
  ⟨ρ, S, B, _, Ei, R, h, fun v S1 x H1 rv hr1 e h1 => hr B v x S1 H1 Qi Q rv hr1 h1 (q.ext e), er⟩
theorem bin_imp {r : P2} {rr : R2} (hr : P2Ok K r rr) : ∀ σ H Q, liftE K W (bin2 r ma mb) σ H Q → tOp rr (liftE K W ma) (liftE K W mb) σ H Q := fun σ H Q ⟨ρ, S, B, Qi, Ei, R, h, q, er⟩ =>
  ⟨ρ, S, B, _, Ei, R, h, fun v S1 x H1 rv hr1 e1 h1 => ⟨ρ, S1, B, _, Ei, R.ext e1 hr1, h1, fun u S2 y H2 ru hr2 e2 h2 => hr B v u x y S2 H2 Qi Q (rv.ext e2) ru hr2 h2 (q.ext (e1.trans e2)), er.ext e1⟩, er⟩
theorem se_un {op : UnaryOp} {r : P1} {rr : V → Hp → VK → Prop} (ho : UnR X (unaryOp op) rr) (hr : P1Ok X.K r rr) (ha : PE X a (liftE X.K W ma)) : PE X (.UnaryOp op a pos) (liftE X.K W (un1 r ma)) := (pe_un ho ha).imp (un_imp hr)
theorem se_bin {op : Operator} {r : P2} {rr : R2} (ho : OpR X (binaryOp op) rr) (hr : P2Ok X.K r rr) (ha : PE X a (liftE X.K W ma)) (hb : PE X b (liftE X.K W mb)) : PE X (.BinOp a op b pos) (liftE X.K W (bin2 r ma mb)) := (pe_op ho ha hb).imp (bin_imp hr)
theorem se_cmp {op : CmpOp} {r : P2} {rr : R2} (ho : OpR X (compareOp op) rr) (hr : P2Ok X.K r rr) (ha : PE X a (liftE X.K W ma)) (hb : PE X b (liftE X.K W mb)) (hm : behindInMarks op b = false) : PE X (.Compare a [op] [b] pos) (liftE X.K W (bin2 r ma mb)) := (pe_cmpR ho ha hb hm).imp (bin_imp hr)
theorem se_isN {j : Nat} {p : Pos} (ha : PE X a (liftE X.K W ma)) : PE X (.Compare a [.Is] [.Constant .none j p] pos) (liftE X.K W (un1 isNP ma)) :=
  (pe_cmp (pc_isN ha) rfl).imp (un_imp (rr := fun x H Q => Q (.bl (decide (x = .non))) H) (isNP_ok X))
theorem se_notN {j : Nat} {p : Pos} (ha : PE X a (liftE X.K W ma)) : PE X (.Compare a [.IsNot] [.Constant .none j p] pos) (liftE X.K W (un1 notNP ma)) :=
  (pe_cmp (pc_notN ha) rfl).imp (un_imp (rr := fun x H Q => Q (.bl (!decide (x = .non))) H) (notNP_ok X))

/-! ### tests -/
theorem tstB_imp {te : TE} (hi : ∀ σ H Q, liftE K W ma σ H Q → te σ H Q) : ∀ σ H Q, liftT K W (tstB ma) σ H Q → te σ H fun x H' => ∃ k, x = .bl k ∧ Q k H' := fun σ H Q ⟨ρ, S, B, Qi, Ei, R, h, q, er⟩ => hi _ _ _
  ⟨ρ, S, B, _, Ei, R, h, fun v S1 x H1 rv hr1 e h1 => by
    cases rv <;> first
      | exact ⟨_, rfl, q _ S1 H1 hr1 e h1⟩
      | exact (show False from h1).elim, er⟩
theorem st_cmp {op : CmpOp} {r : P2} {rr : R2} (ho : OpR X (compareOp op) rr) (hr : P2Ok X.K r rr) (ha : PE X a (liftE X.K W ma)) (hb : PE X b (liftE X.K W mb)) (hm : behindInMarks op b = false) : PT X (.Compare a [op] [b] pos) (liftT X.K W (tstB (bin2 r ma mb))) :=
  (pt_cmpR ho ha hb hm).imp (tstB_imp (bin_imp hr))
theorem st_isN {j : Nat} {p : Pos} (ha : PE X a (liftE X.K W ma)) : PT X (.Compare a [.Is] [.Constant .none j p] pos) (liftT X.K W (tstB (un1 isNP ma))) :=
  (pt_cmp (pc_isN ha) rfl).imp (tstB_imp (un_imp (rr := fun x H Q => Q (.bl (decide (x = .non))) H) (isNP_ok X)))
theorem st_notN {j : Nat} {p : Pos} (ha : PE X a (liftE X.K W ma)) : PT X (.Compare a [.IsNot] [.Constant .none j p] pos) (liftT X.K W (tstB (un1 notNP ma))) :=
  (pt_cmp (pc_notN ha) rfl).imp (tstB_imp (un_imp (rr := fun x H Q => Q (.bl (!decide (x = .non))) H) (notNP_ok X)))
theorem isEmpty_rvs {B : Addr → Prop} {H : Hp} {S : Sto} {xs : List Val} {vs : List V} (r : RVs K B H S xs vs) : xs.isEmpty = vs.isEmpty := by
  cases r <;> rfl
theorem truOf_tru {B : Addr → Prop} {H : Hp} {S : Sto} {x : Val} {v : V} {k : Bool} (r : RV K B H S x v) (hr : HR K B H S) (h : truOf S x = some k) : TruV K v H k := by
  cases r with
  | non => cases h; exact rfl
  | bl b => cases h; exact rfl
  | int i => cases h; exact rfl
  | str z =>
    have h2 : (if z.length ≤ sizeLine then some ((z.length : Int) != 0) else none) = some k := h
    by_cases hz : z.length ≤ sizeLine
    · rw [if_pos hz] at h2
      cases h2
      exact ⟨hz, rfl⟩
    · rw [if_neg hz] at h2
      cases h2
  | tup h1 h2 =>
    cases h
    exact .inr (.inl ⟨_, h1.sq, by rw [isEmpty_rvs h2]⟩)
  | lst h1 _ h2 =>
    cases h
    exact .inl ⟨_, SqL.of h1, by rw [isEmpty_rvs h2]⟩
  | ref a =>
    have h2 : (match S a with | some (.lst xs) => some (!xs.isEmpty) | _ => none) = some k := h
    split at h2
    · rename_i xs q
      cases h2
      obtain ⟨vs, h3, h4⟩ := hr.ok a _ q
      exact .inl ⟨vs, SqL.of h3, by rw [isEmpty_rvs h4]⟩
    · cases h2
  | _ => cases h
theorem st_tru (hp : plainTest a = true) (ha : PE X a (liftE X.K W ma)) : PT X a (liftT X.K W (tst ma)) :=
  (pt_truth ha (isTrue_of_plain hp)).imp fun σ H Q ⟨ρ, S, B, Qi, Ei, R, h, q, er⟩ => ⟨ρ, S, B, _, Ei, R, h, fun v S1 x H1 rv hr1 e h1 => by
    obtain ⟨k, e1, h2⟩ := someP_some h1
    exact ⟨k, truOf_tru rv hr1 e1, q k S1 H1 hr1 e h2⟩, er⟩
theorem not_imp : ∀ σ H Q, liftT K W (notT ta) σ H Q → tNot (liftT K W ta) σ H Q := fun σ H Q ⟨ρ, S, B, Qi, Ei, R, h, q, er⟩ => ⟨ρ, S, B, _, Ei, R, h, fun k S1 H1 hr1 e h1 => (by cases k <;> exact q _ S1 H1 hr1 e h1), er⟩
theorem and_imp : ∀ σ H Q, liftT K W (andT ta tb) σ H Q → tAnd (liftT K W ta) (liftT K W tb) σ H Q := fun σ H Q ⟨ρ, S, B, Qi, Ei, R, h, q, er⟩ => ⟨ρ, S, B, _, Ei, R, h, fun k S1 H1 hr1 e h1 => by
    cases k with
    | true => exact iteT ⟨ρ, S1, B, Qi, Ei, R.ext e hr1, h1, fun k S2 H2 a b => q k S2 H2 a (e.trans b), er.ext e⟩
    | false => exact iteF (q _ S1 H1 hr1 e h1), er⟩
theorem or_imp : ∀ σ H Q, liftT K W (orT ta tb) σ H Q → tOr (liftT K W ta) (liftT K W tb) σ H Q := fun σ H Q ⟨ρ, S, B, Qi, Ei, R, h, q, er⟩ => ⟨ρ, S, B, _, Ei, R, h, fun k S1 H1 hr1 e h1 => by
    cases k with
    | true => exact iteT (q _ S1 H1 hr1 e h1)
    | false => exact iteF ⟨ρ, S1, B, Qi, Ei, R.ext e hr1, h1, fun k S2 H2 a b => q k S2 H2 a (e.trans b), er.ext e⟩, er⟩
theorem st_not (ha : PT X a (liftT X.K W ta)) : PT X (.UnaryOp .Not a pos) (liftT X.K W (notT ta)) := (pt_not ha).imp not_imp
theorem sw_and1 (ha : PT X a (liftT X.K W ta)) : PW X (.BoolOp .And [a] pos) (liftT X.K W ta) := pw_and1 ha
theorem sw_or1 (ha : PT X a (liftT X.K W ta)) : PW X (.BoolOp .Or [a] pos) (liftT X.K W ta) := pw_or1 ha
theorem sw_and (ha : PT X a (liftT X.K W ta)) (hb : PW X (.BoolOp .And (b :: es) pos) (liftT X.K W tb)) : PW X (.BoolOp .And (a :: b :: es) pos) (liftT X.K W (andT ta tb)) := (pw_and ha hb).imp and_imp
theorem sw_or (ha : PT X a (liftT X.K W ta)) (hb : PW X (.BoolOp .Or (b :: es) pos) (liftT X.K W tb)) : PW X (.BoolOp .Or (a :: b :: es) pos) (liftT X.K W (orT ta tb)) := (pw_or ha hb).imp or_imp
/-! ### .. as values -/
theorem ifE_imp : ∀ σ H Q, liftE K W (ifE ta ma mb) σ H Q → tIf (liftT K W ta) (liftE K W ma) (liftE K W mb) σ H Q := fun σ H Q ⟨ρ, S, B, Qi, Ei, R, h, q, er⟩ => ⟨ρ, S, B, _, Ei, R, h, fun k S1 H1 hr1 e h1 => by
    cases k with
    | true => exact iteT ⟨ρ, S1, B, Qi, Ei, R.ext e hr1, h1, q.ext e, er.ext e⟩
    | false => exact iteF ⟨ρ, S1, B, Qi, Ei, R.ext e hr1, h1, q.ext e, er.ext e⟩, er⟩
theorem se_if (hc : PT X c (liftT X.K W ta)) (ha : PE X a (liftE X.K W ma)) (hb : PE X b (liftE X.K W mb)) : PE X (.IfExp c a b pos) (liftE X.K W (ifE ta ma mb)) := (pe_ifExp hc ha hb).imp ifE_imp
theorem se_one {op : BoolOp} (ha : PE X a (liftE X.K W ma)) : PE X (.BoolOp op [a] pos) (liftE X.K W ma) := pe_one ha
theorem se_and (ha : PE X a (liftE X.K W ma)) (hb : PE X (.BoolOp .And (b :: es) pos) (liftE X.K W mb)) : PE X (.BoolOp .And (a :: b :: es) pos) (liftE X.K W (andV ma mb)) :=
  (pe_andT ha hb).imp fun σ H Q ⟨ρ, S, B, Qi, Ei, R, h, q, er⟩ => ⟨ρ, S, B, _, Ei, R, h, fun v S1 x H1 rv hr1 e h1 => by
    obtain ⟨k, e1, h1⟩ := someP_some h1
    refine ⟨k, truOf_tru rv hr1 e1, ?_⟩
    cases k with
    | true => exact iteT ⟨ρ, S1, B, Qi, Ei, R.ext e hr1, h1, q.ext e, er.ext e⟩
    | false => exact iteF (q _ S1 _ H1 rv hr1 e h1), er⟩
theorem se_or (ha : PE X a (liftE X.K W ma)) (hb : PE X (.BoolOp .Or (b :: es) pos) (liftE X.K W mb)) : PE X (.BoolOp .Or (a :: b :: es) pos) (liftE X.K W (orV ma mb)) :=
  (pe_orT ha hb).imp fun σ H Q ⟨ρ, S, B, Qi, Ei, R, h, q, er⟩ => ⟨ρ, S, B, _, Ei, R, h, fun v S1 x H1 rv hr1 e h1 => by
    obtain ⟨k, e1, h1⟩ := someP_some h1
    refine ⟨k, truOf_tru rv hr1 e1, ?_⟩
    cases k with
    | true => exact iteT (q _ S1 _ H1 rv hr1 e h1)
    | false => exact iteF ⟨ρ, S1, B, Qi, Ei, R.ext e hr1, h1, q.ext e, er.ext e⟩, er⟩
theorem se_not (ha : PE X a (liftE X.K W ma)) : PE X (.UnaryOp .Not a pos) (liftE X.K W (un1 notP ma)) :=
  (pe_not ha).imp fun σ H Q ⟨ρ, S, B, Qi, Ei, R, h, q, er⟩ => ⟨ρ, S, B, _, Ei, R, h, fun v S1 x H1 rv hr1 e h1 => by
    cases rv with
    | bl k => cases k <;> exact ⟨_, rfl, q _ S1 _ H1 (.bl _) hr1 e h1⟩
    | _ => exact (show False from h1).elim, er⟩

/-! ### rows, displays -/
theorem sa_nil : PA X [] (liftA X.K W nilA) := pa_nil.imp fun σ H Q ⟨ρ, S, B, Qi, Ei, R, h, q, er⟩ => q [] S [] H .nil R.hr Ext.refl h
theorem cons_imp {mr : IA} {tr : TA} (hi : ∀ σ H Q, liftA K W mr σ H Q → tr σ H Q) : ∀ σ H Q, liftA K W (consA ma mr) σ H Q → tCons (liftE K W ma) tr σ H Q := fun σ H Q ⟨ρ, S, B, Qi, Ei, R, h, q, er⟩ =>
  ⟨ρ, S, B, _, Ei, R, h, fun v S1 x H1 rv hr1 e1 h1 => hi _ _ _ ⟨ρ, S1, B, _, Ei, R.ext e1 hr1, h1, fun us S2 ys H2 ru hr2 e2 h2 => q (v :: us) S2 (x :: ys) H2 (.cons (rv.ext e2) ru) hr2 (e1.trans e2) h2, er.ext e1⟩, er⟩
theorem sa_cons {mr : IA} (hs : starB a = false) (ha : PE X a (liftE X.K W ma)) (hr : PA X es (liftA X.K W mr)) : PA X (a :: es) (liftA X.K W (consA ma mr)) := (pa_cons ha hr (starEach_one hs)).imp (cons_imp fun _ _ _ h => h)
theorem se_tup {k : Nat} {mr : IA} (h : PA X es (liftA X.K W mr)) : PE X (.Tuple es k pos) (liftE X.K W (tupI mr)) :=
  (pe_tup h).imp fun σ H Q ⟨ρ, S, B, Qi, Ei, R, h, q, er⟩ => ⟨ρ, S, B, _, Ei, R, h, fun vs S1 xs H1 rv hr1 e h1 => ⟨by rw [← rv.length]; exact h1.1, (q.ext e).tup hr1 rv h1.2⟩, er⟩
theorem se_lst {c : Bool} {mr : IA} (h : PA X es (liftA X.K W mr)) : PE X (.List es pos) (liftE X.K W (lstI c mr)) :=
  (pe_lst h).imp fun σ H Q ⟨ρ, S, B, Qi, Ei, R, h, q, er⟩ => ⟨ρ, S, B, _, Ei, R, h, fun vs S1 xs H1 rv hr1 e h1 => ⟨by rw [← rv.length]; exact h1.1, (q.ext e).lst hr1 rv h1.2⟩, er⟩

/-! ### calls of built-ins -/
theorem call_imp {r : PL} {rr : List V → Hp → VK → Prop} {mr : IA} (hr : PLOk K r rr) : ∀ σ H Q, liftE K W (callP r mr) σ H Q → tCB rr (liftA K W mr) σ H Q := fun σ H Q ⟨ρ, S, B, Qi, Ei, R, h, q, er⟩ =>
  ⟨ρ, S, B, _, Ei, R, h, fun vs S1 xs H1 rv hr1 e h1 => hr B vs xs S1 H1 Qi Q rv hr1 h1 (q.ext e), er⟩
theorem se_callB {id : String} {r : PL} {rr : List V → Hp → VK → Prop} {mr : IA} {x : Str} {p : Pos} (hc : CallR X (.builtin id) rr) (hr : PLOk X.K r rr) (hg : Gl X x) (hm : X.mg x = none) (hv : bootBuiltins x = some (.builtin id)) (hn : x ≠ "__name__") (hdb : (x == ("__debug__" : Str)) = false)
    (hs : (a :: es).any starB = false) (ha : PA X (a :: es) (liftA X.K W mr)) : PE X (.Call (.Name x p) (a :: es) [] pos) (liftE X.K W (callP r mr)) := by
  have h1 : (starB a || es.any starB) = false := hs
  obtain ⟨h1, h2⟩ := Bool.or_eq_false_iff.mp h1
  exact (pe_callB hc hg hm hv ha hn hdb (starEach_one h1) (backTo_plain h2)).imp (call_imp hr)
theorem se_callTy {T : String} {r : PL} {rr : List V → Hp → VK → Prop} {mr : IA} {x : Str} {p : Pos} (hc : CallR X (.type T) rr) (hr : PLOk X.K r rr) (hg : Gl X x) (hm : X.mg x = none) (hv : bootBuiltins x = some (.type T)) (hn : x ≠ "__name__") (hdb : (x == ("__debug__" : Str)) = false)
    (hs : (a :: es).any starB = false) (ha : PA X (a :: es) (liftA X.K W mr)) : PE X (.Call (.Name x p) (a :: es) [] pos) (liftE X.K W (callP r mr)) := by
  have h1 : (starB a || es.any starB) = false := hs
  obtain ⟨h1, h2⟩ := Bool.or_eq_false_iff.mp h1
  exact (pe_callTy hc hg hm hv ha hn hdb (starEach_one h1) (backTo_plain h2)).imp (call_imp hr)

/-! ### places, slices -/
theorem se_ix (hu : X.A.units + 2 < cLine) (ha : PE X a (liftE X.K W ma)) (hb : PE X b (liftE X.K W mb)) (hs : sliceB b = false) : PE X (.Subscript a b pos) (liftE X.K W (bin2 ixP ma mb)) := (pe_ix (ix_seq.or (ix_dict hu)) ha hb (plainIx_of hs)).imp (bin_imp ixP_ok)
theorem so_none : PO X none (liftO X.K W noPart) := po_none.imp fun σ H Q ⟨ρ, S, B, Qi, Ei, R, h, q, er⟩ => q none S H R.hr Ext.refl h
theorem so_some (ha : PE X a (liftE X.K W ma)) : PO X (some a) (liftO X.K W (partI ma)) := (po_some ha).imp fun σ H Q ⟨ρ, S, B, Qi, Ei, R, h, q, er⟩ => ⟨ρ, S, B, _, Ei, R, h, fun v S1 x H1 rv hr1 e h1 => by
    cases rv with
    | int i => exact ⟨i, rfl, q _ S1 H1 hr1 e h1⟩
    | _ => exact (show False from h1).elim, er⟩
theorem se_slice {c : Bool} {lo hi : Option Expr} {ml mh : IO} {p : Pos} (he : PE X e (liftE X.K W me)) (hl : PO X lo (liftO X.K W ml)) (hh : PO X hi (liftO X.K W mh)) : PE X (.Subscript e (.Slice lo hi none p) pos) (liftE X.K W (sliceI c me ml mh)) :=
  (pe_slice sl_P he hl hh).imp fun σ H Q ⟨ρ, S, B, Qi, Ei, R, h, q, er⟩ => ⟨ρ, S, B, _, Ei, R, h, fun v S1 x H1 rv hr1 e1 h1 => ⟨ρ, S1, B, _, Ei, R.ext e1 hr1, h1, fun l S2 H2 hr2 e2 h2 => ⟨ρ, S2, B, _, Ei, R.ext (e1.trans e2) hr2, h2, fun u S3 H3 hr3 e3 h3 =>
    cutP_ok (rv.ext (e2.trans e3)) hr3 h3 (q.ext (e1.trans (e2.trans e3))), er.ext (e1.trans e2)⟩, er.ext e1⟩, er⟩
end
end TL

/-! TL5: fields, methods, own defs, targets, statements, loops, comprehensions. -/
namespace TL
open PySem PySem.Spec L2
open PyProof.Rows hiding St

/-! ### fields -/
/-- the classes' attributes that the text names -/
def FldOk (K : PySem.W.Frag) (F : Str → Str → Bool) : Prop := ∀ c f, F c f = true → Cls K (He.ga K c) ∧ NoAttr K (He.ga K c) f
section
variable {K : PySem.W.Frag} {B : Addr → Prop} {H : Hp} {S : Sto}
theorem fldOf_look : ∀ {ns : List Str} {vs : List Val} {fs : List (Str × V)} {f : Str} {v : Val}, fs.map (·.1) = ns → RVs K B H S vs (fs.map (·.2)) → fldOf ns vs f = some v → ∃ x, fs.lookup f = some x ∧ RV K B H S v x
  | [], _, _, _, _, _, _, h => by cases h
  | _ :: _, [], _, _, _, _, _, h => by cases h
  | n :: ns, w :: vs, [], f, v, e, r, h => by cases e
  | n :: ns, w :: vs, (g, y) :: fs, f, v, e, r, h => by
    have e1 : g = n := (List.cons.inj e).1
    have e2 : fs.map (·.1) = ns := (List.cons.inj e).2
    subst e1
    cases r with
    | cons r1 r2 =>
      have h2 : (if g = f then some w else fldOf ns vs f) = some v := h
      by_cases hf : g = f
      · rw [if_pos hf] at h2
        cases h2
        subst hf
        exact ⟨y, by simp [List.lookup], r1⟩
      · rw [if_neg hf] at h2
        obtain ⟨x, h3, h4⟩ := fldOf_look e2 r2 h2
        have hb : (f == g) = false := by simpa using fun z => hf z.symm
        exact ⟨x, by simp [List.lookup, hb, h3], h4⟩
theorem putFld_putF : ∀ {ns : List Str} {vs : List Val} {fs : List (Str × V)} {f : Str} {w : Val} {y : V}, fs.map (·.1) = ns → RVs K B H S vs (fs.map (·.2)) → RV K B H S w y →
    (putF f y fs).map (·.1) = (putFld ns vs f w).1 ∧ RVs K B H S (putFld ns vs f w).2 ((putF f y fs).map (·.2))
  | [], [], [], f, w, y, _, _, r => ⟨rfl, .cons r .nil⟩
  | [], _ :: _, fs, f, w, y, e, r, _ => by
    cases fs with
    | nil => cases r
    | cons p fs => cases e
  | _ :: _, _, [], _, _, _, e, _, _ => by cases e
  | [], [], _ :: _, _, _, _, e, _, _ => by cases e
  | n :: ns, [], _ :: _, _, _, _, _, r, _ => by cases r
  | n :: ns, v :: vs, (g, x) :: fs, f, w, y, e, r, rw_ => by
    have e1 : g = n := (List.cons.inj e).1
    have e2 : fs.map (·.1) = ns := (List.cons.inj e).2
    subst e1
    cases r with
    | cons r1 r2 =>
      by_cases hf : g = f
      · have z1 : putF f y ((g, x) :: fs) = (g, y) :: fs := by simp [putF, hf]
        have z2 : putFld (g :: ns) (v :: vs) f w = (g :: ns, w :: vs) := by simp [putFld, hf]
        rw [z1, z2]
        exact ⟨by simp [e2], .cons rw_ r2⟩
      · have z1 : putF f y ((g, x) :: fs) = (g, x) :: putF f y fs := by simp [putF, hf]
        have z2 : putFld (g :: ns) (v :: vs) f w = (g :: (putFld ns vs f w).1, v :: (putFld ns vs f w).2) := by simp [putFld, hf]
        obtain ⟨h1, h2⟩ := putFld_putF (f := f) (w := w) (y := y) e2 r2 rw_
        rw [z1, z2]
        exact ⟨by simp [h1], .cons r1 h2⟩
end
section
variable {X : Cx} {W : WX} {a b c e o : Expr} {es : List Expr} {ma mb me mo : IE} {ta tb : IT} {pos : Pos} {K : PySem.W.Frag} {B : Addr → Prop}
theorem se_fld {F : Str → Str → Bool} {f : Str} (hF : FldOk X.K F) (hb : plainBase e = true) (he : PE X e (liftE X.K W me)) : PE X (.Attribute e f pos) (liftE X.K W (un1 (fldP F f) me)) :=
  (pe_fld he (base_of hb)).imp fun σ H Q ⟨ρ, S, B, Qi, Ei, R, h, q, er⟩ => ⟨ρ, S, B, _, Ei, R, h, fun v S1 x H1 rv hr1 e h1 => by
    replace h1 := h1.h
    unfold fldP0 at h1
    split at h1
    · obtain ⟨hc, h1⟩ := h1
      obtain ⟨w, e1, h1⟩ := someP_some h1
      cases rv with
      | ins i1 i2 i3 i4 =>
        obtain ⟨y, l1, l2⟩ := fldOf_look i3 i4 e1
        exact ⟨_, _, _, _, y, rfl, i1, (hF _ _ hc).1, (hF _ _ hc).2, l1, q w S1 y H1 l2 hr1 e h1⟩
    · cases rv
      split at h1
      · rename_i ns vs q0
        obtain ⟨hc, h1⟩ := h1
        obtain ⟨w, e1, h1⟩ := someP_some h1
        obtain ⟨dx, fs, i1, i3, i4⟩ := hr1.ok _ _ q0
        obtain ⟨y, l1, l2⟩ := fldOf_look i3 i4 e1
        exact ⟨_, _, _, _, y, rfl, i1, (hF _ _ hc).1, (hF _ _ hc).2, l1, q w S1 y H1 l2 hr1 e h1⟩
      · exact h1.elim
    · exact h1.elim, er⟩
theorem ss_fld {F : Str → Str → Bool} {f : Str} {pos' : Pos} (hF : FldOk X.K F) (hc : compB e = false) (ho : PE X o (liftE X.K W mo)) (he : PE X e (liftE X.K W me)) : PS X (.Assign [.Attribute o f pos'] e pos) (liftS X.K W (setFldI F f mo me)) :=
  (ps_fld ho he (swaps_no hc)).imp fun D σ H ⟨ρ, S, B, Di, R, h, d⟩ => ⟨ρ, S, B, _, _, R, h, fun v S1 x H1 rv hr1 e1 h1 => ⟨ρ, S1, B, _, _, R.ext e1 hr1, h1, fun u S2 y H2 ru hr2 e2 h2 => by
    replace h2 := h2.h
    unfold setFP0 at h2
    dsimp only at h2
    split at h2
    · rename_i a
      cases ru
      split at h2
      · rename_i c ns vs q0
        obtain ⟨hc, hl, h2⟩ := h2
        obtain ⟨dx, fs, i1, i3, i4⟩ := hr2.ok _ _ q0
        have rv2 := rv.ext e2
        obtain ⟨p1, p2⟩ := putFld_putF (f := f) i3 i4 rv2
        refine ⟨_, _, _, _, rfl, i1, (hF _ _ hc).1, (hF _ _ hc).2, by rw [← List.length_map (f := (·.1)), i3]; exact hl, ?_⟩
        have ew : Ext S2 (S2.put a (.ins c (putFld ns vs f v).1 (putFld ns vs f v).2)) H2 (upd H2 a (.ins (He.ga X.K c) dx (putF f x fs))) := Ext.write q0
        refine d.nx ρ _ σ _ ((R.ext (e1.trans e2) hr2).ext ew (hr2.write q0 ⟨dx, _, upd_same, p1, p2.ext ew⟩)) ((e1.trans e2).trans ew) h2
      · exact h2.elim
    · exact h2.elim, (d.ext e1).er (R.ext e1 hr1).st⟩, d.er R.st⟩

/-! ### methods of lists -/
theorem appendP_ok : PMOk K appendP rAppend := by
  intro B x v xs vs S H Qi Q rx rs hr h q
  replace h := h.h
  unfold appendP0 putI at h
  split at h
  · cases rx
    split at h
    · rename_i a _ ys q0
      split at h
      · obtain ⟨hl, h⟩ := h
        obtain ⟨y, rfl, ry⟩ := vs1 rs
        obtain ⟨us, h1, h2⟩ := hr.ok _ _ q0
        exact ⟨a, us, y, rfl, rfl, h1, by rw [← h2.length]; exact hl, q.wrote hr q0 (h2.append (.cons ry .nil)) .non h⟩
      · exact h.elim
    · exact h.elim
  · exact h.elim
theorem extendP_ok : PMOk K extendP rExtend := by
  intro B x v xs vs S H Qi Q rx rs hr h q
  replace h := h.h
  unfold extendP0 putI at h
  split at h
  · cases rx
    split at h
    · rename_i a _ ys q0
      split at h
      · obtain ⟨y, rfl, ry⟩ := vs1 rs
        obtain ⟨zs, e1, hl, h⟩ := someP_some h
        obtain ⟨us, h1, h2⟩ := hr.ok _ _ q0
        obtain ⟨p, ws, rfl, h3, h4⟩ := lstOf_h hr ry e1
        exact ⟨a, p, us, ws, rfl, rfl, h1, h3, by rw [← h2.length, ← h4.length]; exact hl, q.wrote hr q0 (h2.append h4) .non h⟩
      · exact h.elim
    · exact h.elim
  · exact h.elim
theorem mt_popBoth : MtM X "list.pop" (fun x vs H Q => rPop x vs H Q ∨ rPopAt x vs H Q) := MtR.or mt_pop mt_popAt
theorem popP_ok : PMOk K popP (fun x vs H Q => rPop x vs H Q ∨ rPopAt x vs H Q) := by
  intro B x v xs vs S H Qi Q rx rs hr h q
  replace h := h.h
  unfold popP0 putI at h
  split at h
  · cases rx
    split at h
    · rename_i a _ ys q0
      obtain ⟨us, h1, h2⟩ := hr.ok _ _ q0
      split at h
      · have e := vs0 rs
        subst e
        obtain ⟨y, e1, h⟩ := someP_some h
        obtain ⟨w, e2, rw_⟩ := h2.get e1
        exact .inl ⟨a, us, w, rfl, rfl, h1, by rw [← h2.length]; exact e2, q.wrote hr q0 h2.dropLast rw_ h⟩
      · obtain ⟨y, rfl, ry⟩ := vs1 rs
        cases ry
        obtain ⟨b1, b2, h⟩ := h
        obtain ⟨k, e1, h⟩ := someP_some h
        obtain ⟨y, e2, h⟩ := someP_some h
        obtain ⟨w, e3, rw_⟩ := h2.get e2
        exact .inr ⟨a, us, _, k, w, rfl, rfl, h1, b1, b2, by rw [← h2.length]; exact e1, e3, q.wrote hr q0 (h2.eraseIdx k) rw_ h⟩
      · exact h.elim
    · exact h.elim
  · exact h.elim
/-- a list's method asks for a list -/
def isLst (S : Sto) (v : Val) : Bool := (lsqOf S v).isSome
theorem isLst_ty {B : Addr → Prop} {H : Hp} {S : Sto} {x : Val} {v : V} (hr : HR K B H S) (r : RV K B H S x v) (h : isLst S x = true) : tyV K "list" v H := by
  cases e : lsqOf S x with
  | none => unfold isLst at h; rw [e] at h; cases h
  | some xs =>
    obtain ⟨p, vs, rfl, h1, _⟩ := lsqOf_sq hr r e
    exact .inl ⟨rfl, _, h1⟩
/-- o.m(..), o a list -/
@[reducible] def lmethI (r : Val → PL) (o : IE) (as : IA) : IE := fun ρ S Q E => o ρ S (fun x S1 => isLst S1 x = true ∧ as ρ S1 (fun xs S2 => r x xs S2 Q) E) E
theorem se_lmeth0 {name : Str} {id : String} {r : Val → PL} {rr : V → List V → Hp → VK → Prop} {apos : Pos} (slot : Slot "list" name id) (hty : typeOf (.builtin id) = pure (.type "method_descriptor")) (hm : MtR X id rr) (hr : PMOk X.K r rr)
    (hb : plainBase o = true) (hl : (apos.endLine == pos.line) = true) (ho : PE X o (liftE X.K W mo)) : PE X (.Call (.Attribute o name apos) [] [] pos) (liftE X.K W (lmethI r mo nilA)) :=
  (pe_bm0 PySem.F.plainAttrs_list slot hty hm ho (base_of hb) hl).imp fun σ H Q ⟨ρ, S, B, Qi, Ei, R, h, q, er⟩ => ⟨ρ, S, B, _, Ei, R, h, fun v S1 x H1 rv hr1 e h1 =>
    ⟨isLst_ty hr1 rv h1.1, hr B v x [] [] S1 H1 Qi Q rv .nil hr1 h1.2 (q.ext e)⟩, er⟩
theorem se_lmeth {name : Str} {id : String} {r : Val → PL} {rr : V → List V → Hp → VK → Prop} {apos : Pos} {mr : IA} (slot : Slot "list" name id) (hty : typeOf (.builtin id) = pure (.type "method_descriptor")) (hm : MtR X id rr) (hr : PMOk X.K r rr)
    (hb : plainBase o = true) (hl : (apos.endLine == pos.line) = true) (hs : (a :: es).any starB = false) (hf : (a :: es).length < 30) (ho : PE X o (liftE X.K W mo)) (ha : PA X (a :: es) (liftA X.K W mr)) :
    PE X (.Call (.Attribute o name apos) (a :: es) [] pos) (liftE X.K W (lmethI r mo mr)) := by
  have h1 : (starB a || es.any starB) = false := hs
  obtain ⟨h1, h2⟩ := Bool.or_eq_false_iff.mp h1
  refine (pe_bm PySem.F.plainAttrs_list slot hty hm ho ha (base_of hb) ?_ hl (starEach_one h1) (backTo_plain h2)).imp fun σ H Q ⟨ρ, S, B, Qi, Ei, R, h, q, er⟩ => ⟨ρ, S, B, _, Ei, R, h, fun v S1 x H1 rv hr1 e h1 =>
    ⟨isLst_ty hr1 rv h1.1, ρ, S1, B, _, Ei, R.ext e hr1, h1.2, fun us S2 ys H2 ru hr2 e2 h2 => hr B v x us ys S2 H2 Qi Q (rv.ext e2) ru hr2 h2 (q.ext (e.trans e2)), er.ext e⟩, er⟩
  rw [backTo_all hs]
  show (true && true && decide ((a :: es).length + 0 + 0 < 30)) = true
  rw [decide_eq_true (by omega)]
  rfl

/-! ### own defs -/
/-- a def's promise, by what is known of it -/
def spG (K : PySem.W.Frag) (Γ : Calls) (f : Str) : Sp := fun vs H Q E => ∃ args S B Qi Ei, RVs K B H S args vs ∧ HR K B H S ∧ Γ f args S Qi Ei ∧ QR K B S H Qi Q ∧ (∀ e S' c d H', XR K B H' S' e c d → HR K B H' S' → Ext S S' H H' → Ei e S' → E c d H')
/-- the def f stands at its name, and keeps its promise -/
structure DefOk (X : Cx) (k : Nat) (Γ : Calls) (f : Str) (fd : FuncData) (ps : List Str) : Prop where
  ok : FnOk X.prog X.w X.K X.mg X.base (L2.CX X.prog X.w) k (He.ga X.K f) fd ps (spG X.K Γ f)
  mg : X.mg f = some (.ref (He.ga X.K f))
  kp : PySem.W.keepIn X.K (.ref (He.ga X.K f)) = true
  bi : Binds X.K fd ps []
theorem callF_imp {Γ : Calls} {f : Str} {mr : IA} : ∀ σ H Q, liftE K W (callF Γ f mr) σ H Q → tCallS (spG K Γ f) (WE W) (liftA K W mr) σ H Q := fun σ H Q ⟨ρ, S, B, Qi, Ei, R, h, q, er⟩ =>
  ⟨ρ, S, B, _, Ei, R, h, fun vs S1 xs H1 rv hr1 e h1 => ⟨vs, S1, B, Qi, Ei, rv, hr1, h1, q.ext e, er.ext e⟩, er⟩
theorem se_call {Γ : Calls} {f : Str} {fd : FuncData} {ps : List Str} {k : Nat} {mr : IA} {p : Pos} (D : DefOk X k Γ f fd ps) (hr : Room k X.A) (tk : Takes X W) (hg : Gl X f) (hdb : (f == ("__debug__" : Str)) = false)
    (hs : (a :: es).any starB = false) (ha : PA X (a :: es) (liftA X.K W mr)) : PE X (.Call (.Name f p) (a :: es) [] pos) (liftE X.K W (callF Γ f mr)) := by
  have h1 : (starB a || es.any starB) = false := hs
  obtain ⟨h1, h2⟩ := Bool.or_eq_false_iff.mp h1
  exact (pe_callS D.ok hr hg D.mg D.kp D.bi (fun σ => passAt tk σ) ha hdb (starEach_one h1) (backTo_plain h2)).imp callF_imp
theorem se_call0 {Γ : Calls} {f : Str} {fd : FuncData} {ps : List Str} {k : Nat} {p : Pos} (D : DefOk X k Γ f fd ps) (hr : Room k X.A) (tk : Takes X W) (hg : Gl X f) (hdb : (f == ("__debug__" : Str)) = false) : PE X (.Call (.Name f p) [] [] pos) (liftE X.K W (callF Γ f nilA)) := by
  refine ⟨fun pins s σ H Q I ⟨ρ, S, B, Qi, Ei, R, h, q, er⟩ => ?_⟩
  refine wpAny_Call_Name_kw (ld_glob I hg D.mg ?_ hdb)
  exact PySem.W.callWith_K0 I.kIn D.kp (run_fnS (us := []) (vs := []) (E := WE W) D.ok hr D.bi (passAt tk σ) I .nil ⟨[], S, B, Qi, Ei, .nil, R.hr, h, q, er⟩)
/-- the class c is made by its __init__ -/
structure MakeOk (X : Cx) (k : Nat) (Γ : Calls) (c : Str) (fd : FuncData) (ps : List Str) : Prop where
  mkr : ∃ f, Mk X.K (He.ga X.K c) f ∧ FnOk X.prog X.w X.K X.mg X.base (L2.CX X.prog X.w) k f fd ps (spG X.K Γ (c ++ ".__init__"))
  mg : X.mg c = some (.ref (He.ga X.K c))
  bi : Binds X.K fd ps []
theorem makeI_imp {Γ : Calls} {c : Str} {fz : Bool} {mr : IA} : ∀ σ H Q, liftE K W (makeI Γ c fz mr) σ H Q → tMake (He.ga K c) (spG K Γ (c ++ ".__init__")) [] E0 (liftA K W mr) σ H Q := fun σ H Q ⟨ρ, S, B, Qi, Ei, R, h, q, er⟩ =>
  ⟨ρ, S, B, _, Ei, R, h, fun vs S1 xs H1 rv hr1 e h1 a dx na nd ne => by
    have e1 : Ext S1 S1 H1 (upd H1 dx (.own a)) := Ext.new nd
    have na' : upd H1 dx (.own a) a = none := by rw [upd_ne ne.symm]; exact na
    have e2 : Ext S1 (S1.put a (.ins c [] [])) (upd H1 dx (.own a)) (upd (upd H1 dx (.own a)) a (.ins (He.ga K c) dx [])) := Ext.newCell na'
    have hr2 : HR K B (upd (upd H1 dx (.own a)) a (.ins (He.ga K c) dx [])) (S1.put a (.ins c [] [])) := (hr1.new nd).newCell na' ⟨dx, [], upd_same, rfl, .nil⟩
    refine ⟨.ref a :: vs, _, B, _, noX, .cons (.ref a) (by rw [List.append_nil]; exact rv.ext (e1.trans e2)), hr2, h1 a (hr1.free na).1, fun v S3 x H3 rv3 hr3 e3 h3 => ?_, fun _ _ _ _ _ _ _ _ z => z⟩
    obtain ⟨hn, h3⟩ := h3
    have hv : x = .non := by
      have z := isNon_of rv3
      rw [hn] at z
      exact of_decide_eq_true z.symm
    refine ⟨hv, ?_⟩
    have eAll : Ext S S3 H H3 := e.trans ((e1.trans e2).trans e3)
    unfold frzI at h3
    split at h3
    · exact q (.ref a) S3 (.ref a) H3 (.ref a) hr3 eAll h3
    · split at h3
      · rename_i c' ns vs' q0
        obtain ⟨dx', fs, i1, i3, i4⟩ := hr3.ok _ _ q0
        have ed : Ext S3 (S3.del a) H3 H3 := Ext.less fun b hb => by
          by_cases z : b = a
          · rw [z, Sto.del_same]
          · rw [Sto.del_ne z]; exact hb
        refine q (.ins c' ns vs') (S3.del a) (.ref a) H3 (.ins i1 ⟨Sto.del_same, fun z => by rw [(hr3.hid a z).1] at q0; cases q0⟩ i3 (i4.ext ed)) (hr3.less fun b k hb => ?_) (eAll.trans ed) h3
        by_cases z : b = a
        · rw [z, Sto.del_same] at hb; cases hb
        · rw [Sto.del_ne z] at hb; exact hb
      · exact h3.elim, er⟩
theorem se_make {Γ : Calls} {c : Str} {fz : Bool} {fd : FuncData} {ps : List Str} {k : Nat} {mr : IA} {p : Pos} (D : MakeOk X k Γ c fd ps) (hr : Room (k + 1) X.A) (hg : Gl X c) (hdb : (c == ("__debug__" : Str)) = false)
    (hs : (a :: es).any starB = false) (ha : PA X (a :: es) (liftA X.K W mr)) : PE X (.Call (.Name c p) (a :: es) [] pos) (liftE X.K W (makeI Γ c fz mr)) := by
  have h1 : (starB a || es.any starB) = false := hs
  obtain ⟨h1, h2⟩ := Bool.or_eq_false_iff.mp h1
  obtain ⟨f, M, F⟩ := D.mkr
  exact (pe_make M F hr hg D.mg D.bi .nil passL ha hdb (starEach_one h1) (backTo_plain h2)).imp makeI_imp
end
end TL

/-! TL6: targets, statements, what is walked, loops, comprehensions. -/
namespace TL
open PySem PySem.Spec L2
open PyProof.Rows hiding St

/-! ### targets -/
def gNames : List Nat → TGs
  | [] => gNil
  | i :: is => gCons (gName i) (gNames is)
def gT (K : PySem.W.Frag) : Tg → TG
  | .nm i => gName i
  | .tp is => gTup K is.length (gNames is)
def tgIdx : Tg → List Nat
  | .nm i => [i]
  | .tp is => is
/-- the slots of is alone may differ -/
def But (is : List Nat) (σ σ1 : St) : Prop := ∀ vs : List Nat, (∀ i ∈ is, i ∈ vs) → wipe σ1 vs = wipe σ vs
theorem wipe_get {σ : St} {j : Nat} : ∀ {vs : List Nat}, j ∈ vs → j < σ.length → (wipe σ vs)[j]? = some none
  | [], h, _ => by cases h
  | v :: vs, h, hl => by
    show ((L2.wipe σ vs).set v none)[j]? = some none
    by_cases e : v = j
    · subst e
      rw [List.getElem?_set_self (by rw [wipe_length]; exact hl)]
    · rw [List.getElem?_set_ne e]
      rcases List.mem_cons.mp h with z | z
      · exact absurd z.symm e
      · exact wipe_get z hl
theorem wipe_eq {σ σ1 : St} {vs : List Nat} (hl : σ1.length = σ.length) (h : ∀ j, j ∉ vs → σ1[j]? = σ[j]?) : wipe σ1 vs = wipe σ vs := by
  apply List.ext_getElem?
  intro j
  by_cases hj : j ∈ vs
  · by_cases hlt : j < σ.length
    · rw [wipe_get hj (by rw [hl]; exact hlt), wipe_get hj hlt]
    · rw [List.getElem?_eq_none (by rw [wipe_length]; omega), List.getElem?_eq_none (by rw [wipe_length]; omega)]
  · rw [wipe_out hj, wipe_out hj]
    exact h j hj
theorem But.set {σ : St} {i : Nat} {x : V} : But [i] σ (σ.set i (some x)) := fun vs h => wipe_eq (by simp) fun j hj => by
  rw [List.getElem?_set_ne (fun e => hj (by rw [← e]; exact h i (List.mem_singleton.mpr rfl)))]
section
variable {K : PySem.W.Frag} {B : Addr → Prop} {H : Hp} {S : Sto}
theorem setAll_ok : ∀ {is : List Nat} {xs : List Val} {vs : List V} {ρ ρ1 : ISt} {σ : St} {R : St → Hp → Prop}, RSt K B H S ρ σ → RVs K B H S xs vs → setAll ρ is xs = some ρ1 → (∀ σ1, RSt K B H S ρ1 σ1 → But is σ σ1 → R σ1 H) → gNames is vs σ H R
  | [], [], _, ρ, ρ1, σ, R, r, rv, e, h => by
    cases rv
    cases e
    exact ⟨rfl, h σ r fun _ _ => rfl⟩
  | [], _ :: _, _, _, _, _, _, _, _, e, _ => by cases e
  | _ :: _, [], _, _, _, _, _, _, _, e, _ => by cases e
  | i :: is, x :: xs, _, ρ, ρ1, σ, R, r, rv, e, h => by
    cases rv with
    | cons r1 r2 =>
      refine ⟨_, _, rfl, ?_⟩
      have e2 : setAll (setS ρ i x) is xs = some ρ1 := e
      refine setAll_ok (r.set r1) r2 e2 fun σ1 q b => h σ1 q fun vs hv => ?_
      rw [b vs fun j hj => hv j (List.mem_cons_of_mem _ hj)]
      exact But.set vs fun j hj => by
        rw [List.mem_singleton.mp hj]
        exact hv i List.mem_cons_self
theorem tg_ok {t : Tg} {x : Val} {v : V} {ρ ρ1 : ISt} {σ : St} {R : St → Hp → Prop} (r : RSt K B H S ρ σ) (rv : RV K B H S x v) (e : tgI t x ρ = some ρ1) (h : ∀ σ1, RSt K B H S ρ1 σ1 → But (tgIdx t) σ σ1 → R σ1 H) : gT K t v σ H R := by
  cases t with
  | nm i =>
    cases e
    exact h _ (r.set rv) But.set
  | tp is =>
    cases x with
    | tup xs =>
      have e2 : setAll ρ is xs = some ρ1 := e
      cases rv with
      | tup h1 h2 =>
        refine ⟨_, _, rfl, h1.sq, ?_, setAll_ok r h2 e2 h⟩
        rw [← h2.length]
        clear h h1 h2 r e
        induction is generalizing xs ρ with
        | nil => cases xs with
          | nil => rfl
          | cons x xs => cases e2
        | cons i is ih => cases xs with
          | nil => cases e2
          | cons x xs => exact congrArg Nat.succ (ih (xs := xs) e2)
    | _ => cases e
end
section
variable {X : Cx} {pos : Pos}
theorem pg_names {es : List Expr} {is : List Nat} (hN : X.N.Nodup) (h : Paired (fun e i => ∃ x p, e = Expr.Name x p ∧ X.N[i]? = some x ∧ Loc X.env.scope x ∧ (X.fn x = true ∨ X.env.scope.names.lookup x = some .local)) es is) :
    PGs X es (gNames is) ∧ (assignEach es X.env).length = is.length ∧ (assignEach es X.env).findIdx? (·.1) = none := by
  induction h with
  | nil => exact ⟨pgs_nil, rfl, rfl⟩
  | cons h1 h2 ih =>
    obtain ⟨x, p, rfl, a1, a2, a3⟩ := h1
    obtain ⟨i1, i2, i3⟩ := ih
    refine ⟨pgs_cons (pg_name hN a1 a2 a3) i1 rfl, ?_, ?_⟩
    · show (assignEach _ X.env).length + 1 = _
      rw [i2]
      rfl
    · show ((false, assign (.Name x p) X.env) :: assignEach _ X.env).findIdx? (·.1) = none
      rw [List.findIdx?_cons, i3]
      rfl
end

/-! ### statements -/
section
variable {X : Cx} {W : WX} {a b c e o : Expr} {es : List Expr} {ma mb me mo mi : IE} {ta tb : IT} {pos : Pos} {K : PySem.W.Frag} {st : Stmt} {sts : List Stmt} {m1 m2 : IS}
theorem frz_ok {f : Bool} {v : Val} {x : V} {S : Sto} {H : Hp} {Qi : VQ} {Q : VK} (rv : RV K B H S v x) (hr : HR K B H S) (h : frz f v S Qi) (q : QR K B S H Qi Q) : Q x H := by
  unfold frz at h
  split at h
  · exact q.same hr rv h
  · split at h
    · rename_i a
      split at h
      · rename_i xs q0
        cases rv
        obtain ⟨vs, h1, h2⟩ := hr.ok _ _ q0
        have ed : Ext S (S.del a) H H := Ext.less fun b hb => by
          by_cases z : b = a
          · rw [z, Sto.del_same]
          · rw [Sto.del_ne z]; exact hb
        refine q (.lst xs) (S.del a) (.ref a) H (.lst h1 ⟨Sto.del_same, fun z => by rw [(hr.hid _ z).1] at q0; cases q0⟩ (h2.ext ed)) (hr.less fun b k hb => ?_) ed h
        by_cases z : b = a
        · rw [z, Sto.del_same] at hb; cases hb
        · rw [Sto.del_ne z] at hb; exact hb
      · exact q.same hr rv h
    · exact q.same hr rv h
theorem ss_pass : PS X (.Pass pos) (liftS X.K W nextI) := ps_pass.imp fun D σ H ⟨ρ, S, B, Di, R, h, d⟩ => d.nx _ _ _ _ R Ext.refl h
theorem ss_break : PS X (.Break pos) (liftS X.K W breakI) := ps_break.imp fun D σ H ⟨ρ, S, B, Di, R, h, d⟩ => d.bk _ _ _ _ R Ext.refl h
theorem ss_cont : PS X (.Continue pos) (liftS X.K W contI) := ps_continue.imp fun D σ H ⟨ρ, S, B, Di, R, h, d⟩ => d.ct _ _ _ _ R Ext.refl h
theorem ss_never : PS X st (liftS X.K W neverI) := ⟨fun _ _ _ _ _ _ ⟨_, _, _, _, _, h, _⟩ => h.elim⟩
theorem sss_nil : PSs X [] (liftS X.K W nextI) := pss_nil.imp fun D σ H ⟨ρ, S, B, Di, R, h, d⟩ => d.nx _ _ _ _ R Ext.refl h
theorem DR.seq {S : Sto} {H : Hp} {Di : IEnds} {D : Ends} (d : DR K W B S H Di D) : DR K W B S H { Di with nx := m2 Di } { D with nx := liftS K W m2 D } :=
  ⟨fun ρ' S' σ' H' R e h => ⟨ρ', S', B, Di, R, h, d.ext e⟩, d.rt, d.ex, d.bk, d.ct⟩
theorem sss_cons (h1 : PS X st (liftS X.K W m1)) (h2 : PSs X sts (liftS X.K W m2)) : PSs X (st :: sts) (liftS X.K W (seqI m1 m2)) :=
  (pss_cons h1 h2).imp fun D σ H ⟨ρ, S, B, Di, R, h, d⟩ => ⟨ρ, S, B, _, R, h, d.seq⟩
theorem ss_expr (hc : compB e = false) (he : PE X e (liftE X.K W me)) : PS X (.Expr e pos) (liftS X.K W (dropI me)) :=
  (ps_expr he (swaps_no hc)).imp fun D σ H ⟨ρ, S, B, Di, R, h, d⟩ => ⟨ρ, S, B, _, _, R, h, fun v S1 x H1 rv hr1 e h1 => d.nx ρ S1 σ H1 (R.ext e hr1) e h1, d.er R.st⟩
theorem ss_doc {x : Str} {j : Nat} {p : Pos} : PS X (.Expr (.Constant (.str x) j p) pos) (liftS X.K W nextI) := ps_doc.imp fun D σ H ⟨ρ, S, B, Di, R, h, d⟩ => d.nx _ _ _ _ R Ext.refl h
theorem ss_ret {f : Bool} (he : PE X e (liftE X.K W me)) : PS X (.Return (some e) pos) (liftS X.K W (retI f me)) :=
  (ps_ret he).imp fun D σ H ⟨ρ, S, B, Di, R, h, d⟩ => ⟨ρ, S, B, _, _, R, h, fun v S1 x H1 rv hr1 e h1 => frz_ok rv hr1 h1 (d.rt.ext e), d.er R.st⟩
theorem ss_retN : PS X (.Return none pos) (liftS X.K W retN) := ps_retN.imp fun D σ H ⟨ρ, S, B, Di, R, h, d⟩ => d.rt.same R.hr .non h
theorem ss_if {s1 s2 : List Stmt} (hc : PT X c (liftT X.K W ta)) (ha : PSs X s1 (liftS X.K W m1)) (hb : PSs X s2 (liftS X.K W m2)) : PS X (.If c s1 s2 pos) (liftS X.K W (ifI ta m1 m2)) :=
  (ps_if hc ha hb).imp fun D σ H ⟨ρ, S, B, Di, R, h, d⟩ => ⟨ρ, S, B, _, _, R, h, fun k S1 H1 hr1 e h1 => by
    cases k with
    | true => exact iteT ⟨ρ, S1, B, Di, R.ext e hr1, h1, d.ext e⟩
    | false => exact iteF ⟨ρ, S1, B, Di, R.ext e hr1, h1, d.ext e⟩, d.er R.st⟩
theorem asg_imp {t : Tg} {te : TE} (hi : ∀ σ H Q, liftE K W me σ H Q → te σ H Q) : ∀ D σ H, liftS K W (setI t me) D σ H → tAsg te (gT K t) D σ H := fun D σ H ⟨ρ, S, B, Di, R, h, d⟩ => hi _ _ _
  ⟨ρ, S, B, _, _, R, h, fun v S1 x H1 rv hr1 e h1 => by
    obtain ⟨ρ1, e1, h1⟩ := someP_some h1
    exact tg_ok (R.st.ext e) rv e1 fun σ1 r1 _ => d.nx ρ1 S1 σ1 H1 ⟨r1, hr1⟩ e h1, d.er R.st⟩
/-- a name -/
theorem ss_set {i : Nat} {x : Str} {p : Pos} (hN : X.N.Nodup) (hi : X.N[i]? = some x) (hx : Loc X.env.scope x) (hf : X.fn x = true ∨ X.env.scope.names.lookup x = some .local) (hs : swapsWith e (some (.Name x p)) pos.line X.env = pure false) (he : PE X e (liftE X.K W me)) :
    PS X (.Assign [.Name x p] e pos) (liftS X.K W (setI (.nm i) me)) := (ps_set hN hi hx he hs hf).imp (asg_imp fun _ _ _ h => h)
/-- some names of a tuple -/
theorem ss_unpack {is : List Nat} {k : Nat} {p : Pos} (hc : X.calm = true) (hN : X.N.Nodup) (h : Paired (fun e i => ∃ x p, e = Expr.Name x p ∧ X.N[i]? = some x ∧ Loc X.env.scope x ∧ (X.fn x = true ∨ X.env.scope.names.lookup x = some .local)) es is)
    (hs : compB e = false) (hw : swappedStores [.Tuple es k p] e X.env = pure none) (he : PE X e (liftE X.K W me)) : PS X (.Assign [.Tuple es k p] e pos) (liftS X.K W (setI (.tp is) me)) := by
  obtain ⟨h1, h2, h3⟩ := pg_names hN h
  exact (ps_asg he (pg_tup hc h1 h2 h3) (swapsSole_no hs) hw).imp (asg_imp fun _ _ _ h => h)
/-- a, b = x, y -/
theorem ss_par2 {i j : Nat} {x y : Str} {px py pt : Pos} {kt k2 : Nat} {pt2 : Pos} {mr : IA} (hc : X.calm = true) (hN : X.N.Nodup) (hi : X.N[i]? = some x) (hj : X.N[j]? = some y) (hij : i ≠ j) (hx : X.env.scope.names.lookup x = some .local) (hy : X.env.scope.names.lookup y = some .local)
    (hw : swappedStores [.Tuple [.Name x px, .Name y py] kt pt] (.Tuple [a, b] k2 pt2) X.env = pure (some [x, y])) (ha : PA X [a, b] (liftA X.K W mr)) : PS X (.Assign [.Tuple [.Name x px, .Name y py] kt pt] (.Tuple [a, b] k2 pt2) pos) (liftS X.K W (parI [i, j] mr)) :=
  (ps_par hc hN hi hj hij hx hy ha hw rfl).imp fun D σ H ⟨ρ, S, B, Di, R, h, d⟩ => ⟨ρ, S, B, _, _, R, h, fun vs S1 xs H1 rv hr1 e h1 => by
    obtain ⟨ρ1, e1, h1⟩ := someP_some h1
    cases rv with
    | nil => cases e1
    | cons r1 rv => cases rv with
      | nil => cases e1
      | cons r2 rv => cases rv with
        | cons r3 rv => cases e1
        | nil =>
          cases e1
          exact ⟨_, _, rfl, d.nx _ S1 _ H1 ⟨((R.st.ext e).set r1).set r2, hr1⟩ e h1⟩, d.er R.st⟩
theorem ss_par3 {i j l : Nat} {x y z : Str} {px py pz pt : Pos} {kt k2 : Nat} {pt2 : Pos} {mr : IA} (hc : X.calm = true) (hN : X.N.Nodup) (hi : X.N[i]? = some x) (hj : X.N[j]? = some y) (hl : X.N[l]? = some z) (hij : i ≠ j) (hil : i ≠ l) (hjl : j ≠ l)
    (hx : X.env.scope.names.lookup x = some .local) (hy : X.env.scope.names.lookup y = some .local) (hz : X.env.scope.names.lookup z = some .local)
    (hw : swappedStores [.Tuple [.Name x px, .Name y py, .Name z pz] kt pt] (.Tuple [a, b, c] k2 pt2) X.env = pure (some [x, y, z])) (ha : PA X [a, b, c] (liftA X.K W mr)) : PS X (.Assign [.Tuple [.Name x px, .Name y py, .Name z pz] kt pt] (.Tuple [a, b, c] k2 pt2) pos) (liftS X.K W (parI [i, j, l] mr)) :=
  (ps_par3 hc hN hi hj hl hij hil hjl hx hy hz ha hw rfl).imp fun D σ H ⟨ρ, S, B, Di, R, h, d⟩ => ⟨ρ, S, B, _, _, R, h, fun vs S1 xs H1 rv hr1 e h1 => by
    obtain ⟨ρ1, e1, h1⟩ := someP_some h1
    cases rv with
    | nil => cases e1
    | cons r1 rv => cases rv with
      | nil => cases e1
      | cons r2 rv => cases rv with
        | nil => cases e1
        | cons r3 rv => cases rv with
          | cons r4 rv => cases e1
          | nil =>
            cases e1
            exact ⟨_, _, _, rfl, d.nx _ S1 _ H1 ⟨(((R.st.ext e).set r1).set r2).set r3, hr1⟩ e h1⟩, d.er R.st⟩
/-- x op= e -/
def AugOk (X : Cx) (op : Operator) (r : P2) : Prop := ∃ rr, PIp X op rr ∧ P2Ok X.K r rr
theorem ss_aug {i : Nat} {x : Str} {op : Operator} {r : P2} {p : Pos} (hN : X.N.Nodup) (hi : X.N[i]? = some x) (hx : Loc X.env.scope x) (hf : X.fn x = true ∨ X.env.scope.names.lookup x = some .local) (ho : AugOk X op r) (he : PE X e (liftE X.K W me)) :
    PS X (.AugAssign (.Name x p) op e pos) (liftS X.K W (augI i r me)) := by
  obtain ⟨rr, h1, h2⟩ := ho
  refine (ps_aug hN hi hx he h1 hf).imp fun D σ H ⟨ρ, S, B, Di, R, h, d⟩ => ?_
  obtain ⟨v, e0, h⟩ := getS_some h
  obtain ⟨y, e1, rv⟩ := R.st.2 i v e0
  refine ⟨y, e1, ρ, S, B, _, _, R, h, fun u S1 z H1 ru hr1 ee hq => ?_, d.er R.st⟩
  exact h2 B v u y z S1 H1 _ _ (rv.ext ee) ru hr1 hq fun w S2 t H2 rw_ hr2 e2 hn => d.nx _ S2 _ H2 ⟨(R.st.ext (ee.trans e2)).set rw_, hr2⟩ (ee.trans e2) hn
/-- o[i] = e -/
abbrev rSetD : TSet := fun o i v H R => ∃ a H4, o = .ref a ∧ DPut H a i v H4 ∧ R H4
theorem set_dict (hu : X.A.units + 1 < cLine) : PSet X rSetD := by
  intro pins s σ H o i v ov iv u Q I ro ri rv h
  obtain ⟨a, H4, rfl, g, q⟩ := h
  obtain rfl : ov = Value.ref a := ro
  exact d_setItem hu I g ri rv fun s4 I4 => ⟨H4, I4, q⟩
abbrev rrSet : TSet := fun o i v H R => rSetL o i v H R ∨ rSetD o i v H R
theorem set_both (hu : X.A.units + 1 < cLine) : PSet X rrSet := by
  intro pins s σ H o i v ov iv u Q I ro ri rv h
  rcases h with h | h
  · exact set_list pins s σ H o i v ov iv u Q I ro ri rv h
  · exact set_dict hu pins s σ H o i v ov iv u Q I ro ri rv h
theorem setIx_ok {o i v : Val} {x y z : V} {S : Sto} {H : Hp} {Kk : Sto → Prop} {R : Hp → Prop} (ro : RV K B H S o x) (ri : RV K B H S i y) (rv : RV K B H S v z) (hr : HR K B H S) (h : setIx o i v S Kk)
    (q : ∀ S' H', HR K B H' S' → Ext S S' H H' → Kk S' → R H') : rrSet x y z H R := by
  replace h := h.h
  unfold setIx0 at h
  split at h
  · cases ro
    split at h
    · rename_i a _ xs q0
      split at h
      · cases ri
        obtain ⟨j, e1, h⟩ := someP_some h
        obtain ⟨vs, h1, h2⟩ := hr.ok _ _ q0
        have e : Ext S (S.put a (.lst (xs.set j v))) H (upd H a (.lst (vs.set j z))) := Ext.write q0
        exact .inl ⟨a, vs, _, j, rfl, rfl, h1, by rw [← h2.length]; exact e1, q _ _ (hr.write (c := .lst (xs.set j v)) q0 ⟨_, upd_same, (h2.set rv j).ext e⟩) e h⟩
      · exact h.elim
    · rename_i a _ kvs q0
      obtain ⟨k, e1, h⟩ := someP_some h
      obtain ⟨us, h1, h2, h3⟩ := hr.ok _ _ q0
      have e : Ext S (S.put a (.dict (dPut kvs k v))) H (upd H a (.dK (putK us k z))) := Ext.write q0
      obtain ⟨p1, p2⟩ := dPut_put (k := k) rv h2 h3
      have hl : us.length < sizeLine := by
        have := congrArg List.length h2
        simp only [List.length_map] at this
        rw [this]
        exact h.1
      exact .inr ⟨a, _, rfl, by rw [keyV_kV ri e1]; exact DPut.k h1 hl, q _ _ (hr.write (c := .dict (dPut kvs k v)) q0 ⟨_, upd_same, p1, p2.ext e⟩) e h.2⟩
    · exact h.elim
  · exact h.elim
theorem swapsSole_sub {o i : Expr} {p : Pos} {e : Expr} {l : Nat} {env : Env} : swapsWithSole [.Subscript o i p] e l env = pure false := by
  cases e <;> rfl
theorem ss_store {p : Pos} (hu : X.A.units + 1 < cLine) (hi : sliceB b = false) (ho : PE X o (liftE X.K W mo)) (hb : PE X b (liftE X.K W mb)) (he : PE X e (liftE X.K W me)) : PS X (.Assign [.Subscript o b p] e pos) (liftS X.K W (storeI mo mb me)) :=
  (ps_asg he (pg_sub ho hb (set_both hu) (by intro v; cases b <;> first | rfl | cases hi)) swapsSole_sub rfl).imp fun D σ H ⟨ρ, S, B, Di, R, h, d⟩ => ⟨ρ, S, B, _, _, R, h, fun v S1 x H1 rv hr1 e1 h1 =>
    ⟨ρ, S1, B, _, _, R.ext e1 hr1, h1, fun u S2 y H2 ru hr2 e2 h2 => ⟨ρ, S2, B, _, _, R.ext (e1.trans e2) hr2, h2, fun w S3 z H3 rw_ hr3 e3 h3 =>
      setIx_ok (ru.ext e3) rw_ (rv.ext (e2.trans e3)) hr3 h3 fun S4 H4 hr4 e4 h4 => d.nx ρ S4 σ H4 (R.ext (e1.trans (e2.trans (e3.trans e4))) hr4) (e1.trans (e2.trans (e3.trans e4))) h4,
      (d.ext (e1.trans e2)).er (R.st.ext (e1.trans e2))⟩, (d.ext e1).er (R.st.ext e1)⟩, d.er R.st⟩

/-! ### while -/
theorem ss_while {body : List Stmt} (hp : PassesOwn (model X.prog X.w) X.A X.env X.xe) (hc : PT X c (liftT X.K W ta)) (hb : PSs X body (liftS X.K W m1)) : PS X (.While c body [] pos) (liftS X.K W (whileI ta m1)) :=
  (ps_while hp hc hb).imp fun D σ H ⟨ρ, S, B, Di, R, h, d⟩ => by
    obtain ⟨Wi, ⟨n, w0⟩, turn⟩ := h
    refine ⟨fun n σ1 H1 => ∃ ρ1 S1, Rl X.K B ρ1 S1 σ1 H1 ∧ Ext S S1 H H1 ∧ Wi n ρ1 S1, ⟨n, ρ, S, R, Ext.refl, w0⟩, fun n σ1 H1 ⟨ρ1, S1, R1, e1, w1⟩ => ?_⟩
    refine ⟨ρ1, S1, B, _, _, R1, turn n ρ1 S1 w1, fun k S2 H2 hr2 e2 h2 => ?_, (d.ext e1).er R1.st⟩
    cases k with
    | false => exact iteF (d.nx ρ1 S2 σ1 H2 (R1.ext e2 hr2) (e1.trans e2) h2)
    | true =>
      refine iteT ⟨fun σ3 H3 => ∃ ρ3 S3, Rl X.K B ρ3 S3 σ3 H3 ∧ Ext S S3 H H3 ∧ ∃ m', m' < n ∧ Wi m' ρ3 S3, fun σ3 H3 ⟨ρ3, S3, R3, e3, m', hm, w3⟩ => ⟨m', hm, ρ3, S3, R3, e3, w3⟩, ρ1, S2, B, _, R1.ext e2 hr2, h2, ?_⟩
      have d2 := d.ext (e1.trans e2)
      exact ⟨fun ρ3 S3 σ3 H3 R3 e3 w3 => ⟨ρ3, S3, R3, (e1.trans e2).trans e3, w3⟩, d2.rt, d2.ex, d2.nx, fun ρ3 S3 σ3 H3 R3 e3 w3 => ⟨ρ3, S3, R3, (e1.trans e2).trans e3, w3⟩⟩
end
end TL

/-! TL7: what is walked, for, comprehensions. -/
namespace TL
open PySem PySem.Spec L2
open PyProof.Rows hiding St
open RZ (ItzT pi_zipA)

/-- the layer's iterator J tells just these items, as long as the guarded list stays -/
structure ItOk (K : PySem.W.Frag) (B : Addr → Prop) (J : It) (S0 : Sto) (H0 : Hp) (g : Option Addr) (xs : List Val) : Prop where
  go : ∀ B' S H i, Wider B B' H0 → HR K B' H S → ExtB B' S0 S H0 H → guardOk g xs S → i < xs.length → J.go i H
  stop : ∀ B' S H i, Wider B B' H0 → HR K B' H S → ExtB B' S0 S H0 H → guardOk g xs S → xs.length ≤ i → J.stop i H
  yld : ∀ B' S H i x H', Wider B B' H0 → HR K B' H S → ExtB B' S0 S H0 H → guardOk g xs S → i < xs.length → J.yld i H x H' → ∃ v, xs[i]? = some v ∧ RV K B' H' S v x ∧ HR K B' H' S ∧ Ext S S H H'
def liftI (K : PySem.W.Frag) (W : WX) (m : II) : TI := fun σ H R => ∃ ρ S B Qi Ei, Rl K B ρ S σ H ∧ m ρ S Qi Ei ∧ (∀ g xs S' J H', HR K B H' S' → Ext S S' H H' → ItOk K B J S' H' g xs → Qi g xs S' → R J H') ∧ ER K W B σ S H Ei
theorem _root_.L2.PI.imp {X : Cx} {tg e : Expr} {t t' : TI} (h : PI X tg e t) (i : ∀ σ H Q, t' σ H Q → t σ H Q) : PI X tg e t' := ⟨fun pins s σ H Q I q => h.run pins s σ H Q I (i _ _ _ q)⟩

section
variable {K : PySem.W.Frag} {B : Addr → Prop} {S0 : Sto} {H0 : Hp}
theorem itOk_list {g : Option Addr} {a : Addr} {xs : List Val} (h : ∀ B' S H, Wider B B' H0 → HR K B' H S → ExtB B' S0 S H0 H → guardOk g xs S → ∃ vs, SqL K H a vs ∧ RVs K B' H S xs vs) : ItOk K B (Itl K a) S0 H0 g xs :=
  ⟨fun B' S H i wb hr e hg hi => by
    obtain ⟨vs, h1, h2⟩ := h B' S H wb hr e hg
    have hl := h2.length
    exact ⟨vs, vs[i]'(by omega), h1, List.getElem?_eq_getElem (by omega)⟩,
   fun B' S H i wb hr e hg hi => by
    obtain ⟨vs, h1, h2⟩ := h B' S H wb hr e hg
    have hl := h2.length
    exact ⟨vs, h1, by omega⟩,
   fun B' S H i x H' wb hr e hg hi hy => by
    obtain ⟨rfl, hy⟩ := hy
    obtain ⟨vs, h1, h2⟩ := h B' S _ wb hr e hg
    obtain ⟨v, h3, h4⟩ := h2.getR (hy vs h1)
    exact ⟨v, h3, h4, hr, Ext.refl⟩⟩
theorem itOk_tup {a : Addr} {xs : List Val} (h : ∀ B' S H, Wider B B' H0 → HR K B' H S → ExtB B' S0 S H0 H → ∃ vs, SqT K H a vs ∧ RVs K B' H S xs vs) : ItOk K B (Itt K a) S0 H0 none xs :=
  ⟨fun B' S H i wb hr e _ hi => by
    obtain ⟨vs, h1, h2⟩ := h B' S H wb hr e
    have hl := h2.length
    exact ⟨vs, vs[i]'(by omega), h1, List.getElem?_eq_getElem (by omega)⟩,
   fun B' S H i wb hr e _ hi => by
    obtain ⟨vs, h1, h2⟩ := h B' S H wb hr e
    have hl := h2.length
    exact ⟨vs, h1, by omega⟩,
   fun B' S H i x H' wb hr e _ hi hy => by
    obtain ⟨rfl, hy⟩ := hy
    obtain ⟨vs, h1, h2⟩ := h B' S _ wb hr e
    obtain ⟨v, h3, h4⟩ := h2.getR (hy vs h1)
    exact ⟨v, h3, h4, hr, Ext.refl⟩⟩
theorem itOk_str {x : Str} : ItOk K B (Its x) S0 H0 none (walkStr x) := by
  have hl : (walkStr x).length = x.cps.size := by unfold walkStr; rw [List.length_map, Array.length_toList]
  refine ⟨fun B' S H i wb hr e _ hi => by rw [hl] at hi; exact hi, fun B' S H i wb hr e _ hi => by rw [hl] at hi; exact hi, fun B' S H i y H' wb hr e _ hi hy => ?_⟩
  obtain ⟨rfl, c, hc, rfl⟩ := hy
  refine ⟨.str ⟨#[c]⟩, ?_, .str _, hr, Ext.refl⟩
  unfold walkStr
  rw [List.getElem?_map, Array.getElem?_toList, hc]
  rfl
theorem enumFrom_get : ∀ {xs : List Val} {n i : Nat} {x : Val}, xs[i]? = some x → (enumFrom n xs)[i]? = some (.tup [.int ((n + i : Nat) : Int), x])
  | [], _, _, _, h => by simp at h
  | y :: ys, n, 0, x, h => by
    simp at h
    subst h
    rfl
  | y :: ys, n, i + 1, x, h => by
    have h2 : ys[i]? = some x := by simpa using h
    have q := enumFrom_get (n := n + 1) h2
    have e : n + 1 + i = n + (i + 1) := by omega
    rw [e] at q
    exact q
theorem enumFrom_length : ∀ (xs : List Val) (n : Nat), (enumFrom n xs).length = xs.length
  | [], _ => rfl
  | _ :: xs, n => congrArg Nat.succ (enumFrom_length xs (n + 1))
theorem zipV_get : ∀ {xs ys : List Val} {i : Nat} {x y : Val}, xs[i]? = some x → ys[i]? = some y → (zipV xs ys)[i]? = some (.tup [x, y])
  | [], _, _, _, _, h, _ => by simp at h
  | _ :: _, [], _, _, _, _, h => by simp at h
  | a :: xs, b :: ys, 0, x, y, h, h2 => by
    simp at h h2
    subst h h2
    rfl
  | a :: xs, b :: ys, i + 1, x, y, h, h2 => zipV_get (xs := xs) (ys := ys) (i := i) (by simpa using h) (by simpa using h2)
theorem zipV_length : ∀ (xs ys : List Val), (zipV xs ys).length = min xs.length ys.length
  | [], ys => by simp [zipV]
  | _ :: _, [] => by simp [zipV]
  | _ :: xs, _ :: ys => by
    show (zipV xs ys).length + 1 = _
    rw [zipV_length xs ys]
    simp only [List.length_cons]
    omega
theorem itOk_enum {a : Addr} {xs : List Val} (h : ∀ B' S H, Wider B B' H0 → HR K B' H S → ExtB B' S0 S H0 H → ∃ vs, SqL K H a vs ∧ RVs K B' H S xs vs) : ItOk K B (Ite K a) S0 H0 none (enumFrom 0 xs) := by
  refine ⟨fun B' S H i wb hr e _ hi => ?_, fun B' S H i wb hr e _ hi => ?_, fun B' S H i x H' wb hr e _ hi hy => ?_⟩ <;> rw [enumFrom_length] at hi <;> obtain ⟨vs, h1, h2⟩ := h B' S H wb hr e <;> have hl := h2.length
  · exact ⟨vs, vs[i]'(by omega), h1, List.getElem?_eq_getElem (by omega)⟩
  · exact ⟨vs, h1, by omega⟩
  · obtain ⟨T, y, rfl, hT, rfl, hx⟩ := hy
    obtain ⟨v, h3, h4⟩ := h2.getR (hx vs h1)
    have q := enumFrom_get (n := 0) h3
    rw [Nat.zero_add] at q
    exact ⟨_, q, .tup (.inl ⟨.inl upd_same, hr.free hT⟩) (.cons (.int _) (.cons (h4.ext (Ext.new hT)) .nil)), hr.new hT, Ext.new hT⟩
theorem itOk_zip {a b : Addr} {xs ys : List Val} (h : ∀ B' S H, Wider B B' H0 → HR K B' H S → ExtB B' S0 S H0 H → ∃ vs us, SqL K H a vs ∧ SqL K H b us ∧ RVs K B' H S xs vs ∧ RVs K B' H S ys us) : ItOk K B (Itz K a b) S0 H0 none (zipV xs ys) := by
  refine ⟨fun B' S H i wb hr e _ hi => ?_, fun B' S H i wb hr e _ hi => ?_, fun B' S H i x H' wb hr e _ hi hy => ?_⟩ <;> rw [zipV_length] at hi <;> obtain ⟨vs, us, h1, h2, h3, h4⟩ := h B' S H wb hr e <;> have hl := h3.length <;> have hl2 := h4.length
  · exact ⟨vs, us, vs[i]'(by omega), us[i]'(by omega), h1, h2, List.getElem?_eq_getElem (by omega), List.getElem?_eq_getElem (by omega)⟩
  · exact ⟨vs, us, h1, h2, by omega⟩
  · obtain ⟨T, y, z, rfl, hT, rfl, hx, hz⟩ := hy
    obtain ⟨v, q1, q2⟩ := h3.getR (hx vs h1)
    obtain ⟨w, q3, q4⟩ := h4.getR (hz us h2)
    exact ⟨_, zipV_get q1 q3, .tup (.inl ⟨.inl upd_same, hr.free hT⟩) (.cons (q2.ext (Ext.new hT)) (.cons (q4.ext (Ext.new hT)) .nil)), hr.new hT, Ext.new hT⟩
theorem itOk_zipT {a b : Addr} {xs ys : List Val} (h : ∀ B' S H, Wider B B' H0 → HR K B' H S → ExtB B' S0 S H0 H → ∃ vs us, SqT K H a vs ∧ SqT K H b us ∧ RVs K B' H S xs vs ∧ RVs K B' H S ys us) : ItOk K B (ItzT K a b) S0 H0 none (zipV xs ys) := by
  refine ⟨fun B' S H i wb hr e _ hi => ?_, fun B' S H i wb hr e _ hi => ?_, fun B' S H i x H' wb hr e _ hi hy => ?_⟩ <;> rw [zipV_length] at hi <;> obtain ⟨vs, us, h1, h2, h3, h4⟩ := h B' S H wb hr e <;> have hl := h3.length <;> have hl2 := h4.length
  · exact ⟨vs, us, vs[i]'(by omega), us[i]'(by omega), h1, h2, List.getElem?_eq_getElem (by omega), List.getElem?_eq_getElem (by omega)⟩
  · exact ⟨vs, us, h1, h2, by omega⟩
  · obtain ⟨T, y, z, rfl, hT, rfl, hx, hz⟩ := hy
    obtain ⟨v, q1, q2⟩ := h3.getR (hx vs h1)
    obtain ⟨w, q3, q4⟩ := h4.getR (hz us h2)
    exact ⟨_, zipV_get q1 q3, .tup (.inl ⟨.inl upd_same, hr.free hT⟩) (.cons (q2.ext (Ext.new hT)) (.cons (q4.ext (Ext.new hT)) .nil)), hr.new hT, Ext.new hT⟩
theorem itOk_range {lo : Int} {n : Nat} : ItOk K B (Itr lo n) S0 H0 none (upTo lo n) := by
  have hl : (upTo lo n).length = n := by unfold upTo; rw [List.length_map, List.length_range]
  refine ⟨fun B' S H i wb hr e _ hi => by rw [hl] at hi; exact hi, fun B' S H i wb hr e _ hi => by rw [hl] at hi; exact hi, fun B' S H i x H' wb hr e _ hi hy => ?_⟩
  obtain ⟨rfl, rfl⟩ := hy
  rw [hl] at hi
  refine ⟨.int (lo + i), ?_, .int _, hr, Ext.refl⟩
  unfold upTo
  rw [List.getElem?_map, List.getElem?_range hi]
  rfl
end

section
variable {X : Cx} {W : WX} {a b c e o : Expr} {es : List Expr} {ma mb me mo : IE} {ta tb : IT} {pos : Pos} {tg : Expr}
/-- a list, a tuple, a text -/
theorem pi_walk (he : PE X e (liftE X.K W me)) : PI X tg e (liftI X.K W (walkI me)) := by
  refine ⟨fun pins s σ H R I ⟨ρ, S, B, Qi, Ei, Rr, h, q, er⟩ => ?_⟩
  let W0 : VK := fun x H1 => ∃ v S1, RV X.K B H1 S1 v x ∧ HR X.K B H1 S1 ∧ Ext S S1 H H1 ∧ (match v with
    | .tup xs => Qi none xs S1
    | .set xs => Qi none xs S1
    | .lst xs => Qi none xs S1
    | .scr ns => Qi none (ns.map Val.int) S1
    | .str x => Qi none (walkStr x) S1
    | .ref a => (match S1 a with
      | some (.lst xs) => Qi (some a) xs S1
      | _ => False)
    | _ => False)
  refine thn (he.run pins s σ H W0 I ⟨ρ, S, B, _, Ei, Rr, h, fun v S1 x H1 rv hr e h1 => ⟨v, S1, rv, hr, e, h1⟩, er⟩) fun u s1 ⟨x, H1, I1, r1, v, S1, rv, hr, ex, hv⟩ => ?_
  have lists : ∀ (p : Addr) (vs : List V) (g : Option Addr) (xs : List Val), x = .ref p → SqL X.K H1 p vs → (∀ B' S H, Wider B B' H1 → HR X.K B' H S → ExtB B' S1 S H1 H → guardOk g xs S → ∃ vs, SqL X.K H p vs ∧ RVs X.K B' H S xs vs) → Qi g xs S1 → wpAny (model X.prog X.w) X.A (pyIter u) (PIE X pins σ tg R) X.xe s1 := by
    intro p vs g xs e1 hs hi hq
    subst e1
    cases r1
    obtain ⟨its, rw_, pl, hz⟩ := I1.list hs
    refine wpAny_pyIter_list pl.isList ⟨_, [_], _, _, H1, rfl, I1.kept (t' := s1.toks) fun b o e => Heap.get?_push_of_some _ e, turn_list p _, ⟨_, Heap.get?_push_size _ rfl, rfl, rfl⟩, fun b hb => ?_, q g xs S1 _ H1 hr ex (itOk_list hi) hq⟩
    obtain rfl : b = _ := List.mem_singleton.mp hb
    exact I1.fpOk (Nat.le_refl _) (I1.hok.fresh (Nat.le_refl _))
  cases rv with
  | kt h0 h2 =>
    cases r1
    have h1 := h0.at (K := X.K)
    obtain ⟨its, rw_, pl, hz⟩ := I1.tuple h1.sq
    refine wpAny_pyIter_tuple (show s1.heap.IsTuple _ its.toArray from pl) ⟨_, [_], _, _, H1, rfl, I1.kept (t' := s1.toks) fun b o e => Heap.get?_push_of_some _ e, turn_tuple _ _, ⟨_, Heap.get?_push_size _ rfl, rfl, rfl⟩, fun b hb => ?_,
      q none _ S1 _ H1 hr ex (itOk_tup fun B' S2 H2 wb hr2 e2 => ⟨_, ((h1.moreB wb).extB e2).sq, (h2.moreB wb).extB e2⟩) hv⟩
    obtain rfl : b = _ := List.mem_singleton.mp hb
    exact I1.fpOk (Nat.le_refl _) (I1.hok.fresh (Nat.le_refl _))
  | tup h1 h2 =>
    cases r1
    obtain ⟨its, rw_, pl, hz⟩ := I1.tuple h1.sq
    refine wpAny_pyIter_tuple (show s1.heap.IsTuple _ its.toArray from pl) ⟨_, [_], _, _, H1, rfl, I1.kept (t' := s1.toks) fun b o e => Heap.get?_push_of_some _ e, turn_tuple _ _, ⟨_, Heap.get?_push_size _ rfl, rfl, rfl⟩, fun b hb => ?_,
      q none _ S1 _ H1 hr ex (itOk_tup fun B' S2 H2 wb hr2 e2 => ⟨_, ((h1.moreB wb).extB e2).sq, (h2.moreB wb).extB e2⟩) hv⟩
    obtain rfl : b = _ := List.mem_singleton.mp hb
    exact I1.fpOk (Nat.le_refl _) (I1.hok.fresh (Nat.le_refl _))
  | lst h1 h2 h3 => exact lists _ _ none _ rfl (SqL.of h1) (fun B' S2 H2 wb hr2 e2 _ => ⟨_, SqL.of (e2 _ _ h2.1 (wb.no h1 h2.2) h1).2, (h3.moreB wb).extB e2⟩) hv
  | scr h1 => exact lists _ _ none _ rfl h1.sq (fun B' S2 H2 wb hr2 e2 _ => ⟨_, ((h1.moreB wb).extB e2).sq, RVs.of_ints _⟩) hv
  | ref a =>
    dsimp only at hv
    split at hv
    · rename_i xs q0
      obtain ⟨vs, h1, h2⟩ := hr.ok _ _ q0
      refine lists a vs (some a) xs rfl (SqL.of h1) (fun B' S2 H2 wb hr2 e2 hg => ?_) hv
      obtain ⟨vs2, h3, h4⟩ := hr2.ok _ _ (show S2 a = some (.lst xs) from hg)
      exact ⟨vs2, SqL.of h3, h4⟩
    · exact hv.elim
  | str z =>
    obtain ⟨t, rfl⟩ := r1
    cases ha : z.cps.all (· < 128)
    · exact wpAny_pyIter_wide ha (pi_one (tk := s1.toks) I1 _ (turn_str _ z t "str_iterator" (.inr rfl)) ⟨_, Heap.get?_push_size _ rfl, rfl, rfl⟩ (q none _ S1 _ H1 hr ex itOk_str hv))
    · exact wpAny_pyIter_ascii ha (pi_one (tk := s1.toks) I1 _ (turn_str _ z t "str_ascii_iterator" (.inl rfl)) ⟨_, Heap.get?_push_size _ rfl, rfl, rfl⟩ (q none _ S1 _ H1 hr ex itOk_str hv))
  | _ => exact (show False from hv).elim
theorem pi_rng1 {p : Pos} (hg : Gl X "range") (hm : X.mg "range" = none) (hs : starB a = false) (ha : PE X a (liftE X.K W ma)) : PI X tg (.Call (.Name "range" p) [a] [] pos) (liftI X.K W (rng1I ma)) :=
  (pi_range1 hg hm (pa_cons ha pa_nil (starEach_one hs)) (starEach_one hs)).imp fun σ H R ⟨ρ, S, B, Qi, Ei, Rr, h, q, er⟩ => ⟨ρ, S, B, _, Ei, Rr, h, fun v S1 x H1 rv hr1 e h1 => by
    cases rv with
    | int j =>
      obtain ⟨⟨b1, b2⟩, h1⟩ := h1
      exact ⟨j, rfl, b1, b2, q none _ S1 _ H1 hr1 e itOk_range h1⟩
    | _ => exact (show False from h1).elim, er⟩
theorem pi_rng2 {p : Pos} (hg : Gl X "range") (hm : X.mg "range" = none) (hs : starB a = false) (hs2 : starB b = false) (ha : PE X a (liftE X.K W ma)) (hb : PE X b (liftE X.K W mb)) : PI X tg (.Call (.Name "range" p) [a, b] [] pos) (liftI X.K W (rng2I ma mb)) :=
  (pi_range2 hg hm (pa_cons ha (pa_cons hb pa_nil (starEach_one hs2)) (starEach_one hs)) (by rw [starEach_one hs, starEach_one hs2]; rfl) (starEach_one hs2)).imp fun σ H R ⟨ρ, S, B, Qi, Ei, Rr, h, q, er⟩ => ⟨ρ, S, B, _, Ei, Rr, h, fun v S1 x H1 rv hr1 e1 h1 =>
    ⟨ρ, S1, B, _, Ei, Rr.ext e1 hr1, h1, fun u S2 y H2 ru hr2 e2 h2 => by
      dsimp only at h2
      split at h2
      · cases rv; cases ru
        obtain ⟨⟨b1, b2⟩, ⟨b3, b4⟩, h2⟩ := h2
        exact ⟨_, _, rfl, ⟨b1, b2, b3, b4⟩, q none _ S2 _ H2 hr2 (e1.trans e2) itOk_range h2⟩
      · exact h2.elim, er.ext e1⟩, er⟩
theorem pi_enu {p : Pos} {elts : List Expr} {kk : Nat} {tpos : Pos} (hg : Gl X "enumerate") (hm : X.mg "enumerate" = none) (hs : starB a = false) (ha : PE X a (liftE X.K W ma)) : PI X (.Tuple elts kk tpos) (.Call (.Name "enumerate" p) [a] [] pos) (liftI X.K W (enumI ma)) :=
  (pi_enum hg hm (pa_cons ha pa_nil (starEach_one hs)) (starEach_one hs)).imp fun σ H R ⟨ρ, S, B, Qi, Ei, Rr, h, q, er⟩ => ⟨ρ, S, B, _, Ei, Rr, h, fun v S1 x H1 rv hr1 e h1 => by
    cases rv with
    | lst i1 i2 i3 => exact ⟨_, _, rfl, SqL.of i1, q none _ S1 _ H1 hr1 e (itOk_enum fun B' S2 H2 wb hr2 e2 => ⟨_, SqL.of (e2 _ _ i2.1 (wb.no i1 i2.2) i1).2, (i3.moreB wb).extB e2⟩) h1⟩
    | _ => exact (show False from h1).elim, er⟩
theorem pi_zp {p : Pos} {elts : List Expr} {kk : Nat} {tpos : Pos} (hg : Gl X "zip") (hm : X.mg "zip" = none) (hs : starB a = false) (hs2 : starB b = false) (ha : PE X a (liftE X.K W ma)) (hb : PE X b (liftE X.K W mb)) : PI X (.Tuple elts kk tpos) (.Call (.Name "zip" p) [a, b] [] pos) (liftI X.K W (zipI ma mb)) :=
  (pi_zipA hg hm (pa_cons ha (pa_cons hb pa_nil (starEach_one hs2)) (starEach_one hs)) (starEach_one hs) (backTo_plain (by show (starB b || false) = false; rw [hs2]; rfl))).imp fun σ H R ⟨ρ, S, B, Qi, Ei, Rr, h, q, er⟩ => ⟨ρ, S, B, _, Ei, Rr, h, fun v S1 x H1 rv hr1 e1 h1 =>
    ⟨ρ, S1, B, _, Ei, Rr.ext e1 hr1, h1, fun u S2 y H2 ru hr2 e2 h2 => by
      dsimp only at h2
      have rv2 := rv.ext e2
      split at h2
      · cases rv2 with
        | lst i1 i2 i3 =>
        cases ru with
        | lst j1 j2 j3 =>
        exact ⟨_, _, _, _, rfl, .inl ⟨SqL.of i1, SqL.of j1, q none _ S2 _ H2 hr2 (e1.trans e2) (itOk_zip fun B' S3 H3 wb hr3 e3 => ⟨_, _, SqL.of (e3 _ _ i2.1 (wb.no i1 i2.2) i1).2, SqL.of (e3 _ _ j2.1 (wb.no j1 j2.2) j1).2, (i3.moreB wb).extB e3, (j3.moreB wb).extB e3⟩) h2⟩⟩
      · cases rv2 with
        | tup i1 i2 =>
        cases ru with
        | tup j1 j2 =>
        exact ⟨_, _, _, _, rfl, .inr ⟨i1.sq, j1.sq, q none _ S2 _ H2 hr2 (e1.trans e2) (itOk_zipT fun B' S3 H3 wb hr3 e3 => ⟨_, _, ((i1.moreB wb).extB e3).sq, ((j1.moreB wb).extB e3).sq, (i2.moreB wb).extB e3, (j2.moreB wb).extB e3⟩) h2⟩⟩
      · exact h2.elim, er.ext e1⟩, er⟩

/-! ### for -/
theorem drop_nil {α : Type} {xs : List α} {i : Nat} (h : xs.drop i = []) (hi : i ≤ xs.length) : i = xs.length := by
  have := congrArg List.length h
  rw [List.length_drop] at this
  simp at this
  omega
theorem drop_cons {α : Type} {xs r : List α} {x : α} {i : Nat} (h : xs.drop i = x :: r) : i < xs.length ∧ xs[i]? = some x ∧ xs.drop (i + 1) = r := by
  have hl : i < xs.length := by
    have := congrArg List.length h
    rw [List.length_drop] at this
    simp at this
    omega
  refine ⟨hl, ?_, ?_⟩
  · have q : (xs.drop i)[0]? = some x := by rw [h]; rfl
    rw [List.getElem?_drop] at q
    exact q
  · rw [← List.drop_drop, h]
    rfl
theorem ss_for {iter : Expr} {body : List Stmt} {t : Tg} {m1 : IS} {mi : II} (hp : PassesOwn (model X.prog X.w) X.A X.env X.xe) (hc : X.calm = true) (hi : PI X tg iter (liftI X.K W mi)) (hg : PG X tg (gT X.K t)) (hb : PSs X body (liftS X.K W m1)) (hs : setB iter = false) :
    PS X (.For tg iter body [] pos) (liftS X.K W (forI mi t m1)) :=
  (ps_for hp hc hi hg hb (folded_no hs)).imp fun D σ H ⟨ρ, S, B, Di, R, h, d⟩ => ⟨ρ, S, B, _, _, R, h, fun g xs S1 J H1 hr1 e1 io h1 => by
    have R1 := R.ext e1 hr1
    refine ⟨fun i m σ2 H2 => m = xs.length - i ∧ i ≤ xs.length ∧ ∃ ρ2 S2, Rl X.K B ρ2 S2 σ2 H2 ∧ Ext S1 S2 H1 H2 ∧ forGo g xs t m1 Di (xs.drop i) ρ2 S2, ⟨xs.length, rfl, Nat.zero_le _, ρ, S1, R1, Ext.refl, h1⟩, fun i m σ2 H2 ⟨hm, hi, ρ2, S2, R2, e2, h2⟩ => ?_⟩
    cases hd : xs.drop i with
    | nil =>
      rw [hd] at h2
      obtain ⟨hgd, h2⟩ := h2
      have hi2 := drop_nil hd hi
      exact .inl ⟨io.stop B S2 H2 i Wider.refl R2.hr e2.b hgd (by omega), d.nx ρ2 S2 σ2 H2 R2 (e1.trans e2) h2⟩
    | cons x r =>
      rw [hd] at h2
      obtain ⟨hgd, h2⟩ := h2
      obtain ⟨hl, hx, hr⟩ := drop_cons hd
      obtain ⟨ρ3, e3, h2⟩ := someP_some h2
      refine .inr ⟨io.go B S2 H2 i Wider.refl R2.hr e2.b hgd hl, fun σ4 H4 => ∃ ρ4 S4, Rl X.K B ρ4 S4 σ4 H4 ∧ Ext S1 S4 H1 H4 ∧ forGo g xs t m1 Di r ρ4 S4, fun σ4 H4 ⟨ρ4, S4, R4, e4, h4⟩ => ⟨xs.length - (i + 1), by omega, rfl, hl, ρ4, S4, R4, e4, by rw [hr]; exact h4⟩, fun y H3 hy => ?_⟩
      obtain ⟨v, q1, rv, hr3, ee⟩ := io.yld B S2 H2 i y H3 Wider.refl R2.hr e2.b hgd hl hy
      rw [hx] at q1
      cases q1
      have eA := e2.trans ee
      refine tg_ok (R2.st.ext ee) rv e3 fun σ5 r5 _ => ⟨ρ3, S2, B, _, ⟨r5, hr3⟩, h2, ?_⟩
      have dA := d.ext (e1.trans eA)
      exact ⟨fun ρ6 S6 σ6 H6 R6 e6 h6 => ⟨ρ6, S6, R6, eA.trans e6, h6⟩, dA.rt, dA.ex, dA.nx, fun ρ6 S6 σ6 H6 R6 e6 h6 => ⟨ρ6, S6, R6, eA.trans e6, h6⟩⟩, d.er R.st⟩

/-! ### comprehensions -/
abbrev noW : WX := fun _ _ _ _ => False
theorem wipe_twice (σ : St) (vs : List Nat) : wipe (wipe σ vs) vs = wipe σ vs := wipe_eq (wipe_length _ _) fun j hj => wipe_out hj
/-- all but the place p -/
def ExtX (p : Addr) (S S' : Sto) (H H' : Hp) : Prop := ∀ a o, a ≠ p → S a = none → H a = some o → S' a = none ∧ H' a = some o
theorem Ext.x {p : Addr} {S S' : Sto} {H H' : Hp} (e : Ext S S' H H') : ExtX p S S' H H' := fun a o _ h1 h2 => e a o h1 h2
theorem ExtX.trans {p : Addr} {S S1 S2 : Sto} {H H1 H2 : Hp} (a : ExtX p S S1 H H1) (b : ExtX p S1 S2 H1 H2) : ExtX p S S2 H H2 := fun c o hp h1 h2 =>
  let ⟨h3, h4⟩ := a c o hp h1 h2
  b c o hp h3 h4
theorem ExtX.toB {p : Addr} {B : Addr → Prop} {S S' : Sto} {H H' : Hp} (hp : B p) (e : ExtX p S S' H H') : ExtB B S S' H H' := fun a o h1 h2 h3 => e a o (fun z => h2 (by rw [z]; exact hp)) h1 h3
theorem ExtX.upd {p : Addr} {S : Sto} {H : Hp} {o : HO} : ExtX p S S H (L2.upd H p o) := fun a u hp h1 h2 => ⟨h1, by rw [upd_ne hp]; exact h2⟩
theorem ExtX.ext {p : Addr} {S S' : Sto} {H H' : Hp} (hp : H p = none) (e : ExtX p S S' H H') : Ext S S' H H' := fun a o h1 h2 => e a o (ne_of_none h2 hp) h1 h2
/-- the loop of a comprehension: Dd the list that grows -/
theorem lc_loop {K : PySem.W.Frag} {B0 B1 : Addr → Prop} {J : It} {S1 : Sto} {H1 Hs : Hp} {g : Option Addr} {xs acc0 : List Val} {vs0 : List V} {Dd : Addr} {t : Tg} {ρw : ISt} {σ : St} {own : List Nat} {Kk : List Val → Sto → Prop} {Fin : Hp → Prop}
    (io : ItOk K B0 J S1 H1 g xs) (wb : Wider B0 B1 H1) (dD : B1 Dd) (hrs : HR K B1 Hs S1) (es : ExtX Dd S1 S1 H1 Hs) (hds : Hs Dd = some (.lst vs0)) (rvs : RVs K B1 Hs S1 acc0 vs0) (rst : RSt K B1 Hs S1 ρw (wipe σ own)) (ht : ∀ i ∈ tgIdx t, i ∈ own)
    (h : lcGo g xs t ta me ρw xs acc0 S1 Kk) (fin : ∀ acc S H vs, HR K B1 H S → ExtX Dd S1 S Hs H → H Dd = some (.lst vs) → RVs K B1 H S acc vs → Kk acc S → Fin H) :
    ∃ W : Nat → Nat → Hp → Prop, (∃ m, W 0 m Hs) ∧ ∀ i m H, W i m H → (J.stop i H ∧ Fin H) ∨ (J.go i H ∧ ∃ Nx : Hp → Prop, (∀ H', Nx H' → ∃ m', m' < m ∧ W (i + 1) m' H') ∧
      ∀ x H', J.yld i H x H' → gT K t x (wipe σ own) H' fun σ2 H2 => wipe σ2 own = wipe σ own ∧ liftT K noW ta σ2 H2 fun b H3 =>
        if b = true then liftE K noW me σ2 H3 fun y H4 => ∃ acc, H4 Dd = some (.lst acc) ∧ acc.length < sizeLine ∧ Nx (upd H4 Dd (.lst (acc ++ [y]))) else Nx H3) := by
  refine ⟨fun i m H2 => m = xs.length - i ∧ i ≤ xs.length ∧ ∃ S2 acc vs, HR K B1 H2 S2 ∧ ExtX Dd S1 S2 Hs H2 ∧ H2 Dd = some (.lst vs) ∧ RVs K B1 H2 S2 acc vs ∧ lcGo g xs t ta me ρw (xs.drop i) acc S2 Kk,
    ⟨xs.length, rfl, Nat.zero_le _, S1, acc0, vs0, hrs, Ext.refl.x, hds, rvs, h⟩, fun i m H2 ⟨hm, hi, S2, acc, vs, hr2, e2, hd2, rv2, h2⟩ => ?_⟩
  have s2 := (hr2.hid Dd dD).1
  have eA : ExtB B1 S1 S2 H1 H2 := (es.trans e2).toB dD
  cases hd : xs.drop i with
  | nil =>
    rw [hd] at h2
    obtain ⟨hgd, h2⟩ := h2
    have hi2 := drop_nil hd hi
    exact .inl ⟨io.stop B1 S2 H2 i wb hr2 eA hgd (by omega), fin acc S2 H2 vs hr2 e2 hd2 rv2 h2⟩
  | cons x r =>
    rw [hd] at h2
    obtain ⟨hgd, h2⟩ := h2
    obtain ⟨hl, hx, hr⟩ := drop_cons hd
    obtain ⟨ρ3, e3, h2⟩ := someP_some h2
    refine .inr ⟨io.go B1 S2 H2 i wb hr2 eA hgd hl, fun H4 => ∃ S4 acc4 vs4, HR K B1 H4 S4 ∧ ExtX Dd S1 S4 Hs H4 ∧ H4 Dd = some (.lst vs4) ∧ RVs K B1 H4 S4 acc4 vs4 ∧ lcGo g xs t ta me ρw r acc4 S4 Kk,
      fun H4 ⟨S4, acc4, vs4, a1, a2, a3, a4, a5⟩ => ⟨xs.length - (i + 1), by omega, rfl, hl, S4, acc4, vs4, a1, a2, a3, a4, by rw [hr]; exact a5⟩, fun y H3 hy => ?_⟩
    obtain ⟨v, q1, rv, hr3, ee⟩ := io.yld B1 S2 H2 i y H3 wb hr2 eA hgd hl hy
    rw [hx] at q1
    cases q1
    have e23 : ExtX Dd S1 S2 Hs H3 := e2.trans ee.x
    have rst3 : RSt K B1 H3 S2 ρw (wipe σ own) := rst.extB (e23.toB dD)
    have hd3 : H3 Dd = some (.lst vs) := (ee Dd _ s2 hd2).2
    refine tg_ok rst3 rv e3 fun σ5 r5 bt => ⟨bt _ ht |>.trans (wipe_twice _ _), ?_⟩
    refine ⟨ρ3, S2, B1, _, _, ⟨r5, hr3⟩, h2, fun k S4 H4 hr4 e4 h4 => ?_, fun _ _ _ _ _ _ _ _ z => z⟩
    have hd4 := (e4 Dd _ s2 hd3).2
    have s4 := (hr4.hid Dd dD).1
    have rv4 := (rv2.ext ee).ext e4
    cases k with
    | false => exact iteF ⟨S4, acc, vs, hr4, e23.trans e4.x, hd4, rv4, h4⟩
    | true =>
      refine iteT ⟨ρ3, S4, B1, _, _, ⟨r5.ext e4, hr4⟩, h4, fun u S5 z H5 ru hr5 e5 h5 => ?_, fun _ _ _ _ _ _ _ _ z => z⟩
      have hd5 := (e5 Dd _ s4 hd4).2
      have rv5 := rv4.ext e5
      exact ⟨vs, hd5, by rw [← rv5.length]; exact h5.1, S5, acc ++ [u], vs ++ [z], hr5.hidden dD, (e23.trans (e4.x.trans e5.x)).trans ExtX.upd, upd_same, (rv5.append (.cons ru .nil)).extB (ExtB.hidden dD), h5.2⟩
/-- the list is done -/
theorem lc_done {K : PySem.W.Frag} {B : Addr → Prop} {S S2 : Sto} {H H2 : Hp} {Dd : Addr} {acc : List Val} {vs : List V} {c : Bool} {Qi : VQ} {Q : VK} (q : QR K B S H Qi Q) (e : Ext S S2 H H2) (hr2 : HR K (More B Dd) H2 S2) (sD : ¬ B Dd) (hn : H Dd = none)
    (hd2 : H2 Dd = some (.lst vs)) (rv2 : RVs K (More B Dd) H2 S2 acc vs) (h2 : newL c acc S2 Qi) : Q (.ref Dd) H2 := by
  have sub : ∀ a, B a → More B Dd a := fun a z => .inr z
  have s2 := (hr2.hid Dd (.inl rfl)).1
  cases c with
  | false => exact q (.lst acc) S2 (.ref Dd) H2 (.lst hd2 ⟨s2, sD⟩ (RVs.lessB sub rv2)) (hr2.lessB sub) e h2
  | true =>
    have ex : ExtB (More B Dd) S2 (S2.put Dd (.lst acc)) H2 H2 := fun a u hs hb ha => by
      have ne : a ≠ Dd := fun z => hb (.inl z)
      exact ⟨by rw [Sto.put_ne ne]; exact hs, ha⟩
    have rv3 : RVs K B H2 (S2.put Dd (.lst acc)) acc vs := RVs.lessB sub (rv2.extB ex)
    have hr3 : HR K B H2 (S2.put Dd (.lst acc)) := ⟨fun a k hk => by
      by_cases z : a = Dd
      · subst z
        rw [Sto.put_same] at hk
        cases hk
        exact ⟨vs, hd2, rv3⟩
      · rw [Sto.put_ne z] at hk
        exact ((hr2.ok a k hk).extB ex rfl).lessB sub, fun a hb => by
      have z : a ≠ Dd := fun z => sD (by rw [← z]; exact hb)
      obtain ⟨q1, q2⟩ := hr2.hid a (.inr hb)
      exact ⟨by rw [Sto.put_ne z]; exact q1, q2⟩⟩
    refine q (.ref Dd) (S2.put Dd (.lst acc)) (.ref Dd) H2 (.ref Dd) hr3 (fun a u hs ha => ?_) (h2 Dd s2)
    have z : a ≠ Dd := ne_of_none ha hn
    obtain ⟨q1, q2⟩ := e a u hs ha
    exact ⟨by rw [Sto.put_ne z]; exact q1, q2⟩
theorem lc_imp {mi : II} {t : Tg} {c : Bool} {own : List (Str × Nat)} (ht : ∀ i ∈ tgIdx t, i ∈ own.map (·.2)) : ∀ σ H Q, liftE X.K W (lcI c mi t ta me (own.map (·.2))) σ H Q → tLc (liftI X.K W mi) (gT X.K t) (liftT X.K noW ta) (liftE X.K noW me) (own.map (·.2)) σ H Q := fun σ H Q ⟨ρ, S, B, Qi, Ei, R, h, q, er⟩ =>
  ⟨ρ, S, B, _, Ei, R, h, fun g xs S1 J H1 hr1 e1 io h1 Dd hD => by
    have R1 := R.ext e1 hr1
    have sD := hr1.free hD
    have wD : Wider B (More B Dd) H1 := Wider.more hD
    have eN : Ext S1 S1 H1 (upd H1 Dd (.lst [])) := Ext.new hD
    exact lc_loop io wD (.inl rfl) (hr1.hide hD) eN.x upd_same .nil (((R1.st.wipe (own.map (·.2))).moreB wD).ext eN) ht h1 fun acc S2 H2 vs hr2 e2 hd2 rv2 h2 =>
      lc_done (q.ext e1) (ExtX.ext hD (eN.x.trans e2)) hr2 sD.2 hD hd2 rv2 h2, er⟩
/-- two clauses -/
theorem lc2_imp {mi mi1 : II} {t t1 : Tg} {ta1 : IT} {c : Bool} {own : List (Str × Nat)} {vs1 : List Nat} (ht : ∀ i ∈ tgIdx t, i ∈ own.map (·.2)) (ht1 : ∀ i ∈ tgIdx t1, i ∈ vs1) :
    ∀ σ H Q, liftE X.K W (lc2I c mi t ta mi1 t1 ta1 me (own.map (·.2)) vs1) σ H Q → tLc2 (liftI X.K W mi) (gT X.K t) (liftT X.K noW ta) (liftI X.K noW mi1) (gT X.K t1) (liftT X.K noW ta1) (liftE X.K noW me) (own.map (·.2)) vs1 σ H Q := fun σ H Q ⟨ρ, S, B, Qi, Ei, R, h, q, er⟩ =>
  ⟨ρ, S, B, _, Ei, R, h, fun g xs S1 J H1 hr1 e1 io h1 Dd hD => by
    have R1 := R.ext e1 hr1
    have sD := hr1.free hD
    have wD : Wider B (More B Dd) H1 := Wider.more hD
    have dD : More B Dd Dd := .inl rfl
    have eN : Ext S1 S1 H1 (upd H1 Dd (.lst [])) := Ext.new hD
    have rw0 := ((R1.st.wipe (own.map (·.2))).moreB wD).ext eN
    refine ⟨fun i m H2 => m = xs.length - i ∧ i ≤ xs.length ∧ ∃ S2 acc vs, HR X.K (More B Dd) H2 S2 ∧ ExtX Dd S1 S2 (upd H1 Dd (.lst [])) H2 ∧ H2 Dd = some (.lst vs) ∧ RVs X.K (More B Dd) H2 S2 acc vs ∧ lc2Go g xs t ta mi1 t1 ta1 me vs1 (wipeI ρ (own.map (·.2))) (xs.drop i) acc S2 (fun ys S2 => newL c ys S2 Qi),
      ⟨xs.length, rfl, Nat.zero_le _, S1, [], [], hr1.hide hD, Ext.refl.x, upd_same, .nil, h1⟩, fun i m H2 ⟨hm, hi, S2, acc, vs, hr2, e2, hd2, rv2, h2⟩ => ?_⟩
    have s2 := (hr2.hid Dd dD).1
    have eA : ExtB (More B Dd) S1 S2 H1 H2 := (eN.x.trans e2).toB dD
    cases hd : xs.drop i with
    | nil =>
      rw [hd] at h2
      obtain ⟨hgd, h2⟩ := h2
      have hi2 := drop_nil hd hi
      exact .inl ⟨io.stop _ S2 H2 i wD hr2 eA hgd (by omega), lc_done (q.ext e1) (ExtX.ext hD (eN.x.trans e2)) hr2 sD.2 hD hd2 rv2 h2⟩
    | cons x r =>
      rw [hd] at h2
      obtain ⟨hgd, h2⟩ := h2
      obtain ⟨hl, hx, hr⟩ := drop_cons hd
      obtain ⟨ρ3, e3, h2⟩ := someP_some h2
      refine .inr ⟨io.go _ S2 H2 i wD hr2 eA hgd hl, fun H4 => ∃ S4 acc4 vs4, HR X.K (More B Dd) H4 S4 ∧ ExtX Dd S1 S4 (upd H1 Dd (.lst [])) H4 ∧ H4 Dd = some (.lst vs4) ∧ RVs X.K (More B Dd) H4 S4 acc4 vs4 ∧ lc2Go g xs t ta mi1 t1 ta1 me vs1 (wipeI ρ (own.map (·.2))) r acc4 S4 (fun ys S2 => newL c ys S2 Qi),
        fun H4 ⟨S4, acc4, vs4, a1, a2, a3, a4, a5⟩ => ⟨xs.length - (i + 1), by omega, rfl, hl, S4, acc4, vs4, a1, a2, a3, a4, by rw [hr]; exact a5⟩, fun y H3 hy => ?_⟩
      obtain ⟨v, q1, rv, hr3, ee⟩ := io.yld _ S2 H2 i y H3 wD hr2 eA hgd hl hy
      rw [hx] at q1
      cases q1
      have e23 : ExtX Dd S1 S2 (upd H1 Dd (.lst [])) H3 := e2.trans ee.x
      have rst3 := rw0.extB (e23.toB dD)
      have hd3 : H3 Dd = some (.lst vs) := (ee Dd _ s2 hd2).2
      refine tg_ok rst3 rv e3 fun σ5 r5 bt => ⟨bt _ ht |>.trans (wipe_twice _ _), ?_⟩
      refine ⟨ρ3, S2, More B Dd, _, _, ⟨r5, hr3⟩, h2, fun k S4 H4 hr4 e4 h4 => ?_, fun _ _ _ _ _ _ _ _ z => z⟩
      have hd4 := (e4 Dd _ s2 hd3).2
      have s4 := (hr4.hid Dd dD).1
      have rv4 := (rv2.ext ee).ext e4
      have e24 := e23.trans e4.x
      cases k with
      | false => exact iteF ⟨S4, acc, vs, hr4, e24, hd4, rv4, h4⟩
      | true =>
        refine iteT ⟨ρ3, S4, More B Dd, _, _, ⟨r5.ext e4, hr4⟩, h4, fun g1 ys S5 J1 H5 hr5 e5 io1 h5 => ?_, fun _ _ _ _ _ _ _ _ z => z⟩
        have hd5 := (e5 Dd _ s4 hd4).2
        have rv5 := rv4.ext e5
        exact lc_loop io1 Wider.refl dD hr5 Ext.refl.x hd5 rv5 (((r5.ext e4).ext e5).wipe vs1) ht1 h5 fun acc6 S6 H6 vs6 hr6 e6 hd6 rv6 h6 =>
          ⟨S6, acc6, vs6, hr6, e24.trans (e5.x.trans e6), hd6, rv6, h6⟩, er⟩
end
end TL

/-! TL8: comprehensions' rules, ranges as lists, sorted, repeated lists. -/
namespace TL
open PySem PySem.Spec L2
open PyProof.Rows hiding St

section
variable {X : Cx} {W : WX} {a b c e o elt iter tg : Expr} {es ifs : List Expr} {ma mb me mo : IE} {ta tb : IT} {pos spos : Pos} {K : PySem.W.Frag} {scope : Scope} {own : List (Str × Nat)} {t : Tg} {mi : II} {cl_ : Bool}
theorem sp_nil : PTs X [] (liftT X.K W yesT) := ⟨fun pins s σ H Q I ⟨ρ, S, B, Qi, Ei, R, h, q, er⟩ => pts_nil.run pins s σ H Q I (q true S H R.hr Ext.refl h)⟩
theorem sp_one (h : PT X c (liftT X.K W ta)) : PTs X [c] (liftT X.K W ta) := pts_one h
/-- a block of X: any state, any iterator -/
abbrev Blk (X : Cx) (scope : Scope) (P : Cx → Prop) : Prop := ∀ (s : Shared) (H : Hp) (C : Addr) (cl : List (Str × Addr)) (fp : List Addr), P (X.blk s H scope (compEnvC scope cl C X.env) fp)
theorem se_lc (hc : X.calm = true) (hN : X.N.Nodup) (hi : PI X tg iter (liftI X.K W mi)) (ok : BlkOk X.N X.env.scope scope own) (ht : ∀ i ∈ tgIdx t, i ∈ own.map (·.2)) (hs : setB iter = false)
    (hg : Blk X scope fun Y => PG Y tg (gT X.K t)) (hf : Blk X scope fun Y => PTs Y ifs (liftT X.K noW ta)) (he : Blk X scope fun Y => PE Y elt (liftE X.K noW me)) :
    PE X (.ListComp elt [⟨tg, iter, ifs, 0⟩] scope pos) (liftE X.K W (lcI cl_ mi t ta me (own.map (·.2)))) :=
  (pe_lc hc hN hi ok hg hf he (folded_no hs)).imp (lc_imp ht)
theorem ss_setLc {i : Nat} {y : Str} {py : Pos} (hc : X.calm = true) (hN : X.N.Nodup) (hy : X.N[i]? = some y) (hyl : X.env.scope.names.lookup y = some .local)
    (hsw : swapsWith (.ListComp elt [⟨tg, iter, ifs, 0⟩] scope pos) (some (.Name y py)) spos.line X.env = pure true) (hi : PI X tg iter (liftI X.K W mi)) (ok : BlkOk X.N X.env.scope scope own) (ht : ∀ i ∈ tgIdx t, i ∈ own.map (·.2)) (hs : setB iter = false)
    (hg : Blk X scope fun Y => PG Y tg (gT X.K t)) (hf : Blk X scope fun Y => PTs Y ifs (liftT X.K noW ta)) (he : Blk X scope fun Y => PE Y elt (liftE X.K noW me)) :
    PS X (.Assign [.Name y py] (.ListComp elt [⟨tg, iter, ifs, 0⟩] scope pos) spos) (liftS X.K W (setI (.nm i) (lcI cl_ mi t ta me (own.map (·.2))))) :=
  (ps_setLc hc hN hy hyl hsw hi ok hg hf he (folded_no hs)).imp (asg_imp (lc_imp ht))
theorem swaps_lc {elt : Expr} {gs : List Comprehension} {y : Str} {py : Pos} {l : Nat} (hk : X.env.scope.kind = .function) :
    swapsWith (.ListComp elt gs scope pos) (some (.Name y py)) l X.env = pure ((X.env.scope.names.lookup y == some .local) && (py.line == pos.line) && !(scope.names.any fun (n, k) => n == y && (k == .local || k == .cell))) := by
  have hb : X.env.blockKind = .function := by unfold Env.blockKind; rw [hk]; rfl
  unfold swapsWith
  simp only [hb, Env.kindOf, Expr.pos]
  rfl
/-! ### list(range(..)), tuple(range(..)) -/
theorem rgV_rvs {B : Addr → Prop} {H : Hp} {S : Sto} (a b : Int) : RVs K B H S (upTo a (b - a).toNat) (rgV a b) := by
  unfold upTo rgV
  have main : ∀ (f : Nat → Int) (l : List Nat), RVs K B H S (l.map fun i => Val.int (f i)) (l.map fun i => V.int (f i)) := fun f l => by
    induction l with
    | nil => exact .nil
    | cons x r ih => exact .cons (.int _) ih
  exact main (fun i => a + (i : Int)) _
@[reducible] def rgI (c : Bool) (tup : Bool) (a b : Int) (S : Sto) (Q : VQ) : Prop := RgOk a b ∧ match tup with
  | true => Q (.tup (upTo a (b - a).toNat)) S
  | false => newL c (upTo a (b - a).toNat) S Q
@[reducible] def rg1I (c tup : Bool) (a : IE) : IE := fun ρ S Q E => a ρ S (fun x S1 => match x with
  | .int j => rgI c tup 0 j S1 Q
  | _ => False) E
@[reducible] def rg2I (c tup : Bool) (a b : IE) : IE := fun ρ S Q E => a ρ S (fun x S1 => b ρ S1 (fun y S2 => match x, y with
  | .int i, .int j => rgI c tup i j S2 Q
  | _, _ => False) E) E
abbrev tRg (tup : Bool) (te : St → Hp → (Int → Int → Hp → Prop) → Prop) : TE := fun σ H Q => te σ H fun a b H1 => RgOk a b ∧ ∀ q, H1 q = none → Q (.ref q) (upd H1 q (if tup then .tup (rgV a b) else .lst (rgV a b)))
theorem rgI_ok {c tup : Bool} {i j : Int} {B : Addr → Prop} {S : Sto} {H : Hp} {Qi : VQ} {Q : VK} (hr : HR K B H S) (h : rgI c tup i j S Qi) (q : QR K B S H Qi Q) : RgOk i j ∧ ∀ p, H p = none → Q (.ref p) (upd H p (if tup then .tup (rgV i j) else .lst (rgV i j))) := by
  obtain ⟨h1, h2⟩ := h
  cases tup with
  | true => exact ⟨h1, q.tup hr (rgV_rvs i j) h2⟩
  | false => exact ⟨h1, q.lst hr (rgV_rvs i j) h2⟩
theorem rg1_imp {cl_ tup : Bool} : ∀ σ H Q, liftE K W (rg1I cl_ tup ma) σ H Q → tRg tup (tRg1 (liftE K W ma)) σ H Q := fun σ H Q ⟨ρ, S, B, Qi, Ei, R, h, q, er⟩ => ⟨ρ, S, B, _, Ei, R, h, fun v S1 x H1 rv hr1 e h1 => by
    cases rv with
    | int j => exact ⟨j, rfl, rgI_ok hr1 h1 (q.ext e)⟩
    | _ => exact (show False from h1).elim, er⟩
theorem rg2_imp {cl_ tup : Bool} : ∀ σ H Q, liftE K W (rg2I cl_ tup ma mb) σ H Q → tRg tup (tRg2 (liftE K W ma) (liftE K W mb)) σ H Q := fun σ H Q ⟨ρ, S, B, Qi, Ei, R, h, q, er⟩ => ⟨ρ, S, B, _, Ei, R, h, fun v S1 x H1 rv hr1 e1 h1 =>
    ⟨ρ, S1, B, _, Ei, R.ext e1 hr1, h1, fun u S2 y H2 ru hr2 e2 h2 => by
      dsimp only at h2
      split at h2
      · cases rv; cases ru
        exact ⟨_, _, rfl, rfl, rgI_ok hr2 h2 (q.ext (e1.trans e2))⟩
      · exact h2.elim, er.ext e1⟩, er⟩
theorem se_listRg1 {p p2 pos2 : Pos} (hc : X.calm = true) (hg : Gl X "list") (hm : X.mg "list" = none) (hg2 : Gl X "range") (hm2 : X.mg "range" = none) (hs : starB a = false) (ha : PE X a (liftE X.K W ma)) :
    PE X (.Call (.Name "list" p) [.Call (.Name "range" p2) [a] [] pos2] [] pos) (liftE X.K W (rg1I cl_ false ma)) := (pe_listRg hc hg hm (prg_1 hg2 hm2 ha (starEach_one hs)) rfl).imp (rg1_imp (tup := false))
theorem se_listRg2 {p p2 pos2 : Pos} (hc : X.calm = true) (hg : Gl X "list") (hm : X.mg "list" = none) (hg2 : Gl X "range") (hm2 : X.mg "range" = none) (hs : starB a = false) (hs2 : starB b = false) (ha : PE X a (liftE X.K W ma)) (hb : PE X b (liftE X.K W mb)) :
    PE X (.Call (.Name "list" p) [.Call (.Name "range" p2) [a, b] [] pos2] [] pos) (liftE X.K W (rg2I cl_ false ma mb)) := (pe_listRg hc hg hm (prg_2 hg2 hm2 ha hb (starEach_one hs) (starEach_one hs2) (backTo_plain (es := [b]) (by show (starB b || false) = false; rw [hs2]; rfl))) rfl).imp (rg2_imp (tup := false))
theorem se_tupRg1 {p p2 pos2 : Pos} (hc : X.calm = true) (hg : Gl X "tuple") (hm : X.mg "tuple" = none) (hg2 : Gl X "range") (hm2 : X.mg "range" = none) (hs : starB a = false) (ha : PE X a (liftE X.K W ma)) :
    PE X (.Call (.Name "tuple" p) [.Call (.Name "range" p2) [a] [] pos2] [] pos) (liftE X.K W (rg1I cl_ true ma)) := (pe_tupRg hc hg hm (prg_1 hg2 hm2 ha (starEach_one hs)) rfl).imp (rg1_imp (tup := true))
theorem se_tupRg2 {p p2 pos2 : Pos} (hc : X.calm = true) (hg : Gl X "tuple") (hm : X.mg "tuple" = none) (hg2 : Gl X "range") (hm2 : X.mg "range" = none) (hs : starB a = false) (hs2 : starB b = false) (ha : PE X a (liftE X.K W ma)) (hb : PE X b (liftE X.K W mb)) :
    PE X (.Call (.Name "tuple" p) [.Call (.Name "range" p2) [a, b] [] pos2] [] pos) (liftE X.K W (rg2I cl_ true ma mb)) := (pe_tupRg hc hg hm (prg_2 hg2 hm2 ha hb (starEach_one hs) (starEach_one hs2) (backTo_plain (es := [b]) (by show (starB b || false) = false; rw [hs2]; rfl))) rfl).imp (rg2_imp (tup := true))
/-! ### a list, a tuple times an int -/
def rRepB (K : PySem.W.Frag) : R2 := fun x y H Q => ∃ l k xs, x = .ref l ∧ y = .int k ∧ SqT K H l xs ∧ xs ≠ [] ∧ 2 ≤ k ∧ k ≤ 1000000 ∧ xs.length * k.toNat ≤ 1000000 ∧ ∀ p, H p = none → Q (.ref p) (upd H p (.tup (List.replicate k.toNat xs).flatten))
theorem op_repB : OpR X (binaryOp .Mult) (rRepB X.K) := by
  intro pins s σ H x y v u Q I rx ry h
  obtain ⟨l, k, xs, rfl, rfl, hT, hne, h1, h2, hz, q⟩ := h
  cases rx
  obtain ⟨t, rfl⟩ := ry
  obtain ⟨its, r, ⟨⟨cls, dd, data, sl⟩, ho, hc, n, hd⟩, hs⟩ := I.tuple hT
  simp only at hc hd
  subst hc hd
  have hle : its.length = xs.length := r.length.symm
  have hn : its ≠ [] := fun e => hne (by
    rw [e] at hle
    exact List.eq_nil_of_length_eq_zero hle.symm)
  have hi : its.toArray.isEmpty = false := by
    cases its with
    | nil => exact absurd rfl hn
    | cons a b => rfl
  have hsz0 : its.toArray.size = xs.length := by rw [List.size_toArray, hle]
  have hm : ((its.toArray.size : Nat) : Int) * k ≤ 1000000 := by
    rw [hsz0]
    have e : (k.toNat : Int) = k := by omega
    rw [← e, ← Int.natCast_mul]
    omega
  have fl0 : k.toNat * xs.length ≤ 1000000 := by rw [Nat.mul_comm]; exact hz
  have flen : (List.replicate k.toNat its).flatten.length ≤ sizeLine := by
    rw [PyProof.Rows.lm_len_rep_flat, hle, sizeLine_eq]
    omega
  have c0 : (decide (k < -(2 ^ 63)) || decide (k ≥ 2 ^ 63)) = false := by
    rw [decide_eq_false (by omega), decide_eq_false (by omega)] <;> rfl
  have c1 : (its.toArray.isEmpty || k == 1) = false := by
    rw [hi, Bool.false_or]
    exact beq_eq_false_iff_ne.mpr (by omega)
  have c2 : (decide (k ≤ 0) || its.toArray.isEmpty) = false := by
    rw [hi, Bool.or_false]
    exact decide_eq_false (by omega)
  have c4 : Builtin.Tuple.tupleTooMany (((its.toArray.size : Nat) : Int) * k) = false := by
    unfold Builtin.Tuple.tupleTooMany
    rw [sizeLine_eq]
    exact decide_eq_false (by omega)
  refine wpAny_binaryOp_repeat_ref (T := "tuple") (U := "int") (by decide) ⟨_, ho, rfl⟩ (fun s' => typeIs_int s' k t) noFill_tuple_mul F.fills_int_mul F.slot_int_rmul repeat_tuple F.slot_int_index.lookup
    (call_meets F.slot_int_rmul (typeIs_int s k t) F.entry_int_rmul (F.args_int_rmul_2 _ _) (int_rmul_tuple k t l its.toArray n dd sl)
      ⟨ho, rfl, ⟨_, ho, rfl⟩, call_meets F.slot_tuple_mul ⟨_, ho, rfl⟩ F.entry_tuple_mul (F.args_tuple_mul_2 _ _) (tuple_mulW l its.toArray n dd sl k t c0 c1 c2 (by omega) c4 (by rw [size_rep, List.size_toArray]; exact flen)) ⟨ho, ?_⟩⟩)
  rw [size_rep]
  refine ⟨.ref s.heap.objs.size, _, I.laid (t' := s.toks) (o := .tup (List.replicate k.toNat xs).flatten) (fun b ob q => Heap.get?_push_of_some _ q) (Nat.le_refl _) ?_, rfl, q _ (I.hok.fresh (Nat.le_refl _))⟩
  exact ⟨by rw [PyProof.Rows.lm_len_rep_flat, sizeLine_eq]; omega, _, r.rep k.toNat, IsTup.new _ _⟩
/-- a tuple once: the very tuple -/
def rRep1 (K : PySem.W.Frag) : R2 := fun x y H Q => ∃ l xs, x = .ref l ∧ y = .int 1 ∧ SqT K H l xs ∧ Q (.ref l) H
theorem tuple_mul1 (l : Addr) (items : Array Value) (n : Nat) (dd : Option Addr) (sl : Array (Option Value)) (u : Tok) :
    Meets (Builtin.«tuple.__mul__» ⟨[.ref l, .int 1 u], []⟩) (fun _ R s => s.heap.get? l = some { cls := .type "tuple", dict := dd, data := .seq items n, slots := sl } ∧ R (.ok (.ret (Value.ref l))) s) :=
  .of_wp fun prog w A R s h => by
    obtain ⟨hp, g, d, tk, os⟩ := s
    obtain ⟨hl, h⟩ := h
    have f1 := AutoSeq1.idx_int
    have c1 : (items.isEmpty || (1 : Int) == 1) = true := by simp
    have c0 : (decide ((1 : Int) < -(2 ^ 63)) || decide ((1 : Int) ≥ 2 ^ 63)) = false := by decide
    wp_walk using wpAny_loadPart' hl
    repeat (first
      | (refine wpAny_ite_false (decide_eq_false (by rw [c0]; exact Bool.false_ne_true)) ?_; wp_walk using wpAny_loadPart' hl)
      | (refine wpAny_ite_true (decide_eq_true c1) ?_; wp_walk using wpAny_loadPart' hl))
    exact ⟨_, rfl, h⟩
theorem op_rep1 : OpR X (binaryOp .Mult) (rRep1 X.K) := by
  intro pins s σ H x y v u Q I rx ry h
  obtain ⟨l, xs, rfl, rfl, hT, q⟩ := h
  cases rx
  obtain ⟨t, rfl⟩ := ry
  obtain ⟨its, r, ⟨⟨cls, dd, data, sl⟩, ho, hc, n, hd⟩, hs⟩ := I.tuple hT
  simp only at hc hd
  subst hc hd
  refine wpAny_binaryOp_repeat_ref (T := "tuple") (U := "int") (by decide) ⟨_, ho, rfl⟩ (fun s' => typeIs_int s' 1 t) noFill_tuple_mul F.fills_int_mul F.slot_int_rmul repeat_tuple F.slot_int_index.lookup
    (call_meets F.slot_int_rmul (typeIs_int s 1 t) F.entry_int_rmul (F.args_int_rmul_2 _ _) (int_rmul_tuple 1 t l its.toArray n dd sl)
      ⟨ho, rfl, ⟨_, ho, rfl⟩, call_meets F.slot_tuple_mul ⟨_, ho, rfl⟩ F.entry_tuple_mul (F.args_tuple_mul_2 _ _) (tuple_mul1 l its.toArray n dd sl t) ⟨ho, ?_⟩⟩)
  exact ⟨.ref l, H, I, rfl, q⟩
abbrev rrMul (K : PySem.W.Frag) : R2 := fun x y H Q => ((rI CMulW (fun i j => V.int (i * j)) x y H Q ∨ rRep x y H Q) ∨ rRepB K x y H Q) ∨ rRep1 K x y H Q
theorem op_mulP : OpR X (binaryOp .Mult) (rrMul X.K) := ((op_mulW.or op_rep).or op_repB).or op_rep1
theorem RVs.rep {B : Addr → Prop} {H : Hp} {S : Sto} {xs : List Val} {vs : List V} (r : RVs K B H S xs vs) : ∀ k : Nat, RVs K B H S (List.replicate k xs).flatten (List.replicate k vs).flatten
  | 0 => .nil
  | k + 1 => by
    rw [List.replicate_succ, List.replicate_succ]
    exact r.append (RVs.rep r k)
theorem mulP_ok (c : Bool) : P2Ok K (mulP c) (rrMul K) := by
  intro B x y v u S H Qi Q rx ry hr h q
  unfold mulP at h
  split at h
  · cases rx; cases ry
    exact .inl (.inl (.inl ⟨_, _, rfl, rfl, h.1, q.same hr (.int _) h.2⟩))
  · cases ry
    rcases h with ⟨rfl, b0, h⟩ | ⟨b0, b1, b2, b3, h⟩
    · cases rx with
      | tup h1 h2 => exact .inr ⟨_, _, rfl, rfl, h1.sq, q.same hr (.tup h1 h2) h⟩
    · cases rx with
      | tup h1 h2 => exact .inl (.inr ⟨_, _, _, rfl, rfl, h1.sq, fun e => b0 (by cases h2 with
        | nil => rfl
        | cons _ _ => cases e), b1, b2, by rw [← h2.length]; exact b3, q.tup hr (h2.rep _) h⟩)
  · cases ry
    obtain ⟨xs, e1, b1, b2, hz, h⟩ := someP_some h
    obtain ⟨p, vs, rfl, a1, a2⟩ := lstOf_h hr rx e1
    exact .inl (.inl (.inr ⟨p, _, vs, rfl, rfl, a1, b1, b2, by rw [← a2.length]; exact hz, q.lst hr (a2.rep _) h⟩))
  · exact h.elim
/-! ### sorted -/
theorem sortedP_ok (c : Bool) : PLOk K (sortedP c) (rSortedI K) := by
  intro B xs vs S H Qi Q r hr h q
  unfold sortedP at h
  split at h
  · obtain ⟨v, rfl, r1⟩ := vs1 r
    obtain ⟨ys, e, h⟩ := someP_some h
    obtain ⟨ns, e2, h⟩ := someP_some h
    obtain ⟨p, rfl, h1⟩ := ints_sq hr r1 e e2
    exact ⟨p, ns, rfl, h1, fun ms a h2 h3 ha => q.lst hr (RVs.of_ints ms) (h ms h2 h3) a ha⟩
  · exact h.elim
end
end TL

/-! TLs: sorting tuples of ints of any lengths. -/
namespace TLS
open PySem PySem.Spec PyProof.Rows SrtO
open PySem.W (KatLex kat_nil kat_cons kat_go kat_yes kat_no kat_lt kat_one)

/-- the tuples' order -/
def ltL : List Int → List Int → Bool
  | [], [] => false
  | [], _ :: _ => true
  | _ :: _, [] => false
  | x :: xs, y :: ys => if x = y then ltL xs ys else decide (x < y)
theorem ltL_irrefl : ∀ a, ltL a a = false
  | [] => rfl
  | x :: xs => by unfold ltL; rw [if_pos rfl]; exact ltL_irrefl xs
theorem ltL_asym : ∀ a b, ltL a b = true → ltL b a = false
  | [], [], h => by cases h
  | [], _ :: _, _ => rfl
  | _ :: _, [], h => by cases h
  | x :: xs, y :: ys, h => by
    unfold ltL at h ⊢
    by_cases e : x = y
    · rw [if_pos e] at h
      rw [if_pos e.symm]
      exact ltL_asym xs ys h
    · rw [if_neg e] at h
      rw [if_neg fun z => e z.symm]
      have := of_decide_eq_true h
      exact decide_eq_false (by omega)
theorem ltL_tr : ∀ a b c, ltL b a = false → ltL c b = false → ltL c a = false
  | [], [], c, _, h => h
  | [], _ :: _, [], _, _ => rfl
  | [], y :: ys, z :: zs, _, _ => rfl
  | _ :: _, [], _, h, _ => by cases h
  | x :: xs, y :: ys, [], _, h => by cases h
  | x :: xs, y :: ys, z :: zs, h1, h2 => by
    unfold ltL at h1 h2 ⊢
    by_cases e : y = x
    · rw [if_pos e] at h1
      by_cases e2 : z = y
      · rw [if_pos e2] at h2
        rw [if_pos (e2.trans e)]
        exact ltL_tr xs ys zs h1 h2
      · rw [if_neg e2] at h2
        rw [if_neg (by omega)]
        have := of_decide_eq_false h2
        exact decide_eq_false (by omega)
    · rw [if_neg e] at h1
      have h3 := of_decide_eq_false h1
      by_cases e2 : z = y
      · rw [if_neg (by omega)]
        exact decide_eq_false (by omega)
      · rw [if_neg e2] at h2
        have h4 := of_decide_eq_false h2
        rw [if_neg (by omega)]
        exact decide_eq_false (by omega)
theorem ltL_eq : ∀ a b, ltL a b = false → ltL b a = false → a = b
  | [], [], _, _ => rfl
  | [], _ :: _, h, _ => by cases h
  | _ :: _, [], _, h => by cases h
  | x :: xs, y :: ys, h1, h2 => by
    unfold ltL at h1 h2
    by_cases e : x = y
    · rw [if_pos e] at h1
      rw [if_pos e.symm] at h2
      rw [e, ltL_eq xs ys h1 h2]
    · rw [if_neg e] at h1
      rw [if_neg fun z => e z.symm] at h2
      have := of_decide_eq_false h1
      have := of_decide_eq_false h2
      omega
theorem swo_ltL {α : Type} (k : α → List Int) : Swo fun v u => ltL (k v) (k u) := ⟨fun x y h => ltL_asym _ _ h, fun x y z h1 h2 => ltL_tr _ _ _ h1 h2⟩
theorem lexAt_ltL {z : Bool} (f g : Nat → Int) : ∀ (ns ms : List Int) (i : Nat), (∀ j, ns.getD j 0 = f (i + j)) → (∀ j, ms.getD j 0 = g (i + j)) → z = decide (ns.length < ms.length) →
    Ob.lexAt (fun j => decide (f j = g j)) (fun j => decide (f j < g j)) z i (min ns.length ms.length) = ltL ns ms
  | [], [], i, _, _, hz => by rw [hz]; rfl
  | [], _ :: _, i, _, _, hz => by
    rw [hz]
    simp [Ob.lexAt_zero, ltL]
  | _ :: _, [], i, _, _, hz => by
    rw [hz]
    simp [Ob.lexAt_zero, ltL]
  | x :: xs, y :: ys, i, hf, hg, hz => by
    have e : min (x :: xs).length (y :: ys).length = min xs.length ys.length + 1 := by simp only [List.length_cons]; omega
    rw [e, Ob.lexAt_succ]
    have fx : f i = x := (hf 0).symm
    have gy : g i = y := (hg 0).symm
    rw [fx, gy]
    unfold ltL
    by_cases h : x = y
    · rw [if_pos h, if_pos (decide_eq_true h)]
      refine lexAt_ltL f g xs ys (i + 1) (fun j => ?_) (fun j => ?_) (by rw [hz]; simp)
      · have := hf (j + 1)
        rw [show i + 1 + j = i + (j + 1) by omega]
        exact this
      · have := hg (j + 1)
        rw [show i + 1 + j = i + (j + 1) by omega]
        exact this
    · rw [if_neg h, if_neg (by simpa using h)]

/-- a tuple of ints -/
def IsTI (h : Heap) (v : Value) (ns : List Int) : Prop := ∃ a items, v = .ref a ∧ h.IsTuple a items ∧ IntsAre items.toList ns
theorem IsTI.keeps {h h' : Heap} {v : Value} {ns : List Int} (t : IsTI h v ns) (k : ∀ b o, h.get? b = some o → o.cls = .type "tuple" → h'.get? b = some o) : IsTI h' v ns := by
  obtain ⟨a, items, e, ⟨o, ho, hc, r⟩, hi⟩ := t
  exact ⟨a, items, e, ⟨o, k a o ho hc, hc, r⟩, hi⟩
theorem ints_getD {vs : List Value} {ns : List Int} (h : IntsAre vs ns) : ∀ j (hj : j < vs.length), ∃ t, vs[j] = .int (ns.getD j 0) t := by
  induction h with
  | nil => intro j hj; simp at hj
  | @cons n t vs ns _ ih =>
    intro j hj
    cases j with
    | zero => exact ⟨t, rfl⟩
    | succ j =>
      obtain ⟨t', e⟩ := ih j (by simpa using hj)
      exact ⟨t', by simpa using e⟩
section
variable {prog : Program} {w : World} {A : Around} {E : Value → Shared → Prop} {s : Shared} {M : Model}
theorem lt_ti {v u : Value} {ns ms : List Int} (hv : IsTI s.heap v ns) (hu : IsTI s.heap u ms) (hr : A.units < cLine) : Ob.RcOp .Lt A s v u (ltL ns ms) := by
  obtain ⟨a, its, rfl, ta, ia⟩ := hv
  obtain ⟨b, jts, rfl, tb, ib⟩ := hu
  have l1 : its.size = ns.length := by rw [← Array.length_toList]; exact ia.length
  have l2 : jts.size = ms.length := by rw [← Array.length_toList]; exact ib.length
  have R := Ob.RcOp.tuples_lt (A := A) (s := s) (e := fun j => decide (ns.getD j 0 = ms.getD j 0)) (r := fun j => decide (ns.getD j 0 < ms.getD j 0)) ta tb hr (fun j h1 h2 => by
    obtain ⟨t, et⟩ := ints_getD ia j (by rw [Array.length_toList]; exact h1)
    obtain ⟨t', et'⟩ := ints_getD ib j (by rw [Array.length_toList]; exact h2)
    rw [Array.getElem_toList] at et et'
    rw [et, et']
    have z : (ns.getD j 0 == ms.getD j 0) = decide (ns.getD j 0 = ms.getD j 0) := by
      by_cases q : ns.getD j 0 = ms.getD j 0
      · rw [decide_eq_true q]; exact beq_iff_eq.mpr q
      · rw [decide_eq_false q]; exact beq_eq_false_iff_ne.mpr q
    rw [← z]
    exact SeqAt.EqAt.int_int _ _ _ _) (fun j h1 h2 _ => by
    obtain ⟨t, et⟩ := ints_getD ia j (by rw [Array.length_toList]; exact h1)
    obtain ⟨t', et'⟩ := ints_getD ib j (by rw [Array.length_toList]; exact h2)
    rw [Array.getElem_toList] at et et'
    rw [et, et']
    exact Ob.RcOp.lt_int _ _ _ _)
  rw [l1, l2] at R
  have e := lexAt_ltL (z := decide (ns.length < ms.length)) (fun j => ns.getD j 0) (fun j => ms.getD j 0) ns ms 0 (fun j => by rw [Nat.zero_add]) (fun j => by rw [Nat.zero_add]) rfl
  rw [← e]
  exact R
theorem lex_ti {b fin : Bool} {Q : Bool → Shared → Prop} : ∀ (ps qs : List Value) (i : Nat) (as bs : List Int), IntsAre ps as → IntsAre qs bs → fin = decide (ps.length < qs.length) → Q (ltL as bs) s → KatLex prog w A b fin Q (ps.zip qs) i s
  | _, _, i, _, _, .nil, .nil, hf, h => by
    have e : fin = false := by rw [hf]; rfl
    subst e
    exact kat_nil h
  | _, _, i, _, _, .nil, .cons y t r, hf, h => by
    have e : fin = true := by rw [hf]; exact decide_eq_true (Nat.succ_pos _)
    subst e
    exact kat_nil h
  | _, _, i, _, _, .cons x t r, .nil, hf, h => by
    have e : fin = false := by rw [hf]; exact decide_eq_false (Nat.not_lt_zero _)
    subst e
    exact kat_nil h
  | _, _, i, _, _, .cons (vs := ps) (ns := as) x t r, .cons (vs := qs) (ns := bs) y u r2, hf, h => by
    have hf' : fin = decide (ps.length < qs.length) := by
      rw [hf]; simp only [List.length_cons, Nat.add_lt_add_iff_right]
    refine kat_cons (wpAny_eqBool_int ?_)
    unfold ltL at h
    refine kat_go (fun e => kat_yes ?_) (fun e => kat_no ?_)
    · have hnm : x = y := by simpa using e
      rw [if_pos hnm] at h
      exact lex_ti ps qs (i + 1) as bs r r2 hf' h
    · have hnm : ¬ x = y := by simpa using e
      rw [if_neg hnm] at h
      exact oneLt_any_int h
/-- any two compare, by each of the three kinds -/
theorem cmp_ti {κ : SortKind} {v u : Value} {ns ms : List Int} {Q : Bool → Shared → Prop} (hκ : κ = tuples' true ∨ κ = general' ∨ κ = oneType') (hr : A.units + 1 < cLine) (hv : IsTI s.heap v ns) (hu : IsTI s.heap u ms) (h : Q (ltL ns ms) s) :
    wpAny (model prog w) A (keyLt' κ v u) Q E s := by
  rcases hκ with rfl | rfl | rfl
  · obtain ⟨a, its, rfl, ⟨oa, ha, ca, na, da⟩, ia⟩ := hv
    obtain ⟨b, jts, rfl, ⟨ob, hb, cb, nb, db⟩, ib⟩ := hu
    exact kat_lt ha da hb db (lex_ti _ _ 0 ns ms ia ib (by rw [Array.length_toList, Array.length_toList]) h)
  · exact kat_one v u (lt_ti (A := A) hv hu (by omega) prog w E (PySem.W.BoolBack Q) (by exact h))
  · show wpAny (model prog w) A (oneLt' true v u) Q E s
    rw [oneLt'_eq]
    simp only [if_true]
    refine wpAny_bind (wpAny_cRoomFor (by omega) ?_)
    obtain ⟨a, its, rfl, ta, ia⟩ := id hv
    obtain ⟨b, jts, rfl, tb, ib⟩ := id hu
    obtain ⟨oa, ha, ca, na, da⟩ := id ta
    obtain ⟨ob, hb, cb, nb, db⟩ := id tb
    have l1 : its.size = ns.length := by rw [← Array.length_toList]; exact ia.length
    have l2 : jts.size = ms.length := by rw [← Array.length_toList]; exact ib.length
    refine wpAny_bind (wpAny_callSpecialIfBound?_slot ⟨oa, ha, ca⟩ PySem.F.slot_tuple_lt ?_)
    obtain ⟨acls, add, adata, asl⟩ := oa
    obtain ⟨bcls, bdd, bdata, bsl⟩ := ob
    simp only at ca da cb db
    subst ca da cb db
    refine call_meets PySem.F.slot_tuple_lt ⟨_, ha, rfl⟩ PySem.F.entry_tuple_lt (PySem.F.args_tuple_lt_2 _ _)
      (Ob.tuple_ltAt a b its jts na nb add bdd asl bsl (fun j => decide (ns.getD j 0 = ms.getD j 0)) (fun j => decide (ns.getD j 0 < ms.getD j 0)))
      ⟨ha, hb, fun j h1 h2 => ?_, fun j h1 h2 _ => ?_, ?_⟩
    · obtain ⟨t, et⟩ := ints_getD ia j (by rw [Array.length_toList]; exact h1)
      obtain ⟨t', et'⟩ := ints_getD ib j (by rw [Array.length_toList]; exact h2)
      rw [Array.getElem_toList] at et et'
      rw [et, et']
      have z : (ns.getD j 0 == ms.getD j 0) = decide (ns.getD j 0 = ms.getD j 0) := by
        by_cases q : ns.getD j 0 = ms.getD j 0
        · rw [decide_eq_true q]; exact beq_iff_eq.mpr q
        · rw [decide_eq_false q]; exact beq_eq_false_iff_ne.mpr q
      rw [← z]
      exact SeqAt.EqAt.int_int _ _ _ _
    · obtain ⟨t, et⟩ := ints_getD ia j (by rw [Array.length_toList]; exact h1)
      obtain ⟨t', et'⟩ := ints_getD ib j (by rw [Array.length_toList]; exact h2)
      rw [Array.getElem_toList] at et et'
      rw [et, et']
      exact Ob.RcOp.lt_int _ _ _ _
    · have e := lexAt_ltL (z := decide (ns.length < ms.length)) (fun j => ns.getD j 0) (fun j => ms.getD j 0) ns ms 0 (fun j => by rw [Nat.zero_add]) (fun j => by rw [Nat.zero_add]) rfl
      rw [l1, l2, e]
      exact wpAny_truthy_bool h
/-- the firsts -/
theorem firsts_ti : ∀ (vs : List Value) (fs : List (Option Value)) {Q : List (Option Value) → Shared → Prop}, Paired (fun v f => ∃ a o xs n, v = Value.ref a ∧ s.heap.get? a = some o ∧ o.cls = .type "tuple" ∧ o.data = .seq xs n ∧ xs[0]? = f) vs fs → Q fs s → wpAny M A (vs.mapM firstOfTuple') Q E s
  | _, _, Q, .nil, h => by rw [List.mapM_nil]; exact wpAny_pure h
  | _, _, Q, .cons t r, h => by
    obtain ⟨a, o, xs, n, rfl, ho, hc, hd, hf⟩ := t
    rw [List.mapM_cons]
    refine wpAny_bind ?_
    rw [PySem.W.kas_first_eq]
    refine wpAny_bind (PySem.W.Looks.here (show PySem.W.Looks M s.heap (typeOf (.ref a)) o.cls from (PySem.W.Looks.ld ho).andThen .now) ?_)
    rw [hc, if_neg (by first | decide | simp)]
    refine wpAny_bind (listItems_at ho hd (wpAny_pure ?_))
    rw [hf]
    exact wpAny_bind (firsts_ti _ _ r (wpAny_pure h))
theorem firsts_of_ti {h : Heap} : ∀ {vs : List Value}, (∀ v ∈ vs, ∃ ns, IsTI h v ns) → ∃ fs : List (Option Value), Paired (fun v f => ∃ a o xs n, v = Value.ref a ∧ h.get? a = some o ∧ o.cls = .type "tuple" ∧ o.data = .seq xs n ∧ xs[0]? = f) vs fs ∧ ∀ f, some f ∈ fs → ∃ n t, f = .int n t
  | [], _ => ⟨[], .nil, fun f hf => by cases hf⟩
  | v :: vs, hp => by
    obtain ⟨fs, r, hi⟩ := firsts_of_ti fun u hu => hp u (List.mem_cons_of_mem _ hu)
    obtain ⟨ns, a, items, e, ⟨o, ho, hc, n, hd⟩, ii⟩ := hp v List.mem_cons_self
    refine ⟨items[0]? :: fs, .cons ⟨a, o, items, n, e, ho, hc, hd, rfl⟩ r, fun f hf => ?_⟩
    rcases List.mem_cons.mp hf with z | z
    · have l : 0 < items.toList.length := by
        cases q : items.toList with
        | nil =>
          rw [← Array.getElem?_toList, q] at z
          cases z
        | cons x r => simp
      obtain ⟨t, et⟩ := ints_getD ii 0 l
      have : items.toList[0]? = some f := by rw [Array.getElem?_toList]; exact z.symm
      rw [List.getElem?_eq_getElem l, et] at this
      exact ⟨_, t, (Option.some.inj this).symm⟩
    · exact hi f z
theorem katTups_some {h : Heap} : ∀ {vs : List Value} {fs : List (Option Value)}, Paired (fun v f => ∃ a o xs n, v = Value.ref a ∧ h.get? a = some o ∧ o.cls = .type "tuple" ∧ o.data = .seq xs n ∧ xs[0]? = f) vs fs → fs.all (·.isSome) = true → ∃ gs, PySem.W.KatTups h vs gs ∧ fs = gs.map some
  | _, _, .nil, _ => ⟨[], PySem.W.KatTups.nil, rfl⟩
  | _, _, .cons (b := f) t r, ha => by
    rw [List.all_cons, Bool.and_eq_true] at ha
    obtain ⟨gs, g1, g2⟩ := katTups_some r ha.2
    obtain ⟨a, o, xs, n, rfl, ho, hc, hd, hf⟩ := t
    cases f with
    | none => cases ha.1
    | some f => exact ⟨f :: gs, PySem.W.KatTups.cons ho hc hd hf g1, by rw [g2]; rfl⟩
theorem kind_ti {s : Shared} {vs : List Value} (h2 : 2 ≤ vs.length) (hp : ∀ v ∈ vs, ∃ ns, IsTI s.heap v ns) : ∃ κ, (κ = tuples' true ∨ κ = general' ∨ κ = oneType') ∧ ∀ (M : Model) (A : Around) (Q : SortKind → Shared → Prop) (E : Value → Shared → Prop), Q κ s → wpAny M A (keyKind' vs.toArray) Q E s := by
  obtain ⟨fs, r, hi⟩ := firsts_of_ti hp
  have lf : fs.length = vs.length := (Paired.length r).symm
  by_cases ha : fs.all (·.isSome) = true
  · obtain ⟨gs, g1, g2⟩ := katTups_some r ha
    refine ⟨tuples' true, .inl rfl, fun M A Q E hq => ?_⟩
    refine PySem.W.kat_kind (T := .type "int") g1 ?_ (fun f hm => ?_) (by rfl) ?_
    · rw [g2, List.length_map] at lf
      omega
    · obtain ⟨x, t, rfl⟩ := hi f (by rw [g2]; exact List.mem_map.mpr ⟨f, hm, rfl⟩)
      exact PySem.W.Looks.now
    · have e : (Value.type "int" != Value.type "tuple") = true := by first | decide +kernel | rfl | decide
      rw [e]
      exact hq
  · obtain ⟨f0, fr, rfl⟩ : ∃ f0 fr, fs = f0 :: fr := by
      cases fs with
      | nil => simp at lf; omega
      | cons a b => exact ⟨a, b, rfl⟩
    cases f0 with
    | some f0 =>
      refine ⟨general', .inr (.inl rfl), fun M A Q E hq => ?_⟩
      rw [kat_kind_eq, List.mapM_toArray, map_eq_pure_bind]
      refine wpAny_bind (wpAny_bind (firsts_ti vs _ r (wpAny_pure ?_)))
      rw [if_neg (by simpa using ha), if_pos (by simp)]
      exact wpAny_pure hq
    | none =>
      refine ⟨oneType', .inr (.inr rfl), fun M A Q E hq => ?_⟩
      rw [kat_kind_eq, List.mapM_toArray, map_eq_pure_bind]
      refine wpAny_bind (wpAny_bind (firsts_ti vs _ r (wpAny_pure ?_)))
      rw [if_neg (by simpa using ha), if_neg (by simp)]
      rw [oneTypeOnly'_eq, List.mapM_toArray, map_eq_pure_bind]
      refine wpAny_bind (wpAny_bind (wpAny_bind (PySem.W.kas_mapM (r := Value.type "tuple") _ (fun v hv Q' hq => ?_) (wpAny_pure ?_))))
      · obtain ⟨ns, a, items, rfl, ⟨o, ho, hc, n, hd⟩, ii⟩ := hp v hv
        exact PySem.W.Looks.here (show PySem.W.Looks M s.heap (typeOf (.ref a)) (.type "tuple") from by rw [← hc]; exact (PySem.W.Looks.ld ho).andThen .now) hq
      · have hall : ((List.map (fun _ => Value.type "tuple") vs).toArray.all fun x => x == Value.type "tuple") = true := by
          simp only [List.all_toArray, List.all_map, List.all_eq_true]
          intro _ _
          exact beq_self_eq_true _
        have h0 : (List.map (fun _ => Value.type "tuple") vs).toArray[0]? = some (Value.type "tuple") := by
          cases vs with
          | nil => simp at h2
          | cons a b => simp
        rw [h0]
        simp only [hall, if_true]
        exact wpAny_pure (wpAny_pure hq)
section
variable {prog : Program} {w : World} {A : Around} {E : Value → Shared → Prop} {s : Shared}
theorem sortable_ti {a : Addr} {vs : List Value} {k : Value → List Int} (h2 : 2 ≤ vs.length) (hr : A.units + 1 < cLine) (hp : ∀ v ∈ vs, IsTI s.heap v (k v)) (ha : ∀ o, s.heap.get? a = some o → o.cls ≠ .type "tuple") : SortableO prog w A s a vs fun v u => ltL (k v) (k u) := by
  intro h' keep
  have hp' : ∀ v ∈ vs, IsTI h' v (k v) := fun v hm => (hp v hm).keeps fun b o e c => keep b o (fun z => by subst z; exact ha o e c) e
  obtain ⟨κ, hk, hq⟩ := kind_ti (s := { s with heap := h' }) h2 fun v hm => ⟨_, hp' v hm⟩
  refine ⟨κ, fun Q E q => hq _ _ Q E q, fun p q h1 h3 => ?_⟩
  exact cmp_ti (s := { s with heap := h' }) hk hr (hp' _ h1) (hp' _ h3) ⟨rfl, rfl⟩
/-- sorted(l) of tuples of ints -/
theorem sorted_ti {l : Addr} {vs : List Value} {k : Value → List Int} {Q : Value → Shared → Prop} (hr : A.units + 3 < cLine) (hl : s.heap.IsList l vs.toArray) (hz : vs.length ≤ sizeLine) (hp : ∀ v ∈ vs, IsTI s.heap v (k v))
    (h : ∀ (h' : Heap) (d : Addr) (out : List Value), Srtd (fun v u => ltL (k v) (k u)) out → Stb (fun v u => ltL (k v) (k u)) out vs → (∀ b o, s.heap.get? b = some o → h'.get? b = some o) → s.heap.objs.size ≤ d → (∃ n, h'.get? d = some (seqObj "list" out.toArray n)) → Q (.ref d) { s with heap := h' }) :
    wpAny (model prog w) A (call (.builtin "sorted") [.ref l]) Q E s := by
  refine sorted_ord (swo_ltL k) hl hz (fun h2 h₁ a ha kk => ?_) fun out hs hb => ?_
  · refine sortable_ti (s := { s with heap := h₁ }) h2 (by show A.units + 1 + 1 + 1 < cLine; omega) (fun v hm => (hp v hm).keeps fun b o e _ => (kk b o e).2) fun o e => ?_
    have e' : some o = some (seqObj "list" vs.toArray 0) := e.symm.trans ha
    cases e'
    intro c
    exact absurd (Value.type.inj c) (by decide)
  · exact h _ _ out hs hb (fun b o e => sortedAll_old e) (Nat.le_succ _) (sortedAll_at s.heap vs out.toArray)
end
end
end TLS

namespace L2
open PySem PySem.Spec PyProof.Rows
open TLS
theorem ti_of_isT {P : Program} {w : World} {h : Heap} {k : List Int} {b : Addr} (x : IsT P w h k b) : IsTI h (.ref b) k := by
  obtain ⟨o, items, n, ho, hc, hd, hi⟩ := x
  exact ⟨b, items, rfl, ⟨o, ho, hc, n, hd⟩, ints_of_items hi⟩
/-- sorted(xs), xs a list of tuples of ints: ks, place by place -/
def rSortedTI (K : PySem.W.Frag) : List V → Hp → VK → Prop := fun vs H Q => ∃ (a : Addr) (xs : List V) (ks : List (List Int)), vs = [V.ref a] ∧ SqL K H a xs ∧ Paired (fun x k => ∃ t, x = V.ref t ∧ SqT K H t (k.map V.int)) xs ks ∧
  ∀ (zs : List (V × List Int)) p, zs.Perm (xs.zip ks) → zs.Pairwise (fun q r => ltL r.2 q.2 = false) → H p = none → Q (.ref p) (upd H p (.lst (zs.map (·.1))))
/-- sorted(s), s a set of tuples of ints -/
def rSortedTS (K : PySem.W.Frag) (P : Program) (w : World) : List V → Hp → VK → Prop := fun vs H Q => ∃ (a : Addr) (L : List (Addr × List Int)), vs = [V.ref a] ∧ H a = some (SetTO P w a L) ∧ (∀ p ∈ L, SqT K H p.1 (p.2.map V.int)) ∧
  ∀ (L' : List (Addr × List Int)) (p : Addr), L'.Perm L → (L'.map (·.2)).Nodup → L'.length < 64 → L'.Pairwise (fun q r => ltL r.2 q.2 = false) → H p = none → Q (.ref p) (upd H p (.lst (L'.map fun q => V.ref q.1)))
section
variable {X : Cx}
theorem ints_inj {vs : List Value} {ns ms : List Int} (h : IntsAre vs ns) (h2 : IntsAre vs ms) : ns = ms := by
  induction h generalizing ms with
  | nil => cases h2; rfl
  | cons n t r ih =>
    cases h2 with
    | cons _ _ r2 => rw [ih r2]
theorem ti_inj {h : Heap} {v : Value} {ns ms : List Int} (a : IsTI h v ns) (b : IsTI h v ms) : ns = ms := by
  obtain ⟨p, i, rfl, ⟨o, h1, _, n, h2⟩, i1⟩ := a
  obtain ⟨q, j, e, ⟨o', h3, _, n', h4⟩, i2⟩ := b
  cases e
  rw [h1] at h3
  cases h3
  rw [h2] at h4
  cases h4
  exact ints_inj i1 i2
theorem cr_sortedTI (hu : X.A.units + 3 < cLine) : CallR X (.builtin "sorted") (rSortedTI X.K) := by
  intro pins s σ H vs us Q I r h
  obtain ⟨a, xs, ks, rfl, hs, hx, q⟩ := h
  obtain ⟨its, rv, hl, hz⟩ := I.list hs
  obtain ⟨u, rfl, ru⟩ := vals1 r
  obtain rfl : u = Value.ref a := ru
  classical
  let key : Value → List Int := fun v => if h : ∃ ns, IsTI s.heap v ns then h.choose else []
  have key_eq : ∀ v ns, IsTI s.heap v ns → key v = ns := fun v ns h => by
    have e : ∃ ns, IsTI s.heap v ns := ⟨ns, h⟩
    show (if h : ∃ ns, IsTI s.heap v ns then h.choose else []) = ns
    rw [dif_pos e]
    exact ti_inj e.choose_spec h
  have main : ∀ {xs : List V} {ks : List (List Int)} {its : List Value}, Paired (fun x k => ∃ t, x = V.ref t ∧ SqT X.K H t (k.map V.int)) xs ks → Vals xs its → (xs.zip ks = its.map fun u => (backV u, key u)) ∧ (∀ v ∈ its, IsTI s.heap v (key v)) ∧ ∀ v ∈ its, ∃ t, v = Value.ref t := by
    intro xs ks its hx rv
    induction hx generalizing its with
    | nil => cases rv; exact ⟨rfl, fun v hv => (by cases hv), fun v hv => (by cases hv)⟩
    | cons h1 h2 ih =>
      cases rv with
      | cons r1 r2 =>
        obtain ⟨t, e, ht⟩ := h1
        subst e
        rename_i u _
        obtain rfl : u = Value.ref t := r1
        obtain ⟨g1, g2, g3⟩ := ih r2
        have k1 := ti_of_isT (I.isT ht)
        have k2 := key_eq _ _ k1
        refine ⟨?_, fun v hv => ?_, fun v hv => ?_⟩
        · rw [List.zip_cons_cons, List.map_cons, g1, k2]
          rfl
        · rcases List.mem_cons.mp hv with z | z
          · rw [z, k2]; exact k1
          · exact g2 v z
        · rcases List.mem_cons.mp hv with z | z
          · exact ⟨t, z⟩
          · exact g3 v z
  obtain ⟨m1, m2, m3⟩ := main hx rv
  refine sorted_ti (k := key) hu hl.isList (by rw [← rv.length]; exact hz) m2 fun h' d out h1 h2 kp hd hn => ?_
  have h3 : ∀ u ∈ out, ∃ a, u = Value.ref a := fun u hu => m3 u (h2.perm.mem_iff.mp hu)
  obtain ⟨n, hn⟩ := hn
  have hl2 : out.length = xs.length := by rw [h2.perm.length_eq, ← rv.length]
  have e : out.map backV = (out.map fun u => (backV u, key u)).map (·.1) := by rw [List.map_map]; rfl
  refine ⟨.ref d, upd H d (.lst (out.map backV)), I.laid (t' := s.toks) kp hd ⟨?_, out, n, vals_back h3, hn⟩, rfl, ?_⟩
  · rw [List.length_map, hl2]
    exact hz
  · rw [e]
    refine q _ d (by rw [m1]; exact h2.perm.map _) (List.pairwise_map.mpr h1) (I.hok.fresh hd)
theorem sorted_setTI {P : Program} {w : World} {A : Around} {E : Value → Shared → Prop} {s : Shared} {a : Addr} {L : List (Addr × List Int)} {es : Array (Int × Value)} {ep : Nat} {t : SetTable} {Q : Value → Shared → Prop} (R : SetTR P w s.heap a L es ep t) (hh : A.handled = none) (hu : A.units + 3 < cLine)
    (hQ : ∀ s' p (out : Array Value) (c : Nat) (L' : List (Addr × List Int)), (∀ b o, s.heap.get? b = some o → s'.heap.get? b = some o) → s'.gens = s.gens → s'.os = s.os → s.heap.objs.size ≤ p →
      s'.heap.get? p = some (seqObj "list" out c) → out.toList = L'.map (fun q => Value.ref q.1) → L'.Perm L → L'.Pairwise (fun q r => ltL r.2 q.2 = false) → Q (.ref p) s') :
    wpAny (model P w) A (call (.builtin "sorted") [.ref a]) Q E s := by
  obtain ⟨o, ho, hex, hd⟩ := R.ob
  have hsz := R.size
  have hfew := R.few
  refine Calls.call_function_entry kind_sorted plain_sorted entry_sorted (args_sorted1 _) ?_
  unfold Builtin.«sorted»
  refine wpAny_bind (m := checkCount "sorted" 1 1 _) (wpAny_pure ?_)
  refine wpAny_bind (collect_set (A := A.in1) hh ⟨o, ho, hex.1, hd⟩ R.fits (by unfold scanBound; omega) R.tab.ris R.led fun s1 vs k1 hz g1 o1 pm => ?_)
  have hes : es.toList.map (·.2) = L.map fun q => Value.ref q.1 := by
    rw [R.rows]
    unfold rowsOf
    rw [List.map_map] <;> rfl
  rw [hes] at pm
  have ord : ∀ vs : List Value, (∀ v ∈ vs, ∃ q ∈ L, v = Value.ref q.1) → ∃ L1 : List (Addr × List Int), vs = L1.map (fun q => Value.ref q.1) ∧ ∀ q ∈ L1, q ∈ L := by
    intro vs
    induction vs with
    | nil => intro _; exact ⟨[], rfl, fun q hq => (by cases hq)⟩
    | cons v vs ih =>
      intro hv
      obtain ⟨q, hq, e⟩ := hv v List.mem_cons_self
      obtain ⟨L1, e1, hs⟩ := ih fun u hu => hv u (List.mem_cons_of_mem _ hu)
      refine ⟨q :: L1, by rw [List.map_cons, e, e1], fun r hr => ?_⟩
      rcases List.mem_cons.mp hr with z | z
      · rw [z]; exact hq
      · exact hs r z
  have one : ∀ q ∈ L, ∀ r ∈ L, q.1 = r.1 → q = r := fun q hq r hr e => by
    have a1 := R.tup q hq
    have a2 := R.tup r hr
    rw [e] at a1
    have e2 : q.2 = r.2 := a1.inj a2
    exact Prod.ext e e2
  have perm_of : ∀ L1 : List (Addr × List Int), (∀ q ∈ L1, q ∈ L) → (L1.map (fun q => Value.ref q.1)).Perm (L.map fun q => Value.ref q.1) → L1.Perm L := by
    intro L1 hs pm1
    have nL : L.Nodup := nodup_of_map R.nd
    have nref : (L.map fun q => Value.ref q.1).Nodup := by
      refine List.pairwise_map.mpr (List.Pairwise.imp_of_mem (fun {q r} hq hr hne e => ?_) nL)
      injection e with e
      exact hne (one q hq r hr e)
    have n1 : L1.Nodup := nodup_of_map (pm1.nodup_iff.mpr nref)
    refine (List.perm_ext_iff_of_nodup n1 nL).mpr fun q => ⟨hs q, fun hq => ?_⟩
    have hm : Value.ref q.1 ∈ L1.map (fun q => Value.ref q.1) := pm1.mem_iff.mpr (List.mem_map.mpr ⟨q, hq, rfl⟩)
    obtain ⟨r, hr, e⟩ := List.mem_map.mp hm
    injection e with e
    rw [← one r (hs r hr) q hq e]
    exact hr
  have hvl : vs.length < 64 := by rw [pm.length_eq, List.length_map]; exact hfew
  have hzz : vs.length ≤ sizeLine := by rw [sizeLine_eq]; omega
  refine wpAny_bind (wpAny_newList ?_ hzz)
  have hoL : (s1.heap.push (seqObj "list" vs.toArray 0)).get? s1.heap.objs.size = some (seqObj "list" vs.toArray 0) := Heap.get?_push_size _ rfl
  have tk : ∀ q ∈ L, IsTI (s1.heap.push (seqObj "list" vs.toArray 0)) (.ref q.1) q.2 := fun q hq => ti_of_isT (P := P) (w := w) (isT_keep (R.tup q hq) fun b u e => Heap.get?_push_of_some _ (k1 b u e))
  -- the key of an address
  classical
  let key : Value → List Int := fun v => match (L.find? fun q => decide (Value.ref q.1 = v)) with
    | some q => q.2
    | none => []
  have key_eq : ∀ q ∈ L, key (.ref q.1) = q.2 := fun q hq => by
    show (match (L.find? fun r => decide (Value.ref r.1 = Value.ref q.1)) with | some q => q.2 | none => []) = q.2
    cases f : L.find? fun r => decide (Value.ref r.1 = Value.ref q.1) with
    | none =>
      have := List.find?_eq_none.mp f q hq
      simp at this
    | some r =>
      have h1 := List.mem_of_find?_eq_some f
      have h2 := List.find?_some f
      have h3 : r.1 = q.1 := by simpa using h2
      show r.2 = q.2
      rw [one r h1 q hq h3]
  have x : ∀ v ∈ vs, IsTI (s1.heap.push (seqObj "list" vs.toArray 0)) v (key v) := fun v hv => by
    obtain ⟨q, hq, e⟩ := List.mem_map.mp (pm.mem_iff.mp hv)
    rw [← e, key_eq q hq]
    exact tk q hq
  refine wpAny_bind (wpAny_holding (wpAny_call_entry (s := { s1 with heap := s1.heap.push (seqObj "list" vs.toArray 0) }) slot_list_sort ⟨_, hoL, rfl⟩ entry_list_sort (SrtO.list_sort_ord (swo_ltL key) hoL hzz (fun h2 => ?_) fun out hs hb => ⟨_, rfl, ?_⟩) (args_list_sort _)))
  · refine sortable_ti (s := { s1 with heap := s1.heap.push (seqObj "list" vs.toArray 0) }) h2 (by show A.units + 1 + 1 + 1 < cLine; omega) x fun o e => ?_
    have e' : some o = some (seqObj "list" vs.toArray 0) := e.symm.trans hoL
    cases e'
    intro c
    exact absurd (Value.type.inj c) (by decide)
  obtain ⟨c, hc⟩ := sortedHeap_at (vs := vs) (out := out.toArray) hoL
  obtain ⟨L', e', hs'⟩ := ord out fun v hv => by
    obtain ⟨q, hq, e⟩ := List.mem_map.mp (pm.mem_iff.mp (hb.perm.mem_iff.mp hv))
    exact ⟨q, hq, e.symm⟩
  have pL : L'.Perm L := perm_of L' hs' (by rw [← e']; exact hb.perm.trans pm)
  have pw : L'.Pairwise (fun q r => ltL r.2 q.2 = false) := by
    rw [e'] at hs
    refine List.Pairwise.imp_of_mem (fun {q r} hq hr hle => ?_) (List.pairwise_map.mp hs)
    rw [← key_eq q (hs' q hq), ← key_eq r (hs' r hr)]
    exact hle
  refine wpAny_pure ⟨_, rfl, hQ _ s1.heap.objs.size out.toArray c L' (fun b u e => ?_) g1 o1 hz hc (by rw [List.toList_toArray]; exact e') pL pw⟩
  have q := k1 b u e
  have hlt := Heap.lt_size q
  show (sortedHeap (s1.heap.push (seqObj "list" vs.toArray 0)) s1.heap.objs.size vs out.toArray).get? b = some u
  rw [sortedHeap_old (Nat.ne_of_lt hlt) (by rw [size_push']; exact Nat.lt_succ_of_lt hlt)]
  exact Heap.get?_push_of_some _ q
theorem cr_sortedTS (hc : X.calm = true) (hu : X.A.units + 3 < cLine) : CallR X (.builtin "sorted") (rSortedTS X.K X.prog X.w) := by
  intro pins s σ H vs us Q I r h
  obtain ⟨a, L, rfl, ha, hk, q⟩ := h
  have R0 : SetT0 X.prog X.w s.heap a L := (I.hok a _ ha).1
  obtain ⟨es, ep, t, R⟩ := R0.full fun p hp => I.isT (hk p hp)
  rw [Vals.ref1 r]
  refine sorted_setTI R (I.ok.hd hc) hu fun s' p out c L' k g o hp hg hout pm pw => ?_
  have hfew : L'.length < 64 := by rw [pm.length_eq]; exact R.few
  have hlen : (L'.map fun q => V.ref q.1).length ≤ sizeLine := by rw [List.length_map, sizeLine_eq]; omega
  have hn : H p = none := I.hok.fresh hp
  have hv : Vals (L'.map fun q => V.ref q.1) out.toList := by rw [hout]; exact vals_of_refs L'
  have J : Inv X pins σ (upd H p (.lst (L'.map fun q => V.ref q.1))) { s with heap := s'.heap, gens := s'.gens, drawn := s'.drawn, toks := s'.toks } :=
    I.call (ch := []) (Un.laid k hp hn) (I.hok.laid k hp ⟨hlen, out.toList, c, hv, hg⟩) (by rw [g]; exact I.bare) (fun _ z => nomatch z)
  have e : s' = { s with heap := s'.heap, gens := s'.gens, drawn := s'.drawn, toks := s'.toks } := by
    cases s'
    cases s
    cases o
    rfl
  rw [e]
  exact ⟨.ref p, _, J, rfl, q L' p pm ((pm.map (·.2)).nodup_iff.mpr R.nd) hfew pw hn⟩
end
end L2

/-! TLt: is, in, isinstance, reversed slices, sorting, dicts, calls by keywords. -/
namespace TL
open PySem PySem.Spec L2
open PyProof.Rows hiding St

/-! ### is -/
@[reducible] def isVal (x : Val) : Val → Option Bool
  | .non => some (isNon x)
  | .bl b => some (match x with
    | .bl c => decide (c = b)
    | _ => false)
  | _ => none
@[reducible] def isP : P2 := fun x y S Q => someP (isVal x y) fun b => Q (.bl b) S
@[reducible] def isNotP : P2 := fun x y S Q => someP (isVal x y) fun b => match b with
  | true => Q (.bl false) S
  | false => Q (.bl true) S
section
variable {X : Cx} {K : PySem.W.Frag}
theorem is_bool {A : Around} {E : Value → Shared → Prop} {s : Shared} {x : V} {v : Value} {b : Bool} {Q : Bool → Shared → Prop} {M : Model} (r : RelV x v) (h : Q (decide (x = .bl b)) s) : wpAny M A (isSame v (.bool b)) Q E s := by
  have main : ∀ {u : Value} {k : Bool}, plainIs u (.bool b) = true → (u == Value.bool b) = k → Q k s → wpAny M A (isSame u (.bool b)) Q E s := fun h1 h2 h3 => wpAny_isSame_plain h1 (by rw [h2]; exact h3)
  cases x with
  | ref a => cases r; exact main rfl rfl h
  | non => cases r; exact main rfl rfl h
  | bl c =>
    cases r
    refine main rfl (k := decide (c = b)) (by cases b <;> cases c <;> rfl) ?_
    have e : decide (V.bl c = V.bl b) = decide (c = b) := by cases b <;> cases c <;> rfl
    rw [← e]
    exact h
  | int i => obtain ⟨t, rfl⟩ := r; exact main rfl rfl h
  | str x => obtain ⟨t, rfl⟩ := r; exact main rfl rfl h
  | byt x => obtain ⟨t, rfl⟩ := r; exact main rfl rfl h
  | flt x => obtain ⟨t, rfl⟩ := r; exact main rfl rfl h
  | ty n => cases r; exact main rfl rfl h
abbrev rIsB (neg : Bool) : R2 := fun x y H Q => ∃ b, y = .bl b ∧ Q (.bl (decide (x = .bl b) != neg)) H
theorem op_isB : OpR X (compareOp .Is) (rIsB false) := by
  intro pins s σ H x y v u Q I rx ry h
  obtain ⟨b, rfl, q⟩ := h
  cases ry
  show wpAny _ _ ((isSame v (Value.bool b)) >>= fun z => pure (Value.bool z)) _ _ s
  exact wpAny_bind (is_bool rx (wpAny_pure ⟨.bl (decide (x = .bl b)), H, I, rfl, by rw [Bool.bne_false] at q; exact q⟩))
theorem op_isNotB : OpR X (compareOp .IsNot) (rIsB true) := by
  intro pins s σ H x y v u Q I rx ry h
  obtain ⟨b, rfl, q⟩ := h
  cases ry
  show wpAny _ _ ((isSame v (Value.bool b)) >>= fun z => pure (Value.bool (!z))) _ _ s
  exact wpAny_bind (is_bool rx (wpAny_pure ⟨.bl (!decide (x = .bl b)), H, I, rfl, by rw [Bool.bne_true] at q; exact q⟩))
theorem isVal_eq {B : Addr → Prop} {H : Hp} {S : Sto} {x y : Val} {v u : V} {b : Bool} (rx : RV K B H S x v) (ry : RV K B H S y u) (e : isVal x y = some b) : (u = .non ∧ decide (v = .non) = b) ∨ ∃ c, u = .bl c ∧ decide (v = .bl c) = b := by
  cases ry with
  | non =>
    cases e
    exact .inl ⟨rfl, (isNon_of rx).symm⟩
  | bl c =>
    refine .inr ⟨c, rfl, ?_⟩
    cases rx <;> cases e <;> simp
  | _ => cases e
theorem isP_ok : P2Ok K isP (fun x y H Q => (y = .non ∧ Q (.bl (decide (x = .non))) H) ∨ rIsB false x y H Q) := by
  intro B x y v u S H Qi Q rx ry hr h q
  obtain ⟨b, e, h⟩ := someP_some h
  rcases isVal_eq rx ry e with ⟨e1, e2⟩ | ⟨c, e1, e2⟩
  · exact .inl ⟨e1, by rw [e2]; exact q.same hr (.bl b) h⟩
  · exact .inr ⟨c, e1, by rw [e2, Bool.bne_false]; exact q.same hr (.bl b) h⟩
theorem isNotP_ok : P2Ok K isNotP (fun x y H Q => (y = .non ∧ Q (.bl (!decide (x = .non))) H) ∨ rIsB true x y H Q) := by
  intro B x y v u S H Qi Q rx ry hr h q
  obtain ⟨b, e, h⟩ := someP_some h
  rcases isVal_eq rx ry e with ⟨e1, e2⟩ | ⟨c, e1, e2⟩
  · exact .inl ⟨e1, by rw [e2]; cases b <;> exact q.same hr (.bl _) h⟩
  · exact .inr ⟨c, e1, by rw [e2, Bool.bne_true]; cases b <;> exact q.same hr (.bl _) h⟩
end

/-! ### in -/
def flatE : Val → Bool
  | .non => true
  | .bl _ => true
  | .int _ => true
  | .str _ => true
  | _ => false
def eqE : Val → Val → Bool
  | .non, .non => true
  | .bl a, .bl b => a == b
  | .bl a, .int b => (if a then 1 else 0) == b
  | .int a, .bl b => a == (if b then 1 else 0)
  | .int a, .int b => a == b
  | .str a, .str b => a == b
  | _, _ => false
def isSub (i j : Str) : Bool := !(Builtin.Str.occurrences j i 0 j.length 1).isEmpty
def inOf (S : Sto) (x : Val) : Val → Option Bool
  | .str z => (match x with
    | .str i => some (isSub i z)
    | _ => none)
  | y => (match seqOf S y with
    | some xs => if flatE x && xs.all flatE then some (xs.any fun z => eqE z x) else (match datOf S x, datOf S y with
      | some d, some (.list ds) => some (ds.any fun z => PyData.eqv z d)
      | some d, some (.tuple ds) => some (ds.any fun z => PyData.eqv z d)
      | _, _ => none)
    | none => (match y with
      | .ref a => (match S a with
        | some (.dict kvs) => (keyV x).map fun k => (dGet kvs k).isSome
        | _ => none)
      | _ => none))
def inP0 (neg : Bool) : P2 := fun x y S Q => someP (inOf S x y) fun b => Q (.bl (if neg then !b else b)) S
structure inP (neg : Bool) (x y : Val) (S : Sto) (Q : VQ) : Prop where
  h : inP0 neg x y S Q
section
variable {X : Cx} {K : PySem.W.Frag} {B : Addr → Prop} {H : Hp} {S : Sto}
abbrev rInData (K : PySem.W.Frag) (neg : Bool) : R2 := fun x y H Q => ∃ d ds, Dp K H x d ∧ (Dp K H y (.list ds) ∧ SeqAt.shaped (.list ds) = true ∨ Dp K H y (.tuple ds) ∧ SeqAt.shaped (.tuple ds) = true) ∧ SeqAt.shaped d = true ∧
  Q (.bl (if neg then !(ds.any fun z => PyData.eqv z d) else ds.any fun z => PyData.eqv z d)) H
abbrev rInStr (neg : Bool) : R2 := fun x y H Q => ∃ i j, x = .str i ∧ y = .str j ∧ Q (.bl (if neg then !isSub i j else isSub i j)) H
abbrev rInDict (neg : Bool) : R2 := fun x y H Q => ∃ a o, y = .ref a ∧ DGet H a x o ∧ Q (.bl (if neg then !o.isSome else o.isSome)) H
abbrev rrIn (K : PySem.W.Frag) (neg : Bool) : R2 := fun x y H Q => (rIn K neg x y H Q ∨ rInData K neg x y H Q) ∨ (rInStr neg x y H Q ∨ rInDict neg x y H Q)
theorem op_inData (hu : X.A.units + 65 < cLine) : OpR X (compareOp .In) (rInData X.K false) := by
  intro pins s σ H x y v u Q I rx ry h
  obtain ⟨d, ds, hd, he, sd, q⟩ := h
  obtain ⟨as, r1⟩ := Dp.reads I d x v hd rx
  rcases he with ⟨he, se⟩ | ⟨he, se⟩
  · obtain ⟨bs, r2⟩ := Dp.reads I (.list ds) y u he ry
    exact SeqAt.in_list_reads r2 r1 (SeqAt.canLay_of_shaped se) (SeqAt.canLay_of_shaped sd) (room_in_shaped sd hu) ⟨.bl _, H, I, rfl, q⟩
  · obtain ⟨bs, r2⟩ := Dp.reads I (.tuple ds) y u he ry
    exact SeqAt.in_tuple_reads r2 r1 (SeqAt.canLay_of_shaped se) (SeqAt.canLay_of_shaped sd) (room_in_shaped sd hu) ⟨.bl _, H, I, rfl, q⟩
theorem op_notInData (hu : X.A.units + 65 < cLine) : OpR X (compareOp .NotIn) (rInData X.K true) := by
  intro pins s σ H x y v u Q I rx ry h
  obtain ⟨d, ds, hd, he, sd, q⟩ := h
  obtain ⟨as, r1⟩ := Dp.reads I d x v hd rx
  rcases he with ⟨he, se⟩ | ⟨he, se⟩
  · obtain ⟨bs, r2⟩ := Dp.reads I (.list ds) y u he ry
    exact SeqAt.notIn_list_reads r2 r1 (SeqAt.canLay_of_shaped se) (SeqAt.canLay_of_shaped sd) (room_in_shaped sd hu) ⟨.bl _, H, I, rfl, q⟩
  · obtain ⟨bs, r2⟩ := Dp.reads I (.tuple ds) y u he ry
    exact SeqAt.notIn_tuple_reads r2 r1 (SeqAt.canLay_of_shaped se) (SeqAt.canLay_of_shaped sd) (room_in_shaped sd hu) ⟨.bl _, H, I, rfl, q⟩
theorem op_inDict (hu : X.A.units + 65 < cLine) : OpR X (compareOp .In) (rInDict false) := by
  intro pins s σ H x y v u Q I rx ry h
  obtain ⟨a, o, rfl, g, q⟩ := h
  obtain rfl : u = Value.ref a := ry
  exact d_in (by omega) I g rx fun s' I' => ⟨.bl _, H, I', rfl, q⟩
theorem op_notInDict (hu : X.A.units + 65 < cLine) : OpR X (compareOp .NotIn) (rInDict true) := by
  intro pins s σ H x y v u Q I rx ry h
  obtain ⟨a, o, rfl, g, q⟩ := h
  obtain rfl : u = Value.ref a := ry
  exact d_notIn (by omega) I g rx fun s' I' => ⟨.bl _, H, I', rfl, q⟩
theorem op_inAll (hu : X.A.units + 65 < cLine) : OpR X (compareOp .In) (rrIn X.K false) := (op_in_seq.or (op_inData hu)).or (op_in_str.or (op_inDict hu))
theorem op_notInAll (hu : X.A.units + 65 < cLine) : OpR X (compareOp .NotIn) (rrIn X.K true) := (op_notIn_seq.or (op_notInData hu)).or (op_notin_str.or (op_notInDict hu))
theorem flatE_V {x : Val} {v : V} (r : RV K B H S x v) (h : flatE x = true) : flatV v = true := by
  cases r <;> first | rfl | cases h
theorem eqE_V {x y : Val} {v u : V} (rx : RV K B H S x v) (ry : RV K B H S y u) (fx : flatE x = true) (fy : flatE y = true) : eqE x y = eqV v u := by
  cases rx <;> first | (cases fx; done) | (cases ry <;> first | rfl | cases fy)
theorem allE_V : ∀ {xs : List Val} {vs : List V}, RVs K B H S xs vs → xs.all flatE = true → vs.all flatV = true
  | _, _, .nil, _ => rfl
  | _, _, .cons r t, h => by
    rw [List.all_cons, Bool.and_eq_true] at h ⊢
    exact ⟨flatE_V r h.1, allE_V t h.2⟩
theorem anyE_V {x : Val} {v : V} (rx : RV K B H S x v) (fx : flatE x = true) : ∀ {xs : List Val} {vs : List V}, RVs K B H S xs vs → xs.all flatE = true → (xs.any fun z => eqE z x) = inV v vs
  | _, _, .nil, _ => rfl
  | _, _, .cons r t, h => by
    rw [List.all_cons, Bool.and_eq_true] at h
    unfold inV
    rw [List.any_cons, List.any_cons, eqE_V r rx h.1 fx, anyE_V rx fx t h.2]
    rfl
theorem inP_ok (neg : Bool) : P2Ok K (inP neg) (rrIn K neg) := by
  intro B x y v u S H Qi Q rx ry hr h q
  obtain ⟨b, e, h⟩ := someP_some h.h
  have fin : Q (.bl (if neg then !b else b)) H := q.same hr (.bl _) h
  unfold inOf at e
  split at e
  · cases ry
    split at e
    · cases rx
      cases e
      exact .inr (.inl ⟨_, _, rfl, rfl, fin⟩)
    · cases e
  · split at e
    · rename_i xs es
      obtain ⟨p, vs, rfl, h1, h2⟩ := seqOf_sq hr ry es
      split at e
      · rename_i hf
        obtain ⟨f1, f2⟩ := Bool.and_eq_true_iff.mp hf
        cases e
        refine .inl (.inl ⟨p, vs, rfl, h1.elim (fun z => .inl z.1) (fun z => .inr z.1), flatE_V rx f1, allE_V h2 f2, ?_⟩)
        rw [← anyE_V rx f1 h2 f2]
        exact fin
      · split at e
        · rename_i d ds e1 e2
          cases e
          obtain ⟨d1, s1⟩ := datOf_dp hr rx e1
          obtain ⟨d2, s2⟩ := datOf_dp hr ry e2
          exact .inl (.inr ⟨d, ds, d1, .inl ⟨d2, s2⟩, s1, fin⟩)
        · rename_i d ds e1 e2
          cases e
          obtain ⟨d1, s1⟩ := datOf_dp hr rx e1
          obtain ⟨d2, s2⟩ := datOf_dp hr ry e2
          exact .inl (.inr ⟨d, ds, d1, .inr ⟨d2, s2⟩, s1, fin⟩)
        · cases e
    · split at e
      · cases ry
        split at e
        · rename_i kvs q0
          cases ek : keyV x with
          | none => rw [ek] at e; cases e
          | some k =>
            rw [ek] at e
            cases e
            obtain ⟨us, h1, h2, h3⟩ := hr.ok _ _ q0
            have eb : (dGet kvs k).isSome = (valV us k).isSome := by
              cases g : dGet kvs k with
              | none =>
                rw [(dGet_val h2 h3).1 g]
                rfl
              | some w =>
                obtain ⟨z, e3, _⟩ := (dGet_val h2 h3).2 w g
                rw [e3]
                rfl
            refine .inr (.inr ⟨_, valV us k, rfl, ?_, ?_⟩)
            · rw [keyV_kV rx ek]
              exact DGet.k h1
            · rw [← eb]
              exact fin
        · cases e
      · cases e
end

/-! ### isinstance -/
abbrev TyTag := Sum String Str
def tagOf (S : Sto) : Val → Option TyTag
  | .non => some (.inl "NoneType")
  | .bl _ => some (.inl "bool")
  | .int _ => some (.inl "int")
  | .str _ => some (.inl "str")
  | .tup _ => some (.inl "tuple")
  | .lst _ => some (.inl "list")
  | .scr _ => some (.inl "list")
  | .ins c _ _ => some (.inr c)
  | .ref a => (match S a with
    | some (.lst _) => some (.inl "list")
    | some (.dict _) => some (.inl "dict")
    | some (.ins c _ _) => some (.inr c)
    | none => none)
  | _ => none
abbrev Kit := List (TyTag × TyTag × Bool)
def tagV (K : PySem.W.Frag) : TyTag → Value
  | .inl n => .type n
  | .inr c => .ref (He.ga K c)
structure KitOk (K : PySem.W.Frag) (kit : Kit) (own : List Str) : Prop where
  kit : ∀ t u b, (t, u, b) ∈ kit → PySem.W.kitOne K (tagV K t) (tagV K u) = some b
  own : ∀ c ∈ own, Cls K (He.ga K c) ∧ PySem.W.findIn K (.ref (He.ga K c)) "__class__" = some (some (.builtin "object.__class__")) ∧ PySem.W.specialIn K (.builtin "object.__class__") "__get__" = some (some (.builtin "getset_descriptor.__get__")) ∧
    PySem.W.takesIn K (.builtin "object.__class__") = some true ∧ PySem.W.mroIn K (He.ga K c) (.type "object") = some true
def ownTag (own : List Str) : TyTag → Bool
  | .inl _ => true
  | .inr c => own.contains c
def kitLook (kit : Kit) (t u : TyTag) : Option Bool := (kit.find? fun q => decide (q.1 = t) && decide (q.2.1 = u)).map (·.2.2)
def kitAll (kit : Kit) (t : TyTag) : List TyTag → Option Bool
  | [] => some false
  | c :: r => match kitLook kit t c with
    | some true => some true
    | some false => kitAll kit t r
    | none => none
def isiP0 (kit : Kit) (own : List Str) (cs : List TyTag) : P1 := fun x S Q => someP (tagOf S x) fun t => ownTag own t = true ∧ someP (kitAll kit t cs) fun b => Q (.bl b) S
structure isiP (kit : Kit) (own : List Str) (cs : List TyTag) (x : Val) (S : Sto) (Q : VQ) : Prop where
  h : isiP0 kit own cs x S Q
section
variable {X : Cx} {K : PySem.W.Frag} {B : Addr → Prop} {H : Hp} {S : Sto} {W : WX}
theorem kitLook_ok {kit : Kit} {own : List Str} (k : KitOk K kit own) {t u : TyTag} {b : Bool} (h : kitLook kit t u = some b) : PySem.W.kitOne K (tagV K t) (tagV K u) = some b := by
  unfold kitLook at h
  cases f : kit.find? fun q => decide (q.1 = t) && decide (q.2.1 = u) with
  | none => rw [f] at h; cases h
  | some q =>
    rw [f] at h
    cases h
    obtain ⟨t', u', b'⟩ := q
    have h1 := List.find?_some f
    obtain ⟨h2, h3⟩ := Bool.and_eq_true_iff.mp h1
    have h2 := of_decide_eq_true h2
    have h3 := of_decide_eq_true h3
    dsimp only at h2 h3
    subst h2 h3
    exact k.kit _ _ _ (List.mem_of_find?_eq_some f)
theorem kitAll_ok {kit : Kit} {own : List Str} (k : KitOk K kit own) {t : TyTag} : ∀ {cs : List TyTag} {b : Bool}, kitAll kit t cs = some b → PySem.W.kitAny K (tagV K t) (cs.map (tagV K)) = some b
  | [], b, h => h
  | c :: r, b, h => by
    unfold kitAll at h
    show PySem.W.kitAny K (tagV K t) (tagV K c :: r.map (tagV K)) = some b
    unfold PySem.W.kitAny
    split at h
    · rename_i e
      rw [kitLook_ok k e]
      exact h
    · rename_i e
      rw [kitLook_ok k e]
      exact kitAll_ok k h
    · cases h
theorem rd_ty {a : Addr} {vs : List V} (h : Rd H a (.tup vs)) : TyX K H (.ref a) (.type "tuple") := by
  rcases h with h | ⟨u, h⟩
  · exact .base (.tup h)
  · exact .fTuple h
theorem tyOf_tag {kit : Kit} {own : List Str} (k : KitOk K kit own) {x : Val} {v : V} {t : TyTag} (hr : HR K B H S) (r : RV K B H S x v) (e : tagOf S x = some t) (ho : ownTag own t = true) : TyX K H v (tagV K t) := by
  have ins : ∀ {a dx : Addr} {c : Str} {fs : List (Str × V)}, H a = some (.ins (He.ga K c) dx fs) → ownTag own (.inr c) = true → TyX K H (.ref a) (tagV K (.inr c)) := fun h ho => by
    obtain ⟨a1, a2, a3, a4, a5⟩ := k.own _ (by simpa [ownTag] using ho)
    exact .base (.ins h a1 a2 a3 a4 a5)
  cases r with
  | non => cases e; exact .base .non
  | bl b => cases e; exact .base (.bl b)
  | int b => cases e; exact .base (.int b)
  | str b => cases e; exact .base (.str b)
  | tup h _ =>
    cases e
    rcases h with ⟨h, _⟩ | h
    · exact rd_ty h
    · rcases h H with h | ⟨o, its, n, h1, h2, _⟩
      · exact rd_ty h
      · exact .kTuple h1 h2
  | kt h _ => cases e
  | lst h _ _ => cases e; exact .base (.lst h)
  | scr h =>
    cases e
    have rd : ∀ {a : Addr} {vs : List V}, Rd H a (.lst vs) → TyX K H (.ref a) (.type "list") := fun h => by
      rcases h with h | ⟨u, h⟩
      · exact .base (.lst h)
      · exact .base (.frz h)
    rcases h with ⟨h, _⟩ | h
    · exact rd h
    · rcases h H with h | ⟨o, its, n, h1, h2, _⟩
      · exact rd h
      · exact .kList h1 h2
  | ins h _ _ _ => cases e; exact ins h ho
  | ref a =>
    have e2 : (match S a with
      | some (.lst _) => some (.inl "list")
      | some (.dict _) => some (.inl "dict")
      | some (.ins c _ _) => some (.inr c)
      | none => none) = some t := e
    split at e2
    · rename_i q0
      cases e2
      obtain ⟨vs, h1, _⟩ := hr.ok _ _ q0
      exact .base (.lst h1)
    · rename_i q0
      cases e2
      obtain ⟨vs, h1, _⟩ := hr.ok _ _ q0
      exact .base (.dK h1)
    · rename_i q0
      cases e2
      obtain ⟨dx, fs, h1, _⟩ := hr.ok _ _ q0
      exact ins h1 ho
    · cases e2
  | ty n => cases e
  | fn f => cases e
/-- a class as a value -/
def tagVV (K : PySem.W.Frag) : TyTag → V
  | .inl n => .ty n
  | .inr c => .ref (He.ga K c)
theorem tag_cls (t : TyTag) : ClsV (tagVV K t) (tagV K t) := by
  cases t with
  | inl n => exact .ty n
  | inr c => exact .own _
theorem tags_cls : ∀ cs : List TyTag, Paired ClsV (cs.map (tagVV K)) (cs.map (tagV K))
  | [] => .nil
  | c :: r => .cons (tag_cls c) (tags_cls r)
theorem isi1_imp {kit : Kit} {own : List Str} (k : KitOk K kit own) {c : TyTag} {ma : IE} : ∀ σ H Q, liftE K W (un1 (isiP kit own [c]) ma) σ H Q → tCB (rIsi K) (tCons (liftE K W ma) (tCons (tC (tagVV K c)) tNil)) σ H Q := fun σ H Q ⟨ρ, S, B, Qi, Ei, R, h, q, er⟩ =>
  ⟨ρ, S, B, _, Ei, R, h, fun v S1 x H1 rv hr1 e h1 => by
    obtain ⟨t, e1, ho, h1⟩ := someP_some h1.h
    obtain ⟨b, e2, h1⟩ := someP_some h1
    refine ⟨x, tagVV K c, tagV K t, tagV K c, b, rfl, tag_cls c, tyOf_tag k hr1 rv e1 ho, ?_, q _ S1 _ H1 (.bl b) hr1 e h1⟩
    have e3 : (match kitLook kit t c with
      | some true => some true
      | some false => some false
      | none => none) = some b := e2
    split at e3
    · rename_i e4; rw [kitLook_ok k e4]; exact e3
    · rename_i e4; rw [kitLook_ok k e4]; exact e3
    · exact (nomatch e3), er⟩
theorem isiT_imp {kit : Kit} {own : List Str} (k : KitOk K kit own) {cs : List TyTag} {ma : IE} {tt : TE} (ht : ∀ σ H Q, (∀ p, H p = none → Q (.ref p) (upd H p (.tup (cs.map (tagVV K))))) → tt σ H Q) :
    ∀ σ H Q, liftE K W (un1 (isiP kit own cs) ma) σ H Q → tCB (rIsiT K) (tCons (liftE K W ma) (tCons tt tNil)) σ H Q := fun σ H Q ⟨ρ, S, B, Qi, Ei, R, h, q, er⟩ =>
  ⟨ρ, S, B, _, Ei, R, h, fun v S1 x H1 rv hr1 e h1 => ht _ _ _ fun p hp => by
    obtain ⟨t, e1, ho, h1⟩ := someP_some h1.h
    obtain ⟨b, e2, h1⟩ := someP_some h1
    have eN : Ext S1 S1 H1 (upd H1 p (.tup (cs.map (tagVV K)))) := Ext.new hp
    exact ⟨x, p, cs.map (tagVV K), tagV K t, cs.map (tagV K), b, rfl, upd_same, tags_cls cs, tyOf_tag k (hr1.new hp) (rv.ext eN) e1 ho, kitAll_ok k e2, q _ S1 _ _ (.bl b) (hr1.new hp) (e.trans eN) h1⟩, er⟩
/-- the name of a class -/
structure ClsNm (X : Cx) (x : Str) (t : TyTag) : Prop where
  pe : ∀ p : Pos, PE X (.Name x p) (tC (tagVV X.K t))
theorem se_isi1 {kit : Kit} {own : List Str} {x : Str} {c : TyTag} {e : Expr} {p p2 pos : Pos} {ma : IE} (k : KitOk X.K kit own) (hg : Gl X "isinstance") (hm : X.mg "isinstance" = none) (hs : starB e = false) (hc : ClsNm X x c) (he : PE X e (liftE X.K W ma)) :
    PE X (.Call (.Name "isinstance" p) [e, .Name x p2] [] pos) (liftE X.K W (un1 (isiP kit own [c]) ma)) :=
  (pe_callB call_isi hg hm rfl (pa_cons he (pa_cons (hc.pe p2) pa_nil rfl) (starEach_one hs)) (by decide) (by decide) (starEach_one hs) rfl).imp (isi1_imp k)
def nmOf : Expr → Option Str
  | .Name x _ => some x
  | _ => none
theorem pa_cls : ∀ {es : List Expr} {cs : List TyTag}, Paired (fun e t => ∃ x p, e = Expr.Name x p ∧ ClsNm X x t) es cs → ∃ t, PA X es t ∧ ∀ σ H Q, Q (cs.map (tagVV X.K)) H → t σ H Q
  | _, _, .nil => ⟨_, pa_nil, fun σ H Q q => q⟩
  | _, _, .cons h r => by
    obtain ⟨x, p, rfl, hc⟩ := h
    obtain ⟨t, h1, h2⟩ := pa_cls r
    exact ⟨_, pa_cons (hc.pe p) h1 rfl, fun σ H Q q => h2 _ _ _ q⟩
theorem se_isiT {kit : Kit} {own : List Str} {es : List Expr} {cs : List TyTag} {e : Expr} {p p2 pos : Pos} {kk : Nat} {ma : IE} (k : KitOk X.K kit own) (hg : Gl X "isinstance") (hm : X.mg "isinstance" = none) (hs : starB e = false) (hl : cs.length ≤ 1000)
    (hc : Paired (fun e t => ∃ x p, e = Expr.Name x p ∧ ClsNm X x t) es cs) (he : PE X e (liftE X.K W ma)) : PE X (.Call (.Name "isinstance" p) [e, .Tuple es kk p2] [] pos) (liftE X.K W (un1 (isiP kit own cs) ma)) := by
  obtain ⟨t, h1, h2⟩ := pa_cls hc
  refine (pe_callB call_isiT hg hm rfl (pa_cons he (pa_cons (pe_tup h1) pa_nil rfl) (starEach_one hs)) (by decide) (by decide) (starEach_one hs) rfl).imp (isiT_imp k fun σ H Q q => h2 _ _ _ ⟨?_, q⟩)
  rw [List.length_map, sizeLine_eq]
  omega

/-! ### e[::-1] -/
@[reducible] def revI (c : Bool) (e : IE) : IE := fun ρ S Q E => e ρ S (fun x S1 => someP (lsqOf S1 x) fun xs => newL c xs.reverse S1 Q) E
theorem se_rev {c : Bool} {e : Expr} {kk : Nat} {p1 p2 p3 pos : Pos} {me : IE} (he : PE X e (liftE X.K W me)) : PE X (.Subscript e (.Slice none none (some (.UnaryOp .USub (.Constant (.int 1) kk p1) p2)) p3) pos) (liftE X.K W (revI c me)) :=
  (pe_revL he).imp fun σ H Q ⟨ρ, S, B, Qi, Ei, R, h, q, er⟩ => ⟨ρ, S, B, _, Ei, R, h, fun v S1 x H1 rv hr1 e1 h1 => by
    obtain ⟨xs, e2, h1⟩ := someP_some h1
    obtain ⟨p, vs, rfl, a1, a2⟩ := lsqOf_sq hr1 rv e2
    exact ⟨p, vs, rfl, a1, (q.ext e1).lst hr1 a2.reverse h1⟩, er⟩
end

/-! ### sorting, as a function -/
def insB {α : Type} (lt : α → α → Bool) (x : α) : List α → List α
  | [] => [x]
  | y :: r => if lt y x then y :: insB lt x r else x :: y :: r
def srtB {α : Type} (lt : α → α → Bool) : List α → List α
  | [] => []
  | x :: r => insB lt x (srtB lt r)
section
variable {α : Type} {lt : α → α → Bool}
theorem insB_perm (x : α) : ∀ l, (insB lt x l).Perm (x :: l)
  | [] => List.Perm.refl _
  | y :: r => by
    unfold insB
    split
    · exact ((insB_perm x r).cons y).trans (List.Perm.swap x y r)
    · exact List.Perm.refl _
theorem srtB_perm : ∀ l : List α, (srtB lt l).Perm l
  | [] => List.Perm.refl _
  | x :: r => (insB_perm x _).trans ((srtB_perm r).cons x)
theorem insB_srt (O : SrtO.Swo lt) (x : α) : ∀ l : List α, l.Pairwise (fun a b => lt b a = false) → (insB lt x l).Pairwise (fun a b => lt b a = false)
  | [], _ => List.pairwise_singleton _ _
  | y :: r, h => by
    obtain ⟨h1, h2⟩ := List.pairwise_cons.mp h
    unfold insB
    split
    · rename_i e
      refine List.pairwise_cons.mpr ⟨fun z hz => ?_, insB_srt O x r h2⟩
      rcases List.mem_cons.mp ((insB_perm x r).mem_iff.mp hz) with q | q
      · rw [q]; exact O.asym y x e
      · exact h1 z q
    · rename_i e
      have e : lt y x = false := by simpa using e
      refine List.pairwise_cons.mpr ⟨fun z hz => ?_, h⟩
      rcases List.mem_cons.mp hz with q | q
      · rw [q]; exact e
      · exact O.tr x y z e (h1 z q)
theorem srtB_srt (O : SrtO.Swo lt) : ∀ l : List α, (srtB lt l).Pairwise (fun a b => lt b a = false)
  | [] => List.Pairwise.nil
  | x :: r => insB_srt O x _ (srtB_srt O r)
theorem srtB_uniq (O : SrtO.Swo lt) (an : ∀ a b, lt a b = false → lt b a = false → a = b) {l m : List α} (p : m.Perm l) (h : m.Pairwise (fun a b => lt b a = false)) : m = srtB lt l :=
  List.Perm.eq_of_pairwise (fun a b _ _ h1 h2 => an a b h2 h1) h (srtB_srt O l) (p.trans (srtB_perm l).symm)
end
def ltI (a b : Int) : Bool := decide (a < b)
theorem swo_ltI : SrtO.Swo ltI := ⟨fun x y h => by unfold ltI at *; simp at *; omega, fun x y z h1 h2 => by unfold ltI at *; simp at *; omega⟩
theorem ltI_eq (a b : Int) (h1 : ltI a b = false) (h2 : ltI b a = false) : a = b := by unfold ltI at *; simp at *; omega
theorem swo_ltT : SrtO.Swo TLS.ltL := TLS.swo_ltL id
def tiV (ns : List Int) : Val := .tup (ns.map Val.int)
def tisOf : List Val → Option (List (List Int))
  | [] => some []
  | .tup xs :: r => (match intsOf xs, tisOf r with
    | some ns, some ks => some (ns :: ks)
    | _, _ => none)
  | _ => none
/-- sorted -/
def sortP0 (c : Bool) : PL := fun vs S Q => match vs with
  | [v] => someP (lsqOf S v) fun xs => (match intsOf xs with
    | some ns => newL c ((srtB ltI ns).map Val.int) S Q
    | none => someP (tisOf xs) fun ks => newL c ((srtB TLS.ltL ks).map tiV) S Q)
  | _ => False
structure sortP (c : Bool) (vs : List Val) (S : Sto) (Q : VQ) : Prop where
  h : sortP0 c vs S Q
section
variable {X : Cx} {K : PySem.W.Frag} {B : Addr → Prop} {H : Hp} {S : Sto} {W : WX}
theorem tis_rv : ∀ {xs : List Val} {vs : List V} {ks : List (List Int)}, RVs K B H S xs vs → tisOf xs = some ks → Paired (fun x k => ∃ t, x = V.ref t ∧ SqT K H t (k.map V.int)) vs ks ∧ Paired (fun x k => RV K B H S (tiV k) x) vs ks
  | [], _, _, .nil, e => by cases e; exact ⟨.nil, .nil⟩
  | x :: xs, _, ks, .cons (v := v) (vs := vs) h t, e => by
    cases x with
    | tup ys =>
      have e2 : (match intsOf ys, tisOf xs with
        | some ns, some ks => some (ns :: ks)
        | _, _ => none) = some ks := e
      split at e2
      · rename_i ns ls e3 e4
        cases e2
        obtain ⟨h1, h2⟩ := tis_rv t e4
        cases h with
        | tup a1 a2 =>
          have e5 := a2.ints e3
          subst e5
          exact ⟨.cons ⟨_, rfl, a1.sq⟩ h1, .cons (.tup a1 (RVs.of_ints ns)) h2⟩
      · cases e2
    | _ => cases e
theorem zip_fst : ∀ {vs : List V} {ks : List (List Int)} {P : V → List Int → Prop}, Paired P vs ks → (vs.zip ks).map (·.2) = ks ∧ ∀ z ∈ vs.zip ks, P z.1 z.2
  | _, _, _, .nil => ⟨rfl, fun z hz => (by cases hz)⟩
  | _, _, _, .cons h r => by
    obtain ⟨h1, h2⟩ := zip_fst r
    refine ⟨by rw [List.zip_cons_cons, List.map_cons, h1], fun z hz => ?_⟩
    rw [List.zip_cons_cons] at hz
    rcases List.mem_cons.mp hz with e | e
    · rw [e]; exact h
    · exact h2 z e
theorem zs_rv : ∀ {zs : List (V × List Int)}, (∀ z ∈ zs, RV K B H S (tiV z.2) z.1) → RVs K B H S ((zs.map (·.2)).map tiV) (zs.map (·.1))
  | [], _ => .nil
  | z :: zs, h => .cons (h z List.mem_cons_self) (zs_rv fun y hy => h y (List.mem_cons_of_mem _ hy))
theorem sortP_ok (c : Bool) : PLOk K (sortP c) (fun xs H Q => rSortedI K xs H Q ∨ rSortedTI K xs H Q) := by
  intro B xs vs S H Qi Q r hr h q
  replace h := h.h
  unfold sortP0 at h
  split at h
  · obtain ⟨v, rfl, r1⟩ := vs1 r
    obtain ⟨ys, e, h⟩ := someP_some h
    split at h
    · rename_i ns e2
      obtain ⟨p, rfl, h1⟩ := ints_sq hr r1 e e2
      refine .inl ⟨p, ns, rfl, h1, fun ms a h2 h3 ha => ?_⟩
      have em : ms = srtB ltI ns := srtB_uniq swo_ltI ltI_eq h2 (h3.imp fun {a b} z => by unfold ltI; exact decide_eq_false (by omega))
      subst em
      exact q.lst hr (RVs.of_ints _) h a ha
    · obtain ⟨ks, e2, h⟩ := someP_some h
      obtain ⟨p, us, rfl, h1, h2⟩ := lsqOf_sq hr r1 e
      obtain ⟨k1, k2⟩ := tis_rv h2 e2
      obtain ⟨z1, z2⟩ := zip_fst k2
      refine .inr ⟨p, us, ks, rfl, h1, k1, fun zs a hp hw ha => ?_⟩
      have em : zs.map (·.2) = srtB TLS.ltL ks := srtB_uniq swo_ltT TLS.ltL_eq (by rw [← z1]; exact hp.map _) (List.pairwise_map.mpr hw)
      have rz : RVs K B H S ((zs.map (·.2)).map tiV) (zs.map (·.1)) := zs_rv fun z hz => z2 z (hp.mem_iff.mp hz)
      rw [em] at rz
      exact q.lst hr rz h a ha
  · exact h.elim
theorem intsOf_map : ∀ l : List Int, intsOf (l.map Val.int) = some l
  | [] => rfl
  | x :: l => by
    show (intsOf (l.map Val.int)).map (x :: ·) = some (x :: l)
    rw [intsOf_map l]
    rfl
/-! ### sorted(set(..)) -/
def dedB {α : Type} [DecidableEq α] : List α → List α
  | [] => []
  | x :: r => if x ∈ r then dedB r else x :: dedB r
theorem dedB_mem {α : Type} [DecidableEq α] (x : α) : ∀ l : List α, x ∈ dedB l ↔ x ∈ l
  | [] => Iff.rfl
  | y :: r => by
    unfold dedB
    split
    · rename_i h
      rw [dedB_mem x r]
      constructor
      · exact fun z => List.mem_cons_of_mem _ z
      · intro z
        rcases List.mem_cons.mp z with e | e
        · rw [e]; exact h
        · exact e
    · rw [List.mem_cons, List.mem_cons, dedB_mem x r]
theorem dedB_nodup {α : Type} [DecidableEq α] : ∀ l : List α, (dedB l).Nodup
  | [] => List.nodup_nil
  | y :: r => by
    unfold dedB
    split
    · exact dedB_nodup r
    · rename_i h
      exact List.nodup_cons.mpr ⟨fun z => h ((dedB_mem y r).mp z), dedB_nodup r⟩
/-- of tuples of ints, less than 64 -/
def sortSetP0 (c : Bool) : P1 := fun x S Q => someP (lsqOf S x) fun xs => someP (tisOf xs) fun ks => ks.length < 64 ∧ newL c ((srtB TLS.ltL (dedB ks)).map tiV) S Q
structure sortSetP (c : Bool) (x : Val) (S : Sto) (Q : VQ) : Prop where
  h : sortSetP0 c x S Q
theorem sortSet_imp {c : Bool} {P : Program} {w : World} {ma : IE} : ∀ σ H Q, liftE K W (un1 (sortSetP c) ma) σ H Q → tCB (rSortedTS K P w) (tCons (tCB (rSetOfT K P w) (tCons (liftE K W ma) tNil)) tNil) σ H Q := fun σ H Q ⟨ρ, S, B, Qi, Ei, R, h, q, er⟩ =>
  ⟨ρ, S, B, _, Ei, R, h, fun v S1 x H1 rv hr1 e1 h1 => by
    obtain ⟨xs, e2, h1⟩ := someP_some h1.h
    obtain ⟨ks, e3, hl, h1⟩ := someP_some h1
    obtain ⟨p, us, rfl, a1, a2⟩ := lsqOf_sq hr1 rv e2
    obtain ⟨k1, k2⟩ := tis_rv a2 e3
    have main : ∀ {us : List V} {ks : List (List Int)}, Paired (fun x k => ∃ t, x = V.ref t ∧ SqT K H1 t (k.map V.int)) us ks → Paired (fun x k => RV K B H1 S1 (tiV k) x) us ks →
        ∃ ps : List (Addr × List Int), us = ps.map (fun p => V.ref p.1) ∧ ks = ps.map (·.2) ∧ (∀ p ∈ ps, SqT K H1 p.1 (p.2.map V.int)) ∧ ∀ p ∈ ps, RV K B H1 S1 (tiV p.2) (.ref p.1) := by
      intro us ks k1
      induction k1 with
      | nil => intro _; exact ⟨[], rfl, rfl, fun p hp => (by cases hp), fun p hp => (by cases hp)⟩
      | @cons x k us ks h1 h2 ih =>
        intro k2
        cases k2 with
        | cons g1 g2 =>
          obtain ⟨t, rfl, ht⟩ := h1
          obtain ⟨ps, b1, b2, b3, b4⟩ := ih g2
          refine ⟨(t, k) :: ps, by rw [b1]; rfl, by rw [b2]; rfl, fun p hp => ?_, fun p hp => ?_⟩
          · rcases List.mem_cons.mp hp with z | z
            · rw [z]; exact ht
            · exact b3 p z
          · rcases List.mem_cons.mp hp with z | z
            · rw [z]; exact g1
            · exact b4 p z
    obtain ⟨ps, b1, b2, b3, b4⟩ := main k1 k2
    refine ⟨p, ps, rfl, by rw [← b1]; exact a1, b3, by rw [← List.length_map (f := (·.2)), ← b2]; exact hl, fun a L ha hL1 hL2 => ?_⟩
    have eN : Ext S1 S1 H1 (upd H1 a (SetTO P w a L)) := Ext.new ha
    have rv2 : ∀ p ∈ L, RV K B (upd H1 a (SetTO P w a L)) S1 (tiV p.2) (.ref p.1) := fun p hp => (b4 p (hL1 p hp)).ext eN
    refine ⟨a, L, rfl, upd_same, fun p hp => ?_, fun L' d pm nd hfew pw hd => ?_⟩
    · cases rv2 p hp with
      | tup t1 t2 =>
        have e5 := t2.ints (ns := p.2) (intsOf_map p.2)
        rw [← e5]
        exact t1.sq
    · have em : L'.map (·.2) = srtB TLS.ltL (dedB ks) := by
        refine srtB_uniq swo_ltT TLS.ltL_eq ?_ (List.pairwise_map.mpr pw)
        refine (List.perm_ext_iff_of_nodup nd (dedB_nodup ks)).mpr fun k => ?_
        rw [dedB_mem]
        constructor
        · intro hk
          obtain ⟨z, hz, ez⟩ := List.mem_map.mp hk
          rw [b2, ← ez]
          exact List.mem_map.mpr ⟨z, hL1 z (pm.mem_iff.mp hz), rfl⟩
        · intro hk
          rw [b2] at hk
          obtain ⟨z, hz, ez⟩ := List.mem_map.mp hk
          have := hL2 z hz
          rw [ez] at this
          exact (pm.map (·.2)).mem_iff.mpr this
      have rz : ∀ {L' : List (Addr × List Int)}, (∀ z ∈ L', z ∈ L) → RVs K B (upd H1 a (SetTO P w a L)) S1 ((L'.map (·.2)).map tiV) (L'.map fun q => V.ref q.1) := by
        intro L'
        induction L' with
        | nil => intro _; exact .nil
        | cons z L' ih => intro hz; exact .cons (rv2 z (hz z List.mem_cons_self)) (ih fun y hy => hz y (List.mem_cons_of_mem _ hy))
      have r2 := rz fun z hz => pm.mem_iff.mp hz
      rw [em] at r2
      exact (q.ext (e1.trans eN)).lst (hr1.new ha) r2 h1 d hd, er⟩
theorem se_sortSet {c : Bool} {e : Expr} {p p2 pos pos2 : Pos} {ma : IE} (hc : X.calm = true) (hu : X.A.units + 65 < cLine) (hg : Gl X "sorted") (hm : X.mg "sorted" = none) (hg2 : Gl X "set") (hm2 : X.mg "set" = none) (hs : starB e = false) (he : PE X e (liftE X.K W ma)) :
    PE X (.Call (.Name "sorted" p) [.Call (.Name "set" p2) [e] [] pos2] [] pos) (liftE X.K W (un1 (sortSetP c) ma)) :=
  (pe_callB (cr_sortedTS hc (by omega)) hg hm rfl (pa_cons (pe_callTy (cr_setOfT hc (by omega)) hg2 hm2 rfl (pa_cons he pa_nil (starEach_one hs)) (by decide) (by decide) (starEach_one hs) rfl) pa_nil rfl) (by decide) (by decide) rfl rfl).imp sortSet_imp
end

/-! ### dicts -/
/-- a new dict -/
@[reducible] def newD (kvs : List (Key × Val)) (S : Sto) (Q : VQ) : Prop := ∀ a, S a = none → Q (.ref a) (S.put a (.dict kvs))
/-- {'k': v, ..}: the keys are texts, no one twice -/
@[reducible] def dspI (ks : List Str) (as : IA) : IE := fun ρ S Q E => as ρ S (fun vs S1 => vs.length = ks.length ∧ ks.length ≤ 15 ∧ newD ((ks.map Sum.inr).zip vs) S1 Q) noX
/-- dict(d) -/
@[reducible] def dictP : PL := fun vs S Q => match vs with
  | [.ref a] => (match S a with
    | some (.dict kvs) => newD kvs S Q
    | _ => False)
  | _ => False
section
variable {X : Cx} {K : PySem.W.Frag} {B : Addr → Prop} {H : Hp} {S : Sto} {W : WX} {Qi : VQ} {Q : VK}
theorem QR.dict (q : QR K B S H Qi Q) (hr : HR K B H S) {kvs : List (Key × Val)} {us : List (Key × V)} (e : us.map (·.1) = kvs.map (·.1)) (r : RVs K B H S (kvs.map (·.2)) (us.map (·.2))) (h : newD kvs S Qi) : ∀ p, H p = none → Q (.ref p) (upd H p (.dK us)) := fun p hp => by
  have ex : Ext S (S.put p (.dict kvs)) H (upd H p (.dK us)) := Ext.newCell hp
  exact q (.ref p) (S.put p (.dict kvs)) (.ref p) _ (.ref p) (hr.newCell (c := .dict kvs) hp ⟨us, upd_same, e, r.ext ex⟩) ex (h p (hr.free hp).1)
abbrev rDictCopy : List V → Hp → VK → Prop := fun xs H Q => ∃ a kvs, xs = [.ref a] ∧ Rd H a (.dK kvs) ∧ ∀ p, H p = none → Q (.ref p) (upd H p (.dK kvs))
theorem cr_dictCopy : CallR X (.type "dict") rDictCopy := by
  intro pins s σ H xs us Q I r h
  obtain ⟨a, kvs, rfl, hd, q⟩ := h
  obtain ⟨u, rfl, ru⟩ := vals1 r
  obtain rfl : u = Value.ref a := ru
  exact d_copyOf I hd fun p s' hp I' => ⟨.ref p, _, I', rfl, q p hp⟩
theorem dictP_ok : PLOk K dictP rDictCopy := by
  intro B xs vs S H Qi Q r hr h q
  unfold dictP at h
  split at h
  · obtain ⟨v, rfl, r1⟩ := vs1 r
    cases r1
    split at h
    · rename_i kvs q0
      obtain ⟨us, h1, h2, h3⟩ := hr.ok _ _ q0
      exact ⟨_, us, rfl, .inl h1, q.dict hr h2 h3 h⟩
    · exact h.elim
  · exact h.elim
/-- the pairs' values, the keys being texts -/
def trsOf (ks : List Str) (ts : List TE) : List (TE × TE) := (ks.map fun x => tC (.str x)).zip ts
structure StrKeys (keys : List (Option Expr)) (ks : List Str) : Prop where
  h : Paired (fun k x => ∃ j p, k = some (Expr.Constant (.str x) j p)) keys ks
/-- the display's values one by one -/
inductive PVs (X : Cx) : List Expr → List TE → Prop
  | nil : PVs X [] []
  | cons {e : Expr} {t : TE} {es : List Expr} {ts : List TE} : PE X e t → PVs X es ts → PVs X (e :: es) (t :: ts)
theorem pps_of {pos : Pos} : ∀ {keys : List (Option Expr)} {ks : List Str} {es : List Expr} {ts : List TE}, Paired (fun k x => ∃ j p, k = some (Expr.Constant (.str x) j p)) keys ks → PVs X es ts → keys.length = es.length → PPs X pos keys es (trsOf ks ts)
  | _, _, _, _, .nil, .nil, _ => pps_nil
  | _, _, _, _, .nil, .cons _ _, h => by cases h
  | _, _, _, _, .cons _ _, .nil, h => by cases h
  | _, _, _, _, .cons h1 h2, .cons g1 g2, h => by
    obtain ⟨j, p, rfl⟩ := h1
    exact pps_cons pe_str g1 (pps_of h2 g2 (by simpa using h))
@[reducible] def foldA : List IE → IA
  | [] => nilA
  | m :: r => consA m (foldA r)
/-- the values of a display, hidden dict Dd -/
theorem pairs_imp : ∀ {ks : List Str} {ms : List IE}, ks.length = ms.length → ∀ (Bh : Addr → Prop) (ρ : ISt) (S : Sto) (σ : St) (H : Hp) (Qi : List Val → Sto → Prop) (Q : List (V × V) → Hp → Prop), Rl K Bh ρ S σ H → foldA ms ρ S Qi noX →
    (∀ vs S' xs H', RVs K Bh H' S' vs xs → HR K Bh H' S' → Ext S S' H H' → Qi vs S' → Q ((ks.map V.str).zip xs) H') → tPairs (trsOf ks (ms.map (liftE K noW))) σ H Q
  | [], [], _, Bh, ρ, S, σ, H, Qi, Q, R, h, q => q [] S [] H .nil R.hr Ext.refl h
  | [], _ :: _, e, _, _, _, _, _, _, _, _, _, _ => by cases e
  | _ :: _, [], e, _, _, _, _, _, _, _, _, _, _ => by cases e
  | k :: ks, m :: ms, e, Bh, ρ, S, σ, H, Qi, Q, R, h, q => by
    show tPairs ((tC (.str k), liftE K noW m) :: trsOf ks (ms.map (liftE K noW))) σ H Q
    refine ⟨ρ, S, Bh, _, noX, R, h, fun v S1 x H1 rv hr1 e1 h1 => ?_, fun _ _ _ _ _ _ _ _ z => z⟩
    refine pairs_imp (by simpa using e) Bh ρ S1 σ H1 _ _ (R.ext e1 hr1) h1 fun vs S2 xs H2 rs hr2 e2 h2 => ?_
    exact q (v :: vs) S2 (x :: xs) H2 (.cons (rv.ext e2) rs) hr2 (e1.trans e2) h2
theorem mergeK_new : ∀ {kvs acc : List (Key × V)}, (acc.map (·.1) ++ kvs.map (·.1)).Nodup → mergeK acc kvs = acc ++ kvs
  | [], acc, _ => by rw [List.append_nil]; rfl
  | p :: r, acc, nd => by
    have nd2 : p.1 ∉ acc.map (·.1) := fun z => by
      rw [List.map_cons] at nd
      have := (List.nodup_append.mp nd).2.2
      exact this p.1 z p.1 List.mem_cons_self rfl
    have en : valV acc p.1 = none := by
      unfold valV
      cases f : acc.find? fun kv => decide (kv.1 = p.1) with
      | none => rfl
      | some q =>
        have h1 := List.mem_of_find?_eq_some f
        have h2 := List.find?_some f
        have h2 := of_decide_eq_true h2
        exact absurd (List.mem_map.mpr ⟨q, h1, h2⟩) nd2
    show mergeK (putK acc p.1 p.2) r = _
    rw [putK_new p.2 en, mergeK_new]
    · rw [List.append_assoc]
      rfl
    · rw [List.map_append, List.append_assoc]
      exact nd
theorem keys_some : ∀ {keys : List (Option Expr)} {ks : List Str}, Paired (fun k x => ∃ j p, k = some (Expr.Constant (.str x) j p)) keys ks → keys.all (·.isSome) = true
  | _, _, .nil => rfl
  | _, _, .cons h r => by
    obtain ⟨j, p, rfl⟩ := h
    rw [List.all_cons, keys_some r]
    rfl
theorem zip_map2 {α β γ : Type} (f : α → γ) (ks : List α) (xs : List β) : (ks.map f).zip xs = (ks.zip xs).map fun z => (f z.1, z.2) := by
  induction ks generalizing xs with
  | nil => rfl
  | cons k ks ih =>
    cases xs with
    | nil => rfl
    | cons x xs =>
      rw [List.map_cons, List.zip_cons_cons, List.zip_cons_cons, List.map_cons, ih]
theorem map_zip_fst {α β : Type} : ∀ (ks : List α) (xs : List β), ks.length = xs.length → (ks.zip xs).map (·.1) = ks ∧ (ks.zip xs).map (·.2) = xs
  | [], [], _ => ⟨rfl, rfl⟩
  | [], _ :: _, h => by cases h
  | _ :: _, [], h => by cases h
  | k :: ks, x :: xs, h => by
    obtain ⟨h1, h2⟩ := map_zip_fst ks xs (by simpa using h)
    exact ⟨by rw [List.zip_cons_cons, List.map_cons, h1], by rw [List.zip_cons_cons, List.map_cons, h2]⟩
theorem se_disp {keys : List (Option Expr)} {es : List Expr} {ks : List Str} {ms : List IE} {pos : Pos} (hk : Paired (fun k x => ∃ j p, k = some (Expr.Constant (.str x) j p)) keys ks) (hv : PVs X es (ms.map (liftE X.K noW))) (hl : keys.length = es.length) (hm : ks.length = ms.length) (h0 : keys ≠ [])
    (nd : ks.Nodup) (h15 : ks.length ≤ 15) : PE X (.Dict keys es pos) (liftE X.K W (dspI ks (foldA ms))) := by
  have ek : keys.length = ks.length := Paired.length hk
  refine (pe_disp (pps_of hk hv hl) (keys_some hk) hl h0 (by omega)).imp fun σ H Q ⟨ρ, S, B, Qi, Ei, R, h, q, er⟩ p hp => ?_
  have wD : Wider B (More B p) H := Wider.more hp
  have sp := (R.hr.free hp).1
  have nb := (R.hr.free hp).2
  have hr1 : HR X.K (More B p) (upd H p (.dK [])) S := R.hr.hide hp
  have R1 : Rl X.K (More B p) ρ S σ (upd H p (.dK [])) := ⟨(R.st.moreB wD).ext (Ext.new hp), hr1⟩
  have sub : ∀ a, B a → More B p a := fun a z => .inr z
  refine pairs_imp hm (More B p) ρ S σ _ _ _ R1 h fun vs S1 xs H1 rv hr2 e1 h1 => ?_
  obtain ⟨l1, l2, h1⟩ := h1
  obtain ⟨s1, d1⟩ := e1 p _ sp upd_same
  refine ⟨d1, (ks.map Sum.inr).zip xs, ?_, ?_, ?_⟩
  · rw [zip_map2, zip_map2, List.map_map]
    rfl
  · rw [List.length_zip, List.length_map]
    omega
  · have lx : ks.length = xs.length := by rw [← l1]; exact rv.length
    obtain ⟨z1, z2⟩ := map_zip_fst (ks.map (Sum.inr : Str → Key)) xs (by rw [List.length_map]; exact lx)
    obtain ⟨z3, z4⟩ := map_zip_fst (ks.map (Sum.inr : Str → Key)) vs (by rw [List.length_map]; exact l1.symm)
    have nk : (ks.map (Sum.inr : Str → Key)).Nodup := by
      refine List.pairwise_map.mpr (nd.imp fun {a b} hne e => hne ?_)
      cases e
      rfl
    rw [mergeK_new (acc := []) (by rw [List.map_nil, List.nil_append, z1]; exact nk), List.nil_append]
    -- the dict is no longer hidden
    have ex : ExtB (More B p) S1 (S1.put p (.dict ((ks.map Sum.inr).zip vs))) H1 (upd H1 p (.dK ((ks.map Sum.inr).zip xs))) := fun a u hs hb ha => by
      have ne : a ≠ p := fun z => hb (.inl z)
      exact ⟨by rw [Sto.put_ne ne]; exact hs, by rw [upd_ne ne]; exact ha⟩
    have rv3 : RVs X.K B (upd H1 p (.dK ((ks.map Sum.inr).zip xs))) (S1.put p (.dict ((ks.map Sum.inr).zip vs))) vs xs := RVs.lessB sub (rv.extB ex)
    have hr3 : HR X.K B (upd H1 p (.dK ((ks.map Sum.inr).zip xs))) (S1.put p (.dict ((ks.map Sum.inr).zip vs))) := ⟨fun a k hk2 => by
      by_cases z : a = p
      · subst z
        rw [Sto.put_same] at hk2
        cases hk2
        exact ⟨_, upd_same, by rw [z1, z3], by rw [z2, z4]; exact rv3⟩
      · rw [Sto.put_ne z] at hk2
        exact ((hr2.ok a k hk2).extB ex (upd_ne z)).lessB sub, fun a hb => by
      have z : a ≠ p := fun z => nb (by rw [← z]; exact hb)
      obtain ⟨q1, u, q2⟩ := hr2.hid a (.inr hb)
      exact ⟨by rw [Sto.put_ne z]; exact q1, u, by rw [upd_ne z]; exact q2⟩⟩
    refine q (.ref p) _ (.ref p) _ (.ref p) hr3 (fun a u hs ha => ?_) (h1 p s1)
    have z : a ≠ p := ne_of_none ha hp
    obtain ⟨q1, q2⟩ := e1 a u hs (by rw [upd_ne z]; exact ha)
    exact ⟨by rw [Sto.put_ne z]; exact q1, by rw [upd_ne z]; exact q2⟩
end

/-! ### f(k = v, ..): every parameter by its name, in their order -/
def Kb (K : PySem.W.Frag) (fd : FuncData) (ps : List Str) : Prop := ∀ (s : Shared) (ws : List Value), K.In s.heap → ws.length = ps.length → BindsTo s fd ⟨[], ps.zip ws⟩ (ps.zip ws)
section
variable {X : Cx} {W : WX}
theorem run_fnKS {CX : CXT} {k : Nat} {f : Addr} {fd : FuncData} {ps : List Str} {sp : Sp} {E : St → XK} {pins : List (Addr × Obj)} {σ : St} {H : Hp} {s : Shared} {Q : VK} {ws : List Value} {zs : List V} (F : FnOk X.prog X.w X.K X.mg X.base CX k f fd ps sp) (hr : Room k X.A) (hb : Kb X.K fd ps) (hx : PassesAt CX X σ (E σ))
    (I : Inv X pins σ H s) (rz : Vals zs ws) (h : sp zs H Q (E σ)) : wpAny (model X.prog X.w) X.A (call (.ref f) [] (ps.zip ws)) (EP X pins σ Q) X.xe s := by
  have hl : ws.length = ps.length := by rw [← rz.length]; exact F.len _ _ _ _ h
  refine wpAny_call (codeAny_mono (F.run X.A X.stack s H ⟨[], ps.zip ws⟩ ws zs Q (E σ) hr I.env0 (hb s ws I.kIn hl) rz h) fun r s' hq => ?_)
  cases r with
  | error e => exact hx pins H s e s' I hq
  | ok fl =>
    cases fl with
    | ret u => exact I.after hq
    | next => exact False.elim hq
    | brk => exact False.elim hq
    | cont => exact False.elim hq
theorem kw_names {pos : Pos} {env : Env} : ∀ {kws : List Keyword} {ps : List Str}, kws.map (·.arg) = ps.map some → ((backToKw pos (keywordEach kws env)).all (·.1.isSome) = true ∧ (backToKw pos (keywordEach kws env)).filterMap (·.1) = ps ∧ (backToKw pos (keywordEach kws env)).any (·.1.isNone) = false)
  | [], [], _ => ⟨rfl, rfl, rfl⟩
  | [], _ :: _, h => by cases h
  | _ :: _, [], h => by cases h
  | ⟨a, e, kp⟩ :: kws, p :: ps, h => by
    have h1 : a = some p := (List.cons.inj h).1
    have h2 : kws.map (·.arg) = ps.map some := (List.cons.inj h).2
    subst h1
    obtain ⟨g1, g2, g3⟩ := kw_names (pos := pos) (env := env) h2
    refine ⟨?_, ?_, ?_⟩
    · show (true && (backToKw pos (keywordEach kws env)).all (·.1.isSome)) = true
      rw [g1]
      rfl
    · show p :: (backToKw pos (keywordEach kws env)).filterMap (·.1) = p :: ps
      rw [g2]
    · show (false || (backToKw pos (keywordEach kws env)).any (·.1.isNone)) = false
      rw [g3]
      rfl
theorem sk_nil : PK X [] (liftA X.K W nilA) := ⟨fun pos pins s σ H Q I ⟨ρ, S, B, Qi, Ei, R, h, q, er⟩ => pk_nil.run pos pins s σ H Q I (q [] S [] H .nil R.hr Ext.refl h)⟩
theorem sk_cons {nm : Option Str} {e : Expr} {kpos : Pos} {kws : List Keyword} {ma : IE} {mr : IA} (ha : PE X e (liftE X.K W ma)) (hr : PK X kws (liftA X.K W mr)) : PK X (⟨nm, e, kpos⟩ :: kws) (liftA X.K W (consA ma mr)) :=
  ⟨fun pos pins s σ H Q I h => (pk_cons ha hr).run pos pins s σ H Q I (cons_imp (fun _ _ _ h => h) _ _ _ h)⟩
theorem se_callK {Γ : Calls} {f : Str} {fd : FuncData} {ps : List Str} {k : Nat} {mr : IA} {p pos : Pos} {kws : List Keyword} (D : DefOk X k Γ f fd ps) (hb : Kb X.K fd ps) (hr : Room k X.A) (tk : Takes X W) (hg : Gl X f) (hdb : (f == ("__debug__" : Str)) = false)
    (hn : kws.map (·.arg) = ps.map some) (ha : PK X kws (liftA X.K W mr)) : PE X (.Call (.Name f p) [] kws pos) (liftE X.K W (callF Γ f mr)) := by
  refine ⟨fun pins s σ H Q I h => ?_⟩
  obtain ⟨n1, n2, n3⟩ := kw_names (pos := pos) (env := X.env) hn
  refine wpAny_Call_Name_kw (ld_glob I hg D.mg ?_ hdb)
  refine PySem.W.callWith_KW0 (h₀ := X.base) I.ok.mod.kin D.kp n1 (thn (ha.run pos pins s σ H _ I (callF_imp σ H Q h)) fun ws s2 ⟨zs, H2, I2, rz, q2⟩ => ⟨I2.kIn, ?_⟩) (by show (false || (backToKw pos (keywordEach kws X.env)).any (·.1.isNone)) = false; rw [n3]; rfl)
  rw [n2]
  exact run_fnKS D.ok hr hb (passAt tk σ) I2 rz q2
/-! ### calls by keywords in another order than the def's -/
def pickI {α : Type} : List Nat → List α → Option (List α)
  | [], _ => some []
  | i :: r, xs => match xs[i]?, pickI r xs with
    | some x, some ys => some (x :: ys)
    | _, _ => none
def pickN {α : Type} (n : Nat) (ix : List Nat) (xs : List α) : Option (List α) := if xs.length = n then pickI ix xs else none
@[reducible] def callFP (Γ : Calls) (f : Str) (n : Nat) (ix : List Nat) (as : IA) : IE := fun ρ S Q E => as ρ S (fun xs S1 => someP (pickN n ix xs) fun ys => Γ f ys S1 Q E) E
theorem pick_rel {α β : Type} {R : α → β → Prop} {F : List α → List β → Prop} (f0 : F [] []) (f1 : ∀ x z ys us, R x z → F ys us → F (x :: ys) (z :: us)) {xs : List α} {zs : List β} (h : ∀ (i : Nat) x, xs[i]? = some x → ∃ z, zs[i]? = some z ∧ R x z) : ∀ (ix : List Nat) (ys : List α), pickI ix xs = some ys → ∃ us, pickI ix zs = some us ∧ F ys us
  | [], ys, e => by
    cases e
    exact ⟨[], rfl, f0⟩
  | i :: r, ys, e => by
    unfold pickI at e
    split at e
    · rename_i x ys' e1 e2
      cases e
      obtain ⟨z, h1, h2⟩ := h i x e1
      obtain ⟨us, h3, h4⟩ := pick_rel f0 f1 h r ys' e2
      exact ⟨z :: us, by unfold pickI; rw [h1, h3], f1 _ _ _ _ h2 h4⟩
    · cases e
theorem RVs.at_ {K : PySem.W.Frag} {B : Addr → Prop} {H : Hp} {S : Sto} : ∀ {xs : List Val} {vs : List V}, RVs K B H S xs vs → ∀ (i : Nat) x, xs[i]? = some x → ∃ v, vs[i]? = some v ∧ RV K B H S x v
  | _, _, .nil, i, x, e => by simp at e
  | _, _, .cons r t, 0, x, e => by
    have e := Option.some.inj e
    subst e
    exact ⟨_, rfl, r⟩
  | _, _, .cons r t, i + 1, x, e => t.at_ i x e
theorem paired_at {α β : Type} {R : α → β → Prop} : ∀ {xs : List α} {vs : List β}, Paired R xs vs → ∀ (i : Nat) x, xs[i]? = some x → ∃ v, vs[i]? = some v ∧ R x v
  | _, _, .nil, i, x, e => by simp at e
  | _, _, .cons r t, 0, x, e => by
    have e := Option.some.inj e
    subst e
    exact ⟨_, rfl, r⟩
  | _, _, .cons r t, i + 1, x, e => paired_at t i x e
theorem RVs.len_ {K : PySem.W.Frag} {B : Addr → Prop} {H : Hp} {S : Sto} : ∀ {xs : List Val} {vs : List V}, RVs K B H S xs vs → vs.length = xs.length
  | _, _, .nil => rfl
  | _, _, .cons r t => by rw [List.length_cons, List.length_cons, t.len_]
def Kbp (K : PySem.W.Frag) (fd : FuncData) (ps qs : List Str) (ix : List Nat) : Prop := ∀ (s : Shared) (ws : List Value), K.In s.heap → ws.length = qs.length → ∃ ys, pickI ix ws = some ys ∧ BindsTo s fd ⟨[], qs.zip ws⟩ (ps.zip ys)
def spP (sp : Sp) (n : Nat) (ix : List Nat) : Sp := fun zs H Q E => ∃ us, pickN n ix zs = some us ∧ sp us H Q E
theorem callFP_imp {Γ : Calls} {f : Str} {n : Nat} {ix : List Nat} {mr : IA} : ∀ σ H Q, liftE X.K W (callFP Γ f n ix mr) σ H Q → tCallS (spP (spG X.K Γ f) n ix) (WE W) (liftA X.K W mr) σ H Q := fun σ H Q ⟨ρ, S, B, Qi, Ei, R, h, q, er⟩ => by
  refine ⟨ρ, S, B, _, Ei, R, h, fun vs S1 xs H1 rv hr1 e h1 => ?_, er⟩
  obtain ⟨ys, e1, h1⟩ := someP_some h1
  unfold pickN at e1
  split at e1
  · rename_i hl
    obtain ⟨us, e2, r2⟩ := pick_rel (R := RV X.K B H1 S1) (F := RVs X.K B H1 S1) .nil (fun _ _ _ _ a b => .cons a b) rv.at_ ix ys e1
    exact ⟨us, by unfold pickN; rw [if_pos (by rw [rv.len_]; exact hl)]; exact e2, ys, S1, B, Qi, Ei, r2, hr1, h1, q.ext e, er.ext e⟩
  · cases e1
theorem se_callKP {Γ : Calls} {f : Str} {fd : FuncData} {ps qs : List Str} {ix : List Nat} {k : Nat} {mr : IA} {p pos : Pos} {kws : List Keyword} (D : DefOk X k Γ f fd ps) (hb : Kbp X.K fd ps qs ix) (hr : Room k X.A) (tk : Takes X W) (hg : Gl X f) (hdb : (f == ("__debug__" : Str)) = false)
    (hn : kws.map (·.arg) = qs.map some) (ha : PK X kws (liftA X.K W mr)) : PE X (.Call (.Name f p) [] kws pos) (liftE X.K W (callFP Γ f qs.length ix mr)) := by
  refine ⟨fun pins s σ H Q I h => ?_⟩
  obtain ⟨n1, n2, n3⟩ := kw_names (pos := pos) (env := X.env) hn
  refine wpAny_Call_Name_kw (ld_glob I hg D.mg ?_ hdb)
  refine PySem.W.callWith_KW0 (h₀ := X.base) I.ok.mod.kin D.kp n1 (thn (ha.run pos pins s σ H _ I (callFP_imp σ H Q h)) fun ws s2 ⟨zs, H2, I2, rz, us, e2, q2⟩ => ⟨I2.kIn, ?_⟩) (by show (false || (backToKw pos (keywordEach kws X.env)).any (·.1.isNone)) = false; rw [n3]; rfl)
  rw [n2]
  unfold pickN at e2
  split at e2
  · rename_i hl
    obtain ⟨ys, e3, r3⟩ := pick_rel (R := RelV) (F := Vals) .nil (fun _ _ _ _ a b => .cons a b) (paired_at rz) ix us e2
    obtain ⟨ys', e4, hb⟩ := hb s2 ws I2.kIn (by rw [← rz.length]; exact hl)
    rw [e3] at e4
    cases e4
    refine wpAny_call (codeAny_mono (D.ok.run X.A X.stack s2 H2 ⟨[], qs.zip ws⟩ ys us Q (WE W σ) hr I2.env0 hb r3 q2) fun r s' hq => ?_)
    cases r with
    | error e => exact (passAt tk σ) pins H2 s2 e s' I2 hq
    | ok fl =>
      cases fl with
      | ret u => exact I2.after hq
      | next => exact False.elim hq
      | brk => exact False.elim hq
      | cont => exact False.elim hq
  · cases e2
end
end TL

/-! TLv: x[a:b] = ys, open ends too. -/
namespace TL
open PySem PySem.Spec L2
theorem setItem_sliceT {prog : Program} {w : World} {A : Around} {E : Value → Shared → Prop} {s : Shared} {l b sl : Addr} {items new : Array Value} {n n2 : Nat} {vl vu : Value} {a c : Nat} {lo hi : Option Int} {Q : Unit → Shared → Prop}
    (e : s.heap.get? l = some { cls := Value.type "list", data := Data.seq items n }) (e2 : s.heap.get? b = some { cls := Value.type "list", data := Data.seq new n2 }) (hne : l ≠ b)
    (hs : s.heap.IsSliceOf sl vl vu Value.none) (pl : IsPart vl lo) (pu : IsPart vu hi) (hbd : sliceBounds lo hi none items.size = ((a : Int), (c : Int), 1)) (hac : a ≤ c) (hc : c ≤ items.size) (hsz : items.size + new.size ≤ sizeLine)
    (h : Q () { heap := s.heap.update l (Obj.mapSeq fun xs => xs.extract 0 a ++ new ++ xs.extract c), gens := s.gens, drawn := s.drawn, toks := s.toks, os := s.os }) :
    wpAny (model prog w) A (setItem (Value.ref l) (Value.ref sl) (Value.ref b)) Q E s := by
  have hl : s.heap.IsList l items := IsL.isList e
  have hb : s.heap.IsList b new := IsL.isList e2
  obtain ⟨os, hos, hcs, hds⟩ := id hs
  have hTs : s.TypeIs (Value.ref sl) "slice" := ⟨os, hos, hcs⟩
  have hsame : Builtin.List.listSameRef (Value.ref l) (Value.ref b) = false := beq_eq_false_iff_ne.mpr hne
  unfold setItem
  refine wpAny_holding (wpAny_bind (wpAny_sequenceKey hl.typeIs (by decide) (wpAny_bind (wpAny_callSpecial?_slot hl.typeIs slot_list_setitem (wpAny_call_entry slot_list_setitem hl.typeIs entry_list_setitem ?_ (args_list_setitem _ _ _))))))
  unfold Builtin.«list.__setitem__»
  refine wpAny_bind (wpAny_pure ?_)
  refine wpAny_bind ?_
  unfold Builtin.List.listSubscript?
  refine wpAny_bind (wpAny_specialOf hTs slice_no_index ?_)
  refine wpAny_pure ?_
  refine wpAny_bind (wpAny_typeOf hTs ?_)
  rw [if_neg (by decide)]
  refine wpAny_bind ?_
  rw [listSliceParts_eq]
  refine wpAny_bind (wpAny_field hos hds rfl (wpAny_bind (wpAny_listPart IsPart.none ?_)))
  rw [if_neg (by decide)]
  refine wpAny_bind (wpAny_field hos hds rfl (wpAny_bind (wpAny_listPart pl ?_)))
  refine wpAny_bind (wpAny_field hos hds rfl (wpAny_bind (wpAny_listPart pu (wpAny_pure ?_))))
  show wpAny _ _ (if Builtin.List.listSameRef (Value.ref l) (Value.ref b) = true then _ else _) _ _ _
  rw [if_neg (by rw [hsame]; decide)]
  unfold Builtin.List.listAllItems
  refine wpAny_bind (wpAny_bind (wpAny_typeOf hb.typeIs ?_))
  rw [if_pos (by decide)]
  refine wpAny_listItems e2 rfl ?_
  refine wpAny_bind (wpAny_listItems e rfl ?_)
  refine wpAny_bind (wpAny_of_eq (sliceIndices_raw lo hi none items.size nofun) ?_)
  rw [hbd]
  show wpAny _ _ (if ((1 : Int) == 1) = true then _ else _) _ _ _
  rw [if_pos (by decide)]
  refine wpAny_bind (wpAny_rule ?_)
  rw [if_neg (by rw [notLongL hsz]; decide)]
  have hmax : (max (a : Int) (c : Int)).toNat = c := by omega
  refine wpAny_bind (PyProof.Rows.listUpdate_at e rfl ?_ (by omega) (by simp; omega))
  refine wpAny_bind (wpAny_letGo (wpAny_pure ⟨_, rfl, wpAny_pure ?_⟩))
  simp only [hmax, Int.toNat_natCast]
  exact h

/-- .. in the layer -/
theorem set_sliceT {X : Cx} {pins : List (Addr × Obj)} {s : Shared} {σ : L2.St} {H : Hp} {l b sl : Addr} {xs ys : List V} {lo hi : Option Int} {vl vu : Value} {Q : Unit → Shared → Prop} (I : L2.Inv X pins σ H s) (hH : H l = some (.lst xs)) (hB : H b = some (.lst ys)) (hne : l ≠ b)
    (hs : s.heap.IsSliceOf sl vl vu Value.none) (pl : IsPart vl lo) (pu : IsPart vu hi) (hac : HT.sIx xs.length 0 lo ≤ HT.sIx xs.length xs.length hi) (hc : HT.sIx xs.length xs.length hi ≤ xs.length) (hz : xs.length + ys.length ≤ sizeLine)
    (h : ∀ s', L2.Inv X pins σ (upd H l (.lst (xs.take (HT.sIx xs.length 0 lo) ++ ys ++ xs.drop (HT.sIx xs.length xs.length hi)))) s' → Q () s') : wpAny (model X.prog X.w) X.A (setItem (Value.ref l) (Value.ref sl) (Value.ref b)) Q X.xe s := by
  obtain ⟨z, its, n, r, hl, e⟩ := Inv.lstM I hH
  obtain ⟨z2, its2, n2, r2, hl2, e2⟩ := Inv.lstM I hB
  have q := slice_bounds lo hi its.toArray.size
  have es : its.toArray.size = xs.length := by rw [List.size_toArray]; omega
  refine setItem_sliceT (a := HT.sIx xs.length 0 lo) (c := HT.sIx xs.length xs.length hi) e e2 hne hs pl pu ?_ hac (by rw [es]; exact hc) (by rw [es, List.size_toArray]; omega) (h _ (Inv.lset I hH e (splice_eq its its2 _ _) (Vals.append (Vals.append (Vals.take _ r) r2) (Vals.drop _ r)) ?_))
  · rw [es] at q
    rw [es]
    exact Prod.ext q.1 (Prod.ext q.2.1 q.2.2)
  · simp only [List.length_append, List.length_take, List.length_drop]
    omega
def _root_.L2.gSl (to : TE) (tl th : TO) : TG := fun v σ H Q => to σ H fun o H1 => tl σ H1 fun l H2 => th σ H2 fun u H3 => ∃ (a b : Addr) (xs ys : List V), o = .ref a ∧ v = .ref b ∧ H3 a = some (.lst xs) ∧ H3 b = some (.lst ys) ∧ a ≠ b ∧ HT.sIx xs.length 0 l ≤ HT.sIx xs.length xs.length u ∧ HT.sIx xs.length xs.length u ≤ xs.length ∧ xs.length + ys.length ≤ sizeLine ∧
  Q σ (upd H3 a (.lst (xs.take (HT.sIx xs.length 0 l) ++ ys ++ xs.drop (HT.sIx xs.length xs.length u))))
theorem pg_slice {X : Cx} {o : Expr} {lo hi : Option Expr} {p2 pos : Pos} {to : TE} {tl th : TO} (ho : PE X o to) (hl : PO X lo tl) (hu : PO X hi th) : PG X (.Subscript o (.Slice lo hi none p2) pos) (gSl to tl th) := ⟨fun pins s σ H v u Q I r h => by
  have ha : assign (.Subscript o (.Slice lo hi none p2) pos) X.env u = (do
      let ov ← holding [u] (eval o X.env)
      let iv ← holding [u, ov] (eval (.Slice lo hi none p2) X.env)
      standAt pos
      holding [u, ov, iv] (setItem ov iv u)
      PySem.release [iv, u, ov] []) := rfl
  rw [ha]
  refine wpAny_bind (wpAny_holding (thn (ho.run pins s σ H _ I h) ?_))
  rintro ov s1 ⟨x, H1, I1, r1, q1⟩
  refine wpAny_bind (wpAny_holding (wpAny_Slice (thn (hl.run pins s1 σ H1 _ I1 q1) ?_)))
  rintro vl s2 ⟨l, H2, I2, pl, q2⟩
  refine thn (hu.run pins s2 σ H2 _ I2 q2) ?_
  rintro vu s3 ⟨k, H3, I3, pu, q3⟩
  rw [evalPart_none]
  refine wpAny_pure ?_
  have I4 := Inv.kept (t' := s3.toks) I3 fun b ob q => Heap.get?_push_of_some { cls := Value.type "slice", data := Data.fields #[vl, vu, Value.none] } q
  obtain ⟨a, b, xs, ys, rfl, rfl, g1, g2, g3, g4, g5, g6, g7⟩ := q3
  cases r1
  cases r
  refine wpAny_bind (wpAny_standAt (wpAny_bind (wpAny_holding ?_)))
  exact set_sliceT I4 g1 g2 g3 (Heap.IsSliceOf.new s3.1 vl vu Value.none) pl pu g4 g5 g6 fun s' I' => wpAny_release ⟨σ, _, I', g7⟩⟩

/-! ### the plain meaning -/
def setSl0 (o v : Val) (lo hi : Option Int) (S : Sto) (Kn : Sto → Prop) : Prop := putI o S fun a xs => match v with
  | .lst ys => HT.sIx xs.length 0 lo ≤ HT.sIx xs.length xs.length hi ∧ HT.sIx xs.length xs.length hi ≤ xs.length ∧ xs.length + ys.length ≤ sizeLine ∧ Kn (S.put a (.lst (xs.take (HT.sIx xs.length 0 lo) ++ ys ++ xs.drop (HT.sIx xs.length xs.length hi))))
  | _ => False
structure setSl (o v : Val) (lo hi : Option Int) (S : Sto) (Kn : Sto → Prop) : Prop where
  h : setSl0 o v lo hi S Kn
@[reducible] def sstoreI (o : IE) (lo hi : IO) (e : IE) : IS := fun D ρ S => e ρ S (fun v S1 => o ρ S1 (fun x S2 => lo ρ S2 (fun l S3 => hi ρ S3 (fun u S4 => setSl x v l u S4 fun S5 => D.nx ρ S5) (D.ex ρ)) (D.ex ρ)) (D.ex ρ)) (D.ex ρ)
section
variable {X : Cx} {W : WX} {o e : Expr} {lo hi : Option Expr} {mo me : IE} {ml mh : IO} {p p2 pos : Pos}
theorem ss_sstore (ho : PE X o (liftE X.K W mo)) (hl : PO X lo (liftO X.K W ml)) (hh : PO X hi (liftO X.K W mh)) (he : PE X e (liftE X.K W me)) : PS X (.Assign [.Subscript o (.Slice lo hi none p2) p] e pos) (liftS X.K W (sstoreI mo ml mh me)) :=
  (ps_asg he (pg_slice ho hl hh) swapsSole_sub rfl).imp fun D σ H ⟨ρ, S, B, Di, R, h, d⟩ => ⟨ρ, S, B, _, _, R, h, fun v S1 x H1 rv hr1 e1 h1 =>
    ⟨ρ, S1, B, _, _, R.ext e1 hr1, h1, fun u S2 y H2 ru hr2 e2 h2 => ⟨ρ, S2, B, _, _, R.ext (e1.trans e2) hr2, h2, fun l S3 H3 hr3 e3 h3 => ⟨ρ, S3, B, _, _, R.ext (e1.trans (e2.trans e3)) hr3, h3, fun k S4 H4 hr4 e4 h4 => by
      have ru := ru.ext (e3.trans e4)
      have rv := rv.ext (e2.trans (e3.trans e4))
      replace h4 := h4.h
      unfold setSl0 putI at h4
      split at h4
      · cases ru
        split at h4
        · rename_i a _ ys q0
          split at h4
          · rename_i _ zs _
            cases rv with
            | @lst b _ ws i1 i2 i3 =>
            obtain ⟨us, g1, g2⟩ := hr4.ok _ _ q0
            obtain ⟨t1, t2, t3, h5⟩ := h4
            have l1 := g2.length
            have l2 := i3.length
            rw [l1] at t1 t2 t3 h5
            rw [l2] at t3
            have e5 : Ext S4 (S4.put a (.lst (ys.take (HT.sIx us.length 0 l) ++ zs ++ ys.drop (HT.sIx us.length us.length k)))) H4 (upd H4 a (.lst (us.take (HT.sIx us.length 0 l) ++ ws ++ us.drop (HT.sIx us.length us.length k)))) := Ext.write q0
            have ea := e1.trans (e2.trans (e3.trans (e4.trans e5)))
            refine ⟨a, _, us, _, rfl, rfl, g1, i1, fun z => ?_, t1, t2, t3, d.nx ρ _ σ _ (R.ext ea (hr4.write (c := .lst _) q0 ⟨_, upd_same, (((g2.take _).append i3).append (g2.drop _)).ext e5⟩)) ea h5⟩
            rw [z, i2.1] at q0
            cases q0
          · exact h4.elim
        · exact h4.elim
      · exact h4.elim, (d.ext (e1.trans (e2.trans e3))).er (R.st.ext (e1.trans (e2.trans e3)))⟩,
      (d.ext (e1.trans e2)).er (R.st.ext (e1.trans e2))⟩, (d.ext e1).er (R.st.ext e1)⟩, d.er R.st⟩
end

/-! ### max of a tuple of ints -/
theorem max_intTup {prog : Program} {w : World} {A : Around} {E : Value → Shared → Prop} {s : Shared} {l : Addr} {xs : Array (Int × Tok)} {Q : Value → Shared → Prop} (hh : A.handled = none) (hl : s.heap.IsTuple l (intItems xs)) (hne : 0 < xs.size)
    (h : ∀ v h' tk, (intItems xs)[argBest (fun i j => decide (numAt xs i > numAt xs j)) (xs.size - 1)]? = some v → (∀ b o, s.heap.get? b = some o → h'.get? b = some o) → Q v { s with heap := h', toks := tk }) :
    wpAny (model prog w) A (call (.builtin "max") [.ref l]) Q E s := by
  have hlt : l < s.heap.objs.size := by obtain ⟨_, e, _⟩ := hl; exact Heap.lt_size e
  have hnl : l ≠ s.heap.objs.size := Nat.ne_of_lt hlt
  refine call_max_walk (wpAny_pyIter_tuple hl ?_)
  refine ⟨_, [_, l], [_], _, _, _, _, rfl, Walks.tuple (A := A.in1) hh _ l hnl (intItems xs), ⟨⟨_, Heap.get?_push_size _ rfl, rfl, rfl⟩, hl.push _⟩, fun c hc => ?_, by simpa [intItems] using hne, CmpOf.ints_gt (numAt xs) (fun _ _ => intItems_at), fun v h' tk hP hk => ?_⟩
  · show c < (s.heap.push _).objs.size
    rw [Heap.size_push]
    rcases List.mem_cons.mp hc with rfl | hc
    · exact Nat.lt_succ_self _
    · rcases List.mem_cons.mp hc with rfl | hc
      · exact Nat.lt_succ_of_lt hlt
      · cases hc
  · refine h v h' tk (by simpa [intItems] using hP) fun b o e => hk b o (fun hm => ?_) (Heap.get?_push_of_some _ e)
    rcases List.mem_cons.mp hm with e1 | hm
    · exact absurd (e1 ▸ Heap.lt_size e) (Nat.lt_irrefl _)
    · cases hm
open PyProof.Rows hiding St in
theorem max_rawT {prog : Program} {w : World} {A : Around} {E : Value → Shared → Prop} {s : Shared} {l : Addr} {its : List Value} {ns : List Int} {Q : Value → Shared → Prop} (hh : A.handled = none) (hl : s.heap.IsTuple l its.toArray) (hi : IntsAre its ns) (hne : 0 < ns.length)
    (h : ∀ h' tk M t', (∀ b o, s.heap.get? b = some o → h'.get? b = some o) → M ∈ ns → (∀ a, a ∈ ns → a ≤ M) → Q (.int M t') { s with heap := h', toks := tk }) : wpAny (model prog w) A (call (.builtin "max") [.ref l]) Q E s := by
  obtain ⟨xs, e⟩ := hi.allInts.items
  have hn : numsOf (intItems xs).toList = ns := by rw [← e]; exact hi.numsOf
  rw [nums_intItems] at hn
  subst hn
  rw [e] at hl
  refine max_intTup hh hl (by simpa using hne) fun v h' tk hv hk => ?_
  obtain ⟨t, rfl⟩ := intItems_at hv
  obtain ⟨h1, h2⟩ := argBest_gt (numAt xs) (xs.size - 1)
  have hsz : 0 < xs.size := by simpa using hne
  refine h h' tk _ t hk ?_ fun a ha => ?_
  · rw [numAt_eq]; exact PySem.getD_mem (by rw [List.length_map, Array.length_toList]; omega)
  · obtain ⟨j, hj, rfl⟩ := mem_getD ha
    rw [List.length_map, Array.length_toList] at hj
    rw [← numAt_eq]; exact h2 j (by omega)
theorem cr_maxT {X : Cx} (hc : X.calm = true) : CallR X (.builtin "max") (rMaxT X.K) := by
  intro pins s σ H vs us Q I r h
  obtain ⟨a, ns, rfl, hs, hne, q⟩ := h
  obtain ⟨its, rv, hl, _⟩ := I.tuple hs
  rw [Vals.ref1 r]
  exact max_rawT (I.ok.hd hc) hl rv.ints hne fun h' tk m t' hk h1 h2 => ⟨.int _, H, I.kept hk, ⟨_, rfl⟩, q m h1 h2⟩
end TL

set_option maxHeartbeats 1000000
/-! TLz: list(zip(x, y)) of two tuples: the pairs are kept. -/
namespace TLZ
open PySem PySem.Spec L2
open PyProof.Rows hiding St
section
variable {prog : Program} {w : World} {A : Around} {E : Value → Shared → Prop} {s : Shared}
theorem next_item_held {z TI TO T i1 i2 l1 l2 : Addr} {f : Bool} {oT : Obj} {k1 k2 : Nat} {xs ys : Array Value} {x y : Value} {Q : Value → Shared → Prop} (D : ZipApart z TI TO i1 i2 l1 l2)
    (hz : IsZipHeld s.heap z TI TO T f) (hT : s.heap.get? T = some oT) (hTI : IsPair s.heap TI (.ref i1) (.ref i2))
    (h1 : s.heap.IsTupleIter i1 l1 k1) (h2 : s.heap.IsTupleIter i2 l2 k2) (hl1 : s.heap.IsTuple l1 xs) (hl2 : s.heap.IsTuple l2 ys) (hx : xs[k1]? = some x) (hy : ys[k2]? = some y)
    (hQ : ∀ h', IsZipHeld h' z TI TO T true → h'.IsTupleIter i1 l1 (k1 + 1) → h'.IsTupleIter i2 l2 (k2 + 1) → IsPair h' s.heap.objs.size x y → h'.objs.size = s.heap.objs.size + 1 →
      (∀ c o, c ≠ z → c ≠ i1 → c ≠ i2 → s.heap.get? c = some o → h'.get? c = some o) → Q (.ref s.heap.objs.size) { s with heap := h' }) :
    wpAny (model prog w) A (Builtin.«zip.__next__» ⟨[.ref z], []⟩) (fun fin s' => ∃ v, fin = .done (.ret v) ∧ Q v s') E s := by
  show wpAny _ _ (field (.ref z) 2 >>= _) _ _ _
  refine wpAny_bind (wpAny_field hz rfl (x := .bool false) rfl ?_)
  show wpAny _ _ (field (.ref z) 3 >>= _) _ _ _
  refine wpAny_bind (wpAny_field hz rfl (x := .ref TI) rfl ?_)
  refine wpAny_bind (wpAny_seqItems hTI rfl ?_)
  show wpAny _ _ (Builtin.SmallTypes.ownedTupleIsFree (.ref z) >>= _) _ _ _
  refine wpAny_bind (wpAny_tupleHeld_zip hz hT fun h₁ hz₁ hs₁ => ?_)
  simp only [Bool.false_eq_true, if_false]
  refine wpAny_bind ?_
  rw [← Array.forIn_toList]
  simp only [List.forIn_cons, List.forIn_nil]
  refine wpAny_bind (wpAny_bind (wpAny_holding ?_))
  show wpAny _ _ (Builtin.SmallTypes.nextOf (.ref i1) >>= _) _ _ _
  refine wpAny_bind (RZ.nextOf_tuple_item (s := { s with heap := h₁ }) (h1.extBut hs₁.extBut D.i1z) (hl1.extBut hs₁.extBut D.l1z) hx fun h₂ h1₂ hs₂ => wpAny_pure ?_)
  refine wpAny_pure ?_
  refine wpAny_bind (wpAny_bind (wpAny_holding ?_))
  show wpAny _ _ (Builtin.SmallTypes.nextOf (.ref i2) >>= _) _ _ _
  refine wpAny_bind (RZ.nextOf_tuple_item (s := { s with heap := h₂ }) ((h2.extBut hs₁.extBut D.i2z).extBut hs₂.extBut D.i12.symm) ((hl2.extBut hs₁.extBut D.l2z).extBut hs₂.extBut D.l2i1) hy fun h₃ h2₃ hs₃ => wpAny_pure ?_)
  refine wpAny_pure (wpAny_pure ?_)
  show wpAny _ _ (newTuple [x, y] >>= _) _ _ _
  refine wpAny_bind (wpAny_newTuple ?_)
  have hsz : h₃.objs.size = s.heap.objs.size := by rw [hs₃.1, hs₂.1, hs₁.1]
  have hz₃ : IsZipHeld h₃ z TI TO T true := hs₃.extBut _ _ D.i2z.symm (hs₂.extBut _ _ D.i1z.symm hz₁)
  have hk : ∀ c o, c ≠ z → c ≠ i1 → c ≠ i2 → s.heap.get? c = some o → h₃.get? c = some o := fun c o c1 c2 c3 e => hs₃.extBut _ _ c3 (hs₂.extBut _ _ c2 (hs₁.extBut _ _ c1 e))
  have h1₃ : h₃.IsTupleIter i1 l1 (k1 + 1) := h1₂.extBut hs₃.extBut D.i12
  refine wpAny_pure ⟨_, rfl, ?_⟩
  show Q (.ref h₃.objs.size) _
  have hp : IsPair (h₃.push { cls := .type "tuple", data := .seq #[x, y] }) h₃.objs.size x y := Heap.get?_push_size _ rfl
  have hz4 : (h₃.push { cls := .type "tuple", data := .seq #[x, y] }).objs.size = h₃.objs.size + 1 := Heap.size_push ..
  rw [hsz] at hp hz4 ⊢
  exact hQ _ (Heap.get?_push_of_some _ hz₃) (h1₃.at fun o e => Heap.get?_push_of_some _ e) (h2₃.at fun o e => Heap.get?_push_of_some _ e) hp hz4 fun c o c1 c2 c3 e => Heap.get?_push_of_some _ (hk c o c1 c2 c3 e)
theorem next_end_held {z TI TO T i1 i2 l1 l2 : Addr} {f : Bool} {oT : Obj} {k1 k2 : Nat} {xs ys : Array Value} {Q : Fin → Shared → Prop} (hh : A.handled = none) (D : ZipApart z TI TO i1 i2 l1 l2)
    (hz : IsZipHeld s.heap z TI TO T f) (hT : s.heap.get? T = some oT) (hTI : IsPair s.heap TI (.ref i1) (.ref i2))
    (h1 : s.heap.IsTupleIter i1 l1 k1) (h2 : s.heap.IsTupleIter i2 l2 k2) (hl1 : s.heap.IsTuple l1 xs) (hl2 : s.heap.IsTuple l2 ys) (hend : xs[k1]? = none ∨ ys[k2]? = none)
    (hE : ∀ h' e, (∀ c o, c ≠ z → c ≠ i1 → c ≠ i2 → s.heap.get? c = some o → h'.get? c = some o) → (∃ o, h'.get? e = some o ∧ o.cls = .type "StopIteration") → E (.ref e) { s with heap := h' }) :
    wpAny (model prog w) A (Builtin.«zip.__next__» ⟨[.ref z], []⟩) Q E s := by
  show wpAny _ _ (field (.ref z) 2 >>= _) _ _ _
  refine wpAny_bind (wpAny_field hz rfl (x := .bool false) rfl ?_)
  show wpAny _ _ (field (.ref z) 3 >>= _) _ _ _
  refine wpAny_bind (wpAny_field hz rfl (x := .ref TI) rfl ?_)
  refine wpAny_bind (wpAny_seqItems hTI rfl ?_)
  show wpAny _ _ (Builtin.SmallTypes.ownedTupleIsFree (.ref z) >>= _) _ _ _
  refine wpAny_bind (wpAny_tupleHeld_zip hz hT fun h₁ hz₁ hs₁ => ?_)
  simp only [Bool.false_eq_true, if_false]
  refine wpAny_bind ?_
  rw [← Array.forIn_toList]
  simp only [List.forIn_cons, List.forIn_nil]
  refine wpAny_bind (wpAny_bind (wpAny_holding ?_))
  show wpAny _ _ (Builtin.SmallTypes.nextOf (.ref i1) >>= _) _ _ _
  cases hx : xs[k1]? with
  | none =>
    refine wpAny_bind (RZ.nextOf_tuple_end (s := { s with heap := h₁ }) hh (h1.extBut hs₁.extBut D.i1z) (hl1.extBut hs₁.extBut D.l1z) hx fun h₂ e hs₂ he => ?_)
    exact hE h₂ e (fun c o c1 c2 _ x => hs₂ _ _ c2 (hs₁.extBut _ _ c1 x)) he
  | some x =>
    have hy : ys[k2]? = none := by rcases hend with h | h; rw [hx] at h; cases h; exact h
    refine wpAny_bind (RZ.nextOf_tuple_item (s := { s with heap := h₁ }) (h1.extBut hs₁.extBut D.i1z) (hl1.extBut hs₁.extBut D.l1z) hx fun h₂ h1₂ hs₂ => wpAny_pure ?_)
    refine wpAny_pure ?_
    refine wpAny_bind (wpAny_bind (wpAny_holding ?_))
    show wpAny _ _ (Builtin.SmallTypes.nextOf (.ref i2) >>= _) _ _ _
    refine wpAny_bind (RZ.nextOf_tuple_end (s := { s with heap := h₂ }) hh ((h2.extBut hs₁.extBut D.i2z).extBut hs₂.extBut D.i12.symm) ((hl2.extBut hs₁.extBut D.l2z).extBut hs₂.extBut D.l2i1) hy fun h₃ e hs₃ he => ?_)
    exact hE h₃ e (fun c o c1 c2 c3 x => hs₃ _ _ c3 (hs₂.extBut _ _ c2 (hs₁.extBut _ _ c1 x))) he
theorem pyNext_item_held {z TI TO T i1 i2 l1 l2 : Addr} {f : Bool} {oT : Obj} {k1 k2 : Nat} {xs ys : Array Value} {x y : Value} {Q : Option Value → Shared → Prop} (D : ZipApart z TI TO i1 i2 l1 l2)
    (hz : IsZipHeld s.heap z TI TO T f) (hT : s.heap.get? T = some oT) (hTI : IsPair s.heap TI (.ref i1) (.ref i2))
    (h1 : s.heap.IsTupleIter i1 l1 k1) (h2 : s.heap.IsTupleIter i2 l2 k2) (hl1 : s.heap.IsTuple l1 xs) (hl2 : s.heap.IsTuple l2 ys) (hx : xs[k1]? = some x) (hy : ys[k2]? = some y)
    (hQ : ∀ h', IsZipHeld h' z TI TO T true → h'.IsTupleIter i1 l1 (k1 + 1) → h'.IsTupleIter i2 l2 (k2 + 1) → IsPair h' s.heap.objs.size x y → h'.objs.size = s.heap.objs.size + 1 →
      (∀ c o, c ≠ z → c ≠ i1 → c ≠ i2 → s.heap.get? c = some o → h'.get? c = some o) → Q (some (.ref s.heap.objs.size)) { s with heap := h' }) :
    wpAny (model prog w) A (pyNext (.ref z)) Q E s := by
  have hTy : s.TypeIs (.ref z) "zip" := ⟨_, hz, rfl⟩
  unfold pyNext
  exact wpAny_bind (wpAny_attempt (wpAny_callSpecial?_slot (name := Str.ofString "__next__") hTy F.slot_zip_next
    (wpAny_call_entry F.slot_zip_next hTy F.entry_zip_next
      (next_item_held D hz hT hTI h1 h2 hl1 hl2 hx hy fun h' a1 a3 a4 a5 a6 a7 => wpAny_pure (hQ h' a1 a3 a4 a5 a6 a7)) (F.args_zip_next_1 _))))
theorem pyNext_end_held {z TI TO T i1 i2 l1 l2 : Addr} {f : Bool} {oT : Obj} {k1 k2 : Nat} {xs ys : Array Value} {Q : Option Value → Shared → Prop} (hh : A.handled = none) (D : ZipApart z TI TO i1 i2 l1 l2)
    (hz : IsZipHeld s.heap z TI TO T f) (hT : s.heap.get? T = some oT) (hTI : IsPair s.heap TI (.ref i1) (.ref i2))
    (h1 : s.heap.IsTupleIter i1 l1 k1) (h2 : s.heap.IsTupleIter i2 l2 k2) (hl1 : s.heap.IsTuple l1 xs) (hl2 : s.heap.IsTuple l2 ys) (hend : xs[k1]? = none ∨ ys[k2]? = none)
    (hQ : ∀ h', (∀ c o, c ≠ z → c ≠ i1 → c ≠ i2 → s.heap.get? c = some o → h'.get? c = some o) → Q none { s with heap := h' }) : wpAny (model prog w) A (pyNext (.ref z)) Q E s := by
  have hTy : s.TypeIs (.ref z) "zip" := ⟨_, hz, rfl⟩
  unfold pyNext
  refine wpAny_bind (wpAny_attempt (wpAny_callSpecial?_slot (name := Str.ofString "__next__") hTy F.slot_zip_next
    (wpAny_call_entry F.slot_zip_next hTy F.entry_zip_next (next_end_held hh D hz hT hTI h1 h2 hl1 hl2 hend fun h' e hk he => ?_) (F.args_zip_next_1 _))))
  obtain ⟨o, ho, hc⟩ := he
  refine wpAny_bind (wpAny_isInstance (T := "StopIteration") (b := true) ⟨o, ho, hc⟩ isSubtype_stop ?_)
  exact wpAny_pure (hQ _ hk)

/-! ### its states -/
structure ZSt (h : Heap) (z TI TO i1 i2 l1 l2 S : Addr) (i : Nat) : Prop where
  pair : IsPair h TI (.ref i1) (.ref i2)
  it1 : h.IsTupleIter i1 l1 i
  it2 : h.IsTupleIter i2 l2 i
  out : (IsZip h z TI TO .none ∧ ∃ x y, IsPair h TO x y) ∨ ∃ T f oT, IsZipHeld h z TI TO T f ∧ h.get? T = some oT ∧ T ≠ z ∧ T ≠ i1 ∧ T ≠ i2 ∧ T ≠ S
theorem ZSt.keep {h h' : Heap} {z TI TO i1 i2 l1 l2 S : Addr} {i : Nat} (x : ZSt h z TI TO i1 i2 l1 l2 S i) (hk : ∀ b o, b ≠ S → h.get? b = some o → h'.get? b = some o) (hz : z ≠ S) (h1 : TI ≠ S) (h2 : TO ≠ S) (h3 : i1 ≠ S) (h4 : i2 ≠ S) : ZSt h' z TI TO i1 i2 l1 l2 S i :=
  ⟨hk _ _ h1 x.pair, x.it1.at fun o e => hk _ _ h3 e, x.it2.at fun o e => hk _ _ h4 e, x.out.elim (fun ⟨a, p, q, b⟩ => .inl ⟨hk _ _ hz a, p, q, hk _ _ h2 b⟩) fun ⟨T, f, oT, a, b, c1, c2, c3, c4⟩ => .inr ⟨T, f, oT, hk _ _ hz a, hk _ _ c4 b, c1, c2, c3, c4⟩⟩
theorem zst_item {z TI TO i1 i2 l1 l2 S : Addr} {i : Nat} {xs ys : Array Value} {x y : Value} {Q : Option Value → Shared → Prop} (D : ZipApart z TI TO i1 i2 l1 l2) (st : ZSt s.heap z TI TO i1 i2 l1 l2 S i) (hS : S < s.heap.objs.size)
    (hl1 : s.heap.IsTuple l1 xs) (hl2 : s.heap.IsTuple l2 ys) (hx : xs[i]? = some x) (hy : ys[i]? = some y)
    (hQ : ∀ h', ZSt h' z TI TO i1 i2 l1 l2 S (i + 1) → IsPair h' s.heap.objs.size x y → h'.objs.size = s.heap.objs.size + 1 →
      (∀ c o, c ≠ z → c ≠ TO → c ≠ i1 → c ≠ i2 → s.heap.get? c = some o → h'.get? c = some o) → Q (some (.ref s.heap.objs.size)) { s with heap := h' }) :
    wpAny (model prog w) A (pyNext (.ref z)) Q E s := by
  obtain ⟨hp, h1, h2, ho⟩ := st
  have hi1 : i1 < s.heap.objs.size := let ⟨_, e, _⟩ := h1; Heap.lt_size e
  have hi2 : i2 < s.heap.objs.size := let ⟨_, e, _⟩ := h2; Heap.lt_size e
  rcases ho with ⟨hz, p, q, hTO⟩ | ⟨T, f, oT, hz, hT, n1, n2, n3, n4⟩
  · have hzl : z < s.heap.objs.size := Heap.lt_size hz
    refine RZ.pyNext_zipT_item D hz hp hTO h1 h2 hl1 hl2 hx hy fun h' a1 a2 a3 a4 a5 a6 a7 => hQ h' ⟨a7 _ _ D.TIz D.TITO D.TIi1 D.TIi2 hp, a3, a4, .inr ⟨_, false, _, a1, a5, Nat.ne_of_gt hzl, Nat.ne_of_gt hi1, Nat.ne_of_gt hi2, Nat.ne_of_gt hS⟩⟩ a5 a6 a7
  · refine pyNext_item_held D hz hT hp h1 h2 hl1 hl2 hx hy fun h' a1 a3 a4 a5 a6 a7 => hQ h' ⟨a7 _ _ D.TIz D.TIi1 D.TIi2 hp, a3, a4, .inr ⟨T, true, oT, a1, a7 _ _ n1 n2 n3 hT, n1, n2, n3, n4⟩⟩ a5 a6 fun c o c1 _ c3 c4 e => a7 c o c1 c3 c4 e
theorem zst_done {z TI TO i1 i2 l1 l2 S : Addr} {i : Nat} {xs ys : Array Value} {Q : Option Value → Shared → Prop} (hh : A.handled = none) (D : ZipApart z TI TO i1 i2 l1 l2) (st : ZSt s.heap z TI TO i1 i2 l1 l2 S i)
    (hl1 : s.heap.IsTuple l1 xs) (hl2 : s.heap.IsTuple l2 ys) (hend : xs[i]? = none ∨ ys[i]? = none)
    (hQ : ∀ h', (∀ c o, c ≠ z → c ≠ TO → c ≠ i1 → c ≠ i2 → s.heap.get? c = some o → h'.get? c = some o) → Q none { s with heap := h' }) : wpAny (model prog w) A (pyNext (.ref z)) Q E s := by
  obtain ⟨hp, h1, h2, ho⟩ := st
  rcases ho with ⟨hz, p, q, hTO⟩ | ⟨T, f, oT, hz, hT, n1, n2, n3, n4⟩
  · exact RZ.pyNext_zipT_end hh D hz hp hTO h1 h2 hl1 hl2 hend hQ
  · exact pyNext_end_held hh D hz hT hp h1 h2 hl1 hl2 hend fun h' k => hQ h' fun c o c1 _ c3 c4 e => k c o c1 c3 c4 e
end
/-- the pairs so far -/
structure ZG (xs ys : Array Value) (lo : Addr) (h : Heap) (as : List Addr) : Prop where
  rise : as.Pairwise (· < ·)
  above : ∀ a ∈ as, lo < a
  pairs : ∀ (j : Nat) (a : Addr), as[j]? = some a → ∃ x y, xs[j]? = some x ∧ ys[j]? = some y ∧ IsPair h a x y
theorem ZG.there {xs ys : Array Value} {lo : Addr} {h : Heap} {as : List Addr} (g : ZG xs ys lo h as) {a : Addr} (ha : a ∈ as) : a < h.objs.size := by
  obtain ⟨j, hj⟩ := List.mem_iff_getElem?.mp ha
  obtain ⟨_, _, _, _, e⟩ := g.pairs j a hj
  exact Heap.lt_size e

structure ZLow (z TI TO i1 i2 l1 l2 S : Addr) : Prop where
  pz : z < S
  pTI : TI < S
  pTO : TO < S
  p1 : i1 < S
  p2 : i2 < S
  q1 : l1 < S
  q2 : l2 < S
  n1 : l1 ≠ TO
  n2 : l2 ≠ TO
  n3 : l1 ≠ i1
  n4 : l2 ≠ i2
  n5 : l1 ≠ i2
  n6 : l2 ≠ i1
  n7 : l1 ≠ z
  n8 : l2 ≠ z
section
variable {prog : Program} {w : World} {A : Around} {s : Shared} {R : Result → Shared → Prop} {z TI TO i1 i2 l1 l2 S : Addr} {xs ys : Array Value} {n : Nat}
theorem zip_loop (hh : A.handled = none) (D : ZipApart z TI TO i1 i2 l1 l2) (Lw : ZLow z TI TO i1 i2 l1 l2 S) (hn : n ≤ sizeLine) (nx : n ≤ xs.size) (ny : n ≤ ys.size) (nm : n = xs.size ∨ n = ys.size) (res : Value) {h₁ : Heap}
    (hR : ∀ h' tk acc c as, (∀ b o, b ≠ S → b ≠ z → b ≠ TO → b ≠ i1 → b ≠ i2 → h₁.get? b = some o → h'.get? b = some o) → h'.get? S = some { cls := .type "list", dict := none, data := .seq acc c, slots := #[] } → as.length = n → ZG xs ys S h' as →
      acc.toList = as.map Value.ref → R (.ok (.ret res)) { s with heap := h', toks := tk }) :
    ∀ (k i : Nat) (h : Heap) (tk c : Nat) (acc : Array Value) (as : List Addr), n - i = k → i ≤ n → ZSt h z TI TO i1 i2 l1 l2 S i → h.IsTuple l1 xs → h.IsTuple l2 ys → (∀ b o, b ≠ S → b ≠ z → b ≠ TO → b ≠ i1 → b ≠ i2 → h₁.get? b = some o → h.get? b = some o) →
      h.get? S = some { cls := .type "list", dict := none, data := .seq acc c, slots := #[] } → acc.toList = as.map Value.ref → as.length = i → ZG xs ys S h as →
      codeAny (model prog w) A (.builtin "list.extend.loop" ⟨[.ref S, .ref z, res], []⟩) R { s with heap := h, toks := tk } := by
  have Sz : S ≠ z := Nat.ne_of_gt Lw.pz
  have ST : S ≠ TO := Nat.ne_of_gt Lw.pTO
  have S1 : S ≠ i1 := Nat.ne_of_gt Lw.p1
  have S2 : S ≠ i2 := Nat.ne_of_gt Lw.p2
  have hi : ∀ a, S < a → a ≠ z ∧ a ≠ TO ∧ a ≠ i1 ∧ a ≠ i2 := fun a ha => ⟨Nat.ne_of_gt (Nat.lt_trans Lw.pz ha), Nat.ne_of_gt (Nat.lt_trans Lw.pTO ha), Nat.ne_of_gt (Nat.lt_trans Lw.p1 ha), Nat.ne_of_gt (Nat.lt_trans Lw.p2 ha)⟩
  intro k
  induction k with
  | zero =>
    intro i h tk c acc as hk hin st ht1 ht2 hkeep hS hacc hal hG
    have hin : i = n := by omega
    refine codeAny_builtin PySem.F.entry_extend_loop ?_
    rw [Around.under_plainId PySem.F.plain_extend_loop _]
    show wpAny _ A.in1 (pyNext (.ref z) >>= _) _ _ _
    refine wpAny_bind (zst_done (s := { s with heap := h, toks := tk }) (A := A.in1) hh D st ht1 ht2 (nm.elim (fun e => .inl (Array.getElem?_eq_none (by omega))) fun e => .inr (Array.getElem?_eq_none (by omega))) fun h' he => ?_)
    refine wpAny_pure (hR h' tk acc c as (fun b o h1 h2 h3 h4 h5 e => he b o h2 h3 h4 h5 (hkeep b o h1 h2 h3 h4 h5 e)) (he S _ Sz ST S1 S2 hS) (by omega) ⟨hG.rise, hG.above, fun j a hj => ?_⟩ hacc)
    obtain ⟨x, y, e1, e2, e3⟩ := hG.pairs j a hj
    obtain ⟨a1, a2, a3, a4⟩ := hi a (hG.above a (List.mem_of_getElem? hj))
    exact ⟨x, y, e1, e2, he a _ a1 a2 a3 a4 e3⟩
  | succ k ih =>
    intro i h tk c acc as hk hin st ht1 ht2 hkeep hS hacc hal hG
    have hlt : i < n := by omega
    obtain ⟨x, hx⟩ : ∃ p, xs[i]? = some p := ⟨xs[i], Array.getElem?_eq_getElem (by omega)⟩
    obtain ⟨y, hy⟩ : ∃ p, ys[i]? = some p := ⟨ys[i], Array.getElem?_eq_getElem (by omega)⟩
    have hsz : acc.size = i := by rw [← Array.length_toList, hacc, List.length_map, hal]
    refine codeAny_builtin PySem.F.entry_extend_loop ?_
    rw [Around.under_plainId PySem.F.plain_extend_loop _]
    show wpAny _ A.in1 (pyNext (.ref z) >>= _) _ _ _
    refine wpAny_bind (zst_item (s := { s with heap := h, toks := tk }) D st (Heap.lt_size hS) ht1 ht2 hx hy fun h' st' ht hz hkp => ?_)
    dsimp only at ht hz hkp ⊢
    have hS' := hkp S _ Sz ST S1 S2 hS
    have up : ∀ b o, b ≠ S → h'.get? b = some o → (h'.update S (Obj.mapSeq (·.push (Value.ref h.objs.size)))).get? b = some o := fun b o hb e => (Heap.get?_update_other _ _ (Ne.symm hb)).trans e
    have hSl : S < h.objs.size := Heap.lt_size hS
    have tup : ∀ l zs, l < S → l ≠ z → l ≠ TO → l ≠ i1 → l ≠ i2 → h.IsTuple l zs → (h'.update S (Obj.mapSeq (·.push (Value.ref h.objs.size)))).IsTuple l zs := fun l zs a0 a1 a2 a3 a4 ⟨o, e, r⟩ => ⟨o, up _ _ (Nat.ne_of_lt a0) (hkp _ _ a1 a2 a3 a4 e), r⟩
    show wpAny _ A.in1 (updateSeq S (·.push (Value.ref h.objs.size)) >>= _) _ _ _
    refine wpAny_bind ?_
    refine wpAny_updateSeq hS' rfl (wpAny_pure ⟨plainId_quiet PySem.F.plain_extend_loop _, ih (i + 1) _ tk _ (acc.push (Value.ref h.objs.size)) (as ++ [h.objs.size]) (by omega) hlt
      (st'.keep up (Ne.symm Sz) (Nat.ne_of_lt Lw.pTI) (Ne.symm ST) (Ne.symm S1) (Ne.symm S2)) (tup l1 xs Lw.q1 Lw.n7 Lw.n1 Lw.n3 Lw.n5 ht1) (tup l2 ys Lw.q2 Lw.n8 Lw.n2 Lw.n6 Lw.n4 ht2)
      (fun b o h1 h2 h3 h4 h5 e => up b o h1 (hkp b o h2 h3 h4 h5 (hkeep b o h1 h2 h3 h4 h5 e))) (Heap.get?_update_self _ hS' rfl) (by rw [Array.toList_push, hacc, List.map_append]; rfl) (by rw [List.length_append, hal]; rfl) ⟨?_, ?_, ?_⟩⟩) (by rw [hsz]; omega) (by show (acc.push (Value.ref h.objs.size)).size ≤ sizeLine + 1; rw [Array.size_push, hsz]; omega)
    · refine List.pairwise_append.mpr ⟨hG.rise, List.pairwise_singleton _ _, fun a ha b hb => ?_⟩
      rw [List.mem_singleton.mp hb]
      exact hG.there ha
    · intro a ha
      rcases List.mem_append.mp ha with ha | ha
      · exact hG.above a ha
      · rw [List.mem_singleton.mp ha]; exact hSl
    · intro j b hj
      rcases Nat.lt_trichotomy j as.length with h1 | h1 | h1
      · rw [List.getElem?_append_left h1] at hj
        obtain ⟨x', y', e1, e2, e3⟩ := hG.pairs j b hj
        have hb := hG.above b (List.mem_of_getElem? hj)
        obtain ⟨a1, a2, a3, a4⟩ := hi b hb
        exact ⟨x', y', e1, e2, up b _ (Nat.ne_of_gt hb) (hkp b _ a1 a2 a3 a4 e3)⟩
      · subst h1
        have hb : h.objs.size = b := by simpa using hj
        subst hb
        exact ⟨x, y, by rw [hal]; exact hx, by rw [hal]; exact hy, up _ _ (Nat.ne_of_gt hSl) ht⟩
      · have hnone : (as ++ [h.objs.size])[j]? = none := List.getElem?_eq_none (by rw [List.length_append, List.length_singleton]; omega)
        rw [hnone] at hj; cases hj
end
theorem zip_no_len : typeLookup (.type "zip") "__len__" = pure none := am_miss_of_fast (by decide +kernel)
theorem zip_no_hint : typeLookup (.type "zip") "__length_hint__" = pure none := am_miss_of_fast (by decide +kernel)
section
variable {prog : Program} {w : World} {A : Around} {E : Value → Shared → Prop} {s : Shared} {z TI TO i1 i2 l1 l2 : Addr} {xs ys : Array Value} {n : Nat}
theorem hint_zip {r : Addr} (hT : s.TypeIs (.ref r) "zip") {Q : Bool → Shared → Prop} (h : Q true s) : wpAny (model prog w) A (Builtin.List.listLengthHint (.ref r)) Q E s := by
  unfold Builtin.List.listLengthHint
  refine wpAny_bind (wpAny_specialOf hT zip_no_len ?_)
  refine wpAny_bind (wpAny_specialOf hT zip_no_hint ?_)
  exact wpAny_pure h
theorem zip_extend {S : Addr} {R : Result → Shared → Prop} (hh : A.handled = none) (D : ZipApart z TI TO i1 i2 l1 l2) (Lw : ZLow z TI TO i1 i2 l1 l2 S) (hn : n ≤ sizeLine) (nx : n ≤ xs.size) (ny : n ≤ ys.size) (nm : n = xs.size ∨ n = ys.size) (res : Value) (c₀ : Nat)
    (hz : IsZip s.heap z TI TO .none) (hTI : IsPair s.heap TI (.ref i1) (.ref i2)) (hTO : ∃ x y, IsPair s.heap TO x y) (h1 : s.heap.IsTupleIter i1 l1 0) (h2 : s.heap.IsTupleIter i2 l2 0) (hl1 : s.heap.IsTuple l1 xs) (hl2 : s.heap.IsTuple l2 ys)
    (hS : s.heap.get? S = some { cls := .type "list", data := .seq #[] c₀ })
    (hR : ∀ h' tk acc c as, (∀ b o, b ≠ S → b ≠ z → b ≠ TO → b ≠ i1 → b ≠ i2 → s.heap.get? b = some o → h'.get? b = some o) → h'.get? S = some { cls := .type "list", dict := none, data := .seq acc c, slots := #[] } → as.length = n → ZG xs ys S h' as →
      acc.toList = as.map Value.ref → R (.ok (.ret res)) { s with heap := h', toks := tk }) :
    wpAny (model prog w) A.in1 (Builtin.List.listExtendWith (.ref S) (.ref z) res)
      (fun fin s' => match fin with | .done f => R (.ok f) s' | .again c' => c'.quiet = true ∧ codeAny (model prog w) A c' R s') (fun e s' => R (.error e) s') s := by
  have Sz : z ≠ S := Nat.ne_of_lt Lw.pz
  have hT : s.TypeIs (.ref z) "zip" := ⟨_, hz, rfl⟩
  have key : ∀ (h : Heap) (c₁ tk : Nat), (∀ b o, b ≠ S → s.heap.get? b = some o → h.get? b = some o) →
      h.get? S = some { cls := .type "list", data := .seq #[] c₁ } → codeAny (model prog w) A (.builtin "list.extend.loop" ⟨[.ref S, .ref z, res], []⟩) R { s with heap := h, toks := tk } := by
    intro h c₁ tk hk hS₁
    have tup : ∀ l zs, l < S → s.heap.IsTuple l zs → h.IsTuple l zs := fun l zs a0 ⟨o, e, r⟩ => ⟨o, hk _ _ (Nat.ne_of_lt a0) e, r⟩
    obtain ⟨x, y, hTO⟩ := hTO
    refine zip_loop (s := s) (h₁ := s.heap) hh D Lw hn nx ny nm res hR n 0 h tk c₁ #[] [] (Nat.sub_zero _) (Nat.zero_le _)
      ⟨hk _ _ (Nat.ne_of_lt Lw.pTI) hTI, h1.at fun o e => hk _ _ (Nat.ne_of_lt Lw.p1) e, h2.at fun o e => hk _ _ (Nat.ne_of_lt Lw.p2) e, .inl ⟨hk _ _ Sz hz, x, y, hk _ _ (Nat.ne_of_lt Lw.pTO) hTO⟩⟩
      (tup l1 xs Lw.q1 hl1) (tup l2 ys Lw.q2 hl2) (fun b o hb _ _ _ _ e => hk b o hb e) hS₁ rfl rfl ⟨List.Pairwise.nil, (fun _ ha => nomatch ha), (fun j a hj => by simp at hj)⟩
  unfold Builtin.List.listExtendWith
  refine wpAny_bind (wpAny_typeOf (T := "zip") hT ?_)
  have h1 : Builtin.List.listSameRef (.ref S) (.ref z) = false := by simp [Builtin.List.listSameRef, Ne.symm Sz]
  have h2 : (Value.type "zip" == Value.type "list") = false := by decide
  have h3 : (Value.type "zip" == Value.type "tuple") = false := by decide
  simp only [h1, h2, h3, Bool.or_false, Bool.false_eq_true, if_false]
  refine wpAny_bind (wpAny_pyIter_zip hz ?_)
  refine wpAny_bind (wpAny_holding (hint_zip hT ?_))
  refine wpAny_ite_split (fun _ => ?_) (fun hab => absurd rfl hab)
  refine wpAny_bind (wpAny_rule ?_)
  refine wpAny_bind ?_
  show wpAny _ _ (updateSeq S (·.push .none) >>= fun _ => updateSeq S (·.pop)) _ _ _
  refine wpAny_bind (wpAny_updateSeq hS rfl ?_)
  have hS₂ := Heap.get?_update_self (Obj.mapSeq (·.push Value.none)) hS rfl
  refine wpAny_updateSeq (hz := by seq_fits) hS₂ rfl ?_
  have hS₃ := Heap.get?_update_self (Obj.mapSeq (·.pop)) hS₂ rfl
  refine wpAny_pure ⟨plainId_quiet PySem.F.plain_extend_loop _, key _ _ _ (fun b o hb e => ?_) hS₃⟩
  exact (Heap.get?_update_other _ _ (Ne.symm hb)).trans ((Heap.get?_update_other _ _ (Ne.symm hb)).trans e)
theorem zip_init {S : Addr} {R : Result → Shared → Prop} (hh : A.handled = none) (D : ZipApart z TI TO i1 i2 l1 l2) (Lw : ZLow z TI TO i1 i2 l1 l2 S) (hn : n ≤ sizeLine) (nx : n ≤ xs.size) (ny : n ≤ ys.size) (nm : n = xs.size ∨ n = ys.size)
    (hz : IsZip s.heap z TI TO .none) (hTI : IsPair s.heap TI (.ref i1) (.ref i2)) (hTO : ∃ x y, IsPair s.heap TO x y) (h1 : s.heap.IsTupleIter i1 l1 0) (h2 : s.heap.IsTupleIter i2 l2 0) (hl1 : s.heap.IsTuple l1 xs) (hl2 : s.heap.IsTuple l2 ys)
    (hS : s.heap.get? S = some { cls := .type "list", data := .seq #[] })
    (hR : ∀ h' tk acc c as, (∀ b o, b ≠ S → b ≠ z → b ≠ TO → b ≠ i1 → b ≠ i2 → s.heap.get? b = some o → h'.get? b = some o) → h'.get? S = some { cls := .type "list", dict := none, data := .seq acc c, slots := #[] } → as.length = n → ZG xs ys S h' as →
      acc.toList = as.map Value.ref → R (.ok (.ret .none)) { s with heap := h', toks := tk }) :
    wpAny (model prog w) A.in1 (Builtin.«list.__init__» ⟨[.ref S, .ref z], []⟩)
      (fun fin s' => match fin with | .done f => R (.ok f) s' | .again c' => c'.quiet = true ∧ codeAny (model prog w) A c' R s') (fun e s' => R (.error e) s') s := by
  show wpAny _ _ (do let old ← Builtin.List.listItems (.ref S); Builtin.List.listUpdate (.ref S) (fun _ => #[]); letGo old.toList.reverse; Builtin.List.listExtendWith (.ref S) (.ref z) .none) _ _ s
  refine wpAny_bind ?_
  unfold Builtin.List.listItems
  refine wpAny_bind (wpAny_seqItems hS rfl (wpAny_pure ?_))
  show wpAny _ _ (updateSeq S (fun _ => #[]) >>= fun _ => letGo (#[] : Array Value).toList.reverse >>= fun _ => Builtin.List.listExtendWith (.ref S) (.ref z) .none) _ _ s
  refine wpAny_bind (wpAny_updateSeq hS rfl ?_)
  have hS₂ := Heap.get?_update_self (Obj.mapSeq (fun _ => (#[] : Array Value))) hS rfl
  have oth : ∀ b o, b ≠ S → s.heap.get? b = some o → (s.heap.update S (Obj.mapSeq (fun _ => (#[] : Array Value)))).get? b = some o :=
    fun b o hb e => (Heap.get?_update_other _ _ (Ne.symm hb)).trans e
  have tup : ∀ l zs, l < S → s.heap.IsTuple l zs → (s.heap.update S (Obj.mapSeq (fun _ => (#[] : Array Value)))).IsTuple l zs := fun l zs a0 ⟨o, e, r⟩ => ⟨o, oth _ _ (Nat.ne_of_lt a0) e, r⟩
  refine wpAny_bind (wpAny_letGo ?_)
  obtain ⟨x, y, hTO⟩ := hTO
  refine zip_extend hh D Lw hn nx ny nm .none _ (oth _ _ (Nat.ne_of_lt Lw.pz) hz) (oth _ _ (Nat.ne_of_lt Lw.pTI) hTI) ⟨x, y, oth _ _ (Nat.ne_of_lt Lw.pTO) hTO⟩ (h1.at fun o e => oth _ _ (Nat.ne_of_lt Lw.p1) e) (h2.at fun o e => oth _ _ (Nat.ne_of_lt Lw.p2) e) (tup l1 xs Lw.q1 hl1) (tup l2 ys Lw.q2 hl2) hS₂ (fun h' tk acc c as hk hS' hl hG hacc => ?_)
  exact hR h' tk acc c as (fun b o b1 b2 b3 b4 b5 e => hk b o b1 b2 b3 b4 b5 (oth b o b1 e)) hS' hl hG hacc
theorem zip_call {Q : Value → Shared → Prop} (hh : A.handled = none) (D : ZipApart z TI TO i1 i2 l1 l2) (Lw : ZLow z TI TO i1 i2 l1 l2 s.heap.objs.size) (hn : n ≤ sizeLine) (nx : n ≤ xs.size) (ny : n ≤ ys.size) (nm : n = xs.size ∨ n = ys.size)
    (hz : IsZip s.heap z TI TO .none) (hTI : IsPair s.heap TI (.ref i1) (.ref i2)) (hTO : ∃ x y, IsPair s.heap TO x y) (h1 : s.heap.IsTupleIter i1 l1 0) (h2 : s.heap.IsTupleIter i2 l2 0) (hl1 : s.heap.IsTuple l1 xs) (hl2 : s.heap.IsTuple l2 ys)
    (hQ : ∀ h' tk acc c as, (∀ b o, b ≠ z → b ≠ TO → b ≠ i1 → b ≠ i2 → s.heap.get? b = some o → h'.get? b = some o) → h'.get? s.heap.objs.size = some { cls := .type "list", dict := none, data := .seq acc c, slots := #[] } → as.length = n → ZG xs ys s.heap.objs.size h' as →
      acc.toList = as.map Value.ref → Q (.ref s.heap.objs.size) { s with heap := h', toks := tk }) :
    wpAny (model prog w) A (call (.type "list") [.ref z]) Q E s := by
  refine callType_codes (Q₁ := fun obj s₁ => obj = .ref s.heap.objs.size ∧ s₁ = { s with heap := s.heap.push { cls := .type "list", data := .seq #[] } }) PySem.F.called_list (PySem.F.typeCall_list_1 _) PySem.F.entry_list_init
    (code_list_new _ ⟨rfl, rfl⟩) fun obj s₁ h₁ => ?_
  obtain ⟨rfl, rfl⟩ := h₁
  have hS : (s.heap.push { cls := .type "list", data := .seq #[] }).get? s.heap.objs.size = some { cls := .type "list", data := .seq #[] } := Heap.get?_push_size _ rfl
  have pu : ∀ b o, s.heap.get? b = some o → (s.heap.push { cls := .type "list", data := .seq #[] }).get? b = some o := fun b o e => Heap.get?_push_of_some _ e
  obtain ⟨x, y, hTO⟩ := hTO
  refine ⟨⟨_, hS, rfl⟩, PySem.F.args_list_init_2 _ _, zip_init (A := A.in1) hh D Lw hn nx ny nm (pu _ _ hz) (pu _ _ hTI) ⟨x, y, pu _ _ hTO⟩ (h1.at fun o e => pu _ _ e) (h2.at fun o e => pu _ _ e) (hl1.push _) (hl2.push _) hS (fun h' tk acc c as hk hS' hl hG hacc => ?_)⟩
  exact ⟨rfl, hQ h' tk acc c as (fun b o b2 b3 b4 b5 e => hk b o (Nat.ne_of_lt (Heap.lt_size e)) b2 b3 b4 b5 (pu b o e)) hS' hl hG hacc⟩
end
end TLZ
namespace TLZ
open PySem PySem.Spec L2
open PyProof.Rows hiding St
def putZ : Hp → List Addr → List (V × V) → Hp
  | H, a :: as, p :: kvs => putZ (upd H a (.tup [p.1, p.2])) as kvs
  | H, _, _ => H
theorem putZ_off {b : Addr} : ∀ (as : List Addr) (kvs : List (V × V)) (H : Hp), b ∉ as → putZ H as kvs b = H b
  | [], _, _, _ => rfl
  | _ :: _, [], _, _ => rfl
  | a :: as, p :: kvs, H, h => by
    show putZ (upd H a (.tup [p.1, p.2])) as kvs b = H b
    rw [putZ_off as kvs _ (fun z => h (List.mem_cons_of_mem _ z)), upd_ne (fun z => h (by rw [z]; exact List.mem_cons_self))]
theorem putZ_at : ∀ (as : List Addr) (kvs : List (V × V)) (H : Hp), as.length = kvs.length → as.Nodup → Paired (fun (t : Addr) (p : V × V) => putZ H as kvs t = some (.tup [p.1, p.2])) as kvs
  | [], [], _, _, _ => .nil
  | [], _ :: _, _, h, _ => by cases h
  | _ :: _, [], _, h, _ => by cases h
  | a :: as, p :: kvs, H, h, hn => by
    have hn' := List.nodup_cons.mp hn
    have ih := putZ_at as kvs (upd H a (.tup [p.1, p.2])) (Nat.succ.inj h) hn'.2
    refine .cons ?_ ih
    show putZ (upd H a (.tup [p.1, p.2])) as kvs a = some (.tup [p.1, p.2])
    rw [putZ_off as kvs _ hn'.1, upd_same]
theorem zip_laid {X : Cx} {pins : List (Addr × Obj)} {σ : L2.St} {H : Hp} {s : Shared} {h' : Heap} {tk : Nat} {us vs : List V} {xs ys : List Value} {acc : Array Value} {c n : Nat} {S : Addr} {as : List Addr} (I : Inv X pins σ H s) (hz : n ≤ sizeLine) (rx : Vals us xs) (ry : Vals vs ys) (hn : (us.zip vs).length = n) (hSs : s.heap.objs.size ≤ S)
    (hk : ∀ b o, s.heap.get? b = some o → h'.get? b = some o) (hS : h'.get? S = some { cls := .type "list", dict := none, data := .seq acc c, slots := #[] }) (hl : as.length = n) (hG : ZG xs.toArray ys.toArray S h' as) (hacc : acc.toList = as.map Value.ref) :
    ∃ H' : Hp, (∀ b o, H b = some o → H' b = some o) ∧ H S = none ∧ (∀ t ∈ as, H t = none) ∧ S ∉ as ∧ H' S = some (.lst (as.map V.ref)) ∧ Paired (fun (t : Addr) (q : V × V) => H' t = some (.tup [q.1, q.2])) as (us.zip vs) ∧ Inv X pins σ H' { s with heap := h', toks := tk } := by
  have hSn : S ∉ as := fun z => Nat.lt_irrefl _ (hG.above _ z)
  have nd : as.Nodup := List.Pairwise.imp (fun {a b} (h : a < b) => Nat.ne_of_lt h) hG.rise
  have new : ∀ t ∈ as, H t = none := fun t ht => I.hok.fresh (Nat.le_trans hSs (Nat.le_of_lt (hG.above t ht)))
  have newS : H S = none := I.hok.fresh hSs
  have atP := putZ_at as (us.zip vs) (upd H S (.lst (as.map V.ref))) (by omega) nd
  have off : ∀ b, b ∉ as → b ≠ S → putZ (upd H S (.lst (as.map V.ref))) as (us.zip vs) b = H b := fun b h1 h2 => by rw [putZ_off as _ _ h1, upd_ne h2]
  have low : ∀ b o, s.heap.get? b = some o → b ∉ as ∧ b ≠ S := fun b o e => ⟨fun z => absurd (Heap.lt_size e) (Nat.not_lt.mpr (Nat.le_trans hSs (Nat.le_of_lt (hG.above b z)))), Nat.ne_of_lt (Nat.lt_of_lt_of_le (Heap.lt_size e) hSs)⟩
  have kp : ∀ b u, H b = some u → (putZ (upd H S (.lst (as.map V.ref))) as (us.zip vs)) b = some u := fun b u e => by
    rw [off b (fun z => by rw [new b z] at e; cases e) (fun z => by rw [z, newS] at e; cases e)]
    exact e
  have eS : putZ (upd H S (.lst (as.map V.ref))) as (us.zip vs) S = some (.lst (as.map V.ref)) := by rw [putZ_off as _ _ hSn, upd_same]
  refine ⟨putZ (upd H S (.lst (as.map V.ref))) as (us.zip vs), kp, newS, new, hSn, eS, atP, ?_⟩
  refine I.call' (ch := []) rfl ⟨fun b o q _ _ _ => hk b o q, fun b o q _ _ _ => ⟨o.slots, hk b o q⟩, fun b o q n _ => ?_, fun b o q _ => ⟨o, hk b o q⟩, fun b xs q => kp b _ q, fun b o u q => kp b _ q, fun b ps q => ⟨#[], by rw [kp b _ q]; simp⟩⟩ (fun b u q => ?_) I.bare fun b z => by simp at z
  · obtain ⟨z1, z2⟩ := low b o q
    rw [off b z1 z2]
    exact n
  · by_cases hb : b ∈ as
    · obtain ⟨j, pk, e1, e2, e3⟩ := LiI.paired_ix atP hb
      rw [e3] at q
      cases q
      obtain ⟨x, y, f1, f2, f3⟩ := hG.pairs j b e1
      obtain ⟨g1, g2⟩ := List.getElem?_zip_eq_some.mp e2
      obtain ⟨u1, k1, k2⟩ := rx.get g1
      obtain ⟨u2, m1, m2⟩ := ry.get g2
      have q1 : x = u1 := Option.some.inj (f1.symm.trans (by simpa using k1))
      have q2 : y = u2 := Option.some.inj (f2.symm.trans (by simpa using m1))
      subst q1 q2
      exact ⟨by show 2 ≤ sizeLine; decide, [x, y], .cons k2 (.cons m2 .nil), ⟨_, f3, rfl, _, rfl⟩⟩
    · by_cases hb2 : b = S
      · rw [hb2] at q ⊢
        rw [eS] at q
        cases q
        refine ⟨by rw [List.length_map]; omega, acc.toList, c, by rw [hacc]; exact LiI.vals_refs as, ?_⟩
        rw [Array.toArray_toList]
        exact hS
      · rw [off b hb hb2] at q
        exact (I.hok b u q).stay (fun d v _ y => hk d v y) (fun d y => kp d _ y) fun d xs y => kp d _ y
def rZipL (K : PySem.W.Frag) : List V → Hp → VK → Prop := fun ws H Q => ∃ (a b : Addr) (us vs : List V), ws = [.ref a, .ref b] ∧ SqT K H a us ∧ SqT K H b vs ∧
  ∀ (H' : Hp) (p : Addr) (ts : List Addr), (∀ b o, H b = some o → H' b = some o) → H p = none → (∀ t ∈ ts, H t = none) → p ∉ ts → H' p = some (.lst (ts.map V.ref)) → Paired (fun (t : Addr) (q : V × V) => H' t = some (.tup [q.1, q.2])) ts (us.zip vs) → Q (.ref p) H'
theorem pe_listZip {X : Cx} {e e2 : Expr} {ta : TA} {p p2 pos2 pos : Pos} (hc : X.calm = true) (hg : Gl X "list") (hm : X.mg "list" = none) (hg2 : Gl X "zip") (hm2 : X.mg "zip" = none) (ha : PA X [e, e2] ta)
    (hs : starEach [e, e2] X.env = (false, eval e X.env) :: starEach [e2] X.env) (hpl : (backTo pos2 (starEach [e2] X.env)).any (·.1) = false)
    (hs0 : starEach [.Call (.Name "zip" p2) [e, e2] [] pos2] X.env = (false, eval (.Call (.Name "zip" p2) [e, e2] [] pos2) X.env) :: starEach [] X.env := by rfl) :
    PE X (.Call (.Name "list" p) [.Call (.Name "zip" p2) [e, e2] [] pos2] [] pos) (fun σ H Q => ta σ H fun ws H1 => rZipL X.K ws H1 Q) := by
  refine ⟨fun pins s σ H Q I hq => ?_⟩
  refine wpAny_Call_Name_kw (ld_blt I hg hm rfl ?_)
  refine PyProof.Rows.callWith_type1 ?_ hs0 rfl
  rw [hs0]
  show wpAny _ _ (spliced ((false, eval (.Call (.Name "zip" p2) [e, e2] [] pos2) X.env) :: backTo pos (starEach [] X.env))) _ _ s
  refine Calls.spliced_cons ?_
  refine Call_ (ld_blt I hg2 hm2 PyProof.Rows.boot_zip (PyProof.Rows.callWith_type1 (thn (ha.run pos2 pins s σ H _ I hq) fun us s1 ⟨ws, H1, I1, r1, q1⟩ => ?_) hs hpl))
  obtain ⟨a, b, xs, ys, ex, hqx, hqy, q⟩ := q1
  subst ex
  cases r1 with
  | cons r rr =>
    cases rr with
    | cons r' rr =>
      cases rr
      cases r
      cases r'
      obtain ⟨its, rv, p1, hzx⟩ := I1.tuple hqx
      obtain ⟨its2, rv2, p2', hzy⟩ := I1.tuple hqy
      obtain ⟨o1, ho1, _⟩ := id p1
      obtain ⟨o2, ho2, _⟩ := id p2'
      have la : a < s1.heap.objs.size := Heap.lt_size ho1
      have lb : b < s1.heap.objs.size := Heap.lt_size ho2
      refine RZ.call_zipT (show s1.heap.IsTuple a its.toArray from p1) (show s1.heap.IsTuple b its2.toArray from p2') fun h' hz hTI hTO h1 h2 hsz hk => ?_
      refine Calls.spliced_nil ?_
      have hlen : its.length = xs.length := rv.length.symm
      have hlen2 : its2.length = ys.length := rv2.length.symm
      have ke : ∀ l zs, s1.heap.IsTuple l zs → h'.IsTuple l zs := fun l zs ⟨o, e, r⟩ => ⟨o, hk _ _ e, r⟩
      have Lw : ZLow (s1.heap.objs.size + 4) (s1.heap.objs.size + 2) (s1.heap.objs.size + 3) s1.heap.objs.size (s1.heap.objs.size + 1) a b h'.objs.size := by
        rw [hsz]
        have L : ∀ {x : Nat} (m : Nat), x < s1.heap.objs.size → x < s1.heap.objs.size + m := fun m h => Nat.lt_of_lt_of_le h (Nat.le_add_right _ _)
        exact ⟨Nat.add_lt_add_left (by decide) _, Nat.add_lt_add_left (by decide) _, Nat.add_lt_add_left (by decide) _, Nat.lt_add_of_pos_right (by decide), Nat.add_lt_add_left (by decide) _, L 5 la, L 5 lb, Nat.ne_of_lt (L 3 la), Nat.ne_of_lt (L 3 lb), Nat.ne_of_lt la, Nat.ne_of_lt (L 1 lb), Nat.ne_of_lt (L 1 la), Nat.ne_of_lt lb, Nat.ne_of_lt (L 4 la), Nat.ne_of_lt (L 4 lb)⟩
      refine zip_call (s := { s1 with heap := h' }) (n := (xs.zip ys).length) (xs := its.toArray) (ys := its2.toArray) (I1.ok.hd hc) (PySem.W.ktu_apart s1.heap.objs.size a b la lb) Lw (by rw [List.length_zip]; omega) (by rw [List.length_zip]; simp; omega) (by rw [List.length_zip]; simp; omega) (by rw [List.length_zip]; simp; omega) hz hTI ⟨_, _, hTO⟩ h1 h2 (ke _ _ p1) (ke _ _ p2') fun h'' tk acc c as hk2 hS hl hG hacc => ?_
      have hk3 : ∀ b o, s1.heap.get? b = some o → h''.get? b = some o := fun b o e => by
        have hb := Heap.lt_size e
        have L : ∀ (m : Nat), b < s1.heap.objs.size + m := fun m => Nat.lt_of_lt_of_le hb (Nat.le_add_right _ _)
        exact hk2 b o (Nat.ne_of_lt (L 4)) (Nat.ne_of_lt (L 3)) (Nat.ne_of_lt hb) (Nat.ne_of_lt (L 1)) (hk b o e)
      have hSs : s1.heap.objs.size ≤ h'.objs.size := by rw [hsz]; exact Nat.le_add_right _ _
      obtain ⟨H', k1, k2, k3, k4, k5, k6, J⟩ := zip_laid (tk := tk) I1 (n := (xs.zip ys).length) (by rw [List.length_zip]; omega) rv rv2 rfl hSs hk3 hS hl hG hacc
      exact ⟨.ref _, H', J, rfl, q H' _ as k1 k2 k3 k4 k5 k6⟩
end TLZ
namespace TL
open PySem PySem.Spec L2
open PyProof.Rows hiding St
/-- list(zip(x, y)) of two tuples -/
@[reducible] def lzipI (a b : IE) : IE := fun ρ S Q E => a ρ S (fun x S1 => b ρ S1 (fun y S2 => match x, y with
  | .tup xs, .tup ys => Q (.lst (zipV xs ys)) S2
  | _, _ => False) E) E
section
variable {X : Cx} {K : PySem.W.Frag} {B : Addr → Prop} {H H' : Hp} {S : Sto} {W : WX} {a b : Expr} {ma mb : IE} {p p2 pos2 pos : Pos}
theorem HR.kept (r : HR K B H S) (k : ∀ b o, H b = some o → H' b = some o) : HR K B H' S := ⟨fun a c q => by
  refine (r.ok a c q).extB (fun b o h1 _ h2 => ⟨h1, k b o h2⟩) ?_
  obtain ⟨u, e⟩ := (r.ok a c q).there
  rw [e, k a u e], fun a hb => let ⟨h1, u, h2⟩ := r.hid a hb; ⟨h1, u, k a u h2⟩⟩
theorem zip_rvs (hr : HR K B H S) : ∀ {xs ys : List Val} {us vs : List V} {ts : List Addr}, RVs K B H' S xs us → RVs K B H' S ys vs → (∀ t ∈ ts, H t = none) → Paired (fun (t : Addr) (q : V × V) => H' t = some (.tup [q.1, q.2])) ts (us.zip vs) → RVs K B H' S (zipV xs ys) (ts.map V.ref)
  | [], _, _, _, _, .nil, _, _, pr => by
    cases pr
    exact .nil
  | _ :: _, [], _, _, _, .cons _ _, .nil, _, pr => by
    cases pr
    exact .nil
  | _ :: _, _ :: _, _, _, _, .cons r1 t1, .cons r2 t2, hn, pr => by
    cases pr with
    | cons h pr =>
      exact .cons (.tup (.inl ⟨.inl h, hr.free (hn _ List.mem_cons_self)⟩) (.cons r1 (.cons r2 .nil))) (zip_rvs hr t1 t2 (fun t ht => hn t (List.mem_cons_of_mem _ ht)) pr)
theorem se_listZip (hc : X.calm = true) (hg : Gl X "list") (hm : X.mg "list" = none) (hg2 : Gl X "zip") (hm2 : X.mg "zip" = none) (hs : starB a = false) (hs2 : starB b = false) (ha : PE X a (liftE X.K W ma)) (hb : PE X b (liftE X.K W mb)) :
    PE X (.Call (.Name "list" p) [.Call (.Name "zip" p2) [a, b] [] pos2] [] pos) (liftE X.K W (lzipI ma mb)) :=
  (TLZ.pe_listZip hc hg hm hg2 hm2 (pa_cons ha (pa_cons hb pa_nil (starEach_one hs2)) (starEach_one hs)) (starEach_one hs) (backTo_plain (by show (starB b || false) = false; rw [hs2]; rfl))).imp fun σ H Q ⟨ρ, S, B, Qi, Ei, Rr, h, q, er⟩ => ⟨ρ, S, B, _, Ei, Rr, h, fun v S1 x H1 rv hr1 e1 h1 =>
    ⟨ρ, S1, B, _, Ei, Rr.ext e1 hr1, h1, fun u S2 y H2 ru hr2 e2 h2 => by
      dsimp only at h2
      have rv2 := rv.ext e2
      split at h2
      · cases rv2 with
        | tup i1 i2 =>
        cases ru with
        | tup j1 j2 =>
        refine ⟨_, _, _, _, rfl, i1.sq, j1.sq, fun H' p ts k hp hts hnp hl pr => ?_⟩
        have ex : Ext S2 S2 H2 H' := fun b o h1 h2 => ⟨h1, k b o h2⟩
        exact q _ S2 _ H' (.lst hl (hr2.free hp) (zip_rvs hr2 (i2.ext ex) (j2.ext ex) hts pr)) (hr2.kept k) ((e1.trans e2).trans ex) h2
      · exact h2.elim, er.ext e1⟩, er⟩
end
end TL

set_option maxHeartbeats 1000000
/-! TLe: enumerate of a tuple, range with a step. -/
namespace TLE
open PySem PySem.Spec L2
open PyProof.Rows hiding St
open AutoSeq1 (wpAny_loadPart')
theorem meets_new (l : Addr) (items : Array Value) (n : Nat) (dct : Option Addr) (sl : Array (Option Value)) :
    Meets (Builtin.«enumerate.__new__» ⟨[.type "enumerate", .ref l], []⟩) (fun _ R s => s.heap.get? l = some { cls := .type "tuple", dict := dct, data := .seq items n, slots := sl } ∧
      R (.ok (.ret (.ref (s.heap.push { cls := .type "tuple_iterator", data := .fields #[.ref l, .int 0 0] }).objs.size)))
        { s with heap := (s.heap.push { cls := .type "tuple_iterator", data := .fields #[.ref l, .int 0 0] }).push { cls := .type "enumerate", data := .fields #[.none, .bool false, .ref s.heap.objs.size, rawInt 0, .none, .none] } }) :=
  .of_wp fun prog w A R s h => by
    obtain ⟨hp, g, d, tk, os⟩ := s; obtain ⟨hl, h⟩ := h
    have hsub := sub_enumerate
    have hL : Heap.IsTuple (Shared.heap ⟨hp, g, d, tk, os⟩) l items := ⟨_, hl, rfl, n, rfl⟩
    wp_walk using wpAny_loadPart' hl
    refine wpAny_stack_any fun st => wpAny_pure ?_
    split
    · rename_i c _ _ _ _ _
      cases (c == Value.type "enumerate")
      · wp_walk using wpAny_loadPart' hl, wpAny_pyIter_tuple hL
        exact ⟨_, rfl, h⟩
      · wp_walk using wpAny_loadPart' hl, wpAny_pyIter_tuple hL
        exact ⟨_, rfl, h⟩
    · wp_walk using wpAny_loadPart' hl, wpAny_pyIter_tuple hL
      exact ⟨_, rfl, h⟩
section
variable {prog : Program} {w : World} {A : Around} {E : Value → Shared → Prop} {s : Shared}
theorem call_enum {l : Addr} {items : Array Value} {Q : Value → Shared → Prop} (hL : s.heap.IsTuple l items)
    (h : ∀ h', IsEnum h' (s.heap.objs.size + 1) s.heap.objs.size 0 .none → h'.IsTupleIter s.heap.objs.size l 0 → h'.objs.size = s.heap.objs.size + 2 →
      (∀ b o, s.heap.get? b = some o → h'.get? b = some o) → Q (.ref (s.heap.objs.size + 1)) { s with heap := h' }) :
    wpAny (model prog w) A (call (.type "enumerate") [.ref l]) Q E s := by
  obtain ⟨⟨c, dct, dt, sl⟩, hl, hc, n, hd⟩ := hL
  replace hc : c = .type "tuple" := hc
  replace hd : dt = .seq items n := hd
  subst hc hd
  refine callType_new F.called_enumerate (by decide) (F.typeCall_enumerate_1 _) (F.newCall_enumerate_1 _) (fun obj => F.args_object_init_2 obj _) F.entry_enumerate_new
    (meets_new l items n dct sl) ⟨hl, ?_⟩
  have hz : (s.heap.push { cls := .type "tuple_iterator", data := .fields #[.ref l, .int 0 0] }).objs.size = s.heap.objs.size + 1 := Heap.size_push ..
  show _ ∧ _
  rw [hz]
  have he : IsEnum ((s.heap.push { cls := .type "tuple_iterator", data := .fields #[.ref l, .int 0 0] }).push
      { cls := .type "enumerate", data := .fields #[.none, .bool false, .ref s.heap.objs.size, rawInt 0, .none, .none] }) (s.heap.objs.size + 1) s.heap.objs.size 0 .none := by
    have := Heap.get?_push_size (s.heap.push { cls := .type "tuple_iterator", data := .fields #[.ref l, .int 0 0] })
      (o := { cls := .type "enumerate", data := .fields #[.none, .bool false, .ref s.heap.objs.size, rawInt 0, .none, .none] }) rfl
    rw [hz] at this; exact this
  refine ⟨⟨_, he, rfl⟩, h _ he ⟨_, Heap.get?_push_of_some _ (Heap.get?_push_size _ rfl), rfl, rfl⟩ (by rw [Heap.size_push, hz]) fun b o x => Heap.get?_push_of_some _ (Heap.get?_push_of_some _ x)⟩
theorem next_item {e it l : Addr} {i : Nat} {items : Array Value} {x old : Value} {Q : Value → Shared → Prop}
    (he : IsEnum s.heap e it i old) (hit : s.heap.IsTupleIter it l i) (hl : s.heap.IsTuple l items) (hx : items[i]? = some x) (hne : e ≠ it)
    (hQ : ∀ h', IsEnumOut h' e it ((i : Int) + 1) x s.heap.objs.size → h'.IsTupleIter it l (i + 1) →
      h'.get? s.heap.objs.size = some { cls := .type "tuple", data := .seq #[.int i s.toks, x] } → h'.objs.size = s.heap.objs.size + 1 →
      (∀ b o, b ≠ e → b ≠ it → s.heap.get? b = some o → h'.get? b = some o) → Q (.ref s.heap.objs.size) { s with heap := h', toks := s.toks + 1 }) :
    wpAny (model prog w) A (Builtin.«enumerate.__next__» ⟨[.ref e], []⟩) (fun fin s' => ∃ v, fin = .done (.ret v) ∧ Q v s') E s := by
  obtain ⟨hp, g, d, tk, os⟩ := s
  show wpAny _ _ (field (.ref e) 2 >>= _) _ _ _
  refine wpAny_bind (wpAny_field he rfl (x := .ref it) rfl ?_)
  refine wpAny_bind (RZ.nextOf_tuple_item hit hl hx fun h₁ hit₁ hs₁ => ?_)
  replace hs₁ : Heap.SameBut it hp h₁ := hs₁
  have he₁ : IsEnum h₁ e it i old := (hs₁.2 e hne).trans he
  show wpAny _ _ (field (.ref e) 3 >>= _) _ _ ⟨h₁, g, d, tk, os⟩
  refine wpAny_bind (wpAny_field he₁ rfl (x := rawInt i) rfl ?_)
  show wpAny _ _ (field (.ref e) 4 >>= _) _ _ ⟨h₁, g, d, tk, os⟩
  refine wpAny_bind (wpAny_field he₁ rfl (x := .none) rfl ?_)
  show wpAny _ _ (mkInt i >>= _) _ _ ⟨h₁, g, d, tk, os⟩
  refine wpAny_bind (wpAny_mkInt ?_)
  show wpAny _ _ (setField (.ref e) 3 (rawInt ((i : Int) + 1)) >>= _) _ _ ⟨h₁, g, d, tk + 1, os⟩
  refine wpAny_bind (wpAny_setField_rec he₁ (by simp) fun h₂ he₂ hs₂ => ?_)
  replace hs₂ : Heap.SameBut e h₁ h₂ := hs₂
  replace he₂ : IsEnum h₂ e it ((i : Int) + 1) old := he₂
  show wpAny _ _ (setField (.ref e) 4 .none >>= _) _ _ ⟨h₂, g, d, tk + 1, os⟩
  refine wpAny_bind (wpAny_setField_rec he₂ (by simp) fun h₃ he₃ hs₃ => ?_)
  replace hs₃ : Heap.SameBut e h₂ h₃ := hs₃
  replace he₃ : IsEnum h₃ e it ((i : Int) + 1) old := he₃
  show wpAny _ _ (newTuple [.int i tk, x] >>= _) _ _ ⟨h₃, g, d, tk + 1, os⟩
  refine wpAny_bind (wpAny_newTuple ?_)
  have he₄ : IsEnum (h₃.push { cls := .type "tuple", data := .seq #[.int i tk, x] }) e it ((i : Int) + 1) old := Heap.get?_push_of_some _ he₃
  generalize hh₄ : h₃.push { cls := .type "tuple", data := .seq #[.int i tk, x] } = h₄ at he₄
  have hsz : h₃.objs.size = hp.objs.size := by rw [hs₃.1, hs₂.1, hs₁.1]
  have hel : e < hp.objs.size := Heap.lt_size he
  have ht₄ : h₄.get? hp.objs.size = some { cls := .type "tuple", data := .seq #[.int i tk, x] } := by rw [← hh₄, ← hsz]; exact Heap.get?_push_size _ rfl
  have hz₄ : h₄.objs.size = hp.objs.size + 1 := by rw [← hh₄, Heap.size_push, hsz]
  have hk₄ : ∀ b o, b ≠ e → b ≠ it → hp.get? b = some o → h₄.get? b = some o := fun b o hbe hbi hb => by
    rw [← hh₄]; exact Heap.get?_push_of_some _ (hs₃.extBut b o hbe (hs₂.extBut b o hbe (hs₁.extBut b o hbi hb)))
  have hit₄ : h₄.IsTupleIter it l (i + 1) := by
    rw [← hh₄]; obtain ⟨o, ho, r⟩ := (hit₁.extBut hs₂.extBut (Ne.symm hne)).extBut hs₃.extBut (Ne.symm hne); exact ⟨o, Heap.get?_push_of_some _ ho, r⟩
  show wpAny _ _ (Builtin.SmallTypes.ownedTupleIsFree (.ref e) >>= _) _ _ ⟨h₄, g, d, tk + 1, os⟩
  rw [hsz]
  clear hh₄ he₃ hs₃ he₂ hs₂ he₁ hs₁ hit₁ hsz h₃ h₂ h₁
  refine wpAny_bind ?_
  · unfold Builtin.SmallTypes.ownedTupleIsFree
    refine wpAny_bind (wpAny_field he₄ rfl (x := .none) rfl (wpAny_pure ?_))
    simp only [if_true]
    refine wpAny_bind (wpAny_rule ?_)
    refine wpAny_bind (wpAny_field he₄ rfl (x := old) rfl ?_)
    refine wpAny_bind (wpAny_setField_rec he₄ (by simp) fun h₅ he₅ hs₅ => ?_)
    replace hs₅ : Heap.SameBut e h₄ h₅ := hs₅
    replace he₅ : IsEnum h₅ e it ((i : Int) + 1) x := he₅
    show wpAny _ _ (Builtin.SmallTypes.ownedTupleHandOut (.ref e) (.ref hp.objs.size) >>= _) _ _ ⟨h₅, g, d, tk + 1, os⟩
    refine wpAny_bind ?_
    · unfold Builtin.SmallTypes.ownedTupleHandOut
      refine wpAny_bind (wpAny_setField_rec he₅ (by simp) fun h₆ he₆ hs₆ => ?_)
      replace hs₆ : Heap.SameBut e h₅ h₆ := hs₆
      replace he₆ : IsEnumOut h₆ e it ((i : Int) + 1) x hp.objs.size := he₆
      refine wpAny_setField_rec he₆ (by simp) fun h₇ he₇ hs₇ => ?_
      replace hs₇ : Heap.SameBut e h₆ h₇ := hs₇
      replace he₇ : IsEnumOut h₇ e it ((i : Int) + 1) x hp.objs.size := he₇
      refine wpAny_bind (wpAny_letGo (wpAny_pure ⟨_, rfl, hQ h₇ he₇ ?_ ?_ ?_ ?_⟩))
      · exact ((hit₄.extBut hs₅.extBut (Ne.symm hne)).extBut hs₆.extBut (Ne.symm hne)).extBut hs₇.extBut (Ne.symm hne)
      · exact hs₇.extBut _ _ (Nat.ne_of_gt hel) (hs₆.extBut _ _ (Nat.ne_of_gt hel) (hs₅.extBut _ _ (Nat.ne_of_gt hel) ht₄))
      · rw [hs₇.1, hs₆.1, hs₅.1, hz₄]
      · exact fun b o hbe hbi hb => hs₇.extBut b o hbe (hs₆.extBut b o hbe (hs₅.extBut b o hbe (hk₄ b o hbe hbi hb)))
theorem pyNext_item {e it l : Addr} {i : Nat} {items : Array Value} {x old : Value} {Q : Option Value → Shared → Prop}
    (he : IsEnum s.heap e it i old) (hit : s.heap.IsTupleIter it l i) (hl : s.heap.IsTuple l items) (hx : items[i]? = some x) (hne : e ≠ it)
    (hQ : ∀ h', IsEnumOut h' e it ((i : Int) + 1) x s.heap.objs.size → h'.IsTupleIter it l (i + 1) →
      h'.get? s.heap.objs.size = some { cls := .type "tuple", data := .seq #[.int i s.toks, x] } → h'.objs.size = s.heap.objs.size + 1 →
      (∀ b o, b ≠ e → b ≠ it → s.heap.get? b = some o → h'.get? b = some o) → Q (some (.ref s.heap.objs.size)) { s with heap := h', toks := s.toks + 1 }) :
    wpAny (model prog w) A (pyNext (.ref e)) Q E s := by
  have hT : s.TypeIs (.ref e) "enumerate" := ⟨_, he, rfl⟩
  unfold pyNext
  exact wpAny_bind (wpAny_attempt (wpAny_callSpecial?_slot (name := Str.ofString "__next__") hT F.slot_enumerate_next
    (wpAny_call_entry F.slot_enumerate_next hT F.entry_enumerate_next
      (next_item he hit hl hx hne fun h' a b c d k => wpAny_pure (hQ h' a b c d k)) (F.args_enumerate_next_1 _))))
theorem pyNext_end {e it l : Addr} {i : Nat} {items : Array Value} {old : Value} {Q : Option Value → Shared → Prop} (hh : A.handled = none)
    (he : IsEnum s.heap e it i old) (hit : s.heap.IsTupleIter it l i) (hl : s.heap.IsTuple l items) (hx : items[i]? = none)
    (hQ : ∀ h', Heap.ExtBut it s.heap h' → Q none { s with heap := h' }) : wpAny (model prog w) A (pyNext (.ref e)) Q E s := by
  have hT : s.TypeIs (.ref e) "enumerate" := ⟨_, he, rfl⟩
  unfold pyNext
  refine wpAny_bind (wpAny_attempt (wpAny_callSpecial?_slot (name := Str.ofString "__next__") hT F.slot_enumerate_next
    (wpAny_call_entry F.slot_enumerate_next hT F.entry_enumerate_next ?_ (F.args_enumerate_next_1 _))))
  show wpAny _ _ (field (.ref e) 2 >>= _) _ _ _
  refine wpAny_bind (wpAny_field he rfl (x := .ref it) rfl ?_)
  refine wpAny_bind (RZ.nextOf_tuple_end hh hit hl hx fun h' x he' hx' => ?_)
  obtain ⟨o, ho, hc⟩ := hx'
  refine wpAny_bind (wpAny_isInstance (T := "StopIteration") (b := true) ⟨o, ho, hc⟩ isSubtype_stop ?_)
  exact wpAny_pure (hQ _ he')
end
/-- the tuple at a, each item in a new pair -/
def IteT (K : PySem.W.Frag) (a : Addr) : It :=
  ⟨fun i H => ∃ (xs : List V) (x : V), SqT K H a xs ∧ xs[i]? = some x, fun i H v H' => ∃ T x, v = .ref T ∧ H T = none ∧ H' = upd H T (.tup [.int (i : Nat), x]) ∧ ∀ xs, SqT K H a xs → xs[i]? = some x, fun i H => ∃ xs : List V, SqT K H a xs ∧ xs.length ≤ i⟩
theorem turn_enumT {P : Program} {w : World} {K : PySem.W.Frag} {elts : List Expr} {kk : Nat} {tpos : Pos} (a e it : Addr) :
    Turn P w K (.Tuple elts kk tpos) (IteT K a) [e, it] e (fun i h => (∃ old, IsEnum h e it ((i : Nat) : Int) old) ∧ h.IsTupleIter it a i ∧ e ≠ it) where
  mem := by simp
  obj := fun i h st b hb => by
    obtain ⟨⟨old, he⟩, ⟨o, ho, hc, hd⟩, _⟩ := st
    have e' : b = e ∨ b = it := by simpa using hb
    rcases e' with z | z
    · rw [z]; exact ⟨_, he, fun v q => nomatch q⟩
    · rw [z]; exact ⟨o, ho, fun v q => by rw [hd] at q; cases q⟩
  keep := fun i h h' st k => let ⟨⟨old, he⟩, hi, hne⟩ := st; ⟨⟨old, k e (by simp) _ he⟩, hi.at fun o q => k it (by simp) o q, hne⟩
  item := by
    intro X hP hw hK hc i pins s σ H E I hf st hg
    subst hP hw hK
    obtain ⟨⟨old, he⟩, hit, hne⟩ := st
    obtain ⟨xs, x, hq, hx⟩ := hg
    obtain ⟨its, rv, p, hz⟩ := I.tuple hq
    obtain ⟨u, hu, ru⟩ := rv.get hx
    have hel : e < s.heap.objs.size := Heap.lt_size he
    have hil : it < s.heap.objs.size := by obtain ⟨_, q, _⟩ := hit; exact Heap.lt_size q
    refine pyNext_item he hit (show s.heap.IsTuple a its.toArray from p) (x := u) (by simpa using hu) hne fun h' ho hit' hT hsz hk => ?_
    refine ⟨_, rfl, wpAny_letOwnedTupleGo_enum (s := { s with heap := h', toks := s.toks + 1 }) ho fun h'' he' sb => ?_⟩
    have hT2 : h''.get? s.heap.objs.size = some { cls := .type "tuple", data := .seq #[.int i s.toks, u] } := (sb.2 _ (Nat.ne_of_gt hel)).trans hT
    have new : ObjOk X.prog X.w (upd H s.heap.objs.size (.tup [.int (i : Nat), x])) h'' s.heap.objs.size (.tup [.int (i : Nat), x]) :=
      ⟨by show 2 ≤ sizeLine; decide, [.int i s.toks, u], .cons ⟨_, rfl⟩ (.cons ru .nil), ⟨_, hT2, rfl, _, rfl⟩⟩
    have I1 : Inv X pins σ (upd H s.heap.objs.size (.tup [.int (i : Nat), x])) { s with heap := h'', toks := s.toks + 1 } :=
      I.turnedNew (ch := [e, it]) (fun b ob hb q => (sb.2 b (fun z => hb (by simp [z]))).trans (hk b ob (fun z => hb (by simp [z])) (fun z => hb (by simp [z])) q)) hf (Nat.le_refl _) new
    refine ⟨.ref s.heap.objs.size, _, I1, rfl, ⟨_, x, rfl, I.hok.fresh (Nat.le_refl _), rfl, fun ys hy => by rw [I.tuple_inj hy hq]; exact hx⟩, ⟨⟨u, ?_⟩, hit'.at fun o q => (sb.2 it (Ne.symm hne)).trans q, hne⟩, fun b hb => ?_⟩
    · have e1 : ((i + 1 : Nat) : Int) = (i : Int) + 1 := by omega
      rw [e1]; exact he'
    · have hb' : b < s.heap.objs.size := by
        have e' : b = e ∨ b = it := by simpa using hb
        rcases e' with z | z
        · rw [z]; exact hel
        · rw [z]; exact hil
      rw [upd_ne (Nat.ne_of_lt hb')]
      exact (hf b hb).1
  done := by
    intro X hP hw hK hc i pins s σ H E I hf st hg
    subst hP hw hK
    obtain ⟨⟨old, he⟩, hit, hne⟩ := st
    obtain ⟨xs, hq, hx⟩ := hg
    obtain ⟨its, rv, p, hz⟩ := I.tuple hq
    obtain ⟨f0, f1, f2, f3, f4, f5⟩ := hf it (by simp)
    have hl := rv.length
    exact pyNext_end (I.ok.hd hc) he hit (show s.heap.IsTuple a its.toArray from p) (by simp; omega) fun h' eb => ⟨rfl, I.turned (t' := s.toks) (fun b o hb q => eb b o hb q) f0 f1 f3 f4 f5⟩
  self := fun A i s Q E st h => let ⟨⟨_, he⟩, _⟩ := st; wpAny_pyIter_enum he h
def iEnumA (K : PySem.W.Frag) (ta : TA) : TI := fun σ H R => ta σ H fun vs H1 => ∃ a xs, vs = [.ref a] ∧ ((SqL K H1 a xs ∧ R (Ite K a) H1) ∨ (SqT K H1 a xs ∧ R (IteT K a) H1))
theorem pi_enumA {X : Cx} {e : Expr} {ta : TA} {p pos tpos : Pos} {elts : List Expr} {kk : Nat} (hg : Gl X "enumerate") (hm : X.mg "enumerate" = none) (ha : PA X [e] ta) (hs : starEach [e] X.env = [(false, eval e X.env)] := by rfl) :
    PI X (.Tuple elts kk tpos) (.Call (.Name "enumerate" p) [e] [] pos) (iEnumA X.K ta) := by
  refine ⟨fun pins s σ H R I h => ?_⟩
  refine Call_ (ld_blt I hg hm boot_enumerate (PyProof.Rows.callWith_type1 (thn (ha.run pos pins s σ H _ I h) fun us s1 ⟨vs, H1, I1, r1, q1⟩ => ?_) hs rfl))
  obtain ⟨a, xs, ex, q1⟩ := q1
  subst ex
  cases r1 with
  | cons r rr =>
    cases rr
    cases r
    have fp : ∀ b, b ∈ [s1.heap.objs.size + 1, s1.heap.objs.size] → FpOk X pins H1 b := fun b hb => by
      have e' : b = s1.heap.objs.size + 1 ∨ b = s1.heap.objs.size := by simpa using hb
      have hle : s1.heap.objs.size ≤ b := by
        rcases e' with z | z
        · rw [z]; exact Nat.le_add_right _ _
        · rw [z]; exact Nat.le_refl _
      exact I1.fpOk hle (I1.hok.fresh hle)
    rcases q1 with ⟨hq, q⟩ | ⟨hq, q⟩
    · obtain ⟨its, rv, p', hz⟩ := I1.list hq
      refine call_enumerate_list p'.isList fun h' he hit hsz hk => wpAny_pyIter_enum he ?_
      have I2 : Inv X pins σ H1 { s1 with heap := h' } := I1.kept (t' := s1.toks) hk
      exact ⟨s1.heap.objs.size + 1, [s1.heap.objs.size + 1, s1.heap.objs.size], _, _, H1, rfl, I2, turn_enum a (s1.heap.objs.size + 1) s1.heap.objs.size, ⟨⟨.none, he⟩, hit, Nat.succ_ne_self _⟩, fp, q⟩
    · obtain ⟨its, rv, p', hz⟩ := I1.tuple hq
      refine call_enum (show s1.heap.IsTuple a its.toArray from p') fun h' he hit hsz hk => wpAny_pyIter_enum he ?_
      have I2 : Inv X pins σ H1 { s1 with heap := h' } := I1.kept (t' := s1.toks) hk
      exact ⟨s1.heap.objs.size + 1, [s1.heap.objs.size + 1, s1.heap.objs.size], _, _, H1, rfl, I2, turn_enumT a (s1.heap.objs.size + 1) s1.heap.objs.size, ⟨⟨.none, he⟩, hit, Nat.succ_ne_self _⟩, fp, q⟩
end TLE

/-! TLf: enumerate of lists and tuples, range with a step: plain meanings. -/
namespace TL
open PySem PySem.Spec L2
open PyProof.Rows hiding St
@[reducible] def enumAI (a : IE) : II := fun ρ S Q E => a ρ S (fun x S1 => match x with
  | .lst xs => Q none (enumFrom 0 xs) S1
  | .tup xs => Q none (enumFrom 0 xs) S1
  | _ => False) E
/-- lo, lo + c, .. n of them -/
def stepTo (lo c : Int) (n : Nat) : List Val := (List.range n).map fun (i : Nat) => Val.int (lo + (i : Int) * c)
@[reducible] def rng3I (a b c : IE) : II := fun ρ S Q E => a ρ S (fun x S1 => b ρ S1 (fun y S2 => c ρ S2 (fun z S3 => match x, y, z with
  | .int i, .int j, .int k => ∃ n, RgC i j k n ∧ Q none (stepTo i k n) S3
  | _, _, _ => False) E) E) E
section
variable {K : PySem.W.Frag} {B : Addr → Prop} {H0 : Hp} {S0 : Sto}
theorem itOk_enumT {a : Addr} {xs : List Val} (h : ∀ B' S H, Wider B B' H0 → HR K B' H S → ExtB B' S0 S H0 H → ∃ vs, SqT K H a vs ∧ RVs K B' H S xs vs) : ItOk K B (TLE.IteT K a) S0 H0 none (enumFrom 0 xs) := by
  refine ⟨fun B' S H i wb hr e _ hi => ?_, fun B' S H i wb hr e _ hi => ?_, fun B' S H i x H' wb hr e _ hi hy => ?_⟩ <;> rw [enumFrom_length] at hi <;> obtain ⟨vs, h1, h2⟩ := h B' S H wb hr e <;> have hl := h2.length
  · exact ⟨vs, vs[i]'(by omega), h1, List.getElem?_eq_getElem (by omega)⟩
  · exact ⟨vs, h1, by omega⟩
  · obtain ⟨T, y, rfl, hT, rfl, hx⟩ := hy
    obtain ⟨v, h3, h4⟩ := h2.getR (hx vs h1)
    have q := enumFrom_get (n := 0) h3
    rw [Nat.zero_add] at q
    exact ⟨_, q, .tup (.inl ⟨.inl upd_same, hr.free hT⟩) (.cons (.int _) (.cons (h4.ext (Ext.new hT)) .nil)), hr.new hT, Ext.new hT⟩
theorem itOk_rangeC {lo c : Int} {n : Nat} : ItOk K B (Itc lo c n) S0 H0 none (stepTo lo c n) := by
  have hl : (stepTo lo c n).length = n := by unfold stepTo; rw [List.length_map, List.length_range]
  refine ⟨fun B' S H i wb hr e _ hi => by rw [hl] at hi; exact hi, fun B' S H i wb hr e _ hi => by rw [hl] at hi; exact hi, fun B' S H i x H' wb hr e _ hi hy => ?_⟩
  obtain ⟨rfl, rfl⟩ := hy
  rw [hl] at hi
  refine ⟨.int (lo + (i : Nat) * c), ?_, .int _, hr, Ext.refl⟩
  unfold stepTo
  rw [List.getElem?_map, List.getElem?_range hi]
  rfl
end
section
variable {X : Cx} {W : WX} {a b c : Expr} {ma mb mc : IE} {pos : Pos} {tg : Expr}
theorem pi_enuA {p : Pos} {elts : List Expr} {kk : Nat} {tpos : Pos} (hg : Gl X "enumerate") (hm : X.mg "enumerate" = none) (hs : starB a = false) (ha : PE X a (liftE X.K W ma)) : PI X (.Tuple elts kk tpos) (.Call (.Name "enumerate" p) [a] [] pos) (liftI X.K W (enumAI ma)) :=
  (TLE.pi_enumA hg hm (pa_cons ha pa_nil (starEach_one hs)) (starEach_one hs)).imp fun σ H R ⟨ρ, S, B, Qi, Ei, Rr, h, q, er⟩ => ⟨ρ, S, B, _, Ei, Rr, h, fun v S1 x H1 rv hr1 e h1 => by
    cases rv with
    | lst i1 i2 i3 => exact ⟨_, _, rfl, .inl ⟨SqL.of i1, q none _ S1 _ H1 hr1 e (itOk_enum fun B' S2 H2 wb hr2 e2 => ⟨_, SqL.of (e2 _ _ i2.1 (wb.no i1 i2.2) i1).2, (i3.moreB wb).extB e2⟩) h1⟩⟩
    | tup i1 i2 => exact ⟨_, _, rfl, .inr ⟨i1.sq, q none _ S1 _ H1 hr1 e (itOk_enumT fun B' S2 H2 wb hr2 e2 => ⟨_, ((i1.moreB wb).extB e2).sq, (i2.moreB wb).extB e2⟩) h1⟩⟩
    | _ => exact (show False from h1).elim, er⟩
theorem pi_rng3 {p : Pos} (hg : Gl X "range") (hm : X.mg "range" = none) (hs : starB a = false) (hs2 : starB b = false) (hs3 : starB c = false) (ha : PE X a (liftE X.K W ma)) (hb : PE X b (liftE X.K W mb)) (hc : PE X c (liftE X.K W mc)) : PI X tg (.Call (.Name "range" p) [a, b, c] [] pos) (liftI X.K W (rng3I ma mb mc)) :=
  (pi_range3 hg hm (pa_cons ha (pa_cons hb (pa_cons hc pa_nil (starEach_one hs3)) (by rw [starEach_one hs2, starEach_one hs3])) (by rw [starEach_one hs, starEach_one hs2])) (by rw [starEach_one hs, starEach_one hs2]) (backTo_plain (es := [b, c]) (by show (starB b || (starB c || false)) = false; rw [hs2, hs3]; rfl))).imp fun σ H R ⟨ρ, S, B, Qi, Ei, Rr, h, q, er⟩ => ⟨ρ, S, B, _, Ei, Rr, h, fun v S1 x H1 rv hr1 e1 h1 =>
    ⟨ρ, S1, B, _, Ei, Rr.ext e1 hr1, h1, fun u S2 y H2 ru hr2 e2 h2 => ⟨ρ, S2, B, _, Ei, Rr.ext (e1.trans e2) hr2, h2, fun t S3 z H3 rt hr3 e3 h3 => by
      dsimp only at h3
      split at h3
      · cases rv; cases ru; cases rt
        obtain ⟨n, b1, h3⟩ := h3
        exact ⟨_, _, _, n, rfl, b1, q none _ S3 _ H3 hr3 (e1.trans (e2.trans e3)) itOk_rangeC h3⟩
      · exact h3.elim, er.ext (e1.trans e2)⟩, er.ext e1⟩, er⟩
end
end TL

/-! TLj: ord, join, index, count. -/
namespace TL
open PySem PySem.Spec L2
open PyProof.Rows hiding St
def strsOf : List Val → Option (List Str)
  | [] => some []
  | .str x :: r => (strsOf r).map (x :: ·)
  | _ => none
def ordP : PL := fun vs S Q => match vs with
  | [.str x] => x.length = 1 ∧ Q (.int (x.cps.getD 0 0 : Nat)) S
  | _ => False
def joinP : Val → PL := fun x vs S Q => match x, vs with
  | .str a, [v] => someP (lsqOf S v) fun xs => someP (strsOf xs) fun ys => (ys.map (·.length)).sum + ys.length * a.length ≤ 16777216 ∧ Q (.str (Txt.join a ys)) S
  | _, _ => False
/-- the first place where it stands -/
def idxE (y : Val) : List Val → Option Nat
  | [] => none
  | x :: r => if eqE x y then some 0 else (idxE y r).map (· + 1)
structure indexP (x : Val) (vs : List Val) (S : Sto) (Q : VQ) : Prop where
  h : match vs with
    | [y] => someP (lsqOf S x) fun xs => (flatE y = true ∧ xs.all flatE = true) ∧ someP (idxE y xs) fun j => Q (.int (j : Nat)) S
    | _ => False
@[reducible] def isStrV : Val → Bool
  | .str _ => true
  | _ => false
/-- o.m(..), o a text -/
@[reducible] def smethI (r : Val → PL) (o : IE) (as : IA) : IE := fun ρ S Q E => o ρ S (fun x S1 => isStrV x = true ∧ as ρ S1 (fun xs S2 => r x xs S2 Q) E) E
section
variable {X : Cx} {K : PySem.W.Frag} {B : Addr → Prop} {H : Hp} {S : Sto} {W : WX} {o a : Expr} {es : List Expr} {mo : IE} {pos : Pos}
theorem RVs.strs : ∀ {xs : List Val} {vs : List V} {ys : List Str}, RVs K B H S xs vs → strsOf xs = some ys → vs = ys.map V.str
  | _, _, _, .nil, e => by
    cases e
    rfl
  | x :: r, _, _, .cons rx t, e => by
    cases x with
    | str z =>
      cases rx
      cases e2 : strsOf r with
      | none => rw [show strsOf (.str z :: r) = (strsOf r).map (z :: ·) from rfl, e2] at e; cases e
      | some ys =>
        rw [show strsOf (.str z :: r) = (strsOf r).map (z :: ·) from rfl, e2] at e
        cases e
        rw [t.strs e2]
        rfl
    | _ => cases e
theorem ordP_ok : PLOk K ordP (fun xs H Q => ∃ x, xs = [.str x] ∧ x.length = 1 ∧ Q (.int (x.cps.getD 0 0 : Nat)) H) := by
  intro B xs vs S H Qi Q r hr h q
  unfold ordP at h
  split at h
  · obtain ⟨v, rfl, r1⟩ := vs1 r
    cases r1
    exact ⟨_, rfl, h.1, q.same hr (.int _) h.2⟩
  · exact h.elim
theorem joinP_ok : PMOk K joinP (fun x xs H Q => ∃ a p, ∃ ys : List Str, x = .str a ∧ xs = [.ref p] ∧ (SqL K H p (ys.map V.str) ∨ SqT K H p (ys.map V.str)) ∧
    (ys.map (·.length)).sum + ys.length * a.length ≤ 16777216 ∧ Q (.str (Txt.join a ys)) H) := by
  intro B x v xs vs S H Qi Q rx rs hr h q
  unfold joinP at h
  split at h
  · cases rx
    obtain ⟨u, rfl, r1⟩ := vs1 rs
    obtain ⟨zs, e, h⟩ := someP_some h
    obtain ⟨ys, e2, h⟩ := someP_some h
    obtain ⟨p, us, rfl, h1, h2⟩ := lsqOf_sq hr r1 e
    have := h2.strs e2
    subst this
    exact ⟨_, p, ys, rfl, rfl, .inl h1, h.1, q.same hr (.str _) h.2⟩
  · exact h.elim
theorem idx_V {y : Val} {v : V} (ry : RV K B H S y v) (fy : flatE y = true) : ∀ {xs : List Val} {vs : List V} {j : Nat}, RVs K B H S xs vs → xs.all flatE = true → idxE y xs = some j →
    ∃ z, vs[j]? = some z ∧ eqV z v = true ∧ ∀ (m : Nat) (z' : V), m < j → vs[m]? = some z' → eqV z' v = false
  | _, _, _, .nil, _, e => by cases e
  | x :: r, _, j, .cons rx t, h, e => by
    rw [List.all_cons, Bool.and_eq_true] at h
    have e1 := eqE_V rx ry h.1 fy
    unfold idxE at e
    by_cases hx : eqE x y = true
    · rw [if_pos hx] at e
      cases e
      exact ⟨_, rfl, e1.symm.trans hx, fun m z' hm => absurd hm (Nat.not_lt_zero m)⟩
    · rw [if_neg hx] at e
      cases e2 : idxE y r with
      | none => rw [e2] at e; cases e
      | some i =>
        rw [e2] at e
        cases e
        obtain ⟨z, h1, h2, h3⟩ := idx_V ry fy t h.2 e2
        refine ⟨z, h1, h2, fun m z' hm hz => ?_⟩
        cases m with
        | zero =>
          cases hz
          rw [← e1]
          exact Bool.eq_false_iff.mpr hx
        | succ m => exact h3 m z' (Nat.lt_of_succ_lt_succ hm) hz
theorem indexP_ok : PMOk K indexP (rIndex K) := by
  intro B x v xs vs S H Qi Q rx rs hr h q
  replace h := h.h
  split at h
  · obtain ⟨u, rfl, r1⟩ := vs1 rs
    obtain ⟨zs, e, ⟨h1, h2⟩, h⟩ := someP_some h
    obtain ⟨j, e2, h⟩ := someP_some h
    obtain ⟨p, us, rfl, h3, h4⟩ := lsqOf_sq hr rx e
    obtain ⟨z, k1, k2, k3⟩ := idx_V r1 h1 h4 h2 e2
    exact ⟨p, us, u, j, z, rfl, rfl, h3, flatE_V r1 h1, allE_V h4 h2, k1, k2, k3, q.same hr (.int _) h⟩
  · exact h.elim
theorem isStr_ty {x : Val} {v : V} (r : RV K B H S x v) (h : isStrV x = true) : tyV K "str" v H := by
  cases x with
  | str z => cases r; rfl
  | _ => cases h
theorem se_smeth0 {name : Str} {id : String} {r : Val → PL} {rr : V → List V → Hp → VK → Prop} {apos : Pos} (slot : Slot "str" name id) (hty : typeOf (.builtin id) = pure (.type "method_descriptor")) (hm : MtR X id rr) (hr : PMOk X.K r rr)
    (hb : plainBase o = true) (hl : (apos.endLine == pos.line) = true) (ho : PE X o (liftE X.K W mo)) : PE X (.Call (.Attribute o name apos) [] [] pos) (liftE X.K W (smethI r mo nilA)) :=
  (pe_bm0 PySem.F.plainAttrs_str slot hty hm ho (base_of hb) hl).imp fun σ H Q ⟨ρ, S, B, Qi, Ei, R, h, q, er⟩ => ⟨ρ, S, B, _, Ei, R, h, fun v S1 x H1 rv hr1 e h1 =>
    ⟨isStr_ty rv h1.1, hr B v x [] [] S1 H1 Qi Q rv .nil hr1 h1.2 (q.ext e)⟩, er⟩
theorem se_smeth {name : Str} {id : String} {r : Val → PL} {rr : V → List V → Hp → VK → Prop} {apos : Pos} {mr : IA} (slot : Slot "str" name id) (hty : typeOf (.builtin id) = pure (.type "method_descriptor")) (hm : MtR X id rr) (hr : PMOk X.K r rr)
    (hb : plainBase o = true) (hl : (apos.endLine == pos.line) = true) (hs : (a :: es).any starB = false) (hf : (a :: es).length < 30) (ho : PE X o (liftE X.K W mo)) (ha : PA X (a :: es) (liftA X.K W mr)) :
    PE X (.Call (.Attribute o name apos) (a :: es) [] pos) (liftE X.K W (smethI r mo mr)) := by
  have h1 : (starB a || es.any starB) = false := hs
  obtain ⟨h1, h2⟩ := Bool.or_eq_false_iff.mp h1
  refine (pe_bm PySem.F.plainAttrs_str slot hty hm ho ha (base_of hb) ?_ hl (starEach_one h1) (backTo_plain h2)).imp fun σ H Q ⟨ρ, S, B, Qi, Ei, R, h, q, er⟩ => ⟨ρ, S, B, _, Ei, R, h, fun v S1 x H1 rv hr1 e h1 =>
    ⟨isStr_ty rv h1.1, ρ, S1, B, _, Ei, R.ext e hr1, h1.2, fun us S2 ys H2 ru hr2 e2 h2 => hr B v x us ys S2 H2 Qi Q (rv.ext e2) ru hr2 h2 (q.ext (e.trans e2)), er.ext e⟩, er⟩
  rw [backTo_all hs]
  show (true && true && decide ((a :: es).length + 0 + 0 < 30)) = true
  rw [decide_eq_true (by omega)]
  rfl
end
end TL

/-! TLk: tuples of which all is known, dicts of such tuples of pairs, list.count, tables of defs, defs called by a local name. -/
namespace TLK
open PySem PySem.Spec PyProof.Rows L2
theorem chooseL {α : Type} {P : Nat → α → Prop} : ∀ n : Nat, (∀ j, j < n → ∃ x, P j x) → ∃ l : List α, l.length = n ∧ ∀ j, j < n → ∃ x, l[j]? = some x ∧ P j x
  | 0, _ => ⟨[], rfl, fun j hj => absurd hj (Nat.not_lt_zero j)⟩
  | n + 1, h => by
    obtain ⟨l, h1, h2⟩ := chooseL n fun j hj => h j (by omega)
    obtain ⟨x, hx⟩ := h n (by omega)
    refine ⟨l ++ [x], by rw [List.length_append, h1]; rfl, fun j hj => ?_⟩
    by_cases e : j < n
    · obtain ⟨y, h3, h4⟩ := h2 j e
      exact ⟨y, by rw [List.getElem?_append_left (by omega)]; exact h3, h4⟩
    · have e2 : j = n := by omega
      subst e2
      exact ⟨x, by rw [List.getElem?_append_right (by omega), h1, Nat.sub_self]; rfl, hx⟩
section
variable {X : Cx}
/-- tuple(l) of a list, the new object told whole -/
theorem call_tupleK : CallR X (.type "tuple") (fun xs H Q => ∃ p ys, xs = [.ref p] ∧ SqL X.K H p ys ∧ ∀ (l : Addr) (ob : Obj), H l = none → ob.cls = .type "tuple" → ob.dict = none → Q (.ref l) (upd H l (.frz ob (.tup ys)))) := by
  intro pins s σ H xs us Q I r h
  obtain ⟨p, ys, rfl, hq, q⟩ := h
  obtain ⟨u, rfl, rx⟩ := vals1 r
  cases rx
  obtain ⟨its, r', pl, hz⟩ := I.list hq
  have hlen := r'.length
  refine call_tuple_list pl.isList (fun h' kp => ?_) (by simp only [List.size_toArray] <;> omega)
  have I1 : Inv X pins σ H { s with heap := h' } := I.kept (t' := s.toks) kp
  have I2 : Inv X pins σ (upd H h'.objs.size (.frz { cls := .type "tuple", data := .seq its.toArray } (.tup ys))) { s with heap := h'.push { cls := .type "tuple", data := .seq its.toArray } } :=
    I1.laid (t' := s.toks) (fun b o e => Heap.get?_push_of_some _ e) (Nat.le_refl _) (show ObjOk X.prog X.w _ _ _ (.frz { cls := .type "tuple", data := .seq its.toArray } (.tup ys)) from ⟨Heap.get?_push_size _ rfl, hz, its, r', IsTup.new _ _⟩)
  exact ⟨.ref h'.objs.size, _, I2, rfl, q _ _ (I1.hok.fresh (Nat.le_refl _)) rfl rfl⟩
/-- dict(t) of such a tuple of pairs (key, value) -/
theorem call_dictT (hcalm : X.calm = true) : CallR X (.type "dict") (fun xs H Q => ∃ (a : Addr) (ob : Obj) (ps : List Addr) (kvs : List (Key × V)), xs = [.ref a] ∧ H a = some (.frz ob (.tup (ps.map V.ref))) ∧ ob.cls = .type "tuple" ∧ ob.dict = none ∧ Paired (fun p kv => SqT X.K H p [kV kv.1, kv.2]) ps kvs ∧
    ∀ p, H p = none → Q (.ref p) (upd H p (.dK (mergeK [] kvs)))) := by
  intro pins s σ H xs us Q I r q
  obtain ⟨a, ob, ps, kvs, ex, hq, hc, hd, hp, q⟩ := q
  subst ex
  obtain ⟨u, eu, rx⟩ := vals1 r
  subst eu
  cases rx
  obtain ⟨ho, hz, its, rv, o2, ho2, hc2, n, hdat⟩ := (show ObjOk X.prog X.w H s.heap a (.frz ob (.tup (ps.map V.ref))) from I.hok a _ hq)
  rw [ho] at ho2
  cases ho2
  have ei := refs_at rv
  subst ei
  rw [List.length_map] at hz
  obtain ⟨prs, rel, hl, hpr⟩ := pairs_of I hp
  obtain ⟨qs, ql, hqs⟩ := chooseL (P := fun j (y : Value × Value) => ∃ (b : Addr) (q : Key × Value), prs[j]? = some q ∧ ps[j]? = some b ∧ IsTup s.heap b #[y.1, y.2] ∧ y.2 = q.2 ∧ keyIs q.1 y.1 = true) prs.length fun j hj => by
    obtain ⟨b, u, e1, e2, e3⟩ := hpr j _ (List.getElem?_eq_getElem hj)
    exact ⟨(u, prs[j].2), b, prs[j], List.getElem?_eq_getElem hj, e1, e2, rfl, e3⟩
  have PA := PairArg.tuple (prog := X.prog) (w := X.w) a (ps.map Value.ref).toArray (fun j => ps.getD j 0) qs
  have okk : PlainSeq "tuple" s.heap a (ps.map Value.ref).toArray ∧ PairItems s.heap (ps.map Value.ref).toArray (fun j => ps.getD j 0) qs := by
    refine ⟨⟨ob, n, ho, hc, hd, hdat⟩, by rw [List.size_toArray, List.length_map, ql, hl], fun j k v hj => ?_⟩
    have hjl : j < prs.length := by
      rw [← ql]
      exact (List.getElem?_eq_some_iff.mp hj).1
    obtain ⟨y, h1, b, q0, h2, h3, h4, h5, h6⟩ := hqs j hjl
    rw [hj] at h1
    cases h1
    have eb : ps.getD j 0 = b := by rw [List.getD_eq_getElem?_getD, h3]; rfl
    refine ⟨?_, .inl ?_⟩
    · show _ = some (Value.ref (ps.getD j 0))
      rw [eb]
      simp [h3]
    · show s.heap.IsTuple (ps.getD j 0) #[k, v]
      rw [eb]
      exact h4
  have hp2 : PairsHave (mixKind X.prog X.w) qs.length (PairRel qs) prs := by
    refine ⟨ql.symm, fun i key v hi => ?_⟩
    have hil : i < prs.length := by
      rw [← ql]
      exact (List.getElem?_eq_some_iff.mp hi).1
    obtain ⟨y, h1, b, q0, h2, h3, h4, h5, h6⟩ := hqs i hil
    have hi' : qs[i]? = some (key, v) := hi
    rw [hi'] at h1
    cases h1
    refine ⟨q0.1, ?_, h6⟩
    rw [h2]
    dsimp only at h5
    rw [h5]
  refine PySem.call_dict_pairs (knd := mixKind X.prog X.w) (kvs := prs) PA (I.ok.hd hcalm) okk hp2 (by rw [ql, hl]; exact hz) fun h' tk hd' k => ?_
  have hm : (s.heap.objs.size == sysModules) = false := beq_eq_false_iff_ne.mpr (Nat.ne_of_gt I.big)
  have hlen : (mergeK [] kvs).length ≤ sizeLine := by
    refine Nat.le_trans (length_mergeK kvs []) ?_
    rw [List.length_nil, Nat.zero_add, rel.length, hl]
    exact hz
  exact ⟨.ref s.heap.objs.size, upd H s.heap.objs.size (.dK (mergeK [] kvs)), I.laid (t' := tk) (fun b o e => k b o (fun z => nomatch z) e) (Nat.le_refl _) (show ObjOk X.prog X.w _ _ _ (.dK (mergeK [] kvs)) from ⟨hlen, hm, merged [] prs, KV.merge rel .nil, hd'⟩), rfl, q _ (I.hok.fresh (Nat.le_refl _))⟩
end
end TLK

namespace TL
open PySem PySem.Spec L2
open PyProof.Rows hiding St
/-- tuple(l), the tuple told whole -/
def tupleKP : PL := fun vs S Q => match vs with
  | [v] => someP (lsqOf S v) fun xs => Q (.set xs) S
  | _ => False
def pairsOf : List Val → Option (List (Key × Val))
  | [] => some []
  | .tup [k, v] :: r => match keyV k, pairsOf r with
    | some k, some kvs => some ((k, v) :: kvs)
    | _, _ => none
  | _ => none
def mergeP (kvs more : List (Key × Val)) : List (Key × Val) := more.foldl (fun acc kv => dPut acc kv.1 kv.2) kvs
/-- dict(d), dict(t) of a tuple of pairs -/
def dictKP : PL := fun vs S Q => match vs with
  | [.set xs] => someP (pairsOf xs) fun kvs => newD (mergeP [] kvs) S Q
  | vs => dictP vs S Q
structure countP (x : Val) (vs : List Val) (S : Sto) (Q : VQ) : Prop where
  h : match vs with
    | [.int k] => someP (lsqOf S x) fun xs => someP (intsOf xs) fun ns => Q (.int (ns.count k : Nat)) S
    | _ => False
section
variable {X : Cx} {K : PySem.W.Frag} {B : Addr → Prop} {H : Hp} {S : Sto} {W : WX} {o a : Expr} {es : List Expr} {mo : IE} {pos : Pos}
abbrev rTupK (K : PySem.W.Frag) : List V → Hp → VK → Prop := fun xs H Q => ∃ p ys, xs = [.ref p] ∧ SqL K H p ys ∧ ∀ (l : Addr) (ob : Obj), H l = none → ob.cls = .type "tuple" → ob.dict = none → Q (.ref l) (upd H l (.frz ob (.tup ys)))
theorem tupleKP_ok : PLOk K tupleKP (rTupK K) := by
  intro B xs vs S H Qi Q r hr h q
  unfold tupleKP at h
  split at h
  · obtain ⟨v, rfl, r1⟩ := vs1 r
    obtain ⟨ys, e, h⟩ := someP_some h
    obtain ⟨p, us, rfl, h1, h2⟩ := lsqOf_sq hr r1 e
    refine ⟨p, us, rfl, h1, fun l ob hn hc hd => ?_⟩
    have ex : Ext S S H (upd H l (.frz ob (.tup us))) := Ext.new hn
    exact q (.set ys) S (.ref l) _ (.kt ⟨ob, upd_same, hc, hd, hr.free hn⟩ (h2.ext ex)) (hr.new hn) ex h
  · exact h.elim
abbrev rDictT (K : PySem.W.Frag) : List V → Hp → VK → Prop := fun xs H Q => ∃ (a : Addr) (ob : Obj) (ps : List Addr) (kvs : List (Key × V)), xs = [.ref a] ∧ H a = some (.frz ob (.tup (ps.map V.ref))) ∧ ob.cls = .type "tuple" ∧ ob.dict = none ∧ Paired (fun p kv => SqT K H p [kV kv.1, kv.2]) ps kvs ∧
    ∀ p, H p = none → Q (.ref p) (upd H p (.dK (mergeK [] kvs)))
theorem pairs_rv : ∀ {xs : List Val} {vs : List V} {kvs : List (Key × Val)}, RVs K B H S xs vs → pairsOf xs = some kvs →
    ∃ (ps : List Addr) (us : List (Key × V)), vs = ps.map V.ref ∧ Paired (fun p kv => SqT K H p [kV kv.1, kv.2]) ps us ∧ us.map (·.1) = kvs.map (·.1) ∧ RVs K B H S (kvs.map (·.2)) (us.map (·.2))
  | _, _, _, .nil, e => by
    cases e
    exact ⟨[], [], rfl, .nil, rfl, .nil⟩
  | x :: r, _, kvs, .cons rx t, e => by
    unfold pairsOf at e
    split at e
    · rename_i ex
      cases ex
    · rename_i k v r0 ex
      cases ex
      split at e
      · rename_i kk kvs0 e1 e2
        cases e
        obtain ⟨ps, us, h1, h2, h3, h4⟩ := pairs_rv t e2
        cases rx with
        | tup at_ rr =>
          cases rr with
          | cons rk rr =>
            cases rr with
            | cons rv rr =>
              cases rr
              rename_i av kv0 vv
              refine ⟨av :: ps, (kk, vv) :: us, by rw [h1]; rfl, .cons ?_ h2, by rw [List.map_cons, List.map_cons, h3], .cons rv h4⟩
              have ek := keyV_kV rk e1
              have := at_.sq
              rw [ek] at this
              exact this
      · cases e
    · cases e
theorem merge_rv : ∀ {more : List (Key × Val)} {mv : List (Key × V)} {kvs : List (Key × Val)} {us : List (Key × V)}, mv.map (·.1) = more.map (·.1) → RVs K B H S (more.map (·.2)) (mv.map (·.2)) → us.map (·.1) = kvs.map (·.1) → RVs K B H S (kvs.map (·.2)) (us.map (·.2)) →
    (mergeK us mv).map (·.1) = (mergeP kvs more).map (·.1) ∧ RVs K B H S ((mergeP kvs more).map (·.2)) ((mergeK us mv).map (·.2))
  | [], [], kvs, us, _, _, h3, h4 => ⟨h3, h4⟩
  | [], _ :: _, _, _, h1, _, _, _ => by cases h1
  | _ :: _, [], _, _, h1, _, _, _ => by cases h1
  | (k, v) :: more, (k2, v2) :: mv, kvs, us, h1, h2, h3, h4 => by
    rw [List.map_cons, List.map_cons] at h1
    injection h1 with h1a h1b
    dsimp only at h1a
    subst h1a
    rw [List.map_cons, List.map_cons] at h2
    cases h2 with
    | cons r t =>
      obtain ⟨p1, p2⟩ := dPut_put (k := k2) r h3 h4
      exact merge_rv (more := more) (mv := mv) (kvs := dPut kvs k2 v) (us := putK us k2 v2) h1b t p1 p2
theorem dictKP_ok : PLOk K dictKP (fun xs H Q => rDictCopy xs H Q ∨ rDictT K xs H Q) := by
  intro B xs vs S H Qi Q r hr h q
  unfold dictKP at h
  split at h
  · obtain ⟨v, rfl, r1⟩ := vs1 r
    obtain ⟨kvs, e, h⟩ := someP_some h
    cases r1 with
    | kt k r2 =>
      obtain ⟨ob, h1, h2, h3, h4, h5⟩ := k
      obtain ⟨ps, us, g1, g2, g3, g4⟩ := pairs_rv r2 e
      subst g1
      obtain ⟨m1, m2⟩ := merge_rv (kvs := []) (us := []) g3 g4 rfl .nil
      exact .inr ⟨_, ob, ps, us, rfl, h1, h2, h3, g2, q.dict hr m1 m2 h⟩
  · exact .inl (dictP_ok B _ _ S H Qi Q r hr h q)
theorem countP_ok : PMOk K countP (rCntI K) := by
  intro B x v xs vs S H Qi Q rx rs hr h q
  replace h := h.h
  split at h
  · obtain ⟨u, rfl, r1⟩ := vs1 rs
    cases r1
    obtain ⟨zs, e, h⟩ := someP_some h
    obtain ⟨ns, e2, h⟩ := someP_some h
    obtain ⟨p, rfl, h1⟩ := ints_sq hr rx e e2
    exact ⟨p, ns, _, rfl, rfl, h1, q.same hr (.int _) h⟩
  · exact h.elim
end
end TL
namespace TL
open PySem PySem.Spec L2
open PyProof.Rows hiding St
/-- a table of defs by texts -/
@[reducible] def tabP (kvs : List (Str × Str)) : P1 := fun x S Q => match x with
  | .str z => someP (kvs.lookup z) fun f => Q (.fn f) S
  | _ => False
/-- a def that a local name holds -/
@[reducible] def callLI (Γ : Calls) (dfs : List Str) (i : Nat) (as : IA) : IE := fun ρ S Q E => getS ρ i fun v => match v with
  | .fn f => dfs.contains f = true ∧ as ρ S (fun xs S1 => Γ f xs S1 Q E) E
  | _ => False
section
variable {X : Cx} {W : WX} {a b : Expr} {es : List Expr} {mb : IE} {pos p : Pos}
theorem se_tab {x : Str} {t : Addr} {kvs : List (Str × Str)} (hg : Gl X x) (hm : X.mg x = some (.ref t)) (hk : ∀ z f, kvs.lookup z = some f → KDct X.K X.w t z (.ref (He.ga X.K f))) (hd : (x == ("__debug__" : Str)) = false) (hb : PE X b (liftE X.K W mb)) (hs : sliceB b = false) :
    PE X (.Subscript (.Name x p) b pos) (liftE X.K W (un1 (tabP kvs) mb)) :=
  (pe_ix ix_kdict (pe_glob (v := .ref t) hg hm (show RelV (.ref t) (.ref t) from rfl) hd) hb (plainIx_of hs)).imp fun σ H Q ⟨ρ, S, B, Qi, Ei, R, h, q, er⟩ =>
    ⟨ρ, S, B, _, Ei, R, h, fun v S1 y H1 rv hr1 e h1 => by
      cases v with
      | str z =>
        cases rv
        obtain ⟨f, e1, h1⟩ := someP_some h1
        exact ⟨t, _, _, rfl, rfl, hk _ _ e1, q (.fn f) S1 _ H1 (.fn f) hr1 e h1⟩
      | _ => exact (show False from h1).elim, er⟩
theorem se_callL {Γ : Calls} {dfs : List Str} {i k : Nat} {x : Str} {mr : IA} (D : ∀ f, f ∈ dfs → ∃ fd ps, DefOk X k Γ f fd ps) (hr : Room k X.A) (tk : Takes X W) (hN : X.N[i]? = some x) (hv : Vis X.env.scope x) (hdb : (x == ("__debug__" : Str)) = false) (hcd : (x == ("__classdict__" : Str)) = false)
    (hs : (a :: es).any starB = false) (ha : PA X (a :: es) (liftA X.K W mr)) : PE X (.Call (.Name x p) (a :: es) [] pos) (liftE X.K W (callLI Γ dfs i mr)) := by
  have h1 : (starB a || es.any starB) = false := hs
  obtain ⟨h1, h2⟩ := Bool.or_eq_false_iff.mp h1
  refine ⟨fun pins s σ H Q I ⟨ρ, S, B, Qi, Ei, R, h, q, er⟩ => ?_⟩
  obtain ⟨v, e1, h⟩ := getS_some h
  obtain ⟨y, e2, rv⟩ := R.st.2 i v e1
  split at h
  · rename_i f
    cases rv
    obtain ⟨hf, h⟩ := h
    obtain ⟨fd, ps, Df⟩ := D f (by simpa using hf)
    have slot : wpAny (model X.prog X.w) X.A (eval (.Name x p) X.env) (EP X pins σ fun z H1 => z = .ref (He.ga X.K f) ∧ H1 = H) X.xe s :=
      (pe_var (pos := p) hN hv hdb hcd).run pins s σ H _ I ⟨_, e2, rfl, rfl⟩
    refine wpAny_Call_Name_kw (thn slot ?_)
    rintro u s1 ⟨z, H1, I1, r1, rfl, rfl⟩
    cases r1
    have args := ha.run pos pins s1 σ H1 (fun ys H2 => spG X.K Γ f ys H2 Q (WE W σ)) I1 ⟨ρ, S, B, _, Ei, R, h, fun vs S1 xs H2 rv hr1 e h1 => ⟨vs, S1, B, Qi, Ei, rv, hr1, h1, q.ext e, er.ext e⟩, er⟩
    exact PySem.W.callWith_K I.ok.mod.kin Df.kp (thn args fun us s2 ⟨vs, H2, I2, r, q2⟩ => ⟨I2.kIn, run_fnS Df.ok hr Df.bi (passAt tk σ) I2 r q2⟩) (starEach_one h1) (backTo_plain h2)
  · exact h.elim
end
end TL

/-! TLd: del x[a:]. -/
namespace TL
open PySem PySem.Spec L2
theorem keep_take {α : Type} {sel : Nat → Bool} : ∀ (xs : List α) (i a : Nat), (∀ k, i ≤ k → k < i + xs.length → sel k = decide (a ≤ k)) → (xs.zipIdx i).filterMap (fun p => if sel p.2 = true then none else some p.1) = xs.take (a - i)
  | [], i, a, _ => by rw [List.take_nil]; rfl
  | x :: xs, i, a, h => by
    have h0 := h i (Nat.le_refl _) (by simp)
    have ih := keep_take xs (i + 1) a fun k h1 h2 => h k (by omega) (by rw [List.length_cons]; omega)
    rw [List.zipIdx_cons, List.filterMap_cons]
    by_cases c : a ≤ i
    · rw [decide_eq_true c] at h0
      simp only [h0, if_true]
      rw [ih, show a - (i + 1) = 0 from by omega, show a - i = 0 from by omega]
      simp
    · rw [decide_eq_false c] at h0
      simp only [h0, Bool.false_eq_true, if_false]
      rw [ih, show a - i = (a - (i + 1)) + 1 from by omega, List.take_succ_cons]
theorem keep_take' {α : Type} {sel : Nat → Bool} (xs : List α) (a : Nat) (h : ∀ k, k < xs.length → sel k = decide (a ≤ k)) : xs.zipIdx.filterMap (fun x => match x with
    | (x, k) => if sel k = true then none else some x) = xs.take a := by
  have := keep_take (sel := sel) xs 0 a fun k _ hk => h k (by omega)
  rw [Nat.sub_zero] at this
  exact this
theorem delItem_tail {prog : Program} {w : World} {A : Around} {E : Value → Shared → Prop} {s : Shared} {l sl : Addr} {items : Array Value} {n : Nat} {vl : Value} {a : Nat} {lo : Option Int} {Q : Unit → Shared → Prop}
    (e : s.heap.get? l = some { cls := Value.type "list", data := Data.seq items n }) (hs : s.heap.IsSliceOf sl vl Value.none Value.none) (pl : IsPart vl lo) (hbd : sliceBounds lo none none items.size = ((a : Int), (items.size : Int), 1)) (hz : items.size ≤ sizeLine)
    (h : ∀ f : Array Value → Array Value, f items = (items.toList.take a).toArray → Q () { heap := s.heap.update l (Obj.mapSeq f), gens := s.gens, drawn := s.drawn, toks := s.toks, os := s.os }) :
    wpAny (model prog w) A (delItem (Value.ref l) (Value.ref sl)) Q E s := by
  have hl : s.heap.IsList l items := IsL.isList e
  obtain ⟨os, hos, hcs, hds⟩ := id hs
  have hTs : s.TypeIs (Value.ref sl) "slice" := ⟨os, hos, hcs⟩
  refine wpAny_delItem_slot hl.typeIs (by decide) F.slot_list_delitem (wpAny_call_entry F.slot_list_delitem hl.typeIs F.entry_list_delitem ?_ (F.args_list_delitem_2 _ _))
  unfold Builtin.«list.__delitem__»
  refine wpAny_bind (wpAny_pure ?_)
  refine wpAny_bind ?_
  unfold Builtin.List.listSubscript?
  refine wpAny_bind (wpAny_specialOf hTs slice_no_index ?_)
  refine wpAny_pure ?_
  refine wpAny_bind (wpAny_typeOf hTs ?_)
  rw [if_neg (by decide)]
  refine wpAny_bind ?_
  rw [listSliceParts_eq]
  refine wpAny_bind (wpAny_field hos hds rfl (wpAny_bind (wpAny_listPart IsPart.none ?_)))
  rw [if_neg (by decide)]
  refine wpAny_bind (wpAny_field hos hds rfl (wpAny_bind (wpAny_listPart pl ?_)))
  refine wpAny_bind (wpAny_field hos hds rfl (wpAny_bind (wpAny_listPart IsPart.none (wpAny_pure ?_))))
  refine wpAny_bind (wpAny_listItems e rfl ?_)
  refine wpAny_bind (wpAny_of_eq (sliceIndices_raw lo none none items.size nofun) ?_)
  rw [hbd]
  refine wpAny_bind (wpAny_rule ?_)
  have key : ∀ k, k < items.toList.length → (if (1 : Int) > 0 then (decide ((a : Int) ≤ (k : Int)) && decide ((k : Int) < (items.size : Int)) && (((k : Int) - (a : Int)) % 1 == 0)) else (decide ((items.size : Int) < (k : Int)) && decide ((k : Int) ≤ (a : Int)) && (((a : Int) - (k : Int)) % (-1) == 0))) = decide (a ≤ k) := fun k hk => by
    have hk : k < items.size := by simpa using hk
    rw [if_pos (by decide), Int.emod_one]
    have h1 : decide ((k : Int) < (items.size : Int)) = true := decide_eq_true (by omega)
    rw [h1]
    simp
  refine wpAny_bind (PyProof.Rows.listUpdate_at e rfl ?_ (by omega) ?_)
  · refine wpAny_bind (wpAny_letGo (wpAny_pure ⟨_, rfl, ?_⟩))
    exact h _ (congrArg List.toArray (keep_take' items.toList a key))
  · refine Nat.le_trans (Nat.le_of_eq (congrArg Array.size (congrArg List.toArray (keep_take' items.toList a key)))) ?_
    rw [List.size_toArray, List.length_take]
    have : items.toList.length = items.size := by simp
    omega
/-- .. in the layer -/
theorem del_tail {X : Cx} {pins : List (Addr × Obj)} {s : Shared} {σ : L2.St} {H : Hp} {l sl : Addr} {xs : List V} {lo : Option Int} {vl : Value} {Q : Unit → Shared → Prop} (I : L2.Inv X pins σ H s) (hH : H l = some (.lst xs)) (hs : s.heap.IsSliceOf sl vl Value.none Value.none) (pl : IsPart vl lo) (hz : xs.length ≤ sizeLine)
    (h : ∀ s', L2.Inv X pins σ (upd H l (.lst (xs.take (HT.sIx xs.length 0 lo)))) s' → Q () s') : wpAny (model X.prog X.w) X.A (delItem (Value.ref l) (Value.ref sl)) Q X.xe s := by
  obtain ⟨z, its, n, r, hl, e⟩ := Inv.lstM I hH
  have q := slice_bounds lo none its.toArray.size
  have es : its.toArray.size = xs.length := by rw [List.size_toArray]; omega
  refine delItem_tail (a := HT.sIx xs.length 0 lo) e hs pl ?_ (by rw [es]; exact hz) fun f hf => h _ (Inv.lset I hH e hf (Vals.take _ r) ?_)
  · rw [es] at q
    rw [es]
    exact Prod.ext q.1 (Prod.ext q.2.1 q.2.2)
  · rw [List.length_take]
    omega
def _root_.L2.tDelS (to : TE) (tl : TO) : TS := fun D σ H => to σ H fun o H1 => tl σ H1 fun l H2 => ∃ (a : Addr) (xs : List V), o = .ref a ∧ H2 a = some (.lst xs) ∧ xs.length ≤ sizeLine ∧ D.nx σ (upd H2 a (.lst (xs.take (HT.sIx xs.length 0 l))))
theorem ps_delS {X : Cx} {o : Expr} {lo : Option Expr} {p2 tpos pos : Pos} {to : TE} {tl : TO} (ho : PE X o to) (hl : PO X lo tl) : PS X (.Delete [.Subscript o (.Slice lo none none p2) tpos] pos) (tDelS to tl) := by
  refine ⟨fun pins s σ H D I h => ?_⟩
  refine wpAny_Delete (wpAny_deleteEach_cons (wpAny_delete_Subscript (thn (ho.run pins s σ H _ I h) fun u s1 ⟨x, H1, I1, rx, q1⟩ => wpAny_Slice (thn (hl.run pins s1 σ H1 _ I1 q1) ?_))))
  rintro vl s2 ⟨k, H2, I2, pl, q2⟩
  rw [evalPart_none]
  refine wpAny_pure ?_
  refine wpAny_pure ?_
  have I4 := Inv.kept (t' := s2.toks) I2 fun b ob q => Heap.get?_push_of_some { cls := Value.type "slice", data := Data.fields #[vl, Value.none, Value.none] } q
  obtain ⟨a, xs, rfl, g1, g2, g3⟩ := q2
  cases rx
  exact del_tail I4 g1 (Heap.IsSliceOf.new s2.1 vl Value.none Value.none) pl g2 fun s3 I3 => wpAny_deleteEach_nil ⟨σ, _, I3, g3⟩
/-! the plain meaning -/
def delSl0 (o : Val) (lo : Option Int) (S : Sto) (Kn : Sto → Prop) : Prop := putI o S fun a xs => xs.length ≤ sizeLine ∧ Kn (S.put a (.lst (xs.take (HT.sIx xs.length 0 lo))))
structure delSl (o : Val) (lo : Option Int) (S : Sto) (Kn : Sto → Prop) : Prop where
  h : delSl0 o lo S Kn
@[reducible] def sdelI (o : IE) (lo : IO) : IS := fun D ρ S => o ρ S (fun x S1 => lo ρ S1 (fun l S2 => delSl x l S2 fun S3 => D.nx ρ S3) (D.ex ρ)) (D.ex ρ)
section
variable {X : Cx} {W : WX} {o : Expr} {lo : Option Expr} {mo : IE} {ml : IO} {p p2 pos : Pos}
theorem ss_sdel (ho : PE X o (liftE X.K W mo)) (hl : PO X lo (liftO X.K W ml)) : PS X (.Delete [.Subscript o (.Slice lo none none p2) p] pos) (liftS X.K W (sdelI mo ml)) :=
  (ps_delS ho hl).imp fun D σ H ⟨ρ, S, B, Di, R, h, d⟩ => ⟨ρ, S, B, _, _, R, h, fun u S1 y H1 ru hr1 e1 h1 => ⟨ρ, S1, B, _, _, R.ext e1 hr1, h1, fun l S2 H2 hr2 e2 h2 => by
      have ru := ru.ext e2
      replace h2 := h2.h
      unfold delSl0 putI at h2
      split at h2
      · cases ru
        split at h2
        · rename_i a _ ys q0
          obtain ⟨us, g1, g2⟩ := hr2.ok _ _ q0
          obtain ⟨t1, h3⟩ := h2
          have l1 := g2.length
          rw [l1] at t1 h3
          have e5 : Ext S2 (S2.put a (.lst (ys.take (HT.sIx us.length 0 l)))) H2 (upd H2 a (.lst (us.take (HT.sIx us.length 0 l)))) := Ext.write q0
          have ea := e1.trans (e2.trans e5)
          exact ⟨a, us, rfl, g1, t1, d.nx ρ _ σ _ (R.ext ea (hr2.write (c := .lst _) q0 ⟨_, upd_same, (g2.take _).ext e5⟩)) ea h3⟩
        · exact h2.elim
      · exact h2.elim,
      (d.ext e1).er (R.st.ext e1)⟩, d.er R.st⟩
end
end TL

set_option maxHeartbeats 1000000
/-! TLq: tuple(zip(t, l)) of a tuple and a list, told whole. Two iterators of any sort, told by what they do (Itr). -/
namespace TLQ
open PySem PySem.Spec L2
open PyProof.Rows hiding St
/-- the iterator at i walks ys, which lies at l; St h k: it stands at k -/
structure Itr (prog : Program) (w : World) (i l : Addr) (ys : Array Value) (St : Heap → Nat → Prop) : Prop where
  item : ∀ {A : Around} {E : Value → Shared → Prop} {s : Shared} {k : Nat} {y : Value} {Q : Value → Shared → Prop}, St s.heap k → ys[k]? = some y → (∀ h', St h' (k + 1) → Heap.SameBut i s.heap h' → Q y { s with heap := h' }) → wpAny (model prog w) A (Builtin.SmallTypes.nextOf (.ref i)) Q E s
  fin : ∀ {A : Around} {E : Value → Shared → Prop} {s : Shared} {k : Nat} {Q : Value → Shared → Prop}, A.handled = none → St s.heap k → ys[k]? = none → (∀ h' e, Heap.ExtBut i s.heap h' → (∃ o, h'.get? e = some o ∧ o.cls = .type "StopIteration") → E (.ref e) { s with heap := h' }) → wpAny (model prog w) A (Builtin.SmallTypes.nextOf (.ref i)) Q E s
  keep : ∀ {h h' : Heap} {k : Nat}, St h k → (∀ b o, b = i ∨ b = l → h.get? b = some o → h'.get? b = some o) → St h' k
section
variable {prog : Program} {w : World} {i l : Addr} {ys : Array Value}
theorem itr_tup (hne : l ≠ i) : Itr prog w i l ys fun h k => h.IsTupleIter i l k ∧ h.IsTuple l ys where
  item := fun ⟨a, b⟩ e q => RZ.nextOf_tuple_item a b e fun h' c d => q h' ⟨c, b.extBut d.extBut hne⟩ d
  fin := fun hh ⟨a, b⟩ e q => RZ.nextOf_tuple_end hh a b e q
  keep := fun ⟨a, o, e, r⟩ f => ⟨a.at fun o e => f _ o (.inl rfl) e, o, f _ _ (.inr rfl) e, r⟩
theorem itr_lst (hne : l ≠ i) : Itr prog w i l ys fun h k => h.IsListIter i l k ∧ h.IsList l ys where
  item := fun ⟨a, b⟩ e q => wpAny_nextOf_list_item a b e fun h' c d => q h' ⟨c, b.extBut d.extBut hne⟩ d
  fin := fun hh ⟨a, b⟩ e q => wpAny_nextOf_list_end hh a b e q
  keep := fun ⟨⟨o1, e1, r1⟩, o, e, r⟩ f => ⟨⟨o1, f _ _ (.inl rfl) e1, r1⟩, o, f _ _ (.inr rfl) e, r⟩
end
/-- the zip at n + 4, made of what lies at l1, l2 below n -/
def Out (n S : Nat) (h : Heap) : Prop := (IsZip h (n + 4) (n + 2) (n + 3) .none ∧ ∃ x y, IsPair h (n + 3) x y) ∨ ∃ (T : Nat) (f : Bool) (oT : Obj), IsZipHeld h (n + 4) (n + 2) (n + 3) T f ∧ h.get? T = some oT ∧ n + 5 ≤ T ∧ T ≠ S
structure ZS (S1 S2 : Heap → Nat → Prop) (n S : Nat) (h : Heap) (k : Nat) : Prop where
  pair : IsPair h (n + 2) (.ref n) (.ref (n + 1))
  a : S1 h k
  b : S2 h k
  out : Out n S h
section
variable {prog : Program} {w : World} {A : Around} {E : Value → Shared → Prop} {s : Shared} {n l1 l2 S : Nat} {xs ys : Array Value} {S1 S2 : Heap → Nat → Prop} {k : Nat}
/-- what a step keeps -/
def Kept (n : Nat) (h h' : Heap) : Prop := ∀ (c : Nat) (o : Obj), (c < n ∨ n + 5 ≤ c) → h.get? c = some o → h'.get? c = some o
theorem step_item (h1 : l1 < n) (h2 : l2 < n) (J1 : Itr prog w n l1 xs S1) (J2 : Itr prog w (n + 1) l2 ys S2) {x y : Value} {Q : Value → Shared → Prop} (Z : ZS S1 S2 n S s.heap k) (hS : S < s.heap.objs.size) (hx : xs[k]? = some x) (hy : ys[k]? = some y)
    (q : ∀ h', ZS S1 S2 n S h' (k + 1) → IsPair h' s.heap.objs.size x y → h'.objs.size = s.heap.objs.size + 1 → Kept n s.heap h' → Q (.ref s.heap.objs.size) { s with heap := h' }) :
    wpAny (model prog w) A (Builtin.«zip.__next__» ⟨[.ref (n + 4)], []⟩) (fun fin s' => ∃ v, fin = .done (.ret v) ∧ Q v s') E s := by
  obtain ⟨hp, ha, hb, ho⟩ := Z
  rcases ho with ⟨hz, p0, q0, hTO⟩ | ⟨T, f, oT, hz, hT, t1, t2⟩
  · show wpAny _ _ (field (.ref (n + 4)) 2 >>= _) _ _ _
    refine wpAny_bind (wpAny_field hz rfl (x := .bool false) rfl ?_)
    show wpAny _ _ (field (.ref (n + 4)) 3 >>= _) _ _ _
    refine wpAny_bind (wpAny_field hz rfl (x := .ref (n + 2)) rfl (wpAny_bind (wpAny_seqItems hp rfl ?_)))
    show wpAny _ _ (Builtin.SmallTypes.ownedTupleIsFree (.ref (n + 4)) >>= _) _ _ _
    refine wpAny_bind ?_
    unfold Builtin.SmallTypes.ownedTupleIsFree
    refine wpAny_bind (wpAny_field hz rfl (x := .none) rfl (wpAny_pure ?_))
    simp only [if_true]
    refine wpAny_bind (wpAny_rule (wpAny_bind (wpAny_field hz rfl (x := .ref (n + 3)) rfl (wpAny_bind (wpAny_setField_rec hz (by simp) fun g1 z1 e1 => ?_)))))
    replace z1 : IsZip g1 (n + 4) (n + 2) (n + 3) .ellipsis := z1
    refine wpAny_bind ?_
    simp only [List.zipIdx_cons, List.zipIdx_nil, List.forIn_cons, List.forIn_nil]
    refine wpAny_bind (wpAny_bind (wpAny_onRaise ?_))
    show wpAny _ _ (Builtin.SmallTypes.nextOf (.ref n) >>= _) _ _ _
    have a1 : S1 g1 k := J1.keep ha fun b o hbo e => e1.extBut _ _ (by rcases hbo with rfl | rfl <;> (first | omega | (show @Ne Nat _ _; omega))) e
    have b1 : S2 g1 k := J2.keep hb fun b o hbo e => e1.extBut _ _ (by rcases hbo with rfl | rfl <;> (first | omega | (show @Ne Nat _ _; omega))) e
    refine wpAny_bind (J1.item (s := { s with heap := g1 }) a1 hx fun g2 a2 e2 => wpAny_pure ?_)
    have o2 : IsPair g2 (n + 3) p0 q0 := e2.extBut _ _ (by (first | omega | (show @Ne Nat _ _; omega))) (e1.extBut _ _ (by (first | omega | (show @Ne Nat _ _; omega))) hTO)
    refine wpAny_bind (wpAny_seqItems o2 rfl (wpAny_bind (wpAny_updateSeq_pair o2 fun g3 o3 e3 => wpAny_bind (wpAny_letGo (wpAny_pure ?_)))))
    replace o3 : IsPair g3 (n + 3) x q0 := o3
    refine wpAny_bind (wpAny_bind (wpAny_onRaise ?_))
    show wpAny _ _ (Builtin.SmallTypes.nextOf (.ref (n + 1)) >>= _) _ _ _
    have b3 : S2 g3 k := J2.keep b1 fun b o hbo e => e3.extBut _ _ (by rcases hbo with rfl | rfl <;> (first | omega | (show @Ne Nat _ _; omega))) (e2.extBut _ _ (by rcases hbo with rfl | rfl <;> (first | omega | (show @Ne Nat _ _; omega))) e)
    refine wpAny_bind (J2.item (s := { s with heap := g3 }) b3 hy fun g4 b4 e4 => wpAny_pure ?_)
    have o4 : IsPair g4 (n + 3) x q0 := e4.extBut _ _ (by (first | omega | (show @Ne Nat _ _; omega))) o3
    refine wpAny_bind (wpAny_seqItems o4 rfl (wpAny_bind (wpAny_updateSeq_pair o4 fun g5 o5 e5 => wpAny_bind (wpAny_letGo (wpAny_pure (wpAny_pure ?_))))))
    replace o5 : IsPair g5 (n + 3) x y := o5
    refine wpAny_bind (wpAny_seqItems o5 rfl (wpAny_bind (wpAny_newTuple ?_)))
    have sz : g5.objs.size = s.heap.objs.size := by rw [e5.1, e4.1, e3.1, e2.1, e1.1]
    have z5 : IsZip g5 (n + 4) (n + 2) (n + 3) .ellipsis := e5.extBut _ _ (by (first | omega | (show @Ne Nat _ _; omega))) (e4.extBut _ _ (by (first | omega | (show @Ne Nat _ _; omega))) (e3.extBut _ _ (by (first | omega | (show @Ne Nat _ _; omega))) (e2.extBut _ _ (by (first | omega | (show @Ne Nat _ _; omega))) z1)))
    have kp5 : ∀ (c : Nat) (o : Obj), c ≠ n → c ≠ n + 1 → c ≠ n + 3 → c ≠ n + 4 → s.heap.get? c = some o → g5.get? c = some o := fun c o c1 c2 c3 c4 e => e5.extBut _ _ c3 (e4.extBut _ _ c2 (e3.extBut _ _ c3 (e2.extBut _ _ c1 (e1.extBut _ _ c4 e))))
    have a5 : S1 g5 (k + 1) := J1.keep a2 fun b o hbo e => e5.extBut _ _ (by rcases hbo with rfl | rfl <;> (first | omega | (show @Ne Nat _ _; omega))) (e4.extBut _ _ (by rcases hbo with rfl | rfl <;> (first | omega | (show @Ne Nat _ _; omega))) (e3.extBut _ _ (by rcases hbo with rfl | rfl <;> (first | omega | (show @Ne Nat _ _; omega))) e))
    have b5 : S2 g5 (k + 1) := J2.keep b4 fun b o hbo e => e5.extBut _ _ (by rcases hbo with rfl | rfl <;> (first | omega | (show @Ne Nat _ _; omega))) e
    have zl : n + 4 < g5.objs.size := Heap.lt_size z5
    show wpAny _ _ (Builtin.SmallTypes.ownedTupleHandOut (.ref (n + 4)) (.ref g5.objs.size) >>= _) _ _ _
    refine wpAny_bind ?_
    unfold Builtin.SmallTypes.ownedTupleHandOut
    refine wpAny_bind (wpAny_setField_rec (Heap.get?_push_of_some _ z5) (by simp) fun g7 z7 e7 => ?_)
    replace z7 : IsZip g7 (n + 4) (n + 2) (n + 3) (rawInt g5.objs.size) := z7
    refine wpAny_setField_rec z7 (by simp) fun g8 z8 e8 => wpAny_pure ⟨_, rfl, ?_⟩
    replace z8 : IsZipHeld g8 (n + 4) (n + 2) (n + 3) g5.objs.size false := z8
    have up : ∀ (c : Nat) (o : Obj), c ≠ n + 4 → g5.get? c = some o → g8.get? c = some o := fun c o c1 e => e8.extBut _ _ c1 (e7.extBut _ _ c1 (Heap.get?_push_of_some _ e))
    have t8 : IsPair g8 g5.objs.size x y := e8.extBut _ _ (by (first | omega | (show @Ne Nat _ _; omega))) (e7.extBut _ _ (by (first | omega | (show @Ne Nat _ _; omega))) (Heap.get?_push_size _ rfl))
    have s8 : g8.objs.size = g5.objs.size + 1 := by rw [e8.1, e7.1, Heap.size_push]
    show Q (.ref g5.objs.size) _
    rw [sz] at t8 s8 z8 zl ⊢
    exact q g8 ⟨up _ _ (by (first | omega | (show @Ne Nat _ _; omega))) (kp5 _ _ (by (first | omega | (show @Ne Nat _ _; omega))) (by (first | omega | (show @Ne Nat _ _; omega))) (by (first | omega | (show @Ne Nat _ _; omega))) (by (first | omega | (show @Ne Nat _ _; omega))) hp), J1.keep a5 fun b o hbo e => up _ _ (by rcases hbo with rfl | rfl <;> (first | omega | (show @Ne Nat _ _; omega))) e, J2.keep b5 fun b o hbo e => up _ _ (by rcases hbo with rfl | rfl <;> (first | omega | (show @Ne Nat _ _; omega))) e, .inr ⟨_, false, _, z8, t8, by (first | omega | (show @Ne Nat _ _; omega)), by (first | omega | (show @Ne Nat _ _; omega))⟩⟩ t8 s8 fun c o hc e => up c o (by (first | omega | (show @Ne Nat _ _; omega))) (kp5 c o (by (first | omega | (show @Ne Nat _ _; omega))) (by (first | omega | (show @Ne Nat _ _; omega))) (by (first | omega | (show @Ne Nat _ _; omega))) (by (first | omega | (show @Ne Nat _ _; omega))) e)
  · show wpAny _ _ (field (.ref (n + 4)) 2 >>= _) _ _ _
    refine wpAny_bind (wpAny_field hz rfl (x := .bool false) rfl ?_)
    show wpAny _ _ (field (.ref (n + 4)) 3 >>= _) _ _ _
    refine wpAny_bind (wpAny_field hz rfl (x := .ref (n + 2)) rfl (wpAny_bind (wpAny_seqItems hp rfl ?_)))
    show wpAny _ _ (Builtin.SmallTypes.ownedTupleIsFree (.ref (n + 4)) >>= _) _ _ _
    refine wpAny_bind (wpAny_tupleHeld_zip hz hT fun g1 z1 e1 => ?_)
    simp only [Bool.false_eq_true, if_false]
    refine wpAny_bind ?_
    rw [← Array.forIn_toList]
    simp only [List.forIn_cons, List.forIn_nil]
    refine wpAny_bind (wpAny_bind (wpAny_holding ?_))
    show wpAny _ _ (Builtin.SmallTypes.nextOf (.ref n) >>= _) _ _ _
    have a1 : S1 g1 k := J1.keep ha fun b o hbo e => e1.extBut _ _ (by rcases hbo with rfl | rfl <;> (first | omega | (show @Ne Nat _ _; omega))) e
    have b1 : S2 g1 k := J2.keep hb fun b o hbo e => e1.extBut _ _ (by rcases hbo with rfl | rfl <;> (first | omega | (show @Ne Nat _ _; omega))) e
    refine wpAny_bind (J1.item (s := { s with heap := g1 }) a1 hx fun g2 a2 e2 => wpAny_pure (wpAny_pure ?_))
    refine wpAny_bind (wpAny_bind (wpAny_holding ?_))
    show wpAny _ _ (Builtin.SmallTypes.nextOf (.ref (n + 1)) >>= _) _ _ _
    have b2 : S2 g2 k := J2.keep b1 fun b o hbo e => e2.extBut _ _ (by rcases hbo with rfl | rfl <;> (first | omega | (show @Ne Nat _ _; omega))) e
    refine wpAny_bind (J2.item (s := { s with heap := g2 }) b2 hy fun g3 b3 e3 => wpAny_pure (wpAny_pure (wpAny_pure ?_)))
    show wpAny _ _ (newTuple [x, y] >>= _) _ _ _
    refine wpAny_bind (wpAny_newTuple ?_)
    have sz : g3.objs.size = s.heap.objs.size := by rw [e3.1, e2.1, e1.1]
    have z3 : IsZipHeld g3 (n + 4) (n + 2) (n + 3) T true := e3.extBut _ _ (by (first | omega | (show @Ne Nat _ _; omega))) (e2.extBut _ _ (by (first | omega | (show @Ne Nat _ _; omega))) z1)
    have kp : ∀ (c : Nat) (o : Obj), c ≠ n → c ≠ n + 1 → c ≠ n + 4 → s.heap.get? c = some o → g3.get? c = some o := fun c o c1 c2 c4 e => e3.extBut _ _ c2 (e2.extBut _ _ c1 (e1.extBut _ _ c4 e))
    have a3 : S1 g3 (k + 1) := J1.keep a2 fun b o hbo e => e3.extBut _ _ (by rcases hbo with rfl | rfl <;> (first | omega | (show @Ne Nat _ _; omega))) e
    refine wpAny_pure ⟨_, rfl, ?_⟩
    show Q (.ref g3.objs.size) _
    have t4 : IsPair (g3.push { cls := .type "tuple", data := .seq #[x, y] }) g3.objs.size x y := Heap.get?_push_size _ rfl
    have s4 : (g3.push { cls := .type "tuple", data := .seq #[x, y] }).objs.size = g3.objs.size + 1 := Heap.size_push ..
    rw [sz] at t4 s4 ⊢
    exact q _ ⟨Heap.get?_push_of_some _ (kp _ _ (by (first | omega | (show @Ne Nat _ _; omega))) (by (first | omega | (show @Ne Nat _ _; omega))) (by (first | omega | (show @Ne Nat _ _; omega))) hp), J1.keep a3 fun b o _ e => Heap.get?_push_of_some _ e, J2.keep b3 fun b o _ e => Heap.get?_push_of_some _ e, .inr ⟨T, true, oT, Heap.get?_push_of_some _ z3, Heap.get?_push_of_some _ (kp _ _ (by (first | omega | (show @Ne Nat _ _; omega))) (by (first | omega | (show @Ne Nat _ _; omega))) (by (first | omega | (show @Ne Nat _ _; omega))) hT), t1, t2⟩⟩ t4 s4 fun c o hc e => Heap.get?_push_of_some _ (kp c o (by (first | omega | (show @Ne Nat _ _; omega))) (by (first | omega | (show @Ne Nat _ _; omega))) (by (first | omega | (show @Ne Nat _ _; omega))) e)
theorem step_end (hh : A.handled = none) (h1 : l1 < n) (h2 : l2 < n) (J1 : Itr prog w n l1 xs S1) (J2 : Itr prog w (n + 1) l2 ys S2) {Q : Fin → Shared → Prop} (Z : ZS S1 S2 n S s.heap k) (hend : xs[k]? = none ∨ ys[k]? = none)
    (q : ∀ h' e, Kept n s.heap h' → (∃ o, h'.get? e = some o ∧ o.cls = .type "StopIteration") → E (.ref e) { s with heap := h' }) :
    wpAny (model prog w) A (Builtin.«zip.__next__» ⟨[.ref (n + 4)], []⟩) Q E s := by
  obtain ⟨hp, ha, hb, ho⟩ := Z
  rcases ho with ⟨hz, p0, q0, hTO⟩ | ⟨T, f, oT, hz, hT, t1, t2⟩
  · show wpAny _ _ (field (.ref (n + 4)) 2 >>= _) _ _ _
    refine wpAny_bind (wpAny_field hz rfl (x := .bool false) rfl ?_)
    show wpAny _ _ (field (.ref (n + 4)) 3 >>= _) _ _ _
    refine wpAny_bind (wpAny_field hz rfl (x := .ref (n + 2)) rfl (wpAny_bind (wpAny_seqItems hp rfl ?_)))
    show wpAny _ _ (Builtin.SmallTypes.ownedTupleIsFree (.ref (n + 4)) >>= _) _ _ _
    refine wpAny_bind ?_
    unfold Builtin.SmallTypes.ownedTupleIsFree
    refine wpAny_bind (wpAny_field hz rfl (x := .none) rfl (wpAny_pure ?_))
    simp only [if_true]
    refine wpAny_bind (wpAny_rule (wpAny_bind (wpAny_field hz rfl (x := .ref (n + 3)) rfl (wpAny_bind (wpAny_setField_rec hz (by simp) fun g1 z1 e1 => ?_)))))
    replace z1 : IsZip g1 (n + 4) (n + 2) (n + 3) .ellipsis := z1
    refine wpAny_bind ?_
    simp only [List.zipIdx_cons, List.zipIdx_nil, List.forIn_cons, List.forIn_nil]
    refine wpAny_bind (wpAny_bind (wpAny_onRaise ?_))
    show wpAny _ _ (Builtin.SmallTypes.nextOf (.ref n) >>= _) _ _ _
    have a1 : S1 g1 k := J1.keep ha fun b o hbo e => e1.extBut _ _ (by rcases hbo with rfl | rfl <;> (first | omega | (show @Ne Nat _ _; omega))) e
    have b1 : S2 g1 k := J2.keep hb fun b o hbo e => e1.extBut _ _ (by rcases hbo with rfl | rfl <;> (first | omega | (show @Ne Nat _ _; omega))) e
    cases hx : xs[k]? with
    | none =>
      refine wpAny_bind (J1.fin (s := { s with heap := g1 }) hh a1 hx fun g2 e e2 he => ?_)
      obtain ⟨oe, hoe, hce⟩ := he
      have z2 : IsZip g2 (n + 4) (n + 2) (n + 3) .ellipsis := e2 _ _ (by (first | omega | (show @Ne Nat _ _; omega))) z1
      have hez : e ≠ n + 4 := fun x => by subst x; rw [z2] at hoe; cases hoe; simp at hce
      exact wpAny_setField_rec z2 (by simp) fun g3 _ e3 => q g3 e (fun c o hc x => e3.extBut _ _ (by (first | omega | (show @Ne Nat _ _; omega))) (e2 _ _ (by (first | omega | (show @Ne Nat _ _; omega))) (e1.extBut _ _ (by (first | omega | (show @Ne Nat _ _; omega))) x))) ⟨oe, e3.extBut _ _ hez hoe, hce⟩
    | some x =>
      have hy : ys[k]? = none := by rcases hend with h | h; rw [hx] at h; cases h; exact h
      refine wpAny_bind (J1.item (s := { s with heap := g1 }) a1 hx fun g2 a2 e2 => wpAny_pure ?_)
      have o2 : IsPair g2 (n + 3) p0 q0 := e2.extBut _ _ (by (first | omega | (show @Ne Nat _ _; omega))) (e1.extBut _ _ (by (first | omega | (show @Ne Nat _ _; omega))) hTO)
      refine wpAny_bind (wpAny_seqItems o2 rfl (wpAny_bind (wpAny_updateSeq_pair o2 fun g3 o3 e3 => wpAny_bind (wpAny_letGo (wpAny_pure ?_)))))
      refine wpAny_bind (wpAny_bind (wpAny_onRaise ?_))
      show wpAny _ _ (Builtin.SmallTypes.nextOf (.ref (n + 1)) >>= _) _ _ _
      have b3 : S2 g3 k := J2.keep b1 fun b o hbo e => e3.extBut _ _ (by rcases hbo with rfl | rfl <;> (first | omega | (show @Ne Nat _ _; omega))) (e2.extBut _ _ (by rcases hbo with rfl | rfl <;> (first | omega | (show @Ne Nat _ _; omega))) e)
      refine wpAny_bind (J2.fin (s := { s with heap := g3 }) hh b3 hy fun g4 e e4 he => ?_)
      obtain ⟨oe, hoe, hce⟩ := he
      have z4 : IsZip g4 (n + 4) (n + 2) (n + 3) .ellipsis := e4 _ _ (by (first | omega | (show @Ne Nat _ _; omega))) (e3.extBut _ _ (by (first | omega | (show @Ne Nat _ _; omega))) (e2.extBut _ _ (by (first | omega | (show @Ne Nat _ _; omega))) z1))
      have hez : e ≠ n + 4 := fun x => by subst x; rw [z4] at hoe; cases hoe; simp at hce
      exact wpAny_setField_rec z4 (by simp) fun g5 _ e5 => q g5 e (fun c o hc x => e5.extBut _ _ (by (first | omega | (show @Ne Nat _ _; omega))) (e4 _ _ (by (first | omega | (show @Ne Nat _ _; omega))) (e3.extBut _ _ (by (first | omega | (show @Ne Nat _ _; omega))) (e2.extBut _ _ (by (first | omega | (show @Ne Nat _ _; omega))) (e1.extBut _ _ (by (first | omega | (show @Ne Nat _ _; omega))) x))))) ⟨oe, e5.extBut _ _ hez hoe, hce⟩
  · show wpAny _ _ (field (.ref (n + 4)) 2 >>= _) _ _ _
    refine wpAny_bind (wpAny_field hz rfl (x := .bool false) rfl ?_)
    show wpAny _ _ (field (.ref (n + 4)) 3 >>= _) _ _ _
    refine wpAny_bind (wpAny_field hz rfl (x := .ref (n + 2)) rfl (wpAny_bind (wpAny_seqItems hp rfl ?_)))
    show wpAny _ _ (Builtin.SmallTypes.ownedTupleIsFree (.ref (n + 4)) >>= _) _ _ _
    refine wpAny_bind (wpAny_tupleHeld_zip hz hT fun g1 z1 e1 => ?_)
    simp only [Bool.false_eq_true, if_false]
    refine wpAny_bind ?_
    rw [← Array.forIn_toList]
    simp only [List.forIn_cons, List.forIn_nil]
    refine wpAny_bind (wpAny_bind (wpAny_holding ?_))
    show wpAny _ _ (Builtin.SmallTypes.nextOf (.ref n) >>= _) _ _ _
    have a1 : S1 g1 k := J1.keep ha fun b o hbo e => e1.extBut _ _ (by rcases hbo with rfl | rfl <;> (first | omega | (show @Ne Nat _ _; omega))) e
    have b1 : S2 g1 k := J2.keep hb fun b o hbo e => e1.extBut _ _ (by rcases hbo with rfl | rfl <;> (first | omega | (show @Ne Nat _ _; omega))) e
    cases hx : xs[k]? with
    | none => exact wpAny_bind (J1.fin (s := { s with heap := g1 }) hh a1 hx fun g2 e e2 he => q g2 e (fun c o hc x => e2 _ _ (by (first | omega | (show @Ne Nat _ _; omega))) (e1.extBut _ _ (by (first | omega | (show @Ne Nat _ _; omega))) x)) he)
    | some x =>
      have hy : ys[k]? = none := by rcases hend with h | h; rw [hx] at h; cases h; exact h
      refine wpAny_bind (J1.item (s := { s with heap := g1 }) a1 hx fun g2 a2 e2 => wpAny_pure (wpAny_pure ?_))
      refine wpAny_bind (wpAny_bind (wpAny_holding ?_))
      show wpAny _ _ (Builtin.SmallTypes.nextOf (.ref (n + 1)) >>= _) _ _ _
      have b2 : S2 g2 k := J2.keep b1 fun b o hbo e => e2.extBut _ _ (by rcases hbo with rfl | rfl <;> (first | omega | (show @Ne Nat _ _; omega))) e
      exact wpAny_bind (J2.fin (s := { s with heap := g2 }) hh b2 hy fun g3 e e3 he => q g3 e (fun c o hc x => e3 _ _ (by (first | omega | (show @Ne Nat _ _; omega))) (e2.extBut _ _ (by (first | omega | (show @Ne Nat _ _; omega))) (e1.extBut _ _ (by (first | omega | (show @Ne Nat _ _; omega))) x))) he)
theorem zip_typ {h : Heap} (o : Out n S h) : ∃ ob, h.get? (n + 4) = some ob ∧ ob.cls = .type "zip" := by
  rcases o with ⟨hz, _⟩ | ⟨T, f, oT, hz, _⟩
  · exact ⟨_, hz, rfl⟩
  · exact ⟨_, hz, rfl⟩
theorem nx_item (h1 : l1 < n) (h2 : l2 < n) (J1 : Itr prog w n l1 xs S1) (J2 : Itr prog w (n + 1) l2 ys S2) {x y : Value} {Q : Option Value → Shared → Prop} (Z : ZS S1 S2 n S s.heap k) (hS : S < s.heap.objs.size) (hx : xs[k]? = some x) (hy : ys[k]? = some y)
    (q : ∀ h', ZS S1 S2 n S h' (k + 1) → IsPair h' s.heap.objs.size x y → h'.objs.size = s.heap.objs.size + 1 → Kept n s.heap h' → Q (some (.ref s.heap.objs.size)) { s with heap := h' }) : wpAny (model prog w) A (pyNext (.ref (n + 4))) Q E s := by
  have ty : s.TypeIs (.ref (n + 4)) "zip" := zip_typ Z.out
  unfold pyNext
  exact wpAny_bind (wpAny_attempt (wpAny_callSpecial?_slot (name := Str.ofString "__next__") ty F.slot_zip_next (wpAny_call_entry F.slot_zip_next ty F.entry_zip_next (step_item h1 h2 J1 J2 Z hS hx hy fun h' a b c d => wpAny_pure (q h' a b c d)) (F.args_zip_next_1 _))))
theorem nx_end (hh : A.handled = none) (h1 : l1 < n) (h2 : l2 < n) (J1 : Itr prog w n l1 xs S1) (J2 : Itr prog w (n + 1) l2 ys S2) {Q : Option Value → Shared → Prop} (Z : ZS S1 S2 n S s.heap k) (hend : xs[k]? = none ∨ ys[k]? = none)
    (q : ∀ h', Kept n s.heap h' → Q none { s with heap := h' }) : wpAny (model prog w) A (pyNext (.ref (n + 4))) Q E s := by
  have ty : s.TypeIs (.ref (n + 4)) "zip" := zip_typ Z.out
  unfold pyNext
  refine wpAny_bind (wpAny_attempt (wpAny_callSpecial?_slot (name := Str.ofString "__next__") ty F.slot_zip_next (wpAny_call_entry F.slot_zip_next ty F.entry_zip_next (step_end (A := A.in1) hh h1 h2 J1 J2 Z hend fun h' e hk he => ?_) (F.args_zip_next_1 _))))
  exact wpAny_bind (wpAny_isInstance (T := "StopIteration") (b := true) he isSubtype_stop (wpAny_pure (q _ hk)))
end
section
variable {prog : Program} {w : World} {A : Around} {E : Value → Shared → Prop} {s : Shared} {n l1 l2 S m : Nat} {xs ys : Array Value} {S1 S2 : Heap → Nat → Prop}
theorem ZS.up (J1 : Itr prog w n l1 xs S1) (J2 : Itr prog w (n + 1) l2 ys S2) (h1 : l1 < n) (h2 : l2 < n) (hS : n + 5 ≤ S) {h h' : Heap} {k : Nat} (Z : ZS S1 S2 n S h k) (f : ∀ (b : Nat) (o : Obj), b ≠ S → h.get? b = some o → h'.get? b = some o) : ZS S1 S2 n S h' k :=
  ⟨f _ _ (by (first | omega | (show @Ne Nat _ _; omega))) Z.pair, J1.keep Z.a fun b o hb e => f b o (by rcases hb with rfl | rfl <;> (first | omega | (show @Ne Nat _ _; omega))) e, J2.keep Z.b fun b o hb e => f b o (by rcases hb with rfl | rfl <;> (first | omega | (show @Ne Nat _ _; omega))) e,
    Z.out.elim (fun ⟨a, x, y, b⟩ => .inl ⟨f _ _ (by (first | omega | (show @Ne Nat _ _; omega))) a, x, y, f _ _ (by (first | omega | (show @Ne Nat _ _; omega))) b⟩) fun ⟨T, g, oT, a, b, c, d⟩ => .inr ⟨T, g, oT, f _ _ (by (first | omega | (show @Ne Nat _ _; omega))) a, f _ _ d b, c, d⟩⟩
theorem loop {R : Result → Shared → Prop} (hh : A.handled = none) (h1 : l1 < n) (h2 : l2 < n) (hSn : n + 5 ≤ S) (J1 : Itr prog w n l1 xs S1) (J2 : Itr prog w (n + 1) l2 ys S2) (hm : m ≤ sizeLine) (mx : m ≤ xs.size) (my : m ≤ ys.size) (mm : m = xs.size ∨ m = ys.size) (res : Value) {h0 : Heap}
    (hR : ∀ h' tk acc c as, (∀ (b : Nat) (o : Obj), b ≠ S → (b < n ∨ n + 5 ≤ b) → h0.get? b = some o → h'.get? b = some o) → h'.get? S = some { cls := .type "list", dict := none, data := .seq acc c, slots := #[] } → as.length = m → TLZ.ZG xs ys S h' as → acc.toList = as.map Value.ref → R (.ok (.ret res)) { s with heap := h', toks := tk }) :
    ∀ (j i : Nat) (h : Heap) (tk c : Nat) (acc : Array Value) (as : List Addr), m - i = j → i ≤ m → ZS S1 S2 n S h i → (∀ (b : Nat) (o : Obj), b ≠ S → (b < n ∨ n + 5 ≤ b) → h0.get? b = some o → h.get? b = some o) →
      h.get? S = some { cls := .type "list", dict := none, data := .seq acc c, slots := #[] } → acc.toList = as.map Value.ref → as.length = i → TLZ.ZG xs ys S h as → codeAny (model prog w) A (.builtin "list.extend.loop" ⟨[.ref S, .ref (n + 4), res], []⟩) R { s with heap := h, toks := tk } := by
  intro j
  induction j with
  | zero =>
    intro i h tk c acc as hj hi Z hk hS hacc hal G
    have e : i = m := by omega
    refine codeAny_builtin PySem.F.entry_extend_loop ?_
    rw [Around.under_plainId PySem.F.plain_extend_loop _]
    show wpAny _ A.in1 (pyNext (.ref (n + 4)) >>= _) _ _ _
    refine wpAny_bind (nx_end (s := { s with heap := h, toks := tk }) (A := A.in1) hh h1 h2 J1 J2 Z (mm.elim (fun e => .inl (Array.getElem?_eq_none (by omega))) fun e => .inr (Array.getElem?_eq_none (by omega))) fun h' kp => ?_)
    refine wpAny_pure (hR h' tk acc c as (fun b o b1 b2 e => kp b o b2 (hk b o b1 b2 e)) (kp S _ (.inr hSn) hS) (by omega) ⟨G.rise, G.above, fun q a hq => ?_⟩ hacc)
    obtain ⟨x, y, e1, e2, e3⟩ := G.pairs q a hq
    have ha : S < a := G.above a (List.mem_of_getElem? hq)
    exact ⟨x, y, e1, e2, kp a _ (.inr (by omega)) e3⟩
  | succ j ih =>
    intro i h tk c acc as hj hi Z hk hS hacc hal G
    have hlt : i < m := by omega
    obtain ⟨x, hx⟩ : ∃ p, xs[i]? = some p := ⟨xs[i], Array.getElem?_eq_getElem (by omega)⟩
    obtain ⟨y, hy⟩ : ∃ p, ys[i]? = some p := ⟨ys[i], Array.getElem?_eq_getElem (by omega)⟩
    have hsz : acc.size = i := by rw [← Array.length_toList, hacc, List.length_map, hal]
    have hSl : S < h.objs.size := Heap.lt_size hS
    refine codeAny_builtin PySem.F.entry_extend_loop ?_
    rw [Around.under_plainId PySem.F.plain_extend_loop _]
    show wpAny _ A.in1 (pyNext (.ref (n + 4)) >>= _) _ _ _
    refine wpAny_bind (nx_item (s := { s with heap := h, toks := tk }) h1 h2 J1 J2 Z hSl hx hy fun h' Z' pr sz kp => ?_)
    dsimp only at pr sz kp ⊢
    have hS' := kp S _ (.inr hSn) hS
    have up : ∀ (b : Nat) (o : Obj), b ≠ S → h'.get? b = some o → (h'.update S (Obj.mapSeq (·.push (Value.ref h.objs.size)))).get? b = some o := fun b o hb e => (Heap.get?_update_other _ _ (Ne.symm hb)).trans e
    show wpAny _ A.in1 (updateSeq S (·.push (Value.ref h.objs.size)) >>= _) _ _ _
    refine wpAny_bind ?_
    refine wpAny_updateSeq hS' rfl (wpAny_pure ⟨plainId_quiet PySem.F.plain_extend_loop _, ih (i + 1) _ tk _ (acc.push (Value.ref h.objs.size)) (as ++ [h.objs.size]) (by omega) hlt
      (Z'.up J1 J2 h1 h2 hSn up) (fun b o b1 b2 e => up b o b1 (kp b o b2 (hk b o b1 b2 e))) (Heap.get?_update_self _ hS' rfl) (by rw [Array.toList_push, hacc, List.map_append]; rfl) (by rw [List.length_append, hal]; rfl) ⟨?_, ?_, ?_⟩⟩) (by rw [hsz]; omega) (by show (acc.push (Value.ref h.objs.size)).size ≤ sizeLine + 1; rw [Array.size_push, hsz]; omega)
    · refine List.pairwise_append.mpr ⟨G.rise, List.pairwise_singleton _ _, fun a ha b hb => ?_⟩
      rw [List.mem_singleton.mp hb]
      exact G.there ha
    · intro a ha
      rcases List.mem_append.mp ha with ha | ha
      · exact G.above a ha
      · rw [List.mem_singleton.mp ha]
        exact hSl
    · intro q b hq
      rcases Nat.lt_trichotomy q as.length with g | g | g
      · rw [List.getElem?_append_left g] at hq
        obtain ⟨x', y', e1, e2, e3⟩ := G.pairs q b hq
        have hb : S < b := G.above b (List.mem_of_getElem? hq)
        exact ⟨x', y', e1, e2, up b _ (by (first | omega | (show @Ne Nat _ _; omega))) (kp b _ (.inr (by omega)) e3)⟩
      · subst g
        have hb : h.objs.size = b := by simpa using hq
        subst hb
        exact ⟨x, y, by rw [hal]; exact hx, by rw [hal]; exact hy, up _ _ (Nat.ne_of_gt hSl) pr⟩
      · have hnone : (as ++ [h.objs.size])[q]? = none := List.getElem?_eq_none (by rw [List.length_append, List.length_singleton]; omega)
        rw [hnone] at hq
        cases hq
theorem extend {R : Result → Shared → Prop} (hh : A.handled = none) (h1 : l1 < n) (h2 : l2 < n) (hSn : n + 5 ≤ S) (J1 : Itr prog w n l1 xs S1) (J2 : Itr prog w (n + 1) l2 ys S2) (hm : m ≤ sizeLine) (mx : m ≤ xs.size) (my : m ≤ ys.size) (mm : m = xs.size ∨ m = ys.size) (res : Value) (c0 : Nat)
    (Z : ZS S1 S2 n S s.heap 0) (hz : IsZip s.heap (n + 4) (n + 2) (n + 3) .none) (hS : s.heap.get? S = some { cls := .type "list", data := .seq #[] c0 })
    (hR : ∀ h' tk acc c as, (∀ (b : Nat) (o : Obj), b ≠ S → (b < n ∨ n + 5 ≤ b) → s.heap.get? b = some o → h'.get? b = some o) → h'.get? S = some { cls := .type "list", dict := none, data := .seq acc c, slots := #[] } → as.length = m → TLZ.ZG xs ys S h' as → acc.toList = as.map Value.ref → R (.ok (.ret res)) { s with heap := h', toks := tk }) :
    wpAny (model prog w) A.in1 (Builtin.List.listExtendWith (.ref S) (.ref (n + 4)) res)
      (fun fin s' => match fin with | .done f => R (.ok f) s' | .again c' => c'.quiet = true ∧ codeAny (model prog w) A c' R s') (fun e s' => R (.error e) s') s := by
  have ty : s.TypeIs (.ref (n + 4)) "zip" := ⟨_, hz, rfl⟩
  have key : ∀ (h : Heap) (c1 tk : Nat), (∀ (b : Nat) (o : Obj), b ≠ S → s.heap.get? b = some o → h.get? b = some o) → h.get? S = some { cls := .type "list", data := .seq #[] c1 } → codeAny (model prog w) A (.builtin "list.extend.loop" ⟨[.ref S, .ref (n + 4), res], []⟩) R { s with heap := h, toks := tk } :=
    fun h c1 tk hk e => loop hh h1 h2 hSn J1 J2 hm mx my mm res hR m 0 h tk c1 #[] [] (Nat.sub_zero _) (Nat.zero_le _) (Z.up J1 J2 h1 h2 hSn hk) (fun b o hb _ e => hk b o hb e) e rfl rfl ⟨List.Pairwise.nil, (fun _ ha => nomatch ha), (fun q a hq => by simp at hq)⟩
  unfold Builtin.List.listExtendWith
  refine wpAny_bind (wpAny_typeOf (T := "zip") ty ?_)
  have e1 : Builtin.List.listSameRef (.ref S) (.ref (n + 4)) = false := beq_eq_false_iff_ne.mpr (by (first | omega | (show @Ne Nat _ _; omega)))
  have e2 : (Value.type "zip" == Value.type "list") = false := by decide
  have e3 : (Value.type "zip" == Value.type "tuple") = false := by decide
  simp only [e1, e2, e3, Bool.or_false, Bool.false_eq_true, if_false]
  refine wpAny_bind (wpAny_pyIter_zip hz (wpAny_bind (wpAny_holding (TLZ.hint_zip ty ?_))))
  refine wpAny_ite_split (fun _ => ?_) (fun hab => absurd rfl hab)
  refine wpAny_bind (wpAny_rule (wpAny_bind ?_))
  show wpAny _ _ (updateSeq S (·.push .none) >>= fun _ => updateSeq S (·.pop)) _ _ _
  refine wpAny_bind (wpAny_updateSeq hS rfl ?_)
  have g1 := Heap.get?_update_self (Obj.mapSeq (·.push Value.none)) hS rfl
  refine wpAny_updateSeq (hz := by seq_fits) g1 rfl ?_
  have g2 := Heap.get?_update_self (Obj.mapSeq (·.pop)) g1 rfl
  exact wpAny_pure ⟨plainId_quiet PySem.F.plain_extend_loop _, key _ _ _ (fun b o hb e => (Heap.get?_update_other _ _ (Ne.symm hb)).trans ((Heap.get?_update_other _ _ (Ne.symm hb)).trans e)) g2⟩
/-- all that a zip tells, gathered -/
theorem gather {Q : List Value → Shared → Prop} (hh : A.handled = none) (h1 : l1 < n) (h2 : l2 < n) (hn5 : n + 5 ≤ s.heap.objs.size) (J1 : Itr prog w n l1 xs S1) (J2 : Itr prog w (n + 1) l2 ys S2) (hm : m ≤ sizeLine) (mx : m ≤ xs.size) (my : m ≤ ys.size) (mm : m = xs.size ∨ m = ys.size)
    (Z : ZS S1 S2 n s.heap.objs.size s.heap 0) (hz : IsZip s.heap (n + 4) (n + 2) (n + 3) .none)
    (q : ∀ h' tk acc as, (∀ (b : Nat) (o : Obj), (b < n ∨ n + 5 ≤ b) → s.heap.get? b = some o → h'.get? b = some o) → s.heap.objs.size < h'.objs.size → as.length = m → TLZ.ZG xs ys s.heap.objs.size h' as → acc = as.map Value.ref → Q acc { s with heap := h', toks := tk }) : wpAny (model prog w) A (collect (.ref (n + 4))) Q E s := by
  unfold collect
  refine wpAny_bind (wpAny_runValue (codeAny_builtin F.entry_proto_collect ?_))
  rw [Around.under_plainId F.plain_proto_collect _]
  show wpAny _ A.in1 (newList [] >>= fun l => again (.builtin "list.__iadd__" ⟨[l, .ref (n + 4)], []⟩)) _ _ s
  refine wpAny_bind (wpAny_newObj_type ?_)
  refine wpAny_pure ⟨plainId_quiet F.plain_list_iadd _, codeAny_builtin F.entry_list_iadd ?_⟩
  rw [Around.under_plainId F.plain_list_iadd _]
  show wpAny _ A.in1 (Builtin.List.listExtendWith (.ref s.heap.objs.size) (.ref (n + 4)) (.ref s.heap.objs.size)) _ _ _
  have pu : ∀ (b : Nat) (o : Obj), s.heap.get? b = some o → (s.heap.push { cls := .type "list", data := .seq ([] : List Value).toArray }).get? b = some o := fun b o e => Heap.get?_push_of_some _ e
  have gS : (s.heap.push { cls := .type "list", data := .seq ([] : List Value).toArray }).get? s.heap.objs.size = some { cls := .type "list", data := .seq #[] 0 } := Heap.get?_push_size _ rfl
  have done : ∀ s' : Shared, (∃ (h' : Heap) (tk : Nat) (acc : Array Value) (c : Nat) (as : List Addr), s' = { s with heap := h', toks := tk } ∧ (∀ (b : Nat) (o : Obj), (b < n ∨ n + 5 ≤ b) → s.heap.get? b = some o → h'.get? b = some o) ∧ h'.get? s.heap.objs.size = some { cls := .type "list", dict := none, data := .seq acc c, slots := #[] } ∧ as.length = m ∧ TLZ.ZG xs ys s.heap.objs.size h' as ∧ acc.toList = as.map Value.ref) →
      wpAny (model prog w) A (match Value.ref s.heap.objs.size with
        | Value.ref a => do
          match (← load a).data with
            | Data.seq xs _ => pure xs.toList
            | _ => unsupported "internal:collect"
        | _ => unsupported "internal:collect") Q E s' := by
    rintro s' ⟨h', tk, acc, c, as, rfl, e1, e2, e3, e4, e5⟩
    show wpAny _ A (load s.heap.objs.size >>= _) _ _ _
    exact wpAny_bind (wpAny_load e2 (wpAny_pure (q h' tk acc.toList as e1 (Heap.lt_size e2) e3 e4 e5)))
  refine wpAny_mono (extend (R := fun r s' => r = .ok (.ret (.ref s.heap.objs.size)) ∧ ∃ (h' : Heap) (tk : Nat) (acc : Array Value) (c : Nat) (as : List Addr), s' = { s with heap := h', toks := tk } ∧ (∀ (b : Nat) (o : Obj), (b < n ∨ n + 5 ≤ b) → s.heap.get? b = some o → h'.get? b = some o) ∧ h'.get? s.heap.objs.size = some { cls := .type "list", dict := none, data := .seq acc c, slots := #[] } ∧ as.length = m ∧ TLZ.ZG xs ys s.heap.objs.size h' as ∧ acc.toList = as.map Value.ref)
    (s := { s with heap := s.heap.push { cls := .type "list", data := .seq ([] : List Value).toArray } }) hh h1 h2 hn5 J1 J2 hm mx my mm (.ref s.heap.objs.size) 0 (Z.up J1 J2 h1 h2 hn5 fun b o _ e => pu b o e) (pu _ _ hz) gS fun h' tk acc c as hk hS' hl G hacc => ⟨rfl, h', tk, acc, c, as, rfl, fun b o hb e => hk b o (Nat.ne_of_lt (Heap.lt_size e)) hb (pu b o e), hS', hl, G, hacc⟩) (fun fin s' h => ?_) (fun e s' h => ?_)
  · cases fin with
    | done f =>
      obtain ⟨e, h⟩ := h
      cases e
      exact done s' h
    | again c' =>
      obtain ⟨hq, hc⟩ := h
      refine ⟨hq, codeAny_mono hc fun r s'' hr => ?_⟩
      obtain ⟨e, hr⟩ := hr
      subst e
      exact done s'' hr
  · obtain ⟨e, h⟩ := h
    cases e
theorem tuple_zip {Q : Value → Shared → Prop} (hh : A.handled = none) (h1 : l1 < n) (h2 : l2 < n) (hn5 : n + 5 ≤ s.heap.objs.size) (J1 : Itr prog w n l1 xs S1) (J2 : Itr prog w (n + 1) l2 ys S2) (hm : m ≤ sizeLine) (mx : m ≤ xs.size) (my : m ≤ ys.size) (mm : m = xs.size ∨ m = ys.size)
    (Z : ZS S1 S2 n s.heap.objs.size s.heap 0) (hz : IsZip s.heap (n + 4) (n + 2) (n + 3) .none)
    (q : ∀ h' tk as, (∀ (b : Nat) (o : Obj), (b < n ∨ n + 5 ≤ b) → s.heap.get? b = some o → h'.get? b = some o) → s.heap.objs.size < h'.objs.size → as.length = m → TLZ.ZG xs ys s.heap.objs.size h' as → Q (.ref h'.objs.size) { s with heap := h'.push { cls := .type "tuple", data := .seq (as.map Value.ref).toArray }, toks := tk }) :
    wpAny (model prog w) A (call (.type "tuple") [.ref (n + 4)]) Q E s := by
  have ty : s.TypeIs (.ref (n + 4)) "zip" := ⟨_, hz, rfl⟩
  have code : codeAny (model prog w) A.in1 (.call (.builtin "tuple.__new__") ⟨[.type "tuple", .ref (n + 4)], []⟩) (wants (fun obj s₁ => s₁.TypeIs obj "tuple" ∧ Q obj s₁) E) s := by
    refine codeAny_of_tree ?_
    show wpAny _ _ (do checkBuiltinCall "tuple.__new__" ⟨[.type "tuple", .ref (n + 4)], []⟩; again (.builtin "tuple.__new__" ⟨[.type "tuple", .ref (n + 4)], []⟩)) _ _ s
    refine wpAny_bind (wpAny_of_eq (F.newCall_tuple_1 _) (wpAny_pure ⟨plainId_quiet F.plain_tuple_new _, codeAny_builtin F.entry_tuple_new ?_⟩))
    rw [Around.under_plainId F.plain_tuple_new _]
    have hsub := sub_tuple_self
    have hinit := init_tuple_lookup
    have hmh := madeHere_tuple
    have gt := fun (Q : List Value → Shared → Prop) (E : Value → Shared → Prop) => gather (prog := prog) (w := w) (A := A.in1.in1) (E := E) (s := s) (Q := Q) hh h1 h2 hn5 J1 J2 hm mx my mm Z hz
    wp_walk using wpAny_typeOf ty, gt
    intro h' tk acc as hk hs hl G hacc
    subst hacc
    refine wpAny_bind (wpAny_pure ?_)
    show wpAny _ _ (Builtin.Tuple.tupleExact (as.map Value.ref).toArray >>= fun v => ret v) _ _ _
    unfold Builtin.Tuple.tupleExact
    refine wpAny_bind (wpAny_newObj_type ?_ (by show (as.map Value.ref).toArray.size ≤ sizeLine; rw [List.size_toArray, List.length_map]; omega))
    exact wpAny_pure ⟨⟨_, Heap.get?_push_size _ rfl, rfl⟩, q h' tk as hk hs hl G⟩
  refine callType_codes (Q₁ := fun obj s₁ => s₁.TypeIs obj "tuple" ∧ Q obj s₁) F.called_tuple (F.typeCall_tuple_1 _) F.entry_object_init code fun obj s₁ h₁ => ?_
  exact ⟨h₁.1, F.args_object_init_2 obj _, object_init_meets F.called_tuple.init.lookup F.called_tuple.made (by decide) prog w A.in1 _ s₁ ⟨h₁.1, rfl, h₁.2⟩⟩
end
/-! zip(t, l) of a tuple and a list -/
abbrev zh1 (h : Heap) (l1 : Addr) : Heap := h.push { cls := .type "tuple_iterator", data := .fields #[.ref l1, .int 0 0] }
abbrev zh2 (h : Heap) (l1 l2 : Addr) : Heap := (zh1 h l1).push { cls := .type "list_iterator", data := .fields #[.ref l2, .int 0 0] }
abbrev zh3 (h : Heap) (l1 l2 : Addr) : Heap := (zh2 h l1 l2).push { cls := .type "tuple", data := .seq #[.ref h.objs.size, .ref (zh1 h l1).objs.size] }
abbrev zh4 (h : Heap) (l1 l2 : Addr) : Heap := (zh3 h l1 l2).push { cls := .type "tuple", data := .seq #[.none, .none] }
abbrev zh5 (h : Heap) (l1 l2 : Addr) : Heap := (zh4 h l1 l2).push { cls := .type "zip", data := .fields #[.none, .bool false, .bool false, .ref (zh2 h l1 l2).objs.size, .ref (zh3 h l1 l2).objs.size] }
theorem new_zip (l1 l2 : Addr) (xs ys : Array Value) : Meets (Builtin.«zip.__new__» ⟨[.type "zip", .ref l1, .ref l2], []⟩) (fun _ R s => s.heap.IsTuple l1 xs ∧ s.heap.IsList l2 ys ∧ R (.ok (.ret (.ref (zh4 s.heap l1 l2).objs.size))) { s with heap := zh5 s.heap l1 l2 }) :=
  .of_wp fun prog w A R s h => by
    obtain ⟨hp, g, d, tk, os⟩ := s
    obtain ⟨a, b, h⟩ := h
    have hsub := sub_zip
    have g1 : Heap.IsTuple (Shared.heap ⟨hp, g, d, tk, os⟩) l1 xs := a
    have g2 : Heap.IsList (Shared.heap ⟨hp.push { cls := .type "tuple_iterator", data := .fields #[.ref l1, .int 0 0] }, g, d, tk, os⟩) l2 ys := Heap.IsList.push b _
    wp_walk using wpAny_pyIter_tuple g1, wpAny_pyIter_list g2
    exact ⟨_, rfl, h⟩
section
variable {prog : Program} {w : World} {A : Around} {E : Value → Shared → Prop} {s : Shared} {l1 l2 : Nat} {xs ys : Array Value}
theorem call_zip {Q : Value → Shared → Prop} (ha : s.heap.IsTuple l1 xs) (hb : s.heap.IsList l2 ys)
    (q : ∀ (h' : Heap), IsZip h' (s.heap.objs.size + 4) (s.heap.objs.size + 2) (s.heap.objs.size + 3) .none → IsPair h' (s.heap.objs.size + 2) (.ref s.heap.objs.size) (.ref (s.heap.objs.size + 1)) → IsPair h' (s.heap.objs.size + 3) .none .none →
      h'.IsTupleIter s.heap.objs.size l1 0 → h'.IsListIter (s.heap.objs.size + 1) l2 0 → h'.objs.size = s.heap.objs.size + 5 → (∀ (c : Nat) (o : Obj), s.heap.get? c = some o → h'.get? c = some o) → Q (.ref (s.heap.objs.size + 4)) { s with heap := h' }) : wpAny (model prog w) A (call (.type "zip") [.ref l1, .ref l2]) Q E s := by
  refine callType_new F.called_zip (by decide) (F.typeCall_zip_2 _ _) (F.newCall_zip_2 _ _) (fun obj => F.args_object_init_3 obj _ _) F.entry_zip_new (new_zip l1 l2 xs ys) ⟨ha, hb, ?_⟩
  have z1 : (zh1 s.heap l1).objs.size = s.heap.objs.size + 1 := Heap.size_push ..
  have z2 : (zh2 s.heap l1 l2).objs.size = s.heap.objs.size + 2 := by rw [Heap.size_push, z1]
  have z3 : (zh3 s.heap l1 l2).objs.size = s.heap.objs.size + 3 := by rw [Heap.size_push, z2]
  have z4 : (zh4 s.heap l1 l2).objs.size = s.heap.objs.size + 4 := by rw [Heap.size_push, z3]
  have z5 : (zh5 s.heap l1 l2).objs.size = s.heap.objs.size + 5 := by rw [Heap.size_push, z4]
  have u1 : ∀ (h : Heap) (o o' : Obj) (c : Nat), h.get? c = some o → (h.push o').get? c = some o := fun h o o' c e => Heap.get?_push_of_some _ e
  have k5 : (zh5 s.heap l1 l2).get? (zh4 s.heap l1 l2).objs.size = some _ := Heap.get?_push_size _ rfl
  have k4 : (zh5 s.heap l1 l2).get? (zh3 s.heap l1 l2).objs.size = some _ := u1 _ _ _ _ (Heap.get?_push_size _ rfl)
  have k3 : (zh5 s.heap l1 l2).get? (zh2 s.heap l1 l2).objs.size = some _ := u1 _ _ _ _ (u1 _ _ _ _ (Heap.get?_push_size _ rfl))
  have k2 : (zh5 s.heap l1 l2).get? (zh1 s.heap l1).objs.size = some _ := u1 _ _ _ _ (u1 _ _ _ _ (u1 _ _ _ _ (Heap.get?_push_size _ rfl)))
  have k1 : (zh5 s.heap l1 l2).get? s.heap.objs.size = some _ := u1 _ _ _ _ (u1 _ _ _ _ (u1 _ _ _ _ (u1 _ _ _ _ (Heap.get?_push_size _ rfl))))
  rw [z2, z3, z4] at k5
  rw [z1, z2] at k3
  rw [z3] at k4
  rw [z1] at k2
  show _ ∧ _
  rw [z4]
  exact ⟨⟨_, k5, rfl⟩, q _ k5 k3 k4 ⟨_, k1, rfl, rfl⟩ ⟨_, k2, rfl, rfl⟩ z5 fun c o e => u1 _ _ _ _ (u1 _ _ _ _ (u1 _ _ _ _ (u1 _ _ _ _ (u1 _ _ _ _ e))))⟩
end
end TLQ

set_option maxHeartbeats 1000000
/-! TLr: tuple(zip(t, l)) in the layer. -/
namespace TLQ
open PySem PySem.Spec L2
open PyProof.Rows hiding St
theorem laidK {X : Cx} {pins : List (Addr × Obj)} {σ : L2.St} {H : Hp} {s : Shared} {h' : Heap} {tk n S : Nat} {us vs : List V} {xs ys : List Value} {as : List Addr} (I : Inv X pins σ H s) (hz : n ≤ sizeLine) (rx : Vals us xs) (ry : Vals vs ys) (hn : (us.zip vs).length = n) (hS : s.heap.objs.size ≤ S) (hp : s.heap.objs.size ≤ h'.objs.size)
    (hk : ∀ (b : Nat) (o : Obj), s.heap.get? b = some o → h'.get? b = some o) (hl : as.length = n) (G : TLZ.ZG xs.toArray ys.toArray S h' as) :
    ∃ H' : Hp, (∀ b o, H b = some o → H' b = some o) ∧ H h'.objs.size = none ∧ (∀ t ∈ as, H t = none) ∧ h'.objs.size ∉ as ∧ (∃ ob : Obj, H' h'.objs.size = some (.frz ob (.tup (as.map V.ref))) ∧ ob.cls = .type "tuple" ∧ ob.dict = none) ∧ Paired (fun (t : Addr) (q : V × V) => H' t = some (.tup [q.1, q.2])) as (us.zip vs) ∧
      Inv X pins σ H' { s with heap := h'.push { cls := .type "tuple", data := .seq (as.map Value.ref).toArray }, toks := tk } := by
  have no : h'.objs.size ∉ as := fun z => Nat.lt_irrefl _ (G.there z)
  have nd : as.Nodup := List.Pairwise.imp (fun {a b} (h : a < b) => Nat.ne_of_lt h) G.rise
  have new : ∀ t ∈ as, H t = none := fun t ht => I.hok.fresh (Nat.le_trans hS (Nat.le_of_lt (G.above t ht)))
  have newP : H h'.objs.size = none := I.hok.fresh hp
  have atP := TLZ.putZ_at as (us.zip vs) (upd H h'.objs.size (.frz { cls := .type "tuple", data := .seq (as.map Value.ref).toArray } (.tup (as.map V.ref)))) (by omega) nd
  have off : ∀ b, b ∉ as → b ≠ h'.objs.size → TLZ.putZ (upd H h'.objs.size (.frz { cls := .type "tuple", data := .seq (as.map Value.ref).toArray } (.tup (as.map V.ref)))) as (us.zip vs) b = H b := fun b h1 h2 => by rw [TLZ.putZ_off as _ _ h1, upd_ne h2]
  have low : ∀ (b : Nat) (o : Obj), s.heap.get? b = some o → b ∉ as ∧ b ≠ h'.objs.size := fun b o e => ⟨fun z => absurd (Heap.lt_size e) (Nat.not_lt.mpr (Nat.le_trans hS (Nat.le_of_lt (G.above b z)))), Nat.ne_of_lt (Nat.lt_of_lt_of_le (Heap.lt_size e) hp)⟩
  have kp : ∀ b u, H b = some u → (TLZ.putZ (upd H h'.objs.size (.frz { cls := .type "tuple", data := .seq (as.map Value.ref).toArray } (.tup (as.map V.ref)))) as (us.zip vs)) b = some u := fun b u e => by
    rw [off b (fun z => by rw [new b z] at e; cases e) (fun z => by rw [z, newP] at e; cases e)]
    exact e
  have eP : TLZ.putZ (upd H h'.objs.size (.frz { cls := .type "tuple", data := .seq (as.map Value.ref).toArray } (.tup (as.map V.ref)))) as (us.zip vs) h'.objs.size = some (.frz { cls := .type "tuple", data := .seq (as.map Value.ref).toArray } (.tup (as.map V.ref))) := by rw [TLZ.putZ_off as _ _ no, upd_same]
  have hk2 : ∀ (b : Nat) (o : Obj), s.heap.get? b = some o → (h'.push { cls := .type "tuple", data := .seq (as.map Value.ref).toArray }).get? b = some o := fun b o e => Heap.get?_push_of_some _ (hk b o e)
  refine ⟨TLZ.putZ (upd H h'.objs.size (.frz { cls := .type "tuple", data := .seq (as.map Value.ref).toArray } (.tup (as.map V.ref)))) as (us.zip vs), kp, newP, new, no, ⟨_, eP, rfl, rfl⟩, atP, ?_⟩
  refine I.call' (ch := []) rfl ⟨fun b o q _ _ _ => hk2 b o q, fun b o q _ _ _ => ⟨o.slots, hk2 b o q⟩, fun b o q n _ => ?_, fun b o q _ => ⟨o, hk2 b o q⟩, fun b xs q => kp b _ q, fun b o u q => kp b _ q, fun b ps q => ⟨#[], by rw [kp b _ q]; simp⟩⟩ (fun b u q => ?_) I.bare fun b z => by simp at z
  · obtain ⟨z1, z2⟩ := low b o q
    rw [off b z1 z2]
    exact n
  · by_cases hb : b ∈ as
    · obtain ⟨j, pk, e1, e2, e3⟩ := LiI.paired_ix atP hb
      rw [e3] at q
      cases q
      obtain ⟨x, y, f1, f2, f3⟩ := G.pairs j b e1
      obtain ⟨g1, g2⟩ := List.getElem?_zip_eq_some.mp e2
      obtain ⟨u1, k1, k2⟩ := rx.get g1
      obtain ⟨u2, m1, m2⟩ := ry.get g2
      have q1 : x = u1 := Option.some.inj (f1.symm.trans (by simpa using k1))
      have q2 : y = u2 := Option.some.inj (f2.symm.trans (by simpa using m1))
      subst q1 q2
      exact ⟨by show 2 ≤ sizeLine; decide, [x, y], .cons k2 (.cons m2 .nil), ⟨_, Heap.get?_push_of_some _ f3, rfl, _, rfl⟩⟩
    · by_cases hb2 : b = h'.objs.size
      · rw [hb2] at q ⊢
        rw [eP] at q
        cases q
        exact ⟨Heap.get?_push_size _ rfl, by rw [List.length_map]; omega, as.map Value.ref, LiI.vals_refs as, IsTup.new _ _⟩
      · rw [off b hb hb2] at q
        exact (I.hok b u q).stay (fun d v _ y => hk2 d v y) (fun d y => kp d _ y) fun d xs y => kp d _ y
def rZipK (K : PySem.W.Frag) : List V → Hp → VK → Prop := fun ws H Q => ∃ (a b : Addr) (us vs : List V), ws = [.ref a, .ref b] ∧ SqT K H a us ∧ SqL K H b vs ∧
  ∀ (H' : Hp) (p : Addr) (ts : List Addr) (ob : Obj), (∀ b o, H b = some o → H' b = some o) → H p = none → (∀ t ∈ ts, H t = none) → p ∉ ts → H' p = some (.frz ob (.tup (ts.map V.ref))) → ob.cls = .type "tuple" → ob.dict = none → Paired (fun (t : Addr) (q : V × V) => H' t = some (.tup [q.1, q.2])) ts (us.zip vs) → Q (.ref p) H'
theorem pe_tupZip {X : Cx} {e e2 : Expr} {ta : TA} {p p2 pos2 pos : Pos} (hc : X.calm = true) (hg : Gl X "tuple") (hm : X.mg "tuple" = none) (hg2 : Gl X "zip") (hm2 : X.mg "zip" = none) (ha : PA X [e, e2] ta)
    (hs : starEach [e, e2] X.env = (false, eval e X.env) :: starEach [e2] X.env) (hpl : (backTo pos2 (starEach [e2] X.env)).any (·.1) = false)
    (hs0 : starEach [.Call (.Name "zip" p2) [e, e2] [] pos2] X.env = (false, eval (.Call (.Name "zip" p2) [e, e2] [] pos2) X.env) :: starEach [] X.env := by rfl) :
    PE X (.Call (.Name "tuple" p) [.Call (.Name "zip" p2) [e, e2] [] pos2] [] pos) (fun σ H Q => ta σ H fun ws H1 => rZipK X.K ws H1 Q) := by
  refine ⟨fun pins s σ H Q I hq => ?_⟩
  refine wpAny_Call_Name_kw (ld_blt I hg hm rfl ?_)
  refine PyProof.Rows.callWith_type1 ?_ hs0 rfl
  rw [hs0]
  show wpAny _ _ (spliced ((false, eval (.Call (.Name "zip" p2) [e, e2] [] pos2) X.env) :: backTo pos (starEach [] X.env))) _ _ s
  refine Calls.spliced_cons ?_
  refine Call_ (ld_blt I hg2 hm2 PyProof.Rows.boot_zip (PyProof.Rows.callWith_type1 (thn (ha.run pos2 pins s σ H _ I hq) fun us s1 ⟨ws, H1, I1, r1, q1⟩ => ?_) hs hpl))
  obtain ⟨a, b, xs, ys, ex, hqx, hqy, q⟩ := q1
  subst ex
  cases r1 with
  | cons r rr =>
    cases rr with
    | cons r' rr =>
      cases rr
      cases r
      cases r'
      obtain ⟨its, rv, t1, hzx⟩ := I1.tuple hqx
      obtain ⟨its2, rv2, t2, hzy⟩ := I1.list hqy
      have ha1 : s1.heap.IsTuple a its.toArray := t1
      have hb1 : s1.heap.IsList b its2.toArray := t2.isList
      have la : a < s1.heap.objs.size := by obtain ⟨_, e, _⟩ := id ha1; exact Heap.lt_size e
      have lb : b < s1.heap.objs.size := by obtain ⟨_, e, _⟩ := id hb1; exact Heap.lt_size e
      refine call_zip ha1 hb1 fun h' e1 e2 e3 e4 e5 e6 e7 => Calls.spliced_nil ?_
      have ha' : h'.IsTuple a its.toArray := by obtain ⟨o, e, r⟩ := ha1; exact ⟨o, e7 _ _ e, r⟩
      have hb' : h'.IsList b its2.toArray := by obtain ⟨o, e, r⟩ := hb1; exact ⟨o, e7 _ _ e, r⟩
      have n1 : its.length = xs.length := rv.length.symm
      have n2 : its2.length = ys.length := rv2.length.symm
      have nz : (xs.zip ys).length ≤ sizeLine := by rw [List.length_zip]; omega
      refine tuple_zip (s := { s1 with heap := h' }) (m := (xs.zip ys).length) (xs := its.toArray) (ys := its2.toArray) (I1.ok.hd hc) la lb (show s1.heap.objs.size + 5 ≤ h'.objs.size by omega) (itr_tup (Nat.ne_of_lt la)) (itr_lst (Nat.ne_of_lt (Nat.lt_succ_of_lt lb))) nz (by rw [List.length_zip]; simp; omega) (by rw [List.length_zip]; simp; omega) (by rw [List.length_zip]; simp; omega) ⟨e2, ⟨e4, ha'⟩, ⟨e5, hb'⟩, .inl ⟨e1, _, _, e3⟩⟩ e1 fun h'' tk as k1 k0 k2 k3 => ?_
      have k3' : TLZ.ZG its.toArray its2.toArray h'.objs.size h'' as := k3
      have k0' : h'.objs.size < h''.objs.size := k0
      obtain ⟨H', m1, m2, m3, m4, ⟨ob, m5, m6, m7⟩, m8, J⟩ := laidK (tk := tk) I1 nz rv rv2 rfl (show s1.heap.objs.size ≤ h'.objs.size by omega) (show s1.heap.objs.size ≤ h''.objs.size by omega) (fun b o e => k1 b o (.inl (Heap.lt_size e)) (e7 b o e)) k2 k3'
      exact ⟨.ref _, H', J, rfl, q H' _ as ob m1 m2 m3 m4 m5 m6 m7 m8⟩
end TLQ
namespace TL
open PySem PySem.Spec L2
open PyProof.Rows hiding St
/-- tuple(zip(t, l)) of a tuple and a list, told whole -/
@[reducible] def tzipI (a b : IE) : IE := fun ρ S Q E => a ρ S (fun x S1 => b ρ S1 (fun y S2 => match x with
  | .tup xs => someP (lsqOf S2 y) fun ys => Q (.set (zipV xs ys)) S2
  | _ => False) E) E
section
variable {X : Cx} {K : PySem.W.Frag} {B : Addr → Prop} {H H' : Hp} {S : Sto} {W : WX} {a b : Expr} {ma mb : IE} {p p2 pos2 pos : Pos}
theorem se_tupZip (hc : X.calm = true) (hg : Gl X "tuple") (hm : X.mg "tuple" = none) (hg2 : Gl X "zip") (hm2 : X.mg "zip" = none) (hs : starB a = false) (hs2 : starB b = false) (ha : PE X a (liftE X.K W ma)) (hb : PE X b (liftE X.K W mb)) :
    PE X (.Call (.Name "tuple" p) [.Call (.Name "zip" p2) [a, b] [] pos2] [] pos) (liftE X.K W (tzipI ma mb)) :=
  (TLQ.pe_tupZip hc hg hm hg2 hm2 (pa_cons ha (pa_cons hb pa_nil (starEach_one hs2)) (starEach_one hs)) (starEach_one hs) (backTo_plain (by show (starB b || false) = false; rw [hs2]; rfl))).imp fun σ H Q ⟨ρ, S, B, Qi, Ei, Rr, h, q, er⟩ => ⟨ρ, S, B, _, Ei, Rr, h, fun v S1 x H1 rv hr1 e1 h1 =>
    ⟨ρ, S1, B, _, Ei, Rr.ext e1 hr1, h1, fun u S2 y H2 ru hr2 e2 h2 => by
      dsimp only at h2
      have rv2 := rv.ext e2
      split at h2
      · obtain ⟨ys, e3, h2⟩ := someP_some h2
        obtain ⟨pl, ws, rfl, j1, j2⟩ := lsqOf_sq hr2 ru e3
        cases rv2 with
        | tup i1 i2 =>
        refine ⟨_, _, _, _, rfl, i1.sq, j1, fun H' p ts ob k hp hts hnp hl c1 c2 pr => ?_⟩
        have ex : Ext S2 S2 H2 H' := fun b o h1 h2 => ⟨h1, k b o h2⟩
        exact q _ S2 _ H' (.kt ⟨ob, hl, c1, c2, hr2.free hp⟩ (zip_rvs hr2 (i2.ext ex) (j2.ext ex) hts pr)) (hr2.kept k) ((e1.trans e2).trans ex) h2
      · exact h2.elim, er.ext e1⟩, er⟩
end
end TL

set_option maxHeartbeats 1000000
/-! TLa: own exception classes over Exception (by way of others of the program), whose __init__ only stores what it is given. -/
namespace TLX
open PySem PySem.W PySem.Calls PyProof.Rows PySem.HandSPX
open Builtin Builtin.ObjectAttr
abbrev exT : List Value := [.type "Exception", .type "BaseException", .type "object"]
theorem exT_ne {l : List Value} (e : excTail exT l = true) : l.isEmpty = false := by
  cases l with
  | nil => exact absurd e (by decide)
  | cons _ _ => rfl
section
variable {prog : Program} {w : World} {A : Around} {R : Result → Shared → Prop} {hp : Heap} {g : Array GenState} {d : Drawn} {t : Nat} {os : OsState}
variable {K : W.Frag} {name : Str} {tk : Tok} {v : Value} {x C : Addr} {cd : ClassData}
/-- object.__setattr__ on such an instance comes to its own dict -/
theorem toDict {ox : Obj} {od : Option Obj} (X : K.In hp) (I : W.InstAt hp x ox C od) (hcd : W.clsIn K C = some cd) (hm : excTail exT cd.mro = true) (ha : W.findIn K (.ref C) name = some none)
    (hq : wpAny (model prog w) A.in1 (storeInOwnDict (.ref x) (.ref C) (.str name tk) name v false)
      (fun fin s' => match fin with | .done f => R (.ok f) s' | .again c' => c'.quiet = true ∧ codeAny (model prog w) A c' R s') (fun e s' => R (.error e) s') ⟨hp, g, d, t, os⟩) :
    codeAny (model prog w) A (.call (.builtin "object.__setattr__") ⟨[.ref x, .str name tk, v], []⟩) R ⟨hp, g, d, t, os⟩ := by
  have SF := F.store_object
  have ne := exT_ne hm
  have hob : cd.mro.contains (.type "object") = true := (excTail_contains "object" _ hm).trans (by decide +kernel)
  have sub : W.Looks (model prog w) hp (isInstance (.ref x) (.type "object")) true := I.type.andThen (W.looks_mroIn X (by unfold W.mroIn; rw [hcd, Option.bind_some, if_neg (by rw [ne]; decide), hob]))
  have hmr : W.Looks (model prog w) hp (mroOf (.ref C)) cd.mro := (W.looks_clsIn X hcd).andThen .now
  have L3 : W.Looks (model prog w) hp (storeTaker? none) none := .now
  refine codeAny_call_builtin SF.slot.plain SF.entry (@W.check_slot (model prog w) _ _ ⟨hp, g, d, t, os⟩ "object.__setattr__" "object" "__setattr__" (.ref x) [.str name tk, v] [] _ SF.kind SF.split sub (SF.args (.ref x) (.str name tk) v) ?_)
  rw [W.osa_eq, refuse_eq]
  refine wpAny_bind (wpAny_bind (I.type.at (wpAny_bind (hmr.at ?_))))
  rw [excTail_pass (.ref x) (F.store_Exception.passes _) _ hm]
  exact wpAny_pure (wpAny_bind (I.type.at (wpAny_bind ((W.looks_findIn X ha).at (wpAny_bind (L3.at hq))))))
/-- the first field -/
theorem fieldNew {fv : Array Value} (X : K.In hp) (hx : hp.get? x = some { cls := .ref C, data := .fields fv }) (hcd : W.clsIn K C = some cd) (hm : excTail exT cd.mro = true) (hh : cd.hasDict = true) (ha : W.findIn K (.ref C) name = some none)
    (hq : ∀ h' tk' dx, (∀ b o, b ≠ x → hp.get? b = some o → h'.get? b = some o) → hp.objs.size ≤ dx → dx ≠ x → h'.get? x = some { cls := .ref C, dict := some dx, data := .fields fv } →
      h'.Ns1 dx (fun y => if y = name then some v else none) → R (.ok (.ret .none)) ⟨h', g, d, tk', os⟩) :
    codeAny (model prog w) A (.call (.builtin "object.__setattr__") ⟨[.ref x, .str name tk, v], []⟩) R ⟨hp, g, d, t, os⟩ := by
  have hxs : x ≠ hp.objs.size := Nat.ne_of_lt (Heap.lt_size hx)
  refine toDict X (ox := { cls := .ref C, data := .fields fv }) (od := none) ⟨hx, rfl, rfl, trivial⟩ hcd hm ha ?_
  have hcls : W.Looks (model prog w) hp (classData C) cd := W.looks_clsIn X hcd
  obtain ⟨nm, bs, mro, ns, qn, hd, sn, sb, ab, col, del⟩ := cd
  dsimp only at hh
  subst hh
  unfold storeInOwnDict ownDictForStores
  repeat (first | with_reducible refine HandSPX.store_in_new ?_ ?_ | with_reducible refine wpAny_loadPart_at hx ?_ | with_reducible refine hcls.at ?_ | wp_step)
  · exact ⟨_, #[], _, (Heap.get?_update_ne _ _ _ _ hxs.symm).trans (Heap.get?_push_at rfl rfl), rfl, fun e he => absurd he (by simp), fun _ => rfl⟩
  · intro h' tk' hn' hs
    have hx₁ : (hp.push { cls := .type "dict", data := .dict #[] }).get? x = some { cls := .ref C, data := .fields fv } := Heap.get?_push_of_some _ hx
    refine hq h' tk' hp.objs.size (fun b o hb ho => ?_) (Nat.le_refl _) hxs.symm ((hs.2 x hxs).trans (Heap.get?_update_self _ hx₁ rfl)) hn'
    exact (hs.2 b (Nat.ne_of_lt (Heap.lt_size ho))).trans ((Heap.get?_update_ne _ _ _ _ hb).trans (Heap.get?_push_of_some _ ho))
/-- a further one -/
theorem fieldOld {fv : Array Value} {dx : Addr} {m0 : Str → Option Value} {nl : List Str} (X : K.In hp) (hx : hp.get? x = some { cls := .ref C, dict := some dx, data := .fields fv }) (hns : hp.Ns1 dx m0) (hw : Within m0 nl) (hz : nl.length ≤ 1000)
    (hcd : W.clsIn K C = some cd) (hm : excTail exT cd.mro = true) (hh : cd.hasDict = true) (ha : W.findIn K (.ref C) name = some none)
    (hq : ∀ h' tk', (∀ b o, b ≠ dx → hp.get? b = some o → h'.get? b = some o) → h'.Ns1 dx (fun y => if y = name then some v else m0 y) → R (.ok (.ret .none)) ⟨h', g, d, tk', os⟩) :
    codeAny (model prog w) A (.call (.builtin "object.__setattr__") ⟨[.ref x, .str name tk, v], []⟩) R ⟨hp, g, d, t, os⟩ := by
  obtain ⟨oD, esD, epD, hoD, hdD, _⟩ := hns.count hw
  refine toDict X (ox := { cls := .ref C, dict := some dx, data := .fields fv }) (od := some oD) ⟨hx, rfl, rfl, hoD⟩ hcd hm ha ?_
  have hcls : W.Looks (model prog w) hp (classData C) cd := W.looks_clsIn X hcd
  obtain ⟨nm, bs, mro, ns, qn, hd, sn, sb, ab, col, del⟩ := cd
  dsimp only at hh
  subst hh
  unfold storeInOwnDict ownDictForStores
  repeat (first | with_reducible refine ESX.store_in_old hns hw hz ?_ | with_reducible refine wpAny_loadPart_at hx ?_ | with_reducible refine hcls.at ?_ | wp_step)
  intro h' tk' hn' hs
  exact hq h' tk' (fun b o hb ho => (hs.2 b hb).trans ho) hn'
end
end TLX
namespace TLX
open PySem PySem.Spec PyProof.Rows L2
abbrev St := L2.St
/-- an own class over Exception, by way of others of the text -/
structure XC (K : PySem.W.Frag) (C : Addr) : Prop where
  cls : ∃ nm q N bs bm sn sub ab col dd k0 k1 k2 k3 k5, K.lookup C = some (excClassObj nm q C N bs bm true sn sub ab col dd k0 k1 k2 k3 k5 "Exception.__new__") ∧ PySem.W.excTail exT bm = true
  sa : PySem.W.findIn K (.ref C) "__setattr__" = some (some (.builtin "object.__setattr__"))
  exC : PySem.W.subIn K (.ref C) (.type "BaseException") = some true
  tyC : PySem.W.typeIn K (.ref C) = some (.type "type")
  kC : PySem.W.keepIn K (.ref C) = true
theorem XC.look {K : PySem.W.Frag} {C : Addr} (T : XC K C) : ∃ cd : ClassData, PySem.W.clsIn K C = some cd ∧ PySem.W.excTail exT cd.mro = true ∧ cd.hasDict = true := by
  obtain ⟨nm, q, N, bs, bm, sn, sub, ab, col, dd, k0, k1, k2, k3, k5, hC, hbm⟩ := T.cls
  refine ⟨{ name := nm, bases := bs, mro := .ref C :: bm, ns := N, qualname := q, hasDict := true, slotNames := sn, subclasses := sub, abstract := ab, collection := col, hasDel := false }, ?_, hbm, rfl⟩
  unfold PySem.W.clsIn
  rw [hC] <;> rfl
section
variable {X : Cx} {pins : List (Addr × Obj)} {σ : St} {H : Hp} {s : Shared} {a C dx : Addr} {f : Str} {y : V} {u : Value} {fs : List (Str × V)} {Q : Unit → Shared → Prop} {E : Value → Shared → Prop} {A : Around}
theorem setNew (T : XC X.K C) (I : Inv X pins σ H s) (e : H a = some (exo a C none)) (hno : PySem.W.findIn X.K (.ref C) f = some none) (ry : RelV y u)
    (h : ∀ dx s', H dx = none → dx ≠ a → Inv X pins σ (upd (upd H dx (exd dx [(f, y)])) a (exo a C (some dx))) s' → Q () s') : wpAny (model X.prog X.w) A (setAttr (.ref a) f u) Q E s := by
  obtain ⟨cd, hcl, hm, hh⟩ := T.look
  obtain ⟨t1, ho⟩ := exo_at I.hok e
  obtain ⟨hp, g, d, t, os⟩ := s
  refine PySem.W.set_plain I.kIn (ox := { cls := .ref C, dict := none, data := .fields #[.ref t1, .none, .none, .none, .bool false, .none] }) (od := none) ⟨ho, rfl, rfl, trivial⟩ T.sa ?_
  refine fieldNew I.kIn ho hcl hm hh hno fun h' tk' dx k dn dne hx hn => ?_
  have hnd : H dx = none := I.hok.fresh dn
  have old : ∀ {b : Addr} {o : Obj}, hp.get? b = some o → b ≠ dx := fun q => Nat.ne_of_lt (Nat.lt_of_lt_of_le (Heap.lt_size q) dn)
  have off : ∀ {b : Addr}, H b = none → b ≠ a := fun n z => by
    rw [z, e] at n
    cases n
  have same : ∀ {b : Addr} {o : HO}, H b = some o → exo a C none ≠ o → upd (upd H dx (exd dx [(f, y)])) a (exo a C (some dx)) b = some o := fun {b o} q ne => by
    rw [upd_ne (at_ne e q ne), upd_ne (ne_of_none q hnd)]
    exact q
  refine h dx _ hnd dne (I.un (t' := tk') ⟨fun b o q n _ _ => k b o (off n) q, fun b o q n _ _ => ⟨o.slots, k b o (off n) q⟩, fun b o q n _ => ?_, fun b o q _ => ?_, fun b xs q => same q exo_tup, fun b o v q => same q exo_frz, fun b ps q => ⟨#[], by rw [same q exo_tbl]; simp⟩⟩ fun b o q => ?_)
  · rw [upd_ne (off n), upd_ne (old q)]
    exact n
  · by_cases hb : b = a
    · exact ⟨_, by rw [hb]; exact hx⟩
    · exact ⟨o, k b o hb q⟩
  · by_cases hb : b = a
    · subst hb
      rw [upd_same] at q
      cases q
      exact exo_ok hx
    · rw [upd_ne hb] at q
      by_cases hd : b = dx
      · subst hd
        rw [upd_same] at q
        cases q
        exact exd_ok hn (relO_put (fs := []) ry fun g => True.intro)
      · rw [upd_ne hd] at q
        refine (I.hok b o q).stay (fun c v hc z => k c v ?_ z) (fun c hc => same hc exo_own) (fun c xs hc => same hc exo_tup)
        rcases hc with rfl | hc
        · exact hb
        · exact at_ne e hc exo_own
theorem setOld (T : XC X.K C) (I : Inv X pins σ H s) (e : H a = some (exo a C (some dx))) (ed : H dx = some (exd dx fs)) (hl : fs.length ≤ 900) (hno : PySem.W.findIn X.K (.ref C) f = some none) (ry : RelV y u)
    (h : ∀ s', Inv X pins σ (upd H dx (exd dx ((f, y) :: fs))) s' → Q () s') : wpAny (model X.prog X.w) A (setAttr (.ref a) f u) Q E s := by
  obtain ⟨cd, hcl, hm, hh⟩ := T.look
  obtain ⟨t1, ho⟩ := exo_at I.hok e
  obtain ⟨mA, hns, rel⟩ := exd_at I.hok ed
  obtain ⟨hp, g, d, t, os⟩ := s
  obtain ⟨oD, _, _, hoD, _, _⟩ := hns.count (within_of rel)
  refine PySem.W.set_plain I.kIn (ox := { cls := .ref C, dict := some dx, data := .fields #[.ref t1, .none, .none, .none, .bool false, .none] }) (od := some oD) ⟨ho, rfl, rfl, hoD⟩ T.sa ?_
  refine fieldOld I.kIn ho hns (within_of rel) (by rw [List.length_map]; omega) hcl hm hh hno fun h' tk' k hn => ?_
  obtain ⟨oN, _, _, hoN, _⟩ := id hn
  exact h _ (I.write (t' := tk') (x := dx) (e := dx) (o := exd dx ((f, y) :: fs)) (by rw [ed]; exact True.intro) (.inl rfl) k ⟨oN, hoN⟩ (exd_ok hn (relO_put ry rel)))
/-- where it stands in its making: what it has by now -/
def Part (H : Hp) (a C : Addr) (fs : List (Str × V)) (H' : Hp) : Prop := match fs with
  | [] => H' = H
  | fs => ∃ dx, H dx = none ∧ dx ≠ a ∧ H' = upd (upd H dx (exd dx fs)) a (exo a C (some dx))
theorem setAny {H' : Hp} (T : XC X.K C) (I : Inv X pins σ H' s) (e : H a = some (exo a C none)) (hp : Part H a C fs H') (hl : fs.length ≤ 900) (hno : PySem.W.findIn X.K (.ref C) f = some none) (ry : RelV y u)
    (h : ∀ H2 s', Part H a C ((f, y) :: fs) H2 → Inv X pins σ H2 s' → Q () s') : wpAny (model X.prog X.w) A (setAttr (.ref a) f u) Q E s := by
  cases fs with
  | nil =>
    have hp : H' = H := hp
    subst hp
    exact setNew T I e hno ry fun dx s' h1 h2 J => h _ s' ⟨dx, h1, h2, rfl⟩ J
  | cons p fs =>
    obtain ⟨dx, h1, h2, rfl⟩ := hp
    refine setOld (dx := dx) (fs := p :: fs) T I upd_same (by rw [upd_ne h2]; exact upd_same) hl hno ry fun s' J => h _ s' ⟨dx, h1, h2, ?_⟩ J
    funext b
    by_cases hb : b = dx
    · subst hb
      rw [upd_same, upd_ne h2, upd_same]
    · rw [upd_ne hb]
      by_cases ha : b = a
      · subst ha
        rw [upd_same, upd_same]
      · rw [upd_ne ha, upd_ne ha, upd_ne hb, upd_ne hb]
end
/-! ### the body: self.f = p, one behind another -/
/-- l: the fields, each with its parameter's slot -/
def stores (N : List Str) : List Stmt → Option (List (Str × Nat))
  | [] => some []
  | .Assign [.Attribute (.Name o _) f _] (.Name p _) _ :: r => match N[0]? == some o, N.findIdx? (· == p), stores N r with
    | true, some i, some l => some ((f, i) :: l)
    | _, _, _ => none
  | _ => none
section
variable {X : Cx}
def tStore (K : PySem.W.Frag) (f : Str) (i : Nat) : TS := fun D σ H => ∃ (a C : Addr) (H0 : Hp) (fs : List (Str × V)) (y : V), σ[0]? = some (some (.ref a)) ∧ σ[i]? = some (some y) ∧ XC K C ∧ H0 a = some (exo a C none) ∧ Part H0 a C fs H ∧ fs.length ≤ 900 ∧
  PySem.W.findIn K (.ref C) f = some none ∧ ∀ H2, Part H0 a C ((f, y) :: fs) H2 → D.nx σ H2
theorem ps_store {o p f : Str} {i : Nat} {p1 p2 p3 pos : Pos} (h0 : X.N[0]? = some o) (hi : X.N[i]? = some p) (v0 : Vis X.env.scope o) (vi : Vis X.env.scope p) (d0 : (o == ("__debug__" : Str)) = false) (c0 : (o == ("__classdict__" : Str)) = false) (di : (p == ("__debug__" : Str)) = false) (ci : (p == ("__classdict__" : Str)) = false) :
    PS X (.Assign [.Attribute (.Name o p1) f p2] (.Name p p3) pos) (tStore X.K f i) := by
  refine ⟨fun pins s σ H D I ⟨a, C, H0, fs, y, e0, ei, T, ha, hp, hl, hno, q⟩ => ?_⟩
  refine plainObj_wpAny_Assign_Attribute (thn ((pe_var (pos := p3) hi vi di ci).run pins s σ H (fun v H1 => v = y ∧ H1 = H) I ⟨y, ei, rfl, rfl⟩) fun v s1 ⟨y', H1, I1, r1, e1, e2⟩ => ?_) rfl
  subst e1 e2
  refine thn ((pe_var (pos := p1) h0 v0 d0 c0).run pins s1 σ H1 (fun v H2 => v = .ref a ∧ H2 = H1) I1 ⟨.ref a, e0, rfl, rfl⟩) fun u s2 ⟨x, H2, I2, r2, e3, e4⟩ => ?_
  subst e3 e4
  obtain rfl : u = Value.ref a := r2
  exact setAny T I2 ha hp hl hno r1 fun H3 s' hp' J => ⟨σ, _, J, q _ hp'⟩
def tStores (K : PySem.W.Frag) (l : List (Str × Nat)) : TS := fun D σ H => ∃ (a C : Addr) (H0 : Hp) (fs : List (Str × V)) (ys : List V), σ[0]? = some (some (.ref a)) ∧ XC K C ∧ H0 a = some (exo a C none) ∧ Part H0 a C fs H ∧ fs.length + l.length ≤ 900 ∧
  (∀ q ∈ l, PySem.W.findIn K (.ref C) q.1 = some none) ∧ Paired (fun (q : Str × Nat) (y : V) => σ[q.2]? = some (some y)) l ys ∧ ∀ H2, Part H0 a C (((l.map (·.1)).zip ys).reverse ++ fs) H2 → D.nx σ H2
theorem findIdx_get {N : List Str} {p : Str} {i : Nat} (h : N.findIdx? (· == p) = some i) : N[i]? = some p := by
  obtain ⟨h1, h2, _⟩ := List.findIdx?_eq_some_iff_getElem.mp h
  rw [List.getElem?_eq_getElem h1, beq_iff_eq.mp h2]
theorem pss_stores {N : List Str} (hN : X.N = N) (hv : ∀ x ∈ N, Vis X.env.scope x ∧ (x == ("__debug__" : Str)) = false ∧ (x == ("__classdict__" : Str)) = false) : ∀ (body : List Stmt) (l : List (Str × Nat)), stores N body = some l → PSs X body (tStores X.K l)
  | [], l, h => by
    cases h
    exact pss_nil.imp fun D σ H ⟨a, C, H0, fs, ys, e0, T, ha, hp, hl, hno, pr, q⟩ => by
      cases pr
      exact q H hp
  | st :: r, l, h => by
    unfold stores at h
    split at h
    · rename_i e
      cases e
    · rename_i o p1 f p2 p p3 p4 r' e
      cases e
      split at h
      · rename_i i l' e0 ei el
        cases h
        have g0 : X.N[0]? = some o := by rw [hN]; exact beq_iff_eq.mp e0
        have gi : X.N[i]? = some p := by rw [hN]; exact findIdx_get ei
        obtain ⟨a1, a2, a3⟩ := hv o (hN ▸ List.mem_of_getElem? g0)
        obtain ⟨b1, b2, b3⟩ := hv p (hN ▸ List.mem_of_getElem? gi)
        refine (pss_cons (ps_store g0 gi a1 b1 a2 a3 b2 b3) (pss_stores hN hv r l' el)).imp fun D σ H ⟨a, C, H0, fs, ys, e0, T, ha, hp, hl, hno, pr, q⟩ => ?_
        cases pr with
        | @cons _ y _ ys py pr =>
          rw [List.length_cons] at hl
          refine ⟨a, C, H0, fs, y, e0, py, T, ha, hp, by omega, hno _ List.mem_cons_self, fun H2 hp2 => ⟨a, C, H0, (f, y) :: fs, ys, e0, T, ha, hp2, by rw [List.length_cons]; omega, fun q hq => hno q (List.mem_cons_of_mem _ hq), pr, fun H3 hp3 => q H3 ?_⟩⟩
          simpa using hp3
      · cases h
    · cases h
end
/-! ### the __init__, as a def -/
def spX (K : PySem.W.Frag) (ps : List Str) (l : List (Str × Nat)) : Sp := fun vs H Q _ => ∃ (a C : Addr) (ys : List V), vs.length = ps.length ∧ vs[0]? = some (.ref a) ∧ XC K C ∧ H a = some (exo a C none) ∧ l.length ≤ 900 ∧ (∀ q ∈ l, PySem.W.findIn K (.ref C) q.1 = some none) ∧
  Paired (fun (q : Str × Nat) (y : V) => vs[q.2]? = some y) l ys ∧ ∀ H2, Part H a C ((l.map (·.1)).zip ys).reverse H2 → Q .non H2
theorem start_get {N : List Str} {vs : List V} {i : Nat} {y : V} (h : vs[i]? = some y) : (L2.start N vs)[i]? = some (some y) := by
  have hl : i < vs.length := by
    rcases Nat.lt_or_ge i vs.length with h1 | h1
    · exact h1
    · rw [List.getElem?_eq_none h1] at h
      cases h
  unfold L2.start
  rw [List.getElem?_append_left (by simpa using hl), List.getElem?_map, h]
  rfl
theorem init_fn {prog : Program} {w : World} {K : PySem.W.Frag} {mg : Str → Option Value} {base : Heap} {CX : CXT} {name qual : Str} {params : Arguments} {body : List Stmt} {scope : Scope} {fa : Addr} {fd : FuncData} {ps : List Str} {l : List (Str × Nat)}
    (F : FunD K name qual params body scope [] [] fa fd) (sc : FnScope ps ps scope) (hb : stores ps body = some l) (hn : ∀ x ∈ ps, (x == ("__debug__" : Str)) = false ∧ (x == ("__classdict__" : Str)) = false) : FnOk prog w K mg base CX 1 fa fd ps (spX K ps l) := by
  refine F.ok sc (fun vs H Q E ⟨_, _, _, h, _⟩ => h) fun cdv A outer s H vs Q E hr ⟨a, C, ys, h1, h2, T, ha, hl, hno, pr, q⟩ => ?_
  have hv : ∀ x ∈ ps, Vis scope x ∧ (x == ("__debug__" : Str)) = false ∧ (x == ("__classdict__" : Str)) = false := fun x hx => ⟨(sc.par x hx).elim .inl fun z => .inr (.inl z), hn x hx⟩
  refine ⟨_, pss_stores (X := cxOf CX prog w K mg base ps qual scope fa cdv A outer s H E) (N := ps) rfl hv body l hb, ?_⟩
  refine ⟨a, C, H, [], ys, start_get h2, T, ha, rfl, by rw [List.length_nil]; omega, hno, ?_, fun H2 hp => q H2 (by rw [List.append_nil] at hp; exact hp)⟩
  exact pr.rec .nil fun h _ ih => .cons (start_get h) ih
/-- C(e, ..) -/
theorem pmk_x {X : Cx} {CX : CXT} {x : Str} {C fI : Addr} {k : Nat} {fd : FuncData} {ps : List Str} {sp : Sp} {e : Expr} {es : List Expr} {ta : TA} {p pos : Pos} (T : XC X.K C) (iC : PySem.W.findIn X.K (.ref C) "__init__" = some (some (.ref fI))) (tI : PySem.W.typeIn X.K (.ref fI) = some (.type "function"))
    (F1 : FnOk X.prog X.w X.K X.mg X.base CX k fI fd ps sp) (hr : Room (k + 1) X.A) (hb : Binds X.K fd ps []) (hx : Passes CX X (fun _ _ _ => False)) (hg : Gl X x) (hm : X.mg x = some (.ref C)) (ha : PA X (e :: es) ta)
    (hdb : (x == ("__debug__" : Str)) = false) (he : starEach (e :: es) X.env = (false, eval e X.env) :: starEach es X.env) (hpl : (backTo pos (starEach es X.env)).any (·.1) = false) :
    PMk X (.Call (.Name x p) (e :: es) [] pos) (tMkO C sp [] ta) := by
  intro pins s σ H Q I h
  obtain ⟨nm, q, N, bs, bm, sn, sub, ab, col, dd, k0, k1, k2, k3, k5, hC, hbm⟩ := T.cls
  refine wpAny_Call_Name_kw (ld_glob I hg hm ?_ hdb)
  refine PySem.W.callWith_K (h₀ := X.base) I.ok.mod.kin T.kC (thn (ha.run pos pins s σ H _ I h) fun us s1 ⟨vs, H1, I1, r1, hz, q1⟩ => ⟨I1.kIn, ?_⟩) he hpl
  show wpAny _ _ (call (.ref C) us) _ _ _
  obtain ⟨hp, g, dr, tk, os⟩ := s1
  have hsz : hp.objs.size ≤ hp.objs.size + 1 := Nat.le_succ _
  have hq := q1 _ (I1.hok.fresh hsz)
  have kk : ∀ b o, hp.get? b = some o → ((hp.push (PySem.W.kdv_tup us)).push (PySem.HandSPX.excO C hp.objs.size)).get? b = some o := fun b o e => Heap.get?_push_of_some _ (Heap.get?_push_of_some _ e)
  have hget : ((hp.push (PySem.W.kdv_tup us)).push (PySem.HandSPX.excO C hp.objs.size)).get? (hp.objs.size + 1) = some (PySem.HandSPX.excO C hp.objs.size) := by heap_get
  have I2 : Inv X pins σ (upd H1 (hp.objs.size + 1) (exo (hp.objs.size + 1) C none)) ⟨(hp.push (PySem.W.kdv_tup us)).push (PySem.HandSPX.excO C hp.objs.size), g, dr, tk, os⟩ :=
    I1.laid (t' := tk) (a := hp.objs.size + 1) (o := exo (hp.objs.size + 1) C none) (h' := (hp.push (PySem.W.kdv_tup us)).push (PySem.HandSPX.excO C hp.objs.size)) kk hsz (exo_ok hget)
  have r2 : Vals (V.ref (hp.objs.size + 1) :: (vs ++ [])) (Value.ref (hp.objs.size + 1) :: (us ++ [])) := .cons rfl (r1.append .nil)
  have hl : (Value.ref (hp.objs.size + 1) :: us ++ []).length = ps.length := by
    have e := r2.length
    rw [F1.len _ _ _ _ hq] at e
    exact e.symm
  have hus : us.length ≤ sizeLine := by
    rw [← Paired.length r1, sizeLine_eq]
    omega
  have hbb : (Value.ref (hp.objs.size + 1) :: us ++ []).length = ps.length → BindsTo ⟨(hp.push (PySem.W.kdv_tup us)).push (PySem.HandSPX.excO C hp.objs.size), g, dr, tk, os⟩ fd ⟨Value.ref (hp.objs.size + 1) :: us, []⟩ (ps.zip (Value.ref (hp.objs.size + 1) :: (us ++ []))) := fun hl => by
    have := hb ⟨(hp.push (PySem.W.kdv_tup us)).push (PySem.HandSPX.excO C hp.objs.size), g, dr, tk, os⟩ (Value.ref (hp.objs.size + 1) :: us) I2.kIn hl
    rw [List.append_nil] at this ⊢
    exact this
  refine wpAny_call (PySem.HandSPX.call_own F.excBase_Exception (fun Y => PySem.W.excTail_contains Y bm hbm) (I1.kIn _ _ hC) (PySem.W.looks_findIn I1.kIn iC) (fun self => PySem.W.bind_fn I1.kIn self tI) hus
    (codeAny_mono (F1.run _ X.stack _ _ ⟨Value.ref (hp.objs.size + 1) :: us, []⟩ (Value.ref (hp.objs.size + 1) :: (us ++ [])) _ _ (fun _ _ _ => False) (hr.make C us []) (I2.env0.make C us []) (hbb hl) r2 hq) fun r s' hq' => ?_))
  cases r with
  | error er => exact hx pins σ _ _ er s' I2 hq'
  | ok fl =>
    cases fl with
    | ret u =>
      obtain ⟨v, H2, os2, bare2, un2, hok2, rv, ev, d, fs, ea, ed, hd1, q2⟩ := hq'
      subst ev
      obtain ⟨h2, g2, d2, t2, os'⟩ := s'
      exact ⟨rv, mk_end (raises_own T.exC T.tyC) I1 hsz kk un2 hok2 os2 bare2 ea ed hd1 q2⟩
    | next => exact False.elim hq'
    | brk => exact False.elim hq'
    | cont => exact False.elim hq'
end TLX

set_option maxHeartbeats 1000000
/-! TLb: raise C(..); try: .. / except C [as e]: return (.., e.f, ..); plainly. -/
namespace TL
open PySem PySem.Spec L2
open PyProof.Rows hiding St

/-- raise c(..): fs are c's fields, as its __init__ stores them -/
@[reducible] def raiseI (c : Str) (fs : List Str) (as : IA) : IS := fun D ρ S => as ρ S (fun vs S1 => vs.length = fs.length ∧ D.ex ρ ⟨c, fs.reverse, vs.reverse⟩ S1) (D.ex ρ)
/-- the fields, each with its parameter's slot -/
def slotsF (fs : List Str) : List (Str × Nat) := fs.zip (List.range' 1 fs.length)
/-- the own exception class c stands at its name -/
structure ExOk (X : Cx) (k : Nat) (c : Str) (fs : List Str) : Prop where
  xc : TLX.XC X.K (He.ga X.K c)
  xf : XfC X.K (He.ga X.K c)
  no : ∀ f ∈ fs, PySem.W.findIn X.K (.ref (He.ga X.K c)) f = some none
  mg : X.mg c = some (.ref (He.ga X.K c))
  len : fs ≠ [] ∧ fs.length ≤ 800
  init : ∃ (fI : Addr) (fd : FuncData) (ps : List Str), PySem.W.findIn X.K (.ref (He.ga X.K c)) "__init__" = some (some (.ref fI)) ∧ PySem.W.typeIn X.K (.ref fI) = some (.type "function") ∧ Binds X.K fd ps [] ∧ ps.length = 1 + fs.length ∧
    FnOk X.prog X.w X.K X.mg X.base (L2.CX X.prog X.w) k fI fd ps (TLX.spX X.K ps (slotsF fs))
section
variable {K : PySem.W.Frag} {B : Addr → Prop} {H : Hp} {S : Sto}
theorem slots_pair {a : V} : ∀ {fs : List Str} {xs : List V} (pre : List V), xs.length = fs.length → Paired (fun (q : Str × Nat) (y : V) => (pre ++ xs)[q.2]? = some y) (fs.zip (List.range' pre.length fs.length)) xs
  | [], [], _, _ => .nil
  | f :: fs, x :: xs, pre, h => by
    rw [List.length_cons, List.range'_succ, List.zip_cons_cons]
    refine .cons (by simp) ?_
    have := slots_pair (a := a) (fs := fs) (xs := xs) (pre ++ [x]) (by simpa using h)
    rw [List.length_append, List.length_singleton, List.append_assoc] at this
    exact this
theorem xz_fst {fs : List Str} {xs : List V} (h : xs.length = fs.length) : (fs.zip xs).map (·.1) = fs := by rw [List.map_fst_zip]; omega
theorem xz_snd {fs : List Str} {xs : List V} (h : xs.length = fs.length) : (fs.zip xs).map (·.2) = xs := by rw [List.map_snd_zip]; omega
theorem slots_fst (fs : List Str) : (slotsF fs).map (·.1) = fs := by
  unfold slotsF
  rw [List.map_fst_zip]
  rw [List.length_range']
  exact Nat.le_refl _
end
section
variable {X : Cx} {W : WX} {a : Expr} {es : List Expr} {mr : IA} {c : Str} {fs : List Str} {k : Nat}
theorem ss_raise {p pos pos' : Pos} (D : ExOk X k c fs) (hc : X.calm = true) (hr : Room (k + 1) X.A) (tk : Takes X W) (hg : Gl X c) (hdb : (c == ("__debug__" : Str)) = false) (hs : (a :: es).any starB = false) (ha : PA X (a :: es) (liftA X.K W mr)) :
    PS X (.Raise (some (.Call (.Name c p) (a :: es) [] pos')) none pos) (liftS X.K W (raiseI c fs mr)) := by
  have h1 : (starB a || es.any starB) = false := hs
  obtain ⟨h1, h2⟩ := Bool.or_eq_false_iff.mp h1
  obtain ⟨fI, fd, ps, i1, i2, i3, i4, i5⟩ := D.init
  refine (ps_raise hc tk (TLX.pmk_x D.xc i1 i2 i5 hr i3 passL hg D.mg ha hdb (starEach_one h1) (backTo_plain h2))).imp fun DD σ H ⟨ρ, S, B, Di, R, h, d⟩ => ?_
  refine ⟨ρ, S, B, _, _, R, h, fun vs S1 xs H1 rv hr1 e ⟨hl, h1⟩ => ?_, d.er R.st⟩
  have hxl : xs.length = fs.length := by rw [← rv.length]; exact hl
  obtain ⟨fne, flen⟩ := D.len
  refine ⟨by omega, fun a na => ?_⟩
  rw [List.append_nil]
  refine ⟨a, He.ga X.K c, xs, by rw [List.length_cons, i4]; omega, rfl, D.xc, upd_same, by unfold slotsF; rw [List.length_zip, List.length_range']; omega, fun q hq => D.no q.1 ?_, slots_pair (a := .ref a) [V.ref a] hxl, fun H2 hp => ⟨rfl, ?_⟩⟩
  · have : q.1 ∈ (slotsF fs).map (·.1) := List.mem_map_of_mem hq
    rw [slots_fst] at this
    exact this
  · rw [slots_fst] at hp
    have hne : (fs.zip xs).reverse ≠ [] := by
      intro z
      have z2 := congrArg List.length z
      rw [List.length_reverse, List.length_zip, hxl, Nat.min_self, List.length_nil] at z2
      exact fne (List.length_eq_zero_iff.mp z2)
    generalize hf : (fs.zip xs).reverse = gs at hp hne
    cases gs with
    | nil => exact absurd rfl hne
    | cons g gs =>
      obtain ⟨dx, n1, n2, rfl⟩ := hp
      rw [upd_ne n2] at n1
      refine ⟨dx, g :: gs, upd_same, by rw [upd_ne n2]; exact upd_same, n1, ?_⟩
      have eH : upd (del (upd (upd (upd H1 a (exo a (He.ga X.K c) none)) dx (exd dx (g :: gs))) a (exo a (He.ga X.K c) (some dx))) a) dx (.xd (g :: gs)) = upd H1 dx (.xd (g :: gs)) := by
        funext b
        by_cases hb : b = dx
        · subst hb
          rw [upd_same, upd_same]
        · rw [upd_ne hb, upd_ne hb]
          by_cases hba : b = a
          · subst hba
            rw [del_same, na]
          · rw [del_ne hba, upd_ne hba, upd_ne hb, upd_ne hba]
      rw [eH]
      have en : Ext S1 S1 H1 (upd H1 dx (.xd (g :: gs))) := Ext.new n1
      refine d.ex ρ ⟨c, fs.reverse, vs.reverse⟩ S1 σ (.ref (He.ga X.K c)) (some dx) (upd H1 dx (.xd (g :: gs))) (R.st.ext (e.trans en)) ⟨rfl, .inr ⟨dx, g :: gs, rfl, upd_same, hr1.free n1, ?_, ?_⟩⟩ (hr1.new n1) (e.trans en) h1
      · have e2 : (g :: gs).map (·.1) = fs.reverse := by rw [← hf, List.map_reverse, xz_fst hxl]
        exact e2
      · have e2 : (g :: gs).map (·.2) = xs.reverse := by rw [← hf, List.map_reverse, xz_snd hxl]
        rw [e2]
        exact (rv.ext en).reverse
end
/-! ### try -/
/-- what an except suite returns: a constant, or a tuple of constants and of the exception's fields -/
inductive HI where
  | con (v : Val) | fld (f : Str)
inductive HV where
  | con (v : Val) | tup (is : List HI)
def hiV (e : Exc) : HI → Option Val
  | .con v => some v
  | .fld f => (e.ns.zip e.vs).lookup f
def hisV (e : Exc) : List HI → Option (List Val)
  | [] => some []
  | i :: r => match hiV e i, hisV e r with
    | some v, some vs => some (v :: vs)
    | _, _ => none
def hvV (e : Exc) : HV → Option Val
  | .con v => some v
  | .tup is => (hisV e is).map .tup
abbrev ExTab := List (Str × List Str × List Str)
def hiF : HI → List Str
  | .con _ => []
  | .fld f => [f]
def hvF : HV → List Str
  | .con _ => []
  | .tup is => is.flatMap hiF
/-- the first clause that names e's class or one above it -/
def catchI (T : ExTab) (hs : List (Str × HV)) (D : IEnds) : ISt → Exc → Sto → Prop := fun ρ e S => match T.lookup e.cls with
  | none => False
  | some (fs, an) => match hs.find? fun h => an.contains h.1 with
    | none => D.ex ρ e S
    | some h => match hvV e h.2 with
      | none => False
      | some v => (∀ f ∈ hvF h.2, f ∈ fs) ∧ D.rt v S
def tryI (T : ExTab) (b : IS) (hs : List (Str × HV)) : IS := fun D ρ S => b { D with ex := catchI T hs D } ρ S
end TL

set_option maxHeartbeats 2000000
/-! TLc: a try whose except clauses, with a name or without, all return. -/
namespace TLX
open PySem PySem.Spec PyProof.Rows L2
abbrev SuT := Addr → Value → Option Addr → TS
/-- a suite that only returns -/
abbrev rtO (D : Ends) : Ends := { nx := fun _ _ => False, rt := D.rt }
def nmd (oi : Option Nat) (a : Addr) (σ : St) : St := match oi with
  | none => σ
  | some i => σ.set i (some (.ref a))
def wT (K : PySem.W.Frag) (Wout : WX) (D : Ends) : List (Value × Option Nat × SuT) → WX
  | [] => Wout
  | (c, oi, ts) :: r => fun cls d σ H => ∃ b, PySem.W.exmOne K cls c = some b ∧ (b = true → ∀ a, H a = none → ts a cls d (rtO D) (nmd oi a σ) H) ∧ (b = false → wT K Wout D r cls d σ H)
abbrev SuOk (X : Cx) (b₀ : Stmt) (suite : List Stmt) (ts : SuT) : Prop := ∀ (a : Addr) (oe : Obj) (cls : Value) (d : Option Addr) (pn : List (Addr × Obj)), Zc cls d oe → (∃ vs, oe.data = .fields vs) → PSs (X.suite a ((a, oe) :: pn)) (b₀ :: suite) (ts a cls d)
inductive HdR (X : Cx) : List ExceptHandler → List (Value × Option Nat × SuT) → Prop
  | nil : HdR X [] []
  | cons {x : Str} {c : Value} {ts : SuT} {b₀ : Stmt} {suite : List Stmt} {np p : Pos} {hds : List ExceptHandler} {l : List (Value × Option Nat × SuT)} (hc : Names X x c) (hsu : SuOk X b₀ suite ts) (r : HdR X hds l) : HdR X (.ExceptHandler (some (.Name x np)) none (b₀ :: suite) p :: hds) ((c, none, ts) :: l)
  | as_ {x n : Str} {i : Nat} {c : Value} {ts : SuT} {b₀ : Stmt} {suite : List Stmt} {np p : Pos} {hds : List ExceptHandler} {l : List (Value × Option Nat × SuT)} (hi : X.N[i]? = some n) (hn : X.env.kindOf n = some .local) (hc : Names X x c) (hsu : SuOk X b₀ suite ts) (r : HdR X hds l) :
      HdR X (.ExceptHandler (some (.Name x np)) (some n) (b₀ :: suite) p :: hds) ((c, some i, ts) :: l)
section
variable {X : Cx} {body : List Stmt} {hds : List ExceptHandler} {l : List (Value × Option Nat × SuT)} {pos : Pos} {tb : WX → TS} {Wout : WX} {D : Ends} {pins : List (Addr × Obj)} {σ : St} {H : Hp} {sI : Shared} {a : Addr} {cls : Value} {d : Option Addr} {B : Heap}
/-- an exception that was caught lies at a -/
structure Held (X : Cx) (pins : List (Addr × Obj)) (σ : St) (H : Hp) (sI : Shared) (B : Heap) (a : Addr) (cls : Value) (d : Option Addr) (s : Shared) : Prop where
  J : Inv X pins σ H sI
  nb : ∀ b o, sI.heap.get? b = some o → b ∉ frs X.stack → B.get? b = some o
  up : sI.heap.UpToSlots s.heap
  fl : HandSPX.FlyingZ B (X.env :: X.outer) a (Zc cls d) s.heap
  na : H a = none
  os : s.os = sI.os
  ag : AllBare s.gens
theorem Held.inv {s : Shared} (h : Held X pins σ H sI B a cls d s) : Inv X pins σ H s := h.J.landed h.nb h.fl.1 h.up h.os h.ag
theorem Held.su {s : Shared} (hf : X.env.frame = some X.env.locals) (h : Held X pins σ H sI B a cls d s) : ∃ oe, s.heap.get? a = some oe ∧ Zc cls d oe ∧ (∃ vs, oe.data = .fields vs) ∧ Inv (X.suite a ((a, oe) :: (X.pn ++ pins))) [] σ H s := by
  obtain ⟨oe, vs, he, hz, hd⟩ := h.fl.there
  have nfr : a ∉ frs (X.env :: X.outer) := fun hm => by
    obtain ⟨_, o', e', hnf⟩ := h.fl.2.2.1.mem hm
    rw [he] at e'
    cases e'
    exact hnf _ hd
  refine ⟨oe, he, hz, ⟨vs, hd⟩, h.inv.suite he hd h.na (fun z => nfr (List.mem_filterMap.mpr ⟨X.env, List.mem_cons_self, by rw [hf, z]⟩)) fun hm => ?_⟩
  obtain ⟨e, he, q⟩ := List.mem_filterMap.mp hm
  exact nfr (List.mem_filterMap.mpr ⟨e, List.mem_cons_of_mem _ he, q⟩)
/-- a clause's class against the exception's -/
theorem clause {s : Shared} {x : Str} {c : Value} {np : Pos} {b : Bool} {Q : Bool → Shared → Prop} {E E' : Value → Shared → Prop} (hf : X.env.frame = some X.env.locals) (h : Held X pins σ H sI B a cls d s) (hc : Names X x c) (hb : PySem.W.exmOne X.K cls c = some b) (q : Q b s) :
    wpAny (model X.prog X.w) (X.A.mark (some (.ref a))) (eval (.Name x np) X.env) (fun t s1 => wpAny (model X.prog X.w) (X.A.mark (some (.ref a))) (excMatches (.ref a) t) Q E s1) E' s := by
  obtain ⟨oe, he, hz, _, S⟩ := h.su hf
  have LT : PySem.W.Looks (model X.prog X.w) s.heap (typeOf (.ref a)) cls := fun A Q E s k q => wpAny_typeOf_ref (k _ _ he) (by rw [hz.1]; exact q)
  have LM := PySem.W.exm_one (M := model X.prog X.w) h.inv.kIn LT hb
  obtain ⟨hg, hdbg, hm | ⟨hm, hv, hnn⟩⟩ := hc
  · exact ld_glob (X := X.suite a ((a, oe) :: (X.pn ++ pins))) S hg hm (LM.here q) hdbg
  · exact ld_blt (X := X.suite a ((a, oe) :: (X.pn ++ pins))) S hg hm hv (LM.here q) hnn hdbg
/-- the flight is set to none once more -/
theorem Held.again {s : Shared} {Q : Unit → Shared → Prop} {A : Around} {E : Value → Shared → Prop} (h : Held X pins σ H sI B a cls d s) (q : ∀ s', Held X pins σ H sI B a cls d s' → Q () s') : wpAny (model X.prog X.w) A (setFlight (.ref a) none) Q E s :=
  HandSPX.lands_againZ h.fl fun h4 fl4 up4 => q { s with heap := h4 } ⟨h.J, h.nb, h.up.trans up4, fl4, h.na, h.os, h.ag⟩
/-- the clauses, one after the other -/
theorem clauses (hs : X.stack = X.env :: X.outer) (hf : X.env.frame = some X.env.locals) (hN : X.N.Nodup) (tk : Takes X Wout) (ok : X.Ok) (hk : HdR X hds l) : wT X.K Wout D l cls d σ H → ∀ s, Held X pins σ H sI B a cls d s →
    wpAny (model X.prog X.w) X.A (handleBy (.ref a) X.env hds) (SP X pins D) X.xe s := by
  induction hk with
  | nil =>
    intro w s h
    refine wpAny_handleBy_nil ?_
    obtain ⟨_, _, _, oe, vs, T, oT, ts', he, hz, hd, h1, hr⟩ := id h.fl
    unfold PySem.passOn
    refine wpAny_bind (wpAny_field he hd h1 ?_)
    rw [if_neg (show ¬ ((Value.ref T == Value.none) = true) from by simp)]
    have fin : wpAny (model X.prog X.w) X.A (setFlight (.ref a) X.env.frame) (fun _ s4 => wpAny (model X.prog X.w) X.A (throw (.ref a) : Sem Flow) (SP X pins D) X.xe s4) X.xe s := by
      rw [hf]
      exact HandSPX.setFlight_upZ h.fl fun h4 hh4 up4 => wpAny_throw (tk _ _ ⟨a, B, sI, pins, σ, H, cls, d, rfl, h.J, h.nb, h.up.trans up4, .inr (.inr (by rw [hs]; exact hh4)), h.na, h.os, h.ag, w⟩)
    first
      | exact wpAny_bind (wpAny_pure (wpAny_bind fin))
      | exact wpAny_bind fin
  | cons hc hsu r ih =>
    rintro ⟨b, hb, hy, hn⟩ s h
    refine wpAny_handleBy_cons (codeAny_handlers_test (clause hf h hc hb ?_)) (by intro q; cases q)
    cases b with
    | false => exact ih (hn rfl) s h
    | true =>
      refine codeAny_handlers_suite (h.again fun s4 h4 => ?_)
      obtain ⟨oe, he, hz, hd, S⟩ := h4.su hf
      refine wpAny_mono ((hsu a oe cls d (X.pn ++ pins) hz hd).run [] _ _ H _ S (hy rfl a h.na)) (fun f s6 hsp => ?_) (fun _ _ z => False.elim z)
      cases f with
      | next => exact hsp.elim fun _ ⟨_, _, q⟩ => q.elim
      | brk => exact hsp.elim fun _ ⟨_, _, q⟩ => q.elim
      | cont => exact hsp.elim fun _ ⟨_, _, q⟩ => q.elim
      | ret u =>
        obtain ⟨v6, σ6, H6, S6, r6, q6⟩ := hsp
        exact ⟨_, _, _, S6.unsuite ok, r6, q6⟩
  | @as_ x n i c ts b₀ suite np p hds l hi hln hc hsu r ih =>
    rintro ⟨b, hb, hy, hn⟩ s h
    refine wpAny_handleBy_cons (codeAny_handlers_test (clause hf h hc hb ?_)) (by intro q; cases q)
    cases b with
    | false => exact ih (hn rfl) s h
    | true =>
      refine codeAny_handlers_suite_as (h.again fun s4 h4 => ?_)
      obtain ⟨oe, he, hz, hd, S⟩ := h4.su hf
      refine store_ok (X := X.suite a ((a, oe) :: (X.pn ++ pins))) (v := .ref a) S hN hi (.inl hln) rfl (fun s5 S5 => ?_) (.inr hln)
      refine wpAny_mono ((hsu a oe cls d (X.pn ++ pins) hz hd).run [] s5 _ H _ S5 (hy rfl a h.na)) (fun f s6 hsp => ?_) (fun _ _ z => False.elim z)
      cases f with
      | next => exact hsp.elim fun _ ⟨_, _, q⟩ => q.elim
      | brk => exact hsp.elim fun _ ⟨_, _, q⟩ => q.elim
      | cont => exact hsp.elim fun _ ⟨_, _, q⟩ => q.elim
      | ret u =>
        obtain ⟨v6, σ6, H6, S6, r6, q6⟩ := hsp
        exact gone_ok (S6.unsuite ok) hN hi hln fun s7 J7 => ⟨_, _, _, J7, r6, q6⟩
theorem ps_tryR {h₀ : ExceptHandler} (hs : X.stack = X.env :: X.outer) (hf : X.env.frame = some X.env.locals) (hN : X.N.Nodup) (tk : Takes X Wout)
    (hb : ∀ (W : WX) (pn : List (Addr × Obj)) (xe : Value → Shared → Prop), Takes (X.tr pn xe) W → PassesOwn (model X.prog X.w) X.A X.env xe → PSs (X.tr pn xe) body (tb W)) (hh : HdR X (h₀ :: hds) l) :
    PS X (.Try body (h₀ :: hds) [] [] pos) (fun D σ H => tb (wT X.K Wout D l) D σ H) := by
  refine ⟨fun pins s σ H D I h => ?_⟩
  have ok := I.ok
  have hfr : X.A.frames = some (X.env :: X.outer) := by rw [ok.frames, hs]
  refine wpAny_Try_except ?_
  refine wpAny_mono ((hb (wT X.K Wout D l) (X.pn ++ pins) _ (fun u s' xx => ?_) PassesOwn.looking).run [] s σ H D (I.toTry _) h) (fun f s1 hsp => ?_) (fun e s1 he => he)
  · obtain ⟨a, B, sI, pins', σ', H', cls, d, rfl, J', nb, up, sky, na, os, ag, w⟩ := xx
    have sky' : Sky B (X.env :: X.outer) a (Zc cls d) X.env.locals s'.heap := by rw [← hs]; exact sky
    refine Sky.land Zc.steady hfr hf sky' fun h3 fl3 up3 => ?_
    exact clauses hs hf hN tk ok hh w _ ⟨J'.ofTry ok, nb, up.trans up3, fl3, na, os, ag⟩
  · cases f with
    | next =>
      obtain ⟨σ', H', J', q⟩ := hsp
      exact wpAny_execs_nil ⟨σ', H', J'.ofTry ok, q⟩
    | brk =>
      obtain ⟨σ', H', J', q⟩ := hsp
      exact ⟨σ', H', J'.ofTry ok, q⟩
    | cont =>
      obtain ⟨σ', H', J', q⟩ := hsp
      exact ⟨σ', H', J'.ofTry ok, q⟩
    | ret u =>
      obtain ⟨v, σ', H', J', r, q⟩ := hsp
      exact ⟨v, σ', H', J'.ofTry ok, r, q⟩
end
end TLX

set_option maxHeartbeats 1000000
/-! TLg: what an except suite returns; the try statement, plainly. -/
namespace TL
open PySem PySem.Spec L2
open PyProof.Rows hiding St

def conE : Expr → Option (Val × V)
  | .Constant .none _ _ => some (.non, .non)
  | .Constant (.bool b) _ _ => some (.bl b, .bl b)
  | .Constant (.int i) _ _ => some (.int i, .int i)
  | .Constant (.str x) _ _ => some (.str x, .str x)
  | _ => none
def hiOf (nm : Option Str) : Expr → Option HI
  | .Attribute (.Name e _) f _ => if nm = some e then some (.fld f) else none
  | e => (conE e).map fun q => .con q.1
def hisOf (nm : Option Str) : List Expr → Option (List HI)
  | [] => some []
  | e :: r => match hiOf nm e, hisOf nm r with
    | some i, some is => some (i :: is)
    | _, _ => none
def hvOf (nm : Option Str) : Expr → Option HV
  | .Tuple es _ _ => if es.any starB || decide (1000 < es.length) then none else (hisOf nm es).map .tup
  | e => (conE e).map fun q => .con q.1
section
variable {X : Cx} {K : PySem.W.Frag} {e : Expr} {v : Val} {x : V}
theorem conE_ok (h : conE e = some (v, x)) : PE X e (tC x) ∧ ∀ K B H S, RV K B H S v x := by
  unfold conE at h
  split at h <;> cases h
  · exact ⟨pe_non, fun _ _ _ _ => .non⟩
  · exact ⟨pe_bl, fun _ _ _ _ => .bl _⟩
  · exact ⟨pe_int, fun _ _ _ _ => .int _⟩
  · exact ⟨pe_str, fun _ _ _ _ => .str _⟩
/-- what is known of the exception's class, its fields fs -/
structure Knw (K : PySem.W.Frag) (c : Str) (fs : List Str) : Prop where
  xf : XfC K (He.ga K c)
  no : ∀ f ∈ fs, PySem.W.findIn K (.ref (He.ga K c)) f = some none
/-- the clause's name is a local of the def, in slot i -/
structure NmOk (X : Cx) (nm : Option Str) (oi : Option Nat) : Prop where
  n : ∀ x, nm = some x → ∃ i, oi = some i ∧ X.N[i]? = some x ∧ Vis X.env.scope x ∧ (x == ("__debug__" : Str)) = false ∧ (x == ("__classdict__" : Str)) = false
def tHI (K : PySem.W.Frag) (a : Addr) (cls : Value) (d : Option Addr) (oi : Option Nat) (hi : HI) : TE := fun σ H Q => ∃ (S : Sto) (B : Addr → Prop) (ex : Exc) (v : Val) (fs : List Str) (σ0 : L2.St), XR K B H S ex cls d ∧ hiV ex hi = some v ∧ Knw K ex.cls fs ∧ (∀ f ∈ hiF hi, f ∈ fs) ∧ σ = TLX.nmd oi a σ0 ∧ ∀ x, RV K B H S v x → Q x H
def tHIs (K : PySem.W.Frag) (a : Addr) (cls : Value) (d : Option Addr) (oi : Option Nat) (his : List HI) : TA := fun σ H Q => ∃ (S : Sto) (B : Addr → Prop) (ex : Exc) (vs : List Val) (fs : List Str) (σ0 : L2.St), XR K B H S ex cls d ∧ hisV ex his = some vs ∧ Knw K ex.cls fs ∧ (∀ f ∈ his.flatMap hiF, f ∈ fs) ∧ σ = TLX.nmd oi a σ0 ∧ ∀ xs, RVs K B H S vs xs → Q xs H
def tHV (K : PySem.W.Frag) (a : Addr) (cls : Value) (d : Option Addr) (oi : Option Nat) (hv : HV) : TE := fun σ H Q => ∃ (S : Sto) (B : Addr → Prop) (ex : Exc) (v : Val) (fs : List Str) (σ0 : L2.St), XR K B H S ex cls d ∧ HR K B H S ∧ hvV ex hv = some v ∧ Knw K ex.cls fs ∧ (∀ f ∈ hvF hv, f ∈ fs) ∧ σ = TLX.nmd oi a σ0 ∧
  ∀ x H', RV K B H' S v x → HR K B H' S → Ext S S H H' → Q x H'
theorem zip_lookup {B : Addr → Prop} {H : Hp} {S : Sto} {f : Str} : ∀ {ns : List Str} {vs : List Val} {fs : List (Str × V)} {v : Val}, fs.map (·.1) = ns → RVs K B H S vs (fs.map (·.2)) → (ns.zip vs).lookup f = some v → ∃ x, fs.lookup f = some x ∧ RV K B H S v x
  | _, _, [], _, rfl, .nil, h => by cases h
  | _, _, (g, y) :: fs, v, rfl, .cons (x := w) r t, h => by
    rw [List.map_cons, List.zip_cons_cons, List.lookup_cons] at h
    rw [List.lookup_cons]
    cases e : f == g with
    | true =>
      rw [e] at h
      cases h
      exact ⟨y, rfl, r⟩
    | false =>
      rw [e] at h
      exact zip_lookup rfl t h
theorem hi_ok {nm : Option Str} {oi : Option Nat} {hi : HI} (hn : NmOk X nm oi) (h : hiOf nm e = some hi) {a : Addr} {oe : Obj} {cls : Value} {d : Option Addr} {pn : List (Addr × Obj)} (hz : Zc cls d oe) (hf : ∃ vs, oe.data = .fields vs) : PE (X.suite a ((a, oe) :: pn)) e (tHI X.K a cls d oi hi) := by
  have con : ∀ {e : Expr}, (conE e).map (fun q => HI.con q.1) = some hi → PE (X.suite a ((a, oe) :: pn)) e (tHI X.K a cls d oi hi) := fun {e} h => by
    obtain ⟨⟨v, x⟩, h1, rfl⟩ := Option.map_eq_some_iff.mp h
    obtain ⟨p1, p2⟩ := conE_ok (X := X.suite a ((a, oe) :: pn)) h1
    exact p1.imp fun σ H Q ⟨S, B, ex, v', fs, σ0, xr, e1, _, _, _, q⟩ => by
      cases e1
      exact q x (p2 _ _ _ _)
  unfold hiOf at h
  split at h
  · rename_i n p f pos
    split at h
    · rename_i e0
      cases h
      obtain ⟨i, rfl, h1, h2, h3, h4⟩ := hn.n n e0
      refine ⟨fun pins s σ H Q I ⟨S, B, ex, v, fs, σ0, xr, e1, kn, hfs, e2, q⟩ => ?_⟩
      obtain ⟨ec, xr⟩ := xr
      have hi0 : σ[i]? = some (some (.ref a)) := by
        rw [e2]
        have hl : i < σ.length := by
          have := I.len
          have h5 : i < X.N.length := by
            rcases Nat.lt_or_ge i X.N.length with h6 | h6
            · exact h6
            · rw [List.getElem?_eq_none h6] at h1
              cases h1
          rw [this]
          exact h5
        rw [e2] at hl
        exact List.getElem?_set_self (by simpa [TLX.nmd] using hl)
      rcases xr with ⟨_, hns, _⟩ | ⟨dd, gs, ed, hd, _, hns, hvs⟩
      · rw [hiV, hns] at e1
        cases e1
      · have hno : PySem.W.findIn X.K (.ref (He.ga X.K ex.cls)) f = some none := kn.no f (hfs f (by simp [hiF]))
        obtain ⟨y, l1, l2⟩ := zip_lookup hns hvs e1
        exact (pe_xf (X := X) (C := He.ga X.K ex.cls) kn.xf hno hz hf (pe_var (X := X.suite a ((a, oe) :: pn)) (pos := p) h1 h2 h3 h4)).run pins s σ H Q I ⟨.ref a, hi0, rfl, ec, dd, gs, y, ed, hd, l1, q y l2⟩
    · cases h
  · exact con h
theorem his_ok {nm : Option Str} {oi : Option Nat} (hn : NmOk X nm oi) {a : Addr} {oe : Obj} {cls : Value} {d : Option Addr} {pn : List (Addr × Obj)} (hz : Zc cls d oe) (hf : ∃ vs, oe.data = .fields vs) : ∀ {es : List Expr} {his : List HI}, es.any starB = false → hisOf nm es = some his → PA (X.suite a ((a, oe) :: pn)) es (tHIs X.K a cls d oi his)
  | [], his, _, h => by
    cases h
    exact pa_nil.imp fun σ H Q ⟨S, B, ex, vs, fs, σ0, xr, e1, _, _, _, q⟩ => by
      cases e1
      exact q [] .nil
  | e :: es, his, hs, h => by
    have hs : (starB e || es.any starB) = false := hs
    obtain ⟨s1, s2⟩ := Bool.or_eq_false_iff.mp hs
    unfold hisOf at h
    split at h
    · rename_i i is h1 h2
      cases h
      refine (pa_cons (hi_ok hn h1 hz hf) (his_ok hn hz hf s2 h2) (starEach_one s1)).imp fun σ H Q ⟨S, B, ex, vs, fs, σ0, xr, e1, kn, hfs, e2, q⟩ => ?_
      unfold hisV at e1
      split at e1
      · rename_i v vs' g1 g2
        cases e1
        exact ⟨S, B, ex, v, fs, σ0, xr, g1, kn, fun f hf => hfs f (List.mem_flatMap.mpr ⟨i, List.mem_cons_self, hf⟩), e2, fun x r => ⟨S, B, ex, vs', fs, σ0, xr, g2, kn, fun f hf => hfs f (by rw [List.flatMap_cons]; exact List.mem_append_right _ hf), e2, fun xs rs => q _ (.cons r rs)⟩⟩
      · cases e1
    · cases h
theorem hisV_len {ex : Exc} : ∀ {his : List HI} {vs : List Val}, hisV ex his = some vs → vs.length = his.length
  | [], vs, h => by cases h; rfl
  | i :: r, vs, h => by
    unfold hisV at h
    split at h
    · rename_i v vs' g1 g2
      cases h
      rw [List.length_cons, List.length_cons, hisV_len g2]
    · cases h
theorem hisOf_len {nm : Option Str} : ∀ {es : List Expr} {his : List HI}, hisOf nm es = some his → his.length = es.length
  | [], his, h => by cases h; rfl
  | e :: r, his, h => by
    unfold hisOf at h
    split at h
    · rename_i v vs' g1 g2
      cases h
      rw [List.length_cons, List.length_cons, hisOf_len g2]
    · cases h
theorem hv_ok {nm : Option Str} {oi : Option Nat} {hv : HV} (hn : NmOk X nm oi) (h : hvOf nm e = some hv) {a : Addr} {oe : Obj} {cls : Value} {d : Option Addr} {pn : List (Addr × Obj)} (hz : Zc cls d oe) (hf : ∃ vs, oe.data = .fields vs) : PE (X.suite a ((a, oe) :: pn)) e (tHV X.K a cls d oi hv) := by
  unfold hvOf at h
  split at h
  · rename_i es _ _
    split at h
    · cases h
    · rename_i hc
      obtain ⟨c1, c2⟩ := Bool.or_eq_false_iff.mp (Bool.eq_false_iff.mpr hc)
      obtain ⟨his, h1, rfl⟩ := Option.map_eq_some_iff.mp h
      refine (pe_tup (his_ok hn hz hf c1 h1)).imp fun σ H Q ⟨S, B, ex, v, fs, σ0, xr, hr, e1, kn, hfs, e2, q⟩ => ?_
      obtain ⟨vs, g1, rfl⟩ := Option.map_eq_some_iff.mp (show (hisV ex his).map Val.tup = some v from e1)
      refine ⟨S, B, ex, vs, fs, σ0, xr, g1, kn, hfs, e2, fun xs rs => ⟨?_, fun p hp => ?_⟩⟩
      · rw [← rs.length, hisV_len g1, hisOf_len h1, sizeLine_eq]
        have := of_decide_eq_false c2
        omega
      · have en : Ext S S H (upd H p (.tup xs)) := Ext.new hp
        exact q (.ref p) _ (.tup (.inl ⟨.inl upd_same, hr.free hp⟩) (rs.ext en)) (hr.new hp) en
  · obtain ⟨⟨v, x⟩, h1, rfl⟩ := Option.map_eq_some_iff.mp h
    obtain ⟨p1, p2⟩ := conE_ok (X := X.suite a ((a, oe) :: pn)) h1
    exact p1.imp fun σ H Q ⟨S, B, ex, v', fs, σ0, xr, hr, e1, _, _, _, q⟩ => by
      cases e1
      exact q x H (p2 _ _ _ _) hr Ext.refl
section
variable {W : WX} {T : ExTab} {b : IS} {body : List Stmt} {h₀ : ExceptHandler} {hds : List ExceptHandler} {pos : Pos} {l3 : List (Str × Option Nat × HV)}
theorem catch_ok {Di : IEnds} {D : Ends} {B : Addr → Prop} {S S' : Sto} {H H' : Hp} {ρ : ISt} {ex : Exc} {σ : L2.St} {c : Value} {d : Option Addr} {fs an : List Str} (dr : DR X.K W B S H Di D) (rst : RSt X.K B H' S' ρ σ) (xr : XR X.K B H' S' ex c d) (hr : HR X.K B H' S') (e : Ext S S' H H') (kn : Knw X.K ex.cls fs) :
    ∀ (l3 : List (Str × Option Nat × HV)), (∀ q ∈ l3, PySem.W.exmOne X.K (.ref (He.ga X.K ex.cls)) (.ref (He.ga X.K q.1)) = some (an.contains q.1)) →
      (match (l3.map fun q => (q.1, q.2.2)).find? fun h => an.contains h.1 with
        | none => Di.ex ρ ex S'
        | some h => match hvV ex h.2 with
          | none => False
          | some v => (∀ f ∈ hvF h.2, f ∈ fs) ∧ Di.rt v S') →
      TLX.wT X.K W D (l3.map fun q => (.ref (He.ga X.K q.1), q.2.1, fun a cls d => tRet (tHV X.K a cls d q.2.1 q.2.2))) c d σ H'
  | [], _, h => dr.ex ρ ex S' σ c d H' rst xr hr e h
  | q :: l3, hq, h => by
    have ih := catch_ok dr rst xr hr e kn l3 fun q hq' => hq q (List.mem_cons_of_mem _ hq')
    refine ⟨an.contains q.1, by rw [xr.1]; exact hq q List.mem_cons_self, fun hb a na => ?_, fun hb => ?_⟩
    · rw [List.map_cons, List.find?_cons_of_pos (by exact hb)] at h
      dsimp only at h
      cases hv : hvV ex q.2.2 with
      | none =>
        rw [hv] at h
        exact h.elim
      | some v =>
        rw [hv] at h
        exact ⟨S', B, ex, v, fs, σ, xr, hr, hv, kn, h.1, rfl, fun x H'' r hr' e' => dr.rt v S' x H'' r hr' (e.trans e') h.2⟩
    · rw [List.map_cons, List.find?_cons_of_neg (by show ¬ an.contains q.1 = true; rw [hb]; exact Bool.false_ne_true)] at h
      exact ih h
theorem ss_try (hs : X.stack = X.env :: X.outer) (hf : X.env.frame = some X.env.locals) (hN : X.N.Nodup) (tk : Takes X W)
    (hb : ∀ (W' : WX) (pn : List (Addr × Obj)) (xe : Value → Shared → Prop), Takes (X.tr pn xe) W' → PassesOwn (model X.prog X.w) X.A X.env xe → PSs (X.tr pn xe) body (liftS X.K W' b))
    (hh : TLX.HdR X (h₀ :: hds) (l3.map fun q => (.ref (He.ga X.K q.1), q.2.1, fun a cls d => tRet (tHV X.K a cls d q.2.1 q.2.2))))
    (hx : ∀ c fs an, T.lookup c = some (fs, an) → Knw X.K c fs ∧ ∀ q ∈ l3, PySem.W.exmOne X.K (.ref (He.ga X.K c)) (.ref (He.ga X.K q.1)) = some (an.contains q.1)) :
    PS X (.Try body (h₀ :: hds) [] [] pos) (liftS X.K W (tryI T b (l3.map fun q => (q.1, q.2.2)))) := by
  refine (TLX.ps_tryR hs hf hN tk hb hh).imp fun D σ H ⟨ρ, S, B, Di, R, h, dr⟩ => ⟨ρ, S, B, _, R, h, ⟨dr.nx, dr.rt, fun ρ' ex S' σ' c d H' rst xr hr e hc => ?_, dr.bk, dr.ct⟩⟩
  have hc : catchI T (l3.map fun q => (q.1, q.2.2)) Di ρ' ex S' := hc
  unfold catchI at hc
  split at hc
  · exact hc.elim
  · rename_i fs an e1
    obtain ⟨k1, k2⟩ := hx _ _ _ e1
    exact catch_ok dr rst xr hr e k1 l3 k2 hc
end
end
end TL

/-! TLh: a op1 b op2 c; a def as a value. -/
namespace TL
open PySem PySem.Spec L2
open PyProof.Rows hiding St
@[reducible] def chnK (c : IE) (r' : P2) (ρ : ISt) (y : Val) (Q : VQ) (E : EQ) : VQ := fun z S3 => match z with
  | .bl true => c ρ S3 (fun w S4 => r' y w S4 Q) E
  | .bl false => Q (.bl false) S3
  | _ => False
@[reducible] def chnI (r r' : P2) (a b c : IE) : IE := fun ρ S Q E => a ρ S (fun x S1 => b ρ S1 (fun y S2 => r x y S2 (chnK c r' ρ y Q E)) E) E
section
variable {X : Cx} {W : WX} {a b c : Expr} {ma mb mc : IE} {pos : Pos} {K : PySem.W.Frag}
theorem chn_imp {r r' : P2} {rr rr' : R2} (hr : P2Ok K r rr) (hr' : P2Ok K r' rr') : ∀ σ H Q, liftE K W (chnI r r' ma mb mc) σ H Q → tChain rr rr' (liftE K W ma) (liftE K W mb) (liftE K W mc) σ H Q := fun σ H Q ⟨ρ, S, B, Qi, Ei, R, h, q, er⟩ =>
  ⟨ρ, S, B, _, Ei, R, h, fun v S1 x H1 rv hr1 e1 h1 => ⟨ρ, S1, B, _, Ei, R.ext e1 hr1, h1, fun u S2 y H2 ru hr2 e2 h2 => hr B v u x y S2 H2 _ _ (rv.ext e2) ru hr2 h2 fun z S3 zx H3 rz hr3 e3 h3 => by
    have e13 := (e1.trans e2).trans e3
    cases rz with
    | bl k =>
      refine ⟨k, rfl, ?_⟩
      cases k with
      | false => exact q (.bl false) S3 _ H3 (.bl false) hr3 e13 h3
      | true =>
        exact ⟨ρ, S3, B, _, Ei, R.ext e13 hr3, h3, fun w S4 wx H4 rw4 hr4 e4 h4 => hr' B u w y wx S4 H4 Qi Q (ru.ext (e3.trans e4)) rw4 hr4 h4 (q.ext (e13.trans e4)), er.ext e13⟩
    | _ => exact h3.elim, er.ext e1⟩, er⟩
theorem se_chain {op op' : CmpOp} {r r' : P2} {rr rr' : R2} (ho : OpR X (compareOp op) rr) (ho' : OpR X (compareOp op') rr') (hr : P2Ok X.K r rr) (hr' : P2Ok X.K r' rr') (ha : PE X a (liftE X.K W ma)) (hb : PE X b (liftE X.K W mb)) (hc : PE X c (liftE X.K W mc)) (hm : behindInMarks op' c = false) :
    PE X (.Compare a [op, op'] [b, c] pos) (liftE X.K W (chnI r r' ma mb mc)) := (pe_chain ho ho' ha hb hc hm).imp (chn_imp hr hr')
theorem st_chain {op op' : CmpOp} {r r' : P2} {rr rr' : R2} (ho : OpR X (compareOp op) rr) (ho' : OpR X (compareOp op') rr') (hr : P2Ok X.K r rr) (hr' : P2Ok X.K r' rr') (ha : PE X a (liftE X.K W ma)) (hb : PE X b (liftE X.K W mb)) (hc : PE X c (liftE X.K W mc)) (hm : behindInMarks op' c = false) :
    PT X (.Compare a [op, op'] [b, c] pos) (liftT X.K W (tstB (chnI r r' ma mb mc))) := (pt_chain ho ho' ha hb hc hm).imp (tstB_imp (chn_imp hr hr'))
end
end TL

set_option maxHeartbeats 4000000
/-! TLo: two tuples of whole numbers in order -/
namespace TL
open PySem PySem.Spec L2 PyProof.Rows
theorem lex_len {p : Int → Int → Bool} (inv : ∀ a b : Int, p (a + 1) (b + 1) = p a b) : ∀ (i : Nat) (a b : Nat), p ((a + i : Nat) : Int) ((b + i : Nat) : Int) = p a b
  | 0, _, _ => rfl
  | i + 1, a, b => by
    rw [show ((a + (i + 1) : Nat) : Int) = ((a + i : Nat) : Int) + 1 by omega, show ((b + (i + 1) : Nat) : Int) = ((b + i : Nat) : Int) + 1 by omega, inv]
    exact lex_len inv i a b
theorem lexAt_P {p : Int → Int → Bool} {z : Bool} {e r : Nat → Bool} : ∀ (xs ys : List Int) (i : Nat),
    (∀ j, j < min xs.length ys.length → e (i + j) = decide (xs.getD j 0 = ys.getD j 0)) → (∀ j, j < min xs.length ys.length → r (i + j) = p (xs.getD j 0) (ys.getD j 0)) →
    z = p xs.length ys.length → (∀ a b : Int, p (a + 1) (b + 1) = p a b) → Ob.lexAt e r z i (min xs.length ys.length) = lexP p xs ys
  | [], ys, i, _, _, hz, _ => by
    rw [List.length_nil, Nat.zero_min, Ob.lexAt_zero]
    exact hz
  | x :: xs, [], i, _, _, hz, _ => by
    rw [List.length_nil, Nat.min_zero, Ob.lexAt_zero]
    exact hz
  | x :: xs, y :: ys, i, he, hr, hz, inv => by
    rw [show min (x :: xs).length (y :: ys).length = min xs.length ys.length + 1 by simp only [List.length_cons]; omega, Ob.lexAt_succ]
    have e0 := he 0 (by simp only [List.length_cons]; omega)
    have r0 := hr 0 (by simp only [List.length_cons]; omega)
    simp only [Nat.add_zero, List.getD_cons_zero] at e0 r0
    rw [e0, r0]
    by_cases q : x = y
    · rw [if_pos (decide_eq_true q)]
      show _ = if x = y then lexP p xs ys else p x y
      rw [if_pos q]
      refine lexAt_P xs ys (i + 1) (fun j hj => ?_) (fun j hj => ?_) ?_ inv
      · have := he (j + 1) (by simp only [List.length_cons]; omega)
        simp only [List.getD_cons_succ] at this
        rw [show i + 1 + j = i + (j + 1) by omega]; exact this
      · have := hr (j + 1) (by simp only [List.length_cons]; omega)
        simp only [List.getD_cons_succ] at this
        rw [show i + 1 + j = i + (j + 1) by omega]; exact this
      · rw [hz]
        simp only [List.length_cons]
        rw [show ((xs.length + 1 : Nat) : Int) = (xs.length : Int) + 1 by omega, show ((ys.length + 1 : Nat) : Int) = (ys.length : Int) + 1 by omega, inv]
    · rw [if_neg (by simpa using q)]
      show _ = if x = y then lexP p xs ys else p x y
      rw [if_neg q]
section
variable {X : Cx}
theorem op_lexLt (hu : X.A.units < cLine) : OpR X (compareOp .Lt) (rLex X.K fun i j => decide (i < j)) := by
  intro pins s σ H x y v u Q I rx ry h
  obtain ⟨a, b, ns, ms, rfl, rfl, ha, hb, q⟩ := h
  cases rx
  cases ry
  obtain ⟨its, r1, p1, _⟩ := I.tuple ha
  obtain ⟨its2, r2, p2, _⟩ := I.tuple hb
  have i1 : IntsAre its ns := Vals.ints r1
  have i2 : IntsAre its2 ms := Vals.ints r2
  have e1 : its.toArray.size = ns.length := by rw [List.size_toArray]; exact i1.length
  have e2 : its2.toArray.size = ms.length := by rw [List.size_toArray]; exact i2.length
  have at1 : ∀ j (h1 : j < its.toArray.size), ∃ t, its.toArray[j] = .int (ns.getD j 0) t := fun j h1 => PyProof.Rows.IntsAre.int_at i1 _ _ (by simp at h1; simp [h1])
  have at2 : ∀ j (h1 : j < its2.toArray.size), ∃ t, its2.toArray[j] = .int (ms.getD j 0) t := fun j h1 => PyProof.Rows.IntsAre.int_at i2 _ _ (by simp at h1; simp [h1])
  have R := Ob.RcOp.tuples_lt (A := X.A) (s := s) (e := fun j => decide (ns.getD j 0 = ms.getD j 0)) (r := fun j => decide (ns.getD j 0 < ms.getD j 0)) p1 p2 hu (fun j h1 h2 => by
    obtain ⟨t, et⟩ := at1 j h1
    obtain ⟨t', et'⟩ := at2 j h2
    rw [et, et']
    have z : (ns.getD j 0 == ms.getD j 0) = decide (ns.getD j 0 = ms.getD j 0) := by
      by_cases q : ns.getD j 0 = ms.getD j 0
      · rw [decide_eq_true q]; exact beq_iff_eq.mpr q
      · rw [decide_eq_false q]; exact beq_eq_false_iff_ne.mpr q
    rw [← z]
    exact SeqAt.EqAt.int_int _ _ _ _) (fun j h1 h2 _ => by
    obtain ⟨t, et⟩ := at1 j h1
    obtain ⟨t', et'⟩ := at2 j h2
    rw [et, et']
    exact Ob.RcOp.lt_int _ _ _ _)
  rw [e1, e2] at R
  rw [lexAt_P (p := fun i j => decide (i < j)) ns ms 0 (fun j _ => by rw [Nat.zero_add]) (fun j _ => by rw [Nat.zero_add]) (by simp only [decide_eq_decide, gt_iff_lt, ge_iff_le]; omega) (fun a b => by simp only [decide_eq_decide]; omega)] at R
  exact (show wpAny (model X.prog X.w) X.A (compareOp .Lt (.ref a) (.ref b)) (EP X pins σ Q) X.xe s from R X.prog X.w X.xe (EP X pins σ Q) ⟨.bl _, H, I, rfl, q⟩)
theorem op_lexLe (hu : X.A.units < cLine) : OpR X (compareOp .LtE) (rLex X.K fun i j => decide (i ≤ j)) := by
  intro pins s σ H x y v u Q I rx ry h
  obtain ⟨a, b, ns, ms, rfl, rfl, ha, hb, q⟩ := h
  cases rx
  cases ry
  obtain ⟨its, r1, p1, _⟩ := I.tuple ha
  obtain ⟨its2, r2, p2, _⟩ := I.tuple hb
  have i1 : IntsAre its ns := Vals.ints r1
  have i2 : IntsAre its2 ms := Vals.ints r2
  have e1 : its.toArray.size = ns.length := by rw [List.size_toArray]; exact i1.length
  have e2 : its2.toArray.size = ms.length := by rw [List.size_toArray]; exact i2.length
  have at1 : ∀ j (h1 : j < its.toArray.size), ∃ t, its.toArray[j] = .int (ns.getD j 0) t := fun j h1 => PyProof.Rows.IntsAre.int_at i1 _ _ (by simp at h1; simp [h1])
  have at2 : ∀ j (h1 : j < its2.toArray.size), ∃ t, its2.toArray[j] = .int (ms.getD j 0) t := fun j h1 => PyProof.Rows.IntsAre.int_at i2 _ _ (by simp at h1; simp [h1])
  have R := Ob.RcOp.tuples_le (A := X.A) (s := s) (e := fun j => decide (ns.getD j 0 = ms.getD j 0)) (r := fun j => decide (ns.getD j 0 ≤ ms.getD j 0)) p1 p2 hu (fun j h1 h2 => by
    obtain ⟨t, et⟩ := at1 j h1
    obtain ⟨t', et'⟩ := at2 j h2
    rw [et, et']
    have z : (ns.getD j 0 == ms.getD j 0) = decide (ns.getD j 0 = ms.getD j 0) := by
      by_cases q : ns.getD j 0 = ms.getD j 0
      · rw [decide_eq_true q]; exact beq_iff_eq.mpr q
      · rw [decide_eq_false q]; exact beq_eq_false_iff_ne.mpr q
    rw [← z]
    exact SeqAt.EqAt.int_int _ _ _ _) (fun j h1 h2 _ => by
    obtain ⟨t, et⟩ := at1 j h1
    obtain ⟨t', et'⟩ := at2 j h2
    rw [et, et']
    exact Ob.RcOp.le_int _ _ _ _)
  rw [e1, e2] at R
  rw [lexAt_P (p := fun i j => decide (i ≤ j)) ns ms 0 (fun j _ => by rw [Nat.zero_add]) (fun j _ => by rw [Nat.zero_add]) (by simp only [decide_eq_decide, gt_iff_lt, ge_iff_le]; omega) (fun a b => by simp only [decide_eq_decide]; omega)] at R
  exact (show wpAny (model X.prog X.w) X.A (compareOp .LtE (.ref a) (.ref b)) (EP X pins σ Q) X.xe s from R X.prog X.w X.xe (EP X pins σ Q) ⟨.bl _, H, I, rfl, q⟩)
theorem op_lexGt (hu : X.A.units < cLine) : OpR X (compareOp .Gt) (rLex X.K fun i j => decide (j < i)) := by
  intro pins s σ H x y v u Q I rx ry h
  obtain ⟨a, b, ns, ms, rfl, rfl, ha, hb, q⟩ := h
  cases rx
  cases ry
  obtain ⟨its, r1, p1, _⟩ := I.tuple ha
  obtain ⟨its2, r2, p2, _⟩ := I.tuple hb
  have i1 : IntsAre its ns := Vals.ints r1
  have i2 : IntsAre its2 ms := Vals.ints r2
  have e1 : its.toArray.size = ns.length := by rw [List.size_toArray]; exact i1.length
  have e2 : its2.toArray.size = ms.length := by rw [List.size_toArray]; exact i2.length
  have at1 : ∀ j (h1 : j < its.toArray.size), ∃ t, its.toArray[j] = .int (ns.getD j 0) t := fun j h1 => PyProof.Rows.IntsAre.int_at i1 _ _ (by simp at h1; simp [h1])
  have at2 : ∀ j (h1 : j < its2.toArray.size), ∃ t, its2.toArray[j] = .int (ms.getD j 0) t := fun j h1 => PyProof.Rows.IntsAre.int_at i2 _ _ (by simp at h1; simp [h1])
  have R := Ob.RcOp.tuples_gt (A := X.A) (s := s) (e := fun j => decide (ns.getD j 0 = ms.getD j 0)) (r := fun j => decide (ms.getD j 0 < ns.getD j 0)) p1 p2 hu (fun j h1 h2 => by
    obtain ⟨t, et⟩ := at1 j h1
    obtain ⟨t', et'⟩ := at2 j h2
    rw [et, et']
    have z : (ns.getD j 0 == ms.getD j 0) = decide (ns.getD j 0 = ms.getD j 0) := by
      by_cases q : ns.getD j 0 = ms.getD j 0
      · rw [decide_eq_true q]; exact beq_iff_eq.mpr q
      · rw [decide_eq_false q]; exact beq_eq_false_iff_ne.mpr q
    rw [← z]
    exact SeqAt.EqAt.int_int _ _ _ _) (fun j h1 h2 _ => by
    obtain ⟨t, et⟩ := at1 j h1
    obtain ⟨t', et'⟩ := at2 j h2
    rw [et, et']
    exact Ob.RcOp.gt_int _ _ _ _)
  rw [e1, e2] at R
  rw [lexAt_P (p := fun i j => decide (j < i)) ns ms 0 (fun j _ => by rw [Nat.zero_add]) (fun j _ => by rw [Nat.zero_add]) (by simp only [decide_eq_decide, gt_iff_lt, ge_iff_le]; omega) (fun a b => by simp only [decide_eq_decide]; omega)] at R
  exact (show wpAny (model X.prog X.w) X.A (compareOp .Gt (.ref a) (.ref b)) (EP X pins σ Q) X.xe s from R X.prog X.w X.xe (EP X pins σ Q) ⟨.bl _, H, I, rfl, q⟩)
theorem op_lexGe (hu : X.A.units < cLine) : OpR X (compareOp .GtE) (rLex X.K fun i j => decide (j ≤ i)) := by
  intro pins s σ H x y v u Q I rx ry h
  obtain ⟨a, b, ns, ms, rfl, rfl, ha, hb, q⟩ := h
  cases rx
  cases ry
  obtain ⟨its, r1, p1, _⟩ := I.tuple ha
  obtain ⟨its2, r2, p2, _⟩ := I.tuple hb
  have i1 : IntsAre its ns := Vals.ints r1
  have i2 : IntsAre its2 ms := Vals.ints r2
  have e1 : its.toArray.size = ns.length := by rw [List.size_toArray]; exact i1.length
  have e2 : its2.toArray.size = ms.length := by rw [List.size_toArray]; exact i2.length
  have at1 : ∀ j (h1 : j < its.toArray.size), ∃ t, its.toArray[j] = .int (ns.getD j 0) t := fun j h1 => PyProof.Rows.IntsAre.int_at i1 _ _ (by simp at h1; simp [h1])
  have at2 : ∀ j (h1 : j < its2.toArray.size), ∃ t, its2.toArray[j] = .int (ms.getD j 0) t := fun j h1 => PyProof.Rows.IntsAre.int_at i2 _ _ (by simp at h1; simp [h1])
  have R := Ob.RcOp.tuples_ge (A := X.A) (s := s) (e := fun j => decide (ns.getD j 0 = ms.getD j 0)) (r := fun j => decide (ms.getD j 0 ≤ ns.getD j 0)) p1 p2 hu (fun j h1 h2 => by
    obtain ⟨t, et⟩ := at1 j h1
    obtain ⟨t', et'⟩ := at2 j h2
    rw [et, et']
    have z : (ns.getD j 0 == ms.getD j 0) = decide (ns.getD j 0 = ms.getD j 0) := by
      by_cases q : ns.getD j 0 = ms.getD j 0
      · rw [decide_eq_true q]; exact beq_iff_eq.mpr q
      · rw [decide_eq_false q]; exact beq_eq_false_iff_ne.mpr q
    rw [← z]
    exact SeqAt.EqAt.int_int _ _ _ _) (fun j h1 h2 _ => by
    obtain ⟨t, et⟩ := at1 j h1
    obtain ⟨t', et'⟩ := at2 j h2
    rw [et, et']
    exact Ob.RcOp.ge_int _ _ _ _)
  rw [e1, e2] at R
  rw [lexAt_P (p := fun i j => decide (j ≤ i)) ns ms 0 (fun j _ => by rw [Nat.zero_add]) (fun j _ => by rw [Nat.zero_add]) (by simp only [decide_eq_decide, gt_iff_lt, ge_iff_le]; omega) (fun a b => by simp only [decide_eq_decide]; omega)] at R
  exact (show wpAny (model X.prog X.w) X.A (compareOp .GtE (.ref a) (.ref b)) (EP X pins σ Q) X.xe s from R X.prog X.w X.xe (EP X pins σ Q) ⟨.bl _, H, I, rfl, q⟩)
theorem op_nilEq (hu : X.A.units < cLine) : OpR X (compareOp .Eq) (rNil X.K false) := by
  intro pins s σ H x y v u Q I rx ry h
  obtain ⟨a, b, xs, rfl, rfl, ha, hb, q⟩ := h
  cases rx
  cases ry
  obtain ⟨its, r1, p1, _⟩ := I.list ha
  obtain ⟨its2, r2, p2, _⟩ := I.list hb
  cases r2
  have l1 := r1.length
  have z1 : s.heap.IsList a its.toArray := by
    obtain ⟨o, n, e, f1, f2, d⟩ := p1
    exact ⟨o, e, f1, n, d⟩
  have z2 : s.heap.IsList b #[] := by
    obtain ⟨o, n, e, f1, f2, d⟩ := p2
    exact ⟨o, e, f1, n, d⟩
  cases its with
  | nil =>
    have e : xs = [] := List.eq_nil_of_length_eq_zero (by rw [l1]; rfl)
    subst e
    exact (show wpAny (model X.prog X.w) X.A (compareOp .Eq (.ref a) (.ref b)) (EP X pins σ Q) X.xe s from SeqAt.RcAt.lists (e := fun _ => true) z1 z2 rfl hu (fun j h => absurd h (Nat.not_lt_zero j)) X.prog X.w X.xe (EP X pins σ Q) ⟨.bl _, H, I, rfl, q⟩)
  | cons i its =>
    have e : xs.isEmpty = false := by
      cases xs with
      | nil => cases l1
      | cons x xs => rfl
    rw [e] at q
    exact (show wpAny (model X.prog X.w) X.A (compareOp .Eq (.ref a) (.ref b)) (EP X pins σ Q) X.xe s from SeqAt.RcAt.lists_lengths z1 z2 (by simp) hu X.prog X.w X.xe (EP X pins σ Q) ⟨.bl _, H, I, rfl, q⟩)
theorem op_nilNe (hu : X.A.units < cLine) : OpR X (compareOp .NotEq) (rNil X.K true) := by
  intro pins s σ H x y v u Q I rx ry h
  obtain ⟨a, b, xs, rfl, rfl, ha, hb, q⟩ := h
  cases rx
  cases ry
  obtain ⟨its, r1, p1, _⟩ := I.list ha
  obtain ⟨its2, r2, p2, _⟩ := I.list hb
  cases r2
  have l1 := r1.length
  have z1 : s.heap.IsList a its.toArray := by
    obtain ⟨o, n, e, f1, f2, d⟩ := p1
    exact ⟨o, e, f1, n, d⟩
  have z2 : s.heap.IsList b #[] := by
    obtain ⟨o, n, e, f1, f2, d⟩ := p2
    exact ⟨o, e, f1, n, d⟩
  cases its with
  | nil =>
    have e : xs = [] := List.eq_nil_of_length_eq_zero (by rw [l1]; rfl)
    subst e
    exact (show wpAny (model X.prog X.w) X.A (compareOp .NotEq (.ref a) (.ref b)) (EP X pins σ Q) X.xe s from SeqAt.RcNeAt.lists (e := fun _ => true) z1 z2 rfl hu (fun j h => absurd h (Nat.not_lt_zero j)) X.prog X.w X.xe (EP X pins σ Q) ⟨.bl _, H, I, rfl, q⟩)
  | cons i its =>
    have e : xs.isEmpty = false := by
      cases xs with
      | nil => cases l1
      | cons x xs => rfl
    rw [e] at q
    exact (show wpAny (model X.prog X.w) X.A (compareOp .NotEq (.ref a) (.ref b)) (EP X pins σ Q) X.xe s from SeqAt.RcNeAt.lists_lengths z1 z2 (by simp) hu X.prog X.w X.xe (EP X pins σ Q) ⟨.bl _, H, I, rfl, q⟩)
end
end TL

/-! TL9: the plain meaning of the syntax itself, and that it is a reading of it. -/
namespace TL
open PySem PySem.Spec L2
open PyProof.Rows hiding St

structure Tab where
  con : List (Str × Val)
  dfs : List Str
  cls : List Str
  flds : List (Str × Str)
  free : List Str
  kwf : List (Str × List Str) := []
  cob : List Str := []
  own : List Str := []
  kit : Kit := []
  tabs : List (Str × List (Str × Str)) := []
  kwp : List (Str × List Str × List Nat) := []
  exc : ExTab := []
  hcl : List Str := []
def Tab.F (T : Tab) : Str → Str → Bool := fun c f => T.flds.contains (c, f)
/-- where one stands -/
structure SC where
  N : List Str
  sc : Scope
  fn : Str → Bool
  T : Tab
  cel : Pos → Bool
  frz : Pos → Bool
  Γ : Calls
  top : Bool
structure Dn where
  E : Expr → IE
  T : Expr → IT
  S : Stmt → IS

def idxOf : List Str → Str → Nat → Option Nat
  | [], _, _ => none
  | y :: r, x, i => if y = x then some i else idxOf r x (i + 1)
def SC.knd (C : SC) (x : Str) : Option NameKind := C.sc.names.lookup x
/-- a built-in's own name -/
def SC.isB (C : SC) (x : Str) : Bool := (C.knd x == some .globalImplicit) && C.T.free.contains x
def SC.isG (C : SC) (x : Str) : Bool := C.knd x == some .globalImplicit
def badName (x : Str) : Bool := x == ("__debug__" : Str) || x == ("__classdict__" : Str)

def denName (C : SC) (x : Str) : IE := if badName x then noI else match C.knd x with
  | some .globalImplicit => match C.T.con.lookup x with
    | some v => conI v
    | none => if C.T.dfs.contains x then conI (.fn x) else noI
  | some .globalExplicit => noI
  | some _ => match idxOf C.N x 0 with
    | some i => varI i
    | none => noI
  | none => noI
def opB (c : Bool) : Operator → Option P2
  | .Add => some (addP c)
  | .Sub => some subP
  | .Mult => some (mulP c)
  | .FloorDiv => some fdivP
  | .Mod => some modP
  | .Pow => some powP
  | _ => none
def opC : CmpOp → Option P2
  | .Eq => some eqP
  | .NotEq => some neP
  | .Lt => some ltP
  | .LtE => some leP
  | .Gt => some gtP
  | .GtE => some geP
  | .Is => some isP
  | .IsNot => some isNotP
  | .In => some (inP false)
  | .NotIn => some (inP true)
def denA (f : Expr → IE) : List Expr → IA
  | [] => nilA
  | e :: es => if starB e then (fun _ _ _ _ => False) else consA (f e) (denA f es)
def denAnd (f : Expr → IE) : List Expr → IE
  | [] => noI
  | [a] => f a
  | a :: b :: r => andV (f a) (denAnd f (b :: r))
def denOr (f : Expr → IE) : List Expr → IE
  | [] => noI
  | [a] => f a
  | a :: b :: r => orV (f a) (denOr f (b :: r))
def noT : IT := fun _ _ _ _ => False
def denAndT (f : Expr → IT) : List Expr → IT
  | [] => noT
  | [a] => f a
  | a :: b :: r => andT (f a) (denAndT f (b :: r))
def denOrT (f : Expr → IT) : List Expr → IT
  | [] => noT
  | [a] => f a
  | a :: b :: r => orT (f a) (denOrT f (b :: r))
/-- a comparison -/
def denCmp (f : Expr → IE) (a : Expr) (ops : List CmpOp) (bs : List Expr) : IE := match ops, bs with
  | [op], [b] => if setB b then noI else match opC op with
    | some r => bin2 r (f a) (f b)
    | none => noI
  | [op, op'], [b, c] => if setB c then noI else match opC op, opC op' with
    | some r, some r' => chnI r r' (f a) (f b) (f c)
    | _, _ => noI
  | _, _ => noI
def bltB (c : Bool) (x : Str) : Option PL :=
  if x = "len" then some lenP else if x = "abs" then some absP else if x = "max" then some maxP else if x = "min" then some minP else if x = "sum" then some sumP else if x = "sorted" then some (sortP c) else if x = "ord" then some ordP else none
def bltT (c : Bool) (x : Str) : Option PL :=
  if x = "int" then some intP else if x = "list" then some (listP c) else if x = "tuple" then some (if c then tupleKP else tupleP) else if x = "dict" then some dictKP else none
def lmeth (m : Str) : Option (Val → PL) := if m = "append" then some appendP else if m = "extend" then some extendP else if m = "pop" then some popP else if m = "index" then some indexP else if m = "count" then some countP else none
def smeth (m : Str) : Option (Val → PL) := if m = "join" then some joinP else none
/-- list(range(..)), tuple(range(..)) -/
def denRg (f : Expr → IE) (C : SC) (c tup : Bool) : List Expr → Option IE
  | [.Call (.Name g _) [a] [] _] => if g = "range" then (if C.isB "range" && !starB a then some (rg1I c tup (f a)) else some noI) else none
  | [.Call (.Name g _) [a, b] [] _] => if g = "range" then (if C.isB "range" && !starB a && !starB b then some (rg2I c tup (f a) (f b)) else some noI)
    else if g = "zip" then (if !tup && !c && C.isB "zip" && !starB a && !starB b then some (lzipI (f a) (f b)) else if tup && C.isB "zip" && !starB a && !starB b then some (tzipI (f a) (f b)) else some noI) else none
  | _ => none
/-- a built-in class by its name -/
def tyName (x : Str) : Option TyTag :=
  if x = "int" then some (.inl "int") else if x = "str" then some (.inl "str") else if x = "tuple" then some (.inl "tuple") else if x = "list" then some (.inl "list") else if x = "bool" then some (.inl "bool") else if x = "dict" then some (.inl "dict") else none
def denTag (C : SC) (x : Str) : Option TyTag := if badName x then none else if C.isB x then tyName x else if C.isG x && C.T.cob.contains x then some (.inr x) else none
def denTags (C : SC) : List Expr → Option (List TyTag)
  | [] => some []
  | .Name x _ :: r => (match denTag C x, denTags C r with
    | some t, some ts => some (t :: ts)
    | _, _ => none)
  | _ => none
def denIsi (f : Expr → IE) (C : SC) : List Expr → IE
  | [e, .Name x _] => if starB e then noI else (match denTag C x with
    | some t => un1 (isiP C.T.kit C.T.own [t]) (f e)
    | none => noI)
  | [e, .Tuple es _ _] => if starB e then noI else (match denTags C es with
    | some ts => if ts.length ≤ 1000 then un1 (isiP C.T.kit C.T.own ts) (f e) else noI
    | none => noI)
  | _ => noI
/-- sorted(set(e)) -/
def denSet (f : Expr → IE) (C : SC) (c : Bool) : List Expr → Option IE
  | [.Call (.Name g _) [e] [] _] => if g = "set" then (if C.isB "set" && !starB e then some (un1 (sortSetP c) (f e)) else some noI) else none
  | _ => none
def denKws (f : Expr → IE) : List Keyword → IA
  | [] => nilA
  | k :: r => consA (f k.value) (denKws f r)
def denCallK (f : Expr → IE) (C : SC) (x : Str) (kws : List Keyword) : IE :=
  if badName x || !C.isG x then noI else match C.T.kwf.lookup x with
    | some ps => if kws.map (·.arg) = ps.map some then callF C.Γ x (denKws f kws) else noI
    | none => match C.T.kwp.lookup x with
      | some (qs, ix) => if kws.map (·.arg) = qs.map some then callFP C.Γ x qs.length ix (denKws f kws) else noI
      | none => noI
def keysOf : List (Option Expr) → Option (List Str)
  | [] => some []
  | some (.Constant (.str x) _ _) :: r => (keysOf r).map (x :: ·)
  | _ => none
def nodupB : List Str → Bool
  | [] => true
  | x :: r => !r.contains x && nodupB r
def denDict (f : Expr → IE) (keys : List (Option Expr)) (es : List Expr) : IE := match keysOf keys with
  | some ks => if ks.isEmpty || !(ks.length == es.length) || !nodupB ks || decide (15 < ks.length) then noI else dspI ks (foldA (es.map f))
  | none => noI
def denCall (f : Expr → IE) (C : SC) (x : Str) (as : List Expr) (pos : Pos) : IE :=
  if as.any starB || badName x then noI
  else if !C.isG x then (match C.knd x, idxOf C.N x 0, as with
    | some .local, some i, a :: r => callLI C.Γ C.T.dfs i (denA f (a :: r))
    | _, _, _ => noI)
  else if C.T.dfs.contains x then callF C.Γ x (denA f as)
  else if C.T.cls.contains x then (match as with
    | [] => noI
    | a :: r => makeI C.Γ x (C.frz pos) (denA f (a :: r)))
  else if !C.T.free.contains x then noI
  else if x = "isinstance" then denIsi f C as
  else match (if x = "list" then denRg f C (C.cel pos) false as else if x = "tuple" then denRg f C (C.cel pos) true as else if x = "sorted" then denSet f C (C.cel pos) as else none) with
    | some m => m
    | none => match as with
      | [] => noI
      | a :: r => match bltB (C.cel pos) x with
        | some p => callP p (denA f (a :: r))
        | none => match bltT (C.cel pos) x with
          | some p => callP p (denA f (a :: r))
          | none => noI
def denMeth (f : Expr → IE) (o : Expr) (m : Str) (ap : Pos) (as : List Expr) (pos : Pos) : IE :=
  if !plainBase o || !(ap.endLine == pos.line) || as.any starB || !decide (as.length < 30) then noI else match lmeth m with
    | some p => lmethI p (f o) (denA f as)
    | none => match smeth m with
      | some p => smethI p (f o) (denA f as)
      | none => noI
def denPart (f : Expr → IE) : Option Expr → IO
  | none => noPart
  | some e => partI (f e)
def tgName (C : SC) (e : Expr) : Option Nat := match e with
  | .Name x _ => (match C.knd x with
    | some .local => idxOf C.N x 0
    | some .cell => if C.fn x then idxOf C.N x 0 else none
    | _ => none)
  | _ => none
def tgNames (C : SC) : List Expr → Option (List Nat)
  | [] => some []
  | e :: es => match tgName C e, tgNames C es with
    | some i, some is => some (i :: is)
    | _, _ => none
def tgOf (C : SC) (e : Expr) : Option Tg := match e with
  | .Name .. => (tgName C e).map .nm
  | .Tuple es _ _ => (tgNames C es).map .tp
  | _ => none
def isTupE : Expr → Bool
  | .Tuple .. => true
  | _ => false
def noII : II := fun _ _ _ _ => False
def denI (f : Expr → IE) (C : SC) (tg it : Expr) : II := match it with
  | .Call (.Name g p) as kws pos =>
    if g = "range" && kws.isEmpty then (match as with
      | [a] => if C.isB "range" && !starB a then rng1I (f a) else noII
      | [a, b] => if C.isB "range" && !starB a && !starB b then rng2I (f a) (f b) else noII
      | [a, b, c] => if C.isB "range" && !starB a && !starB b && !starB c then rng3I (f a) (f b) (f c) else noII
      | _ => noII)
    else if g = "enumerate" && kws.isEmpty then (match as with
      | [a] => if C.isB "enumerate" && !starB a && isTupE tg then enumAI (f a) else noII
      | _ => noII)
    else if g = "zip" && kws.isEmpty then (match as with
      | [a, b] => if C.isB "zip" && !starB a && !starB b && isTupE tg then zipI (f a) (f b) else noII
      | _ => noII)
    else walkI (f (.Call (.Name g p) as kws pos))
  | e => walkI (f e)
def SC.blk (C : SC) (scope : Scope) : SC := { C with sc := relS scope C.sc, fn := fun x => scope.names.lookup x == some .cell, top := false }
def ownOf (N : List Str) : List (Str × NameKind) → List (Str × Nat)
  | [] => []
  | (x, k) :: r => if k = .local ∨ k = .cell then (match idxOf N x 0 with
    | some i => (x, i) :: ownOf N r
    | none => ownOf N r) else ownOf N r
def denIfs (f : Expr → IT) : List Expr → Option IT
  | [] => some yesT
  | [c] => some (f c)
  | _ => none
def subI (is js : List Nat) : Bool := is.all fun i => js.contains i
/-- a list comprehension -/
def denLC (d : SC → Dn) (C : SC) (elt : Expr) (gs : List Comprehension) (scope : Scope) (pos : Pos) : IE := match gs with
  | [⟨tg, it, ifs, a⟩] =>
    if a ≠ 0 || setB it || !blkC C.N C.sc scope (ownOf C.N scope.names) then noI
    else match tgOf (C.blk scope) tg, denIfs (d (C.blk scope)).T ifs with
      | some t, some tt => if subI (tgIdx t) ((ownOf C.N scope.names).map (·.2)) then lcI (C.cel pos) (denI (d C).E C tg it) t tt ((d (C.blk scope)).E elt) ((ownOf C.N scope.names).map (·.2)) else noI
      | _, _ => noI
  | [⟨tg, it, ifs, a⟩, ⟨tg1, it1, ifs1, a1⟩] =>
    if a ≠ 0 || a1 ≠ 0 || setB it || setB it1 || !blkC C.N C.sc scope (ownOf C.N scope.names) then noI
    else match tgOf (C.blk scope) tg, denIfs (d (C.blk scope)).T ifs, tgOf (C.blk scope) tg1, denIfs (d (C.blk scope)).T ifs1 with
      | some t, some tt, some t1, some tt1 => if subI (tgIdx t) ((ownOf C.N scope.names).map (·.2)) && subI (tgIdx t1) ((ownOf C.N scope.names).map (·.2)) then
          lc2I (C.cel pos) (denI (d C).E C tg it) t tt (denI (d (C.blk scope)).E (C.blk scope) tg1 it1) t1 tt1 ((d (C.blk scope)).E elt) ((ownOf C.N scope.names).map (·.2)) (tgIdx t1) else noI
      | _, _, _, _ => noI
  | _ => noI
/-- a table of defs, by its name -/
def tabOf (C : SC) : Expr → Option (List (Str × Str))
  | .Name x _ => if badName x || !C.isG x then none else C.T.tabs.lookup x
  | _ => none
def denE (d : SC → Dn) (C : SC) (e : Expr) : IE := match e with
  | .Constant .none _ _ => conI .non
  | .Constant (.bool b) _ _ => conI (.bl b)
  | .Constant (.int i) _ _ => conI (.int i)
  | .Constant (.str x) _ _ => conI (.str x)
  | .Name x _ => denName C x
  | .BinOp a op b pos => match opB (C.cel pos) op with
    | some r => bin2 r ((d C).E a) ((d C).E b)
    | none => noI
  | .UnaryOp .Not a _ => un1 notP ((d C).E a)
  | .UnaryOp .USub a _ => un1 negP ((d C).E a)
  | .BoolOp .And es _ => denAnd (d C).E es
  | .BoolOp .Or es _ => denOr (d C).E es
  | .Compare a ops bs _ => denCmp (d C).E a ops bs
  | .IfExp t a b _ => ifE ((d C).T t) ((d C).E a) ((d C).E b)
  | .Tuple es _ _ => tupI (denA (d C).E es)
  | .List es pos => lstI (C.cel pos) (denA (d C).E es)
  | .Attribute o f _ => if plainBase o then un1 (fldP C.T.F f) ((d C).E o) else noI
  | .Subscript o (.Slice none none (some (.UnaryOp .USub (.Constant (.int 1) _ _) _)) _) pos => revI (C.cel pos) ((d C).E o)
  | .Dict keys es _ => denDict (d C).E keys es
  | .Call (.Name x _) [] (k :: kws) _ => denCallK (d C).E C x (k :: kws)
  | .Subscript o (.Slice lo hi none _) pos => sliceI (C.cel pos) ((d C).E o) (denPart (d C).E lo) (denPart (d C).E hi)
  | .Subscript o i _ => if sliceB i then noI else match tabOf C o with
    | some kvs => un1 (tabP kvs) ((d C).E i)
    | none => bin2 ixP ((d C).E o) ((d C).E i)
  | .Call (.Name x _) as [] pos => denCall (d C).E C x as pos
  | .Call (.Attribute o m ap) as [] pos => denMeth (d C).E o m ap as pos
  | .ListComp elt gs scope pos => denLC d C elt gs scope pos
  | _ => noI
def denT (d : SC → Dn) (C : SC) (e : Expr) : IT := match e with
  | .UnaryOp .Not a _ => notT ((d C).T a)
  | .BoolOp .And es _ => denAndT (d C).T es
  | .BoolOp .Or es _ => denOrT (d C).T es
  | .Compare a ops bs _ => tstB (denCmp (d C).E a ops bs)
  | .IfExp .. => noT
  | e => tst ((d C).E e)
def denSs (f : Stmt → IS) : List Stmt → IS
  | [] => nextI
  | s :: r => seqI (f s) (denSs f r)
def swapC (C : SC) (ts vs : List Expr) : Option (Option (List Str)) :=
  if !(ts.length == 2 || ts.length == 3) || vs.length != ts.length then some none
  else if vs.any starB then some none
  else
    let line := (ts.head?.map (·.pos.line)).getD 0
    let names := ts.filterMap fun
      | .Name id pos => if C.knd id == some .local && pos.line == line then some id else none
      | _ => none
    if names.length != ts.length || names.eraseDups.length != names.length then some none
    else if vs.all (foldedForSure 8) then some none
    else if vs.all (constantsAlone 8) then none
    else some (some names)
def isLoc (C : SC) (x : Str) : Bool := C.knd x == some .local
def denPar (f : Expr → IE) (C : SC) (es vs : List Expr) (is : List Nat) (nms : List Str) : IS := match es, vs, is with
  | [.Name x _, .Name y _], [a, b], [i, j] => if isLoc C x && isLoc C y && decide (i ≠ j) && decide (nms = [x, y]) then parI [i, j] (denA f [a, b]) else neverI
  | [.Name x _, .Name y _, .Name z _], [a, b, c], [i, j, l] => if isLoc C x && isLoc C y && isLoc C z && decide (i ≠ j) && decide (i ≠ l) && decide (j ≠ l) && decide (nms = [x, y, z]) then parI [i, j, l] (denA f [a, b, c]) else neverI
  | _, _, _ => neverI
def denAsg (d : SC → Dn) (C : SC) (tg e : Expr) : IS := match tg with
  | .Name x p => match tgName C (.Name x p) with
    | none => neverI
    | some i => match e with
      | .ListComp elt gs scope cpos => if (C.knd x == some .local) && (p.line == cpos.line) && !(scope.names.any fun (n, k) => n == x && (k == .local || k == .cell)) then setI (.nm i) (denLC d C elt gs scope cpos) else setI (.nm i) ((d C).E e)
      | e => if compB e then neverI else setI (.nm i) ((d C).E e)
  | .Tuple es _ _ => match tgNames C es with
    | none => neverI
    | some is => match e with
      | .Tuple vs _ _ => (match swapC C es vs with
        | none => neverI
        | some none => setI (.tp is) ((d C).E e)
        | some (some nms) => denPar (d C).E C es vs is nms)
      | e => if compB e then neverI else setI (.tp is) ((d C).E e)
  | .Subscript o (.Slice lo hi none _) _ => sstoreI ((d C).E o) (denPart (d C).E lo) (denPart (d C).E hi) ((d C).E e)
  | .Subscript o i _ => if sliceB i then neverI else storeI ((d C).E o) ((d C).E i) ((d C).E e)
  | .Attribute o f _ => if compB e then neverI else setFldI C.T.F f ((d C).E o) ((d C).E e)
  | _ => neverI
@[reducible] def addI : P2 := fun x y S Q => match x, y with
  | .int i, .int j => Q (.int (i + j)) S
  | _, _ => False
@[reducible] def mulI : P2 := fun x y S Q => match x, y with
  | .int i, .int j => CMul i j ∧ Q (.int (i * j)) S
  | _, _ => False
def opA : Operator → Option P2
  | .Add => some addI
  | .Sub => some subP
  | .Mult => some mulI
  | _ => none
/-- an except clause that returns -/
def hdOf (C : SC) : ExceptHandler → Option (Str × Option Nat × HV)
  | .ExceptHandler (some (.Name x _)) none [.Return (some r) _] _ => if badName x || !C.isG x || !C.T.cob.contains x || !C.T.hcl.contains x then none else (hvOf none r).map fun v => (x, none, v)
  | .ExceptHandler (some (.Name x _)) (some n) [.Return (some r) _] _ => if badName x || !C.isG x || !C.T.cob.contains x || !C.T.hcl.contains x || badName n || !isLoc C n then none else match idxOf C.N n 0, hvOf (some n) r with
    | some i, some v => some (x, some i, v)
    | _, _ => none
  | _ => none
def hdsOf (C : SC) : List ExceptHandler → Option (List (Str × Option Nat × HV))
  | [] => some []
  | h :: r => match hdOf C h, hdsOf C r with
    | some q, some qs => some (q :: qs)
    | _, _ => none
def denS (d : SC → Dn) (C : SC) (s : Stmt) : IS := match s with
  | .Pass _ => nextI
  | .Break _ => breakI
  | .Continue _ => contI
  | .Return none _ => retN
  | .Return (some e) pos => retI (C.frz pos) ((d C).E e)
  | .Expr e _ => if compB e then neverI else dropI ((d C).E e)
  | .If c a b _ => ifI ((d C).T c) (denSs (d C).S a) (denSs (d C).S b)
  | .While c a [] _ => whileI ((d C).T c) (denSs (d C).S a)
  | .For tg it a [] _ => if setB it then neverI else match tgOf C tg with
    | some t => forI (denI (d C).E C tg it) t (denSs (d C).S a)
    | none => neverI
  | .Assign [tg] e _ => denAsg d C tg e
  | .AugAssign (.Name x p) op e _ => match tgName C (.Name x p), opA op with
    | some i, some r => augI i r ((d C).E e)
    | _, _ => neverI
  | .Delete [.Subscript o (.Slice lo none none _) _] _ => sdelI ((d C).E o) (denPart (d C).E lo)
  | .Raise (some (.Call (.Name x _) (a :: es) [] _)) none _ => if (a :: es).any starB || badName x || !C.isG x then neverI else match C.T.exc.lookup x with
    | some (fs, _) => raiseI x fs (denA (d C).E (a :: es))
    | none => neverI
  | .Try body (h :: hds) [] [] _ => if !C.top then neverI else match hdsOf C (h :: hds) with
    | some l => tryI C.T.exc (denSs (d C).S body) (l.map fun q => (q.1, q.2.2))
    | none => neverI
  | _ => neverI
def den : Nat → SC → Dn
  | 0, _ => ⟨fun _ => noI, fun _ => noT, fun _ => neverI⟩
  | n + 1, C => ⟨denE (den n) C, denT (den n) C, denS (den n) C⟩
end TL

/-! TL10: the plain meaning of the syntax is a reading of it. -/
namespace TL
open PySem PySem.Spec L2
open PyProof.Rows hiding St

/-- where a text runs -/
structure CtxOk (C : SC) (X : Cx) (W : WX) (k : Nat) : Prop where
  N : X.N = C.N
  sc : X.env.scope = C.sc
  nd : X.N.Nodup
  kind : C.sc.kind = .function
  calm : X.calm = true
  fn : ∀ x, C.fn x = true → X.fn x = true
  tk : Takes X W
  po : PassesOwn (model X.prog X.w) X.A X.env X.xe
  room : Room (k + 1) X.A
  con : ∀ x v, C.T.con.lookup x = some v → ∃ y u, X.mg x = some u ∧ RelV y u ∧ ∀ B H S, RV X.K B H S v y
  dfs : ∀ f, f ∈ C.T.dfs → ∃ fd ps, DefOk X k C.Γ f fd ps
  cls : ∀ c, c ∈ C.T.cls → ∃ fd ps, MakeOk X k C.Γ c fd ps
  fld : FldOk X.K C.T.F
  free : ∀ x, x ∈ C.T.free → X.mg x = none
  kwf : ∀ f ps, C.T.kwf.lookup f = some ps → ∃ fd, DefOk X k C.Γ f fd ps ∧ Kb X.K fd ps
  kwp : ∀ f qs ix, C.T.kwp.lookup f = some (qs, ix) → ∃ fd ps, DefOk X k C.Γ f fd ps ∧ Kbp X.K fd ps qs ix
  cob : ∀ c, c ∈ C.T.cob → X.mg c = some (.ref (He.ga X.K c))
  kit : KitOk X.K C.T.kit C.T.own
  tab : ∀ x kvs, C.T.tabs.lookup x = some kvs → ∃ t, X.mg x = some (.ref t) ∧ ∀ z f, kvs.lookup z = some f → KDct X.K X.w t z (.ref (He.ga X.K f))
  exc : ∀ c fs an, C.T.exc.lookup c = some (fs, an) → ExOk X k c fs ∧ ∀ h, h ∈ C.T.hcl → PySem.W.exmOne X.K (.ref (He.ga X.K c)) (.ref (He.ga X.K h)) = some (an.contains h)
  top : C.top = true → X.stack = X.env :: X.outer ∧ X.env.frame = some X.env.locals

section
variable {C : SC} {X : Cx} {W : WX} {k : Nat}
theorem CtxOk.blk (c : CtxOk C X W k) {scope : Scope} (hk : scope.kind = .function) (s : Shared) (H : Hp) (a : Addr) (cl : List (Str × Addr)) (fp : List Addr) : CtxOk (C.blk scope) (X.blk s H scope (compEnvC scope cl a X.env) fp) noW k where
  N := c.N
  sc := by show relS scope X.env.scope = relS scope C.sc; rw [c.sc]
  nd := c.nd
  kind := hk
  calm := c.calm
  fn := fun x h => h
  tk := takes0
  po := .never
  room := c.room
  con := c.con
  dfs := fun f h => let ⟨fd, ps, d⟩ := c.dfs f h; ⟨fd, ps, ⟨d.ok, d.mg, d.kp, d.bi⟩⟩
  cls := fun f h => let ⟨fd, ps, d⟩ := c.cls f h; ⟨fd, ps, ⟨d.mkr, d.mg, d.bi⟩⟩
  fld := c.fld
  free := c.free
  kwf := fun f ps h => let ⟨fd, d, b⟩ := c.kwf f ps h; ⟨fd, ⟨d.ok, d.mg, d.kp, d.bi⟩, b⟩
  kwp := fun f qs ix h => let ⟨fd, ps, d, b⟩ := c.kwp f qs ix h; ⟨fd, ps, ⟨d.ok, d.mg, d.kp, d.bi⟩, b⟩
  cob := c.cob
  kit := c.kit
  tab := c.tab
  exc := fun f fs an h => let ⟨e, m⟩ := c.exc f fs an h; ⟨⟨e.xc, e.xf, e.no, e.mg, e.len, e.init⟩, m⟩
  top := fun h => nomatch h
/-- in a try's body -/
theorem CtxOk.tr (c : CtxOk C X W k) {W' : WX} {pn : List (Addr × Obj)} {xe : Value → Shared → Prop} (tk : Takes (X.tr pn xe) W') (po : PassesOwn (model X.prog X.w) X.A X.env xe) : CtxOk C (X.tr pn xe) W' k where
  N := c.N
  sc := c.sc
  nd := c.nd
  kind := c.kind
  calm := c.calm
  fn := c.fn
  tk := tk
  po := po
  room := c.room
  con := c.con
  dfs := fun f h => let ⟨fd, ps, d⟩ := c.dfs f h; ⟨fd, ps, ⟨d.ok, d.mg, d.kp, d.bi⟩⟩
  cls := fun f h => let ⟨fd, ps, d⟩ := c.cls f h; ⟨fd, ps, ⟨d.mkr, d.mg, d.bi⟩⟩
  fld := c.fld
  free := c.free
  kwf := fun f ps h => let ⟨fd, d, b⟩ := c.kwf f ps h; ⟨fd, ⟨d.ok, d.mg, d.kp, d.bi⟩, b⟩
  kwp := fun f qs ix h => let ⟨fd, ps, d, b⟩ := c.kwp f qs ix h; ⟨fd, ps, ⟨d.ok, d.mg, d.kp, d.bi⟩, b⟩
  cob := c.cob
  kit := c.kit
  tab := c.tab
  exc := fun f fs an h => let ⟨e, m⟩ := c.exc f fs an h; ⟨⟨e.xc, e.xf, e.no, e.mg, e.len, e.init⟩, m⟩
  top := c.top
theorem CtxOk.noW (c : CtxOk C X W k) : CtxOk C X noW k := { c with tk := takes0 }
theorem CtxOk.knd (c : CtxOk C X W k) (x : Str) : X.env.kindOf x = C.knd x := by
  show X.env.scope.names.lookup x = C.sc.names.lookup x
  rw [c.sc]
theorem CtxOk.look (c : CtxOk C X W k) (x : Str) : X.env.scope.names.lookup x = C.knd x := by
  show X.env.scope.names.lookup x = C.sc.names.lookup x
  rw [c.sc]
theorem CtxOk.un (c : CtxOk C X W k) : X.A.units + 65 < cLine := by have := c.room.un; omega
theorem idxOf_get : ∀ {N : List Str} {x : Str} {i j : Nat}, idxOf N x i = some j → ∃ m, j = i + m ∧ N[m]? = some x
  | [], _, _, _, h => by cases h
  | y :: r, x, i, j, h => by
    unfold idxOf at h
    split at h
    · rename_i e
      cases h
      exact ⟨0, rfl, by rw [e]; rfl⟩
    · obtain ⟨m, e1, e2⟩ := idxOf_get h
      exact ⟨m + 1, by omega, by simpa using e2⟩
theorem CtxOk.ix (c : CtxOk C X W k) {x : Str} {j : Nat} (h : idxOf C.N x 0 = some j) : X.N[j]? = some x := by
  obtain ⟨m, e1, e2⟩ := idxOf_get h
  rw [c.N, e1, Nat.zero_add]
  exact e2
theorem beq_kind {a b : Option NameKind} (h : (a == b) = true) : a = b := by simpa using h
theorem CtxOk.isG (c : CtxOk C X W k) {x : Str} (h : C.isG x = true) : Gl X x := by
  show X.env.kindOf x = _
  rw [c.knd]
  exact beq_kind h
theorem CtxOk.isB (c : CtxOk C X W k) {x : Str} (h : C.isB x = true) : Gl X x ∧ X.mg x = none := by
  unfold SC.isB at h
  obtain ⟨h1, h2⟩ := Bool.and_eq_true_iff.mp h
  exact ⟨c.isG h1, c.free x (by simpa using h2)⟩
theorem badName_no {x : Str} (h : ¬ badName x = true) : (x == ("__debug__" : Str)) = false ∧ (x == ("__classdict__" : Str)) = false := by
  unfold badName at h
  rw [Bool.or_eq_true] at h
  exact ⟨by simpa using fun z => h (.inl (by simpa using z)), by simpa using fun z => h (.inr (by simpa using z))⟩
theorem denName_ok (c : CtxOk C X W k) {x : Str} {p : Pos} : PE X (.Name x p) (liftE X.K W (denName C x)) := by
  unfold denName
  split
  · exact se_no
  · rename_i hb
    obtain ⟨hd, hcd⟩ := badName_no hb
    split
    · rename_i q
      split
      · rename_i v e
        obtain ⟨y, u, h1, h2, h3⟩ := c.con x v e
        exact se_glob (by show X.env.kindOf x = _; rw [c.knd, q]) h1 h2 h3 hd
      · split
        · rename_i hm
          obtain ⟨fd, ps, D⟩ := c.dfs x (by simpa using hm)
          exact se_glob (v := .fn x) (y := .ref (He.ga X.K x)) (by show X.env.kindOf x = _; rw [c.knd, q]) D.mg rfl (fun _ _ _ => .fn x) hd
        · exact se_no
    · exact se_no
    · rename_i kd h1 h2 q
      split
      · rename_i i e
        refine se_var (c.ix e) ?_ hd hcd
        unfold Vis
        rw [c.look, q]
        cases kd with
        | «local» => exact .inl rfl
        | cell => exact .inr (.inl rfl)
        | free => exact .inr (.inr rfl)
        | globalExplicit => exact absurd rfl h2
        | globalImplicit => exact absurd rfl h1
      · exact se_no
    · exact se_no

/-! ### the tables of operators -/
theorem opB_ok {cl : Bool} {op : Operator} {r : P2} (h : opB cl op = some r) : ∃ rr, OpR X (binaryOp op) rr ∧ P2Ok X.K r rr := by
  cases op <;> first | cases h
  · exact ⟨_, op_addP, addP_ok cl⟩
  · exact ⟨_, op_sub, subP_ok⟩
  · exact ⟨_, op_mulP, mulP_ok cl⟩
  · exact ⟨_, op_mod, modP_ok⟩
  · exact ⟨_, op_pow, powP_ok⟩
  · exact ⟨_, op_fdivW, fdivP_ok⟩
theorem opC_ok (c : CtxOk C X W k) {op : CmpOp} {r : P2} (h : opC op = some r) : ∃ rr, OpR X (compareOp op) rr ∧ P2Ok X.K r rr := by
  cases op <;> first | cases h
  · exact ⟨_, (op_eq.or (op_eqD (by have := c.un; omega))).or (op_nilEq (by have := c.un; omega)), eqP_ok⟩
  · exact ⟨_, (op_ne.or (op_neD (by have := c.un; omega))).or (op_nilNe (by have := c.un; omega)), neP_ok⟩
  · exact ⟨_, op_lt.or (op_lexLt (by have := c.un; omega)), cmpP_ok _⟩
  · exact ⟨_, op_le.or (op_lexLe (by have := c.un; omega)), cmpP_ok _⟩
  · exact ⟨_, op_gt.or (op_lexGt (by have := c.un; omega)), cmpP_ok _⟩
  · exact ⟨_, op_ge.or (op_lexGe (by have := c.un; omega)), cmpP_ok _⟩
  · exact ⟨_, op_isN.or op_isB, isP_ok⟩
  · exact ⟨_, op_notN.or op_isNotB, isNotP_ok⟩
  · exact ⟨_, op_inAll c.un, inP_ok false⟩
  · exact ⟨_, op_notInAll c.un, inP_ok true⟩

/-! ### rows -/
theorem liftA_no {es : List Expr} : PA X es (liftA X.K W (fun _ _ _ _ => False)) := ⟨fun _ _ _ _ _ _ _ ⟨_, _, _, _, _, _, h, _⟩ => h.elim⟩
theorem denA_ok {f : Expr → IE} (h : ∀ e, PE X e (liftE X.K W (f e))) : ∀ es, PA X es (liftA X.K W (denA f es))
  | [] => sa_nil
  | e :: es => by
    unfold denA
    split
    · exact liftA_no
    · rename_i hs
      exact sa_cons (by simpa using hs) (h e) (denA_ok h es)
theorem denAnd_ok {f : Expr → IE} {pos : Pos} (h : ∀ e, PE X e (liftE X.K W (f e))) : ∀ es, PE X (.BoolOp .And es pos) (liftE X.K W (denAnd f es))
  | [] => se_no
  | [a] => se_one (h a)
  | a :: b :: r => se_and (h a) (denAnd_ok h (b :: r))
theorem denOr_ok {f : Expr → IE} {pos : Pos} (h : ∀ e, PE X e (liftE X.K W (f e))) : ∀ es, PE X (.BoolOp .Or es pos) (liftE X.K W (denOr f es))
  | [] => se_no
  | [a] => se_one (h a)
  | a :: b :: r => se_or (h a) (denOr_ok h (b :: r))
theorem st_no {e : Expr} : PT X e (liftT X.K W noT) := ⟨fun _ _ _ _ _ _ ⟨_, _, _, _, _, _, h, _⟩ => h.elim⟩
theorem sw_no {e : Expr} : PW X e (liftT X.K W noT) := ⟨fun _ _ _ _ _ _ _ ⟨_, _, _, _, _, _, h, _⟩ => h.elim⟩
theorem denAndT_ok {f : Expr → IT} {pos : Pos} (h : ∀ e, PT X e (liftT X.K W (f e))) : ∀ es, PW X (.BoolOp .And es pos) (liftT X.K W (denAndT f es))
  | [] => sw_no
  | [a] => sw_and1 (h a)
  | a :: b :: r => sw_and (h a) (denAndT_ok h (b :: r))
theorem denOrT_ok {f : Expr → IT} {pos : Pos} (h : ∀ e, PT X e (liftT X.K W (f e))) : ∀ es, PW X (.BoolOp .Or es pos) (liftT X.K W (denOrT f es))
  | [] => sw_no
  | [a] => sw_or1 (h a)
  | a :: b :: r => sw_or (h a) (denOrT_ok h (b :: r))
theorem denCmp_ok (c : CtxOk C X W k) {f : Expr → IE} {pos : Pos} (h : ∀ e, PE X e (liftE X.K W (f e))) (a : Expr) (ops : List CmpOp) (bs : List Expr) :
    PE X (.Compare a ops bs pos) (liftE X.K W (denCmp f a ops bs)) ∧ PT X (.Compare a ops bs pos) (liftT X.K W (tstB (denCmp f a ops bs))) := by
  unfold denCmp
  split
  · split
    · exact ⟨se_no, ⟨fun _ _ _ _ _ _ ⟨_, _, _, _, _, _, h, _⟩ => h.elim⟩⟩
    · rename_i hs
      have hs := Bool.eq_false_iff.mpr hs
      split
      · rename_i r e
        obtain ⟨rr, h1, h2⟩ := opC_ok c e
        exact ⟨se_cmp h1 h2 (h _) (h _) (marks_no hs), st_cmp h1 h2 (h _) (h _) (marks_no hs)⟩
      · exact ⟨se_no, ⟨fun _ _ _ _ _ _ ⟨_, _, _, _, _, _, h, _⟩ => h.elim⟩⟩
  · split
    · exact ⟨se_no, ⟨fun _ _ _ _ _ _ ⟨_, _, _, _, _, _, h, _⟩ => h.elim⟩⟩
    · rename_i hs
      have hs := Bool.eq_false_iff.mpr hs
      split
      · rename_i r r' e e'
        obtain ⟨rr, h1, h2⟩ := opC_ok c e
        obtain ⟨rr', h1', h2'⟩ := opC_ok c e'
        exact ⟨se_chain h1 h1' h2 h2' (h _) (h _) (h _) (marks_no hs), st_chain h1 h1' h2 h2' (h _) (h _) (h _) (marks_no hs)⟩
      · exact ⟨se_no, ⟨fun _ _ _ _ _ _ ⟨_, _, _, _, _, _, h, _⟩ => h.elim⟩⟩
  · exact ⟨se_no, ⟨fun _ _ _ _ _ _ ⟨_, _, _, _, _, _, h, _⟩ => h.elim⟩⟩

/-! ### calls -/
theorem str_ne (x : Str) : (decide (x = "list") = true) → x = "list" := fun h => of_decide_eq_true h
theorem bltB_ok (c : CtxOk C X W k) {cl : Bool} {x : Str} {p : PL} (h : bltB cl x = some p) : ∃ id rr, bootBuiltins x = some (.builtin id) ∧ x ≠ "__name__" ∧ CallR X (.builtin id) rr ∧ PLOk X.K p rr := by
  unfold bltB at h
  split at h
  · rename_i e; subst e; cases h
    exact ⟨"len", _, rfl, by decide, call_len_seq.or call_len_str, lenP_ok⟩
  split at h
  · rename_i e; subst e; cases h
    exact ⟨"abs", _, rfl, by decide, call_abs, absP_ok⟩
  split at h
  · rename_i e; subst e; cases h
    exact ⟨"max", _, rfl, by decide, ((call_max2 c.calm).or (cr_max c.calm)).or (cr_maxT c.calm), maxP_ok⟩
  split at h
  · rename_i e; subst e; cases h
    exact ⟨"min", _, rfl, by decide, (call_min2 c.calm).or (cr_min c.calm), minP_ok⟩
  split at h
  · rename_i e; subst e; cases h
    exact ⟨"sum", _, rfl, by decide, cr_sum c.calm, sumP_ok⟩
  split at h
  · rename_i e; subst e; cases h
    exact ⟨"sorted", _, rfl, by decide, cr_sortedI.or (cr_sortedTI (by have := c.un; omega)), sortP_ok cl⟩
  split at h
  · rename_i e; subst e; cases h
    exact ⟨"ord", _, rfl, by decide, call_ord, ordP_ok⟩
  · cases h
theorem bltT_ok (c : CtxOk C X W k) {cl : Bool} {x : Str} {p : PL} (h : bltT cl x = some p) : ∃ id rr, bootBuiltins x = some (.type id) ∧ x ≠ "__name__" ∧ CallR X (.type id) rr ∧ PLOk X.K p rr := by
  unfold bltT at h
  split at h
  · rename_i e; subst e; cases h
    exact ⟨"int", _, rfl, by decide, call_int1, intP_ok⟩
  split at h
  · rename_i e; subst e; cases h
    exact ⟨"list", _, rfl, by decide, call_list_of, listP_ok cl⟩
  split at h
  · rename_i e; subst e; cases h
    cases cl with
    | false => exact ⟨"tuple", _, rfl, by decide, call_tuple_of, tupleP_ok⟩
    | true => exact ⟨"tuple", _, rfl, by decide, TLK.call_tupleK, tupleKP_ok⟩
  split at h
  · rename_i e; subst e; cases h
    exact ⟨"dict", _, rfl, by decide, cr_dictCopy.or (TLK.call_dictT c.calm), dictKP_ok⟩
  · cases h
theorem denRg_ok (c : CtxOk C X W k) {f : Expr → IE} {p pos : Pos} (h : ∀ e, PE X e (liftE X.K W (f e))) {cl tup : Bool} {as : List Expr} {m : IE} {x : Str} (hx : x = (if tup then "tuple" else "list")) (hg : Gl X x) (hm : X.mg x = none) (e : denRg f C cl tup as = some m) :
    PE X (.Call (.Name x p) as [] pos) (liftE X.K W m) := by
  unfold denRg at e
  split at e
  · split at e
    · rename_i eg
      subst eg
      split at e
      · rename_i hh
        cases e
        obtain ⟨h1, h2⟩ := Bool.and_eq_true_iff.mp hh
        obtain ⟨b1, b2⟩ := c.isB h1
        cases tup with
        | true => subst hx; exact se_tupRg1 c.calm hg hm b1 b2 (by simpa using h2) (h _)
        | false => subst hx; exact se_listRg1 c.calm hg hm b1 b2 (by simpa using h2) (h _)
      · cases e; exact se_no
    · cases e
  · split at e
    · rename_i eg
      subst eg
      split at e
      · rename_i hh
        cases e
        obtain ⟨h0, h3⟩ := Bool.and_eq_true_iff.mp hh
        obtain ⟨h1, h2⟩ := Bool.and_eq_true_iff.mp h0
        obtain ⟨b1, b2⟩ := c.isB h1
        cases tup with
        | true => subst hx; exact se_tupRg2 c.calm hg hm b1 b2 (by simpa using h2) (by simpa using h3) (h _) (h _)
        | false => subst hx; exact se_listRg2 c.calm hg hm b1 b2 (by simpa using h2) (by simpa using h3) (h _) (h _)
      · cases e; exact se_no
    · split at e
      · rename_i eg
        subst eg
        split at e
        · rename_i hh
          cases e
          obtain ⟨h0, h3⟩ := Bool.and_eq_true_iff.mp hh
          obtain ⟨h0, h2⟩ := Bool.and_eq_true_iff.mp h0
          obtain ⟨h0, h1⟩ := Bool.and_eq_true_iff.mp h0
          obtain ⟨h4, h5⟩ := Bool.and_eq_true_iff.mp h0
          obtain ⟨b1, b2⟩ := c.isB h1
          cases tup with
          | true => cases h4
          | false => subst hx; exact se_listZip c.calm hg hm b1 b2 (by simpa using h2) (by simpa using h3) (h _) (h _)
        · split at e
          · rename_i hh
            cases e
            obtain ⟨h0, h3⟩ := Bool.and_eq_true_iff.mp hh
            obtain ⟨h0, h2⟩ := Bool.and_eq_true_iff.mp h0
            obtain ⟨h4, h1⟩ := Bool.and_eq_true_iff.mp h0
            obtain ⟨b1, b2⟩ := c.isB h1
            cases tup with
            | true => subst hx; exact se_tupZip c.calm hg hm b1 b2 (by simpa using h2) (by simpa using h3) (h _) (h _)
            | false => cases h4
          · cases e; exact se_no
      · cases e
  · cases e
theorem tyName_ok {x : Str} {t : TyTag} (h : tyName x = some t) : ∃ n, t = .inl n ∧ bootBuiltins x = some (.type n) ∧ x ≠ "__name__" := by
  unfold tyName at h
  split at h
  · rename_i e; subst e; cases h; exact ⟨_, rfl, rfl, by decide⟩
  split at h
  · rename_i e; subst e; cases h; exact ⟨_, rfl, rfl, by decide⟩
  split at h
  · rename_i e; subst e; cases h; exact ⟨_, rfl, rfl, by decide⟩
  split at h
  · rename_i e; subst e; cases h; exact ⟨_, rfl, rfl, by decide⟩
  split at h
  · rename_i e; subst e; cases h; exact ⟨_, rfl, rfl, by decide⟩
  split at h
  · rename_i e; subst e; cases h; exact ⟨_, rfl, rfl, by decide⟩
  · cases h
theorem denTag_ok (c : CtxOk C X W k) {x : Str} {t : TyTag} (h : denTag C x = some t) : ClsNm X x t := by
  unfold denTag at h
  split at h
  · cases h
  · rename_i hb
    obtain ⟨hd, _⟩ := badName_no hb
    split at h
    · rename_i hB
      obtain ⟨b1, b2⟩ := c.isB hB
      obtain ⟨n, rfl, h2, h3⟩ := tyName_ok h
      exact ⟨fun p => pe_bltn b1 b2 h2 rfl h3 hd⟩
    · split at h
      · rename_i hG
        obtain ⟨g1, g2⟩ := Bool.and_eq_true_iff.mp hG
        cases h
        exact ⟨fun p => pe_glob (c.isG g1) (c.cob x (by simpa using g2)) rfl hd⟩
      · cases h
theorem denTags_ok (c : CtxOk C X W k) : ∀ {es : List Expr} {ts : List TyTag}, denTags C es = some ts → Paired (fun e t => ∃ x p, e = Expr.Name x p ∧ ClsNm X x t) es ts
  | [], ts, h => by cases h; exact .nil
  | e :: es, ts, h => by
    unfold denTags at h
    split at h
    · rename_i e2; cases e2
    · rename_i x p r e2
      cases e2
      split at h
      · rename_i t ts h1 h2
        cases h
        exact .cons ⟨_, _, rfl, denTag_ok c h1⟩ (denTags_ok c h2)
      · cases h
    · cases h
theorem denIsi_ok (c : CtxOk C X W k) {f : Expr → IE} {p pos : Pos} (h : ∀ e, PE X e (liftE X.K W (f e))) (hg : Gl X "isinstance") (hm : X.mg "isinstance" = none) (as : List Expr) : PE X (.Call (.Name "isinstance" p) as [] pos) (liftE X.K W (denIsi f C as)) := by
  unfold denIsi
  split
  · split
    · exact se_no
    · rename_i hs
      split
      · rename_i t e
        exact se_isi1 c.kit hg hm (Bool.eq_false_iff.mpr hs) (denTag_ok c e) (h _)
      · exact se_no
  · split
    · exact se_no
    · rename_i hs
      split
      · rename_i ts e
        split
        · rename_i hl
          exact se_isiT c.kit hg hm (Bool.eq_false_iff.mpr hs) hl (denTags_ok c e) (h _)
        · exact se_no
      · exact se_no
  · exact se_no
theorem denSet_ok (c : CtxOk C X W k) {f : Expr → IE} {p pos : Pos} {cl : Bool} {as : List Expr} {m : IE} (h : ∀ e, PE X e (liftE X.K W (f e))) (hg : Gl X "sorted") (hm : X.mg "sorted" = none) (e : denSet f C cl as = some m) :
    PE X (.Call (.Name "sorted" p) as [] pos) (liftE X.K W m) := by
  unfold denSet at e
  split at e
  · split at e
    · rename_i eg
      subst eg
      split at e
      · rename_i hh
        cases e
        obtain ⟨h1, h2⟩ := Bool.and_eq_true_iff.mp hh
        obtain ⟨b1, b2⟩ := c.isB h1
        exact se_sortSet c.calm c.un hg hm b1 b2 (by simpa using h2) (h _)
      · cases e; exact se_no
    · cases e
  · cases e
theorem denKws_ok {f : Expr → IE} (h : ∀ e, PE X e (liftE X.K W (f e))) : ∀ kws, PK X kws (liftA X.K W (denKws f kws))
  | [] => sk_nil
  | ⟨a, e, p⟩ :: r => sk_cons (h e) (denKws_ok h r)
theorem denCallK_ok (c : CtxOk C X W k) {f : Expr → IE} {p pos : Pos} (h : ∀ e, PE X e (liftE X.K W (f e))) (x : Str) (kws : List Keyword) : PE X (.Call (.Name x p) [] kws pos) (liftE X.K W (denCallK f C x kws)) := by
  unfold denCallK
  split
  · exact se_no
  · rename_i hh
    simp only [Bool.or_eq_true, not_or, Bool.not_eq_true, Bool.not_eq_false', Bool.not_eq_eq_eq_not] at hh
    obtain ⟨h2, h3⟩ := hh
    obtain ⟨hdb, _⟩ := badName_no (x := x) (by rw [h2]; decide)
    split
    · rename_i ps e
      split
      · rename_i hn
        obtain ⟨fd, D, b⟩ := c.kwf x ps e
        exact se_callK D b (c.room.mono (by omega)) c.tk (c.isG (by simpa using h3)) hdb hn (denKws_ok h kws)
      · exact se_no
    · split
      · rename_i qs ix e
        split
        · rename_i hn
          obtain ⟨fd, ps, D, b⟩ := c.kwp x qs ix e
          exact se_callKP D b (c.room.mono (by omega)) c.tk (c.isG (by simpa using h3)) hdb hn (denKws_ok h kws)
        · exact se_no
      · exact se_no
theorem keysOf_ok : ∀ {keys : List (Option Expr)} {ks : List Str}, keysOf keys = some ks → Paired (fun k x => ∃ j p, k = some (Expr.Constant (.str x) j p)) keys ks
  | [], ks, h => by cases h; exact .nil
  | k :: r, ks, h => by
    unfold keysOf at h
    split at h
    · rename_i e; cases e
    · rename_i x j p r' e
      cases e
      cases q : keysOf r with
      | none => rw [q] at h; cases h
      | some ls =>
        rw [q] at h
        cases h
        exact .cons ⟨_, _, rfl⟩ (keysOf_ok q)
    · cases h
theorem nodupB_ok : ∀ {ks : List Str}, nodupB ks = true → ks.Nodup
  | [], _ => List.nodup_nil
  | x :: r, h => by
    unfold nodupB at h
    obtain ⟨h1, h2⟩ := Bool.and_eq_true_iff.mp h
    exact List.nodup_cons.mpr ⟨by simpa using h1, nodupB_ok h2⟩
theorem pvs_of {f : Expr → IE} (h : ∀ e, PE X e (liftE X.K noW (f e))) : ∀ es, PVs X es ((es.map f).map (liftE X.K noW))
  | [] => .nil
  | e :: es => .cons (h e) (pvs_of h es)
theorem denDict_ok {f : Expr → IE} {pos : Pos} (h : ∀ e, PE X e (liftE X.K noW (f e))) (keys : List (Option Expr)) (es : List Expr) : PE X (.Dict keys es pos) (liftE X.K W (denDict f keys es)) := by
  unfold denDict
  split
  · rename_i ks e
    split
    · exact se_no
    · rename_i hh
      simp only [Bool.or_eq_true, not_or, Bool.not_eq_true, Bool.not_eq_false', Bool.not_eq_eq_eq_not, decide_eq_true_eq] at hh
      obtain ⟨⟨⟨h1, h2⟩, h3⟩, h4⟩ := hh
      have P := keysOf_ok e
      have lk : keys.length = ks.length := Paired.length P
      have le : ks.length = es.length := by simpa using h2
      refine se_disp P (pvs_of h es) (by omega) (by rw [List.length_map]; exact le) (fun z => ?_) (nodupB_ok (by simpa using h3)) (by simp at h4; omega)
      rw [z] at lk
      cases ks with
      | nil => cases h1
      | cons a b => cases lk
  · exact se_no
theorem tabOf_ok (c : CtxOk C X W k) {o b : Expr} {kvs : List (Str × Str)} {m : IE} {pos : Pos} (h : tabOf C o = some kvs) (hb : PE X b (liftE X.K W m)) (hs : sliceB b = false) : PE X (.Subscript o b pos) (liftE X.K W (un1 (tabP kvs) m)) := by
  unfold tabOf at h
  split at h
  · split at h
    · cases h
    · rename_i x p hh
      simp only [Bool.or_eq_true, not_or, Bool.not_eq_true, Bool.not_eq_eq_eq_not, Bool.not_false] at hh
      obtain ⟨h1, h2⟩ := hh
      obtain ⟨t, e1, e2⟩ := c.tab x kvs h
      exact se_tab (c.isG (by simpa using h2)) e1 e2 (badName_no (x := x) (by rw [h1]; decide)).1 hb hs
  · cases h
theorem denCall_ok (c : CtxOk C X W k) {f : Expr → IE} {p pos : Pos} (h : ∀ e, PE X e (liftE X.K W (f e))) (x : Str) (as : List Expr) : PE X (.Call (.Name x p) as [] pos) (liftE X.K W (denCall f C x as pos)) := by
  unfold denCall
  split
  · exact se_no
  · rename_i hh
    simp only [Bool.or_eq_true, not_or, Bool.not_eq_true] at hh
    obtain ⟨h1, h2⟩ := hh
    obtain ⟨hdb, hcd⟩ := badName_no (x := x) (by rw [h2]; decide)
    split
    · split
      · rename_i i a r q e
        refine se_callL c.dfs (c.room.mono (by omega)) c.tk (c.ix e) (.inl ?_) hdb hcd h1 (denA_ok h (a :: r))
        rw [c.look, q]
      · exact se_no
    rename_i h3
    have hg : Gl X x := c.isG (by simpa using h3)
    split
    · rename_i hd
      obtain ⟨fd, ps, D⟩ := c.dfs x (by simpa using hd)
      cases as with
      | nil => exact se_call0 D (c.room.mono (by omega)) c.tk hg hdb
      | cons a r => exact se_call D (c.room.mono (by omega)) c.tk hg hdb h1 (denA_ok h (a :: r))
    split
    · rename_i hd
      obtain ⟨fd, ps, D⟩ := c.cls x (by simpa using hd)
      cases as with
      | nil => exact se_no
      | cons a r => exact se_make D c.room hg hdb h1 (denA_ok h (a :: r))
    split
    · exact se_no
    · rename_i hf
      have hm : X.mg x = none := c.free x (by simpa using hf)
      split
      · rename_i ex; subst ex
        exact denIsi_ok c h hg hm as
      split
      · rename_i m e
        split at e
        · rename_i ex; exact denRg_ok c h (tup := false) ex hg hm e
        · split at e
          · rename_i ex; exact denRg_ok c h (tup := true) ex hg hm e
          · split at e
            · rename_i ex; subst ex; exact denSet_ok c h hg hm e
            · cases e
      · cases as with
        | nil => exact se_no
        | cons a r =>
          dsimp only
          split
          · rename_i q e
            obtain ⟨id, rr, b1, b2, b3, b4⟩ := bltB_ok c e
            exact se_callB b3 b4 hg hm b1 b2 hdb h1 (denA_ok h (a :: r))
          · split
            · rename_i q e
              obtain ⟨id, rr, b1, b2, b3, b4⟩ := bltT_ok c e
              exact se_callTy b3 b4 hg hm b1 b2 hdb h1 (denA_ok h (a :: r))
            · exact se_no
theorem denMeth_ok (c : CtxOk C X W k) {f : Expr → IE} {ap pos : Pos} (h : ∀ e, PE X e (liftE X.K W (f e))) (o : Expr) (m : Str) (as : List Expr) : PE X (.Call (.Attribute o m ap) as [] pos) (liftE X.K W (denMeth f o m ap as pos)) := by
  unfold denMeth
  split
  · exact se_no
  · rename_i hh
    simp only [Bool.or_eq_true, not_or, Bool.not_eq_true, Bool.not_eq_false', Bool.not_eq_eq_eq_not] at hh
    obtain ⟨⟨⟨h1, h2⟩, h3⟩, h4⟩ := hh
    have h1 : plainBase o = true := by simpa using h1
    have h2 : (ap.endLine == pos.line) = true := by simpa using h2
    have h4 : as.length < 30 := by simpa using h4
    unfold lmeth
    split
    · rename_i p e
      split at e
      · rename_i em; subst em; cases e
        cases as with
        | nil => exact se_lmeth0 slot_list_append rfl mt_append appendP_ok h1 h2 (h o)
        | cons a r => exact se_lmeth slot_list_append rfl mt_append appendP_ok h1 h2 h3 h4 (h o) (denA_ok h (a :: r))
      split at e
      · rename_i em; subst em; cases e
        cases as with
        | nil => exact se_lmeth0 PySem.F.slot_list_extend rfl mt_extend extendP_ok h1 h2 (h o)
        | cons a r => exact se_lmeth PySem.F.slot_list_extend rfl mt_extend extendP_ok h1 h2 h3 h4 (h o) (denA_ok h (a :: r))
      split at e
      · rename_i em; subst em; cases e
        cases as with
        | nil => exact se_lmeth0 PySem.F.slot_list_pop rfl mt_popBoth popP_ok h1 h2 (h o)
        | cons a r => exact se_lmeth PySem.F.slot_list_pop rfl mt_popBoth popP_ok h1 h2 h3 h4 (h o) (denA_ok h (a :: r))
      split at e
      · rename_i em; subst em; cases e
        cases as with
        | nil => exact se_lmeth0 PySem.F.slot_list_index rfl mt_index indexP_ok h1 h2 (h o)
        | cons a r => exact se_lmeth PySem.F.slot_list_index rfl mt_index indexP_ok h1 h2 h3 h4 (h o) (denA_ok h (a :: r))
      split at e
      · rename_i em; subst em; cases e
        cases as with
        | nil => exact se_lmeth0 PySem.F.slot_list_count rfl mt_lcount countP_ok h1 h2 (h o)
        | cons a r => exact se_lmeth PySem.F.slot_list_count rfl mt_lcount countP_ok h1 h2 h3 h4 (h o) (denA_ok h (a :: r))
      · cases e
    · unfold smeth
      split
      · rename_i p e
        split at e
        · rename_i em; subst em; cases e
          cases as with
          | nil => exact se_smeth0 PySem.F.slot_str_join PySem.F.type_str_join mt_join joinP_ok h1 h2 (h o)
          | cons a r => exact se_smeth PySem.F.slot_str_join PySem.F.type_str_join mt_join joinP_ok h1 h2 h3 h4 (h o) (denA_ok h (a :: r))
        · cases e
      · exact se_no

/-! ### targets, what is walked -/
theorem tgName_ok (c : CtxOk C X W k) {e : Expr} {i : Nat} (h : tgName C e = some i) : ∃ x p, e = Expr.Name x p ∧ X.N[i]? = some x ∧ Loc X.env.scope x ∧ (X.fn x = true ∨ X.env.scope.names.lookup x = some .local) := by
  unfold tgName at h
  split at h
  · rename_i x p
    split at h
    · rename_i q
      exact ⟨x, p, rfl, c.ix h, .inl (by rw [c.look, q]), .inr (by rw [c.look, q])⟩
    · rename_i q
      split at h
      · rename_i hf
        exact ⟨x, p, rfl, c.ix h, .inr (by rw [c.look, q]), .inl (c.fn x hf)⟩
      · cases h
    · cases h
  · cases h
theorem tgNames_ok (c : CtxOk C X W k) : ∀ {es : List Expr} {is : List Nat}, tgNames C es = some is → Paired (fun e i => ∃ x p, e = Expr.Name x p ∧ X.N[i]? = some x ∧ Loc X.env.scope x ∧ (X.fn x = true ∨ X.env.scope.names.lookup x = some .local)) es is
  | [], is, h => by cases h; exact .nil
  | e :: es, is, h => by
    unfold tgNames at h
    split at h
    · rename_i i js h1 h2
      cases h
      exact .cons (tgName_ok c h1) (tgNames_ok c h2)
    · cases h
theorem tgOf_ok (c : CtxOk C X W k) {e : Expr} {t : Tg} (h : tgOf C e = some t) : PG X e (gT X.K t) := by
  unfold tgOf at h
  split at h
  · cases q : tgName C (.Name _ _) with
    | none => rw [q] at h; cases h
    | some i =>
      rw [q] at h
      cases h
      obtain ⟨x, p, e, h1, h2, h3⟩ := tgName_ok c q
      cases e
      exact pg_name c.nd h1 h2 h3
  · cases q : tgNames C _ with
    | none => rw [q] at h; cases h
    | some is =>
      rw [q] at h
      cases h
      obtain ⟨h1, h2, h3⟩ := pg_names c.nd (tgNames_ok c q)
      exact pg_tup c.calm h1 h2 h3
  · cases h
theorem pi_no {tg e : Expr} : PI X tg e (liftI X.K W noII) := ⟨fun _ _ _ _ _ _ ⟨_, _, _, _, _, _, h, _⟩ => h.elim⟩
theorem denI_ok (c : CtxOk C X W k) {f : Expr → IE} (h : ∀ e, PE X e (liftE X.K W (f e))) (tg it : Expr) : PI X tg it (liftI X.K W (denI f C tg it)) := by
  unfold denI
  split
  · rename_i g p as kws pos
    split
    · rename_i hh
      obtain ⟨e1, e2⟩ := Bool.and_eq_true_iff.mp hh
      have e1 := of_decide_eq_true e1
      have e2 : kws = [] := by simpa using e2
      subst e1 e2
      split
      · split
        · rename_i hb
          obtain ⟨h1, h2⟩ := Bool.and_eq_true_iff.mp hb
          obtain ⟨b1, b2⟩ := c.isB h1
          exact pi_rng1 b1 b2 (by simpa using h2) (h _)
        · exact pi_no
      · split
        · rename_i hb
          obtain ⟨h0, h3⟩ := Bool.and_eq_true_iff.mp hb
          obtain ⟨h1, h2⟩ := Bool.and_eq_true_iff.mp h0
          obtain ⟨b1, b2⟩ := c.isB h1
          exact pi_rng2 b1 b2 (by simpa using h2) (by simpa using h3) (h _) (h _)
        · exact pi_no
      · split
        · rename_i hb
          obtain ⟨h0, h4⟩ := Bool.and_eq_true_iff.mp hb
          obtain ⟨h0, h3⟩ := Bool.and_eq_true_iff.mp h0
          obtain ⟨h1, h2⟩ := Bool.and_eq_true_iff.mp h0
          obtain ⟨b1, b2⟩ := c.isB h1
          exact pi_rng3 b1 b2 (by simpa using h2) (by simpa using h3) (by simpa using h4) (h _) (h _) (h _)
        · exact pi_no
      · exact pi_no
    · split
      · rename_i hh
        obtain ⟨e1, e2⟩ := Bool.and_eq_true_iff.mp hh
        have e1 := of_decide_eq_true e1
        have e2 : kws = [] := by simpa using e2
        subst e1 e2
        split
        · split
          · rename_i hb
            obtain ⟨h0, h3⟩ := Bool.and_eq_true_iff.mp hb
            obtain ⟨h1, h2⟩ := Bool.and_eq_true_iff.mp h0
            obtain ⟨b1, b2⟩ := c.isB h1
            cases tg <;> first | exact pi_enuA b1 b2 (by simpa using h2) (h _) | cases h3
          · exact pi_no
        · exact pi_no
      · split
        · rename_i hh
          obtain ⟨e1, e2⟩ := Bool.and_eq_true_iff.mp hh
          have e1 := of_decide_eq_true e1
          have e2 : kws = [] := by simpa using e2
          subst e1 e2
          split
          · split
            · rename_i hb
              obtain ⟨h0, h4⟩ := Bool.and_eq_true_iff.mp hb
              obtain ⟨h0, h3⟩ := Bool.and_eq_true_iff.mp h0
              obtain ⟨h1, h2⟩ := Bool.and_eq_true_iff.mp h0
              obtain ⟨b1, b2⟩ := c.isB h1
              cases tg <;> first | exact pi_zp b1 b2 (by simpa using h2) (by simpa using h3) (h _) (h _) | cases h4
            · exact pi_no
          · exact pi_no
        · exact pi_walk (h _)
  · exact pi_walk (h _)
theorem denIfs_ok {f : Expr → IT} (h : ∀ e, PT X e (liftT X.K W (f e))) {ifs : List Expr} {t : IT} (e : denIfs f ifs = some t) : PTs X ifs (liftT X.K W t) := by
  unfold denIfs at e
  split at e
  · cases e; exact sp_nil
  · cases e; exact sp_one (h _)
  · cases e

/-! ### comprehensions -/
structure Snd (d : Dn) (X : Cx) (W : WX) : Prop where
  E : ∀ e, PE X e (liftE X.K W (d.E e))
  T : ∀ e, PT X e (liftT X.K W (d.T e))
  S : ∀ s, PS X s (liftS X.K W (d.S s))
def DOk (d : SC → Dn) : Prop := ∀ C X W k, CtxOk C X W k → Snd (d C) X W
theorem subI_mem {is js : List Nat} (h : subI is js = true) : ∀ i ∈ is, i ∈ js := fun i hi => by
  unfold subI at h
  have := List.all_eq_true.mp h i hi
  simpa using this
theorem blkC_kind {N : List Str} {sc scope : Scope} {own : List (Str × Nat)} (h : blkC N sc scope own = true) : scope.kind = .function := (blkOk_by h).kind
theorem set_no {i : Nat} {s : Stmt} : PS X s (liftS X.K W (setI (.nm i) noI)) := ⟨fun _ _ _ _ _ _ ⟨_, _, _, _, _, h, _⟩ => h.elim⟩
theorem denLC_ok (c : CtxOk C X W k) {d : SC → Dn} (ih : DOk d) (elt : Expr) (gs : List Comprehension) (scope : Scope) (pos : Pos) : PE X (.ListComp elt gs scope pos) (liftE X.K W (denLC d C elt gs scope pos)) ∧
    ∀ (i : Nat) (y : Str) (py spos : Pos), X.N[i]? = some y → X.env.scope.names.lookup y = some .local → swapsWith (.ListComp elt gs scope pos) (some (.Name y py)) spos.line X.env = pure true →
      PS X (.Assign [.Name y py] (.ListComp elt gs scope pos) spos) (liftS X.K W (setI (.nm i) (denLC d C elt gs scope pos))) := by
  unfold denLC
  split
  · split
    · exact ⟨se_no, fun _ _ _ _ _ _ _ => set_no⟩
    · rename_i hh
      simp only [Bool.or_eq_true, not_or, Bool.not_eq_true, Bool.not_eq_false', Bool.not_eq_eq_eq_not, decide_eq_true_eq, ne_eq, Decidable.not_not] at hh
      obtain ⟨⟨h1, h2⟩, h3⟩ := hh
      subst h1
      have h3 : blkC C.N C.sc scope (ownOf C.N scope.names) = true := by simpa using h3
      have bk : BlkOk X.N X.env.scope scope (ownOf C.N scope.names) := by rw [c.N, c.sc]; exact blkOk_by h3
      split
      · rename_i t tt e1 e2
        split
        · rename_i hs
          have cb := c.blk (blkC_kind h3)
          have hg := fun s H a cl fp => tgOf_ok (cb s H a cl fp) e1
          have hf := fun s H a cl fp => denIfs_ok (ih _ _ _ _ (cb s H a cl fp)).T e2
          have he := fun s H a cl fp => (ih _ _ _ _ (cb s H a cl fp)).E elt
          have hi := denI_ok c (ih _ _ _ _ c).E
          exact ⟨se_lc c.calm c.nd (hi _ _) bk (subI_mem hs) h2 hg hf he,
            fun i y py spos q1 q2 q3 => ss_setLc c.calm c.nd q1 q2 q3 (hi _ _) bk (subI_mem hs) h2 hg hf he⟩
        · exact ⟨se_no, fun _ _ _ _ _ _ _ => set_no⟩
      · exact ⟨se_no, fun _ _ _ _ _ _ _ => set_no⟩
  · split
    · exact ⟨se_no, fun _ _ _ _ _ _ _ => set_no⟩
    · rename_i hh
      simp only [Bool.or_eq_true, not_or, Bool.not_eq_true, Bool.not_eq_false', Bool.not_eq_eq_eq_not, decide_eq_true_eq, ne_eq, Decidable.not_not] at hh
      obtain ⟨⟨⟨⟨h1, h1'⟩, h2⟩, h2'⟩, h3⟩ := hh
      subst h1 h1'
      have h3 : blkC C.N C.sc scope (ownOf C.N scope.names) = true := by simpa using h3
      have bk : BlkOk X.N X.env.scope scope (ownOf C.N scope.names) := by rw [c.N, c.sc]; exact blkOk_by h3
      split
      · rename_i t tt t1 tt1 e1 e2 e3 e4
        split
        · rename_i hs
          obtain ⟨hs1, hs2⟩ := Bool.and_eq_true_iff.mp hs
          have cb := c.blk (blkC_kind h3)
          have hg := fun s H a cl fp => tgOf_ok (cb s H a cl fp) e1
          have hf := fun s H a cl fp => denIfs_ok (ih _ _ _ _ (cb s H a cl fp)).T e2
          have hi1 := fun tg it s H a cl fp => denI_ok (cb s H a cl fp) (ih _ _ _ _ (cb s H a cl fp)).E tg it
          have hg1 := fun s H a cl fp => tgOf_ok (cb s H a cl fp) e3
          have hf1 := fun s H a cl fp => denIfs_ok (ih _ _ _ _ (cb s H a cl fp)).T e4
          have he := fun s H a cl fp => (ih _ _ _ _ (cb s H a cl fp)).E elt
          have hi := denI_ok c (ih _ _ _ _ c).E
          exact ⟨(pe_lc2 c.calm c.nd (hi _ _) bk (subI_mem hs2) hg hf (hi1 _ _) hg1 hf1 he (folded_no h2) (fun env => folded_no h2')).imp (lc2_imp (subI_mem hs1) fun i hi => hi),
            fun i y py spos q1 q2 q3 => (ps_setLc2 c.calm c.nd q1 q2 q3 (hi _ _) bk (subI_mem hs2) hg hf (hi1 _ _) hg1 hf1 he (folded_no h2) (fun env => folded_no h2')).imp (asg_imp (lc2_imp (subI_mem hs1) fun i hi => hi))⟩
        · exact ⟨se_no, fun _ _ _ _ _ _ _ => set_no⟩
      · exact ⟨se_no, fun _ _ _ _ _ _ _ => set_no⟩
  · exact ⟨se_no, fun _ _ _ _ _ _ _ => set_no⟩
theorem denPart_ok {f : Expr → IE} (h : ∀ e, PE X e (liftE X.K W (f e))) : ∀ o, PO X o (liftO X.K W (denPart f o))
  | none => so_none
  | some a => so_some (h a)
theorem denE_ok (c : CtxOk C X W k) {d : SC → Dn} (ih : DOk d) (e : Expr) : PE X e (liftE X.K W (denE d C e)) := by
  have hE := (ih _ _ _ _ c).E
  have hT := (ih _ _ _ _ c).T
  unfold denE
  split
  · exact se_non
  · exact se_bl
  · exact se_int
  · exact se_str
  · exact denName_ok c
  · split
    · rename_i r e
      obtain ⟨rr, h1, h2⟩ := opB_ok (X := X) e
      exact se_bin h1 h2 (hE _) (hE _)
    · exact se_no
  · exact se_not (hE _)
  · exact se_un un_neg negP_ok (hE _)
  · exact denAnd_ok hE _
  · exact denOr_ok hE _
  · exact (denCmp_ok c hE _ _ _).1
  · exact se_if (hT _) (hE _) (hE _)
  · exact se_tup (denA_ok hE _)
  · exact se_lst (denA_ok hE _)
  · split
    · rename_i hb
      exact se_fld c.fld hb (hE _)
    · exact se_no
  · exact se_rev (hE _)
  · exact denDict_ok (ih _ _ _ _ c.noW).E _ _
  · exact denCallK_ok c hE _ _
  · exact se_slice (hE _) (denPart_ok hE _) (denPart_ok hE _)
  · split
    · exact se_no
    · rename_i hs
      split
      · rename_i ht
        exact tabOf_ok c ht (hE _) (Bool.eq_false_iff.mpr hs)
      · exact se_ix (by have := c.un; omega) (hE _) (hE _) (Bool.eq_false_iff.mpr hs)
  · exact denCall_ok c hE _ _
  · exact denMeth_ok c hE _ _ _
  · exact (denLC_ok c ih _ _ _ _).1
  · exact se_no
theorem denT_ok (c : CtxOk C X W k) {d : SC → Dn} (ih : DOk d) (e : Expr) : PT X e (liftT X.K W (denT d C e)) := by
  have hE := (ih _ _ _ _ c).E
  have hT := (ih _ _ _ _ c).T
  unfold denT
  split
  · exact st_not (hT _)
  · exact (denAndT_ok hT _).pt
  · exact (denOrT_ok hT _).pt
  · exact (denCmp_ok c hE _ _ _).2
  · exact st_no
  · rename_i h1 h2 h3 h4 h5
    refine st_tru ?_ (hE _)
    cases e with
    | UnaryOp op a pos => cases op <;> first | rfl | exact absurd rfl (h1 _ _)
    | BoolOp op es pos => cases op <;> first | exact absurd rfl (h2 _ _) | exact absurd rfl (h3 _ _)
    | Compare a ops bs pos => exact absurd rfl (h4 _ _ _ _)
    | IfExp t a b pos => exact absurd rfl (h5 _ _ _ _)
    | _ => rfl

/-! ### statements -/
theorem denSs_ok {f : Stmt → IS} (h : ∀ s, PS X s (liftS X.K W (f s))) : ∀ ss, PSs X ss (liftS X.K W (denSs f ss))
  | [] => sss_nil
  | s :: r => sss_cons (m1 := f s) (m2 := denSs f r) (h s) (denSs_ok h r)
theorem swapC_ok (c : CtxOk C X W k) {ts vs : List Expr} {o : Option (List Str)} {k1 k2 : Nat} {p1 p2 : Pos} (h : swapC C ts vs = some o) : swappedStores [.Tuple ts k1 p1] (.Tuple vs k2 p2) X.env = pure o := by
  have hb : X.env.blockKind = .function := by unfold Env.blockKind; rw [c.sc, c.kind]; rfl
  have hkk : X.env.kindOf = C.knd := funext c.knd
  unfold swapC at h
  unfold swappedStores
  rw [hb, hkk]
  dsimp only
  rw [show (ScopeKind.function != ScopeKind.function) = false from rfl, Bool.or_false]
  split at h
  · rename_i h1
    cases h
    exact if_pos h1
  rename_i h1
  refine (if_neg h1).trans ?_
  split at h
  · rename_i h2
    cases h
    exact if_pos h2
  rename_i h2
  refine (if_neg h2).trans ?_
  dsimp only at h
  split at h
  · rename_i h3
    cases h
    exact if_pos h3
  rename_i h3
  refine (if_neg h3).trans ?_
  split at h
  · rename_i h4
    cases h
    exact if_pos h4
  rename_i h4
  refine (if_neg h4).trans ?_
  split at h
  · cases h
  · rename_i h5
    cases h
    exact if_neg h5
theorem set_noT {t : Tg} {s : Stmt} : PS X s (liftS X.K W (setI t noI)) := ⟨fun _ _ _ _ _ _ ⟨_, _, _, _, _, h, _⟩ => h.elim⟩
theorem isLoc_ok (c : CtxOk C X W k) {x : Str} (h : isLoc C x = true) : X.env.scope.names.lookup x = some .local := by
  rw [c.look]
  exact beq_kind h
theorem denPar_ok (c : CtxOk C X W k) {f : Expr → IE} (h : ∀ e, PE X e (liftE X.K W (f e))) {es vs : List Expr} {is : List Nat} {nms : List Str} {k1 k2 : Nat} {p1 p2 pos : Pos} (hn : tgNames C es = some is) (hw : swapC C es vs = some (some nms)) :
    PS X (.Assign [.Tuple es k1 p1] (.Tuple vs k2 p2) pos) (liftS X.K W (denPar f C es vs is nms)) := by
  have P := tgNames_ok c hn
  have hw := swapC_ok c (k1 := k1) (k2 := k2) (p1 := p1) (p2 := p2) hw
  unfold denPar
  split
  · rename_i x px y py a b i j
    split
    · rename_i hh
      simp only [Bool.and_eq_true, decide_eq_true_eq] at hh
      obtain ⟨⟨⟨h1, h2⟩, h3⟩, rfl⟩ := hh
      cases P with
      | cons q1 P => cases P with
        | cons q2 P =>
          obtain ⟨_, _, e1, a1, _, _⟩ := q1
          obtain ⟨_, _, e2, a2, _, _⟩ := q2
          cases e1; cases e2
          exact ss_par2 c.calm c.nd a1 a2 h3 (isLoc_ok c h1) (isLoc_ok c h2) hw (denA_ok h _)
    · exact ss_never
  · rename_i x px y py z pz a b e i j l
    split
    · rename_i hh
      simp only [Bool.and_eq_true, decide_eq_true_eq] at hh
      obtain ⟨⟨⟨⟨⟨⟨h1, h2⟩, h3⟩, h4⟩, h5⟩, h6⟩, rfl⟩ := hh
      cases P with
      | cons q1 P => cases P with
        | cons q2 P => cases P with
          | cons q3 P =>
            obtain ⟨_, _, e1, a1, _, _⟩ := q1
            obtain ⟨_, _, e2, a2, _, _⟩ := q2
            obtain ⟨_, _, e3, a3, _, _⟩ := q3
            cases e1; cases e2; cases e3
            exact ss_par3 c.calm c.nd a1 a2 a3 h4 h5 h6 (isLoc_ok c h1) (isLoc_ok c h2) (isLoc_ok c h3) hw (denA_ok h _)
    · exact ss_never
  · exact ss_never
theorem denAsg_ok (c : CtxOk C X W k) {d : SC → Dn} (ih : DOk d) (tg e : Expr) (pos : Pos) : PS X (.Assign [tg] e pos) (liftS X.K W (denAsg d C tg e)) := by
  have hE := (ih _ _ _ _ c).E
  unfold denAsg
  split
  · rename_i x p
    split
    · exact ss_never
    · rename_i i hi
      obtain ⟨x', p', e1, a1, a2, a3⟩ := tgName_ok c hi
      cases e1
      split
      · rename_i elt gs scope cpos
        have sw := swaps_lc (X := X) (elt := elt) (gs := gs) (scope := scope) (pos := cpos) (y := x) (py := p) (l := pos.line) (by rw [c.sc]; exact c.kind)
        rw [c.look] at sw
        split
        · rename_i hh
          refine (denLC_ok c ih elt gs scope cpos).2 i x p pos a1 ?_ (sw.trans ?_)
          · obtain ⟨h1, _⟩ := Bool.and_eq_true_iff.mp hh
            obtain ⟨h1, _⟩ := Bool.and_eq_true_iff.mp h1
            rw [c.look]
            exact beq_kind h1
          · rw [hh]
        · rename_i hh
          refine ss_set c.nd a1 a2 a3 (sw.trans ?_) (hE _)
          rw [Bool.eq_false_iff.mpr hh]
      · split
        · exact ss_never
        · rename_i hc
          exact ss_set c.nd a1 a2 a3 (swaps_no (Bool.eq_false_iff.mpr hc)) (hE _)
  · rename_i es k1 p1
    split
    · exact ss_never
    · rename_i is hn
      split
      · split
        · exact ss_never
        · rename_i hw
          exact ss_unpack c.calm c.nd (tgNames_ok c hn) rfl (swapC_ok c hw) (hE _)
        · rename_i nms hw
          exact denPar_ok c hE hn hw
      · rename_i hnt
        split
        · exact ss_never
        · rename_i hc
          refine ss_unpack c.calm c.nd (tgNames_ok c hn) (Bool.eq_false_iff.mpr hc) ?_ (hE _)
          cases e <;> first | rfl | exact absurd rfl (hnt _ _ _)
  · exact ss_sstore (hE _) (denPart_ok hE _) (denPart_ok hE _) (hE _)
  · split
    · exact ss_never
    · rename_i hh
      exact ss_store (by have := c.un; omega) (Bool.eq_false_iff.mpr hh) (hE _) (hE _) (hE _)
  · split
    · exact ss_never
    · rename_i hc
      exact ss_fld c.fld (Bool.eq_false_iff.mpr hc) (hE _) (hE _)
  · exact ss_never
theorem addI_ok : P2Ok X.K addI (fun x y H Q => ipI (fun i j => i + j) x y H Q) := by
  intro B x y v u S H Qi Q rx ry hr h q
  unfold addI at h
  split at h
  · cases rx; cases ry
    exact ⟨_, _, rfl, rfl, q.same hr (.int _) h⟩
  · exact h.elim
theorem mulI_ok : P2Ok X.K mulI (rI CMul fun i j => .int (i * j)) := by
  intro B x y v u S H Qi Q rx ry hr h q
  unfold mulI at h
  split at h
  · cases rx; cases ry
    exact ⟨_, _, rfl, rfl, h.1, q.same hr (.int _) h.2⟩
  · exact h.elim
theorem opA_ok {op : Operator} {r : P2} (h : opA op = some r) : AugOk X op r := by
  cases op <;> first | cases h
  · exact ⟨_, ip_add, addI_ok⟩
  · exact ⟨_, ip_sub, subP_ok⟩
  · exact ⟨_, iop_mul, mulI_ok⟩
theorem hdOf_ok (c : CtxOk C X W k) {h : ExceptHandler} {q : Str × Option Nat × HV} (e : hdOf C h = some q) : q.1 ∈ C.T.hcl ∧ ∀ {hds : List ExceptHandler} {l : List (Value × Option Nat × TLX.SuT)}, TLX.HdR X hds l → TLX.HdR X (h :: hds) ((.ref (He.ga X.K q.1), q.2.1, fun a cls d => tRet (tHV X.K a cls d q.2.1 q.2.2)) :: l) := by
  have nmd : ∀ {x : Str}, (badName x || !C.isG x || !C.T.cob.contains x || !C.T.hcl.contains x) = false → Names X x (.ref (He.ga X.K x)) ∧ x ∈ C.T.hcl := fun {x} h => by
    obtain ⟨h, h4⟩ := Bool.or_eq_false_iff.mp h
    obtain ⟨h, h3⟩ := Bool.or_eq_false_iff.mp h
    obtain ⟨h1, h2⟩ := Bool.or_eq_false_iff.mp h
    obtain ⟨hd, hcd⟩ := badName_no (by rw [h1]; exact Bool.false_ne_true)
    have h3 : x ∈ C.T.cob := by simpa using h3
    have h4 : x ∈ C.T.hcl := by simpa using h4
    refine ⟨⟨?_, hd, .inl (c.cob x h3)⟩, h4⟩
    have h2 : C.isG x = true := by simpa using h2
    show X.env.kindOf x = _
    rw [c.knd]
    exact beq_kind h2
  unfold hdOf at e
  split at e
  · rename_i x _ r _ _
    split at e
    · cases e
    · rename_i hc
      obtain ⟨n1, n2⟩ := nmd (Bool.eq_false_iff.mpr hc)
      obtain ⟨v, hv, rfl⟩ := Option.map_eq_some_iff.mp e
      exact ⟨n2, fun r => .cons n1 (fun a oe cls d pn hz hf => pss_one (ps_ret (hv_ok (show NmOk X none none from ⟨fun x z => by cases z⟩) hv hz hf))) r⟩
  · rename_i x _ n r _ _
    split at e
    · cases e
    · rename_i hc
      obtain ⟨hc, h2⟩ := Bool.or_eq_false_iff.mp (Bool.eq_false_iff.mpr hc)
      obtain ⟨hc, h1⟩ := Bool.or_eq_false_iff.mp hc
      obtain ⟨n1, n2⟩ := nmd hc
      obtain ⟨hd, hcd⟩ := badName_no (by rw [h1]; exact Bool.false_ne_true)
      have hl : C.knd n = some .local := beq_kind (by simpa [isLoc] using h2)
      split at e
      · rename_i i v hi hv
        cases e
        have hk : X.env.kindOf n = some .local := by rw [c.knd, hl]
        refine ⟨n2, fun r => .as_ (c.ix hi) hk n1 (fun a oe cls d pn hz hf => pss_one (ps_ret (hv_ok ⟨fun x z => ?_⟩ hv hz hf))) r⟩
        cases z
        exact ⟨i, rfl, c.ix hi, .inl (by rw [c.look, hl]), hd, hcd⟩
      · cases e
  · cases e
theorem hdsOf_ok (c : CtxOk C X W k) : ∀ {hds : List ExceptHandler} {l : List (Str × Option Nat × HV)}, hdsOf C hds = some l → (∀ q ∈ l, q.1 ∈ C.T.hcl) ∧ TLX.HdR X hds (l.map fun q => (.ref (He.ga X.K q.1), q.2.1, fun a cls d => tRet (tHV X.K a cls d q.2.1 q.2.2)))
  | [], l, h => by
    cases h
    exact ⟨fun q hq => (nomatch hq), .nil⟩
  | h0 :: hds, l, h => by
    unfold hdsOf at h
    split at h
    · rename_i q qs h1 h2
      cases h
      obtain ⟨a1, a2⟩ := hdOf_ok c h1
      obtain ⟨b1, b2⟩ := hdsOf_ok c h2
      refine ⟨fun z hz => ?_, a2 b2⟩
      rcases List.mem_cons.mp hz with rfl | hz
      · exact a1
      · exact b1 z hz
    · cases h
theorem denS_ok (c : CtxOk C X W k) {d : SC → Dn} (ih : DOk d) (s : Stmt) : PS X s (liftS X.K W (denS d C s)) := by
  have hE := (ih _ _ _ _ c).E
  have hT := (ih _ _ _ _ c).T
  have hS := denSs_ok (ih _ _ _ _ c).S
  unfold denS
  split
  · exact ss_pass
  · exact ss_break
  · exact ss_cont
  · exact ss_retN
  · exact ss_ret (hE _)
  · split
    · exact ss_never
    · rename_i hc
      exact ss_expr (Bool.eq_false_iff.mpr hc) (hE _)
  · exact ss_if (hT _) (hS _) (hS _)
  · exact ss_while c.po (hT _) (hS _)
  · split
    · exact ss_never
    · rename_i hs
      split
      · rename_i t e
        exact ss_for c.po c.calm (denI_ok c hE _ _) (tgOf_ok c e) (hS _) (Bool.eq_false_iff.mpr hs)
      · exact ss_never
  · exact denAsg_ok c ih _ _ _
  · split
    · rename_i i r e1 e2
      obtain ⟨x', p', e1, a1, a2, a3⟩ := tgName_ok c e1
      cases e1
      exact ss_aug c.nd a1 a2 a3 (opA_ok e2) (hE _)
    · exact ss_never
  · exact ss_sdel (hE _) (denPart_ok hE _)
  · rename_i x p a es p2 p3
    split
    · exact ss_never
    · rename_i hc
      obtain ⟨hc, h3⟩ := Bool.or_eq_false_iff.mp (Bool.eq_false_iff.mpr hc)
      obtain ⟨h1, h2⟩ := Bool.or_eq_false_iff.mp hc
      obtain ⟨hd, hcd⟩ := badName_no (by rw [h2]; exact Bool.false_ne_true)
      have h3 : C.isG x = true := by simpa using h3
      split
      · rename_i fs an e
        exact ss_raise (c.exc x fs an e).1 c.calm c.room c.tk (by show X.env.kindOf x = _; rw [c.knd]; exact beq_kind h3) hd h1 (denA_ok hE _)
      · exact ss_never
  · rename_i body h hds p
    split
    · exact ss_never
    · rename_i ht
      split
      · rename_i l e
        obtain ⟨t1, t2⟩ := c.top (by simpa using ht)
        obtain ⟨g1, g2⟩ := hdsOf_ok c e
        refine ss_try t1 t2 c.nd c.tk (fun W' pn xe tk po => denSs_ok (ih _ _ _ _ (c.tr tk po)).S body) g2 fun cl fs an e2 => ?_
        obtain ⟨x1, x2⟩ := c.exc cl fs an e2
        exact ⟨⟨x1.xf, x1.no⟩, fun q hq => x2 q.1 (g1 q hq)⟩
      · exact ss_never
  · exact ss_never
theorem den_ok : ∀ n, DOk (den n)
  | 0 => fun C X W k c => ⟨fun _ => se_no, fun _ => st_no, fun _ => ss_never⟩
  | n + 1 => fun C X W k c => ⟨denE_ok c (den_ok n), denT_ok c (den_ok n), denS_ok c (den_ok n)⟩
end
end TL

/-! TL11: defs by their plain meanings. -/
namespace TL
open PySem PySem.Spec L2
open PyProof.Rows hiding St

structure FD where
  ps : List Str
  N : List Str
  m : Calls → IS
  gc : Bool := true
abbrev FTab := List (Str × FD)
/-- what is wanted behind a body: what was made in it and is not told of is let go -/
@[reducible] def gcS (g : Bool) (S S' : Sto) : Sto := match g with
  | true => S'.within S
  | false => S'
@[reducible] def endsI (g : Bool) (S : Sto) (Q : VQ) (E : EQ) : IEnds where
  nx := fun _ S' => Q .non (gcS g S S')
  rt := fun v S' => Q v (gcS g S S')
  ex := fun _ => E
  bk := fun _ _ => False
  ct := fun _ _ => False
def startI (N : List Str) (args : List Val) : ISt := args.map some ++ List.replicate (N.length - args.length) none
def callI (P : FTab) : Nat → Calls
  | 0 => fun _ _ _ _ _ => False
  | d + 1 => fun f args S Q E => match P.lookup f with
    | none => False
    | some D => args.length = D.ps.length ∧ D.m (callI P d) (endsI D.gc S Q E) (startI D.N args) S

/-- how a def of the text stands: its body means what is told of it -/
structure DefAt (K : PySem.W.Frag) (T : Tab) (D : FD) (fa : Addr) (fd : FuncData) : Prop where
  ex : ∃ (name qual : Str) (params : Arguments) (body : List Stmt) (scope : Scope) (n : Nat) (cel frz : Pos → Bool), FunD K name qual params body scope [] [] fa fd ∧ FnScope D.N D.ps scope ∧
    ∀ Γ : Calls, D.m Γ = denSs (den n ⟨D.N, scope, fun _ => true, T, cel, frz, Γ, true⟩).S body
/-- an own exception class, as the text has it -/
structure ExFact (K : PySem.W.Frag) (mg : Str → Option Value) (hcl : List Str) (c : Str) (fs an : List Str) : Prop where
  xc : TLX.XC K (He.ga K c)
  xf : XfC K (He.ga K c)
  no : ∀ f ∈ fs, PySem.W.findIn K (.ref (He.ga K c)) f = some none
  mg : mg c = some (.ref (He.ga K c))
  len : fs ≠ [] ∧ fs.length ≤ 800
  init : ∃ (name qual : Str) (params : Arguments) (body : List Stmt) (scope : Scope) (fI : Addr) (fd : FuncData) (ps : List Str), FunD K name qual params body scope [] [] fI fd ∧ FnScope ps ps scope ∧ TLX.stores ps body = some (slotsF fs) ∧
    (∀ x ∈ ps, (x == ("__debug__" : Str)) = false ∧ (x == ("__classdict__" : Str)) = false) ∧ ps.length = 1 + fs.length ∧ PySem.W.findIn K (.ref (He.ga K c)) "__init__" = some (some (.ref fI)) ∧ PySem.W.typeIn K (.ref fI) = some (.type "function") ∧ Binds K fd ps []
  hcl : ∀ h, h ∈ hcl → PySem.W.exmOne K (.ref (He.ga K c)) (.ref (He.ga K h)) = some (an.contains h)
structure Facts (K : PySem.W.Frag) (mg : Str → Option Value) (P : FTab) (T : Tab) (adr : Str → Addr) (fdo : Str → FuncData) (w : World) : Prop where
  def_ : ∀ f D, P.lookup f = some D → DefAt K T D (adr f) (fdo f)
  dfs : ∀ f, f ∈ T.dfs → ∃ D, P.lookup f = some D ∧ adr f = He.ga K f ∧ mg f = some (.ref (He.ga K f)) ∧ Binds K (fdo f) D.ps []
  cls : ∀ c, c ∈ T.cls → ∃ D, P.lookup (c ++ ".__init__") = some D ∧ Mk K (He.ga K c) (adr (c ++ ".__init__")) ∧ mg c = some (.ref (He.ga K c)) ∧ Binds K (fdo (c ++ ".__init__")) D.ps []
  con : ∀ x v, T.con.lookup x = some v → ∃ y u, mg x = some u ∧ RelV y u ∧ ∀ B H S, RV K B H S v y
  fld : FldOk K T.F
  free : ∀ x, x ∈ T.free → mg x = none
  kwf : ∀ f ps, T.kwf.lookup f = some ps → f ∈ T.dfs ∧ (∀ D, P.lookup f = some D → D.ps = ps) ∧ Kb K (fdo f) ps
  kwp : ∀ f qs ix, T.kwp.lookup f = some (qs, ix) → f ∈ T.dfs ∧ ∀ D, P.lookup f = some D → Kbp K (fdo f) D.ps qs ix
  cob : ∀ c, c ∈ T.cob → mg c = some (.ref (He.ga K c))
  kit : KitOk K T.kit T.own
  tab : ∀ x kvs, T.tabs.lookup x = some kvs → ∃ t, mg x = some (.ref t) ∧ ∀ z f, kvs.lookup z = some f → KDct K w t z (.ref (He.ga K f))
  exc : ∀ c fs an, T.exc.lookup c = some (fs, an) → ExFact K mg T.hcl c fs an

theorem within_some {S S' : Sto} {a : Addr} {c : Cell} (h : (S'.within S) a = some c) : S' a = some c := by
  unfold Sto.within at h
  split at h
  · exact h
  · cases h
theorem within_none {S S' : Sto} {a : Addr} (h : S' a = none) : (S'.within S) a = none := by
  unfold Sto.within
  split
  · exact h
  · rfl
section
variable {K : PySem.W.Frag} {B : Addr → Prop} {H H' : Hp} {S S' : Sto}
theorem QR.within {Qi : VQ} {Q : VK} {g : Bool} (q : QR K B S H Qi Q) {v : Val} {x : V} (hr : HR K B H' S') (e : Ext S S' H H') (rv : RV K B H' S' v x) (h : Qi v (gcS g S S')) : Q x H' := by
  cases g with
  | false => exact q v S' x H' rv hr e h
  | true =>
  have ed : Ext S' (S'.within S) H' H' := Ext.less fun b hb => within_none hb
  exact q v (S'.within S) x H' (rv.ext ed) (hr.less fun a c hc => within_some hc) (e.trans ed) h
theorem startI_rl {N : List Str} {args : List Val} {vs : List V} (r : RVs K B H S args vs) : RSt K B H S (startI N args) (L2.start N vs) := by
  have hl := r.length
  unfold startI L2.start
  refine ⟨by simp [hl], fun i v h => ?_⟩
  by_cases hi : i < args.length
  · rw [List.getElem?_append_left (by simpa using hi), List.getElem?_map] at h
    cases e : args[i]? with
    | none => rw [e] at h; cases h
    | some a =>
      rw [e] at h
      cases h
      obtain ⟨x, h1, h2⟩ := r.get e
      refine ⟨x, ?_, h2⟩
      rw [List.getElem?_append_left (by simp; omega), List.getElem?_map, h1]
      rfl
  · rw [List.getElem?_append_right (by simpa using hi), List.getElem?_replicate] at h
    split at h <;> cases h
end

section
variable {K : PySem.W.Frag} {mg : Str → Option Value} {P : FTab} {T : Tab} {adr : Str → Addr} {fdo : Str → FuncData} {prog : Program} {w : World} {base : Heap}
theorem fnOk_all (F : Facts K mg P T adr fdo w) : ∀ (d : Nat) (f : Str) (D : FD), P.lookup f = some D → FnOk prog w K mg base (L2.CX prog w) (2 * d + 2) (adr f) (fdo f) D.ps (spG K (callI P d) f)
  | 0, f, D, _ => ⟨fun vs H Q E ⟨_, _, _, _, _, _, _, h, _⟩ => h.elim, fun A outer s H args us vs Q E hr e0 hb rv ⟨_, _, _, _, _, _, _, h, _⟩ => h.elim⟩
  | d + 1, f, D, hf => by
    have ih := fnOk_all F d
    obtain ⟨name, qual, params, body, scope, n, cel, frz, FD_, sc, em⟩ := (F.def_ f D hf).ex
    have e2 : 2 * (d + 1) + 2 = (2 * d + 2 + 1) + 1 := by omega
    rw [e2]
    refine FD_.ok sc (fun vs H Q E h => ?_) fun cdv A outer s H vs Q E hr h => ?_
    · obtain ⟨args, S, B, Qi, Ei, rv, hr, h, q, er⟩ := h
      have h : (match P.lookup f with
        | none => False
        | some D => args.length = D.ps.length ∧ D.m (callI P d) (endsI D.gc S Qi Ei) (startI D.N args) S) := h
      rw [hf] at h
      rw [← rv.length]
      exact h.1
    · obtain ⟨args, S, B, Qi, Ei, rv, hrr, h, q, er⟩ := h
      have h : (match P.lookup f with
        | none => False
        | some D => args.length = D.ps.length ∧ D.m (callI P d) (endsI D.gc S Qi Ei) (startI D.N args) S) := h
      rw [hf] at h
      obtain ⟨hl, h⟩ := h
      rw [em] at h
      -- the context of the body
      have cx : CtxOk ⟨D.N, scope, fun _ => true, T, cel, frz, callI P d, true⟩ (cxOf (L2.CX prog w) prog w K mg base D.N qual scope (adr f) cdv A outer s H E) (fun c d _ H => E c d H) (2 * d + 2) :=
        { N := rfl, sc := rfl, nd := sc.nd, kind := sc.kind, calm := rfl, fn := fun _ _ => rfl,
          tk := takes_of rfl rfl rfl rfl, po := passes_of rfl, room := hr, con := F.con,
          dfs := fun g hg => by
            obtain ⟨D', h1, h2, h3, h4⟩ := F.dfs g hg
            obtain ⟨_, _, _, _, _, _, _, _, FD', _, _⟩ := (F.def_ g D' h1).ex
            refine ⟨fdo g, D'.ps, ⟨?_, h3, ?_, h4⟩⟩
            · have z := ih g D' h1
              rw [h2] at z
              exact z
            · have z := FD'.kp
              rw [h2] at z
              exact z
          cls := fun c hc => by
            obtain ⟨D', h1, h2, h3, h4⟩ := F.cls c hc
            exact ⟨fdo (c ++ ".__init__"), D'.ps, ⟨⟨_, h2, ih _ D' h1⟩, h3, h4⟩⟩
          fld := F.fld, free := F.free,
          kwf := fun g ps hg => by
            obtain ⟨h0, h5, h6⟩ := F.kwf g ps hg
            obtain ⟨D', h1, h2, h3, h4⟩ := F.dfs g h0
            obtain ⟨_, _, _, _, _, _, _, _, FD', _, _⟩ := (F.def_ g D' h1).ex
            have e := h5 D' h1
            subst e
            refine ⟨fdo g, ⟨?_, h3, ?_, h4⟩, h6⟩
            · have z := ih g D' h1
              rw [h2] at z
              exact z
            · have z := FD'.kp
              rw [h2] at z
              exact z
          kwp := fun g qs ix hg => by
            obtain ⟨h0, h6⟩ := F.kwp g qs ix hg
            obtain ⟨D', h1, h2, h3, h4⟩ := F.dfs g h0
            obtain ⟨_, _, _, _, _, _, _, _, FD', _, _⟩ := (F.def_ g D' h1).ex
            refine ⟨fdo g, D'.ps, ⟨?_, h3, ?_, h4⟩, h6 D' h1⟩
            · have z := ih g D' h1
              rw [h2] at z
              exact z
            · have z := FD'.kp
              rw [h2] at z
              exact z
          cob := F.cob, kit := F.kit, tab := F.tab,
          exc := fun c fs an hc => by
            have e := F.exc c fs an hc
            refine ⟨⟨e.xc, e.xf, e.no, e.mg, e.len, ?_⟩, e.hcl⟩
            obtain ⟨name', qual', params', body', scope', fI, fd', ps', i1, i2, i3, i4, i5, i6, i7, i8⟩ := e.init
            exact ⟨fI, fd', ps', i6, i7, i8, i5, (TLX.init_fn i1 i2 i3 i4).mono (by omega)⟩,
          top := fun _ => ⟨rfl, rfl⟩ }
      refine ⟨_, denSs_ok (den_ok n _ _ _ _ cx).S body, startI D.N args, S, B, _, ⟨startI_rl rv, hrr⟩, h, ?_⟩
      refine ⟨fun ρ' S' σ' H' R e h => ?_, fun v S' x H' rv hr e h => ?_, fun ρ' e S' σ' c d H' rs xr hr ex h => ?_, fun _ _ _ _ _ _ h => h.elim, fun _ _ _ _ _ _ h => h.elim⟩
      · exact q.within R.hr e .non h
      · exact q.within hr e rv h
      · exact er e S' c d H' xr hr ex h
/-- a def is called -/
theorem callI_of {P : FTab} {d : Nat} {f : Str} {args : List Val} {S : Sto} {Q : VQ} {E : EQ} {D : FD} (h : P.lookup f = some D) (hl : args.length = D.ps.length) (hm : D.m (callI P d) (endsI D.gc S Q E) (startI D.N args) S) : callI P (d + 1) f args S Q E := by
  show (match P.lookup f with
    | none => False
    | some D => args.length = D.ps.length ∧ D.m (callI P d) (endsI D.gc S Q E) (startI D.N args) S)
  rw [h]
  exact ⟨hl, hm⟩
/-- the law -/
def lawP (P : FTab) (d : Nat) (law : Str) : Prop := ∀ ns : List Int, ns.length ≤ 63 → callI P d law [.scr ns] noSto (fun v _ => v = .bl true) noX
theorem law_sp {law : Str} {d : Nat} (h : lawP P d law) {H : Hp} {a : Addr} {ns : List Int} (hl : ns.length ≤ 63) (hs : SqL K H a (ns.map V.int)) : spG K (callI P d) law [.ref a] H (fun v _ => v = .bl true) fun _ _ _ => False := by
  refine ⟨[.scr ns], noSto, fun _ => False, _, noX, .cons (.scr ?_) .nil, ⟨fun a c e => (by cases e), fun a z => z.elim⟩, h ns hl, fun v S' x H' rv hr e hq => ?_, fun _ _ _ _ _ _ _ _ z => z⟩
  · rcases hs with hs | hs
    · exact .inl ⟨hs, rfl, fun z => z⟩
    · exact .inr fun _ => .inr hs
  · rw [hq] at rv
    cases rv
    rfl
end
end TL

/-! TL12: the head's facts for a whole text of defs. -/
namespace TL
open PySem PySem.Spec L2
open PyProof.Rows hiding St

/-- a def of the text: its name (C.m of a method), its plain meaning, where it stands -/
structure Ent where
  nm : Str
  fd : FD
  df : He.DefD
  cel : Pos → Bool
  frz : Pos → Bool
abbrev FnP0 (df : He.DefD) (kV doc pm : Value) (an : Option Addr) (cdv ct : Value) : FuncData := PySem.W.fnOf df.name df.qual df.params df.body df.scope .none kV doc pm an cdv ct
structure EntOk (T : Tab) (n : Nat) (e : Ent) : Prop where
  sc : FnScope e.fd.N e.fd.ps e.df.scope
  em : ∀ Γ : Calls, e.fd.m Γ = denSs (den n ⟨e.fd.N, e.df.scope, fun _ => true, T, e.cel, e.frz, Γ, true⟩).S e.df.body
  bi : ∀ (kV doc pm : Value) (an : Option Addr) (cdv ct : Value) (us : List Value), us.length = e.fd.ps.length → bindArgs (FnP0 e.df kV doc pm an cdv ct) ⟨us, []⟩ = pure (e.fd.ps.zip us)
  nod : e.df.dfl = [] ∧ e.df.kwd = []
def KwOk (e : Ent) : Prop := ∀ (kV doc pm : Value) (an : Option Addr) (cdv ct : Value) (us : List Value), us.length = e.fd.ps.length → bindArgs (FnP0 e.df kV doc pm an cdv ct) ⟨[], e.fd.ps.zip us⟩ = pure (e.fd.ps.zip us)

/-! ### facts by Bool -/
/-- the value u is v, all of it in the written part -/
def rvB (K : PySem.W.Frag) : Nat → Val → Value → Bool
  | 0, _, _ => false
  | n + 1, v, u => match v, u with
    | .non, .none => true
    | .bl b, .bool c => b == c
    | .int i, .int j _ => decide (i = j)
    | .str x, .str y _ => decide (x = y)
    | .tup xs, .ref a => (match K.lookup a with
      | some ⟨.type c, _, .seq its _, _⟩ => decide (c = "tuple") && (decide (its.size ≤ sizeLine) && rvsB (rvB K n) xs its.toList)
      | _ => false)
    | _, _ => false
where rvsB (f : Val → Value → Bool) : List Val → List Value → Bool
  | [], [] => true
  | x :: xs, u :: us => f x u && rvsB f xs us
  | _, _ => false
theorem rvB_ok {K : PySem.W.Frag} : ∀ (n : Nat) (v : Val) (u : Value), rvB K n v u = true → ∃ y, RelV y u ∧ ∀ B H S, RV K B H S v y
  | 0, _, _, h => by cases h
  | n + 1, v, u, h => by
    have ih := rvB_ok (K := K) n
    have all : ∀ (xs : List Val) (us : List Value), rvB.rvsB (rvB K n) xs us = true → ∃ ys, Vals ys us ∧ ∀ B H S, RVs K B H S xs ys := by
      intro xs
      induction xs with
      | nil =>
        intro us h
        cases us with
        | nil => exact ⟨[], .nil, fun _ _ _ => .nil⟩
        | cons u us => cases h
      | cons x xs ihx =>
        intro us h
        cases us with
        | nil => cases h
        | cons u us =>
          obtain ⟨h1, h2⟩ := He.ba (show (rvB K n x u && rvB.rvsB (rvB K n) xs us) = true from h)
          obtain ⟨y, r1, r2⟩ := ih x u h1
          obtain ⟨ys, r3, r4⟩ := ihx us h2
          exact ⟨y :: ys, .cons r1 r3, fun B H S => .cons (r2 B H S) (r4 B H S)⟩
    unfold rvB at h
    split at h
    · exact ⟨.non, rfl, fun _ _ _ => .non⟩
    · rename_i b c
      have e : b = c := eq_of_beq h
      subst e
      exact ⟨.bl b, rfl, fun _ _ _ => .bl b⟩
    · rename_i i j t
      have e := of_decide_eq_true h
      subst e
      exact ⟨.int i, ⟨t, rfl⟩, fun _ _ _ => .int i⟩
    · rename_i x y t
      have e := of_decide_eq_true h
      subst e
      exact ⟨.str x, ⟨t, rfl⟩, fun _ _ _ => .str x⟩
    · rename_i xs a
      split at h
      · rename_i c dd its m sl lk
        obtain ⟨h1, h2⟩ := He.ba h
        obtain ⟨h3, h4⟩ := He.ba h2
        obtain ⟨ys, r1, r2⟩ := all xs its.toList h4
        refine ⟨.ref a, rfl, fun B H S => .tup (.inr fun H' => .inr ⟨_, its, m, lk, congrArg Value.type (of_decide_eq_true h1), rfl, of_decide_eq_true h3, r1⟩) (r2 B H S)⟩
      · cases h
    · cases h
def conB (K : PySem.W.Frag) (x : Str) (v : Val) : Bool := match PySem.W.nsIn K mainGlobals x with
  | some (some u) => rvB K 20 v u
  | _ => false
theorem conB_ok {K : PySem.W.Frag} {h : Heap} {mg : Str → Option Value} (X : K.In h) (G : h.Ns mainGlobals mg) {x : Str} {v : Val} (c : conB K x v = true) : ∃ y u, mg x = some u ∧ RelV y u ∧ ∀ B H S, RV K B H S v y := by
  unfold conB at c
  split at c
  · rename_i u e
    obtain ⟨y, r1, r2⟩ := rvB_ok 20 v u c
    exact ⟨y, u, PySem.W.mg_of X G e, r1, r2⟩
  · cases c
def kitB1 (K : PySem.W.Frag) (q : TyTag × TyTag × Bool) : Bool := decide (PySem.W.kitOne K (tagV K q.1) (tagV K q.2.1) = some q.2.2)
def ownB (K : PySem.W.Frag) (c : Str) : Bool := decide (PySem.W.findIn K (.ref (He.ga K c)) "__class__" = some (some (.builtin "object.__class__"))) && (decide (PySem.W.specialIn K (.builtin "object.__class__") "__get__" = some (some (.builtin "getset_descriptor.__get__"))) &&
  (decide (PySem.W.takesIn K (.builtin "object.__class__") = some true) && decide (PySem.W.mroIn K (He.ga K c) (.type "object") = some true)))
/-- a table of defs: where it stands; its values -/
def tabA (x : Str) (K : PySem.W.Frag) : Addr := match PySem.W.nsIn K mainGlobals x with
  | some (some (.ref a)) => a
  | _ => 0
def tabW (K : PySem.W.Frag) (q : Str × List (Str × Str)) : Bool := decide (PySem.W.nsIn K mainGlobals q.1 = some (some (.ref (tabA q.1 K)))) && q.2.all fun kv => decide (PySem.W.nsIn K (tabA q.1 K) kv.1 = some (some (.ref (He.ga K kv.2))))
def tsOf (T : Tab) : List He.Tab := T.tabs.map fun q => (tabA q.1, q.2.map (·.1))
/-- an own exception class over Exception, by way of others of the text -/
def xcB (K : PySem.W.Frag) (C : Addr) : Bool := match K.lookup C with
  | some ⟨.type t, _, .cls cd, sl⟩ => (match cd.mro, sl.toList with
    | .ref C' :: bm, [_, _, _, _, some (.builtin n), _] => decide (t = "type") && (decide (C' = C) && (decide (n = "Exception.__new__") && (!cd.hasDel && (cd.hasDict && PySem.W.excTail TLX.exT bm))))
    | _, _ => false)
  | _ => false
theorem xcB_ok {K : PySem.W.Frag} {C : Addr} (h : xcB K C = true) : ∃ nm q N bs bm sn sub ab col dd k0 k1 k2 k3 k5, K.lookup C = some (excClassObj nm q C N bs bm true sn sub ab col dd k0 k1 k2 k3 k5 "Exception.__new__") ∧ PySem.W.excTail TLX.exT bm = true := by
  unfold xcB at h
  split at h
  · rename_i t dd cd sl lk
    split at h
    · rename_i C' bm k0 k1 k2 k3 n k5 hm hs
      obtain ⟨h1, h⟩ := He.ba h
      obtain ⟨h2, h⟩ := He.ba h
      obtain ⟨h3, h⟩ := He.ba h
      obtain ⟨h4, h⟩ := He.ba h
      obtain ⟨h5, h6⟩ := He.ba h
      have h1 := of_decide_eq_true h1
      have h2 := of_decide_eq_true h2
      have h3 := of_decide_eq_true h3
      have g4 : cd.hasDel = false := by simpa using h4
      clear h4 h
      subst h1 h2 h3
      obtain ⟨nm, bs, mro, ns, qn, hd, sn, sub, ab, col, del⟩ := cd
      dsimp only at hm g4 h5
      subst hm g4 h5
      obtain ⟨l⟩ := sl
      dsimp only at hs
      subst hs
      exact ⟨nm, qn, ns, bs, bm, sn, sub, ab, col, dd, k0, k1, k2, k3, k5, lk, h6⟩
    · cases h
  · cases h
def excW (K : PySem.W.Frag) (hcl : List Str) (q : Str × List Str × List Str) : Bool := xcB K (He.ga K q.1) && (xfB K (He.ga K q.1) && (decide (PySem.W.findIn K (.ref (He.ga K q.1)) "__setattr__" = some (some (.builtin "object.__setattr__"))) && (decide (PySem.W.typeIn K (.ref (He.ga K q.1)) = some (.type "type")) && (PySem.W.keepIn K (.ref (He.ga K q.1)) &&
  ((q.2.1.all fun f => decide (PySem.W.findIn K (.ref (He.ga K q.1)) f = some none)) && (decide (PySem.W.nsIn K mainGlobals q.1 = some (some (.ref (He.ga K q.1)))) && (decide (PySem.W.findIn K (.ref (He.ga K q.1)) "__init__" = some (some (.ref (He.ma K (He.ga K q.1) "__init__")))) &&
  (decide (PySem.W.typeIn K (.ref (He.ma K (He.ga K q.1) "__init__")) = some (.type "function")) && hcl.all fun h => decide (PySem.W.exmOne K (.ref (He.ga K q.1)) (.ref (He.ga K h)) = some (q.2.2.contains h))))))))))
def exB (T : Tab) (K : PySem.W.Frag) : Bool := (T.exc.all (excW K T.hcl)) && (T.tabs.all (tabW K)) && ((T.con.all fun q => conB K q.1 q.2) && ((T.kit.all fun q => kitB1 K q) && (T.own.all fun c => ownB K c)))
def faOf (T : Tab) : List He.Fa := T.dfs.map .glo ++ (T.cls.map .mkr ++ (T.cls.map .glo ++ (T.cob.map .glo ++ (T.free.map .free ++ (T.own.map .cls ++ (T.flds.map (fun q => .cls q.1) ++ T.flds.map (fun q => .noat q.1 q.2)))))))

/-! ### the Hook -/
def obsY (fa : List He.Fa) (fn : List He.DefD) (ts : List He.Tab) (ex : PySem.W.Frag → Bool) (K : PySem.W.Frag) : He.AlT := (((fa.all fun f => f.ok K) && ((fn.all fun d => d.ok K) && ex K), fn.map fun d => He.fnW K d.at_), ts.map fun t => He.dicW K (t.1 K))
structure SaysY (fa : List He.Fa) (fn : List He.DefD) (ts : List He.Tab) (ex : PySem.W.Frag → Bool) (w : World) (K : PySem.W.Frag) : Prop where
  d : He.SaysD fa fn K
  ex : ex K = true
  tab : ∀ t ∈ ts, He.dicW K (t.1 K) = some (He.keysIn w.params t.2)
theorem map_eq_mem {α β : Type} {f g : α → β} : ∀ {l : List α}, l.map f = l.map g → ∀ x ∈ l, f x = g x
  | [], _, x, hx => by cases hx
  | y :: l, h, x, hx => by
    rw [List.map_cons, List.map_cons] at h
    injection h with h1 h2
    rcases List.mem_cons.mp hx with rfl | hx
    · exact h1
    · exact map_eq_mem h2 x hx
theorem saysY_of {fa : List He.Fa} {fn : List He.DefD} {ts : List He.Tab} {ex : PySem.W.Frag → Bool} {w : World} {K : PySem.W.Frag} (h : obsY fa fn ts ex K = He.valT fn ts w) : SaysY fa fn ts ex w K := by
  have h1 : ((fa.all fun f => f.ok K) && ((fn.all fun d => d.ok K) && ex K)) = true := congrArg (fun z : He.AlT => z.1.1) h
  have h2 : (fn.map fun d => He.fnW K d.at_) = fn.map He.DefD.val := congrArg (fun z : He.AlT => z.1.2) h
  have h3 : (ts.map fun t => He.dicW K (t.1 K)) = ts.map fun t => some (He.keysIn w.params t.2) := congrArg (fun z : He.AlT => z.2) h
  obtain ⟨a, b⟩ := He.ba h1
  obtain ⟨b, c⟩ := He.ba b
  refine ⟨?_, c, map_eq_mem h3⟩
  show He.obsD fa fn K = He.valD fn
  unfold He.obsD He.valD
  rw [a, b, h2]
  rfl
def obsYG (n : Nat) (fa : List He.Fa) (fn : List He.DefD) (ts : List He.Tab) (ex : PySem.W.Frag → Bool) (g : Addr → Option Obj) : He.AlT := obsY fa fn ts ex (He.frG g (He.asD g n))
def hookY (n : Nat) (fa : List He.Fa) (fn : List He.DefD) (ts : List He.Tab) (ex : PySem.W.Frag → Bool) : PySem.W.Hook where
  α := He.AlT
  obs := fun s => obsYG n fa fn ts ex s.heap.get?
  val := fun w => He.valT fn ts w
  says := fun w h => ∃ K : PySem.W.Frag, K.In h ∧ SaysY fa fn ts ex w K
  of := fun _ _ e => ⟨_, He.frG_in, saysY_of e⟩
  keeps := fun _ _ _ ⟨K, hK, c⟩ k => ⟨K, PySem.W.Frag.In.keeps hK k, c⟩
theorem obsYG_eq {n : Nat} {fa : List He.Fa} {fn : List He.DefD} {ts : List He.Tab} {ex : PySem.W.Frag → Bool} {g : Addr → Option Obj} {s : Shared} (h : ∀ a, g a = s.heap.get? a) : obsYG n fa fn ts ex g = (hookY n fa fn ts ex).obs s := by
  have e : g = s.heap.get? := funext h
  rw [e] <;> rfl
theorem facts_mem {fa : List He.Fa} {fn : List He.DefD} {K : PySem.W.Frag} (c : He.SaysD fa fn K) {f : He.Fa} (h : f ∈ fa) : f.ok K = true := by
  obtain ⟨i, hi, e⟩ := List.mem_iff_getElem.mp h
  exact c.fact i (f := f) (by rw [List.getElem?_eq_getElem hi, e])
theorem defs_mem {fa : List He.Fa} {fn : List He.DefD} {K : PySem.W.Frag} (c : He.SaysD fa fn K) {d : He.DefD} (h : d ∈ fn) : ∃ fd, FunD K d.name d.qual d.params d.body d.scope (d.dvs K) (d.kws K) (He.fAd K d.at_) fd := by
  obtain ⟨i, hi, e⟩ := List.mem_iff_getElem.mp h
  exact c.def_ i (d := d) (by rw [List.getElem?_eq_getElem hi, e])

/-! ### from the hook to the facts -/
def entOf (es : List Ent) (f : Str) : Option Ent := es.find? fun e => decide (e.nm = f)
def ptab (es : List Ent) : FTab := es.map fun e => (e.nm, e.fd)
def adrOf (es : List Ent) (K : PySem.W.Frag) (f : Str) : Addr := match entOf es f with
  | some e => He.fAd K e.df.at_
  | none => 0
def fdOf (es : List Ent) (K : PySem.W.Frag) (f : Str) : FuncData := match K.lookup (adrOf es K f) with
  | some ⟨_, _, .func fd, _⟩ => fd
  | _ => PySem.W.fnOf f f ⟨[], [], none, [], [], none, []⟩ [] ⟨.function, [], false, false, []⟩ .none .none .none .none none .none .none
/-- the table fits the defs -/
def tabB (es : List Ent) (T : Tab) : Bool :=
  (T.dfs.all fun f => match entOf es f with
    | some e => decide (e.df.at_ = (f, none))
    | none => false) &&
  ((T.cls.all fun c => match entOf es (c ++ ".__init__") with
    | some e => decide (e.df.at_ = (c, some ("__init__" : Str)))
    | none => false) &&
  ((T.kwf.all fun q => T.dfs.contains q.1 && (match entOf es q.1 with
    | some e => decide (e.fd.ps = q.2)
    | none => false)) &&
  (T.exc.all fun q => match entOf es (q.1 ++ ".__init__") with
    | some e => decide (e.df.at_ = (q.1, some ("__init__" : Str))) && (decide (TLX.stores e.fd.ps e.df.body = some (slotsF q.2.1)) && (decide (e.fd.N = e.fd.ps) && (decide (e.fd.ps.length = 1 + q.2.1.length) && ((e.fd.ps.all fun x => !(x == ("__debug__" : Str)) && !(x == ("__classdict__" : Str))) && (!q.2.1.isEmpty && decide (q.2.1.length ≤ 800))))))
    | none => false)))
/-- a def that is called by keywords in another order -/
def KwP (es : List Ent) (T : Tab) (q : Str × List Str × List Nat) : Prop := T.dfs.contains q.1 = true ∧ ∃ e, entOf es q.1 = some e ∧ ∀ (kV doc pm : Value) (an : Option Addr) (cdv ct : Value) (us : List Value), us.length = q.2.1.length →
  ∃ ys, pickI q.2.2 us = some ys ∧ bindArgs (FnP0 e.df kV doc pm an cdv ct) ⟨[], q.2.1.zip us⟩ = pure (e.fd.ps.zip ys)
theorem lookup_mem {α : Type} {x : Str} {v : α} : ∀ {l : List (Str × α)}, l.lookup x = some v → (x, v) ∈ l
  | [], h => by cases h
  | (a, b) :: r, hx => by
    have h2 : (match x == a with | true => some b | false => r.lookup x) = some v := hx
    cases q : x == a with
    | true =>
      rw [q] at h2
      cases h2
      rw [beq_iff_eq.mp q]
      exact List.mem_cons_self
    | false =>
      rw [q] at h2
      exact List.mem_cons_of_mem _ (lookup_mem h2)
theorem ptab_lookup {es : List Ent} {f : Str} {D : FD} (h : (ptab es).lookup f = some D) : ∃ e, entOf es f = some e ∧ e.fd = D ∧ e ∈ es := by
  induction es with
  | nil => cases h
  | cons a r ih =>
    have h2 : (match f == a.nm with | true => some a.fd | false => (ptab r).lookup f) = some D := h
    by_cases e : a.nm = f
    · rw [show (f == a.nm) = true from by rw [e]; exact beq_self_eq_true _] at h2
      have h2 : some a.fd = some D := h2
      exact ⟨a, by unfold entOf; rw [List.find?_cons, decide_eq_true e], Option.some.inj h2, List.mem_cons_self⟩
    · rw [show (f == a.nm) = false from beq_eq_false_iff_ne.mpr fun z => e z.symm] at h2
      obtain ⟨b, h3, h4, h5⟩ := ih h2
      exact ⟨b, by unfold entOf; rw [List.find?_cons, decide_eq_false e]; exact h3, h4, List.mem_cons_of_mem _ h5⟩
theorem entOf_ptab {es : List Ent} {f : Str} {e : Ent} (h : entOf es f = some e) : (ptab es).lookup f = some e.fd ∧ e ∈ es ∧ e.nm = f := by
  induction es with
  | nil => cases h
  | cons a r ih =>
    unfold entOf at h
    rw [List.find?_cons] at h
    by_cases q : a.nm = f
    · rw [decide_eq_true q] at h
      cases h
      refine ⟨?_, List.mem_cons_self, q⟩
      show (match f == e.nm with | true => some e.fd | false => (ptab r).lookup f) = some e.fd
      rw [show (f == e.nm) = true from by rw [q]; exact beq_self_eq_true _]
    · rw [decide_eq_false q] at h
      obtain ⟨h1, h2, h3⟩ := ih h
      refine ⟨?_, List.mem_cons_of_mem _ h2, h3⟩
      show (match f == a.nm with | true => some a.fd | false => (ptab r).lookup f) = some e.fd
      rw [show (f == a.nm) = false from beq_eq_false_iff_ne.mpr fun z => q z.symm]
      exact h1
section
variable {K : PySem.W.Frag} {h : Heap} {mg : Str → Option Value} {es : List Ent} {T : Tab}
theorem facts_of {n : Nat} {w : World} (X : K.In h) (G : h.Ns mainGlobals mg) (c : SaysY (faOf T) (es.map (·.df)) (tsOf T) (exB T) w K) (ok : ∀ e ∈ es, EntOk T n e) (tb : tabB es T = true) (kw : ∀ e ∈ es, (T.kwf.lookup e.nm).isSome = true → KwOk e) (kw2 : ∀ q ∈ T.kwp, KwP es T q) :
    Facts K mg (ptab es) T (adrOf es K) (fdOf es K) w := by
  obtain ⟨t1, t2⟩ := He.ba tb
  obtain ⟨t2, t3⟩ := He.ba t2
  obtain ⟨t3, t4⟩ := He.ba t3
  obtain ⟨x0, x1⟩ := He.ba c.ex
  obtain ⟨xe, x0⟩ := He.ba x0
  obtain ⟨x1, x2⟩ := He.ba x1
  obtain ⟨x2, x3⟩ := He.ba x2
  have fct : ∀ {f : He.Fa}, f ∈ faOf T → f.ok K = true := fun hf => facts_mem c.d hf
  have mem : ∀ {f : He.Fa}, (f ∈ T.dfs.map He.Fa.glo ∨ f ∈ T.cls.map He.Fa.mkr ∨ f ∈ T.cls.map He.Fa.glo ∨ f ∈ T.cob.map He.Fa.glo ∨ f ∈ T.free.map He.Fa.free ∨ f ∈ T.own.map He.Fa.cls ∨ f ∈ T.flds.map (fun q => He.Fa.cls q.1) ∨ f ∈ T.flds.map (fun q => He.Fa.noat q.1 q.2)) → f ∈ faOf T := fun z => by
    unfold faOf
    simp only [List.mem_append]
    exact z
  -- a def's object
  have obj : ∀ (f : Str) (e : Ent), entOf es f = some e → FunD K e.df.name e.df.qual e.df.params e.df.body e.df.scope [] [] (adrOf es K f) (fdOf es K f) := fun f e he => by
    obtain ⟨h1, h2, h3⟩ := entOf_ptab he
    obtain ⟨fd, F⟩ := defs_mem c.d (d := e.df) (List.mem_map.mpr ⟨e, h2, rfl⟩)
    obtain ⟨n1, n2⟩ := (ok e h2).nod
    have e1 : e.df.dvs K = [] := by unfold He.DefD.dvs; rw [n1]; rfl
    have e2 : e.df.kws K = [] := by unfold He.DefD.kws; rw [n2]; rfl
    rw [e1, e2] at F
    have ea : adrOf es K f = He.fAd K e.df.at_ := by unfold adrOf; rw [he]
    have ef : fdOf es K f = fd := by
      obtain ⟨oc, od, dV, kV, doc, pm, an, cdv, ct, osl, q1, q2, _⟩ := F.ex
      unfold fdOf
      rw [ea, q2]
    rw [ea, ef]
    exact F
  have bnd : ∀ (f : Str) (e : Ent), entOf es f = some e → Binds K (fdOf es K f) e.fd.ps [] := fun f e he => (obj f e he).bindsN fun kV doc pm an cdv ct us hl => (ok e (entOf_ptab he).2.1).bi kV doc pm an cdv ct us hl
  refine ⟨fun f D hf => ?_, fun f hf => ?_, fun x hx => ?_, fun x v hx => ?_, fun a f hf => ?_, fun x hx => ?_, fun f ps hf => ?_, fun f qs ix hf => ?_, fun x hx => ?_, ⟨fun t u b hq => ?_, fun x hx => ?_⟩, fun x kvs hx => ?_, fun x fs an hx => ?_⟩
  · obtain ⟨e, h1, h2, h3⟩ := ptab_lookup hf
    subst h2
    exact ⟨_, _, _, _, _, n, e.cel, e.frz, obj f e h1, (ok e h3).sc, (ok e h3).em⟩
  · have q := List.all_eq_true.mp t1 f hf
    split at q
    · rename_i e he
      have ea : adrOf es K f = He.ga K f := by
        unfold adrOf
        rw [he]
        dsimp only
        rw [of_decide_eq_true q]
        rfl
      refine ⟨e.fd, (entOf_ptab he).1, ea, He.glo_ok X G (fct (mem (.inl (List.mem_map.mpr ⟨f, hf, rfl⟩)))), bnd f e he⟩
    · cases q
  · have q := List.all_eq_true.mp t2 x hx
    split at q
    · rename_i e he
      have ea : adrOf es K (x ++ ".__init__") = He.ma K (He.ga K x) "__init__" := by
        unfold adrOf
        rw [he]
        dsimp only
        rw [of_decide_eq_true q]
        rfl
      refine ⟨e.fd, (entOf_ptab he).1, by rw [ea]; exact He.mkr_ok (fct (mem (.inr (.inl (List.mem_map.mpr ⟨x, hx, rfl⟩))))), He.glo_ok X G (fct (mem (.inr (.inr (.inl (List.mem_map.mpr ⟨x, hx, rfl⟩)))))), bnd _ e he⟩
    · cases q
  · have hm : (x, v) ∈ T.con := lookup_mem hx
    exact conB_ok X G (List.all_eq_true.mp x1 _ hm)
  · have hm : (a, f) ∈ T.flds := by
      have : T.flds.contains (a, f) = true := hf
      simpa using this
    exact ⟨He.cls_ok (fct (mem (.inr (.inr (.inr (.inr (.inr (.inr (.inl (List.mem_map.mpr ⟨_, hm, rfl⟩)))))))))), He.noat_ok (fct (mem (.inr (.inr (.inr (.inr (.inr (.inr (.inr (List.mem_map.mpr ⟨_, hm, rfl⟩))))))))))⟩
  · exact He.free_ok X G (fct (mem (.inr (.inr (.inr (.inr (.inl (List.mem_map.mpr ⟨x, hx, rfl⟩))))))))
  · have hm : (f, ps) ∈ T.kwf := lookup_mem hf
    have q := List.all_eq_true.mp t3 _ hm
    obtain ⟨q1, q2⟩ := He.ba q
    split at q2
    · rename_i e he
      have e2 : e.fd.ps = ps := of_decide_eq_true q2
      obtain ⟨p1, p2, p3⟩ := entOf_ptab he
      refine ⟨by simpa using q1, fun D hD => ?_, fun s ws X' hl => ?_⟩
      · have p1 : (ptab es).lookup f = some e.fd := p1
        rw [p1] at hD
        cases hD
        exact e2
      · have F := obj f e he
        obtain ⟨oc, od, dV, kV, doc, pm, an, cdv, ct, osl, q3, q4, q5, hD, hK⟩ := F.ex
        rw [q3]
        rcases hD with ⟨_, rfl⟩ | ⟨z, _⟩
        · have k := kw e p2 (by rw [p3]; show (T.kwf.lookup f).isSome = true; rw [hf]; rfl) kV doc pm an cdv ct ws (by rw [e2]; exact hl)
          rw [e2] at k
          exact .of_eq k
        · exact absurd rfl z
    · cases q2
  · have hm : (f, qs, ix) ∈ T.kwp := lookup_mem hf
    obtain ⟨q1, e, he, hb⟩ := kw2 _ hm
    refine ⟨by simpa using q1, fun D hD s ws X' hl => ?_⟩
    obtain ⟨p1, p2, p3⟩ := entOf_ptab he
    have p1 : (ptab es).lookup f = some e.fd := p1
    rw [p1] at hD
    cases hD
    have F := obj f e he
    obtain ⟨oc, od, dV, kV, doc, pm, an, cdv, ct, osl, q3, q4, q5, hD, hK⟩ := F.ex
    rw [q3]
    rcases hD with ⟨_, rfl⟩ | ⟨z, _⟩
    · obtain ⟨ys, h1, h2⟩ := hb kV doc pm an cdv ct ws hl
      exact ⟨ys, h1, .of_eq h2⟩
    · exact absurd rfl z
  · exact He.glo_ok X G (fct (mem (.inr (.inr (.inr (.inl (List.mem_map.mpr ⟨x, hx, rfl⟩)))))))
  · exact of_decide_eq_true (List.all_eq_true.mp x2 _ hq)
  · have q := List.all_eq_true.mp x3 _ hx
    obtain ⟨o1, q⟩ := He.ba q
    obtain ⟨o2, q⟩ := He.ba q
    obtain ⟨o3, o4⟩ := He.ba q
    exact ⟨He.cls_ok (fct (mem (.inr (.inr (.inr (.inr (.inr (.inl (List.mem_map.mpr ⟨x, hx, rfl⟩))))))))), of_decide_eq_true o1, of_decide_eq_true o2, of_decide_eq_true o3, of_decide_eq_true o4⟩
  · have hm : (x, kvs) ∈ T.tabs := lookup_mem hx
    obtain ⟨q1, q2⟩ := He.ba (List.all_eq_true.mp x0 _ hm)
    obtain ⟨es0, n0, kd1, kd2, kd3⟩ := He.dicW_ok (c.tab (tabA x, kvs.map (·.1)) (List.mem_map.mpr ⟨_, hm, rfl⟩))
    refine ⟨tabA x K, PySem.W.mg_of X G (of_decide_eq_true q1), fun z f hz => ?_⟩
    have hv := of_decide_eq_true (List.all_eq_true.mp q2 _ (lookup_mem hz))
    exact ⟨es0, n0, _, kd1, kd2, hv, rfl⟩
  · have hm : (x, fs, an) ∈ T.exc := lookup_mem hx
    have q := List.all_eq_true.mp t4 _ hm
    have p := List.all_eq_true.mp xe _ hm
    unfold excW at p
    obtain ⟨p1, p⟩ := He.ba p
    obtain ⟨p2, p⟩ := He.ba p
    obtain ⟨p3, p⟩ := He.ba p
    obtain ⟨p4, p⟩ := He.ba p
    obtain ⟨p5, p⟩ := He.ba p
    obtain ⟨p6, p⟩ := He.ba p
    obtain ⟨p7, p⟩ := He.ba p
    obtain ⟨p8, p⟩ := He.ba p
    obtain ⟨p9, p10⟩ := He.ba p
    split at q
    · rename_i e he
      obtain ⟨q1, q⟩ := He.ba q
      obtain ⟨q2, q⟩ := He.ba q
      obtain ⟨q3, q⟩ := He.ba q
      obtain ⟨q4, q⟩ := He.ba q
      obtain ⟨q5, q⟩ := He.ba q
      obtain ⟨q6, q7⟩ := He.ba q
      have ea : adrOf es K (x ++ ".__init__") = He.ma K (He.ga K x) "__init__" := by
        unfold adrOf
        rw [he]
        dsimp only
        rw [of_decide_eq_true q1]
        rfl
      have xf := xfB_ok p2
      have sc := (ok e (entOf_ptab he).2.1).sc
      rw [of_decide_eq_true q3] at sc
      refine ⟨⟨xcB_ok p1, of_decide_eq_true p3, xf.exC, of_decide_eq_true p4, p5⟩, xf, fun f hf => of_decide_eq_true (List.all_eq_true.mp p6 f hf), PySem.W.mg_of X G (of_decide_eq_true p7), ⟨fun z => ?_, of_decide_eq_true q7⟩, ?_, fun h hh => of_decide_eq_true (List.all_eq_true.mp p10 h hh)⟩
      · subst z
        cases q6
      · refine ⟨_, _, _, _, _, _, _, e.fd.ps, obj _ e he, sc, of_decide_eq_true q2, fun y hy => ?_, of_decide_eq_true q4, by rw [ea]; exact of_decide_eq_true p8, by rw [ea]; exact of_decide_eq_true p9, bnd _ e he⟩
        obtain ⟨y1, y2⟩ := He.ba (List.all_eq_true.mp q5 y hy)
        exact ⟨by simpa using y1, by simpa using y2⟩
    · cases q
end
end TL

/-! TL13: the end of a law. -/
namespace TL
open PySem PySem.Spec L2
open PyProof.Rows hiding St
/-- the law's end, what defs may let out being told of each world -/
theorem walk_end {l : PySem.W.OpenLaw} {d : DefRec} {q : Program} {loose : List Str} {x : Str} {k : Nat} {XP : (Str → Option Value) → Heap → Prop} {YP : World → Heap → Prop} {CX : World → CXT}
    (hn : l.most = some 63) (hdf : d.params.defaults = []) (hr : Room k callerA)
    (F : ∀ (w : World) (mg : Str → Option Value) (fa : Addr) (h : Heap), YP w h → h.Ns mainGlobals mg → mg d.name = some (.ref fa) →
      ∃ (K : PySem.W.Frag) (fd : FuncData) (sp : Sp), K.In h ∧ (∀ (s : Shared) (u : Value), BindsTo s fd ⟨[u], []⟩ [(x, u)]) ∧
        (∀ (H : Hp) (a : Addr) (ns : List Int), ns.length ≤ 63 → SqL K H a (ns.map V.int) → sp [.ref a] H (fun v _ => v = .bl true) fun _ _ _ => False) ∧
        (∀ base : Heap, K.In base → base.Ns mainGlobals mg → FnOk l.prog w K mg base (CX w) k fa fd [x] sp))
    (no : ∀ (w : World) (H : Hp) (s : Shared) (e : Value) (s' : Shared), CX w [] H s (fun _ _ _ => False) e s' → False) :
    PySem.W.WalkO q loose XP YP l.row.toRowW d [] (fun f vs => PySem.call f vs) := by
  refine Att.attach_call hn hdf fun w s0 s1 mg mb fa o pm cd doc a vs ns G Y ho hd hcd hmg hobj hints hlen hg => ?_
  obtain ⟨K, fd, sp, KX, hb, hsp, hF⟩ := F w mg fa _ Y G.T.g hmg
  exact law_call KX G.T.g G.T.b G.T.builtins G.T.nolimit hg hobj hints (Nat.le_trans hlen (by decide)) hr hF hb (fun H hO hS => hsp H a ns hlen hS) fun H e s' => no w H s1 e s'
theorem noCX {p : Program} {w : World} (H : Hp) (s : Shared) (e : Value) (s' : Shared) (h : L2.CX p w [] H s (fun _ _ _ => False) e s') : False := by
  obtain ⟨_, _, _, _, _, _, _, _, _, _, _, _, z⟩ := h
  exact z
/-- the facts give the law -/
theorem facts_law {p : Program} {w : World} {K : PySem.W.Frag} {h : Heap} {mg : Str → Option Value} {f : Addr} {es : List Ent} {T : Tab} {n d : Nat} (X : K.In h) (G : h.Ns mainGlobals mg) (hfa : mg ("law" : Str) = some (.ref f)) (c : SaysY (faOf T) (es.map (·.df)) (tsOf T) (exB T) w K)
    (ok : ∀ e ∈ es, EntOk T n e) (tb : tabB es T = true) (kw : ∀ e ∈ es, (T.kwf.lookup e.nm).isSome = true → KwOk e) (kw2 : ∀ q ∈ T.kwp, KwP es T q) {D : FD} (hD : (ptab es).lookup ("law" : Str) = some D) (hps : D.ps = [("script" : Str)]) (hl : T.dfs.contains ("law" : Str) = true) (law : lawP (ptab es) d "law") :
    ∃ (fd : FuncData) (sp : Sp), (∀ (s : Shared) (u : Value), BindsTo s fd ⟨[u], []⟩ [(("script" : Str), u)]) ∧
      (∀ (H : Hp) (a : Addr) (ns : List Int), ns.length ≤ 63 → SqL K H a (ns.map V.int) → sp [.ref a] H (fun v _ => v = .bl true) fun _ _ _ => False) ∧
      (∀ base : Heap, K.In base → base.Ns mainGlobals mg → FnOk p w K mg base (L2.CX p w) (2 * d + 2) f fd [("script" : Str)] sp) := by
  have F := facts_of X G c ok tb kw kw2
  obtain ⟨D', h1, h2, h3, h4⟩ := F.dfs "law" (by simpa using hl)
  rw [hD] at h1
  cases h1
  rw [hfa] at h3
  have e : f = He.ga K "law" := by
    have := Option.some.inj h3
    injection this
  obtain ⟨ent, he, hf, hm⟩ := ptab_lookup hD
  have hb : ∀ (s : Shared) (u : Value), BindsTo s (fdOf es K "law") ⟨[u], []⟩ [(("script" : Str), u)] := fun s u => by
    obtain ⟨name, qual, params, body, scope, n', cel, frz, FDD, _, _⟩ := (F.def_ "law" D hD).ex
    -- the binding, of the same object
    have ob := F.def_ "law" D hD
    have hob : FunD K ent.df.name ent.df.qual ent.df.params ent.df.body ent.df.scope [] [] (adrOf es K "law") (fdOf es K "law") := by
      obtain ⟨fd, F0⟩ := defs_mem c.d (d := ent.df) (List.mem_map.mpr ⟨ent, hm, rfl⟩)
      obtain ⟨n1, n2⟩ := (ok ent hm).nod
      have e1 : ent.df.dvs K = [] := by unfold He.DefD.dvs; rw [n1]; rfl
      have e2 : ent.df.kws K = [] := by unfold He.DefD.kws; rw [n2]; rfl
      rw [e1, e2] at F0
      have ea : adrOf es K "law" = He.fAd K ent.df.at_ := by unfold adrOf; rw [he]
      have ef : fdOf es K "law" = fd := by
        obtain ⟨oc, od, dV, kV, doc, pm, an, cdv, ct, osl, q1, q2, _⟩ := F0.ex
        unfold fdOf
        rw [ea, q2]
      rw [ea, ef]
      exact F0
    have z := hob.bindsA (ps := ent.fd.ps) (fun kV doc pm an cdv ct us hl => (ok ent hm).bi kV doc pm an cdv ct us hl) s [u] (by rw [hf, hps]; rfl)
    rw [hf, hps] at z
    exact z
  refine ⟨fdOf es K "law", spG K (callI (ptab es) d) "law", hb, fun H a ns h5 h6 => law_sp law h5 h6, fun base _ _ => ?_⟩
  have z := fnOk_all (prog := p) (w := w) (base := base) F d "law" D hD
  rw [h2, ← e, hps] at z
  exact z
end TL

/-! TLu: working with plain meanings: equality, loops, lists of ints. -/
namespace TL
open PySem PySem.Spec L2
open PyProof.Rows hiding St

/-! ### stores -/
theorem within_eq {S S' : Sto} (h : ∀ c, S c = none → S' c = none) : S'.within S = S' := by
  funext c
  unfold Sto.within
  cases e : S c with
  | none => exact (h c e).symm
  | some x => rfl
theorem put_same {S : Sto} {a : Addr} {c : Cell} : S.put a c a = some c := Sto.put_same
theorem put_ne {S : Sto} {a b : Addr} {c : Cell} (h : b ≠ a) : S.put a c b = S b := Sto.put_ne h
theorem put_put {S : Sto} {a : Addr} {c c' : Cell} : (S.put a c).put a c' = S.put a c' := by
  funext b
  unfold Sto.put
  split <;> rfl

/-! ### loops -/
theorem forGo_ind {g : Option Addr} {all : List Val} {t : Tg} {b : IS} {D : IEnds} (Inv : List Val → ISt → Sto → Prop) (h0 : ∀ ρ S, Inv [] ρ S → guardOk g all S ∧ D.nx ρ S)
    (hs : ∀ x r ρ S (Kn : ISt → Sto → Prop), (∀ ρ S, Inv r ρ S → Kn ρ S) → Inv (x :: r) ρ S → guardOk g all S ∧ someP (tgI t x ρ) fun ρ1 => b { D with nx := Kn, ct := Kn, bk := D.nx } ρ1 S) :
    ∀ xs ρ S, Inv xs ρ S → forGo g all t b D xs ρ S
  | [], ρ, S, h => h0 ρ S h
  | x :: r, ρ, S, h => hs x r ρ S _ (forGo_ind Inv h0 hs r) h
theorem lcGo_ind {g : Option Addr} {all : List Val} {t : Tg} {tt : IT} {te : IE} {ρ : ISt} {Q : List Val → Sto → Prop} (Inv : List Val → List Val → Sto → Prop) (h0 : ∀ acc S, Inv [] acc S → guardOk g all S ∧ Q acc S)
    (hs : ∀ x r acc S (Kn : List Val → Sto → Prop), (∀ acc S, Inv r acc S → Kn acc S) → Inv (x :: r) acc S → guardOk g all S ∧ someP (tgI t x ρ) fun ρ1 => tt ρ1 S (fun k S2 => match k with
      | true => te ρ1 S2 (fun y S3 => acc.length < sizeLine ∧ Kn (acc ++ [y]) S3) noX
      | false => Kn acc S2) noX) :
    ∀ xs acc S, Inv xs acc S → lcGo g all t tt te ρ xs acc S Q
  | [], acc, S, h => h0 acc S h
  | x :: r, acc, S, h => hs x r acc S (fun acc S => lcGo g all t tt te ρ r acc S Q) (lcGo_ind Inv h0 hs r) h
/-- a comprehension whose test and part are pure -/
theorem lcGo_pure {g : Option Addr} {all : List Val} {t : Tg} {tt : IT} {te : IE} {ρ : ISt} {S : Sto} {Q : List Val → Sto → Prop} (p : Val → Bool) (f : Val → Val) (hg : guardOk g all S) : ∀ (xs acc : List Val), acc.length + xs.length ≤ sizeLine →
    (∀ x ∈ xs, ∃ ρ1, tgI t x ρ = some ρ1 ∧ (∀ Q : Bool → Sto → Prop, Q (p x) S → tt ρ1 S Q noX) ∧ (p x = true → ∀ Q : VQ, Q (f x) S → te ρ1 S Q noX)) → Q (acc ++ (xs.filter p).map f) S → lcGo g all t tt te ρ xs acc S Q
  | [], acc, _, _, h => ⟨hg, by simpa using h⟩
  | x :: r, acc, hl, hx, h => by
    obtain ⟨ρ1, e, h1, h2⟩ := hx x List.mem_cons_self
    refine ⟨hg, ?_⟩
    rw [e]
    refine h1 _ ?_
    have hl2 : acc.length + (r.length + 1) ≤ sizeLine := by simpa using hl
    cases hp : p x with
    | true =>
      refine h2 hp _ ⟨by omega, ?_⟩
      refine lcGo_pure p f hg r (acc ++ [f x]) (by simp; omega) (fun y hy => hx y (List.mem_cons_of_mem _ hy)) ?_
      rw [List.filter_cons, hp] at h
      simpa using h
    | false =>
      refine lcGo_pure p f hg r acc (by omega) (fun y hy => hx y (List.mem_cons_of_mem _ hy)) ?_
      rw [List.filter_cons, hp] at h
      simpa using h

/-! ### equality of plain data -/
theorem toDs_ints : ∀ ns : List Int, toDs (ns.map Val.int) = some (ns.map PyData.int)
  | [] => rfl
  | n :: ns => by
    show (match toD (.int n), toDs (ns.map Val.int) with
      | some d, some ds => some (d :: ds)
      | _, _ => none) = _
    rw [toDs_ints ns]
    rfl
theorem lay_ints : ∀ ns : List Int, PyData.canLayAll0 (ns.map PyData.int) = true
  | [] => rfl
  | n :: ns => by
    show (true && PyData.canLayAll0 (ns.map PyData.int)) = true
    rw [lay_ints ns]
    rfl
theorem depth_ints : ∀ ns : List Int, PyData.depthAll (ns.map PyData.int) = 0
  | [] => rfl
  | n :: ns => by
    show max 0 (PyData.depthAll (ns.map PyData.int)) = 0
    rw [depth_ints ns]
    rfl
theorem eqv_ints : ∀ ns ms : List Int, PyData.eqvAll (ns.map PyData.int) (ms.map PyData.int) = decide (ns = ms)
  | [], [] => rfl
  | [], m :: ms => rfl
  | n :: ns, [] => rfl
  | n :: ns, m :: ms => by
    show (n == m && PyData.eqvAll (ns.map PyData.int) (ms.map PyData.int)) = _
    rw [eqv_ints ns ms]
    by_cases h : n = m
    · subst h
      by_cases h2 : ns = ms
      · subst h2; simp
      · simp [h2]
    · simp [h]
theorem shaped_ti (ns : List Int) : SeqAt.shaped (.tuple (ns.map PyData.int)) = true := by
  unfold SeqAt.shaped
  show (PyData.canLayAll0 (ns.map PyData.int) && decide (PyData.depthAll (ns.map PyData.int) + 1 ≤ 64)) = true
  rw [lay_ints, depth_ints]
  rfl
theorem shaped_li (ns : List Int) : SeqAt.shaped (.list (ns.map PyData.int)) = true := by
  unfold SeqAt.shaped
  show (PyData.canLayAll0 (ns.map PyData.int) && decide (PyData.depthAll (ns.map PyData.int) + 1 ≤ 64)) = true
  rw [lay_ints, depth_ints]
  rfl
theorem toD_ti (ns : List Int) : toD (tiV ns) = some (.tuple (ns.map PyData.int)) := by
  show (toDs (ns.map Val.int)).map PyData.tuple = _
  rw [toDs_ints]
  rfl
theorem toD_li (ns : List Int) : toD (.lst (ns.map Val.int)) = some (.list (ns.map PyData.int)) := by
  show (toDs (ns.map Val.int)).map PyData.list = _
  rw [toDs_ints]
  rfl
theorem dat_ti (S : Sto) (ns : List Int) : datOf S (tiV ns) = some (.tuple (ns.map PyData.int)) := by
  show (match toD (tiV ns) with
    | some d => if SeqAt.shaped d then some d else none
    | none => none) = _
  rw [toD_ti]
  dsimp only
  rw [if_pos (shaped_ti ns)]
theorem dat_li (S : Sto) (ns : List Int) : datOf S (.lst (ns.map Val.int)) = some (.list (ns.map PyData.int)) := by
  show (match toD (.lst (ns.map Val.int)) with
    | some d => if SeqAt.shaped d then some d else none
    | none => none) = _
  rw [toD_li]
  dsimp only
  rw [if_pos (shaped_li ns)]
theorem dat_ref {S : Sto} {a : Addr} {ns : List Int} (h : S a = some (.lst (ns.map Val.int))) : datOf S (.ref a) = some (.list (ns.map PyData.int)) := by
  show (match S a with
    | some (.lst xs) => (match toD (.lst xs) with
      | some d => if SeqAt.shaped d then some d else none
      | none => none)
    | _ => none) = _
  rw [h]
  dsimp only
  rw [toD_li]
  dsimp only
  rw [if_pos (shaped_li ns)]
theorem eqOf_ti (S : Sto) (ns ms : List Int) : eqOf S (tiV ns) (tiV ms) = some (decide (ns = ms)) := by
  show (match datOf S (tiV ns), datOf S (tiV ms) with
    | some d, some e => some (PyData.eqv d e)
    | _, _ => none) = _
  rw [dat_ti, dat_ti]
  dsimp only
  rw [show PyData.eqv (.tuple (ns.map PyData.int)) (.tuple (ms.map PyData.int)) = PyData.eqvAll (ns.map PyData.int) (ms.map PyData.int) from by simp only [PyData.eqv], eqv_ints]
theorem eqOf_li (S : Sto) (ns ms : List Int) : eqOf S (.lst (ns.map Val.int)) (.lst (ms.map Val.int)) = some (decide (ns = ms)) := by
  show (match datOf S (.lst (ns.map Val.int)), datOf S (.lst (ms.map Val.int)) with
    | some d, some e => some (PyData.eqv d e)
    | _, _ => none) = _
  rw [dat_li, dat_li]
  dsimp only
  rw [show PyData.eqv (.list (ns.map PyData.int)) (.list (ms.map PyData.int)) = PyData.eqvAll (ns.map PyData.int) (ms.map PyData.int) from by simp only [PyData.eqv], eqv_ints]
theorem eqOf_rl {S : Sto} {a : Addr} {ns : List Int} (h : S a = some (.lst (ns.map Val.int))) (ms : List Int) : eqOf S (.ref a) (.lst (ms.map Val.int)) = some (decide (ns = ms)) := by
  show (match datOf S (.ref a), datOf S (.lst (ms.map Val.int)) with
    | some d, some e => some (PyData.eqv d e)
    | _, _ => none) = _
  rw [dat_ref h, dat_li]
  dsimp only
  rw [show PyData.eqv (.list (ns.map PyData.int)) (.list (ms.map PyData.int)) = PyData.eqvAll (ns.map PyData.int) (ms.map PyData.int) from by simp only [PyData.eqv], eqv_ints]

/-! ### the draw's cells -/
/-- deal at a, its cells at b -/
structure Deal (a b : Addr) (S : Sto) : Prop where
  ne : a ≠ b
  ex : ∃ (cs : List Int) (mix : Int), S a = some (.lst [.ref b, .int mix]) ∧ S b = some (.lst (cs.map Val.int)) ∧ 0 ≤ mix ∧ mix < 2147483647 ∧ cs.length ≤ 63
/-- nothing but the deal has changed -/
structure Fr (a b : Addr) (S S' : Sto) : Prop where
  eq : ∀ c, c ≠ a → c ≠ b → S' c = S c
theorem Fr.refl {a b : Addr} {S : Sto} : Fr a b S S := ⟨fun _ _ _ => rfl⟩
theorem Fr.trans {a b : Addr} {S S1 S2 : Sto} (h : Fr a b S S1) (h2 : Fr a b S1 S2) : Fr a b S S2 := ⟨fun c x y => (h2.eq c x y).trans (h.eq c x y)⟩
theorem Deal.within {a b : Addr} {S S' : Sto} (h : Deal a b S) (f : Fr a b S S') : S'.within S = S' := within_eq fun c hc => by
  obtain ⟨cs, mix, e1, e2, _, _, _⟩ := h.ex
  rw [f.eq c (fun z => by rw [z, e1] at hc; cases hc) (fun z => by rw [z, e2] at hc; cases hc)]
  exact hc

/-! ### one step each -/
theorem at_nat {xs : List Val} {n : Nat} (h : n < xs.length) : atI xs (n : Int) = xs[n]? := by
  unfold atI ixN
  rw [if_pos (by omega), if_pos (by omega)]
  rfl
theorem at0 {v : Val} {xs : List Val} : atI (v :: xs) 0 = some v := at_nat (n := 0) (by simp)
theorem at1 {x v : Val} {xs : List Val} : atI (x :: v :: xs) 1 = some v := at_nat (n := 1) (by simp)
theorem at2 {x0 x1 v : Val} {xs : List Val} : atI (x0 :: x1 :: v :: xs) 2 = some v := at_nat (n := 2) (by simp)
theorem at3 {x0 x1 x2 v : Val} {xs : List Val} : atI (x0 :: x1 :: x2 :: v :: xs) 3 = some v := at_nat (n := 3) (by simp)
theorem at4 {x0 x1 x2 x3 v : Val} {xs : List Val} : atI (x0 :: x1 :: x2 :: x3 :: v :: xs) 4 = some v := at_nat (n := 4) (by simp)
theorem at5 {x0 x1 x2 x3 x4 v : Val} {xs : List Val} : atI (x0 :: x1 :: x2 :: x3 :: x4 :: v :: xs) 5 = some v := at_nat (n := 5) (by simp)
theorem at6 {x0 x1 x2 x3 x4 x5 v : Val} {xs : List Val} : atI (x0 :: x1 :: x2 :: x3 :: x4 :: x5 :: v :: xs) 6 = some v := at_nat (n := 6) (by simp)
theorem at7 {x0 x1 x2 x3 x4 x5 x6 v : Val} {xs : List Val} : atI (x0 :: x1 :: x2 :: x3 :: x4 :: x5 :: x6 :: v :: xs) 7 = some v := at_nat (n := 7) (by simp)
section
variable {S : Sto} {Q : VQ} {a : Addr} {xs ys : List Val} {x y v : Val} {i j : Int} {b : Bool}
theorem ix_ref (h : S a = some (.lst xs)) (h2 : atI xs i = some v) (q : Q v S) : ixP (.ref a) (.int i) S Q := by
  refine ⟨?_⟩
  show (match S a with
    | some (.lst xs) => someP (atI xs i) fun v => Q v S
    | some (.dict kvs) => someP (keyV (.int i)) fun k => someP (dGet kvs k) fun v => Q v S
    | _ => False)
  rw [h]
  show someP (atI xs i) fun v => Q v S
  rw [h2]
  exact q
theorem ix_ref0 (h : S a = some (.lst (v :: xs))) (q : Q v S) : ixP (.ref a) (.int 0) S Q := ix_ref h at0 q
theorem ix_ref1 (h : S a = some (.lst (x :: v :: xs))) (q : Q v S) : ixP (.ref a) (.int 1) S Q := ix_ref h at1 q
theorem ixL_of (h2 : atI xs i = some v) (q : Q v S) : ixP (.lst xs) (.int i) S Q := by
  refine ⟨?_⟩
  show someP (atI xs i) fun v => Q v S
  rw [h2]
  exact q
theorem ixT_of (h2 : atI xs i = some v) (q : Q v S) : ixP (.tup xs) (.int i) S Q := by
  refine ⟨?_⟩
  show someP (atI xs i) fun v => Q v S
  rw [h2]
  exact q
theorem ix_dict_ {kvs : List (Key × Val)} {k : Key} (h : S a = some (.dict kvs)) (hk : keyV y = some k) (h2 : dGet kvs k = some v) (q : Q v S) : ixP (.ref a) y S Q := by
  refine ⟨?_⟩
  unfold ixP0
  simp only [h, hk, someP, h2]
  exact q
theorem eq_of (h : eqOf S x y = some b) (q : Q (.bl b) S) : eqP x y S Q := by
  refine ⟨?_⟩
  unfold eqP0
  rw [h]
  exact .inl q
theorem eqNil_of {xs : List Val} (h : lstOf S x = some xs) (q : Q (.bl xs.isEmpty) S) : eqP x (.lst []) S Q := by
  refine ⟨.inr ?_⟩
  show someP ((lstOf S x).map List.isEmpty) fun b => Q (.bl b) S
  rw [h]
  exact q
theorem neNil_of {xs : List Val} (h : lstOf S x = some xs) (q : Q (.bl (!xs.isEmpty)) S) : neP x (.lst []) S Q := by
  refine ⟨.inr ?_⟩
  show someP ((lstOf S x).map List.isEmpty) fun b => Q (.bl (!b)) S
  rw [h]
  exact q
theorem ne_of (h : eqOf S x y = some b) (q : Q (.bl (!b)) S) : neP x y S Q := by
  refine ⟨?_⟩
  unfold neP0
  rw [h]
  exact .inl q
theorem ne_t (h : eqOf S x y = some false) (q : Q (.bl true) S) : neP x y S Q := ne_of h q
theorem ne_f (h : eqOf S x y = some true) (q : Q (.bl false) S) : neP x y S Q := ne_of h q
theorem eqOf_rlt {ns ms : List Int} (h : S a = some (.lst (ns.map Val.int))) (e : ns = ms) : eqOf S (.ref a) (.lst (ms.map Val.int)) = some true := by rw [eqOf_rl h, decide_eq_true e]
theorem eqOf_rlf {ns ms : List Int} (h : S a = some (.lst (ns.map Val.int))) (e : ns ≠ ms) : eqOf S (.ref a) (.lst (ms.map Val.int)) = some false := by rw [eqOf_rl h, decide_eq_false e]
theorem eqOf_r0t {ns : List Int} (h : S a = some (.lst (ns.map Val.int))) (e : ns = []) : eqOf S (.ref a) (.lst []) = some true := eqOf_rlt h e
theorem eqOf_r0f {ns : List Int} (h : S a = some (.lst (ns.map Val.int))) (e : ns ≠ []) : eqOf S (.ref a) (.lst []) = some false := eqOf_rlf (ms := []) h e
theorem eqOf_ii : eqOf S (.int i) (.int j) = some (decide (i = j)) := rfl
theorem eqOf_iit (e : i = j) : eqOf S (.int i) (.int j) = some true := by rw [eqOf_ii, decide_eq_true e]
theorem eqOf_iif (e : i ≠ j) : eqOf S (.int i) (.int j) = some false := by rw [eqOf_ii, decide_eq_false e]
theorem pop_of (h : S a = some (.lst xs)) (h2 : xs[xs.length - 1]? = some y) (q : Q y (S.put a (.lst xs.dropLast))) : popP (.ref a) [] S Q := by
  refine ⟨?_⟩
  show (match S a with
    | some (.lst xs) => someP xs[xs.length - 1]? fun y => Q y (S.put a (.lst xs.dropLast))
    | _ => False)
  rw [h]
  show someP xs[xs.length - 1]? fun y => Q y (S.put a (.lst xs.dropLast))
  rw [h2]
  exact q
theorem app_of (h : S a = some (.lst xs)) (hl : xs.length < sizeLine) (q : Q .non (S.put a (.lst (xs ++ [v])))) : appendP (.ref a) [v] S Q := by
  refine ⟨?_⟩
  show (match S a with
    | some (.lst xs) => xs.length < sizeLine ∧ Q .non (S.put a (.lst (xs ++ [v])))
    | _ => False)
  rw [h]
  exact ⟨hl, q⟩
theorem isl_ref (h : S a = some (.lst xs)) : isLst S (.ref a) = true := by
  unfold isLst lsqOf lstOf
  simp only [h]
  rfl
theorem set_of {Kk : Sto → Prop} {jj : Nat} (h : S a = some (.lst xs)) (hj : ixN xs.length i = some jj) (q : Kk (S.put a (.lst (xs.set jj v)))) : setIx (.ref a) (.int i) v S Kk := by
  refine ⟨?_⟩
  show (match S a with
    | some (.lst xs) => someP (ixN xs.length i) fun j => Kk (S.put a (.lst (xs.set j v)))
    | some (.dict kvs) => someP (keyV (.int i)) fun k => kvs.length < sizeLine ∧ Kk (S.put a (.dict (dPut kvs k v)))
    | _ => False)
  rw [h]
  show someP (ixN xs.length i) fun j => Kk (S.put a (.lst (xs.set j v)))
  rw [hj]
  exact q
theorem setD_of {Kk : Sto → Prop} {kvs : List (Key × Val)} {k : Key} (h : S a = some (.dict kvs)) (hk : keyV y = some k) (hl : kvs.length < sizeLine) (q : Kk (S.put a (.dict (dPut kvs k v)))) : setIx (.ref a) y v S Kk := by
  refine ⟨?_⟩
  unfold setIx0
  simp only [h, hk, someP]
  exact ⟨hl, q⟩
theorem mul_of {c : Bool} (h : CMulW i j) (q : Q (.int (i * j)) S) : mulP c (.int i) (.int j) S Q := ⟨h, q⟩
theorem fdiv_of (h : CDivW i j) (q : Q (.int (i / j)) S) : fdivP (.int i) (.int j) S Q := ⟨h, q⟩
theorem mod_of (h : 0 < j) (q : Q (.int (i % j)) S) : modP (.int i) (.int j) S Q := ⟨h, q⟩
theorem pow_of (h : CPow i j) (q : Q (.int (i ^ j.toNat)) S) : powP (.int i) (.int j) S Q := ⟨h, q⟩
end
theorem getLast_map {ns : List Int} {n : Int} : (ns ++ [n]).map Val.int = ns.map Val.int ++ [Val.int n] := by simp
/-- the end of a list of ints -/
theorem snoc_of {ns : List Int} (h : ns ≠ []) : ∃ ms n, ns = ms ++ [n] := ⟨ns.dropLast, ns.getLast h, (List.dropLast_concat_getLast h).symm⟩
theorem atI_last {ms : List Int} {n : Int} : atI ((ms ++ [n]).map Val.int) (-1) = some (.int n) := by
  have hl : ((ms ++ [n]).map Val.int).length = ms.length + 1 := by simp
  unfold atI ixN
  rw [hl, if_neg (by decide), if_pos (by omega)]
  show ((ms ++ [n]).map Val.int)[((-1 : Int) + ((ms.length + 1 : Nat) : Int)).toNat]? = _
  rw [show ((-1 : Int) + ((ms.length + 1 : Nat) : Int)).toNat = ms.length by omega]
  simp
theorem get_last {ms : List Int} {n : Int} : ((ms ++ [n]).map Val.int)[((ms ++ [n]).map Val.int).length - 1]? = some (.int n) := by simp
theorem drop_last {ms : List Int} {n : Int} : ((ms ++ [n]).map Val.int).dropLast = ms.map Val.int := by simp
theorem mulw_small {i j : Int} (h : i.natAbs < 2 ^ 200) (h2 : j.natAbs < 2 ^ 200) : CMulW i j := wide_mul h h2 (by omega) (by omega) (by omega)
theorem divw_small {i j : Int} (h : 0 < j) (h2 : j < 2 ^ 200) : CDivW i j := wide_div h (b := 200) (by omega) (by omega) (by omega)

theorem cutL_map {α β : Type} (f : α → β) (xs : List α) (lo hi : Option Int) : cutL (xs.map f) lo hi = (cutL xs lo hi).map f := by
  unfold cutL
  rw [List.length_map, List.map_take, List.map_drop]
theorem cmul_dec {i j : Int} (h : decide (i.natAbs.log2 + j.natAbs.log2 < 1000000) = true) : CMulW i j := by
  unfold CMulW
  exact of_decide_eq_true h
theorem all_ints {xs : List Val} : ∀ {ns : List Int}, xs = ns.map Val.int → ∀ x ∈ xs, ∃ n ∈ ns, x = .int n := fun {ns} e x hx => by
  subst e
  obtain ⟨n, hn, e⟩ := List.mem_map.mp hx
  exact ⟨n, hn, e.symm⟩
/-- a list comprehension over ints, pure -/
theorem lc_ints {g : Option Addr} {ns : List Int} {i : Nat} {tt : IT} {te : IE} {ρ : ISt} {S : Sto} {Q : List Val → Sto → Prop} (p : Int → Bool) (f : Int → Val) (hg : guardOk g (ns.map Val.int) S) (hl : ns.length ≤ sizeLine)
    (hx : ∀ n ∈ ns, (∀ Q : Bool → Sto → Prop, Q (p n) S → tt (setS ρ i (.int n)) S Q noX) ∧ (p n = true → ∀ Q : VQ, Q (f n) S → te (setS ρ i (.int n)) S Q noX)) (h : Q ((ns.filter p).map f) S) : lcGo g (ns.map Val.int) (.nm i) tt te ρ (ns.map Val.int) [] S Q := by
  refine lcGo_pure (fun v => match v with | .int n => p n | _ => false) (fun v => match v with | .int n => f n | v => v) hg (ns.map Val.int) [] (by simpa using hl) (fun x hx' => ?_) ?_
  · obtain ⟨n, hn, rfl⟩ := all_ints rfl x hx'
    exact ⟨_, rfl, (hx n hn).1, (hx n hn).2⟩
  · rw [List.nil_append, List.filter_map, List.map_map]
    exact h

theorem within_self {S : Sto} : S.within S = S := within_eq fun _ h => h
theorem isi_of {kit : Kit} {own : List Str} {cs : List TyTag} {x : Val} {S : Sto} {Q : VQ} {t : TyTag} {b : Bool} (h1 : tagOf S x = some t) (h2 : ownTag own t = true) (h3 : kitAll kit t cs = some b) (q : Q (.bl b) S) : isiP kit own cs x S Q := by
  refine ⟨?_⟩
  unfold isiP0
  rw [h1]
  refine ⟨h2, ?_⟩
  rw [h3]
  exact q
theorem upTo_ints (lo : Int) (n : Nat) : upTo lo n = ((List.range n).map fun i : Nat => lo + (i : Int)).map Val.int := by
  unfold upTo
  rw [List.map_map]
  rfl
/-- what the law compares: values with no lists in them -/
def RD : Nat → Val → Prop
  | 0, _ => False
  | n + 1, v => match v with
    | .non => True
    | .bl _ => True
    | .int _ => True
    | .str _ => True
    | .tup xs => xs.length ≤ 1048576 ∧ ∀ x ∈ xs, RD n x
    | _ => False
theorem RD.mono {n : Nat} : ∀ {m : Nat} {v : Val}, RD n v → n ≤ m → RD m v := by
  induction n with
  | zero => intro m v h; exact h.elim
  | succ n ih =>
    intro m v h hm
    cases m with
    | zero => omega
    | succ m =>
      cases v with
      | tup xs => exact ⟨h.1, fun x hx => ih (h.2 x hx) (by omega)⟩
      | _ => first | trivial | exact h
theorem rd_ti {n : Nat} (ns : List Int) (h : ns.length ≤ 1048576) : RD (n + 2) (tiV ns) := ⟨by rw [List.length_map]; exact h, fun x hx => by
  obtain ⟨i, _, rfl⟩ := List.mem_map.mp hx
  trivial⟩

/-- .. behind what is there already -/
theorem lc_intsA {g : Option Addr} {ns : List Int} {i : Nat} {tt : IT} {te : IE} {ρ : ISt} {S : Sto} {Q : List Val → Sto → Prop} {acc : List Val} (p : Int → Bool) (f : Int → Val) (hg : guardOk g (ns.map Val.int) S) (hl : acc.length + ns.length ≤ sizeLine)
    (hx : ∀ n ∈ ns, (∀ Q : Bool → Sto → Prop, Q (p n) S → tt (setS ρ i (.int n)) S Q noX) ∧ (p n = true → ∀ Q : VQ, Q (f n) S → te (setS ρ i (.int n)) S Q noX)) (h : Q (acc ++ (ns.filter p).map f) S) : lcGo g (ns.map Val.int) (.nm i) tt te ρ (ns.map Val.int) acc S Q := by
  refine lcGo_pure (fun v => match v with | .int n => p n | _ => false) (fun v => match v with | .int n => f n | v => v) hg (ns.map Val.int) acc (by simpa using hl) (fun x hx' => ?_) ?_
  · obtain ⟨n, hn, rfl⟩ := all_ints rfl x hx'
    exact ⟨_, rfl, (hx n hn).1, (hx n hn).2⟩
  · rw [List.filter_map, List.map_map]
    exact h
/-- the same over anything that is coded -/
theorem lc_codes {α : Type} (e : α → Val) {g : Option Addr} {ns : List α} {t : Tg} {tt : IT} {te : IE} {ρ : ISt} {S : Sto} {Q : List Val → Sto → Prop} {acc : List Val} {all : List Val} (p : α → Bool) (f : α → Val) (hg : guardOk g all S) : ∀ (ns : List α) (acc : List Val), acc.length + ns.length ≤ sizeLine →
    (∀ n ∈ ns, ∃ ρ1, tgI t (e n) ρ = some ρ1 ∧ (∀ Q : Bool → Sto → Prop, Q (p n) S → tt ρ1 S Q noX) ∧ (p n = true → ∀ Q : VQ, Q (f n) S → te ρ1 S Q noX)) → Q (acc ++ (ns.filter p).map f) S → lcGo g all t tt te ρ (ns.map e) acc S Q
  | [], acc, _, _, h => ⟨hg, by simpa using h⟩
  | x :: r, acc, hl, hx, h => by
    obtain ⟨ρ1, e1, h1, h2⟩ := hx x List.mem_cons_self
    refine ⟨hg, ?_⟩
    rw [e1]
    refine h1 _ ?_
    have hl2 : acc.length + (r.length + 1) ≤ sizeLine := by simpa using hl
    cases hp : p x with
    | true =>
      refine h2 hp _ ⟨by omega, ?_⟩
      refine lc_codes e (ns := r) (acc := acc) p f hg r (acc ++ [f x]) (by simp; omega) (fun y hy => hx y (List.mem_cons_of_mem _ hy)) ?_
      rw [List.filter_cons, hp] at h
      simpa using h
    | false =>
      refine lc_codes e (ns := r) (acc := acc) p f hg r acc (by omega) (fun y hy => hx y (List.mem_cons_of_mem _ hy)) ?_
      rw [List.filter_cons, hp] at h
      simpa using h
/-- two clauses, pure -/
theorem lc2_codes {α : Type} (e : α → Val) {g : Option Addr} {t : Tg} {tt : IT} {it1 : II} {t1 : Tg} {tt1 : IT} {te : IE} {vs1 : List Nat} {ρ : ISt} {S : Sto} {Q : List Val → Sto → Prop} {all : List Val} (f : α → List Val) (hg : guardOk g all S) : ∀ (ns : List α) (acc : List Val), acc.length + (ns.flatMap f).length ≤ sizeLine →
    (∀ n ∈ ns, ∃ ρ1, tgI t (e n) ρ = some ρ1 ∧ (∀ Q : Bool → Sto → Prop, Q true S → tt ρ1 S Q noX) ∧ ∀ (acc : List Val) (Q : List Val → Sto → Prop), acc.length + (f n).length ≤ sizeLine → Q (acc ++ f n) S → it1 ρ1 S (fun g1 ys S3 => lcGo g1 ys t1 tt1 te (wipeI ρ1 vs1) ys acc S3 Q) noX) →
    Q (acc ++ ns.flatMap f) S → lc2Go g all t tt it1 t1 tt1 te vs1 ρ (ns.map e) acc S Q
  | [], acc, _, _, h => ⟨hg, by simpa using h⟩
  | x :: r, acc, hl, hx, h => by
    obtain ⟨ρ1, e1, h1, h2⟩ := hx x List.mem_cons_self
    refine ⟨hg, ?_⟩
    rw [e1]
    rw [List.flatMap_cons, List.length_append] at hl
    refine h1 _ (h2 acc _ (by omega) ?_)
    refine lc2_codes e f hg r (acc ++ f x) (by rw [List.length_append]; omega) (fun y hy => hx y (List.mem_cons_of_mem _ hy)) ?_
    rw [List.flatMap_cons] at h
    simpa using h
/-- a loop that looks for the first one -/
theorem for_find {α : Type} (e : α → Val) {all : List Val} {t : Tg} {b : IS} {D : IEnds} {S : Sto} (P : ISt → Prop) (f : α → Option Val) : ∀ (as : List α) (ρ : ISt), P ρ →
    (∀ x ∈ as, ∀ ρ, P ρ → ∃ ρ1, tgI t (e x) ρ = some ρ1 ∧ ∀ Kn : ISt → Sto → Prop, (f x = none → ∀ ρ', P ρ' → Kn ρ' S) → (∀ v, f x = some v → D.rt v S) → b { D with nx := Kn, ct := Kn, bk := D.nx } ρ1 S) →
    (∀ v, as.findSome? f = some v → D.rt v S) → (as.findSome? f = none → ∀ ρ', P ρ' → D.nx ρ' S) → forGo none all t b D (as.map e) ρ S
  | [], ρ, hp, _, _, h2 => ⟨trivial, h2 rfl ρ hp⟩
  | x :: r, ρ, hp, hb, h1, h2 => by
    obtain ⟨ρ1, e1, h3⟩ := hb x List.mem_cons_self ρ hp
    refine ⟨trivial, ?_⟩
    rw [e1]
    refine h3 _ (fun hn ρ' hp' => ?_) fun v hv => h1 v (by rw [List.findSome?_cons, hv])
    refine for_find e P f r ρ' hp' (fun y hy => hb y (List.mem_cons_of_mem _ hy)) (fun v hv => h1 v (by rw [List.findSome?_cons, hn]; exact hv)) fun hv => h2 (by rw [List.findSome?_cons, hn]; exact hv)
theorem fld_of {F : Str → Str → Bool} {c f : Str} {ns : List Str} {vs : List Val} {v : Val} {S : Sto} {Q : VQ} (hF : F c f = true) (h : fldOf ns vs f = some v) (q : Q v S) : fldP F f (.ins c ns vs) S Q := by
  refine ⟨?_⟩
  unfold fldP0
  refine ⟨hF, ?_⟩
  rw [h]
  exact q
theorem sort_i {c : Bool} {ns : List Int} {S : Sto} {Q : VQ} (q : newL c ((srtB ltI ns).map Val.int) S Q) : sortP c [.lst (ns.map Val.int)] S Q := by
  refine ⟨?_⟩
  unfold sortP0
  show someP (some (ns.map Val.int)) _
  show (match intsOf (ns.map Val.int) with
    | some ns => newL c ((srtB ltI ns).map Val.int) S Q
    | none => someP (tisOf (ns.map Val.int)) fun ks => newL c ((srtB TLS.ltL ks).map tiV) S Q)
  rw [intsOf_map]
  exact q
theorem tisOf_map : ∀ ks : List (List Int), tisOf (ks.map tiV) = some ks
  | [] => rfl
  | k :: ks => by
    show (match intsOf (k.map Val.int), tisOf (ks.map tiV) with
      | some ns, some ks => some (ns :: ks)
      | _, _ => none) = _
    rw [intsOf_map, tisOf_map ks]
theorem sort_t {c : Bool} {ks : List (List Int)} {S : Sto} {Q : VQ} (h : ks ≠ []) (q : newL c ((srtB TLS.ltL ks).map tiV) S Q) : sortP c [.lst (ks.map tiV)] S Q := by
  refine ⟨?_⟩
  unfold sortP0
  show (match intsOf (ks.map tiV) with
    | some ns => newL c ((srtB ltI ns).map Val.int) S Q
    | none => someP (tisOf (ks.map tiV)) fun ks => newL c ((srtB TLS.ltL ks).map tiV) S Q)
  cases ks with
  | nil => exact absurd rfl h
  | cons k r =>
    show someP (tisOf ((k :: r).map tiV)) _
    rw [tisOf_map]
    exact q
theorem sortSet_of {c : Bool} {ks : List (List Int)} {x : Val} {S : Sto} {Q : VQ} (e : lsqOf S x = some (ks.map tiV)) (hl : ks.length < 64) (q : newL c ((srtB TLS.ltL (dedB ks)).map tiV) S Q) : sortSetP c x S Q := by
  refine ⟨?_⟩
  show someP (lsqOf S x) fun xs => someP (tisOf xs) fun ks => ks.length < 64 ∧ newL c ((srtB TLS.ltL (dedB ks)).map tiV) S Q
  rw [e]
  show someP (tisOf (ks.map tiV)) _
  rw [tisOf_map]
  exact ⟨hl, q⟩
theorem eqOf_tit {S : Sto} {ns ms : List Int} (e : ns = ms) : eqOf S (tiV ns) (tiV ms) = some true := by rw [eqOf_ti, decide_eq_true e]
theorem eqOf_tif {S : Sto} {ns ms : List Int} (e : ns ≠ ms) : eqOf S (tiV ns) (tiV ms) = some false := by rw [eqOf_ti, decide_eq_false e]

theorem setf_of {F : Str → Str → Bool} {f c : Str} {ns ms : List Str} {vs us : List Val} {v : Val} {a : Addr} {S : Sto} {Kn : Sto → Prop} (h : S a = some (.ins c ns vs)) (hF : F c f = true) (hl : ns.length < 1000) (hp : putFld ns vs f v = (ms, us))
    (q : Kn (S.put a (.ins c ms us))) : setFP F f (.ref a) v S Kn := by
  refine ⟨?_⟩
  unfold setFP0
  simp only [h, hp]
  exact ⟨hF, hl, q⟩
theorem put_del {S : Sto} {a : Addr} {c : Cell} (h : S a = none) : (S.put a c).del a = S := by
  funext b
  unfold Sto.put Sto.del
  by_cases e : b = a
  · subst e
    simp [h]
  · simp [e]
theorem frzI_of {a : Addr} {S : Sto} {Q : VQ} {c : Str} {ns : List Str} {vs : List Val} (h : S a = some (.ins c ns vs)) (q : Q (.ins c ns vs) (S.del a)) : frzI true a S Q := by
  show (match S a with
    | some (.ins c ns vs) => Q (.ins c ns vs) (S.del a)
    | _ => False)
  rw [h]
  exact q

theorem len_ref {S : Sto} {a : Addr} {xs : List Val} {Q : VQ} (h : S a = some (.lst xs)) (q : Q (.int xs.length) S) : lenP [.ref a] S Q := by
  show someP (match S a with
    | some (.lst xs) => some xs
    | _ => none) fun xs => Q (.int xs.length) S
  rw [h]
  exact q
theorem tup_ref {S : Sto} {a : Addr} {xs : List Val} {Q : VQ} (h : S a = some (.lst xs)) (q : Q (.tup xs) S) : tupleP [.ref a] S Q := by
  show someP (match S a with
    | some (.lst xs) => some xs
    | _ => none) fun xs => Q (.tup xs) S
  rw [h]
  exact q
theorem lsq_ref {S : Sto} {a : Addr} {xs : List Val} (h : S a = some (.lst xs)) : lsqOf S (.ref a) = some xs := by
  show (match S a with
    | some (.lst xs) => some xs
    | _ => none) = some xs
  rw [h]
/-- what a def leaves behind its own cells -/
theorem Deal.gc {a b : Addr} {S S' : Sto} (h : Deal a b S) (h' : Deal a b S') (f : ∀ c, S c ≠ none → c ≠ a → c ≠ b → S' c = S c) : Deal a b (S'.within S) ∧ Fr a b S (S'.within S) := by
  obtain ⟨ne, cs, mix, e1, e2, r⟩ := h
  obtain ⟨_, cs', mix', e1', e2', r'⟩ := h'
  refine ⟨⟨ne, cs', mix', ?_, ?_, r'⟩, ⟨fun c h1 h2 => ?_⟩⟩
  · unfold Sto.within
    rw [e1]
    exact e1'
  · unfold Sto.within
    rw [e2]
    exact e2'
  · unfold Sto.within
    cases e : S c with
    | none => rfl
    | some x =>
      show S' c = some x
      rw [f c (by rw [e]; exact fun z => nomatch z) h1 h2, e]
/-- a place that is none of the deal's -/
theorem Deal.off {a b e : Addr} {S : Sto} (h : Deal a b S) (he : S e = none) : e ≠ a ∧ e ≠ b := by
  obtain ⟨ne, cs, mix, e1, e2, r⟩ := h
  exact ⟨fun z => (by rw [z, e1] at he; cases he), fun z => (by rw [z, e2] at he; cases he)⟩
theorem Deal.put {a b e : Addr} {S : Sto} {c : Cell} (h : Deal a b S) (h1 : e ≠ a) (h2 : e ≠ b) : Deal a b (S.put e c) := by
  obtain ⟨ne, cs, mix, e1, e2, r⟩ := h
  exact ⟨ne, cs, mix, by rw [put_ne h1.symm]; exact e1, by rw [put_ne h2.symm]; exact e2, r⟩
end TL

/-! TLw: pure parts, put together: EV (an expression tells a value, the store stays), TT (a test tells a truth). -/
namespace TL
open PySem PySem.Spec L2
open PyProof.Rows hiding St

abbrev EV (e : IE) (ρ : ISt) (S : Sto) (v : Val) : Prop := ∀ (Q : VQ) (E : EQ), Q v S → e ρ S Q E
abbrev TT (t : IT) (ρ : ISt) (S : Sto) (k : Bool) : Prop := ∀ (Q : Bool → Sto → Prop) (E : EQ), Q k S → t ρ S Q E
section
variable {ρ : ISt} {S : Sto} {a b m : IE} {x y v w : Val} {i j : Int} {t u : IT} {D : IEnds} {Kx A1 A2 : IS} {Γ : Calls} {f : Str} {k : Bool}
theorem EV.con (v : Val) : EV (conI v) ρ S v := fun _ _ h => h
theorem EV.add (ha : EV a ρ S (.int i)) (hb : EV b ρ S (.int j)) {c : Bool} : EV (bin2 (addP c) a b) ρ S (.int (i + j)) := fun Q E h => ha _ _ (hb _ _ h)
theorem EV.sub (ha : EV a ρ S (.int i)) (hb : EV b ρ S (.int j)) : EV (bin2 subP a b) ρ S (.int (i - j)) := fun Q E h => ha _ _ (hb _ _ h)
theorem EV.mul (ha : EV a ρ S (.int i)) (hb : EV b ρ S (.int j)) (hm : CMulW i j) {c : Bool} : EV (bin2 (mulP c) a b) ρ S (.int (i * j)) := fun Q E h => ha _ _ (hb _ _ ⟨hm, h⟩)
theorem EV.mod (ha : EV a ρ S (.int i)) (hb : EV b ρ S (.int j)) (hm : 0 < j) : EV (bin2 modP a b) ρ S (.int (i % j)) := fun Q E h => ha _ _ (hb _ _ ⟨hm, h⟩)
theorem EV.fdiv (ha : EV a ρ S (.int i)) (hb : EV b ρ S (.int j)) (hm : CDivW i j) : EV (bin2 fdivP a b) ρ S (.int (i / j)) := fun Q E h => ha _ _ (hb _ _ ⟨hm, h⟩)
theorem EV.pow (ha : EV a ρ S (.int i)) (hb : EV b ρ S (.int j)) (hm : CPow i j) : EV (bin2 powP a b) ρ S (.int (i ^ j.toNat)) := fun Q E h => ha _ _ (hb _ _ ⟨hm, h⟩)
theorem EV.int (ha : EV a ρ S (.int i)) : EV (callP intP (consA a nilA)) ρ S (.int i) := fun Q E h => ha _ _ h
theorem EV.ixT {xs : List Val} (ha : EV a ρ S (.tup xs)) (hb : EV b ρ S (.int i)) (h : atI xs i = some v) : EV (bin2 ixP a b) ρ S v := fun Q E q => ha _ _ (hb _ _ (ixT_of h q))
theorem EV.ixL {xs : List Val} (ha : EV a ρ S (.lst xs)) (hb : EV b ρ S (.int i)) (h : atI xs i = some v) : EV (bin2 ixP a b) ρ S v := fun Q E q => ha _ _ (hb _ _ (ixL_of h q))
theorem EV.ixR {xs : List Val} {e : Addr} (ha : EV a ρ S (.ref e)) (he : S e = some (.lst xs)) (hb : EV b ρ S (.int i)) (h : atI xs i = some v) : EV (bin2 ixP a b) ρ S v := fun Q E q => ha _ _ (hb _ _ (ix_ref he h q))
theorem ixS_of {x : Str} {Q : VQ} {c : Nat} (hl : x.length ≤ sizeLine) (h : atI x.cps.toList i = some c) (q : Q (.str ⟨#[c]⟩) S) : ixP (.str x) (.int i) S Q := by
  refine ⟨?_⟩
  show x.length ≤ sizeLine ∧ someP (atI x.cps.toList i) fun c => Q (.str ⟨#[c]⟩) S
  rw [h]
  exact ⟨hl, q⟩
theorem EV.ixS {x : Str} {c : Nat} (ha : EV a ρ S (.str x)) (hb : EV b ρ S (.int i)) (hl : x.length ≤ sizeLine) (h : atI x.cps.toList i = some c) : EV (bin2 ixP a b) ρ S (.str ⟨#[c]⟩) := fun Q E q => ha _ _ (hb _ _ (ixS_of hl h q))
theorem EV.len {xs : List Val} (hm : EV m ρ S v) (h : seqOf S v = some xs) (hs : ∀ x, v ≠ .str x) : EV (callP lenP (consA m nilA)) ρ S (.int xs.length) := fun Q E q => hm _ _ (by
  have e : lenP [v] S Q = someP (seqOf S v) (fun xs => Q (.int xs.length) S) := by
    cases v <;> first | rfl | exact absurd rfl (hs _) | cases h
  show lenP [v] S Q
  rw [e, h]
  exact q)
theorem EV.lenT {xs : List Val} (hm : EV m ρ S (.tup xs)) : EV (callP lenP (consA m nilA)) ρ S (.int xs.length) := EV.len hm rfl nofun
theorem EV.lenL {xs : List Val} (hm : EV m ρ S (.lst xs)) : EV (callP lenP (consA m nilA)) ρ S (.int xs.length) := EV.len hm rfl nofun
theorem EV.lenR {xs : List Val} {e : Addr} (hm : EV m ρ S (.ref e)) (he : S e = some (.lst xs)) : EV (callP lenP (consA m nilA)) ρ S (.int xs.length) := EV.len hm (lsq_ref he) nofun
theorem EV.lenS {x : Str} (hm : EV m ρ S (.str x)) (h : x.length ≤ sizeLine) : EV (callP lenP (consA m nilA)) ρ S (.int x.length) := fun Q E q => hm _ _ ⟨h, q⟩
theorem EV.tuple {xs : List Val} (hm : EV m ρ S v) (h : seqOf S v = some xs) : EV (callP tupleP (consA m nilA)) ρ S (.tup xs) := fun Q E q => hm _ _ (by
  have e : tupleP [v] S Q = someP (seqOf S v) (fun xs => Q (.tup xs) S) := by
    cases v <;> first | rfl | cases h
  show tupleP [v] S Q
  rw [e, h]
  exact q)
theorem EV.tup1 (ha : EV a ρ S x) : EV (tupI (consA a nilA)) ρ S (.tup [x]) := fun Q E q => ha _ _ ⟨show 1 ≤ sizeLine by decide, q⟩
theorem EV.tup2 (ha : EV a ρ S x) (hb : EV b ρ S y) : EV (tupI (consA a (consA b nilA))) ρ S (.tup [x, y]) := fun Q E q => ha _ _ (hb _ _ ⟨show 2 ≤ sizeLine by decide, q⟩)
theorem EV.lst1 (ha : EV a ρ S x) : EV (lstI false (consA a nilA)) ρ S (.lst [x]) := fun Q E q => ha _ _ ⟨show 1 ≤ sizeLine by decide, q⟩
theorem EV.addL {xs ys : List Val} (ha : EV a ρ S (.lst xs)) (hb : EV b ρ S (.lst ys)) (hl : xs.length + ys.length ≤ sizeLine) : EV (bin2 (addP false) a b) ρ S (.lst (xs ++ ys)) := fun Q E q => ha _ _ (hb _ _ ⟨hl, q⟩)
theorem EV.addT {xs ys : List Val} (ha : EV a ρ S (.tup xs)) (hb : EV b ρ S (.tup ys)) (hl : xs.length + ys.length ≤ sizeLine) {c : Bool} : EV (bin2 (addP c) a b) ρ S (.tup (xs ++ ys)) := fun Q E q => ha _ _ (hb _ _ ⟨hl, q⟩)
theorem EV.call0 (h : ∀ (Q : VQ) (E : EQ), Q v S → Γ f [] S Q E) : EV (callF Γ f nilA) ρ S v := fun Q E q => h _ _ q
theorem EV.call1 (ha : EV a ρ S x) (h : ∀ (Q : VQ) (E : EQ), Q v S → Γ f [x] S Q E) : EV (callF Γ f (consA a nilA)) ρ S v := fun Q E q => ha _ _ (h _ _ q)
theorem EV.call2 (ha : EV a ρ S x) (hb : EV b ρ S y) (h : ∀ (Q : VQ) (E : EQ), Q v S → Γ f [x, y] S Q E) : EV (callF Γ f (consA a (consA b nilA))) ρ S v := fun Q E q => ha _ _ (hb _ _ (h _ _ q))
theorem EV.sliceT {xs ys : List Val} {lo hi : IO} {l h : Option Int} {c : Bool} (ha : EV a ρ S (.tup xs)) (hl : ∀ (Q : Option Int → Sto → Prop) (E : EQ), Q l S → lo ρ S Q E) (hh : ∀ (Q : Option Int → Sto → Prop) (E : EQ), Q h S → hi ρ S Q E) (e : cutL xs l h = ys) : EV (sliceI c a lo hi) ρ S (.tup ys) := fun Q E q => ha _ _ (hl _ _ (hh _ _ (by subst e; exact q)))
theorem EV.sliceL {xs ys : List Val} {lo hi : IO} {l h : Option Int} (ha : EV a ρ S (.lst xs)) (hl : ∀ (Q : Option Int → Sto → Prop) (E : EQ), Q l S → lo ρ S Q E) (hh : ∀ (Q : Option Int → Sto → Prop) (E : EQ), Q h S → hi ρ S Q E) (e : cutL xs l h = ys) : EV (sliceI false a lo hi) ρ S (.lst ys) := fun Q E q => ha _ _ (hl _ _ (hh _ _ (by subst e; exact q)))
theorem part_of (ha : EV a ρ S (.int i)) (Q : Option Int → Sto → Prop) (E : EQ) (q : Q (some i) S) : partI a ρ S Q E := ha _ _ q
theorem part_no (Q : Option Int → Sto → Prop) (E : EQ) (q : Q none S) : noPart ρ S Q E := q
theorem EV.ife (ht : TT t ρ S k) (h : if k then EV a ρ S v else EV b ρ S v) : EV (ifE t a b) ρ S v := fun Q E q => ht _ _ (by
  cases k with
  | true => exact h _ _ q
  | false => exact h _ _ q)
theorem EV.var {n : Nat} (h : ∀ K : Val → Prop, K v → getS ρ n K) : EV (varI n) ρ S v := fun Q E q => h _ q
theorem EV.lcP {α : Type} (e : α → Val) (ns : List α) (p : α → Bool) (f : α → Val) {g : Option Addr} {it : II} {tg : Tg} {tt : IT} {te : IE} {own : List Nat} (hit : ∀ (K : Option Addr → List Val → Sto → Prop) (E : EQ), K g (ns.map e) S → it ρ S K E) (hg : guardOk g (ns.map e) S) (hl : ns.length ≤ sizeLine)
    (hx : ∀ n ∈ ns, ∃ ρ1, tgI tg (e n) (wipeI ρ own) = some ρ1 ∧ TT tt ρ1 S (p n) ∧ (p n = true → EV te ρ1 S (f n))) : EV (lcI false it tg tt te own) ρ S (.lst ((ns.filter p).map f)) := fun Q E q => by
  refine hit _ _ ?_
  refine lc_codes e (ns := ns) (acc := []) p f hg ns [] (by rw [List.length_nil, Nat.zero_add]; exact hl) (fun n hn => ?_) ?_
  · obtain ⟨ρ1, h1, h2, h3⟩ := hx n hn
    exact ⟨ρ1, h1, fun Q' h => h2 _ _ h, fun hp Q' h => h3 hp _ _ h⟩
  · rw [List.nil_append]
    exact q
theorem EV.lc {α : Type} (e : α → Val) (ns : List α) (f : α → Val) {g : Option Addr} {it : II} {tg : Tg} {te : IE} {own : List Nat} (hit : ∀ (K : Option Addr → List Val → Sto → Prop) (E : EQ), K g (ns.map e) S → it ρ S K E) (hg : guardOk g (ns.map e) S) (hl : ns.length ≤ sizeLine)
    (hx : ∀ n ∈ ns, ∃ ρ1, tgI tg (e n) (wipeI ρ own) = some ρ1 ∧ EV te ρ1 S (f n)) : EV (lcI false it tg yesT te own) ρ S (.lst (ns.map f)) := by
  have h := EV.lcP (ρ := ρ) e ns (fun _ => true) f (tt := yesT) hit hg hl fun n hn => by
    obtain ⟨ρ1, h1, h2⟩ := hx n hn
    exact ⟨ρ1, h1, fun Q E q => q, fun _ => h2⟩
  rw [List.filter_eq_self.mpr (fun _ _ => rfl)] at h
  exact h
theorem walkL {xs : List Val} (ha : EV a ρ S (.lst xs)) (K : Option Addr → List Val → Sto → Prop) (E : EQ) (q : K none xs S) : walkI a ρ S K E := ha _ _ q
theorem walkT {xs : List Val} (ha : EV a ρ S (.tup xs)) (K : Option Addr → List Val → Sto → Prop) (E : EQ) (q : K none xs S) : walkI a ρ S K E := ha _ _ q
theorem walkS {x : Str} (ha : EV a ρ S (.str x)) (K : Option Addr → List Val → Sto → Prop) (E : EQ) (q : K none (walkStr x) S) : walkI a ρ S K E := ha _ _ q
theorem walkR {xs : List Val} {e : Addr} (ha : EV a ρ S (.ref e)) (he : S e = some (.lst xs)) (K : Option Addr → List Val → Sto → Prop) (E : EQ) (q : K (some e) xs S) : walkI a ρ S K E := ha _ _ (by
  show (match S e with
    | some (.lst xs) => K (some e) xs S
    | _ => False)
  rw [he]
  exact q)
theorem rng1 (ha : EV a ρ S (.int i)) (h1 : -(2 ^ 62) ≤ i) (h2 : i < 2 ^ 62) (K : Option Addr → List Val → Sto → Prop) (E : EQ) (q : K none (upTo 0 i.toNat) S) : rng1I a ρ S K E := ha _ _ ⟨⟨h1, h2⟩, q⟩
theorem strsOf_map : ∀ ys : List Str, strsOf (ys.map Val.str) = some ys
  | [] => rfl
  | y :: ys => by
    show (strsOf (ys.map Val.str)).map (y :: ·) = _
    rw [strsOf_map ys]
    rfl
theorem EV.join {z : Str} {ys : List Str} (ha : EV a ρ S (.str z)) (hb : EV b ρ S (.lst (ys.map Val.str))) (hz : (ys.map (·.length)).sum + ys.length * z.length ≤ 16777216) : EV (smethI joinP a (consA b nilA)) ρ S (.str (Txt.join z ys)) := fun Q E q => ha _ _ ⟨rfl, hb _ _ (by
  show someP (strsOf (ys.map Val.str)) fun ys => (ys.map (·.length)).sum + ys.length * z.length ≤ 16777216 ∧ Q (.str (Txt.join z ys)) S
  rw [strsOf_map]
  exact ⟨hz, q⟩)⟩
theorem EV.index {xs : List Val} {j : Nat} (ha : EV a ρ S (.lst xs)) (hb : EV b ρ S y) (f1 : flatE y = true) (f2 : xs.all flatE = true) (e : idxE y xs = some j) : EV (lmethI indexP a (consA b nilA)) ρ S (.int j) := fun Q E q => ha _ _ ⟨rfl, hb _ _ ⟨by
  show (flatE y = true ∧ xs.all flatE = true) ∧ someP (idxE y xs) fun j => Q (.int (j : Nat)) S
  rw [e]
  exact ⟨⟨f1, f2⟩, q⟩⟩⟩
theorem idx_int (o : Int) : ∀ ns : List Int, o ∈ ns → ∃ j, idxE (.int o) (ns.map Val.int) = some j ∧ ns[j]? = some o
  | n :: ns, h => by
    by_cases e : n = o
    · exact ⟨0, by show (if (n == o) = true then some 0 else _) = _; rw [if_pos (beq_iff_eq.mpr e)], by rw [e]; rfl⟩
    · obtain ⟨j, h1, h2⟩ := idx_int o ns ((List.mem_cons.mp h).resolve_left (fun z => e z.symm))
      refine ⟨j + 1, ?_, h2⟩
      show (if (n == o) = true then some 0 else (idxE (.int o) (ns.map Val.int)).map (· + 1)) = _
      rw [if_neg (fun z => e (beq_iff_eq.mp z)), h1]
      rfl
theorem EV.ord {c : Nat} (ha : EV a ρ S (.str ⟨#[c]⟩)) : EV (callP ordP (consA a nilA)) ρ S (.int c) := fun Q E q => ha _ _ ⟨rfl, q⟩
/-! tests -/
theorem TT.cmp {p : Int → Int → Bool} (ha : EV a ρ S (.int i)) (hb : EV b ρ S (.int j)) (hk : p i j = k) : TT (tstB (bin2 (cmpP p) a b)) ρ S k := fun Q E q => ha _ _ (hb _ _ (by show Q (p i j) S; rw [hk]; exact q))
theorem TT.eq (ha : EV a ρ S x) (hb : EV b ρ S y) (hk : eqOf S x y = some k) : TT (tstB (bin2 eqP a b)) ρ S k := fun Q E q => ha _ _ (hb _ _ (eq_of hk q))
theorem TT.ne (ha : EV a ρ S x) (hb : EV b ρ S y) (hk : eqOf S x y = some (!k)) : TT (tstB (bin2 neP a b)) ρ S k := fun Q E q => ha _ _ (hb _ _ (ne_of hk (by rw [Bool.not_not]; exact q)))
theorem TT.inn {neg : Bool} (ha : EV a ρ S x) (hb : EV b ρ S y) (hk : inOf S x y = some k) : TT (tstB (bin2 (inP neg) a b)) ρ S (if neg then !k else k) := fun Q E q => ha _ _ (hb _ _ ⟨by
  show someP (inOf S x y) _
  rw [hk]
  exact q⟩)
theorem TT.tb (ha : EV a ρ S (.bl k)) : TT (tstB a) ρ S k := fun Q E q => ha _ _ q
theorem TT.or_f (h1 : TT t ρ S false) (h2 : TT u ρ S k) : TT (orT t u) ρ S k := fun Q E q => h1 _ _ (h2 _ _ q)
theorem TT.or_t (h1 : TT t ρ S true) : TT (orT t u) ρ S true := fun Q E q => h1 _ _ q
theorem TT.and_t (h1 : TT t ρ S true) (h2 : TT u ρ S k) : TT (andT t u) ρ S k := fun Q E q => h1 _ _ (h2 _ _ q)
theorem TT.and_f (h1 : TT t ρ S false) : TT (andT t u) ρ S false := fun Q E q => h1 _ _ q
theorem TT.not_t (h1 : TT t ρ S false) : TT (notT t) ρ S true := fun Q E q => h1 _ _ q
theorem TT.not_f (h1 : TT t ρ S true) : TT (notT t) ρ S false := fun Q E q => h1 _ _ q
/-! statements -/
theorem sq_set {n : Nat} (h : EV a ρ S v) (q : Kx D (setS ρ n v) S) : seqI (setI (.nm n) a) Kx D ρ S := h _ _ q
theorem sq_tp {is : List Nat} {vs : List Val} {ρ1 : ISt} (h : EV a ρ S (.tup vs)) (e : setAll ρ is vs = some ρ1) (q : Kx D ρ1 S) : seqI (setI (.tp is) a) Kx D ρ S := h _ _ (by
  show someP (setAll ρ is vs) fun ρ1 => Kx D ρ1 S
  rw [e]
  exact q)
theorem sq_par2 {i j : Nat} {ρ1 : ISt} (ha : EV a ρ S x) (hb : EV b ρ S y) (e : setAll ρ [i, j] [x, y] = some ρ1) (q : Kx D ρ1 S) : seqI (parI [i, j] (consA a (consA b nilA))) Kx D ρ S := ha _ _ (hb _ _ (by
  show someP (setAll ρ [i, j] [x, y]) fun ρ1 => Kx D ρ1 S
  rw [e]
  exact q))
theorem sq_drop (h : EV a ρ S v) (q : Kx D ρ S) : seqI (dropI a) Kx D ρ S := h _ _ q
theorem sq_ret (h : EV a ρ S v) (q : D.rt v S) : seqI (retI false a) Kx D ρ S := h _ _ q
theorem sq_if_t (h : TT t ρ S true) (q : A1 { D with nx := Kx D } ρ S) : seqI (ifI t A1 A2) Kx D ρ S := h _ _ q
theorem sq_if_f (h : TT t ρ S false) (q : A2 { D with nx := Kx D } ρ S) : seqI (ifI t A1 A2) Kx D ρ S := h _ _ q
/-- an if without an else -/
theorem sq_if_n (h : TT t ρ S false) (q : Kx D ρ S) : seqI (ifI t A1 nextI) Kx D ρ S := h _ _ q
/-- an if that returns -/
theorem sq_if_r (h : TT t ρ S true) (h2 : EV a ρ S v) (q : D.rt v S) : seqI (ifI t (seqI (retI false a) nextI) nextI) Kx D ρ S := h _ _ (h2 _ _ q)
end
end TL

/-! TLx: more small lemmas: data that is compared, in, sorted, stacks, tables of defs. -/
namespace TL
open PySem PySem.Spec L2
open PyProof.Rows hiding St

theorem within_old {S S' : Sto} (hS : ∀ c, S c ≠ none → S' c = S c) : S'.within S = S := by
  funext c
  unfold Sto.within
  cases e : S c with
  | none => rfl
  | some x => exact (hS c (by rw [e]; exact fun z => nomatch z)).trans e
theorem within_put {S S' : Sto} {a : Addr} {c : Cell} (ha : S a ≠ none) (hS : ∀ b, S b ≠ none → b ≠ a → S' b = S b) (h : S' a = some c) : S'.within S = S.put a c := by
  funext b
  unfold Sto.within
  by_cases e : b = a
  · subst e
    rw [put_same]
    cases e2 : S b with
    | none => exact absurd e2 ha
    | some x => exact h
  · rw [put_ne e]
    cases e2 : S b with
    | none => rfl
    | some x => exact (hS b (by rw [e2]; exact fun z => nomatch z) e).trans e2
/-! ### data -/
def DD (n : Nat) (v : Val) : Prop := ∃ d, toD v = some d ∧ d.canLay0 = true ∧ d.depth ≤ n
theorem DD.mono {n m : Nat} {v : Val} (h : DD n v) (hm : n ≤ m) : DD m v := by
  obtain ⟨d, a, b, c⟩ := h
  exact ⟨d, a, b, by omega⟩
theorem dd_int (n : Nat) (i : Int) : DD n (.int i) := ⟨.int i, rfl, by simp [PyData.canLay0], by simp [PyData.depth]⟩
theorem dd_str (n : Nat) {x : Str} (h : PyData.strOk x = true) : DD n (.str x) := ⟨.str x, rfl, by simpa [PyData.canLay0] using h, by simp [PyData.depth]⟩
theorem dd_all {n : Nat} : ∀ {xs : List Val}, (∀ x ∈ xs, DD n x) → ∃ ds, toDs xs = some ds ∧ PyData.canLayAll0 ds = true ∧ PyData.depthAll ds ≤ n ∧ ds.isEmpty = xs.isEmpty
  | [], _ => ⟨[], rfl, by simp [PyData.canLayAll0], by simp [PyData.depthAll], rfl⟩
  | x :: r, h => by
    obtain ⟨d, a, b, c⟩ := h x List.mem_cons_self
    obtain ⟨ds, a2, b2, c2, _⟩ := dd_all (xs := r) fun y hy => h y (List.mem_cons_of_mem _ hy)
    refine ⟨d :: ds, ?_, ?_, ?_, rfl⟩
    · show (match toD x, toDs r with
        | some d, some ds => some (d :: ds)
        | _, _ => none) = _
      rw [a, a2]
    · simp only [PyData.canLayAll0, b, b2]
      rfl
    · simp only [PyData.depthAll]
      omega
theorem dd_tup {n : Nat} {xs : List Val} (h : ∀ x ∈ xs, DD n x) : DD (n + 1) (.tup xs) := by
  obtain ⟨ds, a, b, c, _⟩ := dd_all h
  refine ⟨.tuple ds, ?_, by simpa [PyData.canLay0] using b, by simp only [PyData.depth]; omega⟩
  show (toDs xs).map PyData.tuple = _
  rw [a]
  rfl
theorem dat_lst {S : Sto} {xs : List Val} (h : ∀ x ∈ xs, DD 63 x) : ∃ ds, datOf S (.lst xs) = some (.list ds) ∧ ds.isEmpty = xs.isEmpty := by
  obtain ⟨ds, a, b, c, e⟩ := dd_all h
  refine ⟨ds, ?_, e⟩
  show (match toD (.lst xs) with
    | some d => if SeqAt.shaped d then some d else none
    | none => none) = _
  rw [show toD (.lst xs) = some (.list ds) from by
    show (toDs xs).map PyData.list = _
    rw [a]
    rfl]
  dsimp only
  rw [if_pos]
  unfold SeqAt.shaped
  have e1 : (PyData.list ds).canLay0 = true := by simpa [PyData.canLay0] using b
  have e2 : (PyData.list ds).depth ≤ 64 := by simp only [PyData.depth]; omega
  rw [e1, decide_eq_true e2]
  rfl
theorem dat_rlst {S : Sto} {e : Addr} {xs : List Val} (he : S e = some (.lst xs)) (h : ∀ x ∈ xs, DD 63 x) : ∃ ds, datOf S (.ref e) = some (.list ds) ∧ ds.isEmpty = xs.isEmpty := by
  obtain ⟨ds, a, b⟩ := dat_lst (S := S) h
  refine ⟨ds, ?_, b⟩
  show (match S e with
    | some (.lst xs) => (match toD (.lst xs) with
      | some d => if SeqAt.shaped d then some d else none
      | none => none)
    | _ => none) = _
  rw [he]
  exact a
theorem eqv_nil (ds : List PyData) : PyData.eqv (.list ds) (.list []) = ds.isEmpty := by
  cases ds <;> simp [PyData.eqv, PyData.eqvAll]
theorem eq0_lst {S : Sto} {xs : List Val} (h : ∀ x ∈ xs, DD 63 x) : eqOf S (.lst xs) (.lst []) = some xs.isEmpty := by
  obtain ⟨ds, a, b⟩ := dat_lst (S := S) h
  obtain ⟨ds2, a2, b2⟩ := dat_lst (S := S) (xs := []) (fun x hx => by cases hx)
  have e : ds2 = [] := List.isEmpty_iff.mp b2
  subst e
  show (match datOf S (.lst xs), datOf S (.lst []) with
    | some d, some e => some (PyData.eqv d e)
    | _, _ => none) = _
  rw [a, a2]
  dsimp only
  rw [eqv_nil, b]
theorem eq0_ref {S : Sto} {e : Addr} {xs : List Val} (he : S e = some (.lst xs)) (h : ∀ x ∈ xs, DD 63 x) : eqOf S (.ref e) (.lst []) = some xs.isEmpty := by
  obtain ⟨ds, a, b⟩ := dat_rlst (S := S) he h
  obtain ⟨ds2, a2, b2⟩ := dat_lst (S := S) (xs := []) (fun x hx => by cases hx)
  have e : ds2 = [] := List.isEmpty_iff.mp b2
  subst e
  show (match datOf S (.ref _), datOf S (.lst []) with
    | some d, some e => some (PyData.eqv d e)
    | _, _ => none) = _
  rw [a, a2]
  dsimp only
  rw [eqv_nil, b]

/-! ### in -/
theorem in_of {neg : Bool} {x y : Val} {S : Sto} {Q : VQ} {b : Bool} (h : inOf S x y = some b) (q : Q (.bl (if neg then !b else b)) S) : inP neg x y S Q := by
  refine ⟨?_⟩
  unfold inP0
  rw [h]
  exact q
theorem flat_strs : ∀ ws : List Str, (ws.map Val.str).all flatE = true
  | [] => rfl
  | w :: ws => by rw [List.map_cons, List.all_cons, flat_strs ws]; rfl
theorem any_strs (w : Str) : ∀ ws : List Str, ((ws.map Val.str).any fun z => eqE z (.str w)) = decide (w ∈ ws)
  | [] => rfl
  | u :: ws => by
    rw [List.map_cons, List.any_cons, any_strs w ws]
    show ((u == w) || _) = _
    by_cases h : u = w
    · subst h; simp
    · have h' : ¬ w = u := fun e => h e.symm
      simp [h, h']
theorem inw_lst (S : Sto) (w : Str) (ws : List Str) : inOf S (.str w) (.lst (ws.map Val.str)) = some (decide (w ∈ ws)) := by
  show (if flatE (.str w) && (ws.map Val.str).all flatE then some ((ws.map Val.str).any fun z => eqE z (.str w)) else _) = _
  rw [flat_strs, any_strs]
  rfl
theorem inw_tup (S : Sto) (w : Str) (ws : List Str) : inOf S (.str w) (.tup (ws.map Val.str)) = some (decide (w ∈ ws)) := by
  show (if flatE (.str w) && (ws.map Val.str).all flatE then some ((ws.map Val.str).any fun z => eqE z (.str w)) else _) = _
  rw [flat_strs, any_strs]
  rfl
theorem flat_ints : ∀ ws : List Int, (ws.map Val.int).all flatE = true
  | [] => rfl
  | w :: ws => by rw [List.map_cons, List.all_cons, flat_ints ws]; rfl
theorem any_ints (w : Int) : ∀ ws : List Int, ((ws.map Val.int).any fun z => eqE z (.int w)) = decide (w ∈ ws)
  | [] => rfl
  | u :: ws => by
    rw [List.map_cons, List.any_cons, any_ints w ws]
    show ((u == w) || _) = _
    by_cases h : u = w
    · subst h; simp
    · have h' : ¬ w = u := fun e => h e.symm
      simp [h, h']
theorem ini_tup (S : Sto) (w : Int) (ws : List Int) : inOf S (.int w) (tiV ws) = some (decide (w ∈ ws)) := by
  show (if flatE (.int w) && (ws.map Val.int).all flatE then some ((ws.map Val.int).any fun z => eqE z (.int w)) else _) = _
  rw [flat_ints, any_ints]
  rfl
theorem eqOf_ss (S : Sto) (x y : Str) : eqOf S (.str x) (.str y) = some (decide (x = y)) := rfl

theorem inT_t {w : Str} (ws : List Str) {S : Sto} {Q : VQ} (h : w ∈ ws) (q : Q (.bl true) S) : inP false (.str w) (.tup (ws.map Val.str)) S Q := in_of (inw_tup S w ws) (by rw [decide_eq_true h]; exact q)
theorem inT_f {w : Str} (ws : List Str) {S : Sto} {Q : VQ} (h : ¬ w ∈ ws) (q : Q (.bl false) S) : inP false (.str w) (.tup (ws.map Val.str)) S Q := in_of (inw_tup S w ws) (by rw [decide_eq_false h]; exact q)
theorem inL_t {w : Str} (ws : List Str) {S : Sto} {Q : VQ} (h : w ∈ ws) (q : Q (.bl true) S) : inP false (.str w) (.lst (ws.map Val.str)) S Q := in_of (inw_lst S w ws) (by rw [decide_eq_true h]; exact q)
theorem inL_f {w : Str} (ws : List Str) {S : Sto} {Q : VQ} (h : ¬ w ∈ ws) (q : Q (.bl false) S) : inP false (.str w) (.lst (ws.map Val.str)) S Q := in_of (inw_lst S w ws) (by rw [decide_eq_false h]; exact q)
theorem eqS_t {x y : Str} {S : Sto} {Q : VQ} (h : x = y) (q : Q (.bl true) S) : eqP (.str x) (.str y) S Q := eq_of (eqOf_ss S x y) (by rw [decide_eq_true h]; exact q)
theorem eqS_f {x y : Str} {S : Sto} {Q : VQ} (h : x ≠ y) (q : Q (.bl false) S) : eqP (.str x) (.str y) S Q := eq_of (eqOf_ss S x y) (by rw [decide_eq_false h]; exact q)
theorem neS_t {x y : Str} {S : Sto} {Q : VQ} (h : x = y) (q : Q (.bl false) S) : neP (.str x) (.str y) S Q := ne_of (eqOf_ss S x y) (by rw [decide_eq_true h]; exact q)
theorem neS_f {x y : Str} {S : Sto} {Q : VQ} (h : x ≠ y) (q : Q (.bl true) S) : neP (.str x) (.str y) S Q := ne_of (eqOf_ss S x y) (by rw [decide_eq_false h]; exact q)


theorem cut_tail {α : Type} (x : α) (xs : List α) : cutL (x :: xs) (some 1) none = xs := by
  have e : HT.sIx (x :: xs).length 0 (some 1) = 1 := by
    have := HT.sIx_nat (x :: xs).length 0 1
    rw [show ((1 : Nat) : Int) = 1 from rfl] at this
    rw [this, List.length_cons]
    omega
  unfold cutL
  rw [e]
  show (List.drop 1 (x :: xs)).take ((x :: xs).length - 1) = xs
  rw [List.drop_succ_cons, List.drop_zero]
  exact List.take_of_length_le (by simp)
theorem cut_from {α : Type} (xs ys : List α) {i : Int} (h : i = (xs.length : Int)) : cutL (xs ++ ys) (some i) none = ys := by
  subst h
  unfold cutL
  rw [HT.sIx_nat, show min xs.length (xs ++ ys).length = xs.length from by rw [List.length_append]; omega, List.drop_left]
  exact List.take_of_length_le (by show ys.length ≤ (xs ++ ys).length - xs.length; rw [List.length_append]; omega)
theorem take_to {α : Type} (xs ys : List α) {i : Int} (h : i = (xs.length : Int)) : (xs ++ ys).take (HT.sIx (xs ++ ys).length 0 (some i)) = xs := by
  subst h
  rw [HT.sIx_nat, show min xs.length (xs ++ ys).length = xs.length from by rw [List.length_append]; omega, List.take_left]
/-! ### expressions -/
section
variable {ρ : ISt} {S : Sto} {a b m : IE} {x y v w : Val} {i j : Int} {t u : IT} {D : IEnds} {Kx A1 A2 : IS} {Γ : Calls} {f : Str} {k : Bool}
theorem EV.neg (ha : EV a ρ S (.int i)) : EV (un1 negP a) ρ S (.int (-i)) := fun Q E q => ha _ _ q
theorem EV.max2 (ha : EV a ρ S (.int i)) (hb : EV b ρ S (.int j)) : EV (callP maxP (consA a (consA b nilA))) ρ S (.int (if j > i then j else i)) := fun Q E q => ha _ _ (hb _ _ q)
theorem EV.sort {ns : List Int} (ha : EV a ρ S (.lst (ns.map Val.int))) : EV (callP (sortP false) (consA a nilA)) ρ S (.lst ((srtB ltI ns).map Val.int)) := fun Q E q => ha _ _ (sort_i q)
theorem EV.eqb (ha : EV a ρ S x) (hb : EV b ρ S y) (hk : eqOf S x y = some k) : EV (bin2 eqP a b) ρ S (.bl k) := fun Q E q => ha _ _ (hb _ _ (eq_of hk q))
theorem EV.cmpb {p : Int → Int → Bool} (ha : EV a ρ S (.int i)) (hb : EV b ρ S (.int j)) (hk : p i j = k) : EV (bin2 (cmpP p) a b) ρ S (.bl k) := fun Q E q => ha _ _ (hb _ _ (by show Q (.bl (p i j)) S; rw [hk]; exact q))
theorem EV.call3 {z : Val} {c : IE} (ha : EV a ρ S x) (hb : EV b ρ S y) (hc : EV c ρ S z) (h : ∀ (Q : VQ) (E : EQ), Q v S → Γ f [x, y, z] S Q E) : EV (callF Γ f (consA a (consA b (consA c nilA)))) ρ S v := fun Q E q => ha _ _ (hb _ _ (hc _ _ (h _ _ q)))
theorem EV.tup0 : EV (tupI nilA) ρ S (.tup []) := fun Q E q => ⟨show 0 ≤ sizeLine by decide, q⟩
theorem EV.call4 {z u : Val} {c d : IE} (ha : EV a ρ S x) (hb : EV b ρ S y) (hc : EV c ρ S z) (hd : EV d ρ S u) (h : ∀ (Q : VQ) (E : EQ), Q v S → Γ f [x, y, z, u] S Q E) : EV (callF Γ f (consA a (consA b (consA c (consA d nilA))))) ρ S v := fun Q E q => ha _ _ (hb _ _ (hc _ _ (hd _ _ (h _ _ q))))
theorem EV.tup4 {z u : Val} {c d : IE} (ha : EV a ρ S x) (hb : EV b ρ S y) (hc : EV c ρ S z) (hd : EV d ρ S u) : EV (tupI (consA a (consA b (consA c (consA d nilA))))) ρ S (.tup [x, y, z, u]) := fun Q E q => ha _ _ (hb _ _ (hc _ _ (hd _ _ ⟨show 4 ≤ sizeLine by decide, q⟩)))
theorem sq_par3 {i1 i2 i3 : Nat} {z : Val} {c : IE} {ρ1 : ISt} (ha : EV a ρ S x) (hb : EV b ρ S y) (hc : EV c ρ S z) (e : setAll ρ [i1, i2, i3] [x, y, z] = some ρ1) (q : Kx D ρ1 S) : seqI (parI [i1, i2, i3] (consA a (consA b (consA c nilA)))) Kx D ρ S := ha _ _ (hb _ _ (hc _ _ (by
  show someP (setAll ρ [i1, i2, i3] [x, y, z]) fun ρ1 => Kx D ρ1 S
  rw [e]
  exact q)))
theorem EV.revL {xs : List Val} (ha : EV a ρ S (.lst xs)) : EV (revI false a) ρ S (.lst xs.reverse) := fun Q E q => ha _ _ q
theorem EV.lst0 : EV (lstI false nilA) ρ S (.lst []) := fun Q E q => ⟨show 0 ≤ sizeLine by decide, q⟩
theorem EV.tup3 {z : Val} {c : IE} (ha : EV a ρ S x) (hb : EV b ρ S y) (hc : EV c ρ S z) : EV (tupI (consA a (consA b (consA c nilA)))) ρ S (.tup [x, y, z]) := fun Q E q => ha _ _ (hb _ _ (hc _ _ ⟨show 3 ≤ sizeLine by decide, q⟩))
theorem EV.lst3 {z : Val} {c : IE} (ha : EV a ρ S x) (hb : EV b ρ S y) (hc : EV c ρ S z) : EV (lstI false (consA a (consA b (consA c nilA)))) ρ S (.lst [x, y, z]) := fun Q E q => ha _ _ (hb _ _ (hc _ _ ⟨show 3 ≤ sizeLine by decide, q⟩))
theorem EV.count {ns : List Int} (ha : EV a ρ S (.lst (ns.map Val.int))) (hb : EV b ρ S (.int i)) : EV (lmethI countP a (consA b nilA)) ρ S (.int (ns.count i : Nat)) := fun Q E q => ha _ _ ⟨rfl, hb _ _ ⟨by
  show someP (intsOf (ns.map Val.int)) fun ns => Q (.int (ns.count i : Nat)) S
  rw [intsOf_map]
  exact q⟩⟩
theorem EV.tab {kvs : List (Str × Str)} {z g : Str} (ha : EV a ρ S (.str z)) (h : kvs.lookup z = some g) : EV (un1 (tabP kvs) a) ρ S (.fn g) := fun Q E q => ha _ _ (by
  show someP (kvs.lookup z) fun f => Q (.fn f) S
  rw [h]
  exact q)
theorem TT.tru (ha : EV a ρ S x) (h : truOf S x = some k) : TT (tst a) ρ S k := fun Q E q => ha _ _ (by
  show someP (truOf S x) fun k => Q k S
  rw [h]
  exact q)
theorem TT.eqS {p q : Str} (ha : EV a ρ S (.str p)) (hb : EV b ρ S (.str q)) (hk : decide (p = q) = k) : TT (tstB (bin2 eqP a b)) ρ S k := TT.eq ha hb (by rw [eqOf_ss, hk])
theorem TT.neS {p q : Str} (ha : EV a ρ S (.str p)) (hb : EV b ρ S (.str q)) (hk : decide (p = q) = !k) : TT (tstB (bin2 neP a b)) ρ S k := TT.ne ha hb (by rw [eqOf_ss, hk])
theorem TT.eqI (ha : EV a ρ S (.int i)) (hb : EV b ρ S (.int j)) (hk : decide (i = j) = k) : TT (tstB (bin2 eqP a b)) ρ S k := TT.eq ha hb (by rw [eqOf_ii, hk])
theorem TT.neI (ha : EV a ρ S (.int i)) (hb : EV b ρ S (.int j)) (hk : decide (i = j) = !k) : TT (tstB (bin2 neP a b)) ρ S k := TT.ne ha hb (by rw [eqOf_ii, hk])
theorem TT.inT {p : Str} {ws : List Str} (ha : EV a ρ S (.str p)) (hb : EV b ρ S (.tup (ws.map Val.str))) (hk : decide (p ∈ ws) = k) : TT (tstB (bin2 (inP false) a b)) ρ S k := TT.inn ha hb (by rw [inw_tup, hk])
theorem TT.inL {p : Str} {ws : List Str} (ha : EV a ρ S (.str p)) (hb : EV b ρ S (.lst (ws.map Val.str))) (hk : decide (p ∈ ws) = k) : TT (tstB (bin2 (inP false) a b)) ρ S k := TT.inn ha hb (by rw [inw_lst, hk])
theorem sq_for {it : II} {t : Tg} {bd : IS} {g : Option Addr} {xs : List Val} (hit : ∀ (K : Option Addr → List Val → Sto → Prop) (E : EQ), K g xs S → it ρ S K E) (q : forGo g xs t bd { D with nx := Kx D } xs ρ S) : seqI (forI it t bd) Kx D ρ S := hit _ _ q
theorem sq_slc {n : Nat} {o : IE} {lo hi : IO} {ys : List Val} (h : EV (sliceI false o lo hi) ρ S (.lst ys)) (q : ∀ l, S l = none → Kx D (setS ρ n (.ref l)) (S.put l (.lst ys))) : seqI (setI (.nm n) (sliceI true o lo hi)) Kx D ρ S := by
  have key : ∀ (x : Val) (l h : Option Int) (S3 : Sto) (Q : VQ), cutP true x l h S3 Q = cutP false x l h S3 fun v S2 => match v with
      | .lst ys => newL true ys S2 Q
      | .tup ys => Q (.tup ys) S2
      | _ => False := fun x l h S3 Q => by
    unfold cutP
    cases x <;> rfl
  show o ρ S (fun x S1 => lo ρ S1 (fun l S2 => hi ρ S2 (fun h S3 => cutP true x l h S3 fun v S1 => someP (tgI (.nm n) v ρ) fun ρ1 => Kx D ρ1 S1) (D.ex ρ)) (D.ex ρ)) (D.ex ρ)
  simp only [key]
  exact h _ _ q
theorem sq_lcc {n : Nat} {it : II} {tg : Tg} {tt : IT} {te : IE} {own : List Nat} {ys : List Val} (h : EV (lcI false it tg tt te own) ρ S (.lst ys)) (q : ∀ l, S l = none → Kx D (setS ρ n (.ref l)) (S.put l (.lst ys))) : seqI (setI (.nm n) (lcI true it tg tt te own)) Kx D ρ S := h (fun v S2 => match v with
  | .lst ys => newL true ys S2 fun v S1 => someP (tgI (.nm n) v ρ) fun ρ1 => Kx D ρ1 S1
  | _ => False) (D.ex ρ) q
theorem EV.sliceR {xs ys : List Val} {lo hi : IO} {l h : Option Int} {e : Addr} (ha : EV a ρ S (.ref e)) (he : S e = some (.lst xs)) (hl : ∀ (Q : Option Int → Sto → Prop) (E : EQ), Q l S → lo ρ S Q E) (hh : ∀ (Q : Option Int → Sto → Prop) (E : EQ), Q h S → hi ρ S Q E) (e2 : cutL xs l h = ys) : EV (sliceI false a lo hi) ρ S (.lst ys) := fun Q E q => ha _ _ (hl _ _ (hh _ _ (by
  show someP (lsqOf S (.ref e)) fun xs => newL false (cutL xs l h) S Q
  rw [lsq_ref he]
  show Q (.lst (cutL xs l h)) S
  rw [e2]
  exact q)))
theorem EV.tzip {xs ys : List Val} (ha : EV a ρ S (.tup xs)) (hb : EV b ρ S (.lst ys)) : EV (tzipI a b) ρ S (.set (zipV xs ys)) := fun Q E q => ha _ _ (hb _ _ q)
theorem sq_del {n : Nat} {e : Addr} {xs ys : List Val} (hn : ∀ K : Val → Prop, K (.ref e) → getS ρ n K) (he : S e = some (.lst xs)) (hl : xs.length ≤ sizeLine) (ha : EV a ρ S (.int i)) (e2 : xs.take (HT.sIx xs.length 0 (some i)) = ys) (q : Kx D ρ (S.put e (.lst ys))) : seqI (sdelI (varI n) (partI a)) Kx D ρ S := hn _ (ha _ _ ⟨by
  show (match S e with
    | some (.lst xs) => xs.length ≤ sizeLine ∧ Kx D ρ (S.put e (.lst (xs.take (HT.sIx xs.length 0 (some i)))))
    | _ => False)
  rw [he]
  refine ⟨hl, ?_⟩
  rw [e2]
  exact q⟩)
/-! ### stacks -/
theorem pop_end {S : Sto} {Q : VQ} {a : Addr} {xs : List Val} {y : Val} (h : S a = some (.lst (xs ++ [y]))) (q : Q y (S.put a (.lst xs))) : popP (.ref a) [] S Q := pop_of h (y := y) (by simp) (by rw [List.dropLast_concat]; exact q)
theorem sq_app {n : Nat} {a : Addr} {xs : List Val} (hn : ∀ K : Val → Prop, K (.ref a) → getS ρ n K) (h : S a = some (.lst xs)) (hl : xs.length < sizeLine) (hm : EV m ρ S v) (q : Kx D ρ (S.put a (.lst (xs ++ [v])))) : seqI (dropI (lmethI appendP (varI n) (consA m nilA))) Kx D ρ S := hn _ ⟨isl_ref h, hm _ _ (app_of h hl q)⟩
theorem sq_pop {n j : Nat} {a : Addr} {xs : List Val} (hn : ∀ K : Val → Prop, K (.ref a) → getS ρ n K) (h : S a = some (.lst (xs ++ [v]))) (q : Kx D (setS ρ j v) (S.put a (.lst xs))) : seqI (setI (.nm j) (lmethI popP (varI n) nilA)) Kx D ρ S := hn _ ⟨isl_ref h, pop_end h q⟩
theorem sq_pop2 {n i j : Nat} {a : Addr} {xs : List Val} {ρ1 : ISt} (hn : ∀ K : Val → Prop, K (.ref a) → getS ρ n K) (h : S a = some (.lst (xs ++ [x] ++ [y]))) (e : setAll ρ [i, j] [y, x] = some ρ1) (q : Kx D ρ1 (S.put a (.lst xs))) : seqI (parI [i, j] (consA (lmethI popP (varI n) nilA) (consA (lmethI popP (varI n) nilA) nilA))) Kx D ρ S := hn _ ⟨isl_ref h, pop_end h (hn _ ⟨isl_ref put_same, pop_end put_same (by
  show someP (setAll ρ [i, j] [y, x]) fun ρ1 => Kx D ρ1 _
  rw [e, put_put]
  exact q)⟩)⟩
theorem sq_pop4 {n : Nat} {is : List Nat} {a : Addr} {xs : List Val} {x1 x2 x3 x4 : Val} {ρ1 : ISt} (hn : ∀ K : Val → Prop, K (.ref a) → getS ρ n K) (h : S a = some (.lst (xs ++ [x1] ++ [x2] ++ [x3] ++ [x4]))) (e : setAll ρ is [x4, x3, x2, x1] = some ρ1) (q : Kx D ρ1 (S.put a (.lst xs))) :
    seqI (setI (.tp is) (tupI (consA (lmethI popP (varI n) nilA) (consA (lmethI popP (varI n) nilA) (consA (lmethI popP (varI n) nilA) (consA (lmethI popP (varI n) nilA) nilA)))))) Kx D ρ S := hn _ ⟨isl_ref h, pop_end h (hn _ ⟨isl_ref put_same, pop_end put_same (hn _ ⟨isl_ref put_same, pop_end put_same (hn _ ⟨isl_ref put_same, pop_end put_same ⟨show 4 ≤ sizeLine by decide, by
  show someP (setAll ρ is [x4, x3, x2, x1]) fun ρ1 => Kx D ρ1 _
  rw [e, put_put, put_put, put_put]
  exact q⟩⟩)⟩)⟩)⟩
theorem EV.maxL {ns : List Int} (ha : EV a ρ S (.lst (ns.map Val.int))) (hi : i ∈ ns) (hm : ∀ y ∈ ns, y ≤ i) : EV (callP maxP (consA a nilA)) ρ S (.int i) := fun Q E q => ha _ _ (by
  show someP (intsOf (ns.map Val.int)) fun ns => 0 < ns.length ∧ ∀ m, m ∈ ns → (∀ y, y ∈ ns → y ≤ m) → Q (.int m) S
  rw [intsOf_map]
  refine ⟨List.length_pos_of_mem hi, fun m h1 h2 => ?_⟩
  have e : m = i := Int.le_antisymm (hm m h1) (h2 i hi)
  rw [e]
  exact q)
end
end TL

/-! TLy: expressions that draw: DV (a value of which something is known, nothing but the deal has changed), DA (rows of such). -/
namespace TL
open PySem PySem.Spec L2
open PyProof.Rows hiding St

/-- two rows that go together -/
inductive F2 {α : Type} (R : α → Val → Prop) : List α → List Val → Prop
  | nil : F2 R [] []
  | cons {x : α} {v : Val} {xs : List α} {vs : List Val} : R x v → F2 R xs vs → F2 R (x :: xs) (v :: vs)
theorem F2.snoc {α : Type} {R : α → Val → Prop} {x : α} {v : Val} : ∀ {xs : List α} {vs : List Val}, F2 R xs vs → R x v → F2 R (xs ++ [x]) (vs ++ [v])
  | _, _, .nil, h => .cons h .nil
  | _, _, .cons h1 t, h => .cons h1 (t.snoc h)
theorem F2.length {α : Type} {R : α → Val → Prop} : ∀ {xs : List α} {vs : List Val}, F2 R xs vs → vs.length = xs.length
  | _, _, .nil => rfl
  | _, _, .cons _ t => by rw [List.length_cons, List.length_cons, t.length]
theorem f2_ints {α : Type} {Pe : Int → Prop} : ∀ {ns : List α} {vs : List Val}, F2 (fun _ v => ∃ n : Int, v = .int n ∧ Pe n) ns vs → ∃ ms : List Int, vs = ms.map Val.int ∧ ms.length = ns.length ∧ ∀ m ∈ ms, Pe m
  | _, _, .nil => ⟨[], rfl, rfl, fun m hm => nomatch hm⟩
  | _, _, .cons ⟨n, e, hn⟩ t => by
    obtain ⟨ms, h1, h2, h3⟩ := f2_ints t
    refine ⟨n :: ms, by rw [e, h1]; rfl, by rw [List.length_cons, List.length_cons, h2], fun m hm => ?_⟩
    rcases List.mem_cons.mp hm with rfl | hm
    · exact hn
    · exact h3 m hm
abbrev GAny (Γ : Calls) : Prop := ∀ (a b : Addr) (bound : Int) (S : Sto) (Q : VQ) (E : EQ), Deal a b S → 0 < bound → bound < 2 ^ 200 → (∀ k S', 0 ≤ k → k < bound → Deal a b S' → Fr a b S S' → Q (.int k) S') → Γ "_law_any" [.ref a, .int bound] S Q E
abbrev GOf (Γ : Calls) : Prop := ∀ (a b : Addr) (xs : List Val) (S : Sto) (Q : VQ) (E : EQ), Deal a b S → xs ≠ [] → xs.length ≤ sizeLine → (∀ v S', v ∈ xs → Deal a b S' → Fr a b S S' → Q v S') → Γ "_law_of" [.ref a, .lst xs] S Q E
abbrev DV (a b : Addr) (m : IE) (ρ : ISt) (P : Val → Prop) : Prop := ∀ (S : Sto) (Q : VQ) (E : EQ), Deal a b S → (∀ v S', P v → Deal a b S' → Fr a b S S' → Q v S') → m ρ S Q E
abbrev DA (a b : Addr) (m : IA) (ρ : ISt) (P : List Val → Prop) : Prop := ∀ (S : Sto) (Q : List Val → Sto → Prop) (E : EQ), Deal a b S → (∀ vs S', P vs → Deal a b S' → Fr a b S S' → Q vs S') → m ρ S Q E
section
variable {a b : Addr} {m e e1 e2 : IE} {as r : IA} {ρ : ISt} {P P1 P2 : Val → Prop} {R : List Val → Prop} {Γ : Calls} {f : Str} {v : Val} {n : Nat}
theorem DV.pure (h : ∀ S, EV m ρ S v) (hp : P v) : DV a b m ρ P := fun S Q E hd q => h S _ _ (q v S hp hd Fr.refl)
theorem DV.imp (h : DV a b m ρ P1) (hp : ∀ v, P1 v → P v) : DV a b m ρ P := fun S Q E hd q => h S Q E hd fun v S' h1 => q v S' (hp v h1)
theorem DA.nil (hp : R []) : DA a b nilA ρ R := fun S Q E hd q => q [] S hp hd Fr.refl
theorem DA.cons (h : DV a b e ρ P1) (h2 : ∀ v, P1 v → DA a b r ρ fun vs => R (v :: vs)) : DA a b (consA e r) ρ R := fun S Q E hd q => h S _ _ hd fun v S1 hv hd1 f1 => h2 v hv S1 _ _ hd1 fun vs S2 hvs hd2 f2 => q (v :: vs) S2 hvs hd2 (f1.trans f2)
theorem DV.tup (h : DA a b as ρ fun vs => vs.length ≤ sizeLine ∧ P (.tup vs)) : DV a b (tupI as) ρ P := fun S Q E hd q => h S _ _ hd fun vs S' hv hd1 f1 => ⟨hv.1, q _ S' hv.2 hd1 f1⟩
theorem DV.lst (h : DA a b as ρ fun vs => vs.length ≤ sizeLine ∧ P (.lst vs)) : DV a b (lstI false as) ρ P := fun S Q E hd q => h S _ _ hd fun vs S' hv hd1 f1 => ⟨hv.1, q _ S' hv.2 hd1 f1⟩
theorem DV.add (h1 : DV a b e1 ρ fun v => ∃ i, v = .int i ∧ P1 (.int i)) (h2 : DV a b e2 ρ fun v => ∃ j, v = .int j ∧ P2 (.int j)) (hp : ∀ i j, P1 (.int i) → P2 (.int j) → P (.int (i + j))) {c : Bool} : DV a b (bin2 (addP c) e1 e2) ρ P := fun S Q E hd q => h1 S _ _ hd fun v S1 hv hd1 f1 => by
  obtain ⟨i, rfl, hi⟩ := hv
  exact h2 S1 _ _ hd1 fun w S2 hw hd2 f2 => by
    obtain ⟨j, rfl, hj⟩ := hw
    exact q _ S2 (hp i j hi hj) hd2 (f1.trans f2)
theorem DV.sub (h1 : DV a b e1 ρ fun v => ∃ i, v = .int i ∧ P1 (.int i)) (h2 : DV a b e2 ρ fun v => ∃ j, v = .int j ∧ P2 (.int j)) (hp : ∀ i j, P1 (.int i) → P2 (.int j) → P (.int (i - j))) : DV a b (bin2 subP e1 e2) ρ P := fun S Q E hd q => h1 S _ _ hd fun v S1 hv hd1 f1 => by
  obtain ⟨i, rfl, hi⟩ := hv
  exact h2 S1 _ _ hd1 fun w S2 hw hd2 f2 => by
    obtain ⟨j, rfl, hj⟩ := hw
    exact q _ S2 (hp i j hi hj) hd2 (f1.trans f2)
theorem DV.addL (h1 : DV a b e1 ρ fun v => ∃ xs, v = .lst xs ∧ P1 (.lst xs)) (h2 : ∀ xs, P1 (.lst xs) → DV a b e2 ρ fun v => ∃ ys, v = .lst ys ∧ xs.length + ys.length ≤ sizeLine ∧ P (.lst (xs ++ ys))) : DV a b (bin2 (addP false) e1 e2) ρ P := fun S Q E hd q => h1 S _ _ hd fun v S1 hv hd1 f1 => by
  obtain ⟨xs, rfl, hi⟩ := hv
  exact h2 xs hi S1 _ _ hd1 fun w S2 hw hd2 f2 => by
    obtain ⟨ys, rfl, hl, hj⟩ := hw
    exact ⟨hl, q _ S2 hj hd2 (f1.trans f2)⟩
/-- a def that draws no more -/
theorem DV.call (h : DA a b as ρ fun vs => ∀ (S : Sto) (Q : VQ) (E : EQ), Deal a b S → (∀ v S', P v → Deal a b S' → Fr a b S S' → Q v S') → Γ f vs S Q E) : DV a b (callF Γ f as) ρ P := fun S Q E hd q => h S _ _ hd fun vs S' hv hd1 f1 => hv S' _ _ hd1 fun v S2 hp hd2 f2 => q v S2 hp hd2 (f1.trans f2)
theorem DA.one (h : DV a b e ρ fun v => R [v]) : DA a b (consA e nilA) ρ R := DA.cons h fun v hv => DA.nil hv
theorem DA.var {w : Val} (hn : ∀ K : Val → Prop, K w → getS ρ n K) (h2 : DA a b r ρ fun vs => R (w :: vs)) : DA a b (consA (varI n) r) ρ R := fun S Q E hd q => hn _ (h2 S _ _ hd fun vs S' hv hd1 f1 => q _ S' hv hd1 f1)
theorem DV.anyD (hA : GAny Γ) (hn : ∀ K : Val → Prop, K (.ref a) → getS ρ n K) (he : DV a b e ρ fun v => ∃ k, v = .int k ∧ 0 < k ∧ k < 2 ^ 200 ∧ ∀ i, 0 ≤ i → i < k → P (.int i)) : DV a b (callF Γ "_law_any" (consA (varI n) (consA e nilA))) ρ P := DV.call (DA.var hn (DA.one (he.imp fun v hv S Q E hd q => by
  obtain ⟨k, rfl, h1, h2, h3⟩ := hv
  exact hA a b k S Q E hd h1 h2 fun i S' i1 i2 hd' f => q _ S' (h3 i i1 i2) hd' f)))
theorem DV.any {k : Int} (hA : GAny Γ) (hn : ∀ K : Val → Prop, K (.ref a) → getS ρ n K) (h0 : 0 < k) (h1 : k < 2 ^ 200) (hp : ∀ i, 0 ≤ i → i < k → P (.int i)) : DV a b (callF Γ "_law_any" (consA (varI n) (consA (conI (.int k)) nilA))) ρ P := DV.anyD hA hn (DV.pure (fun S => EV.con _) ⟨k, rfl, h0, h1, hp⟩)
theorem DV.of (hO : GOf Γ) (hn : ∀ K : Val → Prop, K (.ref a) → getS ρ n K) (he : DV a b e ρ fun v => ∃ xs, v = .lst xs ∧ xs ≠ [] ∧ xs.length ≤ sizeLine ∧ ∀ x ∈ xs, P x) : DV a b (callF Γ "_law_of" (consA (varI n) (consA e nilA))) ρ P := DV.call (DA.var hn (DA.one (he.imp fun v hv S Q E hd q => by
  obtain ⟨xs, rfl, h1, h2, h3⟩ := hv
  exact hO a b xs S Q E hd h1 h2 fun v S' hv hd' f => q _ S' (h3 v hv) hd' f)))
theorem DV.var {w : Val} (hn : ∀ K : Val → Prop, K w → getS ρ n K) (hp : P w) : DV a b (varI n) ρ P := DV.pure (fun S => EV.var hn) hp
theorem DV.con {w : Val} (hp : P w) : DV a b (conI w) ρ P := DV.pure (fun S => EV.con _) hp
theorem DV.ife {t : IT} {k : Bool} (ht : ∀ S, TT t ρ S k) (h : if k then DV a b e1 ρ P else DV a b e2 ρ P) : DV a b (ifE t e1 e2) ρ P := fun S Q E hd q => ht S _ _ (by
  cases k with
  | true => exact h S Q E hd q
  | false => exact h S Q E hd q)
/-- a comprehension that draws, over a walk of its own -/
theorem DV.lc {α : Type} (en : α → Val) (ns : List α) (Pe : α → Val → Prop) {it : II} {tg : Tg} {te : IE} {own : List Nat} (hit : ∀ (S : Sto) (K : Option Addr → List Val → Sto → Prop) (E : EQ), K none (ns.map en) S → it ρ S K E) (hl : ns.length ≤ sizeLine)
    (hx : ∀ n ∈ ns, ∃ ρ1, tgI tg (en n) (wipeI ρ own) = some ρ1 ∧ DV a b te ρ1 (Pe n)) (hp : ∀ vs, F2 Pe ns vs → P (.lst vs)) : DV a b (lcI false it tg yesT te own) ρ P := fun S Q E hd q => by
  refine hit S _ _ ?_
  refine lcGo_ind (fun r acc S' => ∃ ls ms, ns = ms ++ ls ∧ r = ls.map en ∧ F2 Pe ms acc ∧ Deal a b S' ∧ Fr a b S S') ?_ ?_ _ _ _ ⟨ns, [], rfl, rfl, .nil, hd, Fr.refl⟩
  · rintro acc S' ⟨ls, ms, e1, e2, e3, hd', fr⟩
    have : ls = [] := List.map_eq_nil_iff.mp e2.symm
    subst this
    rw [List.append_nil] at e1
    subst e1
    exact ⟨trivial, q _ S' (hp acc e3) hd' fr⟩
  · rintro x r acc S' Kn hK ⟨ls, ms, e1, e2, e3, hd', fr⟩
    cases ls with
    | nil => cases e2
    | cons l ls =>
      have ex : x = en l := (List.cons.inj e2).1
      have er : r = ls.map en := (List.cons.inj e2).2
      subst ex
      obtain ⟨ρ1, h1, h2⟩ := hx l (by rw [e1]; exact List.mem_append_right _ List.mem_cons_self)
      refine ⟨trivial, ?_⟩
      rw [h1]
      have hlen : ns.length = ms.length + (ls.length + 1) := by rw [e1, List.length_append, List.length_cons]
      have hl3 := e3.length
      exact h2 S' _ _ hd' fun v S2 hv hd2 f2 => ⟨by omega, hK _ _ ⟨ls, ms ++ [l], by rw [e1, List.append_assoc]; rfl, er, e3.snoc hv, hd2, fr.trans f2⟩⟩
/-- .. over a range whose end is drawn -/
theorem DV.lcR {tg : Tg} {tt : IT} {te : IE} {own : List Nat} {P0 : Int → Prop} (he : DV a b e ρ fun v => ∃ j, v = .int j ∧ P0 j) (h2 : ∀ j, P0 j → DV a b (lcI false (rng1I (conI (.int j))) tg tt te own) ρ P) : DV a b (lcI false (rng1I e) tg tt te own) ρ P := fun S Q E hd q => he S _ _ hd fun v S1 hv hd1 f1 => by
  obtain ⟨j, rfl, hj⟩ := hv
  exact h2 j hj S1 Q E hd1 fun v S' hv hd' f => q v S' hv hd' (f1.trans f)
theorem DV.lcE {tg : Tg} {tt : IT} {te : IE} {own : List Nat} {j : Int} (he : ∀ S, EV e ρ S (.int j)) (h2 : DV a b (lcI false (rng1I (conI (.int j))) tg tt te own) ρ P) : DV a b (lcI false (rng1I e) tg tt te own) ρ P := fun S Q E hd q => he S _ _ (h2 S Q E hd q)
theorem hit_rng {j : Nat} (hj : j < 1000000) (S : Sto) (K : Option Addr → List Val → Sto → Prop) (E : EQ) (q : K none ((List.range j).map fun i : Nat => Val.int (0 + (i : Int))) S) : rng1I (conI (.int (j : Int))) ρ S K E := ⟨⟨by omega, by omega⟩, q⟩
/-- .. whose test draws -/
theorem DV.lcT {α : Type} (en : α → Val) (ns : List α) (f : α → Val) {it : II} {tg : Tg} {tt : IT} {te : IE} {own : List Nat} (hit : ∀ (S : Sto) (K : Option Addr → List Val → Sto → Prop) (E : EQ), K none (ns.map en) S → it ρ S K E) (hl : ns.length ≤ sizeLine)
    (hx : ∀ n ∈ ns, ∃ ρ1, tgI tg (en n) (wipeI ρ own) = some ρ1 ∧ (∀ (S : Sto) (Q : Bool → Sto → Prop) (E : EQ), Deal a b S → (∀ k S', Deal a b S' → Fr a b S S' → Q k S') → tt ρ1 S Q E) ∧ ∀ S, EV te ρ1 S (f n)) (hp : ∀ ms : List α, ms.Sublist ns → P (.lst (ms.map f))) : DV a b (lcI false it tg tt te own) ρ P := fun S Q E hd q => by
  refine hit S _ _ ?_
  refine lcGo_ind (fun r acc S' => ∃ ls ms ks, ns = ms ++ ls ∧ r = ls.map en ∧ acc = ks.map f ∧ ks.Sublist ms ∧ Deal a b S' ∧ Fr a b S S') ?_ ?_ _ _ _ ⟨ns, [], [], rfl, rfl, rfl, List.Sublist.refl _, hd, Fr.refl⟩
  · rintro acc S' ⟨ls, ms, ks, e1, e2, rfl, e4, hd', fr⟩
    have : ls = [] := List.map_eq_nil_iff.mp e2.symm
    subst this
    rw [List.append_nil] at e1
    subst e1
    exact ⟨trivial, q _ S' (hp ks e4) hd' fr⟩
  · rintro x r acc S' Kn hK ⟨ls, ms, ks, e1, e2, rfl, e4, hd', fr⟩
    cases ls with
    | nil => cases e2
    | cons l ls =>
      have ex : x = en l := (List.cons.inj e2).1
      have er : r = ls.map en := (List.cons.inj e2).2
      subst ex
      obtain ⟨ρ1, h1, h2, h3⟩ := hx l (by rw [e1]; exact List.mem_append_right _ List.mem_cons_self)
      refine ⟨trivial, ?_⟩
      rw [h1]
      have hlen : ns.length = ms.length + (ls.length + 1) := by rw [e1, List.length_append, List.length_cons]
      have hl3 := e4.length_le
      refine h2 S' _ _ hd' fun k S2 hd2 f2 => ?_
      cases k with
      | true => exact h3 S2 _ _ ⟨by rw [List.length_map]; omega, hK _ _ ⟨ls, ms ++ [l], ks ++ [l], by rw [e1, List.append_assoc]; rfl, er, by rw [List.map_append]; rfl, e4.append (List.Sublist.refl _), hd2, fr.trans f2⟩⟩
      | false => exact hK _ _ ⟨ls, ms ++ [l], ks, by rw [e1, List.append_assoc]; rfl, er, rfl, List.Sublist.trans e4 (List.sublist_append_left _ _), hd2, fr.trans f2⟩
/-! statements -/
variable {D : IEnds} {Kx : IS} {S : Sto}
theorem dq_set {i : Nat} (h : DV a b e ρ P) (hd : Deal a b S) (q : ∀ v S', P v → Deal a b S' → Fr a b S S' → Kx D (setS ρ i v) S') : seqI (setI (.nm i) e) Kx D ρ S := h S _ _ hd q
theorem dq_par {is : List Nat} (h : DA a b as ρ R) (hd : Deal a b S) (q : ∀ vs S', R vs → Deal a b S' → Fr a b S S' → ∃ ρ1, setAll ρ is vs = some ρ1 ∧ Kx D ρ1 S') : seqI (parI is as) Kx D ρ S := h S _ _ hd fun vs S' hv hd1 f1 => by
  obtain ⟨ρ1, e, q⟩ := q vs S' hv hd1 f1
  show someP (setAll ρ is vs) fun ρ1 => Kx D ρ1 S'
  rw [e]
  exact q
theorem sq_tpA {is : List Nat} {Rr : List Val → Sto → Prop} (h : ∀ (Q : List Val → Sto → Prop) (E : EQ), (∀ vs S', Rr vs S' → Q vs S') → as ρ S Q E) (q : ∀ vs S', Rr vs S' → vs.length ≤ sizeLine ∧ ∃ ρ1, setAll ρ is vs = some ρ1 ∧ Kx D ρ1 S') : seqI (setI (.tp is) (tupI as)) Kx D ρ S := h _ _ fun vs S' hv => by
  obtain ⟨hl, ρ1, e, q⟩ := q vs S' hv
  refine ⟨hl, ?_⟩
  show someP (setAll ρ is vs) fun ρ1 => Kx D ρ1 S'
  rw [e]
  exact q
theorem dq_lst {i : Nat} (h : DA a b as ρ R) (hd : Deal a b S) (q : ∀ vs S', R vs → Deal a b S' → Fr a b S S' → vs.length ≤ sizeLine ∧ ∀ l, S' l = none → Kx D (setS ρ i (.ref l)) (S'.put l (.lst vs))) : seqI (setI (.nm i) (lstI true as)) Kx D ρ S := h S _ _ hd fun vs S' hv hd1 f1 => q vs S' hv hd1 f1
theorem dq_ret (h : DV a b e ρ P) (hd : Deal a b S) (q : ∀ v S', P v → Deal a b S' → Fr a b S S' → D.rt v S') : seqI (retI false e) Kx D ρ S := h S _ _ hd q
theorem dq_app {i : Nat} {l : Addr} {xs : List Val} (hn : ∀ K : Val → Prop, K (.ref l) → getS ρ i K) (hl : S l = some (.lst xs)) (ha : l ≠ a) (hb : l ≠ b) (hlen : xs.length < sizeLine) (h : DV a b e ρ P) (hd : Deal a b S) (q : ∀ v S', P v → Deal a b S' → Fr a b S S' → Kx D ρ (S'.put l (.lst (xs ++ [v])))) : seqI (dropI (lmethI appendP (varI i) (consA e nilA))) Kx D ρ S := hn _ ⟨isl_ref hl, h S _ _ hd fun v S' hv hd1 f1 => app_of ((f1.eq l ha hb).trans hl) hlen (q v S' hv hd1 f1)⟩
theorem dq_if {t : IT} {A1 A2 : IS} (ht : ∀ (Q : Bool → Sto → Prop) (E : EQ), (∀ k S', Deal a b S' → Fr a b S S' → Q k S') → t ρ S Q E) (q : ∀ S', Deal a b S' → Fr a b S S' → A1 { D with nx := Kx D } ρ S' ∧ A2 { D with nx := Kx D } ρ S') : seqI (ifI t A1 A2) Kx D ρ S := ht _ _ fun k S' hd f => by
  cases k with
  | true => exact (q S' hd f).1
  | false => exact (q S' hd f).2
theorem Fr.put {l : Addr} {c : Cell} {S S' : Sto} (h : Fr a b S S') : Fr a b (S.put l c) (S'.put l c) := ⟨fun x h1 h2 => by
  unfold Sto.put
  split
  · rfl
  · exact h.eq x h1 h2⟩
end
theorem er_perm {α : Type} : ∀ (l : List α) (k : Nat) (h : k < l.length), (l[k] :: l.eraseIdx k).Perm l
  | x :: l, 0, _ => List.Perm.refl _
  | x :: l, k + 1, h => ((List.Perm.swap x (l[k]'(Nat.lt_of_succ_lt_succ h)) (l.eraseIdx k)).trans ((er_perm l k (by simpa using h)).cons x))
theorem popI_of {S : Sto} {Q : VQ} {a : Addr} {xs : List Val} {k : Nat} (h : S a = some (.lst xs)) (hk : k < xs.length) (hl : xs.length ≤ sizeLine) (q : Q xs[k] (S.put a (.lst (xs.eraseIdx k)))) : popP (.ref a) [.int (k : Int)] S Q := by
  rw [sizeLine_eq] at hl
  refine ⟨?_⟩
  show (match S a with
    | some (.lst xs) => -(2 ^ 63) ≤ (k : Int) ∧ (k : Int) < 2 ^ 63 ∧ someP (seqIndex? (k : Int) xs.length) fun k => someP xs[k]? fun y => Q y (S.put a (.lst (xs.eraseIdx k)))
    | _ => False)
  rw [h]
  refine ⟨by omega, by omega, ?_⟩
  have e : seqIndex? (k : Int) xs.length = some k := by
    unfold seqIndex?
    have h1 : ¬ ((k : Int) < 0) := by omega
    have h2 : (0 : Int) ≤ k := by omega
    have h3 : (k : Int) < xs.length := by omega
    simp only [h1, if_false, h2, h3, decide_true, Bool.and_self, if_true]
    rfl
  rw [e]
  show someP xs[k]? _
  rw [List.getElem?_eq_getElem hk]
  exact q
theorem addR_of {S : Sto} {Q : VQ} {a : Addr} {xs ys : List Val} (h : S a = some (.lst xs)) (hl : xs.length + ys.length ≤ sizeLine) (q : Q (.lst (xs ++ ys)) S) : addP false (.ref a) (.lst ys) S Q := by
  show someP (match S a with
    | some (.lst xs) => some xs
    | _ => none) fun xs => xs.length + ys.length ≤ sizeLine ∧ Q (.lst (xs ++ ys)) S
  rw [h]
  exact ⟨hl, q⟩
theorem addRt_of {S : Sto} {Q : VQ} {a : Addr} {xs ys : List Val} (h : S a = some (.lst xs)) (hl : xs.length + ys.length ≤ sizeLine) (q : ∀ l, S l = none → Q (.ref l) (S.put l (.lst (xs ++ ys)))) : addP true (.ref a) (.lst ys) S Q := by
  show someP (match S a with
    | some (.lst xs) => some xs
    | _ => none) fun xs => xs.length + ys.length ≤ sizeLine ∧ newL true (xs ++ ys) S Q
  rw [h]
  exact ⟨hl, q⟩
theorem ext_ofL {S : Sto} {Q : VQ} {a : Addr} {xs ys : List Val} (h : S a = some (.lst xs)) (hl : xs.length + ys.length ≤ sizeLine) (q : Q .non (S.put a (.lst (xs ++ ys)))) : extendP (.ref a) [.lst ys] S Q := by
  refine ⟨?_⟩
  show (match S a with
    | some (.lst xs) => xs.length + ys.length ≤ sizeLine ∧ Q .non (S.put a (.lst (xs ++ ys)))
    | _ => False)
  rw [h]
  exact ⟨hl, q⟩
theorem sq_ext {ρ : ISt} {S : Sto} {D : IEnds} {Kx : IS} {m : IE} {n : Nat} {a : Addr} {xs ys : List Val} (hn : ∀ K : Val → Prop, K (.ref a) → getS ρ n K) (h : S a = some (.lst xs)) (hm : EV m ρ S (.lst ys)) (hl : xs.length + ys.length ≤ sizeLine) (q : Kx D ρ (S.put a (.lst (xs ++ ys)))) : seqI (dropI (lmethI extendP (varI n) (consA m nilA))) Kx D ρ S := hn _ ⟨isl_ref h, hm _ _ (ext_ofL h hl q)⟩
/-- a list that changes becomes a new one, with more behind it -/
theorem dq_addR {a b r : Addr} {e : IE} {ρ : ISt} {D : IEnds} {Kx : IS} {S : Sto} {i j : Nat} {xs : List Val} {R : List Val → Prop} (hn : ∀ K : Val → Prop, K (.ref r) → getS ρ j K) (hr : S r = some (.lst xs)) (ra : r ≠ a) (rb : r ≠ b) (h : DV a b e ρ fun v => ∃ ys, v = .lst ys ∧ xs.length + ys.length ≤ sizeLine ∧ R ys) (hd : Deal a b S)
    (q : ∀ ys S' l, R ys → Deal a b S' → Fr a b S S' → S' l = none → Kx D (setS ρ i (.ref l)) (S'.put l (.lst (xs ++ ys)))) : seqI (setI (.nm i) (bin2 (addP true) (varI j) e)) Kx D ρ S := hn _ (h S _ _ hd fun v S' hv hd1 f1 => by
  obtain ⟨ys, rfl, hl, hR⟩ := hv
  exact addRt_of ((f1.eq r ra rb).trans hr) hl fun l hl0 => q ys S' l hR hd1 f1 hl0)
end TL

/-! TLp: looks at any data: what kind it is, numbers, lots, rows of numbers, promises; and, or, not as values. -/
namespace TL
open PySem PySem.Spec L2
open PyProof.Rows hiding St

/-! ### data in data -/
theorem toDs_mem : ∀ {xs : List Val} {ds : List PyData}, toDs xs = some ds → PyData.canLayAll0 ds = true → ∀ x ∈ xs, ∃ d, toD x = some d ∧ d.canLay0 = true ∧ d.depth ≤ PyData.depthAll ds
  | x :: r, ds, h, hc, y, hy => by
    have h : (match toD x, toDs r with
      | some d, some ds => some (d :: ds)
      | _, _ => none) = some ds := h
    cases e1 : toD x with
    | none => rw [e1] at h; cases h
    | some d =>
      cases e2 : toDs r with
      | none => rw [e1, e2] at h; cases h
      | some es =>
        rw [e1, e2] at h
        cases h
        simp only [PyData.canLayAll0, Bool.and_eq_true] at hc
        rcases List.mem_cons.mp hy with rfl | hy
        · exact ⟨d, e1, hc.1, by simp only [PyData.depthAll]; omega⟩
        · obtain ⟨d', a, b, c⟩ := toDs_mem e2 hc.2 y hy
          exact ⟨d', a, b, by simp only [PyData.depthAll]; omega⟩
theorem DD.tup_inv {n : Nat} {xs : List Val} (h : DD n (.tup xs)) : ∀ x ∈ xs, DD n x := fun x hx => by
  obtain ⟨d, a, b, c⟩ := h
  have a : (toDs xs).map PyData.tuple = some d := a
  cases e : toDs xs with
  | none => rw [e] at a; cases a
  | some ds =>
    rw [e] at a
    cases a
    simp only [PyData.canLay0] at b
    simp only [PyData.depth] at c
    obtain ⟨d, a', b', c'⟩ := toDs_mem e b x hx
    exact ⟨d, a', b', by omega⟩
/-- what is told by itself: no object of a class -/
@[reducible] def plk : Val → Prop
  | .non => True
  | .bl _ => True
  | .int _ => True
  | .str _ => True
  | .tup _ => True
  | .lst _ => True
  | _ => False
theorem DD.plk {n : Nat} {v : Val} (h : DD n v) : plk v := by
  obtain ⟨d, a, _⟩ := h
  cases v <;> first | trivial | (exfalso; cases a)
theorem dd_non (n : Nat) : DD n .non := ⟨.none, rfl, by simp [PyData.canLay0], by simp [PyData.depth]⟩
theorem dd_bl (n : Nat) (b : Bool) : DD n (.bl b) := ⟨.bool b, rfl, by simp [PyData.canLay0], by simp [PyData.depth]⟩
theorem dd_lst {n : Nat} {xs : List Val} (h : ∀ x ∈ xs, DD n x) : DD (n + 1) (.lst xs) := by
  obtain ⟨ds, a, b, c, _⟩ := dd_all h
  refine ⟨.list ds, ?_, by simpa [PyData.canLay0] using b, by simp only [PyData.depth]; omega⟩
  show (toDs xs).map PyData.list = _
  rw [a]
  rfl
theorem datD {S : Sto} {v : Val} (h : DD 64 v) : ∃ d, datOf S v = some d ∧ toD v = some d := by
  obtain ⟨d, a, b, c⟩ := h
  refine ⟨d, ?_, a⟩
  have hs : SeqAt.shaped d = true := by
    unfold SeqAt.shaped
    rw [b, decide_eq_true c]
    rfl
  have e : datOf S v = (match toD v with
      | some d => if SeqAt.shaped d then some d else none
      | none => none) := by
    cases v <;> first
      | rfl
      | (exfalso; cases a; done)
  rw [e, a]
  dsimp only
  rw [if_pos hs]
theorem toD_tup {xs : List Val} {d : PyData} (h : toD (.tup xs) = some d) : ∃ ds, toDs xs = some ds ∧ d = .tuple ds := by
  have h : (toDs xs).map PyData.tuple = some d := h
  obtain ⟨ds, a, b⟩ := Option.map_eq_some_iff.mp h
  exact ⟨ds, a, b.symm⟩
theorem toDs_cons {x : Val} {r : List Val} {ds : List PyData} (h : toDs (x :: r) = some ds) : ∃ d es, toD x = some d ∧ toDs r = some es ∧ ds = d :: es := by
  have h : (match toD x, toDs r with
    | some d, some ds => some (d :: ds)
    | _, _ => none) = some ds := h
  cases e1 : toD x with
  | none => rw [e1] at h; cases h
  | some d =>
    cases e2 : toDs r with
    | none => rw [e1, e2] at h; cases h
    | some es =>
      rw [e1, e2] at h
      cases h
      exact ⟨d, es, rfl, rfl, rfl⟩
theorem eqOf_tt {S : Sto} {xs ys : List Val} (h1 : DD 64 (.tup xs)) (h2 : DD 64 (.tup ys)) : ∃ ds es, toDs xs = some ds ∧ toDs ys = some es ∧ eqOf S (.tup xs) (.tup ys) = some (PyData.eqvAll ds es) := by
  obtain ⟨d, a1, b1⟩ := datD (S := S) h1
  obtain ⟨e, a2, b2⟩ := datD (S := S) h2
  obtain ⟨ds, c1, rfl⟩ := toD_tup b1
  obtain ⟨es, c2, rfl⟩ := toD_tup b2
  refine ⟨ds, es, c1, c2, ?_⟩
  show (match datOf S (.tup xs), datOf S (.tup ys) with
    | some d, some e => some (PyData.eqv d e)
    | _, _ => none) = _
  rw [a1, a2]
  simp only [PyData.eqv]
theorem dd_tup0 (n : Nat) : DD (n + 1) (.tup []) := ⟨.tuple [], rfl, by simp [PyData.canLay0, PyData.canLayAll0], by simp [PyData.depth, PyData.depthAll]⟩
theorem eq0_tup {S : Sto} {xs : List Val} (h : DD 64 (.tup xs)) : eqOf S (.tup xs) (.tup []) = some xs.isEmpty := by
  obtain ⟨ds, es, a, b, c⟩ := eqOf_tt (S := S) h (dd_tup0 63)
  cases b
  rw [c]
  cases xs with
  | nil => cases a; rfl
  | cons x r =>
    obtain ⟨d, es, _, _, rfl⟩ := toDs_cons a
    rfl
/-- a tuple that begins with a text against the tuple of one text -/
theorem eq1_tup {S : Sto} {w u : Str} {r : List Val} (h : DD 64 (.tup (.str w :: r))) (hu : PyData.strOk u = true) : eqOf S (.tup (.str w :: r)) (.tup [.str u]) = some (decide (w = u) && r.isEmpty) := by
  obtain ⟨ds, es, a, b, c⟩ := eqOf_tt (S := S) h (dd_tup (n := 63) fun x hx => by rw [List.mem_singleton.mp hx]; exact dd_str _ hu)
  cases b
  obtain ⟨d, es, a1, a2, rfl⟩ := toDs_cons a
  cases a1
  rw [c]
  simp only [PyData.eqvAll, PyData.eqv]
  congr 1
  have e : (w == u) = decide (w = u) := by
    by_cases q : w = u
    · subst q; simp
    · rw [decide_eq_false q]; exact beq_eq_false_iff_ne.mpr q
  rw [e]
  congr 1
  cases r with
  | nil => cases a2; rfl
  | cons x r =>
    obtain ⟨d, es, _, _, rfl⟩ := toDs_cons a2
    rfl
theorem dd_ti (n : Nat) (ns : List Int) : DD (n + 1) (tiV ns) := dd_tup fun x hx => by
  obtain ⟨i, _, rfl⟩ := List.mem_map.mp hx
  exact dd_int _ _
theorem eq_lots {S : Sto} (ls : List (List Int)) : eqOf S (.tup (ls.map tiV)) (.tup [.tup []]) = some (decide (ls = [[]])) := by
  have h1 : DD 64 (.tup (ls.map tiV)) := dd_tup (n := 63) fun x hx => by
    obtain ⟨l, _, rfl⟩ := List.mem_map.mp hx
    exact dd_ti 62 l
  obtain ⟨ds, es, a, b, c⟩ := eqOf_tt (S := S) h1 (dd_tup (n := 63) (xs := [.tup []]) fun x hx => by rw [List.mem_singleton.mp hx]; exact dd_tup0 _)
  cases b
  rw [c]
  cases ls with
  | nil => cases a; rfl
  | cons l r =>
    obtain ⟨d, es, a1, a2, rfl⟩ := toDs_cons a
    obtain ⟨fs, a3, rfl⟩ := toD_tup a1
    cases l with
    | cons i l =>
      obtain ⟨d, gs, _, _, rfl⟩ := toDs_cons a3
      simp [PyData.eqvAll, PyData.eqv]
    | nil =>
      cases a3
      cases r with
      | nil => cases a2; simp [PyData.eqvAll, PyData.eqv]
      | cons x r =>
        obtain ⟨d, gs, _, _, rfl⟩ := toDs_cons a2
        simp [PyData.eqvAll, PyData.eqv]

/-! ### looks -/
def isT : Val → Bool
  | .tup _ => true
  | _ => false
def isB : Val → Bool
  | .bl _ => true
  | _ => false
def isI : Val → Bool
  | .int _ => true
  | .bl _ => true
  | _ => false
def isS : Val → Bool
  | .str _ => true
  | _ => false
/-- a whole number -/
def isIn : Val → Bool
  | .int _ => true
  | _ => false
/-- a whole number from 0 on -/
def isNu : Val → Bool
  | .int i => decide (0 ≤ i)
  | _ => false
/-- the numbers of a row of numbers -/
def posOf : List Val → Option (List Int)
  | [] => some []
  | .int i :: r => if 0 ≤ i then (posOf r).map (i :: ·) else none
  | _ => none
def numsOf : Val → Option (List Int)
  | .tup xs => posOf xs
  | _ => none
def isLen (v : Val) (k : Int) : Bool := match v with
  | .tup xs => decide ((xs.length : Int) = k)
  | _ => false
theorem nums_all : ∀ xs : List Val, xs.all isNu = (numsOf (.tup xs)).isSome
  | [] => rfl
  | x :: r => by
    have ih : r.all isNu = (posOf r).isSome := nums_all r
    rw [List.all_cons, ih]
    cases x with
    | int i =>
      show (decide (0 ≤ i) && _) = (if 0 ≤ i then (posOf r).map (i :: ·) else none).isSome
      by_cases h : 0 ≤ i
      · rw [decide_eq_true h, if_pos h, Option.isSome_map]; rfl
      · rw [decide_eq_false h, if_neg h]; rfl
    | _ => rfl
theorem pos_of : ∀ {xs : List Val} {ns : List Int}, posOf xs = some ns → xs = ns.map Val.int ∧ ∀ i ∈ ns, 0 ≤ i
  | [], ns, h => by cases h; exact ⟨rfl, fun _ h => by cases h⟩
  | x :: r, ns, h => by
    cases x with
    | int i =>
      have h : (if 0 ≤ i then (posOf r).map (i :: ·) else none) = some ns := h
      by_cases h0 : 0 ≤ i
      · rw [if_pos h0] at h
        obtain ⟨ms, a, rfl⟩ := Option.map_eq_some_iff.mp h
        obtain ⟨e, p⟩ := pos_of a
        rw [e]
        exact ⟨rfl, fun j hj => (List.mem_cons.mp hj).elim (fun z => by rw [z]; exact h0) (p j)⟩
      · rw [if_neg h0] at h; cases h
    | _ => cases h
theorem nums_of {v : Val} {ns : List Int} (h : numsOf v = some ns) : v = tiV ns ∧ ∀ i ∈ ns, 0 ≤ i := by
  cases v with
  | tup xs =>
    obtain ⟨e, p⟩ := pos_of h
    rw [e]
    exact ⟨rfl, p⟩
  | _ => cases h
theorem nums_ti : ∀ {ns : List Int}, (∀ i ∈ ns, 0 ≤ i) → numsOf (tiV ns) = some ns
  | [], _ => rfl
  | n :: ns, h => by
    have ih : posOf (ns.map Val.int) = some ns := nums_ti fun i hi => h i (List.mem_cons_of_mem _ hi)
    show (if 0 ≤ n then (posOf (ns.map Val.int)).map (n :: ·) else none) = _
    rw [if_pos (h n List.mem_cons_self), ih]
    rfl
/-- the things ascend -/
def adjB {α : Type} (lt : α → α → Bool) (xs : List α) (k : Nat) : Bool := match xs[k]?, xs[k + 1]? with
  | some x, some y => lt x y
  | _, _ => true
theorem adj_of {α : Type} (lt : α → α → Bool) {xs : List α} {k : Nat} (h : k + 1 < xs.length) : adjB lt xs k = lt (xs[k]'(Nat.lt_of_succ_lt h)) xs[k + 1] := by
  unfold adjB
  rw [List.getElem?_eq_getElem (Nat.lt_of_succ_lt h), List.getElem?_eq_getElem h]
def ascB {α : Type} (lt : α → α → Bool) (xs : List α) : Bool := (List.range (xs.length - 1)).all (adjB lt xs)
theorem asc_all {α : Type} {lt : α → α → Bool} {xs : List α} (h : ascB lt xs = true) (k : Nat) (hk : k + 1 < xs.length) : lt (xs[k]'(Nat.lt_of_succ_lt hk)) xs[k + 1] = true := by
  have h1 := List.all_eq_true.mp h k (List.mem_range.mpr (by omega))
  rw [adj_of lt hk] at h1
  exact h1
theorem asc_tail {α : Type} {lt : α → α → Bool} {x : α} {xs : List α} (h : ascB lt (x :: xs) = true) : ascB lt xs = true := by
  refine List.all_eq_true.mpr fun k hk => ?_
  have hk := List.mem_range.mp hk
  have h1 := asc_all h (k + 1) (by simp only [List.length_cons]; omega)
  rw [adj_of lt (show k + 1 < xs.length by omega)]
  exact h1
theorem asc_last : ∀ {ns : List Int} {m : Int}, ascB (fun i j => decide (i < j)) ns = true → ns.getLast? = some m → ∀ i ∈ ns, i ≤ m
  | [x], m, _, e, i, hi => by
    rw [List.mem_singleton.mp hi]
    cases e
    exact Int.le_refl _
  | x :: y :: r, m, h, e, i, hi => by
    have e2 : (y :: r).getLast? = some m := by rw [← e]; rfl
    have ih := asc_last (asc_tail h) e2
    rcases List.mem_cons.mp hi with rfl | hi
    · have h1 : decide (i < y) = true := asc_all h 0 (by simp)
      have h1 : i < y := of_decide_eq_true h1
      have := ih y List.mem_cons_self
      omega
    · exact ih i hi
def isLot (v : Val) : Bool := match numsOf v with
  | some ns => ascB (fun i j => decide (i < j)) ns
  | none => false
def isLotB (v : Val) (many : Int) : Bool := match numsOf v with
  | some ns => ascB (fun i j => decide (i < j)) ns && match ns.getLast? with
    | none => true
    | some m => decide (m < many)
  | none => false
def okNum (bound : Int) : Val → Bool
  | .int i => decide (-1 ≤ i) && decide (i < bound)
  | _ => false
def okRow (bound : Int) (many : Int) : Val → Bool
  | .tup xs => decide ((xs.length : Int) = many) && xs.all (okNum bound)
  | _ => false
def areNums (ls : List Int) (v : Val) (bound : Int) : Bool := match v with
  | .tup rows => decide (rows.length = ls.length) && (ls.zip rows).all fun p => okRow bound p.1 p.2
  | _ => false
def isCountP (ls : List Int) : List Val → Bool
  | [_, .int c, rows] => decide (0 < c) && areNums ls rows c
  | _ => false
def isNearP (ls : List Int) : List Val → Bool
  | [_, .int f, rows] => decide (0 ≤ f) && areNums ls rows 64
  | _ => false
def isHoldP (ls : List Int) : List Val → Bool
  | [_, rows] => areNums ls rows 64
  | _ => false
def isProm (ls : List Int) (lots : List (List Int)) (v : Val) : Bool := match v with
  | .tup (.str w :: r) => if w = "count" then isCountP ls (.str w :: r) else if w = "hold" then isHoldP ls (.str w :: r) else if w = "near" then isNearP ls (.str w :: r) else decide (w = "single") && r.isEmpty && decide (lots = [[]])
  | _ => false

/-! ### and, or, not as values -/
section
variable {ρ : ISt} {S : Sto} {a b m : IE} {x y v w : Val} {i j : Int} {t u : IT} {D : IEnds} {Kx A1 A2 : IS} {Γ : Calls} {f : Str} {k l : Bool}
theorem EV.and (ha : EV a ρ S (.bl k)) (hb : k = true → EV b ρ S (.bl l)) : EV (andV a b) ρ S (.bl (k && l)) := fun Q E q => ha _ _ (by
  show someP (some k) _
  cases k with
  | true => exact hb rfl _ _ q
  | false => exact q)
theorem EV.or (ha : EV a ρ S (.bl k)) (hb : k = false → EV b ρ S (.bl l)) : EV (orV a b) ρ S (.bl (k || l)) := fun Q E q => ha _ _ (by
  show someP (some k) _
  cases k with
  | true => exact q
  | false => exact hb rfl _ _ q)
theorem EV.nt (ha : EV a ρ S (.bl k)) : EV (un1 notP a) ρ S (.bl (!k)) := fun Q E q => ha _ _ (by
  cases k with
  | true => exact q
  | false => exact q)
theorem TT.and (h1 : TT t ρ S k) (h2 : k = true → TT u ρ S l) : TT (andT t u) ρ S (k && l) := by
  cases k with
  | true => exact TT.and_t h1 (h2 rfl)
  | false => exact TT.and_f h1
theorem TT.or (h1 : TT t ρ S k) (h2 : k = false → TT u ρ S l) : TT (orT t u) ρ S (k || l) := by
  cases k with
  | true => exact TT.or_t h1
  | false => exact TT.or_f h1 (h2 rfl)
theorem TT.nt (h1 : TT t ρ S k) : TT (notT t) ρ S (!k) := by
  cases k with
  | true => exact TT.not_f h1
  | false => exact TT.not_t h1
theorem TT.bl (ha : EV a ρ S (.bl k)) : TT (tst a) ρ S k := TT.tru ha rfl
theorem TT.of (h : TT t ρ S k) (e : k = l) : TT t ρ S l := e ▸ h
theorem EV.of (h : EV a ρ S v) (e : v = w) : EV a ρ S w := e ▸ h
theorem EV.chn {p p' : Int → Int → Bool} {c : IE} {h : Int} (ha : EV a ρ S (.int i)) (hb : EV b ρ S (.int j)) (hc : EV c ρ S (.int h)) : EV (chnI (cmpP p) (cmpP p') a b c) ρ S (.bl (p i j && p' j h)) := fun Q E q => ha _ _ (hb _ _ (by
  show chnK c (cmpP p') ρ (.int j) Q E (.bl (p i j)) S
  cases e : p i j with
  | true =>
    rw [e] at q
    exact hc _ _ q
  | false =>
    rw [e] at q
    exact q))
theorem EV.isi {kit : Kit} {own : List Str} {cs : List TyTag} {tg : TyTag} (ha : EV a ρ S x) (h1 : tagOf S x = some tg) (h2 : ownTag own tg = true) (h3 : kitAll kit tg cs = some k) : EV (un1 (isiP kit own cs) a) ρ S (.bl k) := fun Q E q => ha _ _ (isi_of h1 h2 h3 q)
theorem EV.ltb (ha : EV a ρ S (.int i)) (hb : EV b ρ S (.int j)) : EV (bin2 ltP a b) ρ S (.bl (decide (i < j))) := EV.cmpb ha hb rfl
theorem EV.geb (ha : EV a ρ S (.int i)) (hb : EV b ρ S (.int j)) : EV (bin2 geP a b) ρ S (.bl (decide (j ≤ i))) := EV.cmpb ha hb rfl
theorem EV.gtb (ha : EV a ρ S (.int i)) (hb : EV b ρ S (.int j)) : EV (bin2 gtP a b) ρ S (.bl (decide (j < i))) := EV.cmpb ha hb rfl
theorem EV.leb (ha : EV a ρ S (.int i)) (hb : EV b ρ S (.int j)) : EV (bin2 leP a b) ρ S (.bl (decide (i ≤ j))) := EV.cmpb ha hb rfl
theorem EV.eqi (ha : EV a ρ S (.int i)) (hb : EV b ρ S (.int j)) : EV (bin2 eqP a b) ρ S (.bl (decide (i = j))) := EV.eqb ha hb eqOf_ii
theorem sq_if {k : Bool} (h : TT t ρ S k) (q1 : k = true → A1 { D with nx := Kx D } ρ S) (q2 : k = false → A2 { D with nx := Kx D } ρ S) : seqI (ifI t A1 A2) Kx D ρ S := by
  cases k with
  | true => exact sq_if_t h (q1 rfl)
  | false => exact sq_if_f h (q2 rfl)
/-- a local that holds a def -/
theorem EV.callL {dfs : List Str} {n : Nat} {as : IA} {xs : List Val} (hn : ∀ K : Val → Prop, K (.fn f) → getS ρ n K) (hd : dfs.contains f = true) (ha : ∀ (Q : List Val → Sto → Prop) (E : EQ), Q xs S → as ρ S Q E) (h : ∀ (Q : VQ) (E : EQ), Q v S → Γ f xs S Q E) : EV (callLI Γ dfs n as) ρ S v := fun Q E q => hn _ ⟨hd, ha _ _ (h _ _ q)⟩
end
/-- a loop that leaves the store as it is -/
theorem for_pure {g : Option Addr} {all : List Val} {t : Tg} {b : IS} {D : IEnds} {S : Sto} (Inv : List Val → ISt → Prop) (hg : guardOk g all S) (h0 : ∀ ρ, Inv [] ρ → D.nx ρ S)
    (hs : ∀ x r ρ (Kn : ISt → Sto → Prop), (∀ ρ, Inv r ρ → Kn ρ S) → Inv (x :: r) ρ → someP (tgI t x ρ) fun ρ1 => b { D with nx := Kn, ct := Kn, bk := D.nx } ρ1 S) (xs : List Val) (ρ : ISt) (h : Inv xs ρ) : forGo g all t b D xs ρ S :=
  forGo_ind (fun r ρ S' => S' = S ∧ Inv r ρ) (fun ρ S' ⟨e, i⟩ => by subst e; exact ⟨hg, h0 ρ i⟩) (fun x r ρ S' Kn hK ⟨e, i⟩ => by
    subst e
    exact ⟨hg, hs x r ρ Kn (fun ρ i => hK ρ _ ⟨rfl, i⟩) i⟩) xs ρ S ⟨rfl, h⟩
/-- the number of the first thing that is not let -/
def fstBad {α : Type} (p : α → Bool) : Nat → List α → Option Nat
  | _, [] => none
  | k, x :: r => if p x then fstBad p (k + 1) r else some k
theorem fst_none {α : Type} (p : α → Bool) : ∀ (k : Nat) (xs : List α), (fstBad p k xs).isNone = xs.all p
  | _, [] => rfl
  | k, x :: r => by
    rw [List.all_cons]
    show (if p x then fstBad p (k + 1) r else some k).isNone = _
    cases p x with
    | true => exact fst_none p (k + 1) r
    | false => rfl
def badV (o : Option Nat) : Int := match o with
  | some k => k
  | none => -1
theorem badV_neg {α : Type} (p : α → Bool) (xs : List α) : decide (badV (fstBad p 0 xs) < 0) = xs.all p := by
  rw [← fst_none p 0 xs]
  cases fstBad p 0 xs with
  | none => rfl
  | some k => exact decide_eq_false (by show ¬ (k : Int) < 0; omega)
section
variable {ρ : ISt} {S : Sto} {a : IE} {x : Val} {xs : List Val}
theorem TT.neNil (ha : EV a ρ S x) (h : lstOf S x = some xs) : TT (tstB (bin2 neP a (lstI false nilA))) ρ S (!xs.isEmpty) := fun Q E q => ha _ _ (EV.lst0 _ _ (neNil_of h q))
theorem TT.eqNil (ha : EV a ρ S x) (h : lstOf S x = some xs) : TT (tstB (bin2 eqP a (lstI false nilA))) ρ S xs.isEmpty := fun Q E q => ha _ _ (EV.lst0 _ _ (eqNil_of h q))
end
/-! ### teams -/
def fstBadI {α : Type} (p : Nat → α → Bool) : Nat → List α → Option Nat
  | _, [] => none
  | k, x :: r => if p k x then fstBadI p (k + 1) r else some k
theorem fstI_none {α : Type} {p : Nat → α → Bool} : ∀ {k : Nat} {xs : List α}, fstBadI p k xs = none → ∀ j (h : j < xs.length), p (k + j) xs[j] = true
  | k, x :: r, h, j, hj => by
    have h : (if p k x then fstBadI p (k + 1) r else some k) = none := h
    cases e : p k x with
    | false => rw [e] at h; cases h
    | true =>
      rw [e] at h
      cases j with
      | zero => exact e
      | succ j =>
        have := fstI_none h j (Nat.lt_of_succ_lt_succ hj)
        rw [show k + (j + 1) = k + 1 + j by omega]
        exact this
def optV : Option Nat → Val
  | some k => .int k
  | none => .non
/-- a number from 1 on -/
def isPo : Val → Bool
  | .int i => decide (0 < i)
  | _ => false
def tupL : Val → List Val
  | .tup xs => xs
  | _ => []
def intsL (v : Val) : List Int := (intsOf (tupL v)).getD []
theorem intsL_ti (ns : List Int) : intsL (tiV ns) = ns := by
  show (intsOf (ns.map Val.int)).getD [] = ns
  rw [intsOf_map]
  rfl
theorem lots_ti (ls : List (List Int)) : (ls.map tiV).map intsL = ls := by
  rw [List.map_map]
  conv => rhs; rw [← List.map_id ls]
  exact List.map_congr_left fun x _ => intsL_ti x
def isForm (L H R : Val) : Bool := (isT L && !(tupL L).isEmpty) && (isT H && !(tupL H).isEmpty) && (isT R && !(tupL R).isEmpty) && (decide ((tupL L).length = (tupL H).length) && decide ((tupL L).length = (tupL R).length))
def maxL : List Int → Int
  | [] => 0
  | [x] => x
  | x :: y :: r => max x (maxL (y :: r))
theorem maxL_mem : ∀ {xs : List Int}, xs ≠ [] → maxL xs ∈ xs
  | [x], _ => List.mem_singleton.mpr rfl
  | x :: y :: r, _ => by
    have ih := maxL_mem (xs := y :: r) (fun h => by cases h)
    show max x (maxL (y :: r)) ∈ _
    by_cases h : x ≤ maxL (y :: r)
    · rw [Int.max_eq_right h]; exact List.mem_cons_of_mem _ ih
    · rw [Int.max_eq_left (by omega)]; exact List.mem_cons_self
theorem maxL_le : ∀ {xs : List Int} {x : Int}, x ∈ xs → x ≤ maxL xs
  | [y], x, h => by rw [List.mem_singleton.mp h]; exact Int.le_refl _
  | y :: z :: r, x, h => by
    show x ≤ max y (maxL (z :: r))
    rcases List.mem_cons.mp h with rfl | h
    · exact Int.le_max_left _ _
    · exact Int.le_trans (maxL_le h) (Int.le_max_right _ _)
/-- the greatest number of letters of a machine and of those that it hears -/
def baseOf (ls : List Int) (hs : List (List Int)) (k : Nat) : Int := maxL (ls.getD k 0 :: (hs.getD k []).map fun i => ls.getD i.toNat 0)
def wrongLots (n : Int) (v : Val) : Option Int := match v with
  | .tup xs => match fstBad (fun x => isLotB x n && !decide (((tupL x).length : Int) = n)) 0 xs with
    | some k => some k
    | none => if !xs.isEmpty && ascB (lexP fun i j => decide (i < j)) (xs.map intsL) then none else some (-1)
  | _ => some (-1)
def wordOf (v : Val) (ws : List Str) : Bool := match v with
  | .str w => decide (w ∈ ws)
  | _ => false
def faultsW : List Str := ["unlike", "alike", "silent"]
def movesW : List Str := ["all", "some", "one"]
def behindOf (L F M lo P : Val) : Option (Str × Int) :=
  if wordOf F faultsW then if wordOf M movesW then match wrongLots (tupL L).length lo with
    | some i => some ("lots", i)
    | none => if isProm (intsL L) ((tupL lo).map intsL) P then none else some ("promise", -1)
  else some ("moves", -1) else some ("faults", -1)
def faultOf (ru : List Int → Int → Val → Bool) (L H R F M lo P : Val) : Option (Str × Int) :=
  if isForm L H R then match fstBad isPo 0 (tupL L) with
    | some k => some ("letters", k)
    | none => match fstBad (fun h => isLotB h (tupL H).length) 0 (tupL H) with
      | some k => some ("hears", k)
      | none => match fstBadI (fun k r => ru (((tupL H).map intsL).getD k []) (baseOf (intsL L) ((tupL H).map intsL) k) r) 0 (tupL R) with
        | some k => some ("rule", k)
        | none => behindOf L F M lo P
  else some ("form", -1)
def faultV : Option (Str × Int) → Val
  | some (w, i) => .tup [.str w, .int i]
  | none => .non
/-- what need_team says -/
def needV : Option (Str × Int) → Val
  | some (w, i) => .tup [.str "refused", .str w, .int i]
  | none => .tup [.str "told", .non]
def tmN : List Str := ["letters", "hears", "rules", "faults", "moves", "lots", "promise"]
def tmV (L H R F M lo P : Val) : Val := .ins "Team" tmN [L, H, R, F, M, lo, P]
def vwV (ms b : Val) : Val := .ins "View" ["machines", "base"] [ms, b]
section
variable {ρ : ISt} {S : Sto} {a b m : IE} {x y v w : Val} {i j : Int} {t u : IT} {D : IEnds} {Kx A1 A2 : IS} {Γ : Calls} {f : Str} {k l : Bool}
theorem EV.fld {F : Str → Str → Bool} {c f : Str} {ns : List Str} {vs : List Val} (ha : EV a ρ S (.ins c ns vs)) (hF : F c f = true) (h : fldOf ns vs f = some v) : EV (un1 (fldP F f) a) ρ S v := fun Q E q => ha _ _ (fld_of hF h q)
theorem EV.maxG {ns : List Int} (ha : EV a ρ S (.lst (ns.map Val.int))) (h : ns ≠ []) : EV (callP maxP (consA a nilA)) ρ S (.int (TL.maxL ns)) := fun Q E q => ha _ _ (by
  show someP (intsOf (ns.map Val.int)) fun ns => 0 < ns.length ∧ ∀ m, m ∈ ns → (∀ y, y ∈ ns → y ≤ m) → Q (.int m) S
  rw [intsOf_map]
  refine ⟨List.length_pos_iff.mpr h, fun m h1 h2 => ?_⟩
  have e1 := maxL_le h1
  have e2 := h2 _ (maxL_mem h)
  rw [show m = TL.maxL ns by omega]
  exact q)
theorem TT.isn (ha : EV a ρ S v) (h : isVal v .non = some k) : TT (tstB (bin2 isP a (conI .non))) ρ S k := fun Q E q => ha _ _ (by
  show someP (isVal v .non) fun b => Q b S
  rw [h]
  exact q)
theorem TT.nisn (ha : EV a ρ S v) (h : isVal v .non = some (!k)) : TT (tstB (bin2 isNotP a (conI .non))) ρ S k := fun Q E q => ha _ _ (by
  show isNotP v .non S fun x S1 => match x with
    | .bl k => Q k S1
    | _ => False
  unfold isNotP
  rw [h]
  cases k with
  | true => exact q
  | false => exact q)
end
/-! ### rows of lots -/
theorem lexP_lt : ∀ a b : List Int, lexP (fun i j => decide (i < j)) a b = TLS.ltL a b
  | [], [] => rfl
  | [], y :: ys => by
    show decide ((0 : Int) < ((y :: ys).length : Int)) = true
    exact decide_eq_true (by simp only [List.length_cons]; omega)
  | x :: xs, [] => by
    show decide (((x :: xs).length : Int) < 0) = false
    exact decide_eq_false (by omega)
  | x :: xs, y :: ys => by
    show (if x = y then lexP _ xs ys else decide (x < y)) = if x = y then TLS.ltL xs ys else decide (x < y)
    rw [lexP_lt xs ys]
theorem adj_pw {α : Type} {lt : α → α → Bool} : ∀ {xs : List α}, xs.Pairwise (fun a b => lt a b = true) → ascB lt xs = true := fun {xs} h => by
  refine List.all_eq_true.mpr fun k hk => ?_
  have hk := List.mem_range.mp hk
  rw [adj_of lt (show k + 1 < xs.length by omega)]
  exact List.pairwise_iff_getElem.mp h k (k + 1) (by omega) (by omega) (by omega)
/-- a row of unlike lots, sorted -/
theorem srt_pw {ls : List (List Int)} (h : ls.Nodup) : (srtB TLS.ltL ls).Pairwise fun a b => TLS.ltL a b = true := by
  have h1 := srtB_srt swo_ltT ls
  have h2 : (srtB TLS.ltL ls).Nodup := (srtB_perm ls).nodup_iff.mpr h
  refine List.Pairwise.imp₂ ?_ h1 h2
  intro a b h1 h2
  cases e : TLS.ltL a b with
  | true => rfl
  | false => exact absurd (TLS.ltL_eq a b e h1) h2
theorem lots_asc {ls : List (List Int)} (h : ls.Pairwise fun a b => TLS.ltL a b = true) : ascB (lexP fun i j => decide (i < j)) ls = true :=
  adj_pw (h.imp fun {a b} h => (lexP_lt a b).trans h)
/-- a row of lots with its first one behind it does not ascend -/
theorem lots_again {x : List Int} {ls : List (List Int)} (h : (x :: ls).Pairwise fun a b => TLS.ltL a b = true) : ascB (lexP fun i j => decide (i < j)) ((x :: ls) ++ [x]) = false := by
  cases e : ascB (lexP fun i j => decide (i < j)) ((x :: ls) ++ [x]) with
  | false => rfl
  | true =>
    exfalso
    have h1 := asc_all e ls.length (by simp)
    rw [lexP_lt] at h1
    have h2 : ((x :: ls) ++ [x])[ls.length + 1]'(by simp) = x := by simp
    rw [h2, List.getElem_append_left (by simp)] at h1
    by_cases hz : ls.length = 0
    · have : ls = [] := List.eq_nil_of_length_eq_zero hz
      subst this
      simp only [List.getElem_cons_zero, List.length_nil] at h1
      rw [TLS.ltL_irrefl] at h1
      cases h1
    · have h3 := List.pairwise_iff_getElem.mp h 0 ls.length (by simp) (by simp) (by omega)
      simp only [List.getElem_cons_zero] at h3
      rw [TLS.ltL_asym _ _ h3] at h1
      cases h1
theorem sort_r {ks : List (List Int)} {e : Addr} {S : Sto} {Q : VQ} (he : S e = some (.lst (ks.map tiV))) (h : ks ≠ []) (q : Q (.lst ((srtB TLS.ltL ks).map tiV)) S) : sortP false [.ref e] S Q := by
  have h1 : sortP false [.lst (ks.map tiV)] S Q := sort_t h q
  have e1 : sortP0 false [.ref e] S Q = sortP0 false [.lst (ks.map tiV)] S Q := by
    unfold sortP0
    show (someP (lsqOf S (.ref e)) _) = _
    rw [show lsqOf S (.ref e) = some (ks.map tiV) from lsq_ref he]
  exact ⟨e1 ▸ h1.h⟩
/-! ### loops that add to a list; a row of one thing so many times -/
section
variable {ρ : ISt} {S : Sto} {a b m : IE} {x y v w : Val} {i j : Int} {D : IEnds} {Kx : IS}
theorem sq_forappG {it : II} {gd : Option Addr} {n t : Nat} {vs acc : List Val} {g : Val → Val} {e : Addr} {o : Option Val} (R : Option Val → ISt) (hit : ∀ (K : Option Addr → List Val → Sto → Prop) (E : EQ), K gd vs S → it ρ S K E) (hg : ∀ S', (∀ c, c ≠ e → S' c = S c) → guardOk gd vs S') (hR : ρ = R o) (hs : ∀ c x, tgI (.nm t) x (R c) = some (R (some x)))
    (hn : ∀ c (K : Val → Prop), K (.ref e) → getS (R c) n K) (he : S e = some (.lst acc)) (hl : acc.length + vs.length ≤ sizeLine) (hm : ∀ x ∈ vs, ∀ S', (∀ c, c ≠ e → S' c = S c) → EV m (R (some x)) S' (g x))
    (q : ∀ c S', S' e = some (.lst (acc ++ vs.map g)) → (∀ c, c ≠ e → S' c = S c) → Kx D (R c) S') : seqI (forI it (.nm t) (seqI (dropI (lmethI appendP (varI n) (consA m nilA))) nextI)) Kx D ρ S := by
  refine sq_for hit ?_
  refine forGo_ind (fun r ρ S' => ∃ (c : Option Val) (us : List Val), vs = us ++ r ∧ ρ = R c ∧ S' e = some (.lst (acc ++ us.map g)) ∧ ∀ c, c ≠ e → S' c = S c) ?_ ?_ _ _ _ ⟨o, [], rfl, hR, by rw [List.map_nil, List.append_nil]; exact he, fun _ _ => rfl⟩
  · rintro ρ S' ⟨c, us, e1, rfl, s1, fr⟩
    rw [List.append_nil] at e1
    subst e1
    exact ⟨hg S' fr, q c S' s1 fr⟩
  · rintro x r ρ S' Kn hK ⟨c, us, e1, rfl, s1, fr⟩
    refine ⟨hg S' fr, ?_⟩
    rw [hs c x]
    have hx : x ∈ vs := by rw [e1]; exact List.mem_append_right _ List.mem_cons_self
    have hlen : us.length < vs.length := by rw [e1, List.length_append, List.length_cons]; omega
    refine sq_app (v := g x) (hn _) s1 (by rw [List.length_append, List.length_map]; omega) (hm x hx S' fr) ?_
    refine hK _ _ ⟨_, us ++ [x], by rw [e1, List.append_assoc]; rfl, rfl, ?_, fun c hc => ?_⟩
    · rw [put_same, List.map_append, List.append_assoc]
      rfl
    · rw [put_ne hc]
      exact fr c hc
theorem sq_forapp {it : II} {n t : Nat} {vs acc : List Val} {g : Val → Val} {e : Addr} {o : Option Val} (R : Option Val → ISt) (hit : ∀ (K : Option Addr → List Val → Sto → Prop) (E : EQ), K none vs S → it ρ S K E) (hR : ρ = R o) (hs : ∀ c x, tgI (.nm t) x (R c) = some (R (some x)))
    (hn : ∀ c (K : Val → Prop), K (.ref e) → getS (R c) n K) (he : S e = some (.lst acc)) (hl : acc.length + vs.length ≤ sizeLine) (hm : ∀ x ∈ vs, ∀ S', (∀ c, c ≠ e → S' c = S c) → EV m (R (some x)) S' (g x))
    (q : ∀ c S', S' e = some (.lst (acc ++ vs.map g)) → (∀ c, c ≠ e → S' c = S c) → Kx D (R c) S') : seqI (forI it (.nm t) (seqI (dropI (lmethI appendP (varI n) (consA m nilA))) nextI)) Kx D ρ S :=
  sq_forappG R hit (fun _ _ => trivial) hR hs hn he hl hm q
theorem sq_lstN {n : Nat} {as : IA} {vs : List Val} (h : ∀ (Q : List Val → Sto → Prop) (E : EQ), Q vs S → as ρ S Q E) (hl : vs.length ≤ sizeLine) (q : ∀ l, S l = none → Kx D (setS ρ n (.ref l)) (S.put l (.lst vs))) : seqI (setI (.nm n) (lstI true as)) Kx D ρ S := h _ _ ⟨hl, q⟩
theorem EA.nil (Q : List Val → Sto → Prop) (E : EQ) (q : Q [] S) : nilA ρ S Q E := q
theorem EA.cons {r : IA} {vs : List Val} (h : EV a ρ S v) (h2 : ∀ (Q : List Val → Sto → Prop) (E : EQ), Q vs S → r ρ S Q E) (Q : List Val → Sto → Prop) (E : EQ) (q : Q (v :: vs) S) : consA a r ρ S Q E := h _ _ (h2 _ _ q)
theorem EV.lstA {as : IA} {vs : List Val} (h : ∀ (Q : List Val → Sto → Prop) (E : EQ), Q vs S → as ρ S Q E) (hl : vs.length ≤ sizeLine) : EV (lstI false as) ρ S (.lst vs) := fun Q E q => h _ _ ⟨hl, q⟩
theorem flat_one (x : Val) : ∀ n : Nat, (List.replicate n [x]).flatten = List.replicate n x
  | 0 => rfl
  | n + 1 => by
    rw [List.replicate_succ, List.replicate_succ, List.flatten_cons, flat_one x n]
    rfl
theorem EV.mulT {c : Bool} (ha : EV a ρ S (.tup [x])) (hb : EV b ρ S (.int i)) (h1 : 1 ≤ i) (h2 : i ≤ 1000000) : EV (bin2 (mulP c) a b) ρ S (.tup (List.replicate i.toNat x)) := fun Q E q => ha _ _ (hb _ _ (by
  show (i = 1 ∧ [x] ≠ [] ∧ Q (.tup [x]) S) ∨ ([x] ≠ [] ∧ 2 ≤ i ∧ i ≤ 1000000 ∧ [x].length * i.toNat ≤ 1000000 ∧ Q (.tup (List.replicate i.toNat [x]).flatten) S)
  by_cases h : i = 1
  · subst h
    exact .inl ⟨rfl, nofun, q⟩
  · refine .inr ⟨nofun, by omega, h2, by rw [List.length_singleton]; omega, ?_⟩
    rw [flat_one]
    exact q))
theorem EV.listT {xs : List Val} (ha : EV a ρ S (.tup xs)) : EV (callP (listP false) (consA a nilA)) ρ S (.lst xs) := fun Q E q => ha _ _ q
end
theorem cut_to {α : Type} (xs : List α) {k : Nat} (h : k ≤ xs.length) : cutL xs none (some (k : Int)) = xs.take k := by
  unfold cutL
  rw [HT.sIx_nat, HT.sIx_none, List.drop_zero, Nat.sub_zero, Nat.min_eq_left h]
theorem cut_fr {α : Type} (xs : List α) {k : Nat} (h : k ≤ xs.length) : cutL xs (some (k : Int)) none = xs.drop k := by
  unfold cutL
  rw [HT.sIx_nat, HT.sIx_none, Nat.min_eq_left h]
  exact List.take_of_length_le (by rw [List.length_drop]; exact Nat.le_refl _)
theorem cut_m1 {α : Type} (xs : List α) : cutL xs none (some (-1)) = xs.take (xs.length - 1) := by
  unfold cutL
  rw [HT.sIx_none, List.drop_zero, Nat.sub_zero]
  congr 1
  show (if (-1 : Int) < 0 then ((-1 : Int) + (xs.length : Int)).toNat else min (-1 : Int).toNat xs.length) = _
  rw [if_pos (by decide)]
  omega
theorem F2.get {α : Type} {R : α → Val → Prop} : ∀ {xs : List α} {vs : List Val} (_ : F2 R xs vs) (k : Nat) (h : k < xs.length) (h2 : k < vs.length), R xs[k] vs[k]
  | _, _, .cons h _, 0, _, _ => h
  | _, _, .cons _ t, k + 1, h, h2 => t.get k (Nat.lt_of_succ_lt_succ h) (Nat.lt_of_succ_lt_succ h2)
/-- a row of m numbers below a bound, or -1 -/
def RowR (bd m : Int) (v : Val) : Prop := ∃ r : List Int, v = tiV r ∧ (r.length : Int) = m ∧ ∀ x ∈ r, -1 ≤ x ∧ x < bd
theorem rowR_ok {bd m : Int} {v : Val} (h : RowR bd m v) : okRow bd m v = true := by
  obtain ⟨r, rfl, h1, h2⟩ := h
  show (decide (((r.map Val.int).length : Int) = m) && (r.map Val.int).all (okNum bd)) = true
  rw [List.length_map, decide_eq_true h1, List.all_map, Bool.true_and, List.all_eq_true]
  intro x hx
  obtain ⟨a, b⟩ := h2 x hx
  show (decide (-1 ≤ x) && decide (x < bd)) = true
  rw [decide_eq_true a, decide_eq_true b]
  rfl
theorem rows_ok {bd : Int} {ls : List Int} {vs : List Val} (h : F2 (RowR bd) ls vs) : areNums ls (.tup vs) bd = true := by
  show (decide (vs.length = ls.length) && (ls.zip vs).all fun p => okRow bd p.1 p.2) = true
  rw [decide_eq_true h.length, Bool.true_and]
  induction h with
  | nil => rfl
  | cons h t ih => rw [List.zip_cons_cons, List.all_cons, rowR_ok h, ih]; rfl
/-- one row is none -/
theorem rows_bad {bd : Int} {ls : List Int} {vs : List Val} {k : Nat} {w : Val} (h1 : k < ls.length) (h2 : k < vs.length) (hb : okRow bd ls[k] w = false) : areNums ls (.tup (vs.set k w)) bd = false := by
  show (decide ((vs.set k w).length = ls.length) && (ls.zip (vs.set k w)).all fun p => okRow bd p.1 p.2) = false
  rw [Bool.and_eq_false_iff]
  right
  refine List.all_eq_false.mpr ⟨(ls[k], w), ?_, by rw [hb]; exact Bool.false_ne_true⟩
  refine List.mem_iff_getElem.mpr ⟨k, by rw [List.length_zip, List.length_set]; omega, ?_⟩
  rw [List.getElem_zip, List.getElem_set_self]
theorem row_bad {bd m : Int} {xs : List Val} {k : Nat} {w : Val} (h : k < xs.length) (hb : okNum bd w = false) : okRow bd m (.tup (xs.set k w)) = false := by
  show (decide (((xs.set k w).length : Int) = m) && (xs.set k w).all (okNum bd)) = false
  rw [Bool.and_eq_false_iff]
  right
  exact List.all_eq_false.mpr ⟨w, List.mem_iff_getElem.mpr ⟨k, by rw [List.length_set]; exact h, List.getElem_set_self _⟩, by rw [hb]; exact Bool.false_ne_true⟩
theorem len_bad {bd m : Int} {xs : List Val} (h : (xs.length : Int) ≠ m) : okRow bd m (.tup xs) = false := by
  show (decide ((xs.length : Int) = m) && _) = false
  rw [decide_eq_false h]
  rfl
theorem lens_bad {bd : Int} {ls : List Int} {xs : List Val} (h : xs.length ≠ ls.length) : areNums ls (.tup xs) bd = false := by
  show (decide (xs.length = ls.length) && _) = false
  rw [decide_eq_false h]
  rfl
theorem dq_parN {a b : Addr} {e : IE} {ρ : ISt} {S : Sto} {P : Val → Prop} {D : IEnds} {Kx : IS} {i j : Nat} (h : DV a b e ρ P) (hd : Deal a b S)
    (q : ∀ v S' l, P v → Deal a b S' → Fr a b S S' → S' l = none → ∃ ρ1, setAll ρ [i, j] [v, .ref l] = some ρ1 ∧ Kx D ρ1 (S'.put l (.lst []))) : seqI (parI [i, j] (consA e (consA (lstI true nilA) nilA))) Kx D ρ S := h S _ _ hd fun v S' hv hd' f => ⟨show 0 ≤ sizeLine by decide, fun l hl => by
  obtain ⟨ρ1, e1, q⟩ := q v S' l hv hd' f hl
  show someP (setAll ρ [i, j] [v, .ref l]) fun ρ1 => Kx D ρ1 (S'.put l (.lst []))
  rw [e1]
  exact q⟩
theorem num_low {bd i : Int} (h : i < -1) : okNum bd (.int i) = false := by
  show (decide (-1 ≤ i) && decide (i < bd)) = false
  rw [decide_eq_false (show ¬ -1 ≤ i by omega)]
  rfl
theorem num_high {bd i : Int} (h : bd ≤ i) : okNum bd (.int i) = false := by
  show (decide (-1 ≤ i) && decide (i < bd)) = false
  rw [decide_eq_false (show ¬ i < bd by omega), Bool.and_false]
end TL

namespace K07
open PySem PySem.Spec L2 TL
open PyProof.Rows hiding St
/-! ### the text -/
abbrev prg : Program := PySem.Challenge.pw_thoughsomelie_k07_promises_are_let_exact
def topS (i : Nat) : Stmt := prg.main.body.getD i (.Pass ⟨0, 0, 0, 0⟩)
def inC (s : Stmt) (j : Nat) : Stmt := match s with
  | .ClassDef _ _ _ b _ _ _ _ _ _ _ => b.getD j (.Pass ⟨0, 0, 0, 0⟩)
  | s => s
def atP (l : List (Nat × Nat × Nat)) (p : Pos) : Bool := l.contains (p.line, p.col, p.endCol)
def tb : Tab where
  con := [("ALL_OF_IT", (.int (-1))), ("BARE", (.tup [(.str "own"), (.str "most")])), ("COUNT", (.str "count")), ("CUT", (.tup [(.str "div"), (.str "rest")])), ("FAULTS", (.tup [(.str "unlike"), (.str "alike"), (.str "silent")])), ("HOLD", (.str "hold")), ("HOWS", (.tup [(.str "same"), (.str "below")])), ("MOST_HELD", (.int 64)), ("MOVES", (.tup [(.str "all"), (.str "some"), (.str "one")])), ("NEAR", (.str "near")), ("NONE", (.int (-1))), ("PAIRED", (.tup [(.str "plus"), (.str "less"), (.str "times")])), ("SINGLE", (.str "single"))]
  dfs := (["is_integer", "is_number", "is_tuple", "first_wrong", "is_tuple_of", "is_number_row", "is_ascending", "is_lot", "is_lot_below", "are_numbers", "is_count", "is_near", "is_promise", "is_power", "is_some_number", "is_heard", "are_heard", "is_plain", "are_pairs", "with_parts", "parts_or_none", "is_rule", "is_formed", "wrong_letters", "wrong_hears", "table_base", "wrong_rule", "wrong_lots", "is_word_of", "fault_behind"] : List Str) ++ (["team_fault", "need_team", "_law_deal", "_law_any", "_law_of", "_law_is_kind", "_law_same", "_law_all", "_law_mixed", "_law_power", "_law_upto", "_law_sizes", "_law_drawn_numbers", "_law_drawn_lots", "_law_need", "_law_in", "_law_team_with", "_law_rows_wrong", "_law_told", "law"] : List Str)
  cls := ["Team", "View"]
  flds := [("Team", "faults"), ("Team", "hears"), ("Team", "letters"), ("Team", "lots"), ("Team", "moves"), ("Team", "promise"), ("Team", "rules"), ("View", "base"), ("View", "machines")]
  free := ["abs", "bool", "dict", "enumerate", "int", "isinstance", "len", "list", "max", "range", "sorted", "str", "tuple", "zip"]
  kwf := []
  cob := ["InvalidTeam", "Team", "TeamError"]
  own := ["Team", "View"]
  kit := [(.inl "NoneType", .inl "tuple", false), (.inl "bool", .inl "tuple", false), (.inl "int", .inl "tuple", false), (.inl "str", .inl "tuple", false), (.inl "tuple", .inl "tuple", true), (.inl "list", .inl "tuple", false), (.inl "dict", .inl "tuple", false), (.inr "Team", .inl "tuple", false), (.inr "View", .inl "tuple", false), (.inl "NoneType", .inl "list", false), (.inl "bool", .inl "list", false), (.inl "int", .inl "list", false), (.inl "str", .inl "list", false), (.inl "tuple", .inl "list", false), (.inl "list", .inl "list", true), (.inl "dict", .inl "list", false), (.inr "Team", .inl "list", false), (.inr "View", .inl "list", false), (.inl "NoneType", .inl "dict", false), (.inl "bool", .inl "dict", false), (.inl "int", .inl "dict", false), (.inl "str", .inl "dict", false), (.inl "tuple", .inl "dict", false), (.inl "list", .inl "dict", false), (.inl "dict", .inl "dict", true), (.inr "Team", .inl "dict", false), (.inr "View", .inl "dict", false), (.inl "NoneType", .inl "bool", false), (.inl "bool", .inl "bool", true), (.inl "int", .inl "bool", false), (.inl "str", .inl "bool", false), (.inl "tuple", .inl "bool", false), (.inl "list", .inl "bool", false), (.inl "dict", .inl "bool", false), (.inr "Team", .inl "bool", false), (.inr "View", .inl "bool", false), (.inl "NoneType", .inl "int", false), (.inl "bool", .inl "int", true), (.inl "int", .inl "int", true), (.inl "str", .inl "int", false), (.inl "tuple", .inl "int", false), (.inl "list", .inl "int", false), (.inl "dict", .inl "int", false), (.inr "Team", .inl "int", false), (.inr "View", .inl "int", false), (.inl "NoneType", .inl "str", false), (.inl "bool", .inl "str", false), (.inl "int", .inl "str", false), (.inl "str", .inl "str", true), (.inl "tuple", .inl "str", false), (.inl "list", .inl "str", false), (.inl "dict", .inl "str", false), (.inr "Team", .inl "str", false), (.inr "View", .inl "str", false), (.inl "NoneType", .inr "Team", false), (.inl "bool", .inr "Team", false), (.inl "int", .inr "Team", false), (.inl "str", .inr "Team", false), (.inl "tuple", .inr "Team", false), (.inl "list", .inr "Team", false), (.inl "dict", .inr "Team", false), (.inr "Team", .inr "Team", true), (.inr "View", .inr "Team", false)]
  exc := [("InvalidTeam", ["word", "at"], ["InvalidTeam", "TeamError"])]
  hcl := ["InvalidTeam", "TeamError"]
/-- InvalidTeam.__init__: 0 self 1 word 2 at -/
def m_InvalidTeam___init__ (Γ : Calls) : IS := (seqI (setFldI tb.F "word" (varI 0) (varI 1))
  (seqI (setFldI tb.F "at" (varI 0) (varI 2))
  nextI))
/-- is_integer: 0 value -/
def m_is_integer (Γ : Calls) : IS := (seqI (retI false (andV (un1 (isiP tb.kit tb.own [(.inl "int")]) (varI 0)) (un1 notP (un1 (isiP tb.kit tb.own [(.inl "bool")]) (varI 0)))))
  nextI)
/-- is_number: 0 value -/
def m_is_number (Γ : Calls) : IS := (seqI (retI false (andV (callF Γ "is_integer" (consA (varI 0) nilA)) (bin2 geP (varI 0) (conI (.int 0)))))
  nextI)
/-- is_tuple: 0 value 1 many -/
def m_is_tuple (Γ : Calls) : IS := (seqI (retI false (andV (un1 (isiP tb.kit tb.own [(.inl "tuple")]) (varI 0)) (bin2 eqP (callP lenP (consA (varI 0) nilA)) (varI 1))))
  nextI)
/-- first_wrong: 0 values 1 test 2 at 3 value -/
def m_first_wrong (Γ : Calls) : IS := (seqI (forI (enumAI (varI 0)) (.tp [2, 3]) (seqI (ifI (notT (tst (callLI Γ tb.dfs 1 (consA (varI 3) nilA)))) (seqI (retI false (varI 2))
  nextI) nextI)
  nextI))
  (seqI (retI false (un1 negP (conI (.int 1))))
  nextI))
/-- is_tuple_of: 0 value 1 test -/
def m_is_tuple_of (Γ : Calls) : IS := (seqI (retI false (andV (un1 (isiP tb.kit tb.own [(.inl "tuple")]) (varI 0)) (bin2 ltP (callF Γ "first_wrong" (consA (varI 0) (consA (varI 1) nilA))) (conI (.int 0)))))
  nextI)
/-- is_number_row: 0 value -/
def m_is_number_row (Γ : Calls) : IS := (seqI (retI false (callF Γ "is_tuple_of" (consA (varI 0) (consA (conI (.fn "is_number")) nilA))))
  nextI)
/-- is_ascending: 0 values 1 at -/
def m_is_ascending (Γ : Calls) : IS := (seqI (forI (rng1I (bin2 subP (callP lenP (consA (varI 0) nilA)) (conI (.int 1)))) (.nm 1) (seqI (ifI (notT (tstB (bin2 ltP (bin2 ixP (varI 0) (varI 1)) (bin2 ixP (varI 0) (bin2 (addP false) (varI 1) (conI (.int 1))))))) (seqI (retI false (conI (.bl false)))
  nextI) nextI)
  nextI))
  (seqI (retI false (conI (.bl true)))
  nextI))
/-- is_lot: 0 value -/
def m_is_lot (Γ : Calls) : IS := (seqI (retI false (andV (callF Γ "is_number_row" (consA (varI 0) nilA)) (callF Γ "is_ascending" (consA (varI 0) nilA))))
  nextI)
/-- is_lot_below: 0 value 1 many -/
def m_is_lot_below (Γ : Calls) : IS := (seqI (retI false (andV (callF Γ "is_lot" (consA (varI 0) nilA)) (orV (bin2 eqP (varI 0) (tupI nilA)) (bin2 ltP (bin2 ixP (varI 0) (un1 negP (conI (.int 1)))) (varI 1)))))
  nextI)
/-- are_numbers: 0 letters 1 value 2 bound 3 many 4 row 5 number -/
def m_are_numbers (Γ : Calls) : IS := (seqI (ifI (notT (tst (callF Γ "is_tuple" (consA (varI 1) (consA (callP lenP (consA (varI 0) nilA)) nilA))))) (seqI (retI false (conI (.bl false)))
  nextI) nextI)
  (seqI (forI (zipI (varI 0) (varI 1)) (.tp [3, 4]) (seqI (ifI (notT (tst (callF Γ "is_tuple" (consA (varI 4) (consA (varI 3) nilA))))) (seqI (retI false (conI (.bl false)))
  nextI) nextI)
  (seqI (ifI (tstB (bin2 neP (lcI false (walkI (varI 4)) (.nm 5) (orT (notT (tst (callF Γ "is_integer" (consA (varI 5) nilA)))) (notT (tstB (chnI leP ltP (conI (.int (-1))) (varI 5) (varI 2))))) (varI 5) [5]) (lstI false nilA))) (seqI (retI false (conI (.bl false)))
  nextI) nextI)
  nextI)))
  (seqI (retI false (conI (.bl true)))
  nextI)))
/-- is_count: 0 letters 1 value -/
def m_is_count (Γ : Calls) : IS := (seqI (ifI (orT (tstB (bin2 neP (callP lenP (consA (varI 1) nilA)) (conI (.int 3)))) (orT (notT (tst (callF Γ "is_number" (consA (bin2 ixP (varI 1) (conI (.int 1))) nilA)))) (tstB (bin2 eqP (bin2 ixP (varI 1) (conI (.int 1))) (conI (.int 0)))))) (seqI (retI false (conI (.bl false)))
  nextI) nextI)
  (seqI (retI false (callF Γ "are_numbers" (consA (varI 0) (consA (bin2 ixP (varI 1) (conI (.int 2))) (consA (bin2 ixP (varI 1) (conI (.int 1))) nilA)))))
  nextI))
/-- is_near: 0 letters 1 value -/
def m_is_near (Γ : Calls) : IS := (seqI (retI false (andV (bin2 eqP (callP lenP (consA (varI 1) nilA)) (conI (.int 3))) (andV (callF Γ "is_number" (consA (bin2 ixP (varI 1) (conI (.int 1))) nilA)) (callF Γ "are_numbers" (consA (varI 0) (consA (bin2 ixP (varI 1) (conI (.int 2))) (consA (conI (.int 64)) nilA)))))))
  nextI)
/-- is_promise: 0 letters 1 lots 2 value -/
def m_is_promise (Γ : Calls) : IS := (seqI (ifI (orT (notT (tst (un1 (isiP tb.kit tb.own [(.inl "tuple")]) (varI 2)))) (orT (tstB (bin2 eqP (varI 2) (tupI nilA))) (notT (tst (un1 (isiP tb.kit tb.own [(.inl "str")]) (bin2 ixP (varI 2) (conI (.int 0)))))))) (seqI (retI false (conI (.bl false)))
  nextI) nextI)
  (seqI (ifI (tstB (bin2 eqP (bin2 ixP (varI 2) (conI (.int 0))) (conI (.str "count")))) (seqI (retI false (callF Γ "is_count" (consA (varI 0) (consA (varI 2) nilA))))
  nextI) nextI)
  (seqI (ifI (tstB (bin2 eqP (bin2 ixP (varI 2) (conI (.int 0))) (conI (.str "hold")))) (seqI (retI false (andV (bin2 eqP (callP lenP (consA (varI 2) nilA)) (conI (.int 2))) (callF Γ "are_numbers" (consA (varI 0) (consA (bin2 ixP (varI 2) (conI (.int 1))) (consA (conI (.int 64)) nilA))))))
  nextI) nextI)
  (seqI (ifI (tstB (bin2 eqP (bin2 ixP (varI 2) (conI (.int 0))) (conI (.str "near")))) (seqI (retI false (callF Γ "is_near" (consA (varI 0) (consA (varI 2) nilA))))
  nextI) nextI)
  (seqI (retI false (andV (bin2 eqP (varI 2) (tupI (consA (conI (.str "single")) nilA))) (bin2 eqP (varI 1) (tupI (consA (tupI nilA) nilA)))))
  nextI)))))
/-- View.__init__: 0 self 1 machines 2 base -/
def m_View___init__ (Γ : Calls) : IS := (seqI (setFldI tb.F "machines" (varI 0) (varI 1))
  (seqI (setFldI tb.F "base" (varI 0) (varI 2))
  nextI))
/-- is_power: 0 many 1 base 2 times 3 found 4 _ -/
def m_is_power (Γ : Calls) : IS := (seqI (setI (.nm 3) (conI (.int 1)))
  (seqI (forI (rng1I (varI 2)) (.nm 4) (seqI (augI 3 mulI (varI 1))
  (seqI (ifI (tstB (bin2 gtP (varI 3) (varI 0))) (seqI (retI false (conI (.bl false)))
  nextI) nextI)
  nextI)))
  (seqI (retI false (bin2 eqP (varI 3) (varI 0)))
  nextI)))
/-- is_some_number: 0 value -/
def m_is_some_number (Γ : Calls) : IS := (seqI (retI false (andV (callF Γ "is_number" (consA (varI 0) nilA)) (bin2 gtP (varI 0) (conI (.int 0)))))
  nextI)
/-- is_heard: 0 view 1 value -/
def m_is_heard (Γ : Calls) : IS := (seqI (retI false (andV (callF Γ "is_number" (consA (varI 1) nilA)) (bin2 (inP false) (varI 1) (un1 (fldP tb.F "machines") (varI 0)))))
  nextI)
/-- are_heard: 0 view 1 value 2 machine -/
def m_are_heard (Γ : Calls) : IS := (seqI (retI false (andV (callF Γ "is_lot" (consA (varI 1) nilA)) (bin2 eqP (lcI false (walkI (varI 1)) (.nm 2) (tstB (bin2 (inP true) (varI 2) (un1 (fldP tb.F "machines") (varI 0)))) (varI 2) [2]) (lstI false nilA))))
  nextI)
/-- is_plain: 0 view 1 value 2 word 3 thing -/
def m_is_plain (Γ : Calls) : IS := (seqI (setI (.tp [2, 3]) (varI 1))
  (seqI (ifI (tstB (bin2 (inP false) (varI 2) (tupI (consA (conI (.str "number")) (consA (conI (.str "count")) (consA (conI (.str "sorted")) nilA)))))) (seqI (retI false (callF Γ "is_number" (consA (varI 3) nilA)))
  nextI) nextI)
  (seqI (ifI (tstB (bin2 eqP (varI 2) (conI (.str "heard")))) (seqI (retI false (callF Γ "is_heard" (consA (varI 0) (consA (varI 3) nilA))))
  nextI) nextI)
  (seqI (ifI (tstB (bin2 eqP (varI 2) (conI (.str "mostof")))) (seqI (retI false (callF Γ "are_heard" (consA (varI 0) (consA (varI 3) nilA))))
  nextI) nextI)
  (seqI (retI false (andV (bin2 eqP (varI 2) (conI (.str "table"))) (andV (callF Γ "is_number_row" (consA (varI 3) nilA)) (callF Γ "is_power" (consA (callP lenP (consA (varI 3) nilA)) (consA (un1 (fldP tb.F "base") (varI 0)) (consA (bin2 (addP false) (conI (.int 1)) (callP lenP (consA (un1 (fldP tb.F "machines") (varI 0)) nilA))) nilA)))))))
  nextI)))))
/-- are_pairs: 0 value 1 pair 2 machine 3 _ -/
def m_are_pairs (Γ : Calls) : IS := (seqI (ifI (notT (tst (un1 (isiP tb.kit tb.own [(.inl "tuple")]) (varI 0)))) (seqI (retI false (conI (.bl false)))
  nextI) nextI)
  (seqI (forI (walkI (varI 0)) (.nm 1) (seqI (ifI (orT (notT (tst (callF Γ "is_tuple" (consA (varI 1) (consA (conI (.int 2)) nilA))))) (notT (tst (callF Γ "is_number" (consA (bin2 ixP (varI 1) (conI (.int 0))) nilA))))) (seqI (retI false (conI (.bl false)))
  nextI) nextI)
  nextI))
  (seqI (retI false (callF Γ "is_ascending" (consA (lcI false (walkI (varI 0)) (.tp [2, 3]) yesT (varI 2) [2, 3]) nilA)))
  nextI)))
/-- with_parts: 0 view 1 value 2 inner 3 machine 4 _ 5 part -/
def m_with_parts (Γ : Calls) : IS := (seqI (ifI (orT (tstB (bin2 neP (callP lenP (consA (varI 1) nilA)) (conI (.int 5)))) (orT (notT (tst (callF Γ "is_some_number" (consA (bin2 ixP (varI 1) (conI (.int 1))) nilA)))) (notT (tst (callF Γ "are_pairs" (consA (bin2 ixP (varI 1) (conI (.int 4))) nilA)))))) (seqI (retI false (conI .non))
  nextI) nextI)
  (seqI (setI (.nm 2) (makeI Γ "View" true (consA (callP tupleP (consA (lcI false (walkI (bin2 ixP (varI 1) (conI (.int 4)))) (.tp [3, 4]) yesT (varI 3) [3, 4]) nilA)) (consA (bin2 ixP (varI 1) (conI (.int 1))) nilA))))
  (seqI (retI false (bin2 (addP false) (lstI false (consA (tupI (consA (varI 2) (consA (bin2 ixP (varI 1) (conI (.int 2))) nilA))) (consA (tupI (consA (varI 0) (consA (bin2 ixP (varI 1) (conI (.int 3))) nilA))) nilA))) (lcI false (walkI (bin2 ixP (varI 1) (conI (.int 4)))) (.tp [4, 5]) yesT (tupI (consA (varI 0) (consA (varI 5) nilA))) [4, 5])))
  nextI)))
/-- parts_or_none: 0 view 1 value 2 word 3 is_right 4 part -/
def m_parts_or_none (Γ : Calls) : IS := (seqI (setI (.nm 2) (bin2 ixP (varI 1) (conI (.int 0))))
  (seqI (ifI (tstB (bin2 (inP false) (varI 2) (conI (.tup [(.str "own"), (.str "most")])))) (seqI (retI false (ifE (tstB (bin2 eqP (callP lenP (consA (varI 1) nilA)) (conI (.int 1)))) (lstI false nilA) (conI .non)))
  nextI) nextI)
  (seqI (ifI (tstB (bin2 (inP false) (varI 2) (conI (.tup [(.str "plus"), (.str "less"), (.str "times")])))) (seqI (retI false (ifE (tstB (bin2 eqP (callP lenP (consA (varI 1) nilA)) (conI (.int 3)))) (lstI false (consA (tupI (consA (varI 0) (consA (bin2 ixP (varI 1) (conI (.int 1))) nilA))) (consA (tupI (consA (varI 0) (consA (bin2 ixP (varI 1) (conI (.int 2))) nilA))) nilA))) (conI .non)))
  nextI) nextI)
  (seqI (ifI (tstB (bin2 (inP false) (varI 2) (conI (.tup [(.str "div"), (.str "rest")])))) (seqI (retI false (ifE (andT (tstB (bin2 eqP (callP lenP (consA (varI 1) nilA)) (conI (.int 3)))) (tst (callF Γ "is_some_number" (consA (bin2 ixP (varI 1) (conI (.int 2))) nilA)))) (lstI false (consA (tupI (consA (varI 0) (consA (bin2 ixP (varI 1) (conI (.int 1))) nilA))) nilA)) (conI .non)))
  nextI) nextI)
  (seqI (ifI (tstB (bin2 eqP (varI 2) (conI (.str "if")))) (seqI (setI (.nm 3) (andV (bin2 eqP (callP lenP (consA (varI 1) nilA)) (conI (.int 6))) (andV (un1 (isiP tb.kit tb.own [(.inl "str")]) (bin2 ixP (varI 1) (conI (.int 1)))) (bin2 (inP false) (bin2 ixP (varI 1) (conI (.int 1))) (conI (.tup [(.str "same"), (.str "below")]))))))
  (seqI (retI false (ifE (tst (varI 3)) (lcI false (walkI (sliceI false (varI 1) (partI (conI (.int 2))) noPart)) (.nm 4) yesT (tupI (consA (varI 0) (consA (varI 4) nilA))) [4]) (conI .non)))
  nextI)) nextI)
  (seqI (ifI (tstB (bin2 eqP (varI 2) (conI (.str "with")))) (seqI (retI false (callF Γ "with_parts" (consA (varI 0) (consA (varI 1) nilA))))
  nextI) nextI)
  (seqI (retI false (ifE (andT (tstB (bin2 eqP (callP lenP (consA (varI 1) nilA)) (conI (.int 2)))) (tst (callF Γ "is_plain" (consA (varI 0) (consA (varI 1) nilA))))) (lstI false nilA) (conI .non)))
  nextI)))))))
/-- is_rule: 0 view 1 value 2 todo 3 here 4 thing 5 parts -/
def m_is_rule (Γ : Calls) : IS := (seqI (setI (.nm 2) (lstI true (consA (tupI (consA (varI 0) (consA (varI 1) nilA))) nilA)))
  (seqI (whileI (tstB (bin2 neP (varI 2) (lstI false nilA))) (seqI (setI (.tp [3, 4]) (lmethI popP (varI 2) nilA))
  (seqI (ifI (orT (notT (tst (un1 (isiP tb.kit tb.own [(.inl "tuple")]) (varI 4)))) (orT (tstB (bin2 eqP (varI 4) (tupI nilA))) (notT (tst (un1 (isiP tb.kit tb.own [(.inl "str")]) (bin2 ixP (varI 4) (conI (.int 0)))))))) (seqI (retI false (conI (.bl false)))
  nextI) nextI)
  (seqI (setI (.nm 5) (callF Γ "parts_or_none" (consA (varI 3) (consA (varI 4) nilA))))
  (seqI (ifI (tstB (bin2 isP (varI 5) (conI .non))) (seqI (retI false (conI (.bl false)))
  nextI) nextI)
  (seqI (dropI (lmethI extendP (varI 2) (consA (varI 5) nilA)))
  nextI))))))
  (seqI (retI false (conI (.bl true)))
  nextI)))
/-- is_formed: 0 letters 1 hears 2 rules 3 value -/
def m_is_formed (Γ : Calls) : IS := (seqI (forI (walkI (tupI (consA (varI 0) (consA (varI 1) (consA (varI 2) nilA))))) (.nm 3) (seqI (ifI (orT (notT (tst (un1 (isiP tb.kit tb.own [(.inl "tuple")]) (varI 3)))) (tstB (bin2 eqP (callP lenP (consA (varI 3) nilA)) (conI (.int 0))))) (seqI (retI false (conI (.bl false)))
  nextI) nextI)
  nextI))
  (seqI (retI false (andV (bin2 eqP (callP lenP (consA (varI 0) nilA)) (callP lenP (consA (varI 1) nilA))) (bin2 eqP (callP lenP (consA (varI 0) nilA)) (callP lenP (consA (varI 2) nilA)))))
  nextI))
/-- wrong_letters: 0 letters 1 machine 2 many -/
def m_wrong_letters (Γ : Calls) : IS := (seqI (forI (enumAI (varI 0)) (.tp [1, 2]) (seqI (ifI (orT (notT (tst (callF Γ "is_number" (consA (varI 2) nilA)))) (tstB (bin2 eqP (varI 2) (conI (.int 0))))) (seqI (retI false (varI 1))
  nextI) nextI)
  nextI))
  (seqI (retI false (conI .non))
  nextI))
/-- wrong_hears: 0 hears 1 machine 2 lot -/
def m_wrong_hears (Γ : Calls) : IS := (seqI (forI (enumAI (varI 0)) (.tp [1, 2]) (seqI (ifI (notT (tst (callF Γ "is_lot_below" (consA (varI 2) (consA (callP lenP (consA (varI 0) nilA)) nilA))))) (seqI (retI false (varI 1))
  nextI) nextI)
  nextI))
  (seqI (retI false (conI .non))
  nextI))
/-- table_base: 0 letters 1 hears 2 machine 3 other -/
def m_table_base (Γ : Calls) : IS := (seqI (retI false (callP maxP (consA (bin2 (addP false) (lstI false (consA (bin2 ixP (varI 0) (varI 2)) nilA)) (lcI false (walkI (bin2 ixP (varI 1) (varI 2))) (.nm 3) yesT (bin2 ixP (varI 0) (varI 3)) [3])) nilA)))
  nextI)
/-- wrong_rule: 0 letters 1 hears 2 rules 3 machine 4 rule -/
def m_wrong_rule (Γ : Calls) : IS := (seqI (forI (enumAI (varI 2)) (.tp [3, 4]) (seqI (ifI (notT (tst (callF Γ "is_rule" (consA (makeI Γ "View" true (consA (bin2 ixP (varI 1) (varI 3)) (consA (callF Γ "table_base" (consA (varI 0) (consA (varI 1) (consA (varI 3) nilA)))) nilA))) (consA (varI 4) nilA))))) (seqI (retI false (varI 3))
  nextI) nextI)
  nextI))
  (seqI (retI false (conI .non))
  nextI))
/-- wrong_lots: 0 machines 1 lots 2 number 3 lot -/
def m_wrong_lots (Γ : Calls) : IS := (seqI (ifI (notT (tst (un1 (isiP tb.kit tb.own [(.inl "tuple")]) (varI 1)))) (seqI (retI false (conI (.int (-1))))
  nextI) nextI)
  (seqI (forI (enumAI (varI 1)) (.tp [2, 3]) (seqI (ifI (orT (notT (tst (callF Γ "is_lot_below" (consA (varI 3) (consA (varI 0) nilA))))) (tstB (bin2 eqP (callP lenP (consA (varI 3) nilA)) (varI 0)))) (seqI (retI false (varI 2))
  nextI) nextI)
  nextI))
  (seqI (retI false (ifE (andT (tstB (bin2 neP (varI 1) (tupI nilA))) (tst (callF Γ "is_ascending" (consA (varI 1) nilA)))) (conI .non) (conI (.int (-1)))))
  nextI)))
/-- is_word_of: 0 value 1 words -/
def m_is_word_of (Γ : Calls) : IS := (seqI (retI false (andV (un1 (isiP tb.kit tb.own [(.inl "str")]) (varI 0)) (bin2 (inP false) (varI 0) (varI 1))))
  nextI)
/-- fault_behind: 0 team 1 at -/
def m_fault_behind (Γ : Calls) : IS := (seqI (ifI (notT (tst (callF Γ "is_word_of" (consA (un1 (fldP tb.F "faults") (varI 0)) (consA (conI (.tup [(.str "unlike"), (.str "alike"), (.str "silent")])) nilA))))) (seqI (retI false (tupI (consA (conI (.str "faults")) (consA (conI (.int (-1))) nilA))))
  nextI) nextI)
  (seqI (ifI (notT (tst (callF Γ "is_word_of" (consA (un1 (fldP tb.F "moves") (varI 0)) (consA (conI (.tup [(.str "all"), (.str "some"), (.str "one")])) nilA))))) (seqI (retI false (tupI (consA (conI (.str "moves")) (consA (conI (.int (-1))) nilA))))
  nextI) nextI)
  (seqI (setI (.nm 1) (callF Γ "wrong_lots" (consA (callP lenP (consA (un1 (fldP tb.F "letters") (varI 0)) nilA)) (consA (un1 (fldP tb.F "lots") (varI 0)) nilA))))
  (seqI (ifI (tstB (bin2 isNotP (varI 1) (conI .non))) (seqI (retI false (tupI (consA (conI (.str "lots")) (consA (varI 1) nilA))))
  nextI) nextI)
  (seqI (ifI (notT (tst (callF Γ "is_promise" (consA (un1 (fldP tb.F "letters") (varI 0)) (consA (un1 (fldP tb.F "lots") (varI 0)) (consA (un1 (fldP tb.F "promise") (varI 0)) nilA)))))) (seqI (retI false (tupI (consA (conI (.str "promise")) (consA (conI (.int (-1))) nilA))))
  nextI) nextI)
  (seqI (retI false (conI .non))
  nextI))))))
/-- team_fault: 0 team 1 at -/
def m_team_fault (Γ : Calls) : IS := (seqI (ifI (notT (tst (callF Γ "is_formed" (consA (un1 (fldP tb.F "letters") (varI 0)) (consA (un1 (fldP tb.F "hears") (varI 0)) (consA (un1 (fldP tb.F "rules") (varI 0)) nilA)))))) (seqI (retI false (tupI (consA (conI (.str "form")) (consA (conI (.int (-1))) nilA))))
  nextI) nextI)
  (seqI (setI (.nm 1) (callF Γ "wrong_letters" (consA (un1 (fldP tb.F "letters") (varI 0)) nilA)))
  (seqI (ifI (tstB (bin2 isNotP (varI 1) (conI .non))) (seqI (retI false (tupI (consA (conI (.str "letters")) (consA (varI 1) nilA))))
  nextI) nextI)
  (seqI (setI (.nm 1) (callF Γ "wrong_hears" (consA (un1 (fldP tb.F "hears") (varI 0)) nilA)))
  (seqI (ifI (tstB (bin2 isNotP (varI 1) (conI .non))) (seqI (retI false (tupI (consA (conI (.str "hears")) (consA (varI 1) nilA))))
  nextI) nextI)
  (seqI (setI (.nm 1) (callF Γ "wrong_rule" (consA (un1 (fldP tb.F "letters") (varI 0)) (consA (un1 (fldP tb.F "hears") (varI 0)) (consA (un1 (fldP tb.F "rules") (varI 0)) nilA)))))
  (seqI (retI false (ifE (tstB (bin2 isP (varI 1) (conI .non))) (callF Γ "fault_behind" (consA (varI 0) nilA)) (tupI (consA (conI (.str "rule")) (consA (varI 1) nilA)))))
  nextI)))))))
/-- Team.__init__: 0 self 1 letters 2 hears 3 rules 4 faults 5 moves 6 lots 7 promise -/
def m_Team___init__ (Γ : Calls) : IS := (seqI (setFldI tb.F "letters" (varI 0) (varI 1))
  (seqI (setFldI tb.F "hears" (varI 0) (varI 2))
  (seqI (setFldI tb.F "rules" (varI 0) (varI 3))
  (seqI (setFldI tb.F "faults" (varI 0) (varI 4))
  (seqI (setFldI tb.F "moves" (varI 0) (varI 5))
  (seqI (setFldI tb.F "lots" (varI 0) (varI 6))
  (seqI (setFldI tb.F "promise" (varI 0) (varI 7))
  nextI)))))))
/-- need_team: 0 value 1 fault -/
def m_need_team (Γ : Calls) : IS := (seqI (ifI (notT (tst (un1 (isiP tb.kit tb.own [(.inr "Team")]) (varI 0)))) (seqI (raiseI "InvalidTeam" ["word", "at"] (consA (conI (.str "form")) (consA (un1 negP (conI (.int 1))) nilA)))
  nextI) nextI)
  (seqI (setI (.nm 1) (callF Γ "team_fault" (consA (varI 0) nilA)))
  (seqI (ifI (tstB (bin2 isNotP (varI 1) (conI .non))) (seqI (raiseI "InvalidTeam" ["word", "at"] (consA (bin2 ixP (varI 1) (conI (.int 0))) (consA (bin2 ixP (varI 1) (conI (.int 1))) nilA)))
  nextI) nextI)
  nextI)))
/-- _law_deal: 0 script 1 salt 2 most 3 cell 4 cells 5 mix -/
def m__law_deal (Γ : Calls) : IS := (seqI (setI (.nm 2) (bin2 (mulP false) (bin2 (mulP false) (bin2 (mulP false) (bin2 (mulP false) (bin2 (mulP false) (bin2 powP (conI (.int 10)) (conI (.int 64))) (bin2 powP (conI (.int 10)) (conI (.int 64)))) (bin2 powP (conI (.int 10)) (conI (.int 64)))) (bin2 powP (conI (.int 10)) (conI (.int 64)))) (bin2 powP (conI (.int 10)) (conI (.int 64)))) (bin2 powP (conI (.int 10)) (conI (.int 64)))))
  (seqI (setI (.nm 4) (lcI false (walkI (sliceI false (varI 0) noPart (partI (conI (.int 63))))) (.nm 3) yesT (bin2 modP (callP intP (consA (callP absP (consA (callP intP (consA (varI 3) nilA)) nilA)) nilA)) (varI 2)) [3]))
  (seqI (setI (.nm 5) (bin2 (addP false) (conI (.int 70001)) (bin2 (mulP false) (conI (.int 7919)) (varI 1))))
  (seqI (forI (walkI (varI 4)) (.nm 3) (seqI (setI (.nm 5) (bin2 modP (callP intP (consA (bin2 (addP false) (bin2 (addP false) (bin2 (mulP false) (varI 5) (conI (.int 69621))) (bin2 modP (callP intP (consA (varI 3) nilA)) (conI (.int 2147483563)))) (conI (.int 23))) nilA)) (conI (.int 2147483647))))
  nextI))
  (seqI (retI false (lstI true (consA (revI true (lcI false (walkI (varI 4)) (.nm 3) (tstB (bin2 geP (varI 3) (bin2 powP (conI (.int 10)) (conI (.int 18))))) (varI 3) [3])) (consA (varI 5) nilA))))
  nextI)))))
/-- _law_any: 0 deal 1 bound 2 rest -/
def m__law_any (Γ : Calls) : IS := (seqI (whileI (andT (tstB (bin2 gtP (callP lenP (consA (bin2 ixP (varI 0) (conI (.int 0))) nilA)) (conI (.int 0)))) (tstB (bin2 eqP (bin2 ixP (bin2 ixP (varI 0) (conI (.int 0))) (un1 negP (conI (.int 1)))) (conI (.int 0))))) (seqI (dropI (lmethI popP (bin2 ixP (varI 0) (conI (.int 0))) nilA))
  nextI))
  (seqI (ifI (tstB (bin2 gtP (callP lenP (consA (bin2 ixP (varI 0) (conI (.int 0))) nilA)) (conI (.int 0)))) (seqI (setI (.nm 2) (callP intP (consA (lmethI popP (bin2 ixP (varI 0) (conI (.int 0))) nilA) nilA)))
  (seqI (dropI (lmethI appendP (bin2 ixP (varI 0) (conI (.int 0))) (consA (bin2 fdivP (varI 2) (varI 1)) nilA)))
  (seqI (retI false (bin2 modP (varI 2) (varI 1)))
  nextI))) nextI)
  (seqI (storeI (varI 0) (conI (.int 1)) (bin2 modP (callP intP (consA (bin2 (addP false) (bin2 (mulP false) (bin2 ixP (varI 0) (conI (.int 1))) (conI (.int 48271))) (conI (.int 31))) nilA)) (conI (.int 2147483647))))
  (seqI (retI false (bin2 modP (callP intP (consA (bin2 fdivP (bin2 ixP (varI 0) (conI (.int 1))) (conI (.int 64))) nilA)) (varI 1)))
  nextI))))
/-- _law_of: 0 deal 1 some -/
def m__law_of (Γ : Calls) : IS := (seqI (retI false (bin2 ixP (varI 1) (callF Γ "_law_any" (consA (varI 0) (consA (callP lenP (consA (varI 1) nilA)) nilA)))))
  nextI)
/-- _law_is_kind: 0 told 1 due -/
def m__law_is_kind (Γ : Calls) : IS := (seqI (ifI (tstB (bin2 isP (varI 1) (conI .non))) (seqI (retI false (bin2 isP (varI 0) (conI .non)))
  nextI) nextI)
  (seqI (ifI (orT (tstB (bin2 isP (varI 1) (conI (.bl true)))) (tstB (bin2 isP (varI 1) (conI (.bl false))))) (seqI (retI false (ifE (tst (varI 1)) (bin2 isP (varI 0) (conI (.bl true))) (bin2 isP (varI 0) (conI (.bl false)))))
  nextI) nextI)
  (seqI (ifI (tst (un1 (isiP tb.kit tb.own [(.inl "str")]) (varI 1))) (seqI (retI false (andV (un1 (isiP tb.kit tb.own [(.inl "str")]) (varI 0)) (bin2 eqP (varI 0) (varI 1))))
  nextI) nextI)
  (seqI (retI false (andV (un1 (isiP tb.kit tb.own [(.inl "int")]) (varI 0)) (andV (un1 notP (un1 (isiP tb.kit tb.own [(.inl "bool")]) (varI 0))) (bin2 eqP (varI 0) (varI 1)))))
  nextI))))
/-- _law_same: 0 told 1 due 2 todo 3 one 4 other 5 at -/
def m__law_same (Γ : Calls) : IS := (seqI (setI (.nm 2) (lstI true (consA (tupI (consA (varI 0) (consA (varI 1) nilA))) nilA)))
  (seqI (whileI (tstB (bin2 gtP (callP lenP (consA (varI 2) nilA)) (conI (.int 0)))) (seqI (setI (.tp [3, 4]) (lmethI popP (varI 2) nilA))
  (seqI (ifI (tst (un1 (isiP tb.kit tb.own [(.inl "tuple")]) (varI 4))) (seqI (ifI (orT (notT (tst (un1 (isiP tb.kit tb.own [(.inl "tuple")]) (varI 3)))) (tstB (bin2 neP (callP lenP (consA (varI 3) nilA)) (callP lenP (consA (varI 4) nilA))))) (seqI (retI false (conI (.bl false)))
  nextI) nextI)
  (seqI (forI (rng1I (callP lenP (consA (varI 4) nilA))) (.nm 5) (seqI (dropI (lmethI appendP (varI 2) (consA (tupI (consA (bin2 ixP (varI 3) (varI 5)) (consA (bin2 ixP (varI 4) (varI 5)) nilA))) nilA)))
  nextI))
  nextI)) (seqI (ifI (orT (tst (un1 (isiP tb.kit tb.own [(.inl "tuple"), (.inl "list"), (.inl "dict")]) (varI 3))) (notT (tst (callF Γ "_law_is_kind" (consA (varI 3) (consA (varI 4) nilA)))))) (seqI (retI false (conI (.bl false)))
  nextI) nextI)
  nextI))
  nextI)))
  (seqI (retI false (conI (.bl true)))
  nextI)))
/-- _law_all: 0 pairs 1 told 2 due -/
def m__law_all (Γ : Calls) : IS := (seqI (retI false (bin2 eqP (callP lenP (consA (lcI false (walkI (varI 0)) (.tp [1, 2]) (notT (tst (callF Γ "_law_same" (consA (varI 1) (consA (varI 2) nilA))))) (varI 1) [1, 2]) nilA)) (conI (.int 0))))
  nextI)
/-- _law_mixed: 0 deal 1 some 2 left 3 found 4 turn -/
def m__law_mixed (Γ : Calls) : IS := (seqI (parI [2, 3] (consA (callP (listP true) (consA (varI 1) nilA)) (consA (lstI true nilA) nilA)))
  (seqI (forI (rng1I (callP lenP (consA (varI 1) nilA))) (.nm 4) (seqI (dropI (lmethI appendP (varI 3) (consA (lmethI popP (varI 2) (consA (callF Γ "_law_any" (consA (varI 0) (consA (callP lenP (consA (varI 2) nilA)) nilA))) nilA)) nilA)))
  nextI))
  (seqI (retI true (varI 3))
  nextI)))
/-- _law_power: 0 base 1 times 2 found 3 turn -/
def m__law_power (Γ : Calls) : IS := (seqI (setI (.nm 2) (conI (.int 1)))
  (seqI (forI (rng1I (varI 1)) (.nm 3) (seqI (setI (.nm 2) (bin2 (mulP false) (varI 2) (varI 0)))
  nextI))
  (seqI (retI false (varI 2))
  nextI)))
/-- _law_upto: 0 machines 1 many 2 found 3 number 4 lot 5 rest 6 machine -/
def m__law_upto (Γ : Calls) : IS := (seqI (setI (.nm 2) (lstI true nilA))
  (seqI (forI (rng1I (callF Γ "_law_power" (consA (conI (.int 2)) (consA (varI 0) nilA)))) (.nm 3) (seqI (parI [4, 5] (consA (lstI true nilA) (consA (varI 3) nilA)))
  (seqI (forI (rng1I (varI 0)) (.nm 6) (seqI (ifI (tstB (bin2 eqP (bin2 modP (callP intP (consA (varI 5) nilA)) (conI (.int 2))) (conI (.int 1)))) (seqI (dropI (lmethI appendP (varI 4) (consA (varI 6) nilA)))
  nextI) nextI)
  (seqI (setI (.nm 5) (bin2 fdivP (varI 5) (conI (.int 2))))
  nextI)))
  (seqI (ifI (andT (tstB (bin2 leP (callP lenP (consA (varI 4) nilA)) (varI 1))) (tstB (bin2 ltP (callP lenP (consA (varI 4) nilA)) (varI 0)))) (seqI (dropI (lmethI appendP (varI 2) (consA (callP tupleP (consA (varI 4) nilA)) nilA)))
  nextI) nextI)
  nextI))))
  (seqI (retI false (callP (sortP false) (consA (varI 2) nilA)))
  nextI)))
/-- _law_sizes: 0 deal 1 some -/
def m__law_sizes (Γ : Calls) : IS := (seqI (setI (.nm 1) (lstI false (consA (lstI false (consA (conI (.int 2)) nilA)) (consA (lstI false (consA (conI (.int 4)) nilA)) (consA (lstI false (consA (conI (.int 3)) (consA (conI (.int 3)) nilA))) (consA (lstI false (consA (conI (.int 4)) (consA (conI (.int 2)) nilA))) (consA (lstI false (consA (conI (.int 2)) (consA (conI (.int 2)) nilA))) (consA (lstI false (consA (conI (.int 4)) (consA (conI (.int 4)) nilA))) (consA (lstI false (consA (conI (.int 2)) (consA (conI (.int 2)) (consA (conI (.int 2)) nilA)))) (consA (lstI false (consA (conI (.int 3)) (consA (conI (.int 3)) (consA (conI (.int 3)) nilA)))) (consA (lstI false (consA (conI (.int 4)) (consA (conI (.int 3)) (consA (conI (.int 2)) nilA)))) (consA (lstI false (consA (conI (.int 2)) (consA (conI (.int 4)) (consA (conI (.int 4)) nilA)))) (consA (lstI false (consA (conI (.int 1)) (consA (conI (.int 3)) (consA (conI (.int 2)) nilA)))) (consA (lstI false (consA (conI (.int 4)) (consA (conI (.int 4)) (consA (conI (.int 4)) nilA)))) nilA))))))))))))))
  (seqI (retI false (callF Γ "_law_of" (consA (varI 0) (consA (bin2 (addP false) (varI 1) (lstI false (consA (lstI false (consA (conI (.int 2)) (consA (conI (.int 2)) (consA (conI (.int 2)) (consA (conI (.int 2)) nilA))))) (consA (lstI false (consA (conI (.int 3)) (consA (conI (.int 3)) (consA (conI (.int 2)) (consA (conI (.int 2)) nilA))))) (consA (lstI false (consA (conI (.int 3)) (consA (conI (.int 3)) (consA (conI (.int 3)) (consA (conI (.int 3)) nilA))))) (consA (lstI false (consA (conI (.int 2)) (consA (conI (.int 2)) (consA (conI (.int 2)) (consA (conI (.int 2)) (consA (conI (.int 2)) nilA)))))) (consA (lstI false (consA (conI (.int 2)) (consA (conI (.int 1)) (consA (conI (.int 3)) (consA (conI (.int 2)) (consA (conI (.int 2)) nilA)))))) (consA (lstI false (consA (conI (.int 2)) (consA (conI (.int 2)) (consA (conI (.int 2)) (consA (conI (.int 2)) (consA (conI (.int 2)) (consA (conI (.int 2)) nilA))))))) nilA)))))))) nilA))))
  nextI))
/-- _law_drawn_numbers: 0 deal 1 letters 2 bound 3 sort 4 found 5 many 6 letter -/
def m__law_drawn_numbers (Γ : Calls) : IS := (seqI (parI [3, 4] (consA (callF Γ "_law_any" (consA (varI 0) (consA (conI (.int 3)) nilA))) (consA (lstI true nilA) nilA)))
  (seqI (forI (walkI (varI 1)) (.nm 5) (seqI (ifI (tstB (bin2 eqP (varI 3) (conI (.int 0)))) (seqI (dropI (lmethI appendP (varI 4) (consA (callP tupleP (consA (lcI false (rng1I (varI 5)) (.nm 6) yesT (ifE (tstB (bin2 ltP (varI 6) (varI 2))) (varI 6) (bin2 subP (conI (.int 0)) (conI (.int 1)))) [6]) nilA)) nilA)))
  nextI) (seqI (dropI (lmethI appendP (varI 4) (consA (callP tupleP (consA (lcI false (rng1I (varI 5)) (.nm 6) yesT (ifE (tstB (bin2 eqP (callF Γ "_law_any" (consA (varI 0) (consA (conI (.int 4)) nilA))) (conI (.int 0)))) (bin2 subP (callF Γ "_law_any" (consA (varI 0) (consA (bin2 (addP false) (varI 2) (conI (.int 1))) nilA))) (conI (.int 1))) (bin2 modP (callP intP (consA (varI 6) nilA)) (varI 2))) [6]) nilA)) nilA)))
  nextI))
  nextI))
  (seqI (retI false (callP tupleP (consA (varI 4) nilA)))
  nextI)))
/-- _law_drawn_lots: 0 deal 1 machines 2 sort 3 some -/
def m__law_drawn_lots (Γ : Calls) : IS := (seqI (setI (.nm 2) (callF Γ "_law_any" (consA (varI 0) (consA (conI (.int 4)) nilA))))
  (seqI (ifI (orT (tstB (bin2 eqP (varI 2) (conI (.int 0)))) (tstB (bin2 eqP (varI 1) (conI (.int 1))))) (seqI (retI false (lstI false (consA (tupI nilA) nilA)))
  nextI) nextI)
  (seqI (ifI (tstB (bin2 eqP (varI 2) (conI (.int 1)))) (seqI (retI false (callF Γ "_law_upto" (consA (varI 1) (consA (conI (.int 1)) nilA))))
  nextI) nextI)
  (seqI (setI (.nm 3) (callF Γ "_law_mixed" (consA (varI 0) (consA (callF Γ "_law_upto" (consA (varI 1) (consA (conI (.int 2)) nilA))) nilA))))
  (seqI (retI false (callP (sortP false) (consA (sliceI false (varI 3) noPart (partI (bin2 (addP false) (conI (.int 1)) (callF Γ "_law_any" (consA (varI 0) (consA (conI (.int 5)) nilA)))))) nilA)))
  nextI)))))
/-- _law_need: 0 value 1 e -/
def m__law_need (Γ : Calls) : IS := (seqI (tryI tb.exc (seqI (retI false (tupI (consA (conI (.str "told")) (consA (callF Γ "need_team" (consA (varI 0) nilA)) nilA))))
  nextI) [("InvalidTeam", (.tup [.con (.str "refused"), .fld "word", .fld "at"])), ("TeamError", (.tup [.con (.str "other")]))])
  nextI)
/-- _law_in: 0 row 1 at 2 value -/
def m__law_in (Γ : Calls) : IS := (seqI (retI false (bin2 (addP false) (bin2 (addP false) (callP tupleP (consA (sliceI false (varI 0) noPart (partI (varI 1))) nilA)) (tupI (consA (varI 2) nilA))) (callP tupleP (consA (sliceI false (varI 0) (partI (bin2 (addP false) (varI 1) (conI (.int 1)))) noPart) nilA))))
  nextI)
/-- _law_team_with: 0 letters 1 lots 2 promise 3 many -/
def m__law_team_with (Γ : Calls) : IS := (seqI (setI (.nm 3) (callP lenP (consA (varI 0) nilA)))
  (seqI (retI false (makeI Γ "Team" true (consA (callP tupleP (consA (varI 0) nilA)) (consA (bin2 (mulP false) (tupI (consA (tupI nilA) nilA)) (varI 3)) (consA (bin2 (mulP false) (tupI (consA (tupI (consA (conI (.str "own")) nilA)) nilA)) (varI 3)) (consA (conI (.str "alike")) (consA (conI (.str "all")) (consA (varI 1) (consA (varI 2) nilA)))))))))
  nextI))
/-- _law_rows_wrong: 0 deal 1 letters 2 rows 3 bound 4 machine 5 row 6 at 7 found 8 value -/
def m__law_rows_wrong (Γ : Calls) : IS := (seqI (setI (.nm 4) (callF Γ "_law_any" (consA (varI 0) (consA (callP lenP (consA (varI 1) nilA)) nilA))))
  (seqI (setI (.nm 5) (bin2 ixP (varI 2) (varI 4)))
  (seqI (parI [6, 7] (consA (callF Γ "_law_any" (consA (varI 0) (consA (callP lenP (consA (varI 5) nilA)) nilA))) (consA (lstI true nilA) nilA)))
  (seqI (forI (walkI (lstI false (consA (varI 3) (consA (bin2 subP (conI (.int 0)) (conI (.int 2))) (consA (bin2 (addP false) (varI 3) (bin2 powP (conI (.int 10)) (conI (.int 9)))) (consA (conI (.bl true)) (consA (conI .non) (consA (conI (.str "0")) (consA (tupI (consA (conI (.int 0)) nilA)) (consA (bin2 subP (conI (.int 0)) (bin2 powP (conI (.int 10)) (conI (.int 20)))) (consA (lstI false (consA (conI (.int 0)) nilA)) (consA (conI (.bl false)) nilA)))))))))))) (.nm 8) (seqI (dropI (lmethI appendP (varI 7) (consA (callF Γ "_law_in" (consA (varI 2) (consA (varI 4) (consA (callF Γ "_law_in" (consA (varI 5) (consA (varI 6) (consA (varI 8) nilA)))) nilA)))) nilA)))
  nextI))
  (seqI (forI (walkI (lstI false (consA (bin2 (addP false) (varI 5) (tupI (consA (conI (.int 0)) nilA))) (consA (sliceI false (varI 5) noPart (partI (un1 negP (conI (.int 1))))) (consA (callP (listP false) (consA (varI 5) nilA)) (consA (conI .non) (consA (conI (.int 0)) (consA (tupI nilA) (consA (conI (.str "0")) nilA))))))))) (.nm 8) (seqI (dropI (lmethI appendP (varI 7) (consA (callF Γ "_law_in" (consA (varI 2) (consA (varI 4) (consA (varI 8) nilA)))) nilA)))
  nextI))
  (seqI (retI false (bin2 (addP false) (varI 7) (lstI false (consA (sliceI false (varI 2) noPart (partI (un1 negP (conI (.int 1))))) (consA (bin2 (addP false) (varI 2) (sliceI false (varI 2) noPart (partI (conI (.int 1))))) (consA (callP (listP false) (consA (varI 2) nilA)) (consA (conI .non) (consA (conI (.int 0)) (consA (tupI nilA) (consA (conI (.str "by")) nilA))))))))))
  nextI))))))
/-- _law_told: 0 deal 1 letters 2 c 3 far 4 found 5 many -/
def m__law_told (Γ : Calls) : IS := (seqI (setI (.nm 3) (callF Γ "_law_of" (consA (varI 0) (consA (lstI false (consA (conI (.int 0)) (consA (conI (.int 1)) (consA (conI (.int 5)) (consA (conI (.int 64)) (consA (bin2 powP (conI (.int 10)) (conI (.int 6))) nilA)))))) nilA))))
  (seqI (setI (.nm 4) (lstI false (consA (tupI (consA (tupI (consA (conI (.str "count")) (consA (varI 2) (consA (callF Γ "_law_drawn_numbers" (consA (varI 0) (consA (varI 1) (consA (varI 2) nilA)))) nilA)))) (consA (varI 2) nilA))) (consA (tupI (consA (tupI (consA (conI (.str "hold")) (consA (callF Γ "_law_drawn_numbers" (consA (varI 0) (consA (varI 1) (consA (conI (.int 64)) nilA)))) nilA))) (consA (conI (.int 64)) nilA))) nilA))))
  (seqI (retI false (bin2 (addP false) (varI 4) (lstI false (consA (tupI (consA (tupI (consA (conI (.str "near")) (consA (varI 3) (consA (callF Γ "_law_drawn_numbers" (consA (varI 0) (consA (varI 1) (consA (conI (.int 64)) nilA)))) nilA)))) (consA (conI (.int 64)) nilA))) (consA (tupI (consA (tupI (consA (conI (.str "hold")) (consA (callP tupleP (consA (lcI false (walkI (varI 1)) (.nm 5) yesT (bin2 (mulP false) (tupI (consA (conI (.int 63)) nilA)) (varI 5)) [5]) nilA)) nilA))) (consA (conI (.int 64)) nilA))) nilA)))))
  nextI)))
/-- law: 0 script 1 deal 2 pairs 3 turn 4 letters 5 c 6 lots 7 promise 8 bound 9 rows 10 bent 11 some 12 value 13 word -/
def m_law (Γ : Calls) : IS := (seqI (setI (.nm 1) (callF Γ "_law_deal" (consA (varI 0) (consA (conI (.int 107)) nilA))))
  (seqI (setI (.nm 2) (lstI true nilA))
  (seqI (forI (rng1I (conI (.int 3))) (.nm 3) (seqI (parI [4, 5] (consA (callF Γ "_law_sizes" (consA (varI 1) nilA)) (consA (bin2 (addP false) (conI (.int 1)) (callF Γ "_law_any" (consA (varI 1) (consA (conI (.int 6)) nilA)))) nilA)))
  (seqI (setI (.nm 6) (callP tupleP (consA (callF Γ "_law_drawn_lots" (consA (varI 1) (consA (callP lenP (consA (varI 4) nilA)) nilA))) nilA)))
  (seqI (forI (walkI (callF Γ "_law_told" (consA (varI 1) (consA (varI 4) (consA (varI 5) nilA))))) (.tp [7, 8]) (seqI (dropI (lmethI appendP (varI 2) (consA (tupI (consA (callF Γ "_law_need" (consA (callF Γ "_law_team_with" (consA (varI 4) (consA (varI 6) (consA (varI 7) nilA)))) nilA)) (consA (tupI (consA (conI (.str "told")) (consA (conI .non) nilA))) nilA))) nilA)))
  (seqI (forI (walkI (callF Γ "_law_rows_wrong" (consA (varI 1) (consA (varI 4) (consA (bin2 ixP (varI 7) (un1 negP (conI (.int 1)))) (consA (varI 8) nilA)))))) (.nm 9) (seqI (setI (.nm 10) (bin2 (addP false) (sliceI false (varI 7) noPart (partI (un1 negP (conI (.int 1))))) (tupI (consA (varI 9) nilA))))
  (seqI (dropI (lmethI appendP (varI 2) (consA (tupI (consA (callF Γ "_law_need" (consA (callF Γ "_law_team_with" (consA (varI 4) (consA (varI 6) (consA (varI 10) nilA)))) nilA)) (consA (tupI (consA (conI (.str "refused")) (consA (conI (.str "promise")) (consA (bin2 subP (conI (.int 0)) (conI (.int 1))) nilA)))) nilA))) nilA)))
  nextI)))
  (seqI (setI (.nm 11) (lstI true (consA (bin2 (addP false) (varI 7) (tupI (consA (conI (.int 0)) nilA))) (consA (sliceI false (varI 7) noPart (partI (un1 negP (conI (.int 1))))) (consA (callP (listP false) (consA (varI 7) nilA)) (consA (tupI (consA (bin2 ixP (varI 7) (conI (.int 0))) nilA)) (consA (bin2 (addP false) (tupI (consA (conI (.str "Count")) nilA)) (sliceI false (varI 7) (partI (conI (.int 1))) noPart)) (consA (bin2 (addP false) (tupI (consA (conI .non) nilA)) (sliceI false (varI 7) (partI (conI (.int 1))) noPart)) (consA (sliceI false (varI 7) (partI (conI (.int 1))) noPart) (consA (tupI (consA (varI 7) nilA)) nilA))))))))))
  (seqI (ifI (tstB (bin2 eqP (callP lenP (consA (varI 7) nilA)) (conI (.int 3)))) (seqI (forI (walkI (lstI false (consA (bin2 subP (conI (.int 0)) (conI (.int 1))) (consA (conI (.bl true)) (consA (conI .non) (consA (conI (.str "2")) (consA (tupI (consA (conI (.int 1)) nilA)) (consA (ifE (tstB (bin2 eqP (bin2 ixP (varI 7) (conI (.int 0))) (conI (.str "count")))) (conI (.int 0)) (lstI false (consA (conI (.int 1)) nilA))) (consA (bin2 ixP (varI 7) (conI (.int 0))) nilA))))))))) (.nm 12) (seqI (dropI (lmethI appendP (varI 11) (consA (tupI (consA (bin2 ixP (varI 7) (conI (.int 0))) (consA (varI 12) (consA (bin2 ixP (varI 7) (conI (.int 2))) nilA)))) nilA)))
  nextI))
  nextI) nextI)
  (seqI (forI (walkI (varI 11)) (.nm 10) (seqI (dropI (lmethI appendP (varI 2) (consA (tupI (consA (callF Γ "_law_need" (consA (callF Γ "_law_team_with" (consA (varI 4) (consA (varI 6) (consA (varI 10) nilA)))) nilA)) (consA (tupI (consA (conI (.str "refused")) (consA (conI (.str "promise")) (consA (bin2 subP (conI (.int 0)) (conI (.int 1))) nilA)))) nilA))) nilA)))
  nextI))
  (seqI (dropI (lmethI appendP (varI 2) (consA (tupI (consA (callF Γ "_law_need" (consA (callF Γ "_law_team_with" (consA (varI 4) (consA (bin2 (addP false) (varI 6) (sliceI false (varI 6) noPart (partI (conI (.int 1))))) (consA (bin2 ixP (varI 11) (conI (.int 0))) nilA)))) nilA)) (consA (tupI (consA (conI (.str "refused")) (consA (conI (.str "lots")) (consA (bin2 subP (conI (.int 0)) (conI (.int 1))) nilA)))) nilA))) nilA)))
  nextI)))))))
  (seqI (setI (.nm 13) (ifE (tstB (bin2 eqP (varI 6) (tupI (consA (tupI nilA) nilA)))) (tupI (consA (conI (.str "told")) (consA (conI .non) nilA))) (tupI (consA (conI (.str "refused")) (consA (conI (.str "promise")) (consA (bin2 subP (conI (.int 0)) (conI (.int 1))) nilA))))))
  (seqI (dropI (lmethI appendP (varI 2) (consA (tupI (consA (callF Γ "_law_need" (consA (callF Γ "_law_team_with" (consA (varI 4) (consA (varI 6) (consA (tupI (consA (conI (.str "single")) nilA)) nilA)))) nilA)) (consA (varI 13) nilA))) nilA)))
  (seqI (dropI (lmethI appendP (varI 2) (consA (tupI (consA (callF Γ "_law_need" (consA (callF Γ "_law_team_with" (consA (varI 4) (consA (tupI (consA (tupI nilA) nilA)) (consA (tupI (consA (conI (.str "single")) nilA)) nilA)))) nilA)) (consA (tupI (consA (conI (.str "told")) (consA (conI .non) nilA))) nilA))) nilA)))
  (seqI (dropI (lmethI appendP (varI 2) (consA (tupI (consA (callF Γ "_law_need" (consA (callF Γ "_law_team_with" (consA (varI 4) (consA (tupI (consA (tupI nilA) nilA)) (consA (tupI (consA (conI (.str "single")) (consA (conI (.int 0)) nilA))) nilA)))) nilA)) (consA (tupI (consA (conI (.str "refused")) (consA (conI (.str "promise")) (consA (bin2 subP (conI (.int 0)) (conI (.int 1))) nilA)))) nilA))) nilA)))
  (seqI (ifI (tstB (bin2 gtP (callP lenP (consA (varI 4) nilA)) (conI (.int 1)))) (seqI (dropI (lmethI appendP (varI 2) (consA (tupI (consA (callF Γ "_law_need" (consA (callF Γ "_law_team_with" (consA (varI 4) (consA (tupI (consA (tupI (consA (conI (.int 0)) nilA)) nilA)) (consA (tupI (consA (conI (.str "single")) nilA)) nilA)))) nilA)) (consA (tupI (consA (conI (.str "refused")) (consA (conI (.str "promise")) (consA (bin2 subP (conI (.int 0)) (conI (.int 1))) nilA)))) nilA))) nilA)))
  nextI) nextI)
  nextI)))))))))
  (seqI (retI false (callF Γ "_law_all" (consA (varI 2) nilA)))
  nextI))))
def e_InvalidTeam___init__ : Ent := ⟨"InvalidTeam.__init__", ⟨["self", "word", "at"], ["self", "word", "at"], m_InvalidTeam___init__, true⟩, ⟨("InvalidTeam", some "__init__"), "__init__", "InvalidTeam.__init__", defArgs (inC (topS 2) 0), defBody (inC (topS 2) 0), defScope (inC (topS 2) 0), [], []⟩, atP [], atP []⟩
def e_is_integer : Ent := ⟨"is_integer", ⟨["value"], ["value"], m_is_integer, true⟩, ⟨("is_integer", none), "is_integer", "is_integer", defArgs (topS 4), defBody (topS 4), defScope (topS 4), [], []⟩, atP [], atP []⟩
def e_is_number : Ent := ⟨"is_number", ⟨["value"], ["value"], m_is_number, true⟩, ⟨("is_number", none), "is_number", "is_number", defArgs (topS 5), defBody (topS 5), defScope (topS 5), [], []⟩, atP [], atP []⟩
def e_is_tuple : Ent := ⟨"is_tuple", ⟨["value", "many"], ["value", "many"], m_is_tuple, true⟩, ⟨("is_tuple", none), "is_tuple", "is_tuple", defArgs (topS 6), defBody (topS 6), defScope (topS 6), [], []⟩, atP [], atP []⟩
def e_first_wrong : Ent := ⟨"first_wrong", ⟨["values", "test"], ["values", "test", "at", "value"], m_first_wrong, true⟩, ⟨("first_wrong", none), "first_wrong", "first_wrong", defArgs (topS 7), defBody (topS 7), defScope (topS 7), [], []⟩, atP [], atP []⟩
def e_is_tuple_of : Ent := ⟨"is_tuple_of", ⟨["value", "test"], ["value", "test"], m_is_tuple_of, true⟩, ⟨("is_tuple_of", none), "is_tuple_of", "is_tuple_of", defArgs (topS 8), defBody (topS 8), defScope (topS 8), [], []⟩, atP [], atP []⟩
def e_is_number_row : Ent := ⟨"is_number_row", ⟨["value"], ["value"], m_is_number_row, true⟩, ⟨("is_number_row", none), "is_number_row", "is_number_row", defArgs (topS 9), defBody (topS 9), defScope (topS 9), [], []⟩, atP [], atP []⟩
def e_is_ascending : Ent := ⟨"is_ascending", ⟨["values"], ["values", "at"], m_is_ascending, true⟩, ⟨("is_ascending", none), "is_ascending", "is_ascending", defArgs (topS 10), defBody (topS 10), defScope (topS 10), [], []⟩, atP [], atP []⟩
def e_is_lot : Ent := ⟨"is_lot", ⟨["value"], ["value"], m_is_lot, true⟩, ⟨("is_lot", none), "is_lot", "is_lot", defArgs (topS 11), defBody (topS 11), defScope (topS 11), [], []⟩, atP [], atP []⟩
def e_is_lot_below : Ent := ⟨"is_lot_below", ⟨["value", "many"], ["value", "many"], m_is_lot_below, true⟩, ⟨("is_lot_below", none), "is_lot_below", "is_lot_below", defArgs (topS 12), defBody (topS 12), defScope (topS 12), [], []⟩, atP [], atP []⟩
def e_are_numbers : Ent := ⟨"are_numbers", ⟨["letters", "value", "bound"], ["letters", "value", "bound", "many", "row", "number"], m_are_numbers, true⟩, ⟨("are_numbers", none), "are_numbers", "are_numbers", defArgs (topS 20), defBody (topS 20), defScope (topS 20), [], []⟩, atP [], atP []⟩
def e_is_count : Ent := ⟨"is_count", ⟨["letters", "value"], ["letters", "value"], m_is_count, true⟩, ⟨("is_count", none), "is_count", "is_count", defArgs (topS 21), defBody (topS 21), defScope (topS 21), [], []⟩, atP [], atP []⟩
def e_is_near : Ent := ⟨"is_near", ⟨["letters", "value"], ["letters", "value"], m_is_near, true⟩, ⟨("is_near", none), "is_near", "is_near", defArgs (topS 22), defBody (topS 22), defScope (topS 22), [], []⟩, atP [], atP []⟩
def e_is_promise : Ent := ⟨"is_promise", ⟨["letters", "lots", "value"], ["letters", "lots", "value"], m_is_promise, true⟩, ⟨("is_promise", none), "is_promise", "is_promise", defArgs (topS 23), defBody (topS 23), defScope (topS 23), [], []⟩, atP [], atP []⟩
def e_View___init__ : Ent := ⟨"View.__init__", ⟨["self", "machines", "base"], ["self", "machines", "base"], m_View___init__, true⟩, ⟨("View", some "__init__"), "__init__", "View.__init__", defArgs (inC (topS 29) 0), defBody (inC (topS 29) 0), defScope (inC (topS 29) 0), [], []⟩, atP [], atP []⟩
def e_is_power : Ent := ⟨"is_power", ⟨["many", "base", "times"], ["many", "base", "times", "found", "_"], m_is_power, true⟩, ⟨("is_power", none), "is_power", "is_power", defArgs (topS 30), defBody (topS 30), defScope (topS 30), [], []⟩, atP [], atP []⟩
def e_is_some_number : Ent := ⟨"is_some_number", ⟨["value"], ["value"], m_is_some_number, true⟩, ⟨("is_some_number", none), "is_some_number", "is_some_number", defArgs (topS 31), defBody (topS 31), defScope (topS 31), [], []⟩, atP [], atP []⟩
def e_is_heard : Ent := ⟨"is_heard", ⟨["view", "value"], ["view", "value"], m_is_heard, true⟩, ⟨("is_heard", none), "is_heard", "is_heard", defArgs (topS 32), defBody (topS 32), defScope (topS 32), [], []⟩, atP [], atP []⟩
def e_are_heard : Ent := ⟨"are_heard", ⟨["view", "value"], ["view", "value", "machine"], m_are_heard, true⟩, ⟨("are_heard", none), "are_heard", "are_heard", defArgs (topS 33), defBody (topS 33), defScope (topS 33), [], []⟩, atP [], atP []⟩
def e_is_plain : Ent := ⟨"is_plain", ⟨["view", "value"], ["view", "value", "word", "thing"], m_is_plain, true⟩, ⟨("is_plain", none), "is_plain", "is_plain", defArgs (topS 34), defBody (topS 34), defScope (topS 34), [], []⟩, atP [], atP []⟩
def e_are_pairs : Ent := ⟨"are_pairs", ⟨["value"], ["value", "pair", "machine", "_"], m_are_pairs, true⟩, ⟨("are_pairs", none), "are_pairs", "are_pairs", defArgs (topS 35), defBody (topS 35), defScope (topS 35), [], []⟩, atP [], atP []⟩
def e_with_parts : Ent := ⟨"with_parts", ⟨["view", "value"], ["view", "value", "inner", "machine", "_", "part"], m_with_parts, true⟩, ⟨("with_parts", none), "with_parts", "with_parts", defArgs (topS 36), defBody (topS 36), defScope (topS 36), [], []⟩, atP [], atP [(108, 12, 71)]⟩
def e_parts_or_none : Ent := ⟨"parts_or_none", ⟨["view", "value"], ["view", "value", "word", "is_right", "part"], m_parts_or_none, true⟩, ⟨("parts_or_none", none), "parts_or_none", "parts_or_none", defArgs (topS 37), defBody (topS 37), defScope (topS 37), [], []⟩, atP [], atP []⟩
def e_is_rule : Ent := ⟨"is_rule", ⟨["view", "value"], ["view", "value", "todo", "here", "thing", "parts"], m_is_rule, true⟩, ⟨("is_rule", none), "is_rule", "is_rule", defArgs (topS 38), defBody (topS 38), defScope (topS 38), [], []⟩, atP [(125, 11, 26)], atP []⟩
def e_is_formed : Ent := ⟨"is_formed", ⟨["letters", "hears", "rules"], ["letters", "hears", "rules", "value"], m_is_formed, true⟩, ⟨("is_formed", none), "is_formed", "is_formed", defArgs (topS 43), defBody (topS 43), defScope (topS 43), [], []⟩, atP [], atP []⟩
def e_wrong_letters : Ent := ⟨"wrong_letters", ⟨["letters"], ["letters", "machine", "many"], m_wrong_letters, true⟩, ⟨("wrong_letters", none), "wrong_letters", "wrong_letters", defArgs (topS 44), defBody (topS 44), defScope (topS 44), [], []⟩, atP [], atP []⟩
def e_wrong_hears : Ent := ⟨"wrong_hears", ⟨["hears"], ["hears", "machine", "lot"], m_wrong_hears, true⟩, ⟨("wrong_hears", none), "wrong_hears", "wrong_hears", defArgs (topS 45), defBody (topS 45), defScope (topS 45), [], []⟩, atP [], atP []⟩
def e_table_base : Ent := ⟨"table_base", ⟨["letters", "hears", "machine"], ["letters", "hears", "machine", "other"], m_table_base, true⟩, ⟨("table_base", none), "table_base", "table_base", defArgs (topS 46), defBody (topS 46), defScope (topS 46), [], []⟩, atP [], atP []⟩
def e_wrong_rule : Ent := ⟨"wrong_rule", ⟨["letters", "hears", "rules"], ["letters", "hears", "rules", "machine", "rule"], m_wrong_rule, true⟩, ⟨("wrong_rule", none), "wrong_rule", "wrong_rule", defArgs (topS 47), defBody (topS 47), defScope (topS 47), [], []⟩, atP [], atP [(158, 23, 80)]⟩
def e_wrong_lots : Ent := ⟨"wrong_lots", ⟨["machines", "lots"], ["machines", "lots", "number", "lot"], m_wrong_lots, true⟩, ⟨("wrong_lots", none), "wrong_lots", "wrong_lots", defArgs (topS 48), defBody (topS 48), defScope (topS 48), [], []⟩, atP [], atP []⟩
def e_is_word_of : Ent := ⟨"is_word_of", ⟨["value", "words"], ["value", "words"], m_is_word_of, true⟩, ⟨("is_word_of", none), "is_word_of", "is_word_of", defArgs (topS 49), defBody (topS 49), defScope (topS 49), [], []⟩, atP [], atP []⟩
def e_fault_behind : Ent := ⟨"fault_behind", ⟨["team"], ["team", "at"], m_fault_behind, true⟩, ⟨("fault_behind", none), "fault_behind", "fault_behind", defArgs (topS 50), defBody (topS 50), defScope (topS 50), [], []⟩, atP [], atP []⟩
def e_team_fault : Ent := ⟨"team_fault", ⟨["team"], ["team", "at"], m_team_fault, true⟩, ⟨("team_fault", none), "team_fault", "team_fault", defArgs (topS 51), defBody (topS 51), defScope (topS 51), [], []⟩, atP [], atP []⟩
def e_Team___init__ : Ent := ⟨"Team.__init__", ⟨["self", "letters", "hears", "rules", "faults", "moves", "lots", "promise"], ["self", "letters", "hears", "rules", "faults", "moves", "lots", "promise"], m_Team___init__, true⟩, ⟨("Team", some "__init__"), "__init__", "Team.__init__", defArgs (inC (topS 53) 0), defBody (inC (topS 53) 0), defScope (inC (topS 53) 0), [], []⟩, atP [], atP []⟩
def e_need_team : Ent := ⟨"need_team", ⟨["value"], ["value", "fault"], m_need_team, true⟩, ⟨("need_team", none), "need_team", "need_team", defArgs (topS 54), defBody (topS 54), defScope (topS 54), [], []⟩, atP [], atP [(214, 14, 37), (217, 14, 45)]⟩
def e__law_deal : Ent := ⟨"_law_deal", ⟨["script", "salt"], ["script", "salt", "most", "cell", "cells", "mix"], m__law_deal, false⟩, ⟨("_law_deal", none), "_law_deal", "_law_deal", defArgs (topS 56), defBody (topS 56), defScope (topS 56), [], []⟩, atP [(225, 11, 68), (225, 12, 62)], atP []⟩
def e__law_any : Ent := ⟨"_law_any", ⟨["deal", "bound"], ["deal", "bound", "rest"], m__law_any, true⟩, ⟨("_law_any", none), "_law_any", "_law_any", defArgs (topS 57), defBody (topS 57), defScope (topS 57), [], []⟩, atP [], atP []⟩
def e__law_of : Ent := ⟨"_law_of", ⟨["deal", "some"], ["deal", "some"], m__law_of, true⟩, ⟨("_law_of", none), "_law_of", "_law_of", defArgs (topS 58), defBody (topS 58), defScope (topS 58), [], []⟩, atP [], atP []⟩
def e__law_is_kind : Ent := ⟨"_law_is_kind", ⟨["told", "due"], ["told", "due"], m__law_is_kind, true⟩, ⟨("_law_is_kind", none), "_law_is_kind", "_law_is_kind", defArgs (topS 59), defBody (topS 59), defScope (topS 59), [], []⟩, atP [], atP []⟩
def e__law_same : Ent := ⟨"_law_same", ⟨["told", "due"], ["told", "due", "todo", "one", "other", "at"], m__law_same, true⟩, ⟨("_law_same", none), "_law_same", "_law_same", defArgs (topS 60), defBody (topS 60), defScope (topS 60), [], []⟩, atP [(246, 11, 24)], atP []⟩
def e__law_all : Ent := ⟨"_law_all", ⟨["pairs"], ["pairs", "told", "due"], m__law_all, true⟩, ⟨("_law_all", none), "_law_all", "_law_all", defArgs (topS 61), defBody (topS 61), defScope (topS 61), [], []⟩, atP [], atP []⟩
def e__law_mixed : Ent := ⟨"_law_mixed", ⟨["deal", "some"], ["deal", "some", "left", "found", "turn"], m__law_mixed, true⟩, ⟨("_law_mixed", none), "_law_mixed", "_law_mixed", defArgs (topS 62), defBody (topS 62), defScope (topS 62), [], []⟩, atP [(260, 19, 29), (260, 31, 33)], atP [(263, 4, 16)]⟩
def e__law_power : Ent := ⟨"_law_power", ⟨["base", "times"], ["base", "times", "found", "turn"], m__law_power, true⟩, ⟨("_law_power", none), "_law_power", "_law_power", defArgs (topS 63), defBody (topS 63), defScope (topS 63), [], []⟩, atP [], atP []⟩
def e__law_upto : Ent := ⟨"_law_upto", ⟨["machines", "many"], ["machines", "many", "found", "number", "lot", "rest", "machine"], m__law_upto, true⟩, ⟨("_law_upto", none), "_law_upto", "_law_upto", defArgs (topS 64), defBody (topS 64), defScope (topS 64), [], []⟩, atP [(270, 12, 14), (272, 21, 23)], atP []⟩
def e__law_sizes : Ent := ⟨"_law_sizes", ⟨["deal"], ["deal", "some"], m__law_sizes, true⟩, ⟨("_law_sizes", none), "_law_sizes", "_law_sizes", defArgs (topS 65), defBody (topS 65), defScope (topS 65), [], []⟩, atP [], atP []⟩
def e__law_drawn_numbers : Ent := ⟨"_law_drawn_numbers", ⟨["deal", "letters", "bound"], ["deal", "letters", "bound", "sort", "found", "many", "letter"], m__law_drawn_numbers, true⟩, ⟨("_law_drawn_numbers", none), "_law_drawn_numbers", "_law_drawn_numbers", defArgs (topS 66), defBody (topS 66), defScope (topS 66), [], []⟩, atP [(284, 38, 40)], atP []⟩
def e__law_drawn_lots : Ent := ⟨"_law_drawn_lots", ⟨["deal", "machines"], ["deal", "machines", "sort", "some"], m__law_drawn_lots, true⟩, ⟨("_law_drawn_lots", none), "_law_drawn_lots", "_law_drawn_lots", defArgs (topS 67), defBody (topS 67), defScope (topS 67), [], []⟩, atP [], atP []⟩
def e__law_need : Ent := ⟨"_law_need", ⟨["value"], ["value", "e"], m__law_need, true⟩, ⟨("_law_need", none), "_law_need", "_law_need", defArgs (topS 68), defBody (topS 68), defScope (topS 68), [], []⟩, atP [], atP []⟩
def e__law_in : Ent := ⟨"_law_in", ⟨["row", "at", "value"], ["row", "at", "value"], m__law_in, true⟩, ⟨("_law_in", none), "_law_in", "_law_in", defArgs (topS 69), defBody (topS 69), defScope (topS 69), [], []⟩, atP [], atP []⟩
def e__law_team_with : Ent := ⟨"_law_team_with", ⟨["letters", "lots", "promise"], ["letters", "lots", "promise", "many"], m__law_team_with, true⟩, ⟨("_law_team_with", none), "_law_team_with", "_law_team_with", defArgs (topS 70), defBody (topS 70), defScope (topS 70), [], []⟩, atP [], atP [(310, 11, 96)]⟩
def e__law_rows_wrong : Ent := ⟨"_law_rows_wrong", ⟨["deal", "letters", "rows", "bound"], ["deal", "letters", "rows", "bound", "machine", "row", "at", "found", "value"], m__law_rows_wrong, true⟩, ⟨("_law_rows_wrong", none), "_law_rows_wrong", "_law_rows_wrong", defArgs (topS 71), defBody (topS 71), defScope (topS 71), [], []⟩, atP [(314, 43, 45)], atP []⟩
def e__law_told : Ent := ⟨"_law_told", ⟨["deal", "letters", "c"], ["deal", "letters", "c", "far", "found", "many"], m__law_told, true⟩, ⟨("_law_told", none), "_law_told", "_law_told", defArgs (topS 72), defBody (topS 72), defScope (topS 72), [], []⟩, atP [], atP []⟩
def e_law : Ent := ⟨"law", ⟨["script"], ["script", "deal", "pairs", "turn", "letters", "c", "lots", "promise", "bound", "rows", "bent", "some", "value", "word"], m_law, true⟩, ⟨("law", none), "law", "law", defArgs (topS 73), defBody (topS 73), defScope (topS 73), [], []⟩, atP [(326, 12, 14), (335, 19, 153)], atP []⟩
def ents : List Ent := [e_InvalidTeam___init__, e_is_integer, e_is_number, e_is_tuple, e_first_wrong, e_is_tuple_of, e_is_number_row, e_is_ascending, e_is_lot, e_is_lot_below, e_are_numbers, e_is_count, e_is_near, e_is_promise, e_View___init__, e_is_power, e_is_some_number, e_is_heard, e_are_heard, e_is_plain, e_are_pairs, e_with_parts, e_parts_or_none, e_is_rule, e_is_formed, e_wrong_letters, e_wrong_hears, e_table_base, e_wrong_rule, e_wrong_lots, e_is_word_of, e_fault_behind, e_team_fault, e_Team___init__, e_need_team, e__law_deal, e__law_any, e__law_of, e__law_is_kind, e__law_same, e__law_all, e__law_mixed, e__law_power, e__law_upto, e__law_sizes, e__law_drawn_numbers, e__law_drawn_lots, e__law_need, e__law_in, e__law_team_with, e__law_rows_wrong, e__law_told, e_law]
/-! ### the meanings are right -/
theorem ok_InvalidTeam___init__ : EntOk tb 60 e_InvalidTeam___init__ := ⟨⟨rfl, rfl, rfl, by decide +kernel, rfl, by decide +kernel, by decide +kernel⟩, fun Γ => by kernel_rfl, fun _ _ _ _ _ _ us hl => match us, hl with | [_, _, _], _ => rfl, ⟨rfl, rfl⟩⟩
theorem ok_is_integer : EntOk tb 60 e_is_integer := ⟨⟨rfl, rfl, rfl, by decide +kernel, rfl, by decide +kernel, by decide +kernel⟩, fun Γ => by kernel_rfl, fun _ _ _ _ _ _ us hl => match us, hl with | [_], _ => rfl, ⟨rfl, rfl⟩⟩
theorem ok_is_number : EntOk tb 60 e_is_number := ⟨⟨rfl, rfl, rfl, by decide +kernel, rfl, by decide +kernel, by decide +kernel⟩, fun Γ => by kernel_rfl, fun _ _ _ _ _ _ us hl => match us, hl with | [_], _ => rfl, ⟨rfl, rfl⟩⟩
theorem ok_is_tuple : EntOk tb 60 e_is_tuple := ⟨⟨rfl, rfl, rfl, by decide +kernel, rfl, by decide +kernel, by decide +kernel⟩, fun Γ => by kernel_rfl, fun _ _ _ _ _ _ us hl => match us, hl with | [_, _], _ => rfl, ⟨rfl, rfl⟩⟩
theorem ok_first_wrong : EntOk tb 60 e_first_wrong := ⟨⟨rfl, rfl, rfl, by decide +kernel, rfl, by decide +kernel, by decide +kernel⟩, fun Γ => by kernel_rfl, fun _ _ _ _ _ _ us hl => match us, hl with | [_, _], _ => rfl, ⟨rfl, rfl⟩⟩
theorem ok_is_tuple_of : EntOk tb 60 e_is_tuple_of := ⟨⟨rfl, rfl, rfl, by decide +kernel, rfl, by decide +kernel, by decide +kernel⟩, fun Γ => by kernel_rfl, fun _ _ _ _ _ _ us hl => match us, hl with | [_, _], _ => rfl, ⟨rfl, rfl⟩⟩
theorem ok_is_number_row : EntOk tb 60 e_is_number_row := ⟨⟨rfl, rfl, rfl, by decide +kernel, rfl, by decide +kernel, by decide +kernel⟩, fun Γ => by kernel_rfl, fun _ _ _ _ _ _ us hl => match us, hl with | [_], _ => rfl, ⟨rfl, rfl⟩⟩
theorem ok_is_ascending : EntOk tb 60 e_is_ascending := ⟨⟨rfl, rfl, rfl, by decide +kernel, rfl, by decide +kernel, by decide +kernel⟩, fun Γ => by kernel_rfl, fun _ _ _ _ _ _ us hl => match us, hl with | [_], _ => rfl, ⟨rfl, rfl⟩⟩
theorem ok_is_lot : EntOk tb 60 e_is_lot := ⟨⟨rfl, rfl, rfl, by decide +kernel, rfl, by decide +kernel, by decide +kernel⟩, fun Γ => by kernel_rfl, fun _ _ _ _ _ _ us hl => match us, hl with | [_], _ => rfl, ⟨rfl, rfl⟩⟩
theorem ok_is_lot_below : EntOk tb 60 e_is_lot_below := ⟨⟨rfl, rfl, rfl, by decide +kernel, rfl, by decide +kernel, by decide +kernel⟩, fun Γ => by kernel_rfl, fun _ _ _ _ _ _ us hl => match us, hl with | [_, _], _ => rfl, ⟨rfl, rfl⟩⟩
theorem ok_are_numbers : EntOk tb 60 e_are_numbers := ⟨⟨rfl, rfl, rfl, by decide +kernel, rfl, by decide +kernel, by decide +kernel⟩, fun Γ => by kernel_rfl, fun _ _ _ _ _ _ us hl => match us, hl with | [_, _, _], _ => rfl, ⟨rfl, rfl⟩⟩
theorem ok_is_count : EntOk tb 60 e_is_count := ⟨⟨rfl, rfl, rfl, by decide +kernel, rfl, by decide +kernel, by decide +kernel⟩, fun Γ => by kernel_rfl, fun _ _ _ _ _ _ us hl => match us, hl with | [_, _], _ => rfl, ⟨rfl, rfl⟩⟩
theorem ok_is_near : EntOk tb 60 e_is_near := ⟨⟨rfl, rfl, rfl, by decide +kernel, rfl, by decide +kernel, by decide +kernel⟩, fun Γ => by kernel_rfl, fun _ _ _ _ _ _ us hl => match us, hl with | [_, _], _ => rfl, ⟨rfl, rfl⟩⟩
theorem ok_is_promise : EntOk tb 60 e_is_promise := ⟨⟨rfl, rfl, rfl, by decide +kernel, rfl, by decide +kernel, by decide +kernel⟩, fun Γ => by kernel_rfl, fun _ _ _ _ _ _ us hl => match us, hl with | [_, _, _], _ => rfl, ⟨rfl, rfl⟩⟩
theorem ok_View___init__ : EntOk tb 60 e_View___init__ := ⟨⟨rfl, rfl, rfl, by decide +kernel, rfl, by decide +kernel, by decide +kernel⟩, fun Γ => by kernel_rfl, fun _ _ _ _ _ _ us hl => match us, hl with | [_, _, _], _ => rfl, ⟨rfl, rfl⟩⟩
theorem ok_is_power : EntOk tb 60 e_is_power := ⟨⟨rfl, rfl, rfl, by decide +kernel, rfl, by decide +kernel, by decide +kernel⟩, fun Γ => by kernel_rfl, fun _ _ _ _ _ _ us hl => match us, hl with | [_, _, _], _ => rfl, ⟨rfl, rfl⟩⟩
theorem ok_is_some_number : EntOk tb 60 e_is_some_number := ⟨⟨rfl, rfl, rfl, by decide +kernel, rfl, by decide +kernel, by decide +kernel⟩, fun Γ => by kernel_rfl, fun _ _ _ _ _ _ us hl => match us, hl with | [_], _ => rfl, ⟨rfl, rfl⟩⟩
theorem ok_is_heard : EntOk tb 60 e_is_heard := ⟨⟨rfl, rfl, rfl, by decide +kernel, rfl, by decide +kernel, by decide +kernel⟩, fun Γ => by kernel_rfl, fun _ _ _ _ _ _ us hl => match us, hl with | [_, _], _ => rfl, ⟨rfl, rfl⟩⟩
theorem ok_are_heard : EntOk tb 60 e_are_heard := ⟨⟨rfl, rfl, rfl, by decide +kernel, rfl, by decide +kernel, by decide +kernel⟩, fun Γ => by kernel_rfl, fun _ _ _ _ _ _ us hl => match us, hl with | [_, _], _ => rfl, ⟨rfl, rfl⟩⟩
theorem ok_is_plain : EntOk tb 60 e_is_plain := ⟨⟨rfl, rfl, rfl, by decide +kernel, rfl, by decide +kernel, by decide +kernel⟩, fun Γ => by kernel_rfl, fun _ _ _ _ _ _ us hl => match us, hl with | [_, _], _ => rfl, ⟨rfl, rfl⟩⟩
theorem ok_are_pairs : EntOk tb 60 e_are_pairs := ⟨⟨rfl, rfl, rfl, by decide +kernel, rfl, by decide +kernel, by decide +kernel⟩, fun Γ => by kernel_rfl, fun _ _ _ _ _ _ us hl => match us, hl with | [_], _ => rfl, ⟨rfl, rfl⟩⟩
theorem ok_with_parts : EntOk tb 60 e_with_parts := ⟨⟨rfl, rfl, rfl, by decide +kernel, rfl, by decide +kernel, by decide +kernel⟩, fun Γ => by kernel_rfl, fun _ _ _ _ _ _ us hl => match us, hl with | [_, _], _ => rfl, ⟨rfl, rfl⟩⟩
theorem ok_parts_or_none : EntOk tb 60 e_parts_or_none := ⟨⟨rfl, rfl, rfl, by decide +kernel, rfl, by decide +kernel, by decide +kernel⟩, fun Γ => by kernel_rfl, fun _ _ _ _ _ _ us hl => match us, hl with | [_, _], _ => rfl, ⟨rfl, rfl⟩⟩
theorem ok_is_rule : EntOk tb 60 e_is_rule := ⟨⟨rfl, rfl, rfl, by decide +kernel, rfl, by decide +kernel, by decide +kernel⟩, fun Γ => by kernel_rfl, fun _ _ _ _ _ _ us hl => match us, hl with | [_, _], _ => rfl, ⟨rfl, rfl⟩⟩
theorem ok_is_formed : EntOk tb 60 e_is_formed := ⟨⟨rfl, rfl, rfl, by decide +kernel, rfl, by decide +kernel, by decide +kernel⟩, fun Γ => by kernel_rfl, fun _ _ _ _ _ _ us hl => match us, hl with | [_, _, _], _ => rfl, ⟨rfl, rfl⟩⟩
theorem ok_wrong_letters : EntOk tb 60 e_wrong_letters := ⟨⟨rfl, rfl, rfl, by decide +kernel, rfl, by decide +kernel, by decide +kernel⟩, fun Γ => by kernel_rfl, fun _ _ _ _ _ _ us hl => match us, hl with | [_], _ => rfl, ⟨rfl, rfl⟩⟩
theorem ok_wrong_hears : EntOk tb 60 e_wrong_hears := ⟨⟨rfl, rfl, rfl, by decide +kernel, rfl, by decide +kernel, by decide +kernel⟩, fun Γ => by kernel_rfl, fun _ _ _ _ _ _ us hl => match us, hl with | [_], _ => rfl, ⟨rfl, rfl⟩⟩
theorem ok_table_base : EntOk tb 60 e_table_base := ⟨⟨rfl, rfl, rfl, by decide +kernel, rfl, by decide +kernel, by decide +kernel⟩, fun Γ => by kernel_rfl, fun _ _ _ _ _ _ us hl => match us, hl with | [_, _, _], _ => rfl, ⟨rfl, rfl⟩⟩
theorem ok_wrong_rule : EntOk tb 60 e_wrong_rule := ⟨⟨rfl, rfl, rfl, by decide +kernel, rfl, by decide +kernel, by decide +kernel⟩, fun Γ => by kernel_rfl, fun _ _ _ _ _ _ us hl => match us, hl with | [_, _, _], _ => rfl, ⟨rfl, rfl⟩⟩
theorem ok_wrong_lots : EntOk tb 60 e_wrong_lots := ⟨⟨rfl, rfl, rfl, by decide +kernel, rfl, by decide +kernel, by decide +kernel⟩, fun Γ => by kernel_rfl, fun _ _ _ _ _ _ us hl => match us, hl with | [_, _], _ => rfl, ⟨rfl, rfl⟩⟩
theorem ok_is_word_of : EntOk tb 60 e_is_word_of := ⟨⟨rfl, rfl, rfl, by decide +kernel, rfl, by decide +kernel, by decide +kernel⟩, fun Γ => by kernel_rfl, fun _ _ _ _ _ _ us hl => match us, hl with | [_, _], _ => rfl, ⟨rfl, rfl⟩⟩
theorem ok_fault_behind : EntOk tb 60 e_fault_behind := ⟨⟨rfl, rfl, rfl, by decide +kernel, rfl, by decide +kernel, by decide +kernel⟩, fun Γ => by kernel_rfl, fun _ _ _ _ _ _ us hl => match us, hl with | [_], _ => rfl, ⟨rfl, rfl⟩⟩
theorem ok_team_fault : EntOk tb 60 e_team_fault := ⟨⟨rfl, rfl, rfl, by decide +kernel, rfl, by decide +kernel, by decide +kernel⟩, fun Γ => by kernel_rfl, fun _ _ _ _ _ _ us hl => match us, hl with | [_], _ => rfl, ⟨rfl, rfl⟩⟩
theorem ok_Team___init__ : EntOk tb 60 e_Team___init__ := ⟨⟨rfl, rfl, rfl, by decide +kernel, rfl, by decide +kernel, by decide +kernel⟩, fun Γ => by kernel_rfl, fun _ _ _ _ _ _ us hl => match us, hl with | [_, _, _, _, _, _, _, _], _ => rfl, ⟨rfl, rfl⟩⟩
theorem ok_need_team : EntOk tb 60 e_need_team := ⟨⟨rfl, rfl, rfl, by decide +kernel, rfl, by decide +kernel, by decide +kernel⟩, fun Γ => by kernel_rfl, fun _ _ _ _ _ _ us hl => match us, hl with | [_], _ => rfl, ⟨rfl, rfl⟩⟩
theorem ok__law_deal : EntOk tb 60 e__law_deal := ⟨⟨rfl, rfl, rfl, by decide +kernel, rfl, by decide +kernel, by decide +kernel⟩, fun Γ => by kernel_rfl, fun _ _ _ _ _ _ us hl => match us, hl with | [_, _], _ => rfl, ⟨rfl, rfl⟩⟩
theorem ok__law_any : EntOk tb 60 e__law_any := ⟨⟨rfl, rfl, rfl, by decide +kernel, rfl, by decide +kernel, by decide +kernel⟩, fun Γ => by kernel_rfl, fun _ _ _ _ _ _ us hl => match us, hl with | [_, _], _ => rfl, ⟨rfl, rfl⟩⟩
theorem ok__law_of : EntOk tb 60 e__law_of := ⟨⟨rfl, rfl, rfl, by decide +kernel, rfl, by decide +kernel, by decide +kernel⟩, fun Γ => by kernel_rfl, fun _ _ _ _ _ _ us hl => match us, hl with | [_, _], _ => rfl, ⟨rfl, rfl⟩⟩
theorem ok__law_is_kind : EntOk tb 60 e__law_is_kind := ⟨⟨rfl, rfl, rfl, by decide +kernel, rfl, by decide +kernel, by decide +kernel⟩, fun Γ => by kernel_rfl, fun _ _ _ _ _ _ us hl => match us, hl with | [_, _], _ => rfl, ⟨rfl, rfl⟩⟩
theorem ok__law_same : EntOk tb 60 e__law_same := ⟨⟨rfl, rfl, rfl, by decide +kernel, rfl, by decide +kernel, by decide +kernel⟩, fun Γ => by kernel_rfl, fun _ _ _ _ _ _ us hl => match us, hl with | [_, _], _ => rfl, ⟨rfl, rfl⟩⟩
theorem ok__law_all : EntOk tb 60 e__law_all := ⟨⟨rfl, rfl, rfl, by decide +kernel, rfl, by decide +kernel, by decide +kernel⟩, fun Γ => by kernel_rfl, fun _ _ _ _ _ _ us hl => match us, hl with | [_], _ => rfl, ⟨rfl, rfl⟩⟩
theorem ok__law_mixed : EntOk tb 60 e__law_mixed := ⟨⟨rfl, rfl, rfl, by decide +kernel, rfl, by decide +kernel, by decide +kernel⟩, fun Γ => by kernel_rfl, fun _ _ _ _ _ _ us hl => match us, hl with | [_, _], _ => rfl, ⟨rfl, rfl⟩⟩
theorem ok__law_power : EntOk tb 60 e__law_power := ⟨⟨rfl, rfl, rfl, by decide +kernel, rfl, by decide +kernel, by decide +kernel⟩, fun Γ => by kernel_rfl, fun _ _ _ _ _ _ us hl => match us, hl with | [_, _], _ => rfl, ⟨rfl, rfl⟩⟩
theorem ok__law_upto : EntOk tb 60 e__law_upto := ⟨⟨rfl, rfl, rfl, by decide +kernel, rfl, by decide +kernel, by decide +kernel⟩, fun Γ => by kernel_rfl, fun _ _ _ _ _ _ us hl => match us, hl with | [_, _], _ => rfl, ⟨rfl, rfl⟩⟩
theorem ok__law_sizes : EntOk tb 60 e__law_sizes := ⟨⟨rfl, rfl, rfl, by decide +kernel, rfl, by decide +kernel, by decide +kernel⟩, fun Γ => by kernel_rfl, fun _ _ _ _ _ _ us hl => match us, hl with | [_], _ => rfl, ⟨rfl, rfl⟩⟩
theorem ok__law_drawn_numbers : EntOk tb 60 e__law_drawn_numbers := ⟨⟨rfl, rfl, rfl, by decide +kernel, rfl, by decide +kernel, by decide +kernel⟩, fun Γ => by kernel_rfl, fun _ _ _ _ _ _ us hl => match us, hl with | [_, _, _], _ => rfl, ⟨rfl, rfl⟩⟩
theorem ok__law_drawn_lots : EntOk tb 60 e__law_drawn_lots := ⟨⟨rfl, rfl, rfl, by decide +kernel, rfl, by decide +kernel, by decide +kernel⟩, fun Γ => by kernel_rfl, fun _ _ _ _ _ _ us hl => match us, hl with | [_, _], _ => rfl, ⟨rfl, rfl⟩⟩
theorem ok__law_need : EntOk tb 60 e__law_need := ⟨⟨rfl, rfl, rfl, by decide +kernel, rfl, by decide +kernel, by decide +kernel⟩, fun Γ => by kernel_rfl, fun _ _ _ _ _ _ us hl => match us, hl with | [_], _ => rfl, ⟨rfl, rfl⟩⟩
theorem ok__law_in : EntOk tb 60 e__law_in := ⟨⟨rfl, rfl, rfl, by decide +kernel, rfl, by decide +kernel, by decide +kernel⟩, fun Γ => by kernel_rfl, fun _ _ _ _ _ _ us hl => match us, hl with | [_, _, _], _ => rfl, ⟨rfl, rfl⟩⟩
theorem ok__law_team_with : EntOk tb 60 e__law_team_with := ⟨⟨rfl, rfl, rfl, by decide +kernel, rfl, by decide +kernel, by decide +kernel⟩, fun Γ => by kernel_rfl, fun _ _ _ _ _ _ us hl => match us, hl with | [_, _, _], _ => rfl, ⟨rfl, rfl⟩⟩
theorem ok__law_rows_wrong : EntOk tb 60 e__law_rows_wrong := ⟨⟨rfl, rfl, rfl, by decide +kernel, rfl, by decide +kernel, by decide +kernel⟩, fun Γ => by kernel_rfl, fun _ _ _ _ _ _ us hl => match us, hl with | [_, _, _, _], _ => rfl, ⟨rfl, rfl⟩⟩
theorem ok__law_told : EntOk tb 60 e__law_told := ⟨⟨rfl, rfl, rfl, by decide +kernel, rfl, by decide +kernel, by decide +kernel⟩, fun Γ => by kernel_rfl, fun _ _ _ _ _ _ us hl => match us, hl with | [_, _, _], _ => rfl, ⟨rfl, rfl⟩⟩
theorem ok_law : EntOk tb 60 e_law := ⟨⟨rfl, rfl, rfl, by decide +kernel, rfl, by decide +kernel, by decide +kernel⟩, fun Γ => by kernel_rfl, fun _ _ _ _ _ _ us hl => match us, hl with | [_], _ => rfl, ⟨rfl, rfl⟩⟩
theorem oks : ∀ e ∈ ents, EntOk tb 60 e := fun e he => by
  simp only [ents, List.mem_cons, List.not_mem_nil, or_false] at he
  rcases he with rfl | rfl | rfl | rfl | rfl | rfl | rfl | rfl | rfl | rfl | rfl | rfl | rfl | rfl | rfl | rfl | rfl | rfl | rfl | rfl | rfl | rfl | rfl | rfl | rfl | rfl | rfl | rfl | rfl | rfl | rfl | rfl | rfl | rfl | rfl | rfl | rfl | rfl | rfl | rfl | rfl | rfl | rfl | rfl | rfl | rfl | rfl | rfl | rfl | rfl | rfl | rfl | rfl
  · exact ok_InvalidTeam___init__
  · exact ok_is_integer
  · exact ok_is_number
  · exact ok_is_tuple
  · exact ok_first_wrong
  · exact ok_is_tuple_of
  · exact ok_is_number_row
  · exact ok_is_ascending
  · exact ok_is_lot
  · exact ok_is_lot_below
  · exact ok_are_numbers
  · exact ok_is_count
  · exact ok_is_near
  · exact ok_is_promise
  · exact ok_View___init__
  · exact ok_is_power
  · exact ok_is_some_number
  · exact ok_is_heard
  · exact ok_are_heard
  · exact ok_is_plain
  · exact ok_are_pairs
  · exact ok_with_parts
  · exact ok_parts_or_none
  · exact ok_is_rule
  · exact ok_is_formed
  · exact ok_wrong_letters
  · exact ok_wrong_hears
  · exact ok_table_base
  · exact ok_wrong_rule
  · exact ok_wrong_lots
  · exact ok_is_word_of
  · exact ok_fault_behind
  · exact ok_team_fault
  · exact ok_Team___init__
  · exact ok_need_team
  · exact ok__law_deal
  · exact ok__law_any
  · exact ok__law_of
  · exact ok__law_is_kind
  · exact ok__law_same
  · exact ok__law_all
  · exact ok__law_mixed
  · exact ok__law_power
  · exact ok__law_upto
  · exact ok__law_sizes
  · exact ok__law_drawn_numbers
  · exact ok__law_drawn_lots
  · exact ok__law_need
  · exact ok__law_in
  · exact ok__law_team_with
  · exact ok__law_rows_wrong
  · exact ok__law_told
  · exact ok_law
theorem kws : ∀ e ∈ ents, (tb.kwf.lookup e.nm).isSome = true → KwOk e := fun e he hk => by
  simp only [ents, List.mem_cons, List.not_mem_nil, or_false] at he
  rcases he with rfl | rfl | rfl | rfl | rfl | rfl | rfl | rfl | rfl | rfl | rfl | rfl | rfl | rfl | rfl | rfl | rfl | rfl | rfl | rfl | rfl | rfl | rfl | rfl | rfl | rfl | rfl | rfl | rfl | rfl | rfl | rfl | rfl | rfl | rfl | rfl | rfl | rfl | rfl | rfl | rfl | rfl | rfl | rfl | rfl | rfl | rfl | rfl | rfl | rfl | rfl | rfl | rfl
  · exact absurd hk (by decide +kernel)
  · exact absurd hk (by decide +kernel)
  · exact absurd hk (by decide +kernel)
  · exact absurd hk (by decide +kernel)
  · exact absurd hk (by decide +kernel)
  · exact absurd hk (by decide +kernel)
  · exact absurd hk (by decide +kernel)
  · exact absurd hk (by decide +kernel)
  · exact absurd hk (by decide +kernel)
  · exact absurd hk (by decide +kernel)
  · exact absurd hk (by decide +kernel)
  · exact absurd hk (by decide +kernel)
  · exact absurd hk (by decide +kernel)
  · exact absurd hk (by decide +kernel)
  · exact absurd hk (by decide +kernel)
  · exact absurd hk (by decide +kernel)
  · exact absurd hk (by decide +kernel)
  · exact absurd hk (by decide +kernel)
  · exact absurd hk (by decide +kernel)
  · exact absurd hk (by decide +kernel)
  · exact absurd hk (by decide +kernel)
  · exact absurd hk (by decide +kernel)
  · exact absurd hk (by decide +kernel)
  · exact absurd hk (by decide +kernel)
  · exact absurd hk (by decide +kernel)
  · exact absurd hk (by decide +kernel)
  · exact absurd hk (by decide +kernel)
  · exact absurd hk (by decide +kernel)
  · exact absurd hk (by decide +kernel)
  · exact absurd hk (by decide +kernel)
  · exact absurd hk (by decide +kernel)
  · exact absurd hk (by decide +kernel)
  · exact absurd hk (by decide +kernel)
  · exact absurd hk (by decide +kernel)
  · exact absurd hk (by decide +kernel)
  · exact absurd hk (by decide +kernel)
  · exact absurd hk (by decide +kernel)
  · exact absurd hk (by decide +kernel)
  · exact absurd hk (by decide +kernel)
  · exact absurd hk (by decide +kernel)
  · exact absurd hk (by decide +kernel)
  · exact absurd hk (by decide +kernel)
  · exact absurd hk (by decide +kernel)
  · exact absurd hk (by decide +kernel)
  · exact absurd hk (by decide +kernel)
  · exact absurd hk (by decide +kernel)
  · exact absurd hk (by decide +kernel)
  · exact absurd hk (by decide +kernel)
  · exact absurd hk (by decide +kernel)
  · exact absurd hk (by decide +kernel)
  · exact absurd hk (by decide +kernel)
  · exact absurd hk (by decide +kernel)
  · exact absurd hk (by decide +kernel)
theorem kwps : ∀ q ∈ tb.kwp, KwP ents tb q := fun q hq => by
  exact absurd (show q ∈ ([] : List (Str × List Str × List Nat)) from hq) List.not_mem_nil
theorem tbs : tabB ents tb = true := by kernel_rfl
theorem lk_InvalidTeam___init__ : (ptab ents).lookup ("InvalidTeam.__init__" : Str) = some e_InvalidTeam___init__.fd := by kernel_rfl
theorem lk_is_integer : (ptab ents).lookup ("is_integer" : Str) = some e_is_integer.fd := by kernel_rfl
theorem lk_is_number : (ptab ents).lookup ("is_number" : Str) = some e_is_number.fd := by kernel_rfl
theorem lk_is_tuple : (ptab ents).lookup ("is_tuple" : Str) = some e_is_tuple.fd := by kernel_rfl
theorem lk_first_wrong : (ptab ents).lookup ("first_wrong" : Str) = some e_first_wrong.fd := by kernel_rfl
theorem lk_is_tuple_of : (ptab ents).lookup ("is_tuple_of" : Str) = some e_is_tuple_of.fd := by kernel_rfl
theorem lk_is_number_row : (ptab ents).lookup ("is_number_row" : Str) = some e_is_number_row.fd := by kernel_rfl
theorem lk_is_ascending : (ptab ents).lookup ("is_ascending" : Str) = some e_is_ascending.fd := by kernel_rfl
theorem lk_is_lot : (ptab ents).lookup ("is_lot" : Str) = some e_is_lot.fd := by kernel_rfl
theorem lk_is_lot_below : (ptab ents).lookup ("is_lot_below" : Str) = some e_is_lot_below.fd := by kernel_rfl
theorem lk_are_numbers : (ptab ents).lookup ("are_numbers" : Str) = some e_are_numbers.fd := by kernel_rfl
theorem lk_is_count : (ptab ents).lookup ("is_count" : Str) = some e_is_count.fd := by kernel_rfl
theorem lk_is_near : (ptab ents).lookup ("is_near" : Str) = some e_is_near.fd := by kernel_rfl
theorem lk_is_promise : (ptab ents).lookup ("is_promise" : Str) = some e_is_promise.fd := by kernel_rfl
theorem lk_View___init__ : (ptab ents).lookup ("View.__init__" : Str) = some e_View___init__.fd := by kernel_rfl
theorem lk_is_power : (ptab ents).lookup ("is_power" : Str) = some e_is_power.fd := by kernel_rfl
theorem lk_is_some_number : (ptab ents).lookup ("is_some_number" : Str) = some e_is_some_number.fd := by kernel_rfl
theorem lk_is_heard : (ptab ents).lookup ("is_heard" : Str) = some e_is_heard.fd := by kernel_rfl
theorem lk_are_heard : (ptab ents).lookup ("are_heard" : Str) = some e_are_heard.fd := by kernel_rfl
theorem lk_is_plain : (ptab ents).lookup ("is_plain" : Str) = some e_is_plain.fd := by kernel_rfl
theorem lk_are_pairs : (ptab ents).lookup ("are_pairs" : Str) = some e_are_pairs.fd := by kernel_rfl
theorem lk_with_parts : (ptab ents).lookup ("with_parts" : Str) = some e_with_parts.fd := by kernel_rfl
theorem lk_parts_or_none : (ptab ents).lookup ("parts_or_none" : Str) = some e_parts_or_none.fd := by kernel_rfl
theorem lk_is_rule : (ptab ents).lookup ("is_rule" : Str) = some e_is_rule.fd := by kernel_rfl
theorem lk_is_formed : (ptab ents).lookup ("is_formed" : Str) = some e_is_formed.fd := by kernel_rfl
theorem lk_wrong_letters : (ptab ents).lookup ("wrong_letters" : Str) = some e_wrong_letters.fd := by kernel_rfl
theorem lk_wrong_hears : (ptab ents).lookup ("wrong_hears" : Str) = some e_wrong_hears.fd := by kernel_rfl
theorem lk_table_base : (ptab ents).lookup ("table_base" : Str) = some e_table_base.fd := by kernel_rfl
theorem lk_wrong_rule : (ptab ents).lookup ("wrong_rule" : Str) = some e_wrong_rule.fd := by kernel_rfl
theorem lk_wrong_lots : (ptab ents).lookup ("wrong_lots" : Str) = some e_wrong_lots.fd := by kernel_rfl
theorem lk_is_word_of : (ptab ents).lookup ("is_word_of" : Str) = some e_is_word_of.fd := by kernel_rfl
theorem lk_fault_behind : (ptab ents).lookup ("fault_behind" : Str) = some e_fault_behind.fd := by kernel_rfl
theorem lk_team_fault : (ptab ents).lookup ("team_fault" : Str) = some e_team_fault.fd := by kernel_rfl
theorem lk_Team___init__ : (ptab ents).lookup ("Team.__init__" : Str) = some e_Team___init__.fd := by kernel_rfl
theorem lk_need_team : (ptab ents).lookup ("need_team" : Str) = some e_need_team.fd := by kernel_rfl
theorem lk__law_deal : (ptab ents).lookup ("_law_deal" : Str) = some e__law_deal.fd := by kernel_rfl
theorem lk__law_any : (ptab ents).lookup ("_law_any" : Str) = some e__law_any.fd := by kernel_rfl
theorem lk__law_of : (ptab ents).lookup ("_law_of" : Str) = some e__law_of.fd := by kernel_rfl
theorem lk__law_is_kind : (ptab ents).lookup ("_law_is_kind" : Str) = some e__law_is_kind.fd := by kernel_rfl
theorem lk__law_same : (ptab ents).lookup ("_law_same" : Str) = some e__law_same.fd := by kernel_rfl
theorem lk__law_all : (ptab ents).lookup ("_law_all" : Str) = some e__law_all.fd := by kernel_rfl
theorem lk__law_mixed : (ptab ents).lookup ("_law_mixed" : Str) = some e__law_mixed.fd := by kernel_rfl
theorem lk__law_power : (ptab ents).lookup ("_law_power" : Str) = some e__law_power.fd := by kernel_rfl
theorem lk__law_upto : (ptab ents).lookup ("_law_upto" : Str) = some e__law_upto.fd := by kernel_rfl
theorem lk__law_sizes : (ptab ents).lookup ("_law_sizes" : Str) = some e__law_sizes.fd := by kernel_rfl
theorem lk__law_drawn_numbers : (ptab ents).lookup ("_law_drawn_numbers" : Str) = some e__law_drawn_numbers.fd := by kernel_rfl
theorem lk__law_drawn_lots : (ptab ents).lookup ("_law_drawn_lots" : Str) = some e__law_drawn_lots.fd := by kernel_rfl
theorem lk__law_need : (ptab ents).lookup ("_law_need" : Str) = some e__law_need.fd := by kernel_rfl
theorem lk__law_in : (ptab ents).lookup ("_law_in" : Str) = some e__law_in.fd := by kernel_rfl
theorem lk__law_team_with : (ptab ents).lookup ("_law_team_with" : Str) = some e__law_team_with.fd := by kernel_rfl
theorem lk__law_rows_wrong : (ptab ents).lookup ("_law_rows_wrong" : Str) = some e__law_rows_wrong.fd := by kernel_rfl
theorem lk__law_told : (ptab ents).lookup ("_law_told" : Str) = some e__law_told.fd := by kernel_rfl
theorem lk_law : (ptab ents).lookup ("law" : Str) = some e_law.fd := by kernel_rfl
end K07

namespace K07
open PySem PySem.Spec L2 TL
open PyProof.Rows hiding St

abbrev Cl (d : Nat) : Calls := callI (ptab ents) d
abbrev SpAny (Γ : Calls) : Prop := ∀ (a b : Addr) (bound : Int) (S : Sto) (Q : VQ) (E : EQ), Deal a b S → 0 < bound → bound < 2 ^ 200 → (∀ k S', 0 ≤ k → k < bound → Deal a b S' → Fr a b S S' → Q (.int k) S') → Γ "_law_any" [.ref a, .int bound] S Q E
theorem t_len {a b : Addr} {mix : Int} {xs : List Val} {w1 w2 : Option Val} {S : Sto} {Q : Bool → Sto → Prop} {E : EQ} (a1 : S a = some (.lst [.ref b, .int mix])) (a2 : S b = some (.lst xs)) (q : Q (decide (0 < xs.length)) S) :
    tstB (bin2 gtP (callP lenP (consA (bin2 ixP (varI 0) (conI (.int 0))) nilA)) (conI (.int 0))) [some (.ref a), w1, w2] S Q E := by
  refine ix_ref0 a1 ?_
  show someP (match S b with
    | some (.lst xs) => some xs
    | _ => none) fun xs => Q (decide ((0 : Int) < (xs.length : Int))) S
  rw [a2]
  show Q (decide ((0 : Int) < (xs.length : Int))) S
  rw [show decide ((0 : Int) < (xs.length : Int)) = decide (0 < xs.length) from decide_eq_decide.mpr (by omega)]
  exact q
theorem any_ok (d : Nat) : SpAny (Cl (d + 1)) := by
  intro a b bound S Q E hd hb hb2 h
  refine callI_of lk__law_any rfl ?_
  generalize Cl d = Γ
  have hd0 := hd
  obtain ⟨ne, cs, mix, e1, e2, m1, m2, ml⟩ := hd
  have ne' : b ≠ a := fun z => ne z.symm
  have hdiv : ∀ n, CDivW n bound := fun n => divw_small hb hb2
  have h64 : ∀ n, CDivW n 64 := fun n => divw_small (by decide) (by decide)
  have hm : CMulW mix 48271 := mulw_small (by omega) (by decide)
  -- the end
  have fin : ∀ k S', 0 ≤ k → k < bound → Deal a b S' → Fr a b S S' → Q (.int k) (gcS true S S') := fun k S' h1 h2 h3 h4 => by
    show Q (.int k) (S'.within S)
    rw [hd0.within h4]
    exact h k S' h1 h2 h3 h4
  show m__law_any Γ (endsI true S Q E) [some (.ref a), some (.int bound), none] S
  unfold m__law_any
  refine ⟨fun m ρ S1 => ρ = [some (.ref a), some (.int bound), none] ∧ ∃ cs1 : List Int, cs1.length = m ∧ S1 a = some (.lst [.ref b, .int mix]) ∧ S1 b = some (.lst (cs1.map Val.int)) ∧ Fr a b S S1 ∧ cs1.length ≤ 63, ⟨cs.length, rfl, cs, rfl, e1, e2, Fr.refl, ml⟩, ?_⟩
  rintro m ρ S1 ⟨rfl, cs1, rfl, a1, a2, fr, l1⟩
  by_cases hcs : cs1 = []
  · subst hcs
    refine t_len a1 a2 ?_
    rw [show decide (0 < (([] : List Int).map Val.int).length) = false from rfl]
    refine t_len a1 a2 ?_
    rw [show decide (0 < (([] : List Int).map Val.int).length) = false from rfl]
    with_reducible refine ix_ref1 a1 ⟨hm, by decide, set_of (jj := 1) a1 rfl (ix_ref1 (x := .ref b) (v := .int ((mix * 48271 + 31) % 2147483647)) (xs := []) put_same ⟨h64 _, hb, ?_⟩)⟩
    refine fin _ _ (Int.emod_nonneg _ (by omega)) (Int.emod_lt_of_pos _ hb) ⟨ne, [], (mix * 48271 + 31) % 2147483647, put_same, ?_, by omega, by omega, l1⟩ ⟨fun c h1 h2 => ?_⟩
    · rw [put_ne ne']; exact a2
    · rw [put_ne h1]; exact fr.eq c h1 h2
  · obtain ⟨ms, n, rfl⟩ := snoc_of hcs
    have hpos : decide (0 < ((ms ++ [n]).map Val.int).length) = true := decide_eq_true (by rw [List.length_map, List.length_append]; exact Nat.succ_pos _)
    refine t_len a1 a2 ?_
    rw [hpos]
    by_cases hn : n = 0
    · with_reducible refine ix_ref0 a1 (ix_ref a2 atI_last (eq_of (eqOf_iit hn) ?_))
      with_reducible refine ix_ref0 a1 ⟨isl_ref a2, pop_of a2 get_last ?_⟩
      rw [List.length_append, List.length_singleton] at l1
      refine ⟨ms.length, by simp, rfl, ms, rfl, ?_, ?_, ⟨fun c h1 h2 => ?_⟩, by omega⟩
      · rw [put_ne ne]; exact a1
      · rw [put_same, drop_last]
      · rw [put_ne h2]; exact fr.eq c h1 h2
    · with_reducible refine ix_ref0 a1 (ix_ref a2 atI_last (eq_of (eqOf_iif hn) ?_))
      have b1 : (S1.put b (.lst (((ms ++ [n]).map Val.int).dropLast))) a = some (.lst [.ref b, .int mix]) := by rw [put_ne ne]; exact a1
      have b2 : (S1.put b (.lst (((ms ++ [n]).map Val.int).dropLast))) b = some (.lst (ms.map Val.int)) := by rw [put_same, drop_last]
      refine t_len a1 a2 ?_
      rw [hpos]
      with_reducible refine ix_ref0 a1 ⟨isl_ref a2, pop_of a2 get_last (ix_ref0 b1 ⟨isl_ref b2, hdiv _, app_of b2 ?_ ⟨hb, ?_⟩⟩)⟩
      · rw [List.length_append, List.length_singleton] at l1
        rw [List.length_map, sizeLine_eq]
        omega
      · refine fin _ _ (Int.emod_nonneg _ (by omega)) (Int.emod_lt_of_pos _ hb) ⟨ne, ms ++ [n / bound], mix, ?_, ?_, m1, m2, by simpa using l1⟩ ⟨fun c h1 h2 => ?_⟩
        · rw [put_ne ne]; exact b1
        · rw [put_same, getLast_map]
        · rw [put_ne h2, put_ne h2]; exact fr.eq c h1 h2

abbrev SpOf (Γ : Calls) : Prop := ∀ (a b : Addr) (xs : List Val) (S : Sto) (Q : VQ) (E : EQ), Deal a b S → xs ≠ [] → xs.length ≤ sizeLine → (∀ v S', v ∈ xs → Deal a b S' → Fr a b S S' → Q v S') → Γ "_law_of" [.ref a, .lst xs] S Q E
theorem of_ok (d : Nat) : SpOf (Cl (d + 2)) := by
  intro a b xs S Q E hd hne hl h
  refine callI_of lk__law_of rfl ?_
  show m__law_of (Cl (d + 1)) (endsI true S Q E) [some (.ref a), some (.lst xs)] S
  unfold m__law_of
  have hA := any_ok d
  generalize Cl (d + 1) = Γ at hA
  have h0 : 0 < xs.length := List.length_pos_iff.mpr hne
  rw [sizeLine_eq] at hl
  refine hA a b _ S _ _ hd (by omega) (by omega) fun k S' h1 h2 h3 h4 => ?_
  obtain ⟨n, rfl⟩ := Int.eq_ofNat_of_zero_le h1
  have hn : n < xs.length := by omega
  refine ixL_of (v := xs[n]) (by rw [at_nat hn]; exact List.getElem?_eq_getElem hn) ?_
  show Q xs[n] (S'.within S)
  rw [hd.within h4]
  exact h _ S' (List.getElem_mem hn) h3 h4

abbrev SpDeal (Γ : Calls) : Prop := ∀ (ns : List Int) (salt : Int) (S : Sto) (Q : VQ) (E : EQ), ns.length ≤ 63 → 0 ≤ salt → salt < 1000 → (∀ a b S', Deal a b S' → S a = none → S b = none → Fr a b S S' → Q (.ref a) S') → Γ "_law_deal" [.scr ns, .int salt] S Q E
theorem deal_ok (d : Nat) : SpDeal (Cl (d + 1)) := by
  intro ns salt S Q E hl s0 s1 h
  refine callI_of lk__law_deal rfl ?_
  generalize Cl d = Γ
  show m__law_deal Γ (endsI false S Q E) [some (.scr ns), some (.int salt), none, none, none, none] S
  unfold m__law_deal
  have hp : CPow 10 64 := ⟨by decide, by decide, by decide⟩
  have hp2 : CPow 10 18 := ⟨by decide, by decide, by decide⟩
  have c1 : CMulW ((10 : Int) ^ (64 : Int).toNat) ((10 : Int) ^ (64 : Int).toNat) := cmul_dec (by decide +kernel)
  have c2 : CMulW ((10 : Int) ^ (64 : Int).toNat * (10 : Int) ^ (64 : Int).toNat) ((10 : Int) ^ (64 : Int).toNat) := cmul_dec (by decide +kernel)
  have c3 : CMulW ((10 : Int) ^ (64 : Int).toNat * (10 : Int) ^ (64 : Int).toNat * (10 : Int) ^ (64 : Int).toNat) ((10 : Int) ^ (64 : Int).toNat) := cmul_dec (by decide +kernel)
  have c4 : CMulW ((10 : Int) ^ (64 : Int).toNat * (10 : Int) ^ (64 : Int).toNat * (10 : Int) ^ (64 : Int).toNat * (10 : Int) ^ (64 : Int).toNat) ((10 : Int) ^ (64 : Int).toNat) := cmul_dec (by decide +kernel)
  have c5 : CMulW ((10 : Int) ^ (64 : Int).toNat * (10 : Int) ^ (64 : Int).toNat * (10 : Int) ^ (64 : Int).toNat * (10 : Int) ^ (64 : Int).toNat * (10 : Int) ^ (64 : Int).toNat) ((10 : Int) ^ (64 : Int).toNat) := cmul_dec (by decide +kernel)
  have mp : (0 : Int) < (10 : Int) ^ (64 : Int).toNat * (10 : Int) ^ (64 : Int).toNat * (10 : Int) ^ (64 : Int).toNat * (10 : Int) ^ (64 : Int).toNat * (10 : Int) ^ (64 : Int).toNat * (10 : Int) ^ (64 : Int).toNat := by decide +kernel
  with_reducible refine ⟨hp, hp, c1, hp, c2, hp, c3, hp, c4, hp, c5, ?_⟩
  generalize (10 : Int) ^ (64 : Int).toNat * (10 : Int) ^ (64 : Int).toNat * (10 : Int) ^ (64 : Int).toNat * (10 : Int) ^ (64 : Int).toNat * (10 : Int) ^ (64 : Int).toNat * (10 : Int) ^ (64 : Int).toNat = most at mp ⊢
  have hcut : cutL (ns.map Val.int) none (some 63) = (cutL ns none (some 63)).map Val.int := cutL_map _ _ _ _
  have hcl : (cutL ns none (some 63)).length ≤ 63 := Nat.le_trans cutL_length hl
  show lcGo none (cutL (ns.map Val.int) none (some 63)) _ _ _ _ (cutL (ns.map Val.int) none (some 63)) [] S _
  rw [hcut]
  generalize cutL ns none (some 63) = ms at hcl
  refine lc_ints (fun _ => true) (fun n => .int ((if n < 0 then -n else n) % most)) trivial (by rw [sizeLine_eq]; omega) (fun n hn => ⟨fun Q hQ => hQ, fun _ Q hQ => ⟨mp, hQ⟩⟩) ?_
  have hfl : ((ms.filter fun _ => true).map fun n => Val.int ((if n < 0 then -n else n) % most)) = (ms.map fun n => (if n < 0 then -n else n) % most).map Val.int := by
    rw [List.filter_eq_self.mpr (fun _ _ => rfl), List.map_map]
    rfl
  rw [hfl]
  have hcl2 : (ms.map fun n => (if n < 0 then -n else n) % most).length ≤ 63 := by rw [List.length_map]; exact hcl
  generalize (ms.map fun n => (if n < 0 then -n else n) % most) = cs at hcl2
  refine ⟨mulw_small (by decide) (by omega), ?_⟩
  refine forGo_ind (fun r ρ S' => S' = S ∧ (∃ l : List Int, r = l.map Val.int) ∧ ∃ c mix, ρ = [some (.scr ns), some (.int salt), some (.int most), c, some (.lst (cs.map Val.int)), some (.int mix)] ∧ 0 ≤ mix ∧ mix < 2147483647) ?_ ?_ _ _ _ ⟨rfl, ⟨cs, rfl⟩, _, _, rfl, by omega, by omega⟩
  · rintro ρ S' ⟨rfl, _, c, mix, rfl, m0, m1⟩
    refine ⟨trivial, ?_⟩
    with_reducible refine lc_ints (fun n => decide ((10 : Int) ^ (18 : Int).toNat ≤ n)) Val.int ?_ ?_ ?_ ?_
    · trivial
    · rw [sizeLine_eq]
      omega
    · exact fun n hn => ⟨fun Q hQ => ⟨hp2, hQ⟩, fun _ Q hQ => hQ⟩
    have hcl3 : (cs.filter fun n => decide ((10 : Int) ^ (18 : Int).toNat ≤ n)).length ≤ 63 := Nat.le_trans (List.length_filter_le _ _) hcl2
    generalize (cs.filter fun n => decide ((10 : Int) ^ (18 : Int).toNat ≤ n)) = ds at hcl3
    intro b0 hb0
    refine ⟨show 2 ≤ sizeLine by decide, fun a0 ha0 => ?_⟩
    show Q (.ref a0) ((S'.put b0 (.lst (ds.map Val.int).reverse)).put a0 (.lst [.ref b0, .int mix]))
    have ne : a0 ≠ b0 := fun z => by rw [z, put_same] at ha0; cases ha0
    rw [put_ne ne] at ha0
    refine h a0 b0 _ ⟨ne, ds.reverse, mix, put_same, ?_, m0, m1, by rw [List.length_reverse]; exact hcl3⟩ ha0 hb0 ⟨fun c h1 h2 => ?_⟩
    · rw [put_ne ne.symm, put_same, List.map_reverse]
    · rw [put_ne h1, put_ne h2]
  · rintro x r ρ S' Kn hK ⟨rfl, ⟨l, hr⟩, c, mix, rfl, m0, m1⟩
    cases l with
    | nil => cases hr
    | cons n l =>
      have e1 : x = .int n := (List.cons.inj hr).1
      have e2 : r = l.map Val.int := (List.cons.inj hr).2
      subst e1
      with_reducible refine ⟨trivial, mulw_small (by omega) (by decide), by decide, by decide, ?_⟩
      exact hK _ _ ⟨rfl, ⟨l, e2⟩, _, _, rfl, Int.emod_nonneg _ (by decide), Int.emod_lt_of_pos _ (by decide)⟩
theorem len_eq' {S : Sto} {L : Val} {xs : List Val} (h : lstOf S L = some xs) (Q : VQ) : lenP [L] S Q = Q (.int xs.length) S := by
  cases L with
  | lst ys => cases h; rfl
  | ref e =>
    have h' : (match S e with
      | some (.lst xs) => some xs
      | _ => none) = some xs := h
    show someP (match S e with
      | some (.lst xs) => some xs
      | _ => none) (fun xs => Q (.int xs.length) S) = _
    rw [h']
  | _ => cases h
theorem t_gt {m : IE} {L : Val} {xs : List Val} {ρ : ISt} {S : Sto} {Q : Bool → Sto → Prop} {E : EQ} (hm : ∀ Q : VQ, m ρ S Q E = Q L S) (h : lstOf S L = some xs) (k : Nat) (q : Q (decide (k < xs.length)) S) : tstB (bin2 gtP (callP lenP (consA m nilA)) (conI (.int k))) ρ S Q E := by
  show m ρ S (fun x S1 => lenP [x] S1 fun v S2 => gtP v (.int k) S2 fun x S1 => match x with
    | .bl k => Q k S1
    | _ => False) E
  rw [hm, len_eq' h]
  show Q (decide ((k : Int) < (xs.length : Int))) S
  rw [show decide ((k : Int) < (xs.length : Int)) = decide (k < xs.length) from decide_eq_decide.mpr (by omega)]
  exact q
/-! ### equality told -/
abbrev SpKind (Γ : Calls) : Prop := ∀ (v : Val) (S : Sto) (Q : VQ) (E : EQ), (match v with
  | .non => True
  | .bl _ => True
  | .int _ => True
  | .str _ => True
  | _ => False) → Q (.bl true) S → Γ "_law_is_kind" [v, v] S Q E
theorem kind_ok (d : Nat) : SpKind (Cl (d + 1)) := by
  intro v S Q E h hq
  refine callI_of lk__law_is_kind rfl ?_
  have fin : Q (.bl true) (S.within S) := by rw [within_self]; exact hq
  show m__law_is_kind (Cl d) (endsI true S Q E) [some v, some v] S
  unfold m__law_is_kind
  generalize Cl d = Γ
  cases v with
  | non => exact fin
  | bl k => cases k <;> exact fin
  | int i =>
    with_reducible refine isi_of (b := false) rfl rfl (by decide +kernel) ?_
    with_reducible refine isi_of (b := true) rfl rfl (by decide +kernel) ?_
    with_reducible refine isi_of (b := false) rfl rfl (by decide +kernel) ?_
    exact eq_of (eqOf_iit rfl) fin
  | str x =>
    with_reducible refine isi_of (b := true) rfl rfl (by decide +kernel) ?_
    with_reducible refine isi_of (b := true) rfl rfl (by decide +kernel) ?_
    exact eq_of (b := true) (show some (decide (x = x)) = some true by rw [decide_eq_true rfl]) fin
  | _ => exact h.elim
@[reducible] def pp (v : Val) : Val := .tup [v, v]
/-- what is compared: its size -/
inductive SZ : Nat → Val → Prop
  | non : SZ 1 .non
  | bl {k : Bool} : SZ 1 (.bl k)
  | int {i : Int} : SZ 1 (.int i)
  | str {x : Str} : SZ 1 (.str x)
  | tup (ts : List (Nat × Val)) : (∀ t ∈ ts, SZ t.1 t.2) → SZ ((ts.map (·.1)).sum + 1) (.tup (ts.map (·.2)))
theorem SZ.pos {n : Nat} {v : Val} (h : SZ n v) : 1 ≤ n := by
  cases h <;> omega
@[reducible] def leafV : Val → Prop
  | .non => True
  | .bl _ => True
  | .int _ => True
  | .str _ => True
  | _ => False
theorem SZ.inv {n : Nat} {v : Val} (h : SZ n v) : leafV v ∨ ∃ ts : List (Nat × Val), n = (ts.map (·.1)).sum + 1 ∧ v = .tup (ts.map (·.2)) ∧ ∀ t ∈ ts, SZ t.1 t.2 := by
  cases h with
  | tup ts h => exact .inr ⟨ts, rfl, rfl, h⟩
  | _ => exact .inl trivial
theorem sz_len : ∀ (ts : List (Nat × Val)), (∀ t ∈ ts, SZ t.1 t.2) → ts.length ≤ (ts.map (·.1)).sum
  | [], _ => Nat.le_refl _
  | t :: r, h => by
    have h1 := (h t List.mem_cons_self).pos
    have h2 := sz_len r fun t ht => h t (List.mem_cons_of_mem _ ht)
    simp only [List.length_cons, List.map_cons, List.sum_cons]
    omega
abbrev SpSame (Γ : Calls) : Prop := ∀ (n : Nat) (v : Val) (S : Sto) (Q : VQ) (E : EQ), SZ n v → n ≤ 1000000 → Q (.bl true) S → Γ "_law_same" [v, v] S Q E
theorem same_ok (d : Nat) : SpSame (Cl (d + 2)) := by
  intro n v S Q E h hn hq
  refine callI_of lk__law_same rfl ?_
  show m__law_same (Cl (d + 1)) (endsI true S Q E) [some v, some v, none, none, none, none] S
  have hK := kind_ok d
  unfold m__law_same
  generalize Cl (d + 1) = Γ at hK ⊢
  refine ⟨show 2 ≤ sizeLine by decide, show 1 ≤ sizeLine by decide, fun e he => ?_⟩
  refine ⟨fun m ρ S1 => ∃ (ts : List (Nat × Val)) (c3 c4 c5 : Option Val), m = (ts.map (·.1)).sum ∧ m ≤ n ∧ (∀ t ∈ ts, SZ t.1 t.2) ∧ ρ = [some v, some v, some (.ref e), c3, c4, c5] ∧ S1 e = some (.lst (ts.map fun t => pp t.2)) ∧ ∀ c, S c ≠ none → S1 c = S c,
    ⟨n, [(n, v)], none, none, none, by simp, Nat.le_refl _, fun t ht => by rw [List.mem_singleton.mp ht]; exact h, rfl, put_same, fun c hc => put_ne fun z => hc (by rw [z]; exact he)⟩, ?_⟩
  rintro m ρ S1 ⟨ts, c3, c4, c5, rfl, hm, hts, rfl, s1e, fr⟩
  have lt : lstOf S1 (.ref e) = some (ts.map fun t => pp t.2) := lsq_ref s1e
  refine t_gt (m := varI 2) (fun _ => rfl) lt 0 ?_
  by_cases h0 : ts = []
  · subst h0
    show Q (.bl true) (S1.within S)
    rw [TL.within_old fr]
    exact hq
  obtain ⟨us, t, rfl⟩ : ∃ us t, ts = us ++ [t] := ⟨ts.dropLast, ts.getLast h0, (List.dropLast_concat_getLast h0).symm⟩
  have hus : ∀ t ∈ us, SZ t.1 t.2 := fun x hx => hts x (List.mem_append_left _ hx)
  have ht : SZ t.1 t.2 := hts t (List.mem_append_right _ List.mem_cons_self)
  rw [show decide (0 < ((us ++ [t]).map fun t => pp t.2).length) = true from decide_eq_true (by simp)]
  rw [List.map_append] at s1e
  have lts : (us.map (·.1)).sum < ((us ++ [t]).map (·.1)).sum := by
    rw [List.map_append, List.sum_append]
    have := ht.pos
    simp only [List.map_cons, List.map_nil, List.sum_cons, List.sum_nil]
    omega
  rw [List.map_append, List.sum_append, List.map_cons, List.map_nil, List.sum_cons, List.sum_nil] at hm
  refine ⟨isl_ref s1e, pop_end s1e ?_⟩
  have s2e : (S1.put e (.lst (us.map fun t => pp t.2))) e = some (.lst (us.map fun t => pp t.2)) := put_same
  have fr2 : ∀ c, S c ≠ none → (S1.put e (.lst (us.map fun t => pp t.2))) c = S c := fun c hc => by rw [put_ne (fun z => hc (by rw [z]; exact he))]; exact fr c hc
  generalize (S1.put e (.lst (us.map fun t => pp t.2))) = S2 at s2e fr2 ⊢
  have hs1 := sz_len us hus
  have hp := ht.pos
  obtain ⟨tn, tv⟩ := t
  simp only at hm hp ht
  rcases ht.inv with hlf | ⟨xs, rfl, rfl, hxs⟩
  · have leaf : ∀ c3 c4 c5 : Option Val, ∃ (ts : List (Nat × Val)) (c3' c4' c5' : Option Val), (us.map (·.1)).sum = (ts.map (·.1)).sum ∧ (us.map (·.1)).sum ≤ n ∧ (∀ t ∈ ts, SZ t.1 t.2) ∧ [some v, some v, some (.ref e), c3, c4, c5] = [some v, some v, some (.ref e), c3', c4', c5'] ∧ S2 e = some (.lst (ts.map fun t => pp t.2)) ∧ ∀ c, S c ≠ none → S2 c = S c := fun c3 c4 c5 =>
      ⟨us, c3, c4, c5, rfl, by omega, hus, rfl, s2e, fr2⟩
    cases tv with
    | non =>
      with_reducible refine isi_of (b := false) rfl rfl (by decide +kernel) ?_
      with_reducible refine isi_of (b := false) rfl rfl (by decide +kernel) ?_
      refine hK _ S2 _ _ trivial ?_
      exact ⟨_, lts, leaf _ _ _⟩
    | bl k =>
      with_reducible refine isi_of (b := false) rfl rfl (by decide +kernel) ?_
      with_reducible refine isi_of (b := false) rfl rfl (by decide +kernel) ?_
      refine hK _ S2 _ _ trivial ?_
      exact ⟨_, lts, leaf _ _ _⟩
    | int i =>
      with_reducible refine isi_of (b := false) rfl rfl (by decide +kernel) ?_
      with_reducible refine isi_of (b := false) rfl rfl (by decide +kernel) ?_
      refine hK _ S2 _ _ trivial ?_
      exact ⟨_, lts, leaf _ _ _⟩
    | str x =>
      with_reducible refine isi_of (b := false) rfl rfl (by decide +kernel) ?_
      with_reducible refine isi_of (b := false) rfl rfl (by decide +kernel) ?_
      refine hK _ S2 _ _ trivial ?_
      exact ⟨_, lts, leaf _ _ _⟩
    | _ => exact hlf.elim
  · have hs2 := sz_len xs hxs
    with_reducible refine isi_of (b := true) rfl rfl (by decide +kernel) ?_
    with_reducible refine isi_of (b := true) rfl rfl (by decide +kernel) ?_
    refine ne_f (eqOf_iit rfl) ?_
    refine sq_for (rng1 (EV.lenT (xs := xs.map (·.2)) (EV.var fun _ z => z)) (by omega) (by rw [List.length_map]; omega)) ?_
    have e0 : TL.upTo 0 (((xs.map (·.2)).length : Int)).toNat = (List.range xs.length).map fun i : Nat => Val.int (0 + (i : Int)) := by
      rw [List.length_map, Int.toNat_natCast]
      rfl
    rw [e0]
    refine forGo_ind (fun r ρ S' => ∃ (k : Nat) (c5 : Option Val), k ≤ xs.length ∧ r = ((List.range xs.length).drop k).map (fun i : Nat => Val.int (0 + (i : Int))) ∧ ρ = [some v, some v, some (.ref e), some (.tup (xs.map (·.2))), some (.tup (xs.map (·.2))), c5] ∧ S' e = some (.lst ((us ++ xs.take k).map fun t => pp t.2)) ∧ ∀ c, S c ≠ none → S' c = S c) ?_ ?_ _ _ _ ⟨0, c5, Nat.zero_le _, rfl, rfl, by rw [List.take_zero, List.append_nil]; exact s2e, fr2⟩
    · rintro ρ S' ⟨k, c5, hk, hr, rfl, s3, fr3⟩
      have hk2 : xs.length ≤ k := by
        have := congrArg List.length hr
        rw [List.length_map, List.length_drop, List.length_range] at this
        simp only [List.length_nil] at this
        omega
      rw [List.take_of_length_le hk2] at s3
      refine ⟨trivial, ((us ++ xs).map (·.1)).sum, ?_, us ++ xs, _, _, _, rfl, ?_, fun y hy => (List.mem_append.mp hy).elim (hus y) (hxs y), rfl, s3, fr3⟩
      · rw [List.map_append, List.map_append, List.sum_append, List.sum_append]
        simp only [List.map_cons, List.map_nil, List.sum_cons, List.sum_nil]
        omega
      · rw [List.map_append, List.sum_append]
        omega
    · rintro x r ρ S' Kn hKn ⟨k, c5, hk, hr, rfl, s3, fr3⟩
      have hk2 : k < xs.length := by
        rcases Nat.lt_or_ge k xs.length with h | h
        · exact h
        · rw [List.drop_of_length_le (by rw [List.length_range]; exact h)] at hr
          cases hr
      rw [List.drop_eq_getElem_cons (by rw [List.length_range]; exact hk2), List.map_cons, List.getElem_range] at hr
      have ex := (List.cons.inj hr).1
      have er := (List.cons.inj hr).2
      subst ex
      have ha : atI (xs.map (·.2)) (0 + (k : Int)) = some xs[k].2 := by
        rw [Int.zero_add, at_nat (by rw [List.length_map]; exact hk2), List.getElem?_map, List.getElem?_eq_getElem hk2]
        rfl
      refine ⟨trivial, ?_⟩
      refine sq_app (v := pp xs[k].2) (fun _ z => z) s3 (by rw [List.length_map, List.length_append, List.length_take, sizeLine_eq]; omega) (EV.tup2 (EV.ixT (EV.var fun _ z => z) (EV.var fun _ z => z) ha) (EV.ixT (EV.var fun _ z => z) (EV.var fun _ z => z) ha)) ?_
      refine hKn _ _ ⟨k + 1, _, hk2, er, rfl, ?_, fun c hc => ?_⟩
      · rw [put_same, List.take_add_one, List.getElem?_eq_getElem hk2, ← List.append_assoc, List.map_append (l₁ := us ++ xs.take k)]
        rfl
      · rw [put_ne (fun z => hc (by rw [z]; exact he))]
        exact fr3 c hc
abbrev SpAll (Γ : Calls) : Prop := ∀ (vs : List Val) (S : Sto) (Q : VQ) (E : EQ) (a : Addr), S a = some (.lst (vs.map pp)) → vs.length ≤ 1048576 → (∀ v ∈ vs, ∃ n, SZ n v ∧ n ≤ 1000000) → Q (.bl true) S → Γ "_law_all" [.ref a] S Q E
theorem all_ok (d : Nat) : SpAll (Cl (d + 3)) := fun vs S Q E a ha hl hv hq => by
  refine callI_of lk__law_all rfl ?_
  have hs := same_ok d
  have fin : Q (.bl true) (S.within S) := by rw [within_self]; exact hq
  show m__law_all (Cl (d + 2)) (endsI true S Q E) [some (.ref a), none, none] S
  unfold m__law_all
  generalize Cl (d + 2) = Γ at hs ⊢
  show (match S a with
    | some (.lst xs) => _
    | _ => False)
  rw [ha]
  refine lcGo_pure (fun _ => false) (fun v => v) ha _ [] (by rw [List.length_map, List.length_nil, sizeLine_eq]; omega) (fun x hx => ?_) ?_
  · obtain ⟨v, hv', rfl⟩ := List.mem_map.mp hx
    obtain ⟨n, h1, h2⟩ := hv v hv'
    refine ⟨_, rfl, fun Q' hQ' => ?_, fun z => nomatch z⟩
    refine hs n v S _ _ h1 h2 ?_
    exact hQ'
  · rw [List.filter_eq_nil_iff.mpr (fun _ _ => Bool.false_ne_true)]
    exact eq_of (eqOf_iit rfl) fin
end K07

namespace K07
open PySem PySem.Spec L2 TL
open PyProof.Rows hiding St

/-! ### looks -/
section
variable {ρ : ISt} {S : Sto} {a b : IE} {x v : Val}
theorem EV.isT (ha : EV a ρ S v) (h : plk v) : EV (un1 (isiP tb.kit tb.own [(.inl "tuple")]) a) ρ S (.bl (isT v)) := by
  cases v <;> first
    | exact h.elim
    | exact EV.isi (k := false) ha rfl rfl (by decide +kernel)
    | exact EV.isi (k := true) ha rfl rfl (by decide +kernel)
theorem EV.isI (ha : EV a ρ S v) (h : plk v) : EV (un1 (isiP tb.kit tb.own [(.inl "int")]) a) ρ S (.bl (isI v)) := by
  cases v <;> first
    | exact h.elim
    | exact EV.isi (k := false) ha rfl rfl (by decide +kernel)
    | exact EV.isi (k := true) ha rfl rfl (by decide +kernel)
theorem EV.isB (ha : EV a ρ S v) (h : plk v) : EV (un1 (isiP tb.kit tb.own [(.inl "bool")]) a) ρ S (.bl (isB v)) := by
  cases v <;> first
    | exact h.elim
    | exact EV.isi (k := false) ha rfl rfl (by decide +kernel)
    | exact EV.isi (k := true) ha rfl rfl (by decide +kernel)
theorem EV.isS (ha : EV a ρ S v) (h : plk v) : EV (un1 (isiP tb.kit tb.own [(.inl "str")]) a) ρ S (.bl (isS v)) := by
  cases v <;> first
    | exact h.elim
    | exact EV.isi (k := false) ha rfl rfl (by decide +kernel)
    | exact EV.isi (k := true) ha rfl rfl (by decide +kernel)
end
abbrev Sp1 (Γ : Calls) (f : Str) (P : Val → Prop) (g : Val → Val) : Prop := ∀ (v : Val) (S : Sto) (Q : VQ) (E : EQ), P v → Q (g v) S → Γ f [v] S Q E
abbrev Sp2 (Γ : Calls) (f : Str) (P : Val → Val → Prop) (g : Val → Val → Val) : Prop := ∀ (v w : Val) (S : Sto) (Q : VQ) (E : EQ), P v w → Q (g v w) S → Γ f [v, w] S Q E
theorem isint_ok (d : Nat) : Sp1 (Cl (d + 1)) "is_integer" plk fun v => .bl (isIn v) := by
  intro v S Q E hv hq
  refine callI_of lk_is_integer rfl ?_
  have fin : Q (.bl (isIn v)) (S.within S) := by rw [within_self]; exact hq
  show m_is_integer (Cl d) (endsI true S Q E) [some v] S
  unfold m_is_integer
  exact sq_ret ((EV.and (EV.isI (EV.var fun _ z => z) hv) fun _ => EV.nt (EV.isB (EV.var fun _ z => z) hv)).of (by cases v <;> rfl)) fin
theorem isnum_ok (d : Nat) : Sp1 (Cl (d + 2)) "is_number" plk fun v => .bl (isNu v) := by
  intro v S Q E hv hq
  refine callI_of lk_is_number rfl ?_
  have fin : Q (.bl (isNu v)) (S.within S) := by rw [within_self]; exact hq
  have h1 := isint_ok d
  show m_is_number (Cl (d + 1)) (endsI true S Q E) [some v] S
  unfold m_is_number
  generalize Cl (d + 1) = Γ at h1 ⊢
  have e1 : EV (callF Γ "is_integer" (consA (varI 0) nilA)) [some v] S (.bl (isIn v)) := EV.call1 (EV.var fun _ z => z) fun Q E q => h1 v S Q E hv q
  cases v with
  | int i => exact sq_ret (EV.and e1 fun _ => EV.geb (EV.var fun _ z => z) (EV.con _)) fin
  | _ => exact sq_ret (EV.and (l := true) e1 fun z => nomatch z) fin
theorem istup_ok (d : Nat) : Sp2 (Cl (d + 1)) "is_tuple" (fun v w => plk v ∧ ∃ i, w = .int i) fun v w => .bl (match w with
    | .int k => isLen v k
    | _ => false) := by
  rintro v _ S Q E ⟨hv, k, rfl⟩ hq
  refine callI_of lk_is_tuple rfl ?_
  have fin : Q (.bl (isLen v k)) (S.within S) := by rw [within_self]; exact hq
  show m_is_tuple (Cl d) (endsI true S Q E) [some v, some (.int k)] S
  unfold m_is_tuple
  have e1 : EV (un1 (isiP tb.kit tb.own [(.inl "tuple")]) (varI 0)) [some v, some (.int k)] S (.bl (isT v)) := EV.isT (EV.var fun _ z => z) hv
  cases v with
  | tup xs => exact sq_ret (EV.and e1 fun _ => EV.eqi (EV.lenT (xs := xs) (EV.var fun _ z => z)) (EV.var fun _ z => z)) fin
  | _ => exact sq_ret (EV.and (l := true) e1 fun z => nomatch z) fin
theorem first_ok (d : Nat) : ∀ (xs : List Val) (S : Sto) (Q : VQ) (E : EQ), (∀ x ∈ xs, plk x) → Q (.int (badV (fstBad isNu 0 xs))) S → (Cl (d + 3)) "first_wrong" [.tup xs, .fn "is_number"] S Q E := by
  intro xs S Q E hx hq
  refine callI_of lk_first_wrong rfl ?_
  have fin : Q (.int (badV (fstBad isNu 0 xs))) (S.within S) := by rw [within_self]; exact hq
  have h1 := isnum_ok d
  show m_first_wrong (Cl (d + 2)) (endsI true S Q E) [some (.tup xs), some (.fn "is_number"), none, none] S
  unfold m_first_wrong
  generalize Cl (d + 2) = Γ at h1 ⊢
  refine sq_for (g := none) (xs := enumFrom 0 xs) (fun K E q => q) ?_
  refine for_pure (fun r ρ => ∃ (k : Nat) (zs : List Val) (c2 c3 : Option Val), r = enumFrom k zs ∧ fstBad isNu k zs = fstBad isNu 0 xs ∧ (∀ x ∈ zs, plk x) ∧ ρ = [some (.tup xs), some (.fn "is_number"), c2, c3]) trivial ?_ ?_ _ _ ⟨0, xs, none, none, rfl, rfl, hx, rfl⟩
  · rintro ρ ⟨k, zs, c2, c3, hr, hf, hz, rfl⟩
    cases zs with
    | cons z zs => cases hr
    | nil =>
      rw [← hf] at fin
      exact fin
  · rintro x r ρ Kn hK ⟨k, zs, c2, c3, hr, hf, hz, rfl⟩
    cases zs with
    | nil => cases hr
    | cons z zs =>
      obtain ⟨ex, er⟩ := List.cons.inj hr
      subst ex
      have et : TT (notT (tst (callLI Γ tb.dfs 1 (consA (varI 3) nilA)))) [some (.tup xs), some (.fn "is_number"), some (.int k), some z] S (!isNu z) := TT.nt (TT.bl (EV.callL (f := "is_number") (xs := [z]) (fun _ z => z) (by decide +kernel) (fun Q E q => q) fun Q E q => h1 z S Q E (hz z List.mem_cons_self) q))
      have hf : (if isNu z then fstBad isNu (k + 1) zs else some k) = fstBad isNu 0 xs := hf
      refine sq_if et (fun e => ?_) fun e => ?_
      · rw [if_neg (by simpa using e)] at hf
        rw [← hf] at fin
        exact sq_ret (EV.var fun _ z => z) fin
      · rw [if_pos (by simpa using e)] at hf
        exact hK _ ⟨k + 1, zs, _, _, er, hf, fun x hx => hz x (List.mem_cons_of_mem _ hx), rfl⟩
theorem numrow_ok (d : Nat) : Sp1 (Cl (d + 5)) "is_number_row" (fun v => ∃ n, DD n v) fun v => .bl (numsOf v).isSome := by
  rintro v S Q E ⟨n, hv⟩ hq
  refine callI_of lk_is_number_row rfl ?_
  have fin : Q (.bl (numsOf v).isSome) (S.within S) := by rw [within_self]; exact hq
  show m_is_number_row (Cl (d + 4)) (endsI true S Q E) [some v] S
  unfold m_is_number_row
  refine sq_ret (EV.call2 (EV.var fun _ z => z) (EV.con _) fun Q E hq => ?_) fin
  refine callI_of lk_is_tuple_of rfl ?_
  have fin : Q (.bl (numsOf v).isSome) (S.within S) := by rw [within_self]; exact hq
  have h1 := first_ok d
  show m_is_tuple_of (Cl (d + 3)) (endsI true S Q E) [some v, some (.fn "is_number")] S
  unfold m_is_tuple_of
  generalize Cl (d + 3) = Γ at h1 ⊢
  have e1 : EV (un1 (isiP tb.kit tb.own [(.inl "tuple")]) (varI 0)) [some v, some (.fn "is_number")] S (.bl (isT v)) := EV.isT (EV.var fun _ z => z) hv.plk
  cases v with
  | tup xs =>
    refine sq_ret ((EV.and e1 fun _ => EV.ltb (EV.call2 (EV.var fun _ z => z) (EV.var fun _ z => z) fun Q E q => h1 xs S Q E (fun x hx => (hv.tup_inv x hx).plk) q) (EV.con _)).of ?_) fin
    rw [badV_neg, nums_all]
    rfl
  | _ => exact sq_ret (EV.and (l := true) e1 fun z => nomatch z) fin
/-- things ascend -/
theorem asc_ok (d : Nat) {α : Type} (e : α → Val) (lt : α → α → Bool) (hlt : ∀ (x y : α) (S : Sto) (Q : VQ), Q (.bl (lt x y)) S → ltP (e x) (e y) S Q) (xs : List α) (S : Sto) (Q : VQ) (E : EQ) (hl : xs.length < 1000000) (hq : Q (.bl (ascB lt xs)) S) : (Cl (d + 1)) "is_ascending" [.tup (xs.map e)] S Q E := by
  refine callI_of lk_is_ascending rfl ?_
  have fin : Q (.bl (ascB lt xs)) (S.within S) := by rw [within_self]; exact hq
  show m_is_ascending (Cl d) (endsI true S Q E) [some (.tup (xs.map e)), none] S
  unfold m_is_ascending
  refine sq_for (rng1 (EV.sub (EV.lenT (xs := xs.map e) (EV.var fun _ z => z)) (EV.con _)) (by rw [List.length_map]; omega) (by rw [List.length_map]; omega)) ?_
  have e0 : TL.upTo 0 (((xs.map e).length : Int) - 1).toNat = (List.range (xs.length - 1)).map fun i : Nat => Val.int (0 + (i : Int)) := by
    rw [List.length_map, show ((xs.length : Int) - 1).toNat = xs.length - 1 by omega]
    rfl
  rw [e0]
  generalize hm : xs.length - 1 = m
  refine for_pure (fun r ρ => ∃ (k : Nat) (c1 : Option Val), k ≤ m ∧ r = ((List.range m).drop k).map (fun i : Nat => Val.int (0 + (i : Int))) ∧ (∀ j < k, adjB lt xs j = true) ∧ ρ = [some (.tup (xs.map e)), c1]) trivial ?_ ?_ _ _ ⟨0, none, Nat.zero_le _, rfl, fun j hj => absurd hj (Nat.not_lt_zero _), rfl⟩
  · rintro ρ ⟨k, c1, hk, hr, hall, rfl⟩
    have hk2 : m ≤ k := by
      have := congrArg List.length hr
      rw [List.length_map, List.length_drop, List.length_range] at this
      simp only [List.length_nil] at this
      omega
    have : ascB lt xs = true := by
      unfold ascB
      rw [hm, List.all_eq_true]
      exact fun j hj => hall j (by have := List.mem_range.mp hj; omega)
    rw [this] at fin
    exact fin
  · rintro x r ρ Kn hK ⟨k, c1, hk, hr, hall, rfl⟩
    have hk2 : k < m := by
      rcases Nat.lt_or_ge k m with h | h
      · exact h
      · rw [List.drop_of_length_le (by rw [List.length_range]; exact h)] at hr
        cases hr
    rw [List.drop_eq_getElem_cons (by rw [List.length_range]; exact hk2), List.map_cons, List.getElem_range] at hr
    obtain ⟨ex, er⟩ := List.cons.inj hr
    subst ex
    have l1 : k < xs.length := by omega
    have l2 : k + 1 < xs.length := by omega
    have a1 : atI (xs.map e) (0 + (k : Int)) = some (e xs[k]) := by
      rw [Int.zero_add, at_nat (by rw [List.length_map]; exact l1), List.getElem?_map, List.getElem?_eq_getElem l1]
      rfl
    have a2 : atI (xs.map e) (0 + (k : Int) + 1) = some (e xs[k + 1]) := by
      rw [Int.zero_add, show (k : Int) + 1 = ((k + 1 : Nat) : Int) by omega, at_nat (by rw [List.length_map]; exact l2), List.getElem?_map, List.getElem?_eq_getElem l2]
      rfl
    have et : TT (notT (tstB (bin2 ltP (bin2 ixP (varI 0) (varI 1)) (bin2 ixP (varI 0) (bin2 (addP false) (varI 1) (conI (.int 1))))))) [some (.tup (xs.map e)), some (.int (0 + (k : Int)))] S (!lt xs[k] xs[k + 1]) := TT.nt (TT.tb fun Q E q =>
      (EV.ixT (EV.var fun _ z => z) (EV.var fun _ z => z) a1) _ _ ((EV.ixT (EV.var fun _ z => z) (EV.add (EV.var fun _ z => z) (EV.con _)) a2) _ _ (hlt _ _ _ _ q)))
    have hmk : adjB lt xs k = lt xs[k] xs[k + 1] := adj_of lt l2
    refine sq_if et (fun e => ?_) fun e => ?_
    · have : ascB lt xs = false := by
        unfold ascB
        rw [hm]
        refine List.all_eq_false.mpr ⟨k, List.mem_range.mpr hk2, ?_⟩
        rw [hmk]
        simpa using e
      rw [this] at fin
      exact sq_ret (EV.con _) fin
    · refine hK _ ⟨k + 1, _, hk2, er, fun j hj => ?_, rfl⟩
      rcases Nat.lt_succ_iff_lt_or_eq.mp hj with h | rfl
      · exact hall j h
      · rw [hmk]
        simpa using e
theorem asci_ok (d : Nat) (ns : List Int) (S : Sto) (Q : VQ) (E : EQ) (hl : ns.length < 1000000) (hq : Q (.bl (ascB (fun i j => decide (i < j)) ns)) S) : (Cl (d + 1)) "is_ascending" [tiV ns] S Q E :=
  asc_ok d Val.int (fun i j => decide (i < j)) (fun x y S Q q => q) ns S Q E hl hq
theorem asct_ok (d : Nat) (ls : List (List Int)) (S : Sto) (Q : VQ) (E : EQ) (hl : ls.length < 1000000) (hq : Q (.bl (ascB (lexP fun i j => decide (i < j)) ls)) S) : (Cl (d + 1)) "is_ascending" [.tup (ls.map tiV)] S Q E :=
  asc_ok d tiV (lexP fun i j => decide (i < j)) (fun x y S Q q => by
    show someP (intsOf (x.map Val.int)) fun ns => someP (intsOf (y.map Val.int)) fun ms => Q (.bl (lexP _ ns ms)) S
    rw [intsOf_map, intsOf_map]
    exact q) ls S Q E hl hq
theorem isLot_eq (v : Val) : isLot v = ((numsOf v).isSome && match numsOf v with
    | some ns => ascB (fun i j => decide (i < j)) ns
    | none => true) := by
  unfold isLot
  cases numsOf v <;> rfl
def lenOk (v : Val) : Prop := match v with
  | .tup xs => xs.length < 1000000
  | _ => True
theorem islot_ok (d : Nat) : Sp1 (Cl (d + 6)) "is_lot" (fun v => (∃ n, DD n v) ∧ lenOk v) fun v => .bl (isLot v) := by
  rintro v S Q E ⟨hv, hl⟩ hq
  refine callI_of lk_is_lot rfl ?_
  have fin : Q (.bl (isLot v)) (S.within S) := by rw [within_self]; exact hq
  have h1 := numrow_ok d
  have h2 := asci_ok (d + 4)
  show m_is_lot (Cl (d + 5)) (endsI true S Q E) [some v] S
  unfold m_is_lot
  generalize Cl (d + 5) = Γ at h1 h2 ⊢
  refine sq_ret ((EV.and (EV.call1 (EV.var fun _ z => z) fun Q E q => h1 v S Q E hv q) fun hs => EV.call1 (EV.var fun _ z => z) fun Q E q => ?_).of (congrArg Val.bl (isLot_eq v).symm)) fin
  cases e : numsOf v with
  | none => rw [e] at hs; cases hs
  | some ns =>
    rw [e] at q
    obtain ⟨rfl, _⟩ := nums_of e
    exact h2 ns S Q E (by have hl : (ns.map Val.int).length < 1000000 := hl; simpa using hl) q
theorem islotb_ok (d : Nat) : Sp2 (Cl (d + 7)) "is_lot_below" (fun v w => (∃ n, DD n v) ∧ lenOk v ∧ ∃ i, w = .int i) fun v w => .bl (match w with
    | .int k => isLotB v k
    | _ => false) := by
  rintro v _ S Q E ⟨hv, hl, k, rfl⟩ hq
  refine callI_of lk_is_lot_below rfl ?_
  have fin : Q (.bl (isLotB v k)) (S.within S) := by rw [within_self]; exact hq
  have h1 := islot_ok d
  show m_is_lot_below (Cl (d + 6)) (endsI true S Q E) [some v, some (.int k)] S
  unfold m_is_lot_below
  generalize Cl (d + 6) = Γ at h1 ⊢
  have e1 : EV (callF Γ "is_lot" (consA (varI 0) nilA)) [some v, some (.int k)] S (.bl (isLot v)) := EV.call1 (EV.var fun _ z => z) fun Q E q => h1 v S Q E ⟨hv, hl⟩ q
  cases e : numsOf v with
  | none =>
    have z1 : isLot v = false := by unfold isLot; rw [e]
    have z2 : isLotB v k = false := by unfold isLotB; rw [e]
    rw [z1] at e1
    rw [z2] at fin
    exact sq_ret (EV.and (l := true) e1 fun z => nomatch z) fin
  | some ns =>
    obtain ⟨rfl, _⟩ := nums_of e
    have z1 : isLot (tiV ns) = ascB (fun i j => decide (i < j)) ns := by unfold isLot; rw [e]
    have z2 : isLotB (tiV ns) k = (ascB (fun i j => decide (i < j)) ns && (ns.isEmpty || match ns.getLast? with
      | none => true
      | some m => decide (m < k))) := by
      unfold isLotB
      rw [e]
      cases ns <;> rfl
    rw [z1] at e1
    rw [z2] at fin
    refine sq_ret (EV.and e1 fun _ => EV.or ((EV.eqb (EV.var fun _ z => z) EV.tup0 (eq0_tup (dd_ti 63 ns))).of (by rw [List.isEmpty_map])) fun hne => ?_) fin
    have hne : ns ≠ [] := fun z => by rw [z] at hne; cases hne
    obtain ⟨ms, m, rfl⟩ : ∃ ms m, ns = ms ++ [m] := ⟨ns.dropLast, ns.getLast hne, (List.dropLast_concat_getLast hne).symm⟩
    rw [List.getLast?_concat]
    exact EV.ltb (EV.ixT (xs := (ms ++ [m]).map Val.int) (EV.var fun _ z => z) (EV.neg (EV.con _)) TL.atI_last) (EV.var fun _ z => z)
end K07

namespace K07
open PySem PySem.Spec L2 TL
open PyProof.Rows hiding St

theorem fil_emp {α : Type} (p : α → Bool) (xs : List α) : (xs.filter fun x => !p x).isEmpty = xs.all p := by
  induction xs with
  | nil => rfl
  | cons x r ih =>
    rw [List.all_cons, List.filter_cons]
    cases p x with
    | true => simpa using ih
    | false => rfl
abbrev SpNums (Γ : Calls) : Prop := ∀ (ls : List Int) (v : Val) (bound : Int) (S : Sto) (Q : VQ) (E : EQ), (∀ m ∈ ls, m < 1000000) → DD 62 v → Q (.bl (areNums ls v bound)) S → Γ "are_numbers" [tiV ls, v, .int bound] S Q E
theorem nums_ok (d : Nat) : SpNums (Cl (d + 2)) := by
  intro ls v bound S Q E hls hv hq
  refine callI_of lk_are_numbers rfl ?_
  have fin : Q (.bl (areNums ls v bound)) (S.within S) := by rw [within_self]; exact hq
  have h1 := istup_ok d
  have h2 := isint_ok d
  show m_are_numbers (Cl (d + 1)) (endsI true S Q E) [some (tiV ls), some v, some (.int bound), none, none, none] S
  unfold m_are_numbers
  generalize Cl (d + 1) = Γ at h1 h2 ⊢
  have e1 : EV (callF Γ "is_tuple" (consA (varI 1) (consA (callP lenP (consA (varI 0) nilA)) nilA))) [some (tiV ls), some v, some (.int bound), none, none, none] S (.bl (isLen v ((ls.map Val.int).length : Int))) :=
    EV.call2 (EV.var fun _ z => z) (EV.lenT (xs := ls.map Val.int) (EV.var fun _ z => z)) fun Q E q => h1 v _ S Q E ⟨hv.plk, _, rfl⟩ q
  rw [List.length_map] at e1
  refine sq_if (TT.nt (TT.bl e1)) (fun e => ?_) fun e => ?_
  · have z : areNums ls v bound = false := by
      have e : isLen v (ls.length : Int) = false := by simpa using e
      cases v with
      | tup rows =>
        have e : decide ((rows.length : Int) = (ls.length : Int)) = false := e
        have e2 : decide (rows.length = ls.length) = false := by
          have := of_decide_eq_false e
          exact decide_eq_false (by omega)
        show (decide (rows.length = ls.length) && _) = false
        rw [e2]
        rfl
      | _ => rfl
    rw [z] at fin
    exact sq_ret (EV.con _) fin
  have e : isLen v (ls.length : Int) = true := by simpa using e
  cases v with
  | tup rows =>
    have el : rows.length = ls.length := by
      have e : decide ((rows.length : Int) = (ls.length : Int)) = true := e
      have := of_decide_eq_true e
      omega
    have z : areNums ls (.tup rows) bound = (ls.zip rows).all fun p => okRow bound p.1 p.2 := by
      show (decide (rows.length = ls.length) && _) = _
      rw [decide_eq_true el]
      rfl
    rw [z] at fin
    have hit : ∀ (K : Option Addr → List Val → Sto → Prop) (E : EQ), K none (zipV (ls.map Val.int) rows) S → zipI (varI 0) (varI 1) [some (tiV ls), some (.tup rows), some (.int bound), none, none, none] S K E := fun K E q => q
    refine sq_for hit ?_
    refine for_pure (fun r ρ => ∃ (ms : List Int) (zs : List Val) (c3 c4 c5 : Option Val), r = zipV (ms.map Val.int) zs ∧ ((ms.zip zs).all fun p => okRow bound p.1 p.2) = ((ls.zip rows).all fun p => okRow bound p.1 p.2) ∧ (∀ m ∈ ms, m < 1000000) ∧ (∀ x ∈ zs, DD 62 x) ∧ ms.length = zs.length ∧ ρ = [some (tiV ls), some (.tup rows), some (.int bound), c3, c4, c5]) trivial ?_ ?_ _ _ ⟨ls, rows, none, none, none, rfl, rfl, hls, hv.tup_inv, el.symm, rfl⟩
    · rintro ρ ⟨ms, zs, c3, c4, c5, hr, ha, hm, hz, hl, rfl⟩
      cases ms with
      | nil =>
        have ha : true = _ := ha
        rw [← ha] at fin
        exact fin
      | cons m ms => cases zs with
        | nil => cases hl
        | cons z zs => cases hr
    · rintro x r ρ Kn hK ⟨ms, zs, c3, c4, c5, hr, ha, hm, hz, hl, rfl⟩
      cases ms with
      | nil => cases hr
      | cons m ms => cases zs with
        | nil => cases hl
        | cons z zs =>
          obtain ⟨ex, er⟩ := List.cons.inj hr
          subst ex
          have hzz := hz z List.mem_cons_self
          have ha : (okRow bound m z && (ms.zip zs).all fun p => okRow bound p.1 p.2) = _ := ha
          have e2 : EV (callF Γ "is_tuple" (consA (varI 4) (consA (varI 3) nilA))) [some (tiV ls), some (.tup rows), some (.int bound), some (.int m), some z, c5] S (.bl (isLen z m)) :=
            EV.call2 (EV.var fun _ z => z) (EV.var fun _ z => z) fun Q E q => h1 z _ S Q E ⟨hzz.plk, _, rfl⟩ q
          refine sq_if (TT.nt (TT.bl e2)) (fun e => ?_) fun e => ?_
          · have e : isLen z m = false := by simpa using e
            have z0 : okRow bound m z = false := by
              cases z with
              | tup xs =>
                have e : decide ((xs.length : Int) = m) = false := e
                show (decide ((xs.length : Int) = m) && _) = false
                rw [e]
                rfl
              | _ => rfl
            rw [z0] at ha
            have ha : false = _ := ha
            rw [← ha] at fin
            exact sq_ret (EV.con _) fin
          · have e : isLen z m = true := by simpa using e
            cases z with
            | tup xs =>
              have e : decide ((xs.length : Int) = m) = true := e
              have z0 : okRow bound m (.tup xs) = xs.all (okNum bound) := by
                show (decide ((xs.length : Int) = m) && _) = _
                rw [e]
                rfl
              rw [z0] at ha
              have lx : xs.length < 1000000 := by
                have := of_decide_eq_true e
                have := hm m List.mem_cons_self
                omega
              have e3 : EV (lcI false (walkI (varI 4)) (.nm 5) (orT (notT (tst (callF Γ "is_integer" (consA (varI 5) nilA)))) (notT (tstB (chnI leP ltP (conI (.int (-1))) (varI 5) (varI 2))))) (varI 5) [5]) [some (tiV ls), some (.tup rows), some (.int bound), some (.int m), some (.tup xs), c5] S (.lst ((xs.filter fun x => !okNum bound x).map fun x => x)) := by
                refine EV.lcP (fun x => x) xs (fun x => !okNum bound x) (fun x => x) (g := none) (fun K E q => by rw [List.map_id'] at q; exact q) trivial (by rw [sizeLine_eq]; omega) fun x hx => ?_
                refine ⟨[some (tiV ls), some (.tup rows), some (.int bound), some (.int m), some (.tup xs), some x], rfl, ?_, fun _ => EV.var fun _ z => z⟩
                have hp := (hzz.tup_inv x hx).plk
                have a1 : TT (notT (tst (callF Γ "is_integer" (consA (varI 5) nilA)))) [some (tiV ls), some (.tup rows), some (.int bound), some (.int m), some (.tup xs), some x] S (!isIn x) := TT.nt (TT.bl (EV.call1 (EV.var fun _ z => z) fun Q E q => h2 x S Q E hp q))
                cases x with
                | int i => exact TT.or a1 fun _ => TT.nt (TT.tb (EV.chn (EV.con _) (EV.var fun _ z => z) (EV.var fun _ z => z)))
                | _ => exact TT.or (l := true) a1 fun z => nomatch z
              rw [List.map_id'] at e3
              refine sq_if (TT.ne (k := !xs.all (okNum bound)) e3 EV.lst0 ?_) (fun e => ?_) fun e => ?_
              · rw [eq0_lst (fun x hx => (hzz.tup_inv x ((List.mem_filter.mp hx).1)).mono (by omega)), fil_emp, Bool.not_not]
              · have e : xs.all (okNum bound) = false := by simpa using e
                rw [e] at ha
                have ha : false = _ := ha
                rw [← ha] at fin
                exact sq_ret (EV.con _) fin
              · have e : xs.all (okNum bound) = true := by simpa using e
                rw [e] at ha
                exact hK _ ⟨ms, zs, _, _, _, er, ha, fun m hm' => hm m (List.mem_cons_of_mem _ hm'), fun x hx => hz x (List.mem_cons_of_mem _ hx), Nat.succ.inj hl, rfl⟩
            | _ => cases e
  | _ => cases e
abbrev SpProm (Γ : Calls) : Prop := ∀ (ls : List Int) (lots : List (List Int)) (v : Val) (S : Sto) (Q : VQ) (E : EQ), (∀ m ∈ ls, m < 1000000) → DD 62 v → Q (.bl (isProm ls lots v)) S → Γ "is_promise" [tiV ls, .tup (lots.map tiV), v] S Q E
theorem count_ok (d : Nat) (ls : List Int) (xs : List Val) (S : Sto) (Q : VQ) (E : EQ) (hls : ∀ m ∈ ls, m < 1000000) (hv : ∀ x ∈ xs, DD 62 x) (hq : Q (.bl (isCountP ls xs)) S) : (Cl (d + 3)) "is_count" [tiV ls, .tup xs] S Q E := by
  refine callI_of lk_is_count rfl ?_
  have fin : Q (.bl (isCountP ls xs)) (S.within S) := by rw [within_self]; exact hq
  have h1 := isnum_ok d
  have h2 := nums_ok d
  show m_is_count (Cl (d + 2)) (endsI true S Q E) [some (tiV ls), some (.tup xs)] S
  unfold m_is_count
  generalize Cl (d + 2) = Γ at h1 h2 ⊢
  have t1 : TT (tstB (bin2 neP (callP lenP (consA (varI 1) nilA)) (conI (.int 3)))) [some (tiV ls), some (.tup xs)] S (!decide ((xs.length : Int) = 3)) := TT.neI (EV.lenT (xs := xs) (EV.var fun _ z => z)) (EV.con _) (by rw [Bool.not_not])
  by_cases hl : xs.length = 3
  · obtain ⟨x, y, z, rfl⟩ : ∃ x y z, xs = [x, y, z] := by
      rcases xs with _ | ⟨x, _ | ⟨y, _ | ⟨z, _ | ⟨_, _⟩⟩⟩⟩ <;> simp at hl
      exact ⟨x, y, z, rfl⟩
    have e2 : EV (bin2 ixP (varI 1) (conI (.int 1))) [some (tiV ls), some (.tup [x, y, z])] S y := EV.ixT (EV.var fun _ z => z) (EV.con _) rfl
    have t2 : TT (notT (tst (callF Γ "is_number" (consA (bin2 ixP (varI 1) (conI (.int 1))) nilA)))) [some (tiV ls), some (.tup [x, y, z])] S (!isNu y) := TT.nt (TT.bl (EV.call1 e2 fun Q E q => h1 y S Q E (hv y (by simp)).plk q))
    cases y with
    | int c =>
      refine sq_if (TT.or t1 fun _ => TT.or t2 fun _ => TT.eqI e2 (EV.con _) rfl) (fun e => ?_) fun e => ?_
      · have hc : ¬ 0 < c := by
          intro h
          rw [show isNu (.int c) = true from decide_eq_true (by omega), decide_eq_false (show ¬ c = 0 by omega)] at e
          cases e
        have z0 : isCountP ls [x, .int c, z] = false := by
          show (decide (0 < c) && _) = false
          rw [decide_eq_false hc]
          rfl
        rw [z0] at fin
        exact sq_ret (EV.con _) fin
      · have hc : 0 < c := by
          have e : (!decide (0 ≤ c) || decide (c = 0)) = false := e
          simp at e
          omega
        have z0 : isCountP ls [x, .int c, z] = areNums ls z c := by
          show (decide (0 < c) && _) = _
          rw [decide_eq_true hc]
          rfl
        rw [z0] at fin
        exact sq_ret (EV.call3 (EV.var fun _ z => z) (EV.ixT (EV.var fun _ z => z) (EV.con _) rfl) e2 fun Q E q => h2 ls z c S Q E hls (hv z (by simp)) q) fin
    | _ => exact sq_if_t (TT.or t1 fun _ => TT.or_t t2) (sq_ret (EV.con _) fin)
  · have z0 : isCountP ls xs = false := by
      unfold isCountP
      split
      · exact absurd rfl hl
      · rfl
    rw [z0] at fin
    rw [decide_eq_false (show ¬ (xs.length : Int) = 3 by omega)] at t1
    exact sq_if_t (TT.or_t t1) (sq_ret (EV.con _) fin)
theorem near_ok (d : Nat) (ls : List Int) (xs : List Val) (S : Sto) (Q : VQ) (E : EQ) (hls : ∀ m ∈ ls, m < 1000000) (hv : ∀ x ∈ xs, DD 62 x) (hq : Q (.bl (isNearP ls xs)) S) : (Cl (d + 3)) "is_near" [tiV ls, .tup xs] S Q E := by
  refine callI_of lk_is_near rfl ?_
  have fin : Q (.bl (isNearP ls xs)) (S.within S) := by rw [within_self]; exact hq
  have h1 := isnum_ok d
  have h2 := nums_ok d
  show m_is_near (Cl (d + 2)) (endsI true S Q E) [some (tiV ls), some (.tup xs)] S
  unfold m_is_near
  generalize Cl (d + 2) = Γ at h1 h2 ⊢
  have t1 : EV (bin2 eqP (callP lenP (consA (varI 1) nilA)) (conI (.int 3))) [some (tiV ls), some (.tup xs)] S (.bl (decide ((xs.length : Int) = 3))) := EV.eqi (EV.lenT (xs := xs) (EV.var fun _ z => z)) (EV.con _)
  by_cases hl : xs.length = 3
  · obtain ⟨x, y, z, rfl⟩ : ∃ x y z, xs = [x, y, z] := by
      rcases xs with _ | ⟨x, _ | ⟨y, _ | ⟨z, _ | ⟨_, _⟩⟩⟩⟩ <;> simp at hl
      exact ⟨x, y, z, rfl⟩
    have e2 : EV (bin2 ixP (varI 1) (conI (.int 1))) [some (tiV ls), some (.tup [x, y, z])] S y := EV.ixT (EV.var fun _ z => z) (EV.con _) rfl
    have t2 : EV (callF Γ "is_number" (consA (bin2 ixP (varI 1) (conI (.int 1))) nilA)) [some (tiV ls), some (.tup [x, y, z])] S (.bl (isNu y)) := EV.call1 e2 fun Q E q => h1 y S Q E (hv y (by simp)).plk q
    cases y with
    | int c => exact sq_ret (EV.and t1 fun _ => EV.and t2 fun _ => EV.call3 (EV.var fun _ z => z) (EV.ixT (EV.var fun _ z => z) (EV.con _) rfl) (EV.con _) fun Q E q => h2 ls z 64 S Q E hls (hv z (by simp)) q) fin
    | _ => exact sq_ret (EV.and (l := false) t1 fun _ => EV.and (l := true) t2 fun z => nomatch z) fin
  · have z0 : isNearP ls xs = false := by
      unfold isNearP
      split
      · exact absurd rfl hl
      · rfl
    rw [z0] at fin
    rw [decide_eq_false (show ¬ (xs.length : Int) = 3 by omega)] at t1
    exact sq_ret (EV.and (l := true) t1 fun z => nomatch z) fin
theorem prom_ok (d : Nat) : SpProm (Cl (d + 4)) := by
  intro ls lots v S Q E hls hv hq
  refine callI_of lk_is_promise rfl ?_
  have fin : Q (.bl (isProm ls lots v)) (S.within S) := by rw [within_self]; exact hq
  have h1 := count_ok d
  have h2 := near_ok d
  have h3 := nums_ok (d + 1)
  show m_is_promise (Cl (d + 3)) (endsI true S Q E) [some (tiV ls), some (.tup (lots.map tiV)), some v] S
  unfold m_is_promise
  generalize Cl (d + 3) = Γ at h1 h2 h3 ⊢
  have t1 : TT (notT (tst (un1 (isiP tb.kit tb.own [(.inl "tuple")]) (varI 2)))) [some (tiV ls), some (.tup (lots.map tiV)), some v] S (!isT v) := TT.nt (TT.bl (EV.isT (EV.var fun _ z => z) hv.plk))
  cases v with
  | tup xs =>
    have t2 : TT (tstB (bin2 eqP (varI 2) (tupI nilA))) [some (tiV ls), some (.tup (lots.map tiV)), some (.tup xs)] S xs.isEmpty := TT.eq (EV.var fun _ z => z) EV.tup0 (eq0_tup (hv.mono (by omega)))
    cases xs with
    | nil => exact sq_if_t (TT.or t1 fun _ => TT.or_t t2) (sq_ret (EV.con _) fin)
    | cons h r =>
      have e0 : EV (bin2 ixP (varI 2) (conI (.int 0))) [some (tiV ls), some (.tup (lots.map tiV)), some (.tup (h :: r))] S h := EV.ixT (EV.var fun _ z => z) (EV.con _) at0
      have hx := hv.tup_inv
      have t3 : TT (notT (tst (un1 (isiP tb.kit tb.own [(.inl "str")]) (bin2 ixP (varI 2) (conI (.int 0)))))) [some (tiV ls), some (.tup (lots.map tiV)), some (.tup (h :: r))] S (!isS h) := TT.nt (TT.bl (EV.isS e0 (hx h List.mem_cons_self).plk))
      cases h with
      | str w =>
        have z0 : isProm ls lots (.tup (.str w :: r)) = if w = "count" then isCountP ls (.str w :: r) else if w = "hold" then isHoldP ls (.str w :: r) else if w = "near" then isNearP ls (.str w :: r) else decide (w = "single") && r.isEmpty && decide (lots = [[]]) := rfl
        rw [z0] at fin
        refine sq_if_n (TT.or t1 fun _ => TT.or t2 fun _ => t3) ?_
        refine sq_if (TT.eqS e0 (EV.con _) rfl) (fun e => ?_) fun e => ?_
        · rw [if_pos (of_decide_eq_true e)] at fin
          exact sq_ret (EV.call2 (EV.var fun _ z => z) (EV.var fun _ z => z) fun Q E q => h1 ls _ S Q E hls hx q) fin
        rw [if_neg (of_decide_eq_false e)] at fin
        refine sq_if (TT.eqS e0 (EV.con _) rfl) (fun e => ?_) fun e => ?_
        · rw [if_pos (of_decide_eq_true e)] at fin
          have l1 : EV (bin2 eqP (callP lenP (consA (varI 2) nilA)) (conI (.int 2))) [some (tiV ls), some (.tup (lots.map tiV)), some (.tup (.str w :: r))] S (.bl (decide (((Val.str w :: r).length : Int) = 2))) := EV.eqi (EV.lenT (xs := .str w :: r) (EV.var fun _ z => z)) (EV.con _)
          by_cases hl : r.length = 1
          · obtain ⟨rows, rfl⟩ := List.length_eq_one_iff.mp hl
            exact sq_ret (EV.and l1 fun _ => EV.call3 (EV.var fun _ z => z) (EV.ixT (EV.var fun _ z => z) (EV.con _) rfl) (EV.con _) fun Q E q => h3 ls rows 64 S Q E hls (hx rows (by simp)) q) fin
          · rw [decide_eq_false (show ¬ ((Val.str w :: r).length : Int) = 2 by simp only [List.length_cons]; omega)] at l1
            have z1 : isHoldP ls (.str w :: r) = false := by
              unfold isHoldP
              split
              · rename_i e
                cases e
                exact absurd rfl hl
              · rfl
            rw [z1] at fin
            exact sq_ret (EV.and (l := true) l1 fun z => nomatch z) fin
        rw [if_neg (of_decide_eq_false e)] at fin
        refine sq_if (TT.eqS e0 (EV.con _) rfl) (fun e => ?_) fun e => ?_
        · rw [if_pos (of_decide_eq_true e)] at fin
          exact sq_ret (EV.call2 (EV.var fun _ z => z) (EV.var fun _ z => z) fun Q E q => h2 ls _ S Q E hls hx q) fin
        rw [if_neg (of_decide_eq_false e)] at fin
        exact sq_ret (EV.and (EV.eqb (EV.var fun _ z => z) (EV.tup1 (EV.con _)) (eq1_tup (hv.mono (by omega)) (by decide +kernel))) fun _ => EV.eqb (EV.var fun _ z => z) (EV.tup1 EV.tup0) (eq_lots lots)) fin
      | _ => exact sq_if_t (TT.or t1 fun _ => TT.or t2 fun _ => t3) (sq_ret (EV.con _) fin)
  | _ => exact sq_if_t (TT.or_t t1) (sq_ret (EV.con _) fin)
end K07

namespace K07
open PySem PySem.Spec L2 TL
open PyProof.Rows hiding St

/-! ### teams -/
theorem init_ok (d : Nat) (a : Addr) (v0 v1 v2 v3 v4 v5 v6 : Val) (S : Sto) (Q : VQ) (E : EQ) (h : S a = some (.ins "Team" [] [])) (hq : Q .non (S.put a (.ins "Team" tmN [v0, v1, v2, v3, v4, v5, v6]))) : (Cl (d + 1)) (("Team" : Str) ++ (".__init__" : Str)) [.ref a, v0, v1, v2, v3, v4, v5, v6] S Q E := by
  have e : (("Team" : Str) ++ (".__init__" : Str)) = "Team.__init__" := by decide +kernel
  rw [e]
  refine callI_of lk_Team___init__ rfl ?_
  show m_Team___init__ (Cl d) (endsI true S Q E) [some (.ref a), some v0, some v1, some v2, some v3, some v4, some v5, some v6] S
  have w : (S.put a (.ins "Team" tmN [v0, v1, v2, v3, v4, v5, v6])).within S = S.put a (.ins "Team" tmN [v0, v1, v2, v3, v4, v5, v6]) := within_eq fun c hc => by
    rw [put_ne (fun z => by rw [z, h] at hc; cases hc)]
    exact hc
  unfold m_Team___init__
  with_reducible refine setf_of (ms := ["letters"]) (us := [v0]) h (by decide +kernel) (by decide) rfl ?_
  with_reducible refine setf_of (ms := ["letters", "hears"]) (us := [v0, v1]) put_same (by decide +kernel) (by decide) rfl ?_
  with_reducible refine setf_of (ms := ["letters", "hears", "rules"]) (us := [v0, v1, v2]) put_same (by decide +kernel) (by decide) rfl ?_
  with_reducible refine setf_of (ms := ["letters", "hears", "rules", "faults"]) (us := [v0, v1, v2, v3]) put_same (by decide +kernel) (by decide) rfl ?_
  with_reducible refine setf_of (ms := ["letters", "hears", "rules", "faults", "moves"]) (us := [v0, v1, v2, v3, v4]) put_same (by decide +kernel) (by decide) rfl ?_
  with_reducible refine setf_of (ms := ["letters", "hears", "rules", "faults", "moves", "lots"]) (us := [v0, v1, v2, v3, v4, v5]) put_same (by decide +kernel) (by decide) rfl ?_
  with_reducible refine setf_of (ms := ["letters", "hears", "rules", "faults", "moves", "lots", "promise"]) (us := [v0, v1, v2, v3, v4, v5, v6]) put_same (by decide +kernel) (by decide) rfl ?_
  simp only [put_put]
  show Q .non ((S.put a (.ins "Team" tmN [v0, v1, v2, v3, v4, v5, v6])).within S)
  rw [w]
  exact hq
theorem vinit_ok (d : Nat) (a : Addr) (v0 v1 : Val) (S : Sto) (Q : VQ) (E : EQ) (h : S a = some (.ins "View" [] [])) (hq : Q .non (S.put a (.ins "View" ["machines", "base"] [v0, v1]))) : (Cl (d + 1)) (("View" : Str) ++ (".__init__" : Str)) [.ref a, v0, v1] S Q E := by
  have e : (("View" : Str) ++ (".__init__" : Str)) = "View.__init__" := by decide +kernel
  rw [e]
  refine callI_of lk_View___init__ rfl ?_
  show m_View___init__ (Cl d) (endsI true S Q E) [some (.ref a), some v0, some v1] S
  have w : (S.put a (.ins "View" ["machines", "base"] [v0, v1])).within S = S.put a (.ins "View" ["machines", "base"] [v0, v1]) := within_eq fun c hc => by
    rw [put_ne (fun z => by rw [z, h] at hc; cases hc)]
    exact hc
  unfold m_View___init__
  with_reducible refine setf_of (ms := ["machines"]) (us := [v0]) h (by decide +kernel) (by decide) rfl ?_
  with_reducible refine setf_of (ms := ["machines", "base"]) (us := [v0, v1]) put_same (by decide +kernel) (by decide) rfl ?_
  simp only [put_put]
  show Q .non ((S.put a (.ins "View" ["machines", "base"] [v0, v1])).within S)
  rw [w]
  exact hq
section
variable {ρ : ISt} {S : Sto} {Γ : Calls} {a b : IE} {x y : Val}
abbrev SpVInit (Γ : Calls) : Prop := ∀ (a : Addr) (v0 v1 : Val) (S : Sto) (Q : VQ) (E : EQ), S a = some (.ins "View" [] []) → Q .non (S.put a (.ins "View" ["machines", "base"] [v0, v1])) → Γ (("View" : Str) ++ (".__init__" : Str)) [.ref a, v0, v1] S Q E
theorem EV.view (hi : SpVInit Γ) (ha : EV a ρ S x) (hb : EV b ρ S y) : EV (makeI Γ "View" true (consA a (consA b nilA))) ρ S (vwV x y) := fun Q E q => ha _ _ (hb _ _ fun e he => hi e x y _ _ _ put_same ⟨rfl, by
  rw [put_put]
  refine frzI_of put_same ?_
  rw [put_del he]
  exact q⟩)
end
theorem formed_ok (d : Nat) (L H R : Val) (S : Sto) (Q : VQ) (E : EQ) (hL : plk L) (hH : plk H) (hR : plk R) (hq : Q (.bl (isForm L H R)) S) : (Cl (d + 1)) "is_formed" [L, H, R] S Q E := by
  refine callI_of lk_is_formed rfl ?_
  have fin : Q (.bl (isForm L H R)) (S.within S) := by rw [within_self]; exact hq
  show m_is_formed (Cl d) (endsI true S Q E) [some L, some H, some R, none] S
  unfold m_is_formed
  generalize Cl d = Γ
  refine sq_for (walkT (EV.tup3 (EV.var fun _ z => z) (EV.var fun _ z => z) (EV.var fun _ z => z))) ?_
  refine for_pure (fun r ρ => ∃ (c3 : Option Val), (∀ x ∈ r, plk x) ∧ (((isT L && !(tupL L).isEmpty) && (isT H && !(tupL H).isEmpty) && (isT R && !(tupL R).isEmpty)) = r.all fun x => isT x && !(tupL x).isEmpty) ∧ ρ = [some L, some H, some R, c3]) trivial ?_ ?_ _ _ ⟨none, ?_, ?_, rfl⟩
  · rintro ρ ⟨c3, _, ha, rfl⟩
    have ha : _ = true := ha
    simp only [Bool.and_eq_true] at ha
    obtain ⟨⟨⟨h1, _⟩, ⟨h2, _⟩⟩, ⟨h3, _⟩⟩ := ha
    have z : isForm L H R = (decide ((tupL L).length = (tupL H).length) && decide ((tupL L).length = (tupL R).length)) := by
      unfold isForm
      simp only [*]
      simp
    rw [z] at fin
    cases L with
    | tup l => cases H with
      | tup h => cases R with
        | tup r =>
          have e := EV.and (EV.eqi (S := S) (ρ := [some (.tup l), some (.tup h), some (.tup r), c3]) (EV.lenT (xs := l) (EV.var (n := 0) fun _ z => z)) (EV.lenT (xs := h) (EV.var (n := 1) fun _ z => z))) fun _ => EV.eqi (EV.lenT (xs := l) (EV.var (n := 0) fun _ z => z)) (EV.lenT (xs := r) (EV.var (n := 2) fun _ z => z))
          refine e _ _ ?_
          have z2 : ∀ m n : Nat, decide ((m : Int) = (n : Int)) = decide (m = n) := fun m n => decide_eq_decide.mpr (by omega)
          rw [z2, z2]
          exact fin
        | _ => cases h3
      | _ => cases h2
    | _ => cases h1
  · rintro x r ρ Kn hK ⟨c3, hp, ha, rfl⟩
    have t1 : TT (notT (tst (un1 (isiP tb.kit tb.own [(.inl "tuple")]) (varI 3)))) [some L, some H, some R, some x] S (!isT x) := TT.nt (TT.bl (EV.isT (EV.var fun _ z => z) (hp x List.mem_cons_self)))
    rw [List.all_cons] at ha
    have bad : (isT x && !(tupL x).isEmpty) = false → Q (.bl false) (S.within S) := fun e => by
      rw [e] at ha
      have z : isForm L H R = false := by
        unfold isForm
        rw [ha]
        rfl
      rw [z] at fin
      exact fin
    cases x with
    | tup xs =>
      refine sq_if (TT.or t1 fun _ => TT.eqI (EV.lenT (xs := xs) (EV.var fun _ z => z)) (EV.con _) rfl) (fun e => ?_) fun e => ?_
      · refine sq_ret (EV.con _) (bad ?_)
        cases xs with
        | nil => rfl
        | cons y ys => exact absurd (of_decide_eq_true (show decide (((y :: ys).length : Int) = 0) = true from e)) (by simp only [List.length_cons]; omega)
      · refine hK _ ⟨_, fun y hy => hp y (List.mem_cons_of_mem _ hy), ?_, rfl⟩
        rw [ha]
        cases xs with
        | nil => exact absurd e (by decide)
        | cons y ys => rfl
    | _ => exact sq_if_t (TT.or_t t1) (sq_ret (EV.con _) (bad rfl))
  · intro x hx
    rcases List.mem_cons.mp hx with rfl | hx
    · exact hL
    rcases List.mem_cons.mp hx with rfl | hx
    · exact hH
    · rw [List.mem_singleton.mp hx]; exact hR
  · simp [Bool.and_assoc]
theorem wlet_ok (d : Nat) (xs : List Val) (S : Sto) (Q : VQ) (E : EQ) (hx : ∀ x ∈ xs, plk x) (hq : Q (optV (fstBad isPo 0 xs)) S) : (Cl (d + 3)) "wrong_letters" [.tup xs] S Q E := by
  refine callI_of lk_wrong_letters rfl ?_
  have fin : Q (optV (fstBad isPo 0 xs)) (S.within S) := by rw [within_self]; exact hq
  have h1 := isnum_ok d
  show m_wrong_letters (Cl (d + 2)) (endsI true S Q E) [some (.tup xs), none, none] S
  unfold m_wrong_letters
  generalize Cl (d + 2) = Γ at h1 ⊢
  have hit : ∀ (K : Option Addr → List Val → Sto → Prop) (E : EQ), K none (enumFrom 0 xs) S → enumAI (varI 0) [some (.tup xs), none, none] S K E := fun K E q => q
  refine sq_for hit ?_
  refine for_pure (fun r ρ => ∃ (k : Nat) (zs : List Val) (c2 c3 : Option Val), r = enumFrom k zs ∧ fstBad isPo k zs = fstBad isPo 0 xs ∧ (∀ x ∈ zs, plk x) ∧ ρ = [some (.tup xs), c2, c3]) trivial ?_ ?_ _ _ ⟨0, xs, none, none, rfl, rfl, hx, rfl⟩
  · rintro ρ ⟨k, zs, c2, c3, hr, hf, hz, rfl⟩
    cases zs with
    | cons z zs => cases hr
    | nil =>
      rw [← hf] at fin
      exact fin
  · rintro x r ρ Kn hK ⟨k, zs, c2, c3, hr, hf, hz, rfl⟩
    cases zs with
    | nil => cases hr
    | cons z zs =>
      obtain ⟨ex, er⟩ := List.cons.inj hr
      subst ex
      have hf : (if isPo z then fstBad isPo (k + 1) zs else some k) = fstBad isPo 0 xs := hf
      have t1 : TT (notT (tst (callF Γ "is_number" (consA (varI 2) nilA)))) [some (.tup xs), some (.int k), some z] S (!isNu z) := TT.nt (TT.bl (EV.call1 (EV.var fun _ z => z) fun Q E q => h1 z S Q E (hz z List.mem_cons_self) q))
      have bad : isPo z = false → Q (.int k) (S.within S) := fun e => by
        rw [if_neg (by rw [e]; exact Bool.false_ne_true)] at hf
        rw [← hf] at fin
        exact fin
      cases z with
      | int i =>
        refine sq_if (TT.or t1 fun _ => TT.eqI (EV.var fun _ z => z) (EV.con _) rfl) (fun e => ?_) fun e => ?_
        · refine sq_ret (EV.var fun _ z => z) (bad (decide_eq_false ?_))
          have e : (!decide (0 ≤ i) || decide (i = 0)) = true := e
          simp at e
          omega
        · rw [if_pos (show isPo (.int i) = true from decide_eq_true (by
            have e : (!decide (0 ≤ i) || decide (i = 0)) = false := e
            simp at e
            omega))] at hf
          exact hK _ ⟨k + 1, zs, _, _, er, hf, fun x hx => hz x (List.mem_cons_of_mem _ hx), rfl⟩
      | _ => exact sq_if_t (TT.or_t t1) (sq_ret (EV.var fun _ z => z) (bad rfl))
theorem whear_ok (d : Nat) (xs : List Val) (S : Sto) (Q : VQ) (E : EQ) (hx : ∀ x ∈ xs, (∃ n, DD n x) ∧ lenOk x) (hq : Q (optV (fstBad (fun h => isLotB h xs.length) 0 xs)) S) : (Cl (d + 8)) "wrong_hears" [.tup xs] S Q E := by
  refine callI_of lk_wrong_hears rfl ?_
  have fin : Q (optV (fstBad (fun h => isLotB h xs.length) 0 xs)) (S.within S) := by rw [within_self]; exact hq
  have h1 := islotb_ok d
  show m_wrong_hears (Cl (d + 7)) (endsI true S Q E) [some (.tup xs), none, none] S
  unfold m_wrong_hears
  generalize Cl (d + 7) = Γ at h1 ⊢
  have hit : ∀ (K : Option Addr → List Val → Sto → Prop) (E : EQ), K none (enumFrom 0 xs) S → enumAI (varI 0) [some (.tup xs), none, none] S K E := fun K E q => q
  refine sq_for hit ?_
  refine for_pure (fun r ρ => ∃ (k : Nat) (zs : List Val) (c2 c3 : Option Val), r = enumFrom k zs ∧ fstBad (fun h => isLotB h xs.length) k zs = fstBad (fun h => isLotB h xs.length) 0 xs ∧ (∀ x ∈ zs, (∃ n, DD n x) ∧ lenOk x) ∧ ρ = [some (.tup xs), c2, c3]) trivial ?_ ?_ _ _ ⟨0, xs, none, none, rfl, rfl, hx, rfl⟩
  · rintro ρ ⟨k, zs, c2, c3, hr, hf, hz, rfl⟩
    cases zs with
    | cons z zs => cases hr
    | nil =>
      rw [← hf] at fin
      exact fin
  · rintro x r ρ Kn hK ⟨k, zs, c2, c3, hr, hf, hz, rfl⟩
    cases zs with
    | nil => cases hr
    | cons z zs =>
      obtain ⟨ex, er⟩ := List.cons.inj hr
      subst ex
      have hf : (if isLotB z xs.length then fstBad (fun h => isLotB h xs.length) (k + 1) zs else some k) = fstBad (fun h => isLotB h xs.length) 0 xs := hf
      obtain ⟨hz1, hz2⟩ := hz z List.mem_cons_self
      have t1 : TT (notT (tst (callF Γ "is_lot_below" (consA (varI 2) (consA (callP lenP (consA (varI 0) nilA)) nilA))))) [some (.tup xs), some (.int k), some z] S (!isLotB z xs.length) := TT.nt (TT.bl (EV.call2 (EV.var fun _ z => z) (EV.lenT (xs := xs) (EV.var fun _ z => z)) fun Q E q => h1 z _ S Q E ⟨hz1, hz2, _, rfl⟩ q))
      refine sq_if t1 (fun e => ?_) fun e => ?_
      · rw [if_neg (by simpa using e)] at hf
        rw [← hf] at fin
        exact sq_ret (EV.var fun _ z => z) fin
      · rw [if_pos (by simpa using e)] at hf
        exact hK _ ⟨k + 1, zs, _, _, er, hf, fun x hx => hz x (List.mem_cons_of_mem _ hx), rfl⟩
theorem base_ok (d : Nat) (ls : List Int) (hs : List (List Int)) (k : Nat) (S : Sto) (Q : VQ) (E : EQ) (h1 : k < ls.length) (h2 : k < hs.length) (hh : ∀ i ∈ hs[k], 0 ≤ i ∧ i < ls.length) (hl : hs[k].length < 1000000) (hq : Q (.int (baseOf ls hs k)) S) : (Cl (d + 1)) "table_base" [tiV ls, .tup (hs.map tiV), .int k] S Q E := by
  refine callI_of lk_table_base rfl ?_
  have fin : Q (.int (baseOf ls hs k)) (S.within S) := by rw [within_self]; exact hq
  show m_table_base (Cl d) (endsI true S Q E) [some (tiV ls), some (.tup (hs.map tiV)), some (.int k), none] S
  unfold m_table_base
  generalize Cl d = Γ
  have at1 : ∀ {i : Nat} (h : i < ls.length), atI (ls.map Val.int) (i : Int) = some (.int (ls.getD i 0)) := fun {i} h => by
    rw [at_nat (by rw [List.length_map]; exact h), List.getElem?_map, List.getElem?_eq_getElem h]
    simp [List.getD_eq_getElem?_getD, List.getElem?_eq_getElem h]
  have at2 : atI (hs.map tiV) (k : Int) = some (tiV hs[k]) := by
    rw [at_nat (by rw [List.length_map]; exact h2), List.getElem?_map, List.getElem?_eq_getElem h2]
    rfl
  have gk : hs.getD k [] = hs[k] := by simp [List.getD_eq_getElem?_getD, List.getElem?_eq_getElem h2]
  have e2 : EV (lcI false (walkI (bin2 ixP (varI 1) (varI 2))) (.nm 3) yesT (bin2 ixP (varI 0) (varI 3)) [3]) [some (tiV ls), some (.tup (hs.map tiV)), some (.int k), none] S (.lst (hs[k].map fun i => Val.int (ls.getD i.toNat 0))) := by
    refine EV.lc Val.int hs[k] (fun i => Val.int (ls.getD i.toNat 0)) (g := none) (walkT (EV.ixT (xs := hs.map tiV) (EV.var fun _ z => z) (EV.var fun _ z => z) at2)) trivial (by rw [sizeLine_eq]; omega) fun i hi => ?_
    obtain ⟨a, b⟩ := hh i hi
    obtain ⟨n, rfl⟩ := Int.eq_ofNat_of_zero_le a
    exact ⟨_, rfl, EV.ixT (xs := ls.map Val.int) (EV.var fun _ z => z) (EV.var fun _ z => z) (at1 (by omega))⟩
  have e3 := EV.addL (EV.lst1 (EV.ixT (xs := ls.map Val.int) (EV.var (ρ := [some (tiV ls), some (.tup (hs.map tiV)), some (.int k), none]) (S := S) (n := 0) fun _ z => z) (EV.var (n := 2) fun _ z => z) (at1 h1))) e2 (by rw [List.length_singleton, List.length_map, sizeLine_eq]; omega)
  have e4 : [Val.int (ls.getD k 0)] ++ (hs[k].map fun i => Val.int (ls.getD i.toNat 0)) = (ls.getD k 0 :: (hs.getD k []).map fun i => ls.getD i.toNat 0).map Val.int := by
    rw [gk, List.map_cons, List.map_map]
    rfl
  rw [e4] at e3
  exact sq_ret (EV.maxG e3 (fun h => by cases h)) fin
end K07

namespace K07
open PySem PySem.Spec L2 TL
open PyProof.Rows hiding St

abbrev SpRule (Γ : Calls) (ru : List Int → Int → Val → Bool) (G : List Int → Int → Val → Prop) : Prop := ∀ (ms : List Int) (base : Int) (v : Val) (S : Sto) (Q : VQ) (E : EQ), G ms base v → Q (.bl (ru ms base v)) S → Γ "is_rule" [vwV (tiV ms) (.int base), v] S Q E
theorem wrule_ok (d : Nat) {ru : List Int → Int → Val → Bool} {G : List Int → Int → Val → Prop} (hru : SpRule (Cl (d + 1)) ru G) (ls : List Int) (hs : List (List Int)) (rs : List Val) (S : Sto) (Q : VQ) (E : EQ) (hl : rs.length = ls.length) (hl2 : rs.length = hs.length) (hh : ∀ h ∈ hs, h.length < 1000000 ∧ ∀ i ∈ h, 0 ≤ i ∧ i < ls.length)
    (hg : ∀ k (h : k < rs.length), G (hs.getD k []) (baseOf ls hs k) rs[k])
    (hq : Q (optV (fstBadI (fun k r => ru (hs.getD k []) (baseOf ls hs k) r) 0 rs)) S) : (Cl (d + 2)) "wrong_rule" [tiV ls, .tup (hs.map tiV), .tup rs] S Q E := by
  refine callI_of lk_wrong_rule rfl ?_
  have fin : Q (optV (fstBadI (fun k r => ru (hs.getD k []) (baseOf ls hs k) r) 0 rs)) (S.within S) := by rw [within_self]; exact hq
  have h1 := vinit_ok d
  have h2 := base_ok d
  show m_wrong_rule (Cl (d + 1)) (endsI true S Q E) [some (tiV ls), some (.tup (hs.map tiV)), some (.tup rs), none, none] S
  unfold m_wrong_rule
  generalize Cl (d + 1) = Γ at h1 h2 hru ⊢
  have hit : ∀ (K : Option Addr → List Val → Sto → Prop) (E : EQ), K none (enumFrom 0 rs) S → enumAI (varI 2) [some (tiV ls), some (.tup (hs.map tiV)), some (.tup rs), none, none] S K E := fun K E q => q
  refine sq_for hit ?_
  refine for_pure (fun r ρ => ∃ (k : Nat) (c2 c3 : Option Val), k ≤ rs.length ∧ r = enumFrom k (rs.drop k) ∧ fstBadI (fun k r => ru (hs.getD k []) (baseOf ls hs k) r) k (rs.drop k) = fstBadI (fun k r => ru (hs.getD k []) (baseOf ls hs k) r) 0 rs ∧ ρ = [some (tiV ls), some (.tup (hs.map tiV)), some (.tup rs), c2, c3]) trivial ?_ ?_ _ _ ⟨0, none, none, Nat.zero_le _, rfl, rfl, rfl⟩
  · rintro ρ ⟨k, c2, c3, hk, hr, hf, rfl⟩
    cases e : rs.drop k with
    | cons z zs => rw [e] at hr; cases hr
    | nil =>
      rw [e] at hf
      rw [← hf] at fin
      exact fin
  · rintro x r ρ Kn hK ⟨k, c2, c3, hk, hr, hf, rfl⟩
    have hk2 : k < rs.length := by
      rcases Nat.lt_or_ge k rs.length with h | h
      · exact h
      · rw [List.drop_of_length_le h] at hr
        cases hr
    rw [List.drop_eq_getElem_cons hk2] at hr hf
    obtain ⟨ex, er⟩ := List.cons.inj hr
    subst ex
    have hkh : k < hs.length := by omega
    have hkl : k < ls.length := by omega
    have gk : hs.getD k [] = hs[k] := by simp [List.getD_eq_getElem?_getD, List.getElem?_eq_getElem hkh]
    have hf : (if ru (hs.getD k []) (baseOf ls hs k) rs[k] then fstBadI (fun k r => ru (hs.getD k []) (baseOf ls hs k) r) (k + 1) (rs.drop (k + 1)) else some k) = _ := hf
    obtain ⟨b1, b2⟩ := hh hs[k] (List.getElem_mem hkh)
    have at2 : atI (hs.map tiV) (k : Int) = some (tiV (hs.getD k [])) := by
      rw [at_nat (by rw [List.length_map]; exact hkh), List.getElem?_map, List.getElem?_eq_getElem hkh, gk]
      rfl
    have t1 : TT (notT (tst (callF Γ "is_rule" (consA (makeI Γ "View" true (consA (bin2 ixP (varI 1) (varI 3)) (consA (callF Γ "table_base" (consA (varI 0) (consA (varI 1) (consA (varI 3) nilA)))) nilA))) (consA (varI 4) nilA))))) [some (tiV ls), some (.tup (hs.map tiV)), some (.tup rs), some (.int k), some rs[k]] S (!ru (hs.getD k []) (baseOf ls hs k) rs[k]) :=
      TT.nt (TT.bl (EV.call2 (EV.view h1 (EV.ixT (xs := hs.map tiV) (EV.var fun _ z => z) (EV.var fun _ z => z) at2) (EV.call3 (EV.var fun _ z => z) (EV.var fun _ z => z) (EV.var fun _ z => z) fun Q E q => h2 ls hs k S Q E hkl hkh b2 b1 q)) (EV.var fun _ z => z) fun Q E q => hru _ _ _ S Q E (hg k hk2) q))
    refine sq_if t1 (fun e => ?_) fun e => ?_
    · rw [if_neg (by simpa using e)] at hf
      rw [← hf] at fin
      exact sq_ret (EV.var fun _ z => z) fin
    · rw [if_pos (by simpa using e)] at hf
      exact hK _ ⟨k + 1, _, _, hk2, er, hf, rfl⟩
def optI : Option Int → Val
  | some i => .int i
  | none => .non
theorem all_lots {n : Int} : ∀ {xs : List Val}, fstBad (fun x => isLotB x n && !decide (((tupL x).length : Int) = n)) 0 xs = none → xs = (xs.map intsL).map tiV := fun {xs} h => by
  have h2 : xs.all (fun x => isLotB x n && !decide (((tupL x).length : Int) = n)) = true := by
    rw [← fst_none _ 0 xs, h]
    rfl
  rw [List.map_map]
  conv => lhs; rw [← List.map_id xs]
  refine List.map_congr_left fun x hx => ?_
  have h3 := List.all_eq_true.mp h2 x hx
  have h4 : isLotB x n = true := (Bool.and_eq_true_iff.mp h3).1
  unfold isLotB at h4
  cases e : numsOf x with
  | none => rw [e] at h4; cases h4
  | some ns =>
    obtain ⟨rfl, _⟩ := nums_of e
    show tiV ns = tiV (intsL (tiV ns))
    rw [intsL_ti]
theorem wlots_ok (d : Nat) (n : Nat) (v : Val) (S : Sto) (Q : VQ) (E : EQ) (hv : DD 62 v) (hl : lenOk v) (hx : ∀ x ∈ tupL v, lenOk x) (hq : Q (optI (wrongLots n v)) S) : (Cl (d + 8)) "wrong_lots" [.int n, v] S Q E := by
  refine callI_of lk_wrong_lots rfl ?_
  have fin : Q (optI (wrongLots n v)) (S.within S) := by rw [within_self]; exact hq
  have h1 := islotb_ok d
  have h2 := asct_ok (d + 6)
  show m_wrong_lots (Cl (d + 7)) (endsI true S Q E) [some (.int n), some v, none, none] S
  unfold m_wrong_lots
  generalize Cl (d + 7) = Γ at h1 h2 ⊢
  have t0 : TT (notT (tst (un1 (isiP tb.kit tb.own [(.inl "tuple")]) (varI 1)))) [some (.int n), some v, none, none] S (!isT v) := TT.nt (TT.bl (EV.isT (EV.var fun _ z => z) hv.plk))
  cases v with
  | tup xs =>
    refine sq_if_n t0 ?_
    have hit : ∀ (K : Option Addr → List Val → Sto → Prop) (E : EQ), K none (enumFrom 0 xs) S → enumAI (varI 1) [some (.int n), some (.tup xs), none, none] S K E := fun K E q => q
    refine sq_for hit ?_
    have wl : wrongLots n (.tup xs) = match fstBad (fun x => isLotB x n && !decide (((tupL x).length : Int) = n)) 0 xs with
      | some k => some (k : Int)
      | none => if !xs.isEmpty && ascB (lexP fun i j => decide (i < j)) (xs.map intsL) then none else some (-1) := rfl
    refine for_pure (fun r ρ => ∃ (k : Nat) (zs : List Val) (c2 c3 : Option Val), r = enumFrom k zs ∧ fstBad (fun x => isLotB x n && !decide (((tupL x).length : Int) = n)) k zs = fstBad (fun x => isLotB x n && !decide (((tupL x).length : Int) = n)) 0 xs ∧ (∀ x ∈ zs, (∃ n, DD n x) ∧ lenOk x) ∧ ρ = [some (.int n), some (.tup xs), c2, c3]) trivial ?_ ?_ _ _ ⟨0, xs, none, none, rfl, rfl, fun x hx' => ⟨⟨_, hv.tup_inv x hx'⟩, hx x hx'⟩, rfl⟩
    · rintro ρ ⟨k, zs, c2, c3, hr, hf, hz, rfl⟩
      cases zs with
      | cons z zs => cases hr
      | nil =>
        have hf : none = fstBad _ 0 xs := hf
        rw [wl, ← hf] at fin
        have al := all_lots hf.symm
        have ht : TT (andT (tstB (bin2 neP (varI 1) (tupI nilA))) (tst (callF Γ "is_ascending" (consA (varI 1) nilA)))) [some (.int n), some (.tup xs), c2, c3] S (!xs.isEmpty && ascB (lexP fun i j => decide (i < j)) (xs.map intsL)) := by
          refine TT.and (TT.ne (EV.var fun _ z => z) EV.tup0 (by rw [Bool.not_not]; exact eq0_tup (hv.mono (by omega)))) fun _ => TT.bl (EV.call1 (EV.var (v := .tup xs) fun _ z => z) fun Q E q => ?_)
          rw [al]
          exact h2 (xs.map intsL) S Q E (by rw [List.length_map]; exact hl) q
        refine ht _ _ ?_
        cases e : (!xs.isEmpty && ascB (lexP fun i j => decide (i < j)) (xs.map intsL)) with
        | true =>
          simp only [e] at fin
          exact fin
        | false =>
          simp only [e] at fin
          exact fin
    · rintro x r ρ Kn hK ⟨k, zs, c2, c3, hr, hf, hz, rfl⟩
      cases zs with
      | nil => cases hr
      | cons z zs =>
        obtain ⟨ex, er⟩ := List.cons.inj hr
        subst ex
        have hf : (if isLotB z n && !decide (((tupL z).length : Int) = n) then fstBad (fun x => isLotB x n && !decide (((tupL x).length : Int) = n)) (k + 1) zs else some k) = fstBad (fun x => isLotB x n && !decide (((tupL x).length : Int) = n)) 0 xs := hf
        obtain ⟨hz1, hz2⟩ := hz z List.mem_cons_self
        have t1 : TT (notT (tst (callF Γ "is_lot_below" (consA (varI 3) (consA (varI 0) nilA))))) [some (.int n), some (.tup xs), some (.int k), some z] S (!isLotB z n) := TT.nt (TT.bl (EV.call2 (EV.var fun _ z => z) (EV.var fun _ z => z) fun Q E q => h1 z _ S Q E ⟨hz1, hz2, _, rfl⟩ q))
        have t2 : TT (orT (notT (tst (callF Γ "is_lot_below" (consA (varI 3) (consA (varI 0) nilA))))) (tstB (bin2 eqP (callP lenP (consA (varI 3) nilA)) (varI 0)))) [some (.int n), some (.tup xs), some (.int k), some z] S (!(isLotB z n && !decide (((tupL z).length : Int) = n))) := by
          rw [Bool.not_and, Bool.not_not]
          refine TT.or t1 fun e => ?_
          have e : isLotB z n = true := by simpa using e
          cases z with
          | tup ys => exact TT.eqI (EV.lenT (xs := ys) (EV.var fun _ z => z)) (EV.var fun _ z => z) rfl
          | _ => cases e
        refine sq_if t2 (fun e => ?_) fun e => ?_
        · rw [if_neg (fun h => by rw [h] at e; cases e)] at hf
          rw [wl, ← hf] at fin
          exact sq_ret (EV.var fun _ z => z) fin
        · rw [if_pos (by rw [Bool.not_eq_false'] at e; exact e)] at hf
          exact hK _ ⟨k + 1, zs, _, _, er, hf, fun x hx => hz x (List.mem_cons_of_mem _ hx), rfl⟩
  | _ => exact sq_if_t t0 (sq_ret (EV.con _) fin)
theorem word_ok (d : Nat) (v : Val) (ws : List Str) (S : Sto) (Q : VQ) (E : EQ) (hv : plk v) (hq : Q (.bl (wordOf v ws)) S) : (Cl (d + 1)) "is_word_of" [v, .tup (ws.map Val.str)] S Q E := by
  refine callI_of lk_is_word_of rfl ?_
  have fin : Q (.bl (wordOf v ws)) (S.within S) := by rw [within_self]; exact hq
  show m_is_word_of (Cl d) (endsI true S Q E) [some v, some (.tup (ws.map Val.str))] S
  unfold m_is_word_of
  have e1 : EV (un1 (isiP tb.kit tb.own [(.inl "str")]) (varI 0)) [some v, some (.tup (ws.map Val.str))] S (.bl (isS v)) := EV.isS (EV.var fun _ z => z) hv
  cases v with
  | str w => exact sq_ret (EV.and e1 fun _ => fun Q E q => in_of (inw_tup S w ws) q) fin
  | _ => exact sq_ret (EV.and (l := true) e1 fun z => nomatch z) fin
/-- what a Team is made of, as the looks want it -/
structure TmOk (G : List Int → Int → Val → Prop) (L H R F M lo P : Val) : Prop where
  dL : DD 62 L
  dH : DD 62 H
  dR : plk R
  dF : DD 62 F
  dM : DD 62 M
  dlo : DD 62 lo
  dP : DD 62 P
  sL : ∀ m ∈ intsL L, m < 1000000
  sH : ∀ x ∈ tupL H, lenOk x
  slo : lenOk lo
  slo2 : ∀ x ∈ tupL lo, lenOk x
  g : ∀ k (h : k < (tupL R).length), G (((tupL H).map intsL).getD k []) (baseOf (intsL L) ((tupL H).map intsL) k) (tupL R)[k]
theorem pos_ints {xs : List Val} (h : fstBad isPo 0 xs = none) : .tup xs = tiV (intsL (.tup xs)) := by
  have h2 : xs.all isPo = true := by
    rw [← fst_none _ 0 xs, h]
    rfl
  have : ∀ xs : List Val, xs.all isPo = true → ∃ ns : List Int, xs = ns.map Val.int := by
    intro xs
    induction xs with
    | nil => exact fun _ => ⟨[], rfl⟩
    | cons x r ih =>
      intro h
      rw [List.all_cons, Bool.and_eq_true] at h
      obtain ⟨ns, e⟩ := ih h.2
      cases x with
      | int i => exact ⟨i :: ns, by rw [e]; rfl⟩
      | _ => cases h.1
  obtain ⟨ns, e⟩ := this xs h2
  have : Val.tup xs = tiV ns := by rw [e]; rfl
  rw [this, intsL_ti]
theorem hear_ints {n : Int} {xs : List Val} (h : fstBad (fun h => isLotB h n) 0 xs = none) : xs = (xs.map intsL).map tiV ∧ ∀ l ∈ xs.map intsL, ∀ i ∈ l, 0 ≤ i ∧ i < n := by
  have h2 : xs.all (fun h => isLotB h n) = true := by
    rw [← fst_none _ 0 xs, h]
    rfl
  have key : ∀ x ∈ xs, x = tiV (intsL x) ∧ ∀ i ∈ intsL x, 0 ≤ i ∧ i < n := fun x hx => by
    have h4 : isLotB x n = true := List.all_eq_true.mp h2 x hx
    unfold isLotB at h4
    cases e : numsOf x with
    | none => rw [e] at h4; cases h4
    | some ns =>
      rw [e] at h4
      obtain ⟨rfl, hp⟩ := nums_of e
      rw [intsL_ti]
      refine ⟨rfl, fun i hi => ⟨hp i hi, ?_⟩⟩
      obtain ⟨h5, h6⟩ := Bool.and_eq_true_iff.mp h4
      cases e2 : ns.getLast? with
      | none => rw [List.getLast?_eq_none_iff.mp e2] at hi; cases hi
      | some m =>
        rw [e2] at h6
        have h6 : m < n := of_decide_eq_true h6
        exact Int.lt_of_le_of_lt (asc_last h5 e2 i hi) h6
  refine ⟨?_, fun l hl => ?_⟩
  · rw [List.map_map]
    conv => lhs; rw [← List.map_id xs]
    exact List.map_congr_left fun x hx => (key x hx).1
  · obtain ⟨x, hx, rfl⟩ := List.mem_map.mp hl
    exact (key x hx).2
theorem behind_ok (d : Nat) {G : List Int → Int → Val → Prop} (L H R F M lo P : Val) (S : Sto) (Q : VQ) (E : EQ) (t : TmOk G L H R F M lo P) (hL : fstBad isPo 0 (tupL L) = none) (hL2 : isT L = true) (hq : Q (faultV (behindOf L F M lo P)) S) : (Cl (d + 9)) "fault_behind" [tmV L H R F M lo P] S Q E := by
  refine callI_of lk_fault_behind rfl ?_
  have fin : Q (faultV (behindOf L F M lo P)) (S.within S) := by rw [within_self]; exact hq
  have h1 := word_ok (d + 7)
  have h2 := wlots_ok d
  have h3 := prom_ok (d + 4)
  show m_fault_behind (Cl (d + 8)) (endsI true S Q E) [some (tmV L H R F M lo P), none] S
  unfold m_fault_behind
  generalize Cl (d + 8) = Γ at h1 h2 h3 ⊢
  have fl : ∀ {ρ : ISt}, EV (varI 0) (some (tmV L H R F M lo P) :: ρ) S (tmV L H R F M lo P) := fun Q E q => q
  have f1 : ∀ {ρ : ISt}, EV (un1 (fldP tb.F "letters") (varI 0)) (some (tmV L H R F M lo P) :: ρ) S L := EV.fld fl (by decide +kernel) rfl
  have f4 : ∀ {ρ : ISt}, EV (un1 (fldP tb.F "faults") (varI 0)) (some (tmV L H R F M lo P) :: ρ) S F := EV.fld fl (by decide +kernel) rfl
  have f5 : ∀ {ρ : ISt}, EV (un1 (fldP tb.F "moves") (varI 0)) (some (tmV L H R F M lo P) :: ρ) S M := EV.fld fl (by decide +kernel) rfl
  have f6 : ∀ {ρ : ISt}, EV (un1 (fldP tb.F "lots") (varI 0)) (some (tmV L H R F M lo P) :: ρ) S lo := EV.fld fl (by decide +kernel) rfl
  have f7 : ∀ {ρ : ISt}, EV (un1 (fldP tb.F "promise") (varI 0)) (some (tmV L H R F M lo P) :: ρ) S P := EV.fld fl (by decide +kernel) rfl
  unfold behindOf at fin
  refine sq_if (TT.nt (TT.bl (EV.call2 f4 (EV.con _) fun Q E q => h1 F faultsW S Q E t.dF.plk q))) (fun e => ?_) fun e => ?_
  · rw [Bool.not_eq_true'] at e
    rw [e] at fin
    exact sq_ret (EV.tup2 (EV.con _) (EV.con _)) fin
  rw [Bool.not_eq_false'] at e
  rw [if_pos e] at fin
  refine sq_if (TT.nt (TT.bl (EV.call2 f5 (EV.con _) fun Q E q => h1 M movesW S Q E t.dM.plk q))) (fun e => ?_) fun e => ?_
  · rw [Bool.not_eq_true'] at e
    rw [e] at fin
    exact sq_ret (EV.tup2 (EV.con _) (EV.con _)) fin
  rw [Bool.not_eq_false'] at e
  rw [if_pos e] at fin
  cases L with
  | tup xs =>
    have eL : Val.tup xs = tiV (intsL (.tup xs)) := pos_ints hL
    refine sq_set (EV.call2 (EV.lenT (xs := xs) f1) f6 fun Q E q => h2 xs.length lo S Q E t.dlo t.slo t.slo2 q) ?_
    cases e2 : wrongLots (xs.length : Nat) lo with
    | some i =>
      have fin : Q (faultV (match wrongLots (xs.length : Nat) lo with
        | some i => some ("lots", i)
        | none => if isProm (intsL (.tup xs)) ((tupL lo).map intsL) P then none else some ("promise", -1))) (S.within S) := fin
      rw [e2] at fin
      exact sq_if_t (TT.nisn (v := .int i) (EV.var fun _ z => z) rfl) (sq_ret (EV.tup2 (EV.con _) (EV.var (v := .int i) fun _ z => z)) fin)
    | none =>
      have fin : Q (faultV (match wrongLots (xs.length : Nat) lo with
        | some i => some ("lots", i)
        | none => if isProm (intsL (.tup xs)) ((tupL lo).map intsL) P then none else some ("promise", -1))) (S.within S) := fin
      rw [e2] at fin
      refine sq_if_n (TT.nisn (v := .non) (EV.var fun _ z => z) rfl) ?_
      have elo : lo = .tup (((tupL lo).map intsL).map tiV) := by
        cases lo with
        | tup ys =>
          have e3 : (match fstBad (fun x => isLotB x (xs.length : Nat) && !decide (((tupL x).length : Int) = (xs.length : Nat))) 0 ys with
            | some k => some (k : Int)
            | none => if !ys.isEmpty && ascB (lexP fun i j => decide (i < j)) (ys.map intsL) then none else some (-1)) = none := e2
          cases e4 : fstBad (fun x => isLotB x (xs.length : Nat) && !decide (((tupL x).length : Int) = (xs.length : Nat))) 0 ys with
          | some k => rw [e4] at e3; cases e3
          | none => exact congrArg Val.tup (all_lots e4)
        | _ => cases e2
      refine sq_if (TT.nt (TT.bl (EV.call3 f1 f6 f7 fun Q E q => by
        rw [eL, elo]
        exact h3 (intsL (.tup xs)) ((tupL lo).map intsL) P S Q E t.sL t.dP q))) (fun e => ?_) fun e => ?_
      · rw [Bool.not_eq_true'] at e
        rw [e] at fin
        exact sq_ret (EV.tup2 (EV.con _) (EV.con _)) fin
      · rw [Bool.not_eq_false'] at e
        rw [if_pos e] at fin
        exact fin
  | _ => cases hL2
theorem fault_ok (d : Nat) {ru : List Int → Int → Val → Bool} {G : List Int → Int → Val → Prop} (hru : SpRule (Cl (d + 8)) ru G) (L H R F M lo P : Val) (S : Sto) (Q : VQ) (E : EQ) (t : TmOk G L H R F M lo P) (hq : Q (faultV (faultOf ru L H R F M lo P)) S) : (Cl (d + 10)) "team_fault" [tmV L H R F M lo P] S Q E := by
  refine callI_of lk_team_fault rfl ?_
  have fin : Q (faultV (faultOf ru L H R F M lo P)) (S.within S) := by rw [within_self]; exact hq
  have h1 := formed_ok (d + 8)
  have h2 := wlet_ok (d + 6)
  have h3 := whear_ok (d + 1)
  have h4 := fun ls hs rs S Q E => wrule_ok (d + 7) hru ls hs rs S Q E
  have h5 := fun L H R F M lo P S Q E => behind_ok d (G := G) L H R F M lo P S Q E
  show m_team_fault (Cl (d + 9)) (endsI true S Q E) [some (tmV L H R F M lo P), none] S
  unfold m_team_fault
  generalize Cl (d + 9) = Γ at h1 h2 h3 h4 h5 ⊢
  have fl : ∀ {ρ : ISt}, EV (varI 0) (some (tmV L H R F M lo P) :: ρ) S (tmV L H R F M lo P) := fun Q E q => q
  have f1 : ∀ {ρ : ISt}, EV (un1 (fldP tb.F "letters") (varI 0)) (some (tmV L H R F M lo P) :: ρ) S L := EV.fld fl (by decide +kernel) rfl
  have f2 : ∀ {ρ : ISt}, EV (un1 (fldP tb.F "hears") (varI 0)) (some (tmV L H R F M lo P) :: ρ) S H := EV.fld fl (by decide +kernel) rfl
  have f3 : ∀ {ρ : ISt}, EV (un1 (fldP tb.F "rules") (varI 0)) (some (tmV L H R F M lo P) :: ρ) S R := EV.fld fl (by decide +kernel) rfl
  unfold faultOf at fin
  refine sq_if (TT.nt (TT.bl (EV.call3 f1 f2 f3 fun Q E q => h1 L H R S Q E t.dL.plk t.dH.plk t.dR q))) (fun e => ?_) fun e => ?_
  · rw [Bool.not_eq_true'] at e
    rw [e] at fin
    exact sq_ret (EV.tup2 (EV.con _) (EV.con _)) fin
  rw [Bool.not_eq_false'] at e
  rw [if_pos e] at fin
  have eform := e
  unfold isForm at e
  simp only [Bool.and_eq_true] at e
  obtain ⟨⟨⟨⟨i1, _⟩, ⟨i2, _⟩⟩, ⟨i3, _⟩⟩, ⟨n1, n2⟩⟩ := e
  have n1 := of_decide_eq_true n1
  have n2 := of_decide_eq_true n2
  cases L with
  | tup ls => cases H with
    | tup hs => cases R with
      | tup rs =>
        refine sq_set (EV.call1 f1 fun Q E q => h2 ls S Q E (fun x hx => (t.dL.tup_inv x hx).plk) q) ?_
        cases e2 : fstBad isPo 0 ls with
        | some k =>
          rw [show fstBad isPo 0 (tupL (.tup ls)) = some k from e2] at fin
          exact sq_if_t (TT.nisn (v := .int k) (EV.var fun _ z => z) rfl) (sq_ret (EV.tup2 (EV.con _) (EV.var (v := .int k) fun _ z => z)) fin)
        | none =>
          rw [show fstBad isPo 0 (tupL (.tup ls)) = none from e2] at fin
          refine sq_if_n (TT.nisn (v := .non) (EV.var fun _ z => z) rfl) ?_
          refine sq_set (EV.call1 f2 fun Q E q => h3 hs S Q E (fun x hx => ⟨⟨_, t.dH.tup_inv x hx⟩, t.sH x hx⟩) q) ?_
          cases e3 : fstBad (fun h => isLotB h hs.length) 0 hs with
          | some k =>
            rw [show fstBad (fun h => isLotB h (tupL (.tup hs)).length) 0 (tupL (.tup hs)) = some k from e3] at fin
            exact sq_if_t (TT.nisn (v := .int k) (EV.var fun _ z => z) rfl) (sq_ret (EV.tup2 (EV.con _) (EV.var (v := .int k) fun _ z => z)) fin)
          | none =>
            rw [show fstBad (fun h => isLotB h (tupL (.tup hs)).length) 0 (tupL (.tup hs)) = none from e3] at fin
            refine sq_if_n (TT.nisn (v := .non) (EV.var fun _ z => z) rfl) ?_
            have eL := pos_ints e2
            obtain ⟨eH, hh⟩ := hear_ints e3
            have lL : (intsL (.tup ls)).length = ls.length := by
              have h0 := congrArg (fun v => (tupL v).length) eL
              have h0 : ls.length = ((intsL (.tup ls)).map Val.int).length := h0
              rw [List.length_map] at h0
              exact h0.symm
            have n1 : ls.length = hs.length := n1
            have n2 : ls.length = rs.length := n2
            refine sq_set (v := optV (fstBadI (fun k r => ru ((hs.map intsL).getD k []) (baseOf (intsL (.tup ls)) (hs.map intsL) k) r) 0 rs)) (EV.call3 f1 f2 f3 fun Q E q => by
              rw [eL, eH]
              refine h4 (intsL (.tup ls)) (hs.map intsL) rs S Q E (by rw [lL]; exact n2.symm) (by rw [List.length_map]; omega) (fun h hm => ⟨?_, fun i hi => ?_⟩) t.g q
              · obtain ⟨x, hx, rfl⟩ := List.mem_map.mp hm
                have hs1 := t.sH x hx
                have ex : x = tiV (intsL x) := by
                  have h4 : isLotB x hs.length = true := by
                    have h2 : hs.all (fun h => isLotB h hs.length) = true := by
                      rw [← fst_none _ 0 hs, e3]
                      rfl
                    exact List.all_eq_true.mp h2 x hx
                  unfold isLotB at h4
                  cases e : numsOf x with
                  | none => rw [e] at h4; cases h4
                  | some ns =>
                    obtain ⟨rfl, _⟩ := nums_of e
                    rw [intsL_ti]
                rw [ex] at hs1
                have hs1 : ((intsL x).map Val.int).length < 1000000 := hs1
                simpa using hs1
              · obtain ⟨a, b⟩ := hh h hm i hi
                rw [lL]
                exact ⟨a, by omega⟩) ?_
            cases e5 : fstBadI (fun k r => ru ((hs.map intsL).getD k []) (baseOf (intsL (.tup ls)) (hs.map intsL) k) r) 0 rs with
            | some k =>
              rw [show fstBadI (fun k r => ru (((tupL (.tup hs)).map intsL).getD k []) (baseOf (intsL (.tup ls)) ((tupL (.tup hs)).map intsL) k) r) 0 (tupL (.tup rs)) = some k from e5] at fin
              exact sq_ret (EV.ife (TT.isn (v := .int k) (EV.var fun _ z => z) rfl) (EV.tup2 (EV.con _) (EV.var (v := .int k) fun _ z => z))) fin
            | none =>
              rw [show fstBadI (fun k r => ru (((tupL (.tup hs)).map intsL).getD k []) (baseOf (intsL (.tup ls)) ((tupL (.tup hs)).map intsL) k) r) 0 (tupL (.tup rs)) = none from e5] at fin
              exact sq_ret (EV.ife (TT.isn (v := .non) (EV.var fun _ z => z) rfl) (EV.call1 (EV.var fun _ z => z) fun Q E q => h5 _ _ _ _ _ _ _ S Q E t e2 rfl q)) fin
      | _ => cases i3
    | _ => cases i2
  | _ => cases i1
end K07

namespace K07
open PySem PySem.Spec L2 TL
open PyProof.Rows hiding St

def ownV : Val := .tup [.str "own"]
/-- the rule "own" -/
theorem own_ok (d : Nat) : SpRule (Cl (d + 2)) (fun _ _ _ => true) (fun _ _ v => v = ownV) := by
  rintro ms base _ S Q E rfl hq
  refine callI_of lk_is_rule rfl ?_
  show m_is_rule (Cl (d + 1)) (endsI true S Q E) [some (vwV (tiV ms) (.int base)), some ownV, none, none, none, none] S
  have hp : ∀ (vw : Val) (S : Sto) (Q : VQ) (E : EQ), Q (.lst []) S → (Cl (d + 1)) "parts_or_none" [vw, ownV] S Q E := by
    intro vw S Q E hq
    refine callI_of lk_parts_or_none rfl ?_
    have fin : Q (.lst []) (S.within S) := by rw [within_self]; exact hq
    show m_parts_or_none (Cl d) (endsI true S Q E) [some vw, some ownV, none, none, none] S
    unfold m_parts_or_none
    refine sq_set (EV.ixT (xs := [.str "own"]) (EV.var fun _ z => z) (EV.con _) at0) ?_
    exact sq_if_r (TT.inT (ws := ["own", "most"]) (EV.var fun _ z => z) (EV.con _) (by decide +kernel)) (EV.ife (TT.eqI (EV.lenT (xs := [.str "own"]) (EV.var fun _ z => z)) (EV.con _) rfl) EV.lst0) fin
  unfold m_is_rule
  generalize Cl (d + 1) = Γ at hp ⊢
  refine ⟨show 2 ≤ sizeLine by decide, show 1 ≤ sizeLine by decide, fun e he => ?_⟩
  have fr0 : ∀ (c : Cell) (b : Addr), S b ≠ none → (S.put e c) b = S b := fun c b hb => put_ne fun z => hb (by rw [z]; exact he)
  refine ⟨fun m ρ S1 => (m = 1 ∧ ρ = [some (vwV (tiV ms) (.int base)), some ownV, some (.ref e), none, none, none] ∧ S1 e = some (.lst [.tup [vwV (tiV ms) (.int base), ownV]]) ∧ ∀ c, S c ≠ none → S1 c = S c) ∨ (m = 0 ∧ (∃ c3 c4 c5, ρ = [some (vwV (tiV ms) (.int base)), some ownV, some (.ref e), c3, c4, c5]) ∧ S1 e = some (.lst []) ∧ ∀ c, S c ≠ none → S1 c = S c), ⟨1, .inl ⟨rfl, rfl, put_same, fr0 _⟩⟩, ?_⟩
  rintro m ρ S1 (⟨rfl, rfl, s1, fr⟩ | ⟨rfl, ⟨c3, c4, c5, rfl⟩, s1, fr⟩)
  · refine TT.neNil (xs := [.tup [vwV (tiV ms) (.int base), ownV]]) (EV.var (v := .ref e) fun _ z => z) (lsq_ref s1) _ _ ?_
    refine ⟨isl_ref s1, pop_of s1 (y := .tup [vwV (tiV ms) (.int base), ownV]) rfl ?_⟩
    have s2 : (S1.put e (.lst [])) e = some (.lst []) := put_same
    refine sq_if_n (ρ := [some (vwV (tiV ms) (.int base)), some ownV, some (.ref e), some (vwV (tiV ms) (.int base)), some ownV, none]) (TT.or (k := false) (TT.nt (TT.bl (EV.isT (EV.var fun _ z => z) (show plk ownV from trivial)))) fun _ => TT.or (k := false) (TT.eq (EV.var fun _ z => z) EV.tup0 (eq0_tup (dd_tup (n := 63) fun x hx => by rw [List.mem_singleton.mp hx]; exact dd_str _ (by decide +kernel)))) fun _ => TT.nt (TT.bl (EV.isS (EV.ixT (xs := [.str "own"]) (EV.var fun _ z => z) (EV.con _) at0) (show plk (.str "own") from trivial)))) ?_
    refine sq_set (EV.call2 (EV.var fun _ z => z) (EV.var fun _ z => z) fun Q E q => hp _ _ Q E q) ?_
    refine sq_if_n (TT.isn (v := .lst []) (EV.var fun _ z => z) rfl) ?_
    refine sq_ext (ys := []) (fun _ z => z) s2 (EV.var fun _ z => z) (by decide) ?_
    refine ⟨0, Nat.zero_lt_one, .inr ⟨rfl, ⟨_, _, _, rfl⟩, put_same, fun c hc => ?_⟩⟩
    have ne : c ≠ e := fun z => hc (by rw [z]; exact he)
    rw [put_ne ne, put_ne ne]
    exact fr c hc
  · refine TT.neNil (xs := []) (EV.var (v := .ref e) fun _ z => z) (lsq_ref s1) _ _ ?_
    show Q (.bl true) (S1.within S)
    rw [TL.within_old fr]
    exact hq
theorem need_ok (d : Nat) {ru : List Int → Int → Val → Bool} {G : List Int → Int → Val → Prop} (hru : SpRule (Cl (d + 8)) ru G) (L H R F M lo P : Val) (S : Sto) (Q : VQ) (E : EQ) (t : TmOk G L H R F M lo P)
    (hq : match faultOf ru L H R F M lo P with
      | none => Q .non S
      | some (w, i) => E ⟨"InvalidTeam", ["at", "word"], [.int i, .str w]⟩ S) : (Cl (d + 11)) "need_team" [tmV L H R F M lo P] S Q E := by
  refine callI_of lk_need_team rfl ?_
  have h1 := fun L H R F M lo P S Q E => fault_ok d hru L H R F M lo P S Q E
  show m_need_team (Cl (d + 10)) (endsI true S Q E) [some (tmV L H R F M lo P), none] S
  unfold m_need_team
  generalize Cl (d + 10) = Γ at h1 ⊢
  refine sq_if_n (TT.nt (TT.bl (k := true) (EV.isi (EV.var fun _ z => z) rfl (by decide +kernel) (by decide +kernel)))) ?_
  refine sq_set (EV.call1 (EV.var fun _ z => z) fun Q E q => h1 L H R F M lo P S Q E t q) ?_
  cases e : faultOf ru L H R F M lo P with
  | none =>
    rw [e] at hq
    refine sq_if_n (TT.nisn (v := .non) (EV.var fun _ z => z) rfl) ?_
    show Q .non (S.within S)
    rw [within_self]
    exact hq
  | some q =>
    obtain ⟨w, i⟩ := q
    rw [e] at hq
    refine sq_if_t (TT.nisn (v := .tup [.str w, .int i]) (EV.var fun _ z => z) rfl) ?_
    exact EV.ixT (xs := [.str w, .int i]) (EV.var fun _ z => z) (EV.con _) at0 _ _ (EV.ixT (xs := [.str w, .int i]) (EV.var fun _ z => z) (EV.con _) at1 _ _ ⟨rfl, hq⟩)
theorem catch_need {D : IEnds} {ρ : ISt} {S : Sto} {w : Str} {i : Int} (q : D.rt (.tup [.str "refused", .str w, .int i]) S) : catchI tb.exc [("InvalidTeam", (.tup [.con (.str "refused"), .fld "word", .fld "at"])), ("TeamError", (.tup [.con (.str "other")]))] D ρ ⟨"InvalidTeam", ["at", "word"], [.int i, .str w]⟩ S := by
  have e1 : tb.exc.lookup ("InvalidTeam" : Str) = some ((["word", "at"] : List Str), (["InvalidTeam", "TeamError"] : List Str)) := by kernel_rfl
  have e2 : (List.find? (fun h : Str × HV => ((["InvalidTeam", "TeamError"] : List Str)).contains h.1) [(("InvalidTeam" : Str), HV.tup [.con (.str "refused"), .fld "word", .fld "at"]), ("TeamError", .tup [.con (.str "other")])]) = some (("InvalidTeam" : Str), HV.tup [.con (.str "refused"), .fld "word", .fld "at"]) := by kernel_rfl
  unfold catchI
  rw [e1]
  dsimp only
  rw [e2]
  dsimp only
  rw [show hvV ⟨"InvalidTeam", ["at", "word"], [.int i, .str w]⟩ (HV.tup [.con (.str "refused"), .fld "word", .fld "at"]) = some (.tup [.str "refused", .str w, .int i]) from by kernel_rfl]
  exact ⟨by decide +kernel, q⟩
theorem lneed_ok (d : Nat) {ru : List Int → Int → Val → Bool} {G : List Int → Int → Val → Prop} (hru : SpRule (Cl (d + 8)) ru G) (L H R F M lo P : Val) (S : Sto) (Q : VQ) (E : EQ) (t : TmOk G L H R F M lo P)
    (hq : Q (needV (faultOf ru L H R F M lo P)) S) : (Cl (d + 12)) "_law_need" [tmV L H R F M lo P] S Q E := by
  refine callI_of lk__law_need rfl ?_
  have h1 := fun L H R F M lo P S Q E => need_ok d hru L H R F M lo P S Q E
  show m__law_need (Cl (d + 11)) (endsI true S Q E) [some (tmV L H R F M lo P), none] S
  unfold m__law_need
  generalize Cl (d + 11) = Γ at h1 ⊢
  have fin : Q (needV (faultOf ru L H R F M lo P)) (S.within S) := by rw [within_self]; exact hq
  refine h1 L H R F M lo P S _ _ t ?_
  cases e : faultOf ru L H R F M lo P with
  | none =>
    rw [e] at fin
    exact ⟨show 2 ≤ sizeLine by decide, fin⟩
  | some q =>
    obtain ⟨w, i⟩ := q
    rw [e] at fin
    exact catch_need (ρ := [some (tmV L H R F M lo P), none]) fin
end K07

namespace K07
open PySem PySem.Spec L2 TL
open PyProof.Rows hiding St

/-! ### draws -/
theorem er_map {α β : Type} (f : α → β) : ∀ (l : List α) (k : Nat), (l.map f).eraseIdx k = (l.eraseIdx k).map f
  | [], _ => rfl
  | x :: l, 0 => rfl
  | x :: l, k + 1 => by
    show f x :: (l.map f).eraseIdx k = f x :: (l.eraseIdx k).map f
    rw [er_map f l k]
abbrev SpMixed (Γ : Calls) : Prop := ∀ (α : Type) (en : α → Val) (a b : Addr) (xs : List α) (S : Sto) (Q : VQ) (E : EQ), Deal a b S → xs.length ≤ 1000 → (∀ (ys : List α) (S' : Sto), ys.Perm xs → Deal a b S' → Fr a b S S' → Q (.lst (ys.map en)) S') → Γ "_law_mixed" [.ref a, .lst (xs.map en)] S Q E
theorem mixed_ok (d : Nat) : SpMixed (Cl (d + 2)) := by
  intro α en a b xs S Q E hd hl h
  refine callI_of lk__law_mixed rfl ?_
  have hA := any_ok d
  show m__law_mixed (Cl (d + 1)) (endsI true S Q E) [some (.ref a), some (.lst (xs.map en)), none, none, none] S
  unfold m__law_mixed
  generalize Cl (d + 1) = Γ at hA ⊢
  refine fun la hla => ⟨show 0 ≤ sizeLine by decide, fun fa hfa => ?_⟩
  have hne : fa ≠ la := fun z => by rw [z, put_same] at hfa; cases hfa
  rw [put_ne hne] at hfa
  obtain ⟨la1, la2⟩ := hd.off hla
  obtain ⟨fa1, fa2⟩ := hd.off hfa
  refine sq_for (rng1 (EV.lenL (EV.var fun _ z => z)) (by omega) (by rw [List.length_map]; omega)) ?_
  refine forGo_ind (fun r ρ S' => ∃ (lf fd : List α) (c4 : Option Val), r.length = lf.length ∧ lf.length + fd.length = xs.length ∧ (fd ++ lf).Perm xs ∧ ρ = [some (.ref a), some (.lst (xs.map en)), some (.ref la), some (.ref fa), c4] ∧ S' la = some (.lst (lf.map en)) ∧ S' fa = some (.lst (fd.map en)) ∧ Deal a b S' ∧ ∀ c, S c ≠ none → c ≠ a → c ≠ b → S' c = S c) ?_ ?_ _ _ _
    ⟨xs, [], none, by unfold TL.upTo; simp, rfl, by simp, rfl, by rw [put_ne hne.symm, put_same], put_same, (hd.put la1 la2).put fa1 fa2, fun c hc _ _ => by rw [put_ne (fun z => hc (by rw [z]; exact hfa)), put_ne (fun z => hc (by rw [z]; exact hla))]⟩
  · rintro ρ S' ⟨lf, fd, c4, e1, e2, e3, rfl, s1, s2, hd', fr⟩
    refine ⟨trivial, ?_⟩
    have : lf = [] := List.length_eq_zero_iff.mp e1.symm
    subst this
    show (match S' fa with
      | some (.lst xs) => Q (.lst xs) ((S'.del fa).within S)
      | _ => Q (.ref fa) (S'.within S))
    rw [s2]
    have hd2 : Deal a b (S'.del fa) := by
      obtain ⟨ne, cs, mix, h1, h2, r⟩ := hd'
      exact ⟨ne, cs, mix, (if_neg (fun z => fa1 z.symm)).trans h1, (if_neg (fun z => fa2 z.symm)).trans h2, r⟩
    have hg := Deal.gc hd hd2 fun c hc h1 h2 => (if_neg (fun z => hc (by rw [z]; exact hfa))).trans (fr c hc h1 h2)
    exact h fd _ (by simpa using e3) hg.1 hg.2
  · rintro x r ρ S' Kn hK ⟨lf, fd, c4, e1, e2, e3, rfl, s1, s2, hd', fr⟩
    refine ⟨trivial, ?_⟩
    have hlf : 0 < lf.length := by rw [← e1, List.length_cons]; omega
    refine ⟨isl_ref s2, isl_ref s1, (EV.lenR (EV.var fun _ z => z) s1) _ (fun _ _ => False) ?_⟩
    rw [List.length_map]
    refine hA a b _ S' _ _ hd' (by omega) (by omega) fun k S2 k0 k1 hd2 f2 => ?_
    obtain ⟨k, rfl⟩ := Int.eq_ofNat_of_zero_le k0
    have hk : k < lf.length := by omega
    have g1 := (f2.eq la la1 la2).trans s1
    have g2 := (f2.eq fa fa1 fa2).trans s2
    refine popI_of g1 (by rw [List.length_map]; exact hk) (by rw [List.length_map, sizeLine_eq]; omega) (app_of (by rw [put_ne hne]; exact g2) (by rw [List.length_map, sizeLine_eq]; omega) ?_)
    refine hK _ _ ⟨lf.eraseIdx k, fd ++ [lf[k]], _, ?_, ?_, ?_, rfl, ?_, ?_, (hd2.put la1 la2).put fa1 fa2, fun c hc h1 h2 => ?_⟩
    · rw [List.length_eraseIdx, if_pos hk]
      rw [List.length_cons] at e1
      omega
    · rw [List.length_eraseIdx, if_pos hk, List.length_append, List.length_singleton]
      omega
    · rw [List.append_assoc]
      exact ((er_perm lf k hk).append_left fd).trans e3
    · rw [put_ne hne.symm, put_same]
      congr 2
      rw [er_map]
    · rw [put_same, List.map_append]
      congr 3
      simp
    · rw [put_ne (fun z => hc (by rw [z]; exact hfa)), put_ne (fun z => hc (by rw [z]; exact hla)), f2.eq c h1 h2]
      exact fr c hc h1 h2
theorem cut_sub {α : Type} (xs : List α) (l h : Option Int) : (cutL xs l h).Sublist xs := (List.take_sublist _ _).trans (List.drop_sublist _ _)
theorem pow_lt {b j : Nat} (hb : b ≤ 16) : b ^ j ≤ 2 ^ (4 * j) := by
  rw [Nat.pow_mul]
  exact Nat.pow_le_pow_left hb j
abbrev SpPow (Γ : Calls) : Prop := ∀ (b t : Nat) (S : Sto) (Q : VQ) (E : EQ), b ≤ 16 → t ≤ 40 → Q (.int ((b ^ t : Nat) : Int)) S → Γ "_law_power" [.int b, .int t] S Q E
theorem pow_ok (d : Nat) : SpPow (Cl (d + 1)) := by
  intro b t S Q E hb ht hq
  refine callI_of lk__law_power rfl ?_
  show m__law_power (Cl d) (endsI true S Q E) [some (.int b), some (.int t), none, none] S
  unfold m__law_power
  refine sq_set (EV.con _) ?_
  refine sq_for (rng1 (EV.var fun _ z => z) (by omega) (by omega)) ?_
  refine forGo_ind (fun r ρ S' => S' = S ∧ ∃ (j : Nat) (c3 : Option Val), j + r.length = t ∧ ρ = [some (.int b), some (.int t), some (.int ((b ^ j : Nat) : Int)), c3]) ?_ ?_ _ _ _ ⟨rfl, 0, none, by unfold TL.upTo; simp, rfl⟩
  · rintro ρ S' ⟨rfl, j, c3, hj, rfl⟩
    refine ⟨trivial, ?_⟩
    rw [List.length_nil, Nat.add_zero] at hj
    subst hj
    show Q (.int ((b ^ j : Nat) : Int)) (S'.within S')
    rw [within_self]
    exact hq
  · rintro x r ρ S' Kn hK ⟨rfl, j, c3, hj, rfl⟩
    rw [List.length_cons] at hj
    refine ⟨trivial, ?_⟩
    have hp : b ^ j < 2 ^ 200 := Nat.lt_of_le_of_lt (pow_lt hb) (Nat.pow_lt_pow_right (by decide) (by omega))
    have e : ((b ^ j : Nat) : Int) * (b : Int) = ((b ^ (j + 1) : Nat) : Int) := by rw [Nat.pow_succ]; push_cast; rfl
    refine sq_set (v := .int ((b ^ (j + 1) : Nat) : Int)) ?_ (hK _ _ ⟨rfl, j + 1, _, by omega, rfl⟩)
    rw [← e]
    exact EV.mul (EV.var fun _ z => z) (EV.var fun _ z => z) (mulw_small (by rw [Int.natAbs_natCast]; exact hp) (by omega))
/-! ### lots -/
def lotN (k n : Nat) : List Int := ((List.range k).filter fun i => n / 2 ^ i % 2 == 1).map fun i : Nat => (i : Int)
def uptoL (m many : Nat) : List (List Int) := ((List.range (2 ^ m)).map (lotN m)).filter fun l => decide (l.length ≤ many) && decide (l.length < m)
theorem lotN_succ (k n : Nat) : lotN (k + 1) n = lotN k n ++ if n / 2 ^ k % 2 = 1 then [(k : Int)] else [] := by
  unfold lotN
  rw [List.range_succ, List.filter_append, List.map_append]
  congr 1
  by_cases h : n / 2 ^ k % 2 = 1
  · rw [if_pos h]; simp [h]
  · rw [if_neg h]; simp [h]
theorem lotN_len (k n : Nat) : (lotN k n).length ≤ k := by
  unfold lotN
  rw [List.length_map]
  exact Nat.le_trans (List.length_filter_le _ _) (by rw [List.length_range]; exact Nat.le_refl _)
theorem upto_ok (d : Nat) (m many : Nat) (hm : m ≤ 6) (hmany : many ≤ 100) (hne : uptoL m many ≠ []) (S : Sto) (Q : VQ) (E : EQ) (hq : Q (.lst ((srtB TLS.ltL (uptoL m many)).map tiV)) S) : (Cl (d + 2)) "_law_upto" [.int m, .int many] S Q E := by
  refine callI_of lk__law_upto rfl ?_
  have hP := pow_ok d
  show m__law_upto (Cl (d + 1)) (endsI true S Q E) [some (.int m), some (.int many), none, none, none, none, none] S
  unfold m__law_upto
  generalize Cl (d + 1) = Γ at hP ⊢
  refine ⟨show 0 ≤ sizeLine by decide, fun fa hfa => ?_⟩
  have p64 : 2 ^ m ≤ 64 := Nat.pow_le_pow_right (n := 2) (by decide) hm
  refine sq_for (rng1 (EV.call2 (EV.con (.int ((2 : Nat) : Int))) (EV.var (v := .int m) fun _ z => z) fun Q E q => hP 2 m _ Q E (by omega) (by omega) q) (Int.le_trans (by decide) (Int.natCast_nonneg (2 ^ m))) (Int.lt_of_le_of_lt (Int.ofNat_le.mpr p64) (by decide))) ?_
  have e0 : TL.upTo 0 ((2 ^ m : Nat) : Int).toNat = (List.range (2 ^ m)).map fun i : Nat => Val.int (0 + (i : Int)) := rfl
  rw [e0]
  refine forGo_ind (fun r ρ S' => ∃ (k : Nat) (c3 c4 c5 c6 : Option Val), k ≤ 2 ^ m ∧ r = ((List.range (2 ^ m)).drop k).map (fun i : Nat => Val.int (0 + (i : Int))) ∧ ρ = [some (.int m), some (.int many), some (.ref fa), c3, c4, c5, c6] ∧
      S' fa = some (.lst (((((List.range k).map (lotN m)).filter fun l => decide (l.length ≤ many) && decide (l.length < m))).map tiV)) ∧ ∀ c, S c ≠ none → S' c = S c) ?_ ?_ _ _ _ ⟨0, none, none, none, none, Nat.zero_le _, rfl, rfl, put_same, fun c hc => put_ne fun z => hc (by rw [z]; exact hfa)⟩
  · rintro ρ S' ⟨k, c3, c4, c5, c6, hk, hr, rfl, s1, fr⟩
    have hk2 : k = 2 ^ m := by
      have := congrArg List.length hr
      rw [List.length_map, List.length_drop, List.length_range] at this
      simp only [List.length_nil] at this
      omega
    subst hk2
    refine ⟨trivial, sort_r s1 hne ?_⟩
    show Q _ (S'.within S)
    rw [TL.within_old fr]
    exact hq
  · rintro x r ρ S' Kn hK ⟨k, c3, c4, c5, c6, hk, hr, rfl, s1, fr⟩
    have hk2 : k < 2 ^ m := by
      rcases Nat.lt_or_ge k (2 ^ m) with h | h
      · exact h
      · rw [List.drop_of_length_le (by rw [List.length_range]; exact h)] at hr
        cases hr
    rw [List.drop_eq_getElem_cons (by rw [List.length_range]; exact hk2), List.map_cons, List.getElem_range] at hr
    obtain ⟨ex, er⟩ := List.cons.inj hr
    subst ex
    refine ⟨trivial, show 0 ≤ sizeLine by decide, fun la hla => ?_⟩
    have hne2 : fa ≠ la := fun z => by rw [z, hla] at s1; cases s1
    have hSla : S la = none := by
      cases q : S la with
      | none => rfl
      | some y => rw [fr la (by rw [q]; exact fun z => nomatch z), q] at hla; cases hla
    refine sq_for (rng1 (EV.var (v := .int m) fun _ z => z) (by omega) (by omega)) ?_
    have e1 : TL.upTo 0 ((m : Nat) : Int).toNat = (List.range m).map fun i : Nat => Val.int (0 + (i : Int)) := rfl
    rw [e1]
    refine forGo_ind (fun r ρ S2 => ∃ (j : Nat) (c6 : Option Val), j ≤ m ∧ r = ((List.range m).drop j).map (fun i : Nat => Val.int (0 + (i : Int))) ∧ ρ = [some (.int m), some (.int many), some (.ref fa), some (.int (0 + (k : Int))), some (.ref la), some (.int ((k / 2 ^ j : Nat) : Int)), c6] ∧
      S2 la = some (.lst ((lotN j k).map Val.int)) ∧ S2 fa = S' fa ∧ ∀ c, S c ≠ none → S2 c = S c) ?_ ?_ _ _ _ ⟨0, c6, Nat.zero_le _, rfl, by rw [Nat.pow_zero, Nat.div_one, Int.zero_add], put_same, put_ne hne2, fun c hc => by rw [put_ne (fun z => hc (by rw [z]; exact hSla))]; exact fr c hc⟩
    · rintro ρ S2 ⟨j, c6, hj, hr, rfl, t1, t2, fr2⟩
      have hj2 : j = m := by
        have := congrArg List.length hr
        rw [List.length_map, List.length_drop, List.length_range] at this
        simp only [List.length_nil] at this
        omega
      subst hj2
      refine ⟨trivial, ?_⟩
      have el : ∀ {ρ : ISt}, (∀ K : Val → Prop, K (.ref la) → getS ρ 4 K) → EV (callP lenP (consA (varI 4) nilA)) ρ S2 (.int (lotN j k).length) := fun {ρ} hn => (EV.lenR (EV.var hn) t1).of (by rw [List.length_map])
      have hf : ((List.range (k + 1)).map (lotN j)).filter (fun l => decide (l.length ≤ many) && decide (l.length < j)) = ((List.range k).map (lotN j)).filter (fun l => decide (l.length ≤ many) && decide (l.length < j)) ++ if (decide ((lotN j k).length ≤ many) && decide ((lotN j k).length < j)) = true then [lotN j k] else [] := by
        rw [List.range_succ, List.map_append, List.filter_append]
        congr 1
        simp only [List.map_cons, List.map_nil, List.filter_cons, List.filter_nil]
      refine sq_if (TT.and (TT.cmp (el fun _ z => z) (EV.var (v := .int many) fun _ z => z) rfl) fun _ => TT.cmp (el fun _ z => z) (EV.var (v := .int j) fun _ z => z) rfl) (fun e => ?_) fun e => ?_
      · have e' : (decide ((lotN j k).length ≤ many) && decide ((lotN j k).length < j)) = true := by
          rw [← e]
          congr 1 <;> exact decide_eq_decide.mpr (by omega)
        rw [if_pos e'] at hf
        refine sq_app (v := tiV (lotN j k)) (fun _ z => z) (t2.trans s1) ?_ (EV.tuple (EV.var (v := .ref la) fun _ z => z) (lsq_ref t1)) ?_
        · rw [List.length_map, sizeLine_eq]
          refine Nat.lt_of_le_of_lt (List.length_filter_le _ _) ?_
          rw [List.length_map, List.length_range]
          omega
        · refine hK _ _ ⟨k + 1, _, _, _, _, hk2, er, rfl, ?_, fun c hc => ?_⟩
          · rw [put_same, hf, List.map_append]
            rfl
          · rw [put_ne (fun z => hc (by rw [z]; exact hfa))]
            exact fr2 c hc
      · have e' : ¬ (decide ((lotN j k).length ≤ many) && decide ((lotN j k).length < j)) = true := by
          intro h
          have : (decide (((lotN j k).length : Int) ≤ (many : Int)) && decide (((lotN j k).length : Int) < (j : Int))) = (decide ((lotN j k).length ≤ many) && decide ((lotN j k).length < j)) := by
            congr 1 <;> exact decide_eq_decide.mpr (by omega)
          rw [this, h] at e
          cases e
        rw [if_neg e', List.append_nil] at hf
        exact hK _ _ ⟨k + 1, _, _, _, _, hk2, er, rfl, by rw [hf]; exact t2.trans s1, fr2⟩
    · rintro x r ρ S2 Kn hK ⟨j, c6, hj, hr, rfl, t1, t2, fr2⟩
      have hj2 : j < m := by
        rcases Nat.lt_or_ge j m with h | h
        · exact h
        · rw [List.drop_of_length_le (by rw [List.length_range]; exact h)] at hr
          cases hr
      rw [List.drop_eq_getElem_cons (by rw [List.length_range]; exact hj2), List.map_cons, List.getElem_range] at hr
      obtain ⟨ex, er⟩ := List.cons.inj hr
      subst ex
      refine ⟨trivial, ?_⟩
      have ed : ((k / 2 ^ j : Nat) : Int) / 2 = ((k / 2 ^ (j + 1) : Nat) : Int) := by
        rw [Nat.pow_succ, ← Nat.div_div_eq_div_mul]
        omega
      have ls := lotN_succ j k
      have step : ∀ S3 : Sto, S3 la = some (.lst ((lotN (j + 1) k).map Val.int)) → S3 fa = S' fa → (∀ c, S c ≠ none → S3 c = S c) → Kn [some (.int m), some (.int many), some (.ref fa), some (.int (0 + (k : Int))), some (.ref la), some (.int (((k / 2 ^ j : Nat) : Int) / 2)), some (.int (0 + (j : Int)))] S3 := fun S3 q1 q2 q3 => by
        rw [ed]
        exact hK _ _ ⟨j + 1, _, hj2, er, rfl, q1, q2, q3⟩
      refine sq_if (TT.eqI (EV.mod (EV.int (EV.var (v := .int ((k / 2 ^ j : Nat) : Int)) fun _ z => z)) (EV.con (.int 2)) (by decide)) (EV.con (.int 1)) rfl) (fun e => ?_) fun e => ?_
      · have e : ((k / 2 ^ j : Nat) : Int) % 2 = 1 := of_decide_eq_true e
        have e : k / 2 ^ j % 2 = 1 := by omega
        rw [if_pos e] at ls
        refine sq_app (v := .int (0 + (j : Int))) (fun _ z => z) t1 (by rw [List.length_map, sizeLine_eq]; have := lotN_len j k; omega) (EV.var fun _ z => z) ?_
        refine sq_set (EV.fdiv (EV.var (v := .int ((k / 2 ^ j : Nat) : Int)) fun _ z => z) (EV.con (.int 2)) (divw_small (by decide) (by decide))) (step _ ?_ ?_ fun c hc => ?_)
        · rw [put_same, ls, List.map_append, Int.zero_add]
          rfl
        · rw [put_ne hne2]; exact t2
        · rw [put_ne (fun z => hc (by rw [z]; exact hSla))]
          exact fr2 c hc
      · have e : ¬ ((k / 2 ^ j : Nat) : Int) % 2 = 1 := of_decide_eq_false e
        have e : ¬ k / 2 ^ j % 2 = 1 := by omega
        rw [if_neg e, List.append_nil] at ls
        refine sq_set (EV.fdiv (EV.var (v := .int ((k / 2 ^ j : Nat) : Int)) fun _ z => z) (EV.con (.int 2)) (divw_small (by decide) (by decide))) (step _ (by rw [ls]; exact t1) t2 fr2)
/-! ### sizes, lots -/
/-- a list of letters of a team -/
def szs : List (List Int) := [[2], [4], [3, 3], [4, 2], [2, 2], [4, 4], [2, 2, 2], [3, 3, 3], [4, 3, 2], [2, 4, 4], [1, 3, 2], [4, 4, 4]] ++ [[2, 2, 2, 2], [3, 3, 2, 2], [3, 3, 3, 3], [2, 2, 2, 2, 2], [2, 1, 3, 2, 2], [2, 2, 2, 2, 2, 2]]
theorem szs_all : ∀ l ∈ szs, 1 ≤ l.length ∧ l.length ≤ 6 ∧ ∀ m ∈ l, 1 ≤ m ∧ m ≤ 4 := by decide +kernel
def liV (ns : List Int) : Val := .lst (ns.map Val.int)
theorem sizes_ok (d : Nat) (a b : Addr) (S : Sto) (Q : VQ) (E : EQ) (hd : Deal a b S) (h : ∀ ls S', ls ∈ szs → Deal a b S' → Fr a b S S' → Q (liV ls) S') : (Cl (d + 3)) "_law_sizes" [.ref a] S Q E := by
  refine callI_of lk__law_sizes rfl ?_
  have hO := of_ok d
  show m__law_sizes (Cl (d + 2)) (endsI true S Q E) [some (.ref a), none] S
  unfold m__law_sizes
  generalize Cl (d + 2) = Γ at hO ⊢
  refine ⟨by decide, by decide, by decide, by decide, by decide, by decide, by decide, by decide, by decide, by decide, by decide, by decide, by decide, ?_⟩
  refine ⟨by decide, by decide, by decide, by decide, by decide, by decide, by decide, by decide, ?_⟩
  refine hO a b (szs.map liV) S _ _ hd (by decide) (by decide) fun v S' hv hd' f => ?_
  obtain ⟨ls, h1, rfl⟩ := List.mem_map.mp hv
  show Q _ (S'.within S)
  rw [hd.within f]
  exact h ls S' h1 hd' f
/-- what lots are let: unlike ones, in order, of some of m machines -/
structure LotsOk (m : Nat) (ls : List (List Int)) : Prop where
  ne : ls ≠ []
  len : ls.length ≤ 64
  pw : ls.Pairwise fun a b => TLS.ltL a b = true
  lot : ∀ l ∈ ls, isLotB (tiV l) m = true ∧ l.length ≠ m ∧ l.length ≤ 6
theorem upto_all : ∀ m ∈ [2, 3, 4, 5, 6], ∀ many ∈ [1, 2], uptoL m many ≠ [] ∧ (uptoL m many).length ≤ 64 ∧ (uptoL m many).Nodup ∧ ∀ l ∈ uptoL m many, isLotB (tiV l) m = true ∧ l.length ≠ m ∧ l.length ≤ 6 := by decide +kernel
end K07

namespace K07
open PySem PySem.Spec L2 TL
open PyProof.Rows hiding St

theorem one_ok {m : Nat} (h : 1 ≤ m) : LotsOk m [[]] := ⟨nofun, by decide, List.pairwise_singleton _ _, fun l hl => by
  rw [List.mem_singleton.mp hl]
  exact ⟨rfl, by simp; omega, by decide⟩⟩
theorem cut_ne {α : Type} {xs : List α} (h : xs ≠ []) {k : Nat} : cutL xs none (some (1 + (k : Int))) ≠ [] := by
  unfold cutL
  have e : HT.sIx xs.length xs.length (some (1 + (k : Int))) = min (k + 1) xs.length := by
    rw [show (1 : Int) + (k : Int) = ((k + 1 : Nat) : Int) by omega]
    exact HT.sIx_nat _ _ _
  rw [e, HT.sIx_none, List.drop_zero, Nat.sub_zero]
  intro z
  have h2 := congrArg List.length z
  rw [List.length_take, List.length_nil] at h2
  have h3 : 0 < xs.length := List.length_pos_iff.mpr h
  omega
theorem dlots_ok (d : Nat) (a b : Addr) (m : Nat) (h1 : 1 ≤ m) (h6 : m ≤ 6) (S : Sto) (Q : VQ) (E : EQ) (hd : Deal a b S) (h : ∀ ls S', LotsOk m ls → Deal a b S' → Fr a b S S' → Q (.lst (ls.map tiV)) S') : (Cl (d + 3)) "_law_drawn_lots" [.ref a, .int m] S Q E := by
  refine callI_of lk__law_drawn_lots rfl ?_
  have hA := any_ok (d + 1)
  have hM := mixed_ok d
  have hU := upto_ok d
  show m__law_drawn_lots (Cl (d + 2)) (endsI true S Q E) [some (.ref a), some (.int m), none, none] S
  unfold m__law_drawn_lots
  generalize Cl (d + 2) = Γ at hA hM hU ⊢
  refine hA a b 4 S _ _ hd (by decide) (by decide) fun k S1 k0 k1 hd1 f1 => ?_
  have fin : ∀ ls S', LotsOk m ls → Deal a b S' → Fr a b S S' → Q (.lst (ls.map tiV)) (S'.within S) := fun ls S' hl hd' f => by
    rw [hd.within f]
    exact h ls S' hl hd' f
  refine sq_if (TT.or (TT.eqI (EV.var (v := .int k) fun _ z => z) (EV.con (.int 0)) rfl) fun _ => TT.eqI (EV.var (v := .int m) fun _ z => z) (EV.con (.int 1)) rfl) (fun e => ?_) fun e => ?_
  · exact sq_ret (EV.lst1 EV.tup0) (fin [[]] S1 (one_ok h1) hd1 f1)
  have hm1 : ¬ (m : Int) = 1 := by
    have := (Bool.or_eq_false_iff.mp e).2
    exact of_decide_eq_false this
  have hm : m ∈ [2, 3, 4, 5, 6] := by
    have : m = 2 ∨ m = 3 ∨ m = 4 ∨ m = 5 ∨ m = 6 := by omega
    simpa using this
  refine sq_if (TT.eqI (EV.var (v := .int k) fun _ z => z) (EV.con (.int 1)) rfl) (fun e => ?_) fun e => ?_
  · obtain ⟨u1, u2, u3, u4⟩ := upto_all m hm 1 (by decide)
    refine sq_ret (EV.call2 (EV.var (v := .int m) fun _ z => z) (EV.con (.int ((1 : Nat) : Int))) fun Q E q => hU m 1 h6 (by decide) u1 S1 Q E q) (fin _ S1 ⟨?_, ?_, srt_pw u3, fun l hl => u4 l ((srtB_perm _).mem_iff.mp hl)⟩ hd1 f1)
    · intro z
      have := (srtB_perm (lt := TLS.ltL) (uptoL m 1)).length_eq
      rw [z] at this
      exact u1 (List.eq_nil_of_length_eq_zero this.symm)
    · rw [(srtB_perm (lt := TLS.ltL) (uptoL m 1)).length_eq]
      exact u2
  obtain ⟨u1, u2, u3, u4⟩ := upto_all m hm 2 (by decide)
  refine hU m 2 h6 (by decide) u1 S1 _ _ ?_
  have lS : (srtB TLS.ltL (uptoL m 2)).length ≤ 64 := by
    rw [(srtB_perm (lt := TLS.ltL) (uptoL m 2)).length_eq]
    exact u2
  refine hM _ tiV a b (srtB TLS.ltL (uptoL m 2)) S1 _ _ hd1 (by omega) fun ys S2 hp hd2 f2 => ?_
  have hp2 : ys.Perm (uptoL m 2) := hp.trans (srtB_perm _)
  have hne : ys ≠ [] := fun z => by
    rw [z] at hp2
    exact u1 (List.nil_perm.mp hp2)
  refine hA a b 5 S2 _ _ hd2 (by decide) (by decide) fun k S3 k0 k1 hd3 f3 => ?_
  obtain ⟨k, rfl⟩ := Int.eq_ofNat_of_zero_le k0
  show sortP false [.lst (cutL (ys.map tiV) none (some (1 + (k : Int))))] S3 _
  rw [cutL_map]
  have hs := cut_sub ys none (some (1 + (k : Int)))
  refine sort_t (cut_ne hne) ?_
  have pm := srtB_perm (lt := TLS.ltL) (cutL ys none (some (1 + (k : Int))))
  refine fin _ S3 ⟨fun z => ?_, ?_, srt_pw (hs.nodup (hp2.nodup_iff.mpr u3)), fun l hl => u4 l (hp2.mem_iff.mp (hs.subset (pm.mem_iff.mp hl)))⟩ hd3 ((f1.trans f2).trans f3)
  · have := pm.length_eq
    rw [z] at this
    exact cut_ne hne (List.eq_nil_of_length_eq_zero this.symm)
  · rw [pm.length_eq]
    refine Nat.le_trans hs.length_le ?_
    rw [hp2.length_eq]
    exact u2
end K07

namespace K07
open PySem PySem.Spec L2 TL
open PyProof.Rows hiding St

theorem f2_row {bd : Int} : ∀ {ns : List Nat} {vs : List Val}, F2 (fun (_ : Nat) v => ∃ i, v = .int i ∧ -1 ≤ i ∧ i < bd) ns vs → ∃ r : List Int, vs = r.map Val.int ∧ r.length = ns.length ∧ ∀ x ∈ r, -1 ≤ x ∧ x < bd
  | _, _, .nil => ⟨[], rfl, rfl, fun _ h => by cases h⟩
  | _, _, .cons ⟨i, e, h⟩ t => by
    obtain ⟨r, e1, e2, e3⟩ := f2_row t
    refine ⟨i :: r, by rw [e, e1]; rfl, by rw [List.length_cons, List.length_cons, e2], fun x hx => ?_⟩
    rcases List.mem_cons.mp hx with rfl | hx
    · exact h
    · exact e3 x hx
theorem DV.tupleL {a b : Addr} {e : IE} {ρ : ISt} {P : Val → Prop} (h : DV a b e ρ fun v => ∃ xs, v = .lst xs ∧ P (.tup xs)) : DV a b (callP tupleP (consA e nilA)) ρ P := fun S Q E hd q => h S _ _ hd fun v S' hv hd' f => by
  obtain ⟨xs, rfl, hp⟩ := hv
  exact q _ S' hp hd' f
theorem dnums_ok (d : Nat) (a b : Addr) (ls : List Int) (bd : Int) (S : Sto) (Q : VQ) (E : EQ) (hd : Deal a b S) (hls : ls.length ≤ 1000 ∧ ∀ m ∈ ls, 0 ≤ m ∧ m ≤ 1000) (h1 : 1 ≤ bd) (h2 : bd ≤ 1000) (h : ∀ vs S', F2 (RowR bd) ls vs → Deal a b S' → Fr a b S S' → Q (.tup vs) S') : (Cl (d + 2)) "_law_drawn_numbers" [.ref a, liV ls, .int bd] S Q E := by
  refine callI_of lk__law_drawn_numbers rfl ?_
  have hA := any_ok d
  show m__law_drawn_numbers (Cl (d + 1)) (endsI true S Q E) [some (.ref a), some (liV ls), some (.int bd), none, none, none, none] S
  unfold m__law_drawn_numbers
  generalize Cl (d + 1) = Γ at hA ⊢
  refine hA a b 3 S _ _ hd (by decide) (by decide) fun so S1 so0 so1 hd1 f1 => ⟨show 0 ≤ sizeLine by decide, fun fa hfa => ?_⟩
  obtain ⟨na, nb⟩ := hd1.off hfa
  refine sq_for (g := none) (xs := ls.map Val.int) (walkL (EV.var fun _ z => z)) ?_
  refine forGo_ind (fun r ρ S' => ∃ (us ms : List Int) (vs : List Val) (c5 c6 : Option Val), ls = us ++ ms ∧ r = ms.map Val.int ∧ F2 (RowR bd) us vs ∧ ρ = [some (.ref a), some (liV ls), some (.int bd), some (.int so), some (.ref fa), c5, c6] ∧ S' fa = some (.lst vs) ∧ Deal a b S' ∧ ∀ c, S c ≠ none → c ≠ a → c ≠ b → S' c = S c) ?_ ?_ _ _ _
    ⟨[], ls, [], none, none, rfl, rfl, .nil, rfl, put_same, hd1.put na nb, fun c hc c1 c2 => by rw [put_ne (fun z => by subst z; exact hc (by rw [← f1.eq _ c1 c2]; exact hfa))]; exact f1.eq c c1 c2⟩
  · rintro ρ S' ⟨us, ms, vs, c5, c6, e1, e2, e3, rfl, s1, hd', fr⟩
    have : ms = [] := List.map_eq_nil_iff.mp e2.symm
    subst this
    rw [List.append_nil] at e1
    subst e1
    refine ⟨trivial, sq_ret (EV.tuple (EV.var (v := .ref fa) fun _ z => z) (lsq_ref s1)) ?_⟩
    obtain ⟨g1, g2⟩ := Deal.gc hd hd' fr
    exact h vs _ e3 g1 g2
  · rintro x r ρ S' Kn hK ⟨us, ms, vs, c5, c6, e1, e2, e3, rfl, s1, hd', fr⟩
    cases ms with
    | nil => cases e2
    | cons m ms =>
      obtain ⟨ex, er⟩ := List.cons.inj e2
      subst ex
      refine ⟨trivial, ?_⟩
      have hm := hls.2 m (by rw [e1]; exact List.mem_append_right _ List.mem_cons_self)
      obtain ⟨n, rfl⟩ := Int.eq_ofNat_of_zero_le hm.1
      have hlv := e3.length
      have hlu : us.length < ls.length := by rw [e1, List.length_append, List.length_cons]; omega
      have fin : ∀ (vs' : List Val) (S3 : Sto) (c6 : Option Val), RowR bd (n : Int) (.tup vs') → S3 fa = some (.lst (vs ++ [.tup vs'])) → Deal a b S3 → (∀ c, S c ≠ none → c ≠ a → c ≠ b → S3 c = S c) → Kn [some (.ref a), some (liV ls), some (.int bd), some (.int so), some (.ref fa), some (.int n), c6] S3 := fun vs' S3 c6 hr q1 q2 q3 =>
        hK _ _ ⟨us ++ [(n : Int)], ms, vs ++ [.tup vs'], _, _, by rw [e1, List.append_assoc]; rfl, er, e3.snoc hr, rfl, q1, q2, q3⟩
      have e0 : TL.upTo 0 ((n : Nat) : Int).toNat = (List.range n).map fun i : Nat => Val.int (0 + (i : Int)) := rfl
      refine sq_if (TT.eqI (EV.var (v := .int so) fun _ z => z) (EV.con (.int 0)) rfl) (fun e => ?_) fun e => ?_
      · have ev : EV (lcI false (rng1I (varI 5)) (.nm 6) yesT (ifE (tstB (bin2 ltP (varI 6) (varI 2))) (varI 6) (bin2 subP (conI (.int 0)) (conI (.int 1)))) [6]) [some (.ref a), some (liV ls), some (.int bd), some (.int so), some (.ref fa), some (.int n), c6] S' (.lst ((List.range n).map fun i : Nat => Val.int (if (i : Int) < bd then (i : Int) else -1))) := by
          refine EV.lc (fun i : Nat => Val.int (0 + (i : Int))) (List.range n) (fun i : Nat => Val.int (if (i : Int) < bd then (i : Int) else -1)) (g := none) (fun K E q => rng1 (EV.var (v := .int n) fun _ z => z) (by omega) (by omega) K E (by rw [e0]; exact q)) trivial (by rw [List.length_range, sizeLine_eq]; omega) fun i hi => ?_
          refine ⟨_, rfl, ?_⟩
          by_cases hb : (i : Int) < bd
          · rw [if_pos hb]
            exact (EV.ife (k := true) (TT.cmp (EV.var (v := .int (0 + (i : Int))) fun _ z => z) (EV.var (v := .int bd) fun _ z => z) (by rw [Int.zero_add]; exact decide_eq_true hb)) (EV.var fun _ z => z)).of (by rw [Int.zero_add])
          · rw [if_neg hb]
            exact EV.ife (k := false) (TT.cmp (EV.var (v := .int (0 + (i : Int))) fun _ z => z) (EV.var (v := .int bd) fun _ z => z) (by rw [Int.zero_add]; exact decide_eq_false hb)) (EV.sub (EV.con (.int 0)) (EV.con (.int 1)))
        refine sq_app (fun _ z => z) s1 (by rw [sizeLine_eq]; omega) (EV.tuple ev rfl) ?_
        refine fin _ _ _ ⟨(List.range n).map fun i : Nat => if (i : Int) < bd then (i : Int) else -1, ?_, ?_, ?_⟩ put_same (hd'.put na nb) fun c hc c1 c2 => ?_
        · rw [tiV, List.map_map]; rfl
        · rw [List.length_map, List.length_range]
        · intro x hx
          obtain ⟨i, _, rfl⟩ := List.mem_map.mp hx
          split <;> omega
        · rw [put_ne (fun z => by subst z; exact hc (by rw [← f1.eq _ c1 c2]; exact hfa))]
          exact fr c hc c1 c2
      · refine dq_app (P := fun v => ∃ vs', v = .tup vs' ∧ RowR bd (n : Int) v) (fun _ z => z) s1 na nb (by rw [sizeLine_eq]; omega) (DV.tupleL ?_) hd' fun v S3 hv hd3 f3 => ?_
        · refine DV.lc (fun i : Nat => Val.int (0 + (i : Int))) (List.range n) (fun _ v => ∃ i, v = .int i ∧ -1 ≤ i ∧ i < bd) (fun S K E q => rng1 (EV.var (v := .int n) fun _ z => z) (by omega) (by omega) K E (by rw [e0]; exact q)) (by rw [List.length_range, sizeLine_eq]; omega) (fun i hi => ⟨_, rfl, ?_⟩) fun vs' hf => ?_
          · intro S4 Q4 E4 hd4 q4
            refine hA a b 4 S4 _ _ hd4 (by decide) (by decide) fun k4 S5 k0 k1 hd5 f5 => ?_
            refine eq_of (eqOf_ii (i := k4) (j := 0)) ?_
            show (match decide (k4 = 0) with
              | true => _
              | false => _)
            cases decide (k4 = 0) with
            | true =>
              refine hA a b (bd + 1) S5 _ _ hd5 (by omega) (by omega) fun k5 S6 l0 l1 hd6 f6 => ?_
              exact q4 _ S6 ⟨k5 - 1, rfl, by omega, by omega⟩ hd6 (f5.trans f6)
            | false =>
              exact ⟨by omega, q4 _ S5 ⟨(0 + (i : Int)) % bd, rfl, Int.le_trans (by decide) (Int.emod_nonneg _ (by omega)), Int.emod_lt_of_pos _ (by omega)⟩ hd5 f5⟩
          · obtain ⟨r, e4, e5, e6⟩ := f2_row hf
            exact ⟨vs', rfl, vs', rfl, r, by rw [e4]; rfl, by rw [e5, List.length_range], e6⟩
        · obtain ⟨vs', rfl, hr⟩ := hv
          refine fin vs' _ _ hr put_same (hd3.put na nb) fun c hc c1 c2 => ?_
          rw [put_ne (fun z => by subst z; exact hc (by rw [← f1.eq _ c1 c2]; exact hfa)), f3.eq c c1 c2]
          exact fr c hc c1 c2
theorem in_ok (d : Nat) (xs : List Val) (k : Nat) (v : Val) (hk : k < xs.length) (hl : xs.length ≤ 1000) (S : Sto) (Q : VQ) (E : EQ) (hq : Q (.tup (xs.set k v)) S) : (Cl (d + 1)) "_law_in" [.tup xs, .int k, v] S Q E := by
  refine callI_of lk__law_in rfl ?_
  have fin : Q (.tup (xs.set k v)) (S.within S) := by rw [within_self]; exact hq
  show m__law_in (Cl d) (endsI true S Q E) [some (.tup xs), some (.int k), some v] S
  unfold m__law_in
  have e1 : EV (callP tupleP (consA (sliceI false (varI 0) noPart (partI (varI 1))) nilA)) [some (.tup xs), some (.int k), some v] S (.tup (xs.take k)) := EV.tuple (EV.sliceT (EV.var fun _ z => z) (fun Q E q => q) (part_of (EV.var (v := .int k) fun _ z => z)) (cut_to xs (by omega))) rfl
  have e2 : EV (callP tupleP (consA (sliceI false (varI 0) (partI (bin2 (addP false) (varI 1) (conI (.int 1)))) noPart) nilA)) [some (.tup xs), some (.int k), some v] S (.tup (xs.drop (k + 1))) := EV.tuple (EV.sliceT (EV.var fun _ z => z) (part_of (EV.add (EV.var (v := .int k) fun _ z => z) (EV.con (.int 1)))) (fun Q E q => q) (by rw [show (k : Int) + 1 = ((k + 1 : Nat) : Int) by omega]; exact cut_fr xs (by omega))) rfl
  refine sq_ret ((EV.addT (EV.addT e1 (EV.tup1 (EV.var fun _ z => z)) ?_) e2 ?_).of ?_) fin
  · rw [List.length_take, List.length_singleton, sizeLine_eq]; omega
  · rw [List.length_append, List.length_take, List.length_drop, List.length_singleton, sizeLine_eq]; omega
  · rw [List.set_eq_take_append_cons_drop, if_pos hk, List.append_assoc]
    rfl
/-! ### promises -/
inductive Pr where
  | count (c : Int) (vs : List Val)
  | hold (vs : List Val)
  | near (f : Int) (vs : List Val)
def Pr.rows : Pr → List Val
  | .count _ vs => vs
  | .hold vs => vs
  | .near _ vs => vs
def Pr.bd : Pr → Int
  | .count c _ => c
  | _ => 64
def Pr.val : Pr → Val
  | .count c vs => .tup [.str "count", .int c, .tup vs]
  | .hold vs => .tup [.str "hold", .tup vs]
  | .near f vs => .tup [.str "near", .int f, .tup vs]
def Pr.pb (p : Pr) : Val := .tup [p.val, .int p.bd]
structure Pr.Ok (ls : List Int) (p : Pr) : Prop where
  bd : 1 ≤ p.bd ∧ p.bd ≤ 1000
  rows : F2 (RowR p.bd) ls p.rows
  far : match p with
    | .near f _ => 0 ≤ f
    | _ => True
theorem told_ok (d : Nat) (a b : Addr) (ls : List Int) (c : Int) (S : Sto) (Q : VQ) (E : EQ) (hd : Deal a b S) (hls : ls.length ≤ 1000 ∧ ∀ m ∈ ls, 1 ≤ m ∧ m ≤ 1000) (h1 : 1 ≤ c) (h2 : c ≤ 1000) (h : ∀ (ps : List Pr) S', ps.length = 4 → (∀ p ∈ ps, p.Ok ls) → Deal a b S' → Fr a b S S' → Q (.lst (ps.map Pr.pb)) S') : (Cl (d + 3)) "_law_told" [.ref a, liV ls, .int c] S Q E := by
  refine callI_of lk__law_told rfl ?_
  have hO := of_ok d
  have hN := dnums_ok (d)
  show m__law_told (Cl (d + 2)) (endsI true S Q E) [some (.ref a), some (liV ls), some (.int c), none, none, none] S
  unfold m__law_told
  have hls0 : ls.length ≤ 1000 ∧ ∀ m ∈ ls, 0 ≤ m ∧ m ≤ 1000 := ⟨hls.1, fun m hm => ⟨by have := (hls.2 m hm).1; omega, (hls.2 m hm).2⟩⟩
  have hN := fun bd S Q E hd h1 h2 h => hN a b ls bd S Q E hd hls0 h1 h2 h
  generalize Cl (d + 2) = Γ at hO hN ⊢
  refine ⟨⟨by decide, by decide, by decide⟩, show 5 ≤ sizeLine by decide, ?_⟩
  refine hO a b [.int 0, .int 1, .int 5, .int 64, .int (10 ^ (6 : Int).toNat)] S _ _ hd nofun (show 5 ≤ sizeLine by decide) fun v S1 hv hd1 f1 => ?_
  obtain ⟨f, rfl, hf⟩ : ∃ f, v = .int f ∧ 0 ≤ f := by
    simp only [List.mem_cons, List.not_mem_nil, or_false] at hv
    rcases hv with rfl | rfl | rfl | rfl | rfl <;> exact ⟨_, rfl, by decide⟩
  refine hN c S1 _ _ hd1 h1 h2 fun vs2 S2 r2 hd2 f2 => ⟨show 3 ≤ sizeLine by decide, show 2 ≤ sizeLine by decide, ?_⟩
  refine hN 64 S2 _ _ hd2 (by decide) (by decide) fun vs3 S3 r3 hd3 f3 => ⟨show 2 ≤ sizeLine by decide, show 2 ≤ sizeLine by decide, show 2 ≤ sizeLine by decide, ?_⟩
  refine hN 64 S3 _ _ hd3 (by decide) (by decide) fun vs4 S4 r4 hd4 f4 => ⟨show 3 ≤ sizeLine by decide, show 2 ≤ sizeLine by decide, ?_⟩
  have ev : EV (lcI false (walkI (varI 1)) (.nm 5) yesT (bin2 (mulP false) (tupI (consA (conI (.int 63)) nilA)) (varI 5)) [5]) [some (.ref a), some (liV ls), some (.int c), some (.int f), some (.lst [.tup [.tup [.str "count", .int c, .tup vs2], .int c], .tup [.tup [.str "hold", .tup vs3], .int 64]]), none] S4 (.lst (ls.map fun m => .tup (List.replicate m.toNat (.int 63)))) := by
    refine EV.lc Val.int ls (fun m => .tup (List.replicate m.toNat (.int 63))) (g := none) (walkL (EV.var fun _ z => z)) trivial (by rw [sizeLine_eq]; omega) fun m hm => ⟨_, rfl, ?_⟩
    obtain ⟨m1, m2⟩ := hls.2 m hm
    exact EV.mulT (EV.tup1 (EV.con _)) (EV.var (v := .int m) fun _ z => z) m1 (by omega)
  refine ev _ E ⟨show 2 ≤ sizeLine by decide, show 2 ≤ sizeLine by decide, show 2 ≤ sizeLine by decide, show 2 + 2 ≤ sizeLine by decide, ?_⟩
  have rO : F2 (RowR 64) ls (ls.map fun m => .tup (List.replicate m.toNat (.int 63))) := by
    have : ∀ l : List Int, (∀ m ∈ l, 1 ≤ m) → F2 (RowR 64) l (l.map fun m => .tup (List.replicate m.toNat (.int 63))) := by
      intro l
      induction l with
      | nil => exact fun _ => .nil
      | cons m l ih =>
        intro hm
        refine .cons ⟨List.replicate m.toNat 63, ?_, ?_, fun x hx => ?_⟩ (ih fun m h => hm m (List.mem_cons_of_mem _ h))
        · rw [tiV, List.map_replicate]
        · have := hm m List.mem_cons_self
          rw [List.length_replicate]
          omega
        · rw [(List.mem_replicate.mp hx).2]
          decide
    exact this ls fun m hm => (hls.2 m hm).1
  show Q (.lst [.tup [.tup [.str "count", .int c, .tup vs2], .int c], .tup [.tup [.str "hold", .tup vs3], .int 64], .tup [.tup [.str "near", .int f, .tup vs4], .int 64], .tup [.tup [.str "hold", .tup (ls.map fun m => .tup (List.replicate m.toNat (.int 63)))], .int 64]]) (S4.within S)
  rw [hd.within (((f1.trans f2).trans f3).trans f4)]
  refine h [.count c vs2, .hold vs3, .near f vs4, .hold (ls.map fun m => .tup (List.replicate m.toNat (.int 63)))] S4 rfl (fun p hp => ?_) hd4 (((f1.trans f2).trans f3).trans f4)
  simp only [List.mem_cons, List.not_mem_nil, or_false] at hp
  rcases hp with rfl | rfl | rfl | rfl
  · exact ⟨⟨h1, h2⟩, r2, trivial⟩
  · exact ⟨(show (1 : Int) ≤ 64 ∧ (64 : Int) ≤ 1000 by decide), r3, trivial⟩
  · exact ⟨(show (1 : Int) ≤ 64 ∧ (64 : Int) ≤ 1000 by decide), r4, hf⟩
  · exact ⟨(show (1 : Int) ≤ 64 ∧ (64 : Int) ≤ 1000 by decide), rO, trivial⟩
end K07

namespace K07
open PySem PySem.Spec L2 TL
open PyProof.Rows hiding St

/-- no rows of numbers below bd -/
def Bad (ls : List Int) (bd : Int) (w : Val) : Prop := DD 60 w ∧ areNums ls w bd = false
theorem f2_get {bd : Int} {ls : List Int} {vs : List Val} (h : F2 (RowR bd) ls vs) {k : Nat} (hk : k < vs.length) : ∃ r : List Int, vs[k] = tiV r ∧ (r.length : Int) = ls[k]'(by have := h.length; omega) := by
  have hl := h.length
  obtain ⟨r, e1, e2, _⟩ := h.get k (by omega) hk
  exact ⟨r, e1, e2⟩
theorem f2_dd {bd : Int} {ls : List Int} {vs : List Val} (h : F2 (RowR bd) ls vs) : ∀ v ∈ vs, DD 1 v := by
  induction h with
  | nil => exact fun _ h => by cases h
  | cons h t ih =>
    intro v hv
    rcases List.mem_cons.mp hv with rfl | hv
    · obtain ⟨r, rfl, _⟩ := h
      exact dd_ti 0 r
    · exact ih v hv
theorem mem_set_or {xs : List Val} {k : Nat} {v x : Val} (h : x ∈ xs.set k v) : x ∈ xs ∨ x = v := List.mem_or_eq_of_mem_set h
theorem rowsw_ok (d : Nat) (a b : Addr) (ls : List Int) (vs : List Val) (bd : Int) (S : Sto) (Q : VQ) (E : EQ) (hd : Deal a b S) (hls : 1 ≤ ls.length ∧ ls.length ≤ 100 ∧ ∀ m ∈ ls, 1 ≤ m ∧ m ≤ 100) (h1 : 1 ≤ bd ∧ bd ≤ 1000) (hv : F2 (RowR bd) ls vs) (h : ∀ (ws : List Val) S', ws.length = 24 → (∀ w ∈ ws, Bad ls bd w) → Deal a b S' → Fr a b S S' → Q (.lst ws) S') : (Cl (d + 2)) "_law_rows_wrong" [.ref a, liV ls, .tup vs, .int bd] S Q E := by
  refine callI_of lk__law_rows_wrong rfl ?_
  have hA := any_ok d
  have hI := in_ok d
  show m__law_rows_wrong (Cl (d + 1)) (endsI true S Q E) [some (.ref a), some (liV ls), some (.tup vs), some (.int bd), none, none, none, none, none] S
  unfold m__law_rows_wrong
  generalize Cl (d + 1) = Γ at hA hI ⊢
  have hl := hv.length
  refine (EV.lenL (xs := ls.map Val.int) (EV.var (n := 1) fun _ z => z)) _ _ ?_
  rw [List.length_map]
  refine hA a b _ S _ _ hd (by omega) (by omega) fun k S1 k0 k1 hd1 f1 => ?_
  obtain ⟨k, rfl⟩ := Int.eq_ofNat_of_zero_le k0
  have hk : k < vs.length := by omega
  have hkl : k < ls.length := by omega
  obtain ⟨r, er, el⟩ := f2_get hv hk
  obtain ⟨m1, m2⟩ := hls.2.2 ls[k] (List.getElem_mem hkl)
  refine sq_set (v := tiV r) (EV.ixT (xs := vs) (EV.var fun _ z => z) (EV.var (v := .int k) fun _ z => z) (by rw [at_nat hk, List.getElem?_eq_getElem hk, er])) ?_
  refine dq_parN (P := fun v => ∃ j : Nat, v = .int j ∧ j < r.length) (DV.anyD hA (fun _ z => z) (DV.pure (fun S => EV.lenT (xs := r.map Val.int) (EV.var (n := 5) fun _ z => z)) ⟨_, rfl, by rw [List.length_map]; omega, by rw [List.length_map]; omega, fun i i0 i1 => by
    rw [List.length_map] at i1
    exact ⟨i.toNat, by rw [Int.toNat_of_nonneg i0], by omega⟩⟩)) hd1 fun v S2 fa hv2 hd2 f2 hfa => ?_
  obtain ⟨j, rfl, hj⟩ := hv2
  refine ⟨_, rfl, ?_⟩
  obtain ⟨na, nb⟩ := hd2.off hfa
  have f02 := f1.trans f2
  have ddr : DD 1 (tiV r) := dd_ti 0 r
  have ddv := f2_dd hv
  have ddvs : ∀ {w : Val}, DD 50 w → DD 60 (.tup (vs.set k w)) := fun {w} hw => (dd_tup (n := 50) fun x hx => (mem_set_or hx).elim (fun h => (ddv x h).mono (by omega)) (fun h => by rw [h]; exact hw)).mono (by omega)
  -- first the numbers
  refine sq_forapp (vs := [.int bd, .int (0 - 2), .int (bd + 10 ^ (9 : Int).toNat), .bl true, .non, .str "0", .tup [.int 0], .int (0 - 10 ^ (20 : Int).toNat), .lst [.int 0], .bl false]) (n := 7) (t := 8) (acc := []) (g := fun v => .tup (vs.set k (.tup ((r.map Val.int).set j v)))) (e := fa) (o := none)
    (fun c => [some (.ref a), some (liV ls), some (.tup vs), some (.int bd), some (.int k), some (tiV r), some (.int j), some (.ref fa), c]) (walkL ?_) rfl (fun _ _ => rfl) (fun _ _ z => z) put_same (show 0 + 10 ≤ sizeLine by decide) (fun v _ S' _ => ?_) ?_
  · intro Q E q
    exact ⟨⟨by decide, by decide, by decide⟩, show 1 ≤ sizeLine by decide, ⟨by decide, by decide, by decide⟩, show 1 ≤ sizeLine by decide, show 10 ≤ sizeLine by decide, q⟩
  · refine EV.call3 (EV.var fun _ z => z) (EV.var fun _ z => z) (EV.call3 (EV.var fun _ z => z) (EV.var fun _ z => z) (EV.var fun _ z => z) fun Q E q => hI (r.map Val.int) j v (by rw [List.length_map]; exact hj) (by rw [List.length_map]; omega) S' Q E q) fun Q E q => hI vs k _ hk (by omega) S' Q E q
  intro c8 S3 s3 fr3
  -- then the rows
  refine sq_forapp (vs := [.tup (r.map Val.int ++ [.int 0]), .tup ((r.map Val.int).take ((r.map Val.int).length - 1)), .lst (r.map Val.int), .non, .int 0, .tup [], .str "0"]) (n := 7) (t := 8) (g := fun v => .tup (vs.set k v)) (e := fa) (o := c8)
    (fun c => [some (.ref a), some (liV ls), some (.tup vs), some (.int bd), some (.int k), some (tiV r), some (.int j), some (.ref fa), c]) (walkL ?_) rfl (fun _ _ => rfl) (fun _ _ z => z) s3 (show 10 + 7 ≤ sizeLine by decide) (fun v _ S' _ => ?_) ?_
  · refine fun Q E q => ?_
    refine (EV.addT (EV.var (v := tiV r) (n := 5) fun _ z => z) (EV.tup1 (EV.con (.int 0))) (by rw [List.length_map, List.length_singleton, sizeLine_eq]; omega)) _ E ?_
    refine (EV.sliceT (xs := r.map Val.int) (EV.var (n := 5) fun _ z => z) (fun Q E q => q) (part_of (EV.neg (EV.con (.int 1)))) (cut_m1 _)) _ E ?_
    exact ⟨show 0 ≤ sizeLine by decide, show 7 ≤ sizeLine by decide, q⟩
  · exact EV.call3 (EV.var fun _ z => z) (EV.var fun _ z => z) (EV.var fun _ z => z) fun Q E q => hI vs k _ hk (by omega) S' Q E q
  intro c9 S4 s4 fr4
  have key : EV (bin2 (addP false) (varI 7) (lstI false (consA (sliceI false (varI 2) noPart (partI (un1 negP (conI (.int 1))))) (consA (bin2 (addP false) (varI 2) (sliceI false (varI 2) noPart (partI (conI (.int 1))))) (consA (callP (listP false) (consA (varI 2) nilA)) (consA (conI .non) (consA (conI (.int 0)) (consA (tupI nilA) (consA (conI (.str "by")) nilA))))))))) [some (.ref a), some (liV ls), some (.tup vs), some (.int bd), some (.int k), some (tiV r), some (.int j), some (.ref fa), c9] S4
      (.lst (([] ++ [.int bd, .int (0 - 2), .int (bd + 10 ^ (9 : Int).toNat), .bl true, .non, .str "0", .tup [.int 0], .int (0 - 10 ^ (20 : Int).toNat), .lst [.int 0], .bl false].map (fun v => .tup (vs.set k (.tup ((r.map Val.int).set j v)))) ++ [.tup (r.map Val.int ++ [.int 0]), .tup ((r.map Val.int).take ((r.map Val.int).length - 1)), .lst (r.map Val.int), .non, .int 0, .tup [], .str "0"].map (fun v => .tup (vs.set k v))) ++
        [.tup (vs.take (vs.length - 1)), .tup (vs ++ vs.take 1), .lst vs, .non, .int 0, .tup [], .str "by"])) := by
    intro Q E q
    refine (EV.sliceT (xs := vs) (EV.var (n := 2) fun _ z => z) (fun Q E q => q) (part_of (EV.neg (EV.con (.int 1)))) (cut_m1 _)) _ E ?_
    refine (EV.addT (EV.var (v := .tup vs) (n := 2) fun _ z => z) (EV.sliceT (xs := vs) (EV.var (n := 2) fun _ z => z) (fun Q E q => q) (part_of (EV.con (.int 1))) (cut_to (k := 1) _ (by omega))) (by rw [List.length_take, sizeLine_eq]; omega)) _ E ?_
    refine ⟨show 0 ≤ sizeLine by decide, show 7 ≤ sizeLine by decide, addR_of s4 (show 17 + 7 ≤ sizeLine by decide) q⟩
  refine sq_ret key ?_
  have hd4 : Deal a b S4 ∧ ∀ c, S c ≠ none → c ≠ a → c ≠ b → S4 c = S c := by
    refine ⟨?_, fun c hc c1 c2 => ?_⟩
    · have e : ∀ c, c ≠ fa → S4 c = S2 c := fun c hc => (fr4 c hc).trans ((fr3 c hc).trans (put_ne hc))
      obtain ⟨ne, cs, mix, e1, e2, r⟩ := hd2
      exact ⟨ne, cs, mix, (e a na.symm).trans e1, (e b nb.symm).trans e2, r⟩
    · have nf : c ≠ fa := fun z => by subst z; exact hc (by rw [← f02.eq _ c1 c2]; exact hfa)
      rw [fr4 c nf, fr3 c nf, put_ne nf]
      exact f02.eq c c1 c2
  obtain ⟨g1, g2⟩ := Deal.gc hd hd4.1 hd4.2
  refine h _ _ rfl (fun w hw => ?_) g1 g2
  rcases List.mem_append.mp hw with hw | hw
  · rcases List.mem_append.mp hw with hw | hw
    · obtain ⟨v, hv1, rfl⟩ := List.mem_map.mp hw
      have hb : okNum bd v = false ∧ DD 10 v := by
        simp only [List.mem_cons, List.not_mem_nil, or_false] at hv1
        rcases hv1 with rfl | rfl | rfl | rfl | rfl | rfl | rfl | rfl | rfl | rfl
        · exact ⟨num_high (Int.le_refl _), dd_int _ _⟩
        · exact ⟨num_low (by decide), dd_int _ _⟩
        · exact ⟨num_high (Int.le_add_of_nonneg_right (by decide)), dd_int _ _⟩
        · exact ⟨rfl, dd_bl _ _⟩
        · exact ⟨rfl, dd_non _⟩
        · exact ⟨rfl, dd_str _ (by decide +kernel)⟩
        · exact ⟨rfl, (dd_ti 0 [0]).mono (by omega)⟩
        · exact ⟨num_low (by decide), dd_int _ _⟩
        · exact ⟨rfl, (dd_lst (n := 0) fun x hx => by rw [List.mem_singleton.mp hx]; exact dd_int _ _).mono (by omega)⟩
        · exact ⟨rfl, dd_bl _ _⟩
      refine ⟨ddvs ((dd_tup (n := 10) fun x hx => (mem_set_or hx).elim (fun h => by
        obtain ⟨i, _, rfl⟩ := List.mem_map.mp h
        exact dd_int _ _) (fun h => by rw [h]; exact hb.2)).mono (by omega)), rows_bad hkl hk (row_bad (by rw [List.length_map]; exact hj) hb.1)⟩
    · obtain ⟨v, hv1, rfl⟩ := List.mem_map.mp hw
      have hb : okRow bd ls[k] v = false ∧ DD 10 v := by
        have di : ∀ x ∈ r.map Val.int, DD 1 x := fun x hx => by
          obtain ⟨i, _, rfl⟩ := List.mem_map.mp hx
          exact dd_int _ _
        simp only [List.mem_cons, List.not_mem_nil, or_false] at hv1
        rcases hv1 with rfl | rfl | rfl | rfl | rfl | rfl | rfl
        · refine ⟨len_bad (by rw [List.length_append, List.length_map, List.length_singleton]; omega), (dd_tup (n := 1) fun x hx => ?_).mono (by omega)⟩
          rcases List.mem_append.mp hx with hx | hx
          · exact di x hx
          · rw [List.mem_singleton.mp hx]; exact dd_int _ _
        · exact ⟨len_bad (by rw [List.length_take, List.length_map]; omega), (dd_tup (n := 1) fun x hx => di x (List.mem_of_mem_take hx)).mono (by omega)⟩
        · exact ⟨rfl, (dd_lst (n := 1) di).mono (by omega)⟩
        · exact ⟨rfl, dd_non _⟩
        · exact ⟨rfl, dd_int _ _⟩
        · exact ⟨len_bad (by show (0 : Int) ≠ _; omega), dd_tup0 _⟩
        · exact ⟨rfl, dd_str _ (by decide +kernel)⟩
      exact ⟨ddvs (hb.2.mono (by omega)), rows_bad hkl hk hb.1⟩
  · simp only [List.mem_cons, List.not_mem_nil, or_false] at hw
    rcases hw with rfl | rfl | rfl | rfl | rfl | rfl | rfl
    · exact ⟨(dd_tup (n := 1) fun x hx => ddv x (List.mem_of_mem_take hx)).mono (by omega), lens_bad (by rw [List.length_take]; omega)⟩
    · refine ⟨(dd_tup (n := 1) fun x hx => ?_).mono (by omega), lens_bad (by rw [List.length_append, List.length_take]; omega)⟩
      rcases List.mem_append.mp hx with hx | hx
      · exact ddv x hx
      · exact ddv x (List.mem_of_mem_take hx)
    · exact ⟨(dd_lst (n := 1) ddv).mono (by omega), rfl⟩
    · exact ⟨dd_non _, rfl⟩
    · exact ⟨dd_int _ _, rfl⟩
    · exact ⟨dd_tup0 _, lens_bad (by rw [List.length_nil]; omega)⟩
    · exact ⟨dd_str _ (by decide +kernel), rfl⟩
end K07

namespace K07
open PySem PySem.Spec L2 TL
open PyProof.Rows hiding St

def LsOk (ls : List Int) : Prop := 1 ≤ ls.length ∧ ls.length ≤ 6 ∧ ∀ m ∈ ls, 1 ≤ m ∧ m ≤ 4
def LtOk (m : Nat) (lots : List (List Int)) : Prop := lots ≠ [] ∧ lots.length ≤ 100 ∧ ∀ l ∈ lots, isLotB (tiV l) m = true ∧ l.length ≠ m ∧ l.length ≤ 6
def loV (lots : List (List Int)) : Val := .tup (lots.map tiV)
def hrsV (m : Nat) : Val := .tup (List.replicate m (.tup []))
def rlsV (m : Nat) : Val := .tup (List.replicate m ownV)
def frV (ls : List Int) (lots : List (List Int)) (P : Val) : Val := tmV (tiV ls) (hrsV ls.length) (rlsV ls.length) (.str "alike") (.str "all") (loV lots) P
def tV : Val := .tup [.str "told", .non]
def rpV : Val := .tup [.str "refused", .str "promise", .int (-1)]
def rlV : Val := .tup [.str "refused", .str "lots", .int (-1)]
def outOf (ls : List Int) (lots : List (List Int)) (P : Val) : Val := if ascB (lexP fun i j => decide (i < j)) lots then if isProm ls lots P then tV else rpV else rlV
theorem fst_all {α : Type} {p : α → Bool} {k : Nat} {xs : List α} (h : ∀ x ∈ xs, p x = true) : fstBad p k xs = none := by
  have := fst_none p k xs
  rw [List.all_eq_true.mpr h] at this
  exact Option.isNone_iff_eq_none.mp this
theorem fstI_all {α : Type} : ∀ {k : Nat} {xs : List α}, fstBadI (fun _ _ => true) k xs = none
  | _, [] => rfl
  | k, x :: r => fstI_all (k := k + 1) (xs := r)
theorem out_eq {ls : List Int} {lots : List (List Int)} {P : Val} (h1 : LsOk ls) (h2 : LtOk ls.length lots) : needV (faultOf (fun _ _ _ => true) (tiV ls) (hrsV ls.length) (rlsV ls.length) (.str "alike") (.str "all") (loV lots) P) = outOf ls lots P := by
  obtain ⟨a1, a2, a3⟩ := h1
  obtain ⟨b1, b2, b3⟩ := h2
  have e1 : isForm (tiV ls) (hrsV ls.length) (rlsV ls.length) = true := by
    cases ls with
    | nil => exact absurd a1 (by decide)
    | cons m ls =>
      show ((true && true) && (true && !(List.replicate (m :: ls).length (Val.tup [])).isEmpty) && (true && !(List.replicate (m :: ls).length ownV).isEmpty) && (decide (((m :: ls).map Val.int).length = (List.replicate (m :: ls).length (Val.tup [])).length) && decide (((m :: ls).map Val.int).length = (List.replicate (m :: ls).length ownV).length))) = true
      rw [List.length_map, List.length_replicate, List.length_replicate, decide_eq_true rfl]
      rfl
  have e2 : fstBad isPo 0 (tupL (tiV ls)) = none := fst_all fun x hx => by
    obtain ⟨m, hm, rfl⟩ := List.mem_map.mp hx
    exact decide_eq_true (by have := (a3 m hm).1; omega)
  have e3 : fstBad (fun h => isLotB h (tupL (hrsV ls.length)).length) 0 (tupL (hrsV ls.length)) = none := fst_all fun x hx => by
    rw [(List.mem_replicate.mp hx).2]
    rfl
  have e4 : wrongLots (tupL (tiV ls)).length (loV lots) = if ascB (lexP fun i j => decide (i < j)) lots then none else some (-1) := by
    have e5 : fstBad (fun x => isLotB x ((tupL (tiV ls)).length : Nat) && !decide (((tupL x).length : Int) = ((tupL (tiV ls)).length : Nat))) 0 (lots.map tiV) = none := fst_all fun x hx => by
      obtain ⟨l, hl, rfl⟩ := List.mem_map.mp hx
      obtain ⟨c1, c2, _⟩ := b3 l hl
      have z : (tupL (tiV ls)).length = ls.length := by show (ls.map Val.int).length = _; rw [List.length_map]
      rw [z, c1, Bool.true_and]
      rw [show (tupL (tiV l)).length = l.length from by show (l.map Val.int).length = _; rw [List.length_map]]
      rw [decide_eq_false (show ¬ (l.length : Int) = (ls.length : Int) by omega)]
      rfl
    show (match fstBad (fun x => isLotB x ((tupL (tiV ls)).length : Nat) && !decide (((tupL x).length : Int) = ((tupL (tiV ls)).length : Nat))) 0 (lots.map tiV) with
      | some k => some (k : Int)
      | none => if !(lots.map tiV).isEmpty && ascB (lexP fun i j => decide (i < j)) ((lots.map tiV).map intsL) then none else some (-1)) = _
    rw [e5]
    dsimp only
    rw [lots_ti]
    rw [show (lots.map tiV).isEmpty = false from by cases lots with
      | nil => exact absurd rfl b1
      | cons _ _ => rfl]
    rfl
  unfold faultOf
  rw [e1, if_pos rfl, e2]
  dsimp only
  rw [e3]
  dsimp only
  rw [fstI_all]
  dsimp only
  unfold behindOf
  rw [show wordOf (.str "alike") faultsW = true by decide +kernel, if_pos rfl, show wordOf (.str "all") movesW = true by decide +kernel, if_pos rfl, e4]
  rw [intsL_ti, show (tupL (loV lots)).map intsL = lots from lots_ti lots]
  unfold outOf
  cases ascB (lexP fun i j => decide (i < j)) lots with
  | false => rfl
  | true => cases isProm ls lots P <;> rfl
theorem tm_ok {ls : List Int} {lots : List (List Int)} {P : Val} (h1 : LsOk ls) (h2 : LtOk ls.length lots) (h3 : DD 61 P) : TmOk (fun _ _ v => v = ownV) (tiV ls) (hrsV ls.length) (rlsV ls.length) (.str "alike") (.str "all") (loV lots) P := by
  obtain ⟨a1, a2, a3⟩ := h1
  obtain ⟨b1, b2, b3⟩ := h2
  refine ⟨(dd_ti 0 ls).mono (by omega), (dd_tup (n := 1) fun x hx => by rw [(List.mem_replicate.mp hx).2]; exact dd_tup0 0).mono (by omega), trivial, dd_str _ (by decide +kernel), dd_str _ (by decide +kernel), (dd_tup (n := 1) fun x hx => ?_).mono (by omega), h3.mono (by omega), fun m hm => ?_, fun x hx => ?_, ?_, fun x hx => ?_, fun k hk => ?_⟩
  · obtain ⟨l, _, rfl⟩ := List.mem_map.mp hx
    exact dd_ti 0 l
  · rw [intsL_ti] at hm
    have := (a3 m hm).2
    omega
  · rw [(List.mem_replicate.mp hx).2]
    exact (show 0 < 1000000 by decide)
  · show (lots.map tiV).length < 1000000
    rw [List.length_map]
    omega
  · obtain ⟨l, hl, rfl⟩ := List.mem_map.mp hx
    show (l.map Val.int).length < 1000000
    rw [List.length_map]
    have := (b3 l hl).2.2
    omega
  · have h5 : (tupL (rlsV ls.length))[k] ∈ List.replicate ls.length ownV := List.getElem_mem hk
    exact (List.mem_replicate.mp h5).2
abbrev SpNeed (Γ : Calls) : Prop := ∀ (ls : List Int) (lots : List (List Int)) (P : Val) (S : Sto) (Q : VQ) (E : EQ), LsOk ls → LtOk ls.length lots → DD 61 P → Q (outOf ls lots P) S → Γ "_law_need" [frV ls lots P] S Q E
theorem sneed_ok (d : Nat) : SpNeed (Cl (d + 12)) := fun ls lots P S Q E h1 h2 h3 hq => lneed_ok d (own_ok (d + 6)) _ _ _ _ _ _ _ S Q E (tm_ok h1 h2 h3) (by rw [out_eq h1 h2]; exact hq)
abbrev SpInit (Γ : Calls) : Prop := ∀ (a : Addr) (v0 v1 v2 v3 v4 v5 v6 : Val) (S : Sto) (Q : VQ) (E : EQ), S a = some (.ins "Team" [] []) → Q .non (S.put a (.ins "Team" tmN [v0, v1, v2, v3, v4, v5, v6])) → Γ (("Team" : Str) ++ (".__init__" : Str)) [.ref a, v0, v1, v2, v3, v4, v5, v6] S Q E
theorem EV.team {Γ : Calls} {ρ : ISt} {S : Sto} {a0 a1 a2 a3 a4 a5 a6 : IE} {v0 v1 v2 v3 v4 v5 v6 : Val} (hi : SpInit Γ) (h0 : EV a0 ρ S v0) (h1 : EV a1 ρ S v1) (h2 : EV a2 ρ S v2) (h3 : EV a3 ρ S v3) (h4 : EV a4 ρ S v4) (h5 : EV a5 ρ S v5) (h6 : EV a6 ρ S v6) :
    EV (makeI Γ "Team" true (consA a0 (consA a1 (consA a2 (consA a3 (consA a4 (consA a5 (consA a6 nilA)))))))) ρ S (tmV v0 v1 v2 v3 v4 v5 v6) := fun Q E q => h0 _ _ (h1 _ _ (h2 _ _ (h3 _ _ (h4 _ _ (h5 _ _ (h6 _ _ fun e he => hi e v0 v1 v2 v3 v4 v5 v6 _ _ _ put_same ⟨rfl, by
  rw [put_put]
  refine frzI_of put_same ?_
  rw [put_del he]
  exact q⟩))))))
abbrev SpWith (Γ : Calls) : Prop := ∀ (ls : List Int) (lots : List (List Int)) (P : Val) (S : Sto) (Q : VQ) (E : EQ), LsOk ls → Q (frV ls lots P) S → Γ "_law_team_with" [liV ls, loV lots, P] S Q E
theorem with_ok (d : Nat) : SpWith (Cl (d + 2)) := by
  intro ls lots P S Q E h1 hq
  refine callI_of lk__law_team_with rfl ?_
  have hi := init_ok d
  have fin : Q (frV ls lots P) (S.within S) := by rw [within_self]; exact hq
  show m__law_team_with (Cl (d + 1)) (endsI true S Q E) [some (liV ls), some (loV lots), some P, none] S
  unfold m__law_team_with
  generalize Cl (d + 1) = Γ at hi ⊢
  obtain ⟨a1, a2, a3⟩ := h1
  refine sq_set (v := .int ls.length) ((EV.lenL (xs := ls.map Val.int) (EV.var fun _ z => z)).of (by rw [List.length_map])) ?_
  have e1 : EV (callP tupleP (consA (varI 0) nilA)) [some (liV ls), some (loV lots), some P, some (.int ls.length)] S (tiV ls) := EV.tuple (EV.var (v := liV ls) fun _ z => z) rfl
  have e2 : EV (bin2 (mulP false) (tupI (consA (tupI nilA) nilA)) (varI 3)) [some (liV ls), some (loV lots), some P, some (.int ls.length)] S (hrsV ls.length) := EV.mulT (EV.tup1 EV.tup0) (EV.var (v := .int ls.length) fun _ z => z) (by omega) (by omega)
  have e3 : EV (bin2 (mulP false) (tupI (consA (tupI (consA (conI (.str "own")) nilA)) nilA)) (varI 3)) [some (liV ls), some (loV lots), some P, some (.int ls.length)] S (rlsV ls.length) := EV.mulT (EV.tup1 (EV.tup1 (EV.con _))) (EV.var (v := .int ls.length) fun _ z => z) (by omega) (by omega)
  exact sq_ret (EV.team hi e1 e2 e3 (EV.con _) (EV.con _) (EV.var fun _ z => z) (EV.var fun _ z => z)) fin
section
variable {Γ : Calls} {ρ : ISt} {S : Sto} {a b c : IE} {ls : List Int} {lots : List (List Int)} {P : Val}
theorem EV.need (hN : SpNeed Γ) (hW : SpWith Γ) (h1 : LsOk ls) (h2 : LtOk ls.length lots) (h3 : DD 61 P) (ha : EV a ρ S (liV ls)) (hb : EV b ρ S (loV lots)) (hc : EV c ρ S P) : EV (callF Γ "_law_need" (consA (callF Γ "_law_team_with" (consA a (consA b (consA c nilA)))) nilA)) ρ S (outOf ls lots P) :=
  EV.call1 (EV.call3 ha hb hc fun Q E q => hW ls lots P S Q E h1 q) fun Q E q => hN ls lots P S Q E h1 h2 h3 q
end
theorem lots_lt {m : Nat} {lots : List (List Int)} (h : LotsOk m lots) : LtOk m lots := ⟨h.ne, Nat.le_trans h.len (by decide), h.lot⟩
theorem out_good {ls : List Int} {lots : List (List Int)} {P : Val} (h : LotsOk ls.length lots) : outOf ls lots P = if isProm ls lots P then tV else rpV := by
  unfold outOf
  rw [lots_asc h.pw]
  rfl
theorem lots_lt2 {m : Nat} {lots : List (List Int)} (h : LotsOk m lots) : LtOk m (lots ++ lots.take 1) := by
  refine ⟨fun z => h.ne (List.append_eq_nil_iff.mp z).1, ?_, fun l hl => ?_⟩
  · rw [List.length_append, List.length_take]
    have := h.len
    omega
  · rcases List.mem_append.mp hl with hl | hl
    · exact h.lot l hl
    · exact h.lot l (List.mem_of_mem_take hl)
theorem out_again {ls : List Int} {lots : List (List Int)} {P : Val} (h : LotsOk ls.length lots) : outOf ls (lots ++ lots.take 1) P = rlV := by
  obtain ⟨h1, _, h2, _⟩ := h
  cases lots with
  | nil => exact absurd rfl h1
  | cons x r =>
    unfold outOf
    rw [show (x :: r).take 1 = [x] from rfl, lots_again h2]
    rfl
/-! ### the promises' looks -/
theorem pr_good {ls : List Int} {lots : List (List Int)} {p : Pr} (h : p.Ok ls) : isProm ls lots p.val = true := by
  obtain ⟨h1, h2, h3⟩ := h
  cases p with
  | count c vs =>
    show (decide (0 < c) && areNums ls (.tup vs) c) = true
    rw [show areNums ls (.tup vs) c = true from rows_ok h2, decide_eq_true (show 0 < c from h1.1)]
    rfl
  | hold vs => exact rows_ok (bd := 64) h2
  | near f vs =>
    show (decide (0 ≤ f) && areNums ls (.tup vs) 64) = true
    rw [show areNums ls (.tup vs) 64 = true from rows_ok (bd := 64) h2, decide_eq_true (show 0 ≤ f from h3)]
    rfl
def Pr.xs : Pr → List Val
  | .count c vs => [.str "count", .int c, .tup vs]
  | .hold vs => [.str "hold", .tup vs]
  | .near f vs => [.str "near", .int f, .tup vs]
theorem Pr.xs_len (p : Pr) : 2 ≤ p.xs.length ∧ p.xs.length ≤ 3 := by cases p <;> exact ⟨by simp [Pr.xs], by simp [Pr.xs]⟩
theorem Pr.val_xs (p : Pr) : p.val = .tup p.xs := by cases p <;> rfl
theorem pr_bent {ls : List Int} {lots : List (List Int)} {p : Pr} {w : Val} (h : Bad ls p.bd w) : isProm ls lots (.tup (p.xs.take (p.xs.length - 1) ++ [w])) = false := by
  obtain ⟨_, h⟩ := h
  cases p with
  | count c vs =>
    show (decide (0 < c) && areNums ls w c) = false
    rw [show areNums ls w c = false from h, Bool.and_false]
  | hold vs => exact h
  | near f vs =>
    show (decide (0 ≤ f) && areNums ls w 64) = false
    rw [show areNums ls w 64 = false from h, Bool.and_false]
theorem pr_dd {ls : List Int} {p : Pr} (h : p.Ok ls) : ∀ x ∈ p.xs, DD 3 x := by
  have hr := f2_dd h.rows
  have hv : DD 3 (.tup p.rows) := (dd_tup (n := 1) hr).mono (by omega)
  intro x hx
  cases p with
  | count c vs =>
    simp only [Pr.xs, List.mem_cons, List.not_mem_nil, or_false] at hx
    rcases hx with rfl | rfl | rfl
    · exact dd_str _ (by decide +kernel)
    · exact dd_int _ _
    · exact hv
  | hold vs =>
    simp only [Pr.xs, List.mem_cons, List.not_mem_nil, or_false] at hx
    rcases hx with rfl | rfl
    · exact dd_str _ (by decide +kernel)
    · exact hv
  | near f vs =>
    simp only [Pr.xs, List.mem_cons, List.not_mem_nil, or_false] at hx
    rcases hx with rfl | rfl | rfl
    · exact dd_str _ (by decide +kernel)
    · exact dd_int _ _
    · exact hv
/-- what is no promise -/
def NoP (ls : List Int) (lots : List (List Int)) (v : Val) : Prop := DD 60 v ∧ isProm ls lots v = false
/-- a promise bent otherwise -/
def Pr.some (p : Pr) : List Val := [.tup (p.xs ++ [.int 0]), .tup (p.xs.take (p.xs.length - 1)), .lst p.xs, .tup [p.xs.headD .non], .tup ([.str "Count"] ++ p.xs.tail), .tup ([.non] ++ p.xs.tail), .tup p.xs.tail, .tup [p.val]]
theorem some_no {ls : List Int} {lots : List (List Int)} {p : Pr} (h : p.Ok ls) : ∀ v ∈ p.some, NoP ls lots v := by
  have hd := pr_dd h
  have ht : ∀ x ∈ p.xs.tail, DD 3 x := fun x hx => hd x (List.mem_of_mem_tail hx)
  intro v hv
  simp only [Pr.some, List.mem_cons, List.not_mem_nil, or_false] at hv
  have ap : ∀ {us vs : List Val}, (∀ x ∈ us, DD 10 x) → (∀ x ∈ vs, DD 10 x) → DD 60 (.tup (us ++ vs)) := fun h1 h2 => (dd_tup (n := 10) fun x hx => (List.mem_append.mp hx).elim (h1 x) (h2 x)).mono (by omega)
  have h10 : ∀ x ∈ p.xs, DD 10 x := fun x hx => (hd x hx).mono (by omega)
  have t10 : ∀ x ∈ p.xs.tail, DD 10 x := fun x hx => (ht x hx).mono (by omega)
  rcases hv with rfl | rfl | rfl | rfl | rfl | rfl | rfl | rfl
  · refine ⟨ap h10 fun x hx => by rw [List.mem_singleton.mp hx]; exact dd_int _ _, ?_⟩
    cases p <;> rfl
  · refine ⟨(dd_tup (n := 10) fun x hx => h10 x (List.mem_of_mem_take hx)).mono (by omega), ?_⟩
    cases p <;> rfl
  · exact ⟨(dd_lst (n := 10) h10).mono (by omega), rfl⟩
  · refine ⟨(dd_tup (n := 10) fun x hx => ?_).mono (by omega), by cases p <;> rfl⟩
    rw [List.mem_singleton.mp hx]
    cases p <;> exact dd_str _ (by decide +kernel)
  · refine ⟨ap (fun x hx => by rw [List.mem_singleton.mp hx]; exact dd_str _ (by decide +kernel)) t10, ?_⟩
    cases p <;> rfl
  · refine ⟨ap (fun x hx => by rw [List.mem_singleton.mp hx]; exact dd_non _) t10, ?_⟩
    cases p <;> rfl
  · refine ⟨(dd_tup (n := 10) t10).mono (by omega), ?_⟩
    cases p <;> rfl
  · refine ⟨(dd_tup (n := 10) fun x hx => ?_).mono (by omega), ?_⟩
    · rw [List.mem_singleton.mp hx, Pr.val_xs]
      exact (dd_tup (n := 3) hd).mono (by omega)
    · cases p <;> rfl
/-- the words and numbers of a promise of three, bent -/
def Pr.three : Pr → List Val
  | .count _ _ => [.int (0 - 1), .bl true, .non, .str "2", .tup [.int 1], .int 0, .str "count"]
  | .near _ _ => [.int (0 - 1), .bl true, .non, .str "2", .tup [.int 1], .lst [.int 1], .str "near"]
  | .hold _ => []
def Pr.mid : Pr → Val → Val
  | .count _ vs, v => .tup [.str "count", v, .tup vs]
  | .near _ vs, v => .tup [.str "near", v, .tup vs]
  | .hold _, _ => .non
theorem three_no {ls : List Int} {lots : List (List Int)} {p : Pr} (h : p.Ok ls) : ∀ v ∈ p.three, NoP ls lots (p.mid v) := by
  have hd := pr_dd h
  have dt : ∀ {w v r : Val}, DD 10 w → DD 10 v → DD 10 r → DD 60 (.tup [w, v, r]) := fun {w v r} h1 h2 h3 => (dd_tup (n := 10) fun x hx => by
    simp only [List.mem_cons, List.not_mem_nil, or_false] at hx
    rcases hx with rfl | rfl | rfl
    · exact h1
    · exact h2
    · exact h3).mono (by omega)
  have hr := f2_dd h.rows
  have hv : DD 10 (.tup p.rows) := (dd_tup (n := 1) hr).mono (by omega)
  have l1 : DD 10 (.lst [.int 1]) := (dd_lst (n := 0) fun x hx => by rw [List.mem_singleton.mp hx]; exact dd_int _ _).mono (by omega)
  intro v hm
  cases p with
  | hold vs => cases hm
  | count c vs =>
    simp only [Pr.three, List.mem_cons, List.not_mem_nil, or_false] at hm
    rcases hm with rfl | rfl | rfl | rfl | rfl | rfl | rfl
    · exact ⟨dt (dd_str _ (by decide +kernel)) (dd_int _ _) hv, rfl⟩
    · exact ⟨dt (dd_str _ (by decide +kernel)) (dd_bl _ _) hv, rfl⟩
    · exact ⟨dt (dd_str _ (by decide +kernel)) (dd_non _) hv, rfl⟩
    · exact ⟨dt (dd_str _ (by decide +kernel)) (dd_str _ (by decide +kernel)) hv, rfl⟩
    · exact ⟨dt (dd_str _ (by decide +kernel)) ((dd_ti 0 [1]).mono (by omega)) hv, rfl⟩
    · exact ⟨dt (dd_str _ (by decide +kernel)) (dd_int _ _) hv, rfl⟩
    · exact ⟨dt (dd_str _ (by decide +kernel)) (dd_str _ (by decide +kernel)) hv, rfl⟩
  | near f vs =>
    simp only [Pr.three, List.mem_cons, List.not_mem_nil, or_false] at hm
    rcases hm with rfl | rfl | rfl | rfl | rfl | rfl | rfl
    · exact ⟨dt (dd_str _ (by decide +kernel)) (dd_int _ _) hv, rfl⟩
    · exact ⟨dt (dd_str _ (by decide +kernel)) (dd_bl _ _) hv, rfl⟩
    · exact ⟨dt (dd_str _ (by decide +kernel)) (dd_non _) hv, rfl⟩
    · exact ⟨dt (dd_str _ (by decide +kernel)) (dd_str _ (by decide +kernel)) hv, rfl⟩
    · exact ⟨dt (dd_str _ (by decide +kernel)) ((dd_ti 0 [1]).mono (by omega)) hv, rfl⟩
    · exact ⟨dt (dd_str _ (by decide +kernel)) l1 hv, rfl⟩
    · exact ⟨dt (dd_str _ (by decide +kernel)) (dd_str _ (by decide +kernel)) hv, rfl⟩
theorem single_is {ls : List Int} {lots : List (List Int)} : isProm ls lots (.tup [.str "single"]) = decide (lots = [[]]) := rfl
theorem single_no {ls : List Int} {lots : List (List Int)} : isProm ls lots (.tup [.str "single", .int 0]) = false := rfl
theorem sz_t : SZ 3 tV := .tup [(1, .str "told"), (1, .non)] fun t ht => by
  simp only [List.mem_cons, List.not_mem_nil, or_false] at ht
  rcases ht with rfl | rfl
  · exact .str
  · exact .non
theorem sz_r (w u : Str) (i : Int) : SZ 4 (.tup [.str w, .str u, .int i]) := .tup [(1, .str w), (1, .str u), (1, .int i)] fun t ht => by
  simp only [List.mem_cons, List.not_mem_nil, or_false] at ht
  rcases ht with rfl | rfl | rfl
  · exact .str
  · exact .str
  · exact .int
end K07

namespace K07
open PySem PySem.Spec L2 TL
open PyProof.Rows hiding St

def Gd (v : Val) : Prop := ∃ n, SZ n v ∧ n ≤ 1000000
theorem gd_t : Gd tV := ⟨3, sz_t, by decide⟩
theorem gd_r : Gd rpV := ⟨4, sz_r _ _ _, by decide⟩
theorem gd_l : Gd rlV := ⟨4, sz_r _ _ _, by decide⟩
structure LP (a b p : Addr) (vs : List Val) (S : Sto) : Prop where
  d : Deal a b S
  hp : S p = some (.lst (vs.map pp))
  pa : p ≠ a
  pb : p ≠ b
  g : ∀ v ∈ vs, Gd v
theorem LP.draw {a b p : Addr} {vs : List Val} {S S' : Sto} (L : LP a b p vs S) (d : Deal a b S') (f : Fr a b S S') : LP a b p vs S' := ⟨d, (f.eq p L.pa L.pb).trans L.hp, L.pa, L.pb, L.g⟩
theorem LP.add {a b p : Addr} {vs : List Val} {S : Sto} (L : LP a b p vs S) {v : Val} (h : Gd v) : LP a b p (vs ++ [v]) (S.put p (.lst (vs.map pp ++ [pp v]))) := ⟨L.d.put L.pa L.pb, by rw [put_same, List.map_append]; rfl, L.pa, L.pb, fun x hx => (List.mem_append.mp hx).elim (L.g x) fun z => by rw [List.mem_singleton.mp z]; exact h⟩
theorem LP.adds {a b p : Addr} {vs us : List Val} {S S' : Sto} {v : Val} (L : LP a b p vs S) (h : Gd v) (e : S' p = some (.lst (vs.map pp ++ us.map fun _ => pp v))) (f : ∀ c, c ≠ p → S' c = S c) : LP a b p (vs ++ us.map fun _ => v) S' := by
  refine ⟨?_, ?_, L.pa, L.pb, fun x hx => (List.mem_append.mp hx).elim (L.g x) fun z => ?_⟩
  · obtain ⟨ne, cs, mix, e1, e2, r⟩ := L.d
    exact ⟨ne, cs, mix, (f a L.pa.symm).trans e1, (f b L.pb.symm).trans e2, r⟩
  · rw [e, List.map_append, List.map_map]
    rfl
  · obtain ⟨u, _, rfl⟩ := List.mem_map.mp z
    exact h
abbrev SpRows (Γ : Calls) : Prop := ∀ (a b : Addr) (ls : List Int) (vs : List Val) (bd : Int) (S : Sto) (Q : VQ) (E : EQ), Deal a b S → (1 ≤ ls.length ∧ ls.length ≤ 100 ∧ ∀ m ∈ ls, 1 ≤ m ∧ m ≤ 100) → (1 ≤ bd ∧ bd ≤ 1000) → F2 (RowR bd) ls vs → (∀ (ws : List Val) S', ws.length = 24 → (∀ w ∈ ws, Bad ls bd w) → Deal a b S' → Fr a b S S' → Q (.lst ws) S') → Γ "_law_rows_wrong" [.ref a, liV ls, .tup vs, .int bd] S Q E
theorem xs_last (p : Pr) : atI p.xs (-1) = some (.tup p.rows) := by cases p <;> rfl
theorem ev_due {ρ : ISt} {S : Sto} {w : Str} : EV (tupI (consA (conI (.str "refused")) (consA (conI (.str w)) (consA (bin2 subP (conI (.int 0)) (conI (.int 1))) nilA)))) ρ S (.tup [.str "refused", .str w, .int (-1)]) := EV.tup3 (EV.con _) (EV.con _) (EV.sub (EV.con (.int 0)) (EV.con (.int 1)))
theorem ev_told {ρ : ISt} {S : Sto} : EV (tupI (consA (conI (.str "told")) (consA (conI .non) nilA))) ρ S tV := EV.tup2 (EV.con _) (EV.con _)
section
variable {Γ : Calls} {a b p : Addr} {vs : List Val} {S : Sto} {Kx : IS} {D : IEnds} {v0 v3 v5 v8 v9 v10 v11 v12 v13 : Option Val} {ls : List Int} {lots : List (List Int)} {pr : Pr}
/-- the rows that are wrong -/
theorem blk1 (hN : SpNeed Γ) (hW : SpWith Γ) (hR : SpRows Γ) (h1 : LsOk ls) (h2 : LotsOk ls.length lots) (ok : pr.Ok ls) (L : LP a b p vs S) (hl : vs.length ≤ 1000)
    (q : ∀ (vs' : List Val) (S' : Sto) (v9 v10 : Option Val), LP a b p vs' S' → vs'.length = vs.length + 24 → Kx D [v0, some (.ref a), some (.ref p), v3, some (liV ls), v5, some (loV lots), some (.tup pr.xs), some (.int pr.bd), v9, v10, v11, v12, v13] S') :
    seqI (forI (walkI (callF Γ "_law_rows_wrong" (consA (varI 1) (consA (varI 4) (consA (bin2 ixP (varI 7) (un1 negP (conI (.int 1)))) (consA (varI 8) nilA)))))) (.nm 9) (seqI (setI (.nm 10) (bin2 (addP false) (sliceI false (varI 7) noPart (partI (un1 negP (conI (.int 1))))) (tupI (consA (varI 9) nilA)))) (seqI (dropI (lmethI appendP (varI 2) (consA (tupI (consA (callF Γ "_law_need" (consA (callF Γ "_law_team_with" (consA (varI 4) (consA (varI 6) (consA (varI 10) nilA)))) nilA)) (consA (tupI (consA (conI (.str "refused")) (consA (conI (.str "promise")) (consA (bin2 subP (conI (.int 0)) (conI (.int 1))) nilA)))) nilA))) nilA))) nextI))) Kx D [v0, some (.ref a), some (.ref p), v3, some (liV ls), v5, some (loV lots), some (.tup pr.xs), some (.int pr.bd), v9, v10, v11, v12, v13] S := by
  refine EV.ixT (xs := pr.xs) (EV.var (n := 7) fun _ z => z) (EV.neg (EV.con (.int 1))) (xs_last pr) _ _ ?_
  obtain ⟨l1, l2, l3⟩ := h1
  refine hR a b ls pr.rows pr.bd S _ _ L.d ⟨l1, by omega, fun m hm => ⟨(l3 m hm).1, by have := (l3 m hm).2; omega⟩⟩ ok.bd ok.rows fun ws S1 hlen hbad hd1 f1 => ?_
  refine forGo_ind (fun r ρ S' => ∃ (vs' : List Val) (v9 v10 : Option Val), (∀ w ∈ r, Bad ls pr.bd w) ∧ vs'.length + r.length = vs.length + 24 ∧ LP a b p vs' S' ∧ ρ = [v0, some (.ref a), some (.ref p), v3, some (liV ls), v5, some (loV lots), some (.tup pr.xs), some (.int pr.bd), v9, v10, v11, v12, v13]) ?_ ?_ _ _ _ ⟨vs, v9, v10, hbad, by rw [hlen], L.draw hd1 f1, rfl⟩
  · rintro ρ S' ⟨vs', v9, v10, _, e, L', rfl⟩
    exact ⟨trivial, q vs' S' v9 v10 L' (by simpa using e)⟩
  · rintro w r ρ S' Kn hK ⟨vs', v9, v10, hb, e, L', rfl⟩
    rw [List.length_cons] at e
    refine ⟨trivial, ?_⟩
    have hw := hb w List.mem_cons_self
    have hx := pr_dd ok
    have hlx := pr.xs_len
    have hd : DD 61 (.tup (pr.xs.take (pr.xs.length - 1) ++ [w])) := dd_tup (n := 60) fun x hm => (List.mem_append.mp hm).elim (fun z => (hx x (List.mem_of_mem_take z)).mono (by omega)) fun z => by rw [List.mem_singleton.mp z]; exact hw.1
    refine sq_set (v := .tup (pr.xs.take (pr.xs.length - 1) ++ [w])) (EV.addT (EV.sliceT (xs := pr.xs) (EV.var fun _ z => z) (fun Q E q => q) (part_of (EV.neg (EV.con (.int 1)))) (cut_m1 _)) (EV.tup1 (EV.var fun _ z => z)) (by rw [List.length_take, List.length_singleton, sizeLine_eq]; omega)) ?_
    refine sq_app (v := pp rpV) (fun _ z => z) L'.hp (by rw [List.length_map, sizeLine_eq]; omega) (EV.tup2 ((EV.need hN hW ⟨l1, l2, l3⟩ (lots_lt h2) hd (EV.var fun _ z => z) (EV.var fun _ z => z) (EV.var fun _ z => z)).of (by rw [out_good h2, pr_bent hw]; rfl)) ev_due) ?_
    exact hK _ _ ⟨vs' ++ [rpV], _, _, fun w hw => hb w (List.mem_cons_of_mem _ hw), by rw [List.length_append, List.length_singleton]; omega, L'.add gd_r, rfl⟩
/-- the promise bent otherwise -/
theorem blk2 (hN : SpNeed Γ) (hW : SpWith Γ) (h1 : LsOk ls) (h2 : LotsOk ls.length lots) (ok : pr.Ok ls) (L : LP a b p vs S) (hl : vs.length ≤ 2000)
    (q : ∀ (vs' : List Val) (S' : Sto) (v10 v11 v12 : Option Val), LP a b p vs' S' → vs'.length ≤ vs.length + 16 → D.nx [v0, some (.ref a), some (.ref p), v3, some (liV ls), v5, some (loV lots), some (.tup pr.xs), some (.int pr.bd), v9, v10, v11, v12, v13] S') :
    (seqI (setI (.nm 11) (lstI true (consA (bin2 (addP false) (varI 7) (tupI (consA (conI (.int 0)) nilA))) (consA (sliceI false (varI 7) noPart (partI (un1 negP (conI (.int 1))))) (consA (callP (listP false) (consA (varI 7) nilA)) (consA (tupI (consA (bin2 ixP (varI 7) (conI (.int 0))) nilA)) (consA (bin2 (addP false) (tupI (consA (conI (.str "Count")) nilA)) (sliceI false (varI 7) (partI (conI (.int 1))) noPart)) (consA (bin2 (addP false) (tupI (consA (conI .non) nilA)) (sliceI false (varI 7) (partI (conI (.int 1))) noPart)) (consA (sliceI false (varI 7) (partI (conI (.int 1))) noPart) (consA (tupI (consA (varI 7) nilA)) nilA)))))))))) (seqI (ifI (tstB (bin2 eqP (callP lenP (consA (varI 7) nilA)) (conI (.int 3)))) (seqI (forI (walkI (lstI false (consA (bin2 subP (conI (.int 0)) (conI (.int 1))) (consA (conI (.bl true)) (consA (conI .non) (consA (conI (.str "2")) (consA (tupI (consA (conI (.int 1)) nilA)) (consA (ifE (tstB (bin2 eqP (bin2 ixP (varI 7) (conI (.int 0))) (conI (.str "count")))) (conI (.int 0)) (lstI false (consA (conI (.int 1)) nilA))) (consA (bin2 ixP (varI 7) (conI (.int 0))) nilA))))))))) (.nm 12) (seqI (dropI (lmethI appendP (varI 11) (consA (tupI (consA (bin2 ixP (varI 7) (conI (.int 0))) (consA (varI 12) (consA (bin2 ixP (varI 7) (conI (.int 2))) nilA)))) nilA))) nextI)) nextI) nextI) (seqI (forI (walkI (varI 11)) (.nm 10) (seqI (dropI (lmethI appendP (varI 2) (consA (tupI (consA (callF Γ "_law_need" (consA (callF Γ "_law_team_with" (consA (varI 4) (consA (varI 6) (consA (varI 10) nilA)))) nilA)) (consA (tupI (consA (conI (.str "refused")) (consA (conI (.str "promise")) (consA (bin2 subP (conI (.int 0)) (conI (.int 1))) nilA)))) nilA))) nilA))) nextI)) (seqI (dropI (lmethI appendP (varI 2) (consA (tupI (consA (callF Γ "_law_need" (consA (callF Γ "_law_team_with" (consA (varI 4) (consA (bin2 (addP false) (varI 6) (sliceI false (varI 6) noPart (partI (conI (.int 1))))) (consA (bin2 ixP (varI 11) (conI (.int 0))) nilA)))) nilA)) (consA (tupI (consA (conI (.str "refused")) (consA (conI (.str "lots")) (consA (bin2 subP (conI (.int 0)) (conI (.int 1))) nilA)))) nilA))) nilA))) nextI)))) D [v0, some (.ref a), some (.ref p), v3, some (liV ls), v5, some (loV lots), some (.tup pr.xs), some (.int pr.bd), v9, v10, v11, v12, v13] S := by
  have hlx := pr.xs_len
  obtain ⟨w, u, t, ex⟩ : ∃ w u t, pr.xs = w :: u :: t := by cases pr <;> exact ⟨_, _, _, rfl⟩
  have v7 : ∀ {ρ : ISt}, getS ρ 7 = getS [v0, some (.ref a), some (.ref p), v3, some (liV ls), v5, some (loV lots), some (.tup pr.xs), some (.int pr.bd), v9, v10, v11, v12, v13] 7 → EV (varI 7) ρ S (.tup pr.xs) := fun {ρ} h Q E q => by
    show getS ρ 7 fun v => Q v S
    rw [h]
    exact q
  have et : ∀ {ρ : ISt}, getS ρ 7 = getS [v0, some (.ref a), some (.ref p), v3, some (liV ls), v5, some (loV lots), some (.tup pr.xs), some (.int pr.bd), v9, v10, v11, v12, v13] 7 → EV (sliceI false (varI 7) (partI (conI (.int 1))) noPart) ρ S (.tup pr.xs.tail) := fun h => EV.sliceT (xs := pr.xs) (v7 h) (part_of (EV.con (.int 1))) (fun Q E q => q) (by rw [show (1 : Int) = ((1 : Nat) : Int) from rfl, cut_fr _ (by omega), List.drop_one])
  have eh : ∀ {ρ : ISt}, getS ρ 7 = getS [v0, some (.ref a), some (.ref p), v3, some (liV ls), v5, some (loV lots), some (.tup pr.xs), some (.int pr.bd), v9, v10, v11, v12, v13] 7 → EV (bin2 ixP (varI 7) (conI (.int 0))) ρ S (pr.xs.headD .non) := fun h => EV.ixT (xs := pr.xs) (v7 h) (EV.con (.int 0)) (by rw [ex]; exact at0)
  refine sq_lstN (vs := pr.some) (EA.cons (EV.addT (v7 rfl) (EV.tup1 (EV.con (.int 0))) (by rw [List.length_singleton, sizeLine_eq]; omega)) (EA.cons (EV.sliceT (xs := pr.xs) (v7 rfl) (fun Q E q => q) (part_of (EV.neg (EV.con (.int 1)))) (cut_m1 _)) (EA.cons (EV.listT (v7 rfl)) (EA.cons (EV.tup1 (eh rfl)) (EA.cons (EV.addT (EV.tup1 (EV.con _)) (et rfl) (by rw [List.length_tail, List.length_singleton, sizeLine_eq]; omega)) (EA.cons (EV.addT (EV.tup1 (EV.con _)) (et rfl) (by rw [List.length_tail, List.length_singleton, sizeLine_eq]; omega)) (EA.cons (et rfl) (EA.cons ((EV.tup1 (v7 rfl)).of (by rw [← Pr.val_xs])) EA.nil)))))))) (show 8 ≤ sizeLine by decide) fun l hlq => ?_
  have npl : p ≠ l := fun z => by rw [← z, L.hp] at hlq; cases hlq
  obtain ⟨la, lb⟩ := L.d.off hlq
  have L1 : LP a b p vs (S.put l (.lst pr.some)) := ⟨L.d.put la lb, by rw [put_ne npl]; exact L.hp, L.pa, L.pb, L.g⟩
  have s1 : (S.put l (.lst pr.some)) l = some (.lst pr.some) := put_same
  generalize S.put l (.lst pr.some) = S1 at L1 s1 ⊢
  -- the loop over what was made
  have fin : ∀ (os : List Val) (S2 : Sto) (v12 : Option Val), (∀ v ∈ os, NoP ls lots v) → os ≠ [] → os.length ≤ 15 → LP a b p vs S2 → S2 l = some (.lst os) → (seqI (forI (walkI (varI 11)) (.nm 10) (seqI (dropI (lmethI appendP (varI 2) (consA (tupI (consA (callF Γ "_law_need" (consA (callF Γ "_law_team_with" (consA (varI 4) (consA (varI 6) (consA (varI 10) nilA)))) nilA)) (consA (tupI (consA (conI (.str "refused")) (consA (conI (.str "promise")) (consA (bin2 subP (conI (.int 0)) (conI (.int 1))) nilA)))) nilA))) nilA))) nextI)) (seqI (dropI (lmethI appendP (varI 2) (consA (tupI (consA (callF Γ "_law_need" (consA (callF Γ "_law_team_with" (consA (varI 4) (consA (bin2 (addP false) (varI 6) (sliceI false (varI 6) noPart (partI (conI (.int 1))))) (consA (bin2 ixP (varI 11) (conI (.int 0))) nilA)))) nilA)) (consA (tupI (consA (conI (.str "refused")) (consA (conI (.str "lots")) (consA (bin2 subP (conI (.int 0)) (conI (.int 1))) nilA)))) nilA))) nilA))) nextI)) D [v0, some (.ref a), some (.ref p), v3, some (liV ls), v5, some (loV lots), some (.tup pr.xs), some (.int pr.bd), v9, v10, some (.ref l), v12, v13] S2 := fun os S2 v12 hno hne hlen L2 s2 => by
    refine sq_forappG (gd := some l) (n := 2) (t := 10) (vs := os) (acc := vs.map pp) (g := fun _ => pp rpV) (e := p) (o := v10) (fun v10 => [v0, some (.ref a), some (.ref p), v3, some (liV ls), v5, some (loV lots), some (.tup pr.xs), some (.int pr.bd), v9, v10, some (.ref l), v12, v13]) (walkR (EV.var (v := .ref l) fun _ z => z) s2) (fun S' f => (f l npl.symm).trans s2) rfl (fun _ _ => rfl) (fun _ _ z => z) L2.hp (by rw [List.length_map, sizeLine_eq]; omega) (fun v hv S' f => ?_) fun v10' S3 s3 f3 => ?_
    · obtain ⟨d1, d2⟩ := hno v hv
      exact EV.tup2 ((EV.need hN hW h1 (lots_lt h2) (d1.mono (by omega)) (EV.var fun _ z => z) (EV.var fun _ z => z) (EV.var fun _ z => z)).of (by rw [out_good h2, d2]; rfl)) ev_due
    · have L3 := L2.adds gd_r s3 f3
      have s4 : S3 l = some (.lst os) := (f3 l npl.symm).trans s2
      obtain ⟨o, r, eo⟩ : ∃ o r, os = o :: r := by
        cases os with
        | nil => exact absurd rfl hne
        | cons o r => exact ⟨o, r, rfl⟩
      obtain ⟨d1, d2⟩ := hno o (by rw [eo]; exact List.mem_cons_self)
      refine sq_app (v := pp rlV) (fun _ z => z) L3.hp (by rw [List.length_map, List.length_append, List.length_map, sizeLine_eq]; omega) (EV.tup2 ((EV.need hN hW h1 (lots_lt2 h2) (d1.mono (by omega)) (EV.var fun _ z => z) (EV.of (EV.addT (EV.var (v := loV lots) fun _ z => z) (EV.sliceT (xs := lots.map tiV) (EV.var fun _ z => z) (fun Q E q => q) (part_of (EV.con (.int 1))) (cut_to (k := 1) _ ?_)) ?_) ?_) (EV.ixR (EV.var (v := .ref l) fun _ z => z) s4 (EV.con (.int 0)) (by rw [eo]; exact at0))).of (out_again h2)) ev_due) ?_
      · have := h2.ne
        rw [List.length_map]
        exact List.length_pos_iff.mpr this
      · have := h2.len
        rw [List.length_take, List.length_map, sizeLine_eq]
        omega
      · rw [← List.map_take, ← List.map_append]
        rfl
      · exact q _ _ _ _ _ (L3.add gd_l) (by rw [List.length_append, List.length_append, List.length_map, List.length_singleton]; omega)
  have hs := some_no (lots := lots) ok
  have h3 := three_no (lots := lots) ok
  have e3 : EV (callP lenP (consA (varI 7) nilA)) [v0, some (.ref a), some (.ref p), v3, some (liV ls), v5, some (loV lots), some (.tup pr.xs), some (.int pr.bd), v9, v10, some (.ref l), v12, v13] S1 (.int pr.xs.length) := EV.lenT (EV.var fun _ z => z)
  by_cases hh : ∃ vs, pr = .hold vs
  · obtain ⟨rs, rfl⟩ := hh
    refine sq_if_n (TT.eqI e3 (EV.con (.int 3)) rfl) ?_
    exact fin _ S1 v12 hs nofun (show 8 ≤ 15 by decide) L1 s1
  · have el : pr.xs.length = 3 := by
      cases pr with
      | hold rs => exact absurd ⟨rs, rfl⟩ hh
      | _ => rfl
    refine sq_if_t (TT.eqI e3 (EV.con (.int 3)) (by rw [el]; rfl)) ?_
    refine sq_forapp (n := 11) (t := 12) (vs := pr.three) (acc := pr.some) (g := fun v => pr.mid v) (e := l) (o := v12) (fun v12 => [v0, some (.ref a), some (.ref p), v3, some (liV ls), v5, some (loV lots), some (.tup pr.xs), some (.int pr.bd), v9, v10, some (.ref l), v12, v13]) (walkL ?_) rfl (fun _ _ => rfl) (fun _ _ z => z) s1 (by rw [sizeLine_eq]; cases pr <;> simp [Pr.three, Pr.some]) (fun v hv S' f => ?_) fun v12' S2 s2 f2 => ?_
    · cases pr with
      | hold rs => exact absurd ⟨rs, rfl⟩ hh
      | count c rs => exact EV.lstA (EA.cons (EV.sub (EV.con (.int 0)) (EV.con (.int 1))) (EA.cons (EV.con _) (EA.cons (EV.con _) (EA.cons (EV.con _) (EA.cons (EV.tup1 (EV.con _)) (EA.cons (EV.ife (k := true) (TT.eqS (EV.ixT (xs := Pr.xs (.count c rs)) (EV.var (n := 7) fun _ z => z) (EV.con (.int 0)) at0) (EV.con (.str "count")) (by decide +kernel)) (EV.con (.int 0))) (EA.cons (EV.ixT (xs := Pr.xs (.count c rs)) (EV.var (n := 7) fun _ z => z) (EV.con (.int 0)) at0) EA.nil))))))) (show 7 ≤ sizeLine by decide)
      | near c rs => exact EV.lstA (EA.cons (EV.sub (EV.con (.int 0)) (EV.con (.int 1))) (EA.cons (EV.con _) (EA.cons (EV.con _) (EA.cons (EV.con _) (EA.cons (EV.tup1 (EV.con _)) (EA.cons (EV.ife (k := false) (TT.eqS (EV.ixT (xs := Pr.xs (.near c rs)) (EV.var (n := 7) fun _ z => z) (EV.con (.int 0)) at0) (EV.con (.str "count")) (by decide +kernel)) (EV.lst1 (EV.con (.int 1)))) (EA.cons (EV.ixT (xs := Pr.xs (.near c rs)) (EV.var (n := 7) fun _ z => z) (EV.con (.int 0)) at0) EA.nil))))))) (show 7 ≤ sizeLine by decide)
    · cases pr with
      | hold rs => exact absurd ⟨rs, rfl⟩ hh
      | count c rs => exact EV.tup3 (EV.ixT (xs := Pr.xs (.count c rs)) (EV.var (n := 7) fun _ z => z) (EV.con (.int 0)) at0) (EV.var fun _ z => z) (EV.ixT (xs := Pr.xs (.count c rs)) (EV.var (n := 7) fun _ z => z) (EV.con (.int 2)) rfl)
      | near c rs => exact EV.tup3 (EV.ixT (xs := Pr.xs (.near c rs)) (EV.var (n := 7) fun _ z => z) (EV.con (.int 0)) at0) (EV.var fun _ z => z) (EV.ixT (xs := Pr.xs (.near c rs)) (EV.var (n := 7) fun _ z => z) (EV.con (.int 2)) rfl)
    · have L2 : LP a b p vs S2 := by
        obtain ⟨ne, cs, mix, e1, e2, r⟩ := L1.d
        exact ⟨⟨ne, cs, mix, (f2 a la.symm).trans e1, (f2 b lb.symm).trans e2, r⟩, (f2 p npl).trans L1.hp, L.pa, L.pb, L.g⟩
      refine fin _ S2 v12' (fun v hv => ?_) (by cases pr <;> exact nofun) (by cases pr <;> simp [Pr.three, Pr.some]) L2 s2
      rcases List.mem_append.mp hv with hv | hv
      · exact hs v hv
      · obtain ⟨u, hu, rfl⟩ := List.mem_map.mp hv
        exact h3 u hu
abbrev SpTold (Γ : Calls) : Prop := ∀ (a b : Addr) (ls : List Int) (c : Int) (S : Sto) (Q : VQ) (E : EQ), Deal a b S → (ls.length ≤ 1000 ∧ ∀ m ∈ ls, 1 ≤ m ∧ m ≤ 1000) → 1 ≤ c → c ≤ 1000 → (∀ (ps : List Pr) S', ps.length = 4 → (∀ p ∈ ps, p.Ok ls) → Deal a b S' → Fr a b S S' → Q (.lst (ps.map Pr.pb)) S') → Γ "_law_told" [.ref a, liV ls, .int c] S Q E
abbrev SpSizes (Γ : Calls) : Prop := ∀ (a b : Addr) (S : Sto) (Q : VQ) (E : EQ), Deal a b S → (∀ ls S', ls ∈ szs → Deal a b S' → Fr a b S S' → Q (liV ls) S') → Γ "_law_sizes" [.ref a] S Q E
abbrev SpLots (Γ : Calls) : Prop := ∀ (a b : Addr) (m : Nat), 1 ≤ m → m ≤ 6 → ∀ (S : Sto) (Q : VQ) (E : EQ), Deal a b S → (∀ ls S', LotsOk m ls → Deal a b S' → Fr a b S S' → Q (.lst (ls.map tiV)) S') → Γ "_law_drawn_lots" [.ref a, .int m] S Q E
theorem zero_ok {m : Nat} (h : 1 < m) : LotsOk m [[0]] := ⟨nofun, by decide, List.pairwise_singleton _ _, fun l hl => by
  rw [List.mem_singleton.mp hl]
  refine ⟨?_, by simp; omega, by decide⟩
  show (true && decide ((0 : Int) < (m : Int))) = true
  rw [decide_eq_true (show (0 : Int) < (m : Int) by omega)]
  rfl⟩
theorem turn (hA : GAny Γ) (hN : SpNeed Γ) (hW : SpWith Γ) (hR : SpRows Γ) (hT : SpTold Γ) (hZ : SpSizes Γ) (hL : SpLots Γ) {v4 v6 v7 : Option Val} (L : LP a b p vs S) (hl : vs.length ≤ 500)
    (q : ∀ (vs' : List Val) (S' : Sto) (v4 v5 v6 v7 v8 v9 v10 v11 v12 v13 : Option Val), LP a b p vs' S' → vs'.length ≤ vs.length + 200 → D.nx [v0, some (.ref a), some (.ref p), v3, v4, v5, v6, v7, v8, v9, v10, v11, v12, v13] S') :
    (seqI (parI [4, 5] (consA (callF Γ "_law_sizes" (consA (varI 1) nilA)) (consA (bin2 (addP false) (conI (.int 1)) (callF Γ "_law_any" (consA (varI 1) (consA (conI (.int 6)) nilA)))) nilA))) (seqI (setI (.nm 6) (callP tupleP (consA (callF Γ "_law_drawn_lots" (consA (varI 1) (consA (callP lenP (consA (varI 4) nilA)) nilA))) nilA))) (seqI (forI (walkI (callF Γ "_law_told" (consA (varI 1) (consA (varI 4) (consA (varI 5) nilA))))) (.tp [7, 8]) (seqI (dropI (lmethI appendP (varI 2) (consA (tupI (consA (callF Γ "_law_need" (consA (callF Γ "_law_team_with" (consA (varI 4) (consA (varI 6) (consA (varI 7) nilA)))) nilA)) (consA (tupI (consA (conI (.str "told")) (consA (conI .non) nilA))) nilA))) nilA))) (seqI (forI (walkI (callF Γ "_law_rows_wrong" (consA (varI 1) (consA (varI 4) (consA (bin2 ixP (varI 7) (un1 negP (conI (.int 1)))) (consA (varI 8) nilA)))))) (.nm 9) (seqI (setI (.nm 10) (bin2 (addP false) (sliceI false (varI 7) noPart (partI (un1 negP (conI (.int 1))))) (tupI (consA (varI 9) nilA)))) (seqI (dropI (lmethI appendP (varI 2) (consA (tupI (consA (callF Γ "_law_need" (consA (callF Γ "_law_team_with" (consA (varI 4) (consA (varI 6) (consA (varI 10) nilA)))) nilA)) (consA (tupI (consA (conI (.str "refused")) (consA (conI (.str "promise")) (consA (bin2 subP (conI (.int 0)) (conI (.int 1))) nilA)))) nilA))) nilA))) nextI))) (seqI (setI (.nm 11) (lstI true (consA (bin2 (addP false) (varI 7) (tupI (consA (conI (.int 0)) nilA))) (consA (sliceI false (varI 7) noPart (partI (un1 negP (conI (.int 1))))) (consA (callP (listP false) (consA (varI 7) nilA)) (consA (tupI (consA (bin2 ixP (varI 7) (conI (.int 0))) nilA)) (consA (bin2 (addP false) (tupI (consA (conI (.str "Count")) nilA)) (sliceI false (varI 7) (partI (conI (.int 1))) noPart)) (consA (bin2 (addP false) (tupI (consA (conI .non) nilA)) (sliceI false (varI 7) (partI (conI (.int 1))) noPart)) (consA (sliceI false (varI 7) (partI (conI (.int 1))) noPart) (consA (tupI (consA (varI 7) nilA)) nilA)))))))))) (seqI (ifI (tstB (bin2 eqP (callP lenP (consA (varI 7) nilA)) (conI (.int 3)))) (seqI (forI (walkI (lstI false (consA (bin2 subP (conI (.int 0)) (conI (.int 1))) (consA (conI (.bl true)) (consA (conI .non) (consA (conI (.str "2")) (consA (tupI (consA (conI (.int 1)) nilA)) (consA (ifE (tstB (bin2 eqP (bin2 ixP (varI 7) (conI (.int 0))) (conI (.str "count")))) (conI (.int 0)) (lstI false (consA (conI (.int 1)) nilA))) (consA (bin2 ixP (varI 7) (conI (.int 0))) nilA))))))))) (.nm 12) (seqI (dropI (lmethI appendP (varI 11) (consA (tupI (consA (bin2 ixP (varI 7) (conI (.int 0))) (consA (varI 12) (consA (bin2 ixP (varI 7) (conI (.int 2))) nilA)))) nilA))) nextI)) nextI) nextI) (seqI (forI (walkI (varI 11)) (.nm 10) (seqI (dropI (lmethI appendP (varI 2) (consA (tupI (consA (callF Γ "_law_need" (consA (callF Γ "_law_team_with" (consA (varI 4) (consA (varI 6) (consA (varI 10) nilA)))) nilA)) (consA (tupI (consA (conI (.str "refused")) (consA (conI (.str "promise")) (consA (bin2 subP (conI (.int 0)) (conI (.int 1))) nilA)))) nilA))) nilA))) nextI)) (seqI (dropI (lmethI appendP (varI 2) (consA (tupI (consA (callF Γ "_law_need" (consA (callF Γ "_law_team_with" (consA (varI 4) (consA (bin2 (addP false) (varI 6) (sliceI false (varI 6) noPart (partI (conI (.int 1))))) (consA (bin2 ixP (varI 11) (conI (.int 0))) nilA)))) nilA)) (consA (tupI (consA (conI (.str "refused")) (consA (conI (.str "lots")) (consA (bin2 subP (conI (.int 0)) (conI (.int 1))) nilA)))) nilA))) nilA))) nextI))))))) (seqI (setI (.nm 13) (ifE (tstB (bin2 eqP (varI 6) (tupI (consA (tupI nilA) nilA)))) (tupI (consA (conI (.str "told")) (consA (conI .non) nilA))) (tupI (consA (conI (.str "refused")) (consA (conI (.str "promise")) (consA (bin2 subP (conI (.int 0)) (conI (.int 1))) nilA)))))) (seqI (dropI (lmethI appendP (varI 2) (consA (tupI (consA (callF Γ "_law_need" (consA (callF Γ "_law_team_with" (consA (varI 4) (consA (varI 6) (consA (tupI (consA (conI (.str "single")) nilA)) nilA)))) nilA)) (consA (varI 13) nilA))) nilA))) (seqI (dropI (lmethI appendP (varI 2) (consA (tupI (consA (callF Γ "_law_need" (consA (callF Γ "_law_team_with" (consA (varI 4) (consA (tupI (consA (tupI nilA) nilA)) (consA (tupI (consA (conI (.str "single")) nilA)) nilA)))) nilA)) (consA (tupI (consA (conI (.str "told")) (consA (conI .non) nilA))) nilA))) nilA))) (seqI (dropI (lmethI appendP (varI 2) (consA (tupI (consA (callF Γ "_law_need" (consA (callF Γ "_law_team_with" (consA (varI 4) (consA (tupI (consA (tupI nilA) nilA)) (consA (tupI (consA (conI (.str "single")) (consA (conI (.int 0)) nilA))) nilA)))) nilA)) (consA (tupI (consA (conI (.str "refused")) (consA (conI (.str "promise")) (consA (bin2 subP (conI (.int 0)) (conI (.int 1))) nilA)))) nilA))) nilA))) (seqI (ifI (tstB (bin2 gtP (callP lenP (consA (varI 4) nilA)) (conI (.int 1)))) (seqI (dropI (lmethI appendP (varI 2) (consA (tupI (consA (callF Γ "_law_need" (consA (callF Γ "_law_team_with" (consA (varI 4) (consA (tupI (consA (tupI (consA (conI (.int 0)) nilA)) nilA)) (consA (tupI (consA (conI (.str "single")) nilA)) nilA)))) nilA)) (consA (tupI (consA (conI (.str "refused")) (consA (conI (.str "promise")) (consA (bin2 subP (conI (.int 0)) (conI (.int 1))) nilA)))) nilA))) nilA))) nextI) nextI) nextI)))))))) D [v0, some (.ref a), some (.ref p), v3, v4, v5, v6, v7, v8, v9, v10, v11, v12, v13] S := by
  refine dq_par (R := fun us => ∃ ls c, us = [liV ls, .int c] ∧ ls ∈ szs ∧ 1 ≤ c ∧ c ≤ 6) (DA.cons (P1 := fun v => ∃ ls, v = liV ls ∧ ls ∈ szs) (DV.call (DA.var (fun _ z => z) (DA.nil fun S Q E hd q => hZ a b S Q E hd fun ls S' h1 hd' f => q _ S' ⟨ls, rfl, h1⟩ hd' f))) fun v hv => DA.one (DV.add (P1 := fun v => v = .int 1) (P2 := fun v => ∃ i, v = .int i ∧ 0 ≤ i ∧ i < 6) (DV.con ⟨1, rfl, rfl⟩) (DV.any hA (fun _ z => z) (by decide) (by decide) fun i i0 i1 => ⟨i, rfl, i, rfl, i0, i1⟩) fun i j hi hj => ?_)) L.d fun us S1 hus d1 f1 => ?_
  · obtain ⟨ls, rfl, h1⟩ := hv
    obtain ⟨k, hk, k0, k1⟩ := hj
    cases hi
    cases hk
    exact ⟨ls, _, rfl, h1, by omega, by omega⟩
  obtain ⟨ls, c, rfl, hls, c1, c6⟩ := hus
  refine ⟨_, rfl, ?_⟩
  have L1 := L.draw d1 f1
  have h1 : LsOk ls := szs_all ls hls
  obtain ⟨l1, l2, l3⟩ := id h1
  refine dq_set (P := fun v => ∃ lots, v = loV lots ∧ LotsOk ls.length lots) (DV.tupleL (DV.call (DA.var (fun _ z => z) (DA.one (DV.pure (fun S => (EV.lenL (xs := ls.map Val.int) (EV.var fun _ z => z)).of (by rw [List.length_map])) fun S Q E hd q => hL a b ls.length l1 l2 S Q E hd fun lots S' h hd' f => q _ S' ⟨_, rfl, lots, rfl, h⟩ hd' f))))) d1 fun v S2 hv d2 f2 => ?_
  obtain ⟨lots, rfl, h2⟩ := hv
  have L2 := L1.draw d2 f2
  -- the promises
  refine hT a b ls c S2 _ _ d2 ⟨by omega, fun m hm => ⟨(l3 m hm).1, by have := (l3 m hm).2; omega⟩⟩ c1 (by omega) fun ps S3 hlen hok d3 f3 => ?_
  have L3 := L2.draw d3 f3
  refine forGo_ind (fun r ρ S' => ∃ (vs' : List Val) (qs : List Pr) (v7 v8 v9 v10 v11 v12 : Option Val), r = qs.map Pr.pb ∧ (∀ p ∈ qs, p.Ok ls) ∧ vs'.length + 41 * qs.length ≤ vs.length + 164 ∧ LP a b p vs' S' ∧ ρ = [v0, some (.ref a), some (.ref p), v3, some (liV ls), some (.int c), some (loV lots), v7, v8, v9, v10, v11, v12, v13]) ?_ ?_ _ _ _ ⟨vs, ps, _, _, _, _, _, _, rfl, hok, by rw [hlen]; omega, L3, rfl⟩
  · rintro ρ S' ⟨vs', qs, v7, v8, v9, v10, v11, v12, _, _, hle, L', rfl⟩
    refine ⟨trivial, ?_⟩
    -- single
    have hw : EV (ifE (tstB (bin2 eqP (varI 6) (tupI (consA (tupI nilA) nilA)))) (tupI (consA (conI (.str "told")) (consA (conI .non) nilA))) (tupI (consA (conI (.str "refused")) (consA (conI (.str "promise")) (consA (bin2 subP (conI (.int 0)) (conI (.int 1))) nilA))))) [v0, some (.ref a), some (.ref p), v3, some (liV ls), some (.int c), some (loV lots), v7, v8, v9, v10, v11, v12, v13] S' (if isProm ls lots (.tup [.str "single"]) then tV else rpV) := by
      refine EV.ife (k := decide (lots = [[]])) (TT.eq (EV.var (v := loV lots) fun _ z => z) (EV.tup1 EV.tup0) (eq_lots lots)) ?_
      rw [single_is]
      cases decide (lots = [[]]) with
      | true => exact ev_told
      | false => exact ev_due
    refine sq_set hw ?_
    have dS : DD 61 (.tup [.str "single"]) := (dd_tup (n := 0) fun x hx => by rw [List.mem_singleton.mp hx]; exact dd_str _ (by decide +kernel)).mono (by omega)
    have dS0 : DD 61 (.tup [.str "single", .int 0]) := (dd_tup (n := 0) fun x hx => by
      simp only [List.mem_cons, List.not_mem_nil, or_false] at hx
      rcases hx with rfl | rfl
      · exact dd_str _ (by decide +kernel)
      · exact dd_int _ _).mono (by omega)
    have gw : Gd (if isProm ls lots (.tup [.str "single"]) then tV else rpV) := by
      cases isProm ls lots (.tup [.str "single"]) with
      | true => exact gd_t
      | false => exact gd_r
    refine sq_app (v := pp (if isProm ls lots (.tup [.str "single"]) then tV else rpV)) (fun _ z => z) L'.hp (by rw [List.length_map, sizeLine_eq]; omega) (EV.tup2 ((EV.need hN hW h1 (lots_lt h2) dS (EV.var fun _ z => z) (EV.var fun _ z => z) (EV.tup1 (EV.con _))).of (out_good h2)) (EV.var fun _ z => z)) ?_
    have L4 := L'.add gw
    have o1 : LotsOk ls.length [[]] := one_ok l1
    refine sq_app (v := pp tV) (fun _ z => z) L4.hp (by rw [List.length_map, List.length_append, List.length_singleton, sizeLine_eq]; omega) (EV.tup2 ((EV.need (lots := [[]]) hN hW h1 (lots_lt o1) dS (EV.var fun _ z => z) (EV.tup1 EV.tup0) (EV.tup1 (EV.con _))).of (by rw [out_good o1]; rfl)) ev_told) ?_
    have L5 := L4.add gd_t
    refine sq_app (v := pp rpV) (fun _ z => z) L5.hp (by rw [List.length_map, List.length_append, List.length_append, List.length_singleton, List.length_singleton, sizeLine_eq]; omega) (EV.tup2 ((EV.need (lots := [[]]) hN hW h1 (lots_lt o1) dS0 (EV.var fun _ z => z) (EV.tup1 EV.tup0) (EV.tup2 (EV.con _) (EV.con _))).of (by rw [out_good o1]; rfl)) ev_due) ?_
    have L6 := L5.add gd_r
    have elen : (vs' ++ [if isProm ls lots (.tup [.str "single"]) then tV else rpV] ++ [tV] ++ [rpV]).length = vs'.length + 3 := by simp only [List.length_append, List.length_singleton]
    refine sq_if (TT.cmp ((EV.lenL (xs := ls.map Val.int) (EV.var (v := liV ls) fun _ z => z)).of (by rw [List.length_map])) (EV.con (.int 1)) rfl) (fun e => ?_) fun e => ?_
    · have o2 : LotsOk ls.length [[0]] := zero_ok (by
        have : (1 : Int) < ls.length := of_decide_eq_true e
        omega)
      refine sq_app (v := pp rpV) (fun _ z => z) L6.hp (by rw [List.length_map, elen, sizeLine_eq]; omega) (EV.tup2 ((EV.need (lots := [[0]]) hN hW h1 (lots_lt o2) dS (EV.var fun _ z => z) (EV.tup1 (EV.tup1 (EV.con _))) (EV.tup1 (EV.con _))).of (by rw [out_good o2]; rfl)) ev_due) ?_
      exact q _ _ _ _ _ _ _ _ _ _ _ _ (L6.add gd_r) (by rw [List.length_append, elen, List.length_singleton]; omega)
    · exact q _ _ _ _ _ _ _ _ _ _ _ _ L6 (by rw [elen]; omega)
  · rintro x r ρ S' Kn hK ⟨vs', qs, v7, v8, v9, v10, v11, v12, hr, hqs, hle, L', rfl⟩
    cases qs with
    | nil => cases hr
    | cons pr qs =>
      obtain ⟨ex, er⟩ := List.cons.inj hr
      subst ex
      rw [List.length_cons] at hle
      have ok := hqs pr List.mem_cons_self
      refine ⟨trivial, ?_⟩
      have ev : pr.pb = .tup [.tup pr.xs, .int pr.bd] := by rw [← Pr.val_xs]; rfl
      rw [ev]
      have dp : DD 61 (.tup pr.xs) := (dd_tup (n := 3) (pr_dd ok)).mono (by omega)
      refine sq_app (v := pp tV) (ρ := [v0, some (.ref a), some (.ref p), v3, some (liV ls), some (.int c), some (loV lots), some (.tup pr.xs), some (.int pr.bd), v9, v10, v11, v12, v13]) (fun _ z => z) L'.hp (by rw [List.length_map, sizeLine_eq]; omega) (EV.tup2 ((EV.need hN hW h1 (lots_lt h2) dp (EV.var fun _ z => z) (EV.var fun _ z => z) (EV.var fun _ z => z)).of (by rw [out_good h2, ← Pr.val_xs, pr_good ok]; rfl)) ev_told) ?_
      have L4 := L'.add gd_t
      refine blk1 hN hW hR h1 h2 ok L4 (by rw [List.length_append, List.length_singleton]; omega) fun vs2 S5 v9 v10 L5 e5 => ?_
      rw [List.length_append, List.length_singleton] at e5
      refine blk2 hN hW h1 h2 ok L5 (by omega) fun vs3 S6 v10 v11 v12 L6 e6 => ?_
      exact hK _ _ ⟨vs3, qs, _, _, _, _, _, _, er, fun p hp => hqs p (List.mem_cons_of_mem _ hp), by omega, L6, rfl⟩
end
theorem law_ok : lawP (ptab ents) 60 "law" := by
  intro ns hns
  refine callI_of lk_law rfl ?_
  show m_law (Cl 59) (endsI true noSto (fun v _ => v = .bl true) noX) [some (.scr ns), none, none, none, none, none, none, none, none, none, none, none, none, none] noSto
  have hD := deal_ok 58
  have hA : GAny (Cl 59) := any_ok 58
  have hN : SpNeed (Cl 59) := sneed_ok 47
  have hW : SpWith (Cl 59) := with_ok 57
  have hR : SpRows (Cl 59) := rowsw_ok 57
  have hT : SpTold (Cl 59) := told_ok 56
  have hZ : SpSizes (Cl 59) := sizes_ok 56
  have hL : SpLots (Cl 59) := dlots_ok 56
  have hV := all_ok 56
  unfold m_law
  generalize Cl 59 = Γ at hD hA hN hW hR hT hZ hL hV ⊢
  refine hD ns 107 noSto _ _ hns (by decide) (by decide) fun a b S1 d1 _ _ f1 => ?_
  refine ⟨show 0 ≤ sizeLine by decide, fun p hp => ?_⟩
  obtain ⟨pa, pb⟩ := d1.off hp
  have L0 : LP a b p [] (S1.put p (.lst [])) := ⟨d1.put pa pb, put_same, pa, pb, fun _ h => by cases h⟩
  generalize S1.put p (.lst []) = S2 at L0 ⊢
  refine sq_for (rng1 (EV.con _) (by decide) (by decide)) ?_
  have el : (TL.upTo 0 (3 : Int).toNat).length = 3 := rfl
  generalize TL.upTo 0 (3 : Int).toNat = turns at el
  refine forGo_ind (fun us ρ S' => ∃ (vs : List Val) (v3 v4 v5 v6 v7 v8 v9 v10 v11 v12 v13 : Option Val), vs.length + 200 * us.length ≤ 600 ∧ LP a b p vs S' ∧ ρ = [some (.scr ns), some (.ref a), some (.ref p), v3, v4, v5, v6, v7, v8, v9, v10, v11, v12, v13]) ?_ ?_ _ _ _
    ⟨[], none, none, none, none, none, none, none, none, none, none, none, by rw [el]; decide, L0, rfl⟩
  · rintro ρ S' ⟨vs, v3, v4, v5, v6, v7, v8, v9, v10, v11, v12, v13, h1, L, rfl⟩
    refine ⟨trivial, ?_⟩
    exact hV vs S' _ _ p L.hp (by simp only [List.length_nil] at h1; omega) L.g rfl
  · rintro x us ρ S' Kn hK ⟨vs, v3, v4, v5, v6, v7, v8, v9, v10, v11, v12, v13, h1, L, rfl⟩
    refine ⟨trivial, ?_⟩
    rw [List.length_cons] at h1
    exact turn hA hN hW hR hT hZ hL L (by omega) fun vs' S'' _ _ _ _ _ _ _ _ _ _ L' hl => hK _ _ ⟨vs', _, _, _, _, _, _, _, _, _, _, _, by omega, L', rfl⟩
end K07

namespace K07
open PySem PySem.Spec L2 TL
open PyProof.Rows hiding St
/-! ### the head -/
abbrev R : PySem.W.OpenRow := PySem.W.OpenLaw.row PySem.Challenge.rw_thoughsomelie_k07_promises_are_let_exact
abbrev fas : List He.Fa := faOf tb
abbrev fns : List He.DefD := ents.map (·.df)
abbrev hk : PySem.W.Hook := hookY 6 fas fns (tsOf tb) (exB tb)
def ob (s : PySem.W.SharedT) : He.AlT := obsYG 6 fas fns (tsOf tb) (exB tb) (HandSHeadRun.getT s)
theorem ob_eq (s : PySem.W.SharedT) : ob s = hk.obs s.abs := obsYG_eq (HandSHeadRun.getT_eq s)
def looseN : List PySem.Str := (["TeamError", "Exception", "InvalidTeam", "is_integer", "is_number", "is_tuple", "first_wrong", "is_tuple_of", "is_number_row", "is_ascending", "is_lot", "is_lot_below", "COUNT", "HOLD", "NEAR", "SINGLE", "NONE", "MOST_HELD", "are_numbers", "is_count", "is_near", "is_promise", "BARE", "PAIRED", "CUT", "HOWS", "View", "is_power", "is_some_number", "is_heard"] : List PySem.Str) ++ (["are_heard", "is_plain", "are_pairs", "with_parts", "parts_or_none", "is_rule", "FAULTS", "MOVES", "ALL_OF_IT", "is_formed", "wrong_letters", "wrong_hears", "table_base", "wrong_rule", "wrong_lots", "is_word_of", "fault_behind", "team_fault", "Team", "need_team", "_law_deal", "_law_any", "_law_of", "_law_is_kind", "_law_same", "_law_all", "_law_mixed", "_law_power", "_law_upto", "_law_sizes"] : List PySem.Str) ++ (["_law_drawn_numbers", "_law_drawn_lots", "_law_need", "_law_in", "_law_team_with", "_law_rows_wrong", "_law_told"] : List PySem.Str)
set_option maxHeartbeats 0 in
theorem run (w : World) : HandSHeadRun.RunEq R (PySem.W.view R.prog [73]) hk ob 3000 looseN w := by
  intro os
  kernel_rfl
end K07

open PySem PySem.W PySem.Calls PyProof.Rows
set_option maxHeartbeats 0 in
theorem PySem.Challenge.cw_thoughsomelie_k07_promises_are_let_exact_holds : PySem.Challenge.rw_thoughsomelie_k07_promises_are_let_exact.Holds := by
  w_on; o_law
  refine HandSHeadRun.head_any (r := OpenLaw.row PySem.Challenge.rw_thoughsomelie_k07_promises_are_let_exact) (q := view (OpenLaw.row PySem.Challenge.rw_thoughsomelie_k07_promises_are_let_exact).prog [73]) (H := K07.hk) (ob := K07.ob) (M := 3000) (loose := K07.looseN) (d := HandSHeadRun.topDef (OpenLaw.row PySem.Challenge.rw_thoughsomelie_k07_promises_are_let_exact).prog 73) (kwd := []) K07.ob_eq
    (by kernel_rfl) (fun s => by kernel_rfl) K07.run (by kernel_rfl) (by kernel_rfl) (by kernel_rfl) (by rfl) (by first | assumption | decide +kernel) (by decide +kernel) ⟨rfl, rfl, rfl, rfl, rfl, by decide +kernel⟩ ?hw ?hc
  case hw => w_witness2
  case hc =>
    refine TL.walk_end (l := PySem.Challenge.rw_thoughsomelie_k07_promises_are_let_exact) (x := "script") (k := 2 * 60 + 2) (CX := fun w => L2.CX (PySem.Challenge.rw_thoughsomelie_k07_promises_are_let_exact).prog w) rfl (by kernel_rfl) ⟨rfl, by decide, by decide⟩ ?F fun w H s e s' => TL.noCX H s e s'
    intro w mg fa h Y G hmg0
    obtain ⟨K, KX, c⟩ := Y
    have hmg : mg ("law" : PySem.Str) = some (.ref fa) := by
      have e : (HandSHeadRun.topDef (OpenLaw.row PySem.Challenge.rw_thoughsomelie_k07_promises_are_let_exact).prog 73).name = ("law" : PySem.Str) := by kernel_rfl
      rw [← e]
      exact hmg0
    obtain ⟨fd, sp, h1, h2, h3⟩ := TL.facts_law (p := (PySem.Challenge.rw_thoughsomelie_k07_promises_are_let_exact).prog) (w := w) (d := 60) KX G hmg c K07.oks K07.tbs K07.kws K07.kwps K07.lk_law rfl (by decide +kernel) K07.law_ok
    exact ⟨K, fd, sp, KX, h1, h2, h3⟩


