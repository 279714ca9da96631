import PyProof.Rows.All
import Wide.All
import OpenK.AllK
import Wide.FinOn
import HandS.Deep
import HandS.More
import HandS.ForMost
import KE.LtData
import HandS.Text
import PyProof.ReprRoads
import KE.SortData
import HandS.TupMul
import HandS.Flow
import HandS.ForExc
import HandS.TupAny
import HandS.Zip
import HandS.Wide
import HandS.Style
import HandS.CallSlots
import HandS.IsInst
import HandS.SortInts
import HandS.TupLe
import HandS.Conv
import HandS.Dict
import HandS.Codes
import HandS.ExcValue
import HandS.ExcIs
import KE.KDictKeyed
import KE.GoesNew
import KE.GoesEnumKw
import HandS.WideBits
import HandS.Call
import HandS.List
import KE.DataCmp
import KE.KDictCopyH
import KE.KDictSum
import HandS.TupLen
import HandS.SortRule
import HandS.SortOrd
import HandS.Sort
import KE.DatumOrd
import HandS.ExcOwn
import PyProof.TupleOfSeq
import KE.KRevSl
import HandS.CallRecv
import HandS.SetFor
import HandS.HeadHook1
import PyProof.ExcBaseAll.ValueError
import HandS.Strs
import HandS.TupSets
import HandS.ReCall
import KE.KIndexOf
import PyProof.FactsAll.tuple_0
import PyProof.FactsAll.tuple_2
import HandS.DictComp
import KE.KUnpack
import PyProof.CollectIter
import HandS.FStr
import HandS.Iter
import HandS.Defaults
import HandS.ExcInit
import HandS.SetBool
import HandS.Ends
import HandS.EndBits
import HandS.WordsExc
import HandS.Head0
import HandS.Head1
import HandS.Head2
import HandS.HeadEnd
import HandS.HeadHook2
import PySem.Challenge.RW_huebound_k18_colours_of_ties
set_option Elab.async false
set_option linter.all false
set_option maxRecDepth 100000
/-! CORE: a small language for the defs of the laws and of the program, and its meaning as predicate transformers. -/
namespace Hb
open PySem

abbrev D := PyData
/-- a value: data, a cell of the small heap, a tuple that holds cells, a def, a caught error -/
inductive V where
  | d (x : D)
  | cell (n : Nat)
  | vt (xs : List V)
  | fn (f : Nat)
  | exc (c : Nat) (fs : List (Nat × D))
/-- what stands in a cell -/
inductive Ob where
  | dead
  | lst (xs : List D)
  | lv (xs : List V)
  | dct (t : Bool) (kvs : List (D × D))
  | ins (c : Nat) (fs : List (Nat × V))
abbrev Hp := List Ob
abbrev Env := List (Option V)
abbrev Pv := V → Hp → Prop
abbrev Px := V → Hp → Prop
abbrev Phi := Nat → List V → Hp → Pv → Px → Prop
/-- the most items of a sequence -/
abbrev big : Nat := 16777216

def optP {α : Type} (o : Option α) (Q : α → Prop) : Prop := match o with
  | some a => Q a
  | none => False

/-! ### keys and dicts -/
mutual
def eqD : D → D → Bool
  | .none, .none => true
  | .bool a, .bool b => a == b
  | .int a, .int b => a == b
  | .str a, .str b => decide (a = b)
  | .list a, .list b => eqDs a b
  | .tuple a, .tuple b => eqDs a b
  | .dict [], .dict [] => true
  | _, _ => false
def eqDs : List D → List D → Bool
  | [], [] => true
  | a :: as, b :: bs => eqD a b && eqDs as bs
  | _, _ => false
end
/-- a key: a whole number or a text; (t) a tuple of these -/
def atomD : D → Bool
  | .int _ => true
  | .str _ => true
  | _ => false
/-- numbers, and tuples of such, so deep -/
def kyD : Nat → D → Bool
  | _, .int _ => true
  | n + 1, .tuple ds => ds.all (kyD n)
  | _, _ => false
def keyB (t : Bool) (k : D) : Bool := match t with
  | false => atomD k
  | true => (match k with
    | .tuple xs => xs.all (kyD 7)
    | _ => false)
def valD (kvs : List (D × D)) (k : D) : Option D := (kvs.find? fun p => eqD p.1 k).map (·.2)
def putD (kvs : List (D × D)) (k v : D) : List (D × D) := if (kvs.any fun p => eqD p.1 k) = true then kvs.map (fun p => if eqD p.1 k = true then (p.1, v) else p) else kvs ++ [(k, v)]
/-- a dict is asked for a key -/
def dkP (kvs : List (D × D)) (k : D) (Q : Option D → Prop) : Prop := (∃ t, keyB t k = true ∧ ∀ p ∈ kvs, keyB t p.1 = true) ∧ Q (valD kvs k)

/-! ### classes of things -/
inductive Ty where
  | int | bool | str | tuple | list | dict | own (c : Nat) | verr | hue
  deriving DecidableEq

/-! ### operations on data -/
inductive O1 where
  | neg | len | tuple | list | sorted | all | any | sum | min | max | int | str | repr | setlen | rev | lrange | trange | sset | fmt | sseti | sortt | lenk | sortk
  deriving DecidableEq
inductive O2 where
  | add | sub | mul | fdiv | mod | pow | eq | ne | lt | le | gt | ge | is | isnot | in_ | notin | idx | min2 | max2 | lrange2 | trange2 | cutlo | cuthi
  deriving DecidableEq
inductive O3 where
  | cut
  deriving DecidableEq
/-- methods of texts -/
inductive Sm where
  | join | split
  deriving DecidableEq
/-- methods that change what they are called of -/
inductive Mu where
  | append | extend | pop | popat | insert | remove | reverse
  deriving DecidableEq

def asInts : List D → Option (List Int)
  | [] => some []
  | .int i :: r => (asInts r).map (i :: ·)
  | _ :: _ => none
def asBools : List D → Option (List Bool)
  | [] => some []
  | .bool b :: r => (asBools r).map (b :: ·)
  | _ :: _ => none
def insI (x : Int) : List Int → List Int
  | [] => [x]
  | y :: r => if x ≤ y then x :: y :: r else y :: insI x r
def sortI : List Int → List Int
  | [] => []
  | x :: r => insI x (sortI r)
/-- pairs of numbers, by the first, then by the second -/
def lexP (p q : Int × Int) : Bool := if p.1 = q.1 then decide (p.2 < q.2) else decide (p.1 < q.1)
def insP (x : Int × Int) : List (Int × Int) → List (Int × Int)
  | [] => [x]
  | y :: r => if lexP y x = true then y :: insP x r else x :: y :: r
def sortP : List (Int × Int) → List (Int × Int)
  | [] => []
  | x :: r => insP x (sortP r)
def prD (p : Int × Int) : D := .tuple [.int p.1, .int p.2]
def asPr : D → Option (Int × Int)
  | .tuple [.int a, .int b] => some (a, b)
  | _ => none
def asPrs : List D → Option (List (Int × Int))
  | [] => some []
  | x :: r => (match asPr x with
    | some p => (asPrs r).map (p :: ·)
    | none => none)
/-- lists of numbers, by their order -/
def asLs : List D → Option (List (List Int))
  | [] => some []
  | .list x :: r => (match asInts x with
    | some ns => (asLs r).map (ns :: ·)
    | none => none)
  | _ :: _ => none
def lsD (ns : List Int) : D := .list (ns.map PyData.int)
def sortL (ls : List (List Int)) : List (List Int) := ls.mergeSort fun a b => decide (a ≤ b)
/-- sorted -/
def sortD (xs : List D) : Option (List D) := match asInts xs with
  | some ns => some ((sortI ns).map PyData.int)
  | none => (match asPrs xs with
    | some ps => some ((sortP ps).map prD)
    | none => (asLs xs).map fun ls => (sortL ls).map lsD)
/-- each number once -/
def nubI : List Int → List Int
  | [] => []
  | x :: r => if x ∈ r then nubI r else x :: nubI r
/-- each pair once -/
def nubP : List (Int × Int) → List (Int × Int)
  | [] => []
  | x :: r => if x ∈ r then nubP r else x :: nubP r
/-- the first place of a number -/
def ixI (i : Int) : List Int → Option Nat
  | [] => none
  | x :: r => if x = i then some 0 else (ixI i r).map (· + 1)
def maxI (x : Int) : List Int → Int
  | [] => x
  | y :: r => maxI (if x < y then y else x) r
def minI (x : Int) : List Int → Int
  | [] => x
  | y :: r => minI (if y < x then y else x) r
def ranI (lo : Int) : Nat → List D
  | 0 => []
  | n + 1 => .int lo :: ranI (lo + 1) n
def ranD (hi : Int) : Nat → List D
  | 0 => []
  | n + 1 => .int hi :: ranD (hi - 1) n
def cutD {α : Type} (xs : List α) (lo hi : Option Int) : List α := (xs.drop (HT.sIx xs.length 0 lo)).take (HT.sIx xs.length xs.length hi - HT.sIx xs.length 0 lo)
def cutS (z : Str) (lo hi : Option Int) : Str := ⟨(cutD z.cps.toList lo hi).toArray⟩
/-- the signs of a text -/
def signs (z : Str) : List D := z.cps.toList.map fun c => .str ⟨#[c]⟩

def lenP (x : D) (Q : D → Prop) : Prop := match x with
  | .list xs => Q (.int xs.length)
  | .tuple xs => Q (.int xs.length)
  | .str z => z.length ≤ big ∧ Q (.int z.length)
  | .dict kvs => (∀ p ∈ kvs, keyB false p.1 = true) ∧ Q (.int kvs.length)
  | _ => False
def strInt (i : Int) : Str := Str.ofString (toString i)
/-- what repr is asked of: data without dicts (or the empty dict alone), not too long -/
def repOk (x : D) : Prop := (x = .dict [] ∨ PyData.canLay0 x = true) ∧ PyData.showable x = true ∧ PyData.depth x ≤ 200 ∧ (PyData.shown x).length ≤ big
def strsD : List D → Option (List Str)
  | [] => some []
  | .str z :: r => (strsD r).map (z :: ·)
  | _ :: _ => none
/-- tuples that sorted takes: alike, none empty, not deep -/
def sortOk (xs : List D) : Prop := PySem.W.AllAlike xs ∧ (∀ d ∈ xs, ∃ x r, d = .tuple (x :: r)) ∧ ∀ d ∈ xs, PyData.canLay0 d = true ∧ PyData.depth d ≤ 30
def op1 (o : O1) (x : D) (Q : D → Prop) : Prop := match o with
  | .neg => (match x with | .int i => Q (.int (-i)) | _ => False)
  | .len => lenP x Q
  | .tuple => (match x with | .list xs => Q (.tuple xs) | .tuple xs => Q (.tuple xs) | _ => False)
  | .list => (match x with | .list xs => Q (.list xs) | .tuple xs => Q (.list xs) | .dict kvs => (∀ p ∈ kvs, keyB true p.1 = true) ∧ Q (.list (kvs.map (·.1))) | _ => False)
  | .sorted => (match x with
    | .list xs => optP (sortD xs) fun ys => Q (.list ys)
    | .tuple xs => optP (asInts xs) fun ns => Q (.list ((sortI ns).map PyData.int))
    | _ => False)
  | .all => (match x with | .list xs => optP (asBools xs) fun bs => Q (.bool (bs.all id)) | _ => False)
  | .any => (match x with | .list xs => optP (asBools xs) fun bs => Q (.bool (bs.any id)) | _ => False)
  | .sum => (match x with | .list xs => optP (asInts xs) fun ns => Q (.int ns.sum) | _ => False)
  | .max => (match x with | .list xs => optP (asInts xs) fun ns => (match ns with | n :: r => Q (.int (maxI n r)) | [] => False) | .tuple xs => optP (asInts xs) fun ns => (match ns with | n :: r => Q (.int (maxI n r)) | [] => False) | _ => False)
  | .min => (match x with | .list xs => (match asInts xs with | some ns => (match ns with | n :: r => Q (.int (minI n r)) | [] => False) | none => optP (asPrs xs) fun ps => ∀ p ∈ ps, Q (prD p)) | .tuple xs => optP (asInts xs) fun ns => (match ns with | n :: r => Q (.int (minI n r)) | [] => False) | _ => False)
  | .int => (match x with | .int i => Q (.int i) | .bool b => Q (.int (if b = true then 1 else 0)) | .str z => z.length ≤ 640 ∧ optP (intText? z) fun i => Q (.int i) | _ => False)
  | .fmt => (match x with | .int i => (0 ≤ i ∧ i < 10 ^ 200) ∧ Q (.str (strInt i)) | .str z => z.length ≤ 100000 ∧ Q (.str z) | _ => False)
  | .str => (match x with | .int i => i.natAbs < 2 ^ 1000 ∧ Q (.str (strInt i)) | _ => False)
  | .rev => (match x with | .list xs => Q (.list xs.reverse) | .tuple xs => Q (.tuple xs.reverse) | _ => False)
  | .lrange => (match x with | .int i => (-(2 ^ 62) ≤ i ∧ i ≤ big) ∧ Q (.list (ranI 0 i.toNat)) | _ => False)
  | .trange => (match x with | .int i => (-(2 ^ 62) ≤ i ∧ i ≤ big) ∧ Q (.tuple (ranI 0 i.toNat)) | _ => False)
  | .repr => repOk x ∧ Q (.str (PyData.shown x))
  | .sset => (match x with
    | .list xs => optP (asPrs xs) fun ps => (ps.length < 64 ∧ ∀ p ∈ ps, (0 ≤ p.1 ∧ p.1 < 64) ∧ 0 ≤ p.2 ∧ p.2 < 64) ∧ Q (.list ((sortP (nubP ps)).map prD))
    | _ => False)
  | .sseti => (match x with
    | .list xs => optP (asInts xs) fun ns => ns.length < 64 ∧ Q (.list ((sortI (nubI ns)).map PyData.int))
    | _ => False)
  | .sortt => (match x with
    | .list xs => sortOk xs ∧ Q (.list (xs.mergeSort (PySem.W.dataLe false id)))
    | _ => False)
  | .lenk => (match x with
    | .dict kvs => (∀ p ∈ kvs, keyB true p.1 = true) ∧ Q (.int kvs.length)
    | _ => False)
  | .sortk => (match x with
    | .dict kvs => ((∀ p ∈ kvs, keyB true p.1 = true) ∧ sortOk (kvs.map (·.1))) ∧ Q (.list ((kvs.map (·.1)).mergeSort (PySem.W.dataLe false id)))
    | _ => False)
  | .setlen => (match x with
    | .list xs => optP (asInts xs) fun ns => ns.length ≤ 1000 ∧ Q (.int (nubI ns).length)
    | .tuple xs => optP (asInts xs) fun ns => ns.length ≤ 1000 ∧ Q (.int (nubI ns).length)
    | _ => False)

def shp (x : D) : Prop := SeqAt.shaped x = true
def eqP (x y : D) (Q : Bool → Prop) : Prop := match x, y with
  | .int i, .int j => Q (decide (i = j))
  | .str i, .str j => Q (decide (i = j))
  | .bool i, .bool j => Q (decide (i = j))
  | x, y => ((shp x ∧ shp y) ∨ (∃ xs, x = .tuple xs ∧ y = .tuple []) ∨ ∃ xs, x = .list xs ∧ y = .list []) ∧ Q (PyData.eqv x y)
def ltP (x y : D) (Q : Bool → Prop) : Prop := match x, y with
  | .int i, .int j => Q (decide (i < j))
  | .list xs, .list ys => optP (asInts xs) fun ns => optP (asInts ys) fun ms => Q (HT.lexLt ns ms)
  | .tuple xs, .tuple ys => optP (asInts xs) fun ns => optP (asInts ys) fun ms => Q (HT.lexLt ns ms)
  | _, _ => False
def leP (x y : D) (Q : Bool → Prop) : Prop := match x, y with
  | .int i, .int j => Q (decide (i ≤ j))
  | .tuple xs, .tuple ys => optP (asInts xs) fun ns => optP (asInts ys) fun ms => Q (!HT.lexLt ms ns)
  | _, _ => False
def gtP (x y : D) (Q : Bool → Prop) : Prop := match x, y with
  | .int i, .int j => Q (decide (j < i))
  | .tuple xs, .tuple ys => optP (asInts xs) fun ns => optP (asInts ys) fun ms => Q (HT.lexLt ms ns)
  | _, _ => False
/-- a text of one sign -/
def signOf (u : Str) : Option Nat := match u.cps.toList with
  | [c] => some c
  | _ => none
def inP (x y : D) (Q : Bool → Prop) : Prop := match y with
  | .list ys => shp x ∧ shp (.list ys) ∧ Q (ys.any fun z => PyData.eqv z x)
  | .tuple ys => shp x ∧ shp (.tuple ys) ∧ Q (ys.any fun z => PyData.eqv z x)
  | .dict kvs => dkP kvs x fun o => Q o.isSome
  | .str z => (match x with | .str u => optP (signOf u) fun c => Q (decide (c ∈ z.cps.toList)) | _ => False)
  | _ => False
/-- a number of a script -/
def hugeOk (i : Int) : Prop := Builtin.Int.intBits i ≤ 1048576
def okMul (i j : Int) : Prop := i.natAbs < 2 ^ 64 ∨ j.natAbs < 2 ^ 64 ∨ (i.natAbs < 2 ^ 4000 ∧ j.natAbs < 2 ^ 4000) ∨ (hugeOk i ∧ j.natAbs < 2 ^ 4000)
def addP (x y : D) (Q : D → Prop) : Prop := match x, y with
  | .int i, .int j => Q (.int (i + j))
  | .str i, .str j => i.length + j.length ≤ big ∧ Q (.str (i ++ j))
  | .tuple xs, .tuple ys => xs.length + ys.length ≤ big ∧ Q (.tuple (xs ++ ys))
  | .list xs, .list ys => xs.length + ys.length ≤ big ∧ Q (.list (xs ++ ys))
  | _, _ => False
def mulP (x y : D) (Q : D → Prop) : Prop := match x, y with
  | .int i, .int j => okMul i j ∧ Q (.int (i * j))
  | .list xs, .int j => (-(2 ^ 63) ≤ j ∧ j < 2 ^ 63 ∧ xs.length * j.toNat ≤ big) ∧ Q (.list (List.replicate j.toNat xs).flatten)
  | .tuple xs, .int j => (xs ≠ [] ∧ 2 ≤ j ∧ j ≤ 1000 ∧ xs.length ≤ 1000) ∧ Q (.tuple (List.replicate j.toNat xs).flatten)
  | .str z, .int j => (0 ≤ j ∧ j ≤ 1000 ∧ z.length ≤ 1000) ∧ ∀ y : Str, Q (.str y)
  | _, _ => False
def idxP (x y : D) (Q : D → Prop) : Prop := match x, y with
  | .list xs, .int i => optP (L2.atI xs i) Q
  | .tuple xs, .int i => optP (L2.atI xs i) Q
  | .str z, .int i => z.length ≤ big ∧ optP (L2.atI z.cps.toList i) fun c => Q (.str ⟨#[c]⟩)
  | .dict kvs, k => dkP kvs k fun o => optP o Q
  | _, _ => False
def cutP (x : D) (lo hi : Option Int) (Q : D → Prop) : Prop := match x with
  | .list xs => Q (.list (cutD xs lo hi))
  | .tuple xs => Q (.tuple (cutD xs lo hi))
  | .str z => z.length ≤ big ∧ Q (.str (cutS z lo hi))
  | _ => False
/-- a.join(xs) -/
def joinP (x y : D) (Q : D → Prop) : Prop := match x, y with
  | .str a, .list xs => optP (strsD xs) fun zs => ((zs.map (·.length)).sum + zs.length * a.length ≤ 100000) ∧ Q (.str (Txt.join a zs))
  | _, _ => False
/-- a.split(b) -/
def splitP (x y : D) (Q : D → Prop) : Prop := match x, y with
  | .str a, .str b => ((b.length == 0) = false ∧ a.length ≤ 100000) ∧ Q (.list ((Txt.split a b).map PyData.str))
  | _, _ => False
def smP (m : Sm) (x y : D) (Q : D → Prop) : Prop := match m with
  | .join => joinP x y Q
  | .split => splitP x y Q
def intP (x : D) (Q : Int → Prop) : Prop := match x with
  | .int i => Q i
  | _ => False
def op2 (o : O2) (x y : D) (Q : D → Prop) : Prop := match o with
  | .add => addP x y Q
  | .sub => intP x fun i => intP y fun j => Q (.int (i - j))
  | .mul => mulP x y Q
  | .fdiv => intP x fun i => intP y fun j => (0 < j ∧ j < 2 ^ 4000) ∧ Q (.int (i / j))
  | .mod => intP x fun i => intP y fun j => 0 < j ∧ Q (.int (i % j))
  | .pow => intP x fun i => intP y fun j => (0 ≤ j ∧ j ≤ 64 ∧ i.natAbs < 2 ^ 4000) ∧ Q (.int (i ^ j.toNat))
  | .eq => eqP x y fun b => Q (.bool b)
  | .ne => eqP x y fun b => Q (.bool (!b))
  | .lt => ltP x y fun b => Q (.bool b)
  | .le => leP x y fun b => Q (.bool b)
  | .gt => gtP x y fun b => Q (.bool b)
  | .ge => intP x fun i => intP y fun j => Q (.bool (decide (j ≤ i)))
  | .in_ => inP x y fun b => Q (.bool b)
  | .notin => inP x y fun b => Q (.bool (!b))
  | .idx => idxP x y Q
  | .min2 => intP x fun i => intP y fun j => Q (.int (if j < i then j else i))
  | .max2 => intP x fun i => intP y fun j => Q (.int (if i < j then j else i))
  | .lrange2 => intP x fun i => intP y fun j => (-(2 ^ 62) ≤ i ∧ i < 2 ^ 62 ∧ -(2 ^ 62) ≤ j ∧ j < 2 ^ 62 ∧ j - i ≤ big) ∧ Q (.list (ranI i (j - i).toNat))
  | .trange2 => intP x fun i => intP y fun j => (-(2 ^ 62) ≤ i ∧ i < 2 ^ 62 ∧ -(2 ^ 62) ≤ j ∧ j < 2 ^ 62 ∧ j - i ≤ big) ∧ Q (.tuple (ranI i (j - i).toNat))
  | .cutlo => intP y fun i => cutP x (some i) none Q
  | .cuthi => intP y fun i => cutP x none (some i) Q
  | .is => False
  | .isnot => False
/-! ### values and cells -/
/-- a value as data, cells read -/
def rdV (h : Hp) : V → Option D
  | .d x => some x
  | .cell n => (match h[n]? with | some (.lst xs) => some (.list xs) | some (.dct _ kvs) => some (.dict kvs) | _ => none)
  | _ => none
def allD : List V → Option (List D)
  | [] => some []
  | .d x :: r => (allD r).map (x :: ·)
  | _ :: _ => none
def mkTup (vs : List V) : V := match allD vs with
  | some ds => .d (.tuple ds)
  | none => .vt vs
def mkOb (vs : List V) : Ob := match allD vs with
  | some ds => .lst ds
  | none => .lv vs
/-- a is b, where b is None, True or False -/
def isP (x y : V) (Q : Bool → Prop) : Prop := match y with
  | .d .none => (match x with | .d .none => Q true | _ => Q false)
  | .d (.bool b) => (match x with | .d (.bool a) => Q (decide (a = b)) | _ => False)
  | _ => False
def idxV (h : Hp) (x y : V) (Q : V → Prop) : Prop := match x with
  | .vt xs => (match y with | .d (.int i) => optP (L2.atI xs i) Q | _ => False)
  | .cell n => (match h[n]? with
    | some (.lv xs) => (match y with | .d (.int i) => optP (L2.atI xs i) Q | _ => False)
    | some (.lst xs) => (match y with | .d (.int i) => optP (L2.atI xs i) fun z => Q (.d z) | _ => False)
    | some (.dct _ kvs) => optP (rdV h y) fun k => dkP kvs k fun o => optP o fun z => Q (.d z)
    | _ => False)
  | .d a => optP (rdV h y) fun b => idxP a b fun z => Q (.d z)
  | _ => False
def o1V (o : O1) (h : Hp) (x : V) (Q : V → Prop) : Prop := match o with
  | .len => (match x with
    | .vt xs => Q (.d (.int xs.length))
    | .cell n => (match h[n]? with
      | some (.lst xs) => Q (.d (.int xs.length))
      | some (.lv xs) => Q (.d (.int xs.length))
      | some (.dct _ kvs) => (∀ p ∈ kvs, keyB false p.1 = true) ∧ Q (.d (.int kvs.length))
      | _ => False)
    | .d a => lenP a fun z => Q (.d z)
    | _ => False)
  | o => optP (rdV h x) fun a => op1 o a fun z => Q (.d z)
def o2V (o : O2) (h : Hp) (x y : V) (Q : V → Prop) : Prop := match o with
  | .is => isP x y fun b => Q (.d (.bool b))
  | .isnot => isP x y fun b => Q (.d (.bool (!b)))
  | .idx => idxV h x y Q
  | o => optP (rdV h x) fun a => optP (rdV h y) fun b => op2 o a b fun z => Q (.d z)
def intV : V → Option Int
  | .d (.int i) => some i
  | _ => none
/-- isinstance -/
def isTy (h : Hp) (x : V) (t : Ty) : Bool := match x with
  | .d (.bool _) => decide (t = .bool) || decide (t = .int)
  | .d (.int _) => decide (t = .int)
  | .d (.str _) => decide (t = .str)
  | .d (.tuple _) => decide (t = .tuple)
  | .d (.list _) => decide (t = .list)
  | .d (.dict _) => decide (t = .dict)
  | .d .none => false
  | .vt _ => decide (t = .tuple)
  | .cell n => (match h[n]? with
    | some (.lst _) => decide (t = .list)
    | some (.lv _) => decide (t = .list)
    | some (.dct _ _) => decide (t = .dict)
    | some (.ins c _) => decide (t = .own c)
    | _ => false)
  | .fn _ => false
  | .exc c _ => decide (t = .own c) || decide (t = .hue) || decide (t = .verr)
def clsTy : Ty → Bool
  | .own _ => true | .verr => true | .hue => true | _ => false
def isiP (h : Hp) (x : V) (tys : List Ty) (Q : Bool → Prop) : Prop := match x with
  | .fn _ => False
  | .cell n => (match h[n]? with
    | some .dead => False
    | some (.ins _ _) => False
    | some _ => Q (tys.any fun t => isTy h x t)
    | none => False)
  | .exc c fs => (fs = fs ∧ tys.all clsTy = true) ∧ Q (tys.any fun t => isTy h (.exc c fs) t)
  | x => Q (tys.any fun t => isTy h x t)
/-- a list stands in the cell -/
def lstAt (h : Hp) (v : V) (Q : Prop) : Prop := match v with
  | .cell n => (match h[n]? with
    | some (.lst _) => Q
    | some (.lv _) => Q
    | _ => False)
  | _ => False
/-- the items of what is walked, and what must stay while it is -/
def itemsV (h : Hp) (x : V) (Q : (Hp → Prop) → List V → Prop) : Prop := match x with
  | .d (.list xs) => Q (fun _ => True) (xs.map V.d)
  | .d (.tuple xs) => Q (fun _ => True) (xs.map V.d)
  | .d (.str z) => Q (fun _ => True) ((signs z).map V.d)
  | .vt xs => Q (fun _ => True) xs
  | .cell n => (match h[n]? with
    | some (.lst xs) => Q (fun h' => h'[n]? = some (.lst xs)) (xs.map V.d)
    | some (.lv xs) => Q (fun h' => h'[n]? = some (.lv xs)) xs
    | _ => False)
  | _ => False
/-- the items as data -/
def ditemsV (h : Hp) (x : V) (Q : (Hp → Prop) → List D → Prop) : Prop := match x with
  | .d (.list xs) => Q (fun _ => True) xs
  | .d (.tuple xs) => Q (fun _ => True) xs
  | .cell n => (match h[n]? with
    | some (.lst xs) => Q (fun h' => h'[n]? = some (.lst xs)) xs
    | _ => False)
  | _ => False
def enumD (k : Int) : List D → List V
  | [] => []
  | x :: r => .d (.tuple [.int k, x]) :: enumD (k + 1) r
def zipD : List D → List D → List V
  | x :: r, y :: s => .d (.tuple [x, y]) :: zipD r s
  | _, _ => []
def zip3D : List D → List D → List D → List V
  | x :: r, y :: s, z :: t => .d (.tuple [x, y, z]) :: zip3D r s t
  | _, _, _ => []
/-- a tuple or list that is told to targets -/
def partsV (h : Hp) (x : V) (Q : List V → Prop) : Prop := match x with
  | .d (.tuple xs) => Q (xs.map V.d)
  | .d (.list xs) => Q (xs.map V.d)
  | .vt xs => Q xs
  | .cell n => (match h[n]? with
    | some (.lst xs) => Q (xs.map V.d)
    | some (.lv xs) => Q xs
    | _ => False)
  | _ => False
/-- a list of data, a tuple -/
def dlistV (h : Hp) (x : V) (Q : List D → Prop) : Prop := match x with
  | .d (.list xs) => Q xs
  | .d (.tuple xs) => Q xs
  | .cell n => (match h[n]? with
    | some (.lst xs) => Q xs
    | _ => False)
  | _ => False
/-- x.m(args), the value told and the heap behind it -/
def mutL (m : Mu) (xs : List D) (vs : List V) (h : Hp) (Q : V → List D → Prop) : Prop := match m, vs with
  | .append, [.d y] => xs.length < big ∧ Q (.d .none) (xs ++ [y])
  | .extend, [v] => optP (rdV h v) fun a => (match a with
    | .list ys => xs.length + ys.length ≤ big ∧ Q (.d .none) (xs ++ ys)
    | .tuple ys => xs.length + ys.length ≤ big ∧ Q (.d .none) (xs ++ ys)
    | _ => False)
  | .pop, [] => optP xs.getLast? fun y => Q (.d y) xs.dropLast
  | .popat, [.d (.int i)] => optP (L2.ixN xs.length i) fun k => optP xs[k]? fun y => Q (.d y) (xs.eraseIdx k)
  | .insert, [.d (.int i), .d y] => (xs.length < big ∧ 0 ≤ i ∧ i < 2 ^ 63) ∧ Q (.d .none) (xs.take i.toNat ++ [y] ++ xs.drop i.toNat)
  | .reverse, [] => Q (.d .none) xs.reverse
  | _, _ => False
def mutV (m : Mu) (o : V) (vs : List V) (h : Hp) (P : Pv) : Prop := match o with
  | .cell n => (match h[n]? with
    | some (.lst xs) => mutL m xs vs h fun v ys => P v (h.set n (.lst ys))
    | _ => False)
  | _ => False
/-- x[i] = v -/
def setV (o i v : V) (h : Hp) (Q : Hp → Prop) : Prop := match o with
  | .cell n => (match h[n]? with
    | some (.lst xs) => (match i, v with
      | .d (.int k), .d y => optP (L2.ixN xs.length k) fun j => Q (h.set n (.lst (xs.set j y)))
      | _, _ => False)
    | some (.dct t kvs) => (match i, v with
      | .d k, .d y => (keyB t k = true ∧ kvs.length < big) ∧ Q (h.set n (.dct t (putD kvs k y)))
      | _, _ => False)
    | _ => False)
  | _ => False
/-- a dict stands there -/
def dicAt (h : Hp) (v : V) (Q : Prop) : Prop := match v with
  | .d (.dict _) => Q
  | .cell n => (match h[n]? with
    | some (.dct _ _) => Q
    | _ => False)
  | _ => False
/-- a tuple, or a list, stands there -/
def seqAt (tp : Bool) (h : Hp) (v : V) (Q : Prop) : Prop := match tp with
  | true => (match v with
    | .d (.tuple _) => Q
    | _ => False)
  | false => (match v with
    | .d (.list _) => Q
    | .cell n => (match h[n]? with
      | some (.lst _) => Q
      | _ => False)
    | _ => False)
/-- one of these defs -/
def fnIn (v : V) (fs : List Nat) (Q : Nat → Prop) : Prop := match v with
  | .fn f => f ∈ fs ∧ Q f
  | _ => False
/-- a text's signs -/
def intVP (v : V) (Q : Int → Prop) : Prop := match v with
  | .d (.int i) => Q i
  | _ => False
def strV (v : V) (Q : Str → Prop) : Prop := match v with
  | .d (.str z) => Q z
  | _ => False
/-- a text stands there -/
def strAt (v : V) (Q : Prop) : Prop := match v with
  | .d (.str _) => Q
  | _ => False
/-- whether a list has items -/
def lstP (x : V) (Q : Bool → Prop) : Prop := match x with
  | .d (.list xs) => Q (!xs.isEmpty)
  | _ => False
/-- the first place of an equal one -/
def ixD (y : D) : List D → Option Nat
  | [] => none
  | x :: r => if PyData.eqv x y = true then some 0 else (ixD y r).map (· + 1)
/-- x.index(y), numbers -/
def ixP (x y : D) (Q : D → Prop) : Prop := match x with
  | .tuple xs => optP (asInts xs) fun ns => intP y fun i => optP (ixI i ns) fun k => Q (.int k)
  | .list xs => (match asInts xs with
    | some ns => intP y fun i => optP (ixI i ns) fun k => Q (.int k)
    | none => (shp (.list xs) ∧ shp y) ∧ optP (ixD y xs) fun k => Q (.int k))
  | _ => False
/-- an instance of the class c stands there -/
def insAt (h : Hp) (c : Nat) (v : V) (Q : Prop) : Prop := match v with
  | .cell n => (match h[n]? with
    | some (.ins c' _) => c' = c ∧ Q
    | _ => False)
  | _ => False
/-- x.f -/
def fldV (h : Hp) (c : Nat) (v : V) (f : Nat) (Q : V → Prop) : Prop := match v with
  | .cell n => (match h[n]? with
    | some (.ins c' fs) => c' = c ∧ optP (fs.lookup f) Q
    | _ => False)
  | _ => False
def putI : List (Nat × V) → Nat → V → List (Nat × V)
  | [], g, v => [(g, v)]
  | p :: fs, g, v => if p.1 = g then (p.1, v) :: fs else p :: putI fs g v
/-- x.f = y -/
def setF (h : Hp) (c : Nat) (x : V) (f : Nat) (y : V) (Q : Hp → Prop) : Prop := match x with
  | .cell n => (match h[n]? with
    | some (.ins c' fs) => (c' = c ∧ fs.length < 1000) ∧ Q (h.set n (.ins c' (putI fs f y)))
    | _ => False)
  | _ => False

/-- the numbers of rows, each once, as they come first -/
def addI (acc : List Int) (i : Int) : List Int := if i ∈ acc then acc else acc ++ [i]
def ptsD (ns : List Int) : List (D × D) := (ns.foldl addI []).map fun i => (.int i, .bool true)
def asTups : List V → Option (List (List Int))
  | [] => some []
  | .d (.tuple xs) :: r => (match asInts xs with
    | some a => (asTups r).map (a :: ·)
    | none => none)
  | _ :: _ => none
/-! ### the language -/
inductive T where
  | nil | cons (a r : T)
  -- expressions
  | var (i : Nat) | con (c : D) | gco (g : Nat) (c : D) | fnv (f : Nat)
  | o1 (o : O1) (a : T) | o2 (o : O2) (a b : T) | o3 (o : O3) (a b c : T)
  | and (a b : T) | or (a b : T) | not (a : T) | ite (c a b : T) | chn (o p : O2) (a b c : T)
  | tup (es : T) | lst (own : Bool) (es : T) | edic | dnew (t : Bool) | dget (a k : T) | dget2 (a k d : T)
  | fld (c : Nat) (o : T) (f : Nat) | make (c g : Nat) (args : T) | meth (c g : Nat) (o args : T)
  | isi (a : T) (tys : List Ty)
  | call (f : Nat) (args : T) | callk (f : Nat) (args kws : T) (ord : List Nat)
  | callf (i : Nat) (fs : List Nat) (args : T)
  | mtd (m : Mu) (o args : T)
  | own (a : T) | xfl (o : T) (f : Nat) | dcp (t : Bool) (a : T) | dzp (t : Bool) (a b : T) | mkx (c : Nat) (fs : List Nat) (args : T)
  | dkin (ws : List Str) (a : T) | dkni (ws : List Str) (a : T) | eqk (c : D) (a : T) | dkix (kvs : List (Str × Nat)) (a : T) | dknm (kvs : List (Str × Nat)) (a : T) | smt (m : Sm) (a b : T) | ixof (tp : Bool) (a b : T) | orl (a b : T) | catv (a b : T)
  | cmp1 (own : Bool) (it tg ifs elt : T) (ws : List Nat)
  | scm (it tg ifs elt : T) (ws : List Nat)
  | cmp2 (own : Bool) (it tg ifs it2 tg2 ifs2 elt : T) (ws ws2 : List Nat)
  | dpt (a : T) (i j : Nat) (ws ws2 : List Nat)
  -- what is walked
  | dkit (ws : List Str) | itv (a : T) | rng1 (a : T) | rng2 (a b : T) | rngd (a b : T) | enm (k : Int) (a : T) | zip2 (a b : T) | zip3 (a b c : T)
  -- targets
  | tnm (i : Nat) | ttp (ts : T) | tst (i : Nat) (ts : T) | tsb (o i : T) | tsf (c : Nat) (o : T) (f : Nat) | tsl (o i j : T)
  -- statements
  | exp (a : T) | asg (tg a : T) | augn (o : O2) (i : Nat) (a : T) | augs (o : O2) (e j a : T) | ifs (c a b : T) | for_ (tg it body : T) | whl (c body : T)
  | ret (a : T) | ret0 | brk | cnt | pas | kill (ks : List Nat) | frz (i : Nat)
  | rai (c : Nat) | try_ (body : T) (i y : Nat) | raf (c : Nat) (fs : List Nat) (args : T) | asg2 (t1 t2 a : T)

/-- what is wanted behind a statement, but for its plain end -/
structure Kk where
  rt : V → Hp → Prop
  bk : Env → Hp → Prop
  ct : Env → Hp → Prop
  xe : V → Env → Hp → Prop

def wipeE (env : Env) : List Nat → Env
  | [] => env
  | i :: r => (wipeE env r).set i none
/-- arguments in the parameters' order -/
def perm {α : Type} (ord : List Nat) (xs : List α) : List α := ord.filterMap fun i => xs[i]?
def tlen : T → Nat
  | .cons _ r => tlen r + 1
  | _ => 0
/-- the lists of some cells, data from here on -/
def frzL (h : Hp) : List V → Option (List D × Hp)
  | [] => some ([], h)
  | .cell m :: r => (match h[m]? with
    | some (.lst xs) => (frzL (h.set m .dead) r).map fun p => (.list xs :: p.1, p.2)
    | _ => none)
  | _ :: _ => none
def frzE (env : Env) (h : Hp) (i : Nat) (Q : Env → Hp → Prop) : Prop := match env[i]? with
  | some (some (.cell n)) => (match h[n]? with
    | some (.lst xs) => Q (env.set i (some (.d (.list xs)))) (h.set n .dead)
    | some (.dct _ kvs) => Q (env.set i (some (.d (.dict kvs)))) (h.set n .dead)
    | some (.lv xs) => optP (frzL (h.set n .dead) xs) fun p => Q (env.set i (some (.d (.list p.1)))) p.2
    | _ => False)
  | some (some (.d x)) => Q env h
  | _ => False

abbrev Nx := Env → Hp → Prop
def forW0 (chk : Hp → Prop) (body : V → Env → Hp → Nx → Kk → Prop) : List V → Env → Hp → Nx → Kk → Prop
  | [], env, h, n, _ => chk h ∧ n env h
  | x :: r, env, h, n, k => chk h ∧ body x env h (fun e h' => forW0 chk body r e h' n k) ⟨k.rt, n, fun e h' => forW0 chk body r e h' n k, k.xe⟩
/-- a comprehension's turns: the items made so far -/
def cmpW0 (chk : Hp → Prop) (turn : V → Hp → (Option V → Hp → Prop) → Prop) : List V → List V → Hp → (List V → Hp → Prop) → Prop
  | [], acc, h, Q => chk h ∧ Q acc h
  | x :: r, acc, h, Q => chk h ∧ turn x h fun o h' => (match o with
    | some v => acc.length < big ∧ cmpW0 chk turn r (acc ++ [v]) h' Q
    | none => cmpW0 chk turn r acc h' Q)
/-- the outer turns of two fors -/
def cmpW20 (chk : Hp → Prop) (turn : V → List V → Hp → (List V → Hp → Prop) → Prop) : List V → List V → Hp → (List V → Hp → Prop) → Prop
  | [], acc, h, Q => chk h ∧ Q acc h
  | x :: r, acc, h, Q => chk h ∧ turn x acc h fun acc' h' => cmpW20 chk turn r acc' h' Q
def whileN0 (c : Env → Hp → (Bool → Hp → Prop) → Prop) (body : Env → Hp → Nx → Kk → Prop) : Nat → Env → Hp → Nx → Kk → Prop
  | 0, _, _, _, _ => False
  | m + 1, env, h, n, k => c env h fun t h1 => (match t with
    | true => body env h1 (fun e h' => whileN0 c body m e h' n k) ⟨k.rt, n, fun e h' => whileN0 c body m e h' n k, k.xe⟩
    | false => n env h1)
@[irreducible] def forW (chk : Hp → Prop) (body : V → Env → Hp → Nx → Kk → Prop) (xs : List V) (env : Env) (h : Hp) (n : Nx) (k : Kk) : Prop := forW0 chk body xs env h n k
@[irreducible] def cmpW (chk : Hp → Prop) (turn : V → Hp → (Option V → Hp → Prop) → Prop) (xs acc : List V) (h : Hp) (Q : List V → Hp → Prop) : Prop := cmpW0 chk turn xs acc h Q
@[irreducible] def cmpW2 (chk : Hp → Prop) (turn : V → List V → Hp → (List V → Hp → Prop) → Prop) (xs acc : List V) (h : Hp) (Q : List V → Hp → Prop) : Prop := cmpW20 chk turn xs acc h Q
@[irreducible] def whileN (c : Env → Hp → (Bool → Hp → Prop) → Prop) (body : Env → Hp → Nx → Kk → Prop) (m : Nat) (env : Env) (h : Hp) (n : Nx) (k : Kk) : Prop := whileN0 c body m env h n k
theorem forW_eq : @forW = @forW0 := by unfold forW; rfl
theorem cmpW_eq : @cmpW = @cmpW0 := by unfold cmpW; rfl
theorem cmpW2_eq : @cmpW2 = @cmpW20 := by unfold cmpW2; rfl
theorem whileN_eq : @whileN = @whileN0 := by unfold whileN; rfl
section
variable {chk : Hp → Prop} {body : V → Env → Hp → Nx → Kk → Prop} {env : Env} {h : Hp} {n : Nx} {k : Kk}
theorem forW_in (q : forW chk body [] env h n k) : chk h ∧ n env h := by rw [forW_eq] at q; exact q
theorem forW_ic {x : V} {r : List V} (q : forW chk body (x :: r) env h n k) : chk h ∧ body x env h (fun e h' => forW chk body r e h' n k) ⟨k.rt, n, fun e h' => forW chk body r e h' n k, k.xe⟩ := by rw [forW_eq] at q ⊢; exact q
end
section
variable {chk : Hp → Prop} {turn : V → Hp → (Option V → Hp → Prop) → Prop} {acc : List V} {h : Hp} {Q : List V → Hp → Prop}
theorem cmpW_in (q : cmpW chk turn [] acc h Q) : chk h ∧ Q acc h := by rw [cmpW_eq] at q; exact q
theorem cmpW_ic {x : V} {r : List V} (q : cmpW chk turn (x :: r) acc h Q) : chk h ∧ turn x h fun o h' => (match o with
    | some v => acc.length < big ∧ cmpW chk turn r (acc ++ [v]) h' Q
    | none => cmpW chk turn r acc h' Q) := by rw [cmpW_eq] at q ⊢; exact q
end
section
variable {chk : Hp → Prop} {turn : V → List V → Hp → (List V → Hp → Prop) → Prop} {acc : List V} {h : Hp} {Q : List V → Hp → Prop}
theorem cmpW2_in (q : cmpW2 chk turn [] acc h Q) : chk h ∧ Q acc h := by rw [cmpW2_eq] at q; exact q
theorem cmpW2_ic {x : V} {r : List V} (q : cmpW2 chk turn (x :: r) acc h Q) : chk h ∧ turn x acc h fun acc' h' => cmpW2 chk turn r acc' h' Q := by rw [cmpW2_eq] at q ⊢; exact q
end
section
variable {c : Env → Hp → (Bool → Hp → Prop) → Prop} {body : Env → Hp → Nx → Kk → Prop} {m : Nat} {env : Env} {h : Hp} {n : Nx} {k : Kk}
theorem whileN_i0 (q : whileN c body 0 env h n k) : False := by rw [whileN_eq] at q; exact q
theorem whileN_is (q : whileN c body (m + 1) env h n k) : c env h fun t h1 => (match t with
    | true => body env h1 (fun e h' => whileN c body m e h' n k) ⟨k.rt, n, fun e h' => whileN c body m e h' n k, k.xe⟩
    | false => n env h1) := by rw [whileN_eq] at q ⊢; exact q
end
/-- a made list: data, or a new cell -/
def mkL (own : Bool) (vs : List V) (h : Hp) (P : Pv) : Prop := match own with
  | false => optP (allD vs) fun ds => P (.d (.list ds)) h
  | true => P (.cell h.length) (h ++ [mkOb vs])
/-- x op= y of numbers -/
def augV (o : O2) (x y : V) (Q : V → Prop) : Prop := match x, y with
  | .d (.int m), .d (.int n) => (match o with
    | .add => Q (.d (.int (m + n)))
    | .sub => Q (.d (.int (m - n)))
    | .mul => okMul m n ∧ Q (.d (.int (m * n)))
    | _ => False)
  | _, _ => False
def excV (v : V) (Q : List (Nat × D) → Prop) : Prop := match v with
  | .exc _ fs => Q fs
  | _ => False
def dicP (x : D) (Q : List (D × D) → Prop) : Prop := match x with
  | .dict kvs => Q kvs
  | _ => False
/-- x[i:j] = v -/
def setSl (x y z v : V) (h : Hp) (Q : Hp → Prop) : Prop := match x with
  | .cell n => (match h[n]? with
    | some (.lst xs) => (match y, z, v with
      | .d (.int i), .d (.int j), .d (.list ys) => (0 ≤ i ∧ i ≤ j ∧ j ≤ xs.length ∧ xs.length + ys.length ≤ big) ∧ Q (h.set n (.lst (xs.take i.toNat ++ ys ++ xs.drop j.toNat)))
      | _, _, _ => False)
    | _ => False)
  | _ => False
/-- a list that holds more than data -/
def lvV (h : Hp) (v : V) (Q : List V → Prop) : Prop := match v with
  | .cell n => (match h[n]? with
    | some (.lv xs) => Q xs
    | _ => False)
  | _ => False
def boolP (v : V) (Q : Bool → Prop) : Prop := match v with
  | .d (.bool b) => Q b
  | _ => False

section
variable (F : Phi)
mutual
def WE : T → Env → Hp → Pv → Px → Prop
  | .var i, env, h, P, _ => optP env[i]? fun o => optP o fun v => P v h
  | .con c, _, h, P, _ => P (.d c) h
  | .gco _ c, _, h, P, _ => P (.d c) h
  | .fnv f, _, h, P, _ => P (.fn f) h
  | .o1 o a, env, h, P, X => WE a env h (fun x h1 => o1V o h1 x fun z => P z h1) X
  | .o2 o a b, env, h, P, X => WE a env h (fun x h1 => WE b env h1 (fun y h2 => o2V o h2 x y fun z => P z h2) X) X
  | .o3 _ a b c, env, h, P, X => WE a env h (fun x h1 => WE b env h1 (fun y h2 => optP (intV y) fun i => WE c env h2 (fun w h3 => optP (intV w) fun j => optP (rdV h3 x) fun d =>
      cutP d (some i) (some j) fun z => P (.d z) h3) X) X) X
  | .and a b, env, h, P, X => WE a env h (fun x h1 => boolP x fun t => match t with | true => WE b env h1 P X | false => P (.d (.bool false)) h1) X
  | .or a b, env, h, P, X => WE a env h (fun x h1 => boolP x fun t => match t with | true => P (.d (.bool true)) h1 | false => WE b env h1 P X) X
  | .not a, env, h, P, X => WE a env h (fun x h1 => boolP x fun t => P (.d (.bool (!t))) h1) X
  | .ite c a b, env, h, P, X => WE c env h (fun x h1 => boolP x fun t => match t with | true => WE a env h1 P X | false => WE b env h1 P X) X
  | .chn o p a b c, env, h, P, X => WE a env h (fun x h1 => WE b env h1 (fun y h2 => o2V o h2 x y fun z => boolP z fun t => match t with
      | true => WE c env h2 (fun w h3 => o2V p h3 y w fun z => P z h3) X
      | false => P (.d (.bool false)) h2) X) X
  | .tup es, env, h, P, X => WEs es env h (fun vs h1 => vs.length ≤ big ∧ P (mkTup vs) h1) X
  | .lst o es, env, h, P, X => WEs es env h (fun vs h1 => vs.length ≤ big ∧ mkL o vs h1 P) X
  | .edic, _, h, P, _ => P (.d (.dict [])) h
  | .dnew t, _, h, P, _ => P (.cell h.length) (h ++ [.dct t []])
  | .dget a k, env, h, P, X => WE a env h (fun v h1 => dicAt h1 v (WE k env h1 (fun y h2 => optP (rdV h2 v) fun x => optP (rdV h2 y) fun k => (match x with
      | .dict kvs => dkP kvs k fun o => P (.d (o.getD .none)) h2
      | _ => False)) X)) X
  | .dget2 a k d, env, h, P, X => WE a env h (fun v h1 => dicAt h1 v (WE k env h1 (fun y h2 => WE d env h2 (fun u h3 => optP (rdV h3 v) fun x => optP (rdV h3 y) fun k => (match u with
      | .d e => (match x with
        | .dict kvs => dkP kvs k fun o => P (.d (o.getD e)) h3
        | _ => False)
      | _ => False)) X) X)) X
  | .fld c o f, env, h, P, X => WE o env h (fun v h1 => fldV h1 c v f fun z => P z h1) X
  | .make c g args, env, h, P, X => WEs args env h (fun vs h1 => F g (.cell h1.length :: vs) (h1 ++ [.ins c []]) (fun v h2 => v = .d .none ∧ P (.cell h1.length) h2) (fun _ _ => False)) X
  | .meth c g o args, env, h, P, X => WE o env h (fun v h1 => insAt h1 c v (WEs args env h1 (fun vs h2 => F g (v :: vs) h2 P X) X)) X
  | .isi a tys, env, h, P, X => WE a env h (fun x h1 => isiP h1 x tys fun b => P (.d (.bool b)) h1) X
  | .call f args, env, h, P, X => WEs args env h (fun vs h1 => F f vs h1 P X) X
  | .callk f args kws ord, env, h, P, X => WEs args env h (fun vs h1 => WEs kws env h1 (fun zs h2 => F f (perm ord (vs ++ zs)) h2 P X) X) X
  | .callf i fs args, env, h, P, X => optP env[i]? fun o => optP o fun v => fnIn v fs fun f => WEs args env h (fun vs h1 => F f vs h1 P X) X
  | .mtd m o args, env, h, P, X => WE o env h (fun v h1 => lstAt h1 v (WEs args env h1 (fun vs h2 => mutV m v vs h2 P) X)) X
  | .orl a b, env, h, P, X => WE a env h (fun x h1 => lstP x fun t => match t with | true => P x h1 | false => WE b env h1 P X) X
  | .dkin ws a, env, h, P, X => WE a env h (fun v h1 => strV v fun z => P (.d (.bool (decide (z ∈ ws)))) h1) X
  | .dkix kvs a, env, h, P, X => WE a env h (fun v h1 => strV v fun z => optP (kvs.lookup z) fun g => P (.fn g) h1) X
  | .dknm kvs a, env, h, P, X => WE a env h (fun v h1 => strV v fun z => optP (kvs.lookup z) fun g => P (.d (.int ((g - 1000000 : Nat) : Int))) h1) X
  | .dkni ws a, env, h, P, X => WE a env h (fun v h1 => strV v fun z => P (.d (.bool (!decide (z ∈ ws)))) h1) X
  | .eqk c a, env, h, P, X => WE a env h (fun v h1 => optP (rdV h1 v) fun x => shp x ∧ P (.d (.bool (PyData.eqv x c))) h1) X
  | .smt m a b, env, h, P, X => WE a env h (fun v h1 => strAt v (WE b env h1 (fun y h2 => optP (rdV h2 v) fun x => optP (rdV h2 y) fun z => smP m x z fun r => P (.d r) h2) X)) X
  | .ixof tp a b, env, h, P, X => WE a env h (fun v h1 => seqAt tp h1 v (WE b env h1 (fun y h2 => optP (rdV h2 v) fun x => optP (rdV h2 y) fun z => ixP x z fun r => P (.d r) h2) X)) X
  | .xfl o f, env, h, P, X => WE o env h (fun v h1 => excV v fun fs => optP (fs.lookup f) fun x => P (.d x) h1) X
  | .catv a b, env, h, P, X => WE a env h (fun v h1 => WE b env h1 (fun u h2 => lvV h2 v fun xs => lvV h2 u fun ys => xs.length + ys.length ≤ big ∧ P (.cell h2.length) (h2 ++ [.lv (xs ++ ys)])) X) X
  | .mkx c fs args, env, h, P, X => WEs args env h (fun vs h1 => optP (allD vs) fun ds => (fs = [] ∨ ds.length = fs.length) ∧ P (.exc c (fs.zip ds).reverse) h1) X
  | .dcp t a, env, h, P, X => WE a env h (fun v h1 => optP (rdV h1 v) fun x => dicP x fun kvs => (∀ p ∈ kvs, keyB t p.1 = true) ∧ P (.cell h1.length) (h1 ++ [.dct t kvs])) X
  | .dzp t a b, env, h, P, X => WE a env h (fun v h1 => WE b env h1 (fun u h2 => ditemsV h2 v fun _ xs => ditemsV h2 u fun _ ys => ((∀ x ∈ xs, keyB t x = true) ∧ xs.Pairwise fun x y => eqD x y = false) ∧ P (.cell h2.length) (h2 ++ [.dct t (xs.zip ys)])) X) X
  | .own a, env, h, P, X => WE a env h (fun v h1 => match v with | .d (.list xs) => P (.cell h1.length) (h1 ++ [.lst xs]) | _ => False) X
  | .cmp1 o it tg ifs elt ws, env, h, P, X => WI it env h (fun chk xs h1 =>
      cmpW chk (fun x h2 Q => WA tg x (wipeE env ws) h2 (fun e2 h3 => WTs ifs e2 h3 (fun t h4 => match t with
        | true => WE elt e2 h4 (fun v h5 => Q (some v) h5) (fun _ _ => False)
        | false => Q none h4)) ) xs [] h1 fun vs h2 => mkL o vs h2 P) X
  | .scm it tg ifs elt ws, env, h, P, X => WI it env h (fun chk xs h1 => xs.length < 64 ∧
      cmpW chk (fun x h2 Q => WA tg x (wipeE env ws) h2 (fun e2 h3 => WTs ifs e2 h3 (fun t h4 => match t with
        | true => WE elt e2 h4 (fun v h5 => intVP v fun i => Q (some (.d (.int i))) h5) (fun _ _ => False)
        | false => Q none h4)) ) xs [] h1 fun vs h2 => optP (allD vs) fun ds => optP (asInts ds) fun ns => P (.d (.list ((sortI (nubI ns)).map PyData.int))) h2) X
  | .dpt a i j _ ws2, env, h, P, X => WE a env h (fun v h1 => itemsV h1 v fun chk xs => ((i < env.length ∧ j < env.length ∧ i ∉ ws2) ∧ ∀ h, chk h) ∧ optP (asTups xs) fun rows => rows.flatten.length ≤ 10000 ∧ P (.d (.dict (ptsD rows.flatten))) h1) X
  | .cmp2 o it tg ifs it2 tg2 ifs2 elt ws ws2, env, h, P, X => WI it env h (fun chk xs h1 =>
      cmpW2 chk (fun x acc h2 Q => WA tg x (wipeE env ws) h2 (fun e2 h3 => WTs ifs e2 h3 (fun t h4 => match t with
        | true => WI it2 e2 h4 (fun chk2 ys h5 => cmpW chk2 (fun y h6 Q2 => WA tg2 y (wipeE e2 ws2) h6 (fun e3 h7 => WTs ifs2 e3 h7 (fun t2 h8 => match t2 with
            | true => WE elt e3 h8 (fun v h9 => Q2 (some v) h9) (fun _ _ => False)
            | false => Q2 none h8))) ys acc h5 Q) (fun _ _ => False)
        | false => Q acc h4))) xs [] h1 fun vs h2 => mkL o vs h2 P) X
  | _, _, _, _, _ => False
def WEs : T → Env → Hp → (List V → Hp → Prop) → Px → Prop
  | .nil, _, h, P, _ => P [] h
  | .cons a r, env, h, P, X => WE a env h (fun v h1 => WEs r env h1 (fun vs h2 => P (v :: vs) h2) X) X
  | _, _, _, _, _ => False
/-- tests of a comprehension, no error leaves -/
def WTs : T → Env → Hp → (Bool → Hp → Prop) → Prop
  | .nil, _, h, P => P true h
  | .cons a .nil, env, h, P => WE a env h (fun v h1 => boolP v fun t => P t h1) (fun _ _ => False)
  | _, _, _, _ => False
def WI : T → Env → Hp → ((Hp → Prop) → List V → Hp → Prop) → Px → Prop
  | .itv a, env, h, P, X => WE a env h (fun v h1 => itemsV h1 v fun chk xs => P chk xs h1) X
  | .rng1 a, env, h, P, X => WE a env h (fun v h1 => optP (rdV h1 v) fun d => intP d fun j => (-(2 ^ 62) ≤ j ∧ j < 2 ^ 62) ∧ P (fun _ => True) ((ranI 0 j.toNat).map V.d) h1) X
  | .rng2 a b, env, h, P, X => WE a env h (fun v h1 => WE b env h1 (fun u h2 => optP (rdV h2 v) fun d => intP d fun i => optP (rdV h2 u) fun d => intP d fun j =>
      (-(2 ^ 62) ≤ i ∧ i < 2 ^ 62 ∧ -(2 ^ 62) ≤ j ∧ j < 2 ^ 62) ∧ P (fun _ => True) ((ranI i (j - i).toNat).map V.d) h2) X) X
  | .dkit ws, _, h, P, _ => P (fun _ => True) (ws.map fun w => V.d (.str w)) h
  | .rngd a b, env, h, P, X => WE a env h (fun v h1 => WE b env h1 (fun u h2 => optP (rdV h2 v) fun d => intP d fun i => optP (rdV h2 u) fun d => intP d fun j =>
      (-(2 ^ 62) ≤ i ∧ i < 2 ^ 62 ∧ -(2 ^ 62) ≤ j ∧ j < 2 ^ 62) ∧ P (fun _ => True) ((ranD i (i - j).toNat).map V.d) h2) X) X
  | .enm k a, env, h, P, X => WE a env h (fun v h1 => ditemsV h1 v fun chk xs => P chk (enumD k xs) h1) X
  | .zip2 a b, env, h, P, X => WE a env h (fun v h1 => WE b env h1 (fun u h2 => ditemsV h2 v fun c1 xs => ditemsV h2 u fun c2 ys => P (fun h => c1 h ∧ c2 h) (zipD xs ys) h2) X) X
  | .zip3 a b c, env, h, P, X => WE a env h (fun v h1 => WE b env h1 (fun u h2 => WE c env h2 (fun w h3 => ditemsV h3 v fun c1 xs => ditemsV h3 u fun c2 ys => ditemsV h3 w fun c3 zs =>
      P (fun h => c1 h ∧ c2 h ∧ c3 h) (zip3D xs ys zs) h3) X) X) X
  | _, _, _, _, _ => False
/-- a target is told a value (no error leaves) -/
def WA : T → V → Env → Hp → (Env → Hp → Prop) → Prop
  | .tnm i, v, env, h, Q => Q (env.set i (some v)) h
  | .ttp ts, v, env, h, Q => partsV h v fun vs => vs.length = tlen ts ∧ WAs ts vs env h Q
  | .tst i ts, v, env, h, Q => dlistV h v fun xs => (i < tlen ts ∧ tlen ts ≤ xs.length + 1) ∧
      WAs ts ((xs.take i).map V.d ++ [.d (.list ((xs.drop i).take (xs.length - i - (tlen ts - 1 - i))))] ++ ((xs.drop i).drop (xs.length - i - (tlen ts - 1 - i))).map V.d) env h Q
  | .tsb o i, v, env, h, Q => WE o env h (fun x h1 => WE i env h1 (fun y h2 => setV x y v h2 fun h3 => Q env h3) (fun _ _ => False)) (fun _ _ => False)
  | .tsl o i j, v, env, h, Q => WE o env h (fun x h1 => WE i env h1 (fun y h2 => WE j env h2 (fun z h3 => setSl x y z v h3 fun h4 => Q env h4) (fun _ _ => False)) (fun _ _ => False)) (fun _ _ => False)
  | .tsf c o f, v, env, h, Q => WE o env h (fun x h1 => setF h1 c x f v fun h2 => Q env h2) (fun _ _ => False)
  | _, _, _, _, _ => False
def WAs : T → List V → Env → Hp → (Env → Hp → Prop) → Prop
  | .nil, vs, env, h, Q => vs = [] ∧ Q env h
  | .cons t r, vs, env, h, Q => (match vs with
    | v :: us => WA t v env h fun e h1 => WAs r us e h1 Q
    | [] => False)
  | _, _, _, _, _ => False
end
mutual
def WS : T → Env → Hp → Nx → Kk → Prop
  | .exp a, env, h, n, k => WE F a env h (fun _ h1 => n env h1) (fun x h1 => k.xe x env h1)
  | .asg tg a, env, h, n, k => WE F a env h (fun v h1 => WA F tg v env h1 n) (fun x h1 => k.xe x env h1)
  | .augn o i a, env, h, n, k => optP env[i]? fun ov => optP ov fun x => WE F a env h (fun y h1 => augV o x y fun z => n (env.set i (some z)) h1) (fun x h1 => k.xe x env h1)
  | .augs o e j a, env, h, n, k => WE F e env h (fun x h1 => WE F j env h1 (fun y h2 => idxV h2 x y fun z => WE F a env h2 (fun w h3 => augV o z w fun r =>
      setV x y r h3 fun h4 => n env h4) (fun x h1 => k.xe x env h1)) (fun x h1 => k.xe x env h1)) (fun x h1 => k.xe x env h1)
  | .ifs c a b, env, h, n, k => WE F c env h (fun v h1 => boolP v fun t => match t with | true => WSs a env h1 n k | false => WSs b env h1 n k) (fun x h1 => k.xe x env h1)
  | .for_ tg it body, env, h, n, k => WI F it env h (fun chk xs h1 => forW chk (fun x e h2 n2 k2 => WA F tg x e h2 fun e1 h3 => WSs body e1 h3 n2 k2) xs env h1 n k) (fun x h1 => k.xe x env h1)
  | .whl c body, env, h, n, k => ∃ m, whileN (fun e h1 Q => WE F c e h1 (fun v h2 => boolP v fun t => Q t h2) (fun _ _ => False)) (fun e h1 n1 k1 => WSs body e h1 n1 k1) m env h n k
  | .ret a, env, h, _, k => WE F a env h (fun v h1 => k.rt v h1) (fun x h1 => k.xe x env h1)
  | .ret0, _, h, _, k => k.rt (.d .none) h
  | .brk, env, h, _, k => k.bk env h
  | .cnt, env, h, _, k => k.ct env h
  | .pas, env, h, n, _ => n env h
  | .kill ks, env, h, n, _ => n (wipeE env ks) h
  | .frz i, env, h, n, _ => frzE env h i n
  | .rai c, env, h, _, k => k.xe (.exc c []) env h
  | .raf c fs args, env, h, _, k => WEs F args env h (fun vs h1 => optP (allD vs) fun ds => (fs ≠ [] ∧ ds.length = fs.length) ∧ k.xe (.exc c (fs.zip ds).reverse) env h1) (fun x h1 => k.xe x env h1)
  | .asg2 t1 t2 a, env, h, n, k => WE F a env h (fun v h1 => WA F t1 v env h1 fun e h2 => WA F t2 v e h2 n) (fun x h1 => k.xe x env h1)
  | .try_ b i y, env, h, n, k => WSs b env h n ⟨k.rt, k.bk, k.ct, fun x e h1 => n (((e.set i none).set y (some x)).set i none) h1⟩
  | _, _, _, _, _ => False
def WSs : T → Env → Hp → Nx → Kk → Prop
  | .nil, env, h, n, _ => n env h
  | .cons s r, env, h, n, k => WS s env h (fun e h1 => WSs r e h1 n k) k
  | _, _, _, _, _ => False
end
end

/-! ### calls -/
structure FnI where
  np : Nat
  ns : Nat
  md : Nat
  body : T
def plain : Ob → Bool
  | .lst _ => true
  | .dct _ _ => true
  | _ => false
def cellsOf : List V → List Nat
  | [] => []
  | .cell n :: r => n :: cellsOf r
  | _ :: r => cellsOf r
def renum (k : Nat) : List V → List V
  | [] => []
  | .cell _ :: r => .cell k :: renum (k + 1) r
  | v :: r => v :: renum k r
/-- an argument of a def that is called by itself: a cell, data, a def -/
def argOk : V → Bool
  | .d _ => true
  | .cell _ => true
  | .fn _ => true
  | .exc _ _ => true
  | _ => false
def isoIn (h : Hp) : List Nat → Option Hp
  | [] => some []
  | n :: r => (match h[n]? with
    | some o => if plain o = true then (isoIn h r).map (o :: ·) else none
    | none => none)
def isoBack (h h0 : Hp) : List Nat → Nat → Option Hp
  | [], _ => some h
  | n :: r, k => (match h0[k]? with
    | some o => if plain o = true then isoBack (h.set n o) h0 r (k + 1) else none
    | none => none)
def isoOut (h : Hp) (cs : List Nat) (v : V) (h0 : Hp) (P : Pv) : Prop := optP (isoBack h h0 cs 0) fun h1 => match v with
  | .d x => P (.d x) h1
  | .fn f => P (.fn f) h1
  | .exc c fs => P (.exc c fs) h1
  | .cell n => cs.length ≤ n ∧ optP h0[n]? fun o => plain o = true ∧ P (.cell h1.length) (h1 ++ [o])
  | _ => False
def runB (F : Phi) (f : FnI) (args : List V) (h : Hp) (P : Pv) (X : Px) : Prop :=
  WSs F f.body (args.map some ++ List.replicate (f.ns - f.np) none) h (fun _ h1 => P (.d .none) h1)
    ⟨P, fun _ _ => False, fun _ _ => False, fun x _ h1 => X x h1⟩
/-- a call: by itself (md 0: it sees the cells it is told alone), or over the whole heap -/
def callN (FT : List FnI) : Nat → Phi
  | 0, _, _, _, _, _ => False
  | n + 1, f, args, h, P, X => optP FT[f]? fun fn => args.length = fn.np ∧ (match fn.md with
    | 0 => args.all argOk = true ∧ (cellsOf args).Nodup ∧ optP (isoIn h (cellsOf args)) fun h0 =>
        runB (callN FT n) fn (renum 0 args) h0 (fun v h1 => isoOut h (cellsOf args) v h1 P) (fun v h1 => isoOut h (cellsOf args) v h1 X)
    | _ => runB (callN FT n) fn args h P X)
end Hb

/-! SRT: sorted numbers. -/
namespace Hb
open PySem
theorem insI_perm (x : Int) : ∀ l : List Int, (insI x l).Perm (x :: l)
  | [] => .refl _
  | y :: r => by
    unfold insI
    by_cases h : x ≤ y
    · rw [if_pos h]
    · rw [if_neg h]; exact ((insI_perm x r).cons y).trans (List.Perm.swap x y r)
theorem sortI_perm : ∀ l : List Int, (sortI l).Perm l
  | [] => .refl _
  | x :: r => (insI_perm x (sortI r)).trans ((sortI_perm r).cons x)
theorem insI_sorted (x : Int) : ∀ l : List Int, l.Pairwise (· ≤ ·) → (insI x l).Pairwise (· ≤ ·)
  | [], _ => by simp [insI]
  | y :: r, h => by
    unfold insI
    rw [List.pairwise_cons] at h
    by_cases hx : x ≤ y
    · rw [if_pos hx, List.pairwise_cons, List.pairwise_cons]
      refine ⟨fun z hz => ?_, h⟩
      rcases List.mem_cons.mp hz with rfl | hz
      · exact hx
      · exact Int.le_trans hx (h.1 z hz)
    · rw [if_neg hx, List.pairwise_cons]
      refine ⟨fun z hz => ?_, insI_sorted x r h.2⟩
      rcases List.mem_cons.mp ((insI_perm x r).subset hz) with rfl | hz
      · omega
      · exact h.1 z hz
theorem sortI_sorted : ∀ l : List Int, (sortI l).Pairwise (· ≤ ·)
  | [] => .nil
  | x :: r => insI_sorted x _ (sortI_sorted r)
theorem sorted_uniq : ∀ {l l' : List Int}, l.Perm l' → l.Pairwise (· ≤ ·) → l'.Pairwise (· ≤ ·) → l = l'
  | [], l', p, _, _ => (List.nil_perm.mp p).symm ▸ rfl
  | x :: r, [], p, _, _ => absurd p.length_eq (by simp)
  | x :: r, y :: t, p, h, h' => by
    rw [List.pairwise_cons] at h h'
    have e : x = y := by
      have hx : x ∈ y :: t := p.subset (by simp)
      have hy : y ∈ x :: r := p.symm.subset (by simp)
      rcases List.mem_cons.mp hx with rfl | hx
      · rfl
      · rcases List.mem_cons.mp hy with rfl | hy
        · rfl
        · exact Int.le_antisymm (h.1 y hy) (h'.1 x hx)
    subst e
    rw [sorted_uniq ((List.perm_cons x).mp p) h.2 h'.2]
end Hb

/-! REL: how the small heap and its data stand in the abstract heap of the hand layer. -/
namespace Hb
open PySem PySem.Spec PyProof.Rows
open L2 hiding V Hp St
set_option autoImplicit false
abbrev Sg := L2.St

/-- where things of the text stand -/
structure Wo where
  K : PySem.W.Frag
  fa : Nat → Addr
  ca : Nat → Addr
  an : Nat → Str
  anj : ∀ i j : Nat, an i = an j → i = j
  xc : List Nat
  hu : Addr
  pm : Params

/-! ### lists of pairs -/
inductive All2 {α β : Type} (R : α → β → Prop) : List α → List β → Prop
  | nil : All2 R [] []
  | cons {a b as bs} : R a b → All2 R as bs → All2 R (a :: as) (b :: bs)
namespace All2
variable {α β : Type} {R S : α → β → Prop}
theorem length {as : List α} {bs : List β} (h : All2 R as bs) : as.length = bs.length := by
  induction h with
  | nil => rfl
  | cons _ _ ih => simp [ih]
theorem imp {as : List α} {bs : List β} (h : All2 R as bs) (f : ∀ a b, R a b → S a b) : All2 S as bs := by
  induction h with
  | nil => exact .nil
  | cons r _ ih => exact .cons (f _ _ r) ih
theorem append {as as' : List α} {bs bs' : List β} (h : All2 R as bs) (h' : All2 R as' bs') : All2 R (as ++ as') (bs ++ bs') := by
  induction h with
  | nil => exact h'
  | cons r _ ih => exact .cons r ih
theorem getL {as : List α} {bs : List β} (h : All2 R as bs) : ∀ {i : Nat} {a : α}, as[i]? = some a → ∃ b, bs[i]? = some b ∧ R a b := by
  induction h with
  | nil => intro i a e; simp at e
  | cons r _ ih =>
    intro i a e
    cases i with
    | zero => simp at e; subst e; exact ⟨_, rfl, r⟩
    | succ i => simp at e; simpa using ih e
theorem getR {as : List α} {bs : List β} (h : All2 R as bs) : ∀ {i : Nat} {b : β}, bs[i]? = some b → ∃ a, as[i]? = some a ∧ R a b := by
  induction h with
  | nil => intro i a e; simp at e
  | cons r _ ih =>
    intro i a e
    cases i with
    | zero => simp at e; subst e; exact ⟨_, rfl, r⟩
    | succ i => simp at e; simpa using ih e
theorem take {as : List α} {bs : List β} (h : All2 R as bs) : ∀ n : Nat, All2 R (as.take n) (bs.take n) := by
  induction h with
  | nil => intro n; simp; exact .nil
  | cons r _ ih =>
    intro n
    cases n with
    | zero => simp; exact .nil
    | succ n => simp; exact .cons r (ih n)
theorem drop {as : List α} {bs : List β} (h : All2 R as bs) : ∀ n : Nat, All2 R (as.drop n) (bs.drop n) := by
  induction h with
  | nil => intro n; simp; exact .nil
  | cons r t ih =>
    intro n
    cases n with
    | zero => simp; exact .cons r t
    | succ n => simp; exact ih n
theorem set {as : List α} {bs : List β} (h : All2 R as bs) {a : α} {b : β} (r' : R a b) : ∀ n : Nat, All2 R (as.set n a) (bs.set n b) := by
  induction h with
  | nil => intro n; simp; exact .nil
  | cons r t ih =>
    intro n
    cases n with
    | zero => simp; exact .cons r' t
    | succ n => simp; exact .cons r (ih n)
theorem eraseIdx {as : List α} {bs : List β} (h : All2 R as bs) : ∀ n : Nat, All2 R (as.eraseIdx n) (bs.eraseIdx n) := by
  induction h with
  | nil => intro n; simp; exact .nil
  | cons r t ih =>
    intro n
    cases n with
    | zero => simp; exact t
    | succ n => simp; exact .cons r (ih n)
theorem dropLast {as : List α} {bs : List β} (h : All2 R as bs) : All2 R as.dropLast bs.dropLast := by
  rw [List.dropLast_eq_take, List.dropLast_eq_take, h.length]
  exact h.take _
theorem reverse {as : List α} {bs : List β} (h : All2 R as bs) : All2 R as.reverse bs.reverse := by
  induction h with
  | nil => exact .nil
  | cons r _ ih => rw [List.reverse_cons, List.reverse_cons]; exact ih.append (.cons r .nil)
theorem rep {as : List α} {bs : List β} (h : All2 R as bs) : ∀ k : Nat, All2 R (List.replicate k as).flatten (List.replicate k bs).flatten
  | 0 => .nil
  | k + 1 => by rw [List.replicate_succ, List.replicate_succ, List.flatten_cons, List.flatten_cons]; exact h.append (rep h k)
theorem snoc {as : List α} {bs : List β} (h : All2 R as bs) {a : α} {b : β} (r : R a b) : All2 R (as ++ [a]) (bs ++ [b]) := h.append (.cons r .nil)
end All2

/-! ### data in a heap -/
/-- a list by its one object -/
def LqL (K : PySem.W.Frag) (H : L2.Hp) (a : Addr) (xs : List L2.V) : Prop :=
  Rd H a (.lst xs) ∨ ∃ (its : Array Value) (n : Nat), K.lookup a = some { cls := .type "list", data := .seq its n } ∧ its.size ≤ sizeLine ∧ Vals xs its.toList
theorem LqL.sq {K : PySem.W.Frag} {H : L2.Hp} {a : Addr} {xs : List L2.V} (h : LqL K H a xs) : SqL K H a xs := by
  rcases h with h | ⟨its, n, h, z, r⟩
  · exact .inl h
  · exact .inr ⟨_, its, n, h, rfl, rfl, rfl, z, r⟩
theorem inv_lq {X : Cx} {pins : List (Addr × Obj)} {s : Shared} {σ : Sg} {H : L2.Hp} {a : Addr} {xs : List L2.V} (I : Inv X pins σ H s) (h : LqL X.K H a xs) :
    ∃ (its : List Value) (n : Nat), Vals xs its ∧ s.heap.get? a = some { cls := .type "list", data := .seq its.toArray n } ∧ xs.length ≤ sizeLine := by
  rcases h with h | ⟨its, n, h, z, r⟩
  · obtain ⟨z, its, n, r, e⟩ := h.ok I.hok
    exact ⟨its, n, r, e, z⟩
  · refine ⟨its.toList, n, r, by simpa using I.kIn a _ h, ?_⟩
    have e := r.length
    simp only [Array.length_toList] at e
    omega
/-- a tuple by its one object, which has no dict -/
def TqT (G : L2.Hp) (a : Addr) (xs : List L2.V) : Prop := ∃ ob : Obj, G a = some (.frz ob (.tup xs)) ∧ ob.dict = none
theorem TqT.sq {K : PySem.W.Frag} {G : L2.Hp} {a : Addr} {xs : List L2.V} (h : TqT G a xs) : SqT K G a xs := let ⟨ob, h, _⟩ := h; .inl (.inr ⟨ob, h⟩)
theorem TqT.mono {G G' : L2.Hp} (s : ∀ a o, G a = some o → G' a = some o) {a : Addr} {xs : List L2.V} (h : TqT G a xs) : TqT G' a xs := let ⟨ob, h, d⟩ := h; ⟨ob, s _ _ h, d⟩
/-! ### dicts in a heap -/
def keyD : Key → D
  | .inl i => .int i
  | .inr z => .str z
/-! ### keys that are tuples, of numbers and such tuples -/
mutual
def nkD : NestedKey → D
  | .none => .none
  | .num i => .int i
  | .text x => .str x
  | .tup ks => .tuple (nkDs ks)
def nkDs : List NestedKey → List D
  | [] => []
  | k :: ks => nkD k :: nkDs ks
end
mutual
/-- of numbers alone -/
def nkN : NestedKey → Bool
  | .none => false
  | .num _ => true
  | .text _ => false
  | .tup ks => nkNs ks
def nkNs : List NestedKey → Bool
  | [] => true
  | k :: ks => nkN k && nkNs ks
end
def nkOk (k : NestedKey) : Bool := nkN k && decide (k.depth ≤ 8)
mutual
def NkR (G : L2.Hp) : NestedKey → L2.V → Prop
  | .none, u => u = .non
  | .num i, u => u = .int i
  | .text x, u => u = .str x
  | .tup ks, u => ∃ a us, u = .ref a ∧ TqT G a us ∧ NkRs G ks us
def NkRs (G : L2.Hp) : List NestedKey → List L2.V → Prop
  | [], us => us = []
  | k :: ks, us => ∃ v vs, us = v :: vs ∧ NkR G k v ∧ NkRs G ks vs
end
mutual
theorem NkR.mono {G G' : L2.Hp} (s : ∀ a o, G a = some o → G' a = some o) : ∀ (k : NestedKey) (u : L2.V), NkR G k u → NkR G' k u
  | .none, _, h => h
  | .num _, _, h => h
  | .text _, _, h => h
  | .tup ks, _, h => by obtain ⟨a, us, e, q, t⟩ := h; exact ⟨a, us, e, q.mono s, NkRs.mono s ks us t⟩
theorem NkRs.mono {G G' : L2.Hp} (s : ∀ a o, G a = some o → G' a = some o) : ∀ (ks : List NestedKey) (us : List L2.V), NkRs G ks us → NkRs G' ks us
  | [], _, h => h
  | k :: ks, _, h => by obtain ⟨v, vs, e, q, t⟩ := h; exact ⟨v, vs, e, NkR.mono s k v q, NkRs.mono s ks vs t⟩
end
/-- a row of such a dict: its key, where that stands, its value -/
abbrev NkRow : Type := NestedKey × Addr × L2.V
def NkPair (p : NkRow) (q : NestedKey × Addr × Value) : Prop := p.1 = q.1 ∧ p.2.1 = q.2.1 ∧ RelV p.2.2 q.2.2
/-- such a dict's object (its keys' objects are told apart) -/
def TDic (a : Addr) (rows : List NkRow) : HO := .ext fun h => (a == sysModules) = false ∧ rows.length ≤ sizeLine ∧ ∃ (P : Program) (ww : World) (xs : List (NestedKey × Addr × Value)), Paired NkPair rows xs ∧
  ∃ o es ep, h.get? a = some o ∧ o.ExactDict ∧ o.data = .dict es ep ∧ es.toList = xs.map (entryOfKey (nestedKind P ww)) ∧ (xs.map (·.1)).Nodup
/-- a dict's object: its keys, its values; t: its keys are tuples -/
def DcA (G H : L2.Hp) (t : Bool) (a : Addr) (ks : List D) (us : List L2.V) : Prop := match t with
  | false => ∃ kus : List (Key × L2.V), H a = some (.dK kus) ∧ ks = kus.map (fun p => keyD p.1) ∧ us = kus.map (·.2)
  | true => ∃ rows : List NkRow, H a = some (TDic a rows) ∧ ks = rows.map (fun p => nkD p.1) ∧ us = rows.map (·.2.2) ∧ ∀ p ∈ rows, NkR G p.1 (.ref p.2.1) ∧ nkOk p.1 = true
theorem DcA.mono {G G' H H' : L2.Hp} {t : Bool} {a : Addr} {ks : List D} {us : List L2.V} (h : DcA G H t a ks us) (sg : ∀ a o, G a = some o → G' a = some o) (s : ∀ o, H a = some o → H' a = some o) : DcA G' H' t a ks us := by
  cases t with
  | false => obtain ⟨kus, e, z⟩ := h; exact ⟨kus, s _ e, z⟩
  | true => obtain ⟨rows, e, z1, z2, z3⟩ := h; exact ⟨rows, s _ e, z1, z2, fun p hp => ⟨NkR.mono sg _ _ (z3 p hp).1, (z3 p hp).2⟩⟩
theorem DcA.at {G H : L2.Hp} {t : Bool} {a : Addr} {ks : List D} {us : List L2.V} (h : DcA G H t a ks us) : ∃ o, H a = some o ∧ (∀ b, o ≠ .own b) := by
  cases t with
  | false => obtain ⟨kus, e, z⟩ := h; exact ⟨_, e, fun b q => nomatch q⟩
  | true => obtain ⟨kus, e, z⟩ := h; exact ⟨_, e, fun b q => nomatch q⟩
mutual
def Rp (K : PySem.W.Frag) (G : L2.Hp) : D → L2.V → Prop
  | .none, u => u = .non
  | .bool b, u => u = .bl b
  | .int i, u => u = .int i
  | .str x, u => u = .str x
  | .list ds, u => ∃ a xs, u = .ref a ∧ LqL K G a xs ∧ RpAll K G ds xs
  | .tuple ds, u => ∃ a xs, u = .ref a ∧ TqT G a xs ∧ RpAll K G ds xs
  | .dict kvs, u => ∃ a t us, u = .ref a ∧ DcA G G t a (kvs.map (·.1)) us ∧ RpKv K G kvs us
def RpAll (K : PySem.W.Frag) (G : L2.Hp) : List D → List L2.V → Prop
  | [], us => us = []
  | d :: ds, us => ∃ v vs, us = v :: vs ∧ Rp K G d v ∧ RpAll K G ds vs
def RpKv (K : PySem.W.Frag) (G : L2.Hp) : List (D × D) → List L2.V → Prop
  | [], us => us = []
  | (_, d) :: ds, us => ∃ v vs, us = v :: vs ∧ Rp K G d v ∧ RpKv K G ds vs
end
theorem rpKv_iff {K : PySem.W.Frag} {G : L2.Hp} : ∀ {kvs : List (D × D)} {us : List L2.V}, RpKv K G kvs us ↔ RpAll K G (kvs.map (·.2)) us
  | [], us => Iff.rfl
  | (k, d) :: kvs, us => ⟨fun ⟨v, vs, e, h1, h2⟩ => ⟨v, vs, e, h1, rpKv_iff.mp h2⟩, fun ⟨v, vs, e, h1, h2⟩ => ⟨v, vs, e, h1, rpKv_iff.mpr h2⟩⟩
theorem rpAll_iff {K : PySem.W.Frag} {G : L2.Hp} : ∀ {ds : List D} {us : List L2.V}, RpAll K G ds us ↔ All2 (Rp K G) ds us
  | [], us => ⟨fun h => by have h : us = [] := h; subst h; exact .nil, fun h => by cases h; rfl⟩
  | d :: ds, us => ⟨fun h => by obtain ⟨v, vs, rfl, h1, h2⟩ := h; exact .cons h1 (rpAll_iff.mp h2), fun h => by cases h with | cons r t => exact ⟨_, _, rfl, r, rpAll_iff.mpr t⟩⟩
/-- what stood stands -/
abbrev Sub (G G' : L2.Hp) : Prop := ∀ a o, G a = some o → G' a = some o
theorem Sub.rfl' {G : L2.Hp} : Sub G G := fun _ _ h => h
theorem Sub.trans {G1 G2 G3 : L2.Hp} (a : Sub G1 G2) (b : Sub G2 G3) : Sub G1 G3 := fun c o h => b c o (a c o h)
theorem lqL_mono {K : PySem.W.Frag} {G G' : L2.Hp} (s : Sub G G') {a : Addr} {xs : List L2.V} (h : LqL K G a xs) : LqL K G' a xs := by
  rcases h with (h | ⟨o, h⟩) | h
  · exact .inl (.inl (s _ _ h))
  · exact .inl (.inr ⟨o, s _ _ h⟩)
  · exact .inr h
theorem sqS_mono {K : PySem.W.Frag} {G G' : L2.Hp} (s : Sub G G') {a : Addr} {xs : List L2.V} (h : SqL K G a xs) : SqL K G' a xs := by
  rcases h with (h | ⟨o, h⟩) | h
  · exact .inl (.inl (s _ _ h))
  · exact .inl (.inr ⟨o, s _ _ h⟩)
  · exact .inr h
theorem sqL_mono {K : PySem.W.Frag} {G G' : L2.Hp} (s : Sub G G') {a : Addr} {xs : List L2.V} (h : LqL K G a xs) : SqL K G' a xs := (lqL_mono s h).sq
theorem sqT_mono {K : PySem.W.Frag} {G G' : L2.Hp} (s : Sub G G') {a : Addr} {xs : List L2.V} (h : SqT K G a xs) : SqT K G' a xs := by
  rcases h with (h | ⟨o, h⟩) | h
  · exact .inl (.inl (s _ _ h))
  · exact .inl (.inr ⟨o, s _ _ h⟩)
  · exact .inr h
theorem tqT_mono {K : PySem.W.Frag} {G G' : L2.Hp} (s : Sub G G') {a : Addr} {xs : List L2.V} (h : TqT G a xs) : SqT K G' a xs := (h.mono s).sq
mutual
theorem Rp.mono {K : PySem.W.Frag} {G G' : L2.Hp} (s : Sub G G') : ∀ (d : D) (u : L2.V), Rp K G d u → Rp K G' d u
  | .none, _, h => h
  | .bool _, _, h => h
  | .int _, _, h => h
  | .str _, _, h => h
  | .list ds, _, h => by obtain ⟨a, xs, e, q, r⟩ := h; exact ⟨a, xs, e, lqL_mono s q, RpAll.mono s ds xs r⟩
  | .tuple ds, _, h => by obtain ⟨a, xs, e, q, r⟩ := h; exact ⟨a, xs, e, q.mono s, RpAll.mono s ds xs r⟩
  | .dict kvs, _, h => by obtain ⟨a, t, us, e, q, r⟩ := h; exact ⟨a, t, us, e, q.mono s (s _), RpKv.mono s kvs us r⟩
theorem RpKv.mono {K : PySem.W.Frag} {G G' : L2.Hp} (s : Sub G G') : ∀ (ds : List (D × D)) (us : List L2.V), RpKv K G ds us → RpKv K G' ds us
  | [], _, h => h
  | (_, d) :: ds, _, h => by obtain ⟨v, vs, e, r, t⟩ := h; exact ⟨v, vs, e, Rp.mono s d v r, RpKv.mono s ds vs t⟩
theorem RpAll.mono {K : PySem.W.Frag} {G G' : L2.Hp} (s : Sub G G') : ∀ (ds : List D) (us : List L2.V), RpAll K G ds us → RpAll K G' ds us
  | [], _, h => h
  | d :: ds, _, h => by obtain ⟨v, vs, e, r, t⟩ := h; exact ⟨v, vs, e, Rp.mono s d v r, RpAll.mono s ds vs t⟩
end
/-- read: the top stands in H, what is within is data -/
def Rt (K : PySem.W.Frag) (G H : L2.Hp) : D → L2.V → Prop
  | .list ds, u => ∃ a xs, u = .ref a ∧ LqL K H a xs ∧ RpAll K G ds xs
  | .dict kvs, u => ∃ a t us, u = .ref a ∧ DcA G H t a (kvs.map (·.1)) us ∧ RpKv K G kvs us
  | d, u => Rp K G d u
theorem Rp.top {K : PySem.W.Frag} {G H : L2.Hp} (s : Sub G H) {d : D} {u : L2.V} (h : Rp K G d u) : Rt K G H d u := by
  cases d with
  | list ds => obtain ⟨a, xs, e, q, r⟩ := h; exact ⟨a, xs, e, lqL_mono s q, r⟩
  | dict ds => obtain ⟨a, t, us, e, q, r⟩ := h; exact ⟨a, t, us, e, q.mono (fun _ _ e => e) (s _), r⟩
  | _ => exact h
mutual
theorem Rp.dp {K : PySem.W.Frag} {G : L2.Hp} : ∀ (d : D) (u : L2.V), Rp K G d u → d.canLay0 = true → Dp K G u d
  | .none, u, h, _ => by have h : u = .non := h; subst h; exact .non
  | .bool b, u, h, _ => by have h : u = .bl b := h; subst h; exact .bl b
  | .int i, u, h, _ => by have h : u = .int i := h; subst h; exact .int i
  | .str i, u, h, _ => by have h : u = .str i := h; subst h; exact .str i
  | .list ds, _, h, c => by obtain ⟨a, xs, e, q, r⟩ := h; subst e; exact .lst q.sq (RpAll.dp ds xs r c)
  | .tuple ds, _, h, c => by obtain ⟨a, xs, e, q, r⟩ := h; subst e; exact .tup q.sq (RpAll.dp ds xs r c)
  | .dict _, _, h, c => by cases c
theorem RpAll.dp {K : PySem.W.Frag} {G : L2.Hp} : ∀ (ds : List D) (us : List L2.V), RpAll K G ds us → PyData.canLayAll0 ds = true → DpAll K G us ds
  | [], us, h, _ => by have h : us = [] := h; subst h; exact .nil
  | d :: ds, _, h, c => by
    obtain ⟨v, vs, e, r, t⟩ := h
    subst e
    have c' : (PyData.canLay0 d && PyData.canLayAll0 ds) = true := c
    rw [Bool.and_eq_true] at c'
    exact .cons (Rp.dp d v r c'.1) (RpAll.dp ds vs t c'.2)
end
theorem Rt.dp {K : PySem.W.Frag} {G H : L2.Hp} (s : Sub G H) {d : D} {u : L2.V} (h : Rt K G H d u) (c : shp d) : Dp K H u d := by
  have c := SeqAt.canLay_of_shaped c
  cases d with
  | list ds => obtain ⟨a, xs, rfl, q, r⟩ := h; exact .lst q.sq (RpAll.dp ds xs (RpAll.mono s _ _ r) c)
  | dict ds => cases c
  | _ => exact Rp.dp _ _ (Rp.mono s _ _ h) c

/-! ### values in a heap -/
/-- a caught error of the class cls, its fields in the dict d -/
def ExK (cls : Value) (d : Option Addr) (a : Addr) : HO := .ext fun h => ∃ (ob : Obj) (vs : Array Value), h.get? a = some ob ∧ Zc cls d ob ∧ ob.data = .fields vs
/-- an error's fields -/
def XdR (w : Wo) (G : L2.Hp) (fs : List (Nat × D)) (d : Option Addr) : Prop := match fs with
  | [] => d = none
  | _ => ∃ dd us, d = some dd ∧ G dd = some (.xd us) ∧ us.map (·.1) = fs.map (fun p => w.an p.1) ∧ RpAll w.K G (fs.map (·.2)) (us.map (·.2))
theorem XdR.mono {w : Wo} {G G' : L2.Hp} (s : Sub G G') {fs : List (Nat × D)} {d : Option Addr} (h : XdR w G fs d) : XdR w G' fs d := by
  cases fs with
  | nil => exact h
  | cons p fs =>
    obtain ⟨dd, us, e, g, m, q⟩ := h
    exact ⟨dd, us, e, s _ _ g, m, RpAll.mono s _ _ q⟩
mutual
def Rv (w : Wo) (r : List Addr) (G : L2.Hp) : V → L2.V → Prop
  | .d x, u => Rp w.K G x u
  | .cell n, u => ∃ a, r[n]? = some a ∧ u = .ref a
  | .vt xs, u => ∃ a us, u = .ref a ∧ TqT G a us ∧ RvAll w r G xs us
  | .fn f, u => u = .ref (w.fa f)
  | .exc c fs, u => c ∈ w.xc ∧ ∃ a d, u = .ref a ∧ G a = some (ExK (.ref (w.ca c)) d a) ∧ XdR w G fs d
def RvAll (w : Wo) (r : List Addr) (G : L2.Hp) : List V → List L2.V → Prop
  | [], us => us = []
  | x :: xs, us => ∃ v vs, us = v :: vs ∧ Rv w r G x v ∧ RvAll w r G xs vs
end
theorem rvAll_iff {w : Wo} {r : List Addr} {G : L2.Hp} : ∀ {ds : List V} {us : List L2.V}, RvAll w r G ds us ↔ All2 (Rv w r G) ds us
  | [], us => ⟨fun h => by have h : us = [] := h; subst h; exact .nil, fun h => by cases h; rfl⟩
  | d :: ds, us => ⟨fun h => by obtain ⟨v, vs, rfl, h1, h2⟩ := h; exact .cons h1 (rvAll_iff.mp h2), fun h => by cases h with | cons r t => exact ⟨_, _, rfl, r, rvAll_iff.mpr t⟩⟩
/-- the heap has grown -/
structure Ext (r : List Addr) (G : L2.Hp) (r' : List Addr) (G' : L2.Hp) : Prop where
  pre : ∀ (n : Nat) a, r[n]? = some a → r'[n]? = some a
  sub : Sub G G'
theorem Ext.refl {r : List Addr} {G : L2.Hp} : Ext r G r G := ⟨fun _ _ h => h, fun _ _ h => h⟩
theorem Ext.trans {r1 r2 r3 : List Addr} {G1 G2 G3 : L2.Hp} (a : Ext r1 G1 r2 G2) (b : Ext r2 G2 r3 G3) : Ext r1 G1 r3 G3 :=
  ⟨fun n x h => b.pre n x (a.pre n x h), fun x o h => b.sub x o (a.sub x o h)⟩
mutual
theorem Rv.mono {w : Wo} {r r' : List Addr} {G G' : L2.Hp} (e : Ext r G r' G') : ∀ (v : V) (u : L2.V), Rv w r G v u → Rv w r' G' v u
  | .d x, u, h => Rp.mono e.sub x u h
  | .cell n, u, h => by obtain ⟨a, q, rfl⟩ := h; exact ⟨a, e.pre _ _ q, rfl⟩
  | .vt xs, u, h => by obtain ⟨a, us, e1, q, t⟩ := h; exact ⟨a, us, e1, q.mono e.sub, RvAll.mono e xs us t⟩
  | .fn _, u, h => h
  | .exc _ _, _, h => by obtain ⟨hc, a, d, e1, q, t⟩ := h; exact ⟨hc, a, d, e1, e.sub _ _ q, t.mono e.sub⟩
theorem RvAll.mono {w : Wo} {r r' : List Addr} {G G' : L2.Hp} (e : Ext r G r' G') : ∀ (vs : List V) (us : List L2.V), RvAll w r G vs us → RvAll w r' G' vs us
  | [], _, h => h
  | v :: vs, _, h => by obtain ⟨u, us, e1, q, t⟩ := h; exact ⟨u, us, e1, Rv.mono e v u q, RvAll.mono e vs us t⟩
end
theorem rvAll_d {w : Wo} {r : List Addr} {G : L2.Hp} {ds : List D} {us : List L2.V} : RvAll w r G (ds.map V.d) us ↔ RpAll w.K G ds us := by
  induction ds generalizing us with
  | nil => exact Iff.rfl
  | cons d ds ih => exact ⟨fun ⟨v, vs, e, h1, h2⟩ => ⟨v, vs, e, h1, ih.mp h2⟩, fun ⟨v, vs, e, h1, h2⟩ => ⟨v, vs, e, h1, ih.mpr h2⟩⟩
theorem allD_map : ∀ {vs : List V} {ds : List D}, allD vs = some ds → vs = ds.map V.d
  | [], ds, h => by cases h; rfl
  | .d x :: r, ds, h => by
    unfold allD at h
    cases e : allD r with
    | none => rw [e] at h; cases h
    | some es => rw [e] at h; cases h; rw [allD_map e]; rfl
  | .cell _ :: _, _, h => by cases h
  | .vt _ :: _, _, h => by cases h
  | .fn _ :: _, _, h => by cases h
  | .exc _ _ :: _, _, h => by cases h
theorem allD_of : ∀ (ds : List D), allD (ds.map V.d) = some ds
  | [] => rfl
  | d :: ds => by show (allD (ds.map V.d)).map (d :: ·) = _; rw [allD_of ds]; rfl

/-- a cell's object -/
def ObR (w : Wo) (r : List Addr) (G H : L2.Hp) (a : Addr) : Ob → Prop
  | .dead => ∃ o, G a = some o
  | .lst xs => G a = none ∧ ∃ us, H a = some (.lst us) ∧ RpAll w.K G xs us
  | .lv xs => G a = none ∧ ∃ us, H a = some (.lst us) ∧ RvAll w r G xs us
  | .dct t kvs => G a = none ∧ ∃ us, DcA G H t a (kvs.map (·.1)) us ∧ RpKv w.K G kvs us
  | .ins c fs => G a = none ∧ ∃ dx us, H a = some (.ins (w.ca c) dx us) ∧ H dx = some (.own a) ∧ us.map (·.1) = fs.map (fun p => w.an p.1) ∧ RvAll w r G (fs.map (·.2)) (us.map (·.2))
/-- a living cell's place -/
theorem ObR.live {w : Wo} {r : List Addr} {G H : L2.Hp} {a : Addr} {o : Ob} (q : ObR w r G H a o) (hd : o ≠ .dead) : G a = none ∧ ∃ x, H a = some x ∧ ∀ b, x ≠ .own b := by
  cases o with
  | dead => exact (hd rfl).elim
  | lst xs => obtain ⟨g, us, e, _⟩ := q; exact ⟨g, _, e, fun b z => nomatch z⟩
  | lv xs => obtain ⟨g, us, e, _⟩ := q; exact ⟨g, _, e, fun b z => nomatch z⟩
  | dct t kvs => obtain ⟨g, us, e, _⟩ := q; exact ⟨g, e.at⟩
  | ins c fs => obtain ⟨g, dx, us, e, _⟩ := q; exact ⟨g, _, e, fun b z => nomatch z⟩
/-- the small heap h, its cells at r, its data within G, stands in H; f: what of others must stay -/
structure Sim (w : Wo) (f : L2.Hp) (r : List Addr) (G : L2.Hp) (h : Hp) (H : L2.Hp) : Prop where
  sub : Sub G H
  gn : ∀ a b, G a ≠ some (.own b)
  fr : Sub f H
  fg : ∀ a o, f a = some o → G a = none
  fc : ∀ (n : Nat) a, r[n]? = some a → f a = none
  len : r.length = h.length
  nd : r.Nodup
  ob : ∀ (n : Nat) a o, r[n]? = some a → h[n]? = some o → ObR w r G H a o
def EnvR (w : Wo) (r : List Addr) (G : L2.Hp) (env : Env) (s : Sg) : Prop :=
  env.length = s.length ∧ ∀ (i : Nat) v, env[i]? = some (some v) → ∃ u, s[i]? = some (some u) ∧ Rv w r G v u
section
variable {w : Wo} {f : L2.Hp} {r r' : List Addr} {G G' H H' : L2.Hp} {h h' : Hp} {env : Env} {s : Sg}
theorem EnvR.mono (e : EnvR w r G env s) (x : Ext r G r' G') : EnvR w r' G' env s := ⟨e.1, fun i v q => by
  obtain ⟨u, e1, e2⟩ := e.2 i v q
  exact ⟨u, e1, Rv.mono x v u e2⟩⟩
theorem EnvR.set (e : EnvR w r G env s) {v : V} {u : L2.V} (rv : Rv w r G v u) (i : Nat) : EnvR w r G (env.set i (some v)) (s.set i (some u)) := by
  refine ⟨by simp [e.1], fun j y q => ?_⟩
  by_cases hj : i = j
  · subst hj
    by_cases hi : i < env.length
    · rw [List.getElem?_set_self hi] at q
      cases q
      exact ⟨u, by rw [List.getElem?_set_self (by rw [← e.1]; exact hi)], rv⟩
    · rw [List.getElem?_eq_none (by simpa using hi)] at q; cases q
  · rw [List.getElem?_set_ne hj] at q
    rw [List.getElem?_set_ne hj]
    exact e.2 j y q
theorem EnvR.forget (e : EnvR w r G env s) (i : Nat) (o : Option L2.V) : EnvR w r G (env.set i none) (s.set i o) := by
  refine ⟨by simp [e.1], fun j y q => ?_⟩
  by_cases hj : i = j
  · subst hj
    by_cases hi : i < env.length
    · rw [List.getElem?_set_self hi] at q; cases q
    · rw [List.getElem?_eq_none (by simpa using hi)] at q; cases q
  · rw [List.getElem?_set_ne hj] at q
    rw [List.getElem?_set_ne hj]
    exact e.2 j y q
theorem EnvR.kill1 (e : EnvR w r G env s) (i : Nat) : EnvR w r G (env.set i none) s := by
  refine ⟨by simp [e.1], fun j y q => ?_⟩
  by_cases hj : i = j
  · subst hj
    by_cases hi : i < env.length
    · rw [List.getElem?_set_self hi] at q; cases q
    · rw [List.getElem?_eq_none (by simpa using hi)] at q; cases q
  · rw [List.getElem?_set_ne hj] at q
    exact e.2 j y q
theorem EnvR.kill (e : EnvR w r G env s) : ∀ ks : List Nat, EnvR w r G (wipeE env ks) s
  | [] => e
  | k :: ks => (e.kill ks).kill1 k
theorem EnvR.wipe (e : EnvR w r G env s) : ∀ ks : List Nat, EnvR w r G (wipeE env ks) (wipe s ks)
  | [] => e
  | k :: ks => (e.wipe ks).forget k none
theorem Sim.fresh (S : Sim w f r G h H) {p : Addr} (hp : H p = none) : G p = none ∧ f p = none ∧ ∀ n : Nat, r[n]? ≠ some p := by
  refine ⟨?_, ?_, fun n e => ?_⟩
  · cases q : G p with
    | none => rfl
    | some o => rw [S.sub _ _ q] at hp; cases hp
  · cases q : f p with
    | none => rfl
    | some o => rw [S.fr _ _ q] at hp; cases hp
  · have hn : n < h.length := by rw [← S.len]; exact (List.getElem?_eq_some_iff.mp e).1
    have q := S.ob n p h[n] e (List.getElem?_eq_getElem hn)
    by_cases hd : h[n] = .dead
    · rw [hd] at q; obtain ⟨o, q⟩ := q; rw [S.sub _ _ q] at hp; cases hp
    · obtain ⟨_, x, z, _⟩ := q.live hd; rw [z] at hp; cases hp
theorem sub_upd {p : Addr} {o : HO} (hp : G p = none) : Sub G (upd G p o) := fun a q e => by
  rw [upd_ne (ne_of_none e hp)]; exact e
theorem upd_get {p b : Addr} {o q : HO} : upd G p o b = some q → (b = p ∧ q = o) ∨ (b ≠ p ∧ G b = some q) := fun e => by
  by_cases hb : b = p
  · subst hb; rw [upd_same] at e; exact .inl ⟨rfl, (Option.some.inj e).symm⟩
  · rw [upd_ne hb] at e; exact .inr ⟨hb, e⟩
/-- an object stays as it was where its address and its parts stand -/
theorem ObR.mono {a : Addr} {o : Ob} (q : ObR w r G H a o) (e : Ext r G r' G') (hg : G a = none → G' a = none) (hh : ∀ x, H a = some x → H' a = some x) (ho : ∀ b, H b = some (.own a) → H' b = some (.own a)) : ObR w r' G' H' a o := by
  cases o with
  | dead => obtain ⟨o, q⟩ := q; exact ⟨o, e.sub _ _ q⟩
  | lst xs => obtain ⟨g, us, q, t⟩ := q; exact ⟨hg g, us, hh _ q, RpAll.mono e.sub _ _ t⟩
  | lv xs => obtain ⟨g, us, q, t⟩ := q; exact ⟨hg g, us, hh _ q, RvAll.mono e _ _ t⟩
  | dct t kvs => obtain ⟨g, us, q, t⟩ := q; exact ⟨hg g, us, q.mono e.sub hh, RpKv.mono e.sub _ _ t⟩
  | ins c fs => obtain ⟨g, dx, us, q, od, en, t⟩ := q; exact ⟨hg g, dx, us, hh _ q, ho _ od, en, RvAll.mono e _ _ t⟩
/-- some thing that is neither data nor a cell comes -/
theorem Sim.other (S : Sim w f r G h H) {p : Addr} (hp : H p = none) (o : HO) : Sim w f r G h (upd H p o) := by
  obtain ⟨g, hf, hr⟩ := S.fresh hp
  refine ⟨fun a q e => ?_, S.gn, fun a q e => ?_, S.fg, S.fc, S.len, S.nd, fun n a q e1 e2 => ?_⟩
  · rw [upd_ne (ne_of_none e g)]; exact S.sub _ _ e
  · rw [upd_ne (ne_of_none e hf)]; exact S.fr _ _ e
  · have hn : a ≠ p := fun z => hr n (z ▸ e1)
    exact (S.ob n a q e1 e2).mono Ext.refl (fun z => z) (fun x z => by rw [upd_ne hn]; exact z) fun b z => by rw [upd_ne (ne_of_none z hp)]; exact z
/-- new data laid -/
theorem Sim.lay (S : Sim w f r G h H) {p : Addr} (hp : H p = none) (o : HO) (hown : ∀ b, o ≠ .own b := by intro b z; cases z) : Sim w f r (upd G p o) h (upd H p o) ∧ Ext r G r (upd G p o) := by
  obtain ⟨g, hf, hr⟩ := S.fresh hp
  have ex : Ext r G r (upd G p o) := ⟨fun _ _ e => e, sub_upd g⟩
  refine ⟨⟨fun a q e => ?_, fun a b e => ?_, fun a q e => ?_, fun a q e => ?_, S.fc, S.len, S.nd, fun n a q e1 e2 => ?_⟩, ex⟩
  · rcases upd_get e with ⟨rfl, rfl⟩ | ⟨hb, e⟩
    · exact upd_same
    · rw [upd_ne hb]; exact S.sub _ _ e
  · rcases upd_get e with ⟨_, z⟩ | ⟨_, e⟩
    · exact hown b z.symm
    · exact S.gn _ _ e
  · rw [upd_ne (ne_of_none e hf)]; exact S.fr _ _ e
  · rw [upd_ne (ne_of_none e hf)]; exact S.fg _ _ e
  · have hn : a ≠ p := fun z => hr n (z ▸ e1)
    exact (S.ob n a q e1 e2).mono ex (fun z => by rw [upd_ne hn]; exact z) (fun x z => by rw [upd_ne hn]; exact z) fun b z => by rw [upd_ne (ne_of_none z hp)]; exact z
/-- a new cell -/
theorem Sim.alloc (S : Sim w f r G h H) {p : Addr} {x : HO} (hp : H p = none) {o : Ob} (hd : ObR w (r ++ [p]) G (upd H p x) p o) :
    Sim w f (r ++ [p]) G (h ++ [o]) (upd H p x) ∧ Ext r G (r ++ [p]) G ∧ (r ++ [p])[h.length]? = some p := by
  obtain ⟨g, hf, hr⟩ := S.fresh hp
  have ex : Ext r G (r ++ [p]) G := ⟨fun n a e => by rw [List.getElem?_append_left (List.getElem?_eq_some_iff.mp e).1]; exact e, fun _ _ e => e⟩
  have last : (r ++ [p])[h.length]? = some p := by rw [← S.len]; simp
  have cases' : ∀ (n : Nat) a, (r ++ [p])[n]? = some a → r[n]? = some a ∨ (n = r.length ∧ a = p) := fun n a e => by
    rcases Nat.lt_or_ge n r.length with z | z
    · rw [List.getElem?_append_left z] at e; exact .inl e
    · rw [List.getElem?_append_right z] at e
      obtain ⟨z2, e2⟩ := List.getElem?_eq_some_iff.mp e
      have : n - r.length = 0 := by simp at z2; omega
      refine .inr ⟨by omega, ?_⟩
      simp [this] at e2
      exact e2.symm
  refine ⟨⟨fun a q e => ?_, S.gn, fun a q e => ?_, S.fg, fun n a e => ?_, by simp [S.len], ?_, fun n a q e1 e2 => ?_⟩, ex, last⟩
  · rw [upd_ne (ne_of_none e g)]; exact S.sub _ _ e
  · rw [upd_ne (ne_of_none e hf)]; exact S.fr _ _ e
  · rcases cases' n a e with z | ⟨_, rfl⟩
    · exact S.fc n a z
    · exact hf
  · rw [List.nodup_append]
    refine ⟨S.nd, by simp, fun a ha b hb z => ?_⟩
    simp at hb
    subst hb
    subst z
    obtain ⟨i, hi⟩ := List.getElem?_of_mem ha
    exact hr i hi
  · rcases cases' n a e1 with z | ⟨rfl, rfl⟩
    · have hn : n < h.length := by rw [← S.len]; exact (List.getElem?_eq_some_iff.mp z).1
      rw [List.getElem?_append_left hn] at e2
      have ha : a ≠ p := fun y => hr n (y ▸ z)
      exact (S.ob n a q z e2).mono ex (fun y => y) (fun x y => by rw [upd_ne ha]; exact y) fun b y => by rw [upd_ne (ne_of_none y hp)]; exact y
    · rw [S.len] at e2
      simp at e2
      subst e2
      exact hd
/-- a cell changed -/
theorem Sim.put (S : Sim w f r G h H) {n : Nat} {a : Addr} {x : HO} {o o' : Ob} (e1 : r[n]? = some a) (e2 : h[n]? = some o) (hd : o ≠ .dead) (q : ObR w r G (upd H a x) a o') :
    Sim w f r G (h.set n o') (upd H a x) := by
  obtain ⟨g, x0, ha0, hx0⟩ := (S.ob n a o e1 e2).live hd
  have fa := S.fc n a e1
  have hown : ∀ b c, H c = some (.own b) → c ≠ a := fun b c z y => by subst y; rw [ha0] at z; exact hx0 b (Option.some.inj z)
  refine ⟨fun b q e => ?_, S.gn, fun b q e => ?_, S.fg, S.fc, by simp [S.len], S.nd, fun m b x y z => ?_⟩
  · rw [upd_ne (ne_of_none e g)]; exact S.sub _ _ e
  · rw [upd_ne (ne_of_none e fa)]; exact S.fr _ _ e
  · by_cases hm : n = m
    · subst hm
      rw [e1] at y
      cases y
      rw [List.getElem?_set_self (List.getElem?_eq_some_iff.mp e2).1] at z
      cases z
      exact q
    · rw [List.getElem?_set_ne hm] at z
      have hb : b ≠ a := fun t => by
        subst t
        obtain ⟨h1, q1⟩ := List.getElem?_eq_some_iff.mp e1
        obtain ⟨h2, q2⟩ := List.getElem?_eq_some_iff.mp y
        exact hm ((List.getElem_inj S.nd).mp (q1.trans q2.symm))
      exact (S.ob m b x y z).mono Ext.refl (fun t => t) (fun t u => by rw [upd_ne hb]; exact u) fun c u => by rw [upd_ne (hown _ _ u)]; exact u
/-- a cell becomes data -/
theorem Sim.freezeO (S : Sim w f r G h H) {n : Nat} {a : Addr} {o : Ob} {x : HO} (e1 : r[n]? = some a) (e2 : h[n]? = some o) (g : G a = none) (ha : H a = some x) (hx : ∀ b, x ≠ .own b) :
    Sim w f r (upd G a x) (h.set n .dead) H ∧ Ext r G r (upd G a x) := by
  have fa := S.fc n a e1
  have ex : Ext r G r (upd G a x) := ⟨fun _ _ e => e, sub_upd g⟩
  refine ⟨⟨fun b q e => ?_, fun b c e => ?_, S.fr, fun b q e => ?_, S.fc, by simp [S.len], S.nd, fun m b y z t => ?_⟩, ex⟩
  · rcases upd_get e with ⟨rfl, rfl⟩ | ⟨hb, e⟩
    · exact ha
    · exact S.sub _ _ e
  · rcases upd_get e with ⟨_, z⟩ | ⟨_, e⟩
    · exact hx c z.symm
    · exact S.gn _ _ e
  · rw [upd_ne (ne_of_none e fa)]; exact S.fg _ _ e
  · by_cases hm : n = m
    · subst hm
      rw [e1] at z
      cases z
      rw [List.getElem?_set_self (List.getElem?_eq_some_iff.mp e2).1] at t
      cases t
      exact ⟨_, upd_same⟩
    · rw [List.getElem?_set_ne hm] at t
      have hb : b ≠ a := fun q => by
        subst q
        obtain ⟨h1, q1⟩ := List.getElem?_eq_some_iff.mp e1
        obtain ⟨h2, q2⟩ := List.getElem?_eq_some_iff.mp z
        exact hm ((List.getElem_inj S.nd).mp (q1.trans q2.symm))
      exact (S.ob m b y z t).mono ex (fun q => by rw [upd_ne hb]; exact q) (fun _ q => q) fun _ q => q
theorem Sim.freeze (S : Sim w f r G h H) {n : Nat} {a : Addr} {xs : List D} (e1 : r[n]? = some a) (e2 : h[n]? = some (.lst xs)) :
    ∃ us, H a = some (.lst us) ∧ Sim w f r (upd G a (.lst us)) (h.set n .dead) H ∧ Ext r G r (upd G a (.lst us)) ∧ Rp w.K (upd G a (.lst us)) (.list xs) (.ref a) := by
  obtain ⟨g, us, ha, t⟩ := S.ob n a _ e1 e2
  obtain ⟨S2, ex⟩ := S.freezeO e1 e2 g ha (fun b z => nomatch z)
  exact ⟨us, ha, S2, ex, ⟨a, us, rfl, .inl (.inl upd_same), RpAll.mono ex.sub _ _ t⟩⟩
theorem Sim.freezeD (S : Sim w f r G h H) {n : Nat} {a : Addr} {t : Bool} {kvs : List (D × D)} (e1 : r[n]? = some a) (e2 : h[n]? = some (.dct t kvs)) :
    ∃ G', Sim w f r G' (h.set n .dead) H ∧ Ext r G r G' ∧ Rp w.K G' (.dict kvs) (.ref a) := by
  obtain ⟨g, us, ha, q⟩ := S.ob n a _ e1 e2
  obtain ⟨x, hx, hn⟩ := ha.at
  obtain ⟨S2, ex⟩ := S.freezeO e1 e2 g hx hn
  refine ⟨_, S2, ex, ⟨a, t, us, rfl, ha.mono ex.sub fun o z => ?_, RpKv.mono ex.sub _ _ q⟩⟩
  rw [hx] at z
  cases z
  exact upd_same
/-- a value read as data -/
theorem Sim.read (S : Sim w f r G h H) {v : V} {u : L2.V} {d : D} (q : Rv w r G v u) (e : rdV h v = some d) : Rt w.K G H d u := by
  cases v with
  | d x => cases e; exact Rp.top S.sub q
  | cell n =>
    obtain ⟨a, e1, rfl⟩ := q
    unfold rdV at e
    cases z : h[n]? with
    | none => simp only [z] at e; cases e
    | some o =>
      cases o with
      | lst xs =>
        simp only [z] at e
        cases e
        obtain ⟨_, us, ha, t⟩ := S.ob n a _ e1 z
        exact ⟨a, us, rfl, .inl (.inl ha), t⟩
      | dct t kvs =>
        simp only [z] at e
        cases e
        obtain ⟨_, us, ha, q⟩ := S.ob n a _ e1 z
        exact ⟨a, t, us, rfl, ha, q⟩
      | _ => simp only [z] at e; cases e
  | vt _ => cases e
  | fn _ => cases e
  | exc _ _ => cases e
end
end Hb

/-! SND1: readings of the small language, and its plain constructs. -/
namespace Hb
open PySem PySem.Spec PyProof.Rows
open L2 hiding V Hp St
set_option autoImplicit false

/-- an error in a heap -/
def ExR (w : Wo) (r : List Addr) (G H : L2.Hp) : V → Value → Option Addr → Prop
  | .exc c fs, cls, d => cls = .ref (w.ca c) ∧ c ∈ w.xc ∧ XdR w G fs d
  | _, _, _ => False
def QOk (w : Wo) (f : L2.Hp) (r : List Addr) (G : L2.Hp) (P : Pv) (Q : L2.V → L2.Hp → Prop) : Prop :=
  ∀ v h' u r' G' H', P v h' → Ext r G r' G' → Sim w f r' G' h' H' → Rv w r' G' v u → Q u H'
def XOk (w : Wo) (f : L2.Hp) (r : List Addr) (G : L2.Hp) (Xp : Px) (E : XK) : Prop :=
  ∀ v h' r' G' H' c d, Xp v h' → Ext r G r' G' → Sim w f r' G' h' H' → ExR w r' G' H' v c d → E c d H'
def AOk (n : Nat) (w : Wo) (f : L2.Hp) (r : List Addr) (G : L2.Hp) (P : List V → Hp → Prop) (Q : List L2.V → L2.Hp → Prop) : Prop :=
  ∀ vs h' us r' G' H', P vs h' → vs.length = n → Ext r G r' G' → Sim w f r' G' h' H' → RvAll w r' G' vs us → Q us H'
def TOk (w : Wo) (f : L2.Hp) (r : List Addr) (G : L2.Hp) (P : Pv) (Q : Bool → L2.Hp → Prop) : Prop :=
  ∀ v h' r' G' H', P v h' → Ext r G r' G' → Sim w f r' G' h' H' → ∃ b, v = .d (.bool b) ∧ Q b H'
section
variable {w : Wo} {f : L2.Hp} {r r1 : List Addr} {G G1 : L2.Hp}
theorem QOk.mono {P : Pv} {Q : L2.V → L2.Hp → Prop} (q : QOk w f r G P Q) (e : Ext r G r1 G1) : QOk w f r1 G1 P Q := fun v h u r' G' H p x => q v h u r' G' H p (e.trans x)
theorem XOk.mono {P : Px} {Q : XK} (q : XOk w f r G P Q) (e : Ext r G r1 G1) : XOk w f r1 G1 P Q := fun v h r' G' H c d p x => q v h r' G' H c d p (e.trans x)
theorem AOk.mono {n : Nat} {P : List V → Hp → Prop} {Q : List L2.V → L2.Hp → Prop} (q : AOk n w f r G P Q) (e : Ext r G r1 G1) : AOk n w f r1 G1 P Q := fun v h u r' G' H p l x => q v h u r' G' H p l (e.trans x)
theorem TOk.mono {P : Pv} {Q : Bool → L2.Hp → Prop} (q : TOk w f r G P Q) (e : Ext r G r1 G1) : TOk w f r1 G1 P Q := fun v h r' G' H p x => q v h r' G' H p (e.trans x)
theorem XOk.never {Q : XK} : XOk w f r G (fun _ _ => False) Q := fun _ _ _ _ _ _ _ z => z.elim
end
def rdE (w : Wo) (F : Phi) (W : WX) (t : T) : TE := fun s H Q => ∃ f r G env h P Xp, Sim w f r G h H ∧ EnvR w r G env s ∧ WE F t env h P Xp ∧ QOk w f r G P Q ∧ XOk w f r G Xp (fun c d H' => W c d s H')
def rdT (w : Wo) (F : Phi) (W : WX) (t : T) : TT := fun s H Q => ∃ f r G env h P Xp, Sim w f r G h H ∧ EnvR w r G env s ∧ WE F t env h P Xp ∧ TOk w f r G P Q ∧ XOk w f r G Xp (fun c d H' => W c d s H')
def rdA (w : Wo) (F : Phi) (W : WX) (t : T) : TA := fun s H Q => ∃ f r G env h P Xp, Sim w f r G h H ∧ EnvR w r G env s ∧ WEs F t env h P Xp ∧ AOk (tlen t) w f r G P Q ∧ XOk w f r G Xp (fun c d H' => W c d s H')
abbrev SE (X : Cx) (w : Wo) (F : Phi) (W : WX) (e : Expr) (t : T) : Prop := PE X e (rdE w F W t)
abbrev ST (X : Cx) (w : Wo) (F : Phi) (W : WX) (e : Expr) (t : T) : Prop := PT X e (rdT w F W t)
abbrev SA (X : Cx) (w : Wo) (F : Phi) (W : WX) (es : List Expr) (t : T) : Prop := PA X es (rdA w F W t)
section
variable {X : Cx} {w : Wo} {F : Phi} {W : WX}
theorem pe_imp {e : Expr} {t t' : TE} (h : PE X e t) (i : ∀ s H Q, t' s H Q → t s H Q) : PE X e t' := ⟨fun pins s σ H Q I q => h.run pins s σ H Q I (i σ H Q q)⟩
theorem pt_imp {e : Expr} {t t' : TT} (h : PT X e t) (i : ∀ s H Q, t' s H Q → t s H Q) : PT X e t' := ⟨fun pins s σ H Q I q => h.run pins s σ H Q I (i σ H Q q)⟩
theorem pw_imp {e : Expr} {t t' : TT} (h : PW X e t) (i : ∀ s H Q, t' s H Q → t s H Q) : PW X e t' := ⟨fun wh pins s σ H Q I q => h.run wh pins s σ H Q I (i σ H Q q)⟩
theorem pa_imp {es : List Expr} {t t' : TA} (h : PA X es t) (i : ∀ s H Q, t' s H Q → t s H Q) : PA X es t' := ⟨fun p pins s σ H Q I q => h.run p pins s σ H Q I (i σ H Q q)⟩
theorem ps_imp {st : Stmt} {t t' : TS} (h : PS X st t) (i : ∀ D s H, t' D s H → t D s H) : PS X st t' := ⟨fun pins s σ H D I q => h.run pins s σ H D I (i D σ H q)⟩
theorem pss_imp {st : List Stmt} {t t' : TS} (h : PSs X st t) (i : ∀ D s H, t' D s H → t D s H) : PSs X st t' := ⟨fun pins s σ H D I q => h.run pins s σ H D I (i D σ H q)⟩

/-! ### names, constants -/
theorem se_var {i : Nat} {x : Str} {pos : Pos} (hN : X.N[i]? = some x) (hv : Vis X.env.scope x) (hd : (x == ("__debug__" : Str)) = false) (hcd : (x == ("__classdict__" : Str)) = false) : SE X w F W (.Name x pos) (.var i) :=
  pe_imp (pe_var hN hv hd hcd) fun s H Q h => by
    obtain ⟨f, r, G, env, h, P, Xp, S, E, wp, q, _⟩ := h
    have wp : optP env[i]? fun o => optP o fun v => P v h := wp
    cases e : env[i]? with
    | none => rw [e] at wp; exact wp.elim
    | some o =>
      rw [e] at wp
      cases o with
      | none => exact wp.elim
      | some v =>
        obtain ⟨u, e1, rv⟩ := E.2 i v e
        exact ⟨u, e1, q v h u r G H wp Ext.refl S rv⟩
theorem se_con {c : D} {e : Expr} {u : L2.V} (h : PE X e (tC u)) (hu : ∀ G, Rp w.K G c u) : SE X w F W e (.con c) := pe_imp h fun s H Q h => by
  obtain ⟨f, r, G, env, h, P, Xp, S, E, wp, q, _⟩ := h
  exact q (.d c) h u r G H wp Ext.refl S (hu G)
theorem se_gco {g : Nat} {c : D} {e : Expr} {u : L2.V} (h : PE X e (tC u)) (hu : ∀ G, Rp w.K G c u) : SE X w F W e (.gco g c) := pe_imp h fun s H Q h => by
  obtain ⟨f, r, G, env, h, P, Xp, S, E, wp, q, _⟩ := h
  exact q (.d c) h u r G H wp Ext.refl S (hu G)
theorem se_fnv {g : Nat} {e : Expr} (h : PE X e (tC (.ref (w.fa g)))) : SE X w F W e (.fnv g) := pe_imp h fun s H Q h => by
  obtain ⟨f, r, G, env, h, P, Xp, S, E, wp, q, _⟩ := h
  exact q (.fn g) h _ r G H wp Ext.refl S rfl

/-! ### operations -/
/-- by values: what an operation asks and gives -/
def rO1 (w : Wo) (o : Hp → V → (V → Prop) → Prop) : L2.V → L2.Hp → VK → Prop := fun x H Q => ∃ f r G h v P, Sim w f r G h H ∧ Rv w r G v x ∧ o h v P ∧
  ∀ z u r' G' H', P z → Ext r G r' G' → Sim w f r' G' h H' → Rv w r' G' z u → Q u H'
def rO2 (w : Wo) (o : Hp → V → V → (V → Prop) → Prop) : R2 := fun x y H Q => ∃ f r G h v1 v2 P, Sim w f r G h H ∧ Rv w r G v1 x ∧ Rv w r G v2 y ∧ o h v1 v2 P ∧
  ∀ z u r' G' H', P z → Ext r G r' G' → Sim w f r' G' h H' → Rv w r' G' z u → Q u H'
variable {a b c e : Expr} {t t1 t2 t3 : T} {pos : Pos}
theorem rd_o2 {o : O2} {s : Sg} {H : L2.Hp} {Q : VK} (h : rdE w F W (.o2 o t1 t2) s H Q) : tOp (rO2 w (o2V o)) (rdE w F W t1) (rdE w F W t2) s H Q := by
  obtain ⟨f, r, G, env, h, P, Xp, S, E, wp, q, qx⟩ := h
  refine ⟨f, r, G, env, h, _, Xp, S, E, wp, fun v h1 u r1 G1 H1 w1 e1 S1 rv => ?_, qx⟩
  refine ⟨f, r1, G1, env, h1, _, Xp, S1, E.mono e1, w1, fun v2 h2 u2 r2 G2 H2 w2 e2 S2 rv2 => ?_, qx.mono e1⟩
  exact ⟨f, r2, G2, h2, v, v2, _, S2, Rv.mono e2 _ _ rv, rv2, w2, fun z u' r' G' H' pz e3 S3 rz => q z h2 u' r' G' H' pz ((e1.trans e2).trans e3) S3 rz⟩
theorem se_bin {op : Operator} {o : O2} (ho : OpR X (binaryOp op) (rO2 w (o2V o))) (ha : SE X w F W a t1) (hb : SE X w F W b t2) : SE X w F W (.BinOp a op b pos) (.o2 o t1 t2) :=
  pe_imp (pe_op ho ha hb) fun _ _ _ h => rd_o2 h
theorem se_cmp {op : CmpOp} {o : O2} (ho : OpR X (compareOp op) (rO2 w (o2V o))) (ha : SE X w F W a t1) (hb : SE X w F W b t2) (hm : behindInMarks op b = false) : SE X w F W (.Compare a [op] [b] pos) (.o2 o t1 t2) :=
  pe_imp (pe_cmpR ho ha hb hm) fun _ _ _ h => rd_o2 h
/-- a test's reading from a value's -/
theorem rdT_tB {te : TE} {s : Sg} {H : L2.Hp} {Q : Bool → L2.Hp → Prop} (hh : ∀ s H Q, rdE w F W t s H Q → te s H Q) (h : rdT w F W t s H Q) : te s H fun x H1 => ∃ k, x = .bl k ∧ Q k H1 := by
  obtain ⟨f, r, G, env, h, P, Xp, S, E, wp, q, qx⟩ := h
  refine hh _ _ _ ⟨f, r, G, env, h, P, Xp, S, E, wp, fun v h1 u r1 G1 H1 p e1 S1 rv => ?_, qx⟩
  obtain ⟨k, rfl, qk⟩ := q v h1 r1 G1 H1 p e1 S1
  exact ⟨k, rv, qk⟩
theorem st_cmp {op : CmpOp} {o : O2} (ho : OpR X (compareOp op) (rO2 w (o2V o))) (ha : SE X w F W a t1) (hb : SE X w F W b t2) (hm : behindInMarks op b = false) : ST X w F W (.Compare a [op] [b] pos) (.o2 o t1 t2) :=
  pt_imp (pt_cmpR ho ha hb hm) fun s H Q h => rdT_tB (te := tOp (rO2 w (o2V o)) (rdE w F W t1) (rdE w F W t2)) (fun _ _ _ h => rd_o2 h) h
theorem st_val (h : SE X w F W e t) (he : ∀ whole, isTrue e X.env whole = (do let v ← whole; standAt e.pos; holding [v] (truthy v))) : ST X w F W e t :=
  pt_imp (pt_val h he) fun s H Q h => rdT_tB (te := rdE w F W t) (fun _ _ _ h => h) h
theorem se_ix (ho : IxR X (rO2 w (o2V .idx))) (ha : SE X w F W a t1) (hb : SE X w F W b t2) (hs : PlainIx b) : SE X w F W (.Subscript a b pos) (.o2 .idx t1 t2) :=
  pe_imp (pe_ix ho ha hb hs) fun _ _ _ h => rd_o2 h
theorem rd_o1 {o : O1} {s : Sg} {H : L2.Hp} {Q : VK} (h : rdE w F W (.o1 o t) s H Q) : rdE w F W t s H fun x H1 => rO1 w (o1V o) x H1 Q := by
  obtain ⟨f, r, G, env, h, P, Xp, S, E, wp, q, qx⟩ := h
  refine ⟨f, r, G, env, h, _, Xp, S, E, wp, fun v h1 u r1 G1 H1 w1 e1 S1 rv => ?_, qx⟩
  exact ⟨f, r1, G1, h1, v, _, S1, rv, w1, fun z u' r' G' H' pz e3 S3 rz => q z h1 u' r' G' H' pz (e1.trans e3) S3 rz⟩
theorem se_un {op : UnaryOp} {o : O1} (ho : UnR X (unaryOp op) (rO1 w (o1V o))) (ha : SE X w F W a t) : SE X w F W (.UnaryOp op a pos) (.o1 o t) :=
  pe_imp (pe_un ho ha) fun _ _ _ h => rd_o1 h
/-- one written argument, two -/
theorem rd_a1 {s : Sg} {H : L2.Hp} {Q : VK} {R : L2.V → L2.Hp → Prop} (h : rdE w F W t s H R) : tCons (rdE w F W t) tNil s H fun xs H1 => ∃ x, xs = [x] ∧ R x H1 := by
  obtain ⟨f, r, G, env, h, P, Xp, S, E, wp, q, qx⟩ := h
  exact ⟨f, r, G, env, h, P, Xp, S, E, wp, fun v h1 u r1 G1 H1 p e1 S1 rv => ⟨u, rfl, q v h1 u r1 G1 H1 p e1 S1 rv⟩, qx⟩
def rC1 (r : L2.V → L2.Hp → VK → Prop) : List L2.V → L2.Hp → VK → Prop := fun xs H Q => ∃ x, xs = [x] ∧ r x H Q
def rC2 (r : R2) : List L2.V → L2.Hp → VK → Prop := fun xs H Q => ∃ x y, xs = [x, y] ∧ r x y H Q
theorem nostar {e : Expr} {es : List Expr} {env : PySem.Env} (h : ∀ x p, e ≠ .Starred x p) : starEach (e :: es) env = (false, eval e env) :: starEach es env := by
  cases e <;> first | rfl | exact absurd rfl (h _ _)
theorem noany {es : List Expr} {env : PySem.Env} {pos : Pos} : (∀ e ∈ es, ∀ x p, e ≠ .Starred x p) → (backTo pos (starEach es env)).any (·.1) = false := by
  induction es with
  | nil => intro _; rfl
  | cons e es ih =>
    intro h
    rw [nostar (h e (by simp))]
    show (false || (backTo pos (starEach es env)).any (·.1)) = false
    rw [ih fun e he => h e (by simp [he])]
    rfl
theorem se_b1 {x : Str} {id : String} {o : O1} {p : Pos} (hc : CallR X (.builtin id) (rC1 (rO1 w (o1V o)))) (hg : Gl X x) (hm : X.mg x = none) (hv : bootBuiltins x = some (.builtin id)) (ha : SE X w F W a t) (hs : ∀ x p, a ≠ .Starred x p)
    (hn : x ≠ "__name__") (hdb : (x == ("__debug__" : Str)) = false) : SE X w F W (.Call (.Name x p) [a] [] pos) (.o1 o t) :=
  pe_imp (pe_callB hc hg hm hv (pa_cons ha pa_nil (nostar hs)) hn hdb (nostar hs) rfl) fun s H Q h => by
    obtain ⟨f, r, G, env, h, P, Xp, S, E, wp, q, qx⟩ := rd_o1 h
    exact ⟨f, r, G, env, h, P, Xp, S, E, wp, fun v h1 u r1 G1 H1 p e1 S1 rv => ⟨u, rfl, q v h1 u r1 G1 H1 p e1 S1 rv⟩, qx⟩
theorem se_ty1 {x : Str} {id : String} {o : O1} {p : Pos} (hc : CallR X (.type id) (rC1 (rO1 w (o1V o)))) (hg : Gl X x) (hm : X.mg x = none) (hv : bootBuiltins x = some (.type id)) (ha : SE X w F W a t) (hs : ∀ x p, a ≠ .Starred x p)
    (hn : x ≠ "__name__") (hdb : (x == ("__debug__" : Str)) = false) : SE X w F W (.Call (.Name x p) [a] [] pos) (.o1 o t) :=
  pe_imp (pe_callTy hc hg hm hv (pa_cons ha pa_nil (nostar hs)) hn hdb (nostar hs) rfl) fun s H Q h => by
    obtain ⟨f, r, G, env, h, P, Xp, S, E, wp, q, qx⟩ := rd_o1 h
    exact ⟨f, r, G, env, h, P, Xp, S, E, wp, fun v h1 u r1 G1 H1 p e1 S1 rv => ⟨u, rfl, q v h1 u r1 G1 H1 p e1 S1 rv⟩, qx⟩
theorem se_b2 {x : Str} {id : String} {o : O2} {p : Pos} (hc : CallR X (.builtin id) (rC2 (rO2 w (o2V o)))) (hg : Gl X x) (hm : X.mg x = none) (hv : bootBuiltins x = some (.builtin id)) (ha : SE X w F W a t1) (hb : SE X w F W b t2)
    (hs : ∀ x p, a ≠ .Starred x p) (hs2 : ∀ x p, b ≠ .Starred x p) (hn : x ≠ "__name__") (hdb : (x == ("__debug__" : Str)) = false) : SE X w F W (.Call (.Name x p) [a, b] [] pos) (.o2 o t1 t2) :=
  pe_imp (pe_callB hc hg hm hv (pa_cons ha (pa_cons hb pa_nil (nostar hs2)) (nostar hs)) hn hdb (nostar hs) (noany (by simpa using hs2))) fun s H Q h => by
    obtain ⟨f, r, G, env, h, P, Xp, S, E, wp, q, qx⟩ := rd_o2 h
    refine ⟨f, r, G, env, h, P, Xp, S, E, wp, fun v h1 u r1 G1 H1 p e1 S1 rv => ?_, qx⟩
    obtain ⟨f', r', G', env', h', P', Xp', S', E', wp', q', qx'⟩ := q v h1 u r1 G1 H1 p e1 S1 rv
    exact ⟨f', r', G', env', h', P', Xp', S', E', wp', fun v2 h2 u2 r2 G2 H2 p2 e2 S2 rv2 => ⟨u, u2, rfl, q' v2 h2 u2 r2 G2 H2 p2 e2 S2 rv2⟩, qx'⟩

/-! ### and, or, not, if -/
theorem boolP_of {v : V} {Q : Bool → Prop} (h : boolP v Q) : ∃ k, v = .d (.bool k) ∧ Q k := by
  cases v with
  | d x => cases x <;> first | exact ⟨_, rfl, h⟩ | exact h.elim
  | _ => exact h.elim
theorem rd_and {s : Sg} {H : L2.Hp} {Q : Bool → L2.Hp → Prop} (h : rdT w F W (.and t1 t2) s H Q) : tAnd (rdT w F W t1) (rdT w F W t2) s H Q := by
  obtain ⟨f, r, G, env, h, P, Xp, S, E, wp, q, qx⟩ := h
  refine ⟨f, r, G, env, h, _, Xp, S, E, wp, fun v h1 r1 G1 H1 p e1 S1 => ?_, qx⟩
  obtain ⟨k, rfl, p⟩ := boolP_of p
  refine ⟨k, rfl, ?_⟩
  cases k with
  | true => rw [if_pos rfl]; exact ⟨f, r1, G1, env, h1, _, Xp, S1, E.mono e1, p, q.mono e1, qx.mono e1⟩
  | false =>
    rw [if_neg Bool.false_ne_true]
    obtain ⟨k, e, qk⟩ := q _ h1 r1 G1 H1 p e1 S1
    cases e
    exact qk
theorem rd_or {s : Sg} {H : L2.Hp} {Q : Bool → L2.Hp → Prop} (h : rdT w F W (.or t1 t2) s H Q) : tOr (rdT w F W t1) (rdT w F W t2) s H Q := by
  obtain ⟨f, r, G, env, h, P, Xp, S, E, wp, q, qx⟩ := h
  refine ⟨f, r, G, env, h, _, Xp, S, E, wp, fun v h1 r1 G1 H1 p e1 S1 => ?_, qx⟩
  obtain ⟨k, rfl, p⟩ := boolP_of p
  refine ⟨k, rfl, ?_⟩
  cases k with
  | false => rw [if_neg Bool.false_ne_true]; exact ⟨f, r1, G1, env, h1, _, Xp, S1, E.mono e1, p, q.mono e1, qx.mono e1⟩
  | true =>
    rw [if_pos rfl]
    obtain ⟨k, e, qk⟩ := q _ h1 r1 G1 H1 p e1 S1
    cases e
    exact qk
theorem sw_and1 (h : ST X w F W a t) : PW X (.BoolOp .And [a] pos) (rdT w F W t) := pw_and1 h
theorem sw_or1 (h : ST X w F W a t) : PW X (.BoolOp .Or [a] pos) (rdT w F W t) := pw_or1 h
theorem sw_and {rest : List Expr} (ha : ST X w F W a t1) (hb : PW X (.BoolOp .And (b :: rest) pos) (rdT w F W t2)) : PW X (.BoolOp .And (a :: b :: rest) pos) (rdT w F W (.and t1 t2)) := pw_imp (pw_and ha hb) fun _ _ _ h => rd_and h
theorem sw_or {rest : List Expr} (ha : ST X w F W a t1) (hb : PW X (.BoolOp .Or (b :: rest) pos) (rdT w F W t2)) : PW X (.BoolOp .Or (a :: b :: rest) pos) (rdT w F W (.or t1 t2)) := pw_imp (pw_or ha hb) fun _ _ _ h => rd_or h
theorem st_not (ha : ST X w F W a t) : ST X w F W (.UnaryOp .Not a pos) (.not t) := pt_imp (pt_not ha) fun s H Q h => by
  obtain ⟨f, r, G, env, h, P, Xp, S, E, wp, q, qx⟩ := h
  refine ⟨f, r, G, env, h, _, Xp, S, E, wp, fun v h1 r1 G1 H1 p e1 S1 => ?_, qx⟩
  obtain ⟨k, rfl, p⟩ := boolP_of p
  obtain ⟨k', e, qk⟩ := q _ h1 r1 G1 H1 p e1 S1
  cases e
  exact ⟨k, rfl, qk⟩
theorem se_not (ha : SE X w F W a t) : SE X w F W (.UnaryOp .Not a pos) (.not t) := pe_imp (pe_not ha) fun s H Q h => by
  obtain ⟨f, r, G, env, h, P, Xp, S, E, wp, q, qx⟩ := h
  refine ⟨f, r, G, env, h, _, Xp, S, E, wp, fun v h1 u r1 G1 H1 p e1 S1 rv => ?_, qx⟩
  obtain ⟨k, rfl, p⟩ := boolP_of p
  exact ⟨k, rv, q _ h1 (.bl (!k)) r1 G1 H1 p e1 S1 rfl⟩
theorem se_ite (hc : ST X w F W c t1) (ha : SE X w F W a t2) (hb : SE X w F W b t3) : SE X w F W (.IfExp c a b pos) (.ite t1 t2 t3) := pe_imp (pe_ifExp hc ha hb) fun s H Q h => by
  obtain ⟨f, r, G, env, h, P, Xp, S, E, wp, q, qx⟩ := h
  refine ⟨f, r, G, env, h, _, Xp, S, E, wp, fun v h1 r1 G1 H1 p e1 S1 => ?_, qx⟩
  obtain ⟨k, rfl, p⟩ := boolP_of p
  refine ⟨k, rfl, ?_⟩
  cases k with
  | true => rw [if_pos rfl]; exact ⟨f, r1, G1, env, h1, _, Xp, S1, E.mono e1, p, q.mono e1, qx.mono e1⟩
  | false => rw [if_neg Bool.false_ne_true]; exact ⟨f, r1, G1, env, h1, _, Xp, S1, E.mono e1, p, q.mono e1, qx.mono e1⟩
end
/-! ### new tuples: their objects have no dict -/
abbrev obTup (us : List Value) : Obj := { cls := .type "tuple", data := .seq us.toArray }
theorem inv_newT {X : Cx} {pins : List (Addr × Obj)} {s : Shared} {σ : Sg} {H : L2.Hp} {xs : List L2.V} {us : List Value} {t' : Nat} (I : Inv X pins σ H s) (r : Vals xs us) (z : xs.length ≤ sizeLine) :
    Inv X pins σ (upd H s.heap.objs.size (.frz (obTup us) (.tup xs))) { s with heap := s.heap.push (obTup us), toks := t' } ∧ H s.heap.objs.size = none :=
  ⟨I.laid (t' := t') (o := .frz (obTup us) (.tup xs)) (fun b u e => Heap.get?_push_of_some _ e) (Nat.le_refl _) ⟨Heap.get?_push_size _ rfl, z, us, r, _, Heap.get?_push_size _ rfl, rfl, _, rfl⟩, I.hok.fresh (Nat.le_refl _)⟩
/-- a new tuple is told -/
def NewT (H : L2.Hp) (xs : List L2.V) (Q : VK) : Prop := ∀ p ob, H p = none → Obj.dict ob = none → Q (.ref p) (upd H p (.frz ob (.tup xs)))
theorem pe_tupP {X : Cx} {es : List Expr} {t : TA} {x1 : Nat} {pos : Pos} (h : PA X es t) : PE X (.Tuple es x1 pos) (fun σ H Q => t σ H fun xs H1 => xs.length ≤ sizeLine ∧ NewT H1 xs Q) := by
  refine ⟨fun pins s σ H Q I hq => wpAny_Tuple_spliced (thn (h.run pos pins s σ H _ I hq) fun us s1 ⟨xs, H1, I1, r, z, q⟩ => ⟨by rw [← r.length]; exact z, ?_⟩)⟩
  obtain ⟨I2, hf⟩ := inv_newT (t' := s1.toks) I1 r z
  exact ⟨.ref s1.heap.objs.size, _, I2, rfl, q _ _ hf rfl⟩
end Hb

/-! SND2: and, or as values, chains, displays, arguments, calls. -/
namespace Hb
open PySem PySem.Spec PyProof.Rows
open L2 hiding V Hp St
set_option autoImplicit false
section
variable {X : Cx} {w : Wo} {F : Phi} {W : WX} {a b c e : Expr} {es : List Expr} {t t1 t2 t3 : T} {pos : Pos}
theorem se_one {op : BoolOp} (h : SE X w F W a t) : SE X w F W (.BoolOp op [a] pos) t := pe_one h
theorem se_and {rest : List Expr} (ha : SE X w F W a t1) (hb : SE X w F W (.BoolOp .And (b :: rest) pos) t2) : SE X w F W (.BoolOp .And (a :: b :: rest) pos) (.and t1 t2) := pe_imp (pe_and ha hb) fun s H Q h => by
  obtain ⟨f, r, G, env, h, P, Xp, S, E, wp, q, qx⟩ := h
  refine ⟨f, r, G, env, h, _, Xp, S, E, wp, fun v h1 u r1 G1 H1 p e1 S1 rv => ?_, qx⟩
  obtain ⟨k, rfl, p⟩ := boolP_of p
  refine ⟨k, rv, ?_⟩
  cases k with
  | true => rw [if_pos rfl]; exact ⟨f, r1, G1, env, h1, _, Xp, S1, E.mono e1, p, q.mono e1, qx.mono e1⟩
  | false => rw [if_neg Bool.false_ne_true]; exact q _ h1 (.bl false) r1 G1 H1 p e1 S1 rfl
theorem se_or {rest : List Expr} (ha : SE X w F W a t1) (hb : SE X w F W (.BoolOp .Or (b :: rest) pos) t2) : SE X w F W (.BoolOp .Or (a :: b :: rest) pos) (.or t1 t2) := pe_imp (pe_or ha hb) fun s H Q h => by
  obtain ⟨f, r, G, env, h, P, Xp, S, E, wp, q, qx⟩ := h
  refine ⟨f, r, G, env, h, _, Xp, S, E, wp, fun v h1 u r1 G1 H1 p e1 S1 rv => ?_, qx⟩
  obtain ⟨k, rfl, p⟩ := boolP_of p
  refine ⟨k, rv, ?_⟩
  cases k with
  | false => rw [if_neg Bool.false_ne_true]; exact ⟨f, r1, G1, env, h1, _, Xp, S1, E.mono e1, p, q.mono e1, qx.mono e1⟩
  | true => rw [if_pos rfl]; exact q _ h1 (.bl true) r1 G1 H1 p e1 S1 rfl
theorem rd_chn {o p : O2} {s : Sg} {H : L2.Hp} {Q : VK} (h : rdE w F W (.chn o p t1 t2 t3) s H Q) : tChain (rO2 w (o2V o)) (rO2 w (o2V p)) (rdE w F W t1) (rdE w F W t2) (rdE w F W t3) s H Q := by
  obtain ⟨f, r, G, env, h, P, Xp, S, E, wp, q, qx⟩ := h
  refine ⟨f, r, G, env, h, _, Xp, S, E, wp, fun v h1 u r1 G1 H1 w1 e1 S1 rv => ?_, qx⟩
  refine ⟨f, r1, G1, env, h1, _, Xp, S1, E.mono e1, w1, fun v2 h2 u2 r2 G2 H2 w2 e2 S2 rv2 => ?_, qx.mono e1⟩
  refine ⟨f, r2, G2, h2, v, v2, _, S2, Rv.mono e2 _ _ rv, rv2, w2, fun z u' r3 G3 H3 pz e3 S3 rz => ?_⟩
  obtain ⟨k, rfl, pz⟩ := boolP_of pz
  refine ⟨k, rz, ?_⟩
  cases k with
  | false => rw [if_neg Bool.false_ne_true]; exact q _ h2 (.bl false) r3 G3 H3 pz ((e1.trans e2).trans e3) S3 rfl
  | true =>
    rw [if_pos rfl]
    refine ⟨f, r3, G3, env, h2, _, Xp, S3, E.mono ((e1.trans e2).trans e3), pz, fun v4 h4 u4 r4 G4 H4 w4 e4 S4 rv4 => ?_, qx.mono ((e1.trans e2).trans e3)⟩
    exact ⟨f, r4, G4, h4, v2, v4, _, S4, Rv.mono (e3.trans e4) _ _ rv2, rv4, w4, fun z u5 r5 G5 H5 pz5 e5 S5 rz5 => q z h4 u5 r5 G5 H5 pz5 ((((e1.trans e2).trans e3).trans e4).trans e5) S5 rz5⟩
theorem se_chn {op op' : CmpOp} {o p : O2} (ho : OpR X (compareOp op) (rO2 w (o2V o))) (hp : OpR X (compareOp op') (rO2 w (o2V p))) (ha : SE X w F W a t1) (hb : SE X w F W b t2) (hc : SE X w F W c t3) (hm : lastMarks [op, op'] [b, c] = false) :
    SE X w F W (.Compare a [op, op'] [b, c] pos) (.chn o p t1 t2 t3) := pe_imp (pe_chain ho hp ha hb hc hm) fun _ _ _ h => rd_chn h
theorem st_chn {op op' : CmpOp} {o p : O2} (ho : OpR X (compareOp op) (rO2 w (o2V o))) (hp : OpR X (compareOp op') (rO2 w (o2V p))) (ha : SE X w F W a t1) (hb : SE X w F W b t2) (hc : SE X w F W c t3) (hm : lastMarks [op, op'] [b, c] = false) :
    ST X w F W (.Compare a [op, op'] [b, c] pos) (.chn o p t1 t2 t3) :=
  pt_imp (pt_chain ho hp ha hb hc hm) fun s H Q h => rdT_tB (te := tChain (rO2 w (o2V o)) (rO2 w (o2V p)) (rdE w F W t1) (rdE w F W t2) (rdE w F W t3)) (fun _ _ _ h => rd_chn h) h

/-! ### arguments, displays -/
theorem sa_nil : SA X w F W [] .nil := pa_imp pa_nil fun s H Q h => by
  obtain ⟨f, r, G, env, h, P, Xp, S, E, wp, q, qx⟩ := h
  exact q [] h [] r G H wp rfl Ext.refl S rfl
theorem sa_cons (ha : SE X w F W e t1) (hs : SA X w F W es t2) (hn : ∀ x p, e ≠ .Starred x p) : SA X w F W (e :: es) (.cons t1 t2) := pa_imp (pa_cons ha hs (nostar hn)) fun s H Q h => by
  obtain ⟨f, r, G, env, h, P, Xp, S, E, wp, q, qx⟩ := h
  refine ⟨f, r, G, env, h, _, Xp, S, E, wp, fun v h1 u r1 G1 H1 w1 e1 S1 rv => ?_, qx⟩
  refine ⟨f, r1, G1, env, h1, _, Xp, S1, E.mono e1, w1, fun vs h2 us r2 G2 H2 w2 l2 e2 S2 rv2 => ?_, qx.mono e1⟩
  exact q (v :: vs) h2 (u :: us) r2 G2 H2 w2 (by show vs.length + 1 = tlen t2 + 1; rw [l2]) (e1.trans e2) S2 ⟨u, us, rfl, Rv.mono e2 _ _ rv, rv2⟩
theorem big_eq : sizeLine = big := sizeLine_eq
theorem rvAll_len {r : List Addr} {G : L2.Hp} {vs : List V} {us : List L2.V} (h : RvAll w r G vs us) : vs.length = us.length := (rvAll_iff.mp h).length
theorem rpAll_len {K : PySem.W.Frag} {G : L2.Hp} {vs : List D} {us : List L2.V} (h : RpAll K G vs us) : vs.length = us.length := (rpAll_iff.mp h).length
/-- a tuple laid -/
theorem rv_tup {r : List Addr} {G : L2.Hp} {vs : List V} {us : List L2.V} {p : Addr} (ht : TqT G p us) (h : RvAll w r G vs us) : Rv w r G (mkTup vs) (.ref p) := by
  unfold mkTup
  cases e : allD vs with
  | none => exact ⟨p, us, rfl, ht, h⟩
  | some ds =>
    have e2 := allD_map e
    subst e2
    exact ⟨p, us, rfl, ht, rvAll_d.mp h⟩
theorem se_tup {x1 : Nat} (h : SA X w F W es t) : SE X w F W (.Tuple es x1 pos) (.tup t) := pe_imp (pe_tupP h) fun s H Q h => by
  obtain ⟨f, r, G, env, h, P, Xp, S, E, wp, q, qx⟩ := h
  refine ⟨f, r, G, env, h, _, Xp, S, E, wp, fun vs h1 us r1 G1 H1 w1 _ e1 S1 rv => ?_, qx⟩
  obtain ⟨hl, w1⟩ := w1
  refine ⟨by rw [← rvAll_len rv, big_eq]; exact hl, fun p ob hp hd => ?_⟩
  obtain ⟨S2, e2⟩ := S1.lay hp (.frz ob (.tup us)) (fun b z => nomatch z)
  exact q _ h1 (.ref p) r1 _ _ w1 (e1.trans e2) S2 (rv_tup ⟨ob, upd_same, hd⟩ (RvAll.mono e2 _ _ rv))
theorem ob_mk {r : List Addr} {G H : L2.Hp} {vs : List V} {us : List L2.V} {p : Addr} (hg : G p = none) (h : RvAll w r G vs us) : ObR w r G (upd H p (.lst us)) p (mkOb vs) := by
  unfold mkOb
  cases e : allD vs with
  | none => exact ⟨hg, us, upd_same, h⟩
  | some ds =>
    have e2 := allD_map e
    subst e2
    exact ⟨hg, us, upd_same, rvAll_d.mp h⟩
/-- a list laid: data, or a new cell -/
theorem mkL_ok {f : L2.Hp} {r r1 : List Addr} {G G1 H1 : L2.Hp} {o : Bool} {vs : List V} {us : List L2.V} {h1 : Hp} {P : Pv} {Q : VK} {p : Addr} (q : QOk w f r G P Q) (m : mkL o vs h1 P) (e1 : Ext r G r1 G1) (S1 : Sim w f r1 G1 h1 H1) (rv : RvAll w r1 G1 vs us) (hp : H1 p = none) :
    Q (.ref p) (upd H1 p (.lst us)) := by
  cases o with
  | false =>
    have m : optP (allD vs) fun ds => P (.d (.list ds)) h1 := m
    cases e : allD vs with
    | none => rw [e] at m; exact m.elim
    | some ds =>
      rw [e] at m
      have e3 := allD_map e
      subst e3
      obtain ⟨S2, e2⟩ := S1.lay hp (.lst us)
      have m' : P (.d (.list ds)) h1 := by
        have m : optP (allD (ds.map V.d)) fun ds => P (.d (.list ds)) h1 := m
        rw [e] at m
        exact m
      exact q (.d (.list ds)) h1 (.ref p) r1 _ _ m' (e1.trans e2) S2 ⟨p, us, rfl, .inl (.inl upd_same), RpAll.mono e2.sub _ _ (rvAll_d.mp rv)⟩
  | true =>
    have m : P (.cell h1.length) (h1 ++ [mkOb vs]) := m
    have g := (S1.fresh hp).1
    have e0 : Ext r1 G1 (r1 ++ [p]) G1 := ⟨fun n a e => by rw [List.getElem?_append_left (List.getElem?_eq_some_iff.mp e).1]; exact e, fun _ _ e => e⟩
    obtain ⟨S2, e2, el⟩ := S1.alloc (x := .lst us) hp (o := mkOb vs) (ob_mk g (RvAll.mono e0 _ _ rv))
    exact q _ _ (.ref p) _ _ _ m (e1.trans e2) S2 ⟨p, el, rfl⟩
theorem se_lst {o : Bool} (h : SA X w F W es t) : SE X w F W (.List es pos) (.lst o t) := pe_imp (pe_lst h) fun s H Q h => by
  obtain ⟨f, r, G, env, h, P, Xp, S, E, wp, q, qx⟩ := h
  refine ⟨f, r, G, env, h, _, Xp, S, E, wp, fun vs h1 us r1 G1 H1 w1 _ e1 S1 rv => ?_, qx⟩
  obtain ⟨hl, w1⟩ := w1
  exact ⟨by rw [← rvAll_len rv, big_eq]; exact hl, fun p hp => mkL_ok q w1 e1 S1 rv hp⟩
theorem se_edic : SE X w F W (.Dict [] [] pos) .edic := pe_imp pe_dnewK fun s H Q h => by
  obtain ⟨f, r, G, env, h, P, Xp, S, E, wp, q, qx⟩ := h
  intro p hp
  obtain ⟨S2, e2⟩ := S.lay hp (.dK [])
  exact q (.d (.dict [])) h (.ref p) r _ _ wp e2 S2 ⟨p, false, [], rfl, ⟨[], upd_same, rfl, rfl⟩, rfl⟩

/-! ### calls of defs -/
/-- a def as it is called: the promise of its meaning -/
def spOf (w : Wo) (F : Phi) (np : Nat) (g : Nat) : Sp := fun us H Q E => us.length = np ∧ ∃ f r G args h P Xp, Sim w f r G h H ∧ RvAll w r G args us ∧ F g args h P Xp ∧ QOk w f r G P Q ∧ XOk w f r G Xp E
/-- positional and keyword values in the parameters' order -/
def kArr {α : Type} (np : Nat) (nk : Nat) (ord : List Nat) (us ws : List α) : List α := if us.length = np ∧ ws.length = nk then perm ord (us ++ ws) else []
abbrev KBd (K : PySem.W.Frag) (fd : FuncData) (ps : List Str) (kw : Nat × List Str × List Nat) : Prop := KBinds K fd ps kw.2.1 (kArr kw.1 kw.2.1.length kw.2.2) (kArr kw.1 kw.2.1.length kw.2.2)
theorem vals_perm {us : List L2.V} {ws : List Value} (h : Vals us ws) (ord : List Nat) : Vals (perm ord us) (perm ord ws) := by
  unfold perm
  induction ord with
  | nil => exact .nil
  | cons i r ih =>
    rw [List.filterMap_cons, List.filterMap_cons]
    cases e : us[i]? with
    | none => rw [h.none_of e]; exact ih
    | some u =>
      obtain ⟨v, e2, rv⟩ := h.get e
      rw [e2]
      exact .cons rv ih
/-- a pattern of keywords binds, by one equation -/
theorem kbd_of {K : PySem.W.Frag} {fd : FuncData} {ps : List Str} {np : Nat} {ks : List Str} {ord : List Nat} (hp : ps ≠ [])
    (h : ∀ us ws : List Value, us.length = np → ws.length = ks.length → bindArgs fd ⟨us, ks.zip ws⟩ = pure (ps.zip (perm ord (us ++ ws)))) : KBd K fd ps (np, ks, ord) where
  to := fun s us ws _ hl => by
    unfold kArr at hl ⊢
    by_cases e : us.length = np ∧ ws.length = ks.length
    · rw [if_pos e] at hl ⊢
      exact .of_eq (h us ws e.1 e.2)
    · rw [if_neg e] at hl
      exact absurd (List.length_eq_zero_iff.mp hl.symm) hp
  rel := fun {vs us zs ws} r rz => by
    unfold kArr
    by_cases e : us.length = np ∧ ws.length = ks.length
    · rw [if_pos e, if_pos (by rw [r.length, rz.length]; exact e)]
      exact vals_perm (r.append rz) ord
    · rw [if_neg e, if_neg (by rw [r.length, rz.length]; exact e)]
      exact .nil
theorem rvAll_perm {r : List Addr} {G : L2.Hp} {vs : List V} {us : List L2.V} (h : RvAll w r G vs us) (ord : List Nat) : RvAll w r G (perm ord vs) (perm ord us) := by
  have h := rvAll_iff.mp h
  rw [rvAll_iff]
  unfold perm
  induction ord with
  | nil => exact .nil
  | cons i q ih =>
    rw [List.filterMap_cons, List.filterMap_cons]
    cases e : vs[i]? with
    | none =>
      have : us[i]? = none := List.getElem?_eq_none_iff.mpr (by have := List.getElem?_eq_none_iff.mp e; have := h.length; omega)
      rw [this]; exact ih
    | some u =>
      obtain ⟨v, e2, rv⟩ := h.getL e
      rw [e2]
      exact .cons rv ih
/-- the def number g: its name, its parameters, the patterns of keywords that it is called by -/
structure DefOk (P : Program) (ww : World) (mg : Str → Option Value) (base : Heap) (k : Nat) (w : Wo) (F : Phi) (g : Nat) (x : Str) (ps : List Str) (kws : List (Nat × List Str × List Nat)) : Prop where
  at_ : x ≠ "" → mg x = some (.ref (w.fa g))
  kp : PySem.W.keepIn w.K (.ref (w.fa g)) = true
  ok : ∃ fd, Binds w.K fd ps [] ∧ (∀ kw ∈ kws, KBd w.K fd ps kw) ∧ FnOk P ww w.K mg base (L2.CX P ww) k (w.fa g) fd ps (spOf w F ps.length g)
variable {k g : Nat} {x : Str} {ps : List Str} {kwl : List (Nat × List Str × List Nat)} {p : Pos}
theorem se_call (hK : X.K = w.K) (dk : DefOk X.prog X.w X.mg X.base k w F g x ps kwl) (hr : Room k X.A) (hg : Gl X x) (tk : Takes X W) (ha : SA X w F W (e :: es) t) (hs : ∀ y ∈ e :: es, ∀ x p, y ≠ .Starred x p) (hdb : (x == ("__debug__" : Str)) = false) (hl : tlen t = ps.length) (hx : x ≠ "") :
    SE X w F W (.Call (.Name x p) (e :: es) [] pos) (.call g t) := by
  obtain ⟨fd, bd, _, fo⟩ := dk.ok
  have kp := dk.kp
  rw [← hK] at fo bd kp
  refine pe_imp (pe_callS (E := L2.WE W) fo hr hg (dk.at_ hx) kp bd (fun s => passAt tk s) ha hdb (nostar (hs e (by simp))) (noany fun y hy => hs y (by simp [hy]))) fun s H Q h => ?_
  obtain ⟨f, r, G, env, h, P, Xp, S, E, wp, q, qx⟩ := h
  refine ⟨f, r, G, env, h, _, Xp, S, E, wp, fun vs h1 us r1 G1 H1 w1 l1 e1 S1 rv => ?_, qx⟩
  exact ⟨by rw [← rvAll_len rv, l1]; exact hl, f, r1, G1, vs, h1, P, Xp, S1, rv, w1, q.mono e1, qx.mono e1⟩
theorem se_call0 (hK : X.K = w.K) (dk : DefOk X.prog X.w X.mg X.base k w F g x ps kwl) (hr : Room k X.A) (hg : Gl X x) (tk : Takes X W) (hdb : (x == ("__debug__" : Str)) = false) (hl : ps.length = 0) (hx : x ≠ "") :
    SE X w F W (.Call (.Name x p) [] [] pos) (.call g .nil) := by
  obtain ⟨fd, bd, _, fo⟩ := dk.ok
  have kp := dk.kp
  rw [← hK] at fo bd kp
  refine ⟨fun pins s σ H Q I h => ?_⟩
  obtain ⟨f, r, G, env, h, P, Xp, S, E, wp, q, qx⟩ := h
  refine wpAny_Call_Name_kw (ld_glob I hg (dk.at_ hx) ?_ hdb)
  refine PySem.W.callWith_K0 I.kIn kp (run_fnS (E := L2.WE W) (us := []) (vs := []) fo hr bd (passAt tk σ) I .nil ?_)
  exact ⟨hl.symm, f, r, G, [], h, P, Xp, S, rfl, wp, q, qx⟩
/-- keywords -/
theorem sk_nil : PK X [] (rdA w F W .nil) := ⟨fun _ _ _ σ H Q I h => wpAny_evalAll_nil (by
  obtain ⟨f, r, G, env, h, P, Xp, S, E, wp, q, qx⟩ := h
  exact ⟨[], H, I, .nil, q [] h [] r G H wp rfl Ext.refl S rfl⟩)⟩
theorem sk_cons {nm : Option Str} {kpos : Pos} {kws : List Keyword} (ha : SE X w F W e t1) (hs : PK X kws (rdA w F W t2)) : PK X (⟨nm, e, kpos⟩ :: kws) (rdA w F W (.cons t1 t2)) :=
  ⟨fun po pins s σ H Q I h => (pk_cons ha hs).run po pins s σ H Q I (by
    obtain ⟨f, r, G, env, h, P, Xp, S, E, wp, q, qx⟩ := h
    refine ⟨f, r, G, env, h, _, Xp, S, E, wp, fun v h1 u r1 G1 H1 w1 e1 S1 rv => ?_, qx⟩
    refine ⟨f, r1, G1, env, h1, _, Xp, S1, E.mono e1, w1, fun vs h2 us r2 G2 H2 w2 l2 e2 S2 rv2 => ?_, qx.mono e1⟩
    exact q (v :: vs) h2 (u :: us) r2 G2 H2 w2 (by show vs.length + 1 = tlen t2 + 1; rw [l2]) (e1.trans e2) S2 ⟨u, us, rfl, Rv.mono e2 _ _ rv, rv2⟩)⟩
theorem run_fnkS {CX : CXT} {k : Nat} {f : Addr} {fd : FuncData} {ps ks : List Str} {sp : Sp} {E : Sg → XK} {g : List Value → List Value → List Value} {gV : List L2.V → List L2.V → List L2.V} {pins : List (Addr × Obj)} {σ : Sg} {H : L2.Hp} {s : Shared} {Q : VK} {us ws : List Value} {vs zs : List L2.V}
    (F : FnOk X.prog X.w X.K X.mg X.base CX k f fd ps sp) (hr : Room k X.A) (hb : KBinds X.K fd ps ks g gV) (hx : PassesAt CX X σ (E σ))
    (I : Inv X pins σ H s) (r : Vals vs us) (rz : Vals zs ws) (h : sp (gV vs zs) H Q (E σ)) : wpAny (model X.prog X.w) X.A (call (.ref f) us (ks.zip ws)) (EP X pins σ Q) X.xe s := by
  have r2 := hb.rel r rz
  have hl : (g us ws).length = ps.length := by rw [← r2.length]; exact F.len _ _ _ _ h
  refine wpAny_call (codeAny_mono (F.run X.A X.stack s H ⟨us, ks.zip ws⟩ (g us ws) (gV vs zs) Q (E σ) hr I.env0 (hb.to s us ws I.kIn hl) r2 h) fun r s' hq => ?_)
  cases r with
  | error e => exact hx pins H s e s' I hq
  | ok fl =>
    cases fl with
    | ret u => exact I.after hq
    | next => exact False.elim hq
    | brk => exact False.elim hq
    | cont => exact False.elim hq
theorem kw_names {env : PySem.Env} : ∀ {kws : List Keyword} {ks : List Str}, kws.map (·.arg) = ks.map some → (backToKw pos (keywordEach kws env)).all (·.1.isSome) = true ∧ (backToKw pos (keywordEach kws env)).filterMap (·.1) = ks ∧ (backToKw pos (keywordEach kws env)).any (·.1.isNone) = false
  | [], ks, h => by
    have h : ks.map some = [] := h.symm
    have : ks = [] := by simpa using h
    subst this
    exact ⟨rfl, rfl, rfl⟩
  | ⟨nm, v, q⟩ :: kws, [], h => by simp at h
  | ⟨nm, v, q⟩ :: kws, k :: ks, h => by
    have h : nm :: kws.map (·.arg) = some k :: ks.map some := h
    injection h with h1 h2
    subst h1
    obtain ⟨i1, i2, i3⟩ := kw_names (env := env) h2
    refine ⟨?_, ?_, ?_⟩
    · show (true && (backToKw pos (keywordEach kws env)).all (·.1.isSome)) = true
      rw [i1]; rfl
    · show k :: (backToKw pos (keywordEach kws env)).filterMap (·.1) = _
      rw [i2]
    · show (false || (backToKw pos (keywordEach kws env)).any (·.1.isNone)) = false
      rw [i3]; rfl
/-- the keywords' part, behind the positional values us -/
theorem kw_part {kws : List Keyword} {np : Nat} {ks : List Str} {ord : List Nat} {fd : FuncData} (hr : Room k X.A) (tk : Takes X W) (kb : KBd X.K fd ps (np, ks, ord)) (fo : FnOk X.prog X.w X.K X.mg X.base (L2.CX X.prog X.w) k (w.fa g) fd ps (spOf w F ps.length g))
    (hk : PK X kws (rdA w F W t2)) (h2 : tlen t2 = ks.length) (ho : ∀ vs : List V, vs.length = np + ks.length → (perm ord vs).length = ps.length)
    {pins : List (Addr × Obj)} {s1 : Shared} {σ : Sg} {H1 : L2.Hp} {Q : VK} {f : L2.Hp} {r1 : List Addr} {G1 : L2.Hp} {env : Env} {h1 : Hp} {P : Pv} {Xp : Px} {vs : List V} {us : List L2.V} {uvs : List Value}
    (I : Inv X pins σ H1 s1) (S1 : Sim w f r1 G1 h1 H1) (E1 : EnvR w r1 G1 env σ) (rv : RvAll w r1 G1 vs us) (rr : Vals us uvs) (lv : vs.length = np)
    (w1 : WEs F t2 env h1 (fun zs h2 => F g (perm ord (vs ++ zs)) h2 P Xp) Xp) (q : QOk w f r1 G1 P Q) (qx : XOk w f r1 G1 Xp (fun c d H' => W c d σ H')) :
    wpAny (model X.prog X.w) X.A (evalAll ((backToKw pos (keywordEach kws X.env)).map (·.2))) (fun ws s2 => X.K.In s2.heap ∧ wpAny (model X.prog X.w) X.A (call (.ref (w.fa g)) uvs (ks.zip ws)) (EP X pins σ Q) X.xe s2) X.xe s1 := by
  refine thn (hk.run pos pins s1 σ H1 (fun zs H2 => spOf w F ps.length g (kArr np ks.length ord us zs) H2 Q (L2.WE W σ)) I ⟨f, r1, G1, env, h1, _, Xp, S1, E1, w1, fun zs h2' us2 r2 G2 H2 w2 l2 e2 S2 rv2 => ?_, qx⟩) fun ws s2 ⟨zs, H2, I2, rz, q2⟩ => ⟨I2.kIn, ?_⟩
  · have lz : zs.length = ks.length := by rw [l2]; exact h2
    have lu : us.length = np ∧ us2.length = ks.length := ⟨by rw [← rvAll_len rv]; exact lv, by rw [← rvAll_len rv2]; exact lz⟩
    have rva : RvAll w r2 G2 (vs ++ zs) (us ++ us2) := rvAll_iff.mpr ((rvAll_iff.mp (RvAll.mono e2 _ _ rv)).append (rvAll_iff.mp rv2))
    show spOf w F ps.length g (kArr np ks.length ord us us2) H2 Q (L2.WE W σ)
    unfold kArr
    rw [if_pos lu]
    refine ⟨?_, f, r2, G2, perm ord (vs ++ zs), h2', P, Xp, S2, rvAll_perm rva ord, w2, q.mono e2, qx.mono e2⟩
    rw [← rvAll_len (rvAll_perm rva ord)]
    exact ho _ (by rw [List.length_append, lv, lz])
  · exact run_fnkS (E := L2.WE W) fo hr kb (passAt tk σ) I2 rr rz q2
theorem se_callk0 {kws : List Keyword} {ks : List Str} {ord : List Nat} (hK : X.K = w.K) (dk : DefOk X.prog X.w X.mg X.base k w F g x ps kwl) (hkw : (0, ks, ord) ∈ kwl) (hr : Room k X.A) (hg : Gl X x) (tk : Takes X W)
    (hk : PK X kws (rdA w F W t2)) (hdb : (x == ("__debug__" : Str)) = false) (hn : kws.map (·.arg) = ks.map some) (h2 : tlen t2 = ks.length)
    (ho : ∀ vs : List V, vs.length = 0 + ks.length → (perm ord vs).length = ps.length) (hx : x ≠ "") : SE X w F W (.Call (.Name x p) [] kws pos) (.callk g .nil t2 ord) := by
  obtain ⟨fd, bd, kb, fo⟩ := dk.ok
  have kp := dk.kp
  have kb := kb _ hkw
  rw [← hK] at fo bd kp kb
  obtain ⟨n1, n2, n3⟩ := kw_names (pos := pos) (env := X.env) hn
  refine ⟨fun pins s σ H Q I h => ?_⟩
  refine wpAny_Call_Name_kw (ld_glob I hg (dk.at_ hx) ?_ hdb)
  refine PySem.W.callWith_KW0 (h₀ := X.base) I.ok.mod.kin kp n1 ?_ (by rw [n3]; rfl)
  rw [n2]
  obtain ⟨f, r, G, env, h, P, Xp, S, E, wp, q, qx⟩ := h
  exact kw_part hr tk kb fo hk h2 ho I S E (vs := []) (us := []) (uvs := []) rfl .nil rfl wp q qx
theorem se_callk {kws : List Keyword} {np : Nat} {ks : List Str} {ord : List Nat} (hK : X.K = w.K) (dk : DefOk X.prog X.w X.mg X.base k w F g x ps kwl) (hkw : (np, ks, ord) ∈ kwl) (hr : Room k X.A) (hg : Gl X x) (tk : Takes X W)
    (ha : SA X w F W (e :: es) t1) (hk : PK X kws (rdA w F W t2)) (hs : ∀ y ∈ e :: es, ∀ x p, y ≠ .Starred x p) (hdb : (x == ("__debug__" : Str)) = false) (hn : kws.map (·.arg) = ks.map some) (h1 : tlen t1 = np) (h2 : tlen t2 = ks.length)
    (ho : ∀ vs : List V, vs.length = np + ks.length → (perm ord vs).length = ps.length) (hx : x ≠ "") : SE X w F W (.Call (.Name x p) (e :: es) kws pos) (.callk g t1 t2 ord) := by
  obtain ⟨fd, bd, kb, fo⟩ := dk.ok
  have kp := dk.kp
  have kb := kb _ hkw
  rw [← hK] at fo bd kp kb
  obtain ⟨n1, n2, n3⟩ := kw_names (pos := pos) (env := X.env) hn
  have n4 : (backTo pos (starEach (e :: es) X.env)).any (·.1) = false := noany hs
  refine ⟨fun pins s σ H Q I h => ?_⟩
  refine wpAny_Call_Name_kw (ld_glob I hg (dk.at_ hx) ?_ hdb)
  refine PySem.W.callWith_KW (h₀ := X.base) I.ok.mod.kin kp n1 ?_ (by rw [n3, n4]; rfl) (nostar (hs e (by simp)))
  rw [n2]
  obtain ⟨f, r, G, env, h, P, Xp, S, E, wp, q, qx⟩ := h
  refine thn (ha.run pos pins s σ H (fun us H1 => ∃ f r1 G1 h1 vs, Sim w f r1 G1 h1 H1 ∧ EnvR w r1 G1 env σ ∧ RvAll w r1 G1 vs us ∧ vs.length = np ∧ WEs F t2 env h1 (fun zs h2 => F g (perm ord (vs ++ zs)) h2 P Xp) Xp ∧ QOk w f r1 G1 P Q ∧ XOk w f r1 G1 Xp (fun c d H' => W c d σ H')) I
    ⟨f, r, G, env, h, _, Xp, S, E, wp, fun vs h1' us r1 G1 H1 w1 l1 e1 S1 rv => ?_, qx⟩) fun us s1 hq => ?_
  · exact ⟨f, r1, G1, h1', vs, S1, E.mono e1, rv, by rw [l1]; exact h1, w1, q.mono e1, qx.mono e1⟩
  · obtain ⟨vs, H1, I1, rr, f, r1, G1, h1', vs', S1, E1, rv, lv, w1, q1, qx1⟩ := hq
    exact kw_part hr tk kb fo hk h2 ho I1 S1 E1 rv rr lv w1 q1 qx1
end
end Hb

/-! SND3: what is walked, and targets. -/
namespace Hb
open PySem PySem.Spec PyProof.Rows
open L2 hiding V Hp St
set_option autoImplicit false

/-- targets that want the value itself -/
def stT : T → Bool
  | .ttp _ => false
  | .tst _ _ => false
  | _ => true
/-- what hands out tuples of its own -/
def sgI : T → Bool
  | .enm _ _ => false
  | .zip2 _ _ => false
  | .zip3 _ _ _ => false
  | _ => true
/-- a value of which no more is known than its parts -/
def RvI (w : Wo) (r : List Addr) (G : L2.Hp) (v : V) (u : L2.V) : Prop := match v with
  | .d (.tuple ds) => ∃ a us, u = .ref a ∧ Rd G a (.tup us) ∧ RpAll w.K G ds us
  | v => Rv w r G v u
def RvX (st : Bool) (w : Wo) (r : List Addr) (G : L2.Hp) (v : V) (u : L2.V) : Prop := match st with
  | true => Rv w r G v u
  | false => RvI w r G v u
theorem RvI.of {w : Wo} {r : List Addr} {G : L2.Hp} {v : V} {u : L2.V} (h : Rv w r G v u) : RvI w r G v u := by
  cases v with
  | d x => cases x with
    | tuple ds => obtain ⟨a, us, e, ⟨ob, q, _⟩, t⟩ := h; exact ⟨a, us, e, .inr ⟨ob, q⟩, t⟩
    | _ => exact h
  | _ => exact h
theorem RvX.of {st : Bool} {w : Wo} {r : List Addr} {G : L2.Hp} {v : V} {u : L2.V} (h : Rv w r G v u) : RvX st w r G v u := by
  cases st with
  | true => exact h
  | false => exact RvI.of h
theorem RvX.to {a b : Bool} {w : Wo} {r : List Addr} {G : L2.Hp} {v : V} {u : L2.V} (h : RvX a w r G v u) (hab : a = true ∨ b = false) : RvX b w r G v u := by
  rcases hab with rfl | rfl
  · exact RvX.of h
  · cases a with
    | true => exact RvI.of h
    | false => exact h
/-- the iterator J hands out the items xs, as long as chk holds -/
def Serves (st : Bool) (w : Wo) (r : List Addr) (G : L2.Hp) (J : It) (chk : Hp → Prop) (xs : List V) : Prop :=
  (∀ f (i : Nat) r' G' h' H', Ext r G r' G' → Sim w f r' G' h' H' → chk h' → i < xs.length → J.go i H' ∧ ∀ x H2, J.yld i H' x H2 → ∃ G2 v, Ext r' G' r' G2 ∧ Sim w f r' G2 h' H2 ∧ xs[i]? = some v ∧ RvX st w r' G2 v x) ∧
  (∀ f r' G' h' H', Ext r G r' G' → Sim w f r' G' h' H' → chk h' → J.stop xs.length H')
def IOk (st : Bool) (w : Wo) (f : L2.Hp) (r : List Addr) (G : L2.Hp) (P : (Hp → Prop) → List V → Hp → Prop) (R : It → L2.Hp → Prop) : Prop :=
  ∀ chk xs h' r' G' H' J, P chk xs h' → Ext r G r' G' → Sim w f r' G' h' H' → Serves st w r' G' J chk xs → R J H'
theorem IOk.mono {st : Bool} {w : Wo} {f : L2.Hp} {r r1 : List Addr} {G G1 : L2.Hp} {P : (Hp → Prop) → List V → Hp → Prop} {R : It → L2.Hp → Prop} (q : IOk st w f r G P R) (e : Ext r G r1 G1) : IOk st w f r1 G1 P R :=
  fun chk xs h r' G' H J p x => q chk xs h r' G' H J p (e.trans x)
def rdI (w : Wo) (F : Phi) (W : WX) (t : T) : TI := fun s H R => ∃ f r G env h P Xp, Sim w f r G h H ∧ EnvR w r G env s ∧ WI F t env h P Xp ∧ IOk (sgI t) w f r G P R ∧ XOk w f r G Xp (fun c d H' => W c d s H')
abbrev SI (X : Cx) (w : Wo) (F : Phi) (W : WX) (tg e : Expr) (t : T) : Prop := PI X tg e (rdI w F W t)

/-! ### a list or a tuple, by its kind -/
def SqA (K : PySem.W.Frag) (H : L2.Hp) (tp : Bool) (a : Addr) (us : List L2.V) : Prop := match tp with
  | true => SqT K H a us
  | false => SqL K H a us
theorem sqA_mono {K : PySem.W.Frag} {G G' : L2.Hp} (s : Sub G G') {tp : Bool} {a : Addr} {xs : List L2.V} (h : SqA K G tp a xs) : SqA K G' tp a xs := by
  cases tp with
  | true => exact sqT_mono s h
  | false => exact sqS_mono s h
section
variable {X : Cx} {w : Wo} {F : Phi} {W : WX} {pins : List (Addr × Obj)} {σ : Sg} {H : L2.Hp} {s : Shared} {a : Addr} {us : List L2.V} {R : It → L2.Hp → Prop} {tg : Expr}
theorem it_list {E : Value → Shared → Prop} (I : Inv X pins σ H s) (hq : SqL X.K H a us) (q : R (Itl X.K a) H) : wpAny (model X.prog X.w) X.A (pyIter (.ref a)) (PIE X pins σ tg R) E s := by
  obtain ⟨its, rv, p, hz⟩ := I.list hq
  refine wpAny_pyIter_list p.isList ?_
  refine ⟨s.heap.objs.size, [s.heap.objs.size], _, _, H, rfl, I.kept (t' := s.toks) fun b o e => Heap.get?_push_of_some _ e, turn_list a _, ⟨_, Heap.get?_push_size _ rfl, rfl, rfl⟩, fun b hb => ?_, q⟩
  have e : b = s.heap.objs.size := by simpa using hb
  subst e
  exact I.fpOk (Nat.le_refl _) (I.hok.fresh (Nat.le_refl _))
theorem it_tup {E : Value → Shared → Prop} (I : Inv X pins σ H s) (hq : SqT X.K H a us) (q : R (Itt X.K a) H) : wpAny (model X.prog X.w) X.A (pyIter (.ref a)) (PIE X pins σ tg R) E s := by
  obtain ⟨its, rv, p, hz⟩ := I.tuple hq
  refine wpAny_pyIter_tuple (show s.heap.IsTuple a its.toArray from p) ?_
  refine ⟨s.heap.objs.size, [s.heap.objs.size], _, _, H, rfl, I.kept (t' := s.toks) fun b o e => Heap.get?_push_of_some _ e, turn_tuple a _, ⟨_, Heap.get?_push_size _ rfl, rfl, rfl⟩, fun b hb => ?_, q⟩
  have e : b = s.heap.objs.size := by simpa using hb
  subst e
  exact I.fpOk (Nat.le_refl _) (I.hok.fresh (Nat.le_refl _))
theorem it_str {E : Value → Shared → Prop} {x : Str} {t : Tok} (I : Inv X pins σ H s) (q : R (Its x) H) : wpAny (model X.prog X.w) X.A (pyIter (.str x t)) (PIE X pins σ tg R) E s := by
  cases ha : x.cps.all (· < 128)
  · exact wpAny_pyIter_wide ha (pi_one (tk := s.toks) I _ (turn_str _ x t "str_iterator" (.inr rfl)) ⟨_, Heap.get?_push_size _ rfl, rfl, rfl⟩ q)
  · exact wpAny_pyIter_ascii ha (pi_one (tk := s.toks) I _ (turn_str _ x t "str_ascii_iterator" (.inl rfl)) ⟨_, Heap.get?_push_size _ rfl, rfl, rfl⟩ q)
/-- how a sequence that stands serves -/
theorem serves_list {r : List Addr} {G : L2.Hp} {chk : Hp → Prop} {xs : List V} (hh : ∀ f r' G' h' H', Ext r G r' G' → Sim w f r' G' h' H' → chk h' → ∃ us, SqL w.K H' a us ∧ RvAll w r' G' xs us) : Serves true w r G (Itl w.K a) chk xs := by
  refine ⟨fun f' i r' G' h' H' e S c hi => ?_, fun f' r' G' h' H' e S c => ?_⟩
  · obtain ⟨us, q, t⟩ := hh f' r' G' h' H' e S c
    have t := rvAll_iff.mp t
    obtain ⟨u, e1, rv⟩ := t.getL (List.getElem?_eq_getElem hi)
    refine ⟨⟨us, u, q, e1⟩, fun x H2 y => ?_⟩
    obtain ⟨rfl, y⟩ := y
    have := y us q
    rw [e1] at this
    cases this
    exact ⟨G', _, Ext.refl, S, List.getElem?_eq_getElem hi, rv⟩
  · obtain ⟨us, q, t⟩ := hh f' r' G' h' H' e S c
    exact ⟨us, q, by rw [← rvAll_len t]; exact Nat.le_refl _⟩
theorem serves_tup {r : List Addr} {G : L2.Hp} {chk : Hp → Prop} {xs : List V} (hh : ∀ f r' G' h' H', Ext r G r' G' → Sim w f r' G' h' H' → chk h' → ∃ us, SqT w.K H' a us ∧ RvAll w r' G' xs us) : Serves true w r G (Itt w.K a) chk xs := by
  refine ⟨fun f' i r' G' h' H' e S c hi => ?_, fun f' r' G' h' H' e S c => ?_⟩
  · obtain ⟨us, q, t⟩ := hh f' r' G' h' H' e S c
    have t := rvAll_iff.mp t
    obtain ⟨u, e1, rv⟩ := t.getL (List.getElem?_eq_getElem hi)
    refine ⟨⟨us, u, q, e1⟩, fun x H2 y => ?_⟩
    obtain ⟨rfl, y⟩ := y
    have := y us q
    rw [e1] at this
    cases this
    exact ⟨G', _, Ext.refl, S, List.getElem?_eq_getElem hi, rv⟩
  · obtain ⟨us, q, t⟩ := hh f' r' G' h' H' e S c
    exact ⟨us, q, by rw [← rvAll_len t]; exact Nat.le_refl _⟩
/-- what is walked, by its value -/
inductive Walked (w : Wo) (r : List Addr) (G : L2.Hp) (H : L2.Hp) : L2.V → (Hp → Prop) → List V → Prop
  | lst {a us chk xs} : SqL w.K H a us → Serves true w r G (Itl w.K a) chk xs → Walked w r G H (.ref a) chk xs
  | tup {a us chk xs} : SqT w.K H a us → Serves true w r G (Itt w.K a) chk xs → Walked w r G H (.ref a) chk xs
  | str {x chk xs} : Serves true w r G (Its x) chk xs → Walked w r G H (.str x) chk xs
theorem walked {f : L2.Hp} {r : List Addr} {G : L2.Hp} {h : Hp} {v : V} {u : L2.V} {Q : (Hp → Prop) → List V → Prop} (S : Sim w f r G h H) (rv : Rv w r G v u) (q : itemsV h v Q) : ∃ chk xs, Q chk xs ∧ Walked w r G H u chk xs := by
  cases v with
  | d x =>
    cases x with
    | list ds =>
      obtain ⟨a, us, rfl, hq, t⟩ := rv
      exact ⟨_, _, q, .lst (sqL_mono S.sub hq) (serves_list fun f' r' G' h' H' e S' _ => ⟨us, sqL_mono (e.sub.trans S'.sub) hq, rvAll_d.mpr (RpAll.mono e.sub _ _ t)⟩)⟩
    | tuple ds =>
      obtain ⟨a, us, rfl, hq, t⟩ := rv
      exact ⟨_, _, q, .tup (tqT_mono S.sub hq) (serves_tup fun f' r' G' h' H' e S' _ => ⟨us, tqT_mono (e.sub.trans S'.sub) hq, rvAll_d.mpr (RpAll.mono e.sub _ _ t)⟩)⟩
    | str z =>
      have rv : u = .str z := rv
      subst rv
      have ln : ((signs z).map V.d).length = z.cps.size := by simp [signs]
      refine ⟨_, _, q, .str ⟨fun f' i r' G' h' H' e S' _ hi => ?_, fun f' r' G' h' H' e S' _ => ?_⟩⟩
      · rw [ln] at hi
        refine ⟨hi, fun x H2 y => ?_⟩
        obtain ⟨rfl, c, e1, rfl⟩ := y
        have e2 : ((signs z).map V.d)[i]? = some (.d (.str ⟨#[c]⟩)) := by
          unfold signs
          rw [List.getElem?_map, List.getElem?_map, Array.getElem?_toList, e1]
          rfl
        exact ⟨G', _, Ext.refl, S', e2, rfl⟩
      · rw [ln]
        exact Nat.le_refl _
    | _ => exact q.elim
  | cell n =>
    obtain ⟨a, e1, rfl⟩ := rv
    have q : (match h[n]? with
      | some (.lst xs) => Q (fun h' => h'[n]? = some (.lst xs)) (xs.map V.d)
      | some (.lv xs) => Q (fun h' => h'[n]? = some (.lv xs)) xs
      | _ => False) := q
    cases eo : h[n]? with
    | none => rw [eo] at q; exact q.elim
    | some o =>
      rw [eo] at q
      cases o with
      | lst xs =>
        obtain ⟨_, us, ha, t⟩ := S.ob n a _ e1 eo
        refine ⟨_, _, q, .lst (SqL.of ha) (serves_list fun f' r' G' h' H' e S' c => ?_)⟩
        obtain ⟨_, us', ha', t'⟩ := S'.ob n a _ (e.pre _ _ e1) c
        exact ⟨us', SqL.of ha', rvAll_d.mpr t'⟩
      | lv xs =>
        obtain ⟨_, us, ha, t⟩ := S.ob n a _ e1 eo
        refine ⟨_, _, q, .lst (SqL.of ha) (serves_list fun f' r' G' h' H' e S' c => ?_)⟩
        obtain ⟨_, us', ha', t'⟩ := S'.ob n a _ (e.pre _ _ e1) c
        exact ⟨us', SqL.of ha', t'⟩
      | _ => exact q.elim
  | vt xs =>
    obtain ⟨a, us, rfl, hq, t⟩ := rv
    exact ⟨_, _, q, .tup (tqT_mono S.sub hq) (serves_tup fun f' r' G' h' H' e S' _ => ⟨us, tqT_mono (e.sub.trans S'.sub) hq, RvAll.mono e _ _ t⟩)⟩
  | fn _ => exact q.elim
  | exc _ _ => exact q.elim
theorem si_itv {e : Expr} {t : T} (hK : X.K = w.K) (ha : SE X w F W e t) : SI X w F W tg e (.itv t) := by
  refine ⟨fun pins s σ H R I h => ?_⟩
  obtain ⟨f, r, G, env, h, P, Xp, S, E, wp, q, qx⟩ := h
  refine thn (ha.run pins s σ H (fun u H1 => ∃ chk xs h1 r1 G1, P chk xs h1 ∧ Ext r G r1 G1 ∧ Sim w f r1 G1 h1 H1 ∧ Walked w r1 G1 H1 u chk xs) I ⟨f, r, G, env, h, _, Xp, S, E, wp, fun v h1 u r1 G1 H1 w1 e1 S1 rv => ?_, qx⟩) fun uv s1 ⟨u, H1, I1, ru, q1⟩ => ?_
  · obtain ⟨chk, xs, p1, wk⟩ := walked S1 rv w1
    exact ⟨chk, xs, h1, r1, G1, p1, e1, S1, wk⟩
  · obtain ⟨chk, xs, h1, r1, G1, p1, e1, S1, wk⟩ := q1
    cases wk with
    | lst hq sv => cases ru; rw [← hK] at hq sv; exact it_list I1 hq (q chk xs h1 r1 G1 H1 _ p1 e1 S1 sv)
    | tup hq sv => cases ru; rw [← hK] at hq sv; exact it_tup I1 hq (q chk xs h1 r1 G1 H1 _ p1 e1 S1 sv)
    | str sv => obtain ⟨t, rfl⟩ := ru; exact it_str I1 (q chk xs h1 r1 G1 H1 _ p1 e1 S1 sv)
/-! ### ranges -/
theorem ranI_len : ∀ (lo : Int) (n : Nat), (ranI lo n).length = n
  | _, 0 => rfl
  | lo, n + 1 => by show (ranI (lo + 1) n).length + 1 = n + 1; rw [ranI_len]
theorem ranI_get : ∀ (lo : Int) (n i : Nat), i < n → (ranI lo n)[i]? = some (.int (lo + i))
  | lo, 0, i, h => by omega
  | lo, n + 1, 0, h => by show some (PyData.int lo) = _; simp
  | lo, n + 1, i + 1, h => by
    show (ranI (lo + 1) n)[i]? = _
    rw [ranI_get (lo + 1) n i (by omega)]
    congr 2
    omega
theorem serves_range {r : List Addr} {G : L2.Hp} {lo : Int} {n : Nat} : Serves true w r G (Itr lo n) (fun _ => True) ((ranI lo n).map V.d) := by
  have ln : ((ranI lo n).map V.d).length = n := by rw [List.length_map, ranI_len]
  refine ⟨fun f' i r' G' h' H' e S' _ hi => ?_, fun f' r' G' h' H' e S' _ => ?_⟩
  · rw [ln] at hi
    refine ⟨hi, fun x H2 y => ?_⟩
    obtain ⟨rfl, rfl⟩ := y
    exact ⟨G', .d (.int (lo + i)), Ext.refl, S', by rw [List.getElem?_map, ranI_get lo n i hi]; rfl, rfl⟩
  · rw [ln]
    exact Nat.le_refl _
theorem intP_of {d : D} {Q : Int → Prop} (h : intP d Q) : ∃ i, d = .int i ∧ Q i := by
  cases d <;> first | exact ⟨_, rfl, h⟩ | exact h.elim
theorem optP_of {α : Type} {o : Option α} {Q : α → Prop} (h : optP o Q) : ∃ a, o = some a ∧ Q a := by
  cases o with
  | none => exact h.elim
  | some a => exact ⟨a, rfl, h⟩
variable {e e2 e3 : Expr} {t t1 t2 t3 : T} {p pos : Pos}
theorem si_rng1 (hg : Gl X "range") (hm : X.mg "range" = none) (ha : SE X w F W e t) (hs : ∀ x p, e ≠ .Starred x p) : SI X w F W tg (.Call (.Name "range" p) [e] [] pos) (.rng1 t) := by
  refine ⟨fun pins s σ H R I h => (pi_range1 hg hm (pa_cons ha pa_nil (nostar hs)) (nostar hs)).run pins s σ H R I ?_⟩
  obtain ⟨f, r, G, env, h, P, Xp, S, E, wp, q, qx⟩ := h
  refine ⟨f, r, G, env, h, _, Xp, S, E, wp, fun v h1 u r1 G1 H1 w1 e1 S1 rv => ?_, qx⟩
  obtain ⟨d, ed, w1⟩ := optP_of w1
  obtain ⟨j, rfl, w1⟩ := intP_of w1
  obtain ⟨⟨b1, b2⟩, w1⟩ := w1
  have rd : u = .int j := S1.read rv ed
  subst rd
  exact ⟨j, rfl, b1, b2, q _ _ h1 r1 G1 H1 _ w1 e1 S1 serves_range⟩
theorem si_rng2 (hg : Gl X "range") (hm : X.mg "range" = none) (ha : SE X w F W e t1) (hb : SE X w F W e2 t2) (hs : ∀ x p, e ≠ .Starred x p) (hs2 : ∀ x p, e2 ≠ .Starred x p) : SI X w F W tg (.Call (.Name "range" p) [e, e2] [] pos) (.rng2 t1 t2) := by
  refine ⟨fun pins s σ H R I h => (pi_range2 hg hm (pa_cons ha (pa_cons hb pa_nil (nostar hs2)) (nostar hs)) (by rw [nostar hs, nostar hs2]; rfl) (nostar hs2)).run pins s σ H R I ?_⟩
  obtain ⟨f, r, G, env, h, P, Xp, S, E, wp, q, qx⟩ := h
  refine ⟨f, r, G, env, h, _, Xp, S, E, wp, fun v h1 u r1 G1 H1 w1 e1 S1 rv => ?_, qx⟩
  refine ⟨f, r1, G1, env, h1, _, Xp, S1, E.mono e1, w1, fun v2 h2 u2 r2 G2 H2 w2 e2 S2 rv2 => ?_, qx.mono e1⟩
  obtain ⟨d, ed, w2⟩ := optP_of w2
  obtain ⟨i, rfl, w2⟩ := intP_of w2
  obtain ⟨d, ed2, w2⟩ := optP_of w2
  obtain ⟨j, rfl, w2⟩ := intP_of w2
  obtain ⟨b, w2⟩ := w2
  have rd : u = .int i := S2.read (Rv.mono e2 _ _ rv) ed
  have rd2 : u2 = .int j := S2.read rv2 ed2
  subst rd rd2
  exact ⟨i, j, rfl, b, q _ _ h2 r2 G2 H2 _ w2 (e1.trans e2) S2 serves_range⟩
end
end Hb

/-! SND3b: enumerate and zip, over lists and tuples in any mix. -/
namespace Hb
open PySem PySem.Spec PyProof.Rows
open L2 hiding V Hp St
set_option autoImplicit false
set_option maxHeartbeats 1000000 in
theorem meets_enum1 {v : Value} {o : Obj} {H : Heap → Prop} (B : Begins v o H) :
    Meets (Builtin.«enumerate.__new__» ⟨[.type "enumerate", v], []⟩) (fun _ R s => H s.heap ∧
      R (.ok (.ret (.ref (s.heap.push o).objs.size))) { s with heap := (s.heap.push o).push { cls := .type "enumerate", data := .fields #[.none, .bool false, .ref s.heap.objs.size, rawInt 0, .none, .none] } }) :=
  .of_wp fun prog w A R s h => by
    obtain ⟨hp, g, d, tk, os⟩ := s; obtain ⟨h1, h⟩ := h
    have hsub := sub_enumerate
    have q1 : ∀ {A' : Around} {E : Value → Shared → Prop} {Q : Value → Shared → Prop}, Q (.ref hp.objs.size) ⟨hp.push o, g, d, tk, os⟩ → wpAny (model prog w) A' (pyIter v) Q E ⟨hp, g, d, tk, os⟩ :=
      fun q => B.iter prog w _ _ ⟨hp, g, d, tk, os⟩ _ h1 q
    wp_walk using q1
    refine wpAny_stack_any fun st => wpAny_pure ?_
    split
    · rename_i c _ _ _ _ _
      cases (c == Value.type "enumerate")
      · wp_walk using q1
        exact ⟨_, rfl, h⟩
      · wp_walk using q1
        exact ⟨_, rfl, h⟩
    · wp_walk using q1
      exact ⟨_, rfl, h⟩
section
variable {prog : Program} {w : World} {A : Around} {E : Value → Shared → Prop} {s : Shared}
theorem enum1_begins {v : Value} {o : Obj} {H : Heap → Prop} {Q : Value → Shared → Prop} (B : Begins v o H) (h1 : H s.heap)
    (h : ∀ h', IsEnum h' (s.heap.objs.size + 1) s.heap.objs.size 0 .none → h'.get? s.heap.objs.size = some o → h'.objs.size = s.heap.objs.size + 2 →
      (∀ b o, s.heap.get? b = some o → h'.get? b = some o) → Q (.ref (s.heap.objs.size + 1)) { s with heap := h' }) :
    wpAny (model prog w) A (call (.type "enumerate") [v]) Q E s := by
  refine callType_new F.called_enumerate (by decide) (F.typeCall_enumerate_1 _) (F.newCall_enumerate_1 _) (fun obj => F.args_object_init_2 obj _) F.entry_enumerate_new
    (meets_enum1 B) ⟨h1, ?_⟩
  have hz : (s.heap.push o).objs.size = s.heap.objs.size + 1 := Heap.size_push ..
  show _ ∧ _
  rw [hz]
  have he : IsEnum ((s.heap.push o).push { cls := .type "enumerate", data := .fields #[.none, .bool false, .ref s.heap.objs.size, rawInt 0, .none, .none] }) (s.heap.objs.size + 1) s.heap.objs.size 0 .none := by
    have := Heap.get?_push_size (s.heap.push o) (o := { cls := .type "enumerate", data := .fields #[.none, .bool false, .ref s.heap.objs.size, rawInt 0, .none, .none] }) rfl
    rw [hz] at this; exact this
  refine ⟨⟨_, he, rfl⟩, h _ he (Heap.get?_push_of_some _ (Heap.get?_push_size _ B.free)) (by rw [Heap.size_push, hz]) fun b o x => Heap.get?_push_of_some _ (Heap.get?_push_of_some _ x)⟩
end
/-! ### a source: a list or a tuple -/
def IsItA (tp : Bool) (h : Heap) (it a : Addr) (i : Nat) : Prop := match tp with
  | true => h.IsTupleIter it a i
  | false => h.IsListIter it a i
def IsSrc (tp : Bool) (h : Heap) (a : Addr) (its : Array Value) : Prop := match tp with
  | true => h.IsTuple a its
  | false => h.IsList a its
def itObj (tp : Bool) (a : Addr) : Obj := match tp with
  | true => { cls := .type "tuple_iterator", data := .fields #[.ref a, .int 0 0] }
  | false => { cls := .type "list_iterator", data := .fields #[.ref a, .int 0 0] }
theorem begins_A (tp : Bool) (a : Addr) (its : Array Value) : Begins (.ref a) (itObj tp a) fun h => IsSrc tp h a its := by
  cases tp with
  | true => exact begins_tuple a its
  | false => exact begins_list a its
theorem itA_new {tp : Bool} {h : Heap} {it a : Addr} (e : h.get? it = some (itObj tp a)) : IsItA tp h it a 0 := by
  cases tp with
  | true => exact ⟨_, e, rfl, rfl⟩
  | false => exact ⟨_, e, rfl, rfl⟩
theorem draws_A {prog : Program} {w : World} {A : Around} (hh : A.handled = none) (tp : Bool) (it a : Addr) (hne : a ≠ it) (its : Array Value) :
    Draws prog w A it [it, a] its.size (fun i v => its[i]? = some v) (fun i h => IsItA tp h it a i ∧ IsSrc tp h a its) := by
  cases tp with
  | true => exact Draws.tuple hh it a hne its
  | false => exact Draws.list hh it a hne its
theorem itA_obj {tp : Bool} {h : Heap} {it a : Addr} {i : Nat} (x : IsItA tp h it a i) : ∃ o, h.get? it = some o ∧ ∀ v, o.data ≠ .cell v := by
  cases tp with
  | true => obtain ⟨o, e, c, d⟩ := x; exact ⟨o, e, fun v q => by rw [d] at q; cases q⟩
  | false => obtain ⟨o, e, c, d⟩ := x; exact ⟨o, e, fun v q => by rw [d] at q; cases q⟩
theorem itA_at {tp : Bool} {h h' : Heap} {it a : Addr} {i : Nat} (x : IsItA tp h it a i) (k : ∀ o, h.get? it = some o → h'.get? it = some o) : IsItA tp h' it a i := by
  cases tp with
  | true => exact Heap.IsTupleIter.at x k
  | false => exact Heap.IsListIter.at x k
section
variable {X : Cx} {pins : List (Addr × Obj)} {σ : Sg} {H : L2.Hp} {s : Shared} {a : Addr} {us : List L2.V}
theorem sqA_src {tp : Bool} (I : Inv X pins σ H s) (h : SqA X.K H tp a us) : ∃ its : List Value, Vals us its ∧ IsSrc tp s.heap a its.toArray ∧ a < s.heap.objs.size := by
  cases tp with
  | true =>
    obtain ⟨its, rv, p, _⟩ := I.tuple h
    obtain ⟨o, ho, _⟩ := id p
    exact ⟨its, rv, p, Heap.lt_size ho⟩
  | false =>
    obtain ⟨its, rv, p, _⟩ := I.list h
    exact ⟨its, rv, p.isList, p.lt⟩
end
theorem sqA_inj {X : Cx} {pins : List (Addr × Obj)} {σ : Sg} {H : L2.Hp} {s : Shared} {a : Addr} {us vs : List L2.V} {tp : Bool} (I : Inv X pins σ H s) (h : SqA X.K H tp a us) (h' : SqA X.K H tp a vs) : us = vs := by
  cases tp with
  | true => exact I.tuple_inj h h'
  | false => exact I.list_inj h h'
/-- n new tuples, made as mk tells, as long as the source stands -/
def ItF (src : L2.Hp → Prop) (n : Nat) (mk : L2.Hp → Nat → List L2.V → Prop) : It :=
  ⟨fun i H => src H ∧ i < n, fun i H v H' => ∃ T us, v = .ref T ∧ H T = none ∧ H' = upd H T (.tup us) ∧ mk H i us, fun i H => src H ∧ n = i⟩
def src1 (K : PySem.W.Frag) (tp : Bool) (a : Addr) (n : Nat) (H : L2.Hp) : Prop := ∃ us, SqA K H tp a us ∧ us.length = n
def mkE (K : PySem.W.Frag) (k : Int) (tp : Bool) (a : Addr) (H : L2.Hp) (i : Nat) (vs : List L2.V) : Prop := ∀ us, SqA K H tp a us → ∃ x, vs = [.int (k + i), x] ∧ us[i]? = some x
def mkZ (K : PySem.W.Frag) (tp tq : Bool) (a b : Addr) (H : L2.Hp) (i : Nat) (ws : List L2.V) : Prop := ∀ us vs, SqA K H tp a us → SqA K H tq b vs → ∃ x y, ws = [x, y] ∧ us[i]? = some x ∧ vs[i]? = some y
theorem turn_enumA {P : Program} {w : World} {K : PySem.W.Frag} {elts : List Expr} {kk : Nat} {tpos : Pos} (k : Int) (tp : Bool) (a e it : Addr) (n : Nat) :
    Turn P w K (.Tuple elts kk tpos) (ItF (src1 K tp a n) n (mkE K k tp a)) [e, it] e
      (fun i h => (∃ old, IsEnum h e it (k + (i : Int)) old) ∧ IsItA tp h it a i ∧ e ≠ it ∧ a ≠ it ∧ a ≠ e) where
  mem := by simp
  obj := fun i h st b hb => by
    obtain ⟨⟨old, he⟩, hi, _⟩ := st
    have e' : b = e ∨ b = it := by simpa using hb
    rcases e' with z | z
    · rw [z]; exact ⟨_, he, fun v q => nomatch q⟩
    · rw [z]; exact itA_obj hi
  keep := fun i h h' st kp => let ⟨⟨old, he⟩, hi, hne⟩ := st; ⟨⟨old, kp e (by simp) _ he⟩, itA_at hi fun o q => kp it (by simp) o q, hne⟩
  item := by
    intro X hP hw hK hc i pins s σ H E I hf st hg
    subst hP hw hK
    obtain ⟨hen, hit, hne, hai, hae⟩ := st
    obtain ⟨⟨us, hsrc, hus⟩, hlt⟩ := hg
    subst hus
    obtain ⟨its, rv, hs, _⟩ := sqA_src I hsrc
    have hl := rv.length
    have D := draws_A (prog := X.prog) (w := X.w) (A := X.A.in1) (I.ok.hd hc) tp it a hai its.toArray
    have Gn := GoesN.enumFrom (elts := elts) (x1 := kk) (pos := tpos) k D e hne (by simp [hne, Ne.symm hae]) (by simp)
    refine Gn.goes i s _ E (by simpa using (by omega : i < its.length)) ⟨hen, hit, hs⟩ fun v h' tk hY st' hk htk => ?_
    obtain ⟨T, t, x, rfl, hT, hx, hTup⟩ := hY
    have hn : H T = none := I.hok.fresh hT
    have hu : its[i]? = some x := by simpa using hx
    have hi2 : i < us.length := hlt
    obtain ⟨y, hy, ry⟩ := rv.get (List.getElem?_eq_getElem hi2)
    rw [hu] at hy
    cases hy
    have new : ObjOk X.prog X.w (upd H T (.tup [.int (k + i), us[i]])) h' T (.tup [.int (k + i), us[i]]) := by
      obtain ⟨o, ho, hcl, m, hd⟩ := hTup
      exact ⟨by show 2 ≤ sizeLine; decide, [.int (k + (i : Int)) t, x], .cons ⟨_, rfl⟩ (.cons ry .nil), ⟨o, ho, hcl, m, hd⟩⟩
    have I1 : Inv X pins σ (upd H T (.tup [.int (k + i), us[i]])) { s with heap := h', toks := tk } := I.turnedNew (ch := [e, it]) (fun b o hb q => hk b o hb q) hf hT new
    obtain ⟨hen', hit', hs'⟩ := st'
    refine ⟨.ref T, _, I1, rfl, ⟨T, _, rfl, hn, rfl, fun us' hu' => ⟨us[i], rfl, by rw [← sqA_inj I hsrc hu']; exact List.getElem?_eq_getElem hi2⟩⟩, ⟨hen', hit', hne, hai, hae⟩, fun b hb => ?_⟩
    have hb' : b ≠ T := fun z => by
      have e' : b = e ∨ b = it := by simpa using hb
      obtain ⟨old, he⟩ := hen
      obtain ⟨o, ho, _⟩ := itA_obj hit
      have : b < s.heap.objs.size := by
        rcases e' with z | z
        · rw [z]; exact Heap.lt_size he
        · rw [z]; exact Heap.lt_size ho
      rw [z] at this
      exact absurd (Nat.lt_of_lt_of_le this hT) (Nat.lt_irrefl _)
    rw [upd_ne hb']
    exact (hf b hb).1
  done := by
    intro X hP hw hK hc i pins s σ H E I hf st hg
    subst hP hw hK
    obtain ⟨hen, hit, hne, hai, hae⟩ := st
    obtain ⟨⟨us, hsrc, hus⟩, hlt⟩ := hg
    subst hus
    obtain ⟨its, rv, hs, _⟩ := sqA_src I hsrc
    have hl := rv.length
    have D := draws_A (prog := X.prog) (w := X.w) (A := X.A.in1) (I.ok.hd hc) tp it a hai its.toArray
    have Gn := GoesN.enumFrom (elts := elts) (x1 := kk) (pos := tpos) k D e hne (by simp [hne, Ne.symm hae]) (by simp)
    have en : i = its.toArray.size := by simp; omega
    rw [en] at hen hit
    exact Gn.stops s _ E ⟨hen, hit, hs⟩ fun h' tk hk _ => I.turnedL (ch := [e, it]) (fun b o hb q => hk b o hb q) hf
  self := fun A i s Q E st h => let ⟨⟨_, he⟩, _⟩ := st; wpAny_pyIter_enum he h
theorem turn_zipA {P : Program} {w : World} {K : PySem.W.Frag} {elts : List Expr} {kk : Nat} {tpos : Pos} (tp tq : Bool) {a b z TI TO i1 i2 : Addr} (n m : Nat) (ZS : ZipSep2 z TI TO i1 i2 [i1, a] [i2, b]) (n1 : a ≠ i1) (n2 : b ≠ i2) :
    Turn P w K (.Tuple elts kk tpos) (ItF (fun H => src1 K tp a n H ∧ src1 K tq b m H) (min n m) (mkZ K tp tq a b)) [z, TI, TO, i1, i2] z
      (fun i h => IsZip h z TI TO .none ∧ IsTupOf2 h TI (.ref i1) (.ref i2) ∧ (∃ x y, IsTupOf2 h TO x y) ∧ IsItA tp h i1 a i ∧ IsItA tq h i2 b i) where
  mem := by simp
  obj := fun i h st c hc => by
    obtain ⟨hz, hTI, ⟨x, y, hTO⟩, h1, h2⟩ := st
    have e' : c = z ∨ c = TI ∨ c = TO ∨ c = i1 ∨ c = i2 := by simpa using hc
    rcases e' with q | q | q | q | q
    · rw [q]; exact ⟨_, hz, fun v q => nomatch q⟩
    · rw [q]; exact ⟨_, hTI, fun v q => nomatch q⟩
    · rw [q]; exact ⟨_, hTO, fun v q => nomatch q⟩
    · rw [q]; exact itA_obj h1
    · rw [q]; exact itA_obj h2
  keep := fun i h h' st k => by
    obtain ⟨hz, hTI, ⟨x, y, hTO⟩, h1, h2⟩ := st
    exact ⟨k z (by simp) _ hz, k TI (by simp) _ hTI, ⟨x, y, k TO (by simp) _ hTO⟩, itA_at h1 fun o q => k i1 (by simp) o q, itA_at h2 fun o q => k i2 (by simp) o q⟩
  item := by
    intro X hP hw hK hc i pins s σ H E I hf st hg
    subst hP hw hK
    obtain ⟨⟨⟨us, s1, hus⟩, ⟨vs, s2, hvs⟩⟩, hlt⟩ := hg
    subst hus hvs
    obtain ⟨its, rv, hs1, _⟩ := sqA_src I s1
    obtain ⟨its2, rv2, hs2, _⟩ := sqA_src I s2
    have hl := rv.length
    have hl2 := rv2.length
    have st0 := st
    obtain ⟨hz, hTI, hTO, h1, h2⟩ := st
    have D1 := draws_A (prog := X.prog) (w := X.w) (A := X.A.in1) (I.ok.hd hc) tp i1 a n1 its.toArray
    have D2 := draws_A (prog := X.prog) (w := X.w) (A := X.A.in1) (I.ok.hd hc) tq i2 b n2 its2.toArray
    have Gn := GoesN.zip2 (elts := elts) (x1 := kk) (pos := tpos) ZS D1 D2
    refine Gn.goes i s _ E (by simp; omega) ⟨hz, hTI, hTO, ⟨h1, hs1⟩, ⟨h2, hs2⟩⟩ fun v h' tk hY st' hk htk => ?_
    obtain ⟨T, x, y, rfl, hT, hx, hy, hTup⟩ := hY
    have hn : H T = none := I.hok.fresh hT
    have hu : its[i]? = some x := by simpa using hx
    have hv : its2[i]? = some y := by simpa using hy
    have hiu : i < us.length := by omega
    have hiv : i < vs.length := by omega
    obtain ⟨x', hx', rx⟩ := rv.get (List.getElem?_eq_getElem hiu)
    obtain ⟨y', hy', ry⟩ := rv2.get (List.getElem?_eq_getElem hiv)
    rw [hu] at hx'
    rw [hv] at hy'
    cases hx'
    cases hy'
    have new : ObjOk X.prog X.w (upd H T (.tup [us[i], vs[i]])) h' T (.tup [us[i], vs[i]]) := by
      obtain ⟨o, ho, hcl, m, hd⟩ := hTup
      exact ⟨by show 2 ≤ sizeLine; decide, [x, y], .cons rx (.cons ry .nil), ⟨o, ho, hcl, m, hd⟩⟩
    have I1 : Inv X pins σ (upd H T (.tup [us[i], vs[i]])) { s with heap := h', toks := tk } := I.turnedNew (ch := [z, TI, TO, i1, i2]) (fun c o hb q => hk c o (fun z => hb (by simp at z ⊢; rcases z with z | z | z | z <;> simp [z])) q) hf hT new
    obtain ⟨hz', hTI', hTO', ⟨h1', _⟩, ⟨h2', _⟩⟩ := st'
    refine ⟨.ref T, _, I1, rfl, ⟨T, _, rfl, hn, rfl, fun us' vs' hu' hv' => ⟨us[i], vs[i], rfl, by rw [← sqA_inj I s1 hu']; exact List.getElem?_eq_getElem hiu, by rw [← sqA_inj I s2 hv']; exact List.getElem?_eq_getElem hiv⟩⟩, ⟨hz', hTI', hTO', h1', h2'⟩, fun c hcm => ?_⟩
    have hb' : c ≠ T := fun zz => by
      obtain ⟨x0, y0, hTO⟩ := hTO
      obtain ⟨o1, ho1, _⟩ := itA_obj h1
      obtain ⟨o2, ho2, _⟩ := itA_obj h2
      have : c < s.heap.objs.size := by
        have e' : c = z ∨ c = TI ∨ c = TO ∨ c = i1 ∨ c = i2 := by simpa using hcm
        rcases e' with q | q | q | q | q
        · rw [q]; exact Heap.lt_size hz
        · rw [q]; exact Heap.lt_size hTI
        · rw [q]; exact Heap.lt_size hTO
        · rw [q]; exact Heap.lt_size ho1
        · rw [q]; exact Heap.lt_size ho2
      rw [zz] at this
      exact absurd (Nat.lt_of_lt_of_le this hT) (Nat.lt_irrefl _)
    rw [upd_ne hb']
    exact (hf c hcm).1
  done := by
    intro X hP hw hK hc i pins s σ H E I hf st hg
    subst hP hw hK
    obtain ⟨⟨⟨us, s1, hus⟩, ⟨vs, s2, hvs⟩⟩, hlt⟩ := hg
    subst hus hvs
    obtain ⟨its, rv, hs1, _⟩ := sqA_src I s1
    obtain ⟨its2, rv2, hs2, _⟩ := sqA_src I s2
    have hl := rv.length
    have hl2 := rv2.length
    obtain ⟨hz, hTI, hTO, h1, h2⟩ := st
    have D1 := draws_A (prog := X.prog) (w := X.w) (A := X.A.in1) (I.ok.hd hc) tp i1 a n1 its.toArray
    have D2 := draws_A (prog := X.prog) (w := X.w) (A := X.A.in1) (I.ok.hd hc) tq i2 b n2 its2.toArray
    have Gn := GoesN.zip2 (elts := elts) (x1 := kk) (pos := tpos) ZS D1 D2
    have en : i = min its.toArray.size its2.toArray.size := by simp; omega
    rw [en] at h1 h2
    exact Gn.stops s _ E ⟨hz, hTI, hTO, ⟨h1, hs1⟩, ⟨h2, hs2⟩⟩ fun h' tk hk _ => I.turnedL (ch := [z, TI, TO, i1, i2]) (fun c o hb q => hk c o (fun z => hb (by simp at z ⊢; rcases z with z | z | z | z <;> simp [z])) q) hf
  self := fun A i s Q E st h => wpAny_pyIter_zip st.1 h
/-! ### the rules -/
/-- a source as data -/
def Src (w : Wo) (r : List Addr) (G : L2.Hp) (tp : Bool) (a : Addr) (chk : Hp → Prop) (xs : List D) : Prop :=
  ∀ f r' G' h' H', Ext r G r' G' → Sim w f r' G' h' H' → chk h' → ∃ us, SqA w.K H' tp a us ∧ RpAll w.K G' xs us
theorem Src.mono {w : Wo} {r r1 : List Addr} {G G1 : L2.Hp} {tp : Bool} {a : Addr} {chk : Hp → Prop} {xs : List D} (s : Src w r G tp a chk xs) (e : Ext r G r1 G1) : Src w r1 G1 tp a chk xs := fun f r' G' h' H' e' => s f r' G' h' H' (e.trans e')
theorem dsrc {w : Wo} {f : L2.Hp} {r : List Addr} {G H : L2.Hp} {h : Hp} {v : V} {u : L2.V} {Q : (Hp → Prop) → List D → Prop} (S : Sim w f r G h H) (rv : Rv w r G v u) (q : ditemsV h v Q) :
    ∃ chk xs tp a, Q chk xs ∧ u = .ref a ∧ chk h ∧ Src w r G tp a chk xs := by
  cases v with
  | d x =>
    cases x with
    | list ds =>
      obtain ⟨a, us, rfl, hq, t⟩ := rv
      exact ⟨_, _, false, a, q, rfl, trivial, fun f' r' G' h' H' e S' _ => ⟨us, sqL_mono (e.sub.trans S'.sub) hq, RpAll.mono e.sub _ _ t⟩⟩
    | tuple ds =>
      obtain ⟨a, us, rfl, hq, t⟩ := rv
      exact ⟨_, _, true, a, q, rfl, trivial, fun f' r' G' h' H' e S' _ => ⟨us, tqT_mono (e.sub.trans S'.sub) hq, RpAll.mono e.sub _ _ t⟩⟩
    | _ => exact q.elim
  | cell n =>
    obtain ⟨a, e1, rfl⟩ := rv
    have q : (match h[n]? with
      | some (.lst xs) => Q (fun h' => h'[n]? = some (.lst xs)) xs
      | _ => False) := q
    cases eo : h[n]? with
    | none => rw [eo] at q; exact q.elim
    | some o =>
      rw [eo] at q
      cases o with
      | lst xs =>
        refine ⟨_, _, false, a, q, rfl, eo, fun f' r' G' h' H' e S' c => ?_⟩
        obtain ⟨_, us', ha', t'⟩ := S'.ob n a _ (e.pre _ _ e1) c
        exact ⟨us', SqL.of ha', t'⟩
      | _ => exact q.elim
  | vt _ => exact q.elim
  | fn _ => exact q.elim
  | exc _ _ => exact q.elim
theorem enumD_len : ∀ (k : Int) (xs : List D), (enumD k xs).length = xs.length
  | _, [] => rfl
  | k, x :: xs => by show (enumD (k + 1) xs).length + 1 = xs.length + 1; rw [enumD_len]
theorem enumD_get : ∀ (k : Int) (xs : List D) (i : Nat) (x : D), xs[i]? = some x → (enumD k xs)[i]? = some (.d (.tuple [.int (k + i), x]))
  | k, [], i, x, h => by simp at h
  | k, y :: xs, 0, x, h => by
    have h : some y = some x := h
    cases h
    show some (V.d (.tuple [.int k, y])) = _
    simp
  | k, y :: xs, i + 1, x, h => by
    show (enumD (k + 1) xs)[i]? = _
    rw [enumD_get (k + 1) xs i x h]
    have : k + 1 + (i : Int) = k + ((i + 1 : Nat) : Int) := by omega
    rw [this]
theorem zipD_len : ∀ (xs ys : List D), (zipD xs ys).length = min xs.length ys.length
  | [], _ => by simp [zipD]
  | _ :: _, [] => by simp [zipD]
  | x :: xs, y :: ys => by show (zipD xs ys).length + 1 = min (xs.length + 1) (ys.length + 1); rw [zipD_len]; omega
theorem zipD_get : ∀ (xs ys : List D) (i : Nat) (x y : D), xs[i]? = some x → ys[i]? = some y → (zipD xs ys)[i]? = some (.d (.tuple [x, y]))
  | [], _, _, _, _, h, _ => by simp at h
  | _ :: _, [], _, _, _, _, h => by simp at h
  | x' :: xs, y' :: ys, 0, x, y, h, h' => by
    have h : some x' = some x := h
    have h' : some y' = some y := h'
    cases h
    cases h'
    rfl
  | _ :: xs, _ :: ys, i + 1, x, y, h, h' => zipD_get xs ys i x y h h'
section
variable {X : Cx} {w : Wo} {F : Phi} {W : WX} {e e2 e3 : Expr} {t t1 t2 t3 : T} {p pos tpos : Pos} {elts : List Expr} {kk : Nat}
theorem serves_enum {r : List Addr} {G : L2.Hp} {tp : Bool} {a : Addr} {chk : Hp → Prop} {xs : List D} {k : Int} (sc : Src w r G tp a chk xs) : Serves false w r G (ItF (src1 w.K tp a xs.length) xs.length (mkE w.K k tp a)) chk (enumD k xs) := by
  refine ⟨fun f' i r' G' h' H' e S c hi => ?_, fun f' r' G' h' H' e S c => ?_⟩
  · rw [enumD_len] at hi
    obtain ⟨us, q, t⟩   := sc f' r' G' h' H' e S c
    refine ⟨⟨⟨us, q, (rpAll_len t).symm⟩, hi⟩, fun x H2 y => ?_⟩
    obtain ⟨T, vs, rfl, hn, rfl, hm⟩ := y
    obtain ⟨x, rfl, hx⟩ := hm us q
    obtain ⟨d, hd, rd⟩ := (rpAll_iff.mp t).getR hx
    obtain ⟨S2, e2⟩ := S.lay hn (.tup [.int (k + i), x])
    exact ⟨_, _, e2, S2, enumD_get k xs i d hd, ⟨T, _, rfl, .inl upd_same, _, _, rfl, rfl, _, _, rfl, Rp.mono e2.sub _ _ rd, rfl⟩⟩
  · rw [enumD_len]
    obtain ⟨us, q, t⟩   := sc f' r' G' h' H' e S c
    exact ⟨⟨us, q, (rpAll_len t).symm⟩, rfl⟩
theorem serves_zip {r : List Addr} {G : L2.Hp} {tp tq : Bool} {a b : Addr} {c1 c2 : Hp → Prop} {xs ys : List D} (sc : Src w r G tp a c1 xs) (sd : Src w r G tq b c2 ys) :
    Serves false w r G (ItF (fun H => src1 w.K tp a xs.length H ∧ src1 w.K tq b ys.length H) (min xs.length ys.length) (mkZ w.K tp tq a b)) (fun h => c1 h ∧ c2 h) (zipD xs ys) := by
  refine ⟨fun f' i r' G' h' H' e S c hi => ?_, fun f' r' G' h' H' e S c => ?_⟩
  · rw [zipD_len] at hi
    obtain ⟨us, q, t⟩   := sc f' r' G' h' H' e S c.1
    obtain ⟨vs, q2, t2⟩  := sd f' r' G' h' H' e S c.2
    refine ⟨⟨⟨⟨us, q, (rpAll_len t).symm⟩, ⟨vs, q2, (rpAll_len t2).symm⟩⟩, hi⟩, fun x H2 y => ?_⟩
    obtain ⟨T, ws, rfl, hn, rfl, hm⟩ := y
    obtain ⟨x, y, rfl, hx, hy⟩ := hm us vs q q2
    obtain ⟨d, hd, rd⟩ := (rpAll_iff.mp t).getR hx
    obtain ⟨d2, hd2, rd2⟩ := (rpAll_iff.mp t2).getR hy
    obtain ⟨S2, e2⟩ := S.lay hn (.tup [x, y])
    exact ⟨_, _, e2, S2, zipD_get xs ys i d d2 hd hd2, ⟨T, _, rfl, .inl upd_same, _, _, rfl, Rp.mono e2.sub _ _ rd, _, _, rfl, Rp.mono e2.sub _ _ rd2, rfl⟩⟩
  · rw [zipD_len]
    obtain ⟨us, q, t⟩   := sc f' r' G' h' H' e S c.1
    obtain ⟨vs, q2, t2⟩  := sd f' r' G' h' H' e S c.2
    exact ⟨⟨⟨us, q, (rpAll_len t).symm⟩, ⟨vs, q2, (rpAll_len t2).symm⟩⟩, rfl⟩
theorem si_enum (hK : X.K = w.K) (hg : Gl X "enumerate") (hm : X.mg "enumerate" = none) (ha : SE X w F W e t) (hs : ∀ x p, e ≠ .Starred x p) :
    SI X w F W (.Tuple elts kk tpos) (.Call (.Name "enumerate" p) [e] [] pos) (.enm 0 t) := by
  obtain ⟨wK, fa, ca, an, anj, xc, hu, pm⟩ := w
  have hK : X.K = wK := hK
  subst hK
  refine ⟨fun pins s σ H R I h => ?_⟩
  obtain ⟨f, r, G, env, h, P, Xp, S, E, wp, q, qx⟩ := h
  refine Call_ (ld_blt I hg hm boot_enumerate (PyProof.Rows.callWith_type1 (thn ((pa_cons ha pa_nil (nostar hs)).run pos pins s σ H (fun us H1 => ∃ u, us = [u] ∧ ∃ chk xs h1 r1 G1 tp a, P chk (enumD 0 xs) h1 ∧ Ext r G r1 G1 ∧ Sim (Wo.mk X.K fa ca an anj xc hu pm) f r1 G1 h1 H1 ∧ u = .ref a ∧ chk h1 ∧ Src (Wo.mk X.K fa ca an anj xc hu pm) r1 G1 tp a chk xs) I
    ⟨f, r, G, env, h, _, Xp, S, E, wp, fun v h1 u r1 G1 H1 w1 e1 S1 rv => ?_, qx⟩) fun us s1 ⟨vs, H1, I1, r1, q1⟩ => ?_) (nostar hs) rfl))
  · obtain ⟨chk, xs, tp, a, p1, ea, c1, sc⟩ := dsrc S1 rv w1
    exact ⟨u, rfl, chk, xs, h1, r1, G1, tp, a, p1, e1, S1, ea, c1, sc⟩
  · obtain ⟨u, rfl, chk, xs, h1, r1', G1, tp, a, p1, e1, S1, rfl, c1, sc⟩ := q1
    cases r1 with
    | cons ru rr =>
      cases rr
      cases ru
      obtain ⟨us0, hq, t0⟩ := sc f r1' G1 h1 H1 Ext.refl S1 c1
      obtain ⟨its, rv, hs1, hlt⟩ := sqA_src I1 hq
      refine enum1_begins (begins_A tp a its.toArray) hs1 fun h' he hit hsz hk => wpAny_pyIter_enum he ?_
      have I2 : Inv X pins σ H1 { s1 with heap := h' } := I1.kept (t' := s1.toks) hk
      have T := turn_enumA (P := X.prog) (w := X.w) (K := X.K) (elts := elts) (kk := kk) (tpos := tpos) 0 tp a (s1.heap.objs.size + 1) s1.heap.objs.size xs.length
      refine ⟨s1.heap.objs.size + 1, [s1.heap.objs.size + 1, s1.heap.objs.size], _, _, H1, rfl, I2, T, ⟨⟨.none, he⟩, itA_new hit, Nat.succ_ne_self _, Nat.ne_of_lt hlt, Nat.ne_of_lt (Nat.lt_succ_of_lt hlt)⟩, fun b hb => ?_, q chk _ h1 r1' G1 H1 _ p1 e1 S1 (serves_enum sc)⟩
      have e' : b = s1.heap.objs.size + 1 ∨ b = s1.heap.objs.size := by simpa using hb
      have hle : s1.heap.objs.size ≤ b := by
        rcases e' with z | z
        · rw [z]; exact Nat.le_add_right _ _
        · rw [z]; exact Nat.le_refl _
      exact I1.fpOk hle (I1.hok.fresh hle)
theorem si_zip (hK : X.K = w.K) (hg : Gl X "zip") (hm : X.mg "zip" = none) (ha : SE X w F W e t1) (hb : SE X w F W e2 t2) (hs : ∀ x p, e ≠ .Starred x p) (hs2 : ∀ x p, e2 ≠ .Starred x p) :
    SI X w F W (.Tuple elts kk tpos) (.Call (.Name "zip" p) [e, e2] [] pos) (.zip2 t1 t2) := by
  obtain ⟨wK, fa, ca, an, anj, xc, hu, pm⟩ := w
  have hK : X.K = wK := hK
  subst hK
  refine ⟨fun pins s σ H R I h => ?_⟩
  obtain ⟨f, r, G, env, h, P, Xp, S, E, wp, q, qx⟩ := h
  refine Call_ (ld_blt I hg hm PyProof.Rows.boot_zip (PyProof.Rows.callWith_type1 (thn ((pa_cons ha (pa_cons hb pa_nil (nostar hs2)) (nostar hs)).run pos pins s σ H (fun us H1 => ∃ c1 c2 xs ys h1 r1 G1 tp tq a b, us = [.ref a, .ref b] ∧ P (fun h => c1 h ∧ c2 h) (zipD xs ys) h1 ∧ Ext r G r1 G1 ∧ Sim (Wo.mk X.K fa ca an anj xc hu pm) f r1 G1 h1 H1 ∧ c1 h1 ∧ c2 h1 ∧ Src (Wo.mk X.K fa ca an anj xc hu pm) r1 G1 tp a c1 xs ∧ Src (Wo.mk X.K fa ca an anj xc hu pm) r1 G1 tq b c2 ys) I
    ⟨f, r, G, env, h, _, Xp, S, E, wp, fun v h1 u r1 G1 H1 w1 e1 S1 rv => ?_, qx⟩) fun us s1 ⟨vs, H1, I1, r1, q1⟩ => ?_) (nostar hs) (noany (by simpa using hs2))))
  · refine ⟨f, r1, G1, env, h1, _, Xp, S1, E.mono e1, w1, fun v2 h2 u2 r2 G2 H2 w2 e2 S2 rv2 => ?_, qx.mono e1⟩
    obtain ⟨c1, xs, tp, a, w2, ea, k1, sc⟩ := dsrc S2 (Rv.mono e2 _ _ rv) w2
    obtain ⟨c2, ys, tq, b, w2, eb, k2, sd⟩ := dsrc S2 rv2 w2
    subst ea eb
    exact ⟨c1, c2, xs, ys, h2, r2, G2, tp, tq, a, b, rfl, w2, e1.trans e2, S2, k1, k2, sc, sd⟩
  · obtain ⟨c1, c2, xs, ys, h1, r1', G1, tp, tq, a, b, rfl, p1, e1, S1, k1, k2, sc, sd⟩ := q1
    cases r1 with
    | cons ru rr =>
      cases rr with
      | cons ru2 rr =>
        cases rr
        cases ru
        cases ru2
        obtain ⟨us0, hq, t0⟩ := sc f r1' G1 h1 H1 Ext.refl S1 k1
        obtain ⟨vs0, hq2, t02⟩ := sd f r1' G1 h1 H1 Ext.refl S1 k2
        obtain ⟨its, rv, hs1, hlt⟩ := sqA_src I1 hq
        obtain ⟨its2, rv2, hs1', hlt2⟩ := sqA_src I1 hq2
        refine zip_begins2 (begins_A tp a its.toArray) (begins_A tq b its2.toArray) hs1 hs1' fun h' hz hTI hTO hi1 hi2 hsz hk => wpAny_pyIter_zip hz ?_
        have I2 : Inv X pins σ H1 { s1 with heap := h' } := I1.kept (t' := s1.toks) hk
        have ZS : ZipSep2 (s1.heap.objs.size + 4) (s1.heap.objs.size + 2) (s1.heap.objs.size + 3) s1.heap.objs.size (s1.heap.objs.size + 1) [s1.heap.objs.size, a] [s1.heap.objs.size + 1, b] := zip_sep2 (by simpa using hlt) (by simpa using hlt2)
        have T := turn_zipA (P := X.prog) (w := X.w) (K := X.K) (elts := elts) (kk := kk) (tpos := tpos) tp tq xs.length ys.length ZS (Nat.ne_of_lt hlt) (Nat.ne_of_lt (Nat.lt_succ_of_lt hlt2))
        refine ⟨s1.heap.objs.size + 4, [s1.heap.objs.size + 4, s1.heap.objs.size + 2, s1.heap.objs.size + 3, s1.heap.objs.size, s1.heap.objs.size + 1], _, _, H1, rfl, I2, T, ⟨hz, hTI, ⟨_, _, hTO⟩, itA_new hi1, itA_new hi2⟩, fun c hcm => ?_, q _ _ h1 r1' G1 H1 _ p1 e1 S1 (serves_zip sc sd)⟩
        have e' : c = s1.heap.objs.size + 4 ∨ c = s1.heap.objs.size + 2 ∨ c = s1.heap.objs.size + 3 ∨ c = s1.heap.objs.size ∨ c = s1.heap.objs.size + 1 := by simpa using hcm
        have hle : s1.heap.objs.size ≤ c := by
          rcases e' with z | z | z | z | z
          · rw [z]; exact Nat.le_add_right _ _
          · rw [z]; exact Nat.le_add_right _ _
          · rw [z]; exact Nat.le_add_right _ _
          · rw [z]; exact Nat.le_refl _
          · rw [z]; exact Nat.le_add_right _ _
        exact I1.fpOk hle (I1.hok.fresh hle)
end
end Hb

/-! SND4: targets and statements. -/
namespace Hb
open PySem PySem.Spec PyProof.Rows
open L2 hiding V Hp St
set_option autoImplicit false
def GOk (w : Wo) (f : L2.Hp) (r : List Addr) (G : L2.Hp) (P : Env → Hp → Prop) (Q : Sg → L2.Hp → Prop) : Prop :=
  ∀ env' h' s' r' G' H', P env' h' → Ext r G r' G' → Sim w f r' G' h' H' → EnvR w r' G' env' s' → Q s' H'
theorem GOk.mono {w : Wo} {f : L2.Hp} {r r1 : List Addr} {G G1 : L2.Hp} {P : Env → Hp → Prop} {Q : Sg → L2.Hp → Prop} (q : GOk w f r G P Q) (e : Ext r G r1 G1) : GOk w f r1 G1 P Q :=
  fun env h s r' G' H p x => q env h s r' G' H p (e.trans x)
def rdG (w : Wo) (F : Phi) (t : T) : TG := fun u s H Q => ∃ f r G env h v P, Sim w f r G h H ∧ EnvR w r G env s ∧ RvX (stT t) w r G v u ∧ WA F t v env h P ∧ GOk w f r G P Q
def rdGs (w : Wo) (F : Phi) (t : T) : TGs := fun us s H Q => ∃ f r G env h vs P, Sim w f r G h H ∧ EnvR w r G env s ∧ RvAll w r G vs us ∧ WAs F t vs env h P ∧ GOk w f r G P Q
abbrev SG (X : Cx) (w : Wo) (F : Phi) (tg : Expr) (t : T) : Prop := PG X tg (rdG w F t)
abbrev SGs (X : Cx) (w : Wo) (F : Phi) (tg : List Expr) (t : T) : Prop := PGs X tg (rdGs w F t)
section
variable {X : Cx} {w : Wo} {F : Phi} {W : WX} {e e2 : Expr} {es : List Expr} {t t1 t2 : T} {pos : Pos}
theorem pg_imp {t t' : TG} (h : PG X e t) (i : ∀ v s H Q, t' v s H Q → t v s H Q) : PG X e t' := ⟨fun pins s σ H v u Q I r q => h.run pins s σ H v u Q I r (i v σ H Q q)⟩
theorem pgs_imp {t t' : TGs} (h : PGs X es t) (i : ∀ v s H Q, t' v s H Q → t v s H Q) : PGs X es t' := ⟨fun pins s σ H v u Q I r q => h.run pins s σ H v u Q I r (i v σ H Q q)⟩
theorem pg_or {t t' : TG} (h : PG X e t) (h' : PG X e t') : PG X e (fun v s H Q => t v s H Q ∨ t' v s H Q) := ⟨fun pins s σ H v u Q I r q => q.elim (h.run pins s σ H v u Q I r) (h'.run pins s σ H v u Q I r)⟩
theorem sg_name {i : Nat} {x : Str} (hN : X.N.Nodup) (hi : X.N[i]? = some x) (hx : Loc X.env.scope x) (hf : X.fn x = true ∨ X.env.scope.names.lookup x = some .local) : SG X w F (.Name x pos) (.tnm i) :=
  pg_imp (pg_name hN hi hx hf) fun u s H Q h => by
    obtain ⟨f, r, G, env, h, v, P, S, E, rv, wp, q⟩ := h
    exact q _ h _ r G H wp Ext.refl S (E.set rv i)
theorem sgs_nil : SGs X w F [] .nil := pgs_imp pgs_nil fun us s H Q h => by
  obtain ⟨f, r, G, env, h, vs, P, S, E, rv, wp, q⟩ := h
  obtain ⟨rfl, wp⟩ := wp
  exact ⟨rv, q _ h _ r G H wp Ext.refl S E⟩
theorem nostarA {env : PySem.Env} (h : ∀ x p, e ≠ .Starred x p) : assignEach (e :: es) env = (false, assign e env) :: assignEach es env := by
  cases e <;> first | rfl | exact absurd rfl (h _ _)
theorem assignEach_ok {env : PySem.Env} : ∀ {es : List Expr}, (∀ e ∈ es, ∀ x p, e ≠ .Starred x p) → (assignEach es env).length = es.length ∧ (assignEach es env).findIdx? (·.1) = none
  | [], _ => ⟨rfl, rfl⟩
  | e :: es, h => by
    obtain ⟨i1, i2⟩ := assignEach_ok (env := env) (es := es) fun e he => h e (by simp [he])
    rw [nostarA (h e (by simp))]
    refine ⟨by simp [i1], ?_⟩
    rw [List.findIdx?_cons, i2]
    rfl
theorem sgs_cons (h1 : SG X w F e t1) (h2 : SGs X w F es t2) (hs : ∀ x p, e ≠ .Starred x p) : SGs X w F (e :: es) (.cons t1 t2) :=
  pgs_imp (pgs_cons h1 h2 (by rw [nostarA hs]; rfl)) fun us s H Q h => by
    obtain ⟨f, r, G, env, h, vs, P, S, E, rv, wp, q⟩ := h
    cases vs with
    | nil => exact wp.elim
    | cons v vs =>
      obtain ⟨u, us, rfl, ru, rr⟩ := rv
      refine ⟨u, us, rfl, f, r, G, env, h, v, _, S, E, RvX.of ru, wp, fun env1 h1 s1 r1 G1 H1 w1 e1 S1 E1 => ?_⟩
      exact ⟨f, r1, G1, env1, h1, vs, P, S1, E1, RvAll.mono e1 _ _ rr, w1, q.mono e1⟩
/-- a value told to several targets -/
theorem parts_ok {f : L2.Hp} {r : List Addr} {G H : L2.Hp} {h : Hp} {v : V} {u : L2.V} {Q : List V → Prop} (S : Sim w f r G h H) (rv : Rv w r G v u) (q : partsV h v Q) : ∃ vs a us, Q vs ∧ u = .ref a ∧ (SqT w.K H a us ∨ SqL w.K H a us) ∧ RvAll w r G vs us := by
  cases v with
  | d x =>
    cases x with
    | list ds => obtain ⟨a, us, rfl, hq, t⟩ := rv; exact ⟨_, a, us, q, rfl, .inr (sqL_mono S.sub hq), rvAll_d.mpr t⟩
    | tuple ds => obtain ⟨a, us, rfl, hq, t⟩ := rv; exact ⟨_, a, us, q, rfl, .inl (tqT_mono S.sub hq), rvAll_d.mpr t⟩
    | _ => exact q.elim
  | vt xs => obtain ⟨a, us, rfl, hq, t⟩ := rv; exact ⟨_, a, us, q, rfl, .inl (tqT_mono S.sub hq), t⟩
  | cell n =>
    obtain ⟨a, e1, rfl⟩ := rv
    have q : (match h[n]? with
      | some (.lst xs) => Q (xs.map V.d)
      | some (.lv xs) => Q xs
      | _ => False) := q
    cases eo : h[n]? with
    | none => rw [eo] at q; exact q.elim
    | some o =>
      rw [eo] at q
      cases o with
      | lst xs => obtain ⟨_, us, ha, t⟩ := S.ob n a _ e1 eo; exact ⟨_, a, us, q, rfl, .inr (SqL.of ha), rvAll_d.mpr t⟩
      | lv xs => obtain ⟨_, us, ha, t⟩ := S.ob n a _ e1 eo; exact ⟨_, a, us, q, rfl, .inr (SqL.of ha), t⟩
      | _ => exact q.elim
  | fn _ => exact q.elim
  | exc _ _ => exact q.elim
theorem parts_okI {f : L2.Hp} {r : List Addr} {G H : L2.Hp} {h : Hp} {v : V} {u : L2.V} {Q : List V → Prop} (S : Sim w f r G h H) (rv : RvI w r G v u) (q : partsV h v Q) : ∃ vs a us, Q vs ∧ u = .ref a ∧ (SqT w.K H a us ∨ SqL w.K H a us) ∧ RvAll w r G vs us := by
  cases v with
  | d x => cases x with
    | tuple ds => obtain ⟨a, us, rfl, hq, t⟩ := rv; exact ⟨_, a, us, q, rfl, .inl (sqT_mono S.sub (.inl hq)), rvAll_d.mpr t⟩
    | _ => exact parts_ok S rv q
  | _ => exact parts_ok S rv q
theorem sg_tup {k : Nat} (hK : X.K = w.K) (hc : X.calm = true) (h : SGs X w F es t) (hs : ∀ e ∈ es, ∀ x p, e ≠ .Starred x p) (hl : tlen t = es.length) : SG X w F (.Tuple es k pos) (.ttp t) := by
  obtain ⟨a1, a2⟩ := assignEach_ok (env := X.env) hs
  refine pg_imp (pg_or (pg_tup (k := k) hc h a1 a2) (pg_lst (k := k) hc h a1 a2)) fun u s H Q h => ?_
  obtain ⟨f, r, G, env, h, v, P, S, E, rv, wp, q⟩ := h
  have wp : partsV h v fun vs => vs.length = tlen t ∧ WAs F t vs env h P := wp
  obtain ⟨vs, a, us, ⟨l, wp⟩, rfl, hq, t⟩ := parts_okI S rv wp
  have lu : us.length = es.length := by rw [← rvAll_len t, l, hl]
  rw [← hK] at hq
  rcases hq with hq | hq
  · exact .inl ⟨a, us, rfl, hq, lu, f, r, G, env, h, vs, P, S, E, t, wp, q⟩
  · exact .inr ⟨a, us, rfl, hq, lu, f, r, G, env, h, vs, P, S, E, t, wp, q⟩
/-- o[i] = v by values -/
def rSet (w : Wo) : TSet := fun o i v H Q => ∃ f r G h v1 v2 v3 P, Sim w f r G h H ∧ Rv w r G v1 o ∧ Rv w r G v2 i ∧ Rv w r G v3 v ∧ setV v1 v2 v3 h P ∧ ∀ h' r' G' H', P h' → Ext r G r' G' → Sim w f r' G' h' H' → Q H'
theorem noslice {o i : Expr} {env : PySem.Env} (h : ∀ a b c p, i ≠ .Slice a b c p) : ∀ v, assign (.Subscript o i pos) env v = (do
      let ov ← holding [v] (eval o env)
      let iv ← holding [v, ov] (eval i env)
      standAt pos
      holding [v, ov, iv] (setItem ov iv v)
      release [v, ov, iv] []) := by
  intro v
  cases i <;> first | rfl | exact absurd rfl (h _ _ _ _)
theorem sg_sub (hst : PSet X (rSet w)) (ho : SE X w F W e t1) (hi : SE X w F W e2 t2) (hn : ∀ a b c p, e2 ≠ .Slice a b c p) : SG X w F (.Subscript e e2 pos) (.tsb t1 t2) :=
  pg_imp (pg_sub ho hi hst (noslice hn)) fun u s H Q h => by
    obtain ⟨f, r, G, env, h, v, P, S, E, rv, wp, q⟩ := h
    refine ⟨f, r, G, env, h, _, _, S, E, wp, fun v1 h1 u1 r1 G1 H1 w1 e1 S1 rv1 => ?_, XOk.never⟩
    refine ⟨f, r1, G1, env, h1, _, _, S1, E.mono e1, w1, fun v2 h2 u2 r2 G2 H2 w2 e2 S2 rv2 => ?_, XOk.never⟩
    exact ⟨f, r2, G2, h2, v1, v2, v, _, S2, Rv.mono e2 _ _ rv1, rv2, Rv.mono (e1.trans e2) _ _ rv, w2, fun h3 r3 G3 H3 p3 e3 S3 => q env h3 s r3 G3 H3 p3 ((e1.trans e2).trans e3) S3 (E.mono ((e1.trans e2).trans e3))⟩
end

/-! ### statements -/
structure KOk (w : Wo) (W : WX) (f : L2.Hp) (r : List Addr) (G : L2.Hp) (n : Nx) (k : Kk) (D : Ends) : Prop where
  nx : GOk w f r G n D.nx
  rt : QOk w f r G k.rt D.rt
  bk : GOk w f r G k.bk D.bk
  ct : GOk w f r G k.ct D.ct
  xe : ∀ v env' h' s' r' G' H' c d, k.xe v env' h' → Ext r G r' G' → Sim w f r' G' h' H' → EnvR w r' G' env' s' → ExR w r' G' H' v c d → W c d s' H'
theorem KOk.mono {w : Wo} {W : WX} {f : L2.Hp} {r r1 : List Addr} {G G1 : L2.Hp} {n : Nx} {k : Kk} {D : Ends} (q : KOk w W f r G n k D) (e : Ext r G r1 G1) : KOk w W f r1 G1 n k D :=
  ⟨q.nx.mono e, q.rt.mono e, q.bk.mono e, q.ct.mono e, fun v env h s r' G' H c d p x => q.xe v env h s r' G' H c d p (e.trans x)⟩
theorem KOk.x {w : Wo} {W : WX} {f : L2.Hp} {r : List Addr} {G : L2.Hp} {n : Nx} {k : Kk} {D : Ends} {env : Env} {s : Sg} (q : KOk w W f r G n k D) (E : EnvR w r G env s) : XOk w f r G (fun x h1 => k.xe x env h1) (fun c d H' => W c d s H') :=
  fun v h' r' G' H' c d p e S x => q.xe v env h' s r' G' H' c d p e S (E.mono e) x
def rdS (w : Wo) (F : Phi) (W : WX) (t : T) : TS := fun D s H => ∃ f r G env h n k, Sim w f r G h H ∧ EnvR w r G env s ∧ WS F t env h n k ∧ KOk w W f r G n k D
def rdSs (w : Wo) (F : Phi) (W : WX) (t : T) : TS := fun D s H => ∃ f r G env h n k, Sim w f r G h H ∧ EnvR w r G env s ∧ WSs F t env h n k ∧ KOk w W f r G n k D
abbrev SS (X : Cx) (w : Wo) (F : Phi) (W : WX) (st : Stmt) (t : T) : Prop := PS X st (rdS w F W t)
abbrev SSs (X : Cx) (w : Wo) (F : Phi) (W : WX) (st : List Stmt) (t : T) : Prop := PSs X st (rdSs w F W t)
section
variable {X : Cx} {w : Wo} {F : Phi} {W : WX} {e e2 tg it : Expr} {es : List Expr} {st : Stmt} {a b body rest : List Stmt} {t t1 t2 t3 : T} {pos : Pos}
theorem ss_pass : SS X w F W (.Pass pos) .pas := ps_imp ps_pass fun D s H h => by
  obtain ⟨f, r, G, env, h, n, k, S, E, wp, q⟩ := h
  exact q.nx env h s r G H wp Ext.refl S E
theorem ss_brk : SS X w F W (.Break pos) .brk := ps_imp ps_break fun D s H h => by
  obtain ⟨f, r, G, env, h, n, k, S, E, wp, q⟩ := h
  exact q.bk env h s r G H wp Ext.refl S E
theorem ss_cnt : SS X w F W (.Continue pos) .cnt := ps_imp ps_continue fun D s H h => by
  obtain ⟨f, r, G, env, h, n, k, S, E, wp, q⟩ := h
  exact q.ct env h s r G H wp Ext.refl S E
theorem ss_ret0 : SS X w F W (.Return none pos) .ret0 := ps_imp ps_retN fun D s H h => by
  obtain ⟨f, r, G, env, h, n, k, S, E, wp, q⟩ := h
  exact q.rt _ h .non r G H wp Ext.refl S rfl
theorem ss_ret (he : SE X w F W e t) : SS X w F W (.Return (some e) pos) (.ret t) := ps_imp (ps_ret he) fun D s H h => by
  obtain ⟨f, r, G, env, h, n, k, S, E, wp, q⟩ := h
  exact ⟨f, r, G, env, h, _, _, S, E, wp, q.rt, q.x E⟩
theorem ss_exp (he : SE X w F W e t) (hs : swapsWith e none pos.line X.env = pure false) : SS X w F W (.Expr e pos) (.exp t) := ps_imp (ps_expr he hs) fun D s H h => by
  obtain ⟨f, r, G, env, h, n, k, S, E, wp, q⟩ := h
  exact ⟨f, r, G, env, h, _, _, S, E, wp, fun v h1 u r1 G1 H1 p e1 S1 _ => q.nx env h1 s r1 G1 H1 p e1 S1 (E.mono e1), q.x E⟩
theorem ss_if (hc : ST X w F W e t1) (ha : SSs X w F W a t2) (hb : SSs X w F W b t3) : SS X w F W (.If e a b pos) (.ifs t1 t2 t3) := ps_imp (ps_if hc ha hb) fun D s H h => by
  obtain ⟨f, r, G, env, h, n, k, S, E, wp, q⟩ := h
  refine ⟨f, r, G, env, h, _, _, S, E, wp, fun v h1 r1 G1 H1 p e1 S1 => ?_, q.x E⟩
  obtain ⟨c, rfl, p⟩ := boolP_of p
  refine ⟨c, rfl, ?_⟩
  cases c with
  | true => rw [if_pos rfl]; exact ⟨f, r1, G1, env, h1, n, k, S1, E.mono e1, p, q.mono e1⟩
  | false => rw [if_neg Bool.false_ne_true]; exact ⟨f, r1, G1, env, h1, n, k, S1, E.mono e1, p, q.mono e1⟩
theorem ss_set {i : Nat} {x : Str} {pos' : Pos} (hN : X.N.Nodup) (hi : X.N[i]? = some x) (hx : Loc X.env.scope x) (he : SE X w F W e t) (hs : swapsWith e (some (.Name x pos')) pos.line X.env = pure false) (hf : X.fn x = true ∨ X.env.scope.names.lookup x = some .local) :
    SS X w F W (.Assign [.Name x pos'] e pos) (.asg (.tnm i) t) := ps_imp (ps_set hN hi hx he hs hf) fun D s H h => by
  obtain ⟨f, r, G, env, h, n, k, S, E, wp, q⟩ := h
  exact ⟨f, r, G, env, h, _, _, S, E, wp, fun v h1 u r1 G1 H1 p e1 S1 rv => q.nx _ h1 _ r1 G1 H1 p e1 S1 ((E.mono e1).set rv i), q.x E⟩
theorem ss_asg (he : SE X w F W e t) (hg : SG X w F tg t1) (hs : swapsWithSole [tg] e pos.line X.env = pure false) (hw : swappedStores [tg] e X.env = pure none) (hn : ∀ x p, tg ≠ .Starred x p) : SS X w F W (.Assign [tg] e pos) (.asg t1 t) :=
  ps_imp (ps_asg he hg hs hw (by rw [nostarA hn]; rfl)) fun D s H h => by
    obtain ⟨f, r, G, env, h, n, k, S, E, wp, q⟩ := h
    refine ⟨f, r, G, env, h, _, _, S, E, wp, fun v h1 u r1 G1 H1 p e1 S1 rv => ?_, q.x E⟩
    exact ⟨f, r1, G1, env, h1, v, n, S1, E.mono e1, RvX.of rv, p, q.nx.mono e1⟩
/-- x = y = e, items -/
theorem ss_asg2 {a1 b1 a2 b2 : Expr} {p1 p2 : Pos} {g1 g2 : T} (he : SE X w F W e t) (h1 : SG X w F (.Subscript a1 b1 p1) g1) (h2 : SG X w F (.Subscript a2 b2 p2) g2) : SS X w F W (.Assign [.Subscript a1 b1 p1, .Subscript a2 b2 p2] e pos) (.asg2 g1 g2 t) :=
  ps_imp (ps_asg2 he h1 h2 rfl rfl) fun D s H h => by
    obtain ⟨f, r, G, env, h, n, k, S, E, wp, q⟩ := h
    refine ⟨f, r, G, env, h, _, _, S, E, wp, fun v h1 u r1 G1 H1 p e1 S1 rv => ?_, q.x E⟩
    refine ⟨f, r1, G1, env, h1, v, _, S1, E.mono e1, RvX.of rv, p, fun env2 h2 s2 r2 G2 H2 p2 e2 S2 E2 => ?_⟩
    exact ⟨f, r2, G2, env2, h2, v, n, S2, E2, RvX.of (Rv.mono e2 _ _ rv), p2, q.nx.mono (e1.trans e2)⟩
/-- x op= y by values -/
def rAug (w : Wo) (o : O2) : TIp := fun x y H Q => ∃ f r G h v1 v2 P, Sim w f r G h H ∧ Rv w r G v1 x ∧ Rv w r G v2 y ∧ augV o v1 v2 P ∧ ∀ z u, P z → Rv w r G z u → Q u H
theorem ss_augn {i : Nat} {x : Str} {op : Operator} {o : O2} {pos' : Pos} (hN : X.N.Nodup) (hi : X.N[i]? = some x) (hx : Loc X.env.scope x) (he : SE X w F W e t) (ho : PIp X op (rAug w o)) (hf : X.fn x = true ∨ X.env.scope.names.lookup x = some .local) :
    SS X w F W (.AugAssign (.Name x pos') op e pos) (.augn o i t) := ps_imp (ps_aug hN hi hx he ho hf) fun D s H h => by
  obtain ⟨f, r, G, env, h, n, k, S, E, wp, q⟩ := h
  obtain ⟨ov, eo, wp⟩ := optP_of wp
  obtain ⟨v, rfl, wp⟩ := optP_of wp
  obtain ⟨u, eu, rv⟩ := E.2 i v eo
  refine ⟨u, eu, f, r, G, env, h, _, _, S, E, wp, fun v2 h1 u2 r1 G1 H1 p e1 S1 rv2 => ?_, q.x E⟩
  exact ⟨f, r1, G1, h1, v, v2, _, S1, Rv.mono e1 _ _ rv, rv2, p, fun z u' pz rz => q.nx _ h1 _ r1 G1 H1 pz e1 S1 ((E.mono e1).set rz i)⟩
theorem noslice2 {i : Expr} (h : ∀ a b c p, i ≠ .Slice a b c p) : ∀ ov iv new, augStore i ov iv new = (do holding [new, ov, iv] (setItem ov iv new); release [new, ov, iv] []; pure .next) := by
  intro ov iv new
  cases i <;> first | rfl | exact absurd rfl (h _ _ _ _)
theorem ss_augs {op : Operator} {o : O2} {tpos : Pos} (hst : PSet X (rSet w)) (hgt : PGet X (rO2 w idxV)) (ho : PIp X op (rAug w o)) (h1 : SE X w F W e t1) (h2 : SE X w F W e2 t2) (h3 : SE X w F W tg t3) (hn : ∀ a b c p, e2 ≠ .Slice a b c p) :
    SS X w F W (.AugAssign (.Subscript e e2 tpos) op tg pos) (.augs o t1 t2 t3) := ps_imp (ps_augS h1 h2 hgt h3 ho hst (noslice2 hn)) fun D s H h => by
  obtain ⟨f, r, G, env, h, n, k, S, E, wp, q⟩ := h
  refine ⟨f, r, G, env, h, _, _, S, E, wp, fun v1 h1 u1 r1 G1 H1 w1 e1 S1 rv1 => ?_, q.x E⟩
  refine ⟨f, r1, G1, env, h1, _, _, S1, E.mono e1, w1, fun v2 h2 u2 r2 G2 H2 w2 e2 S2 rv2 => ?_, (q.mono e1).x (E.mono e1)⟩
  refine ⟨f, r2, G2, h2, v1, v2, _, S2, Rv.mono e2 _ _ rv1, rv2, w2, fun z u3 r3 G3 H3 w3 e3 S3 rz => ?_⟩
  have e13 := (e1.trans e2).trans e3
  refine ⟨f, r3, G3, env, h2, _, _, S3, E.mono e13, w3, fun v4 h4 u4 r4 G4 H4 w4 e4 S4 rv4 => ?_, (q.mono e13).x (E.mono e13)⟩
  refine ⟨f, r4, G4, h4, z, v4, _, S4, Rv.mono e4 _ _ rz, rv4, w4, fun z5 u5 w5 rz5 => ?_⟩
  exact ⟨f, r4, G4, h4, v1, v2, z5, _, S4, Rv.mono ((e2.trans e3).trans e4) _ _ rv1, Rv.mono (e3.trans e4) _ _ rv2, rz5, w5, fun h6 r6 G6 H6 p6 e6 S6 => q.nx env h6 s r6 G6 H6 p6 ((e13.trans e4).trans e6) S6 (E.mono ((e13.trans e4).trans e6))⟩
theorem sss_nil : SSs X w F W [] .nil := pss_imp pss_nil fun D s H h => by
  obtain ⟨f, r, G, env, h, n, k, S, E, wp, q⟩ := h
  exact q.nx env h s r G H wp Ext.refl S E
theorem sss_cons (h1 : SS X w F W st t1) (h2 : SSs X w F W rest t2) : SSs X w F W (st :: rest) (.cons t1 t2) := pss_imp (pss_cons h1 h2) fun D s H h => by
  obtain ⟨f, r, G, env, h, n, k, S, E, wp, q⟩ := h
  exact ⟨f, r, G, env, h, _, k, S, E, wp, ⟨fun env1 h1 s1 r1 G1 H1 p e1 S1 E1 => ⟨f, r1, G1, env1, h1, n, k, S1, E1, p, q.mono e1⟩, q.rt, q.bk, q.ct, q.xe⟩⟩
theorem sss_kill {ks : List Nat} (h : SSs X w F W rest t) : SSs X w F W rest (.cons (.kill ks) t) := pss_imp h fun D s H h => by
  obtain ⟨f, r, G, env, h, n, k, S, E, wp, q⟩ := h
  exact ⟨f, r, G, _, h, n, k, S, E.kill ks, wp, q⟩
theorem frz_cells {f H : L2.Hp} {r : List Addr} : ∀ {xs : List V} {us : List L2.V} {G : L2.Hp} {h h' : Hp} {ds : List D}, Sim w f r G h H → RvAll w r G xs us → frzL h xs = some (ds, h') → ∃ G', Sim w f r G' h' H ∧ Ext r G r G' ∧ RpAll w.K G' ds us
  | [], us, G, h, h', ds, S, t, e => by
    cases e
    exact ⟨G, S, Ext.refl, t⟩
  | .cell m :: xs, us, G, h, h', ds, S, t, e => by
    obtain ⟨u, us, rfl, ⟨a, er, rfl⟩, t⟩ := t
    unfold frzL at e
    cases em : h[m]? with
    | none => simp only [em] at e; cases e
    | some o =>
      cases o with
      | lst ys =>
        simp only [em] at e
        obtain ⟨⟨ds', h2⟩, e2, e3⟩ := Option.map_eq_some_iff.mp e
        cases e3
        obtain ⟨vs, ha, S1, x1, rp⟩ := S.freeze er em
        obtain ⟨G2, S2, x2, rp2⟩ := frz_cells S1 (RvAll.mono x1 _ _ t) e2
        exact ⟨G2, S2, x1.trans x2, _, _, rfl, Rp.mono x2.sub _ _ rp, rp2⟩
      | _ => simp only [em] at e; cases e
  | .d _ :: _, _, _, _, _, _, _, _, e => by cases e
  | .vt _ :: _, _, _, _, _, _, _, _, e => by cases e
  | .fn _ :: _, _, _, _, _, _, _, _, e => by cases e
  | .exc _ _ :: _, _, _, _, _, _, _, _, e => by cases e
theorem sss_frz {i : Nat} (h : SSs X w F W rest t) : SSs X w F W rest (.cons (.frz i) t) := pss_imp h fun D s H h => by
  obtain ⟨f, r, G, env, h, n, k, S, E, wp, q⟩ := h
  have wp : (match env[i]? with
    | some (some (.cell m)) => (match h[m]? with
      | some (.lst xs) => WSs F t (env.set i (some (.d (.list xs)))) (h.set m .dead) n k
      | some (.dct _ kvs) => WSs F t (env.set i (some (.d (.dict kvs)))) (h.set m .dead) n k
      | some (.lv xs) => optP (frzL (h.set m .dead) xs) fun p => WSs F t (env.set i (some (.d (.list p.1)))) p.2 n k
      | _ => False)
    | some (some (.d x)) => WSs F t env h n k
    | _ => False) := wp
  cases eo : env[i]? with
  | none => rw [eo] at wp; exact wp.elim
  | some ov =>
    rw [eo] at wp
    cases ov with
    | none => exact wp.elim
    | some v =>
      cases v with
      | d x => exact ⟨f, r, G, _, h, n, k, S, E, wp, q⟩
      | cell m =>
        have wp : (match h[m]? with
          | some (.lst xs) => WSs F t (env.set i (some (.d (.list xs)))) (h.set m .dead) n k
          | some (.dct _ kvs) => WSs F t (env.set i (some (.d (.dict kvs)))) (h.set m .dead) n k
          | some (.lv xs) => optP (frzL (h.set m .dead) xs) fun p => WSs F t (env.set i (some (.d (.list p.1)))) p.2 n k
          | _ => False) := wp
        cases em : h[m]? with
        | none => rw [em] at wp; exact wp.elim
        | some o =>
          rw [em] at wp
          cases o with
          | lst xs =>
            obtain ⟨u, eu, a, er, rfl⟩ := E.2 i _ eo
            obtain ⟨us, ha, S2, e2, rp⟩ := S.freeze er em
            refine ⟨f, r, _, _, _, n, k, S2, ?_, wp, q.mono e2⟩
            have E2 := (E.mono e2).set (v := .d (.list xs)) rp i
            have es : s.set i (some (.ref a)) = s := by
              apply List.ext_getElem?
              intro j
              by_cases hj : i = j
              · subst hj
                rw [List.getElem?_set_self (List.getElem?_eq_some_iff.mp eu).1, eu]
              · rw [List.getElem?_set_ne hj]
            rw [es] at E2
            exact E2
          | lv xs =>
            obtain ⟨u, eu, a, er, rfl⟩ := E.2 i _ eo
            obtain ⟨p, ep, wp⟩ := optP_of wp
            obtain ⟨ds, h2⟩ := p
            obtain ⟨g, us, ha, tv⟩ := S.ob m a _ er em
            obtain ⟨S1, x1⟩ := S.freezeO er em g ha (fun b z => nomatch z)
            obtain ⟨G2, S2, x2, rp⟩ := frz_cells S1 (RvAll.mono x1 _ _ tv) ep
            have rp2 : Rp w.K G2 (.list ds) (.ref a) := ⟨a, us, rfl, .inl (.inl (x2.sub _ _ upd_same)), rp⟩
            refine ⟨f, r, _, _, _, n, k, S2, ?_, wp, q.mono (x1.trans x2)⟩
            have E2 := (E.mono (x1.trans x2)).set (v := .d (.list ds)) rp2 i
            have es : s.set i (some (.ref a)) = s := by
              apply List.ext_getElem?
              intro j
              by_cases hj : i = j
              · subst hj
                rw [List.getElem?_set_self (List.getElem?_eq_some_iff.mp eu).1, eu]
              · rw [List.getElem?_set_ne hj]
            rw [es] at E2
            exact E2
          | dct tk kvs =>
            obtain ⟨u, eu, a, er, rfl⟩ := E.2 i _ eo
            obtain ⟨G2, S2, e2, rp⟩ := S.freezeD er em
            refine ⟨f, r, _, _, _, n, k, S2, ?_, wp, q.mono e2⟩
            have E2 := (E.mono e2).set (v := .d (.dict kvs)) rp i
            have es : s.set i (some (.ref a)) = s := by
              apply List.ext_getElem?
              intro j
              by_cases hj : i = j
              · subst hj
                rw [List.getElem?_set_self (List.getElem?_eq_some_iff.mp eu).1, eu]
              · rw [List.getElem?_set_ne hj]
            rw [es] at E2
            exact E2
          | _ => exact wp.elim
      | _ => exact wp.elim
/-! ### loops -/
theorem ss_for (hst : sgI t1 = true ∨ stT t2 = false) (hp : PassesOwn (model X.prog X.w) X.A X.env X.xe) (hc : X.calm = true) (hi : SI X w F W tg it t1) (hg : SG X w F tg t2) (hb : SSs X w F W body t3) (hs : ∀ x, foldedSetIterable it X.env x = pure x) : SS X w F W (.For tg it body [] pos) (.for_ t2 t1 t3) :=
  ps_imp (ps_for hp hc hi hg hb hs) fun D s H h => by
    obtain ⟨f, r, G, env, h, n, k, S, E, wp, q⟩ := h
    refine ⟨f, r, G, env, h, _, _, S, E, wp, fun chk xs h1 r1 G1 H1 J p e1 S1 sv => ?_, q.x E⟩
    refine ⟨fun i m s' H' => m = xs.length - i ∧ i ≤ xs.length ∧ ∃ r' G' env' h', Ext r1 G1 r' G' ∧ Sim w f r' G' h' H' ∧ EnvR w r' G' env' s' ∧ forW chk (fun x e h2 n2 k2 => WA F t2 x e h2 fun e1 h3 => WSs F t3 e1 h3 n2 k2) (xs.drop i) env' h' n k,
      ⟨xs.length, by simp, Nat.zero_le _, r1, G1, env, h1, Ext.refl, S1, E.mono e1, by rw [List.drop_zero]; exact p⟩, ?_⟩
    rintro i m s' H' ⟨rfl, hi, r', G', env', h', e', S', E', wf⟩
    by_cases hlt : i < xs.length
    · rw [List.drop_eq_getElem_cons hlt] at wf
      obtain ⟨hchk, wf⟩ := forW_ic wf
      obtain ⟨go, yl⟩ := sv.1 f i r' G' h' H' e' S' hchk hlt
      refine .inr ⟨go, fun s2 H2 => ∃ r2 G2 env2 h2, Ext r1 G1 r2 G2 ∧ Sim w f r2 G2 h2 H2 ∧ EnvR w r2 G2 env2 s2 ∧ forW chk (fun x e h2 n2 k2 => WA F t2 x e h2 fun e1 h3 => WSs F t3 e1 h3 n2 k2) (xs.drop (i + 1)) env2 h2 n k,
        fun s2 H2 hN => ⟨xs.length - (i + 1), by omega, rfl, hlt, hN⟩, fun x H2 y => ?_⟩
      obtain ⟨G2, v, e2, S2, ev, rv⟩ := yl x H2 y
      rw [List.getElem?_eq_getElem hlt] at ev
      cases ev
      refine ⟨f, r', G2, env', h', _, _, S2, E'.mono e2, rv.to hst, wf, fun env3 h3 s3 r3 G3 H3 p3 e3 S3 E3 => ?_⟩
      have e03 := (e'.trans e2).trans e3
      have q3 := q.mono (e1.trans e03)
      refine ⟨f, r3, G3, env3, h3, _, _, S3, E3, p3, ⟨?_, q3.rt, q3.nx, ?_, q3.xe⟩⟩
      · intro env4 h4 s4 r4 G4 H4 p4 e4 S4 E4
        exact ⟨r4, G4, env4, h4, e03.trans e4, S4, E4, p4⟩
      · intro env4 h4 s4 r4 G4 H4 p4 e4 S4 E4
        exact ⟨r4, G4, env4, h4, e03.trans e4, S4, E4, p4⟩
    · have e : i = xs.length := by omega
      subst e
      rw [List.drop_length] at wf
      obtain ⟨hchk, wf⟩ := forW_in wf
      exact .inl ⟨sv.2 f r' G' h' H' e' S' hchk, q.nx env' h' s' r' G' H' wf (e1.trans e') S' E'⟩
theorem ss_whl (hp : PassesOwn (model X.prog X.w) X.A X.env X.xe) (hc : ST X w F W e t1) (hb : SSs X w F W body t2) : SS X w F W (.While e body [] pos) (.whl t1 t2) :=
  ps_imp (ps_while hp hc hb) fun D s H h => by
    obtain ⟨f, r, G, env, h, n, k, S, E, ⟨m, wp⟩, q⟩ := h
    refine ⟨fun m s' H' => ∃ r' G' env' h', Ext r G r' G' ∧ Sim w f r' G' h' H' ∧ EnvR w r' G' env' s' ∧ whileN (fun e h1 Q => WE F t1 e h1 (fun v h2 => boolP v fun t => Q t h2) (fun _ _ => False)) (fun e h1 n1 k1 => WSs F t2 e h1 n1 k1) m env' h' n k, ⟨m, r, G, env, h, Ext.refl, S, E, wp⟩, ?_⟩
    rintro m s' H' ⟨r', G', env', h', e', S', E', wp⟩
    cases m with
    | zero => exact (whileN_i0 wp).elim
    | succ m =>
      refine ⟨f, r', G', env', h', _, _, S', E', whileN_is wp, fun v h1 r1 G1 H1 p e1 S1 => ?_, XOk.never⟩
      obtain ⟨c, rfl, p⟩ := boolP_of p
      refine ⟨c, rfl, ?_⟩
      have q1 := q.mono (e'.trans e1)
      dsimp only
      cases c with
      | false => rw [if_neg Bool.false_ne_true]; exact q1.nx env' h1 s' r1 G1 H1 p Ext.refl S1 (E'.mono e1)
      | true =>
        rw [if_pos rfl]
        refine ⟨fun s2 H2 => ∃ r2 G2 env2 h2, Ext r G r2 G2 ∧ Sim w f r2 G2 h2 H2 ∧ EnvR w r2 G2 env2 s2 ∧ whileN (fun e h1 Q => WE F t1 e h1 (fun v h2 => boolP v fun t => Q t h2) (fun _ _ => False)) (fun e h1 n1 k1 => WSs F t2 e h1 n1 k1) m env2 h2 n k, fun s2 H2 hN => ⟨m, Nat.lt_succ_self m, hN⟩, ?_⟩
        refine ⟨f, r1, G1, env', h1, _, _, S1, E'.mono e1, p, ⟨?_, q1.rt, q1.nx, ?_, q1.xe⟩⟩
        · intro env4 h4 s4 r4 G4 H4 p4 e4 S4 E4
          exact ⟨r4, G4, env4, h4, (e'.trans e1).trans e4, S4, E4, p4⟩
        · intro env4 h4 s4 r4 G4 H4 p4 e4 S4 E4
          exact ⟨r4, G4, env4, h4, (e'.trans e1).trans e4, S4, E4, p4⟩
end
end Hb

/-! SND5: comprehensions. -/
namespace Hb
open PySem PySem.Spec PyProof.Rows
open L2 hiding V Hp St
set_option autoImplicit false
section
variable {w : Wo} {f : L2.Hp} {r : List Addr} {G H : L2.Hp} {h : Hp} {p : Addr} {us : List L2.V}
/-- the list that is being made is guarded -/
theorem Sim.guard (S : Sim w f r G h H) (hp : H p = none) : Sim w (upd f p (.lst us)) r G h (upd H p (.lst us)) := by
  obtain ⟨g, hf, hr⟩ := S.fresh hp
  refine ⟨fun a q e => ?_, S.gn, fun a q e => ?_, fun a q e => ?_, fun n a e => ?_, S.len, S.nd, fun n a q e1 e2 => ?_⟩
  · rw [upd_ne (ne_of_none e g)]; exact S.sub _ _ e
  · rcases upd_get e with ⟨rfl, rfl⟩ | ⟨hb, e⟩
    · exact upd_same
    · rw [upd_ne hb]; exact S.fr _ _ e
  · rcases upd_get e with ⟨rfl, rfl⟩ | ⟨hb, e⟩
    · exact g
    · exact S.fg _ _ e
  · have hb : a ≠ p := fun z => hr n (z ▸ e)
    rw [upd_ne hb]; exact S.fc n a e
  · have hb : a ≠ p := fun z => hr n (z ▸ e1)
    exact (S.ob n a q e1 e2).mono Ext.refl (fun z => z) (fun x z => by rw [upd_ne hb]; exact z) fun b z => by rw [upd_ne (ne_of_none z hp)]; exact z
/-- .. and grows -/
theorem Sim.regard {vs : List L2.V} (S : Sim w (upd f p (.lst us)) r G h H) : Sim w (upd f p (.lst vs)) r G h (upd H p (.lst vs)) := by
  have hp : H p = some (.lst us) := S.fr _ _ upd_same
  have g : G p = none := S.fg p _ upd_same
  have hr : ∀ n : Nat, r[n]? ≠ some p := fun n e => by have := S.fc n p e; rw [upd_same] at this; cases this
  refine ⟨fun a q e => ?_, S.gn, fun a q e => ?_, fun a q e => ?_, fun n a e => ?_, S.len, S.nd, fun n a q e1 e2 => ?_⟩
  · rw [upd_ne (ne_of_none e g)]; exact S.sub _ _ e
  · rcases upd_get e with ⟨rfl, rfl⟩ | ⟨hb, e⟩
    · exact upd_same
    · rw [upd_ne hb]; exact S.fr a q (by rw [upd_ne hb]; exact e)
  · rcases upd_get e with ⟨rfl, rfl⟩ | ⟨hb, e⟩
    · exact g
    · exact S.fg a q (by rw [upd_ne hb]; exact e)
  · have hb : a ≠ p := fun z => hr n (z ▸ e)
    have := S.fc n a e
    rw [upd_ne hb] at this ⊢
    exact this
  · have hb : a ≠ p := fun z => hr n (z ▸ e1)
    exact (S.ob n a q e1 e2).mono Ext.refl (fun z => z) (fun x z => by rw [upd_ne hb]; exact z) fun b z => by rw [upd_ne (fun y => by subst y; rw [hp] at z; cases z)]; exact z
/-- .. and is data in the end -/
theorem Sim.unguard (S : Sim w (upd f p (.lst us)) r G h H) (hf : f p = none) : Sim w f r (upd G p (.lst us)) h H ∧ Ext r G r (upd G p (.lst us)) := by
  have hp : H p = some (.lst us) := S.fr _ _ upd_same
  have g : G p = none := S.fg p _ upd_same
  have hr : ∀ n : Nat, r[n]? ≠ some p := fun n e => by have := S.fc n p e; rw [upd_same] at this; cases this
  have ex : Ext r G r (upd G p (.lst us)) := ⟨fun _ _ e => e, sub_upd g⟩
  refine ⟨⟨fun a q e => ?_, fun a b e => ?_, fun a q e => ?_, fun a q e => ?_, fun n a e => ?_, S.len, S.nd, fun n a q e1 e2 => ?_⟩, ex⟩
  · rcases upd_get e with ⟨rfl, rfl⟩ | ⟨hb, e⟩
    · exact hp
    · exact S.sub _ _ e
  · rcases upd_get e with ⟨_, z⟩ | ⟨_, e⟩
    · cases z
    · exact S.gn _ _ e
  · exact S.fr a q (by rw [upd_ne (ne_of_none e hf)]; exact e)
  · rw [upd_ne (ne_of_none e hf)]; exact S.fg a q (by rw [upd_ne (ne_of_none e hf)]; exact e)
  · have hb : a ≠ p := fun z => hr n (z ▸ e)
    have := S.fc n a e
    rw [upd_ne hb] at this
    exact this
  · have hb : a ≠ p := fun z => hr n (z ▸ e1)
    exact (S.ob n a q e1 e2).mono ex (fun z => by rw [upd_ne hb]; exact z) (fun x z => z) fun _ z => z
/-- .. or a new cell -/
theorem Sim.uncell (S : Sim w (upd f p (.lst us)) r G h H) (hf : f p = none) {vs : List V} (rv : RvAll w r G vs us) : Sim w f (r ++ [p]) G (h ++ [mkOb vs]) H ∧ Ext r G (r ++ [p]) G ∧ (r ++ [p])[h.length]? = some p := by
  have hp : H p = some (.lst us) := S.fr _ _ upd_same
  have g : G p = none := S.fg p _ upd_same
  have hr : ∀ n : Nat, r[n]? ≠ some p := fun n e => by have := S.fc n p e; rw [upd_same] at this; cases this
  have ex : Ext r G (r ++ [p]) G := ⟨fun n a e => by rw [List.getElem?_append_left (List.getElem?_eq_some_iff.mp e).1]; exact e, fun _ _ e => e⟩
  have last : (r ++ [p])[h.length]? = some p := by rw [← S.len]; simp
  have cases' : ∀ (n : Nat) a, (r ++ [p])[n]? = some a → r[n]? = some a ∨ (n = r.length ∧ a = p) := fun n a e => by
    rcases Nat.lt_or_ge n r.length with z | z
    · rw [List.getElem?_append_left z] at e; exact .inl e
    · rw [List.getElem?_append_right z] at e
      obtain ⟨z2, e2⟩ := List.getElem?_eq_some_iff.mp e
      have : n - r.length = 0 := by simp at z2; omega
      refine .inr ⟨by omega, ?_⟩
      simp [this] at e2
      exact e2.symm
  have eu : upd H p (.lst us) = H := by
    funext b
    by_cases hb : b = p
    · subst hb; rw [upd_same, hp]
    · rw [upd_ne hb]
  refine ⟨⟨S.sub, S.gn, fun a q e => S.fr a q (by rw [upd_ne (ne_of_none e hf)]; exact e), fun a q e => S.fg a q (by rw [upd_ne (ne_of_none e hf)]; exact e), fun n a e => ?_, by simp [S.len], ?_, fun n a q e1 e2 => ?_⟩, ex, last⟩
  · rcases cases' n a e with z | ⟨_, rfl⟩
    · have hb : a ≠ p := fun y => hr n (y ▸ z)
      have := S.fc n a z
      rw [upd_ne hb] at this
      exact this
    · exact hf
  · rw [List.nodup_append]
    refine ⟨S.nd, by simp, fun a ha b hb z => ?_⟩
    simp at hb
    subst hb
    subst z
    obtain ⟨i, hi⟩ := List.getElem?_of_mem ha
    exact hr i hi
  · rcases cases' n a e1 with z | ⟨rfl, rfl⟩
    · have hn : n < h.length := by rw [← S.len]; exact (List.getElem?_eq_some_iff.mp z).1
      rw [List.getElem?_append_left hn] at e2
      exact (S.ob n a q z e2).mono ex (fun y => y) (fun x y => y) fun _ y => y
    · rw [S.len] at e2
      simp at e2
      subst e2
      have := ob_mk (H := H) g (RvAll.mono ex _ _ rv)
      rw [eu] at this
      exact this
/-- the made list handed out -/
theorem mkL_end {r0 : List Addr} {G0 : L2.Hp} {o : Bool} {vs : List V} {P : Pv} {Q : VK} (q : QOk w f r0 G0 P Q) (m : mkL o vs h P) (e1 : Ext r0 G0 r G) (S : Sim w (upd f p (.lst us)) r G h H) (hf : f p = none) (rv : RvAll w r G vs us) : Q (.ref p) H := by
  cases o with
  | false =>
    have m : optP (allD vs) fun ds => P (.d (.list ds)) h := m
    obtain ⟨ds, e, m'⟩ := optP_of m
    have e3 := allD_map e
    subst e3
    obtain ⟨S2, e2⟩ := S.unguard hf
    exact q (.d (.list ds)) h (.ref p) r _ _ m' (e1.trans e2) S2 ⟨p, us, rfl, .inl (.inl upd_same), RpAll.mono e2.sub _ _ (rvAll_d.mp rv)⟩
  | true =>
    have m : P (.cell h.length) (h ++ [mkOb vs]) := m
    obtain ⟨S2, e2, el⟩ := S.uncell hf rv
    exact q _ _ (.ref p) _ _ _ m (e1.trans e2) S2 ⟨p, el, rfl⟩
end
/-! ### targets of a comprehension: its own slots alone -/
def CGOk (w : Wo) (ws : List Nat) (s : Sg) (f : L2.Hp) (r : List Addr) (G : L2.Hp) (P : Env → Hp → Prop) (Q : Sg → L2.Hp → Prop) : Prop :=
  ∀ env' h' s' r' G' H', P env' h' → Ext r G r' G' → Sim w f r' G' h' H' → EnvR w r' G' env' s' → wipe s' ws = wipe s ws → Q s' H'
def rdC (w : Wo) (F : Phi) (ws : List Nat) (t : T) : TG := fun u s H Q => ∃ f r G env h v P, Sim w f r G h H ∧ EnvR w r G env s ∧ RvX (stT t) w r G v u ∧ WA F t v env h P ∧ CGOk w ws s f r G P Q
def rdCs (w : Wo) (F : Phi) (ws : List Nat) (t : T) : TGs := fun us s H Q => ∃ f r G env h vs P, Sim w f r G h H ∧ EnvR w r G env s ∧ RvAll w r G vs us ∧ WAs F t vs env h P ∧ CGOk w ws s f r G P Q
theorem wipe_set {i : Nat} {o : Option L2.V} : ∀ {ws : List Nat} {s : Sg}, i ∈ ws → wipe (s.set i o) ws = wipe s ws
  | v :: vs, s, h => by
    by_cases hm : i ∈ vs
    · show (wipe (s.set i o) vs).set v none = (wipe s vs).set v none
      rw [wipe_set hm]
    · have e : i = v := by
        rcases List.mem_cons.mp h with z | z
        · exact z
        · exact absurd z hm
      subst e
      apply List.ext_getElem?
      intro j
      show ((wipe (s.set i o) vs).set i none)[j]? = ((wipe s vs).set i none)[j]?
      by_cases hj : i = j
      · subst hj
        by_cases hl : i < s.length
        · rw [List.getElem?_set_self (by rw [wipe_length, List.length_set]; exact hl), List.getElem?_set_self (by rw [wipe_length]; exact hl)]
        · rw [List.getElem?_eq_none (by rw [List.length_set, wipe_length, List.length_set]; omega), List.getElem?_eq_none (by rw [List.length_set, wipe_length]; omega)]
      · rw [List.getElem?_set_ne hj, List.getElem?_set_ne hj]
        by_cases hjv : j ∈ vs
        · have gen : ∀ (s : Sg) (l : List Nat), j ∈ l → (wipe s l)[j]? = if j < s.length then some none else none := by
            intro s l hl
            induction l with
            | nil => cases hl
            | cons a l ih =>
              show ((wipe s l).set a none)[j]? = _
              by_cases ha : a = j
              · subst ha
                by_cases hz : a < s.length
                · rw [List.getElem?_set_self (by rw [wipe_length]; exact hz), if_pos hz]
                · rw [List.getElem?_eq_none (by rw [List.length_set, wipe_length]; omega), if_neg hz]
              · rw [List.getElem?_set_ne ha]
                exact ih (by rcases List.mem_cons.mp hl with z | z; exact absurd z.symm ha; exact z)
          rw [gen _ _ hjv, gen _ _ hjv, List.length_set]
        · rw [wipe_out hjv, wipe_out hjv, List.getElem?_set_ne hj]
section
variable {X : Cx} {w : Wo} {F : Phi} {W : WX} {e e2 : Expr} {es : List Expr} {t t1 t2 t3 t4 : T} {pos : Pos} {ws : List Nat}
theorem sc_name {i : Nat} {x : Str} (hN : X.N.Nodup) (hi : X.N[i]? = some x) (hx : Loc X.env.scope x) (hf : X.fn x = true ∨ X.env.scope.names.lookup x = some .local) (hw : i ∈ ws) : PG X (.Name x pos) (rdC w F ws (.tnm i)) :=
  pg_imp (pg_name hN hi hx hf) fun u s H Q h => by
    obtain ⟨f, r, G, env, h, v, P, S, E, rv, wp, q⟩ := h
    exact q _ h _ r G H wp Ext.refl S (E.set rv i) (wipe_set hw)
theorem scs_nil : PGs X [] (rdCs w F ws .nil) := pgs_imp pgs_nil fun us s H Q h => by
  obtain ⟨f, r, G, env, h, vs, P, S, E, rv, wp, q⟩ := h
  obtain ⟨rfl, wp⟩ := wp
  exact ⟨rv, q _ h _ r G H wp Ext.refl S E rfl⟩
theorem scs_cons (h1 : PG X e (rdC w F ws t1)) (h2 : PGs X es (rdCs w F ws t2)) (hs : ∀ x p, e ≠ .Starred x p) : PGs X (e :: es) (rdCs w F ws (.cons t1 t2)) :=
  pgs_imp (pgs_cons h1 h2 (by rw [nostarA hs]; rfl)) fun us s H Q h => by
    obtain ⟨f, r, G, env, h, vs, P, S, E, rv, wp, q⟩ := h
    cases vs with
    | nil => exact wp.elim
    | cons v vs =>
      obtain ⟨u, us, rfl, ru, rr⟩ := rv
      refine ⟨u, us, rfl, f, r, G, env, h, v, _, S, E, RvX.of ru, wp, fun env1 h1 s1 r1 G1 H1 w1 e1 S1 E1 k1 => ?_⟩
      exact ⟨f, r1, G1, env1, h1, vs, P, S1, E1, RvAll.mono e1 _ _ rr, w1, fun env2 h2 s2 r2 G2 H2 w2 e2 S2 E2 k2 => q env2 h2 s2 r2 G2 H2 w2 (e1.trans e2) S2 E2 (k2.trans k1)⟩
theorem sc_tup {k : Nat} (hK : X.K = w.K) (hc : X.calm = true) (h : PGs X es (rdCs w F ws t)) (hs : ∀ e ∈ es, ∀ x p, e ≠ .Starred x p) (hl : tlen t = es.length) : PG X (.Tuple es k pos) (rdC w F ws (.ttp t)) := by
  obtain ⟨a1, a2⟩ := assignEach_ok (env := X.env) hs
  refine pg_imp (pg_or (pg_tup (k := k) hc h a1 a2) (pg_lst (k := k) hc h a1 a2)) fun u s H Q h => ?_
  obtain ⟨f, r, G, env, h, v, P, S, E, rv, wp, q⟩ := h
  have wp : partsV h v fun vs => vs.length = tlen t ∧ WAs F t vs env h P := wp
  obtain ⟨vs, a, us, ⟨l, wp⟩, rfl, hq, t⟩ := parts_okI S rv wp
  have lu : us.length = es.length := by rw [← rvAll_len t, l, hl]
  rw [← hK] at hq
  rcases hq with hq | hq
  · exact .inl ⟨a, us, rfl, hq, lu, f, r, G, env, h, vs, P, S, E, t, wp, q⟩
  · exact .inr ⟨a, us, rfl, hq, lu, f, r, G, env, h, vs, P, S, E, t, wp, q⟩
/-! ### tests -/
abbrev W0 : WX := fun _ _ _ _ => False
def rdTs (w : Wo) (F : Phi) (t : T) : TT := fun s H Q => ∃ f r G env h P, Sim w f r G h H ∧ EnvR w r G env s ∧ WTs F t env h P ∧ ∀ b h' r' G' H', P b h' → Ext r G r' G' → Sim w f r' G' h' H' → Q b H'
theorem pts_imp {ifs : List Expr} {t t' : TT} (h : PTs X ifs t) (i : ∀ s H Q, t' s H Q → t s H Q) : PTs X ifs t' := ⟨fun pins s σ H Q I q => h.run pins s σ H Q I (i σ H Q q)⟩
theorem sts_nil : PTs X [] (rdTs w F .nil) := pts_imp pts_nil fun s H Q h => by
  obtain ⟨f, r, G, env, h, P, S, E, wp, q⟩ := h
  exact q true h r G H wp Ext.refl S
theorem sts_one (h : ST X w F W0 e t) : PTs X [e] (rdTs w F (.cons t .nil)) := pts_imp (pts_one h) fun s H Q h => by
  obtain ⟨f, r, G, env, h, P, S, E, wp, q⟩ := h
  refine ⟨f, r, G, env, h, _, _, S, E, wp, fun v h1 r1 G1 H1 p e1 S1 => ?_, XOk.never⟩
  obtain ⟨c, rfl, p⟩ := boolP_of p
  exact ⟨c, rfl, q c h1 r1 G1 H1 p e1 S1⟩
/-! ### one for -/
theorem rd_cmp1 (hst : sgI t1 = true ∨ stT t2 = false) {o : Bool} {s : Sg} {H : L2.Hp} {Q : VK} (h : rdE w F W (.cmp1 o t1 t2 t3 t4 ws) s H Q) : tLc (rdI w F W t1) (rdC w F ws t2) (rdTs w F t3) (rdE w F W0 t4) ws s H Q := by
  obtain ⟨f, r, G, env, h, P, Xp, S, E, wp, q, qx⟩ := h
  refine ⟨f, r, G, env, h, _, Xp, S, E, wp, fun chk xs h1 r1 G1 H1 J p e1 S1 sv => ?_, qx⟩
  intro D hD
  have hf : f D = none := (S1.fresh hD).2.1
  generalize hturn : (fun (x : V) (h2 : Hp) (Q : Option V → Hp → Prop) => WA F t2 x (wipeE env ws) h2 (fun e2 h3 => WTs F t3 e2 h3 (fun t h4 => match t with
        | true => WE F t4 e2 h4 (fun v h5 => Q (some v) h5) (fun _ _ => False)
        | false => Q none h4))) = turn at p
  refine ⟨fun i m H' => m = xs.length - i ∧ i ≤ xs.length ∧ ∃ r' G' h' acc ua, Ext r1 G1 r' G' ∧ Sim w (upd f D (.lst ua)) r' G' h' H' ∧ RvAll w r' G' acc ua ∧ cmpW chk turn (xs.drop i) acc h' fun vs h2 => mkL o vs h2 P,
    ⟨xs.length, by simp, Nat.zero_le _, r1, G1, h1, [], [], Ext.refl, S1.guard hD, rfl, by rw [List.drop_zero]; exact p⟩, ?_⟩
  rintro i m H' ⟨rfl, hi, r', G', h', acc, ua, e', S', ra, wc⟩
  by_cases hlt : i < xs.length
  · rw [List.drop_eq_getElem_cons hlt] at wc
    obtain ⟨hchk, wc⟩ := cmpW_ic wc
    obtain ⟨go, yl⟩ := sv.1 _ i r' G' h' H' e' S' hchk hlt
    refine .inr ⟨go, fun H2 => ∃ r2 G2 h2 acc2 ua2, Ext r1 G1 r2 G2 ∧ Sim w (upd f D (.lst ua2)) r2 G2 h2 H2 ∧ RvAll w r2 G2 acc2 ua2 ∧ cmpW chk turn (xs.drop (i + 1)) acc2 h2 fun vs h2 => mkL o vs h2 P,
      fun H2 hN => ⟨xs.length - (i + 1), by omega, rfl, hlt, hN⟩, fun x H2 y => ?_⟩
    obtain ⟨G2, v, e2, S2, ev, rv⟩ := yl x H2 y
    rw [List.getElem?_eq_getElem hlt] at ev
    cases ev
    rw [← hturn] at wc
    refine ⟨_, r', G2, _, h', _, _, S2, (E.mono ((e1.trans e').trans e2)).wipe ws, rv.to hst, wc, fun env3 h3 s3 r3 G3 H3 p3 e3 S3 E3 k3 => ?_⟩
    refine ⟨?_, _, r3, G3, env3, h3, _, S3, E3, p3, fun b h4 r4 G4 H4 p4 e4 S4 => ?_⟩
    · rw [k3]
      apply List.ext_getElem?
      intro j
      by_cases hj : j ∈ ws
      · have gen : ∀ (s : Sg) (l : List Nat), j ∈ l → (wipe s l)[j]? = if j < s.length then some none else none := by
          intro s l hl
          induction l with
          | nil => cases hl
          | cons a l ih =>
            show ((wipe s l).set a none)[j]? = _
            by_cases ha : a = j
            · subst ha
              by_cases hz : a < s.length
              · rw [List.getElem?_set_self (by rw [wipe_length]; exact hz), if_pos hz]
              · rw [List.getElem?_eq_none (by rw [List.length_set, wipe_length]; omega), if_neg hz]
            · rw [List.getElem?_set_ne ha]
              exact ih (by rcases List.mem_cons.mp hl with z | z; exact absurd z.symm ha; exact z)
        rw [gen _ _ hj, gen _ _ hj, wipe_length]
      · rw [wipe_out hj]
    · have e04 := ((e'.trans e2).trans e3).trans e4
      have ra4 := RvAll.mono ((e2.trans e3).trans e4) _ _ ra
      cases b with
      | false =>
        dsimp only
        rw [if_neg Bool.false_ne_true]
        have p4 : cmpW chk turn (xs.drop (i + 1)) acc h4 fun vs h2 => mkL o vs h2 P := by rw [← hturn]; exact p4
        exact ⟨r4, G4, h4, acc, ua, e04, S4, ra4, p4⟩
      | true =>
        dsimp only
        rw [if_pos rfl]
        refine ⟨_, r4, G4, env3, h4, _, _, S4, E3.mono e4, p4, fun v5 h5 u5 r5 G5 H5 p5 e5 S5 rv5 => ?_, XOk.never⟩
        have p5 : acc.length < big ∧ cmpW chk turn (xs.drop (i + 1)) (acc ++ [v5]) h5 fun vs h2 => mkL o vs h2 P := by rw [← hturn]; exact p5
        have ra5 := RvAll.mono e5 _ _ ra4
        refine ⟨ua, S5.fr _ _ upd_same, by rw [← rvAll_len ra5, big_eq]; exact p5.1, ?_⟩
        exact ⟨r5, G5, h5, acc ++ [v5], ua ++ [u5], e04.trans e5, S5.regard, rvAll_iff.mpr ((rvAll_iff.mp ra5).snoc rv5), p5.2⟩
  · have e : i = xs.length := by omega
    subst e
    rw [List.drop_length] at wc
    obtain ⟨hchk, wc⟩ := cmpW_in wc
    exact .inl ⟨sv.2 _ r' G' h' H' e' S' hchk, mkL_end q wc (e1.trans e') S' hf ra⟩
abbrev BlkAll (X : Cx) (scope : Scope) (P : Cx → Prop) : Prop := ∀ (s : Shared) (H : L2.Hp) (C : Addr) (cl : List (Str × Addr)) (fp : List Addr), P (X.blk s H scope (compEnvC scope cl C X.env) fp)
variable {elt tg iter tg1 iter1 : Expr} {ifs ifs1 : List Expr} {scope : Scope} {own : List (Str × Nat)}
theorem se_cmp1 (hst : sgI t1 = true ∨ stT t2 = false) {o : Bool} (hc : X.calm = true) (hN : X.N.Nodup) (hi : SI X w F W tg iter t1) (ok : BlkOk X.N X.env.scope scope own) (hg : BlkAll X scope fun Y => PG Y tg (rdC w F (own.map (·.2)) t2)) (ht : BlkAll X scope fun Y => PTs Y ifs (rdTs w F t3))
    (he : BlkAll X scope fun Y => SE Y w F W0 elt t4) (hs : ∀ x, foldedSetIterable iter X.env x = pure x) : SE X w F W (.ListComp elt [⟨tg, iter, ifs, 0⟩] scope pos) (.cmp1 o t1 t2 t3 t4 (own.map (·.2))) :=
  pe_imp (pe_lc hc hN hi ok hg ht he hs) fun _ _ _ h => rd_cmp1 hst h
theorem ss_setcmp1 (hst : sgI t1 = true ∨ stT t2 = false) {o : Bool} {i : Nat} {y : Str} {py spos : Pos} (hc : X.calm = true) (hN : X.N.Nodup) (hy : X.N[i]? = some y) (hyl : X.env.scope.names.lookup y = some .local) (hsw : swapsWith (.ListComp elt [⟨tg, iter, ifs, 0⟩] scope pos) (some (.Name y py)) spos.line X.env = pure true)
    (hi : SI X w F W tg iter t1) (ok : BlkOk X.N X.env.scope scope own) (hg : BlkAll X scope fun Y => PG Y tg (rdC w F (own.map (·.2)) t2)) (ht : BlkAll X scope fun Y => PTs Y ifs (rdTs w F t3))
    (he : BlkAll X scope fun Y => SE Y w F W0 elt t4) (hs : ∀ x, foldedSetIterable iter X.env x = pure x) : SS X w F W (.Assign [.Name y py] (.ListComp elt [⟨tg, iter, ifs, 0⟩] scope pos) spos) (.asg (.tnm i) (.cmp1 o t1 t2 t3 t4 (own.map (·.2)))) :=
  ps_imp (ps_setLc hc hN hy hyl hsw hi ok hg ht he hs) fun D s H h => by
    obtain ⟨f, r, G, env, h, n, k, S, E, wp, q⟩ := h
    exact rd_cmp1 hst (W := W) ⟨f, r, G, env, h, _, _, S, E, wp, fun v h1 u r1 G1 H1 p e1 S1 rv => q.nx _ h1 _ r1 G1 H1 p e1 S1 ((E.mono e1).set rv i), q.x E⟩
/-! ### two fors -/
theorem wipe_wipe {ws : List Nat} {s : Sg} : wipe (wipe s ws) ws = wipe s ws := by
  apply List.ext_getElem?
  intro j
  by_cases hj : j ∈ ws
  · have gen : ∀ (s : Sg) (l : List Nat), j ∈ l → (wipe s l)[j]? = if j < s.length then some none else none := by
      intro s l hl
      induction l with
      | nil => cases hl
      | cons a l ih =>
        show ((wipe s l).set a none)[j]? = _
        by_cases ha : a = j
        · subst ha
          by_cases hz : a < s.length
          · rw [List.getElem?_set_self (by rw [wipe_length]; exact hz), if_pos hz]
          · rw [List.getElem?_eq_none (by rw [List.length_set, wipe_length]; omega), if_neg hz]
        · rw [List.getElem?_set_ne ha]
          exact ih (by rcases List.mem_cons.mp hl with z | z; exact absurd z.symm ha; exact z)
    rw [gen _ _ hj, gen _ _ hj, wipe_length]
  · rw [wipe_out hj]
variable {t5 t6 t7 : T} {ws2 : List Nat}
theorem rd_cmp2 (hst : sgI t1 = true ∨ stT t2 = false) (hst2 : sgI t4 = true ∨ stT t5 = false) {o : Bool} {s : Sg} {H : L2.Hp} {Q : VK} (h : rdE w F W (.cmp2 o t1 t2 t3 t4 t5 t6 t7 ws ws2) s H Q) : tLc2 (rdI w F W t1) (rdC w F ws t2) (rdTs w F t3) (rdI w F W0 t4) (rdC w F ws2 t5) (rdTs w F t6) (rdE w F W0 t7) ws ws2 s H Q := by
  obtain ⟨f, r, G, env, h, P, Xp, S, E, wp, q, qx⟩ := h
  refine ⟨f, r, G, env, h, _, Xp, S, E, wp, fun chk xs h1 r1 G1 H1 J p e1 S1 sv => ?_, qx⟩
  intro D hD
  have hf : f D = none := (S1.fresh hD).2.1
  generalize hin : (fun (e2 : Env) (y : V) (h6 : Hp) (Q2 : Option V → Hp → Prop) => WA F t5 y (wipeE e2 ws2) h6 (fun e3 h7 => WTs F t6 e3 h7 (fun t2 h8 => match t2 with
            | true => WE F t7 e3 h8 (fun v h9 => Q2 (some v) h9) (fun _ _ => False)
            | false => Q2 none h8))) = inn
  generalize hturn : (fun (x : V) (acc : List V) (h2 : Hp) (Q : List V → Hp → Prop) => WA F t2 x (wipeE env ws) h2 (fun e2 h3 => WTs F t3 e2 h3 (fun t h4 => match t with
        | true => WI F t4 e2 h4 (fun chk2 ys h5 => cmpW chk2 (inn e2) ys acc h5 Q) (fun _ _ => False)
        | false => Q acc h4))) = turn
  have p : cmpW2 chk turn xs [] h1 fun vs h2 => mkL o vs h2 P := by rw [← hturn, ← hin]; exact p
  refine ⟨fun i m H' => m = xs.length - i ∧ i ≤ xs.length ∧ ∃ r' G' h' acc ua, Ext r1 G1 r' G' ∧ Sim w (upd f D (.lst ua)) r' G' h' H' ∧ RvAll w r' G' acc ua ∧ cmpW2 chk turn (xs.drop i) acc h' fun vs h2 => mkL o vs h2 P,
    ⟨xs.length, by simp, Nat.zero_le _, r1, G1, h1, [], [], Ext.refl, S1.guard hD, rfl, by rw [List.drop_zero]; exact p⟩, ?_⟩
  rintro i m H' ⟨rfl, hi, r', G', h', acc, ua, e', S', ra, wc⟩
  by_cases hlt : i < xs.length
  · rw [List.drop_eq_getElem_cons hlt] at wc
    obtain ⟨hchk, wc⟩ := cmpW2_ic wc
    obtain ⟨go, yl⟩ := sv.1 _ i r' G' h' H' e' S' hchk hlt
    refine .inr ⟨go, fun H2 => ∃ r2 G2 h2 acc2 ua2, Ext r1 G1 r2 G2 ∧ Sim w (upd f D (.lst ua2)) r2 G2 h2 H2 ∧ RvAll w r2 G2 acc2 ua2 ∧ cmpW2 chk turn (xs.drop (i + 1)) acc2 h2 fun vs h2 => mkL o vs h2 P,
      fun H2 hN => ⟨xs.length - (i + 1), by omega, rfl, hlt, hN⟩, fun x H2 y => ?_⟩
    obtain ⟨G2, v, e2, S2, ev, rv⟩ := yl x H2 y
    rw [List.getElem?_eq_getElem hlt] at ev
    cases ev
    rw [← hturn] at wc
    refine ⟨_, r', G2, _, h', _, _, S2, (E.mono ((e1.trans e').trans e2)).wipe ws, rv.to hst, wc, fun env3 h3 s3 r3 G3 H3 p3 e3 S3 E3 k3 => ?_⟩
    refine ⟨by rw [k3, wipe_wipe], _, r3, G3, env3, h3, _, S3, E3, p3, fun b h4 r4 G4 H4 p4 e4 S4 => ?_⟩
    have e04 := ((e'.trans e2).trans e3).trans e4
    have ra4 := RvAll.mono ((e2.trans e3).trans e4) _ _ ra
    cases b with
    | false =>
      dsimp only
      rw [if_neg Bool.false_ne_true]
      have p4 : cmpW2 chk turn (xs.drop (i + 1)) acc h4 fun vs h2 => mkL o vs h2 P := by rw [← hturn]; exact p4
      exact ⟨r4, G4, h4, acc, ua, e04, S4, ra4, p4⟩
    | true =>
      dsimp only
      rw [if_pos rfl]
      have E4 := E3.mono e4
      refine ⟨_, r4, G4, env3, h4, _, _, S4, E4, p4, fun chk2 ys h5 r5 G5 H5 J2 p5 e5 S5 sv2 => ?_, XOk.never⟩
      have p5 : cmpW chk2 (inn env3) ys acc h5 fun acc' h' => cmpW2 chk turn (xs.drop (i + 1)) acc' h' fun vs h2 => mkL o vs h2 P := by rw [← hturn]; exact p5
      refine ⟨fun j m2 H6 => m2 = ys.length - j ∧ j ≤ ys.length ∧ ∃ r6 G6 h6 acc6 ua6, Ext r5 G5 r6 G6 ∧ Sim w (upd f D (.lst ua6)) r6 G6 h6 H6 ∧ RvAll w r6 G6 acc6 ua6 ∧ cmpW chk2 (inn env3) (ys.drop j) acc6 h6 fun acc' h' => cmpW2 chk turn (xs.drop (i + 1)) acc' h' fun vs h2 => mkL o vs h2 P,
        ⟨ys.length, by simp, Nat.zero_le _, r5, G5, h5, acc, ua, Ext.refl, S5, RvAll.mono e5 _ _ ra4, by rw [List.drop_zero]; exact p5⟩, ?_⟩
      rintro j m2 H6 ⟨rfl, hj, r6, G6, h6, acc6, ua6, e6, S6, ra6, wc6⟩
      have e06 := (e04.trans e5).trans e6
      by_cases hjl : j < ys.length
      · rw [List.drop_eq_getElem_cons hjl] at wc6
        obtain ⟨hchk2, wc6⟩ := cmpW_ic wc6
        obtain ⟨go2, yl2⟩ := sv2.1 _ j r6 G6 h6 H6 e6 S6 hchk2 hjl
        refine .inr ⟨go2, fun H7 => ∃ r7 G7 h7 acc7 ua7, Ext r5 G5 r7 G7 ∧ Sim w (upd f D (.lst ua7)) r7 G7 h7 H7 ∧ RvAll w r7 G7 acc7 ua7 ∧ cmpW chk2 (inn env3) (ys.drop (j + 1)) acc7 h7 fun acc' h' => cmpW2 chk turn (xs.drop (i + 1)) acc' h' fun vs h2 => mkL o vs h2 P,
          fun H7 hN => ⟨ys.length - (j + 1), by omega, rfl, hjl, hN⟩, fun x2 H7 y2 => ?_⟩
        obtain ⟨G7, v7, e7, S7, ev7, rv7⟩ := yl2 x2 H7 y2
        rw [List.getElem?_eq_getElem hjl] at ev7
        cases ev7
        rw [← hin] at wc6
        refine ⟨_, r6, G7, _, h6, _, _, S7, (E4.mono ((e5.trans e6).trans e7)).wipe ws2, rv7.to hst2, wc6, fun env8 h8 s8 r8 G8 H8 p8 e8 S8 E8 k8 => ?_⟩
        refine ⟨by rw [k8, wipe_wipe], _, r8, G8, env8, h8, _, S8, E8, p8, fun b2 h9 r9 G9 H9 p9 e9 S9 => ?_⟩
        have e59 := ((e6.trans e7).trans e8).trans e9
        have ra9 := RvAll.mono ((e7.trans e8).trans e9) _ _ ra6
        cases b2 with
        | false =>
          dsimp only
          rw [if_neg Bool.false_ne_true]
          have p9 : cmpW chk2 (inn env3) (ys.drop (j + 1)) acc6 h9 fun acc' h' => cmpW2 chk turn (xs.drop (i + 1)) acc' h' fun vs h2 => mkL o vs h2 P := by rw [← hin]; exact p9
          exact ⟨r9, G9, h9, acc6, ua6, e59, S9, ra9, p9⟩
        | true =>
          dsimp only
          rw [if_pos rfl]
          refine ⟨_, r9, G9, env8, h9, _, _, S9, E8.mono e9, p9, fun va ha ua' ra' Ga Ha pa ea Sa rva => ?_, XOk.never⟩
          have pa : acc6.length < big ∧ cmpW chk2 (inn env3) (ys.drop (j + 1)) (acc6 ++ [va]) ha fun acc' h' => cmpW2 chk turn (xs.drop (i + 1)) acc' h' fun vs h2 => mkL o vs h2 P := by rw [← hin]; exact pa
          have raa := RvAll.mono ea _ _ ra9
          refine ⟨ua6, Sa.fr _ _ upd_same, by rw [← rvAll_len raa, big_eq]; exact pa.1, ?_⟩
          exact ⟨ra', Ga, ha, acc6 ++ [va], ua6 ++ [ua'], e59.trans ea, Sa.regard, rvAll_iff.mpr ((rvAll_iff.mp raa).snoc rva), pa.2⟩
      · have e : j = ys.length := by omega
        subst e
        rw [List.drop_length] at wc6
        obtain ⟨hchk2, wc6⟩ := cmpW_in wc6
        exact .inl ⟨sv2.2 _ r6 G6 h6 H6 e6 S6 hchk2, r6, G6, h6, acc6, ua6, e06, S6, ra6, wc6⟩
  · have e : i = xs.length := by omega
    subst e
    rw [List.drop_length] at wc
    obtain ⟨hchk, wc⟩ := cmpW2_in wc
    exact .inl ⟨sv.2 _ r' G' h' H' e' S' hchk, mkL_end q wc (e1.trans e') S' hf ra⟩
theorem se_cmp2 (hst : sgI t1 = true ∨ stT t2 = false) (hst2 : sgI t4 = true ∨ stT t5 = false) {o : Bool} (hc : X.calm = true) (hN : X.N.Nodup) (hi : SI X w F W tg iter t1) (ok : BlkOk X.N X.env.scope scope own) (hv : ∀ i ∈ ws2, i ∈ own.map (·.2)) (hg : BlkAll X scope fun Y => PG Y tg (rdC w F (own.map (·.2)) t2)) (ht : BlkAll X scope fun Y => PTs Y ifs (rdTs w F t3))
    (hi1 : BlkAll X scope fun Y => SI Y w F W0 tg1 iter1 t4) (hg1 : BlkAll X scope fun Y => PG Y tg1 (rdC w F ws2 t5)) (ht1 : BlkAll X scope fun Y => PTs Y ifs1 (rdTs w F t6))
    (he : BlkAll X scope fun Y => SE Y w F W0 elt t7) (hs : ∀ x, foldedSetIterable iter X.env x = pure x) (hs1 : ∀ env x, foldedSetIterable iter1 env x = pure x) :
    SE X w F W (.ListComp elt [⟨tg, iter, ifs, 0⟩, ⟨tg1, iter1, ifs1, 0⟩] scope pos) (.cmp2 o t1 t2 t3 t4 t5 t6 t7 (own.map (·.2)) ws2) :=
  pe_imp (pe_lc2 hc hN hi ok hv hg ht hi1 hg1 ht1 he hs hs1) fun _ _ _ h => rd_cmp2 hst hst2 h
theorem ss_setcmp2 (hst : sgI t1 = true ∨ stT t2 = false) (hst2 : sgI t4 = true ∨ stT t5 = false) {o : Bool} {i : Nat} {y : Str} {py spos : Pos} (hc : X.calm = true) (hN : X.N.Nodup) (hy : X.N[i]? = some y) (hyl : X.env.scope.names.lookup y = some .local) (hsw : swapsWith (.ListComp elt [⟨tg, iter, ifs, 0⟩, ⟨tg1, iter1, ifs1, 0⟩] scope pos) (some (.Name y py)) spos.line X.env = pure true)
    (hi : SI X w F W tg iter t1) (ok : BlkOk X.N X.env.scope scope own) (hv : ∀ i ∈ ws2, i ∈ own.map (·.2)) (hg : BlkAll X scope fun Y => PG Y tg (rdC w F (own.map (·.2)) t2)) (ht : BlkAll X scope fun Y => PTs Y ifs (rdTs w F t3))
    (hi1 : BlkAll X scope fun Y => SI Y w F W0 tg1 iter1 t4) (hg1 : BlkAll X scope fun Y => PG Y tg1 (rdC w F ws2 t5)) (ht1 : BlkAll X scope fun Y => PTs Y ifs1 (rdTs w F t6))
    (he : BlkAll X scope fun Y => SE Y w F W0 elt t7) (hs : ∀ x, foldedSetIterable iter X.env x = pure x) (hs1 : ∀ env x, foldedSetIterable iter1 env x = pure x) :
    SS X w F W (.Assign [.Name y py] (.ListComp elt [⟨tg, iter, ifs, 0⟩, ⟨tg1, iter1, ifs1, 0⟩] scope pos) spos) (.asg (.tnm i) (.cmp2 o t1 t2 t3 t4 t5 t6 t7 (own.map (·.2)) ws2)) :=
  ps_imp (ps_setLc2 hc hN hy hyl hsw hi ok hv hg ht hi1 hg1 ht1 he hs hs1) fun D s H h => by
    obtain ⟨f, r, G, env, h, n, k, S, E, wp, q⟩ := h
    exact rd_cmp2 hst hst2 (W := W) ⟨f, r, G, env, h, _, _, S, E, wp, fun v h1 u r1 G1 H1 p e1 S1 rv => q.nx _ h1 _ r1 G1 H1 p e1 S1 ((E.mono e1).set rv i), q.x E⟩
end
end Hb

/-! DCT: dicts asked and stored. -/
namespace Hb
open PySem PySem.Spec PyProof.Rows
open L2 hiding V Hp St
set_option autoImplicit false
mutual
theorem eqD_of : ∀ (a b : D), eqD a b = true → a = b
  | .none, b, h => by cases b <;> first | rfl | (unfold eqD at h; cases h)
  | .bool a, b, h => by cases b <;> first | (unfold eqD at h; rw [eq_of_beq h]) | (unfold eqD at h; cases h)
  | .int a, b, h => by cases b <;> first | (unfold eqD at h; rw [eq_of_beq h]) | (unfold eqD at h; cases h)
  | .str a, b, h => by cases b <;> first | (unfold eqD at h; rw [of_decide_eq_true h]) | (unfold eqD at h; cases h)
  | .list a, b, h => by cases b <;> first | (unfold eqD at h; rw [eqDs_of _ _ h]) | (unfold eqD at h; cases h)
  | .tuple a, b, h => by cases b <;> first | (unfold eqD at h; rw [eqDs_of _ _ h]) | (unfold eqD at h; cases h)
  | .dict a, b, h => by
    cases a with
    | nil => cases b with
      | dict b => cases b with
        | nil => rfl
        | cons _ _ => unfold eqD at h; cases h
      | _ => unfold eqD at h; cases h
    | cons _ _ => cases b <;> (unfold eqD at h; cases h)
theorem eqDs_of : ∀ (a b : List D), eqDs a b = true → a = b
  | [], b, h => by cases b <;> first | rfl | (unfold eqDs at h; cases h)
  | a :: as, b, h => by
    cases b with
    | nil => unfold eqDs at h; cases h
    | cons b bs =>
      unfold eqDs at h
      obtain ⟨h1, h2⟩ := Bool.and_eq_true_iff.mp h
      rw [eqD_of _ _ h1, eqDs_of _ _ h2]
end
theorem eqD_key (a b : Key) : eqD (keyD a) (keyD b) = decide (a = b) := by
  cases a with
  | inl i => cases b with
    | inl j =>
      show (i == j) = decide ((Sum.inl i : Key) = Sum.inl j)
      rw [key_ll]
    | inr y => rw [key_lr]; rfl
  | inr x => cases b with
    | inl j => rw [key_rl]; rfl
    | inr y =>
      show decide (x = y) = decide ((Sum.inr x : Key) = Sum.inr y)
      rw [key_rr]
theorem eqD_keys : ∀ a b : List Key, eqDs (a.map keyD) (b.map keyD) = decide (a = b)
  | [], [] => rfl
  | [], _ :: _ => rfl
  | _ :: _, [] => rfl
  | x :: a, y :: b => by
    show (eqD (keyD x) (keyD y) && eqDs (a.map keyD) (b.map keyD)) = _
    rw [eqD_key, eqD_keys a b]
    by_cases h1 : x = y
    · subst h1
      by_cases h2 : a = b
      · subst h2; simp
      · rw [decide_eq_false h2, decide_eq_false (fun z => h2 (List.cons.inj z).2)]; simp
    · rw [decide_eq_false h1, decide_eq_false (fun z => h1 (List.cons.inj z).1)]; rfl
mutual
theorem eqD_nk : ∀ a b : NestedKey, eqD (nkD a) (nkD b) = NestedKey.beq a b
  | .none, b => by cases b <;> rfl
  | .num i, b => by cases b <;> first | rfl | (unfold nkD eqD NestedKey.beq; first | rfl | exact Bool.beq_eq_decide_eq _ _)
  | .text i, b => by cases b <;> first | rfl | (unfold nkD eqD NestedKey.beq; rfl)
  | .tup ks, b => by
    cases b with
    | tup ls => unfold nkD eqD NestedKey.beq; exact eqD_nks ks ls
    | _ => unfold nkD eqD NestedKey.beq; rfl
theorem eqD_nks : ∀ a b : List NestedKey, eqDs (nkDs a) (nkDs b) = NestedKey.beqAll a b
  | [], [] => rfl
  | [], _ :: _ => rfl
  | _ :: _, [] => rfl
  | a :: as, b :: bs => by
    show (eqD (nkD a) (nkD b) && eqDs (nkDs as) (nkDs bs)) = _
    rw [eqD_nk a b, eqD_nks as bs]
    conv => rhs; unfold NestedKey.beqAll
end
theorem eqD_nkD (a b : NestedKey) : eqD (nkD a) (nkD b) = decide (a = b) := by rw [eqD_nk, NestedKey.decide_eq]
/-! ### keys -/
theorem key_atom {d : D} (h : atomD d = true) : ∃ k, d = keyD k := by
  cases d with
  | int i => exact ⟨.inl i, rfl⟩
  | str z => exact ⟨.inr z, rfl⟩
  | _ => cases h
theorem key_atoms : ∀ {ds : List D}, ds.all atomD = true → ∃ ks : List Key, ds = ks.map keyD
  | [], _ => ⟨[], rfl⟩
  | d :: ds, h => by
    rw [List.all_cons, Bool.and_eq_true] at h
    obtain ⟨k, rfl⟩ := key_atom h.1
    obtain ⟨ks, rfl⟩ := key_atoms h.2
    exact ⟨k :: ks, rfl⟩
theorem keyB_f {k : D} (h : keyB false k = true) : ∃ q, k = keyD q := key_atom h
theorem ky_nk : ∀ (n : Nat) (d : D), kyD n d = true → ∃ k, d = nkD k ∧ nkN k = true ∧ k.depth ≤ n := by
  intro n
  induction n with
  | zero =>
    intro d h
    cases d with
    | int i => exact ⟨.num i, rfl, rfl, Nat.le_refl _⟩
    | _ => cases h
  | succ n ih =>
    intro d h
    cases d with
    | int i => exact ⟨.num i, rfl, rfl, Nat.zero_le _⟩
    | tuple ds =>
      have h : ds.all (kyD n) = true := h
      have all : ∀ ds : List D, ds.all (kyD n) = true → ∃ ks, ds = nkDs ks ∧ nkNs ks = true ∧ NestedKey.depthAll ks ≤ n := by
        intro ds
        induction ds with
        | nil => intro _; exact ⟨[], rfl, rfl, Nat.zero_le _⟩
        | cons d ds ih2 =>
          intro h
          rw [List.all_cons, Bool.and_eq_true] at h
          obtain ⟨k, rfl, h2, h3⟩ := ih d h.1
          obtain ⟨ks, rfl, g2, g3⟩ := ih2 h.2
          refine ⟨k :: ks, rfl, ?_, ?_⟩
          · show (nkN k && nkNs ks) = true
            rw [h2, g2]; rfl
          · show max k.depth (NestedKey.depthAll ks) ≤ n
            omega
      obtain ⟨ks, rfl, h2, h3⟩ := all ds h
      exact ⟨.tup ks, rfl, h2, by show NestedKey.depthAll ks + 1 ≤ n + 1; omega⟩
    | _ => cases h
theorem keyB_t {k : D} (h : keyB true k = true) : ∃ q, k = nkD q ∧ nkOk q = true ∧ ∃ ks, q = .tup ks := by
  cases k with
  | tuple xs =>
    obtain ⟨q, e, h1, h2⟩ := ky_nk 8 (.tuple xs) h
    refine ⟨q, e, ?_, ?_⟩
    · show (nkN q && decide (q.depth ≤ 8)) = true
      rw [h1, decide_eq_true h2]; rfl
    · cases q with
      | tup ks => exact ⟨ks, rfl⟩
      | _ => cases e
  | _ => cases h
theorem keyD_f (k : Key) : keyB false (keyD k) = true := by cases k <;> rfl
theorem keyD_t (k : Key) : keyB true (keyD k) = false := by cases k <;> rfl
theorem keyT_f (k : List NestedKey) : keyB false (nkD (.tup k)) = false := rfl
section
variable {K : PySem.W.Frag} {G H : L2.Hp}
theorem rp_key {k : Key} {u : L2.V} (h : Rp K G (keyD k) u) : u = kV k := by cases k <;> exact h
mutual
theorem rp_nk : ∀ (k : NestedKey) (u : L2.V), Rp K G (nkD k) u → NkR G k u
  | .none, _, h => h
  | .num _, _, h => h
  | .text _, _, h => h
  | .tup ks, _, h => by obtain ⟨a, us, e, q, t⟩ := h; exact ⟨a, us, e, q, rp_nks ks us t⟩
theorem rp_nks : ∀ (ks : List NestedKey) (us : List L2.V), RpAll K G (nkDs ks) us → NkRs G ks us
  | [], _, h => h
  | k :: ks, _, h => by obtain ⟨v, vs, e, q, t⟩ := h; exact ⟨v, vs, e, rp_nk k v q, rp_nks ks vs t⟩
end
theorem rpAll_keys : ∀ {ks : List Key} {us : List L2.V}, RpAll K G (ks.map keyD) us → us = ks.map kV
  | [], us, h => h
  | k :: ks, us, h => by
    obtain ⟨v, vs, rfl, h1, h2⟩ := h
    rw [rp_key h1, rpAll_keys h2]
    rfl
/-- asked for a key: what the keys and the values tell -/
theorem val_rel {κ : Type} [DecidableEq κ] (kd : κ → D) (he : ∀ a b, eqD (kd a) (kd b) = decide (a = b)) (q : κ) : ∀ {kvs : List (D × D)} {kus : List (κ × L2.V)}, kvs.map (·.1) = kus.map (fun p => kd p.1) → RpKv K G kvs (kus.map (·.2)) →
    (match valD kvs (kd q) with
      | some z => ∃ u, valV kus q = some u ∧ Rp K G z u
      | none => valV kus q = none)
  | [], [], _, _ => rfl
  | [], _ :: _, h, _ => by cases h
  | _ :: _, [], h, _ => by cases h
  | (k, d) :: kvs, (c, v) :: kus, h, r => by
    have h : k :: kvs.map (·.1) = kd c :: kus.map (fun p => kd p.1) := h
    injection h with h1 h2
    subst h1
    obtain ⟨v', vs, e, r1, r2⟩ := r
    have e : v :: kus.map (·.2) = v' :: vs := e
    injection e with e1 e2
    subst e1 e2
    have ih := val_rel kd he q h2 r2
    unfold valD at ih ⊢
    rw [List.find?_cons]
    show (match Option.map (·.2) (match eqD (kd c) (kd q) with | true => some (kd c, d) | false => kvs.find? fun p => eqD p.1 (kd q)) with
      | some z => ∃ u, valV ((c, v) :: kus) q = some u ∧ Rp K G z u
      | none => valV ((c, v) :: kus) q = none)
    rw [he]
    by_cases hc : c = q
    · rw [decide_eq_true hc]
      exact ⟨v, valV_pos hc, r1⟩
    · rw [decide_eq_false hc, valV_neg (p := (c, v)) hc]
      exact ih
/-- stored -/
theorem put_rel {κ : Type} [DecidableEq κ] (kd : κ → D) (he : ∀ a b, eqD (kd a) (kd b) = decide (a = b)) (q : κ) {z : D} {u : L2.V} (hz : Rp K G z u) {kvs : List (D × D)} {kus : List (κ × L2.V)} (h : kvs.map (·.1) = kus.map (fun p => kd p.1)) (r : RpKv K G kvs (kus.map (·.2))) :
    (putD kvs (kd q) z).map (·.1) = (putK kus q u).map (fun p => kd p.1) ∧ RpKv K G (putD kvs (kd q) z) ((putK kus q u).map (·.2)) := by
  have any_eq : ∀ {kvs : List (D × D)} {kus : List (κ × L2.V)}, kvs.map (·.1) = kus.map (fun p => kd p.1) → (kvs.any fun p => eqD p.1 (kd q)) = kus.any fun p => decide (p.1 = q) := by
    intro kvs
    induction kvs with
    | nil => intro kus h; cases kus with
      | nil => rfl
      | cons _ _ => cases h
    | cons p kvs ih =>
      intro kus h
      cases kus with
      | nil => cases h
      | cons c kus =>
        have h : p.1 :: kvs.map (·.1) = kd c.1 :: kus.map (fun p => kd p.1) := h
        injection h with h1 h2
        rw [List.any_cons, List.any_cons, ih h2, h1, he]
  have rep : ∀ {kvs : List (D × D)} {kus : List (κ × L2.V)}, kvs.map (·.1) = kus.map (fun p => kd p.1) → RpKv K G kvs (kus.map (·.2)) →
      (kvs.map fun p => if eqD p.1 (kd q) = true then (p.1, z) else p).map (·.1) = (kus.map fun p => if p.1 = q then (p.1, u) else p).map (fun p => kd p.1) ∧ RpKv K G (kvs.map fun p => if eqD p.1 (kd q) = true then (p.1, z) else p) ((kus.map fun p => if p.1 = q then (p.1, u) else p).map (·.2)) := by
    intro kvs
    induction kvs with
    | nil => intro kus h r; cases kus with
      | nil => exact ⟨rfl, rfl⟩
      | cons _ _ => cases h
    | cons p kvs ih =>
      intro kus h r
      cases kus with
      | nil => cases h
      | cons c kus =>
        obtain ⟨k, d⟩ := p
        have h : k :: kvs.map (·.1) = kd c.1 :: kus.map (fun p => kd p.1) := h
        injection h with h1 h2
        subst h1
        obtain ⟨v', vs, e, r1, r2⟩ := r
        have e : c.2 :: kus.map (·.2) = v' :: vs := e
        injection e with e1 e2
        subst e1 e2
        obtain ⟨i1, i2⟩ := ih h2 r2
        simp only [List.map_cons]
        by_cases hc : c.1 = q
        · rw [if_pos (show eqD (kd c.1) (kd q) = true by rw [he, decide_eq_true hc]), if_pos hc]
          exact ⟨by rw [i1], _, _, rfl, hz, i2⟩
        · rw [if_neg (show ¬ eqD (kd c.1) (kd q) = true by rw [he, decide_eq_false hc]; exact Bool.false_ne_true), if_neg hc]
          exact ⟨by rw [i1], _, _, rfl, r1, i2⟩
  unfold putD putK
  rw [any_eq h]
  by_cases hb : (kus.any fun p => decide (p.1 = q)) = true
  · rw [if_pos hb, if_pos hb]
    exact rep h r
  · rw [if_neg hb, if_neg hb]
    refine ⟨by rw [List.map_append, List.map_append, h]; rfl, ?_⟩
    rw [rpKv_iff, rpAll_iff] at r ⊢
    rw [List.map_append, List.map_append]
    exact r.snoc hz
theorem rt_key {k : D} {y : L2.V} {kvs : List (D × D)} (r : Rt K G H k y) (hk : ∃ t, keyB t k = true ∧ ∀ p ∈ kvs, keyB t p.1 = true) : Rp K G k y := by
  obtain ⟨t, h, _⟩ := hk
  cases k with
  | list _ => cases t <;> cases h
  | dict _ => cases t <;> cases h
  | _ => exact r
theorem asked_some {o : Option L2.V} {x : Option D} (h : match x with | some z => ∃ u, o = some u ∧ Rp K G z u | none => o = none) : o.isSome = x.isSome := by
  cases x with
  | none => rw [show o = none from h]; rfl
  | some z => obtain ⟨u, e, _⟩ := h; rw [e]; rfl
theorem nk_atom {k : NestedKey} {b : Addr} (nk : NkR G k (.ref b)) (h : keyB false (nkD k) = true) : False := by
  cases k with
  | tup ks => cases h
  | none => cases (show L2.V.ref b = .non from nk)
  | num i => cases (show L2.V.ref b = .int i from nk)
  | text i => cases (show L2.V.ref b = .str i from nk)
/-- what the rows tell -/
def valN (rows : List NkRow) (k : NestedKey) : Option L2.V := valV (rows.map fun p => (p.1, p.2.2)) k
/-- what a dict's object answers: by its kind of key; an empty one to each -/
inductive Asked (H : L2.Hp) (a : Addr) (y : L2.V) : Option L2.V → Prop
  | get {kvs : List (Key × L2.V)} {k : Key} : H a = some (.dK kvs) → y = kV k → Asked H a y (valV kvs k)
  | tg {rows : List NkRow} {k : NestedKey} {b : Addr} : H a = some (TDic a rows) → y = .ref b → NkR H k (.ref b) → nkOk k = true → (∀ p ∈ rows, NkR H p.1 (.ref p.2.1) ∧ nkOk p.1 = true) → Asked H a y (valN rows k)
  | noT {k : NestedKey} {b : Addr} : H a = some (.dK []) → y = .ref b → NkR H k (.ref b) → nkOk k = true → Asked H a y none
  | noK {k : Key} : H a = some (TDic a []) → y = kV k → Asked H a y none
theorem asked {t : Bool} {a : Addr} {kvs : List (D × D)} {us : List L2.V} {k : D} {y : L2.V} (sb : Sub G H) (hd : DcA G H t a (kvs.map (·.1)) us) (rv : RpKv K G kvs us) (rk : Rp K G k y) (hk : ∃ t, keyB t k = true ∧ ∀ p ∈ kvs, keyB t p.1 = true) :
    ∃ o, Asked H a y o ∧ (match valD kvs k with | some z => ∃ u, o = some u ∧ Rp K G z u | none => o = none) := by
  obtain ⟨t2, h1, h2⟩ := hk
  cases t with
  | false =>
    obtain ⟨kus, ha, ek, rfl⟩ := hd
    cases t2 with
    | false =>
      obtain ⟨q, rfl⟩ := keyB_f h1
      have := rp_key rk
      subst this
      refine ⟨valV kus q, .get ha rfl, ?_⟩
      have vr := val_rel keyD eqD_key q ek rv
      cases e : valD kvs (keyD q) with
      | none => rw [e] at vr; exact vr
      | some z => rw [e] at vr; obtain ⟨u, e1, e2⟩ := vr; exact ⟨u, e1, e2⟩
    | true =>
      have hn : kvs = [] := by
        cases kvs with
        | nil => rfl
        | cons p kvs =>
          exfalso
          have := h2 p (by simp)
          cases kus with
          | nil => cases ek
          | cons c kus =>
            have ek : p.1 :: kvs.map (·.1) = keyD c.1 :: kus.map (fun p => keyD p.1) := ek
            injection ek with e1 _
            rw [e1, keyD_t] at this
            cases this
      subst hn
      have : kus = [] := by cases kus with
        | nil => rfl
        | cons _ _ => cases ek
      subst this
      obtain ⟨q, rfl, ok, ks, rfl⟩ := keyB_t h1
      have nk := rp_nk _ _ rk
      obtain ⟨b, xs, rfl, _⟩ := id nk
      exact ⟨none, .noT ha rfl (NkR.mono sb _ _ nk) ok, rfl⟩
  | true =>
    obtain ⟨rows, ha, ek, rfl, rk2⟩ := hd
    cases t2 with
    | true =>
      obtain ⟨q, rfl, ok, ks, rfl⟩ := keyB_t h1
      have nk := rp_nk _ _ rk
      obtain ⟨b, xs, rfl, _⟩ := id nk
      refine ⟨valN rows (.tup ks), .tg ha rfl (NkR.mono sb _ _ nk) ok (fun p hp => ⟨NkR.mono sb _ _ (rk2 p hp).1, (rk2 p hp).2⟩), ?_⟩
      have vr := val_rel (kus := rows.map fun p => (p.1, p.2.2)) nkD eqD_nkD (.tup ks) (by rw [ek, List.map_map]; rfl) (by rw [List.map_map]; exact rv)
      cases e : valD kvs (nkD (.tup ks)) with
      | none => rw [e] at vr; exact vr
      | some z => rw [e] at vr; obtain ⟨u, e1, e2⟩ := vr; exact ⟨u, e1, e2⟩
    | false =>
      have hn : kvs = [] := by
        cases kvs with
        | nil => rfl
        | cons p kvs =>
          exfalso
          have := h2 p (by simp)
          cases rows with
          | nil => cases ek
          | cons c rows =>
            have ek : p.1 :: kvs.map (·.1) = nkD c.1 :: rows.map (fun p => nkD p.1) := ek
            injection ek with e1 _
            obtain ⟨nk, _⟩ := rk2 c (by simp)
            rw [e1] at this
            cases hc : c.1 with
            | tup ks => rw [hc] at this; cases this
            | none => rw [hc] at nk; cases (show L2.V.ref c.2.1 = .non from nk)
            | num i => rw [hc] at nk; cases (show L2.V.ref c.2.1 = .int i from nk)
            | text i => rw [hc] at nk; cases (show L2.V.ref c.2.1 = .str i from nk)
      subst hn
      have : rows = [] := by cases rows with
        | nil => rfl
        | cons _ _ => cases ek
      subst this
      obtain ⟨q, rfl⟩ := keyB_f h1
      have := rp_key rk
      subst this
      exact ⟨none, .noK ha rfl, rfl⟩
end
section
variable {X : Cx} {pins : List (Addr × Obj)} {σ : Sg} {H : L2.Hp} {s : Shared} {a : Addr} {y d : L2.V} {u r : Value} {o : Option L2.V} {A : Around} {E : Value → Shared → Prop}
/-! ### the object of a dict whose keys are tuples -/
mutual
theorem nk_is (hok : HOk X.prog X.w H s.heap) : ∀ (k : NestedKey) (y : L2.V) (u : Value), NkR H k y → RelV y u → NestedIs s.heap k u
  | .none, _, _, h, r => by cases (show _ = _ from h); cases (show _ = Value.none from r); exact .none
  | .num i, _, _, h, r => by cases (show _ = _ from h); obtain ⟨t, e⟩ := (show ∃ t, _ = Value.int i t from r); rw [e]; exact .int i t
  | .text i, _, _, h, r => by cases (show _ = _ from h); obtain ⟨t, e⟩ := (show ∃ t, _ = Value.str i t from r); rw [e]; exact .text i t
  | .tup ks, _, _, h, r => by
    obtain ⟨b, us, e, ⟨ob, hb, _⟩, t⟩ := h
    subst e
    cases (show _ = Value.ref b from r)
    obtain ⟨_, _, its, rv, o, h1, h2, n, h3⟩ := (show ObjOk X.prog X.w H s.heap b (.frz ob (.tup us)) from hok b _ hb)
    exact .tup h1 h2 h3 (by simpa using nk_iss hok ks us its t rv)
theorem nk_iss (hok : HOk X.prog X.w H s.heap) : ∀ (ks : List NestedKey) (ys : List L2.V) (us : List Value), NkRs H ks ys → Vals ys us → NestedAll s.heap ks us
  | [], _, us, h, r => by cases (show _ = _ from h); cases r; exact .nil
  | k :: ks, _, us, h, r => by
    obtain ⟨v, vs, e, q, t⟩ := h
    subst e
    cases r with
    | cons r1 r2 => exact .cons (nk_is hok k v _ q r1) (nk_iss hok ks vs _ t r2)
end
theorem nk_key (I : Inv X pins σ H s) {k : NestedKey} {b : Addr} (h : NkR H k (.ref b)) (ok : nkOk k = true) : (nestedKind X.prog X.w).is s.heap k b := by
  have ok : (nkN k && decide (k.depth ≤ 8)) = true := ok
  rw [Bool.and_eq_true] at ok
  exact ⟨nk_is I.hok k _ _ h rfl, of_decide_eq_true ok.2⟩
mutual
theorem nk_hash (w1 w2 : World) : ∀ k : NestedKey, nkN k = true → k.hash w1 = k.hash w2
  | .none, h => by cases h
  | .num _, _ => rfl
  | .text _, h => by cases h
  | .tup ks, h => by
    show reduceHash (Builtin.Tuple.tupleHashOf (NestedKey.hashes w1 ks)) = reduceHash (Builtin.Tuple.tupleHashOf (NestedKey.hashes w2 ks))
    rw [nk_hashes w1 w2 ks h]
theorem nk_hashes (w1 w2 : World) : ∀ ks : List NestedKey, nkNs ks = true → NestedKey.hashes w1 ks = NestedKey.hashes w2 ks
  | [], _ => rfl
  | k :: ks, h => by
    have h : (nkN k && nkNs ks) = true := h
    rw [Bool.and_eq_true] at h
    show k.hash w1 :: NestedKey.hashes w1 ks = k.hash w2 :: NestedKey.hashes w2 ks
    rw [nk_hash w1 w2 k h.1, nk_hashes w1 w2 ks h.2]
end
theorem pair_val {rows : List NkRow} {xs : List (NestedKey × Addr × Value)} (r : Paired NkPair rows xs) (k : NestedKey) : RelO (valN rows k) ((atKey xs k).map (·.2)) := by
  unfold valN
  induction r with
  | nil => exact True.intro
  | @cons p q ps qs h t ih =>
    obtain ⟨h1, _, h3⟩ := h
    rw [List.map_cons]
    by_cases e : p.1 = k
    · have e2 : q.1 = k := h1.symm.trans e
      rw [valV_pos (p := (p.1, p.2.2)) e, show atKey (q :: qs) k = some q.2 by simp [atKey, List.find?_cons, e2]]
      exact h3
    · have e2 : ¬ q.1 = k := fun z => e (h1.trans z)
      rw [valV_neg (p := (p.1, p.2.2)) e, show atKey (q :: qs) k = atKey qs k by simp [atKey, List.find?_cons, e2]]
      exact ih
/-- where the object stands, its keys stand, too -/
theorem tdic (I : Inv X pins σ H s) {rows : List NkRow} (e : H a = some (TDic a rows)) (hk : ∀ p ∈ rows, NkR H p.1 (.ref p.2.1) ∧ nkOk p.1 = true) :
    (a == sysModules) = false ∧ rows.length ≤ sizeLine ∧ ∃ xs, Paired NkPair rows xs ∧ s.heap.DictOfH (nestedKind X.prog X.w) a xs := by
  obtain ⟨⟨hd, hl, P, ww, xs, pr, o, es, ep, h1, h2, h3, h4, h5⟩, _⟩ := I.hok a _ e
  refine ⟨hd, hl, xs, pr, o, es, ep, h1, h2, h3, ?_, ?_, h5⟩
  · rw [h4]
    refine List.map_congr_left fun x hx => ?_
    have ok : nkN x.1 = true := by
      have key : ∀ {rows : List NkRow} {xs : List (NestedKey × Addr × Value)}, Paired NkPair rows xs → (∀ p ∈ rows, nkOk p.1 = true) → ∀ x ∈ xs, nkOk x.1 = true := by
        intro rows xs pr
        induction pr with
        | nil => intro _ x hx; cases hx
        | @cons p q ps qs h t ih =>
          intro hp x hx
          rcases List.mem_cons.mp hx with rfl | hx
          · rw [← h.1]; exact hp p (by simp)
          · exact ih (fun p' h' => hp p' (by simp [h'])) x hx
      have z := key pr (fun p hp => (hk p hp).2) x hx
      have z : (nkN x.1 && decide (x.1.depth ≤ 8)) = true := z
      rw [Bool.and_eq_true] at z
      exact z.1
    show (⟨x.1.hash ww, .ref x.2.1, x.2.2⟩ : DictEntry) = ⟨x.1.hash X.w, .ref x.2.1, x.2.2⟩
    rw [nk_hash ww X.w x.1 ok]
  · have key : ∀ {rows : List NkRow} {xs : List (NestedKey × Addr × Value)}, Paired NkPair rows xs → (∀ p ∈ rows, NkR H p.1 (.ref p.2.1) ∧ nkOk p.1 = true) → ∀ x ∈ xs, (nestedKind X.prog X.w).is s.heap x.1 x.2.1 := by
      intro rows xs pr
      induction pr with
      | nil => intro _ x hx; cases hx
      | @cons p q ps qs h t ih =>
        intro hp x hx
        rcases List.mem_cons.mp hx with rfl | hx
        · obtain ⟨g1, g2⟩ := hp p (by simp)
          rw [← h.1, ← h.2.1]
          exact nk_key I g1 g2
        · exact ih (fun p' h' => hp p' (by simp [h'])) x hx
    exact key pr hk
theorem nk_room {A : Around} (hu : A.units + 64 < cLine) : (nestedKind X.prog X.w).room A.in1 := by
  show A.in1.units + 8 < cLine
  rw [Around.in1_units]
  omega
theorem empty_T (I : Inv X pins σ H s) (e : H a = some (.dK [])) : (a == sysModules) = false ∧ s.heap.DictOfH (nestedKind X.prog X.w) a [] := by
  obtain ⟨_, hd, vs, rel, ob, es, ep, h1, h2, h3, _, pr, _⟩ := dk_of I.hok e
  cases rel
  refine ⟨hd, ob, es, ep, h1, h2, h3, ?_, (fun x hx => by cases hx), List.nodup_nil⟩
  generalize hl : es.toList = l at pr
  cases pr
  rfl
theorem empty_K (I : Inv X pins σ H s) (e : H a = some (TDic a [])) : (a == sysModules) = false ∧ s.heap.DictOf (mixKind X.prog X.w) a [] := by
  obtain ⟨hd, _, xs, rel, ob, es, ep, h1, h2, h3, h4, _, _⟩ := tdic I e (fun p hp => by cases hp)
  cases rel
  have h4 : es.toList = [] := h4
  refine ⟨hd, ob, es, ep, h1, h2, h3, fun e he => ?_, by rw [h4]; exact .nil, List.nodup_nil⟩
  have : e ∈ es.toList := by simpa using he
  rw [h4] at this
  cases this
theorem relO_isSome {o : Option L2.V} {q : Option (Addr × Value)} (r : RelO o (q.map (·.2))) : q.isSome = o.isSome := by
  have := r.isSome_eq
  rw [Option.isSome_map] at this
  exact this.symm
theorem a_in {Q : Value → Shared → Prop} (hu : A.units + 64 < cLine) (I : Inv X pins σ H s) (g : Asked H a y o) (ry : RelV y u) (h : ∀ s', Inv X pins σ H s' → Q (.bool o.isSome) s') : wpAny (model X.prog X.w) A (compareOp .In u (.ref a)) Q E s := by
  cases g with
  | get ha ey => subst ey; exact d_in (by omega) I (DGet.k ha) ry h
  | tg ha ey nk ok hk =>
    subst ey
    cases (show u = Value.ref _ from ry)
    obtain ⟨hd, _, xs, pr, dd⟩ := tdic I ha hk
    refine wpAny_in_heap (nk_room hu) (nk_key I nk ok) hd dd ?_
    rw [relO_isSome (pair_val pr _)]
    exact h _ (I.tok _)
  | noT ea ey nk ok =>
    subst ey
    cases (show u = Value.ref _ from ry)
    obtain ⟨hd, dd⟩ := empty_T I ea
    exact wpAny_in_heap (nk_room hu) (nk_key I nk ok) hd dd (h _ (I.tok _))
  | noK ea ey =>
    subst ey
    obtain ⟨hd, dd⟩ := empty_K I ea
    exact wpAny_in_of (kV_is ry) hd dd.mapOf (h _ (I.tok _))
theorem a_notIn {Q : Value → Shared → Prop} (hu : A.units + 64 < cLine) (I : Inv X pins σ H s) (g : Asked H a y o) (ry : RelV y u) (h : ∀ s', Inv X pins σ H s' → Q (.bool (!o.isSome)) s') : wpAny (model X.prog X.w) A (compareOp .NotIn u (.ref a)) Q E s := by
  cases g with
  | get ha ey => subst ey; exact d_notIn (by omega) I (DGet.k ha) ry h
  | tg ha ey nk ok hk =>
    subst ey
    cases (show u = Value.ref _ from ry)
    obtain ⟨hd, _, xs, pr, dd⟩ := tdic I ha hk
    refine wpAny_notIn_heap (nk_room hu) (nk_key I nk ok) hd dd ?_
    rw [relO_isSome (pair_val pr _)]
    exact h _ (I.tok _)
  | noT ea ey nk ok =>
    subst ey
    cases (show u = Value.ref _ from ry)
    obtain ⟨hd, dd⟩ := empty_T I ea
    exact wpAny_notIn_heap (nk_room hu) (nk_key I nk ok) hd dd (h _ (I.tok _))
  | noK ea ey =>
    subst ey
    obtain ⟨hd, dd⟩ := empty_K I ea
    exact wpAny_notIn_of (kV_is ry) hd dd.mapOf (h _ (I.tok _))
theorem a_get1 {Q : Value → Shared → Prop} (hu : A.units + 64 < cLine) (I : Inv X pins σ H s) (g : Asked H a y o) (ry : RelV y u) (h : ∀ w' s', Inv X pins σ H s' → RelV (o.getD .non) w' → Q w' s') : wpAny (model X.prog X.w) A (call (.builtin "dict.get") [.ref a, u]) Q E s := by
  cases g with
  | get ha ey => subst ey; exact d_get1 (by omega) I (DGet.k ha) ry h
  | tg ha ey nk ok hk =>
    subst ey
    cases (show u = Value.ref _ from ry)
    obtain ⟨hd, _, xs, pr, dd⟩ := tdic I ha hk
    exact call_meetsIn PySem.F.slot_dict_get dd.typeIs PySem.F.entry_dict_get (PySem.F.args_dict_get_2 _ _) (meetsH_dict_get (nestedKind X.prog X.w) a _ hd) ⟨nk_room hu, _, _, nk_key I nk ok, dd, h _ _ (I.tok _) ((pair_val pr _).getD rfl)⟩
  | noT ea ey nk ok =>
    subst ey
    cases (show u = Value.ref _ from ry)
    obtain ⟨hd, dd⟩ := empty_T I ea
    exact call_meetsIn PySem.F.slot_dict_get dd.typeIs PySem.F.entry_dict_get (PySem.F.args_dict_get_2 _ _) (meetsH_dict_get (nestedKind X.prog X.w) a _ hd) ⟨nk_room hu, _, _, nk_key I nk ok, dd, h _ _ (I.tok _) rfl⟩
  | noK ea ey =>
    subst ey
    obtain ⟨hd, dd⟩ := empty_K I ea
    exact call_meetsIn PySem.F.slot_dict_get dd.typeIs PySem.F.entry_dict_get (PySem.F.args_dict_get_2 _ _) (meets_dict_get (mixKind X.prog X.w) a (kV_is ry) hd) ⟨_, dd.mapOf, h _ _ (I.tok _) rfl⟩
theorem a_get2 {Q : Value → Shared → Prop} (hu : A.units + 64 < cLine) (I : Inv X pins σ H s) (g : Asked H a y o) (ry : RelV y u) (rd : RelV d r) (h : ∀ w' s', Inv X pins σ H s' → RelV (o.getD d) w' → Q w' s') : wpAny (model X.prog X.w) A (call (.builtin "dict.get") [.ref a, u, r]) Q E s := by
  cases g with
  | get ha ey => subst ey; exact d_get2 (by omega) I (DGet.k ha) ry rd h
  | tg ha ey nk ok hk =>
    subst ey
    cases (show u = Value.ref _ from ry)
    obtain ⟨hd, _, xs, pr, dd⟩ := tdic I ha hk
    exact call_meetsIn PySem.F.slot_dict_get dd.typeIs PySem.F.entry_dict_get (PySem.F.args_dict_get_3 _ _ _) (meetsH_dict_get_default (nestedKind X.prog X.w) a _ hd r) ⟨nk_room hu, _, _, nk_key I nk ok, dd, h _ _ (I.tok _) ((pair_val pr _).getD rd)⟩
  | noT ea ey nk ok =>
    subst ey
    cases (show u = Value.ref _ from ry)
    obtain ⟨hd, dd⟩ := empty_T I ea
    exact call_meetsIn PySem.F.slot_dict_get dd.typeIs PySem.F.entry_dict_get (PySem.F.args_dict_get_3 _ _ _) (meetsH_dict_get_default (nestedKind X.prog X.w) a _ hd r) ⟨nk_room hu, _, _, nk_key I nk ok, dd, h _ _ (I.tok _) rd⟩
  | noK ea ey =>
    subst ey
    obtain ⟨hd, dd⟩ := empty_K I ea
    exact call_meetsIn PySem.F.slot_dict_get dd.typeIs PySem.F.entry_dict_get (PySem.F.args_dict_get_3 _ _ _) (meets_dict_get_default (mixKind X.prog X.w) a (kV_is ry) hd r) ⟨_, dd.mapOf, h _ _ (I.tok _) rd⟩
theorem asked_type (I : Inv X pins σ H s) (g : Asked H a y o) : s.TypeIs (.ref a) "dict" := by
  cases g with
  | @get kvs k ha ey => exact dict_typeIs I (DGet.k (k := k) ha)
  | tg ha ey nk ok hk => obtain ⟨_, _, xs, pr, dd⟩ := tdic I ha hk; exact dd.typeIs
  | noT ea ey nk ok => obtain ⟨hd, dd⟩ := empty_T I ea; exact dd.typeIs
  | noK ea ey => obtain ⟨hd, dd⟩ := empty_K I ea; exact dd.typeIs
/-- d[y], there -/
theorem a_getItem {v : L2.V} {Q : Value → Shared → Prop} (hu : A.units + 64 < cLine) (I : Inv X pins σ H s) (g : Asked H a y (some v)) (ry : RelV y u) (h : ∀ w' s', Inv X pins σ H s' → RelV v w' → Q w' s') : wpAny (model X.prog X.w) A (getItem (.ref a) u) Q E s := by
  generalize ho : some v = o at g
  cases g with
  | get ha ey => subst ey; exact d_getItem (by omega) I (by rw [ho]; exact DGet.k ha) ry h
  | tg ha ey nk ok hk =>
    subst ey
    cases (show u = Value.ref _ from ry)
    obtain ⟨hd, _, xs, pr, dd⟩ := tdic I ha hk
    obtain ⟨w', hw, rw'⟩ := RelO.some_of (v := v) (by rw [ho]; exact pair_val pr _)
    obtain ⟨p, hp, hp2⟩ := Option.map_eq_some_iff.mp hw
    refine wpAny_getItem_heap (nk_room hu) (nk_key I nk ok) dd hp ?_
    rw [hp2]
    exact h w' _ (I.tok _) rw'
  | noT => cases ho
  | noK => cases ho
/-- the rows, with one more told -/
def putN (rows : List NkRow) (k : NestedKey) (b : Addr) (v : L2.V) : List NkRow := if (rows.any fun p => decide (p.1 = k)) = true then rows.map (fun p => if p.1 = k then (p.1, p.2.1, v) else p) else rows ++ [(k, b, v)]
theorem putN_kv (rows : List NkRow) (k : NestedKey) (b : Addr) (v : L2.V) : (putN rows k b v).map (fun p => (p.1, p.2.2)) = putK (rows.map fun p => (p.1, p.2.2)) k v := by
  unfold putN putK
  rw [List.any_map]
  by_cases e : (rows.any fun p => decide (p.1 = k)) = true
  · rw [if_pos e, if_pos (show (rows.any ((fun kv : NestedKey × L2.V => decide (kv.1 = k)) ∘ fun p : NkRow => (p.1, p.2.2))) = true from e), List.map_map, List.map_map]
    refine List.map_congr_left fun p _ => ?_
    show (fun p : NkRow => (p.1, p.2.2)) (if p.1 = k then (p.1, p.2.1, v) else p) = if p.1 = k then (p.1, v) else (p.1, p.2.2)
    split <;> rfl
  · rw [if_neg e, if_neg (show ¬ (rows.any ((fun kv : NestedKey × L2.V => decide (kv.1 = k)) ∘ fun p : NkRow => (p.1, p.2.2))) = true from e), List.map_append]
    rfl
theorem putN_mem {rows : List NkRow} {k : NestedKey} {b : Addr} {v : L2.V} {p : NkRow} (h : p ∈ putN rows k b v) : (∃ q ∈ rows, p.1 = q.1 ∧ p.2.1 = q.2.1) ∨ (p.1 = k ∧ p.2.1 = b) := by
  unfold putN at h
  split at h
  · obtain ⟨q, hq, rfl⟩ := List.mem_map.mp h
    refine .inl ⟨q, hq, ?_⟩
    split <;> exact ⟨rfl, rfl⟩
  · rcases List.mem_append.mp h with h | h
    · exact .inl ⟨p, h, rfl, rfl⟩
    · rw [List.mem_singleton] at h; subst h; exact .inr ⟨rfl, rfl⟩
theorem putN_len (rows : List NkRow) (k : NestedKey) (b : Addr) (v : L2.V) : (putN rows k b v).length ≤ rows.length + 1 := by
  unfold putN
  split
  · rw [List.length_map]; omega
  · rw [List.length_append]; exact Nat.le_refl _
theorem pair_put {rows : List NkRow} {xs : List (NestedKey × Addr × Value)} (r : Paired NkPair rows xs) (k : NestedKey) (b : Addr) {v : L2.V} {u : Value} (rv : RelV v u) : Paired NkPair (putN rows k b v) (storedH xs k b u) := by
  have e : (rows.any fun p => decide (p.1 = k)) = (atKey xs k).isSome := by
    rw [relO_isSome (pair_val r k)]
    unfold valN
    rw [← valV_any, List.any_map]
    rfl
  unfold putN storedH
  rw [e]
  by_cases q : (atKey xs k).isSome = true
  · rw [if_pos q, if_pos q]
    clear e q
    induction r with
    | nil => exact .nil
    | @cons p q ps qs h t ih =>
      rw [List.map_cons, List.map_cons]
      refine .cons ?_ ih
      obtain ⟨h1, h2, h3⟩ := h
      unfold putAt
      by_cases e : p.1 = k
      · rw [if_pos e, if_pos (h1.symm.trans e)]; exact ⟨h1, h2, rv⟩
      · rw [if_neg e, if_neg (fun z => e (h1.trans z))]; exact ⟨h1, h2, h3⟩
  · rw [if_neg q, if_neg q]; exact Paired.snoc r ⟨rfl, rfl, rv⟩
/-- d[y] = v, y a tuple -/
theorem a_setItem {rows : List NkRow} {k : NestedKey} {b : Addr} {v : L2.V} {Q : Unit → Shared → Prop} (hu : A.units + 64 < cLine) (I : Inv X pins σ H s) (ha : H a = some (TDic a rows)) (nk : NkR H k (.ref b)) (ok : nkOk k = true) (hk : ∀ p ∈ rows, NkR H p.1 (.ref p.2.1) ∧ nkOk p.1 = true) (hl : rows.length < sizeLine) (rv : RelV v r)
    (h : ∀ s', Inv X pins σ (upd H a (TDic a (putN rows k b v))) s' → Q () s') : wpAny (model X.prog X.w) A (setItem (.ref a) (.ref b) r) Q E s := by
  obtain ⟨hd, _, xs, pr, dd⟩ := tdic I ha hk
  have hz : xs.length ≤ sizeLine := by rw [← Paired.length pr]; omega
  refine wpAny_setItem_heap (hsz := hz) (nk_room hu) (nk_key I nk ok) dd fun h' dd' hs => h _ ?_
  obtain ⟨q, es, ep, hq, h2, h3, h4, _, h5⟩ := dd'
  refine d_write I (by rw [ha]; exact True.intro) hs ⟨q, hq⟩ ⟨⟨hd, Nat.le_trans (putN_len _ _ _ _) hl, X.prog, X.w, _, pair_put pr k b rv, q, es, ep, hq, h2, h3, h4, h5⟩, ⟨q, hq⟩, fun h1 h2' ⟨z1, z2, P, ww, xs', z3, o', es', ep', z4, z5⟩ kk => ⟨z1, z2, P, ww, xs', z3, o', es', ep', kk _ z4, z5⟩⟩
theorem tdic_new (h : Heap) (hs : h.objs.size ≠ sysModules) (H : L2.Hp) : ObjOk X.prog X.w H (h.push { cls := .type "dict", data := .dict #[] }) h.objs.size (TDic h.objs.size []) := by
  obtain ⟨o, es, ep, h1, h2, h3, h4, _, h5⟩ := Heap.DictOfH.new (knd := nestedKind X.prog X.w) h
  exact ⟨⟨by simpa using hs, Nat.zero_le _, X.prog, X.w, [], .nil, o, es, ep, h1, h2, h3, h4, h5⟩, ⟨o, h1⟩, fun h1 h2' ⟨z1, z2, P, ww, xs', z3, o', es', ep', z4, z5⟩ kk => ⟨z1, z2, P, ww, xs', z3, o', es', ep', kk _ z4, z5⟩⟩
end
end Hb

/-! USE: plain rules for the meaning of texts. -/
namespace Hb
open PySem
set_option autoImplicit false
section
variable {chk : Hp → Prop} {body : V → Env → Hp → Nx → Kk → Prop} {env : Env} {h : Hp} {n : Nx} {k : Kk}
theorem forW_nil (hc : chk h) (q : n env h) : forW chk body [] env h n k := by rw [forW_eq]; exact ⟨hc, q⟩
theorem forW_cons {x : V} {r : List V} (hc : chk h) (q : body x env h (fun e h' => forW chk body r e h' n k) ⟨k.rt, n, fun e h' => forW chk body r e h' n k, k.xe⟩) : forW chk body (x :: r) env h n k := by rw [forW_eq] at q ⊢; exact ⟨hc, q⟩
end
section
variable {chk : Hp → Prop} {turn : V → Hp → (Option V → Hp → Prop) → Prop} {acc : List V} {h : Hp} {Q : List V → Hp → Prop}
theorem cmpW_nil (hc : chk h) (q : Q acc h) : cmpW chk turn [] acc h Q := by rw [cmpW_eq]; exact ⟨hc, q⟩
theorem cmpW_cons {x : V} {r : List V} (hc : chk h) (q : turn x h fun o h' => (match o with
    | some v => acc.length < big ∧ cmpW chk turn r (acc ++ [v]) h' Q
    | none => cmpW chk turn r acc h' Q)) : cmpW chk turn (x :: r) acc h Q := by rw [cmpW_eq] at q ⊢; exact ⟨hc, q⟩
end
section
variable {chk : Hp → Prop} {turn : V → List V → Hp → (List V → Hp → Prop) → Prop} {acc : List V} {h : Hp} {Q : List V → Hp → Prop}
theorem cmpW2_nil (hc : chk h) (q : Q acc h) : cmpW2 chk turn [] acc h Q := by rw [cmpW2_eq]; exact ⟨hc, q⟩
theorem cmpW2_cons {x : V} {r : List V} (hc : chk h) (q : turn x acc h fun acc' h' => cmpW2 chk turn r acc' h' Q) : cmpW2 chk turn (x :: r) acc h Q := by rw [cmpW2_eq] at q ⊢; exact ⟨hc, q⟩
end
/-- a loop by its invariant -/
theorem forW_inv {chk : Hp → Prop} {body : V → Env → Hp → Nx → Kk → Prop} {n : Nx} {k : Kk} (I : Nat → Env → Hp → Prop) :
    ∀ (xs : List V) (j : Nat) (env : Env) (h : Hp), I j env h → (∀ i e h, I i e h → chk h) →
    (∀ i e h x (nx : Nx), I i e h → (i = j → True) → x ∈ xs → (∀ e' h', I (i + 1) e' h' → nx e' h') → body x e h nx ⟨k.rt, n, nx, k.xe⟩) →
    (∀ e h, I (j + xs.length) e h → n e h) → forW chk body xs env h n k
  | [], j, env, h, h0, hc, _, fin => forW_nil (hc _ _ _ h0) (fin env h h0)
  | x :: xs, j, env, h, h0, hc, st, fin => by
    refine forW_cons (hc _ _ _ h0) (st j env h x _ h0 (fun _ => trivial) (by simp) fun e' h' hi => ?_)
    exact forW_inv I xs (j + 1) e' h' hi hc (fun i e h y nx hi _ hy q => st i e h y nx hi (fun _ => trivial) (by simp [hy]) q) fun e h hi => fin e h (by
      have : j + (x :: xs).length = j + 1 + xs.length := by simp only [List.length_cons]; omega
      rw [this]; exact hi)
/-- the same, the item by its place -/
theorem forW_at {chk : Hp → Prop} {body : V → Env → Hp → Nx → Kk → Prop} {n : Nx} {k : Kk} (I : List V → Env → Hp → Prop) :
    ∀ (xs : List V) (env : Env) (h : Hp), I xs env h → (∀ l e h, I l e h → chk h) →
    (∀ e h x l (nx : Nx), I (x :: l) e h → (∀ e' h', I l e' h' → nx e' h') → body x e h nx ⟨k.rt, n, nx, k.xe⟩) →
    (∀ e h, I [] e h → n e h) → forW chk body xs env h n k
  | [], env, h, h0, hc, _, fin => forW_nil (hc _ _ _ h0) (fin env h h0)
  | x :: xs, env, h, h0, hc, st, fin => forW_cons (hc _ _ _ h0) (st env h x xs _ h0 fun e' h' hi => forW_at I xs e' h' hi hc st fin)
/-- a comprehension that leaves the heap: item by item -/
theorem cmpW_map {chk : Hp → Prop} {turn : V → Hp → (Option V → Hp → Prop) → Prop} {h : Hp} {Q : List V → Hp → Prop} (f : V → V) (hc : chk h) :
    ∀ (xs acc : List V), (∀ x ∈ xs, ∀ Q', Q' (some (f x)) h → turn x h Q') → acc.length + xs.length ≤ big → Q (acc ++ xs.map f) h → cmpW chk turn xs acc h Q
  | [], acc, _, _, q => cmpW_nil hc (by rw [List.map_nil, List.append_nil] at q; exact q)
  | x :: xs, acc, ht, hl, q => by
    refine cmpW_cons hc (ht x (by simp) _ ?_)
    simp only [List.length_cons] at hl
    refine ⟨by omega, cmpW_map f hc xs (acc ++ [f x]) (fun y hy => ht y (by simp [hy])) (by simp only [List.length_append, List.length_cons, List.length_nil]; omega) ?_⟩
    rw [List.append_assoc]
    exact q
/-- a comprehension by its invariant: what is left, what is made, the heap -/
theorem cmpW_at {chk : Hp → Prop} {turn : V → Hp → (Option V → Hp → Prop) → Prop} {Q : List V → Hp → Prop} (I : List V → List V → Hp → Prop) :
    ∀ (xs acc : List V) (h : Hp), I xs acc h → (∀ l acc h, I l acc h → chk h ∧ acc.length < big) →
    (∀ x l acc h (Q' : Option V → Hp → Prop), I (x :: l) acc h → (∀ v h', I l (acc ++ [v]) h' → Q' (some v) h') → (∀ h', I l acc h' → Q' none h') → turn x h Q') →
    (∀ acc h, I [] acc h → Q acc h) → cmpW chk turn xs acc h Q
  | [], acc, h, h0, hc, _, fin => cmpW_nil (hc _ _ _ h0).1 (fin acc h h0)
  | x :: xs, acc, h, h0, hc, st, fin => cmpW_cons (hc _ _ _ h0).1 (st x xs acc h _ h0 (fun v h' hi => ⟨(hc _ _ _ h0).2, cmpW_at I xs (acc ++ [v]) h' hi hc st fin⟩) fun h' hi => cmpW_at I xs acc h' hi hc st fin)
/-- .. with a test -/
theorem cmpW_fm {chk : Hp → Prop} {turn : V → Hp → (Option V → Hp → Prop) → Prop} {h : Hp} {Q : List V → Hp → Prop} (f : V → Option V) (hc : chk h) :
    ∀ (xs acc : List V), (∀ x ∈ xs, ∀ Q', Q' (f x) h → turn x h Q') → acc.length + xs.length ≤ big → Q (acc ++ xs.filterMap f) h → cmpW chk turn xs acc h Q
  | [], acc, _, _, q => cmpW_nil hc (by rw [List.filterMap_nil, List.append_nil] at q; exact q)
  | x :: xs, acc, ht, hl, q => by
    refine cmpW_cons hc (ht x (by simp) _ ?_)
    simp only [List.length_cons] at hl
    rw [List.filterMap_cons] at q
    cases e : f x with
    | none =>
      rw [e] at q
      exact cmpW_fm f hc xs acc (fun y hy => ht y (by simp [hy])) (by omega) q
    | some v =>
      rw [e] at q
      refine ⟨by omega, cmpW_fm f hc xs (acc ++ [v]) (fun y hy => ht y (by simp [hy])) (by simp only [List.length_append, List.length_cons, List.length_nil]; omega) ?_⟩
      rw [List.append_assoc]
      exact q
theorem cmpW_d {chk : Hp → Prop} {turn : V → Hp → (Option V → Hp → Prop) → Prop} {h : Hp} {Q : List V → Hp → Prop} (g : D → D) (hc : chk h) (ts : List D) (ht : ∀ x ∈ ts, ∀ Q', Q' (some (.d (g x))) h → turn (.d x) h Q') (hl : ts.length ≤ big) (q : Q ((ts.map g).map V.d) h) :
    cmpW chk turn (ts.map V.d) [] h Q := by
  refine cmpW_map (fun v => match v with | .d x => .d (g x) | v => v) hc _ _ (fun x hx => ?_) (by rw [List.length_map]; simpa using hl) ?_
  · obtain ⟨d, hd, rfl⟩ := List.mem_map.mp hx
    exact ht d hd
  · rw [List.nil_append, List.map_map]
    rw [List.map_map] at q
    exact q
theorem cmpW_fd {chk : Hp → Prop} {turn : V → Hp → (Option V → Hp → Prop) → Prop} {h : Hp} {Q : List V → Hp → Prop} (g : D → Option D) (hc : chk h) (ts : List D) (ht : ∀ x ∈ ts, ∀ Q', Q' ((g x).map V.d) h → turn (.d x) h Q') (hl : ts.length ≤ big) (q : Q ((ts.filterMap g).map V.d) h) :
    cmpW chk turn (ts.map V.d) [] h Q := by
  refine cmpW_fm (fun v => match v with | .d x => (g x).map V.d | v => none) hc _ _ (fun x hx => ?_) (by rw [List.length_map]; simpa using hl) ?_
  · obtain ⟨d, hd, rfl⟩ := List.mem_map.mp hx
    exact ht d hd
  · rw [List.nil_append, List.filterMap_map]
    rw [List.map_filterMap] at q
    exact q
theorem zipD_mem : ∀ {xs ys : List D} {v : V}, v ∈ zipD xs ys → ∃ a b, a ∈ xs ∧ b ∈ ys ∧ v = .d (.tuple [a, b])
  | [], _, v, h => by cases h
  | _ :: _, [], v, h => by cases h
  | x :: xs, y :: ys, v, h => by
    rcases List.mem_cons.mp h with rfl | h
    · exact ⟨x, y, by simp, by simp, rfl⟩
    · obtain ⟨a, b, h1, h2, e⟩ := zipD_mem h
      exact ⟨a, b, by simp [h1], by simp [h2], e⟩
theorem zipD_le : ∀ (xs ys : List D), (zipD xs ys).length ≤ xs.length
  | [], _ => Nat.le_refl _
  | _ :: _, [] => Nat.zero_le _
  | _ :: xs, _ :: ys => Nat.succ_le_succ (zipD_le xs ys)
theorem cut_lo {α : Type} (ts : List α) (k : Nat) : cutD ts (some (k : Int)) none = ts.drop k := by
  unfold cutD
  rw [HT.sIx_nat, HT.sIx_none]
  rcases Nat.le_total k ts.length with h | h
  · rw [Nat.min_eq_left h]
    exact List.take_of_length_le (by rw [List.length_drop]; exact Nat.le_refl _)
  · rw [Nat.min_eq_right h, List.drop_length, List.drop_of_length_le h]
    simp
theorem cut_hi {α : Type} (ts : List α) (k : Nat) : cutD ts none (some (k : Int)) = ts.take k := by
  unfold cutD
  rw [HT.sIx_nat, HT.sIx_none, List.drop_zero, Nat.sub_zero]
  rcases Nat.le_total k ts.length with h | h
  · rw [Nat.min_eq_left h]
  · rw [Nat.min_eq_right h, List.take_length, List.take_of_length_le h]
theorem allD_map' (ds : List D) : allD (ds.map V.d) = some ds := by
  induction ds with
  | nil => rfl
  | cons d ds ih => show (allD (ds.map V.d)).map (d :: ·) = _; rw [ih]; rfl
theorem mkTup_d (ds : List D) : mkTup (ds.map V.d) = .d (.tuple ds) := by unfold mkTup; rw [allD_map']
theorem mkL_d {ds : List D} {h : Hp} {P : Pv} (q : P (.d (.list ds)) h) : mkL false (ds.map V.d) h P := by
  show optP (allD (ds.map V.d)) _
  rw [allD_map']
  exact q
theorem asInts_of (ns : List Int) : asInts (ns.map PyData.int) = some ns := by
  induction ns with
  | nil => rfl
  | cons d ds ih => show (asInts (ds.map PyData.int)).map (d :: ·) = _; rw [ih]; rfl
theorem asBools_of (ns : List Bool) : asBools (ns.map PyData.bool) = some ns := by
  induction ns with
  | nil => rfl
  | cons d ds ih => show (asBools (ds.map PyData.bool)).map (d :: ·) = _; rw [ih]; rfl
/-! ### calls -/
section
variable {FT : List FnI} {n g : Nat} {fn : FnI} {h : Hp} {P : Pv} {X : Px}
theorem callN_iso {args : List V} {h0 : Hp} (e : FT[g]? = some fn) (hm : fn.md = 0) (hl : args.length = fn.np) (ha : args.all argOk = true) (hn : (cellsOf args).Nodup) (hi : isoIn h (cellsOf args) = some h0)
    (hb : runB (callN FT n) fn (renum 0 args) h0 (fun v h1 => isoOut h (cellsOf args) v h1 P) (fun v h1 => isoOut h (cellsOf args) v h1 X)) : callN FT (n + 1) g args h P X := by
  show optP FT[g]? _
  rw [e]
  refine ⟨hl, ?_⟩
  rw [hm]
  refine ⟨ha, hn, ?_⟩
  rw [hi]
  exact hb
/-- the arguments are data -/
theorem callN_d {ds : List D} (e : FT[g]? = some fn) (hm : fn.md = 0) (hl : ds.length = fn.np)
    (hb : runB (callN FT n) fn (ds.map V.d) [] (fun v h1 => isoOut h [] v h1 P) (fun v h1 => isoOut h [] v h1 X)) : callN FT (n + 1) g (ds.map V.d) h P X := by
  have c : cellsOf (ds.map V.d) = [] := by
    clear hl hb
    induction ds with
    | nil => rfl
    | cons d ds ih => exact ih
  have r : ∀ k, renum k (ds.map V.d) = ds.map V.d := by
    clear hl hb c
    induction ds with
    | nil => intro k; rfl
    | cons d ds ih => intro k; show V.d d :: renum k (ds.map V.d) = _; rw [ih]; rfl
  refine callN_iso e hm (by rw [List.length_map]; exact hl) ?_ (by rw [c]; exact List.nodup_nil) (by rw [c]; rfl) (by rw [c, r]; exact hb)
  rw [List.all_eq_true]
  intro v hv
  obtain ⟨d, _, rfl⟩ := List.mem_map.mp hv
  rfl
/-- the first argument is a cell with a list, the others are data -/
theorem callN_c {ds : List D} {k : Nat} {xs : List D} (e : FT[g]? = some fn) (hm : fn.md = 0) (hl : ds.length + 1 = fn.np) (hk : h[k]? = some (.lst xs))
    (hb : runB (callN FT n) fn (.cell 0 :: ds.map V.d) [.lst xs] (fun v h1 => isoOut h [k] v h1 P) (fun v h1 => isoOut h [k] v h1 X)) : callN FT (n + 1) g (.cell k :: ds.map V.d) h P X := by
  have c : cellsOf (ds.map V.d) = [] := by
    clear hl hb
    induction ds with
    | nil => rfl
    | cons d ds ih => exact ih
  have r : ∀ k, renum k (ds.map V.d) = ds.map V.d := by
    clear hl hb c
    induction ds with
    | nil => intro k; rfl
    | cons d ds ih => intro k; show V.d d :: renum k (ds.map V.d) = _; rw [ih]; rfl
  have c2 : cellsOf (V.cell k :: ds.map V.d) = [k] := by show k :: cellsOf (ds.map V.d) = _; rw [c]
  refine callN_iso e hm (by show (ds.map V.d).length + 1 = _; rw [List.length_map]; exact hl) ?_ (by rw [c2]; simp) (h0 := [.lst xs]) ?_ ?_
  · show (true && (ds.map V.d).all argOk) = true
    rw [Bool.true_and, List.all_eq_true]
    intro v hv
    obtain ⟨d, _, rfl⟩ := List.mem_map.mp hv
    rfl
  · rw [c2]
    unfold isoIn
    simp only [hk]
    rfl
  · rw [c2]
    show runB (callN FT n) fn (V.cell 0 :: renum 1 (ds.map V.d)) [.lst xs] _ _
    rw [r]
    exact hb
end
/-! ### items -/
theorem atI_nn {α : Type} {xs : List α} {v : Int} (h0 : 0 ≤ v) (h1 : v < xs.length) : ∃ x, xs[v.toNat]? = some x ∧ L2.atI xs v = some x := by
  have hl : v.toNat < xs.length := by omega
  refine ⟨xs[v.toNat], List.getElem?_eq_getElem hl, ?_⟩
  unfold L2.atI L2.ixN
  rw [if_pos h0, if_pos h1]
  exact List.getElem?_eq_getElem hl
theorem optP_at {α : Type} {xs : List α} {v : Int} {Q : α → Prop} (h0 : 0 ≤ v) (h1 : v < xs.length) (q : ∀ x ∈ xs, Q x) : optP (L2.atI xs v) Q := by
  obtain ⟨x, e1, e2⟩ := atI_nn h0 h1
  rw [e2]
  exact q x (List.mem_of_getElem? e1)
theorem optP_ix {α : Type} {xs : List α} {v : Int} {Q : α → Prop} (h0 : 0 ≤ v) (h1 : v < xs.length) (q : ∀ x, xs[v.toNat]? = some x → Q x) : optP (L2.atI xs v) Q := by
  obtain ⟨x, e1, e2⟩ := atI_nn h0 h1
  rw [e2]
  exact q x e1
theorem cut_len {α : Type} (xs : List α) (lo hi : Option Int) : (cutD xs lo hi).length ≤ xs.length := by
  unfold cutD
  rw [List.length_take, List.length_drop]
  omega
theorem cut_mem {α : Type} {xs : List α} {lo hi : Option Int} {x : α} (h : x ∈ cutD xs lo hi) : x ∈ xs := List.mem_of_mem_drop (List.mem_of_mem_take h)
theorem ranI_mem : ∀ {n : Nat} {lo : Int} {x : D}, x ∈ ranI lo n → ∃ i, x = .int i ∧ lo ≤ i ∧ i < lo + n
  | 0, lo, x, h => by cases h
  | n + 1, lo, x, h => by
    rcases List.mem_cons.mp h with rfl | h
    · exact ⟨lo, rfl, by omega, by omega⟩
    · obtain ⟨i, e, h1, h2⟩ := ranI_mem h
      exact ⟨i, e, by omega, by omega⟩
theorem ranI_length : ∀ (lo : Int) (n : Nat), (ranI lo n).length = n
  | _, 0 => rfl
  | lo, n + 1 => by show (ranI (lo + 1) n).length + 1 = n + 1; rw [ranI_length]
theorem enumD_mem : ∀ {xs : List D} {k : Int} {v : V}, v ∈ enumD k xs → ∃ i x, v = .d (.tuple [.int i, x]) ∧ x ∈ xs ∧ k ≤ i ∧ i < k + xs.length
  | [], k, v, h => by cases h
  | x :: xs, k, v, h => by
    rcases List.mem_cons.mp h with rfl | h
    · exact ⟨k, x, rfl, by simp, by omega, by simp only [List.length_cons]; omega⟩
    · obtain ⟨i, y, e, h1, h2, h3⟩ := enumD_mem h
      exact ⟨i, y, e, by simp [h1], by omega, by simp only [List.length_cons]; omega⟩
/-! ### numbers -/
theorem lt4000 {i : Int} (h : i.natAbs < 2 ^ 250) : i.natAbs < 2 ^ 4000 := Nat.lt_of_lt_of_le h (Nat.pow_le_pow_right (by omega) (by omega))
theorem ilt4000 {i : Int} (h : i < 2 ^ 250) : i < 2 ^ 4000 := by
  have e : ((2 : Int) ^ 4000) = ((2 ^ 4000 : Nat) : Int) := by norm_cast
  have e2 : ((2 : Int) ^ 250) = ((2 ^ 250 : Nat) : Int) := by norm_cast
  have : (2 : Nat) ^ 250 ≤ 2 ^ 4000 := Nat.pow_le_pow_right (by omega) (by omega)
  rw [e]
  rw [e2] at h
  omega
theorem and_mod {i j : Int} {Q : D → Prop} (hj : 0 < j) (h : ∀ s, 0 ≤ s → s < j → Q (.int s)) : 0 < j ∧ Q (.int (i % j)) := ⟨hj, h _ (Int.emod_nonneg _ (by omega)) (Int.emod_lt_of_pos _ hj)⟩
theorem and_div {i j : Int} {Q : D → Prop} (hj : 0 < j) (hj2 : j < 2 ^ 250) (h : ∀ s, s = i / j → Q (.int s)) : (0 < j ∧ j < 2 ^ 4000) ∧ Q (.int (i / j)) := ⟨⟨hj, ilt4000 hj2⟩, h _ rfl⟩
theorem and_int {C : Prop} {x : Int} {Q : D → Prop} (hc : C) (h : ∀ s, s = x → Q (.int s)) : C ∧ Q (.int x) := ⟨hc, h _ rfl⟩
theorem okMul_l {i j : Int} (h : i.natAbs < 2 ^ 64) : okMul i j := .inl h
theorem okMul_r {i j : Int} (h : j.natAbs < 2 ^ 64) : okMul i j := .inr (.inl h)
theorem okMul_b {i j : Int} (h : i.natAbs < 2 ^ 250) (h' : j.natAbs < 2 ^ 250) : okMul i j := .inr (.inr (.inl ⟨lt4000 h, lt4000 h'⟩))
theorem okMul_h {i j : Int} (h : hugeOk i) (h' : j.natAbs < 2 ^ 250) : okMul i j := .inr (.inr (.inr ⟨h, lt4000 h'⟩))
end Hb

/-! SHP: data that can be compared. -/
namespace Hb
open PySem
set_option autoImplicit false
def tupI (w : List Int) : D := .tuple (w.map PyData.int)
/-! ### data that can be compared -/
theorem canLay_ints : ∀ w : List Int, PyData.canLayAll0 (w.map PyData.int) = true
  | [] => rfl
  | _ :: w => by show (true && PyData.canLayAll0 (w.map PyData.int)) = true; rw [canLay_ints w]; rfl
theorem depth_ints : ∀ w : List Int, PyData.depthAll (w.map PyData.int) ≤ 1
  | [] => Nat.le_of_ble_eq_true rfl
  | a :: w => by
    have := depth_ints w
    show max (PyData.depth (.int a)) (PyData.depthAll (w.map PyData.int)) ≤ 1
    have e : PyData.depth (.int a) ≤ 1 := Nat.le_of_ble_eq_true rfl
    omega
theorem shp_tupI (w : List Int) : shp (tupI w) := by
  show (PyData.canLayAll0 (w.map PyData.int) && decide (PyData.depthAll (w.map PyData.int) + 1 ≤ 64)) = true
  rw [canLay_ints, decide_eq_true (by have := depth_ints w; omega)]
  rfl
theorem canLay_all {xs : List D} (h : ∀ x ∈ xs, PyData.canLay0 x = true) : PyData.canLayAll0 xs = true := by
  induction xs with
  | nil => rfl
  | cons x xs ih =>
    show (PyData.canLay0 x && PyData.canLayAll0 xs) = true
    rw [h x (by simp), ih fun y hy => h y (by simp [hy])]
    rfl
theorem depth_all {xs : List D} {k : Nat} (h : ∀ x ∈ xs, PyData.depth x ≤ k) : PyData.depthAll xs ≤ k := by
  induction xs with
  | nil => exact Nat.zero_le _
  | cons x xs ih =>
    show max (PyData.depth x) (PyData.depthAll xs) ≤ k
    exact Nat.max_le.mpr ⟨h x (by simp), ih fun y hy => h y (by simp [hy])⟩
/-- small depth -/
def shk (k : Nat) (x : D) : Prop := PyData.canLay0 x = true ∧ PyData.depth x ≤ k
theorem shk.shp {k : Nat} {x : D} (h : shk k x) (hk : k ≤ 64) : shp x := by
  show (PyData.canLay0 x && decide (PyData.depth x ≤ 64)) = true
  rw [h.1, decide_eq_true (Nat.le_trans h.2 hk)]
  rfl
theorem shk.mono {k k' : Nat} {x : D} (h : shk k x) (hk : k ≤ k') : shk k' x := ⟨h.1, Nat.le_trans h.2 hk⟩
theorem shk_int (i : Int) : shk 1 (.int i) := ⟨rfl, Nat.le_of_ble_eq_true rfl⟩
theorem shk_tup {k : Nat} {xs : List D} (h : ∀ x ∈ xs, shk k x) : shk (k + 1) (.tuple xs) := ⟨canLay_all fun x hx => (h x hx).1, by show PyData.depthAll xs + 1 ≤ k + 1; exact Nat.succ_le_succ (depth_all fun x hx => (h x hx).2)⟩
theorem shk_lst {k : Nat} {xs : List D} (h : ∀ x ∈ xs, shk k x) : shk (k + 1) (.list xs) := ⟨canLay_all fun x hx => (h x hx).1, by show PyData.depthAll xs + 1 ≤ k + 1; exact Nat.succ_le_succ (depth_all fun x hx => (h x hx).2)⟩
theorem shk_tupI (w : List Int) : shk 2 (tupI w) := shk_tup fun x hx => by
  obtain ⟨i, _, rfl⟩ := List.mem_map.mp hx
  exact shk_int i
theorem shk_prD (p : Int × Int) : shk 2 (prD p) := shk_tupI [p.1, p.2]
theorem shk_prs (T : List (Int × Int)) : shk 3 (.tuple (T.map prD)) := shk_tup fun x hx => by
  obtain ⟨p, _, rfl⟩ := List.mem_map.mp hx
  exact shk_prD p
theorem eqv_int (i j : Int) : PyData.eqv (.int i) (.int j) = decide (i = j) := by
  show (i == j) = decide (i = j)
  by_cases h : i = j
  · rw [decide_eq_true h]; exact beq_iff_eq.mpr h
  · rw [decide_eq_false h]; exact beq_eq_false_iff_ne.mpr h
theorem eqv_ints : ∀ u w : List Int, PyData.eqvAll (u.map PyData.int) (w.map PyData.int) = decide (u = w)
  | [], [] => rfl
  | [], _ :: _ => rfl
  | _ :: _, [] => rfl
  | a :: u, b :: w => by
    show (PyData.eqv (.int a) (.int b) && PyData.eqvAll (u.map PyData.int) (w.map PyData.int)) = _
    rw [eqv_int, eqv_ints u w]
    by_cases h1 : a = b
    · subst h1
      by_cases h2 : u = w
      · subst h2; simp
      · rw [decide_eq_false h2, decide_eq_false (fun z => h2 (List.cons.inj z).2)]; simp
    · rw [decide_eq_false h1, decide_eq_false (fun z => h1 (List.cons.inj z).1)]; rfl
theorem eqv_tupI (u w : List Int) : PyData.eqv (tupI u) (tupI w) = decide (u = w) := eqv_ints u w
theorem eqv_prD (p q : Int × Int) : PyData.eqv (prD p) (prD q) = decide (p = q) := by
  have := eqv_tupI [p.1, p.2] [q.1, q.2]
  show PyData.eqv (tupI [p.1, p.2]) (tupI [q.1, q.2]) = _
  rw [this]
  by_cases h : p = q
  · subst h; simp
  · rw [decide_eq_false h, decide_eq_false]
    intro z
    simp at z
    exact h (Prod.ext z.1 z.2)
theorem any_int (w : List Int) (p : Int) : (w.map PyData.int).any (fun z => PyData.eqv z (.int p)) = decide (p ∈ w) := by
  induction w with
  | nil => rfl
  | cons a w ih =>
    rw [List.map_cons, List.any_cons, ih, eqv_int]
    by_cases h1 : a = p
    · subst h1; simp
    · rw [decide_eq_false h1, Bool.false_or]
      by_cases h2 : p ∈ w
      · rw [decide_eq_true h2, decide_eq_true (by simp [h2])]
      · rw [decide_eq_false h2, decide_eq_false (by simp [h2]; exact fun z => h1 z.symm)]
theorem any_pr (T : List (Int × Int)) (p : Int × Int) : (T.map prD).any (fun z => PyData.eqv z (prD p)) = decide (p ∈ T) := by
  induction T with
  | nil => rfl
  | cons a w ih =>
    rw [List.map_cons, List.any_cons, ih, eqv_prD]
    by_cases h1 : a = p
    · subst h1; simp
    · rw [decide_eq_false h1, Bool.false_or]
      by_cases h2 : p ∈ w
      · rw [decide_eq_true h2, decide_eq_true (by simp [h2])]
      · rw [decide_eq_false h2, decide_eq_false (by simp [h2]; exact fun z => h1 z.symm)]
theorem lexLt_lt : ∀ a b : List Int, HT.lexLt a b = decide (a < b)
  | [], [] => rfl
  | [], y :: ys => by rw [HT.lexLt_nil_cons]; simp
  | x :: xs, [] => by rw [HT.lexLt_cons_nil]; simp
  | x :: xs, y :: ys => by
    rw [HT.lexLt_cons, lexLt_lt xs ys]
    by_cases e : x = y
    · subst e
      rw [if_pos rfl]
      simp [List.cons_lt_cons_iff]
    · rw [if_neg e]
      simp [List.cons_lt_cons_iff, e]
end Hb

/-! PRIM: the operations on data, against the model. -/
namespace Hb
open PySem PySem.Spec PyProof.Rows
open L2 hiding V Hp St
set_option autoImplicit false

def seqO : HO → Bool
  | .lst _ => true
  | .frz _ (.tup _) => true
  | _ => false
/-- what may come out of an operation: an old value, or one new object -/
def Out (K : PySem.W.Frag) (G H : L2.Hp) (P : D → Prop) (Q : VK) : Prop :=
  (∀ z u, P z → Rp K G z u → Q u H) ∧ (∀ z p o, P z → H p = none → seqO o = true → (Sub G (upd G p o) → Rp K (upd G p o) z (.ref p)) → Q (.ref p) (upd H p o))
def rD1 (K : PySem.W.Frag) (o : D → (D → Prop) → Prop) : L2.V → L2.Hp → VK → Prop := fun x H Q => ∃ G d P, Sub G H ∧ Rt K G H d x ∧ o d P ∧ Out K G H P Q
def rD2 (K : PySem.W.Frag) (o : D → D → (D → Prop) → Prop) : R2 := fun x y H Q => ∃ G d1 d2 P, Sub G H ∧ Rt K G H d1 x ∧ Rt K G H d2 y ∧ o d1 d2 P ∧ Out K G H P Q
section
variable {X : Cx} {w : Wo}
theorem opr_imp {f : Value → Value → Sem Value} {r r' : R2} (h : OpR X f r) (i : ∀ x y H Q, r' x y H Q → r x y H Q) : OpR X f r' := fun pins s σ H x y v u Q I rx ry q => h pins s σ H x y v u Q I rx ry (i x y H Q q)
theorem callr_imp {f : Value} {r r' : List L2.V → L2.Hp → VK → Prop} (h : CallR X f r) (i : ∀ xs H Q, r' xs H Q → r xs H Q) : CallR X f r' := fun pins s σ H xs us Q I rx q => h pins s σ H xs us Q I rx (i xs H Q q)
theorem unr_imp {f : Value → Sem Value} {r r' : L2.V → L2.Hp → VK → Prop} (h : UnR X f r) (i : ∀ xs H Q, r' xs H Q → r xs H Q) : UnR X f r' := fun pins s σ H xs us Q I rx q => h pins s σ H xs us Q I rx (i xs H Q q)
theorem out_of {f : L2.Hp} {r : List Addr} {G H : L2.Hp} {h : Hp} {P : V → Prop} {Q : VK} (S : Sim w f r G h H) (q : ∀ z u r' G' H', P z → Ext r G r' G' → Sim w f r' G' h H' → Rv w r' G' z u → Q u H') : Out w.K G H (fun z => P (.d z)) Q :=
  ⟨fun z u pz rz => q (.d z) u r G H pz Ext.refl S rz, fun z p o pz hp ho rz => by
    obtain ⟨S2, e2⟩ := S.lay hp o (fun b z => by subst z; cases ho)
    exact q (.d z) (.ref p) r _ _ pz e2 S2 (rz e2.sub)⟩
theorem r2_of {o : O2} {x y : L2.V} {H : L2.Hp} {Q : VK} (ho : ∀ h x y (P : V → Prop), o2V o h x y P → optP (rdV h x) fun a => optP (rdV h y) fun b => op2 o a b fun z => P (.d z)) (h : rO2 w (o2V o) x y H Q) : rD2 w.K (op2 o) x y H Q := by
  obtain ⟨f, r, G, h, v1, v2, P, S, r1, r2, wp, q⟩ := h
  obtain ⟨d1, e1, wp⟩ := optP_of (ho _ _ _ _ wp)
  obtain ⟨d2, e2, wp⟩ := optP_of wp
  exact ⟨G, d1, d2, _, S.sub, S.read r1 e1, S.read r2 e2, wp, out_of S q⟩
theorem r1_of {o : O1} {x : L2.V} {H : L2.Hp} {Q : VK} (ho : ∀ h x (P : V → Prop), o1V o h x P → optP (rdV h x) fun a => op1 o a fun z => P (.d z)) (h : rO1 w (o1V o) x H Q) : rD1 w.K (op1 o) x H Q := by
  obtain ⟨f, r, G, h, v1, P, S, r1, wp, q⟩ := h
  obtain ⟨d1, e1, wp⟩ := optP_of (ho _ _ _ wp)
  exact ⟨G, d1, _, S.sub, S.read r1 e1, wp, out_of S q⟩

/-! ### lists as objects -/
variable {pins : List (Addr × Obj)} {s : Shared} {σ : Sg} {H : L2.Hp}
abbrev call_fin (vs : List Value) (n : Nat) : Array Value := List.foldl (fun x1 x2 => x1 ++ x2) #[] (List.replicate n vs.toArray)
def rCatL (K : PySem.W.Frag) : R2 := fun x y H Q => ∃ l b xs zs, x = .ref l ∧ y = .ref b ∧ LqL K H l xs ∧ LqL K H b zs ∧ xs.length + zs.length ≤ sizeLine ∧ ∀ p, H p = none → Q (.ref p) (upd H p (.lst (xs ++ zs)))
theorem op_catL : OpR X (binaryOp .Add) (rCatL X.K) := by
  intro pins s σ H x y v u Q I rx ry h
  obtain ⟨l, b, xs, zs, rfl, rfl, hH, hB, hz, q⟩ := h
  cases rx
  cases ry
  obtain ⟨its, n, r1, e, _⟩ := inv_lq I hH
  obtain ⟨its2, n2, r2, e2, _⟩ := inv_lq I hB
  have l1 := r1.length
  have l2 := r2.length
  refine PySem.P.add_list e e2 ?_ (by rw [List.size_toArray, List.size_toArray]; omega)
  have ea : its.toArray ++ its2.toArray = (its ++ its2).toArray := by simp
  rw [ea]
  exact ⟨.ref _, _, I.lnew (t' := s.toks) (r1.append r2) (by rw [List.length_append]; exact hz), rfl, q _ I.fresh⟩
/-- t + u: one of them is told itself where the other one is empty -/
def rCatP (K : PySem.W.Frag) : R2 := fun x y H Q => ∃ a b xs ys, x = .ref a ∧ y = .ref b ∧ SqT K H a xs ∧ SqT K H b ys ∧ xs.length + ys.length ≤ sizeLine ∧ (xs = [] → Q (.ref b) H) ∧ (xs ≠ [] → ys = [] → Q (.ref a) H) ∧ (xs ≠ [] → ys ≠ [] → NewT H (xs ++ ys) Q)
theorem op_catP : OpR X (binaryOp .Add) (rCatP X.K) := by
  intro pins s σ H x y v u Q I rx ry ⟨a, b, xs, ys, e1, e2, ha, hb, hz, q0, q1, q2⟩
  by_cases hx : xs = []
  · exact op_catA pins s σ H x y v u Q I rx ry ⟨a, b, xs, ys, e1, e2, ha, hb, hz, q0, q1, fun z => absurd hx z⟩
  by_cases hy : ys = []
  · exact op_catA pins s σ H x y v u Q I rx ry ⟨a, b, xs, ys, e1, e2, ha, hb, hz, q0, q1, fun _ z => absurd hy z⟩
  subst e1 e2
  cases rx
  cases ry
  obtain ⟨vs, r1, p1, _⟩ := I.tuple ha
  obtain ⟨ws, r2, p2, _⟩ := I.tuple hb
  refine HT.cat_tup p1 p2 (fun z => hx (r1.nil_iff.mp z)) (fun z => absurd (r2.nil_iff.mp z) hy) (fun _ => ?_) (by rw [← r1.length, ← r2.length]; exact hz)
  obtain ⟨I2, hf⟩ := inv_newT (t' := s.toks) I (r1.append r2) (by rw [List.length_append]; exact hz)
  exact ⟨.ref s.heap.objs.size, _, I2, rfl, q2 hx hy _ _ hf rfl⟩
/-- t * k -/
def rRepP (K : PySem.W.Frag) : R2 := fun x y H Q => ∃ a j xs, x = .ref a ∧ y = .int j ∧ SqT K H a xs ∧ xs ≠ [] ∧ 2 ≤ j ∧ j ≤ 1000 ∧ xs.length ≤ 1000 ∧ NewT H (List.replicate j.toNat xs).flatten Q
theorem op_repP : OpR X (binaryOp .Mult) (rRepP X.K) := by
  intro pins s σ H x y v u Q I rx ry ⟨a, j, xs, e1, e2, ha, he, j1, j2, hz, q⟩
  subst e1 e2
  cases rx
  obtain ⟨tk, rfl⟩ := ry
  obtain ⟨vs, rv, ⟨⟨cl, dd, dt, sl⟩, hob, hcl, m, hdt⟩, _⟩ := I.tuple ha
  simp only at hcl hdt
  subst hcl hdt
  have lv : vs.toArray.size = xs.length := by rw [List.size_toArray]; exact rv.length.symm
  have n0 : vs.toArray.isEmpty = false := by
    cases vs with
    | nil => cases rv; exact absurd rfl he
    | cons _ _ => rfl
  have lf : (List.replicate j.toNat vs).flatten.length ≤ sizeLine := by
    rw [PyProof.Rows.lm_len_rep_flat, ← rv.length, sizeLine_eq]
    have b1 : j.toNat * xs.length ≤ 1000 * 1000 := Nat.mul_le_mul (by omega) hz
    omega
  have b2 : (vs.toArray.size : Int) * j ≤ 1000000 := by
    rw [lv]
    have b1 : (xs.length : Int) * j ≤ 1000 * j := Int.mul_le_mul_of_nonneg_right (by omega) (by omega)
    omega
  have k0 : (decide (j < -(2 ^ 63)) || decide (j ≥ 2 ^ 63)) = false := by rw [decide_eq_false (by omega), decide_eq_false (by omega), Bool.or_false]
  have k1 : (vs.toArray.isEmpty || j == 1) = false := by rw [n0, Bool.false_or, beq_eq_false_iff_ne]; omega
  have k2 : (decide (j ≤ 0) || vs.toArray.isEmpty) = false := by rw [n0, Bool.or_false, decide_eq_false (by omega)]
  have k3 : Builtin.Tuple.tupleTooMany ((vs.toArray.size : Int) * j) = false := decide_eq_false (by rw [sizeLine_eq]; omega)
  have fin : call_fin vs j.toNat = (List.replicate j.toNat vs).flatten.toArray := L2.size_rep vs j.toNat
  refine wpAny_binaryOp_repeat_ref (T := "tuple") (U := "int") (by decide) ⟨_, hob, rfl⟩ (fun z => typeIs_int z j tk) noFill_tuple_mul PySem.F.fills_int_mul PySem.F.slot_int_rmul repeat_tuple PySem.F.slot_int_index.lookup ?_
  refine call_meets PySem.F.slot_int_rmul (typeIs_int s j tk) PySem.F.entry_int_rmul (PySem.F.args_int_rmul_2 _ _) (int_rmul_tuple j tk a vs.toArray m dd sl) ⟨hob, rfl, ⟨_, hob, rfl⟩, ?_⟩
  refine call_meets PySem.F.slot_tuple_mul ⟨_, hob, rfl⟩ PySem.F.entry_tuple_mul (PySem.F.args_tuple_mul_2 _ _) (tuple_mulW a vs.toArray m dd sl j tk k0 k1 k2 (by omega) k3 ?_) ⟨hob, ?_⟩
  · show (call_fin vs j.toNat).size ≤ sizeLine
    rw [fin, List.size_toArray]
    exact lf
  · obtain ⟨I2, hf⟩ := inv_newT (t' := s.toks) I (rv.rep j.toNat) (by have := (rv.rep j.toNat).length; rw [this]; exact lf)
    show EP X pins σ Q (.ref s.heap.objs.size) { s with heap := s.heap.push { cls := .type "tuple", data := .seq (call_fin vs j.toNat) } }
    rw [fin]
    exact ⟨.ref s.heap.objs.size, _, I2, rfl, q _ _ hf rfl⟩
def rRepL (K : PySem.W.Frag) : R2 := fun x y H Q => ∃ l k xs, x = .ref l ∧ y = .int k ∧ LqL K H l xs ∧ -(2 ^ 63) ≤ k ∧ k < 2 ^ 63 ∧ xs.length * k.toNat ≤ sizeLine ∧
  ∀ p, H p = none → Q (.ref p) (upd H p (.lst (List.replicate k.toNat xs).flatten))
theorem op_repL : OpR X (binaryOp .Mult) (rRepL X.K) := by
  intro pins s σ H x y v u Q I rx ry h
  obtain ⟨l, k, xs, rfl, rfl, hH, h1, h2, hz, q⟩ := h
  cases rx
  obtain ⟨t, rfl⟩ := ry
  obtain ⟨its, n, r, e, z⟩ := inv_lq I hH
  have hl := r.length
  have hlen : its.toArray.size * k.toNat ≤ sizeLine := by rw [List.size_toArray, ← hl]; exact hz
  have hcap : ¬ its.toArray.size * k.toNat > (2 ^ 63 - 1) / 8 := by
    have : (sizeLine : Nat) ≤ (2 ^ 63 - 1) / 8 := by decide
    omega
  have hfit : ¬ (!Builtin.List.listFitsIndex k) = true := by
    rw [fitsIndex_both h1 h2]
    exact Bool.false_ne_true
  have hlong : ¬ Builtin.List.listTooLong (its.toArray.size * k.toNat) = true := by
    rw [notLongL hlen]
    exact Bool.false_ne_true
  have hnew : List.foldl (fun x1 x2 => x1 ++ x2) #[] (List.replicate (if its.toArray.isEmpty = true then 0 else k.toNat) its.toArray) = (List.replicate k.toNat its).flatten.toArray := by
    have f0 : ∀ m : Nat, List.foldl (fun x1 x2 => x1 ++ x2) #[] (List.replicate m its.toArray) = (List.replicate m its).flatten.toArray := fun m => by
      have := foldl_rep its m []
      rw [List.nil_append] at this
      exact this
    rw [f0]
    cases its with
    | nil => simp
    | cons a r' => rw [if_neg (by simp)]
  refine wpAny_binaryOp_repeat_ref (T := "list") (U := "int") (by decide) ⟨_, e, rfl⟩ (fun s' => typeIs_int s' k t) noFill_list_mul F.fills_int_mul F.slot_int_rmul repeat_list F.slot_int_index.lookup
    (call_meets F.slot_int_rmul (typeIs_int s k t) F.entry_int_rmul (F.args_int_rmul_2 _ _) (int___rmul___int_list k t l its.toArray n)
      ⟨e, rfl, ⟨_, e, rfl⟩, call_meets F.slot_list_mul ⟨_, e, rfl⟩ F.entry_list_mul (F.args_list_mul_2 _ _) (AutoListH.list___mul___list_int_3 l its.toArray n k t hfit hcap hlong) ⟨e, ?_⟩⟩)
  rw [hnew]
  exact ⟨.ref _, _, I.lnew (t' := s.toks) (r.rep k.toNat) (by rw [PyProof.Rows.lm_len_rep_flat, Nat.mul_comm]; exact hz), rfl, q _ I.fresh⟩
theorem asInts_map : ∀ {xs : List D} {ns : List Int}, asInts xs = some ns → xs = ns.map PyData.int
  | [], ns, h => by cases h; rfl
  | .int i :: r, ns, h => by
    unfold asInts at h
    cases e : asInts r with
    | none => rw [e] at h; cases h
    | some es => rw [e] at h; cases h; rw [asInts_map e]; rfl
  | .none :: _, _, h => by cases h
  | .bool _ :: _, _, h => by cases h
  | .str _ :: _, _, h => by cases h
  | .list _ :: _, _, h => by cases h
  | .tuple _ :: _, _, h => by cases h
  | .dict _ :: _, _, h => by cases h
theorem asBools_map : ∀ {xs : List D} {ns : List Bool}, asBools xs = some ns → xs = ns.map PyData.bool
  | [], ns, h => by cases h; rfl
  | .bool i :: r, ns, h => by
    unfold asBools at h
    cases e : asBools r with
    | none => rw [e] at h; cases h
    | some es => rw [e] at h; cases h; rw [asBools_map e]; rfl
  | .none :: _, _, h => by cases h
  | .int _ :: _, _, h => by cases h
  | .str _ :: _, _, h => by cases h
  | .list _ :: _, _, h => by cases h
  | .tuple _ :: _, _, h => by cases h
  | .dict _ :: _, _, h => by cases h
theorem rp_ints {K : PySem.W.Frag} {G : L2.Hp} : ∀ {ns : List Int} {us : List L2.V}, RpAll K G (ns.map PyData.int) us → us = ns.map L2.V.int
  | [], us, h => h
  | n :: ns, us, h => by obtain ⟨v, vs, rfl, h1, h2⟩ := h; rw [rp_ints h2]; have h1 : v = .int n := h1; rw [h1]; rfl
theorem rp_bools {K : PySem.W.Frag} {G : L2.Hp} : ∀ {ns : List Bool} {us : List L2.V}, RpAll K G (ns.map PyData.bool) us → us = ns.map L2.V.bl
  | [], us, h => h
  | n :: ns, us, h => by obtain ⟨v, vs, rfl, h1, h2⟩ := h; rw [rp_bools h2]; have h1 : v = .bl n := h1; rw [h1]; rfl
theorem rpAll_ints {K : PySem.W.Frag} {G : L2.Hp} : ∀ (ns : List Int), RpAll K G (ns.map PyData.int) (ns.map L2.V.int)
  | [] => rfl
  | n :: ns => ⟨_, _, rfl, rfl, rpAll_ints ns⟩
theorem rpAll_append {K : PySem.W.Frag} {G : L2.Hp} {as bs : List D} {us vs : List L2.V} (h : RpAll K G as us) (h' : RpAll K G bs vs) : RpAll K G (as ++ bs) (us ++ vs) := rpAll_iff.mpr ((rpAll_iff.mp h).append (rpAll_iff.mp h'))
theorem okMul_ok {i j : Int} (h : okMul i j) : CMul i j ∨ CMulX i j := by
  rcases h with h | h | ⟨h1, h2⟩ | ⟨h1, h2⟩
  · refine .inl (.inl ⟨?_, ?_⟩)
    · have : ((2 : Int) ^ 64) = ((2 ^ 64 : Nat) : Int) := by norm_cast
      omega
    · have : ((2 : Int) ^ 64) = ((2 ^ 64 : Nat) : Int) := by norm_cast
      omega
  · refine .inl (.inr ⟨?_, ?_⟩)
    · have : ((2 : Int) ^ 64) = ((2 ^ 64 : Nat) : Int) := by norm_cast
      omega
    · have : ((2 : Int) ^ 64) = ((2 ^ 64 : Nat) : Int) := by norm_cast
      omega
  · exact .inr (mulx_ok h1 h2 (by omega))
  · refine .inr ?_
    have h1 : Builtin.Int.intBits i ≤ 1048576 := h1
    have h3 := PyProof.Rows.intBits_le h2
    unfold CMulX
    omega
/-! ### arithmetic -/
theorem p_add : OpR X (binaryOp .Add) (rD2 X.K addP) := by
  intro pins s σ H x y v u Q I rx ry ⟨G, d1, d2, P, sb, r1, r2, wp, q1, q2⟩
  cases d1 with
  | int i => cases d2 with
    | int j => exact op_add pins s σ H x y v u Q I rx ry ⟨i, j, r1, r2, q1 _ _ wp rfl⟩
    | _ => exact wp.elim
  | str i => cases d2 with
    | str j => exact op_add_str pins s σ H x y v u Q I rx ry ⟨i, j, r1, r2, by rw [big_eq]; exact wp.1, q1 _ _ wp.2 rfl⟩
    | _ => exact wp.elim
  | tuple xs => cases d2 with
    | tuple ys =>
      obtain ⟨a, us, rfl, h1, t1⟩ := r1
      obtain ⟨b, vs, rfl, h2, t2⟩ := r2
      obtain ⟨hz, wp⟩ := wp
      refine op_catP pins s σ H _ _ v u Q I rx ry ⟨a, b, us, vs, rfl, rfl, tqT_mono sb h1, tqT_mono sb h2, by rw [← rpAll_len t1, ← rpAll_len t2, big_eq]; exact hz, fun e => ?_, fun e e2 => ?_, fun _ _ p ob hp hd => ?_⟩
      · subst e
        have t1 := rpAll_len t1
        have : xs = [] := List.length_eq_zero_iff.mp t1
        subst this
        exact q1 _ _ wp ⟨b, vs, rfl, h2, t2⟩
      · subst e2
        have t2 := rpAll_len t2
        have : ys = [] := List.length_eq_zero_iff.mp t2
        subst this
        rw [List.append_nil] at wp
        exact q1 _ _ wp ⟨a, us, rfl, h1, t1⟩
      · exact q2 _ p _ wp hp rfl fun e => ⟨p, _, rfl, ⟨ob, upd_same, hd⟩, RpAll.mono e _ _ (rpAll_append t1 t2)⟩
    | _ => exact wp.elim
  | list xs => cases d2 with
    | list ys =>
      obtain ⟨a, us, rfl, h1, t1⟩ := r1
      obtain ⟨b, vs, rfl, h2, t2⟩ := r2
      obtain ⟨hz, wp⟩ := wp
      exact op_catL pins s σ H _ _ v u Q I rx ry ⟨a, b, us, vs, rfl, rfl, h1, h2, by rw [← rpAll_len t1, ← rpAll_len t2, big_eq]; exact hz, fun p hp => q2 _ p _ wp hp rfl fun e => ⟨p, _, rfl, .inl (.inl upd_same), RpAll.mono e _ _ (rpAll_append t1 t2)⟩⟩
    | _ => exact wp.elim
  | _ => exact wp.elim
theorem p_sub : OpR X (binaryOp .Sub) (rD2 X.K (op2 .sub)) := by
  intro pins s σ H x y v u Q I rx ry ⟨G, d1, d2, P, sb, r1, r2, wp, q1, q2⟩
  obtain ⟨i, rfl, wp⟩ := intP_of wp
  obtain ⟨j, rfl, wp⟩ := intP_of wp
  exact op_sub pins s σ H x y v u Q I rx ry ⟨i, j, r1, r2, q1 _ _ wp rfl⟩
theorem fold_size {α : Type} : ∀ (l : List (Array α)) (a : Array α), (l.foldl (· ++ ·) a).size = a.size + (l.map (·.size)).sum
  | [], a => by simp
  | x :: l, a => by rw [List.foldl_cons, fold_size l, Array.size_append, List.map_cons, List.sum_cons, Nat.add_assoc]
theorem p_mul : OpR X (binaryOp .Mult) (rD2 X.K mulP) := by
  intro pins s σ H x y v u Q I rx ry ⟨G, d1, d2, P, sb, r1, r2, wp, q1, q2⟩
  cases d1 with
  | int i => cases d2 with
    | int j =>
      obtain ⟨ok, wp⟩ := wp
      rcases okMul_ok ok with ok | ok
      · exact op_mul pins s σ H x y v u Q I rx ry ⟨i, j, r1, r2, ok, q1 _ _ wp rfl⟩
      · exact op_mulX pins s σ H x y v u Q I rx ry ⟨i, j, r1, r2, ok, q1 _ _ wp rfl⟩
    | _ => exact wp.elim
  | list xs => cases d2 with
    | int j =>
      obtain ⟨a, us, rfl, h1, t1⟩ := r1
      obtain ⟨⟨b1, b2, b3⟩, wp⟩ := wp
      exact op_repL pins s σ H _ _ v u Q I rx ry ⟨a, j, us, rfl, r2, h1, b1, b2, by rw [← rpAll_len t1, big_eq]; exact b3, fun p hp => q2 _ p _ wp hp rfl fun e => ⟨p, _, rfl, .inl (.inl upd_same), RpAll.mono e _ _ (rpAll_iff.mpr ((rpAll_iff.mp t1).rep _))⟩⟩
    | _ => exact wp.elim
  | tuple xs => cases d2 with
    | int j =>
      obtain ⟨a, us, rfl, h1, t1⟩ := r1
      obtain ⟨⟨b0, b1, b2, b3⟩, wp⟩ := wp
      have l := rpAll_len t1
      exact op_repP pins s σ H _ _ v u Q I rx ry ⟨a, j, us, rfl, r2, tqT_mono sb h1, fun e => b0 (by subst e; exact List.length_eq_zero_iff.mp l), b1, b2, by rw [← l]; exact b3, fun p ob hp hd => q2 _ p _ wp hp rfl fun e => ⟨p, _, rfl, ⟨ob, upd_same, hd⟩, RpAll.mono e _ _ (rpAll_iff.mpr ((rpAll_iff.mp t1).rep _))⟩⟩
    | _ => exact wp.elim
  | str z => cases d2 with
    | int j =>
      obtain ⟨⟨b0, b1, b2⟩, wp⟩ := wp
      have r1 : x = .str z := r1
      have r2 : y = .int j := r2
      subst r1 r2
      obtain ⟨t, rfl⟩ := rx
      obtain ⟨t', rfl⟩ := ry
      refine PySem.P.mul_str ?_ (fun h1 _ => ?_) (fun h1 _ => ?_) ?_
      · rw [decide_eq_false (by omega), decide_eq_false (by omega)]; rfl
      · have e : (1000 : Int) ≤ (2 ^ 63 - 1) / j := Int.le_ediv_of_mul_le (by omega) (by omega)
        omega
      · have e : z.length * j.toNat ≤ 1000 * 1000 := Nat.mul_le_mul b2 (by omega)
        exact decide_eq_false (by rw [sizeLine_eq]; omega)
      · split
        · exact ⟨by decide, ⟨.str _, H, I.tok _, ⟨_, rfl⟩, q1 _ _ (wp _) rfl⟩⟩
        · split
          · exact ⟨.str _, H, I, ⟨_, rfl⟩, q1 _ _ (wp _) rfl⟩
          · refine ⟨?_, ⟨.str _, H, I.tok _, ⟨_, rfl⟩, q1 _ _ (wp _) rfl⟩⟩
            show ((List.replicate j.toNat z.cps).foldl (· ++ ·) #[]).size ≤ sizeLine
            rw [fold_size, Array.size_empty, Nat.zero_add, List.map_replicate, List.sum_replicate_nat, sizeLine_eq]
            have e : j.toNat * z.cps.size ≤ 1000 * 1000 := Nat.mul_le_mul (by omega) b2
            omega
    | _ => exact wp.elim
  | _ => exact wp.elim
theorem p_fdiv : OpR X (binaryOp .FloorDiv) (rD2 X.K (op2 .fdiv)) := by
  intro pins s σ H x y v u Q I rx ry ⟨G, d1, d2, P, sb, r1, r2, wp, q1, q2⟩
  obtain ⟨i, rfl, wp⟩ := intP_of wp
  obtain ⟨j, rfl, wp⟩ := intP_of wp
  obtain ⟨⟨h0, h1⟩, wp⟩ := wp
  have e : ((2 : Int) ^ 4000) = ((2 ^ 4000 : Nat) : Int) := by norm_cast
  exact op_fdivW pins s σ H x y v u Q I rx ry ⟨i, j, r1, r2, wide_div h0 (b := 4000) (by rw [e] at h1; omega) (by omega) (by omega), q1 _ _ wp rfl⟩
theorem p_mod : OpR X (binaryOp .Mod) (rD2 X.K (op2 .mod)) := by
  intro pins s σ H x y v u Q I rx ry ⟨G, d1, d2, P, sb, r1, r2, wp, q1, q2⟩
  obtain ⟨i, rfl, wp⟩ := intP_of wp
  obtain ⟨j, rfl, wp⟩ := intP_of wp
  exact op_mod pins s σ H x y v u Q I rx ry ⟨i, j, r1, r2, wp.1, q1 _ _ wp.2 rfl⟩
theorem p_pow : OpR X (binaryOp .Pow) (rD2 X.K (op2 .pow)) := by
  intro pins s σ H x y v u Q I rx ry ⟨G, d1, d2, P, sb, r1, r2, wp, q1, q2⟩
  obtain ⟨i, rfl, wp⟩ := intP_of wp
  obtain ⟨j, rfl, wp⟩ := intP_of wp
  obtain ⟨⟨h0, h1, h2⟩, wp⟩ := wp
  have r1 : x = .int i := r1
  have r2 : y = .int j := r2
  subst r1 r2
  obtain ⟨t, rfl⟩ := rx
  obtain ⟨t', rfl⟩ := ry
  refine PyProof.Rows.pow_int h0 ?_ ⟨.int _, H, I.tok _, ⟨_, rfl⟩, q1 _ _ wp rfl⟩
  have b : Builtin.Int.intBits i ≤ 4000 := by
    have := PySem.Flt.log2_lt_of (by omega : 0 < 4000) h2
    unfold Builtin.Int.intBits
    split <;> omega
  have e1 : (Builtin.Int.intBits i : Int) * j ≤ 4000 * 64 := Int.mul_le_mul (by omega) h1 h0 (by omega)
  exact Int.le_trans e1 (by decide)
theorem p_neg : UnR X (unaryOp .USub) (rD1 X.K (op1 .neg)) := by
  intro pins s σ H x v Q I rx ⟨G, d, P, sb, r1, wp, q1, q2⟩
  cases d with
  | int i => exact un_neg pins s σ H x v Q I rx ⟨i, r1, q1 _ _ wp rfl⟩
  | _ => exact wp.elim
/-! ### comparisons -/
theorem eqv_nil : ∀ xs : List D, PyData.eqv (.tuple xs) (.tuple []) = xs.isEmpty
  | [] => rfl
  | _ :: _ => rfl
theorem eq_tup0 {a b : Addr} {us : List L2.V} {Q : VK} {E : Value → Shared → Prop} (hu : X.A.units < cLine) (I : Inv X pins σ H s) (h1 : SqT X.K H a us) (h2 : SqT X.K H b []) (q : Q (.bl us.isEmpty) H) : wpAny (model X.prog X.w) X.A (compareOp .Eq (.ref a) (.ref b)) (EP X pins σ Q) E s := by
  obtain ⟨its, r1, p1, _⟩ := I.tuple h1
  obtain ⟨its2, r2, p2, _⟩ := I.tuple h2
  cases r2
  refine SeqAt.eq_tupleAt (e := fun _ => true) p1 p2 hu (fun j _ h2 => absurd h2 (by simp)) ⟨.bl us.isEmpty, H, I, ?_, q⟩
  show Value.bool _ = Value.bool _
  cases r1 <;> rfl
theorem ne_tup0 {a b : Addr} {us : List L2.V} {Q : VK} {E : Value → Shared → Prop} (hu : X.A.units < cLine) (I : Inv X pins σ H s) (h1 : SqT X.K H a us) (h2 : SqT X.K H b []) (q : Q (.bl (!us.isEmpty)) H) : wpAny (model X.prog X.w) X.A (compareOp .NotEq (.ref a) (.ref b)) (EP X pins σ Q) E s := by
  obtain ⟨its, r1, p1, _⟩ := I.tuple h1
  obtain ⟨its2, r2, p2, _⟩ := I.tuple h2
  cases r2
  refine SeqAt.RcNeAt.tuples (e := fun _ => true) p1 p2 hu (fun j _ h2 => absurd h2 (by simp)) X.prog X.w E _ ⟨.bl (!us.isEmpty), H, I, ?_, q⟩
  show Value.bool _ = Value.bool _
  cases r1 <;> rfl
theorem eqv_nilL : ∀ xs : List D, PyData.eqv (.list xs) (.list []) = xs.isEmpty
  | [] => rfl
  | _ :: _ => rfl
theorem eq_lst0 {a b : Addr} {us : List L2.V} {Q : VK} {E : Value → Shared → Prop} (hu : X.A.units < cLine) (I : Inv X pins σ H s) (h1 : SqL X.K H a us) (h2 : SqL X.K H b []) (q : Q (.bl us.isEmpty) H) : wpAny (model X.prog X.w) X.A (compareOp .Eq (.ref a) (.ref b)) (EP X pins σ Q) E s := by
  obtain ⟨its, r1, p1, _⟩ := I.list h1
  obtain ⟨its2, r2, p2, _⟩ := I.list h2
  cases r2
  cases r1 with
  | nil => exact SeqAt.eq_listAt (e := fun _ => true) p1.isList p2.isList rfl hu (fun j _ h2 => absurd h2 (by simp)) ⟨.bl true, H, I, rfl, q⟩
  | cons r t => exact SeqAt.eq_list_lengthsAt p1.isList p2.isList (by simp) hu ⟨.bl false, H, I, rfl, q⟩
theorem ne_lst0 {a b : Addr} {us : List L2.V} {Q : VK} {E : Value → Shared → Prop} (hu : X.A.units < cLine) (I : Inv X pins σ H s) (h1 : SqL X.K H a us) (h2 : SqL X.K H b []) (q : Q (.bl (!us.isEmpty)) H) : wpAny (model X.prog X.w) X.A (compareOp .NotEq (.ref a) (.ref b)) (EP X pins σ Q) E s := by
  obtain ⟨its, r1, p1, _⟩ := I.list h1
  obtain ⟨its2, r2, p2, _⟩ := I.list h2
  cases r2
  cases r1 with
  | nil => exact SeqAt.RcNeAt.lists (e := fun _ => true) p1.isList p2.isList rfl hu (fun j _ h2 => absurd h2 (by simp)) X.prog X.w E _ ⟨.bl false, H, I, rfl, q⟩
  | cons r t => exact SeqAt.RcNeAt.lists_lengths p1.isList p2.isList (by simp) hu X.prog X.w E _ ⟨.bl true, H, I, rfl, q⟩
theorem eqP_of {x y : D} {Q : Bool → Prop} (h : eqP x y Q) : (∃ i j, x = .int i ∧ y = .int j ∧ Q (decide (i = j))) ∨ (∃ i j, x = .str i ∧ y = .str j ∧ Q (decide (i = j))) ∨ (∃ i j, x = .bool i ∧ y = .bool j ∧ Q (decide (i = j))) ∨
    (((shp x ∧ shp y) ∨ (∃ xs, x = .tuple xs ∧ y = .tuple []) ∨ ∃ xs, x = .list xs ∧ y = .list []) ∧ Q (PyData.eqv x y)) := by
  cases x with
  | int i => cases y with
    | int j => exact .inl ⟨i, j, rfl, rfl, h⟩
    | _ => exact .inr (.inr (.inr h))
  | str i => cases y with
    | str j => exact .inr (.inl ⟨i, j, rfl, rfl, h⟩)
    | _ => exact .inr (.inr (.inr h))
  | bool i => cases y with
    | bool j => exact .inr (.inr (.inl ⟨i, j, rfl, rfl, h⟩))
    | _ => exact .inr (.inr (.inr h))
  | _ => exact .inr (.inr (.inr h))
theorem empty_of {K : PySem.W.Frag} {G : L2.Hp} {xs : List D} {us : List L2.V} (h : RpAll K G xs us) : xs.isEmpty = us.isEmpty := by
  cases xs with
  | nil => have h : us = [] := h; subst h; rfl
  | cons d ds => obtain ⟨v, vs, rfl, _⟩ := h; rfl
theorem dec_i {i j : Int} : decide (L2.V.int i = L2.V.int j) = decide (i = j) := by rw [dec_int]; rw [Bool.eq_iff_iff]; simp
theorem dec_s {i j : Str} : decide (L2.V.str i = L2.V.str j) = decide (i = j) := by rw [dec_str]; rw [Bool.eq_iff_iff]; simp
theorem dec_b {i j : Bool} : decide (L2.V.bl i = L2.V.bl j) = decide (i = j) := by rw [dec_bl]; rw [Bool.eq_iff_iff]; simp
theorem p_eq (hu : X.A.units + 65 < cLine) : OpR X (compareOp .Eq) (rD2 X.K (op2 .eq)) := by
  intro pins s σ H x y v u Q I rx ry ⟨G, d1, d2, P, sb, r1, r2, wp, q1, q2⟩
  have wp : eqP d1 d2 fun b => P (.bool b) := wp
  rcases eqP_of wp with ⟨i, j, rfl, rfl, wp⟩ | ⟨i, j, rfl, rfl, wp⟩ | ⟨i, j, rfl, rfl, wp⟩ | ⟨h, wp⟩
  · have r1 : x = .int i := r1
    have r2 : y = .int j := r2
    subst r1 r2
    exact op_eq pins s σ H _ _ v u Q I rx ry ⟨rfl, by rw [dec_i]; exact q1 _ _ wp rfl⟩
  · have r1 : x = .str i := r1
    have r2 : y = .str j := r2
    subst r1 r2
    exact op_eq pins s σ H _ _ v u Q I rx ry ⟨rfl, by rw [dec_s]; exact q1 _ _ wp rfl⟩
  · have r1 : x = .bl i := r1
    have r2 : y = .bl j := r2
    subst r1 r2
    exact op_eq pins s σ H _ _ v u Q I rx ry ⟨rfl, by rw [dec_b]; exact q1 _ _ wp rfl⟩
  · rcases h with ⟨s1, s2⟩ | ⟨xs, rfl, rfl⟩ | ⟨xs, rfl, rfl⟩
    · exact op_eqD (by omega) pins s σ H x y v u Q I rx ry ⟨d1, d2, r1.dp sb s1, r2.dp sb s2, s1, s2, q1 _ _ wp rfl⟩
    · obtain ⟨a, us, rfl, h1, t1⟩ := r1
      obtain ⟨b, vs, rfl, h2, t2⟩ := r2
      have t2 : vs = [] := t2
      subst t2
      cases rx
      cases ry
      exact eq_tup0 (by omega) I (tqT_mono sb h1) (tqT_mono sb h2) (q1 _ _ wp (by rw [eqv_nil, empty_of t1]; rfl))
    · obtain ⟨a, us, rfl, h1, t1⟩ := r1
      obtain ⟨b, vs, rfl, h2, t2⟩ := r2
      have t2 : vs = [] := t2
      subst t2
      cases rx
      cases ry
      exact eq_lst0 (by omega) I h1.sq h2.sq (q1 _ _ wp (by rw [eqv_nilL, empty_of t1]; rfl))
theorem p_ne (hu : X.A.units + 65 < cLine) : OpR X (compareOp .NotEq) (rD2 X.K (op2 .ne)) := by
  intro pins s σ H x y v u Q I rx ry ⟨G, d1, d2, P, sb, r1, r2, wp, q1, q2⟩
  have wp : eqP d1 d2 fun b => P (.bool (!b)) := wp
  rcases eqP_of wp with ⟨i, j, rfl, rfl, wp⟩ | ⟨i, j, rfl, rfl, wp⟩ | ⟨i, j, rfl, rfl, wp⟩ | ⟨h, wp⟩
  · have r1 : x = .int i := r1
    have r2 : y = .int j := r2
    subst r1 r2
    exact op_ne pins s σ H _ _ v u Q I rx ry ⟨rfl, by rw [dec_i]; exact q1 _ _ wp rfl⟩
  · have r1 : x = .str i := r1
    have r2 : y = .str j := r2
    subst r1 r2
    exact op_ne pins s σ H _ _ v u Q I rx ry ⟨rfl, by rw [dec_s]; exact q1 _ _ wp rfl⟩
  · have r1 : x = .bl i := r1
    have r2 : y = .bl j := r2
    subst r1 r2
    exact op_ne pins s σ H _ _ v u Q I rx ry ⟨rfl, by rw [dec_b]; exact q1 _ _ wp rfl⟩
  · rcases h with ⟨s1, s2⟩ | ⟨xs, rfl, rfl⟩ | ⟨xs, rfl, rfl⟩
    · exact op_neD (by omega) pins s σ H x y v u Q I rx ry ⟨d1, d2, r1.dp sb s1, r2.dp sb s2, s1, s2, q1 _ _ wp rfl⟩
    · obtain ⟨a, us, rfl, h1, t1⟩ := r1
      obtain ⟨b, vs, rfl, h2, t2⟩ := r2
      have t2 : vs = [] := t2
      subst t2
      cases rx
      cases ry
      exact ne_tup0 (by omega) I (tqT_mono sb h1) (tqT_mono sb h2) (q1 _ _ wp (by rw [eqv_nil, empty_of t1]; rfl))
    · obtain ⟨a, us, rfl, h1, t1⟩ := r1
      obtain ⟨b, vs, rfl, h2, t2⟩ := r2
      have t2 : vs = [] := t2
      subst t2
      cases rx
      cases ry
      exact ne_lst0 (by omega) I h1.sq h2.sq (q1 _ _ wp (by rw [eqv_nilL, empty_of t1]; rfl))
/-- the tuples of a comparison -/
theorem tup_ints {K : PySem.W.Frag} {G : L2.Hp} {xs : List D} {ns : List Int} {x : L2.V} (sb : Sub G H) (r : Rp K G (.tuple xs) x) (e : asInts xs = some ns) : ∃ a, x = .ref a ∧ SqT K H a (ns.map L2.V.int) := by
  obtain ⟨a, us, rfl, h1, t1⟩ := r
  have := asInts_map e
  subst this
  have := rp_ints t1
  subst this
  exact ⟨a, rfl, tqT_mono sb h1⟩
theorem p_lt (hu : X.A.units + 65 < cLine) : OpR X (compareOp .Lt) (rD2 X.K (op2 .lt)) := by
  intro pins s σ H x y v u Q I rx ry ⟨G, d1, d2, P, sb, r1, r2, wp, q1, q2⟩
  have wp : ltP d1 d2 fun b => P (.bool b) := wp
  cases d1 with
  | int i => cases d2 with
    | int j => exact op_lt pins s σ H x y v u Q I rx ry ⟨i, j, r1, r2, q1 _ _ wp rfl⟩
    | _ => exact wp.elim
  | list xs => cases d2 with
    | list ys =>
      obtain ⟨ns, e1, wp⟩ := optP_of wp
      obtain ⟨ms, e2, wp⟩ := optP_of wp
      have wp3 : P (.bool (HT.lexLt ns ms)) := wp
      have e1 := asInts_map e1
      have e2 := asInts_map e2
      subst e1 e2
      have sh : ∀ w : List Int, shp (.list (w.map PyData.int)) := fun w => (shk_lst (k := 1) fun x hx => by
        obtain ⟨i, _, rfl⟩ := List.mem_map.mp hx
        exact shk_int i).shp (by decide)
      obtain ⟨as, k1⟩ := Dp.reads I _ x v (r1.dp sb (sh ns)) rx
      obtain ⟨bs, k2⟩ := Dp.reads I _ y u (r2.dp sb (sh ms)) ry
      have dp : ∀ w : List Int, PyData.depth (.list (w.map PyData.int)) ≤ 2 := fun w => by
        have := depth_ints w
        show PyData.depthAll (w.map PyData.int) + 1 ≤ 2
        omega
      refine PySem.W.lt_data k1 k2 (by rw [PySem.W.alike]; exact PySem.W.alike_ints ns ms) (by intro z; cases z) (by have := dp ns; have := dp ms; omega) ?_
      rw [PySem.W.dataLt_list]
      have e : PyProof.Rows.lexLt PyProof.Rows.itemOrd (PySem.W.keyToksAll (ns.map PyData.int)) (PySem.W.keyToksAll (ms.map PyData.int)) = HT.lexLt ns ms := (PySem.W.dataLt_ints ns ms).trans (lexLt_lt ns ms).symm
      rw [e]
      exact ⟨.bl _, H, I, rfl, q1 _ _ wp3 rfl⟩
    | _ => exact wp.elim
  | tuple xs => cases d2 with
    | tuple ys =>
      obtain ⟨ns, e1, wp⟩ := optP_of wp
      obtain ⟨ms, e2, wp⟩ := optP_of wp
      obtain ⟨a, rfl, h1⟩ := tup_ints sb r1 e1
      obtain ⟨b, rfl, h2⟩ := tup_ints sb r2 e2
      exact op_ltT (by omega) pins s σ H _ _ v u Q I rx ry ⟨a, b, ns, ms, rfl, rfl, h1, h2, q1 _ _ wp rfl⟩
    | _ => exact wp.elim
  | _ => exact wp.elim
theorem lexAt_shift {e r : Nat → Bool} {z : Bool} : ∀ (k i : Nat), _root_.Ob.lexAt e r z (i + 1) k = _root_.Ob.lexAt (fun j => e (j + 1)) (fun j => r (j + 1)) z i k
  | 0, i => rfl
  | k + 1, i => by
    rw [_root_.Ob.lexAt_succ, _root_.Ob.lexAt_succ, lexAt_shift k (i + 1)]
theorem lex_le : ∀ ns ms : List Int, _root_.Ob.lexAt (fun j => decide (ns.getD j 0 = ms.getD j 0)) (fun j => decide (ns.getD j 0 ≤ ms.getD j 0)) (decide (ns.length ≤ ms.length)) 0 (min ns.length ms.length) = !HT.lexLt ms ns
  | [], [] => rfl
  | [], m :: ms => by simp [_root_.Ob.lexAt, HT.lexLt]
  | n :: ns, [] => by simp [_root_.Ob.lexAt, HT.lexLt]
  | n :: ns, m :: ms => by
    have e : min (n :: ns).length (m :: ms).length = min ns.length ms.length + 1 := by simp only [List.length_cons]; omega
    rw [e, _root_.Ob.lexAt_succ, lexAt_shift, HT.lexLt_cons]
    by_cases h : n = m
    · subst h
      rw [if_pos (by simp), if_pos rfl, ← lex_le ns ms]
      simp
    · rw [if_neg (by simpa using h), if_neg (fun z => h z.symm)]
      simp only [List.getD_cons_zero]
      rw [← decide_not]
      congr 1
      simp
theorem p_le (hu : X.A.units + 65 < cLine) : OpR X (compareOp .LtE) (rD2 X.K (op2 .le)) := by
  intro pins s σ H x y v u Q I rx ry ⟨G, d1, d2, P, sb, r1, r2, wp, q1, q2⟩
  have wp : leP d1 d2 fun b => P (.bool b) := wp
  cases d1 with
  | int i => cases d2 with
    | int j => exact op_le pins s σ H x y v u Q I rx ry ⟨i, j, r1, r2, q1 _ _ wp rfl⟩
    | _ => exact wp.elim
  | tuple xs => cases d2 with
    | tuple ys =>
      obtain ⟨ns, e1, wp⟩ := optP_of wp
      obtain ⟨ms, e2, wp⟩ := optP_of wp
      obtain ⟨a, rfl, h1⟩ := tup_ints sb r1 e1
      obtain ⟨b, rfl, h2⟩ := tup_ints sb r2 e2
      exact op_leT (by omega) pins s σ H _ _ v u Q I rx ry ⟨a, b, ns, ms, rfl, rfl, h1, h2, by rw [lex_le]; exact q1 _ _ wp rfl⟩
    | _ => exact wp.elim
  | _ => exact wp.elim
theorem lex_gt : ∀ ns ms : List Int, _root_.Ob.lexAt (fun j => decide (ns.getD j 0 = ms.getD j 0)) (fun j => decide (ms.getD j 0 < ns.getD j 0)) (decide (ms.length < ns.length)) 0 (min ns.length ms.length) = HT.lexLt ms ns
  | [], [] => rfl
  | [], m :: ms => by simp [_root_.Ob.lexAt, HT.lexLt]
  | n :: ns, [] => by simp [_root_.Ob.lexAt, HT.lexLt]
  | n :: ns, m :: ms => by
    have e : min (n :: ns).length (m :: ms).length = min ns.length ms.length + 1 := by simp only [List.length_cons]; omega
    rw [e, _root_.Ob.lexAt_succ, lexAt_shift, HT.lexLt_cons]
    by_cases h : n = m
    · subst h
      rw [if_pos (by simp), if_pos rfl, ← lex_gt ns ms]
      simp
    · rw [if_neg (by simpa using h), if_neg (fun z => h z.symm)]
      simp only [List.getD_cons_zero]
def rGtT (K : PySem.W.Frag) : R2 := fun x y H Q => ∃ (a b : Addr) (ns ms : List Int), x = .ref a ∧ y = .ref b ∧ SqT K H a (ns.map L2.V.int) ∧ SqT K H b (ms.map L2.V.int) ∧ Q (.bl (HT.lexLt ms ns)) H
theorem op_gtT {X : Cx} (hu : X.A.units < cLine) : OpR X (compareOp .Gt) (rGtT X.K) := by
  intro pins s σ H x y v u Q I rx ry h
  obtain ⟨a, b, ns, ms, rfl, rfl, ha, hb, q⟩ := h
  cases rx
  cases ry
  obtain ⟨its, r1, p1, _⟩ := I.tuple ha
  obtain ⟨its2, r2, p2, _⟩ := I.tuple hb
  have i1 : IntsAre its ns := Vals.ints r1
  have i2 : IntsAre its2 ms := Vals.ints r2
  have e1 : its.toArray.size = ns.length := by rw [List.size_toArray]; exact i1.length
  have e2 : its2.toArray.size = ms.length := by rw [List.size_toArray]; exact i2.length
  have at1 : ∀ j (h1 : j < its.toArray.size), ∃ t, its.toArray[j] = .int (ns.getD j 0) t := fun j h1 => PyProof.Rows.IntsAre.int_at i1 _ _ (by simp at h1; simp [h1])
  have at2 : ∀ j (h1 : j < its2.toArray.size), ∃ t, its2.toArray[j] = .int (ms.getD j 0) t := fun j h1 => PyProof.Rows.IntsAre.int_at i2 _ _ (by simp at h1; simp [h1])
  have R := _root_.Ob.RcOp.tuples_gt (A := X.A) (s := s) (e := fun j => decide (ns.getD j 0 = ms.getD j 0)) (r := fun j => decide (ms.getD j 0 < ns.getD j 0)) p1 p2 hu (fun j h1 h2 => by
    obtain ⟨t, et⟩ := at1 j h1
    obtain ⟨t', et'⟩ := at2 j h2
    rw [et, et']
    have z : (ns.getD j 0 == ms.getD j 0) = decide (ns.getD j 0 = ms.getD j 0) := by
      by_cases q : ns.getD j 0 = ms.getD j 0
      · rw [decide_eq_true q]; exact beq_iff_eq.mpr q
      · rw [decide_eq_false q]; exact beq_eq_false_iff_ne.mpr q
    rw [← z]
    exact SeqAt.EqAt.int_int _ _ _ _) (fun j h1 h2 _ => by
    obtain ⟨t, et⟩ := at1 j h1
    obtain ⟨t', et'⟩ := at2 j h2
    rw [et, et']
    exact _root_.Ob.RcOp.gt_int _ _ _ _)
  rw [e1, e2, lex_gt] at R
  have z : wpAny (model X.prog X.w) X.A (compareOp .Gt (.ref a) (.ref b)) (EP X pins σ Q) X.xe s := R X.prog X.w X.xe (EP X pins σ Q) ⟨.bl _, H, I, rfl, q⟩
  exact z
theorem p_gt (hu : X.A.units + 65 < cLine) : OpR X (compareOp .Gt) (rD2 X.K (op2 .gt)) := by
  intro pins s σ H x y v u Q I rx ry ⟨G, d1, d2, P, sb, r1, r2, wp, q1, q2⟩
  have wp : gtP d1 d2 fun b => P (.bool b) := wp
  cases d1 with
  | int i => cases d2 with
    | int j => exact op_gt pins s σ H x y v u Q I rx ry ⟨i, j, r1, r2, q1 _ _ wp rfl⟩
    | _ => exact wp.elim
  | tuple xs => cases d2 with
    | tuple ys =>
      obtain ⟨ns, e1, wp⟩ := optP_of wp
      obtain ⟨ms, e2, wp⟩ := optP_of wp
      obtain ⟨a, rfl, h1⟩ := tup_ints sb r1 e1
      obtain ⟨b, rfl, h2⟩ := tup_ints sb r2 e2
      exact op_gtT (by omega) pins s σ H _ _ v u Q I rx ry ⟨a, b, ns, ms, rfl, rfl, h1, h2, q1 _ _ wp rfl⟩
    | _ => exact wp.elim
  | _ => exact wp.elim
theorem p_ge : OpR X (compareOp .GtE) (rD2 X.K (op2 .ge)) := by
  intro pins s σ H x y v u Q I rx ry ⟨G, d1, d2, P, sb, r1, r2, wp, q1, q2⟩
  obtain ⟨i, rfl, wp⟩ := intP_of wp
  obtain ⟨j, rfl, wp⟩ := intP_of wp
  exact op_ge pins s σ H x y v u Q I rx ry ⟨i, j, r1, r2, q1 _ _ wp rfl⟩
theorem sign_of {x : D} {z : Str} {Q : Bool → Prop} (h : inP x (.str z) Q) : ∃ c : Nat, x = .str ⟨#[c]⟩ ∧ Q (decide (c ∈ z.cps.toList)) := by
  cases x with
  | str u =>
    obtain ⟨c, e, q⟩ := optP_of (show optP (signOf u) fun c => Q (decide (c ∈ z.cps.toList)) from h)
    refine ⟨c, ?_, q⟩
    unfold signOf at e
    split at e
    · rename_i d ed
      cases e
      obtain ⟨⟨l⟩⟩ := u
      have ed : l = [c] := ed
      subst ed
      rfl
    · cases e
  | _ => exact (show False from h).elim
theorem p_in (hu : X.A.units + 65 < cLine) : OpR X (compareOp .In) (rD2 X.K (op2 .in_)) := by
  intro pins s σ H x y v u Q I rx ry ⟨G, d1, d2, P, sb, r1, r2, wp, q1, q2⟩
  have wp : inP d1 d2 fun b => P (.bool b) := wp
  cases d2 with
  | list ys =>
    obtain ⟨s1, s2, wp⟩ := wp
    exact op_inD hu pins s σ H x y v u Q I rx ry ⟨d1, ys, r1.dp sb s1, r2.dp sb s2, s1, s2, q1 _ _ wp rfl⟩
  | tuple ys =>
    obtain ⟨s1, s2, wp⟩ := wp
    obtain ⟨as, k1⟩ := Dp.reads I d1 x v (r1.dp sb s1) rx
    obtain ⟨bs, k2⟩ := Dp.reads I (.tuple ys) y u (r2.dp sb s2) ry
    exact SeqAt.in_tuple_reads k2 k1 (SeqAt.canLay_of_shaped s2) (SeqAt.canLay_of_shaped s1) (room_in_shaped s1 hu) ⟨.bl _, H, I, rfl, q1 _ _ wp rfl⟩
  | dict kvs =>
    obtain ⟨hk, wp⟩ := wp
    obtain ⟨a, t, us, rfl, hd, rv⟩ := r2
    obtain ⟨o, g, vr⟩ := asked sb hd rv (rt_key r1 hk) hk
    cases ry
    refine a_in (by omega) I g rx fun s' I' => ⟨.bl o.isSome, H, I', rfl, q1 _ _ wp ?_⟩
    show L2.V.bl o.isSome = .bl (valD kvs d1).isSome
    rw [asked_some vr]
  | str z =>
    obtain ⟨c, rfl, wp⟩ := sign_of wp
    have r1 : x = .str ⟨#[c]⟩ := r1
    have r2 : y = .str z := r2
    subst r1 r2
    exact op_in_sign pins s σ H _ _ v u Q I rx ry ⟨c, z, rfl, rfl, q1 _ _ wp rfl⟩
  | _ => exact wp.elim
theorem p_notin (hu : X.A.units + 65 < cLine) : OpR X (compareOp .NotIn) (rD2 X.K (op2 .notin)) := by
  intro pins s σ H x y v u Q I rx ry ⟨G, d1, d2, P, sb, r1, r2, wp, q1, q2⟩
  have wp : inP d1 d2 fun b => P (.bool !b) := wp
  cases d2 with
  | list ys =>
    obtain ⟨s1, s2, wp⟩ := wp
    exact op_notInD hu pins s σ H x y v u Q I rx ry ⟨d1, ys, r1.dp sb s1, r2.dp sb s2, s1, s2, q1 _ _ wp rfl⟩
  | tuple ys =>
    obtain ⟨s1, s2, wp⟩ := wp
    obtain ⟨as, k1⟩ := Dp.reads I d1 x v (r1.dp sb s1) rx
    obtain ⟨bs, k2⟩ := Dp.reads I (.tuple ys) y u (r2.dp sb s2) ry
    exact SeqAt.notIn_tuple_reads k2 k1 (SeqAt.canLay_of_shaped s2) (SeqAt.canLay_of_shaped s1) (room_in_shaped s1 hu) ⟨.bl _, H, I, rfl, q1 _ _ wp rfl⟩
  | dict kvs =>
    obtain ⟨hk, wp⟩ := wp
    obtain ⟨a, t, us, rfl, hd, rv⟩ := r2
    obtain ⟨o, g, vr⟩ := asked sb hd rv (rt_key r1 hk) hk
    cases ry
    refine a_notIn (by omega) I g rx fun s' I' => ⟨.bl (!o.isSome), H, I', rfl, q1 _ _ wp ?_⟩
    show L2.V.bl (!o.isSome) = .bl (!(valD kvs d1).isSome)
    rw [asked_some vr]
  | str z =>
    obtain ⟨c, rfl, wp⟩ := sign_of wp
    have r1 : x = .str ⟨#[c]⟩ := r1
    have r2 : y = .str z := r2
    subst r1 r2
    exact op_notIn_sign pins s σ H _ _ v u Q I rx ry ⟨c, z, rfl, rfl, q1 _ _ wp rfl⟩
  | _ => exact wp.elim
end
end Hb

/-! PRIM2: built-ins by call, items, identity. -/
namespace Hb
open PySem PySem.Spec PyProof.Rows
open L2 hiding V Hp St
set_option autoImplicit false
/-- a new list comes out -/
def OutL (K : PySem.W.Frag) (G H : L2.Hp) (P : D → Prop) (Q : VK) : Prop := ∀ ds us p, P (.list ds) → RpAll K G ds us → H p = none → Q (.ref p) (upd H p (.lst us))
def rF1 (K : PySem.W.Frag) (o : D → (D → Prop) → Prop) : L2.V → L2.Hp → VK → Prop := fun x H Q => ∃ G d P, Sub G H ∧ Rt K G H d x ∧ o d P ∧ OutL K G H P Q
def rF2 (K : PySem.W.Frag) (o : D → D → (D → Prop) → Prop) : R2 := fun x y H Q => ∃ G d1 d2 P, Sub G H ∧ Rt K G H d1 x ∧ Rt K G H d2 y ∧ o d1 d2 P ∧ OutL K G H P Q
section
variable {X : Cx} {w : Wo} {pins : List (Addr × Obj)} {s : Shared} {σ : Sg} {H : L2.Hp}
theorem Out.toL {K : PySem.W.Frag} {G : L2.Hp} {P : D → Prop} {Q : VK} (h : Out K G H P Q) : OutL K G H P Q := fun ds us p pz t hp => h.2 _ p _ pz hp rfl fun e => ⟨p, us, rfl, .inl (.inl upd_same), RpAll.mono e _ _ t⟩
theorem rD1_F {K : PySem.W.Frag} {o : D → (D → Prop) → Prop} {x : L2.V} {Q : VK} (h : rD1 K o x H Q) : rF1 K o x H Q := by
  obtain ⟨G, d, P, sb, r, wp, q⟩ := h
  exact ⟨G, d, P, sb, r, wp, q.toL⟩
theorem rD2_F {K : PySem.W.Frag} {o : D → D → (D → Prop) → Prop} {x y : L2.V} {Q : VK} (h : rD2 K o x y H Q) : rF2 K o x y H Q := by
  obtain ⟨G, d, d2, P, sb, r, r2, wp, q⟩ := h
  exact ⟨G, d, d2, P, sb, r, r2, wp, q.toL⟩
/-- one argument, data -/
theorem c1_of {f : Value} {r : L2.V → L2.Hp → VK → Prop} (h : ∀ (pins : List (Addr × Obj)) (s : Shared) (σ : Sg) (H : L2.Hp) (x : L2.V) (v : Value) (Q : VK), Inv X pins σ H s → RelV x v → r x H Q → wpAny (model X.prog X.w) X.A (call f [v]) (EP X pins σ Q) X.xe s) : CallR X f (rC1 r) := by
  intro pins s σ H xs us Q I rx ⟨x, e, q⟩
  subst e
  obtain ⟨u, rfl, ru⟩ := vals1 rx
  exact h pins s σ H x u Q I ru q
theorem c2_of {f : Value} {r : R2} (h : ∀ (pins : List (Addr × Obj)) (s : Shared) (σ : Sg) (H : L2.Hp) (x y : L2.V) (v u : Value) (Q : VK), Inv X pins σ H s → RelV x v → RelV y u → r x y H Q → wpAny (model X.prog X.w) X.A (call f [v, u]) (EP X pins σ Q) X.xe s) : CallR X f (rC2 r) := by
  intro pins s σ H xs us Q I rx ⟨x, y, e, q⟩
  subst e
  obtain ⟨u, u2, rfl, ru, ru2⟩ := vals2 rx
  exact h pins s σ H x y u u2 Q I ru ru2 q
theorem vals_1 {x : L2.V} {v : Value} (r : RelV x v) : Vals [x] [v] := .cons r .nil
theorem vals_2 {x y : L2.V} {v u : Value} (r : RelV x v) (r2 : RelV y u) : Vals [x, y] [v, u] := .cons r (.cons r2 .nil)
/-- list(d), the keys are tuples -/
theorem vals_refs : ∀ {xs : List (NestedKey × Addr × Value)}, Vals (xs.map fun x => L2.V.ref x.2.1) (xs.map fun x => Value.ref x.2.1)
  | [] => .nil
  | _ :: _ => .cons rfl vals_refs
theorem call_list_dH {a : Addr} {xs : List (NestedKey × Addr × Value)} {Q : VK} (hc : X.calm = true) (I : Inv X pins σ H s) (hd : (a == sysModules) = false) (D : s.heap.DictOfH (nestedKind X.prog X.w) a xs) (hl : xs.length ≤ sizeLine)
    (q : ∀ l, H l = none → Q (.ref l) (upd H l (.lst (xs.map fun x => L2.V.ref x.2.1)))) : wpAny (model X.prog X.w) X.A (call (.type "list") [.ref a]) (EP X pins σ Q) X.xe s := by
  obtain ⟨o, es, ep, ho, hx, hdat, he, _, _⟩ := D
  have hsz : es.size = xs.length := by
    have := congrArg List.length he
    rw [List.length_map] at this
    simpa using this
  refine PySem.W.kdl_call (KdlSrc.rawDict hd) (I.ok.hd hc) (show s.heap.DictRaw a es ep from ⟨o, ho, hx, hdat⟩) (by rw [hsz]; exact hl) fun h' tk acc' c' kp hD hacc => ?_
  refine ⟨.ref s.heap.objs.size, upd H s.heap.objs.size (.lst (xs.map fun x => L2.V.ref x.2.1)), I.laid (t' := tk) kp (Nat.le_refl _) ⟨by rw [List.length_map]; exact hl, acc'.toList, c', ?_, by simpa using hD⟩, rfl, q _ (I.hok.fresh (Nat.le_refl _))⟩
  have e : acc'.toList = xs.map fun x => Value.ref x.2.1 := by
    refine List.ext_getElem (by rw [List.length_map, Array.length_toList, hacc.1, hsz]) fun i h1 h2 => ?_
    have h1' : i < acc'.size := by simpa using h1
    have h2' : i < xs.length := by simpa using h2
    obtain ⟨hi, ev⟩ := hacc.2 i acc'[i] (Array.getElem?_eq_getElem h1')
    rw [Array.getElem_toList, List.getElem_map, ev]
    have : es[i] = entryOfKey (nestedKind X.prog X.w) xs[i] := by
      have z : es.toList[i]'(by simpa using hi) = (xs.map (entryOfKey (nestedKind X.prog X.w)))[i]'(by rw [List.length_map]; exact h2') := by simp only [he]
      rw [List.getElem_map, Array.getElem_toList] at z
      exact z
    rw [this]
    rfl
  rw [e]
  exact vals_refs
mutual
theorem nk_rp {K : PySem.W.Frag} {G : L2.Hp} : ∀ (k : NestedKey) (u : L2.V), NkR G k u → Rp K G (nkD k) u
  | .none, _, h => h
  | .num _, _, h => h
  | .text _, _, h => h
  | .tup ks, _, h => by obtain ⟨a, us, e, q, t⟩ := h; exact ⟨a, us, e, q, nks_rp ks us t⟩
theorem nks_rp {K : PySem.W.Frag} {G : L2.Hp} : ∀ (ks : List NestedKey) (us : List L2.V), NkRs G ks us → RpAll K G (nkDs ks) us
  | [], _, h => h
  | k :: ks, _, h => by obtain ⟨v, vs, e, q, t⟩ := h; exact ⟨v, vs, e, nk_rp k v q, nks_rp ks vs t⟩
end
theorem rows_rp {K : PySem.W.Frag} {G : L2.Hp} : ∀ {rows : List NkRow} {xs : List (NestedKey × Addr × Value)}, Paired NkPair rows xs → (∀ p ∈ rows, NkR G p.1 (.ref p.2.1) ∧ nkOk p.1 = true) → RpAll K G (rows.map fun p => nkD p.1) (xs.map fun x => L2.V.ref x.2.1) := by
  intro rows xs pr
  induction pr with
  | nil => intro _; rfl
  | @cons p q ps qs h t ih =>
    intro hp
    refine ⟨.ref q.2.1, _, rfl, ?_, ih fun p' h' => hp p' (by simp [h'])⟩
    rw [← h.2.1]
    exact nk_rp _ _ (hp p (by simp)).1
theorem pair_len {α β : Type} {R : α → β → Prop} {as : List α} {bs : List β} (h : Paired R as bs) : as.length = bs.length := by
  induction h with
  | nil => rfl
  | cons _ _ ih => simp [ih]
theorem k_list (hc : X.calm = true) : CallR X (.type "list") (rC1 (rF1 X.K (op1 .list))) := c1_of fun pins s σ H x v Q I rx ⟨G, d, P, sb, r, wp, q⟩ => by
  cases d with
  | list ds => obtain ⟨a, us, rfl, h1, t⟩ := r; exact call_list_of pins s σ H _ _ Q I (vals_1 rx) ⟨a, us, rfl, .inl h1.sq, fun l hl => q ds us l wp t hl⟩
  | tuple ds => obtain ⟨a, us, rfl, h1, t⟩ := r; exact call_list_of pins s σ H _ _ Q I (vals_1 rx) ⟨a, us, rfl, .inr (tqT_mono sb h1), fun l hl => q ds us l wp t hl⟩
  | dict kvs =>
    obtain ⟨a, t, us, rfl, hd, tt⟩ := r
    obtain ⟨hk, wp⟩ := wp
    obtain rfl : v = Value.ref a := rx
    cases t with
    | false =>
      obtain ⟨kus, ha, ek, eu⟩ := hd
      have e0 : kvs = [] := by
        cases kvs with
        | nil => rfl
        | cons p kvs =>
          exfalso
          have := hk p (by simp)
          cases kus with
          | nil => cases ek
          | cons c kus =>
            have ek : p.1 :: kvs.map (·.1) = keyD c.1 :: kus.map (fun p => keyD p.1) := ek
            injection ek with e1 _
            rw [e1] at this
            cases hcc : c.1 with
            | inl i => rw [hcc] at this; cases this
            | inr z => rw [hcc] at this; cases this
      subst e0
      have e1 : kus = [] := by
        cases kus with
        | nil => rfl
        | cons c kus => cases ek
      subst e1
      obtain ⟨hn, dd⟩ := empty_T I ha
      exact call_list_dH hc I hn dd (Nat.zero_le _) fun l hl => q [] [] l wp rfl hl
    | true =>
      obtain ⟨rows, ha, ek, eu, nks⟩ := hd
      obtain ⟨hn, hl, xs, pr, dd⟩ := tdic I ha fun p hp => ⟨NkR.mono sb _ _ (nks p hp).1, (nks p hp).2⟩
      refine call_list_dH hc I hn dd (by rw [← pair_len pr]; exact hl) fun l hl => q (kvs.map (·.1)) _ l wp ?_ hl
      rw [ek]
      exact rows_rp pr nks
  | _ => exact wp.elim
/-- tuple(xs) of a list -/
theorem call_tupP : CallR X (.type "tuple") (fun xs H Q => ∃ p ys, xs = [.ref p] ∧ SqL X.K H p ys ∧ NewT H ys Q) := by
  intro pins s σ H xs us Q I r ⟨p, ys, e, hq, q⟩
  subst e
  obtain ⟨u, rfl, rx⟩ := vals1 r
  cases rx
  obtain ⟨vs, rv, pl, hz⟩ := I.list hq
  have lv := rv.length
  refine call_tuple_list pl.isList (fun h2 kp => ?_) (by simp only [List.size_toArray] <;> omega)
  have I1 : Inv X pins σ H { s with heap := h2 } := I.kept (t' := s.toks) kp
  obtain ⟨I2, hf⟩ := inv_newT (t' := s.toks) I1 rv hz
  exact ⟨.ref h2.objs.size, _, I2, rfl, q _ _ hf rfl⟩
theorem k_tuple : CallR X (.type "tuple") (rC1 (rD1 X.K (op1 .tuple))) := c1_of fun pins s σ H x v Q I rx ⟨G, d, P, sb, r, wp, q1, q2⟩ => by
  cases d with
  | list ds => obtain ⟨a, us, rfl, h1, t⟩ := r; exact call_tupP pins s σ H _ _ Q I (vals_1 rx) ⟨a, us, rfl, h1.sq, fun l ob hl hd => q2 _ l _ wp hl rfl fun e => ⟨l, us, rfl, ⟨ob, upd_same, hd⟩, RpAll.mono e _ _ t⟩⟩
  | tuple ds => obtain ⟨a, us, rfl, h1, t⟩ := r; exact call_tuple_of pins s σ H _ _ Q I (vals_1 rx) ⟨a, us, rfl, .inr ⟨tqT_mono sb h1, q1 _ _ wp ⟨a, us, rfl, h1, t⟩⟩⟩
  | _ => exact wp.elim
theorem lst_bools {K : PySem.W.Frag} {G : L2.Hp} {xs : List D} {ns : List Bool} {us : List L2.V} (t : RpAll K G xs us) (e : asBools xs = some ns) : us = ns.map L2.V.bl := by
  have := asBools_map e
  subst this
  exact rp_bools t
theorem k_all (hc : X.calm = true) : CallR X (.builtin "all") (rC1 (rD1 X.K (op1 .all))) := c1_of fun pins s σ H x v Q I rx ⟨G, d, P, sb, r, wp, q1, q2⟩ => by
  cases d with
  | list ds =>
    obtain ⟨a, us, rfl, h1, t⟩ := r
    obtain ⟨bs, e, wp⟩ := optP_of wp
    have := lst_bools t e
    subst this
    exact cr_all hc pins s σ H _ _ Q I (vals_1 rx) ⟨a, bs, rfl, h1.sq, q1 _ _ wp rfl⟩
  | _ => exact wp.elim
theorem k_any (hc : X.calm = true) : CallR X (.builtin "any") (rC1 (rD1 X.K (op1 .any))) := c1_of fun pins s σ H x v Q I rx ⟨G, d, P, sb, r, wp, q1, q2⟩ => by
  cases d with
  | list ds =>
    obtain ⟨a, us, rfl, h1, t⟩ := r
    obtain ⟨bs, e, wp⟩ := optP_of wp
    have := lst_bools t e
    subst this
    exact cr_any hc pins s σ H _ _ Q I (vals_1 rx) ⟨a, bs, rfl, h1.sq, q1 _ _ wp rfl⟩
  | _ => exact wp.elim
theorem lst_ints {K : PySem.W.Frag} {G : L2.Hp} {xs : List D} {ns : List Int} {us : List L2.V} (t : RpAll K G xs us) (e : asInts xs = some ns) : us = ns.map L2.V.int := by
  have := asInts_map e
  subst this
  exact rp_ints t
theorem k_sum (hc : X.calm = true) : CallR X (.builtin "sum") (rC1 (rD1 X.K (op1 .sum))) := c1_of fun pins s σ H x v Q I rx ⟨G, d, P, sb, r, wp, q1, q2⟩ => by
  cases d with
  | list ds =>
    obtain ⟨a, us, rfl, h1, t⟩ := r
    obtain ⟨bs, e, wp⟩ := optP_of wp
    have := lst_ints t e
    subst this
    exact cr_sum hc pins s σ H _ _ Q I (vals_1 rx) ⟨a, bs, rfl, h1.sq, q1 _ _ wp rfl⟩
  | _ => exact wp.elim
theorem maxI_mem : ∀ (r : List Int) (x : Int), maxI x r ∈ x :: r
  | [], x => by simp [maxI]
  | y :: r, x => by
    unfold maxI
    by_cases h : x < y
    · rw [if_pos h]; have := maxI_mem r y; simp at this ⊢; exact .inr this
    · rw [if_neg h]; have := maxI_mem r x; simp at this ⊢; rcases this with h | h; exact .inl h; exact .inr (.inr h)
theorem maxI_ge : ∀ (r : List Int) (x : Int), ∀ y ∈ x :: r, y ≤ maxI x r
  | [], x, y, h => by simp at h; subst h; exact Int.le_refl _
  | z :: r, x, y, h => by
    unfold maxI
    by_cases hz : x < z
    · rw [if_pos hz]
      have := maxI_ge r z
      simp at h this
      rcases h with rfl | rfl | h
      · exact Int.le_trans (Int.le_of_lt hz) this.1
      · exact this.1
      · exact this.2 y h
    · rw [if_neg hz]
      have := maxI_ge r x
      simp at h this
      rcases h with rfl | rfl | h
      · exact this.1
      · exact Int.le_trans (by omega) this.1
      · exact this.2 y h
theorem minI_mem : ∀ (r : List Int) (x : Int), minI x r ∈ x :: r
  | [], x => by simp [minI]
  | y :: r, x => by
    unfold minI
    by_cases h : y < x
    · rw [if_pos h]; have := minI_mem r y; simp at this ⊢; exact .inr this
    · rw [if_neg h]; have := minI_mem r x; simp at this ⊢; rcases this with h | h; exact .inl h; exact .inr (.inr h)
theorem minI_le : ∀ (r : List Int) (x : Int), ∀ y ∈ x :: r, minI x r ≤ y
  | [], x, y, h => by simp at h; subst h; exact Int.le_refl _
  | z :: r, x, y, h => by
    unfold minI
    by_cases hz : z < x
    · rw [if_pos hz]
      have := minI_le r z
      simp at h this
      rcases h with rfl | rfl | h
      · exact Int.le_trans this.1 (Int.le_of_lt hz)
      · exact this.1
      · exact this.2 y h
    · rw [if_neg hz]
      have := minI_le r x
      simp at h this
      rcases h with rfl | rfl | h
      · exact this.1
      · exact Int.le_trans this.1 (by omega)
      · exact this.2 y h
/-- the greatest, the least, of a tuple of numbers -/
theorem ints_hold {h : Heap} : ∀ {ns : List Int} {us : List Value}, Vals (ns.map L2.V.int) us → PySem.W.HoldAll h us ns
  | [], _, .nil => PySem.W.HoldAll.nil
  | n :: ns, _, .cons r t => by
    obtain ⟨tk, rfl⟩ := r
    exact PySem.W.HoldAll.cons ⟨[], Reads.int n tk⟩ (ints_hold t)
theorem maxOf_eq : ∀ (ns : List Int) (n : Int), PySem.W.maxOf n ns = maxI n ns
  | [], _ => rfl
  | m :: ns, n => by
    show PySem.W.maxOf (if decide (n < m) = true then m else n) ns = maxI (if n < m then m else n) ns
    rw [maxOf_eq]
    congr 1
    simp
theorem minOf_eq : ∀ (ns : List Int) (n : Int), PySem.W.minOf n ns = minI n ns
  | [], _ => rfl
  | m :: ns, n => by
    show PySem.W.minOf (if decide (m < n) = true then m else n) ns = minI (if m < n then m else n) ns
    rw [minOf_eq]
    congr 1
    simp
theorem int_depth : PySem.W.Datum.depth Int ≤ 60 := by decide
theorem hold_int {h : Heap} {v : Value} {i : Int} (H : PySem.W.Holds h v i) : ∃ t, v = .int i t := by
  obtain ⟨as, r⟩ := H
  have r : Reads h v (.int i) as := r
  cases r
  exact ⟨_, rfl⟩
theorem k_max (hc : X.calm = true) (hu : X.A.units + 65 < cLine) : CallR X (.builtin "max") (rC1 (rD1 X.K (op1 .max))) := c1_of fun pins s σ H x v Q I rx ⟨G, d, P, sb, r, wp, q1, q2⟩ => by
  cases d with
  | list ds =>
    obtain ⟨a, us, rfl, h1, t⟩ := r
    obtain ⟨bs, e, wp⟩ := optP_of wp
    have := lst_ints t e
    subst this
    cases bs with
    | nil => exact wp.elim
    | cons n ns =>
      refine cr_max hc pins s σ H _ _ Q I (vals_1 rx) ⟨a, n :: ns, rfl, h1.sq, by simp, fun m hm hall => ?_⟩
      have e : m = maxI n ns := Int.le_antisymm (maxI_ge ns n m hm) (hall _ (maxI_mem ns n))
      subst e
      exact q1 _ _ wp rfl
  | tuple ds =>
    obtain ⟨bs, e, wp⟩ := optP_of wp
    obtain ⟨a, rfl, h1⟩ := tup_ints sb r e
    cases bs with
    | nil => exact wp.elim
    | cons n ns =>
      obtain rfl : v = Value.ref a := rx
      obtain ⟨its, rv, pt, _⟩ := I.tuple h1
      refine PySem.W.max_tuple_datum (α := Int) (vs := its.toArray) (I.ok.hd hc) (show s.heap.IsTuple a its.toArray from pt) (x := n) (xs := ns) (by simpa using ints_hold rv) (Nat.lt_of_le_of_lt (Nat.add_le_add_left (int_depth) (X.A.units + 1)) (by omega)) fun i v h' tk _ hv hk => ?_
      obtain ⟨t, rfl⟩ := hold_int hv
      rw [maxOf_eq] at *
      exact ⟨.int _, H, I.kept (t' := tk) hk, ⟨_, rfl⟩, q1 _ _ wp rfl⟩
  | _ => exact wp.elim
/-! ### sorted, pairs -/
theorem lexP_iff {p q : Int × Int} : lexP p q = true ↔ p.1 < q.1 ∨ (p.1 = q.1 ∧ p.2 < q.2) := SrtO.lexB_iff
theorem lexP_no {p q : Int × Int} : lexP p q = false ↔ ¬ (p.1 < q.1 ∨ (p.1 = q.1 ∧ p.2 < q.2)) := SrtO.lexB_no
theorem insP_perm (x : Int × Int) : ∀ l, (insP x l).Perm (x :: l)
  | [] => .refl _
  | y :: r => by
    unfold insP
    by_cases h : lexP y x = true
    · rw [if_pos h]; exact ((insP_perm x r).cons y).trans (List.Perm.swap x y r)
    · rw [if_neg h]
theorem sortP_perm : ∀ l, (sortP l).Perm l
  | [] => .refl _
  | x :: r => (insP_perm x (sortP r)).trans ((sortP_perm r).cons x)
abbrev SrP (l : List (Int × Int)) : Prop := l.Pairwise fun x y => lexP y x = false
theorem insP_sorted (x : Int × Int) : ∀ l, SrP l → SrP (insP x l)
  | [], _ => by simp [insP]
  | y :: r, h => by
    unfold insP
    unfold SrP at h ⊢
    rw [List.pairwise_cons] at h
    by_cases hx : lexP y x = true
    · rw [if_pos hx, List.pairwise_cons]
      refine ⟨fun z hz => ?_, insP_sorted x r h.2⟩
      rcases List.mem_cons.mp ((insP_perm x r).subset hz) with rfl | hz
      · have := lexP_iff.mp hx
        rw [lexP_no]
        omega
      · exact h.1 z hz
    · rw [if_neg hx, List.pairwise_cons, List.pairwise_cons]
      rw [Bool.not_eq_true] at hx
      refine ⟨fun z hz => ?_, h⟩
      rcases List.mem_cons.mp hz with rfl | hz
      · exact hx
      · have a := lexP_no.mp (h.1 z hz)
        have b := lexP_no.mp hx
        rw [lexP_no]
        omega
theorem sortP_sorted : ∀ l, SrP (sortP l)
  | [] => .nil
  | x :: r => insP_sorted x _ (sortP_sorted r)
theorem srP_uniq : ∀ {l l' : List (Int × Int)}, l.Perm l' → SrP l → SrP l' → l = l'
  | [], l', p, _, _ => (List.nil_perm.mp p).symm ▸ rfl
  | x :: r, [], p, _, _ => absurd p.length_eq (by simp)
  | x :: r, y :: t, p, h, h' => by
    unfold SrP at h h'
    rw [List.pairwise_cons] at h h'
    have e : x = y := by
      have hx : x ∈ y :: t := p.subset (by simp)
      have hy : y ∈ x :: r := p.symm.subset (by simp)
      rcases List.mem_cons.mp hx with rfl | hx
      · rfl
      · rcases List.mem_cons.mp hy with rfl | hy
        · rfl
        · have a := lexP_no.mp (h.1 y hy)
          have b := lexP_no.mp (h'.1 x hx)
          exact Prod.ext (by omega) (by omega)
    subst e
    rw [srP_uniq ((List.perm_cons x).mp p) h.2 h'.2]
theorem asPr_of {x : D} {p : Int × Int} (h : asPr x = some p) : x = prD p := by
  unfold asPr at h
  split at h
  · cases h; rfl
  · cases h
theorem asPrs_map : ∀ {xs : List D} {ps : List (Int × Int)}, asPrs xs = some ps → xs = ps.map prD
  | [], ps, h => by cases h; rfl
  | x :: r, ps, h => by
    unfold asPrs at h
    cases e1 : asPr x with
    | none => rw [e1] at h; cases h
    | some p =>
      rw [e1] at h
      have h : (asPrs r).map (p :: ·) = some ps := h
      cases e : asPrs r with
      | none => rw [e] at h; cases h
      | some es => rw [e] at h; cases h; rw [asPrs_map e, asPr_of e1]; rfl
/-- the pair that a value is -/
noncomputable def keyP (h : Heap) (v : Value) : Int × Int := open Classical in if e : ∃ p : Int × Int, Srt.IsPair h v p.1 p.2 then e.choose else (0, 0)
theorem keyP_eq {h : Heap} {v : Value} {p : Int × Int} (e : Srt.IsPair h v p.1 p.2) : keyP h v = p := by
  have ex : ∃ p : Int × Int, Srt.IsPair h v p.1 p.2 := ⟨p, e⟩
  unfold keyP
  rw [dif_pos ex]
  obtain ⟨a, o, t, u, n, e1, ho, hc, hd⟩ := ex.choose_spec
  obtain ⟨a', o', t', u', n', e1', ho', hc', hd'⟩ := e
  rw [e1] at e1'
  cases e1'
  rw [ho] at ho'
  cases ho'
  rw [hd] at hd'
  injection hd' with q1 _
  have q2 := congrArg Array.toList q1
  simp at q2
  exact Prod.ext q2.1.1 q2.2.1
theorem prs_at {G : L2.Hp} (I : Inv X pins σ H s) (sb : Sub G H) : ∀ {ps : List (Int × Int)} {us : List L2.V} {its : List Value}, RpAll X.K G (ps.map prD) us → Vals us its →
    its.map (keyP s.heap) = ps ∧ ∀ v ∈ its, Srt.IsPair s.heap v (keyP s.heap v).1 (keyP s.heap v).2 ∧ ∃ a, v = .ref a ∧ Rp X.K G (prD (keyP s.heap v)) (.ref a)
  | [], us, its, t, r => by
    have t : us = [] := t
    subst t
    cases r
    exact ⟨rfl, fun v hv => absurd hv (by simp)⟩
  | p :: ps, us, its, t, r => by
    obtain ⟨u, us', rfl, ru, t⟩ := t
    cases r with
    | cons r1 r2 =>
      rename_i w0 its'
      obtain ⟨i1, i2⟩ := prs_at I sb t r2
      have ru0 := ru
      obtain ⟨a, xs, rfl, hq, tx⟩ := ru
      obtain ⟨v1, vs1, rfl, q1, v2, vs2, rfl, q2, q3⟩ := tx
      have q1 : v1 = .int p.1 := q1
      have q2 : v2 = .int p.2 := q2
      have q3 : vs2 = [] := q3
      subst q1 q2 q3
      obtain ⟨its2, rr, ⟨o, ho, hc, n, hd⟩, _⟩ := I.tuple (tqT_mono sb hq)
      obtain ⟨x1, x2, rfl, ⟨t1, rfl⟩, ⟨t2, rfl⟩⟩ := vals2 rr
      have r1 : w0 = Value.ref a := r1
      subst r1
      have ip : Srt.IsPair s.heap (.ref a) p.1 p.2 := ⟨a, o, t1, t2, n, rfl, ho, hc, hd⟩
      have ek := keyP_eq ip
      refine ⟨by rw [List.map_cons, ek, i1], fun v hv => ?_⟩
      rcases List.mem_cons.mp hv with rfl | hv
      · rw [ek]; exact ⟨ip, a, rfl, ru0⟩
      · exact i2 v hv
/-- sorted of a tuple of numbers -/
theorem sorted_tupI {prog : Program} {ww : World} {A : Around} {E : Value → Shared → Prop} {s : Shared} {l : Addr} {vs : List Value} {ns : List Int} {Q : Value → Shared → Prop} (hl : s.heap.IsTuple l vs.toArray) (hz : vs.length ≤ sizeLine) (hi : IntsAre vs ns)
    (h : ∀ (out : List Value) (e : Nat) (h' : Heap) (p : Addr), SrtO.Srtd SrtO.ltIv out → SrtO.Stb SrtO.ltIv out vs → (∀ b o, s.heap.get? b = some o → h'.get? b = some o) → s.heap.get? p = none → h'.get? p = some (seqObj "list" out.toArray e) → Q (.ref p) { s with heap := h' }) :
    wpAny (model prog ww) A (call (.builtin "sorted") [.ref l]) Q E s := by
  obtain ⟨o, ho, hc, n, hd⟩ := hl
  refine PySem.Calls.call_function_entry kind_sorted plain_sorted entry_sorted (args_sorted1 _) ?_; unfold Builtin.«sorted»
  refine wpAny_bind (m := checkCount "sorted" 1 1 _) (wpAny_pure (wpAny_bind (wpAny_collect_seq l (.inr rfl) ho hc hd (fun h1 k1 => ?_) (by simpa using hz))))
  refine wpAny_bind (wpAny_newList ?_ (by simpa using hz))
  have e1 : vs.toArray.toList = vs := by simp
  rw [e1]
  have at1 : (h1.push (seqObj "list" vs.toArray 0)).get? h1.objs.size = some (seqObj "list" vs.toArray 0) := Heap.get?_push_size _ rfl
  have new1 : s.heap.get? h1.objs.size = none := by
    cases z : s.heap.get? h1.objs.size with
    | none => rfl
    | some u => exact absurd (Heap.lt_size (k1 _ _ z)) (Nat.lt_irrefl _)
  have old1 : ∀ b u, s.heap.get? b = some u → b ≠ h1.objs.size ∧ b < h1.objs.size := fun b u e => ⟨Nat.ne_of_lt (Heap.lt_size (k1 b u e)), Heap.lt_size (k1 b u e)⟩
  show wpAny _ _ _ _ _ { s with heap := h1.push (seqObj "list" vs.toArray 0) }
  refine wpAny_bind (wpAny_holding (wpAny_call_entry slot_list_sort ⟨_, at1, rfl⟩ entry_list_sort (SrtO.list_sort_ord SrtO.swo_int at1 hz (fun h2 => SrtO.ints_sortable hi h2) fun out hs hb => ⟨_, rfl, ?_⟩) (args_list_sort _)))
  obtain ⟨e, he⟩ := sortedHeap_at (vs := vs) (out := out.toArray) at1
  refine wpAny_pure ⟨_, rfl, h out e _ _ hs hb (fun b u q => ?_) new1 he⟩
  obtain ⟨n1, n2⟩ := old1 b u q
  rw [sortedHeap_old n1 (by rw [size_push']; exact Nat.lt_succ_of_lt n2)]
  exact Heap.get?_push_of_some _ (k1 b u q)
theorem pair_depth : PySem.W.Datum.depth (Int × Int) ≤ 60 := by decide
theorem prs_hold {h : Heap} : ∀ (its : List Value), (∀ v ∈ its, Srt.IsPair h v (keyP h v).1 (keyP h v).2) → PySem.W.HoldAll h its (its.map (keyP h))
  | [], _ => PySem.W.HoldAll.nil
  | v :: its, hp => by
    refine PySem.W.HoldAll.cons ?_ (prs_hold its fun u hu => hp u (by simp [hu]))
    have ip := hp v (by simp)
    generalize keyP h v = p at ip
    obtain ⟨a, o, t, u, n, e, ho, hc, hd⟩ := ip
    subst e
    exact ⟨_, Reads.tuple ho hc hd (.cons (Reads.int p.1 t) (.cons (Reads.int p.2 u) .nil))⟩
theorem k_min (hc : X.calm = true) (hu : X.A.units + 65 < cLine) : CallR X (.builtin "min") (rC1 (rD1 X.K (op1 .min))) := c1_of fun pins s σ H x v Q I rx ⟨G, d, P, sb, r, wp, q1, q2⟩ => by
  cases d with
  | list ds =>
    obtain ⟨a, us, rfl, h1, t⟩ := r
    cases e : asInts ds with
    | some bs =>
      simp only [op1, e] at wp
      have := lst_ints t e
      subst this
      cases bs with
      | nil => exact wp.elim
      | cons n ns =>
        refine cr_min hc pins s σ H _ _ Q I (vals_1 rx) ⟨a, n :: ns, rfl, h1.sq, by simp, fun m hm hall => ?_⟩
        have e : m = minI n ns := Int.le_antisymm (hall _ (minI_mem ns n)) (minI_le ns n m hm)
        subst e
        exact q1 _ _ wp rfl
    | none =>
      simp only [op1, e] at wp
      obtain ⟨ps, ep, wp2⟩ := optP_of wp
      clear wp
      have := asPrs_map ep
      subst this
      obtain ⟨its, rv, hl, hz⟩ := I.list h1.sq
      obtain rfl : v = Value.ref a := rx
      obtain ⟨k1, k2⟩ := prs_at I sb t rv
      have hold := prs_hold its fun v hv => (k2 v hv).1
      rw [k1] at hold
      cases ps with
      | nil => cases e
      | cons x xs =>
        refine PySem.W.min_list_datum (α := Int × Int) (vs := its.toArray) (I.ok.hd hc) hl.isList (x := x) (xs := xs) (by simpa using hold) (Nat.lt_of_le_of_lt (Nat.add_le_add_left (pair_depth) (X.A.units + 1)) (by omega)) fun i v h' tk hi hv hk => ?_
        have vm : v ∈ its := by
          have := List.mem_of_getElem? (l := its) (i := i) (a := v) (by simpa using hi)
          exact this
        obtain ⟨_, b, rfl, rp⟩ := k2 v vm
        have pm : keyP s.heap (Value.ref b) ∈ x :: xs := by rw [← k1]; exact List.mem_map.mpr ⟨_, vm, rfl⟩
        exact ⟨.ref b, H, I.kept (t' := tk) hk, rfl, q1 _ _ (wp2 _ pm) rp⟩
  | tuple ds =>
    obtain ⟨bs, e, wp⟩ := optP_of wp
    obtain ⟨a, rfl, h1⟩ := tup_ints sb r e
    cases bs with
    | nil => exact wp.elim
    | cons n ns =>
      obtain rfl : v = Value.ref a := rx
      obtain ⟨its, rv, pt, _⟩ := I.tuple h1
      refine PySem.W.min_tuple_datum (α := Int) (vs := its.toArray) (I.ok.hd hc) (show s.heap.IsTuple a its.toArray from pt) (x := n) (xs := ns) (by simpa using ints_hold rv) (Nat.lt_of_le_of_lt (Nat.add_le_add_left (int_depth) (X.A.units + 1)) (by omega)) fun i v h' tk _ hv hk => ?_
      obtain ⟨t, rfl⟩ := hold_int hv
      rw [minOf_eq] at *
      exact ⟨.int _, H, I.kept (t' := tk) hk, ⟨_, rfl⟩, q1 _ _ wp rfl⟩
  | _ => exact wp.elim
theorem asLs_map : ∀ {xs : List D} {ls : List (List Int)}, asLs xs = some ls → xs = ls.map lsD
  | [], ls, h => by cases h; rfl
  | x :: r, ls, h => by
    cases x with
    | list ys =>
      have h : (match asInts ys with | some ns => (asLs r).map (ns :: ·) | none => none) = some ls := h
      cases e1 : asInts ys with
      | none => rw [e1] at h; cases h
      | some ns =>
        rw [e1] at h
        obtain ⟨l2, e2, e3⟩ := Option.map_eq_some_iff.mp h
        subst e3
        rw [asLs_map e2, asInts_map e1]
        rfl
    | _ => cases h
theorem shk_lsD (b : List Int) : PyData.canLay0 (lsD b) = true ∧ (lsD b).depth ≤ 2 := by
  refine ⟨?_, ?_⟩
  · show PyData.canLayAll0 (b.map PyData.int) = true
    induction b with
    | nil => rfl
    | cons x b ih => show (true && PyData.canLayAll0 (b.map PyData.int)) = true; rw [ih]; rfl
  · show PyData.depthAll (b.map PyData.int) + 1 ≤ 2
    rw [PySem.W.depth_ints]
    omega
theorem ls_each {G : L2.Hp} (I : Inv X pins σ H s) (sb : Sub G H) : ∀ {ls : List (List Int)} {us : List L2.V} {its : List Value}, RpAll X.K G (ls.map lsD) us → Vals us its →
    PySem.W.EachIs (fun v b => ∃ a, v = Value.ref a ∧ Rp X.K G (lsD b) (.ref a)) its ls ∧ PySem.W.EachIs (fun v b => ∃ as, Reads s.heap v (lsD b) as) its ls
  | [], us, its, t, r => by
    have t : us = [] := t
    subst t
    cases r
    exact ⟨.nil, .nil⟩
  | b :: ls, us, its, t, r => by
    obtain ⟨u, us', rfl, ru, t⟩ := t
    cases r with
    | cons r1 r2 =>
      obtain ⟨i1, i2⟩ := ls_each I sb t r2
      have rd := Dp.reads I (lsD b) u _ (Rp.dp _ _ (Rp.mono sb _ _ ru) (shk_lsD b).1) r1
      have ru0 := ru
      obtain ⟨a, xs, rfl, _, _⟩ := ru
      exact ⟨.cons ⟨a, r1, ru0⟩ i1, .cons rd i2⟩
theorem each_rp {G : L2.Hp} {K : PySem.W.Frag} : ∀ {out : List Value} {ls : List (List Int)}, PySem.W.EachIs (fun v b => ∃ a, v = Value.ref a ∧ Rp K G (lsD b) (.ref a)) out ls → (∀ u ∈ out, ∃ a, u = Value.ref a) ∧ RpAll K G (ls.map lsD) (out.map backV)
  | _, _, .nil => ⟨fun u hu => absurd hu (by simp), rfl⟩
  | _, _, .cons ⟨a, e, rp⟩ h => by
    obtain ⟨h1, h2⟩ := each_rp h
    subst e
    refine ⟨fun u hu => ?_, _, _, rfl, rp, h2⟩
    rcases List.mem_cons.mp hu with rfl | hu
    · exact ⟨a, rfl⟩
    · exact h1 u hu
theorem k_sorted (hu : X.A.units + 65 < cLine) : CallR X (.builtin "sorted") (rC1 (rF1 X.K (op1 .sorted))) := c1_of fun pins s σ H x v Q I rx ⟨G, d, P, sb, r, wp, q⟩ => by
  cases d with
  | list ds =>
    obtain ⟨a, us, rfl, h1, t⟩ := r
    have wp : optP (sortD ds) fun ys => P (.list ys) := wp
    unfold sortD at wp
    cases e : asInts ds with
    | some bs =>
      simp only [e] at wp
      have wp : P (.list ((sortI bs).map PyData.int)) := wp
      have := lst_ints t e
      subst this
      refine cr_sortedI pins s σ H _ _ Q I (vals_1 rx) ⟨a, bs, rfl, h1.sq, fun ns p hp hs hn => ?_⟩
      have e : ns = sortI bs := sorted_uniq (hp.trans (sortI_perm bs).symm) hs (sortI_sorted bs)
      subst e
      exact q _ _ p wp (rpAll_ints _) hn
    | none =>
      simp only [e] at wp
      cases ep : asPrs ds with
      | some ps =>
        simp only [ep] at wp
        have wp2 : P (.list ((sortP ps).map prD)) := wp
        have := asPrs_map ep
        subst this
        obtain ⟨its, rv, hl, hz⟩ := I.list h1.sq
        obtain rfl : v = Value.ref a := rx
        obtain ⟨k1, k2⟩ := prs_at I sb t rv
        refine SrtO.sorted_pairsO (k := keyP s.heap) hl.isList (by rw [← rv.length]; exact hz) (fun v hv => (k2 v hv).1) fun h' d out s1 s2 kp hd hn => ?_
        have e1 : out.map (keyP s.heap) = sortP ps := by
          refine srP_uniq ?_ (List.pairwise_map.mpr s1) (sortP_sorted ps)
          exact ((s2.perm.map _).trans (by rw [k1])).trans (sortP_perm ps).symm
        have h3 : ∀ u ∈ out, ∃ a, u = Value.ref a := fun u hu => by
          obtain ⟨_, a, e, _⟩ := k2 u (s2.perm.mem_iff.mp hu)
          exact ⟨a, e⟩
        have rp : RpAll X.K G ((out.map (keyP s.heap)).map prD) (out.map backV) := by
          have gen : ∀ l : List Value, (∀ u ∈ l, u ∈ its) → RpAll X.K G ((l.map (keyP s.heap)).map prD) (l.map backV) := by
            intro l
            induction l with
            | nil => intro _; rfl
            | cons u l ih =>
              intro hu
              obtain ⟨_, a, e, rp⟩ := k2 u (hu u (by simp))
              refine ⟨_, _, rfl, ?_, ih fun y hy => hu y (by simp [hy])⟩
              rw [show backV u = .ref a by rw [e]; rfl]
              exact rp
          exact gen out fun u hu => s2.perm.mem_iff.mp hu
        rw [e1] at rp
        obtain ⟨n, hn⟩ := hn
        refine ⟨.ref d, upd H d (.lst (out.map backV)), I.laid (t' := s.toks) kp hd ⟨?_, out, n, vals_back h3, hn⟩, rfl, q _ _ d wp2 rp (I.hok.fresh hd)⟩
        rw [List.length_map, s2.perm.length_eq, ← rv.length]
        exact hz
      | none =>
        simp only [ep] at wp
        obtain ⟨ys, ey, wp2⟩ := optP_of wp
        obtain ⟨ls, el, rfl⟩ := Option.map_eq_some_iff.mp ey
        have := asLs_map el
        subst this
        obtain ⟨its, rv, hl, hz⟩ := I.list h1.sq
        obtain rfl : v = Value.ref a := rx
        obtain ⟨k1, k2⟩ := ls_each I sb t rv
        have k3 := k1.length
        refine PySem.W.sorted_data (enc := lsD) hl.isList k1 k2 (PySem.W.AllAlike.of fun b b' => by
          show PySem.W.alike (.list (b.map PyData.int)) (.list (b'.map PyData.int)) = true
          rw [PySem.W.alike]
          exact PySem.W.alike_ints b b') (PySem.W.Sortable.others fun b => ⟨fun z => (nomatch z), fun xs z => (nomatch z)⟩) (by rw [← k3, ← rv.length]; exact hz) (fun b _ => by
          have : (lsD b).depth ≤ 2 := (shk_lsD b).2
          omega) fun out ho he => ?_
        rw [show PySem.W.dataLe false lsD = fun p q => decide (p ≤ q) from PySem.W.dataLe_rows (fun b => b)] at he
        have he : PySem.W.EachIs _ out (sortL ls) := he
        obtain ⟨e, hat⟩ := sortedAll_at s.heap its out.toArray
        obtain ⟨h3, rp⟩ := each_rp he
        refine ⟨.ref (s.heap.objs.size + 1), upd H (s.heap.objs.size + 1) (.lst (out.map backV)), I.laid (t' := s.toks) (fun b o e => sortedAll_old e) (Nat.le_succ _) ⟨?_, out, e, vals_back h3, hat⟩, rfl, q _ _ _ wp2 rp (I.hok.fresh (Nat.le_succ _))⟩
        rw [List.length_map, ho, ← k3, ← rv.length]
        exact hz
  | tuple ds =>
    obtain ⟨bs, e, wp⟩ := optP_of wp
    obtain ⟨a, rfl, h1⟩ := tup_ints sb r e
    obtain rfl : v = Value.ref a := rx
    obtain ⟨its, rv, pt, hz⟩ := I.tuple h1
    have hi := rv.ints
    have hlen : its.length ≤ sizeLine := by rw [← rv.length]; exact hz
    refine sorted_tupI (show s.heap.IsTuple a its.toArray from pt) hlen hi fun out e h' p s1 s2 kp np he => ?_
    obtain ⟨k1, k2, k3⟩ := SrtO.ints_out hi s1 s2
    have eq : out.map SrtO.iv = sortI bs := sorted_uniq (k2.trans (sortI_perm bs).symm) k3 (sortI_sorted bs)
    have hn : H p = none := I.hok.gone np
    have ol : ((out.map SrtO.iv).map L2.V.int).length ≤ sizeLine := by
      rw [List.length_map, k2.length_eq]
      rw [List.length_map] at hz
      exact hz
    refine ⟨.ref p, upd H p (.lst ((out.map SrtO.iv).map L2.V.int)), I.laidN (t' := s.toks) kp np hn ⟨ol, out, e, vals_of_ints k1, he⟩, rfl, ?_⟩
    rw [eq]
    exact q _ _ p wp (rpAll_ints _) hn
  | _ => exact wp.elim
theorem ds_each {G : L2.Hp} (I : Inv X pins σ H s) (sb : Sub G H) : ∀ {xs : List D} {us : List L2.V} {its : List Value}, (∀ d ∈ xs, ∃ x r, d = .tuple (x :: r)) → (∀ d ∈ xs, PyData.canLay0 d = true) → RpAll X.K G xs us → Vals us its →
    PySem.W.EachIs (fun v b => ∃ a, v = Value.ref a ∧ Rp X.K G b (.ref a)) its xs ∧ PySem.W.EachIs (fun v b => ∃ as, Reads s.heap v b as) its xs
  | [], us, its, _, _, t, r => by
    have t : us = [] := t
    subst t
    cases r
    exact ⟨.nil, .nil⟩
  | b :: ls, us, its, ht, hc, t, r => by
    obtain ⟨u, us', rfl, ru, t⟩ := t
    cases r with
    | cons r1 r2 =>
      obtain ⟨i1, i2⟩ := ds_each I sb (fun d hd => ht d (by simp [hd])) (fun d hd => hc d (by simp [hd])) t r2
      have rd := Dp.reads I b u _ (Rp.dp _ _ (Rp.mono sb _ _ ru) (hc b (by simp))) r1
      have ru0 := ru
      obtain ⟨x, y, rfl⟩ := ht b (by simp)
      obtain ⟨a, xs, rfl, _, _⟩ := ru
      exact ⟨.cons ⟨a, r1, ru0⟩ i1, .cons rd i2⟩
theorem each_rpD {G : L2.Hp} {K : PySem.W.Frag} : ∀ {out : List Value} {ls : List D}, PySem.W.EachIs (fun v b => ∃ a, v = Value.ref a ∧ Rp K G b (.ref a)) out ls → (∀ u ∈ out, ∃ a, u = Value.ref a) ∧ RpAll K G ls (out.map backV)
  | _, _, .nil => ⟨fun u hu => absurd hu (by simp), rfl⟩
  | _, _, .cons ⟨a, e, rp⟩ h => by
    obtain ⟨h1, h2⟩ := each_rpD h
    subst e
    refine ⟨fun u hu => ?_, _, _, rfl, rp, h2⟩
    rcases List.mem_cons.mp hu with rfl | hu
    · exact ⟨a, rfl⟩
    · exact h1 u hu
/-- sorted(xs), xs a list of tuples -/
theorem k_sortt (hu : X.A.units + 65 < cLine) : CallR X (.builtin "sorted") (rC1 (rF1 X.K (op1 .sortt))) := c1_of fun pins s σ H x v Q I rx ⟨G, d, P, sb, r, wp, q⟩ => by
  cases d with
  | list ds =>
    obtain ⟨a, us, rfl, h1, t⟩ := r
    obtain ⟨⟨al, ht, hc⟩, wp2⟩ := wp
    obtain ⟨its, rv, hl, hz⟩ := I.list h1.sq
    obtain rfl : v = Value.ref a := rx
    obtain ⟨k1, k2⟩ := ds_each I sb ht (fun d hd => (hc d hd).1) t rv
    have k3 := k1.length
    refine PySem.W.sorted_data (enc := id) hl.isList k1 k2 (by rw [List.map_id]; exact al) (by rw [List.map_id]; exact .inl ht) (by rw [← k3, ← rv.length]; exact hz) (fun b hb => by
      have : (id b).depth ≤ 30 := (hc b hb).2
      omega) fun out ho he => ?_
    obtain ⟨e, hat⟩ := sortedAll_at s.heap its out.toArray
    obtain ⟨h3, rp⟩ := each_rpD he
    refine ⟨.ref (s.heap.objs.size + 1), upd H (s.heap.objs.size + 1) (.lst (out.map backV)), I.laid (t' := s.toks) (fun b o e => sortedAll_old e) (Nat.le_succ _) ⟨?_, out, e, vals_back h3, hat⟩, rfl, q _ _ _ wp2 rp (I.hok.fresh (Nat.le_succ _))⟩
    rw [List.length_map, ho, ← k3, ← rv.length]
    exact hz
  | _ => exact wp.elim
/-- where the object stands with its keys, be the dict empty or not -/
theorem dk_keys {G : L2.Hp} (sb : Sub G H) {a : Addr} {t : Bool} {kvs : List (D × D)} {us : List L2.V} (I : Inv X pins σ H s) (hd : DcA G H t a (kvs.map (·.1)) us) (hk : ∀ p ∈ kvs, keyB true p.1 = true) :
    (a == sysModules) = false ∧ kvs.length ≤ sizeLine ∧ ∃ xs, s.heap.DictOfH (nestedKind X.prog X.w) a xs ∧ xs.length = kvs.length ∧ RpAll X.K G (kvs.map (·.1)) (xs.map fun x => L2.V.ref x.2.1) := by
  cases t with
  | false =>
    obtain ⟨kus, ha, ek, eu⟩ := hd
    have e0 : kvs = [] := by
      cases kvs with
      | nil => rfl
      | cons p kvs =>
        exfalso
        have := hk p (by simp)
        cases kus with
        | nil => cases ek
        | cons c kus =>
          have ek : p.1 :: kvs.map (·.1) = keyD c.1 :: kus.map (fun p => keyD p.1) := ek
          injection ek with e1 _
          rw [e1] at this
          cases hcc : c.1 with
          | inl i => rw [hcc] at this; cases this
          | inr z => rw [hcc] at this; cases this
    subst e0
    have e1 : kus = [] := by
      cases kus with
      | nil => rfl
      | cons c kus => cases ek
    subst e1
    obtain ⟨hn, dd⟩ := empty_T I ha
    exact ⟨hn, Nat.zero_le _, [], dd, rfl, rfl⟩
  | true =>
    obtain ⟨rows, ha, ek, eu, nks⟩ := hd
    obtain ⟨hn, hl, xs, pr, dd⟩ := tdic I ha fun p hp => ⟨NkR.mono sb _ _ (nks p hp).1, (nks p hp).2⟩
    have e1 : kvs.length = rows.length := by
      have := congrArg List.length ek
      rwa [List.length_map, List.length_map] at this
    refine ⟨hn, by rw [e1]; exact hl, xs, dd, by rw [e1, pair_len pr], ?_⟩
    rw [ek]
    exact rows_rp pr nks
/-- len(d), the keys are tuples -/
theorem k_lenk : CallR X (.builtin "len") (rC1 (rD1 X.K (op1 .lenk))) := c1_of fun pins s σ H x v Q I rx ⟨G, d, P, sb, r, wp, q1, q2⟩ => by
  cases d with
  | dict kvs =>
    obtain ⟨a, t, us, rfl, hd, tt⟩ := r
    obtain ⟨hk, wp⟩ := wp
    obtain rfl : v = Value.ref a := rx
    obtain ⟨hn, hl, xs, dd, xl, _⟩ := dk_keys sb I hd hk
    refine call_len_dictH hn dd (by rw [xl]; rw [sizeLine_eq] at hl; omega) ?_
    rw [xl]
    exact ⟨.int kvs.length, H, I.tok _, ⟨_, rfl⟩, q1 _ _ wp rfl⟩
  | _ => exact wp.elim
mutual
theorem reads_there {h : Heap} : ∀ {v : Value} {d : PyData} {as : List Addr}, Reads h v d as → ∀ x ∈ as, ∃ o, h.get? x = some o
  | _, _, _, .none, x, hx => absurd hx List.not_mem_nil
  | _, _, _, .bool b, x, hx => absurd hx List.not_mem_nil
  | _, _, _, .int i t, x, hx => absurd hx List.not_mem_nil
  | _, _, _, .str _ t, x, hx => absurd hx List.not_mem_nil
  | _, _, _, .list h1 h2 h3 h4, x, hx => by
    rcases List.mem_cons.mp hx with rfl | hx
    · exact ⟨_, h1⟩
    · exact readsAll_there h4 x hx
  | _, _, _, .tuple h1 h2 h3 h4, x, hx => readsAll_there h4 x hx
  | _, _, _, .dict h1 h2 h3 h4 h5, x, hx => by
    rcases List.mem_cons.mp hx with rfl | hx
    · exact ⟨_, h1⟩
    · rcases List.mem_append.mp hx with hx | hx
      · exact readsAll_there h4 x hx
      · exact readsAll_there h5 x hx
theorem readsAll_there {h : Heap} : ∀ {vs : List Value} {ds : List PyData} {as : List Addr}, ReadsAll h vs ds as → ∀ x ∈ as, ∃ o, h.get? x = some o
  | _, _, _, .nil, x, hx => absurd hx List.not_mem_nil
  | _, _, _, .cons h1 h2, x, hx => by
    rcases List.mem_append.mp hx with hx | hx
    · exact reads_there h1 x hx
    · exact readsAll_there h2 x hx
end
/-- sorted(d): its keys in a list of their own, sorted -/
theorem sorted_src {prog : Program} {w : World} {A : Around} {E : Value → Shared → Prop} {s : Shared} {T : String} {r d : Addr} {n : Nat} {P : Nat → Value → Prop} {OK : Heap → Prop} {Q : Value → Shared → Prop} (K : PySem.W.KdlSrc prog w T r d n P OK) (hh : A.handled = none) (hok : OK s.heap) (hn : n ≤ sizeLine)
    (h : ∀ (h' : Heap) (tk : Nat) (acc : Array Value), (∀ b o, s.heap.get? b = some o → h'.get? b = some o) → ItemsOf P acc n →
      wpAny (model prog w) A.in1 (call (.builtin "list.sort") [.ref h'.objs.size]) (fun _ s' => Q (.ref h'.objs.size) s') E { s with heap := h'.push { cls := .type "list", data := .seq acc.toList.toArray }, toks := tk }) :
    wpAny (model prog w) A (call (.builtin "sorted") [.ref r]) Q E s := by
  refine Calls.call_function_entry PyProof.Rows.kind_sorted PyProof.Rows.plain_sorted PyProof.Rows.entry_sorted (PyProof.Rows.args_sorted1 _) ?_
  unfold Builtin.«sorted»
  refine wpAny_bind (m := checkCount "sorted" 1 1 _) (wpAny_pure ?_)
  refine wpAny_bind (PySem.W.kdu_collect (A := A.in1) K hh hok hn fun h' tk acc hk hacc => ?_)
  have hl : acc.toList.length = n := by rw [Array.length_toList]; exact hacc.1
  refine wpAny_bind (wpAny_newList ?_ (by rw [hl]; exact hn))
  refine wpAny_bind (wpAny_holding (wpAny_mono (h h' tk acc hk hacc) (fun _ s' x => ?_) fun _ _ e => e))
  exact wpAny_pure ⟨_, rfl, x⟩
theorem k_sortk (hc : X.calm = true) (hu : X.A.units + 65 < cLine) : CallR X (.builtin "sorted") (rC1 (rF1 X.K (op1 .sortk))) := c1_of fun pins s σ H x v Q I rx ⟨G, d, P, sb, r, wp, q⟩ => by
  cases d with
  | dict kvs =>
    obtain ⟨a, t, us, rfl, hd, tt⟩ := r
    obtain ⟨⟨hk, al, ht, hca⟩, wp2⟩ := wp
    obtain rfl : v = Value.ref a := rx
    obtain ⟨hn, hl, xs, ⟨o, es, ep, ho, hx, hdat, he, _, _⟩, xl, rpk⟩ := dk_keys sb I hd hk
    have hsz : es.size = xs.length := by
      have := congrArg List.length he
      rw [List.length_map] at this
      simpa using this
    refine sorted_src (KdlSrc.rawDict hn) (I.ok.hd hc) (show s.heap.DictRaw a es ep from ⟨o, ho, hx, hdat⟩) (by rw [hsz, xl]; exact hl) fun h' tk acc' kp hacc => ?_
    have e : acc'.toList = xs.map fun x => Value.ref x.2.1 := by
      refine List.ext_getElem (by rw [List.length_map, Array.length_toList, hacc.1, hsz]) fun i h1 h2 => ?_
      have h1' : i < acc'.size := by simpa using h1
      have h2' : i < xs.length := by simpa using h2
      obtain ⟨hi, ev⟩ := hacc.2 i acc'[i] (Array.getElem?_eq_getElem h1')
      rw [Array.getElem_toList, List.getElem_map, ev]
      have : es[i] = entryOfKey (nestedKind X.prog X.w) xs[i] := by
        have z : es.toList[i]'(by simpa using hi) = (xs.map (entryOfKey (nestedKind X.prog X.w)))[i]'(by rw [List.length_map]; exact h2') := by simp only [he]
        rw [List.getElem_map, Array.getElem_toList] at z
        exact z
      rw [this]
      rfl
    rw [e]
    have I1 : Inv X pins σ H { s with heap := h', toks := tk } := I.kept (t' := tk) kp
    obtain ⟨k1, k2⟩ := ds_each I sb ht (fun d hd => (hca d hd).1) rpk vals_refs
    have k3 := k1.length
    have hat : (h'.push { cls := .type "list", data := .seq (xs.map fun x => Value.ref x.2.1).toArray }).get? h'.objs.size = some { cls := .type "list", data := .seq (xs.map fun x => Value.ref x.2.1).toArray } := Heap.get?_push_size _ rfl
    refine PySem.W.list_sort_data (enc := id) (n := 0) hat k1 ((PySem.W.each_mem k2).mono fun v b hb => ?_) (by rw [List.map_id]; exact al) (by rw [List.map_id]; exact .inl ht) (by rw [List.length_map]; exact hl) (fun b hb => by
      have : (id b).depth ≤ 30 := (hca b hb).2
      have := Around.in1_units X.A
      omega) fun out hol heo => ?_
    · obtain ⟨⟨as, hr⟩, _⟩ := hb
      refine ⟨as, PyProof.Rows.Reads.keeps (fun b o e => Heap.get?_push_of_some _ (kp b o e)) hr, fun hin => ?_⟩
      obtain ⟨o2, ho2⟩ := reads_there hr _ hin
      exact absurd (Heap.lt_size (kp _ _ ho2)) (Nat.lt_irrefl _)
    · obtain ⟨c2, hat2⟩ := PyProof.Rows.sortedHeap_at (out := out.toArray) (show (h'.push { cls := .type "list", data := .seq (xs.map fun x => Value.ref x.2.1).toArray }).get? h'.objs.size = some (seqObj "list" (xs.map fun x => Value.ref x.2.1).toArray 0) from hat)
      obtain ⟨h3, rp⟩ := each_rpD heo
      have np : s.heap.get? h'.objs.size = none := by
        cases eg : s.heap.get? h'.objs.size with
        | none => rfl
        | some o2 => exact absurd (Heap.lt_size (kp _ _ eg)) (Nat.lt_irrefl _)
      have kp2 : ∀ b u, s.heap.get? b = some u → (sortedHeap (h'.push { cls := .type "list", data := .seq (xs.map fun x => Value.ref x.2.1).toArray }) h'.objs.size (xs.map fun x => Value.ref x.2.1) out.toArray).get? b = some u := fun b u eb => by
        have h1 := kp b u eb
        have h2 := Heap.get?_push_of_some { cls := .type "list", data := .seq (xs.map fun x => Value.ref x.2.1).toArray } h1
        rw [PyProof.Rows.sortedHeap_old (Nat.ne_of_lt (Heap.lt_size h1)) (Heap.lt_size h2)]
        exact h2
      have hn0 : H h'.objs.size = none := I.hok.gone np
      have lo : (out.map backV).length ≤ sizeLine := by rw [List.length_map, hol, List.length_map]; exact hl
      exact ⟨.ref h'.objs.size, upd H h'.objs.size (.lst (out.map backV)), I.laidN (t' := tk) kp2 np hn0 ⟨lo, out, c2, vals_back h3, hat2⟩, rfl, q _ _ _ wp2 rp hn0⟩
  | _ => exact wp.elim
theorem k_int : CallR X (.type "int") (rC1 (rD1 X.K (op1 .int))) := c1_of fun pins s σ H x v Q I rx ⟨G, d, P, sb, r, wp, q1, q2⟩ => by
  cases d with
  | int i => have r : x = .int i := r; subst r; exact call_int1 pins s σ H _ _ Q I (vals_1 rx) (.inl ⟨i, rfl, q1 _ _ wp rfl⟩)
  | bool b => have r : x = .bl b := r; subst r; exact call_int1 pins s σ H _ _ Q I (vals_1 rx) (.inr ⟨b, rfl, q1 _ _ wp rfl⟩)
  | str z =>
    have r : x = .str z := r
    subst r
    obtain ⟨hl, wp⟩ := wp
    obtain ⟨i, e, wp⟩ := optP_of wp
    exact call_int_str pins s σ H _ _ Q I (vals_1 rx) ⟨z, i, rfl, e, hl, q1 _ _ wp rfl⟩
  | _ => exact wp.elim
theorem k_str : CallR X (.type "str") (rC1 (rD1 X.K (op1 .str))) := c1_of fun pins s σ H x v Q I rx ⟨G, d, P, sb, r, wp, q1, q2⟩ => by
  cases d with
  | int i =>
    have r : x = .int i := r
    subst r
    obtain ⟨hb, wp⟩ := wp
    exact call_str_int pins s σ H _ _ Q I (vals_1 rx) ⟨i, rfl, Nat.lt_of_lt_of_le (PySem.Flt.log2_lt_of (by omega) hb) (by omega), q1 _ _ wp rfl⟩
  | _ => exact wp.elim
theorem k_min2 (hc : X.calm = true) : CallR X (.builtin "min") (rC2 (rD2 X.K (op2 .min2))) := c2_of fun pins s σ H x y v u Q I rx ry ⟨G, d1, d2, P, sb, r1, r2, wp, q1, q2⟩ => by
  obtain ⟨i, rfl, wp⟩ := intP_of wp
  obtain ⟨j, rfl, wp⟩ := intP_of wp
  have r1 : x = .int i := r1
  have r2 : y = .int j := r2
  subst r1 r2
  exact call_min2 hc pins s σ H _ _ Q I (vals_2 rx ry) ⟨i, j, rfl, q1 _ _ wp rfl⟩
theorem k_max2 (hc : X.calm = true) : CallR X (.builtin "max") (rC2 (rD2 X.K (op2 .max2))) := c2_of fun pins s σ H x y v u Q I rx ry ⟨G, d1, d2, P, sb, r1, r2, wp, q1, q2⟩ => by
  obtain ⟨i, rfl, wp⟩ := intP_of wp
  obtain ⟨j, rfl, wp⟩ := intP_of wp
  have r1 : x = .int i := r1
  have r2 : y = .int j := r2
  subst r1 r2
  exact call_max2 hc pins s σ H _ _ Q I (vals_2 rx ry) ⟨i, j, rfl, q1 _ _ wp rfl⟩
/-! ### len -/
theorem DcA.len {G : L2.Hp} {t : Bool} {a : Addr} {ks : List D} {us : List L2.V} (h : DcA G H t a ks us) : ks.length = us.length := by
  cases t with
  | false => obtain ⟨kus, _, e1, e2⟩ := h; rw [e1, e2, List.length_map, List.length_map]
  | true => obtain ⟨kus, _, e1, e2, _⟩ := h; rw [e1, e2, List.length_map, List.length_map]
theorem k_lenD {G : L2.Hp} {t : Bool} {a : Addr} {kvs : List (D × D)} {us : List L2.V} {vs : List Value} {Q : VK} (hl : (kvs.map (·.1)).length = us.length) (I : Inv X pins σ H s) (hd : DcA G H t a (kvs.map (·.1)) us) (hb : ∀ p ∈ kvs, keyB false p.1 = true) (rx : Vals [.ref a] vs) (q : Q (.int kvs.length) H) : wpAny (model X.prog X.w) X.A (call (.builtin "len") vs) (EP X pins σ Q) X.xe s := by
  obtain ⟨v, ev, rx'⟩ := vals1 rx
  subst ev
  obtain rfl : v = Value.ref a := rx'
  rw [List.length_map] at hl
  cases t with
  | false =>
    obtain ⟨kus, ha, _, eu⟩ := hd
    have e : kus.length = kvs.length := by rw [hl, eu, List.length_map]
    refine d_len I (.inl ha) fun t s' I' => ⟨.int kvs.length, H, I', ⟨t, by rw [e]⟩, q⟩
  | true =>
    obtain ⟨kus, ha, ek, eu, nks⟩ := hd
    have e : kus.length = kvs.length := by rw [hl, eu, List.length_map]
    have hk : kvs = [] := by
      cases kvs with
      | nil => rfl
      | cons p kvs =>
        exfalso
        have := hb p (by simp)
        cases kus with
        | nil => cases ek
        | cons c kus =>
          have ek : p.1 :: kvs.map (·.1) = nkD c.1 :: kus.map (fun p => nkD p.1) := ek
          injection ek with e1 _
          rw [e1] at this
          exact nk_atom (nks c (by simp)).1 this
    subst hk
    have hk : kus = [] := List.length_eq_zero_iff.mp e
    subst hk
    obtain ⟨hn, dd⟩ := empty_K I ha
    exact call_len_dict hn dd (by decide) ⟨.int 0, H, I.tok _, ⟨_, rfl⟩, q⟩
theorem k_len (hK : X.K = w.K) : CallR X (.builtin "len") (rC1 (rO1 w (o1V .len))) := c1_of fun pins s σ H x v Q I rx ⟨f, r, G, h, v1, P, S, rv, wp, q⟩ => by
  have fin : ∀ n : Nat, P (.d (.int n)) → Q (.int n) H := fun n pz => q _ (.int n) r G H pz Ext.refl S rfl
  cases v1 with
  | d d =>
    cases d with
    | list ds => obtain ⟨a, us, rfl, h1, t⟩ := rv; exact call_len pins s σ H _ _ Q I (vals_1 rx) ⟨_, _, rfl, .inl ⟨us, by rw [hK]; exact sqL_mono S.sub h1, rfl⟩, by rw [← rpAll_len t]; exact fin _ wp⟩
    | tuple ds => obtain ⟨a, us, rfl, h1, t⟩ := rv; exact call_len pins s σ H _ _ Q I (vals_1 rx) ⟨_, _, rfl, .inr ⟨us, by rw [hK]; exact tqT_mono S.sub h1, rfl⟩, by rw [← rpAll_len t]; exact fin _ wp⟩
    | str z => have rv : x = .str z := rv; subst rv; exact call_len pins s σ H _ _ Q I (vals_1 rx) ⟨_, _, rfl, ⟨by rw [big_eq]; exact wp.1, rfl⟩, fin _ wp.2⟩
    | dict kvs =>
      obtain ⟨a, t, us, rfl, hd, t2⟩ := rv
      have hd := hd.mono (fun _ _ e => e) (S.sub a)
      exact k_lenD (DcA.len hd) I hd wp.1 (vals_1 rx) (fin _ wp.2)
    | _ => exact wp.elim
  | vt xs => obtain ⟨a, us, rfl, h1, t⟩ := rv; exact call_len pins s σ H _ _ Q I (vals_1 rx) ⟨_, _, rfl, .inr ⟨us, by rw [hK]; exact tqT_mono S.sub h1, rfl⟩, by rw [← rvAll_len t]; exact fin _ wp⟩
  | cell n =>
    obtain ⟨a, e1, rfl⟩ := rv
    have wp : (match h[n]? with
      | some (.lst xs) => P (.d (.int xs.length))
      | some (.lv xs) => P (.d (.int xs.length))
      | some (.dct _ kvs) => (∀ p ∈ kvs, keyB false p.1 = true) ∧ P (.d (.int kvs.length))
      | _ => False) := wp
    cases eo : h[n]? with
    | none => rw [eo] at wp; exact wp.elim
    | some o =>
      rw [eo] at wp
      have ob := S.ob n a o e1 eo
      cases o with
      | lst xs => obtain ⟨_, us, ha, t⟩ := ob; exact call_len pins s σ H _ _ Q I (vals_1 rx) ⟨_, _, rfl, .inl ⟨us, SqL.of ha, rfl⟩, by rw [← rpAll_len t]; exact fin _ wp⟩
      | lv xs => obtain ⟨_, us, ha, t⟩ := ob; exact call_len pins s σ H _ _ Q I (vals_1 rx) ⟨_, _, rfl, .inl ⟨us, SqL.of ha, rfl⟩, by rw [← rvAll_len t]; exact fin _ wp⟩
      | dct t kvs => obtain ⟨_, us, hd, t2⟩ := ob; exact k_lenD (DcA.len hd) I hd wp.1 (vals_1 rx) (fin _ wp.2)
      | _ => exact wp.elim
  | fn _ => exact wp.elim
  | exc _ _ => exact wp.elim
/-! ### is -/
theorem rv_non {r : List Addr} {G : L2.Hp} : ∀ {v : V} {u : L2.V}, Rv w r G v u → (∀ Q : Bool → Prop, isP v (.d .none) Q → Q (decide (u = .non))) := by
  intro v u rv Q h
  cases v with
  | d d =>
    cases d with
    | none => have rv : u = .non := rv; subst rv; exact h
    | bool b => have rv : u = .bl b := rv; subst rv; exact h
    | int b => have rv : u = .int b := rv; subst rv; exact h
    | str b => have rv : u = .str b := rv; subst rv; exact h
    | list b => obtain ⟨a, _, rfl, _⟩ := rv; exact h
    | tuple b => obtain ⟨a, _, rfl, _⟩ := rv; exact h
    | dict b => obtain ⟨a, _, _, rfl, _⟩ := rv; exact h
  | cell n => obtain ⟨a, _, rfl⟩ := rv; exact h
  | vt xs => obtain ⟨a, _, rfl, _⟩ := rv; exact h
  | fn f => have rv : u = .ref (w.fa f) := rv; subst rv; exact h
  | exc _ _ => obtain ⟨_, a, d, rfl, _⟩ := rv; exact h
theorem isP_of {v1 v2 : V} {Q : Bool → Prop} (h : isP v1 v2 Q) : v2 = .d .none ∨ ∃ a b, v1 = .d (.bool a) ∧ v2 = .d (.bool b) ∧ Q (decide (a = b)) := by
  cases v2 with
  | d d => cases d with
    | none => exact .inl rfl
    | bool b =>
      cases v1 with
      | d e => cases e with
        | bool a => exact .inr ⟨a, b, rfl, rfl, h⟩
        | _ => exact h.elim
      | _ => exact h.elim
    | _ => exact h.elim
  | _ => exact h.elim
theorem p_is : OpR X (compareOp .Is) (rO2 w (o2V .is)) := by
  intro pins s σ H x y v u Q I rx ry ⟨f, r, G, h, v1, v2, P, S, r1, r2, wp, q⟩
  have wp : isP v1 v2 fun b => P (.d (.bool b)) := wp
  rcases isP_of wp with rfl | ⟨a, b, rfl, rfl, wp⟩
  · have r2 : y = .non := r2
    subst r2
    exact op_isN pins s σ H x _ v u Q I rx ry ⟨rfl, q _ _ r G H (rv_non r1 _ wp) Ext.refl S rfl⟩
  · have r1 : x = .bl a := r1
    have r2 : y = .bl b := r2
    subst r1 r2
    exact op_is_bl pins s σ H _ _ v u Q I rx ry ⟨a, b, rfl, rfl, q _ _ r G H wp Ext.refl S rfl⟩
theorem p_isnot : OpR X (compareOp .IsNot) (rO2 w (o2V .isnot)) := by
  intro pins s σ H x y v u Q I rx ry ⟨f, r, G, h, v1, v2, P, S, r1, r2, wp, q⟩
  have wp : isP v1 v2 fun b => P (.d (.bool (!b))) := wp
  rcases isP_of wp with rfl | ⟨a, b, rfl, rfl, wp⟩
  · have r2 : y = .non := r2
    subst r2
    exact op_notN pins s σ H x _ v u Q I rx ry ⟨rfl, q _ _ r G H (rv_non r1 _ wp) Ext.refl S rfl⟩
  · have r1 : x = .bl a := r1
    have r2 : y = .bl b := r2
    subst r1 r2
    exact op_isnot_bl pins s σ H _ _ v u Q I rx ry ⟨a, b, rfl, rfl, q _ _ r G H wp Ext.refl S rfl⟩
/-! ### x[i] -/
theorem atI_all2 {α β : Type} {R : α → β → Prop} {as : List α} {bs : List β} (h : All2 R as bs) {i : Int} {a : α} (e : L2.atI as i = some a) : ∃ b, L2.atI bs i = some b ∧ R a b := by
  unfold L2.atI at e ⊢
  rw [← h.length]
  cases ej : L2.ixN as.length i with
  | none => rw [ej] at e; cases e
  | some j =>
    rw [ej] at e
    exact h.getL e
def rDx : R2 := fun x y H Q => ∃ a v, x = .ref a ∧ Asked H a y (some v) ∧ Q v H
theorem dx_of {K : PySem.W.Frag} {G : L2.Hp} {t : Bool} {a : Addr} {kvs : List (D × D)} {us : List L2.V} {k z : D} {y : L2.V} {Q : VK} (sb : Sub G H) (hd : DcA G H t a (kvs.map (·.1)) us) (rv : RpKv K G kvs us) (rk : Rp K G k y) (hk : ∃ t, keyB t k = true ∧ ∀ p ∈ kvs, keyB t p.1 = true) (ez : valD kvs k = some z)
    (q : ∀ u, Rp K G z u → Q u H) : rDx (.ref a) y H Q := by
  obtain ⟨o, g, vr⟩ := asked sb hd rv rk hk
  rw [ez] at vr
  obtain ⟨u, rfl, ru⟩ := vr
  exact ⟨a, u, rfl, g, q u ru⟩
theorem idx_of (hK : X.K = w.K) {x y : L2.V} {Q : VK} (h : rO2 w idxV x y H Q) : rIx X.K x y H Q ∨ rDx x y H Q := by
  obtain ⟨f, r, G, h, v1, v2, P, S, r1, r2, wp, q⟩ := h
  have fin : ∀ z u, P z → Rv w r G z u → Q u H := fun z u pz rz => q z u r G H pz Ext.refl S rz
  cases v1 with
  | d d =>
    have wp : optP (rdV h v2) fun b => idxP d b fun z => P (.d z) := wp
    obtain ⟨e, e2, wp⟩ := optP_of wp
    have rd := S.read r2 e2
    cases d with
    | list ds =>
      cases e with
      | int i =>
        obtain ⟨z, ez, wp⟩ := optP_of wp
        obtain ⟨a, us, rfl, h1, t⟩ := r1
        obtain ⟨u, eu, ru⟩ := atI_all2 (rpAll_iff.mp t) ez
        exact .inl <| .inl ⟨a, us, i, u, rfl, rd, by rw [hK]; exact sqL_mono S.sub h1, eu, fin _ _ wp ru⟩
      | _ => exact wp.elim
    | tuple ds =>
      cases e with
      | int i =>
        obtain ⟨z, ez, wp⟩ := optP_of wp
        obtain ⟨a, us, rfl, h1, t⟩ := r1
        obtain ⟨u, eu, ru⟩ := atI_all2 (rpAll_iff.mp t) ez
        exact .inl <| .inr (.inl ⟨a, us, i, u, rfl, rd, by rw [hK]; exact tqT_mono S.sub h1, eu, fin _ _ wp ru⟩)
      | _ => exact wp.elim
    | str z =>
      cases e with
      | int i =>
        obtain ⟨hz, wp⟩ := wp
        obtain ⟨c, ec, wp⟩ := optP_of wp
        exact .inl <| .inr (.inr ⟨z, i, c, r1, rd, by rw [big_eq]; exact hz, ec, fin _ _ wp rfl⟩)
      | _ => exact wp.elim
    | dict kvs =>
      obtain ⟨hk, wp⟩ := wp
      obtain ⟨z, ez, wp⟩ := optP_of wp
      obtain ⟨a, t, us, rfl, hd, t2⟩ := r1
      exact .inr (dx_of S.sub (hd.mono (fun _ _ e => e) (S.sub a)) t2 (rt_key rd hk) hk ez fun u ru => fin _ _ wp ru)
    | _ => exact wp.elim
  | vt xs =>
    cases v2 with
    | d e => cases e with
      | int i =>
        obtain ⟨z, ez, wp⟩ := optP_of wp
        obtain ⟨a, us, rfl, h1, t⟩ := r1
        obtain ⟨u, eu, ru⟩ := atI_all2 (rvAll_iff.mp t) ez
        exact .inl <| .inr (.inl ⟨a, us, i, u, rfl, r2, by rw [hK]; exact tqT_mono S.sub h1, eu, fin _ _ wp ru⟩)
      | _ => exact wp.elim
    | _ => exact wp.elim
  | cell n =>
    obtain ⟨a, e1, rfl⟩ := r1
    cases eo : h[n]? with
    | none => unfold idxV at wp; simp only [eo] at wp
    | some o =>
      have ob := S.ob n a o e1 eo
      cases o with
      | lst xs =>
        cases v2 with
        | d e => cases e with
          | int i =>
            unfold idxV at wp
            simp only [eo] at wp
            obtain ⟨z, ez, wp⟩ := optP_of wp
            obtain ⟨_, us, ha, t⟩ := ob
            obtain ⟨u, eu, ru⟩ := atI_all2 (rpAll_iff.mp t) ez
            exact .inl <| .inl ⟨a, us, i, u, rfl, r2, SqL.of ha, eu, fin _ _ wp ru⟩
          | _ => unfold idxV at wp; simp only [eo] at wp
        | _ => unfold idxV at wp; simp only [eo] at wp
      | lv xs =>
        cases v2 with
        | d e => cases e with
          | int i =>
            unfold idxV at wp
            simp only [eo] at wp
            obtain ⟨z, ez, wp⟩ := optP_of wp
            obtain ⟨_, us, ha, t⟩ := ob
            obtain ⟨u, eu, ru⟩ := atI_all2 (rvAll_iff.mp t) ez
            exact .inl <| .inl ⟨a, us, i, u, rfl, r2, SqL.of ha, eu, fin _ _ wp ru⟩
          | _ => unfold idxV at wp; simp only [eo] at wp
        | _ => unfold idxV at wp; simp only [eo] at wp
      | dct t kvs =>
        unfold idxV at wp
        simp only [eo] at wp
        obtain ⟨k, ek, wp⟩ := optP_of wp
        obtain ⟨hk, wp⟩ := wp
        obtain ⟨z, ez, wp⟩ := optP_of wp
        obtain ⟨_, us, hd, t2⟩ := ob
        exact .inr (dx_of S.sub hd t2 (rt_key (S.read r2 ek) hk) hk ez fun u ru => fin _ _ wp ru)
      | _ => unfold idxV at wp; simp only [eo] at wp
  | fn _ => exact wp.elim
  | exc _ _ => exact wp.elim
theorem p_ix (hu : X.A.units + 65 < cLine) (hK : X.K = w.K) : IxR X (rO2 w (o2V .idx)) := fun va sl pins s σ H x y v u Q I rx ry h hs => by
  rcases idx_of hK h with h | ⟨a, z, rfl, g, q⟩
  · exact ix_seq va sl pins s σ H x y v u Q I rx ry h hs
  · cases rx
    exact tail_any (ops := [.ref a, u]) (asked_type I g) PySem.F.slot_dict_getitem.lookup (a_getItem (by omega) I g ry fun w' s3 I3 rw' => ⟨z, H, I3, rw', q⟩) hs
theorem p_get (hu : X.A.units + 65 < cLine) (hK : X.K = w.K) : PGet X (rO2 w idxV) := by
  intro pins s σ H o i ov iv Q I ro ri h
  rcases idx_of hK h with (⟨p, xs, i, z, rfl, rfl, hq, he, q⟩ | ⟨p, xs, i, z, rfl, rfl, hq, he, q⟩ | ⟨z, i, c, rfl, rfl, hz, he, q⟩) | ⟨a, z, rfl, g, q⟩
  · cases ro
    obtain ⟨t, rfl⟩ := ri
    obtain ⟨its, r, pl, hz⟩ := I.list hq
    obtain ⟨j, h1, h2, h3, h4, h5⟩ := atI_get he
    obtain ⟨w, ew, rw'⟩ := r.get h2
    have hl := r.length
    have hn := line63
    have fin : EP X pins σ Q w s := ⟨z, H, I, rw', q⟩
    by_cases h0 : 0 ≤ i
    · have hj : i.toNat = j := by
        rw [seqIndex_of h0 h5] at h1
        exact Option.some.inj h1
      exact wpAny_getItem_list pl.isList h0 (by omega) (by rw [hj]; simpa using ew) fin
    · have hj : (i + (its.toArray.size : Int)).toNat = j := by
        rw [seqIndex_neg (by omega) h4] at h1
        rw [List.size_toArray, ← hl]
        exact Option.some.inj h1
      exact wpAny_getItem_list_neg pl.isList (by omega) (by rw [List.size_toArray] <;> omega) (by omega) (by rw [hj]; simpa using ew) fin
  · cases ro
    obtain ⟨t, rfl⟩ := ri
    obtain ⟨its, r, pl, hz⟩ := I.tuple hq
    obtain ⟨j, h1, h2, h3, h4, h5⟩ := atI_get he
    obtain ⟨w, ew, rw'⟩ := r.get h2
    have hl := r.length
    have hn := line63
    have fin : EP X pins σ Q w s := ⟨z, H, I, rw', q⟩
    exact PyProof.Rows.getItem_tuple (j := j) pl (by omega) (by omega) (by rw [List.size_toArray, ← hl]; exact h1) (by simpa using ew) fin
  · obtain ⟨t, rfl⟩ := ro
    obtain ⟨t', rfl⟩ := ri
    obtain ⟨j, h1, h2, h3, h4, h5⟩ := atI_get he
    have hl : z.cps.toList.length = z.length := by simp [Str.length]
    rw [hl] at h1 h4 h5
    have hn := line63
    exact getItem_str (c := c) (by
      have e1 : decide (i < -(2 ^ 63 : Int)) = false := decide_eq_false (by omega)
      have e2 : decide (i ≥ 2 ^ 63) = false := decide_eq_false (by omega)
      rw [e1, e2, Bool.or_false]) (by rw [h1]; simpa using h2) ⟨.str ⟨#[c]⟩, H, I.tok _, ⟨_, rfl⟩, q⟩
  · cases ro
    exact a_getItem (by omega) I g ri fun w' s3 I3 rw' => ⟨z, H, I3, rw', q⟩
/-! ### x[i] = v, x op= v -/
theorem p_set (hu : X.A.units + 65 < cLine) : PSet X (rSet w) := by
  intro pins s σ H o i v ov iv u Q I ro ri rv ⟨f, r, G, h, v1, v2, v3, P, S, r1, r2, r3, wp, q⟩
  cases v1 with
  | cell n =>
    obtain ⟨a, e1, rfl⟩ := r1
    cases eo : h[n]? with
    | none => unfold setV at wp; simp only [eo] at wp
    | some ob =>
      have obr := S.ob n a ob e1 eo
      cases ob with
      | lst xs =>
        cases v2 with
        | d e => cases e with
          | int k =>
            cases v3 with
            | d y =>
              unfold setV at wp
              simp only [eo] at wp
              obtain ⟨j, ej, wp⟩ := optP_of wp
              obtain ⟨g, us, ha, t⟩ := obr
              have r2 : i = .int k := r2
              refine set_list pins s σ H _ _ v ov iv u Q I ro ri rv ⟨a, us, k, j, rfl, r2, ha, by rw [← rpAll_len t]; exact ej, ?_⟩
              have S2 := S.put (x := .lst (us.set j v)) (o' := .lst (xs.set j y)) e1 eo (fun z => nomatch z) ⟨g, _, upd_same, rpAll_iff.mpr ((rpAll_iff.mp t).set r3 j)⟩
              exact q _ r G _ wp Ext.refl S2
            | _ => unfold setV at wp; simp only [eo] at wp
          | _ => unfold setV at wp; simp only [eo] at wp
        | _ => unfold setV at wp; simp only [eo] at wp
      | dct t kvs =>
        cases v2 with
        | d k =>
          cases v3 with
          | d y =>
            unfold setV at wp
            simp only [eo] at wp
            obtain ⟨⟨hk, hz⟩, wp⟩ := wp
            obtain ⟨g, us, hd, t2⟩ := obr
            cases t with
            | false =>
              obtain ⟨kus, ha, ek, rfl⟩ := hd
              obtain ⟨c, rfl⟩ := keyB_f hk
              have := rp_key r2
              subst this
              obtain ⟨p1, p2⟩ := put_rel keyD eqD_key c r3 ek t2
              have hl : kus.length < sizeLine := by rw [big_eq, show kus.length = kvs.length by have := congrArg List.length ek; simpa using this.symm]; exact hz
              cases ro
              refine d_setItem (by omega) I (DPut.k ha hl) ri rv fun s' I' => ⟨_, I', q _ r G _ wp Ext.refl (S.put (o' := .dct false (putD kvs (keyD c) y)) e1 eo (fun z => nomatch z) ⟨g, _, ⟨_, upd_same, p1, rfl⟩, p2⟩)⟩
            | true =>
              obtain ⟨rows, ha, ek, rfl, nks⟩ := hd
              obtain ⟨c, rfl, ok, ks, rfl⟩ := keyB_t hk
              have nk := rp_nk _ _ r2
              obtain ⟨b, xs, rfl, hb⟩ := id nk
              obtain ⟨p1, p2⟩ := put_rel (kus := rows.map fun p => (p.1, p.2.2)) nkD eqD_nkD (.tup ks) r3 (by rw [ek, List.map_map]; rfl) (by rw [List.map_map]; exact t2)
              rw [← putN_kv rows (.tup ks) b, List.map_map] at p1 p2
              have hl : rows.length < sizeLine := by rw [big_eq, show rows.length = kvs.length by have := congrArg List.length ek; simpa using this.symm]; exact hz
              cases ro
              cases (show _ = Value.ref b from ri)
              have nkG : ∀ p ∈ putN rows (.tup ks) b v, NkR G p.1 (.ref p.2.1) ∧ nkOk p.1 = true := fun p hp => by
                rcases putN_mem hp with ⟨q, hq, e1, e2⟩ | ⟨e1, e2⟩
                · rw [e1, e2]; exact nks q hq
                · rw [e1, e2]; exact ⟨nk, ok⟩
              refine a_setItem (by omega) I ha (NkR.mono S.sub _ _ nk) ok (fun p hp => ⟨NkR.mono S.sub _ _ (nks p hp).1, (nks p hp).2⟩) hl rv fun s' I' => ⟨_, I', q _ r G _ wp Ext.refl (S.put (o' := .dct true (putD kvs (nkD (.tup ks)) y)) e1 eo (fun z => nomatch z) ⟨g, _, ⟨_, upd_same, p1, rfl, nkG⟩, p2⟩)⟩
          | _ => unfold setV at wp; simp only [eo] at wp
        | _ => unfold setV at wp; simp only [eo] at wp
      | _ => unfold setV at wp; simp only [eo] at wp
  | _ => exact wp.elim
theorem aug_of {o : O2} {x y : L2.V} {Q : VK} (h : rAug w o x y H Q) : ∃ m n, x = .int m ∧ y = .int n ∧ (match o with
    | .add => Q (.int (m + n)) H
    | .sub => Q (.int (m - n)) H
    | .mul => okMul m n ∧ Q (.int (m * n)) H
    | _ => False) := by
  obtain ⟨f, r, G, h, v1, v2, P, S, r1, r2, wp, q⟩ := h
  cases v1 with
  | d d1 => cases d1 with
    | int m => cases v2 with
      | d d2 => cases d2 with
        | int n =>
          refine ⟨m, n, r1, r2, ?_⟩
          cases o with
          | add => exact q _ _ wp rfl
          | sub => exact q _ _ wp rfl
          | mul => exact ⟨wp.1, q _ _ wp.2 rfl⟩
          | _ => exact wp.elim
        | _ => exact wp.elim
      | _ => exact wp.elim
    | _ => cases v2 <;> exact wp.elim
  | _ => cases v2 <;> exact wp.elim
theorem ip_add' : PIp X .Add (rAug w .add) := fun pins s σ H x y v u Q I rx ry h => by
  obtain ⟨m, n, rfl, rfl, q⟩ := aug_of h
  exact iop_add pins s σ H _ _ v u Q I rx ry ⟨m, n, rfl, rfl, q⟩
theorem ip_sub' : PIp X .Sub (rAug w .sub) := fun pins s σ H x y v u Q I rx ry h => by
  obtain ⟨m, n, rfl, rfl, q⟩ := aug_of h
  exact iop_sub pins s σ H _ _ v u Q I rx ry ⟨m, n, rfl, rfl, q⟩
theorem ip_mul' : PIp X .Mult (rAug w .mul) := fun pins s σ H x y v u Q I rx ry h => by
  obtain ⟨m, n, rfl, rfl, ok, q⟩ := aug_of h
  rcases okMul_ok ok with ok | ok
  · exact iop_mul pins s σ H _ _ v u Q I rx ry ⟨m, n, rfl, rfl, ok, q⟩
  · obtain ⟨t, rfl⟩ := rx
    obtain ⟨t', rfl⟩ := ry
    exact imul_int ⟨.int _, H, I.tok _, ⟨_, rfl⟩, q⟩ ok.ok
end
end Hb

/-! SND6: isinstance, methods, new lists, slices, ranges. -/
namespace Hb
open PySem PySem.Spec PyProof.Rows
open L2 hiding V Hp St
set_option autoImplicit false
/-! ### isinstance -/
def tyN : Ty → String
  | .int => "int" | .bool => "bool" | .str => "str" | .tuple => "tuple" | .list => "list" | .dict => "dict" | .verr => "ValueError" | .own _ => "ValueError" | .hue => "ValueError"
def builtinTy : Ty → Bool
  | .int => true | .bool => true | .str => true | .tuple => true | .list => true | .dict => true | _ => false
/-- the kind of a value -/
inductive Kd where | non | bl | int | str | tup | lst | dic
def kdN : Kd → String
  | .non => "NoneType" | .bl => "bool" | .int => "int" | .str => "str" | .tup => "tuple" | .lst => "list" | .dic => "dict"
def kdIs : Kd → Ty → Bool
  | .bl, .bool => true | .bl, .int => true | .int, .int => true | .str, .str => true | .tup, .tuple => true | .lst, .list => true | .dic, .dict => true | _, _ => false
theorem kd_kit : ∀ (k : Kd) (t : Ty), builtinTy t = true → kitB (kdN k) (tyN t) = some (kdIs k t) := by
  intro k t ht
  cases t <;> first | (cases k <;> decide +kernel) | cases ht
section
variable {X : Cx} {w : Wo} {f : L2.Hp} {r : List Addr} {G H : L2.Hp} {h : Hp}
theorem lq_ty {K : PySem.W.Frag} {a : Addr} {us : List L2.V} (h : LqL K H a us) : TyX K H (.ref a) (.type "list") := by
  rcases h with (h | ⟨o, h⟩) | ⟨its, n, h, _⟩
  · exact .base (.lst h)
  · exact .base (.frz h)
  · exact .kList h rfl
theorem sq_ty {K : PySem.W.Frag} {a : Addr} {us : List L2.V} (h : SqT K H a us) : TyX K H (.ref a) (.type "tuple") := by
  rcases h with (h | ⟨o, h⟩) | ⟨o, its, n, h, c, _⟩
  · exact .base (.tup h)
  · exact .fTuple h
  · exact .kTuple h c
/-- the kind of a value: dicts whose keys are tuples, too -/
def TyY (K : PySem.W.Frag) (H : L2.Hp) (x : L2.V) (t : Value) : Prop := TyX K H x t ∨ ∃ a rows, x = .ref a ∧ t = .type "dict" ∧ H a = some (TDic a rows)
theorem kit_y {pins : List (Addr × Obj)} {σ : Sg} {s : Shared} {x : L2.V} {u t : Value} (I : Inv X pins σ H s) (rx : RelV x u) (ty : TyY X.K H x t) : ∃ P : Heap → Prop, PySem.W.KitX X.K u t P ∧ P s.heap ∧ u ≠ .builtin "__main__.__loader__#opaque" := by
  rcases ty with ty | ⟨a, rows, rfl, rfl, ha⟩
  · exact kit_of I rx ty
  · cases (show u = Value.ref a from rx)
    obtain ⟨⟨_, _, _, _, _, _, o, es, ep, h1, h2, _⟩, _⟩ := I.hok a _ ha
    exact ⟨_, PySem.W.kitx_dict, ⟨o, h1, h2.1⟩, fun z => nomatch z⟩
def rIsY (K : PySem.W.Frag) : List L2.V → L2.Hp → VK → Prop := fun xs H Q => ∃ (x c : L2.V) (t u : Value) (b : Bool), xs = [x, c] ∧ ClsV c u ∧ TyY K H x t ∧ PySem.W.kitOne K t u = some b ∧ Q (.bl b) H
theorem call_isY : CallR X (.builtin "isinstance") (rIsY X.K) := fun pins s σ H xs us Q I r q => by
  obtain ⟨x, c, t, u, b, rfl, k, ty, e, q⟩ := q
  obtain ⟨v1, v2, rfl, r1, r2⟩ := vals2 r
  obtain ⟨P, Z, p, hx⟩ := kit_y I r1 ty
  rw [k.eq r2]
  exact PySem.W.kia_one Z I.kIn p e hx fun tk => ⟨.bl b, H, I.tok tk, rfl, q⟩
theorem dc_ty {K : PySem.W.Frag} {G : L2.Hp} {t : Bool} {a : Addr} {ks : List D} {us : List L2.V} (h : DcA G H t a ks us) : TyY K H (.ref a) (.type "dict") := by
  cases t with
  | false => obtain ⟨kus, e, _⟩ := h; exact .inl (.base (.dK e))
  | true => obtain ⟨rows, e, _⟩ := h; exact .inr ⟨a, rows, rfl, rfl, e⟩
theorem kd_of {v : V} {u : L2.V} {tys : List Ty} {Q : Bool → Prop} (S : Sim w f r G h H) (rv : Rv w r G v u) (q : isiP h v tys Q) (hb : tys.all builtinTy = true) (hne : tys ≠ []) : ∃ k, TyY w.K H u (.type (kdN k)) ∧ Q (tys.any fun t => kdIs k t) := by
  have any_eq : ∀ (f g : Ty → Bool), (∀ t, builtinTy t = true → f t = g t) → tys.any f = tys.any g := by
    intro f g hfg
    clear q hne
    induction tys with
    | nil => rfl
    | cons t ts ih =>
      rw [List.all_cons, Bool.and_eq_true] at hb
      rw [List.any_cons, List.any_cons, hfg t hb.1, ih hb.2]
  cases v with
  | d d =>
    have q : Q (tys.any fun t => isTy h (.d d) t) := q
    cases d with
    | none => have rv : u = .non := rv; subst rv; exact ⟨.non, .inl (.base .non), by rw [any_eq _ (fun t => isTy h (.d .none) t) fun t ht => by cases t <;> first | rfl | cases ht]; exact q⟩
    | bool b => have rv : u = .bl b := rv; subst rv; exact ⟨.bl, .inl (.base (.bl b)), by rw [any_eq _ (fun t => isTy h (.d (.bool b)) t) fun t ht => by cases t <;> first | rfl | cases ht]; exact q⟩
    | int b => have rv : u = .int b := rv; subst rv; exact ⟨.int, .inl (.base (.int b)), by rw [any_eq _ (fun t => isTy h (.d (.int b)) t) fun t ht => by cases t <;> first | rfl | cases ht]; exact q⟩
    | str b => have rv : u = .str b := rv; subst rv; exact ⟨.str, .inl (.base (.str b)), by rw [any_eq _ (fun t => isTy h (.d (.str b)) t) fun t ht => by cases t <;> first | rfl | cases ht]; exact q⟩
    | list b => obtain ⟨a, us, rfl, hq, _⟩ := rv; exact ⟨.lst, .inl (lq_ty (lqL_mono S.sub hq)), by rw [any_eq _ (fun t => isTy h (.d (.list b)) t) fun t ht => by cases t <;> first | rfl | cases ht]; exact q⟩
    | tuple b => obtain ⟨a, us, rfl, hq, _⟩ := rv; exact ⟨.tup, .inl (sq_ty (tqT_mono S.sub hq)), by rw [any_eq _ (fun t => isTy h (.d (.tuple b)) t) fun t ht => by cases t <;> first | rfl | cases ht]; exact q⟩
    | dict b => obtain ⟨a, t, us, rfl, hq, _⟩ := rv; exact ⟨.dic, dc_ty (hq.mono (fun _ _ e => e) (S.sub a)), by rw [any_eq _ (fun t => isTy h (.d (.dict b)) t) fun t ht => by cases t <;> first | rfl | cases ht]; exact q⟩
  | cell n =>
    obtain ⟨a, e1, rfl⟩ := rv
    cases eo : h[n]? with
    | none => unfold isiP at q; simp only [eo] at q
    | some o =>
      have ob := S.ob n a o e1 eo
      cases o with
      | lst xs =>
        obtain ⟨_, us, ha, _⟩ := ob
        refine ⟨.lst, .inl (.base (.lst ha)), ?_⟩
        unfold isiP at q
        simp only [eo] at q
        rw [any_eq _ (fun t => isTy h (.cell n) t) fun t ht => by unfold isTy; simp only [eo]; cases t <;> first | rfl | cases ht]
        exact q
      | lv xs =>
        obtain ⟨_, us, ha, _⟩ := ob
        refine ⟨.lst, .inl (.base (.lst ha)), ?_⟩
        unfold isiP at q
        simp only [eo] at q
        rw [any_eq _ (fun t => isTy h (.cell n) t) fun t ht => by unfold isTy; simp only [eo]; cases t <;> first | rfl | cases ht]
        exact q
      | dct t kvs =>
        obtain ⟨_, us, hd, _⟩ := ob
        refine ⟨.dic, dc_ty hd, ?_⟩
        unfold isiP at q
        simp only [eo] at q
        rw [any_eq _ (fun t => isTy h (.cell n) t) fun t ht => by unfold isTy; simp only [eo]; cases t <;> first | rfl | cases ht]
        exact q
      | ins _ _ => unfold isiP at q; simp only [eo] at q
      | dead => unfold isiP at q; simp only [eo] at q
  | vt xs =>
    have q : Q (tys.any fun t => isTy h (.vt xs) t) := q
    obtain ⟨a, us, rfl, hq, _⟩ := rv
    exact ⟨.tup, .inl (sq_ty (tqT_mono S.sub hq)), by rw [any_eq _ (fun t => isTy h (.vt xs) t) fun t ht => by cases t <;> first | rfl | cases ht]; exact q⟩
  | fn _ => exact q.elim
  | exc c fs =>
    obtain ⟨⟨_, q⟩, _⟩ := q
    cases tys with
    | nil => exact absurd rfl hne
    | cons ty tys =>
      rw [List.all_cons, Bool.and_eq_true] at q hb
      cases ty <;> first | exact Bool.noConfusion q.1 | exact Bool.noConfusion hb.1
end
section
variable {X : Cx} {w : Wo} {F : Phi} {W : WX} {a b e : Expr} {t t1 t2 : T} {pos : Pos}
theorem se_isi1 {ty : Ty} {x : Str} {p p2 : Pos} (hK : X.K = w.K) (hg : Gl X "isinstance") (hm : X.mg "isinstance" = none) (hgx : Gl X x) (hmx : X.mg x = none) (hx : bootBuiltins x = some (.type (tyN ty))) (hb : builtinTy ty = true) (hn : x ≠ "__name__") (hd : (x == ("__debug__" : Str)) = false)
    (ha : SE X w F W a t) (hs : ∀ x p, a ≠ .Starred x p) : SE X w F W (.Call (.Name "isinstance" p) [a, .Name x p2] [] pos) (.isi t [ty]) := by
  refine pe_imp (pe_callB call_isY hg hm (by decide +kernel) (pa_cons ha (pa_cons (pe_bltn hgx hmx hx (v := .ty (tyN ty)) rfl hn hd) pa_nil) (nostar hs)) (by decide) (by decide) (nostar hs) (noany (by intro e he x p hz; simp at he; subst he; cases hz))) fun s H Q h => ?_
  obtain ⟨f, r, G, env, h, P, Xp, S, E, wp, q, qx⟩ := h
  refine ⟨f, r, G, env, h, _, Xp, S, E, wp, fun v h1 u r1 G1 H1 w1 e1 S1 rv => ?_, qx⟩
  obtain ⟨k, tx, w2⟩ := kd_of S1 rv w1 (by simpa using hb) (by simp)
  have w2 : P (.d (.bool (kdIs k ty || false))) h1 := w2
  rw [Bool.or_false] at w2
  exact ⟨u, .ty (tyN ty), .type (kdN k), .type (tyN ty), kdIs k ty, rfl, .ty _, by rw [hK]; exact tx, kit_ty (kd_kit k ty hb), q _ h1 (.bl (kdIs k ty)) r1 G1 H1 w2 e1 S1 rfl⟩
/-! ### methods that change a list -/
def plainBase : Expr → Bool
  | .Name _ _ => true
  | .Subscript _ _ _ => true
  | _ => false
theorem base_eq {o : Expr} {name : Str} {env : PySem.Env} (h : plainBase o = true) : attributeBase o name env (eval o env) = eval o env := by
  cases o <;> first | rfl | cases h
def rMut (w : Wo) (m : Mu) : L2.V → List L2.V → L2.Hp → VK → Prop := fun x xs H Q => ∃ f r G h v vs P, Sim w f r G h H ∧ Rv w r G v x ∧ RvAll w r G vs xs ∧ mutV m v vs h P ∧
  ∀ z u h' r' G' H', P z h' → Ext r G r' G' → Sim w f r' G' h' H' → Rv w r' G' z u → Q u H'
theorem mut_of {m : Mu} {x : L2.V} {xs : List L2.V} {H : L2.Hp} {Q : VK} (h : rMut w m x xs H Q) : ∃ f r G h vs P, ∃ n : Nat, ∃ a ds us, Sim w f r G h H ∧ x = .ref a ∧ RvAll w r G vs xs ∧ H a = some (.lst us) ∧ RpAll w.K G ds us ∧ mutL m ds vs h P ∧
    (∀ z u ds' us', P z ds' → RpAll w.K G ds' us' → Rv w r G z u → Q u (upd H a (.lst us'))) ∧ h[n]? = some (Ob.lst ds) ∧ r[n]? = some a := by
  obtain ⟨f, r, G, h, v, vs, P, S, rv, rvs, wp, q⟩ := h
  cases v with
  | cell n =>
    obtain ⟨a, e1, rfl⟩ := rv
    cases eo : h[n]? with
    | none => unfold mutV at wp; simp only [eo] at wp
    | some o =>
      have ob := S.ob n a o e1 eo
      cases o with
      | lst ds =>
        unfold mutV at wp
        simp only [eo] at wp
        obtain ⟨g, us, ha, t⟩ := ob
        refine ⟨f, r, G, h, vs, _, n, a, ds, us, S, rfl, rvs, ha, t, wp, fun z u ds' us' pz t' rz => ?_, eo, e1⟩
        exact q z u _ r G _ pz Ext.refl (S.put (x := .lst us') (o' := .lst ds') e1 eo (fun z => nomatch z) ⟨g, us', upd_same, t'⟩) rz
      | _ => unfold mutV at wp; simp only [eo] at wp
  | _ => exact wp.elim
theorem m_append : MtR X "list.append" (rMut w .append) := fun pins s σ H x xs v us Q I rx rxs h => by
  obtain ⟨f, r, G, h, vs, P, n, a, ds, us', S, rfl, rvs, ha, t, wp, q, _⟩ := mut_of h
  cases vs with
  | nil => exact wp.elim
  | cons y ys =>
    cases y with
    | d d =>
      cases ys with
      | nil =>
        obtain ⟨hz, wp⟩ := wp
        obtain ⟨u, us2, rfl, ru, e⟩ := rvs
        have e : us2 = [] := e
        subst e
        exact mt_append pins s σ H _ _ v us Q I rx rxs ⟨a, us', u, rfl, rfl, ha, by rw [← rpAll_len t, big_eq]; exact hz, q _ _ _ _ wp (rpAll_iff.mpr ((rpAll_iff.mp t).snoc ru)) rfl⟩
      | cons _ _ => exact wp.elim
    | _ => exact wp.elim
def rExtendL (K : PySem.W.Frag) : L2.V → List L2.V → L2.Hp → VK → Prop := fun x vs H Q => ∃ l b xs zs, x = .ref l ∧ vs = [.ref b] ∧ H l = some (.lst xs) ∧ LqL K H b zs ∧ xs.length + zs.length ≤ sizeLine ∧ Q .non (upd H l (.lst (xs ++ zs)))
theorem mt_extendL : MtM X "list.extend" (rExtendL X.K) := by
  intro pins s σ H x vs v us Q I rx rv h
  obtain ⟨l, b, xs, zs, rfl, rfl, hH, hB, hz, q⟩ := h
  cases rx
  obtain ⟨u, rfl, ru⟩ := rv.one
  cases ru
  obtain ⟨z, its, n, r, hl, e⟩ := I.lstM hH
  obtain ⟨its2, n2, r2, e2, z2⟩ := inv_lq I hB
  have hl2 := r2.length
  have hsz : its.toArray.size + its2.toArray.size ≤ sizeLine := by rw [List.size_toArray, List.size_toArray]; omega
  have hlong : ¬ (!its.toArray.isEmpty && Builtin.List.listTooLong (its.toArray.size + its2.toArray.size)) = true := by
    rw [notLongL hsz, Bool.and_false]
    exact Bool.false_ne_true
  refine call_meets F.slot_list_extend ⟨_, e, rfl⟩ F.entry_list_extend (F.args_list_extend_2 _ _)
    (AutoSeq1.list_extend_list_list_0 l its.toArray n b its2.toArray n2 hlong (by rw [List.size_toArray]; omega) (by omega)) ⟨e, e2, ?_⟩
  refine ⟨.non, _, I.lset (its' := its ++ its2) hH e (by simp) (r.append r2) ?_, rfl, q⟩
  rw [List.length_append]
  omega
theorem list_extend_tup (l : Addr) (items : Array Value) (n : Nat) (b : Addr) (items2 : Array Value) (hs0 : ¬(!items.isEmpty && Builtin.List.listTooLong (items.size + items2.size)) = true) (hs1 : items.size ≤ sizeLine) (hs2 : items.size + items2.size ≤ sizeLine + 1) :
    Meets (Builtin.«list.extend» ⟨[.ref l, .ref b], []⟩) (fun _ R s => s.heap.get? l = some { cls := .type "list", dict := none, data := .seq items n, slots := #[] } ∧ (∃ o n2, s.heap.get? b = some o ∧ o.cls = .type "tuple" ∧ o.data = .seq items2 n2) ∧ R (.ok (.ret Value.none)) { s with heap := s.heap.update l (Obj.mapSeq fun x => x ++ items2), toks := s.toks }) :=
  .of_wp fun prog w A R s h => by
    obtain ⟨hl, ⟨o, n2, ho, hc, hd⟩, hR⟩ := h
    have hz' : (items ++ items2).size ≤ sizeLine + 1 := by rw [Array.size_append]; exact hs2
    show wpAny _ _ (Builtin.List.listExtendWith (.ref l) (.ref b) .none) _ _ s
    unfold Builtin.List.listExtendWith
    refine wpAny_bind (wpAny_typeOf ⟨o, ho, hc⟩ ?_)
    have h1 : (Builtin.List.listSameRef (.ref l) (.ref b) || Value.type "tuple" == Value.type "list" || Value.type "tuple" == Value.type "tuple") = true := by simp
    simp only [h1, if_true]
    refine wpAny_bind ?_
    unfold Builtin.List.listItems
    refine wpAny_bind (wpAny_seqItems ho hd (wpAny_pure ?_))
    refine wpAny_bind ?_
    refine wpAny_bind (wpAny_seqItems hl rfl (wpAny_pure ?_))
    rw [if_neg hs0]
    show wpAny _ A.in1 (updateSeq l (· ++ items2) >>= fun _ => ret Value.none) _ _ s
    refine wpAny_bind (wpAny_updateSeq hl rfl (hz := hs1) (_hz' := hz') ?_)
    exact wpAny_pure ⟨_, rfl, hR⟩
def rExtendT (K : PySem.W.Frag) : L2.V → List L2.V → L2.Hp → VK → Prop := fun x vs H Q => ∃ l b xs zs, x = .ref l ∧ vs = [.ref b] ∧ H l = some (.lst xs) ∧ SqT K H b zs ∧ xs.length + zs.length ≤ sizeLine ∧ Q .non (upd H l (.lst (xs ++ zs)))
theorem mt_extendT : MtM X "list.extend" (rExtendT X.K) := by
  intro pins s σ H x vs v us Q I rx rv h
  obtain ⟨l, b, xs, zs, rfl, rfl, hH, hB, hz, q⟩ := h
  cases rx
  obtain ⟨u, rfl, ru⟩ := rv.one
  cases ru
  obtain ⟨z, its, n, r, hl, e⟩ := I.lstM hH
  obtain ⟨its2, r2, ⟨o, e2, hc, n2, hd⟩, z2⟩ := I.tuple hB
  have hl2 := r2.length
  have hsz : its.toArray.size + its2.toArray.size ≤ sizeLine := by rw [List.size_toArray, List.size_toArray]; omega
  have hlong : ¬ (!its.toArray.isEmpty && Builtin.List.listTooLong (its.toArray.size + its2.toArray.size)) = true := by
    rw [notLongL hsz, Bool.and_false]
    exact Bool.false_ne_true
  refine call_meets F.slot_list_extend ⟨_, e, rfl⟩ F.entry_list_extend (F.args_list_extend_2 _ _)
    (list_extend_tup l its.toArray n b its2.toArray hlong (by rw [List.size_toArray]; omega) (by omega)) ⟨e, ⟨o, n2, e2, hc, hd⟩, ?_⟩
  refine ⟨.non, _, I.lset (its' := its ++ its2) hH e (by simp) (r.append r2) ?_, rfl, q⟩
  rw [List.length_append]
  omega
theorem m_extend (hK : X.K = w.K) : MtR X "list.extend" (rMut w .extend) := fun pins s σ H x xs v us Q I rx rxs h => by
  obtain ⟨f, r, G, h, vs, P, n, a, ds, us', S, rfl, rvs, ha, t, wp, q, _⟩ := mut_of h
  cases vs with
  | nil => exact wp.elim
  | cons y ys =>
    cases ys with
    | nil =>
      obtain ⟨d, ed, wp⟩ := optP_of wp
      obtain ⟨u, us2, rfl, ru, e⟩ := rvs
      have e : us2 = [] := e
      subst e
      have rd := S.read ru ed
      cases d with
      | list zs =>
        obtain ⟨hz, wp⟩ := wp
        obtain ⟨b, uz, rfl, hb, tz⟩ := rd
        exact mt_extendL pins s σ H _ _ v us Q I rx rxs ⟨a, b, us', uz, rfl, rfl, ha, by rw [hK]; exact hb, by rw [← rpAll_len t, ← rpAll_len tz, big_eq]; exact hz, q _ _ _ _ wp (rpAll_append t tz) rfl⟩
      | tuple zs =>
        obtain ⟨hz, wp⟩ := wp
        obtain ⟨b, uz, rfl, hb, tz⟩ := rd
        exact mt_extendT pins s σ H _ _ v us Q I rx rxs ⟨a, b, us', uz, rfl, rfl, ha, by rw [hK]; exact tqT_mono S.sub hb, by rw [← rpAll_len t, ← rpAll_len tz, big_eq]; exact hz, q _ _ _ _ wp (rpAll_append t tz) rfl⟩
      | _ => exact wp.elim
    | cons _ _ => cases y <;> exact wp.elim
theorem m_pop : MtR X "list.pop" (rMut w .pop) := fun pins s σ H x xs v us Q I rx rxs h => by
  obtain ⟨f, r, G, h, vs, P, n, a, ds, us', S, rfl, rvs, ha, t, wp, q, _⟩ := mut_of h
  cases vs with
  | nil =>
    have e : xs = [] := rvs
    subst e
    obtain ⟨y, ey, wp⟩ := optP_of wp
    rw [List.getLast?_eq_getElem?] at ey
    obtain ⟨u, eu, ru⟩ := (rpAll_iff.mp t).getL ey
    exact mt_pop pins s σ H _ _ v us Q I rx rxs ⟨a, us', u, rfl, rfl, ha, by rw [← rpAll_len t]; exact eu, q _ _ _ _ wp (rpAll_iff.mpr (rpAll_iff.mp t).dropLast) ru⟩
  | cons _ _ => exact wp.elim
theorem m_popat : MtR X "list.pop" (rMut w .popat) := fun pins s σ H x xs v us Q I rx rxs h => by
  obtain ⟨f, r, G, h, vs, P, n, a, ds, us', S, rfl, rvs, ha, t, wp, q, _⟩ := mut_of h
  cases vs with
  | nil => exact wp.elim
  | cons y ys =>
    cases y with
    | d d =>
      cases d with
      | int i =>
        cases ys with
        | nil =>
          obtain ⟨k, ek, wp⟩ := optP_of wp
          obtain ⟨y, ey, wp⟩ := optP_of wp
          obtain ⟨u, us2, rfl, ru, e⟩ := rvs
          have e : us2 = [] := e
          subst e
          have ru : u = .int i := ru
          subst ru
          obtain ⟨uy, euy, ruy⟩ := (rpAll_iff.mp t).getL ey
          obtain ⟨h1, h2, h3, h4⟩ := ixN_seq ek
          have hl := rpAll_len t
          obtain ⟨z, _⟩ := I.lstM ha
          have hn := line63
          exact mt_popAt pins s σ H _ _ v us Q I rx rxs ⟨a, us', i, k, uy, rfl, rfl, ha, by omega, by omega, by rw [← hl]; exact h1, euy, q _ _ _ _ wp (rpAll_iff.mpr ((rpAll_iff.mp t).eraseIdx k)) ruy⟩
        | cons _ _ => exact wp.elim
      | _ => exact wp.elim
    | _ => exact wp.elim
theorem m_insert : MtR X "list.insert" (rMut w .insert) := fun pins s σ H x xs v us Q I rx rxs h => by
  obtain ⟨f, r, G, h, vs, P, n, a, ds, us', S, rfl, rvs, ha, t, wp, q, _⟩ := mut_of h
  cases vs with
  | nil => exact wp.elim
  | cons y ys =>
    cases y with
    | d d =>
      cases d with
      | int i =>
        cases ys with
        | nil => exact wp.elim
        | cons z zs =>
          cases z with
          | d z =>
            cases zs with
            | nil =>
              obtain ⟨⟨hz, h0, h1⟩, wp⟩ := wp
              obtain ⟨u, us2, rfl, ru, u2, us3, rfl, ru2, e⟩ := rvs
              have e : us3 = [] := e
              subst e
              have ru : u = .int i := ru
              subst ru
              exact mt_insert pins s σ H _ _ v us Q I rx rxs ⟨a, us', i, u2, rfl, rfl, ha, by rw [← rpAll_len t, big_eq]; exact hz, h0, h1, q _ _ _ _ wp (rpAll_iff.mpr (((rpAll_iff.mp t).take i.toNat).snoc ru2 |>.append ((rpAll_iff.mp t).drop i.toNat))) rfl⟩
            | cons _ _ => exact wp.elim
          | _ => exact wp.elim
      | _ => exact wp.elim
    | _ => exact wp.elim
theorem m_reverse : MtR X "list.reverse" (rMut w .reverse) := fun pins s σ H x xs v us Q I rx rxs h => by
  obtain ⟨f, r, G, h, vs, P, n, a, ds, us', S, rfl, rvs, ha, t, wp, q, _⟩ := mut_of h
  cases vs with
  | nil =>
    have e : xs = [] := rvs
    subst e
    exact mt_reverse pins s σ H _ _ v us Q I rx rxs ⟨a, us', rfl, rfl, ha, q _ _ _ _ wp (rpAll_iff.mpr (rpAll_iff.mp t).reverse) rfl⟩
  | cons _ _ => exact wp.elim
theorem lst_ty (S : Prop) {f : L2.Hp} {r : List Addr} {G H : L2.Hp} {h : Hp} {v : V} {u : L2.V} {Q : Prop} (Sm : Sim w f r G h H) (rv : Rv w r G v u) (q : lstAt h v Q) : (∃ a us, u = .ref a ∧ H a = some (.lst us)) ∧ Q := by
  cases v with
  | cell n =>
    obtain ⟨a, e1, rfl⟩ := rv
    cases eo : h[n]? with
    | none => unfold lstAt at q; simp only [eo] at q
    | some o =>
      have ob := Sm.ob n a o e1 eo
      cases o with
      | lst ds => unfold lstAt at q; simp only [eo] at q; obtain ⟨g, us, ha, t⟩ := ob; exact ⟨⟨a, us, rfl, ha⟩, q⟩
      | lv ds => unfold lstAt at q; simp only [eo] at q; obtain ⟨g, us, ha, t⟩ := ob; exact ⟨⟨a, us, rfl, ha⟩, q⟩
      | _ => unfold lstAt at q; simp only [eo] at q
  | _ => exact q.elim
theorem few_ok {es : List Expr} {env : PySem.Env} (hn : ∀ e ∈ es, ∀ x p, e ≠ .Starred x p) (hl : es.length < 30) :
    ((backTo pos (starEach es env)).all (fun x => !x.1) && (backToKw pos (keywordEach [] env)).all (fun x => x.1.isSome) && decide (es.length + ([] : List Keyword).length + (if ([] : List Keyword).isEmpty then 0 else 1) < 30)) = true := by
  have h1 : (backTo pos (starEach es env)).all (fun x => !x.1) = true := by
    have := noany (env := env) (pos := pos) hn
    rw [List.any_eq_false] at this
    rw [List.all_eq_true]
    intro x hx
    have := this x hx
    cases hb : x.1 with
    | true => rw [hb] at this; exact absurd rfl this
    | false => rfl
  rw [h1]
  show (true && true && decide (es.length + 0 + 0 < 30)) = true
  rw [decide_eq_true (by omega)]
  rfl
theorem rd_mut {m : Mu} {o : T} {s : Sg} {H : L2.Hp} {Q : VK} (h : rdE w F W (.mtd m o t) s H Q) : rdE w F W o s H fun x H1 => tyV w.K "list" x H1 ∧ rdA w F W t s H1 fun xs H2 => rMut w m x xs H2 Q := by
  obtain ⟨f, r, G, env, h, P, Xp, S, E, wp, q, qx⟩ := h
  refine ⟨f, r, G, env, h, _, Xp, S, E, wp, fun v h1 u r1 G1 H1 w1 e1 S1 rv => ?_, qx⟩
  obtain ⟨⟨a, us, rfl, ha⟩, w1⟩ := lst_ty True S1 rv w1
  refine ⟨.inl ⟨rfl, us, SqL.of ha⟩, f, r1, G1, env, h1, _, Xp, S1, E.mono e1, w1, fun vs h2 us2 r2 G2 H2 w2 l2 e2 S2 rv2 => ?_, qx.mono e1⟩
  exact ⟨f, r2, G2, h2, v, vs, _, S2, Rv.mono e2 _ _ rv, rv2, w2, fun z u' h' r' G' H' pz e3 S3 rz => q z h' u' r' G' H' pz ((e1.trans e2).trans e3) S3 rz⟩
theorem se_mut0 {m : Mu} {o : T} {oe : Expr} {name : Str} {id : String} {apos cpos : Pos} (hK : X.K = w.K) (slot : Slot "list" name id) (hty : typeOf (.builtin id) = pure (.type "method_descriptor")) (hm : MtR X id (rMut w m)) (ho : SE X w F W oe o) (hb : plainBase oe = true) (hl : (apos.endLine == cpos.line) = true) :
    SE X w F W (.Call (.Attribute oe name apos) [] [] cpos) (.mtd m o .nil) := pe_imp (pe_bm0 PySem.F.plainAttrs_list slot hty hm ho (base_eq hb) hl) fun s H Q h => by
  obtain ⟨f, r, G, env, h, P, Xp, S, E, wp, q, qx⟩ := rd_mut h
  refine ⟨f, r, G, env, h, P, Xp, S, E, wp, fun v h1 u r1 G1 H1 w1 e1 S1 rv => ?_, qx⟩
  obtain ⟨ty, f', r', G', env', h', P', Xp', S', E', wp', q', qx'⟩ := q v h1 u r1 G1 H1 w1 e1 S1 rv
  exact ⟨by rw [hK]; exact ty, q' [] h' [] r' G' H1 wp' rfl Ext.refl S' rfl⟩
theorem se_mut {m : Mu} {o : T} {oe : Expr} {es : List Expr} {name : Str} {id : String} {apos cpos : Pos} (hK : X.K = w.K) (slot : Slot "list" name id) (hty : typeOf (.builtin id) = pure (.type "method_descriptor")) (hm : MtR X id (rMut w m)) (ho : SE X w F W oe o) (hb : plainBase oe = true) (hl : (apos.endLine == cpos.line) = true)
    (ha : SA X w F W (e :: es) t) (hs : ∀ y ∈ e :: es, ∀ x p, y ≠ .Starred x p) (h30 : (e :: es).length < 30) : SE X w F W (.Call (.Attribute oe name apos) (e :: es) [] cpos) (.mtd m o t) :=
  pe_imp (pe_bm PySem.F.plainAttrs_list slot hty hm ho ha (base_eq hb) (few_ok hs h30) hl (nostar (hs e (by simp))) (noany fun y hy => hs y (by simp [hy]))) fun s H Q h => by
    obtain ⟨f, r, G, env, h, P, Xp, S, E, wp, q, qx⟩ := rd_mut h
    refine ⟨f, r, G, env, h, P, Xp, S, E, wp, fun v h1 u r1 G1 H1 w1 e1 S1 rv => ?_, qx⟩
    obtain ⟨ty, z⟩ := q v h1 u r1 G1 H1 w1 e1 S1 rv
    exact ⟨by rw [hK]; exact ty, z⟩
end
end Hb

/-! SND7: new lists of one's own, slices, ranges. -/
namespace Hb
open PySem PySem.Spec PyProof.Rows
open L2 hiding V Hp St
set_option autoImplicit false
section
variable {X : Cx} {w : Wo} {F : Phi} {W : WX} {a b c e : Expr} {t t' t1 t2 t3 : T} {pos : Pos}
/-- one argument, any reading -/
theorem se_b1g {x : Str} {id : String} {r : L2.V → L2.Hp → VK → Prop} {p : Pos} (hc : CallR X (.builtin id) (rC1 r)) (i : ∀ s H Q, rdE w F W t' s H Q → rdE w F W t s H fun x H1 => r x H1 Q) (hg : Gl X x) (hm : X.mg x = none) (hv : bootBuiltins x = some (.builtin id)) (ha : SE X w F W a t) (hs : ∀ x p, a ≠ .Starred x p)
    (hn : x ≠ "__name__") (hdb : (x == ("__debug__" : Str)) = false) : SE X w F W (.Call (.Name x p) [a] [] pos) t' :=
  pe_imp (pe_callB hc hg hm hv (pa_cons ha pa_nil (nostar hs)) hn hdb (nostar hs) rfl) fun s H Q h => by
    obtain ⟨f, r, G, env, h, P, Xp, S, E, wp, q, qx⟩ := i s H Q h
    exact ⟨f, r, G, env, h, P, Xp, S, E, wp, fun v h1 u r1 G1 H1 p e1 S1 rv => ⟨u, rfl, q v h1 u r1 G1 H1 p e1 S1 rv⟩, qx⟩
theorem se_t1g {x : Str} {id : String} {r : L2.V → L2.Hp → VK → Prop} {p : Pos} (hc : CallR X (.type id) (rC1 r)) (i : ∀ s H Q, rdE w F W t' s H Q → rdE w F W t s H fun x H1 => r x H1 Q) (hg : Gl X x) (hm : X.mg x = none) (hv : bootBuiltins x = some (.type id)) (ha : SE X w F W a t) (hs : ∀ x p, a ≠ .Starred x p)
    (hn : x ≠ "__name__") (hdb : (x == ("__debug__" : Str)) = false) : SE X w F W (.Call (.Name x p) [a] [] pos) t' :=
  pe_imp (pe_callTy hc hg hm hv (pa_cons ha pa_nil (nostar hs)) hn hdb (nostar hs) rfl) fun s H Q h => by
    obtain ⟨f, r, G, env, h, P, Xp, S, E, wp, q, qx⟩ := i s H Q h
    exact ⟨f, r, G, env, h, P, Xp, S, E, wp, fun v h1 u r1 G1 H1 p e1 S1 rv => ⟨u, rfl, q v h1 u r1 G1 H1 p e1 S1 rv⟩, qx⟩
theorem se_bing {op : Operator} {r : R2} (ho : OpR X (binaryOp op) r) (ha : SE X w F W a t1) (hb : SE X w F W b t2) (i : ∀ s H Q, rdE w F W t' s H Q → tOp r (rdE w F W t1) (rdE w F W t2) s H Q) : SE X w F W (.BinOp a op b pos) t' :=
  pe_imp (pe_op ho ha hb) i
/-- ops that read data alone -/
def dat1 : O1 → Bool
  | .len => false
  | _ => true
def dat2 : O2 → Bool
  | .is => false | .isnot => false | .idx => false
  | _ => true
theorem dat1_of {o : O1} (h : dat1 o = true) : ∀ h x (P : V → Prop), o1V o h x P → optP (rdV h x) fun a => op1 o a fun z => P (.d z) := by
  intro hh x P wp
  cases o <;> first | exact wp | cases h
theorem dat2_of {o : O2} (h : dat2 o = true) : ∀ h x y (P : V → Prop), o2V o h x y P → optP (rdV h x) fun a => optP (rdV h y) fun b => op2 o a b fun z => P (.d z) := by
  intro hh x y P wp
  cases o <;> first | exact wp | cases h
/-- a new list that is a cell of its own -/
theorem out_own {f : L2.Hp} {r r1 : List Addr} {G G1 H1 : L2.Hp} {h1 : Hp} {P : Pv} {Q : VK} (q : QOk w f r G P Q) (e1 : Ext r G r1 G1) (S1 : Sim w f r1 G1 h1 H1) :
    OutL w.K G1 H1 (fun z => match V.d z with | .d (.list xs) => P (.cell h1.length) (h1 ++ [.lst xs]) | _ => False) Q := fun ds us p pz t hp => by
  have g := (S1.fresh hp).1
  obtain ⟨S2, e2, el⟩ := S1.alloc (x := .lst us) hp (o := .lst ds) ⟨g, us, upd_same, t⟩
  exact q _ _ (.ref p) _ _ _ pz (e1.trans e2) S2 ⟨p, el, rfl⟩
theorem rd_own1 {o : O1} (hd : dat1 o = true) : ∀ s H Q, rdE w F W (.own (.o1 o t)) s H Q → rdE w F W t s H fun x H1 => rF1 w.K (op1 o) x H1 Q := fun s H Q h => by
  obtain ⟨f, r, G, env, h, P, Xp, S, E, wp, q, qx⟩ := h
  refine ⟨f, r, G, env, h, _, Xp, S, E, wp, fun v h1 u r1 G1 H1 w1 e1 S1 rv => ?_, qx⟩
  obtain ⟨d, ed, w1⟩ := optP_of (dat1_of hd _ _ _ w1)
  exact ⟨G1, d, _, S1.sub, S1.read rv ed, w1, out_own q e1 S1⟩
/-- a new list, and nothing else, comes out -/
def rG2 (K : PySem.W.Frag) (o : D → D → (D → Prop) → Prop) : R2 := fun x y H Q => ∃ G d1 d2 P, Sub G H ∧ Rt K G H d1 x ∧ Rt K G H d2 y ∧ o d1 d2 P ∧ (∀ z, P z → ∃ ds, z = .list ds) ∧ OutL K G H P Q
theorem only_list {P : Pv} {h1 : Hp} : ∀ z : D, (match V.d z with | .d (.list xs) => P (.cell h1.length) (h1 ++ [.lst xs]) | _ => False) → ∃ ds, z = .list ds := fun z h => by
  cases z with
  | list ds => exact ⟨ds, rfl⟩
  | _ => exact h.elim
theorem rd_own2 {o : O2} (hd : dat2 o = true) : ∀ s H Q, rdE w F W (.own (.o2 o t1 t2)) s H Q → tOp (rG2 w.K (op2 o)) (rdE w F W t1) (rdE w F W t2) s H Q := fun s H Q h => by
  obtain ⟨f, r, G, env, h, P, Xp, S, E, wp, q, qx⟩ := h
  refine ⟨f, r, G, env, h, _, Xp, S, E, wp, fun v h1 u r1 G1 H1 w1 e1 S1 rv => ?_, qx⟩
  refine ⟨f, r1, G1, env, h1, _, Xp, S1, E.mono e1, w1, fun v2 h2 u2 r2 G2 H2 w2 e2 S2 rv2 => ?_, qx.mono e1⟩
  obtain ⟨d, ed, w2⟩ := optP_of (dat2_of hd _ _ _ _ w2)
  obtain ⟨d2, ed2, w2⟩ := optP_of w2
  exact ⟨G2, d, d2, _, S2.sub, S2.read (Rv.mono e2 _ _ rv) ed, S2.read rv2 ed2, w2, only_list, out_own q (e1.trans e2) S2⟩
theorem rd_dat1 {o : O1} (hd : dat1 o = true) : ∀ s H Q, rdE w F W (.o1 o t) s H Q → rdE w F W t s H fun x H1 => rD1 w.K (op1 o) x H1 Q := fun s H Q h => by
  obtain ⟨f, r, G, env, h, P, Xp, S, E, wp, q, qx⟩ := rd_o1 h
  exact ⟨f, r, G, env, h, P, Xp, S, E, wp, fun v h1 u r1 G1 H1 p e1 S1 rv => r1_of (dat1_of hd) (q v h1 u r1 G1 H1 p e1 S1 rv), qx⟩
theorem rd_dat2 {o : O2} (hd : dat2 o = true) : ∀ s H Q, rdE w F W (.o2 o t1 t2) s H Q → tOp (rD2 w.K (op2 o)) (rdE w F W t1) (rdE w F W t2) s H Q := fun s H Q h => by
  obtain ⟨f, r, G, env, h, P, Xp, S, E, wp, q, qx⟩ := rd_o2 h
  refine ⟨f, r, G, env, h, P, Xp, S, E, wp, fun v h1 u r1 G1 H1 p e1 S1 rv => ?_, qx⟩
  obtain ⟨f', r', G', env', h', P', Xp', S', E', wp', q', qx'⟩ := q v h1 u r1 G1 H1 p e1 S1 rv
  exact ⟨f', r', G', env', h', P', Xp', S', E', wp', fun v2 h2 u2 r2 G2 H2 p2 e2 S2 rv2 => r2_of (dat2_of hd) (q' v2 h2 u2 r2 G2 H2 p2 e2 S2 rv2), qx'⟩
theorem rd_mono {x : T} {s : Sg} {H : L2.Hp} {Q Q' : VK} (i : ∀ v H, Q v H → Q' v H) (h : rdE w F W x s H Q) : rdE w F W x s H Q' := by
  obtain ⟨f, r, G, env, h, P, Xp, S, E, wp, q, qx⟩ := h
  exact ⟨f, r, G, env, h, P, Xp, S, E, wp, fun v h1 u r1 G1 H1 p e1 S1 rv => i _ _ (q v h1 u r1 G1 H1 p e1 S1 rv), qx⟩
theorem rd_fr1 {o : O1} (hd : dat1 o = true) : ∀ s H Q, rdE w F W (.o1 o t) s H Q → rdE w F W t s H fun x H1 => rF1 w.K (op1 o) x H1 Q := fun s H Q h => rd_mono (fun v H h => rD1_F h) (rd_dat1 hd s H Q h)

/-! ### + and * of lists, new -/
theorem nol {z : D} (h : ∃ ds, z = PyData.list ds) (hz : ∀ ds, z ≠ .list ds) : False := by
  obtain ⟨ds, e⟩ := h
  exact hz ds e
theorem g_add : OpR X (binaryOp .Add) (rG2 X.K (op2 .add)) := by
  intro pins s σ H x y v u Q I rx ry ⟨G, d1, d2, P, sb, r1, r2, wp, ol, q⟩
  have wp : addP d1 d2 P := wp
  cases d1 with
  | int i => cases d2 with
    | int j => exact (nol (ol _ wp) fun _ e => nomatch e).elim
    | _ => exact wp.elim
  | str i => cases d2 with
    | str j => exact (nol (ol _ wp.2) fun _ e => nomatch e).elim
    | _ => exact wp.elim
  | tuple xs => cases d2 with
    | tuple ys => exact (nol (ol _ wp.2) fun _ e => nomatch e).elim
    | _ => exact wp.elim
  | list xs => cases d2 with
    | list ys =>
      obtain ⟨a, us, rfl, h1, t1⟩ := r1
      obtain ⟨b, vs, rfl, h2, t2⟩ := r2
      obtain ⟨hz, wp⟩ := wp
      exact op_catL pins s σ H _ _ v u Q I rx ry ⟨a, b, us, vs, rfl, rfl, h1, h2, by rw [← rpAll_len t1, ← rpAll_len t2, big_eq]; exact hz, fun p hp => q _ _ p wp (rpAll_append t1 t2) hp⟩
    | _ => exact wp.elim
  | _ => exact wp.elim
theorem g_mul : OpR X (binaryOp .Mult) (rG2 X.K (op2 .mul)) := by
  intro pins s σ H x y v u Q I rx ry ⟨G, d1, d2, P, sb, r1, r2, wp, ol, q⟩
  have wp : mulP d1 d2 P := wp
  cases d1 with
  | int i => cases d2 with
    | int j => exact (nol (ol _ wp.2) fun _ e => nomatch e).elim
    | _ => exact wp.elim
  | list xs => cases d2 with
    | int j =>
      obtain ⟨a, us, rfl, h1, t1⟩ := r1
      obtain ⟨⟨b1, b2, b3⟩, wp⟩ := wp
      exact op_repL pins s σ H _ _ v u Q I rx ry ⟨a, j, us, rfl, r2, h1, b1, b2, by rw [← rpAll_len t1, big_eq]; exact b3, fun p hp => q _ _ p wp (rpAll_iff.mpr ((rpAll_iff.mp t1).rep _)) hp⟩
    | _ => exact wp.elim
  | tuple xs => cases d2 with
    | int j => exact (nol (ol _ wp.2) fun _ e => nomatch e).elim
    | _ => exact wp.elim
  | str xs => cases d2 with
    | int j => exact (nol (ol _ (wp.2 ⟨#[]⟩)) fun _ e => nomatch e).elim
    | _ => exact wp.elim
  | _ => exact wp.elim
/-! ### slices -/
def rSlD (K : PySem.W.Frag) : L2.V → Option Int → Option Int → L2.Hp → VK → Prop := fun x lo hi H Q => ∃ G d P, Sub G H ∧ Rt K G H d x ∧ cutP d lo hi P ∧ Out K G H P Q
def rSlG (K : PySem.W.Frag) : L2.V → Option Int → Option Int → L2.Hp → VK → Prop := fun x lo hi H Q => ∃ G d P, Sub G H ∧ Rt K G H d x ∧ cutP d lo hi P ∧ (∀ z, P z → ∃ ds, z = .list ds) ∧ OutL K G H P Q
theorem cut_rel {K : PySem.W.Frag} {G : L2.Hp} {ds : List D} {us : List L2.V} (t : RpAll K G ds us) (lo hi : Option Int) : RpAll K G (cutD ds lo hi) (cutV us lo hi) := by
  have t := rpAll_iff.mp t
  rw [rpAll_iff]
  unfold cutD cutV
  rw [t.length]
  exact (t.drop _).take _
theorem cutD_all {α : Type} {xs : List α} {lo hi : Option Int} (h : HT.sIx xs.length 0 lo = 0 ∧ HT.sIx xs.length xs.length hi = xs.length) : cutD xs lo hi = xs := by
  unfold cutD
  rw [h.1, h.2, List.drop_zero, Nat.sub_zero, List.take_length]
/-- t[i:j]: t itself where that is all -/
def rSlP (K : PySem.W.Frag) : L2.V → Option Int → Option Int → L2.Hp → VK → Prop := fun x lo hi H Q => ∃ a xs, x = .ref a ∧ SqT K H a xs ∧ (HT.sIx xs.length 0 lo = 0 ∧ HT.sIx xs.length xs.length hi = xs.length → Q (.ref a) H) ∧ (¬ (HT.sIx xs.length 0 lo = 0 ∧ HT.sIx xs.length xs.length hi = xs.length) → NewT H (cutV xs lo hi) Q)
theorem sl_tupP : SlR X (rSlP X.K) := by
  intro pins s σ H x v vl vu lo hi sl Q I rx hs pl pu ⟨a, xs, e, hx, q1, q2⟩
  by_cases hw : HT.sIx xs.length 0 lo = 0 ∧ HT.sIx xs.length xs.length hi = xs.length
  · exact sl_tupA pins s σ H x v vl vu lo hi sl Q I rx hs pl pu ⟨a, xs, e, hx, q1, fun z => absurd hw z⟩
  subst e
  cases rx
  obtain ⟨vs, rv, ht, hz⟩ := I.tuple hx
  have lv : vs.toArray.size = xs.length := by rw [List.size_toArray, rv.length]
  refine ⟨"tuple", _, PyProof.Rows.slot_tuple_getitem.lookup, ht.typeIs, HT.getItem_tuple_cut ht hs pl pu (by rw [lv]; exact hw) ?_ (by rw [lv]; exact hz)⟩
  rw [lv]
  obtain ⟨I2, hf⟩ := inv_newT (t' := s.toks) I (xs := cutV xs lo hi) ((rv.drop (HT.sIx xs.length 0 lo)).take (HT.sIx xs.length xs.length hi - HT.sIx xs.length 0 lo)) (Nat.le_trans (cutV_length xs lo hi) hz)
  exact ⟨.ref s.heap.objs.size, _, I2, rfl, q2 hw _ _ hf rfl⟩
theorem sl_dat : SlR X (rSlD X.K) := by
  intro pins s σ H x v vl vu lo hi sl Q I rx hs pl pu ⟨G, d, P, sb, r, wp, q1, q2⟩
  cases d with
  | list ds =>
    obtain ⟨a, us, rfl, h1, t⟩ := r
    exact sl_list pins s σ H _ v vl vu lo hi sl Q I rx hs pl pu ⟨a, us, rfl, h1.sq, fun p hp => q2 _ p _ wp hp rfl fun e => ⟨p, _, rfl, .inl (.inl upd_same), RpAll.mono e _ _ (cut_rel t lo hi)⟩⟩
  | tuple ds =>
    obtain ⟨a, us, rfl, h1, t⟩ := r
    have hl := rpAll_len t
    refine sl_tupP pins s σ H _ v vl vu lo hi sl Q I rx hs pl pu ⟨a, us, rfl, tqT_mono sb h1, fun hw => ?_, fun _ p ob hp hd => q2 _ p _ wp hp rfl fun e => ⟨p, _, rfl, ⟨ob, upd_same, hd⟩, RpAll.mono e _ _ (cut_rel t lo hi)⟩⟩
    rw [← hl] at hw
    have wp : P (.tuple (cutD ds lo hi)) := wp
    rw [cutD_all hw] at wp
    exact q1 _ _ wp ⟨a, us, rfl, h1, t⟩
  | str z =>
    have r : x = .str z := r
    subst r
    obtain ⟨hz, wp⟩ := wp
    exact sl_str pins s σ H _ v vl vu lo hi sl Q I rx hs pl pu ⟨z, rfl, by rw [big_eq]; exact hz, q1 _ _ wp (by
      show L2.V.str (L2.cutS z lo hi) = L2.V.str (cutS z lo hi)
      rfl)⟩
  | _ => exact wp.elim
theorem sl_new : SlR X (rSlG X.K) := by
  intro pins s σ H x v vl vu lo hi sl Q I rx hs pl pu ⟨G, d, P, sb, r, wp, ol, q⟩
  cases d with
  | list ds =>
    obtain ⟨a, us, rfl, h1, t⟩ := r
    exact sl_list pins s σ H _ v vl vu lo hi sl Q I rx hs pl pu ⟨a, us, rfl, h1.sq, fun p hp => q _ _ p wp (cut_rel t lo hi) hp⟩
  | tuple ds => exact (nol (ol _ wp) fun _ e => nomatch e).elim
  | str z => exact (nol (ol _ wp.2) fun _ e => nomatch e).elim
  | _ => exact wp.elim
theorem intV_of {v : V} {i : Int} (h : intV v = some i) : v = .d (.int i) := by
  cases v with
  | d d => cases d <;> first | (cases h; rfl) | cases h
  | _ => cases h
theorem rd_dat3 {o : O3} {s : Sg} {H : L2.Hp} {Q : VK} (h : rdE w F W (.o3 o t1 t2 t3) s H Q) : tSl (rSlD w.K) (rdE w F W t1) (tPart (rdE w F W t2)) (tPart (rdE w F W t3)) s H Q := by
  obtain ⟨f, r, G, env, h, P, Xp, S, E, wp, q, qx⟩ := h
  refine ⟨f, r, G, env, h, _, Xp, S, E, wp, fun v h1 u r1 G1 H1 w1 e1 S1 rv => ?_, qx⟩
  refine ⟨f, r1, G1, env, h1, _, Xp, S1, E.mono e1, w1, fun v2 h2 u2 r2 G2 H2 w2 e2 S2 rv2 => ?_, qx.mono e1⟩
  obtain ⟨i, ei, w2'⟩ := optP_of w2
  have := intV_of ei
  subst this
  refine ⟨i, rv2, f, r2, G2, env, h2, _, Xp, S2, E.mono (e1.trans e2), w2', fun v3 h3 u3 r3 G3 H3 w3 e3 S3 rv3 => ?_, qx.mono (e1.trans e2)⟩
  obtain ⟨j, ej, w3'⟩ := optP_of w3
  have := intV_of ej
  subst this
  obtain ⟨d, ed, w4⟩ := optP_of w3'
  exact ⟨j, rv3, G3, d, _, S3.sub, S3.read (Rv.mono (e2.trans e3) _ _ rv) ed, w4, out_of S3 fun z u' r' G' H' pz e4 S4 rz => q z h3 u' r' G' H' pz (((e1.trans e2).trans e3).trans e4) S4 rz⟩
theorem rd_own3 {o : O3} {s : Sg} {H : L2.Hp} {Q : VK} (h : rdE w F W (.own (.o3 o t1 t2 t3)) s H Q) : tSl (rSlG w.K) (rdE w F W t1) (tPart (rdE w F W t2)) (tPart (rdE w F W t3)) s H Q := by
  obtain ⟨f, r, G, env, h, P, Xp, S, E, wp, q, qx⟩ := h
  refine ⟨f, r, G, env, h, _, Xp, S, E, wp, fun v h1 u r1 G1 H1 w1 e1 S1 rv => ?_, qx⟩
  refine ⟨f, r1, G1, env, h1, _, Xp, S1, E.mono e1, w1, fun v2 h2 u2 r2 G2 H2 w2 e2 S2 rv2 => ?_, qx.mono e1⟩
  obtain ⟨i, ei, w2'⟩ := optP_of w2
  have := intV_of ei
  subst this
  refine ⟨i, rv2, f, r2, G2, env, h2, _, Xp, S2, E.mono (e1.trans e2), w2', fun v3 h3 u3 r3 G3 H3 w3 e3 S3 rv3 => ?_, qx.mono (e1.trans e2)⟩
  obtain ⟨j, ej, w3'⟩ := optP_of w3
  have := intV_of ej
  subst this
  obtain ⟨d, ed, w4⟩ := optP_of w3'
  exact ⟨j, rv3, G3, d, _, S3.sub, S3.read (Rv.mono (e2.trans e3) _ _ rv) ed, w4, only_list, out_own q ((e1.trans e2).trans e3) S3⟩
variable {p2 : Pos}
theorem sl_datK (hK : X.K = w.K) : SlR X (rSlD w.K) := hK ▸ sl_dat
theorem sl_newK (hK : X.K = w.K) : SlR X (rSlG w.K) := hK ▸ sl_new
theorem se_cut (hK : X.K = w.K) (ha : SE X w F W a t1) (hb : SE X w F W b t2) (hc : SE X w F W c t3) : SE X w F W (.Subscript a (.Slice (some b) (some c) none p2) pos) (.o3 .cut t1 t2 t3) :=
  pe_imp (pe_slice (sl_datK hK) ha (po_some hb) (po_some hc)) fun s H Q h => rd_dat3 h
theorem se_cutN (hK : X.K = w.K) (ha : SE X w F W a t1) (hb : SE X w F W b t2) (hc : SE X w F W c t3) : SE X w F W (.Subscript a (.Slice (some b) (some c) none p2) pos) (.own (.o3 .cut t1 t2 t3)) :=
  pe_imp (pe_slice (sl_newK hK) ha (po_some hb) (po_some hc)) fun s H Q h => rd_own3 h
theorem cut2 {o : O2} {lo hi : Int → Option Int} (ho : ∀ d e P, op2 o d e P → ∃ i, e = .int i ∧ cutP d (lo i) (hi i) P) {x y : L2.V} {H : L2.Hp} {Q : VK} (h : rD2 w.K (op2 o) x y H Q) : ∃ i, y = .int i ∧ rSlD w.K x (lo i) (hi i) H Q := by
  obtain ⟨G, d1, d2, P, sb, r1, r2, wp, q⟩ := h
  obtain ⟨i, rfl, wp'⟩ := ho _ _ _ wp
  exact ⟨i, r2, G, d1, P, sb, r1, wp', q⟩
theorem cutN2 {o : O2} {lo hi : Int → Option Int} (ho : ∀ d e P, op2 o d e P → ∃ i, e = .int i ∧ cutP d (lo i) (hi i) P) {x y : L2.V} {H : L2.Hp} {Q : VK} (h : rG2 w.K (op2 o) x y H Q) : ∃ i, y = .int i ∧ rSlG w.K x (lo i) (hi i) H Q := by
  obtain ⟨G, d1, d2, P, sb, r1, r2, wp, ol, q⟩ := h
  obtain ⟨i, rfl, wp'⟩ := ho _ _ _ wp
  exact ⟨i, r2, G, d1, P, sb, r1, wp', ol, q⟩
theorem op_cutlo (d e : D) (P : D → Prop) (h : op2 .cutlo d e P) : ∃ i, e = .int i ∧ cutP d (some i) none P := by
  obtain ⟨i, rfl, h⟩ := intP_of h
  exact ⟨i, rfl, h⟩
theorem op_cuthi (d e : D) (P : D → Prop) (h : op2 .cuthi d e P) : ∃ i, e = .int i ∧ cutP d none (some i) P := by
  obtain ⟨i, rfl, h⟩ := intP_of h
  exact ⟨i, rfl, h⟩
theorem se_cutlo (hK : X.K = w.K) (ha : SE X w F W a t1) (hb : SE X w F W b t2) : SE X w F W (.Subscript a (.Slice (some b) none none p2) pos) (.o2 .cutlo t1 t2) :=
  pe_imp (pe_slice (sl_datK hK) ha (po_some hb) po_none) fun s H Q h => rd_mono (fun x H1 h => rd_mono (fun y H2 h => cut2 (lo := some) (hi := fun _ => none) op_cutlo h) h) (rd_dat2 rfl s H Q h)
theorem se_cuthi (hK : X.K = w.K) (ha : SE X w F W a t1) (hb : SE X w F W b t2) : SE X w F W (.Subscript a (.Slice none (some b) none p2) pos) (.o2 .cuthi t1 t2) :=
  pe_imp (pe_slice (sl_datK hK) ha po_none (po_some hb)) fun s H Q h => rd_mono (fun x H1 h => rd_mono (fun y H2 h => cut2 (lo := fun _ => none) (hi := some) op_cuthi h) h) (rd_dat2 rfl s H Q h)
theorem se_cutloN (hK : X.K = w.K) (ha : SE X w F W a t1) (hb : SE X w F W b t2) : SE X w F W (.Subscript a (.Slice (some b) none none p2) pos) (.own (.o2 .cutlo t1 t2)) :=
  pe_imp (pe_slice (sl_newK hK) ha (po_some hb) po_none) fun s H Q h => rd_mono (fun x H1 h => rd_mono (fun y H2 h => cutN2 (lo := some) (hi := fun _ => none) op_cutlo h) h) (rd_own2 rfl s H Q h)
theorem se_cuthiN (hK : X.K = w.K) (ha : SE X w F W a t1) (hb : SE X w F W b t2) : SE X w F W (.Subscript a (.Slice none (some b) none p2) pos) (.own (.o2 .cuthi t1 t2)) :=
  pe_imp (pe_slice (sl_newK hK) ha po_none (po_some hb)) fun s H Q h => rd_mono (fun x H1 h => rd_mono (fun y H2 h => cutN2 (lo := fun _ => none) (hi := some) op_cuthi h) h) (rd_own2 rfl s H Q h)
/-! ### [::-1] -/
section
variable {prog : Program} {ww : World} {A : Around} {EE : Value → Shared → Prop} {s : Shared}
theorem places_rev (n : Nat) : Builtin.Slice.slicePlaces ((n : Int) - 1) (-1) (-1) = n := by
  unfold Builtin.Slice.slicePlaces
  have h1 : ¬ ((-1 : Int) > 0) := by omega
  simp only [h1, if_false]
  by_cases h : (n : Int) - 1 > -1
  · have e : ((n : Int) - 1 - -1 - 1) / (- -1) = (n : Int) - 1 := by
      rw [show (- -1 : Int) = 1 by decide, Int.ediv_one]
      omega
    first
      | rw [if_pos h, e]; omega
      | (rw [if_pos (by omega)]; rw [e]; omega)
  · split <;> omega
theorem fm_congr {α β : Type} {f g : α → Option β} : ∀ {l : List α}, (∀ x ∈ l, f x = g x) → l.filterMap f = l.filterMap g
  | [], _ => rfl
  | x :: l, h => by rw [List.filterMap_cons, List.filterMap_cons, h x (by simp), fm_congr fun y hy => h y (by simp [hy])]
theorem sliceApplied_rev {sl : Addr} {vs : Value} {n : Nat} {Q : Int × Int × Nat → Shared → Prop} (hs : s.heap.IsSliceOf sl .none .none vs) (ps : IsPart vs (some (-1)))
    (h : Q ((n : Int) - 1, -1, n) s) : wpAny (model prog ww) A (Builtin.Slice.sliceApplied (.ref sl) (pure (n : Int))) Q EE s := by
  obtain ⟨os, hos, hcs, hds⟩ := id hs
  unfold Builtin.Slice.sliceApplied Builtin.Slice.sliceFields
  refine wpAny_bind (wpAny_bind (wpAny_field hos hds (x := .none) rfl (wpAny_bind (wpAny_field hos hds (x := .none) rfl (wpAny_bind (wpAny_field hos hds (x := vs) rfl (wpAny_pure ?_)))))))
  refine wpAny_bind (HT.slicePart_ ps ?_)
  show wpAny _ _ (if ((-1 : Int) == 0) = true then _ else _) _ _ s
  rw [if_neg (by decide)]
  refine wpAny_bind (HT.slicePart_ .none (wpAny_bind (HT.slicePart_ .none (wpAny_bind (wpAny_pure ?_)))))
  show wpAny _ _ (match Builtin.Slice.sliceAdjust none none (-1) (n : Int) with | (lo, hi) => pure (lo, (-1 : Int), Builtin.Slice.slicePlaces lo hi (-1))) _ _ s
  have e : Builtin.Slice.sliceAdjust none none (-1) (n : Int) = ((n : Int) - 1, -1) := by
    unfold Builtin.Slice.sliceAdjust
    simp
  rw [e]
  show wpAny _ _ (pure ((n : Int) - 1, (-1 : Int), Builtin.Slice.slicePlaces ((n : Int) - 1) (-1) (-1))) _ _ s
  rw [places_rev]
  exact wpAny_pure h
theorem pick_rev (xs : Array Value) : ((List.range xs.size).filterMap fun (m : Nat) => xs[((xs.size : Int) - 1 + (m : Int) * -1).toNat]?).toArray = xs.toList.reverse.toArray := by
  have e : (List.range xs.size).filterMap (fun (m : Nat) => xs[((xs.size : Int) - 1 + (m : Int) * -1).toNat]?) = ((List.range xs.size).map fun k => xs.size - 1 - k).filterMap (xs[·]?) := by
    rw [List.filterMap_map]
    refine fm_congr fun m hm => ?_
    have := List.mem_range.mp hm
    have e1 : ((xs.size : Int) - 1 + (m : Int) * -1).toNat = xs.size - 1 - m := by omega
    rw [e1]
    rfl
  rw [e, PySem.W.krv_range, List.filterMap_reverse, PySem.W.krv_all]
theorem getItem_tuple_rev {t sl : Addr} {items : Array Value} {vs : Value} {Q : Value → Shared → Prop} (ht : IsTup s.heap t items) (hs : s.heap.IsSliceOf sl .none .none vs) (ps : IsPart vs (some (-1)))
    (h : Q (.ref s.heap.objs.size) { s with heap := s.heap.push { cls := .type "tuple", data := .seq items.toList.reverse.toArray } })
    (hsz : items.size ≤ sizeLine) : wpAny (model prog ww) A (getItem (.ref t) (.ref sl)) Q EE s := by
  have htake : sizeOk (.seq items.toList.reverse.toArray) := by
    show items.toList.reverse.toArray.size ≤ sizeLine
    rw [List.size_toArray, List.length_reverse, Array.length_toList]
    exact hsz
  obtain ⟨os, hos, hcs, hds⟩ := id hs
  have hTs : s.TypeIs (.ref sl) "slice" := ⟨os, hos, hcs⟩
  unfold getItem
  try with_reducible refine wpAny_holding ?_
  first | refine wpAny_bind (wpAny_pure ?_) | skip
  refine wpAny_bind (wpAny_sequenceKey ht.typeIs (by decide) ?_)
  refine wpAny_bind (wpAny_callSpecial?_slot (name := Str.ofString "__getitem__") ht.typeIs PyProof.Rows.slot_tuple_getitem
    (wpAny_call_entry PyProof.Rows.slot_tuple_getitem ht.typeIs entry_tuple_getitem ?_ (args_tuple_getitem _ _)))
  show wpAny _ _ (Builtin.Tuple.tupleItemsOf (.ref t) >>= _) _ _ s
  refine wpAny_bind (tupleItemsOf_ ht ?_)
  refine wpAny_bind (wpAny_typeOf hTs ?_)
  rw [if_pos (by decide)]
  refine wpAny_bind (sliceApplied_rev hs ps ?_)
  have hno : ¬ ((((items.size : Int) - 1) == 0 && (-1 : Int) == 1 && items.size == items.size) = true) := by
    intro q
    rw [Bool.and_eq_true, Bool.and_eq_true] at q
    exact absurd q.1.2 (by decide)
  show wpAny _ _ (if (((items.size : Int) - 1) == 0 && (-1 : Int) == 1 && items.size == items.size) = true then _ else _) _ _ s
  rw [if_neg hno, pick_rev]
  first
    | exact wpAny_bind (m := Builtin.Tuple.tupleExact _) (wpAny_newObj_type (wpAny_pure ⟨_, rfl, wpAny_pure h⟩) htake)
    | exact wpAny_bind (m := Builtin.Tuple.tupleExact _) (wpAny_newObj_type (wpAny_bind (wpAny_pure (wpAny_pure ⟨_, rfl, wpAny_pure h⟩))) htake)
    | exact wpAny_bind (wpAny_bind (m := Builtin.Tuple.tupleExact _) (wpAny_newObj_type (wpAny_pure (wpAny_pure ⟨_, rfl, wpAny_pure h⟩)) htake))
    | exact wpAny_bind (wpAny_bind (m := Builtin.Tuple.tupleExact _) (wpAny_newObj_type (wpAny_pure ⟨_, rfl, wpAny_pure h⟩) htake))
end
/-- e[::-1], by values -/
def RevR (X : Cx) (r : L2.V → L2.Hp → VK → Prop) : Prop :=
  ∀ (pins : List (Addr × Obj)) (s : Shared) (σ : Sg) (H : L2.Hp) (x : L2.V) (v vs : Value) (sl : Addr) (Q : VK), Inv X pins σ H s → RelV x v → s.heap.IsSliceOf sl .none .none vs → IsPart vs (some (-1)) → r x H Q →
    ∃ T id, typeLookup (.type T) "__getitem__" = pure (some (.builtin id)) ∧ s.TypeIs v T ∧ wpAny (model X.prog X.w) X.A (getItem v (.ref sl)) (EP X pins σ Q) X.xe s
theorem pe_rev {e : Expr} {te : TE} {k : Nat} {p1 p2 p3 pos : Pos} {r : L2.V → L2.Hp → VK → Prop} (hr : RevR X r) (he : PE X e te) : PE X (.Subscript e (.Slice none none (some (.UnaryOp .USub (.Constant (.int 1) k p1) p2)) p3) pos) (fun σ H Q => te σ H fun x H1 => r x H1 Q) := by
  refine ⟨fun pins s σ H Q I h => ?_⟩
  refine Subscript_ (thn (he.run pins s σ H _ I h) fun v s1 ⟨x, H1, I1, r1, q1⟩ => ?_)
  have hst : PO X (some (.UnaryOp .USub (.Constant (.int 1) k p1) p2)) (tPart (tUn (rU fun i => .int (-i)) (tC (.int 1)))) := po_some (pe_un un_neg pe_int)
  refine wpAny_Slice (thn (po_none.run pins s1 σ H1 (fun o H2 => o = none ∧ H2 = H1) I1 ⟨rfl, rfl⟩) fun vl s2 ⟨l, H2, I2, pl, el, e2⟩ => ?_)
  subst el e2
  refine thn (po_none.run pins s2 σ H2 (fun o H3 => o = none ∧ H3 = H2) I2 ⟨rfl, rfl⟩) fun vu s3 ⟨u, H3, I3, pu, eu, e3⟩ => ?_
  subst eu e3
  refine thn (hst.run pins s3 σ H3 (fun o H4 => o = some (-1) ∧ H4 = H3) I3 ⟨1, rfl, -1, rfl, rfl, rfl⟩) fun vs s4 ⟨o, H4, I4, ps, eo, e4⟩ => ?_
  subst eo e4
  cases pl
  cases pu
  have I5 : Inv X pins σ H4 { s4 with heap := s4.heap.push { cls := .type "slice", data := .fields #[.none, .none, vs] } } := I4.kept (t' := s4.toks) fun b ob q => Heap.get?_push_of_some _ q
  obtain ⟨T, id, hT, ht, hg⟩ := hr pins { s4 with heap := s4.heap.push { cls := .type "slice", data := .fields #[.none, .none, vs] } } σ H4 x v vs s4.heap.objs.size Q I5 r1 (Heap.IsSliceOf.new ..) ps q1
  show wpAny (model X.prog X.w) X.A (subscriptTail e (.Slice none none (some (.UnaryOp .USub (.Constant (.int 1) k p1) p2)) p3) v (.ref s4.heap.objs.size)) (EP X pins σ Q) X.xe { s4 with heap := s4.heap.push { cls := .type "slice", data := .fields #[.none, .none, vs] } }
  exact tail_any (ops := [v, .ref s4.heap.objs.size]) ht hT hg (by with_unfolding_all rfl)
theorem rev_list {pins : List (Addr × Obj)} {s : Shared} {σ : Sg} {H : L2.Hp} {a sl : Addr} {us : List L2.V} {vs : Value} {Q : VK} (I : Inv X pins σ H s) (hx : SqL X.K H a us) (hs : s.heap.IsSliceOf sl .none .none vs) (ps : IsPart vs (some (-1))) (q : ∀ p, H p = none → Q (.ref p) (upd H p (.lst us.reverse))) :
    wpAny (model X.prog X.w) X.A (getItem (.ref a) (.ref sl)) (EP X pins σ Q) X.xe s := by
  obtain ⟨its, r, ht, hz⟩ := I.list hx
  have hlen := r.length
  refine wpAny_getItem_list_slice ht.isList hs .none .none ps (by decide) ?_ (by rw [List.size_toArray]; omega)
  rw [PySem.W.krv_pick]
  refine ⟨.ref _, _, I.laid (t' := s.toks) (o := .lst us.reverse) (fun b ob q => Heap.get?_push_of_some _ q) (Nat.le_refl _) ?_, rfl, q _ (I.hok.fresh (Nat.le_refl _))⟩
  exact ⟨by rw [List.length_reverse]; exact hz, _, 0, r.reverse, Heap.get?_push_size _ rfl⟩
theorem rev_dat : RevR X (rD1 X.K (op1 .rev)) := by
  intro pins s σ H x v vs sl Q I rx hs ps ⟨G, d, P, sb, r, wp, q1, q2⟩
  cases d with
  | list ds =>
    obtain ⟨a, us, rfl, h1, t⟩ := r
    cases rx
    obtain ⟨its, _, ht, _⟩ := I.list h1.sq
    exact ⟨"list", _, PySem.slot_list_getitem.lookup, ht.isList.typeIs, rev_list I h1.sq hs ps fun p hp => q2 _ p _ wp hp rfl fun e => ⟨p, _, rfl, .inl (.inl upd_same), RpAll.mono e _ _ (rpAll_iff.mpr (rpAll_iff.mp t).reverse)⟩⟩
  | tuple ds =>
    obtain ⟨a, us, rfl, h1, t⟩ := r
    cases rx
    obtain ⟨its, r, ht, hz⟩ := I.tuple (tqT_mono sb h1)
    have hlen := r.length
    refine ⟨"tuple", _, PyProof.Rows.slot_tuple_getitem.lookup, ht.typeIs, getItem_tuple_rev ht hs ps ?_ (by rw [List.size_toArray]; omega)⟩
    obtain ⟨I2, hf⟩ := inv_newT (t' := s.toks) I r.reverse (by rw [List.length_reverse]; exact hz)
    exact ⟨.ref s.heap.objs.size, _, I2, rfl, q2 _ _ _ wp hf rfl fun e => ⟨_, _, rfl, ⟨_, upd_same, rfl⟩, RpAll.mono e _ _ (rpAll_iff.mpr (rpAll_iff.mp t).reverse)⟩⟩
  | _ => exact wp.elim
theorem se_rev {k : Nat} {p1 p2 p3 : Pos} (hK : X.K = w.K) (ha : SE X w F W a t) : SE X w F W (.Subscript a (.Slice none none (some (.UnaryOp .USub (.Constant (.int 1) k p1) p2)) p3) pos) (.o1 .rev t) :=
  pe_imp (pe_rev (hK ▸ rev_dat) ha) fun s H Q h => rd_dat1 rfl s H Q h
/-! ### list(range(..)), tuple(range(..)) -/
theorem rg_rel {K : PySem.W.Frag} {G : L2.Hp} : ∀ (n : Nat) (lo : Int), RpAll K G (ranI lo n) ((List.range n).map fun i => L2.V.int (lo + (i : Nat)))
  | 0, lo => rfl
  | n + 1, lo => by
    rw [List.range_succ_eq_map, List.map_cons, List.map_map]
    refine ⟨_, _, rfl, ?_, ?_⟩
    · show L2.V.int _ = L2.V.int lo
      congr 1
      omega
    · have := rg_rel (K := K) (G := G) n (lo + 1)
      have e : ((fun (i : Nat) => L2.V.int (lo + (i : Nat))) ∘ Nat.succ) = fun (i : Nat) => L2.V.int (lo + 1 + (i : Nat)) := by
        funext i
        show L2.V.int (lo + ((i + 1 : Nat) : Int)) = _
        congr 1
        omega
      rw [e]
      exact this
theorem rg0_ok {i : Int} (h : -(2 ^ 62) ≤ i ∧ i ≤ big) : RgOk 0 i := by
  have e : ((2 : Int) ^ 62) = 4611686018427387904 := by decide
  obtain ⟨h1, h2⟩ := h
  have h2 : i ≤ 16777216 := h2
  rw [e] at h1
  refine ⟨by omega, by omega, by omega, by omega, ?_⟩
  have e2 : (2 ^ 24 : Nat) = 16777216 := by decide
  omega
theorem rg2_ok {i j : Int} (h : -(2 ^ 62) ≤ i ∧ i < 2 ^ 62 ∧ -(2 ^ 62) ≤ j ∧ j < 2 ^ 62 ∧ j - i ≤ big) : RgOk i j := by
  obtain ⟨h1, h2, h3, h4, h5⟩ := h
  have h5 : j - i ≤ 16777216 := h5
  refine ⟨h1, h2, h3, h4, ?_⟩
  have e2 : (2 ^ 24 : Nat) = 16777216 := by decide
  omega
theorem rgV0 {i : Int} {K : PySem.W.Frag} {G : L2.Hp} : RpAll K G (ranI 0 i.toNat) (rgV 0 i) := by
  have := rg_rel (K := K) (G := G) i.toNat 0
  unfold rgV
  rw [Int.sub_zero]
  exact this
variable {p p3 : Pos}
theorem se_lrange (hc : X.calm = true) (hg : Gl X "list") (hm : X.mg "list" = none) (hgr : Gl X "range") (hmr : X.mg "range" = none) (ha : SE X w F W a t) (hs : ∀ x p, a ≠ .Starred x p) : SE X w F W (.Call (.Name "list" p) [.Call (.Name "range" p2) [a] [] p3] [] pos) (.o1 .lrange t) :=
  pe_imp (pe_listRg hc hg hm (prg_1 hgr hmr ha (nostar hs))) fun s H Q h => rd_mono (fun x H1 h => by
    obtain ⟨G, d, P, sb, r, wp, q⟩ := h
    cases d with
    | int i => exact ⟨i, r, rg0_ok wp.1, fun p hp => q _ _ p wp.2 rgV0 hp⟩
    | _ => exact wp.elim) (rd_fr1 (o := .lrange) rfl s H Q h)
theorem se_lrangeN (hc : X.calm = true) (hg : Gl X "list") (hm : X.mg "list" = none) (hgr : Gl X "range") (hmr : X.mg "range" = none) (ha : SE X w F W a t) (hs : ∀ x p, a ≠ .Starred x p) : SE X w F W (.Call (.Name "list" p) [.Call (.Name "range" p2) [a] [] p3] [] pos) (.own (.o1 .lrange t)) :=
  pe_imp (pe_listRg hc hg hm (prg_1 hgr hmr ha (nostar hs))) fun s H Q h => rd_mono (fun x H1 h => by
    obtain ⟨G, d, P, sb, r, wp, q⟩ := h
    cases d with
    | int i => exact ⟨i, r, rg0_ok wp.1, fun p hp => q _ _ p wp.2 rgV0 hp⟩
    | _ => exact wp.elim) (rd_own1 (o := .lrange) rfl s H Q h)
/-- tuple(range(..)) -/
theorem pe_tupRgP {g : Expr} {tg : Sg → L2.Hp → (Int → Int → L2.Hp → Prop) → Prop} {q0 q1 : Pos} (hc : X.calm = true) (hg : Gl X "tuple") (hm : X.mg "tuple" = none) (he : PRg X g tg) (na : starEach [g] X.env = (false, eval g X.env) :: starEach [] X.env) :
    PE X (.Call (.Name "tuple" q0) [g] [] q1) (fun σ H Q => tg σ H fun i j H1 => RgOk i j ∧ NewT H1 (rgV i j) Q) := by
  refine ⟨fun pins s σ H Q I h => Call_ (ld_blt I hg hm boot_tuple (PyProof.Rows.callWith_type1 (args_cons (thn (he pins s σ H _ I h) fun z s1 ⟨rg, i, j, k1, k2, k3, H1, ez, hr, I1, ok, q⟩ => args_nil ?_) na) na))⟩
  subst ez
  refine call_tuple_range (n := (j - i).toNat) (I1.ok.hd hc) hr (small_one ok.1 ok.2.1 ok.2.2.1 ok.2.2.2.1) (rangeSize_nat i j) ok.2.2.2.2 fun h2 tk acc hk hi => ?_
  have J : Inv X pins σ H1 { s1 with heap := h2, toks := tk } := I1.kept hk
  obtain ⟨J2, hf⟩ := inv_newT (t' := tk) J (vals_rg hi) (by rw [rgV_length, sizeLine_eq]; have := ok.2.2.2.2; omega)
  rw [show obTup acc.toList = ({ cls := .type "tuple", data := .seq acc } : Obj) by unfold obTup; rw [Array.toArray_toList]] at J2
  exact ⟨.ref h2.objs.size, _, J2, rfl, q _ _ hf rfl⟩
theorem se_trange (hc : X.calm = true) (hg : Gl X "tuple") (hm : X.mg "tuple" = none) (hgr : Gl X "range") (hmr : X.mg "range" = none) (ha : SE X w F W a t) (hs : ∀ x p, a ≠ .Starred x p) : SE X w F W (.Call (.Name "tuple" p) [.Call (.Name "range" p2) [a] [] p3] [] pos) (.o1 .trange t) :=
  pe_imp (pe_tupRgP hc hg hm (prg_1 hgr hmr ha (nostar hs)) (by rfl)) fun s H Q h => rd_mono (fun x H1 h => by
    obtain ⟨G, d, P, sb, r, wp, q1, q2⟩ := h
    cases d with
    | int i => exact ⟨i, r, rg0_ok wp.1, fun p ob hp hd => q2 _ p _ wp.2 hp rfl fun e => ⟨p, _, rfl, ⟨ob, upd_same, hd⟩, RpAll.mono e _ _ rgV0⟩⟩
    | _ => exact wp.elim) (rd_dat1 (o := .trange) rfl s H Q h)
theorem se_lrange2 (hc : X.calm = true) (hg : Gl X "list") (hm : X.mg "list" = none) (hgr : Gl X "range") (hmr : X.mg "range" = none) (ha : SE X w F W a t1) (hb : SE X w F W b t2) (hs : ∀ x p, a ≠ .Starred x p) (hs2 : ∀ x p, b ≠ .Starred x p) : SE X w F W (.Call (.Name "list" p) [.Call (.Name "range" p2) [a, b] [] p3] [] pos) (.o2 .lrange2 t1 t2) :=
  pe_imp (pe_listRg hc hg hm (prg_2 hgr hmr ha hb (by rw [nostar hs, nostar hs2]) (nostar hs2) (noany (by simpa using hs2)))) fun s H Q h => rd_mono (fun x H1 h => rd_mono (fun y H2 h => by
    obtain ⟨G, d1, d2, P, sb, r1, r2, wp, q⟩ := rD2_F h
    obtain ⟨i, rfl, wp⟩ := intP_of wp
    obtain ⟨j, rfl, wp⟩ := intP_of wp
    exact ⟨i, j, r1, r2, rg2_ok wp.1, fun p hp => q _ _ p wp.2 (rg_rel _ _) hp⟩) h) (rd_dat2 (o := .lrange2) rfl s H Q h)
end
end Hb

/-! SND8: new dicts, get; instances, their fields, their methods. -/
namespace Hb
open PySem PySem.Spec PyProof.Rows
open L2 hiding V Hp St
set_option autoImplicit false
section
variable {X : Cx} {w : Wo} {F : Phi} {W : WX} {a b e : Expr} {es : List Expr} {t t1 t2 t3 : T} {pos : Pos}
/-! ### dicts -/
theorem pe_dnewP : PE X (.Dict [] [] pos) (fun _ H Q => ∀ p, H p = none → Q (.ref p) (upd H p (TDic p []))) := ⟨fun pins s σ H Q I h => wpAny_Dict_empty
  ⟨.ref s.heap.objs.size, _, I.laid (o := TDic s.heap.objs.size []) (t' := s.toks) (fun _ _ e => Heap.get?_push_of_some _ e) (Nat.le_refl _) (tdic_new s.heap (Nat.ne_of_gt I.big) _), rfl, h _ (I.hok.fresh (Nat.le_refl _))⟩⟩
theorem se_dnew {k : Bool} : SE X w F W (.Dict [] [] pos) (.dnew k) := by
  cases k with
  | false =>
    exact pe_imp pe_dnewK fun s H Q h => by
      obtain ⟨f, r, G, env, h, P, Xp, S, E, wp, q, qx⟩ := h
      intro p hp
      obtain ⟨S2, e2, el⟩ := S.alloc (x := .dK []) hp (o := .dct false []) ⟨(S.fresh hp).1, [], ⟨[], upd_same, rfl, rfl⟩, rfl⟩
      exact q _ _ (.ref p) _ _ _ wp e2 S2 ⟨p, el, rfl⟩
  | true =>
    exact pe_imp pe_dnewP fun s H Q h => by
      obtain ⟨f, r, G, env, h, P, Xp, S, E, wp, q, qx⟩ := h
      intro p hp
      obtain ⟨S2, e2, el⟩ := S.alloc (x := TDic p []) hp (o := .dct true []) ⟨(S.fresh hp).1, [], ⟨[], upd_same, rfl, rfl, fun p hp => by cases hp⟩, rfl⟩
      exact q _ _ (.ref p) _ _ _ wp e2 S2 ⟨p, el, rfl⟩
/-- a dict that stands -/
def IsY (H : L2.Hp) (a : Addr) : Prop := (∃ kvs, H a = some (.dK kvs)) ∨ ∃ rows, H a = some (TDic a rows)
theorem isY_at {pins : List (Addr × Obj)} {σ : Sg} {H : L2.Hp} {s : Shared} {a : Addr} (I : Inv X pins σ H s) (h : IsY H a) : s.TypeIs (.ref a) "dict" ∧ ∀ b, Value.ref a = .ref b → ∃ ob, s.heap.get? b = some ob ∧ ob.dict = none := by
  rcases h with ⟨kvs, e⟩ | ⟨rows, e⟩
  · obtain ⟨t1, t2, _⟩ := isD_at I (.inl ⟨kvs, .inl e⟩)
    exact ⟨t1, t2⟩
  · obtain ⟨⟨_, _, _, _, _, _, o, es, ep, h1, h2, _⟩, _⟩ := I.hok a _ e
    refine ⟨⟨o, h1, h2.1⟩, fun b q => ?_⟩
    cases q
    exact ⟨o, h1, h2.2.1⟩
theorem dic_of {f : L2.Hp} {r : List Addr} {G H : L2.Hp} {h : Hp} {v : V} {u : L2.V} {Q : Prop} (S : Sim w f r G h H) (rv : Rv w r G v u) (q : dicAt h v Q) : (∃ a, u = .ref a ∧ IsY H a) ∧ Q := by
  have key : ∀ {G : L2.Hp} {t : Bool} {a : Addr} {ks : List D} {us : List L2.V}, DcA G H t a ks us → IsY H a := fun {G t a ks us} hd => by
    cases t with
    | false => obtain ⟨kus, e, _⟩ := hd; exact .inl ⟨kus, e⟩
    | true => obtain ⟨rows, e, _⟩ := hd; exact .inr ⟨rows, e⟩
  cases v with
  | d d => cases d with
    | dict kvs => obtain ⟨a, t, us, rfl, hd, _⟩ := rv; exact ⟨⟨a, rfl, key (hd.mono (fun _ _ e => e) (S.sub a))⟩, q⟩
    | _ => exact q.elim
  | cell n =>
    obtain ⟨a, e1, rfl⟩ := rv
    cases eo : h[n]? with
    | none => unfold dicAt at q; simp only [eo] at q
    | some o =>
      have ob := S.ob n a o e1 eo
      cases o with
      | dct t kvs => unfold dicAt at q; simp only [eo] at q; obtain ⟨_, us, hd, _⟩ := ob; exact ⟨⟨a, rfl, key hd⟩, q⟩
      | _ => unfold dicAt at q; simp only [eo] at q
  | _ => exact q.elim
theorem m1_of {o e : Expr} {m : Str} {apos cpos : Pos} (hb : plainBase o = true) (hl : (apos.endLine == cpos.line) = true) (hs : ∀ x p, e ≠ .Starred x p) : M1 X o m apos e cpos :=
  ⟨base_eq hb, few_ok (by intro y hy; simp at hy; subst hy; exact hs) (by show 1 < 30; decide), hl, by show backTo cpos (starEach [e] X.env) = _; rw [nostar hs]; rfl⟩
theorem m2_of {o e f : Expr} {m : Str} {apos cpos : Pos} (hb : plainBase o = true) (hl : (apos.endLine == cpos.line) = true) (hs : ∀ x p, e ≠ .Starred x p) (hs2 : ∀ x p, f ≠ .Starred x p) : M2 X o m apos e f cpos :=
  ⟨base_eq hb, few_ok (by intro y hy; simp at hy; rcases hy with rfl | rfl; exact hs; exact hs2) (by show 2 < 30; decide), hl, by show backTo cpos (starEach [e, f] X.env) = _; rw [nostar hs, nostar hs2]; rfl⟩
/-- a dict that is read, and its key -/
theorem ask_of {f : L2.Hp} {r : List Addr} {G H : L2.Hp} {h : Hp} {v y : V} {u uy : L2.V} {x k : D} {kvs : List (D × D)} {Q : Option D → Prop} (S : Sim w f r G h H) (rv : Rv w r G v u) (ry : Rv w r G y uy) (e1 : rdV h v = some (.dict kvs)) (e2 : rdV h y = some k) (wp : dkP kvs k Q) :
    ∃ a o, u = .ref a ∧ Asked H a uy o ∧ (match valD kvs k with | some z => ∃ u, o = some u ∧ Rp w.K G z u | none => o = none) ∧ Q (valD kvs k) := by
  obtain ⟨hk, wp⟩ := wp
  obtain ⟨a, t, us, rfl, hd, t2⟩ := S.read rv e1
  obtain ⟨o, g, vr⟩ := asked S.sub hd t2 (rt_key (S.read ry e2) hk) hk
  exact ⟨a, o, rfl, g, vr, wp⟩
theorem se_dget {apos cpos : Pos} (hu : X.A.units + 65 < cLine) (ho : SE X w F W a t1) (he : SE X w F W b t2) (m : M1 X a "get" apos b cpos) : SE X w F W (.Call (.Attribute a "get" apos) [b] [] cpos) (.dget t1 t2) := by
  refine ⟨fun pins s σ H Q I h => ?_⟩
  obtain ⟨f, r, G, env, h, P, Xp, S, E, wp, q, qx⟩ := h
  refine wpAny_Call_method m.base m.few m.line PySem.F.plainAttrs_dict PySem.F.slot_dict_get PySem.F.type_dict_get (thn (ho.run pins s σ H (fun u H1 => ∃ d, u = .ref d ∧ IsY H1 d ∧ rdE w F W t2 σ H1 fun y H2 => ∃ o, Asked H2 d y o ∧ Q (o.getD .non) H2) I
    ⟨f, r, G, env, h, _, Xp, S, E, wp, fun v h1 u r1 G1 H1 w1 e1 S1 rv => ?_, qx⟩) fun uv s1 hq => ?_)
  · obtain ⟨⟨d, rfl, hd⟩, w1⟩ := dic_of S1 rv w1
    refine ⟨d, rfl, hd, f, r1, G1, env, h1, _, Xp, S1, E.mono e1, w1, fun y h2 uy r2 G2 H2 w2 e2 S2 ry => ?_, qx.mono e1⟩
    obtain ⟨x, ex, w2⟩ := optP_of w2
    obtain ⟨k, ek, w2⟩ := optP_of w2
    cases x with
    | dict kvs =>
      obtain ⟨d', o, ed, g, vr, w2⟩ := ask_of (x := .none) S2 (Rv.mono e2 _ _ rv) ry ex ek w2
      cases ed
      refine ⟨o, g, ?_⟩
      cases ev : valD kvs k with
      | none =>
        rw [ev] at vr w2
        have vr : o = none := vr
        subst vr
        exact q _ h2 .non r2 G2 H2 w2 (e1.trans e2) S2 rfl
      | some z =>
        rw [ev] at vr w2
        obtain ⟨u, rfl, ru⟩ := vr
        exact q _ h2 u r2 G2 H2 w2 (e1.trans e2) S2 ru
    | _ => exact w2.elim
  · obtain ⟨u, H1, I1, ru, d, rfl, hd, q1⟩ := hq
    obtain rfl : uv = Value.ref d := ru
    obtain ⟨t1', t2'⟩ := isY_at I1 hd
    refine ⟨t1', t2', ?_⟩
    rw [m.trees]
    refine Calls.callWith_builtin rfl (Calls.evalArgs_plain (Calls.spliced_cons (thn (he.run pins s1 σ H1 _ I1 q1) fun iv s2 hq2 => Calls.spliced_nil ?_)))
    obtain ⟨y, H2, I2, ry, o, g, q2⟩ := hq2
    exact a_get1 (by omega) I2 g ry fun w' s3 I3 rw' => ⟨_, H2, I3, rw', q2⟩
theorem se_dget2 {c : Expr} {apos cpos : Pos} (hu : X.A.units + 65 < cLine) (ho : SE X w F W a t1) (he : SE X w F W b t2) (hc : SE X w F W c t3) (m : M2 X a "get" apos b c cpos) : SE X w F W (.Call (.Attribute a "get" apos) [b, c] [] cpos) (.dget2 t1 t2 t3) := by
  refine ⟨fun pins s σ H Q I h => ?_⟩
  obtain ⟨f, r, G, env, h, P, Xp, S, E, wp, q, qx⟩ := h
  refine wpAny_Call_method m.base m.few m.line PySem.F.plainAttrs_dict PySem.F.slot_dict_get PySem.F.type_dict_get (thn (ho.run pins s σ H (fun u H1 => ∃ d, u = .ref d ∧ IsY H1 d ∧ rdE w F W t2 σ H1 fun y H2 => rdE w F W t3 σ H2 fun z H3 => ∃ o, Asked H3 d y o ∧ Q (o.getD z) H3) I
    ⟨f, r, G, env, h, _, Xp, S, E, wp, fun v h1 u r1 G1 H1 w1 e1 S1 rv => ?_, qx⟩) fun uv s1 hq => ?_)
  · obtain ⟨⟨d, rfl, hd⟩, w1⟩ := dic_of S1 rv w1
    refine ⟨d, rfl, hd, f, r1, G1, env, h1, _, Xp, S1, E.mono e1, w1, fun y h2 uy r2 G2 H2 w2 e2 S2 ry => ?_, qx.mono e1⟩
    refine ⟨f, r2, G2, env, h2, _, Xp, S2, E.mono (e1.trans e2), w2, fun z h3 uz r3 G3 H3 w3 e3 S3 rz => ?_, qx.mono (e1.trans e2)⟩
    obtain ⟨x, ex, w3⟩ := optP_of w3
    obtain ⟨k, ek, w3⟩ := optP_of w3
    cases z with
    | d z =>
      cases x with
      | dict kvs =>
        obtain ⟨d', o, ed, g, vr, w3⟩ := ask_of (x := .none) S3 (Rv.mono (e2.trans e3) _ _ rv) (Rv.mono e3 _ _ ry) ex ek w3
        cases ed
        refine ⟨o, g, ?_⟩
        cases ev : valD kvs k with
        | none =>
          rw [ev] at vr w3
          have vr : o = none := vr
          subst vr
          exact q _ h3 uz r3 G3 H3 w3 ((e1.trans e2).trans e3) S3 rz
        | some y =>
          rw [ev] at vr w3
          obtain ⟨u, rfl, ru⟩ := vr
          exact q _ h3 u r3 G3 H3 w3 ((e1.trans e2).trans e3) S3 ru
      | _ => exact w3.elim
    | _ => exact w3.elim
  · obtain ⟨u, H1, I1, ru, d, rfl, hd, q1⟩ := hq
    obtain rfl : uv = Value.ref d := ru
    obtain ⟨t1', t2'⟩ := isY_at I1 hd
    refine ⟨t1', t2', ?_⟩
    rw [m.trees]
    refine Calls.callWith_builtin rfl (Calls.evalArgs_plain (Calls.spliced_cons (thn (he.run pins s1 σ H1 _ I1 q1) fun iv s2 hq2 => ?_)))
    obtain ⟨y, H2, I2, ry, q2⟩ := hq2
    refine Calls.spliced_cons (thn (hc.run pins s2 σ H2 _ I2 q2) fun jv s3 hq3 => Calls.spliced_nil ?_)
    obtain ⟨z, H3, I3, rz, o, g, q3⟩ := hq3
    exact a_get2 (by omega) I3 g ry rz fun w' s4 I4 rw' => ⟨_, H3, I4, rw', q3⟩
/-! ### instances -/
/-- an instance's cell -/
theorem ins_of {f : L2.Hp} {r : List Addr} {G H : L2.Hp} {h : Hp} {c : Nat} {v : V} {u : L2.V} {Q : Prop} (S : Sim w f r G h H) (rv : Rv w r G v u) (q : insAt h c v Q) : (∃ a dx us, ∃ n : Nat, ∃ fs, v = .cell n ∧ h[n]? = some (.ins c fs) ∧ r[n]? = some a ∧ u = .ref a ∧ H a = some (.ins (w.ca c) dx us)) ∧ Q := by
  cases v with
  | cell n =>
    obtain ⟨a, e1, rfl⟩ := rv
    cases eo : h[n]? with
    | none => unfold insAt at q; simp only [eo] at q
    | some o =>
      have ob := S.ob n a o e1 eo
      cases o with
      | ins c' fs =>
        unfold insAt at q
        simp only [eo] at q
        obtain ⟨rfl, q⟩ := q
        obtain ⟨g, dx, us, ha, _⟩ := ob
        exact ⟨⟨a, dx, us, n, fs, rfl, eo, e1, rfl, ha⟩, q⟩
      | _ => unfold insAt at q; simp only [eo] at q
  | _ => exact q.elim
theorem lookup_rel {r : List Addr} {G : L2.Hp} : ∀ {fs : List (Nat × V)} {us : List (Str × L2.V)} {g : Nat} {z : V}, us.map (·.1) = fs.map (fun p => w.an p.1) → RvAll w r G (fs.map (·.2)) (us.map (·.2)) → fs.lookup g = some z → ∃ u, us.lookup (w.an g) = some u ∧ Rv w r G z u
  | [], us, g, z, _, _, e => by cases e
  | (k, v) :: fs, [], g, z, h, _, _ => by cases h
  | (k, v) :: fs, (x, u) :: us, g, z, h, t, e => by
    have h : x :: us.map (·.1) = w.an k :: fs.map (fun p => w.an p.1) := h
    injection h with h1 h2
    subst h1
    obtain ⟨u', us', eu, ru, t⟩ := t
    have eu : u :: us.map (·.2) = u' :: us' := eu
    injection eu with e1 e2
    subst e1 e2
    rw [List.lookup_cons] at e
    rw [List.lookup_cons]
    by_cases hk : g = k
    · subst hk
      rw [beq_self_eq_true] at e ⊢
      cases e
      exact ⟨u, rfl, ru⟩
    · have n1 : (g == k) = false := beq_eq_false_iff_ne.mpr hk
      have n2 : (w.an g == w.an k) = false := beq_eq_false_iff_ne.mpr fun z => hk (w.anj _ _ z)
      rw [n1] at e
      rw [n2]
      exact lookup_rel h2 t e
theorem se_fld {o : Expr} {c : Nat} {g : Nat} {y : Str} (hK : X.K = w.K) (hc : Cls w.K (w.ca c)) (hn : NoAttr w.K (w.ca c) (w.an g)) (hy : w.an g = y) (ho : SE X w F W o t) (hb : attributeBase o y X.env (eval o X.env) = eval o X.env) : SE X w F W (.Attribute o y pos) (.fld c t g) := by
  subst hy
  refine pe_imp (pe_fld ho hb) fun s H Q h => ?_
  obtain ⟨f, r, G, env, h, P, Xp, S, E, wp, q, qx⟩ := h
  refine ⟨f, r, G, env, h, _, Xp, S, E, wp, fun v h1 u r1 G1 H1 w1 e1 S1 rv => ?_, qx⟩
  cases v with
  | cell n =>
    obtain ⟨a, er, rfl⟩ := rv
    cases eo : h1[n]? with
    | none => unfold fldV at w1; simp only [eo] at w1
    | some ob =>
      have obr := S1.ob n a ob er eo
      cases ob with
      | ins c' fs =>
        unfold fldV at w1
        simp only [eo] at w1
        obtain ⟨rfl, w1⟩ := w1
        obtain ⟨z, ez, w1⟩ := optP_of w1
        obtain ⟨gg, dx, us, ha, od, en, t⟩ := obr
        obtain ⟨u, eu, ru⟩ := lookup_rel en t ez
        exact ⟨a, _, dx, us, u, rfl, ha, by rw [hK]; exact hc, by rw [hK]; exact hn, eu, q z h1 u r1 G1 H1 w1 e1 S1 ru⟩
      | _ => unfold fldV at w1; simp only [eo] at w1
  | _ => exact w1.elim
/-- o.f = e -/
theorem put_relI {r : List Addr} {G : L2.Hp} {g : Nat} {z : V} {u : L2.V} (rz : Rv w r G z u) : ∀ {fs : List (Nat × V)} {us : List (Str × L2.V)}, us.map (·.1) = fs.map (fun p => w.an p.1) → RvAll w r G (fs.map (·.2)) (us.map (·.2)) →
    (putF (w.an g) u us).map (·.1) = (putI fs g z).map (fun p => w.an p.1) ∧ RvAll w r G ((putI fs g z).map (·.2)) ((putF (w.an g) u us).map (·.2))
  | [], us, h, t => by
    have : us = [] := by cases us with
      | nil => rfl
      | cons _ _ => cases h
    subst this
    exact ⟨rfl, _, _, rfl, rz, rfl⟩
  | (k, v) :: fs, [], h, t => by cases h
  | (k, v) :: fs, (x, y) :: us, h, t => by
    have h : x :: us.map (·.1) = w.an k :: fs.map (fun p => w.an p.1) := h
    injection h with h1 h2
    subst h1
    obtain ⟨u', us', eu, ru, t⟩ := t
    have eu : y :: us.map (·.2) = u' :: us' := eu
    injection eu with e1 e2
    subst e1 e2
    show ((if w.an k = w.an g then (w.an k, u) :: us else (w.an k, y) :: putF (w.an g) u us).map (·.1)) = ((if k = g then (k, z) :: fs else (k, v) :: putI fs g z).map (fun p => w.an p.1)) ∧
      RvAll w r G ((if k = g then (k, z) :: fs else (k, v) :: putI fs g z).map (·.2)) ((if w.an k = w.an g then (w.an k, u) :: us else (w.an k, y) :: putF (w.an g) u us).map (·.2))
    by_cases hk : k = g
    · subst hk
      rw [if_pos rfl, if_pos rfl]
      exact ⟨by rw [List.map_cons, List.map_cons, h2], _, _, rfl, rz, t⟩
    · rw [if_neg hk, if_neg fun q => hk (w.anj _ _ q)]
      obtain ⟨i1, i2⟩ := put_relI rz h2 t
      exact ⟨by rw [List.map_cons, List.map_cons, i1], _, _, rfl, ru, i2⟩
theorem ss_fld {o : Expr} {c : Nat} {g : Nat} {y : Str} {p' : Pos} (hK : X.K = w.K) (hc : Cls w.K (w.ca c)) (hn : NoAttr w.K (w.ca c) (w.an g)) (hy : w.an g = y) (he : SE X w F W e t) (ho : SE X w F W0 o t1) (hs : swapsWith e (some (.Attribute o y p')) pos.line X.env = pure false) :
    SS X w F W (.Assign [.Attribute o y p'] e pos) (.asg (.tsf c t1 g) t) := by
  subst hy
  refine ps_imp (ps_fld ho he hs) fun D s H h => ?_
  obtain ⟨f, r, G, env, h, n, k, S, E, wp, q⟩ := h
  refine ⟨f, r, G, env, h, _, _, S, E, wp, fun v h1 u r1 G1 H1 w1 e1 S1 rv => ?_, q.x E⟩
  refine ⟨f, r1, G1, env, h1, _, _, S1, E.mono e1, w1, fun x h2 ux r2 G2 H2 w2 e2 S2 rx => ?_, XOk.never⟩
  cases x with
  | cell m =>
    obtain ⟨a, er, rfl⟩ := rx
    cases eo : h2[m]? with
    | none => unfold setF at w2; simp only [eo] at w2
    | some ob =>
      have obr := S2.ob m a ob er eo
      cases ob with
      | ins c' fs =>
        unfold setF at w2
        simp only [eo] at w2
        obtain ⟨⟨rfl, hl⟩, w2⟩ := w2
        obtain ⟨gg, dx, us, ha, od, en, t⟩ := obr
        have hlu : us.length = fs.length := by have := congrArg List.length en; simpa using this
        obtain ⟨p1, p2⟩ := put_relI (g := g) (Rv.mono e2 _ _ rv) en t
        have nd : dx ≠ a := fun z => by subst z; rw [od] at ha; cases ha
        refine ⟨a, _, dx, us, rfl, ha, by rw [hK]; exact hc, by rw [hK]; exact hn, by omega, ?_⟩
        exact q.nx env _ s r2 G2 _ w2 (e1.trans e2) (S2.put (o' := .ins c' (putI fs g v)) er eo (fun z => nomatch z) ⟨gg, dx, _, upd_same, by rw [upd_ne nd]; exact od, p1, p2⟩) (E.mono (e1.trans e2))
      | _ => unfold setF at w2; simp only [eo] at w2
  | _ => exact w2.elim
/-! ### methods, new instances -/
/-- a name, a subscript, an attribute, a call of a class that is not super -/
def recvB : Expr → Bool
  | .Name _ _ => true
  | .Subscript _ _ _ => true
  | .Call (.Name x _) _ _ _ => x != ("super" : Str)
  | .Call (.Attribute _ _ _) _ _ _ => true
  | .Attribute _ _ _ => true
  | _ => false
theorem recv_eq {o : Expr} {name : Str} {env : PySem.Env} (h : recvB o = true) : attributeBase o name env (eval o env) = eval o env := by
  unfold recvB at h
  split at h
  · rfl
  · rfl
  · rename_i x p as ks q
    cases as with
    | nil => cases ks with
      | nil => exact abase_call h
      | cons _ _ => rfl
    | cons _ _ => rfl
  · rfl
  · rfl
  · cases h
theorem mt_of {o : Expr} {m : Str} {apos cpos : Pos} {es : List Expr} {env : PySem.Env} (hb : attributeBase o m env (eval o env) = eval o env)
    (hf : ((backTo cpos (starEach es env)).all (fun x => !x.1) && (backToKw cpos (keywordEach [] env)).all (fun x => x.1.isSome) && decide (es.length + ([] : List Keyword).length + (if ([] : List Keyword).isEmpty then 0 else 1) < 30)) = true) (hl : (apos.endLine == cpos.line) = true) :
    ∃ pl : Sem Bool, eval (.Call (.Attribute o m apos) es [] cpos) env = (do
      let ov ← eval o env
      standAt apos.atName
      let (f, first) ← holding [ov] (getMethod ov m pl)
      callWith cpos f first (backTo cpos (starEach es env)) (backToKw cpos (keywordEach [] env))) := by
  refine ⟨(do return (← importBound o env).getD true), mcall_of hb fun ov => ?_⟩
  have hform : methodCallForm (es.length + ([] : List Keyword).length) (backTo cpos (starEach es env)) (backToKw cpos (keywordEach [] env)) = true := hf
  have hpos : methodCallPos true o env apos cpos = pure cpos := by unfold methodCallPos; simp [hl]
  unfold methodCall
  rw [hform, hpos]
  simp only [pure_bind]
  rfl
theorem no_field {fs : List (Nat × V)} {us : List (Str × L2.V)} {m : Str} (h : us.map (·.1) = fs.map (fun p => w.an p.1)) (hm : ∀ i, w.an i ≠ m) : us.lookup m = none := by
  induction us generalizing fs with
  | nil => rfl
  | cons u us ih =>
    cases fs with
    | nil => cases h
    | cons p fs =>
      have h : u.1 :: us.map (·.1) = w.an p.1 :: fs.map (fun p => w.an p.1) := h
      injection h with h1 h2
      obtain ⟨x, y⟩ := u
      rw [List.lookup_cons]
      have n2 : (m == x) = false := beq_eq_false_iff_ne.mpr fun z => hm p.1 (by rw [← h1]; exact z.symm)
      rw [n2]
      exact ih h2
theorem rd_meth {c g np : Nat} {m : Str} {o args : T} {s : Sg} {H : L2.Hp} {Q : VK} (hm : ∀ i, w.an i ≠ m) (hl : tlen args + 1 = np) (h : rdE w F W (.meth c g o args) s H Q) : rdE w F W o s H fun u H1 => ∃ a dx us, u = .ref a ∧ H1 a = some (.ins (w.ca c) dx us) ∧ us.lookup m = none ∧
    rdA w F W args s H1 fun vs H2 => spOf w F np g (.ref a :: vs) H2 Q (L2.WE W s) := by
  obtain ⟨f, r, G, env, h, P, Xp, S, E, wp, q, qx⟩ := h
  refine ⟨f, r, G, env, h, _, Xp, S, E, wp, fun v h1 u r1 G1 H1 w1 e1 S1 rv => ?_, qx⟩
  obtain ⟨⟨a, dx, us, n, fs, rfl, eo, er, rfl, ha⟩, w1⟩ := ins_of S1 rv w1
  obtain ⟨_, dx', us', ha', _, en, _⟩ := S1.ob n a _ er eo
  rw [ha] at ha'
  cases ha'
  refine ⟨a, dx, us, rfl, ha, no_field en hm, f, r1, G1, env, h1, _, Xp, S1, E.mono e1, w1, fun vs h2 ws r2 G2 H2 w2 l2 e2 S2 rvs => ?_, qx.mono e1⟩
  refine ⟨?_, f, r2, G2, .cell n :: vs, h2, P, Xp, S2, ⟨_, _, rfl, Rv.mono e2 _ _ rv, rvs⟩, w2, q.mono (e1.trans e2), qx.mono (e1.trans e2)⟩
  show ws.length + 1 = np
  rw [← rvAll_len rvs, l2]
  exact hl
variable {k g c : Nat} {x m : Str} {ps : List Str} {kwl : List (Nat × List Str × List Nat)} {p apos cpos : Pos}
theorem se_meth {o : Expr} (hK : X.K = w.K) (hc : Cls w.K (w.ca c)) (hm : Meth w.K (w.ca c) m (w.fa g)) (hmn : ∀ i, w.an i ≠ m) (dk : DefOk X.prog X.w X.mg X.base k w F g x ps kwl) (hr : Room k X.A) (tk : Takes X W) (ho : SE X w F W o t1) (ha : SA X w F W (e :: es) t2) (hs : ∀ y ∈ e :: es, ∀ x p, y ≠ .Starred x p)
    (hb : recvB o = true) (hl : (apos.endLine == cpos.line) = true) (h30 : (e :: es).length < 30) (hlen : tlen t2 + 1 = ps.length) : SE X w F W (.Call (.Attribute o m apos) (e :: es) [] cpos) (.meth c g t1 t2) := by
  obtain ⟨fd, bd, _, fo⟩ := dk.ok
  obtain ⟨pl, ht⟩ := mt_of (recv_eq (name := m) hb) (few_ok (pos := cpos) (env := X.env) hs h30) hl
  rw [← hK] at fo bd hc hm
  refine ⟨fun pins s σ H Q I h => ?_⟩
  refine PySem.W.methodCall_KW (pl := pl) (thn (ho.run pins s σ H _ I (rd_meth hmn hlen h)) fun uv s1 hq => ?_) ht
  obtain ⟨u, H1, I1, ru, a, dx, us, rfl, ea, l, q⟩ := hq
  obtain rfl : uv = Value.ref a := ru
  refine getmeth_ok I1 ea hc hm l ?_
  refine PySem.W.callWith_K (first := [.ref a]) (h₀ := X.base) I1.ok.mod.kin hm.kp (thn (ha.run cpos pins s1 σ H1 _ I1 q) fun vs s2 hq2 => ?_) (nostar (hs e (by simp))) (noany fun y hy => hs y (by simp [hy]))
  obtain ⟨ws, H2, I2, r, q2⟩ := hq2
  exact ⟨I2.kIn, run_fnS (E := L2.WE W) (us := .ref a :: vs) (vs := .ref a :: ws) fo hr bd (passAt tk σ) I2 (.cons rfl r) q2⟩
theorem se_meth0 {o : Expr} (hK : X.K = w.K) (hc : Cls w.K (w.ca c)) (hm : Meth w.K (w.ca c) m (w.fa g)) (hmn : ∀ i, w.an i ≠ m) (dk : DefOk X.prog X.w X.mg X.base k w F g x ps kwl) (hr : Room k X.A) (tk : Takes X W) (ho : SE X w F W o t1)
    (hb : recvB o = true) (hl : (apos.endLine == cpos.line) = true) (hlen : 1 = ps.length) : SE X w F W (.Call (.Attribute o m apos) [] [] cpos) (.meth c g t1 .nil) := by
  obtain ⟨fd, bd, _, fo⟩ := dk.ok
  obtain ⟨pl, ht⟩ := mt_of (es := []) (recv_eq (name := m) hb) (few_ok (pos := cpos) (env := X.env) (fun e he => by cases he) (by decide)) hl
  rw [← hK] at fo bd hc hm
  refine ⟨fun pins s σ H Q I h => ?_⟩
  refine PySem.W.methodCall_KW (pl := pl) (thn (ho.run pins s σ H _ I (rd_meth (args := .nil) (np := ps.length) hmn hlen h)) fun uv s1 hq => ?_) ht
  obtain ⟨u, H1, I1, ru, a, dx, us, rfl, ea, l, f, r, G, env, h, P, Xp, S, E, wp, q, qx⟩ := hq
  obtain rfl : uv = Value.ref a := ru
  refine getmeth_ok I1 ea hc hm l ?_
  have q2 := q [] h [] r G H1 wp rfl Ext.refl S rfl
  exact PySem.W.callWith_K0 (first := [.ref a]) I1.kIn hm.kp (run_fnS (E := L2.WE W) (us := [.ref a]) (vs := [.ref a]) fo hr bd (passAt tk σ) I1 (.cons rfl .nil) q2)
theorem rd_make {np : Nat} {args : T} {s : Sg} {H : L2.Hp} {Q : VK} (hl : tlen args + 1 = np) (h : rdE w F W (.make c g args) s H Q) : rdA w F W args s H fun vs H1 => ∀ x dx, H1 x = none → H1 dx = none → dx ≠ x →
    spOf w F np g (.ref x :: (vs ++ [])) (upd (upd H1 dx (.own x)) x (.ins (w.ca c) dx [])) (fun v H2 => v = .non ∧ Q (.ref x) H2) (fun _ _ _ => False) := by
  obtain ⟨f, r, G, env, h, P, Xp, S, E, wp, q, qx⟩ := h
  refine ⟨f, r, G, env, h, _, Xp, S, E, wp, fun vs h1 us r1 G1 H1 w1 l1 e1 S1 rvs => ?_, qx⟩
  intro y dx hy hd ne
  rw [List.append_nil]
  have S2 := S1.other hd (.own y)
  have hy2 : upd H1 dx (.own y) y = none := by rw [upd_ne (Ne.symm ne)]; exact hy
  obtain ⟨S3, e3, el⟩ := S2.alloc (x := .ins (w.ca c) dx []) hy2 (o := .ins c []) ⟨(S2.fresh hy2).1, dx, [], upd_same, by rw [upd_ne ne]; exact upd_same, rfl, rfl⟩
  refine ⟨?_, f, r1 ++ [y], G1, .cell h1.length :: vs, h1 ++ [.ins c []], _, _, S3, ⟨_, _, rfl, ⟨y, el, rfl⟩, RvAll.mono e3 _ _ rvs⟩, w1, ?_, XOk.never⟩
  · show us.length + 1 = np
    rw [← rvAll_len rvs, l1]
    exact hl
  · rintro v h' u r' G' H' ⟨rfl, pv⟩ ex S' rv
    exact ⟨rv, q _ h' (.ref y) r' G' H' pv ((e1.trans e3).trans ex) S' ⟨y, ex.pre _ _ el, rfl⟩⟩
theorem se_make {y : Str} (hK : X.K = w.K) (hM : L2.Mk w.K (w.ca c) (w.fa g)) (hy : X.mg y = some (.ref (w.ca c))) (hg : Gl X y) (dk : DefOk X.prog X.w X.mg X.base k w F g x ps kwl) (hr : Room (k + 1) X.A) (ha : SA X w F W (e :: es) t) (hs : ∀ y ∈ e :: es, ∀ x p, y ≠ .Starred x p)
    (hdb : (y == ("__debug__" : Str)) = false) (hlen : tlen t + 1 = ps.length) : SE X w F W (.Call (.Name y p) (e :: es) [] cpos) (.make c g t) := by
  obtain ⟨fd, bd, _, fo⟩ := dk.ok
  rw [← hK] at fo bd hM
  have hx : Passes (L2.CX X.prog X.w) X (fun _ _ _ => False) := fun pins σ H s e s' I hc => by
    obtain ⟨_, _, _, _, _, _, _, _, _, _, _, _, z⟩ := hc
    exact z.elim
  exact pe_imp (pe_make hM fo hr hg hy bd .nil hx ha hdb (nostar (hs e (by simp))) (noany fun y hy => hs y (by simp [hy]))) fun s H Q h => rd_make hlen h
theorem se_make0 {y : Str} (hK : X.K = w.K) (hM : L2.Mk w.K (w.ca c) (w.fa g)) (hy : X.mg y = some (.ref (w.ca c))) (hg : Gl X y) (dk : DefOk X.prog X.w X.mg X.base k w F g x ps kwl) (hr : Room (k + 1) X.A)
    (hdb : (y == ("__debug__" : Str)) = false) (hlen : 1 = ps.length) : SE X w F W (.Call (.Name y p) [] [] cpos) (.make c g .nil) := by
  obtain ⟨fd, bd, _, fo⟩ := dk.ok
  rw [← hK] at fo bd hM
  have hx : Passes (L2.CX X.prog X.w) X (fun _ _ _ => False) := fun pins σ H s e s' I hc => by
    obtain ⟨_, _, _, _, _, _, _, _, _, _, _, _, z⟩ := hc
    exact z.elim
  refine pe_imp (pe_make0 hM fo hr hg hy bd .nil hx hdb) fun s H Q h => ?_
  obtain ⟨f, r, G, env, h, P, Xp, S, E, wp, q, qx⟩ := rd_make (args := .nil) (np := ps.length) hlen h
  exact q [] h [] r G H wp rfl Ext.refl S rfl
end
end Hb

/-! SND9: len(set(x)) of whole numbers. -/
namespace Hb
open PySem PySem.Spec PyProof.Rows
open L2 hiding V Hp St
set_option autoImplicit false
theorem nubI_mem {x : Int} : ∀ {l : List Int}, x ∈ nubI l ↔ x ∈ l
  | [] => Iff.rfl
  | y :: r => by
    unfold nubI
    split
    · rename_i h
      rw [nubI_mem, List.mem_cons]
      constructor
      · exact .inr
      · rintro (rfl | h2)
        · exact h
        · exact h2
    · rw [List.mem_cons, nubI_mem, List.mem_cons]
theorem nubI_nodup : ∀ l : List Int, (nubI l).Nodup
  | [] => List.nodup_nil
  | y :: r => by
    unfold nubI
    split
    · exact nubI_nodup r
    · rename_i h
      exact List.nodup_cons.mpr ⟨fun z => h (nubI_mem.mp z), nubI_nodup r⟩
theorem len_of_mem {a b : List Int} (ha : a.Nodup) (hb : b.Nodup) (h : ∀ x, x ∈ a ↔ x ∈ b) : a.length = b.length := ((List.perm_ext_iff_of_nodup ha hb).mpr h).length_eq
theorem first_facts (val : Nat → Int) : ∀ i, (firstMet val i).Nodup ∧ ∀ x, x ∈ firstMet val i ↔ x ∈ (List.range i).map val
  | 0 => ⟨List.nodup_nil, fun x => Iff.rfl⟩
  | i + 1 => by
    obtain ⟨h1, h2⟩ := first_facts val i
    rw [firstMet_succ, List.range_succ, List.map_append]
    unfold step_dedup
    split
    · rename_i h
      obtain ⟨y, hy, ey⟩ := List.any_eq_true.mp h
      have ey := eq_of_beq ey
      subst ey
      refine ⟨h1, fun x => ?_⟩
      rw [List.mem_append, ← h2]
      constructor
      · exact .inl
      · rintro (h | h)
        · exact h
        · simp at h; subst h; exact hy
    · rename_i h
      refine ⟨?_, fun x => ?_⟩
      · rw [List.nodup_append]
        refine ⟨h1, by simp, fun a ha b hb z => ?_⟩
        simp at hb
        subst hb
        subst z
        exact h (List.any_eq_true.mpr ⟨_, ha, beq_self_eq_true _⟩)
      · rw [List.mem_append, List.mem_append, h2]
        rfl
theorem getD_map (ns : List Int) : (List.range ns.length).map (fun i => ns.getD i 0) = ns := by
  apply List.ext_getElem?
  intro i
  rw [List.getElem?_map]
  rcases Nat.lt_or_ge i ns.length with h | h
  · rw [List.getElem?_range h, List.getElem?_eq_getElem h]
    show some (ns.getD i 0) = _
    rw [List.getD_eq_getElem?_getD, List.getElem?_eq_getElem h]
    rfl
  · rw [List.getElem?_eq_none (by rw [List.length_range]; exact h), List.getElem?_eq_none h]
    rfl
def tLenSetN (K : PySem.W.Frag) (ta : TE) : TE := fun σ H Q => ta σ H fun x H1 => ∃ (l : Addr) (ns : List Int), x = .ref l ∧ (SqL K H1 l (ns.map V.int) ∨ SqT K H1 l (ns.map V.int)) ∧ ns.length ≤ 1000 ∧ Q (.int ((nubI ns).length : Nat)) H1
theorem pe_lenSetN {X : Cx} {a : Expr} {ta : TE} {p p2 q pos : Pos} (hg : Gl X "len") (hm : X.mg "len" = none) (hg2 : Gl X "set") (hm2 : X.mg "set" = none) (ha : PE X a ta) (hc : X.calm = true)
    (na : starEach [a] X.env = (false, eval a X.env) :: starEach [] X.env) : PE X (.Call (.Name "len" p) [.Call (.Name "set" p2) [a] [] q] [] pos) (tLenSetN X.K ta) := by
  refine ⟨fun pins s σ H Q I h => ?_⟩
  refine Call_ (ld_blt I hg hm boot_len ?_)
  refine callWith_builtin1 (args_cons ?_ rfl) rfl rfl
  refine Call_ (ld_blt I hg2 hm2 boot_set ?_)
  refine callWith_type1 (args_cons (thn (ha.run pins s σ H _ I h) fun v s1 ⟨x, H1, I1, r1, q1⟩ => args_nil ?_) na) na rfl
  obtain ⟨l, ns, rfl, hq, hl, q1⟩ := q1
  cases r1
  rcases hq with hq | hq
  · obtain ⟨its, r, pl, hz⟩ := I1.list hq
    have hlen : its.toArray.size = ns.length := by rw [List.size_toArray, ← r.length, List.length_map]
    refine call_set_list (I1.ok.hd hc) pl.isList (by simpa using RZ.intsAre_vals r) (by rw [hlen]; unfold scanBound; omega) fun h' tk hS hk => ?_
    refine args_nil ?_
    obtain ⟨f1, f2⟩ := first_facts (fun i => ns.getD i 0) ns.length
    have hcnt : (firstMet (fun i => ns.getD i 0) its.toArray.size).length = (nubI ns).length := by
      rw [hlen]
      refine len_of_mem f1 (nubI_nodup ns) fun x => ?_
      rw [f2, getD_map, nubI_mem]
    rw [hcnt] at hS
    obtain ⟨o, es, ep, t, ho, hex, hd, _, _, _, hf, hn⟩ := hS
    have hle : (nubI ns).length ≤ ns.length := by rw [← hcnt, hlen]; exact firstMet_length_le _ _
    have I2 : Inv X pins σ H1 { s1 with heap := h', toks := tk } := I1.kept fun b o e => hk b o (Heap.lt_size e) e
    exact call_len_set ho hex hd hf (by rw [hn] <;> omega) ⟨.int (nubI ns).length, H1, I2.tok _, ⟨_, by rw [hn]⟩, q1⟩
  · obtain ⟨its, r, pt, hz⟩ := I1.tuple hq
    refine call_set_tupI ns (I1.ok.hd hc) (show s1.heap.IsTuple l its.toArray from pt) (by simpa using RZ.intsAre_vals r) (by unfold scanBound; omega) fun h' tk c R1 hcn hk => ?_
    refine args_nil ?_
    obtain ⟨o, es, ep, t, ho, hex, hd, _, nd, hm', _, hf, hn, _⟩ := R1
    have hcnt : c = (nubI ns).length := by
      rw [← hn, ← Array.length_toList, ← List.length_map (f := keyOf)]
      refine len_of_mem nd (nubI_nodup ns) fun x => ?_
      rw [← hm', nubI_mem]
      exact decide_eq_true_iff
    have I2 : Inv X pins σ H1 { s1 with heap := h', toks := tk } := I1.kept fun b o e => hk b o e
    exact call_len_set ho hex hd hf (by rw [hn] <;> omega) ⟨.int (nubI ns).length, H1, I2.tok _, ⟨_, by rw [hn, hcnt]⟩, q1⟩
section
variable {X : Cx} {w : Wo} {F : Phi} {W : WX} {a : Expr} {t : T} {p p2 p3 pos : Pos}
theorem se_setlen (hK : X.K = w.K) (hc : X.calm = true) (hg : Gl X "len") (hm : X.mg "len" = none) (hg2 : Gl X "set") (hm2 : X.mg "set" = none) (ha : SE X w F W a t) (hs : ∀ x p, a ≠ .Starred x p) :
    SE X w F W (.Call (.Name "len" p) [.Call (.Name "set" p2) [a] [] p3] [] pos) (.o1 .setlen t) :=
  pe_imp (pe_lenSetN hg hm hg2 hm2 ha hc (nostar hs)) fun s H Q h => rd_mono (fun x H1 h => by
    obtain ⟨G, d, P, sb, r, wp, q1, q2⟩ := h
    cases d with
    | list ds =>
      obtain ⟨a, us, rfl, h1, t⟩ := r
      obtain ⟨bs, e, wp⟩ := optP_of wp
      have := lst_ints t e
      subst this
      exact ⟨a, bs, rfl, .inl (by rw [hK]; exact h1.sq), wp.1, q1 _ _ wp.2 rfl⟩
    | tuple ds =>
      obtain ⟨bs, e, wp⟩ := optP_of wp
      obtain ⟨a, rfl, h1⟩ := tup_ints sb r e
      exact ⟨a, bs, rfl, .inr (by rw [hK]; exact h1), wp.1, q1 _ _ wp.2 rfl⟩
    | _ => exact wp.elim) (rd_dat1 (o := .setlen) rfl s H Q h)
theorem parts_mk {h : Hp} {vs : List V} {Q : List V → Prop} (q : partsV h (mkTup vs) Q) : Q vs := by
  unfold mkTup at q
  cases e : allD vs with
  | none => rw [e] at q; exact q
  | some ds =>
    rw [e] at q
    have q : Q (ds.map V.d) := q
    have e2 : ∀ (vs : List V) (ds : List D), allD vs = some ds → vs = ds.map V.d := by
      intro vs
      induction vs with
      | nil => intro ds e; cases e; rfl
      | cons v vs ih =>
        intro ds e
        cases v with
        | d x =>
          have e : (allD vs).map (x :: ·) = some ds := e
          cases e3 : allD vs with
          | none => rw [e3] at e; cases e
          | some r => rw [e3] at e; cases e; rw [ih r e3]; rfl
        | _ => cases e
    rw [e2 vs ds e]
    exact q
theorem ss_par {b : Expr} {t1 t2 : T} {i j : Nat} {x y : Str} {px py pt : Pos} {kt k2 pt2} (hc : X.calm = true) (hN : X.N.Nodup) (hi : X.N[i]? = some x) (hj : X.N[j]? = some y) (hij : i ≠ j)
    (hx : X.env.scope.names.lookup x = some .local) (hy : X.env.scope.names.lookup y = some .local) (ha : SA X w F W [a, b] (.cons t1 (.cons t2 .nil)))
    (hw : swappedStores [.Tuple [.Name x px, .Name y py] kt pt] (.Tuple [a, b] k2 pt2) X.env = pure (some [x, y])) :
    SS X w F W (.Assign [.Tuple [.Name x px, .Name y py] kt pt] (.Tuple [a, b] k2 pt2) pos) (.asg (.ttp (.cons (.tnm i) (.cons (.tnm j) .nil))) (.tup (.cons t1 (.cons t2 .nil)))) :=
  ps_imp (ps_par hc hN hi hj hij hx hy ha hw) fun D s H h => by
    obtain ⟨f, r, G, env, h, n, k, S, E, wp, q⟩ := h
    have wp : WEs F (.cons t1 (.cons t2 .nil)) env h (fun vs h1 => vs.length ≤ big ∧ WA F (.ttp (.cons (.tnm i) (.cons (.tnm j) .nil))) (mkTup vs) env h1 n) (fun x h1 => k.xe x env h1) := wp
    refine ⟨f, r, G, env, h, _, _, S, E, wp, fun vs h1 us r1 G1 H1 p l1 e1 S1 rvs => ?_, q.x E⟩
    obtain ⟨_, p⟩ := p
    match vs, l1, rvs, p with
    | [v1, v2], _, rvs, p =>
      obtain ⟨u1, us1, rfl, ru1, rvs⟩ := rvs
      obtain ⟨u2, us2, rfl, ru2, rvs⟩ := rvs
      have rvs : us2 = [] := rvs
      subst rvs
      have p : partsV h1 (mkTup [v1, v2]) fun vs => vs.length = tlen (.cons (.tnm i) (.cons (.tnm j) .nil)) ∧ WAs F (.cons (.tnm i) (.cons (.tnm j) .nil)) vs env h1 n := p
      obtain ⟨_, p⟩ := parts_mk p
      have p : n ((env.set i (some v1)).set j (some v2)) h1 := p.2
      exact ⟨u1, u2, rfl, q.nx _ h1 _ r1 G1 H1 p e1 S1 (((E.mono e1).set ru1 i).set ru2 j)⟩
end
end Hb

/-! EXN: errors: raised, caught and kept, asked for their class. -/
namespace Hb
open PySem PySem.Spec PyProof.Rows
open L2 hiding V Hp St
set_option autoImplicit false
section
variable {X : Cx} {pins : List (Addr × Obj)} {σ : Sg} {H : L2.Hp} {s : Shared}
/-- a caught error is tracked from here on -/
theorem adopt {a : Addr} {ob : Obj} {vs : Array Value} {cls : Value} {d : Option Addr} (I : Inv X pins σ H s) (ha : s.heap.get? a = some ob) (hz : Zc cls d ob) (hd : ob.data = .fields vs)
    (hn : H a = none) (h0 : X.s_0.heap.get? a = none) (nL : a ≠ X.env.locals) (hp : ∀ p ∈ X.pn ++ pins, p.1 ≠ a) : Inv X pins σ (upd H a (ExK cls d a)) s := by
  have new : ObjOk X.prog X.w (upd H a (ExK cls d a)) s.heap a (ExK cls d a) := ⟨⟨ob, vs, ha, hz, hd⟩, ⟨ob, ha⟩, fun _ _ ⟨o, v, q, z⟩ k => ⟨o, v, k o q, z⟩⟩
  have far : ∀ b u, H b = some u → b ≠ a := fun b u e z => by rw [z, hn] at e; cases e
  constructor
  · exact I.ok
  · exact I.os
  · exact I.bare
  · constructor
    · exact I.base.keep
    · exact I.base.slot
    · intro b u e n hx
      have hb : b ≠ a := fun z => by rw [z, h0] at e; cases e
      rw [upd_ne hb]
      exact I.base.free b u e n hx
    · exact I.base.there
    · intro b xs e
      have q := I.base.tups b xs e
      rw [upd_ne (far b _ q)]
      exact q
    · intro b u v e
      have q := I.base.frzs b u v e
      rw [upd_ne (far b _ q)]
      exact q
    · intro b ps e
      obtain ⟨m, q⟩ := I.base.tbls b ps e
      refine ⟨m, ?_⟩
      rw [upd_ne (far b _ q)]
      exact q
  · exact I.loc
  · exact I.cell
  · rw [upd_ne (Ne.symm nL)]
    exact I.free
  · intro x c e
    have hc : c ≠ a := fun z => by
      obtain ⟨v, o, ho, hq⟩ := I.cell x c e
      rw [z, ha] at ho
      cases ho
      rw [hd] at hq
      cases hq
    rw [upd_ne hc]
    exact I.freeC x c e
  · intro p hq
    obtain ⟨e, n, r⟩ := I.pin p hq
    refine ⟨e, ?_, r⟩
    rw [upd_ne (hp p hq)]
    exact n
  · exact I.hok.laidN (fun _ _ q => q) hn new
  · exact I.len
end
/-- what is wished of an error in the body of try: it is of the class, and the rest runs with it in the slot y -/
def wKeep (K : PySem.W.Frag) (c : Value) (i y : Nat) (D : Ends) : WX := fun cls d σ H => PySem.W.exmOne K cls c = some true ∧
  ∀ a, H a = none → D.nx (((σ.set i (some (.ref a))).set y (some (.ref a))).set i none) (upd H a (ExK cls d a))
section
variable {X : Cx} {x n m : Str} {c : Value} {i y : Nat} {body : List Stmt} {np mp vp ap hp pos : Pos} {tb : WX → TS}
/-- try: body, except x as n: m = n; the error is kept -/
theorem ps_try_keep (hs : X.stack = X.env :: X.outer) (hf : X.env.frame = some X.env.locals) (hex : X.ex = []) (hN : X.N.Nodup) (hi : X.N[i]? = some n) (hln : X.env.kindOf n = some .local) (hc : Names X x c)
    (hm : X.N[y]? = some m) (hlm : Loc X.env.scope m) (hfm : X.fn m = true ∨ X.env.scope.names.lookup m = some .local) (hd1 : (n == ("__debug__" : Str)) = false) (hd2 : (n == ("__classdict__" : Str)) = false)
    (hb : ∀ (W : WX) (pn : List (Addr × Obj)) (xe : Value → Shared → Prop), Takes (X.tr pn xe) W → PassesOwn (model X.prog X.w) X.A X.env xe → PSs (X.tr pn xe) body (tb W)) :
    PS X (.Try body [.ExceptHandler (some (.Name x np)) (some n) [.Assign [.Name m mp] (.Name n vp) ap] hp] [] [] pos) (fun D σ H => tb (wKeep X.K c i y D) D σ H) := by
  constructor
  intro pins s σ H D I h
  have ok := I.ok
  have fr : X.A.frames = some (X.env :: X.outer) := ok.frames.trans (congrArg some hs)
  have lcl : Loc X.env.scope n := .inl hln
  refine wpAny_Try_except (wpAny_mono ((hb _ (X.pn ++ pins) _ (fun u t z => ?grab) PassesOwn.looking).run [] s σ H D (I.toTry _) h) (fun fl t z => ?plain) fun _ _ z => z)
  case plain =>
    cases fl with
    | next => obtain ⟨σ1, H1, J, q⟩ := z; exact wpAny_execs_nil ⟨σ1, H1, J.ofTry ok, q⟩
    | ret u => obtain ⟨v1, σ1, H1, J, r1, q⟩ := z; exact ⟨v1, σ1, H1, J.ofTry ok, r1, q⟩
    | brk => obtain ⟨σ1, H1, J, q⟩ := z; exact ⟨σ1, H1, J.ofTry ok, q⟩
    | cont => obtain ⟨σ1, H1, J, q⟩ := z; exact ⟨σ1, H1, J.ofTry ok, q⟩
  case grab =>
    obtain ⟨a, B, t0, pins1, σ1, H1, cls, d, rfl, J0, nb, up, sky, na, os, ag, hm1, hyes⟩ := z
    have J : Inv X pins σ1 H1 t0 := J0.ofTry ok
    have sky1 : Sky B (X.env :: X.outer) a (Zc cls d) X.env.locals t.heap := hs ▸ sky
    show wpAny (model X.prog X.w) X.A (noteFrame (.ref a) X.env) _ _ _
    refine Sky.land Zc.steady fr hf sky1 fun k3 fl3 up3 => ?_
    have J3 : Inv X pins σ1 H1 { t with heap := k3 } := J.landed nb fl3.1 (up.trans up3) os ag
    obtain ⟨o3, v3, g3, z3, d3⟩ := fl3.there
    have nfr : a ∉ frs (X.env :: X.outer) := fun hm => by
      obtain ⟨_, o, e, hnf⟩ := fl3.2.2.1.mem hm
      rw [g3] at e
      cases e
      exact hnf _ d3
    have nL : a ≠ X.env.locals := fun z => nfr (List.mem_filterMap.mpr ⟨X.env, List.mem_cons_self, hf.trans (congrArg some z.symm)⟩)
    have nF : a ∉ X.fs := fun hm => by
      obtain ⟨e, he, q⟩ := List.mem_filterMap.mp hm
      exact nfr (List.mem_filterMap.mpr ⟨e, List.mem_cons_of_mem _ he, q⟩)
    have gone : t0.heap.get? a = none := by
      cases e : t0.heap.get? a with
      | none => rfl
      | some o =>
        have z := nb a o e (by rw [hs]; exact nfr)
        rw [fl3.2.1] at z
        cases z
    have gone0 : X.s_0.heap.get? a = none := by
      cases e : X.s_0.heap.get? a with
      | none => rfl
      | some o =>
        obtain ⟨o1, z⟩ := J.base.there a o e (by rw [hex]; exact List.not_mem_nil)
        rw [gone] at z
        cases z
    have pinN : ∀ p ∈ X.pn ++ pins, p.1 ≠ a := fun p hp z => by
      have q := (J.pin p hp).1
      rw [z, gone] at q
      cases q
    have S3 := J3.suite g3 d3 na nL nF
    refine wpAny_handleBy_cons (codeAny_handlers_test ?_) (by intro q; cases q)
    have LT : PySem.W.Looks (model X.prog X.w) k3 (typeOf (.ref a)) cls := fun A Q E s k q => wpAny_typeOf_ref (k _ _ g3) (z3.1 ▸ q)
    have LM := PySem.W.exm_one (M := model X.prog X.w) J3.kIn LT hm1
    have test : ∀ {Q : Value → Shared → Prop} {E : Value → Shared → Prop}, Q c { t with heap := k3 } → wpAny (model X.prog X.w) (X.A.mark (some (.ref a))) (eval (.Name x np) X.env) Q E { t with heap := k3 } := fun {Q E} q => by
      rcases hc with ⟨hg, hdb, hm | ⟨hm, hv, hnn⟩⟩
      · exact ld_glob S3 hg hm q hdb
      · exact ld_blt S3 hg hm hv q hnn hdb
    refine test (LM.here ?_)
    refine codeAny_handlers_suite_as ?_
    refine HandSPX.lands_againZ fl3 fun k4 fl4 up4 => ?_
    have J4 : Inv X pins σ1 H1 { t with heap := k4 } := J.landed nb fl4.1 ((up.trans up3).trans up4) os ag
    obtain ⟨o4, v4, g4, z4, d4⟩ := fl4.there
    have S4 := J4.suite g4 d4 na nL nF
    refine store_ok (X := X.suite a ((a, o4) :: (X.pn ++ pins))) (v := .ref a) S4 hN hi lcl rfl (fun t5 S5 => ?_) (.inr hln)
    have hil : i < σ1.length := by
      have z := (List.getElem?_eq_some_iff.mp hi).1
      have e : σ1.length = X.N.length := S4.len
      omega
    have suite := pss_cons (ps_set (X := X.suite a ((a, o4) :: (X.pn ++ pins))) (pos := ap) (pos' := mp) hN hm hlm (pe_var (X := X.suite a ((a, o4) :: (X.pn ++ pins))) (pos := vp) hi (.inl hln) hd1 hd2) rfl hfm) pss_nil
    refine wpAny_mono (suite.run [] t5 _ H1 { nx := fun σ' H' => σ' = (σ1.set i (some (.ref a))).set y (some (.ref a)) ∧ H' = H1, rt := fun _ _ => False } S5 ⟨.ref a, by rw [List.getElem?_set_self hil], rfl, rfl⟩) (fun fl t6 z => ?_) fun _ _ z => z.elim
    cases fl with
    | next =>
      obtain ⟨σ6, H6, S6, e1, e2⟩ := z
      subst e1 e2
      obtain ⟨g6, n6, _⟩ := S6.pin (a, o4) (List.mem_append_left _ List.mem_cons_self)
      exact gone_ok (adopt (S6.unsuite ok) g6 z4 d4 n6 gone0 nL pinN) hN hi hln fun t7 J7 => ⟨_, _, J7, hyes a na⟩
    | ret u => obtain ⟨_, _, _, _, _, z⟩ := z; exact z.elim
    | brk => obtain ⟨_, _, _, z⟩ := z; exact z.elim
    | cont => obtain ⟨_, _, _, z⟩ := z; exact z.elim
end
/-! ### what the classes of errors say -/
/-- the classes of errors, as isinstance and except ask them -/
structure XcOk (w : Wo) : Prop where
  ex : ∀ c ∈ w.xc, ExcC w.K (w.ca c)
  em : ∀ c ∈ w.xc, PySem.W.exmOne w.K (.ref (w.ca c)) (.ref w.hu) = some true
  kh : ∀ c ∈ w.xc, PySem.W.kitOne w.K (.ref (w.ca c)) (.ref w.hu) = some true
  kv : ∀ c ∈ w.xc, PySem.W.kitOne w.K (.ref (w.ca c)) (.type "ValueError") = some true
  kk : ∀ c ∈ w.xc, ∀ c' ∈ w.xc, Nat.blt c' 1000 = true → PySem.W.kitOne w.K (.ref (w.ca c)) (.ref (w.ca c')) = some (decide (c' = c))
  nh : ∀ k : Kd, PySem.W.kitOne w.K (.type (kdN k)) (.ref w.hu) = some false
  nk : ∀ k : Kd, ∀ c ∈ w.xc, PySem.W.kitOne w.K (.type (kdN k)) (.ref (w.ca c)) = some false
theorem kd_verr (k : Kd) : kitB (kdN k) "ValueError" = some false := by cases k <;> decide +kernel
/-- a class by its kind -/
def clsV (w : Wo) : Ty → L2.V
  | .own c => .ref (w.ca c)
  | .hue => .ref w.hu
  | _ => .ty "ValueError"
def clsU (w : Wo) : Ty → Value
  | .own c => .ref (w.ca c)
  | .hue => .ref w.hu
  | _ => .type "ValueError"
theorem cls_vu (w : Wo) (t : Ty) : ClsV (clsV w t) (clsU w t) := by
  cases t <;> first | exact .own _ | exact .ty _
def tyKnown (w : Wo) : Ty → Prop
  | .own c => c ∈ w.xc ∧ Nat.blt c 1000 = true
  | .hue => True
  | .verr => True
  | _ => False
/-- the class's own data descriptor is asked first, whatever dict the error has -/
theorem find_class {K : PySem.W.Frag} {D : Addr} (C : ExcC K D) (od : Option Obj) : PySem.W.findObj K D od "__class__" = some (.bind (.builtin "getset_descriptor.__get__") (.builtin "object.__class__")) := by
  obtain ⟨cd, hc, _⟩ := PySem.W.any_some C.hd
  unfold PySem.W.findObj
  rw [hc, Option.bind_some, C.ha, Option.bind_some]
  simp [C.hn, C.ht]
section
open PySem.W
theorem class_of_err {prog : Program} {w : World} {A : Around} {E : Value → Shared → Prop} {s : Shared} {K : Frag} {x D : Addr} {ox : Obj} {od : Option Obj} (C : ExcC K D) {Q : Option Value → Shared → Prop} (X : K.In s.heap) (I : PySem.W.InstAt s.heap x ox D od)
    (h : Q (some (.ref D)) { s with toks := s.toks + 1 }) : wpAny (model prog w) A (getAttr? (.ref x) "__class__") Q E s := by
  obtain ⟨hp, g, d, t, os⟩ := s
  have hf := find_class C od
  have T0 := I.type (M := model prog w)
  have T1 := looks_findIn (M := model prog w) X C.hg
  have T2 := looks_findIn (M := model prog w) X C.hk
  have T3 := looks_find (M := model prog w) X I hf
  have un : (Value.builtin "BaseException.__getattribute__" == Value.builtin "object.__getattribute__") = false := by decide +kernel
  unfold getAttr? getAttrBy? getAttrBy
  refine wpAny_bind (wpAny_mkText (wpAny_bind (wpAny_attempt (wpAny_holding (wpAny_bind (T0.at (wpAny_bind (T1.at ?_))))))))
  dsimp only
  rw [un, Bool.and_false, if_neg Bool.false_ne_true]
  unfold getAttrByItsOwn hookBefore
  refine wpAny_bind ?_
  rw [if_pos (show onTheHeap (Value.ref D) = true from rfl)]
  refine T2.at (wpAny_bind (wpAny_attempt (wpAny_holding ?_)))
  unfold callGetattribute
  rw [Bool.false_and, if_neg Bool.false_ne_true]
  unfold boundAndCalled
  rw [PySem.F.excAttr_ValueError.ga.bind (.ref x)]
  refine wpAny_bind (wpAny_pure (wpAny_call (codeAny_call_builtin PySem.F.excAttr_ValueError.ga.plain PySem.F.entry_bexc_ga ?_)))
  refine @check_slot (model prog w) _ _ ⟨hp, g, d, t + 1, os⟩ "BaseException.__getattribute__" "BaseException" "__getattribute__" (.ref x) [.str "__class__" t] [] _ (by decide +kernel) (by decide +kernel) (T0.andThen (looks_subIn X C.hs)) (PySem.F.args_bexc_ga (.ref x) (.str "__class__" t)) ?_
  unfold Builtin.«object.__getattribute__»
  refine wpAny_bind (wpAny_of_eq (a := ((Value.ref x : Value), [Value.str "__class__" t])) (by first | rfl | (simp only [Builtin.slotArgs]; rfl)) ?_)
  refine wpAny_bind (wpAny_pure (wpAny_bind (T0.at (wpAny_bind (T3.at ?_)))))
  dsimp only
  refine wpAny_bind (wpAny_holding (wpAny_call (class_get (s := ⟨hp, g, d, t + 1, os⟩) (ox := ox) (od := od) X I C.hm ?_)))
  refine wpAny_pure ?_
  show wpAny _ _ (handedOut (.ref D)) _ _ _
  rw [handedOut_of (v := .ref D) rfl]
  first
    | exact wpAny_pure (wpAny_pure h)
    | exact wpAny_pure h
    | exact wpAny_pure (wpAny_bind (wpAny_pure (wpAny_pure h)))
theorem kitx_err {K : Frag} {x D : Addr} (C : ExcC K D) : KitX K (.ref x) (.ref D) (fun h => ∃ ox od, PySem.W.InstAt h x ox D od) where
  ty := fun _ _ _ I => by obtain ⟨_, _, I⟩ := I; exact I.type
  it := fun _ _ X _ => by
    obtain ⟨cd, hc, _⟩ := any_some C.hd
    unfold clsIn at hc
    split at hc
    · rename_i ho
      intro A' Q' E' s' k q
      unfold isType loadHead
      exact wpAny_bind (wpAny_loadPart (k _ _ (X _ _ ho)) (wpAny_pure q))
    · cases hc
  ne := fun h tp dd its n sl X htp => by
    obtain ⟨cd, hc, _⟩ := any_some C.hd
    cases eq : (Value.ref D == Value.ref tp) with
    | false => rfl
    | true =>
      cases Value.ref.inj (beq_iff_eq.mp eq)
      unfold clsIn at hc
      split at hc
      · rename_i ho
        cases (X _ _ ho).symm.trans htp
      · cases hc
  ca := fun X I k => by obtain ⟨_, _, I⟩ := I; exact class_of_err C X I k
end
/-- the kind of a value, errors too -/
def TyE (K : PySem.W.Frag) (H : L2.Hp) (x : L2.V) (t : Value) : Prop := TyY K H x t ∨ ∃ D a d, x = .ref a ∧ t = .ref D ∧ ExcC K D ∧ H a = some (ExK (.ref D) d a) ∧ (d = none ∨ ∃ dd us, d = some dd ∧ H dd = some (.xd us))
section
variable {X : Cx} {w : Wo} {f : L2.Hp} {r : List Addr} {G H : L2.Hp} {h : Hp}
theorem kit_e {pins : List (Addr × Obj)} {σ : Sg} {s : Shared} {x : L2.V} {u t : Value} (I : Inv X pins σ H s) (rx : RelV x u) (ty : TyE X.K H x t) : ∃ P : Heap → Prop, PySem.W.KitX X.K u t P ∧ P s.heap ∧ u ≠ .builtin "__main__.__loader__#opaque" := by
  rcases ty with ty | ⟨D, a, d, rfl, rfl, C, ha, hx⟩
  · exact kit_y I rx ty
  · cases (show u = Value.ref a from rx)
    refine ⟨_, kitx_err C, ?_, fun z => nomatch z⟩
    obtain ⟨⟨ob, vs, e, z, hd⟩, _⟩ := I.hok a _ ha
    have no : PySem.W.notCls ob = true := by unfold PySem.W.notCls; rw [hd] <;> rfl
    rcases hx with rfl | ⟨dd, us, rfl, hu⟩
    · exact ⟨ob, none, e, z.1, no, by rw [z.2]; trivial⟩
    · obtain ⟨mA, hns, _⟩ := (show ObjOk X.prog X.w H s.heap dd (.xd us) from I.hok dd _ hu)
      obtain ⟨od, ho, _⟩ := lookIn_ns hns
      exact ⟨ob, some od, e, z.1, no, by rw [z.2]; exact ho⟩
def rIsE1 (K : PySem.W.Frag) : List L2.V → L2.Hp → VK → Prop := fun xs H Q => ∃ (x c : L2.V) (t u : Value) (b : Bool), xs = [x, c] ∧ ClsV c u ∧ TyE K H x t ∧ PySem.W.kitOne K t u = some b ∧ Q (.bl b) H
def rIsEt (K : PySem.W.Frag) : List L2.V → L2.Hp → VK → Prop := fun xs H Q => ∃ (x : L2.V) (tp : Addr) (cs : List L2.V) (t : Value) (us : List Value) (b : Bool), xs = [x, .ref tp] ∧ H tp = some (.tup cs) ∧ Paired ClsV cs us ∧ TyE K H x t ∧ PySem.W.kitAny K t us = some b ∧ Q (.bl b) H
theorem call_isE1 : CallR X (.builtin "isinstance") (rIsE1 X.K) := fun pins s σ H xs us Q I r q => by
  obtain ⟨x, c, t, u, b, rfl, k, ty, e, q⟩ := q
  obtain ⟨v1, v2, rfl, r1, r2⟩ := vals2 r
  obtain ⟨P, Z, p, hx⟩ := kit_e I r1 ty
  rw [k.eq r2]
  exact PySem.W.kia_one Z I.kIn p e hx fun tk => ⟨.bl b, H, I.tok tk, rfl, q⟩
theorem call_isEt : CallR X (.builtin "isinstance") (rIsEt X.K) := fun pins s σ H xs us Q I r q => by
  obtain ⟨x, tp, cs, t, ws, b, rfl, hT, k, ty, e, q⟩ := q
  obtain ⟨v1, v2, rfl, r1, r2⟩ := vals2 r
  obtain ⟨P, Z, p, hx⟩ := kit_e I r1 ty
  cases (show v2 = Value.ref tp from r2)
  obtain ⟨_, its, rv, o, g1, g2, n, g3⟩ := (show ObjOk X.prog X.w H s.heap tp (.tup cs) from I.hok tp _ hT)
  have ei := ClsV.all k rv
  subst ei
  obtain ⟨oc, od, dt, sl⟩ := o
  simp only at g2 g3
  subst g2 g3
  exact PySem.W.kia_tup Z I.kIn p g1 e hx fun tk => ⟨.bl b, H, I.tok tk, rfl, q⟩
/-- any value before classes of errors -/
theorem kd_cls (xo : XcOk w) {v : V} {u : L2.V} {tys : List Ty} {Q : Bool → Prop} (S : Sim w f r G h H) (rv : Rv w r G v u) (q : isiP h v tys Q) (hb : ∀ t ∈ tys, tyKnown w t) :
    ∃ t b, TyE w.K H u t ∧ Q b ∧ PySem.W.kitAny w.K t (tys.map (clsU w)) = some b ∧ ∀ ty, tys = [ty] → PySem.W.kitOne w.K t (clsU w ty) = some b := by
  have plainK : ∀ (k : Kd) (ts : List Ty), (∀ t ∈ ts, tyKnown w t) → PySem.W.kitAny w.K (.type (kdN k)) (ts.map (clsU w)) = some false ∧ ∀ ty, ts = [ty] → PySem.W.kitOne w.K (.type (kdN k)) (clsU w ty) = some false := by
    intro k ts ht
    have one : ∀ t, tyKnown w t → PySem.W.kitOne w.K (.type (kdN k)) (clsU w t) = some false := fun t ht => by
      cases t with
      | own c => exact xo.nk k c ht.1
      | hue => exact xo.nh k
      | verr => exact kit_ty (kd_verr k)
      | _ => exact ht.elim
    refine ⟨?_, fun ty e => one ty (ht ty (by simp [e]))⟩
    induction ts with
    | nil => rfl
    | cons t ts ih => exact kitAny_cons (one t (ht t (by simp))) (fun _ => ih fun t hm => ht t (by simp [hm])) fun z => by cases z
  have plain : ∀ (k : Kd), TyY w.K H u (.type (kdN k)) → Q false → ∃ t b, TyE w.K H u t ∧ Q b ∧ PySem.W.kitAny w.K t (tys.map (clsU w)) = some b ∧ ∀ ty, tys = [ty] → PySem.W.kitOne w.K t (clsU w ty) = some b := fun k tx q => ⟨_, _, .inl tx, q, plainK k tys hb⟩
  have anyF : ∀ g : Ty → Bool, (∀ t, tyKnown w t → g t = false) → tys.any g = false := fun g hg => by
    rw [List.any_eq_false]
    intro t ht
    rw [hg t (hb t ht)]
    exact Bool.false_ne_true
  cases v with
  | d d =>
    replace q : Q (tys.any fun t => isTy h (.d d) t) := q
    rw [anyF _ fun t ht => by cases d <;> cases t <;> first | rfl | exact ht.elim] at q
    cases d with
    | none => have rv : u = .non := rv; subst rv; exact plain .non (.inl (.base .non)) q
    | bool b => have rv : u = .bl b := rv; subst rv; exact plain .bl (.inl (.base (.bl b))) q
    | int b => have rv : u = .int b := rv; subst rv; exact plain .int (.inl (.base (.int b))) q
    | str b => have rv : u = .str b := rv; subst rv; exact plain .str (.inl (.base (.str b))) q
    | list b => obtain ⟨a, us, rfl, hq, _⟩ := rv; exact plain .lst (.inl (lq_ty (lqL_mono S.sub hq))) q
    | tuple b => obtain ⟨a, us, rfl, hq, _⟩ := rv; exact plain .tup (.inl (sq_ty (tqT_mono S.sub hq))) q
    | dict b => obtain ⟨a, t, us, rfl, hq, _⟩ := rv; exact plain .dic (dc_ty (hq.mono (fun _ _ e => e) (S.sub a))) q
  | cell n =>
    obtain ⟨a, e1, rfl⟩ := rv
    unfold isiP at q
    cases eo : h[n]? with
    | none => simp only [eo] at q
    | some o =>
      have ob := S.ob n a o e1 eo
      cases o with
      | lst xs =>
        simp only [eo] at q
        rw [anyF _ fun t ht => by unfold isTy; simp only [eo]; cases t <;> first | rfl | exact ht.elim] at q
        obtain ⟨_, us, ha, _⟩ := ob
        exact plain .lst (.inl (.base (.lst ha))) q
      | lv xs =>
        simp only [eo] at q
        rw [anyF _ fun t ht => by unfold isTy; simp only [eo]; cases t <;> first | rfl | exact ht.elim] at q
        obtain ⟨_, us, ha, _⟩ := ob
        exact plain .lst (.inl (.base (.lst ha))) q
      | dct t kvs =>
        simp only [eo] at q
        rw [anyF _ fun t ht => by unfold isTy; simp only [eo]; cases t <;> first | rfl | exact ht.elim] at q
        obtain ⟨_, us, hd, _⟩ := ob
        exact plain .dic (dc_ty hd) q
      | ins _ _ => simp only [eo] at q
      | dead => simp only [eo] at q
  | vt xs =>
    have q : Q (tys.any fun t => isTy h (.vt xs) t) := q
    rw [anyF _ fun t ht => by cases t <;> first | rfl | exact ht.elim] at q
    obtain ⟨a, us, rfl, hq, _⟩ := rv
    exact plain .tup (.inl (sq_ty (tqT_mono S.sub hq))) q
  | fn _ => exact q.elim
  | exc c fs =>
    obtain ⟨hall, q⟩ := q
    clear hall
    obtain ⟨hc, a, d, rfl, g, xd⟩ := rv
    have xd : d = none ∨ ∃ dd us, d = some dd ∧ H dd = some (.xd us) := by
      cases fs with
      | nil => exact .inl xd
      | cons p fs =>
        obtain ⟨dd, us, e1, e2, _, _⟩ := xd
        exact .inr ⟨dd, us, e1, S.sub _ _ e2⟩
    have one : ∀ t, tyKnown w t → PySem.W.kitOne w.K (.ref (w.ca c)) (clsU w t) = some (isTy h (.exc c fs) t) := fun t ht => by
      cases t with
      | own c' =>
        have e : isTy h (.exc c fs) (.own c') = decide (c' = c) := by
          unfold isTy
          by_cases z : c' = c
          · subst z; simp
          · simp [z]
        rw [e]
        exact xo.kk c hc c' ht.1 ht.2
      | hue => exact xo.kh c hc
      | verr => exact xo.kv c hc
      | _ => exact ht.elim
    refine ⟨.ref (w.ca c), _, .inr ⟨w.ca c, a, d, rfl, rfl, xo.ex c hc, S.sub _ _ g, xd⟩, q, ?_, fun ty e => ?_⟩
    · clear q plain anyF
      induction tys with
      | nil => rfl
      | cons t ts ih =>
        rw [List.any_cons]
        refine kitAny_cons (one t (hb t (by simp))) (fun z => ?_) fun z => by rw [z, Bool.true_or]
        rw [z, Bool.false_or]
        exact ih fun t hm => hb t (by simp [hm])
    · subst e
      rw [List.any_cons, List.any_nil, Bool.or_false]
      exact one ty (hb ty (by simp))
end
section
variable {X : Cx} {w : Wo} {F : Phi} {W : WX} {a e : Expr} {es : List Expr} {t : T} {pos : Pos}
/-- isinstance(a, C), C a class of errors -/
theorem se_isx1 {ty : Ty} {p : Pos} (hK : X.K = w.K) (xo : XcOk w) (hg : Gl X "isinstance") (hm : X.mg "isinstance" = none) (hty : tyKnown w ty) (hc : PE X e (tC (clsV w ty))) (hsc : ∀ x p, e ≠ .Starred x p)
    (ha : SE X w F W a t) (hs : ∀ x p, a ≠ .Starred x p) : SE X w F W (.Call (.Name "isinstance" p) [a, e] [] pos) (.isi t [ty]) := by
  refine pe_imp (pe_callB call_isE1 hg hm (by decide +kernel) (pa_cons ha (pa_cons hc pa_nil (nostar hsc)) (nostar hs)) (by decide) (by decide) (nostar hs) (noany (by intro e he x p hz; simp at he; subst he; exact hsc x p hz))) fun s H Q h => ?_
  obtain ⟨f, r, G, env, h, P, Xp, S, E, wp, q, qx⟩ := h
  refine ⟨f, r, G, env, h, _, Xp, S, E, wp, fun v h1 u r1 G1 H1 w1 e1 S1 rv => ?_, qx⟩
  obtain ⟨tt, b, tx, w2, _, k1⟩ := kd_cls xo S1 rv w1 (by simpa using hty)
  exact ⟨u, clsV w ty, tt, clsU w ty, b, rfl, cls_vu w ty, by rw [hK]; exact tx, by rw [hK]; exact k1 ty rfl, q _ h1 (.bl b) r1 G1 H1 w2 e1 S1 rfl⟩
/-- names of classes, one by one -/
inductive ClsEs (X : Cx) (w : Wo) : List Expr → List Ty → Prop where
  | nil : ClsEs X w [] []
  | cons {e : Expr} {es : List Expr} {ty : Ty} {tys : List Ty} (h : PE X e (tC (clsV w ty))) (hs : ∀ x p, e ≠ .Starred x p) (r : ClsEs X w es tys) : ClsEs X w (e :: es) (ty :: tys)
theorem ClsEs.pa {tys : List Ty} (h : ClsEs X w es tys) : PA X es (fun _ H Q => Q (tys.map (clsV w)) H) := by
  induction h with
  | nil => exact pa_imp pa_nil fun s H Q h => h
  | cons h hs _ ih => exact pa_imp (pa_cons h ih (nostar hs)) fun s H Q q => q
theorem cls_paired (w : Wo) : ∀ tys : List Ty, Paired ClsV (tys.map (clsV w)) (tys.map (clsU w))
  | [] => .nil
  | t :: ts => .cons (cls_vu w t) (cls_paired w ts)
/-- isinstance(a, (C, D, ..)) -/
theorem se_isxt {tys : List Ty} {p tp : Pos} {k : Nat} (hK : X.K = w.K) (xo : XcOk w) (hg : Gl X "isinstance") (hm : X.mg "isinstance" = none) (hty : ∀ t ∈ tys, tyKnown w t) (hl : tys.length ≤ 100) (hc : ClsEs X w es tys)
    (ha : SE X w F W a t) (hs : ∀ x p, a ≠ .Starred x p) : SE X w F W (.Call (.Name "isinstance" p) [a, .Tuple es k tp] [] pos) (.isi t tys) := by
  have nt : ∀ x p, Expr.Tuple es k tp ≠ .Starred x p := by intro x p z; cases z
  refine pe_imp (pe_callB call_isEt hg hm (by decide +kernel) (pa_cons ha (pa_cons (pe_tup hc.pa) pa_nil (nostar nt)) (nostar hs)) (by decide) (by decide) (nostar hs) (noany (by intro e he x p hz; simp at he; subst he; exact nt x p hz))) fun s H Q h => ?_
  obtain ⟨f, r, G, env, h, P, Xp, S, E, wp, q, qx⟩ := h
  refine ⟨f, r, G, env, h, _, Xp, S, E, wp, fun v h1 u r1 G1 H1 w1 e1 S1 rv => ?_, qx⟩
  refine ⟨by rw [List.length_map, big_eq]; unfold big; omega, fun pt hpt => ?_⟩
  obtain ⟨S2, e2⟩ := S1.lay hpt (.tup (tys.map (clsV w)))
  obtain ⟨tt, b, tx, w2, k1, _⟩ := kd_cls xo S2 (Rv.mono e2 _ _ rv) w1 hty
  exact ⟨u, pt, tys.map (clsV w), tt, tys.map (clsU w), b, rfl, upd_same, cls_paired w tys, by rw [hK]; exact tx, by rw [hK]; exact k1, q _ h1 (.bl b) r1 _ _ w2 (e1.trans e2) S2 rfl⟩
/-- raise C('..') -/
theorem ss_rai {c : Nat} {x m : Str} {j : Nat} {p p2 pos2 : Pos} (hK : X.K = w.K) (hcalm : X.calm = true) (tk : Takes X W) (hc : c ∈ w.xc) (hq : PySem.W.excIn w.K (w.ca c) He.veBase "ValueError.__new__" = true) (gC : X.mg x = some (.ref (w.ca c))) (kC : PySem.W.keepIn w.K (.ref (w.ca c)) = true)
    (h1 : PySem.W.subIn w.K (.ref (w.ca c)) (.type "BaseException") = some true) (h2 : PySem.W.typeIn w.K (.ref (w.ca c)) = some (.type "type")) (hg : Gl X x) (hdb : (x == ("__debug__" : Str)) = false) :
    SS X w F W (.Raise (some (.Call (.Name x p) [.Constant (.str m) j p2] [] pos2)) none pos) (.rai c) := by
  refine ps_imp (ps_raise hcalm tk (pmk_own PySem.F.excBase_ValueError (by rw [hK]; exact hq) gC (by rw [hK]; exact kC) (raises_own (by rw [hK]; exact h1) (by rw [hK]; exact h2)) hg hdb)) fun D s H h => ?_
  obtain ⟨f, r, G, env, h, n, k, S, E, wp, q⟩ := h
  exact q.xe (.exc c []) env h s r G H _ none wp Ext.refl S E ⟨rfl, hc, rfl⟩
/-- try: body, except HueError as n: m = n -/
theorem ss_try {i y : Nat} {x n m : Str} {body : List Stmt} {np mp vp ap hp : Pos} (hK : X.K = w.K) (xo : XcOk w) (hs : X.stack = X.env :: X.outer) (hf : X.env.frame = some X.env.locals) (hex : X.ex = []) (hN : X.N.Nodup) (hi : X.N[i]? = some n) (hln : X.env.kindOf n = some .local)
    (hc : Names X x (.ref w.hu)) (hm : X.N[y]? = some m) (hlm : Loc X.env.scope m) (hfm : X.fn m = true ∨ X.env.scope.names.lookup m = some .local) (hd1 : (n == ("__debug__" : Str)) = false) (hd2 : (n == ("__classdict__" : Str)) = false)
    (hb : ∀ (W : WX) (pn : List (Addr × Obj)) (xe : Value → Shared → Prop), Takes (X.tr pn xe) W → PassesOwn (model X.prog X.w) X.A X.env xe → SSs (X.tr pn xe) w F W body t) :
    SS X w F W (.Try body [.ExceptHandler (some (.Name x np)) (some n) [.Assign [.Name m mp] (.Name n vp) ap] hp] [] [] pos) (.try_ t i y) := by
  refine ps_imp (ps_try_keep (tb := fun W => rdSs w F W t) hs hf hex hN hi hln hc hm hlm hfm hd1 hd2 hb) fun D s H h => ?_
  obtain ⟨f, r, G, env, h, n, k, S, E, wp, q⟩ := h
  refine ⟨f, r, G, env, h, _, _, S, E, wp, q.nx, q.rt, q.bk, q.ct, fun v env1 h1 s1 r1 G1 H1 c d p e1 S1 E1 x => ?_⟩
  cases v with
  | exc k fs =>
    obtain ⟨rfl, hk, xd⟩ := x
    refine ⟨by rw [hK]; exact xo.em k hk, fun a ha => ?_⟩
    obtain ⟨S2, e2⟩ := S1.lay ha (ExK (.ref (w.ca k)) d a) (fun b z => nomatch z)
    have E2 := E1.mono e2
    exact q.nx _ h1 _ r1 _ _ p (e1.trans e2) S2 (((E2.forget i (some (.ref a))).set (v := .exc k fs) (u := .ref a) ⟨hk, a, d, rfl, upd_same, xd.mono e2.sub⟩ y).forget i none)
  | _ => exact x.elim
end
end Hb

/-! SLS: sorted(set(x)) of a list of whole numbers. -/
namespace Hb
open PySem PySem.Spec PyProof.Rows
open L2 hiding V Hp St
set_option autoImplicit false
/-- a set that is laid anew -/
abbrev bareSet (w : World) : Obj := { cls := .type "set", dict := none, data := .set #[] 0 (.fresh 0 0 (!w.params.followText "set-order")) }
section
variable {pr : Program} {w : World} {A : Around} {E : Value → Shared → Prop} {st : Shared}
set_option maxHeartbeats 3200000 in
/-- set(xs), xs a list of whole numbers: the set that sorted can read -/
theorem set_of_ints {a : Addr} {its : Array Value} (zs : List Int) {Q : Value → Shared → Prop} (nh : A.handled = none) (isl : st.heap.IsList a its) (itn : IntsAre its.toList zs) (few : zs.length + 1 < scanBound)
    (q : ∀ (hp : Heap) (tk c : Nat), SetR w hp st.heap.objs.size (fun j => decide (j ∈ zs)) c → c ≤ zs.length → (∀ b o, st.heap.get? b = some o → hp.get? b = some o) → Q (.ref st.heap.objs.size) { st with heap := hp, toks := tk }) :
    wpAny (model pr w) A (call (.type "set") [.ref a]) Q E st := by
  have len : its.size = zs.length := by
    have z := IntsAre.length itn
    rw [Array.length_toList] at z
    exact z
  obtain ⟨k0, t0, mro0⟩ := F.called_set.mro
  have m1 := F.called_set.made
  have m2 := F.called_set.sub
  refine wpAny_call (codeAny_of_tree ?_)
  show wpAny _ _ (callAny (.type "set") _) _ _ _
  refine wpAny_pure ⟨Code.quiet_builtin _ (by decide +kernel), codeAny_builtin F.entry_type_call ?_⟩
  rw [Around.under_plain (weight_type_call_type "set" [.ref a] []) rfl]
  have m3 := F.called_set.notType
  have m4 := F.called_set.canCreate
  have m5 := F.typeCall_set_1 (.ref a)
  repeat any_goals first | wp_step | assumption
  refine codeAny_mono (code_set_led1 (.ref a) (E := E) (Q₁ := fun x s1 => x = .ref st.heap.objs.size ∧ s1 = { st with heap := st.heap.push (bareSet w) }) ⟨rfl, rfl⟩) fun r s1 hr => ?_
  cases r with
  | error e => exact hr
  | ok fl =>
    cases fl with
    | ret x =>
      obtain ⟨rfl, rfl⟩ := hr
      have gS : (st.heap.push (bareSet w)).get? st.heap.objs.size = some (bareSet w) := Heap.get?_push_size _ rfl
      have tS : Shared.TypeIs { st with heap := st.heap.push (bareSet w) } (.ref st.heap.objs.size) "set" := ⟨_, gS, rfl⟩
      have m6 := F.called_set.init.lookup
      have m7 := F.called_set.init.bind (.ref st.heap.objs.size)
      repeat any_goals first | wp_step | assumption
      refine codeAny_mono (codeAny_call_builtin (R := wants (fun r s2 => r = .none ∧ ∃ hp tk c, s2 = { st with heap := hp, toks := tk } ∧ SetR w hp st.heap.objs.size (fun j => decide (j ∈ zs)) c ∧ c ≤ zs.length ∧
          (∀ b o, st.heap.get? b = some o → hp.get? b = some o)) E) F.called_set.init.plain F.entry_set_init (check_set_init_1 tS ?_)) fun r2 s2 hr2 => ?_
      · obtain ⟨⟨oc, od, odt, osl⟩, gl, cl, nl, dl⟩ := isl
        simp only at cl dl
        subst cl; subst dl
        have gl' : (st.heap.push (bareSet w)).get? a = some { cls := .type "list", dict := od, data := .seq its nl, slots := osl } := Heap.get?_push_of_some _ gl
        have m8 := F.sub_list_set
        have m9 := F.sub_list_frozenset
        have nd : (Value.type "list" == Value.type "dict") = false := by decide
        have isl1 : (st.heap.push (bareSet w)).IsList a its := ⟨_, gl', rfl, nl, rfl⟩
        unfold Builtin.«set.__init__»
        unfold noKeywords
        unfold Builtin.Frozenset.updateFrom
        generalize ei : pyIter = PI
        wp_walk
        subst ei
        refine wpAny_pyIter_list isl1 ?_
        refine wpAny_bind (wpAny_runValue ?_)
        have la : a < st.heap.objs.size := Heap.lt_size gl
        have nh3 : A.in1.in1.in1.handled = none := by simp [nh]
        have aI : a ≠ (st.heap.push (bareSet w)).objs.size := by
          rw [Heap.size_push]
          exact fun z => absurd (z ▸ la) (Nat.not_lt.mpr (Nat.le_succ _))
        have sI : st.heap.objs.size ∉ [(st.heap.push (bareSet w)).objs.size, a] := by
          rw [Heap.size_push]
          intro z
          simp only [List.mem_cons, List.not_mem_nil, or_false] at z
          rcases z with z | z
          · exact absurd z (Nat.ne_of_lt (Nat.lt_succ_self _))
          · exact absurd la (by rw [z]; exact Nat.lt_irrefl _)
        have vals : ∀ (i : Nat) (v : Value), its[i]? = some v → ∃ z t, zs[i]? = some z ∧ v = .int z t := fun i v hv => by
          have hi : i < zs.length := by rw [← len]; exact (Array.getElem?_eq_some_iff.mp hv).1
          obtain ⟨t, e⟩ := IntsAre.int_at itn i v (by rw [Array.getElem?_toList]; exact hv)
          refine ⟨zs[i], t, List.getElem?_eq_getElem hi, e.trans ?_⟩
          rw [List.getD_eq_getElem?_getD, List.getElem?_eq_getElem hi]
          rfl
        refine set_update_ints ((Walks.list nh3 _ a aI its).toS) st.heap.objs.size sI zs len few vals (its.size - 0) 0 _ (by omega) (Nat.zero_le _) ⟨⟨_, Heap.get?_push_size _ rfl, rfl, rfl⟩, isl1.push _⟩ ?c0 ?c1
        case c0 => exact ⟨0, Nat.le_refl 0, setR_new_at (Heap.get?_push_of_some _ gS)⟩
        case c1 =>
          intro s3 c3 mv le3 R3
          obtain ⟨hp, gn, dr, tk, os⟩ := s3
          have e1 : gn = st.gens := mv.gens
          have e2 : dr = st.drawn := mv.drawn
          have e3 : os = st.os := mv.os
          subst e1; subst e2; subst e3
          show wpAny _ _ _ _ _ _
          refine wpAny_pure ?_
          show wpAny _ _ (ret Value.none) _ _ _
          rw [len] at le3
          refine wpAny_pure ⟨rfl, hp, tk, c3, rfl, R3, le3, fun b o e => ?_⟩
          have lb : b < st.heap.objs.size := Heap.lt_size e
          refine mv.heap b o ?_ (Heap.get?_push_of_some _ (Heap.get?_push_of_some _ e))
          intro z
          have z2 : (st.heap.push (bareSet w)).objs.size = st.heap.objs.size + 1 := Heap.size_push ..
          simp only [List.mem_cons, List.not_mem_nil, or_false] at z
          rcases z with z | z
          · exact absurd z (Nat.ne_of_lt lb)
          · rw [z, z2] at lb
            exact absurd lb (Nat.not_lt.mpr (Nat.le_succ _))
      · cases r2 with
        | error e => exact hr2
        | ok fl2 =>
          cases fl2 with
          | ret v2 =>
            obtain ⟨rfl, hp, tk, c3, rfl, R3, le3, kp⟩ := hr2
            repeat any_goals first | wp_step | assumption
            exact q hp tk c3 R3 le3 kp
          | _ => exact hr2
    | _ => exact hr
end
/-- set(x) -/
def rSetI (K : PySem.W.Frag) (w : World) : List L2.V → L2.Hp → VK → Prop := fun xs H Q => ∃ (l : Addr) (ns : List Int), xs = [L2.V.ref l] ∧ SqL K H l (ns.map L2.V.int) ∧ ns.length ≤ 1000 ∧
  ∀ (p : Addr) (c : Nat), H p = none → c ≤ ns.length → Q (.ref p) (upd H p (SetO w p (fun j => decide (j ∈ ns)) c))
theorem cr_setI {X : Cx} (hc : X.calm = true) : CallR X (.type "set") (rSetI X.K X.w) := by
  intro pins s σ H vs us Q I r h
  obtain ⟨l, ns, rfl, hl, few, q⟩ := h
  rw [Vals.ref1 r]
  obtain ⟨its, rv, pl, hz⟩ := I.list hl
  have hlen : its.length = ns.length := by rw [← rv.length, List.length_map]
  refine set_of_ints (its := its.toArray) ns (I.ok.hd hc) pl.isList (by simpa using RZ.intsAre_vals rv) (by unfold scanBound; omega) fun hp tk c R le kp => ?_
  have hn : H s.heap.objs.size = none := I.hok.fresh (Nat.le_refl _)
  exact ⟨.ref s.heap.objs.size, _, I.laid (t' := tk) kp (Nat.le_refl _) (setO_new R), rfl, q _ c hn le⟩
theorem lt_uniq : ∀ {l1 l2 : List Int}, l1.Pairwise (· < ·) → l2.Pairwise (· < ·) → (∀ x, x ∈ l1 ↔ x ∈ l2) → l1 = l2 := fun {l1 l2} h1 h2 h => by
  have n1 : l1.Nodup := h1.imp fun {a b} z e => by subst e; exact Int.lt_irrefl _ z
  have n2 : l2.Nodup := h2.imp fun {a b} z e => by subst e; exact Int.lt_irrefl _ z
  exact List.Perm.eq_of_pairwise (le := fun a b => a < b) (fun a b _ _ z1 z2 => absurd z2 (Int.lt_asymm z1)) h1 h2 ((List.perm_ext_iff_of_nodup n1 n2).mpr h)
theorem insI_mem {x y : Int} : ∀ {l : List Int}, y ∈ insI x l ↔ y = x ∨ y ∈ l
  | [] => by unfold insI; simp
  | z :: l => by
    unfold insI
    split
    · simp
    · rw [List.mem_cons, insI_mem, List.mem_cons]
      constructor
      · rintro (h | h | h)
        · exact .inr (.inl h)
        · exact .inl h
        · exact .inr (.inr h)
      · rintro (h | h | h)
        · exact .inr (.inl h)
        · exact .inl h
        · exact .inr (.inr h)
theorem sortI_mem {y : Int} : ∀ {l : List Int}, y ∈ sortI l ↔ y ∈ l
  | [] => Iff.rfl
  | x :: l => by
    show y ∈ insI x (sortI l) ↔ _
    rw [insI_mem, sortI_mem, List.mem_cons]
theorem insI_lt {x : Int} : ∀ {l : List Int}, l.Pairwise (· < ·) → x ∉ l → (insI x l).Pairwise (· < ·)
  | [], _, _ => List.pairwise_singleton _ _
  | z :: l, h, hx => by
    obtain ⟨h1, h2⟩ := List.pairwise_cons.mp h
    have hxz : x ≠ z := fun e => hx (by simp [e])
    unfold insI
    split
    · rename_i c
      refine List.pairwise_cons.mpr ⟨fun y hy => ?_, h⟩
      rcases List.mem_cons.mp hy with rfl | hy
      · omega
      · have := h1 y hy
        omega
    · rename_i c
      refine List.pairwise_cons.mpr ⟨fun y hy => ?_, insI_lt h2 fun z2 => hx (by simp [z2])⟩
      rcases insI_mem.mp hy with rfl | hy
      · omega
      · exact h1 y hy
theorem sortI_lt : ∀ {l : List Int}, l.Nodup → (sortI l).Pairwise (· < ·)
  | [], _ => List.Pairwise.nil
  | x :: l, h => by
    obtain ⟨h1, h2⟩ := List.nodup_cons.mp h
    exact insI_lt (sortI_lt h2) fun z => h1 (sortI_mem.mp z)
section
variable {X : Cx} {w : Wo} {F : Phi} {W : WX} {a : Expr} {t : T} {p p2 p3 pos : Pos}
theorem se_sseti (hK : X.K = w.K) (hc : X.calm = true) (hg : Gl X "sorted") (hm : X.mg "sorted" = none) (hg2 : Gl X "set") (hm2 : X.mg "set" = none) (ha : SE X w F W a t) (hs : ∀ x p, a ≠ .Starred x p) :
    SE X w F W (.Call (.Name "sorted" p) [.Call (.Name "set" p2) [a] [] p3] [] pos) (.o1 .sseti t) := by
  have nt : ∀ x q, Expr.Call (.Name "set" p2) [a] [] p3 ≠ .Starred x q := fun x q z => nomatch z
  refine pe_imp (pe_callB (cr_sortedSet hc) hg hm (by decide +kernel) (pa_cons (pe_callTy (cr_setI hc) hg2 hm2 (by decide +kernel) (pa_cons ha pa_nil (nostar hs)) (by decide) (by decide) (nostar hs) rfl) pa_nil (nostar nt)) (by decide) (by decide) (nostar nt) rfl) fun s H Q h => ?_
  refine rd_mono (fun x H1 h => ?_) (rd_o1 h)
  obtain ⟨f, r, G, h0, v, P, S, rv, wp, q⟩ := h
  have wp : optP (rdV h0 v) fun a => op1 .sseti a fun z => P (.d z) := wp
  obtain ⟨d, ed, wp⟩ := optP_of wp
  have rt := S.read rv ed
  cases d with
  | list ds =>
    obtain ⟨l, us, rfl, hl, tt⟩ := rt
    obtain ⟨ns, en, few, wp2⟩ := optP_of wp
    have := lst_ints tt en
    subst this
    refine ⟨l, ns, rfl, by rw [hK]; exact hl.sq, by omega, fun b c hb hcn => ?_⟩
    have S2 := S.other hb (SetO X.w b (fun j => decide (j ∈ ns)) c)
    refine ⟨b, _, c, rfl, upd_same, by omega, fun ms p pw mem len hp => ?_⟩
    have eq : ms = sortI (nubI ns) := lt_uniq pw (sortI_lt (nubI_nodup ns)) fun x => by
      rw [mem, sortI_mem, nubI_mem]
      exact decide_eq_true_iff
    obtain ⟨S3, e4⟩ := S2.lay hp (.lst (ms.map L2.V.int))
    have wp3 : P (.d (.list (ms.map PyData.int))) := by rw [eq]; exact wp2
    exact q _ _ r _ _ wp3 e4 S3 ⟨p, _, rfl, .inl (.inl upd_same), rpAll_ints _⟩
  | _ => exact wp.elim
end
end Hb

/-! EXT: sorted(set(pairs)), x.index(n) of a list. -/
namespace Hb
open PySem PySem.Spec PyProof.Rows
open L2 hiding V Hp St
set_option autoImplicit false
theorem nubP_mem : ∀ {l : List (Int × Int)} {x : Int × Int}, x ∈ nubP l ↔ x ∈ l
  | [], _ => Iff.rfl
  | y :: l, x => by
    unfold nubP
    by_cases h : y ∈ l
    · rw [if_pos h, nubP_mem, List.mem_cons]
      exact ⟨.inr, fun z => z.elim (fun e => e ▸ h) id⟩
    · rw [if_neg h, List.mem_cons, List.mem_cons, nubP_mem]
theorem nubP_nodup : ∀ l : List (Int × Int), (nubP l).Nodup
  | [] => List.nodup_nil
  | y :: l => by
    unfold nubP
    by_cases h : y ∈ l
    · rw [if_pos h]; exact nubP_nodup l
    · rw [if_neg h, List.nodup_cons, nubP_mem]; exact ⟨h, nubP_nodup l⟩
theorem perm_of_mem {l l' : List (Int × Int)} (h : l.Nodup) (h' : l'.Nodup) (e : ∀ x, x ∈ l ↔ x ∈ l') : l.Perm l' := (List.perm_ext_iff_of_nodup h h').mpr e
section
variable {X : Cx} {w : Wo} {F : Phi} {W : WX} {a : Expr} {t t1 t2 : T} {p p2 p3 pos : Pos}
/-- pairs by their objects -/
theorem prs_ks {K : PySem.W.Frag} {G : L2.Hp} : ∀ {ps : List (Int × Int)} {us : List L2.V}, RpAll K G (ps.map prD) us → ∃ ks : List (Addr × List Int), us = ks.map (fun q => L2.V.ref q.1) ∧ ks.map (·.2) = ps.map (fun q => [q.1, q.2]) ∧ ∀ q ∈ ks, TqT G q.1 (q.2.map L2.V.int)
  | [], us, h => by have h : us = [] := h; subst h; exact ⟨[], rfl, rfl, fun q hq => by cases hq⟩
  | x :: ps, us, h => by
    obtain ⟨v, vs, rfl, h1, h2⟩ := h
    obtain ⟨ks, rfl, e2, e3⟩ := prs_ks h2
    obtain ⟨b, zs, rfl, hb, hz⟩ := h1
    have hz : zs = [L2.V.int x.1, L2.V.int x.2] := by
      obtain ⟨v1, w1, rfl, r1, hz⟩ := hz
      obtain ⟨v2, w2, rfl, r2, hz⟩ := hz
      have hz : w2 = [] := hz
      have r1 : v1 = .int x.1 := r1
      have r2 : v2 = .int x.2 := r2
      rw [hz, r1, r2]
    subst hz
    refine ⟨(b, [x.1, x.2]) :: ks, rfl, by rw [List.map_cons, List.map_cons, e2], fun q hq => ?_⟩
    rcases List.mem_cons.mp hq with rfl | hq
    · exact hb
    · exact e3 q hq
def prL : List Int → Int × Int
  | [x, y] => (x, y)
  | _ => (0, 0)
theorem prL_all {G : L2.Hp} {K : PySem.W.Frag} : ∀ {L : List (Addr × List Int)}, (∀ q ∈ L, TqT G q.1 (q.2.map L2.V.int) ∧ ∃ x y : Int, q.2 = [x, y]) → RpAll K G ((L.map fun q => prL q.2).map prD) (L.map fun q => L2.V.ref q.1)
  | [], _ => rfl
  | q :: L, h => by
    obtain ⟨h1, x, y, e⟩ := h q (by simp)
    rw [e] at h1
    refine ⟨_, _, rfl, ?_, prL_all fun q hq => h q (by simp [hq])⟩
    show Rp K G (prD (prL q.2)) (.ref q.1)
    rw [e]
    exact ⟨q.1, _, rfl, h1, ⟨_, _, rfl, rfl, _, _, rfl, rfl, rfl⟩⟩
theorem code_lex {x y : Int × Int} (h : TS.code 64 [x.1, x.2] ≤ TS.code 64 [y.1, y.2]) (b1 : (0 ≤ x.1 ∧ x.1 < 64) ∧ 0 ≤ x.2 ∧ x.2 < 64) (b2 : (0 ≤ y.1 ∧ y.1 < 64) ∧ 0 ≤ y.2 ∧ y.2 < 64) : lexP y x = false := by
  rw [code_pair, code_pair] at h
  rw [lexP_no]
  omega
theorem se_sset (hK : X.K = w.K) (hc : X.calm = true) (hu : X.A.units + 65 < cLine) (hg : Gl X "sorted") (hm : X.mg "sorted" = none) (hg2 : Gl X "set") (hm2 : X.mg "set" = none) (ha : SE X w F W a t) (hs : ∀ x p, a ≠ .Starred x p) :
    SE X w F W (.Call (.Name "sorted" p) [.Call (.Name "set" p2) [a] [] p3] [] pos) (.o1 .sset t) := by
  have nt : ∀ x q, Expr.Call (.Name "set" p2) [a] [] p3 ≠ .Starred x q := fun x q z => nomatch z
  refine pe_imp (pe_callB (cr_sortedT hc) hg hm (by decide +kernel) (pa_cons (pe_callTy (cr_setOfT hc (by omega)) hg2 hm2 (by decide +kernel) (pa_cons ha pa_nil (nostar hs)) (by decide) (by decide) (nostar hs) rfl) pa_nil (nostar nt)) (by decide) (by decide) (nostar nt) rfl) fun s H Q h => ?_
  refine rd_mono (fun x H1 h => ?_) (rd_o1 h)
  obtain ⟨f, r, G, h0, v, P, S, rv, wp, q⟩ := h
  have wp : optP (rdV h0 v) fun a => op1 .sset a fun z => P (.d z) := wp
  obtain ⟨d, ed, wp⟩ := optP_of wp
  have rt := S.read rv ed
  cases d with
  | list ds =>
    obtain ⟨l, us, rfl, hl, tt⟩ := rt
    obtain ⟨ps, ep, ⟨hlen, hbd⟩, wp2⟩ := optP_of wp
    clear wp
    have := asPrs_map ep
    subst this
    obtain ⟨ks, rfl, e2, e3⟩ := prs_ks tt
    have kp : ∀ q ∈ ks, ∃ x ∈ ps, q.2 = [x.1, x.2] := fun q hq => by
      have : q.2 ∈ ks.map (·.2) := List.mem_map.mpr ⟨q, hq, rfl⟩
      rw [e2] at this
      obtain ⟨x, hx, e⟩ := List.mem_map.mp this
      exact ⟨x, hx, e.symm⟩
    refine ⟨l, ks, rfl, by rw [hK]; exact hl.sq, fun q hq => tqT_mono S.sub (e3 q hq), by have := congrArg List.length e2; rw [List.length_map, List.length_map] at this; omega, fun b L hb hsub hall => ?_⟩
    have S2 := S.other hb (SetTO X.prog X.w b L)
    have gL : ∀ q ∈ L, TqT G q.1 (q.2.map L2.V.int) := fun q hq => e3 q (hsub q hq)
    refine ⟨b, L, 2, 64, rfl, upd_same, fun q hq => tqT_mono S2.sub (gL q hq), by decide, fun q hq => ?_, fun L' p pm nd few pw hp => ?_⟩
    · obtain ⟨x, hx, e⟩ := kp q (hsub q hq)
      obtain ⟨⟨b1, b2⟩, b3, b4⟩ := hbd x hx
      rw [e]
      refine ⟨rfl, fun n hn => ?_⟩
      simp only [List.mem_cons, List.not_mem_nil, or_false] at hn
      rcases hn with rfl | rfl
      · exact ⟨b1, b2⟩
      · exact ⟨b3, b4⟩
    · have inL : ∀ q ∈ L', q ∈ ks := fun q hq => hsub q (pm.subset hq)
      have eq : (L'.map fun q => prL q.2) = sortP (nubP ps) := by
        have back : ∀ q ∈ L', q.2 = [(prL q.2).1, (prL q.2).2] ∧ prL q.2 ∈ ps := fun q hq => by
          obtain ⟨x, hx, e⟩ := kp q (inL q hq)
          rw [e]
          exact ⟨rfl, hx⟩
        refine srP_uniq ?_ ?_ (sortP_sorted _)
        · refine List.Perm.trans (perm_of_mem ?_ (nubP_nodup ps) fun x => ?_) (sortP_perm _).symm
          · rw [List.nodup_iff_pairwise_ne, List.pairwise_map]
            have nd2 := List.pairwise_map.mp (List.nodup_iff_pairwise_ne.mp nd)
            refine List.Pairwise.imp_of_mem (fun {q1 q2} m1 m2 hne z => ?_) nd2
            rw [(back q1 m1).1, (back q2 m2).1, z] at hne
            exact hne rfl
          · rw [nubP_mem]
            constructor
            · intro hx
              obtain ⟨q, hq, rfl⟩ := List.mem_map.mp hx
              exact (back q hq).2
            · intro hx
              have : [x.1, x.2] ∈ ks.map (·.2) := by rw [e2]; exact List.mem_map.mpr ⟨x, hx, rfl⟩
              obtain ⟨k, hk, e⟩ := List.mem_map.mp this
              obtain ⟨q, hq, e'⟩ := List.mem_map.mp (hall k hk)
              refine List.mem_map.mpr ⟨q, pm.symm.subset hq, ?_⟩
              rw [e', e]
              rfl
        · unfold SrP
          rw [List.pairwise_map]
          refine List.Pairwise.imp_of_mem (fun {q1 q2} m1 m2 hle => ?_) pw
          obtain ⟨c1, c2⟩ := back q1 m1
          obtain ⟨c3, c4⟩ := back q2 m2
          rw [c1, c3] at hle
          exact code_lex hle (hbd _ c2) (hbd _ c4)
      have wp : P (.d (.list ((sortP (nubP ps)).map prD))) := wp2
      rw [← eq] at wp
      obtain ⟨S3, e4⟩ := S2.lay hp (.lst (L'.map fun q => L2.V.ref q.1))
      refine q _ _ r _ _ wp e4 S3 ⟨p, _, rfl, .inl (.inl upd_same), ?_⟩
      refine RpAll.mono e4.sub _ _ (prL_all fun q hq => ?_)
      obtain ⟨x, hx, e⟩ := kp q (inL q hq)
      exact ⟨gL q (pm.subset hq), x.1, x.2, e⟩
  | _ => exact wp.elim
/-! ### index -/
theorem ixI_some : ∀ {ns : List Int} {i : Int} {k : Nat}, ixI i ns = some k → ns[k]? = some i ∧ ∀ m : Nat, m < k → ns[m]? ≠ some i
  | [], _, _, h => by cases h
  | x :: ns, i, k, h => by
    unfold ixI at h
    by_cases e : x = i
    · rw [if_pos e] at h
      cases h
      exact ⟨by rw [e]; rfl, fun m hm => absurd hm (Nat.not_lt_zero _)⟩
    · rw [if_neg e] at h
      obtain ⟨j, hj, rfl⟩ := Option.map_eq_some_iff.mp h
      obtain ⟨h1, h2⟩ := ixI_some hj
      refine ⟨h1, fun m hm => ?_⟩
      cases m with
      | zero => intro z; exact e (Option.some.inj z)
      | succ m => exact h2 m (by omega)
theorem flat_ints' (ns : List Int) : (ns.map L2.V.int).all flatV = true := by
  rw [List.all_map]
  exact List.all_eq_true.mpr fun _ _ => rfl
theorem ixD_some {y : D} : ∀ {xs : List D} {k : Nat}, ixD y xs = some k → ∃ z, xs[k]? = some z ∧ PyData.eqv z y = true ∧ ∀ (m : Nat) (z' : D), m < k → xs[m]? = some z' → PyData.eqv z' y = false
  | [], _, h => by cases h
  | x :: xs, k, h => by
    unfold ixD at h
    by_cases e : PyData.eqv x y = true
    · rw [if_pos e] at h
      cases h
      exact ⟨x, rfl, e, fun m z' hm => absurd hm (Nat.not_lt_zero _)⟩
    · rw [if_neg e] at h
      obtain ⟨j, hj, rfl⟩ := Option.map_eq_some_iff.mp h
      obtain ⟨z, h1, h2, h3⟩ := ixD_some hj
      refine ⟨z, h1, h2, fun m z' hm hz => ?_⟩
      cases m with
      | zero =>
        have : x = z' := Option.some.inj hz
        rw [← this]
        exact Bool.eq_false_iff.mpr e
      | succ m => exact h3 m z' (by omega) hz
def rIx2 (K : PySem.W.Frag) : L2.V → List L2.V → L2.Hp → VK → Prop := fun x xs H Q => rIndex K x xs H Q ∨ rIndexD K x xs H Q
theorem mt_ix2 (hu : X.A.units + 65 < cLine) : MtR X "list.index" (rIx2 X.K) := fun pins s σ H x xs v us Q I rx rxs h => by
  rcases h with h | h
  · exact mt_index pins s σ H x xs v us Q I rx rxs h
  · exact mt_indexD hu pins s σ H x xs v us Q I rx rxs h
theorem se_ixof {e oe : Expr} {name : Str} {apos cpos : Pos} (hu : X.A.units + 65 < cLine) (hK : X.K = w.K) (hn : name = "index") (ho : SE X w F W oe t1) (hb : plainBase oe = true) (hl : (apos.endLine == cpos.line) = true) (he : SE X w F W e t2) (hs : ∀ x p, e ≠ .Starred x p) :
    SE X w F W (.Call (.Attribute oe name apos) [e] [] cpos) (.ixof false t1 t2) := by
  subst hn
  refine pe_imp (pe_bm PySem.F.plainAttrs_list PySem.F.slot_list_index (by rfl) (mt_ix2 hu) ho (pa_cons he pa_nil (nostar hs)) (base_eq hb) (few_ok (by intro y hy; simp at hy; subst hy; exact hs) (by show 1 < 30; decide)) hl (nostar hs) rfl) fun s H Q h => ?_
  obtain ⟨f, r, G, env, h, P, Xp, S, E, wp, q, qx⟩ := h
  refine ⟨f, r, G, env, h, _, Xp, S, E, wp, fun v h1 u r1 G1 H1 w1 e1 S1 rv => ?_, qx⟩
  have key : (∃ a us, u = .ref a ∧ LqL w.K H1 a us) ∧ WE F t2 env h1 (fun y h2 => optP (rdV h2 v) fun x => optP (rdV h2 y) fun z => ixP x z fun r => P (.d r) h2) Xp ∧ ∀ (h2 : Hp) (xs : List D), rdV h2 v ≠ some (.tuple xs) := by
    cases v with
    | d d =>
      cases d with
      | list ds => obtain ⟨a, us, rfl, hq, _⟩ := rv; exact ⟨⟨a, us, rfl, lqL_mono S1.sub hq⟩, w1, fun h2 xs z => by cases z⟩
      | _ => exact w1.elim
    | cell n =>
      obtain ⟨a, er, rfl⟩ := rv
      have w1 : (match h1[n]? with
        | some (.lst _) => WE F t2 env h1 (fun y h2 => optP (rdV h2 (.cell n)) fun x => optP (rdV h2 y) fun z => ixP x z fun r => P (.d r) h2) Xp
        | _ => False) := w1
      cases eo : h1[n]? with
      | none => rw [eo] at w1; exact w1.elim
      | some o =>
        rw [eo] at w1
        cases o with
        | lst xs => obtain ⟨_, us, ha, _⟩ := S1.ob n a _ er eo; refine ⟨⟨a, us, rfl, .inl (.inl ha)⟩, w1, fun h2 ys z => ?_⟩; unfold rdV at z; cases e3 : h2[n]? with | none => simp only [e3] at z; cases z | some o => cases o <;> (simp only [e3] at z; cases z)
        | _ => exact w1.elim
    | _ => exact w1.elim
  obtain ⟨⟨a, us, rfl, hq⟩, w1, notT⟩ := key
  refine ⟨.inl ⟨rfl, us, by rw [hK]; exact hq.sq⟩, f, r1, G1, env, h1, _, Xp, S1, E.mono e1, w1, fun y h2 u2 r2 G2 H2 w2 e2 S2 rv2 => ?_, qx.mono e1⟩
  obtain ⟨x, ex, w2⟩ := optP_of w2
  obtain ⟨z, ez, w2⟩ := optP_of w2
  have rx := S2.read (Rv.mono e2 _ _ rv) ex
  have rz := S2.read rv2 ez
  cases x with
  | list ds =>
    obtain ⟨a', us', e0, hq', tt⟩ := rx
    cases e0
    have w2 : (match asInts ds with
      | some ns => intP z fun i => optP (ixI i ns) fun k => P (.d (.int k)) h2
      | none => (shp (.list ds) ∧ shp z) ∧ optP (ixD z ds) fun k => P (.d (.int k)) h2) := w2
    cases en : asInts ds with
    | none =>
      rw [en] at w2
      obtain ⟨⟨s1, s2⟩, w2⟩ := w2
      obtain ⟨k, ek, w2⟩ := optP_of w2
      obtain ⟨y0, k1, k2, k3⟩ := ixD_some ek
      have dl : Dp X.K H2 (.ref a) (.list ds) := by
        rw [hK]
        exact Rt.dp S2.sub (show Rt w.K G2 H2 (.list ds) (.ref a) from ⟨a, us', rfl, hq', tt⟩) s1
      have dz : Dp X.K H2 u2 z := by
        rw [hK]
        exact Rt.dp S2.sub rz s2
      exact .inr ⟨a, u2, z, ds, k, y0, rfl, rfl, dl, dz, s1, s2, k1, k2, k3, q _ h2 _ r2 G2 H2 w2 (e1.trans e2) S2 rfl⟩
    | some ns =>
    rw [en] at w2
    have := lst_ints tt en
    subst this
    cases z with
    | int i =>
      obtain ⟨k, ek, w2⟩ := optP_of w2
      have rz : u2 = .int i := rz
      subst rz
      obtain ⟨k1, k2⟩ := ixI_some ek
      refine .inl ⟨a, ns.map L2.V.int, .int i, k, .int i, rfl, rfl, by rw [hK]; exact hq'.sq, rfl, flat_ints' ns, by rw [List.getElem?_map, k1]; rfl, ?_, fun m z' hm hz => ?_, q _ h2 _ r2 G2 H2 w2 (e1.trans e2) S2 rfl⟩
      · show (i == i) = true
        exact beq_self_eq_true i
      · rw [List.getElem?_map] at hz
        obtain ⟨n, en, rfl⟩ := Option.map_eq_some_iff.mp hz
        show (n == i) = false
        rw [beq_eq_false_iff_ne]
        exact fun z => k2 m hm (z ▸ en)
    | _ => exact w2.elim
  | tuple ds => exact absurd ex (notT h2 ds)
  | _ => exact w2.elim
theorem se_orl {b : Expr} {rest : List Expr} (hK : X.K = w.K) (ha : SE X w F W a t1) (hb : SE X w F W (.BoolOp .Or (b :: rest) pos) t2) : SE X w F W (.BoolOp .Or (a :: b :: rest) pos) (.orl t1 t2) := pe_imp (L2.pe_orT ha hb) fun s H Q h => by
  obtain ⟨f, r, G, env, h, P, Xp, S, E, wp, q, qx⟩ := h
  refine ⟨f, r, G, env, h, _, Xp, S, E, wp, fun v h1 u r1 G1 H1 p e1 S1 rv => ?_, qx⟩
  cases v with
  | d x =>
    cases x with
    | list xs =>
      have rt := S1.read rv (show rdV h1 (.d (.list xs)) = some (.list xs) from rfl)
      have rv0 := rv
      obtain ⟨l, us, rfl, hl, tt⟩ := rt
      have el : xs.isEmpty = us.isEmpty := by
        cases xs with
        | nil =>
          have tt : us = [] := tt
          rw [tt]
          rfl
        | cons y ys =>
          obtain ⟨u, us', rfl, _⟩ := tt
          rfl
      refine ⟨!xs.isEmpty, .inl ⟨us, by rw [hK]; exact hl.sq, by rw [el]⟩, ?_⟩
      have p : (match !xs.isEmpty with | true => P (.d (.list xs)) h1 | false => WE F t2 env h1 P Xp) := p
      cases ee : (!xs.isEmpty) with
      | false =>
        rw [ee] at p
        rw [if_neg Bool.false_ne_true]
        exact ⟨f, r1, G1, env, h1, _, Xp, S1, E.mono e1, p, q.mono e1, qx.mono e1⟩
      | true =>
        rw [ee] at p
        rw [if_pos rfl]
        exact q _ h1 _ r1 G1 H1 p e1 S1 rv0
    | _ => exact p.elim
  | _ => exact p.elim
end
end Hb

/-! TIX: t.index(i), t a tuple of numbers. -/
namespace Hb
open PySem PySem.Spec PyProof.Rows
open L2 hiding V Hp St
set_option autoImplicit false
section
variable {X : Cx}
def tyTup (x : L2.V) (H : L2.Hp) : Prop := ∃ a us, x = .ref a ∧ TqT H a us
theorem ty_tup : TyOk X "tuple" tyTup := fun pins σ H s x v I rx ⟨a, us, e, ob, h, d⟩ => by
  subst e
  cases (show v = Value.ref a from rx)
  obtain ⟨g, _, its, _, o, h1, h2, n, h3⟩ := (show ObjOk X.prog X.w H s.heap a (.frz ob (.tup us)) from I.hok a _ h)
  rw [g] at h1
  cases h1
  refine ⟨⟨ob, g, h2⟩, fun b q => ?_⟩
  cases q
  exact ⟨ob, g, d⟩
theorem ixI_idx : ∀ {ns : List Int} {i : Int} {k : Nat}, ixI i ns = some k → i ∈ ns ∧ ns.idxOf i = k
  | [], _, _, h => by cases h
  | x :: ns, i, k, h => by
    unfold ixI at h
    by_cases e : x = i
    · rw [if_pos e] at h
      cases h
      subst e
      exact ⟨List.mem_cons_self, List.idxOf_cons_self⟩
    · rw [if_neg e] at h
      obtain ⟨j, hj, rfl⟩ := Option.map_eq_some_iff.mp h
      obtain ⟨h1, h2⟩ := ixI_idx hj
      exact ⟨List.mem_cons_of_mem _ h1, by rw [List.idxOf_cons, h2, show (x == i) = false from beq_eq_false_iff_ne.mpr e]; rfl⟩
def rTix (K : PySem.W.Frag) : L2.V → List L2.V → L2.Hp → VK → Prop := fun x xs H Q => ∃ a ns i k, x = .ref a ∧ xs = [.int i] ∧ SqT K H a (ns.map L2.V.int) ∧ ixI i ns = some k ∧ Q (.int (k : Nat)) H
theorem mt_tix : MtR X "tuple.index" (rTix X.K) := by
  intro pins s σ H x xs v us Q I rx rs ⟨a, ns, i, k, e1, e2, hq, hk, q⟩
  subst e1 e2
  cases rx
  obtain ⟨u, rfl, t, rfl⟩ := vals1 rs
  obtain ⟨its, r, pl, _⟩ := I.tuple hq
  obtain ⟨m, em⟩ := ixI_idx hk
  refine PySem.SeqAt.tuple_index_ints (show s.heap.IsTuple a its.toArray from pl) (ns := ns) (by simpa using intsAre_of r) m ?_
  rw [em]
  exact ⟨.int (k : Nat), H, I.tok _, ⟨_, rfl⟩, q⟩
end
section
variable {X : Cx} {w : Wo} {F : Phi} {W : WX} {t1 t2 : T}
theorem se_ixt {e oe : Expr} {name : Str} {apos cpos : Pos} (hK : X.K = w.K) (hn : name = "index") (ho : SE X w F W oe t1) (hb : plainBase oe = true) (hl : (apos.endLine == cpos.line) = true) (he : SE X w F W e t2) (hs : ∀ x p, e ≠ .Starred x p) :
    SE X w F W (.Call (.Attribute oe name apos) [e] [] cpos) (.ixof true t1 t2) := by
  subst hn
  refine pe_imp (pe_mG ty_tup PySem.F.plainAttrs_tuple PySem.F.slot_tuple_index PySem.F.type_tuple_index mt_tix ho (pa_cons he pa_nil (nostar hs)) (base_eq hb) (few_ok (by intro y hy; simp at hy; subst hy; exact hs) (by show 1 < 30; decide)) hl (nostar hs) rfl) fun s H Q h => ?_
  obtain ⟨f, r, G, env, h, P, Xp, S, E, wp, q, qx⟩ := h
  refine ⟨f, r, G, env, h, _, Xp, S, E, wp, fun v h1 u r1 G1 H1 w1 e1 S1 rv => ?_, qx⟩
  cases v with
  | d d =>
    cases d with
    | tuple ds =>
      obtain ⟨a, us, rfl, hq, tt⟩ := rv
      refine ⟨⟨a, us, rfl, hq.mono S1.sub⟩, f, r1, G1, env, h1, _, Xp, S1, E.mono e1, w1, fun y h2 u2 r2 G2 H2 w2 e2 S2 rv2 => ?_, qx.mono e1⟩
      have w2 : optP (rdV h2 y) fun z => optP (asInts ds) fun ns => intP z fun i => optP (ixI i ns) fun k => P (.d (.int k)) h2 := w2
      obtain ⟨z, ez, w2⟩ := optP_of w2
      obtain ⟨ns, en, w2⟩ := optP_of w2
      obtain ⟨i, rfl, w2⟩ := intP_of w2
      obtain ⟨k, ek, w2⟩ := optP_of w2
      have := lst_ints tt en
      subst this
      have rz : u2 = .int i := S2.read rv2 ez
      subst rz
      exact ⟨a, ns, i, k, rfl, rfl, by rw [hK]; exact tqT_mono (e2.sub.trans S2.sub) hq, ek, q _ h2 _ r2 G2 H2 w2 (e1.trans e2) S2 rfl⟩
    | _ => exact w1.elim
  | _ => exact w1.elim
end
end Hb

/-! SLC: x[i:j] = v; t1 = t2 = v. -/
namespace Hb
open PySem PySem.Spec PyProof.Rows
open L2 hiding V Hp St
set_option autoImplicit false
theorem rpAll_take {K : PySem.W.Frag} {G : L2.Hp} : ∀ {ds : List D} {us : List L2.V}, RpAll K G ds us → ∀ k, RpAll K G (ds.take k) (us.take k)
  | _, _, _, 0 => rfl
  | [], us, h, k + 1 => by have h : us = [] := h; subst h; rfl
  | d :: ds, us, h, k + 1 => by obtain ⟨v, vs, rfl, r, t⟩ := h; exact ⟨v, vs.take k, rfl, r, rpAll_take t k⟩
theorem rpAll_drop {K : PySem.W.Frag} {G : L2.Hp} : ∀ {ds : List D} {us : List L2.V}, RpAll K G ds us → ∀ k, RpAll K G (ds.drop k) (us.drop k)
  | _, _, h, 0 => h
  | [], us, h, k + 1 => by have h : us = [] := h; subst h; rfl
  | d :: ds, us, h, k + 1 => by obtain ⟨v, vs, rfl, r, t⟩ := h; exact rpAll_drop t k
section
variable {X : Cx} {o a b : Expr} {to ta tb : TE} {p2 pos : Pos}
/-- what x[i:j] = v does, by values -/
def gTsl (K : PySem.W.Frag) (to ta tb : TE) : TG := fun v σ H Q => to σ H fun x H1 => ta σ H1 fun i H2 => tb σ H2 fun j H3 => ∃ (l c : Addr) (xs ys : List L2.V) (ii jj : Int), x = .ref l ∧ i = .int ii ∧ j = .int jj ∧ v = .ref c ∧ H3 l = some (.lst xs) ∧ LqL K H3 c ys ∧
  (l ≠ c ∨ ∃ o, K.lookup c = some o) ∧ 0 ≤ ii ∧ ii ≤ jj ∧ jj ≤ xs.length ∧ xs.length + ys.length ≤ sizeLine ∧ Q σ (upd H3 l (.lst (xs.take ii.toNat ++ ys ++ xs.drop jj.toNat)))
theorem pg_tsl (ho : PE X o to) (ha : PE X a ta) (hb : PE X b tb) : PG X (.Subscript o (.Slice (some a) (some b) none p2) pos) (gTsl X.K to ta tb) := by
  refine ⟨fun pins s σ H v u Q I r h => ?_⟩
  show wpAny _ _ (do
      let ov ← holding [u] (eval o X.env)
      let iv ← holding [u, ov] (eval (.Slice (some a) (some b) none p2) X.env)
      standAt pos
      holding [u, ov, iv] (setItem ov iv u)
      release [iv, u, ov] []) _ _ _
  refine wpAny_bind (wpAny_holding (thn (ho.run pins s σ H _ I h) fun ov s1 ⟨x, H1, I1, r1, q1⟩ => ?_))
  refine wpAny_bind (wpAny_holding (wpAny_Slice ?_))
  rw [evalPart_some, evalPart_some, evalPart_none]
  refine thn (ha.run pins s1 σ H1 _ I1 q1) fun vl s2 ⟨y, H2, I2, r2, q2⟩ => ?_
  refine thn (hb.run pins s2 σ H2 _ I2 q2) fun vu s3 ⟨z, H3, I3, r3, q3⟩ => ?_
  refine wpAny_pure ?_
  obtain ⟨l, c, xs, ys, ii, jj, rfl, rfl, rfl, rfl, hl, hc, hne, h0, h1, h2, hz, q⟩ := q3
  obtain rfl : ov = Value.ref l := r1
  obtain rfl : u = Value.ref c := r
  obtain ⟨tl, rfl⟩ := r2
  obtain ⟨tu, rfl⟩ := r3
  obtain ⟨a', rfl⟩ := Int.eq_ofNat_of_zero_le h0
  obtain ⟨c', rfl⟩ := Int.eq_ofNat_of_zero_le (Int.le_trans h0 h1)
  have I4 : Inv X pins σ H3 { s3 with heap := s3.heap.push { cls := .type "slice", data := .fields #[.int a' tl, .int c' tu, .none] } } := I3.kept (t' := s3.toks) fun b ob q => Heap.get?_push_of_some _ q
  have ne : l ≠ c := by
    rcases hne with hc | ⟨ob, hk⟩
    · exact hc
    · intro z
      subst z
      have := (I3.bs l _ (I3.ok.mod.kin l _ hk)).2
      rw [hl] at this
      cases this
  obtain ⟨zl, its, n, rl, hln, e⟩ := I4.lstM hl
  obtain ⟨its2, n2, rc, e2, z2⟩ := inv_lq I4 hc
  have hlen := rl.length
  have hlen2 := rc.length
  refine wpAny_bind (wpAny_standAt (wpAny_bind (wpAny_holding ?_)))
  refine setItem_slice (a := a') (c := c') e e2 ne (Heap.IsSliceOf.new ..) (.int _ _) (.int _ _) (by omega) (by rw [List.size_toArray]; omega) (by rw [List.size_toArray, List.size_toArray]; omega) ?_
  refine wpAny_release ?_
  refine ⟨σ, _, I4.lset (its' := its.take a' ++ its2 ++ its.drop c') (t' := s3.toks) hl e ?_ (Vals.append (Vals.append (rl.take _) rc) (rl.drop _)) ?_, q⟩
  · exact splice_eq its its2 a' c'
  · rw [List.length_append, List.length_append, List.length_take, List.length_drop]
    omega
variable {w : Wo} {F : Phi} {e1 e2 e3 : Expr} {t1 t2 t3 : T}
theorem sg_tsl (hK : X.K = w.K) (ho : SE X w F (fun _ _ _ _ => False) e1 t1) (hi : SE X w F (fun _ _ _ _ => False) e2 t2) (hj : SE X w F (fun _ _ _ _ => False) e3 t3) : SG X w F (.Subscript e1 (.Slice (some e2) (some e3) none p2) pos) (.tsl t1 t2 t3) :=
  pg_imp (pg_tsl ho hi hj) fun u s H Q h => by
    obtain ⟨f, r, G, env, h, v, P, S, E, rv, wp, q⟩ := h
    refine ⟨f, r, G, env, h, _, _, S, E, wp, fun v1 h1 u1 r1 G1 H1 w1 e1 S1 rv1 => ?_, XOk.never⟩
    refine ⟨f, r1, G1, env, h1, _, _, S1, E.mono e1, w1, fun v2 h2 u2 r2 G2 H2 w2 e2 S2 rv2 => ?_, XOk.never⟩
    refine ⟨f, r2, G2, env, h2, _, _, S2, (E.mono e1).mono e2, w2, fun v3 h3 u3 r3 G3 H3 w3 e3 S3 rv3 => ?_, XOk.never⟩
    unfold setSl at w3
    cases v1 with
    | cell n =>
      have rv1' := Rv.mono (e2.trans e3) _ _ rv1
      obtain ⟨l, en, rfl⟩ := rv1'
      cases eo : h3[n]? with
      | none => simp only [eo] at w3
      | some ob =>
        have obr := S3.ob n l ob en eo
        cases ob with
        | lst xs =>
          simp only [eo] at w3
          cases v2 with
          | d d2 => cases d2 with
            | int i => cases v3 with
              | d d3 => cases d3 with
                | int j => cases v with
                  | d d4 => cases d4 with
                    | list ys =>
                      obtain ⟨⟨i0, ij, jl, bl⟩, w4⟩ := w3
                      obtain ⟨gn, us, ha, t⟩ := obr
                      have rvv := Rv.mono (e1.trans (e2.trans e3)) _ _ rv
                      obtain ⟨c, uy, rfl, hc, ty⟩ := rvv
                      have lx := rpAll_len t
                      have ly := rpAll_len ty
                      refine ⟨l, c, us, uy, i, j, rfl, Rv.mono e3 _ _ rv2, rv3, rfl, ha, by rw [hK]; exact lqL_mono S3.sub hc, ?_, i0, ij, by omega, by rw [big_eq]; omega, ?_⟩
                      · rcases hc with (hc | ⟨ob, hc⟩) | ⟨its, nn, hk, _, _⟩
                        · exact .inl fun z => by subst z; rw [gn] at hc; cases hc
                        · exact .inl fun z => by subst z; rw [gn] at hc; cases hc
                        · exact .inr ⟨_, by rw [hK]; exact hk⟩
                      · have S4 := S3.put (x := .lst (us.take i.toNat ++ uy ++ us.drop j.toNat)) (o' := .lst (xs.take i.toNat ++ ys ++ xs.drop j.toNat)) en eo (fun z => nomatch z) ⟨gn, _, upd_same, rpAll_append (rpAll_append (rpAll_take t _) ty) (rpAll_drop t _)⟩
                        exact q env _ s r3 G3 _ w4 ((e1.trans e2).trans e3) S4 (((E.mono e1).mono e2).mono e3)
                    | _ => exact w3.elim
                  | _ => exact w3.elim
                | _ => exact w3.elim
              | _ => exact w3.elim
            | _ => exact w3.elim
          | _ => exact w3.elim
        | _ => simp only [eo] at w3
    | _ => exact w3.elim
end
end Hb

/-! RPR: repr of data, where no object's repr is under way. -/
namespace Hb
open PySem PySem.Spec PyProof.Rows
open L2 hiding V Hp St
set_option autoImplicit false
section
variable {X : Cx} {pins : List (Addr × Obj)} {σ : Sg} {H : L2.Hp} {s : Shared}
/-- the empty dict is read -/
theorem reads_dct0 (I : Inv X pins σ H s) {G : L2.Hp} {a : Addr} {t : Bool} (h : DcA G H t a [] []) : Reads s.heap (.ref a) (.dict []) [a] ∧ sysModules ≠ a := by
  cases t with
  | false =>
    obtain ⟨kus, e, z, _⟩ := h
    have : kus = [] := by cases kus with | nil => rfl | cons _ _ => cases z
    subst this
    obtain ⟨_, hs, vs, kv, o, es, ep, g, ex, hd, ko, pr, _⟩ := I.hok a _ e
    cases kv
    have e0 : es.toList = [] := by cases hx : es.toList with | nil => rfl | cons _ _ => rw [hx] at pr; cases pr
    refine ⟨?_, fun z => by subst z; simp at hs⟩
    refine Reads.dict (as := []) (bs := []) g ex.1 hd ?_ ?_
    · rw [e0]; exact .nil
    · rw [e0]; exact .nil
  | true =>
    obtain ⟨kus, e, z, _⟩ := h
    have : kus = [] := by cases kus with | nil => rfl | cons _ _ => cases z
    subst this
    obtain ⟨⟨hs, _, _, _, xs, pr, o, es, ep, g, ex, hd, he, hn⟩, _⟩ := I.hok a _ e
    cases pr
    refine ⟨?_, fun z => by subst z; simp at hs⟩
    refine Reads.dict (as := []) (bs := []) g ex.1 hd ?_ ?_
    · rw [he]; exact .nil
    · rw [he]; exact .nil
/-- repr(x) -/
theorem k_repr (hu : X.A.units + 210 < cLine) (hg : X.A.guards = some []) : CallR X (.builtin "repr") (rC1 (rD1 X.K (op1 .repr))) := c1_of fun pins s σ H x v Q I rx ⟨G, d, P, sb, r, wp, q1, q2⟩ => by
  obtain ⟨⟨ok, hs, hd, hz⟩, wp⟩ := wp
  have hz' : (PyData.shown d).length ≤ sizeLine := by rw [big_eq]; exact hz
  have deep : ∀ {a : Addr} {as : List Addr}, v = .ref a → Reads s.heap (.ref a) d as → (PyData.hasDict d = true → sysModules ∉ as) → wpAny (model X.prog X.w) X.A (call (.builtin "repr") [v]) (EP X pins σ Q) X.xe s := fun {a as} e rd hm => by
    subst e
    exact PySem.repr_of_reads' rd hs hm hg (by omega) (fun _ _ e => e) (fun h' u tk k => ⟨.str _, H, I.kept k, ⟨_, rfl⟩, q1 _ _ wp rfl⟩) hz'
  rcases ok with rfl | ok
  · obtain ⟨a, t, us, rfl, h1, h2⟩ := r
    have h2 : us = [] := h2
    subst h2
    obtain ⟨rd, ne⟩ := reads_dct0 I h1
    exact deep rx rd fun _ hm => ne (List.mem_singleton.mp hm)
  · have nod := PyData.hasDict_of_canLay d ok
    have dp : Dp X.K H x d := by
      cases d with
      | list ds => obtain ⟨a, xs, rfl, q, t⟩ := r; exact .lst q.sq (RpAll.dp ds xs (RpAll.mono sb _ _ t) ok)
      | dict ds => cases ok
      | _ => exact Rp.dp _ _ (Rp.mono sb _ _ r) ok
    obtain ⟨as, rd⟩ := Dp.reads I d x v dp rx
    cases d with
    | none =>
      cases rd
      exact PySem.P.repr_of_none ⟨.str _, H, I.tok _, ⟨_, rfl⟩, q1 _ _ wp rfl⟩
    | bool b =>
      cases rd
      exact PySem.P.repr_of_bool ⟨.str _, H, I.tok _, ⟨_, by cases b <;> rfl⟩, q1 _ _ wp rfl⟩
    | int i =>
      cases rd
      exact PySem.P.repr_of_int (of_decide_eq_true hs) ⟨.str _, H, I.tok _, ⟨_, rfl⟩, q1 _ _ wp rfl⟩
    | str z =>
      cases rd
      exact PySem.P.repr_of_str ⟨.str _, H, I.tok _, ⟨_, rfl⟩, q1 _ _ wp rfl⟩ hz'
    | list ds => cases rd with | list g c dd al => exact deep rfl (.list g c dd al) (PyData.noDict_hsm nod)
    | tuple ds => cases rd with | tuple g c dd al => exact deep rfl (.tuple g c dd al) (PyData.noDict_hsm nod)
    | dict ds => cases ok
end
end Hb

/-! DC2: {k: v for t0 in i0 for t1 in i1}. -/
namespace Hb
open PySem PySem.Spec PyProof.Rows
open L2 hiding V Hp St
set_option autoImplicit false
/-- such an expression -/
abbrev dcE (kx vx t0 i0 t1 i1 : Expr) (scope : Scope) (pos : Pos) : Expr := .DictComp kx vx [⟨t0, i0, [], 0⟩, ⟨t1, i1, [], 0⟩] scope pos
theorem turnD_out (kx vx t0 i0 t1 i1 : Expr) (scope : Scope) (pos : Pos) (it acc : Value) (env : PySem.Env) : compTurn (dcE kx vx t0 i0 t1 i1 scope pos) 0 it acc env = (do
    standAt i0.pos
    match ← pyNext it with
    | none => pure (.done .next)
    | some v =>
      letOwnedTupleGo t0 it v
      assign t0 env v
      let mut ok := true
      for c in ([] : List Expr) do
        if ok then ok ← isTrue c env (eval c env)
      if ok then
        let x ← eval i1 env
        standAt i1.pos
        let x ← foldedSetIterable i1 env x
        let _ ← runOwn (.compStart (dcE kx vx t0 i0 t1 i1 scope pos) 1 (← holding [x] (pyIter x)) acc env) env
      again (.compLoop (dcE kx vx t0 i0 t1 i1 scope pos) 0 it acc env)) := by rfl
theorem turnD_in (kx vx t0 i0 t1 i1 : Expr) (scope : Scope) (pos : Pos) (it : Value) (D : Addr) (env : PySem.Env) : compTurn (dcE kx vx t0 i0 t1 i1 scope pos) 1 it (.ref D) env = (do
    standAt i1.pos
    match ← pyNext it with
    | none => pure (.done .next)
    | some v =>
      letOwnedTupleGo t1 it v
      assign t1 env v
      let mut ok := true
      for c in ([] : List Expr) do
        if ok then ok ← isTrue c env (eval c env)
      if ok then
        (do
          let kv ← eval kx env
          let vv ← holding [kv] (eval vx env)
          standAt { kx.pos with endLine := vx.pos.endLine, endCol := vx.pos.endCol }
          holding [kv, vv] (dictSet D kv vv))
      again (.compLoop (dcE kx vx t0 i0 t1 i1 scope pos) 1 it (.ref D) env)) := by rfl
section
variable {prog : Program} {ww : World} {A : Around} {R : Result → Shared → Prop} {s : Shared} {kx vx t0 i0 t1 i1 : Expr} {scope : Scope} {pos : Pos} {it acc : Value} {D : Addr} {env : PySem.Env}
/-- the outer loop, turn by turn -/
theorem loopD_out (hs : ∀ x, foldedSetIterable i1 env x = pure x) (I : Nat → Shared → Prop)
    (turn : ∀ n s, I n s → wpAny (model prog ww) A (pyNext it) (fun r s1 => match r with
      | none => R (.ok .next) s1
      | some v => wpAny (model prog ww) A (letOwnedTupleGo t0 it v) (fun _ s2 => wpAny (model prog ww) A (assign t0 env v) (fun _ s3 =>
          wpAny (model prog ww) A (eval i1 env) (fun x s4 => wpAny (model prog ww) A (pyIter x) (fun it1 s5 =>
            codeAny (model prog ww) A (.compStart (dcE kx vx t0 i0 t1 i1 scope pos) 1 it1 acc env) (fun r s' => match r with
              | .ok _ => ∃ m, m < n ∧ I m s'
              | .error _ => False) s5) (notedBy (model prog ww) A env fun e s' => R (.error e) s') s4)
          (notedBy (model prog ww) A env fun e s' => R (.error e) s') s3) (notedBy (model prog ww) A env fun e s' => R (.error e) s') s2) (notedBy (model prog ww) A env fun e s' => R (.error e) s') s1) (notedBy (model prog ww) A env fun e s' => R (.error e) s') s)
    (n : Nat) (h : I n s) : codeAny (model prog ww) A (.compLoop (dcE kx vx t0 i0 t1 i1 scope pos) 0 it acc env) R s := by
  refine codeAny_loop rfl I (fun n s hI => ?_) n h
  show wpAny _ A ((compTurn (dcE kx vx t0 i0 t1 i1 scope pos) 0 it acc env).onRaise (fun x => do noteFrame x env; theTreesLotGoes x)) _ _ s
  refine wpAny_noted ?_
  rw [turnD_out]
  refine wpAny_bind (wpAny_standAt (wpAny_bind (wpAny_mono (turn n s hI) (fun r s1 h1 => ?_) fun _ _ z => z)))
  cases r with
  | none => exact wpAny_pure h1
  | some v =>
    refine wpAny_bind (wpAny_mono h1 (fun _ s2 h2 => wpAny_bind (wpAny_mono h2 (fun _ s3 h3 => ?_) fun _ _ z => z)) fun _ _ z => z)
    refine wpAny_bind (wpAny_pure ?_)
    refine wpAny_bind (wpAny_mono h3 (fun x s4 h4 => ?_) fun _ _ z => z)
    refine wpAny_bind (wpAny_standAt (wpAny_bind (wpAny_of_eq (hs x) (wpAny_bind (wpAny_holding (wpAny_mono h4 (fun it1 s5 h5 => ?_) fun _ _ z => z))))))
    refine wpAny_bind (wpAny_runOwn ?_)
    rw [Around.mark_none]
    refine codeAny_mono h5 fun r s' hr => ?_
    cases r with
    | ok f => first | exact wpAny_pure ⟨rfl, hr⟩ | exact wpAny_bind (wpAny_pure (wpAny_pure ⟨rfl, hr⟩))
    | error e => exact hr.elim
/-- the inner loop -/
theorem loopD_in (I : Nat → Shared → Prop)
    (turn : ∀ n s, I n s → wpAny (model prog ww) A (pyNext it) (fun r s1 => match r with
      | none => R (.ok .next) s1
      | some v => wpAny (model prog ww) A (letOwnedTupleGo t1 it v) (fun _ s2 => wpAny (model prog ww) A (assign t1 env v) (fun _ s3 =>
          wpAny (model prog ww) A (eval kx env) (fun kv s4 => wpAny (model prog ww) A (eval vx env) (fun vv s5 =>
            wpAny (model prog ww) A (dictSet D kv vv) (fun _ s6 => ∃ m, m < n ∧ I m s6) (notedBy (model prog ww) A env fun e s' => R (.error e) s') s5) (notedBy (model prog ww) A env fun e s' => R (.error e) s') s4)
          (notedBy (model prog ww) A env fun e s' => R (.error e) s') s3) (notedBy (model prog ww) A env fun e s' => R (.error e) s') s2) (notedBy (model prog ww) A env fun e s' => R (.error e) s') s1) (notedBy (model prog ww) A env fun e s' => R (.error e) s') s)
    (n : Nat) (h : I n s) : codeAny (model prog ww) A (.compLoop (dcE kx vx t0 i0 t1 i1 scope pos) 1 it (.ref D) env) R s := by
  refine codeAny_loop rfl I (fun n s hI => ?_) n h
  show wpAny _ A ((compTurn (dcE kx vx t0 i0 t1 i1 scope pos) 1 it (.ref D) env).onRaise (fun x => do noteFrame x env; theTreesLotGoes x)) _ _ s
  refine wpAny_noted ?_
  rw [turnD_in]
  refine wpAny_bind (wpAny_standAt (wpAny_bind (wpAny_mono (turn n s hI) (fun r s1 h1 => ?_) fun _ _ z => z)))
  cases r with
  | none => exact wpAny_pure h1
  | some v =>
    refine wpAny_bind (wpAny_mono h1 (fun _ s2 h2 => wpAny_bind (wpAny_mono h2 (fun _ s3 h3 => ?_) fun _ _ z => z)) fun _ _ z => z)
    refine wpAny_bind (wpAny_pure ?_)
    exact wpAny_bind (wpAny_bind (wpAny_mono h3 (fun kv s4 h4 => wpAny_bind (wpAny_holding (wpAny_mono h4 (fun vv s5 h5 => wpAny_bind (wpAny_standAt (wpAny_holding (wpAny_mono h5 (fun _ s6 h6 => wpAny_pure ⟨rfl, h6⟩) fun _ _ z => z)))) fun _ _ z => z))) fun _ _ z => z))
/-- the inner loop's start -/
theorem startD_in (h0 : codeAny (model prog ww) A (.compLoop (dcE kx vx t0 i0 t1 i1 scope pos) 1 it acc env) R s)
    (h : wpAny (model prog ww) A (pyIter it) (fun it' s' => codeAny (model prog ww) A (.compLoop (dcE kx vx t0 i0 t1 i1 scope pos) 1 it' acc env) R s') (notedBy (model prog ww) A env fun x s' => R (.error x) s') s) :
    codeAny (model prog ww) A (.compStart (dcE kx vx t0 i0 t1 i1 scope pos) 1 it acc env) R s := by
  refine codeAny_of_tree ?_
  show wpAny _ _ ((compStart (dcE kx vx t0 i0 t1 i1 scope pos) 1 it acc env).onRaise (fun x => do noteFrame x env; standAt theWindowsPlace)) _ _ s
  refine wpAny_notedAt ?_
  unfold compStart
  show wpAny _ _ (ask >>= _) _ _ s
  refine wpAny_bind (wpAny_askSetting (wpAny_ite ?_))
  split
  · first
      | exact wpAny_bind (wpAny_pure (wpAny_pure (And.intro rfl h0)))
      | exact wpAny_pure (And.intro rfl h0)
  · first
      | exact wpAny_bind (wpAny_rule (wpAny_bind (wpAny_standAt (wpAny_bind (wpAny_mono h (fun it' s' h' => wpAny_pure (And.intro rfl h')) fun _ _ x => x)))))
      | (refine wpAny_bind (wpAny_rule ?_); show wpAny _ _ (standAt i1.pos >>= _) _ _ s; exact wpAny_bind (wpAny_standAt (wpAny_bind (wpAny_mono h (fun it' s' h' => wpAny_pure (And.intro rfl h')) fun _ _ x => x))))
end
section
variable {X : Cx}
/-- what is wished of {k: v for t0 in i0 for t1 in i1}, keys whole numbers or texts: D the new dict; W, W1 the loops' states, Nx, Nx1 behind a turn -/
def tDc2 (wi : TI) (g : TG) (wi1 : TI) (g1 : TG) (tk tv : TE) (vs vs1 : List Nat) : TE := fun σ H Q => wi σ H fun J H1 => ∀ D, H1 D = none → ∃ W : Nat → Nat → L2.Hp → Prop, (∃ m, W 0 m (upd H1 D (.dK []))) ∧ ∀ i m H, W i m H →
  (J.stop i H ∧ Q (.ref D) H) ∨ (J.go i H ∧ ∃ Nx : L2.Hp → Prop, (∀ H', Nx H' → ∃ m', m' < m ∧ W (i + 1) m' H') ∧ ∀ x H', J.yld i H x H' → g x (wipe σ vs) H' fun σ2 H2 => wipe σ2 vs = wipe σ vs ∧
    wi1 σ2 H2 fun J1 H4 => ∃ W1 : Nat → Nat → L2.Hp → Prop, (∃ m, W1 0 m H4) ∧ ∀ j k H, W1 j k H →
      (J1.stop j H ∧ Nx H) ∨ (J1.go j H ∧ ∃ Nx1 : L2.Hp → Prop, (∀ H', Nx1 H' → ∃ k', k' < k ∧ W1 (j + 1) k' H') ∧ ∀ x H', J1.yld j H x H' → g1 x (wipe σ2 vs1) H' fun σ3 H5 => wipe σ3 vs1 = wipe σ2 vs1 ∧
        tk σ3 H5 fun y H6 => tv σ3 H6 fun z H7 => ∃ kvs k, y = kV k ∧ H7 D = some (.dK kvs) ∧ kvs.length < sizeLine ∧ Nx1 (upd H7 D (.dK (putK kvs k z)))))
/-- a turn's end: what was pinned stands, the block's names are let go -/
theorem turn_end {fp : List Addr} {pins : List (Addr × Obj)} {σ0 σ9 : Sg} {H' : L2.Hp} {s7 s' : Shared}
    (I' : Inv X (pins ++ pinsAt fp s7.heap) σ9 H' s') (hl : σ0.length = σ9.length) (hk : ∀ (j : Nat) v, σ0[j]? = some (some v) → σ9[j]? = some (some v)) (hobj : ∀ b ∈ fp, ∃ o, s7.heap.get? b = some o) :
    Inv X pins σ0 H' s' ∧ (∀ b ∈ fp, ∀ o, s7.heap.get? b = some o → s'.heap.get? b = some o) ∧ ∀ b ∈ fp, H' b = none := by
  have pin' : ∀ b ∈ fp, ∀ o, s7.heap.get? b = some o → s'.heap.get? b = some o ∧ H' b = none := fun b hb o e =>
    let z := I'.pin (b, o) (List.mem_append_right _ (List.mem_append_right _ (mem_pinsAt hb e)))
    ⟨z.1, z.2.1⟩
  refine ⟨(I'.unpinned (pins := pins)).weak hl hk, fun b hb o e => (pin' b hb o e).1, fun b hb => ?_⟩
  obtain ⟨o, e⟩ := hobj b hb
  exact (pin' b hb o e).2
theorem dc2_core {pins : List (Addr × Obj)} {s : Shared} {σ : Sg} {H : L2.Hp} {Q : VK} {kx vx t0 i0 t1 i1 : Expr} {scope : Scope} {own : List (Str × Nat)} {vs1 : List Nat} {pos pos' : Pos} {wi wi1 : TI} {g g1 : TG} {tk tv : TE} {use : Option (Value → Sem Unit)} {Qf : Value → Shared → Prop}
    (hc : X.calm = true) (hN : X.N.Nodup) (I : Inv X pins σ H s) (hi : PI X t0 i0 wi) (ok : BlkOk X.N X.env.scope scope own) (hv : ∀ i ∈ vs1, i ∈ own.map (·.2))
    (hg : ∀ (s : Shared) (H : L2.Hp) (C : Addr) (cl : List (Str × Addr)) (fp : List Addr), PG (X.blk s H scope (compEnvC scope cl C X.env) fp) t0 g)
    (hi1 : ∀ (s : Shared) (H : L2.Hp) (C : Addr) (cl : List (Str × Addr)) (fp : List Addr), PI (X.blk s H scope (compEnvC scope cl C X.env) fp) t1 i1 wi1)
    (hg1 : ∀ (s : Shared) (H : L2.Hp) (C : Addr) (cl : List (Str × Addr)) (fp : List Addr), PG (X.blk s H scope (compEnvC scope cl C X.env) fp) t1 g1)
    (hk : ∀ (s : Shared) (H : L2.Hp) (C : Addr) (cl : List (Str × Addr)) (fp : List Addr), PE (X.blk s H scope (compEnvC scope cl C X.env) fp) kx tk)
    (he : ∀ (s : Shared) (H : L2.Hp) (C : Addr) (cl : List (Str × Addr)) (fp : List Addr), PE (X.blk s H scope (compEnvC scope cl C X.env) fp) vx tv) (hs : ∀ x, foldedSetIterable i0 X.env x = pure x) (hs1 : ∀ env x, foldedSetIterable i1 env x = pure x)
    (h : tDc2 wi g wi1 g1 tk tv (own.map (·.2)) vs1 σ H Q)
    (hRR : ∀ D C s' m H', Inv X pins σ H' s' → Q (.ref D) H' → s'.heap.Ns C m → FpOk X pins H' C → compPost (model X.prog X.w) X.A X.xe use Qf (.ref D) C (.ok .next) s') :
    wpAny (model X.prog X.w) X.A (comprehension (dcE kx vx t0 i0 t1 i1 scope pos) scope X.env pos' newDict false (eval i0 X.env) use) Qf X.xe s := by
  have hfree : ∀ y ∈ scope.names, y.2 = .free → ∃ c, X.env.cells.lookup y.1 = some c := fun y hy e => by
    rcases ok.free y hy e with k | k
    · exact I.ok.has _ (.inl k)
    · exact I.ok.has _ (.inr k)
  refine wpAny_comprehension_free (use := use) rfl hs (closure_ok hfree) ok.kind (fun y hy e => by rw [ok.uniq y hy, e]) (thn (hi.run pins s σ H _ I h) fun xv s1 hx => thn hx fun itv s2 h2 => ?_)
  obtain ⟨it, fp, tn, J, H2, e, I2, T, st2, f2, q⟩ := h2
  subst e
  refine wpAny_newObj_type (newEnv_comp ?_)
  generalize hD : s2.heap.objs.size = D
  have hDn : H2 D = none := I2.hok.fresh (Nat.le_of_eq hD)
  obtain ⟨W, ⟨m0, w0⟩, turn⟩ := q D hDn
  -- the new dict, and the block's own environment
  generalize hs3 : ({ s2 with heap := s2.heap.push { cls := .type "dict", data := .dict #[] } } : Shared) = s3
  have h3 : s3.heap = s2.heap.push { cls := .type "dict", data := .dict #[] } := by rw [← hs3]
  have I3 : Inv X pins σ (upd H2 D (.dK [])) s3 := by
    rw [← hs3]
    refine I2.laid (t' := s2.toks) (fun b o e => Heap.get?_push_of_some _ e) (Nat.le_of_eq hD) ?_
    rw [← hD]
    exact dk_empty s2.heap I2.big
  have f3 : ∀ b ∈ fp, FpOk X pins (upd H2 D (.dK [])) b ∧ b < s3.heap.objs.size := fun b hb => by
    obtain ⟨o, e, _⟩ := T.obj _ _ st2 b hb
    have hlt := Heap.lt_size e
    refine ⟨⟨?_, (f2 b hb).2⟩, by rw [h3, Heap.size_push]; exact Nat.lt_succ_of_lt hlt⟩
    rw [upd_ne (by rw [← hD]; exact Nat.ne_of_lt hlt)]
    exact (f2 b hb).1
  have st3 : tn 0 s3.heap := T.keep _ _ _ st2 fun b _ o e => by rw [h3]; exact Heap.get?_push_of_some _ e
  have I4 := block_start I3 ok hN f3
  have all := fun {P : Cx → Prop} (z : ∀ (s : Shared) (H : L2.Hp) (C : Addr) (cl : List (Str × Addr)) (fp : List Addr), P (X.blk s H scope (compEnvC scope cl C X.env) fp)) => z s3 (upd H2 D (.dK [])) s3.heap.objs.size (cellsFrom (s3.heap.objs.size + 1) scope.names (cloFrom X.env.cells scope.names [])) fp
  have pg := all (P := fun Y => PG Y t0 g) hg
  have pi1 := all (P := fun Y => PI Y t1 i1 wi1) hi1
  have pg1 := all (P := fun Y => PG Y t1 g1) hg1
  have pk := all (P := fun Y => PE Y kx tk) hk
  have pe := all (P := fun Y => PE Y vx tv) he
  clear all
  show codeAny _ _ (.compStart (dcE kx vx t0 i0 t1 i1 scope pos) 0 (.ref it) (.ref D) (compEnvC scope (cellsFrom (s3.heap.objs.size + 1) scope.names (cloFrom X.env.cells scope.names [])) s3.heap.objs.size X.env)) _ { s3 with heap := pushCells (s3.heap.push { cls := .type "dict", data := .dict #[] }) scope.names }
  have nfp : ∀ b ∈ fp, (upd H2 D (.dK [])) b = none := fun b hb => (f3 b hb).1.1
  generalize hce : compEnvC scope (cellsFrom (s3.heap.objs.size + 1) scope.names (cloFrom X.env.cells scope.names [])) s3.heap.objs.size X.env = ce at I4 pg pi1 pg1 pk pe ⊢
  have cL : ce.locals = s3.heap.objs.size := by subst hce; rfl
  generalize hH3 : upd H2 D (.dK []) = H3 at I3 I4 pg pi1 pg1 pk pe w0 nfp f3
  generalize hs4 : ({ s3 with heap := pushCells (s3.heap.push { cls := .type "dict", data := .dict #[] }) scope.names } : Shared) = s4 at I4 ⊢
  have st4 : tn 0 s4.heap := T.keep _ _ _ st3 fun b _ o e => by rw [← hs4]; exact pushCells_keeps _ _ _ _ (Heap.get?_push_of_some _ e)
  -- the state of the outer loop
  let Io : Nat → Shared → Prop := fun n s' => ∃ i H', Inv (X.blk s3 H3 scope ce fp) [] (wipe σ (own.map (·.2))) H' s' ∧ tn i s'.heap ∧ (∀ b ∈ fp, H' b = none) ∧ W i n H'
  have stat : ∀ {σ' : Sg} {H' : L2.Hp} {s' : Shared}, Inv (X.blk s3 H3 scope ce fp) [] σ' H' s' → (∀ b ∈ fp, H' b = none) → ∀ b ∈ fp, FpOk (X.blk s3 H3 scope ce fp) [] H' b := fun I' hn b hb =>
    ⟨hn b hb, (I'.ok.exf b hb).1, I'.ok.exfs b hb, .inl hb, fun x c e => (I'.ok.exf b hb).2 x c e, fun p hp => absurd (show p ∈ ([] : List (Addr × Obj)) ++ [] from hp) (by simp)⟩
  refine codeAny_compStart_dict ?loop (T.self X.A 0 _ _ _ st4 ?loop)
  refine loopD_out (hs1 ce) Io ?_ m0 ⟨0, H3, I4, st4, nfp, w0⟩
  rintro n s5 ⟨i, H5, I5, st5, n5, w5⟩
  rcases turn i n H5 w5 with ⟨stop, qq⟩ | ⟨go, Nx, hNx, step⟩
  · -- the end: back in the def
    refine thnF (T.done (X.blk s3 H3 scope ce fp) rfl rfl rfl hc i [] s5 _ H5 (fun _ _ => False) I5 (stat I5 n5) st5 stop) fun r s6 ⟨hr, I6⟩ => ?_
    subst hr
    have I7 : Inv X pins σ H5 s6 := I3.call' (ch := fp) I6.os I6.base I6.hok I6.bare fun b hb => ⟨(f3 b hb).1.2.2.2.1, (f3 b hb).1.2.1, (f3 b hb).1.2.2.2.2.1, (f3 b hb).1.2.2.2.2.2⟩
    have nC : H5 s3.heap.objs.size = none := by
      have z : H5 ce.locals = none := I6.free
      rw [cL] at z
      exact z
    obtain ⟨m, hn, _⟩ := I6.loc
    have hn : s6.heap.Ns ce.locals m := hn
    rw [cL] at hn
    exact hRR D s3.heap.objs.size s6 m H5 I7 qq hn (I3.fpOk (Nat.le_refl _) nC)
  -- a turn of the outer loop
  refine thnF (T.item (X.blk s3 H3 scope ce fp) rfl rfl rfl hc i [] s5 _ H5 (fun _ _ => False) I5 (stat I5 n5) st5 go) fun r s6 ⟨u, hr, h6⟩ => ?_
  subst hr
  refine thnF h6 fun _ s7 ⟨x, H7, I7, r7, y7, st7, n7⟩ => ?_
  refine thnF (pg.run _ s7 _ H7 x u _ (I7.pinned (stat I7 n7) (T.obj _ _ st7)) r7 (step x H7 y7)) fun _ s8 ⟨σ8, H8, I8, hw8, q8⟩ => ?_
  have ob7 : ∀ b ∈ fp, ∃ o, s7.heap.get? b = some o := fun b hb => let ⟨o, e, _⟩ := T.obj _ _ st7 b hb; ⟨o, e⟩
  have len8 : (wipe σ (own.map (·.2))).length = σ8.length := by rw [← hw8, wipe_length]
  have known : ∀ (j : Nat) v, (wipe σ (own.map (·.2)))[j]? = some (some v) → (wipe σ8 vs1)[j]? = some (some v) := fun j v e => by
    rw [← hw8] at e
    obtain ⟨e1, e2⟩ := wipe_some e
    rw [wipe_out fun z => e2 (hv j z)]
    exact e1
  have outer_end : ∀ {s' : Shared} {H' : L2.Hp}, Inv (X.blk s3 H3 scope ce fp) ([] ++ pinsAt fp s7.heap) (wipe σ8 vs1) H' s' → Nx H' → ∃ m, m < n ∧ Io m s' := fun {s' H'} I' nx => by
    obtain ⟨m', hm, w'⟩ := hNx H' nx
    obtain ⟨J1, J2, J3⟩ := turn_end I' (len8.trans (wipe_length σ8 vs1).symm) known ob7
    exact ⟨m', hm, i + 1, H', J1, T.keep _ _ _ st7 J2, J3, w'⟩
  refine thnF (pi1.run _ s8 σ8 H8 _ I8 q8) fun xv s10 hx => thnF hx fun itv s11 h11 => ?_
  obtain ⟨it1, fp1, tn1, J1, H11, e1, I11, T1, st11, f11, W1, ⟨m1, w1⟩, turn1⟩ := h11
  subst e1
  have stat1 : ∀ {H' : L2.Hp}, (∀ b ∈ fp1, H' b = none) → ∀ b ∈ fp1, FpOk (X.blk s3 H3 scope ce fp) ([] ++ pinsAt fp s7.heap) H' b := fun hn b hb => ⟨hn b hb, (f11 b hb).2⟩
  have inner : codeAny (model X.prog X.w) X.A (.compLoop (dcE kx vx t0 i0 t1 i1 scope pos) 1 (.ref it1) (.ref D) ce) (fun r s' => match r with
      | .ok _ => ∃ m, m < n ∧ Io m s'
      | .error _ => False) s11 := by
    refine loopD_in (fun k s' => ∃ j H', Inv (X.blk s3 H3 scope ce fp) ([] ++ pinsAt fp s7.heap) (wipe σ8 vs1) H' s' ∧ tn1 j s'.heap ∧ (∀ b ∈ fp1, H' b = none) ∧ W1 j k H') ?_ m1 ⟨0, H11, I11.weak (wipe_length _ _) (fun j v e => (wipe_some e).1), st11, fun b hb => (f11 b hb).1, w1⟩
    rintro k s12 ⟨j, H12, I12, st12, n12, w12⟩
    rcases turn1 j k H12 w12 with ⟨stop1, nx1⟩ | ⟨go1, Nx1, hNx1, step1⟩
    · refine thnF (T1.done (X.blk s3 H3 scope ce fp) rfl rfl rfl hc j _ s12 (wipe σ8 vs1) H12 (fun _ _ => False) I12 (stat1 n12) st12 stop1) fun r s13 ⟨hr, I13⟩ => ?_
      subst hr
      exact outer_end I13 nx1
    · refine thnF (T1.item (X.blk s3 H3 scope ce fp) rfl rfl rfl hc j _ s12 (wipe σ8 vs1) H12 (fun _ _ => False) I12 (stat1 n12) st12 go1) fun r s13 ⟨u1, hr, h13⟩ => ?_
      subst hr
      refine thnF h13 fun _ s14 ⟨x1, H14, I14, r14, y14, st14, n14⟩ => ?_
      refine thnF (pg1.run _ s14 (wipe σ8 vs1) H14 x1 u1 _ (I14.pinned (stat1 n14) (T1.obj _ _ st14)) r14 (step1 x1 H14 y14)) fun _ s15 ⟨σ15, H15, I15, hw15, q15⟩ => ?_
      have ob14 : ∀ b ∈ fp1, ∃ o, s14.heap.get? b = some o := fun b hb => let ⟨o, e, _⟩ := T1.obj _ _ st14 b hb; ⟨o, e⟩
      refine thnF (pk.run _ s15 σ15 H15 _ I15 q15) fun z s16 ⟨yk, H16, I16, r16, q16⟩ => ?_
      refine thnF (pe.run _ s16 σ15 H16 _ I16 q16) fun z2 s17 ⟨yv, H17, I17, r17, kvs, kk, ek, hD17, hz17, nx⟩ => ?_
      subst ek
      refine d_dictSet (X := X.blk s3 H3 scope ce fp) I17 hD17 hz17 r16 r17 fun s18 I18 => ?_
      obtain ⟨k', hk', w'⟩ := hNx1 _ nx
      obtain ⟨K1, K2, K3⟩ := turn_end (σ0 := wipe σ8 vs1) I18 (by rw [← hw15, wipe_length]) (fun j v e => by rw [← hw15] at e; exact (wipe_some e).1) ob14
      exact ⟨k', hk', j + 1, _, K1, T1.keep _ _ _ st14 K2, K3, w'⟩
  exact startD_in inner (T1.self X.A 0 _ _ _ st11 inner)
/-- y = {k: v for t0 in i0 for t1 in i1} -/
theorem ps_setDc2 {i : Nat} {y : Str} {py : Pos} {kx vx t0 i0 t1 i1 : Expr} {scope : Scope} {own : List (Str × Nat)} {vs1 : List Nat} {pos spos : Pos} {wi wi1 : TI} {g g1 : TG} {tk tv : TE} (hc : X.calm = true) (hN : X.N.Nodup) (hy : X.N[i]? = some y) (hyl : X.env.scope.names.lookup y = some .local)
    (hsw : swapsWith (dcE kx vx t0 i0 t1 i1 scope pos) (some (.Name y py)) spos.line X.env = pure true) (hi : PI X t0 i0 wi) (ok : BlkOk X.N X.env.scope scope own) (hv : ∀ i ∈ vs1, i ∈ own.map (·.2))
    (hg : ∀ (s : Shared) (H : L2.Hp) (C : Addr) (cl : List (Str × Addr)) (fp : List Addr), PG (X.blk s H scope (compEnvC scope cl C X.env) fp) t0 g)
    (hi1 : ∀ (s : Shared) (H : L2.Hp) (C : Addr) (cl : List (Str × Addr)) (fp : List Addr), PI (X.blk s H scope (compEnvC scope cl C X.env) fp) t1 i1 wi1)
    (hg1 : ∀ (s : Shared) (H : L2.Hp) (C : Addr) (cl : List (Str × Addr)) (fp : List Addr), PG (X.blk s H scope (compEnvC scope cl C X.env) fp) t1 g1)
    (hk : ∀ (s : Shared) (H : L2.Hp) (C : Addr) (cl : List (Str × Addr)) (fp : List Addr), PE (X.blk s H scope (compEnvC scope cl C X.env) fp) kx tk)
    (he : ∀ (s : Shared) (H : L2.Hp) (C : Addr) (cl : List (Str × Addr)) (fp : List Addr), PE (X.blk s H scope (compEnvC scope cl C X.env) fp) vx tv) (hs : ∀ x, foldedSetIterable i0 X.env x = pure x) (hs1 : ∀ env x, foldedSetIterable i1 env x = pure x) :
    PS X (.Assign [.Name y py] (dcE kx vx t0 i0 t1 i1 scope pos) spos) (tAsg (tDc2 wi g wi1 g1 tk tv (own.map (·.2)) vs1) (gName i)) := by
  refine ⟨fun pins s σ H D I h => ?_⟩
  rw [exec_Assign_Name_used _ _ _ _ hsw]
  refine wpAny_bind (wpAny_standAt (wpAny_bind ?_))
  show wpAny _ X.A (do let _ ← comprehension (dcE kx vx t0 i0 t1 i1 scope pos) scope X.env (firstIterPos [⟨t0, i0, [], 0⟩, ⟨t1, i1, [], 0⟩] pos) newDict false (eval i0 X.env) (some (assign (.Name y py) X.env))) _ _ s
  have h : tDc2 wi g wi1 g1 tk tv (own.map (·.2)) vs1 σ H (fun x H1 => gName i x σ H1 D.nx) := h
  refine wpAny_bind (thn (dc2_core (Qf := fun _ s' => SP X pins D .next s') hc hN I hi ok hv hg hi1 hg1 hk he hs hs1 h fun L C s' m H' I' q hn f => ?_) fun _ s' hq => wpAny_pure (wpAny_pure hq))
  show wpAny _ _ (assign (.Name y py) X.env (.ref L)) _ _ _
  obtain ⟨f0, f1, f2, f3, f4, f5⟩ := f
  refine wpAny_assign_Name (store_ok2 (v := L2.V.ref L) I' hN hy (.inl hyl) rfl (fun s2 I2 ⟨a, sb, ha⟩ => ?_) (.inr hyl))
  have apart : C ≠ a := by
    rcases ha with z | z
    · rw [z]; exact f1
    · exact fun e => f4 y a z e.symm
  exact ⟨m, hn.sameBut sb apart, fun h3 sb3 => ⟨_, H', I2.turned (t' := s2.toks) (fun b o hb e => (sb3.2 b hb).trans e) f0 f1 f3 f4 f5, q⟩⟩
end
end Hb

/-! DPT: {j: True for i in a for j in i}, a a tuple of tuples of whole numbers. -/
namespace Hb
open PySem PySem.Spec PyProof.Rows
open L2 hiding V Hp St
set_option autoImplicit false
section
variable {w : Wo} {f : L2.Hp} {r : List Addr} {G H : L2.Hp} {h : Hp} {p : Addr} {us : List (Key × L2.V)}
/-- the dict that is being made is guarded -/
theorem Sim.guardD (S : Sim w f r G h H) (hp : H p = none) : Sim w (upd f p (.dK us)) r G h (upd H p (.dK us)) := by
  obtain ⟨g, hf, hr⟩ := S.fresh hp
  refine ⟨fun a q e => ?_, S.gn, fun a q e => ?_, fun a q e => ?_, fun n a e => ?_, S.len, S.nd, fun n a q e1 e2 => ?_⟩
  · rw [upd_ne (ne_of_none e g)]; exact S.sub _ _ e
  · rcases upd_get e with ⟨rfl, rfl⟩ | ⟨hb, e⟩
    · exact upd_same
    · rw [upd_ne hb]; exact S.fr _ _ e
  · rcases upd_get e with ⟨rfl, rfl⟩ | ⟨hb, e⟩
    · exact g
    · exact S.fg _ _ e
  · have hb : a ≠ p := fun z => hr n (z ▸ e)
    rw [upd_ne hb]; exact S.fc n a e
  · have hb : a ≠ p := fun z => hr n (z ▸ e1)
    exact (S.ob n a q e1 e2).mono Ext.refl (fun z => z) (fun x z => by rw [upd_ne hb]; exact z) fun b z => by rw [upd_ne (ne_of_none z hp)]; exact z
/-- .. and grows -/
theorem Sim.regardD {vs : List (Key × L2.V)} (S : Sim w (upd f p (.dK us)) r G h H) : Sim w (upd f p (.dK vs)) r G h (upd H p (.dK vs)) := by
  have hp : H p = some (.dK us) := S.fr _ _ upd_same
  have g : G p = none := S.fg p _ upd_same
  have hr : ∀ n : Nat, r[n]? ≠ some p := fun n e => by have := S.fc n p e; rw [upd_same] at this; cases this
  refine ⟨fun a q e => ?_, S.gn, fun a q e => ?_, fun a q e => ?_, fun n a e => ?_, S.len, S.nd, fun n a q e1 e2 => ?_⟩
  · rw [upd_ne (ne_of_none e g)]; exact S.sub _ _ e
  · rcases upd_get e with ⟨rfl, rfl⟩ | ⟨hb, e⟩
    · exact upd_same
    · rw [upd_ne hb]; exact S.fr a q (by rw [upd_ne hb]; exact e)
  · rcases upd_get e with ⟨rfl, rfl⟩ | ⟨hb, e⟩
    · exact g
    · exact S.fg a q (by rw [upd_ne hb]; exact e)
  · have hb : a ≠ p := fun z => hr n (z ▸ e)
    have := S.fc n a e
    rw [upd_ne hb] at this ⊢
    exact this
  · have hb : a ≠ p := fun z => hr n (z ▸ e1)
    exact (S.ob n a q e1 e2).mono Ext.refl (fun z => z) (fun x z => by rw [upd_ne hb]; exact z) fun b z => by rw [upd_ne (fun y => by subst y; rw [hp] at z; cases z)]; exact z
/-- .. and is data in the end -/
theorem Sim.unguardD (S : Sim w (upd f p (.dK us)) r G h H) (hf : f p = none) : Sim w f r (upd G p (.dK us)) h H ∧ Ext r G r (upd G p (.dK us)) := by
  have hp : H p = some (.dK us) := S.fr _ _ upd_same
  have g : G p = none := S.fg p _ upd_same
  have hr : ∀ n : Nat, r[n]? ≠ some p := fun n e => by have := S.fc n p e; rw [upd_same] at this; cases this
  have ex : Ext r G r (upd G p (.dK us)) := ⟨fun _ _ e => e, sub_upd g⟩
  refine ⟨⟨fun a q e => ?_, fun a b e => ?_, fun a q e => ?_, fun a q e => ?_, fun n a e => ?_, S.len, S.nd, fun n a q e1 e2 => ?_⟩, ex⟩
  · rcases upd_get e with ⟨rfl, rfl⟩ | ⟨hb, e⟩
    · exact hp
    · exact S.sub _ _ e
  · rcases upd_get e with ⟨_, z⟩ | ⟨_, e⟩
    · cases z
    · exact S.gn _ _ e
  · exact S.fr a q (by rw [upd_ne (ne_of_none e hf)]; exact e)
  · rw [upd_ne (ne_of_none e hf)]; exact S.fg a q (by rw [upd_ne (ne_of_none e hf)]; exact e)
  · have hb : a ≠ p := fun z => hr n (z ▸ e)
    have := S.fc n a e
    rw [upd_ne hb] at this
    exact this
  · have hb : a ≠ p := fun z => hr n (z ▸ e1)
    exact (S.ob n a q e1 e2).mono ex (fun z => by rw [upd_ne hb]; exact z) (fun x z => z) fun _ z => z
end
def ptsK (ns : List Int) : List (Key × L2.V) := (ns.foldl addI []).map fun i => (Sum.inl i, L2.V.bl true)
theorem putK_pt (acc : List Int) (i : Int) : putK (acc.map fun i => ((Sum.inl i : Key), L2.V.bl true)) (Sum.inl i) (L2.V.bl true) = (addI acc i).map fun i => (Sum.inl i, L2.V.bl true) := by
  unfold putK addI
  by_cases h : i ∈ acc
  · have e : ((acc.map fun i => ((Sum.inl i : Key), L2.V.bl true)).any fun kv => decide (kv.1 = Sum.inl i)) = true := by
      rw [List.any_map, List.any_eq_true]
      exact ⟨i, h, by simp⟩
    rw [if_pos e, if_pos h, List.map_map]
    refine List.map_congr_left fun j _ => ?_
    show (if (Sum.inl j : Key) = Sum.inl i then _ else _) = _
    split
    · rfl
    · rfl
  · have e : ¬ ((acc.map fun i => ((Sum.inl i : Key), L2.V.bl true)).any fun kv => decide (kv.1 = Sum.inl i)) = true := by
      rw [List.any_map, List.any_eq_true]
      rintro ⟨j, hj, z⟩
      have z := of_decide_eq_true z
      cases z
      exact h hj
    rw [if_neg e, if_neg h, List.map_append]
    rfl
theorem addI_len : ∀ (ns acc : List Int), (ns.foldl addI acc).length ≤ acc.length + ns.length
  | [], acc => Nat.le_refl _
  | i :: ns, acc => by
    have := addI_len ns (addI acc i)
    have e : (addI acc i).length ≤ acc.length + 1 := by
      unfold addI
      split
      · omega
      · rw [List.length_append]; simp
    rw [List.foldl_cons, List.length_cons]
    omega
theorem ptsK_snoc (ns : List Int) (i : Int) : putK (ptsK ns) (Sum.inl i) (L2.V.bl true) = ptsK (ns ++ [i]) := by
  unfold ptsK
  rw [putK_pt, List.foldl_append]
  rfl
theorem ptsK_len (ns : List Int) : (ptsK ns).length ≤ ns.length := by
  unfold ptsK
  rw [List.length_map]
  have := addI_len ns []
  simpa using this
theorem wipeE_len (env : Env) : ∀ ws : List Nat, (wipeE env ws).length = env.length
  | [] => rfl
  | i :: ws => by show ((wipeE env ws).set i none).length = _; rw [List.length_set]; exact wipeE_len env ws
/-- a dict made by a comprehension goes to a local name at once -/
theorem sw_dict {kx vx : Expr} {gs : List Comprehension} {scope : Scope} {pos py : Pos} {y : Str} {l : Nat} {env : PySem.Env} (hk : env.scope.kind = .function) (hy : env.scope.names.lookup y = some .local) (hl : (py.line == pos.line) = true)
    (ha : (scope.names.any fun (n, k) => n == y && (k == .local || k == .cell)) = false) : swapsWith (.DictComp kx vx gs scope pos) (some (.Name y py)) l env = pure true := by
  have ky : env.kindOf y = some .local := hy
  have kb : env.blockKind = .function := by unfold PySem.Env.blockKind; rw [hk]; rfl
  unfold swapsWith
  simp only [kb, ky, ha, Expr.pos, hl]
  rfl
theorem keys_pt (ns : List Int) : (ptsD ns).map (·.1) = (ptsK ns).map fun p => keyD p.1 := by
  unfold ptsD ptsK
  rw [List.map_map, List.map_map]
  rfl
theorem vals_pt (K : PySem.W.Frag) (G : L2.Hp) (ns : List Int) : RpKv K G (ptsD ns) ((ptsK ns).map (·.2)) := by
  unfold ptsD ptsK
  generalize ns.foldl addI [] = l
  rw [List.map_map]
  induction l with
  | nil => exact rfl
  | cons a l ih => exact ⟨_, _, rfl, rfl, ih⟩
theorem asTups_map : ∀ {xs : List V} {rows : List (List Int)}, asTups xs = some rows → xs = rows.map fun a => V.d (.tuple (a.map PyData.int))
  | [], rows, e => by cases e; rfl
  | .d (.tuple ys) :: xs, rows, e => by
    unfold asTups at e
    cases ea : asInts ys with
    | none => rw [ea] at e; cases e
    | some a =>
      rw [ea] at e
      cases er : asTups xs with
      | none => simp only [er] at e; cases e
      | some b =>
        simp only [er] at e
        cases e
        rw [asTups_map er, asInts_map ea]
        rfl
section
variable {X : Cx} {w : Wo} {F : Phi} {W : WX} {t : T} {i j : Nat} {ws ws2 : List Nat}
theorem rd_dpt {s : Sg} {H : L2.Hp} {Q : VK} (h : rdE w F W (.dpt t i j ws ws2) s H Q) : tDc2 (rdI w F W (.itv t)) (rdC w F ws (.tnm i)) (rdI w F W0 (.itv (.var i))) (rdC w F ws2 (.tnm j)) (rdE w F W0 (.var j)) (rdE w F W0 (.con (.bool true))) ws ws2 s H Q := by
  obtain ⟨f, r, G, env, h, P, Xp, S, E, wp, q, qx⟩ := h
  refine ⟨f, r, G, env, h, fun chk xs h1 => ((i < env.length ∧ j < env.length ∧ i ∉ ws2) ∧ ∀ h, chk h) ∧ optP (asTups xs) fun rows => rows.flatten.length ≤ 10000 ∧ P (.d (.dict (ptsD rows.flatten))) h1, _, S, E, wp, fun chk xs h1 r1 G1 H1 J p e1 S1 sv => ?_, qx⟩
  intro D hD
  have hf : f D = none := (S1.fresh hD).2.1
  obtain ⟨⟨⟨il, jl, ij⟩, hchk⟩, p⟩ := p
  obtain ⟨rows, er, hl, pq⟩ := optP_of p
  clear p
  have ex := asTups_map er
  subst ex
  refine ⟨fun n m H' => m = rows.length - n ∧ n ≤ rows.length ∧ ∃ r' G', Ext r1 G1 r' G' ∧ Sim w (upd f D (.dK (ptsK (rows.take n).flatten))) r' G' h1 H', ⟨rows.length, by simp, Nat.zero_le _, r1, G1, Ext.refl, S1.guardD hD⟩, ?_⟩
  rintro n m H' ⟨rfl, hn, r', G', e', S'⟩
  by_cases hlt : n < rows.length
  · obtain ⟨go, yl⟩ := sv.1 _ n r' G' h1 H' e' S' (hchk _) (by rw [List.length_map]; exact hlt)
    refine .inr ⟨go, fun H2 => ∃ r2 G2, Ext r1 G1 r2 G2 ∧ Sim w (upd f D (.dK (ptsK (rows.take (n + 1)).flatten))) r2 G2 h1 H2, fun H2 hN => ⟨rows.length - (n + 1), by omega, rfl, hlt, hN⟩, fun x H2 y => ?_⟩
    obtain ⟨G2, v, e2, S2, ev, rv⟩ := yl x H2 y
    rw [List.getElem?_map, List.getElem?_eq_getElem hlt] at ev
    cases ev
    refine ⟨_, r', G2, wipeE env ws, h1, V.d (.tuple (rows[n].map PyData.int)), fun e h2 => e = (wipeE env ws).set i (some (V.d (.tuple (rows[n].map PyData.int)))) ∧ h2 = h1, S2, (E.mono ((e1.trans e').trans e2)).wipe ws, rv, ⟨rfl, rfl⟩, fun env3 h3 s3 r3 G3 H3 p3 e3 S3 E3 k3 => ?_⟩
    obtain ⟨rfl, rfl⟩ := p3
    refine ⟨by rw [k3, wipe_wipe], ?_⟩
    have wl : (wipeE env ws).length = env.length := wipeE_len _ _
    have gi : ((wipeE env ws).set i (some (V.d (.tuple (rows[n].map PyData.int)))))[i]? = some (some (V.d (.tuple (rows[n].map PyData.int)))) := List.getElem?_set_self (by rw [wl]; exact il)
    have wi : WI F (.itv (.var i)) ((wipeE env ws).set i (some (V.d (.tuple (rows[n].map PyData.int))))) h3 (fun chk2 ys h5 => ys = rows[n].map (fun a => V.d (.int a)) ∧ (∀ h, chk2 h) ∧ h5 = h3) (fun _ _ => False) := by
      show optP (((wipeE env ws).set i (some (V.d (.tuple (rows[n].map PyData.int)))))[i]?) (fun o => optP o fun v => itemsV h3 v fun chk xs => (xs = rows[n].map (fun a => V.d (.int a)) ∧ (∀ h, chk h) ∧ h3 = h3))
      rw [gi]
      exact ⟨by rw [List.map_map]; rfl, fun _ => trivial, rfl⟩
    refine ⟨_, r3, G3, _, h3, _, _, S3, E3, wi, fun chk2 ys h5 r5 G5 H5 J2 p5 e5 S5 sv2 => ?_, XOk.never⟩
    obtain ⟨rfl, hchk2, rfl⟩ := p5
    have e05 := ((e'.trans e2).trans e3).trans e5
    have tk : (rows.take (n + 1)).flatten = (rows.take n).flatten ++ rows[n] := by rw [List.take_succ_eq_append_getElem hlt, List.flatten_append]; simp
    have lt : ∀ k, k ≤ rows[n].length → ((rows.take n).flatten ++ rows[n].take k).length ≤ 10000 := fun k hk => by
      refine Nat.le_trans ?_ hl
      have e1 : rows.flatten = (rows.take n).flatten ++ (rows.drop n).flatten := by rw [← List.flatten_append, List.take_append_drop]
      have e2 : (rows.drop n).flatten = rows[n] ++ (rows.drop (n + 1)).flatten := by rw [List.drop_eq_getElem_cons hlt]; rfl
      rw [e1, e2, List.length_append, List.length_append, List.length_append, List.length_take]
      omega
    refine ⟨fun k m2 H6 => m2 = rows[n].length - k ∧ k ≤ rows[n].length ∧ ∃ r6 G6, Ext r5 G5 r6 G6 ∧ Sim w (upd f D (.dK (ptsK ((rows.take n).flatten ++ rows[n].take k)))) r6 G6 h5 H6,
      ⟨rows[n].length, by simp, Nat.zero_le _, r5, G5, Ext.refl, by rw [List.take_zero, List.append_nil]; exact S5⟩, ?_⟩
    rintro k m2 H6 ⟨rfl, hk, r6, G6, e6, S6⟩
    by_cases hkl : k < rows[n].length
    · obtain ⟨go2, yl2⟩ := sv2.1 _ k r6 G6 h5 H6 e6 S6 (hchk2 _) (by rw [List.length_map]; exact hkl)
      refine .inr ⟨go2, fun H7 => ∃ r7 G7, Ext r5 G5 r7 G7 ∧ Sim w (upd f D (.dK (ptsK ((rows.take n).flatten ++ rows[n].take (k + 1))))) r7 G7 h5 H7, fun H7 hN => ⟨rows[n].length - (k + 1), by omega, rfl, hkl, hN⟩, fun x2 H7 y2 => ?_⟩
      obtain ⟨G7, v7, e7, S7, ev7, rv7⟩ := yl2 x2 H7 y2
      rw [List.getElem?_map, List.getElem?_eq_getElem hkl] at ev7
      cases ev7
      let env7 : Env := wipeE ((wipeE env ws).set i (some (V.d (.tuple (rows[n].map PyData.int))))) ws2
      have l7 : env7.length = env.length := by show (wipeE _ ws2).length = _; rw [wipeE_len, List.length_set, wl]
      refine ⟨_, r6, G7, env7, h5, V.d (.int rows[n][k]), fun e h2 => e = env7.set j (some (V.d (.int rows[n][k]))) ∧ h2 = h5, S7, (E3.mono ((e5.trans e6).trans e7)).wipe ws2, rv7, ⟨rfl, rfl⟩, fun env8 h8 s8 r8 G8 H8 p8 e8 S8 E8 k8 => ?_⟩
      obtain ⟨rfl, rfl⟩ := p8
      refine ⟨by rw [k8, wipe_wipe], ?_⟩
      have gj : (env7.set j (some (V.d (.int rows[n][k]))))[j]? = some (some (V.d (.int rows[n][k]))) := List.getElem?_set_self (by rw [l7]; exact jl)
      have wk : WE F (.var j) (env7.set j (some (V.d (.int rows[n][k])))) h8 (fun v h9 => v = V.d (.int rows[n][k]) ∧ h9 = h8) (fun _ _ => False) := by
        show optP ((env7.set j (some (V.d (.int rows[n][k]))))[j]?) (fun o => optP o fun v => (v = V.d (.int rows[n][k]) ∧ h8 = h8))
        rw [gj]
        exact ⟨rfl, rfl⟩
      refine ⟨_, r8, G8, _, h8, _, _, S8, E8, wk, fun va ha ua ra Ga Ha pa ea Sa rva => ?_, XOk.never⟩
      obtain ⟨rfl, rfl⟩ := pa
      have rva : ua = .int rows[n][k] := rva
      subst rva
      refine ⟨_, ra, Ga, _, ha, fun v h9 => v = V.d (.bool true) ∧ h9 = ha, _, Sa, E8.mono ea, ⟨rfl, rfl⟩, fun vb hb ub rb Gb Hb pb eb Sb rvb => ?_, XOk.never⟩
      obtain ⟨rfl, rfl⟩ := pb
      have rvb : ub = .bl true := rvb
      subst rvb
      have lk := lt k hk
      refine ⟨ptsK ((rows.take n).flatten ++ rows[n].take k), .inl rows[n][k], rfl, Sb.fr _ _ upd_same, Nat.lt_of_le_of_lt (Nat.le_trans (ptsK_len _) lk) (by rw [sizeLine_eq]; decide), rb, Gb, (((e6.trans e7).trans e8).trans ea).trans eb, ?_⟩
      rw [ptsK_snoc, List.append_assoc, show rows[n].take k ++ [rows[n][k]] = rows[n].take (k + 1) from (List.take_succ_eq_append_getElem hkl).symm]
      exact Sb.regardD
    · have e : k = rows[n].length := by omega
      subst e
      have st2 := sv2.2 _ r6 G6 h5 H6 e6 S6 (hchk2 _)
      rw [List.length_map] at st2
      refine .inl ⟨st2, r6, G6, e05.trans e6, ?_⟩
      rw [List.take_length] at S6
      rw [tk]
      exact S6
  · have e : n = rows.length := by omega
    subst e
    have st := sv.2 _ r' G' h1 H' e' S' (hchk _)
    rw [List.length_map] at st
    refine .inl ⟨st, ?_⟩
    rw [List.take_length] at S'
    obtain ⟨S2, e2⟩ := S'.unguardD hf
    exact q (.d (.dict (ptsD rows.flatten))) h1 (.ref D) r' _ _ pq ((e1.trans e').trans e2) S2 ⟨D, false, _, rfl, ⟨_, upd_same, keys_pt _, rfl⟩, vals_pt _ _ _⟩
variable {tg iter tg1 : Expr} {scope : Scope} {own : List (Str × Nat)}
theorem ss_setdpt {k : Nat} {y : Str} {py pos spos : Pos} {kx vx t0 i0 t1 i1 : Expr} (hc : X.calm = true) (hN : X.N.Nodup) (hy : X.N[k]? = some y) (hyl : X.env.scope.names.lookup y = some .local)
    (hsw : swapsWith (dcE kx vx t0 i0 t1 i1 scope pos) (some (.Name y py)) spos.line X.env = pure true) (hi : SI X w F W t0 i0 (.itv t)) (ok : BlkOk X.N X.env.scope scope own) (hv : ∀ i ∈ ws2, i ∈ own.map (·.2))
    (hg : BlkAll X scope fun Y => PG Y t0 (rdC w F (own.map (·.2)) (.tnm i))) (hi1 : BlkAll X scope fun Y => SI Y w F W0 t1 i1 (.itv (.var i))) (hg1 : BlkAll X scope fun Y => PG Y t1 (rdC w F ws2 (.tnm j)))
    (hk : BlkAll X scope fun Y => SE Y w F W0 kx (.var j)) (he : BlkAll X scope fun Y => SE Y w F W0 vx (.con (.bool true))) (hs : ∀ x, foldedSetIterable i0 X.env x = pure x) (hs1 : ∀ env x, foldedSetIterable i1 env x = pure x) :
    SS X w F W (.Assign [.Name y py] (dcE kx vx t0 i0 t1 i1 scope pos) spos) (.asg (.tnm k) (.dpt t i j (own.map (·.2)) ws2)) :=
  ps_imp (ps_setDc2 hc hN hy hyl hsw hi ok hv hg hi1 hg1 hk he hs hs1) fun D s H h => by
    obtain ⟨f, r, G, env, h, n, kk, S, E, wp, q⟩ := h
    have wp : WE F (.dpt t i j (own.map (·.2)) ws2) env h (fun v h1 => n (env.set k (some v)) h1) (fun x h1 => kk.xe x env h1) := wp
    exact rd_dpt (W := W) ⟨f, r, G, env, h, _, _, S, E, wp, fun v h1 u r1 G1 H1 p e1 S1 rv => q.nx _ h1 _ r1 G1 H1 p e1 S1 ((E.mono e1).set rv k), q.x E⟩
end
end Hb

/-! STA: one starred target among several: a, *b, c = a list. -/
namespace Hb
open PySem PySem.Spec PyProof.Rows
open L2 hiding V Hp St
set_option autoImplicit false
section
variable {prog : Program} {w : World} {A : Around} {E : Value → Shared → Prop} {s : Shared}
/-- a walk from its i-th item on -/
theorem walk_from {I : Addr} {fp wr : List Addr} {G : Array GenState → Array GenState → Prop} {n : Nat} {P : Nat → Value → Prop} {Z : Nat → Shared → Prop} (W : WalksS prog w A I fp wr G n P Z) {i : Nat} (hi : i ≤ n) :
    WalksS prog w A I fp wr G (n - i) (fun k v => P (i + k) v) (fun k s => Z (i + k) s) where
  sub := W.sub
  grefl := W.grefl
  gtrans := W.gtrans
  frame := fun k => W.frame (i + k)
  item := fun k s Q E hk st hQ => W.item (i + k) s Q E (by omega) st hQ
  done := fun s Q E st hQ => W.done s Q E (by rw [show i + (n - i) = n by omega] at st; exact st) hQ
  self := fun k => W.self (i + k)
theorem unpk_star {l : Addr} {items : Array Value} {n i : Nat} {Q : List Value → Shared → Prop} (hh : A.handled = none) (hl : s.heap.IsList l items) (hi : i < n) (hn : n ≤ items.size + 1) (hz : items.size ≤ sizeLine)
    (hQ : ∀ (h' : Heap) (tk : Nat), (∀ b o, s.heap.get? b = some o → h'.get? b = some o) →
      Q (items.toList.take i ++ [Value.ref h'.objs.size] ++ (items.toList.drop i).drop (items.size - i - (n - 1 - i))) { s with heap := h'.push { cls := .type "list", data := .seq ((items.toList.drop i).take (items.size - i - (n - 1 - i))).toArray }, toks := tk }) :
    wpAny (model prog w) A (unpackItems (.ref l) n (some i)) Q E s := by
  have hll : l < s.heap.objs.size := by obtain ⟨o, ho, _⟩ := hl; exact Heap.lt_size ho
  have hlt : l ≠ s.heap.objs.size := Nat.ne_of_lt hll
  unfold unpackItems notIterableAtAll
  refine wpAny_bind (wpAny_bind (wpAny_specialOf hl.typeIs slot_list_iter.lookup (wpAny_pure ?_)))
  rw [if_neg (by decide)]
  refine wpAny_bind (wpAny_holding (wpAny_pyIter_list hl ?_))
  dsimp only
  refine wpAny_bind (wpAny_holding (PySem.W.kun_draw hlt i 0 _ _ ⟨_, Heap.get?_push_size _ rfl, rfl, rfl⟩ (hl.push _) (by omega) fun h1 it1 sb1 => ?_))
  rw [List.drop_zero]
  rw [Nat.zero_add] at it1
  have hl1 : h1.IsList l items := (hl.push _).extBut sb1.extBut hlt
  have k1 : ∀ b o, s.heap.get? b = some o → h1.get? b = some o := fun b o e => sb1.extBut b o (Nat.ne_of_lt (Heap.lt_size e)) (Heap.get?_push_of_some _ e)
  have flen : (items.toList.take i).length = i := by rw [List.length_take, Array.length_toList]; omega
  have sz1 : s.heap.objs.size < h1.objs.size := by obtain ⟨o, ho, _⟩ := it1; exact Heap.lt_size ho
  rw [if_neg (by rw [flen]; omega)]
  have hA : A.in1.handled = none := hh
  refine wpAny_bind (wpAny_holding (wpAny_collect_iter (s := { s with heap := h1 }) (.inr (.inr (.inl rfl))) (walk_from (Walks.list (prog := prog) (w := w) hA s.heap.objs.size l hlt items).toS (i := i) (by omega))
    (fun k s' z => ?_) ?_ ?_ ?_ (fun s2 acc mv ia => ?_) (by omega)))
  · obtain ⟨⟨o, ho, hc, _⟩, _⟩ := z
    exact ⟨o, ho, hc⟩
  · exact ⟨it1, hl1⟩
  · intro b hb
    simp at hb
    rcases hb with rfl | rfl
    · exact sz1
    · exact Nat.lt_trans hll sz1
  · simp
  have ea : acc.toList = items.toList.drop i := by
    refine List.ext_getElem? fun j => ?_
    rw [List.getElem?_drop, Array.getElem?_toList, Array.getElem?_toList]
    by_cases hj : j < acc.size
    · have e2 : acc[j]? = some acc[j] := Array.getElem?_eq_getElem hj
      rw [e2]
      exact (ia.2 j _ e2).symm
    · rw [Array.getElem?_eq_none (by omega), Array.getElem?_eq_none (by rw [ia.1] at hj; omega)]
  have lr : (items.toList.drop i).length = items.size - i := by rw [List.length_drop, Array.length_toList]
  have nlt : ¬ items.size - i < n - 1 - i := fun z => by omega
  rw [ea, lr, if_neg nlt]
  have k2 : ∀ b o, s.heap.get? b = some o → s2.heap.get? b = some o := fun b o e => mv.heap b o (by
    intro z
    rw [List.mem_singleton] at z
    subst z
    exact absurd (Heap.lt_size e) (Nat.lt_irrefl _)) (k1 b o e)
  obtain ⟨hp2, g2, d2, t2, o2⟩ := s2
  have q1 : g2 = s.gens := mv.gens
  have q2 : d2 = s.drawn := mv.drawn
  have q3 : o2 = s.os := mv.os
  subst q1 q2 q3
  refine wpAny_bind (wpAny_newObj_type ?_ ?_)
  · exact wpAny_pure (hQ hp2 t2 k2)
  · show (List.take (items.size - i - (n - 1 - i)) (items.toList.drop i)).toArray.size ≤ sizeLine
    rw [List.size_toArray, List.length_take, lr]
    omega
/-- the first items of a tuple that is walked -/
theorem tup_draw {it a : Addr} {xs : Array Value} (ne : a ≠ it) : ∀ (k j : Nat) (st : Shared) (Q : List Value → Shared → Prop), st.heap.IsTupleIter it a j → st.heap.IsTuple a xs → j + k ≤ xs.size →
    (∀ hp, hp.IsTupleIter it a (j + k) → Heap.SameBut it st.heap hp → Q ((xs.toList.drop j).take k) { st with heap := hp }) → wpAny (model prog w) A (draw (.ref it) k) Q E st
  | 0, j, st, Q, hi, _, _, q => by
    show wpAny _ _ (pure []) Q E st
    refine wpAny_pure ?_
    have z := q st.heap hi (Heap.SameBut.refl ..)
    rw [List.take_zero] at z
    exact z
  | k + 1, j, st, Q, hi, hl, le, q => by
    have lt : j < xs.size := by omega
    show wpAny _ _ (pyNext (.ref it) >>= _) Q E st
    refine wpAny_bind (wpAny_pyNext_tuple_item hi hl (x := xs[j]) (by simp [lt]) fun h1 i1 s1 => ?_)
    refine wpAny_bind (wpAny_holding (tup_draw ne k (j + 1) _ _ i1 (hl.extBut s1.extBut ne) (by omega) fun h2 i2 s2 => wpAny_pure ?_))
    have z := q h2 (by rw [show j + (k + 1) = j + 1 + k by omega]; exact i2) (s1.trans s2)
    rw [show xs.toList.drop j = xs[j] :: xs.toList.drop (j + 1) by simp [List.drop_eq_getElem_cons, lt], List.take_succ_cons] at z
    exact z
theorem unpk_starT {l : Addr} {items : Array Value} {n i : Nat} {Q : List Value → Shared → Prop} (hh : A.handled = none) (hl : s.heap.IsTuple l items) (hi : i < n) (hn : n ≤ items.size + 1) (hz : items.size ≤ sizeLine)
    (hQ : ∀ (h' : Heap) (tk : Nat), (∀ b o, s.heap.get? b = some o → h'.get? b = some o) →
      Q (items.toList.take i ++ [Value.ref h'.objs.size] ++ (items.toList.drop i).drop (items.size - i - (n - 1 - i))) { s with heap := h'.push { cls := .type "list", data := .seq ((items.toList.drop i).take (items.size - i - (n - 1 - i))).toArray }, toks := tk }) :
    wpAny (model prog w) A (unpackItems (.ref l) n (some i)) Q E s := by
  have hll : l < s.heap.objs.size := by obtain ⟨o, ho, _⟩ := hl; exact Heap.lt_size ho
  have hlt : l ≠ s.heap.objs.size := Nat.ne_of_lt hll
  unfold unpackItems notIterableAtAll
  refine wpAny_bind (wpAny_bind (wpAny_specialOf hl.typeIs slot_tuple_iter.lookup (wpAny_pure ?_)))
  rw [if_neg (by decide)]
  refine wpAny_bind (wpAny_holding (wpAny_pyIter_tuple hl ?_))
  dsimp only
  refine wpAny_bind (wpAny_holding (tup_draw hlt i 0 _ _ ⟨_, Heap.get?_push_size _ rfl, rfl, rfl⟩ (hl.push _) (by omega) fun h1 it1 sb1 => ?_))
  rw [List.drop_zero]
  rw [Nat.zero_add] at it1
  have hl1 : h1.IsTuple l items := (hl.push _).extBut sb1.extBut hlt
  have k1 : ∀ b o, s.heap.get? b = some o → h1.get? b = some o := fun b o e => sb1.extBut b o (Nat.ne_of_lt (Heap.lt_size e)) (Heap.get?_push_of_some _ e)
  have flen : (items.toList.take i).length = i := by rw [List.length_take, Array.length_toList]; omega
  have sz1 : s.heap.objs.size < h1.objs.size := by obtain ⟨o, ho, _⟩ := it1; exact Heap.lt_size ho
  rw [if_neg (by rw [flen]; omega)]
  have hA : A.in1.handled = none := hh
  refine wpAny_bind (wpAny_holding (wpAny_collect_iter (s := { s with heap := h1 }) (.inr (.inr (.inr rfl))) (walk_from (Walks.tuple (prog := prog) (w := w) hA s.heap.objs.size l hlt items).toS (i := i) (by omega))
    (fun k s' z => ?_) ?_ ?_ ?_ (fun s2 acc mv ia => ?_) (by omega)))
  · obtain ⟨⟨o, ho, hc, _⟩, _⟩ := z
    exact ⟨o, ho, hc⟩
  · exact ⟨it1, hl1⟩
  · intro b hb
    simp at hb
    rcases hb with rfl | rfl
    · exact sz1
    · exact Nat.lt_trans hll sz1
  · simp
  have ea : acc.toList = items.toList.drop i := by
    refine List.ext_getElem? fun j => ?_
    rw [List.getElem?_drop, Array.getElem?_toList, Array.getElem?_toList]
    by_cases hj : j < acc.size
    · have e2 : acc[j]? = some acc[j] := Array.getElem?_eq_getElem hj
      rw [e2]
      exact (ia.2 j _ e2).symm
    · rw [Array.getElem?_eq_none (by omega), Array.getElem?_eq_none (by rw [ia.1] at hj; omega)]
  have lr : (items.toList.drop i).length = items.size - i := by rw [List.length_drop, Array.length_toList]
  have nlt : ¬ items.size - i < n - 1 - i := fun z => by omega
  rw [ea, lr, if_neg nlt]
  have k2 : ∀ b o, s.heap.get? b = some o → s2.heap.get? b = some o := fun b o e => mv.heap b o (by
    intro z
    rw [List.mem_singleton] at z
    subst z
    exact absurd (Heap.lt_size e) (Nat.lt_irrefl _)) (k1 b o e)
  obtain ⟨hp2, g2, d2, t2, o2⟩ := s2
  have q1 : g2 = s.gens := mv.gens
  have q2 : d2 = s.drawn := mv.drawn
  have q3 : o2 = s.os := mv.os
  subst q1 q2 q3
  refine wpAny_bind (wpAny_newObj_type ?_ ?_)
  · exact wpAny_pure (hQ hp2 t2 k2)
  · show (List.take (items.size - i - (n - 1 - i)) (items.toList.drop i)).toArray.size ≤ sizeLine
    rw [List.size_toArray, List.length_take, lr]
    omega
end
/-- a, *b, c = a list: b a new list -/
def gStar (K : PySem.W.Frag) (i n : Nat) (t : TGs) : TG := fun v σ H Q => ∃ a xs, v = L2.V.ref a ∧ (SqL K H a xs ∨ SqT K H a xs) ∧ i < n ∧ n ≤ xs.length + 1 ∧
  ∀ l, H l = none → t (xs.take i ++ [L2.V.ref l] ++ (xs.drop i).drop (xs.length - i - (n - 1 - i))) σ (L2.upd H l (.lst ((xs.drop i).take (xs.length - i - (n - 1 - i))))) Q
section
variable {X : Cx} {pos : Pos}
theorem pg_star {es : List Expr} {k : Nat} {t : TGs} {i n : Nat} (hc : X.calm = true) (h : PGs X es t)
    (hn : (assignEach es X.env).length = n) (hst : (assignEach es X.env).findIdx? (·.1) = some i) : PG X (.Tuple es k pos) (gStar X.K i n t) := by
  refine ⟨fun pins s σ H v u Q I r hw => ?_⟩
  obtain ⟨a, xs, rfl, hq, hi, hl, hw⟩ := hw
  cases r
  obtain ⟨its, rv, pl, hz⟩ : ∃ its : List Value, Vals xs its ∧ (s.heap.IsList a its.toArray ∨ s.heap.IsTuple a its.toArray) ∧ xs.length ≤ sizeLine := by
    rcases hq with hq | hq
    · obtain ⟨its, rv, pl, hz⟩ := I.list hq
      exact ⟨its, rv, .inl pl.isList, by have := rv.length; omega⟩
    · obtain ⟨its, rv, pl, hz⟩ := I.tuple hq
      exact ⟨its, rv, .inr pl, by have := rv.length; omega⟩
  have e1 := rv.length
  rw [PyProof.Rows.assign_Tuple]
  refine wpAny_bind (wpAny_standAt ?_)
  unfold unpack
  rw [hn, hst]
  have both : ∀ {Q : List Value → Shared → Prop} {E : Value → Shared → Prop}, (∀ (h' : Heap) (tk : Nat), (∀ b o, s.heap.get? b = some o → h'.get? b = some o) →
      Q (its.toArray.toList.take i ++ [Value.ref h'.objs.size] ++ (its.toArray.toList.drop i).drop (its.toArray.size - i - (n - 1 - i))) { s with heap := h'.push { cls := .type "list", data := .seq ((its.toArray.toList.drop i).take (its.toArray.size - i - (n - 1 - i))).toArray }, toks := tk }) →
      wpAny (model X.prog X.w) X.A (unpackItems (.ref a) n (some i)) Q E s := fun q => by
    rcases pl with pl | pl
    · exact unpk_star (I.ok.hd hc) pl hi (by rw [List.size_toArray]; omega) (by rw [List.size_toArray]; omega) q
    · exact unpk_starT (I.ok.hd hc) pl hi (by rw [List.size_toArray]; omega) (by rw [List.size_toArray]; omega) q
  refine wpAny_bind (wpAny_holding (both fun h' tk kp => ?_))
  have I1 : Inv X pins σ H { s with heap := h', toks := tk } := I.kept (t' := tk) kp
  have hp : H h'.objs.size = none := I1.hok.fresh (Nat.le_refl _)
  have ez : its.toArray.toList = its := rfl
  have es' : its.toArray.size = xs.length := by rw [List.size_toArray, e1]
  rw [ez, es']
  have rm : Vals ((xs.drop i).take (xs.length - i - (n - 1 - i))) ((its.drop i).take (xs.length - i - (n - 1 - i))) := Vals.take _ (Vals.drop _ rv)
  have I2 : Inv X pins σ (L2.upd H h'.objs.size (.lst ((xs.drop i).take (xs.length - i - (n - 1 - i))))) { s with heap := h'.push { cls := .type "list", data := .seq ((its.drop i).take (xs.length - i - (n - 1 - i))).toArray }, toks := tk } :=
    I1.laid (t' := tk) (fun b o e => Heap.get?_push_of_some _ e) (Nat.le_refl _)
      (show ObjOk X.prog X.w _ _ _ (.lst _) from ⟨by rw [List.length_take, List.length_drop]; omega, _, 0, rm, Heap.get?_push_size _ rfl⟩)
  exact h.run pins _ σ _ _ _ Q I2 (Vals.append (Vals.append (Vals.take _ rv) (Paired.cons (show RelV (L2.V.ref h'.objs.size) (Value.ref h'.objs.size) from rfl) Paired.nil)) (Vals.drop _ (Vals.drop _ rv))) (hw _ hp)
end
end Hb

/-! TEX: starred targets, ranges downwards, texts (join, split, f-texts), calls of a def held in a name, isinstance of several built-in classes. -/
namespace Hb
open PySem PySem.Spec PyProof.Rows
open L2 hiding V Hp St
set_option autoImplicit false
section
variable {X : Cx} {w : Wo} {F : Phi} {W : WX} {tg e e2 e3 oe : Expr} {es : List Expr} {t t1 t2 : T} {p pos apos cpos : Pos}
/-! ### starred targets -/
theorem dlist_ok {f : L2.Hp} {r : List Addr} {G H : L2.Hp} {h : Hp} {v : V} {u : L2.V} {Q : List D → Prop} (S : Sim w f r G h H) (rv : Rv w r G v u) (q : dlistV h v Q) : ∃ xs a us, Q xs ∧ u = .ref a ∧ (SqL w.K H a us ∨ SqT w.K H a us) ∧ RpAll w.K G xs us := by
  cases v with
  | d x =>
    cases x with
    | list ds => obtain ⟨a, us, rfl, hq, t⟩ := rv; exact ⟨_, a, us, q, rfl, .inl (sqL_mono S.sub hq), t⟩
    | tuple ds => obtain ⟨a, us, rfl, hq, t⟩ := rv; exact ⟨_, a, us, q, rfl, .inr (tqT_mono S.sub hq), t⟩
    | _ => exact q.elim
  | cell n =>
    obtain ⟨a, e1, rfl⟩ := rv
    have q : (match h[n]? with
      | some (.lst xs) => Q xs
      | _ => False) := q
    cases eo : h[n]? with
    | none => rw [eo] at q; exact q.elim
    | some o =>
      rw [eo] at q
      cases o with
      | lst xs => obtain ⟨_, us, ha, t⟩ := S.ob n a _ e1 eo; exact ⟨_, a, us, q, rfl, .inl (SqL.of ha), t⟩
      | _ => exact q.elim
  | _ => exact q.elim
theorem dlist_okI {f : L2.Hp} {r : List Addr} {G H : L2.Hp} {h : Hp} {v : V} {u : L2.V} {Q : List D → Prop} (S : Sim w f r G h H) (rv : RvI w r G v u) (q : dlistV h v Q) : ∃ xs a us, Q xs ∧ u = .ref a ∧ (SqL w.K H a us ∨ SqT w.K H a us) ∧ RpAll w.K G xs us := by
  cases v with
  | d x => cases x with
    | tuple ds => obtain ⟨a, us, rfl, hq, t⟩ := rv; exact ⟨_, a, us, q, rfl, .inr (sqT_mono S.sub (.inl hq)), t⟩
    | _ => exact dlist_ok S rv q
  | _ => exact dlist_ok S rv q
theorem rvAll_app {r : List Addr} {G : L2.Hp} {as bs : List V} {us ws : List L2.V} (h1 : RvAll w r G as us) (h2 : RvAll w r G bs ws) : RvAll w r G (as ++ bs) (us ++ ws) :=
  rvAll_iff.mpr (All2.append (rvAll_iff.mp h1) (rvAll_iff.mp h2))
theorem sg_star {k i : Nat} (hK : X.K = w.K) (hc : X.calm = true) (h : SGs X w F es t) (hl : tlen t = es.length) (h1 : (assignEach es X.env).length = es.length) (h2 : (assignEach es X.env).findIdx? (·.1) = some i) : SG X w F (.Tuple es k pos) (.tst i t) := by
  refine pg_imp (pg_star (k := k) (i := i) (n := es.length) hc h h1 h2) fun u s H Q h => ?_
  obtain ⟨f, r, G, env, h, v, P, S, E, rv, wp, q⟩ := h
  obtain ⟨xs, a, us, ⟨⟨hi, hn⟩, wp⟩, rfl, hq, rp⟩ := dlist_okI S rv wp
  have el : xs.length = us.length := (rpAll_iff.mp rp).length
  rw [hl] at hi hn wp
  rw [el] at hn
  refine ⟨a, us, rfl, by rw [hK]; exact hq, hi, hn, fun l hp => ?_⟩
  obtain ⟨S2, e2⟩ := S.lay hp (.lst ((us.drop i).take (us.length - i - (es.length - 1 - i))))
  have rq : RpAll w.K (L2.upd G l (.lst ((us.drop i).take (us.length - i - (es.length - 1 - i))))) xs us := RpAll.mono e2.sub _ _ rp
  have rq' := rpAll_iff.mp rq
  refine ⟨f, r, _, env, h, _, P, S2, E.mono e2, ?_, wp, q.mono e2⟩
  refine rvAll_app (rvAll_app (rvAll_d.mpr (rpAll_iff.mpr (rq'.take i))) ⟨_, _, rfl, ?_, rfl⟩) (rvAll_d.mpr (rpAll_iff.mpr ?_))
  · rw [el]
    exact ⟨l, _, rfl, .inl (.inl upd_same), rpAll_iff.mpr ((rq'.drop i).take _)⟩
  · rw [el]
    exact (rq'.drop i).drop _
/-! ### range(a, b, -1) -/
theorem ranD_len : ∀ (hi : Int) (n : Nat), (ranD hi n).length = n
  | _, 0 => rfl
  | hi, n + 1 => by show (ranD (hi - 1) n).length + 1 = n + 1; rw [ranD_len]
theorem ranD_get : ∀ (hi : Int) (n i : Nat), i < n → (ranD hi n)[i]? = some (.int (hi - i))
  | hi, 0, i, h => by omega
  | hi, n + 1, 0, h => by show some (PyData.int hi) = _; simp
  | hi, n + 1, i + 1, h => by
    show (ranD (hi - 1) n)[i]? = _
    rw [ranD_get (hi - 1) n i (by omega)]
    congr 2
    omega
theorem serves_rangeD {r : List Addr} {G : L2.Hp} {hi : Int} {n : Nat} : Serves true w r G (Itc hi (-1) n) (fun _ => True) ((ranD hi n).map V.d) := by
  have ln : ((ranD hi n).map V.d).length = n := by rw [List.length_map, ranD_len]
  refine ⟨fun f' i r' G' h' H' e S' _ hj => ?_, fun f' r' G' h' H' e S' _ => ?_⟩
  · rw [ln] at hj
    refine ⟨hj, fun x H2 y => ?_⟩
    obtain ⟨rfl, rfl⟩ := y
    exact ⟨G', .d (.int (hi - i)), Ext.refl, S', by rw [List.getElem?_map, ranD_get hi n i hj]; rfl, by show L2.V.int _ = L2.V.int _; congr 1; omega⟩
  · rw [ln]
    exact Nat.le_refl _
theorem si_rngd (hg : Gl X "range") (hm : X.mg "range" = none) (ha : SE X w F W e t1) (hb : SE X w F W e2 t2) (hc : SE X w F W e3 (.o1 .neg (.con (.int 1)))) (hs : ∀ x p, e ≠ .Starred x p) (hs2 : ∀ x p, e2 ≠ .Starred x p) (hs3 : ∀ x p, e3 ≠ .Starred x p) :
    SI X w F W tg (.Call (.Name "range" p) [e, e2, e3] [] pos) (.rngd t1 t2) := by
  refine ⟨fun pins s σ H R I h => (pi_range3 hg hm (pa_cons ha (pa_cons hb (pa_cons hc pa_nil (nostar hs3)) (nostar hs2)) (nostar hs)) (by rw [nostar hs]) (by rw [nostar hs2, nostar hs3]; rfl)).run pins s σ H R I ?_⟩
  obtain ⟨f, r, G, env, h, P, Xp, S, E, wp, q, qx⟩ := h
  refine ⟨f, r, G, env, h, _, Xp, S, E, wp, fun v h1 u r1 G1 H1 w1 e1 S1 rv => ?_, qx⟩
  refine ⟨f, r1, G1, env, h1, _, Xp, S1, E.mono e1, w1, fun v2 h2 u2 r2 G2 H2 w2 e2 S2 rv2 => ?_, qx.mono e1⟩
  obtain ⟨d, ed, w2⟩ := optP_of w2
  obtain ⟨i, rfl, w2⟩ := intP_of w2
  obtain ⟨d, ed2, w2⟩ := optP_of w2
  obtain ⟨j, rfl, w2⟩ := intP_of w2
  obtain ⟨⟨b1, b2, b3, b4⟩, w2⟩ := w2
  have rd : u = .int i := S2.read (Rv.mono e2 _ _ rv) ed
  have rd2 : u2 = .int j := S2.read rv2 ed2
  subst rd rd2
  refine ⟨f, r2, G2, env, h2, fun v3 h3 => v3 = .d (.int (-1)) ∧ h3 = h2, Xp, S2, (E.mono e1).mono e2, ⟨rfl, rfl⟩, fun v3 h3 u3 r3 G3 H3 w3 e3 S3 rv3 => ?_, (qx.mono e1).mono e2⟩
  obtain ⟨rfl, rfl⟩ := w3
  have rd3 : u3 = .int (-1) := rv3
  subst rd3
  exact ⟨i, j, -1, _, rfl, RgC.neg b1 b2 b3 b4, q _ _ h3 r3 G3 H3 _ w2 ((e1.trans e2).trans e3) S3 serves_rangeD⟩
/-! ### join and split -/
def textBase : Expr → Bool
  | .Name _ _ => true
  | .Subscript _ _ _ => true
  | .Constant _ _ _ => true
  | _ => false
theorem textBase_eq {o : Expr} {name : Str} {env : PySem.Env} (h : textBase o = true) : attributeBase o name env (eval o env) = eval o env := by
  cases o <;> first | rfl | cases h
theorem lst_strs {K : PySem.W.Frag} {G : L2.Hp} : ∀ {ds : List D} {us : List L2.V} {zs : List Str}, RpAll K G ds us → strsD ds = some zs → us = zs.map L2.V.str
  | [], us, zs, h, e => by cases e; exact h
  | d :: ds, us, zs, h, e => by
    obtain ⟨v, vs, rfl, r, t⟩ := h
    cases d with
    | str z =>
      have e : (strsD ds).map (z :: ·) = some zs := e
      obtain ⟨ys, ey, rfl⟩ := Option.map_eq_some_iff.mp e
      have r : v = .str z := r
      rw [r, lst_strs t ey]
      rfl
    | _ => cases e
theorem rp_strs {K : PySem.W.Frag} {G : L2.Hp} : ∀ zs : List Str, RpAll K G (zs.map PyData.str) (zs.map L2.V.str)
  | [] => rfl
  | z :: zs => ⟨_, _, rfl, rfl, rp_strs zs⟩
theorem strAt_of {v : V} {Q : Prop} (h : strAt v Q) : ∃ z, v = .d (.str z) ∧ Q := by
  cases v with
  | d d => cases d with
    | str z => exact ⟨z, rfl, h⟩
    | _ => exact h.elim
  | _ => exact h.elim
theorem se_join {name : Str} (hK : X.K = w.K) (hn : name = "join") (ho : SE X w F W oe t1) (hb : textBase oe = true) (hl : (apos.endLine == cpos.line) = true) (he : SE X w F W e t2) (hs : ∀ x p, e ≠ .Starred x p) :
    SE X w F W (.Call (.Attribute oe name apos) [e] [] cpos) (.smt .join t1 t2) := by
  subst hn
  refine pe_imp (pe_join ho he (nostar hs) (textBase_eq hb) hl) fun s H Q h => ?_
  obtain ⟨f, r, G, env, h, P, Xp, S, E, wp, q, qx⟩ := h
  refine ⟨f, r, G, env, h, _, Xp, S, E, wp, fun v h1 u r1 G1 H1 w1 e1 S1 rv => ?_, qx⟩
  obtain ⟨z, rfl, w1⟩ := strAt_of w1
  have ru : u = .str z := rv
  subst ru
  refine ⟨⟨z, rfl⟩, f, r1, G1, env, h1, _, Xp, S1, E.mono e1, w1, fun y h2 u2 r2 G2 H2 w2 e2 S2 rv2 => ?_, qx.mono e1⟩
  obtain ⟨x, ex, w2⟩ := optP_of w2
  obtain ⟨d, ed, w2⟩ := optP_of w2
  cases ex
  have rx := S2.read rv2 ed
  cases d with
  | list ds =>
    obtain ⟨a, us, rfl, hq, tt⟩ := rx
    obtain ⟨zs, ez, w2⟩ := optP_of w2
    obtain ⟨hz, w2⟩ := w2
    have := lst_strs tt ez
    subst this
    exact ⟨z, a, zs, rfl, rfl, .inl (by rw [hK]; exact hq.sq), Nat.le_trans hz (by decide), q _ h2 (.str _) r2 G2 H2 w2 (e1.trans e2) S2 rfl⟩
  | _ => exact w2.elim
theorem se_split {name : Str} (hK : X.K = w.K) (hn : name = "split") (ho : SE X w F W oe t1) (hb : textBase oe = true) (hl : (apos.endLine == cpos.line) = true) (he : SE X w F W e t2) (hs : ∀ x p, e ≠ .Starred x p) :
    SE X w F W (.Call (.Attribute oe name apos) [e] [] cpos) (.smt .split t1 t2) := by
  subst hn
  refine pe_imp (pe_split ho he (nostar hs) (textBase_eq hb) hl) fun s H Q h => ?_
  obtain ⟨f, r, G, env, h, P, Xp, S, E, wp, q, qx⟩ := h
  refine ⟨f, r, G, env, h, _, Xp, S, E, wp, fun v h1 u r1 G1 H1 w1 e1 S1 rv => ?_, qx⟩
  obtain ⟨z, rfl, w1⟩ := strAt_of w1
  have ru : u = .str z := rv
  subst ru
  refine ⟨⟨z, rfl⟩, f, r1, G1, env, h1, _, Xp, S1, E.mono e1, w1, fun y h2 u2 r2 G2 H2 w2 e2 S2 rv2 => ?_, qx.mono e1⟩
  obtain ⟨x, ex, w2⟩ := optP_of w2
  obtain ⟨d, ed, w2⟩ := optP_of w2
  cases ex
  have rx := S2.read rv2 ed
  cases d with
  | str b =>
    have rx : u2 = .str b := rx
    subst rx
    obtain ⟨⟨hb0, hz⟩, w2⟩ := w2
    refine ⟨z, b, rfl, rfl, hb0, by rw [sizeLine_eq]; omega, fun pp hpp => ?_⟩
    obtain ⟨S3, e3⟩ := S2.lay hpp (.lst ((Txt.split z b).map L2.V.str))
    exact q _ h2 (.ref pp) r2 _ _ w2 ((e1.trans e2).trans e3) S3 ⟨pp, _, rfl, .inl (.inl upd_same), rp_strs _⟩
  | _ => exact w2.elim
theorem se_splitO {name : Str} (hK : X.K = w.K) (hn : name = "split") (ho : SE X w F W oe t1) (hb : textBase oe = true) (hl : (apos.endLine == cpos.line) = true) (he : SE X w F W e t2) (hs : ∀ x p, e ≠ .Starred x p) :
    SE X w F W (.Call (.Attribute oe name apos) [e] [] cpos) (.own (.smt .split t1 t2)) := by
  subst hn
  refine pe_imp (pe_split ho he (nostar hs) (textBase_eq hb) hl) fun s H Q h => ?_
  obtain ⟨f, r, G, env, h, P, Xp, S, E, wp, q, qx⟩ := h
  refine ⟨f, r, G, env, h, _, Xp, S, E, wp, fun v h1 u r1 G1 H1 w1 e1 S1 rv => ?_, qx⟩
  obtain ⟨z, rfl, w1⟩ := strAt_of w1
  have ru : u = .str z := rv
  subst ru
  refine ⟨⟨z, rfl⟩, f, r1, G1, env, h1, _, Xp, S1, E.mono e1, w1, fun y h2 u2 r2 G2 H2 w2 e2 S2 rv2 => ?_, qx.mono e1⟩
  obtain ⟨x, ex, w2⟩ := optP_of w2
  obtain ⟨d, ed, w2⟩ := optP_of w2
  cases ex
  have rx := S2.read rv2 ed
  cases d with
  | str b =>
    have rx : u2 = .str b := rx
    subst rx
    obtain ⟨⟨hb0, hz⟩, w2⟩ := w2
    refine ⟨z, b, rfl, rfl, hb0, by rw [sizeLine_eq]; omega, fun pp hpp => ?_⟩
    have g := (S2.fresh hpp).1
    obtain ⟨S3, e3, el⟩ := S2.alloc (x := .lst ((Txt.split z b).map L2.V.str)) hpp (o := .lst ((Txt.split z b).map PyData.str)) ⟨g, _, upd_same, rp_strs _⟩
    exact q _ _ (.ref pp) _ _ _ w2 ((e1.trans e2).trans e3) S3 ⟨pp, el, rfl⟩
  | _ => exact w2.elim
/-! ### f-texts -/
/-- a part: a text, or a value's text -/
inductive JPart (X : Cx) (w : Wo) (F : Phi) (W : WX) : Expr → T → TE → Prop where
  | con {m : Str} {e : Expr} (hm : m.length ≤ 100000) (h : PE X e (tC (.str m))) : JPart X w F W e (.con (.str m)) (tC (.str m))
  | fv {e : Expr} {t : T} {p : Pos} (h : SE X w F W e t) : JPart X w F W (.FormattedValue e (-1) none p) (.o1 .fmt t) (tFmt (rdE w F W t))
theorem JPart.pe {te : TE} (j : JPart X w F W e t te) : PE X e te := by
  cases j with
  | con _ h => exact h
  | fv h => exact pe_fmt h
theorem strInt_len {i : Int} (h0 : 0 ≤ i) (h1 : i < 10 ^ 200) : (strInt i).length ≤ 200 := by
  obtain ⟨n, rfl⟩ := Int.eq_ofNat_of_zero_le h0
  have e : TL.tl (strInt (n : Int)) = TL.numL n := TL.tl_num n
  have e2 : (strInt (n : Int)).length = (TL.numL n).length := by rw [← e]; rfl
  rw [e2]
  exact TL.numL_len (by decide) (by exact_mod_cast h1)
theorem JPart.run {te : TE} (j : JPart X w F W e t te) {f : L2.Hp} {r : List Addr} {G H : L2.Hp} {env : Env} {h : Hp} {P : Pv} {Xp : Px} {s : Sg} {Q : VK} (S : Sim w f r G h H) (E : EnvR w r G env s) (wp : WE F t env h P Xp) (qx : XOk w f r G Xp (fun c d H' => W c d s H'))
    (k : ∀ (z : Str) h1 r1 G1 H1, z.length ≤ 100000 → P (.d (.str z)) h1 → Ext r G r1 G1 → Sim w f r1 G1 h1 H1 → Q (.str z) H1) : te s H Q := by
  cases j with
  | con hm _ => exact k _ h r G H hm wp Ext.refl S
  | fv _ =>
    refine ⟨f, r, G, env, h, _, Xp, S, E, wp, fun v h1 u r1 G1 H1 w1 e1 S1 rv => ?_, qx⟩
    obtain ⟨d, ed, w1⟩ := optP_of w1
    have rd := S1.read rv ed
    cases d with
    | str z =>
      obtain ⟨hz, w1⟩ := w1
      exact .inl ⟨z, rd, by rw [sizeLine_eq]; omega, k z h1 r1 G1 H1 hz w1 e1 S1⟩
    | int i =>
      obtain ⟨⟨h0, h1'⟩, w1⟩ := w1
      refine .inr ⟨i, rd, ?_, k (strInt i) h1 r1 G1 H1 (Nat.le_trans (strInt_len h0 h1') (by decide)) w1 e1 S1⟩
      have hb : i.natAbs < 2 ^ 1000 := Nat.lt_of_lt_of_le (show i.natAbs < 10 ^ 200 by omega) (by decide)
      exact Nat.lt_of_lt_of_le (PySem.Flt.log2_lt_of (by omega) hb) (by omega)
    | _ => exact w1.elim
theorem empty_app (z : Str) : Str.empty ++ z = z := by
  obtain ⟨c⟩ := z
  show (⟨#[] ++ c⟩ : Str) = ⟨c⟩
  rw [Array.empty_append]
theorem app_len (y z : Str) : (y ++ z).length = y.length + z.length := by
  obtain ⟨c⟩ := y
  obtain ⟨d⟩ := z
  show (c ++ d).size = c.size + d.size
  exact Array.size_append
theorem se_joined2 {ta tb : TE} (ja : JPart X w F W e t1 ta) (jb : JPart X w F W e2 t2 tb) : SE X w F W (.JoinedStr [e, e2] pos) (.o2 .add t1 t2) := by
  refine pe_imp (pe_joined (.cons ja.pe (.cons jb.pe .nil))) fun s H Q h => ?_
  obtain ⟨f, r, G, env, h, P, Xp, S, E, wp, q, qx⟩ := h
  refine ja.run S E wp qx fun z h1 r1 G1 H1 hz w1 e1 S1 => ⟨z, rfl, by rw [empty_app, sizeLine_eq]; omega, ?_⟩
  refine jb.run S1 (E.mono e1) w1 (qx.mono e1) fun y h2 r2 G2 H2 hy w2 e2 S2 => ⟨y, rfl, by rw [empty_app, app_len, sizeLine_eq]; omega, ?_⟩
  show Q (.str (Str.empty ++ z ++ y)) H2
  rw [empty_app]
  have w2 : addP (.str z) (.str y) fun d => P (.d d) h2 := w2
  exact q _ h2 _ r2 G2 H2 w2.2 (e1.trans e2) S2 rfl
theorem se_joined3 {t3 : T} {ta tb tc : TE} (ja : JPart X w F W e t1 ta) (jb : JPart X w F W e2 t2 tb) (jc : JPart X w F W e3 t3 tc) : SE X w F W (.JoinedStr [e, e2, e3] pos) (.o2 .add (.o2 .add t1 t2) t3) := by
  refine pe_imp (pe_joined (.cons ja.pe (.cons jb.pe (.cons jc.pe .nil)))) fun s H Q h => ?_
  obtain ⟨f, r, G, env, h, P, Xp, S, E, wp, q, qx⟩ := h
  refine ja.run S E wp qx fun z h1 r1 G1 H1 hz w1 e1 S1 => ⟨z, rfl, by rw [empty_app, sizeLine_eq]; omega, ?_⟩
  refine jb.run S1 (E.mono e1) w1 (qx.mono e1) fun y h2 r2 G2 H2 hy w2 e2 S2 => ⟨y, rfl, by rw [empty_app, app_len, sizeLine_eq]; omega, ?_⟩
  have w2 : addP (.str z) (.str y) fun d => WE F t3 env h2 (fun u h3 => o2V .add h3 (.d d) u fun r => P r h3) Xp := w2
  refine jc.run S2 ((E.mono e1).mono e2) w2.2 ((qx.mono e1).mono e2) fun x h3 r3 G3 H3 hx w3 e3 S3 => ⟨x, rfl, by rw [empty_app, app_len, app_len, sizeLine_eq]; omega, ?_⟩
  show Q (.str (Str.empty ++ z ++ y ++ x)) H3
  rw [empty_app]
  have w3 : addP (.str (z ++ y)) (.str x) fun d => P (.d d) h3 := w3
  exact q _ h3 _ r3 G3 H3 w3.2 ((e1.trans e2).trans e3) S3 rfl
/-! ### a call of a def that a name holds -/
theorem fnIn_of {v : V} {fs : List Nat} {Q : Nat → Prop} (h : fnIn v fs Q) : ∃ g, v = .fn g ∧ g ∈ fs ∧ Q g := by
  cases v with
  | fn g => exact ⟨g, rfl, h.1, h.2⟩
  | _ => exact h.elim
theorem se_callf {i k : Nat} {x : Str} {fs : List Nat} (hK : X.K = w.K) (hr : Room k X.A) (hN : X.N[i]? = some x) (hv : Vis X.env.scope x) (hdb : (x == ("__debug__" : Str)) = false) (hcd : (x == ("__classdict__" : Str)) = false) (tk : Takes X W)
    (dk : ∀ g ∈ fs, ∃ y ps kwl, DefOk X.prog X.w X.mg X.base k w F g y ps kwl ∧ tlen t = ps.length) (ha : SA X w F W (e :: es) t) (hs : ∀ y ∈ e :: es, ∀ x p, y ≠ .Starred x p) :
    SE X w F W (.Call (.Name x p) (e :: es) [] pos) (.callf i fs t) := by
  refine ⟨fun pins s σ H Q I h => ?_⟩
  obtain ⟨f, r, G, env, h, P, Xp, S, E, wp, q, qx⟩ := h
  obtain ⟨o, eo, wp⟩ := optP_of wp
  obtain ⟨v, ev, wp⟩ := optP_of wp
  subst ev
  obtain ⟨g, rfl, hg, wp⟩ := fnIn_of wp
  obtain ⟨u, hu, ru⟩ := E.2 i _ eo
  have ru : u = .ref (w.fa g) := ru
  subst ru
  obtain ⟨y, ps, kwl, d, hl⟩ := dk g hg
  obtain ⟨fd, bd, _, fo⟩ := d.ok
  have kp := d.kp
  rw [← hK] at fo bd kp
  refine wpAny_Call_Name_kw (thn ((pe_var (pos := p) hN hv hdb hcd).run pins s σ H (fun v H1 => v = .ref (w.fa g) ∧ H1 = H) I ⟨_, hu, rfl, rfl⟩) fun uv s1 ⟨v, H1, I1, r1, q1⟩ => ?_)
  obtain ⟨rfl, rfl⟩ := q1
  cases r1
  refine PySem.W.callWith_K (h₀ := X.base) I.ok.mod.kin kp (thn (ha.run pos pins s1 σ _ (fun vs H2 => spOf w F ps.length g vs H2 Q (L2.WE W σ)) I1 ⟨f, r, G, env, h, _, Xp, S, E, wp, fun vs h1 us r1 G1 H2 w1 l1 e1 S1 rv => ?_, qx⟩) fun us s2 ⟨vs, H2, I2, rr, q⟩ => ⟨I2.kIn, ?_⟩) (nostar (hs e (by simp))) (noany fun y hy => hs y (by simp [hy]))
  · exact ⟨by rw [← rvAll_len rv, l1]; exact hl, f, r1, G1, vs, h1, P, Xp, S1, rv, w1, q.mono e1, qx.mono e1⟩
  · exact run_fnS (E := L2.WE W) fo hr bd (passAt tk σ) I2 rr q
/-! ### isinstance(a, (C, D, ..)), built-in classes -/
inductive BltEs (X : Cx) : List Expr → List Ty → Prop where
  | nil : BltEs X [] []
  | cons {e : Expr} {es : List Expr} {ty : Ty} {tys : List Ty} (h : PE X e (tC (.ty (tyN ty)))) (hs : ∀ x p, e ≠ .Starred x p) (r : BltEs X es tys) : BltEs X (e :: es) (ty :: tys)
theorem BltEs.pa {tys : List Ty} (h : BltEs X es tys) : PA X es (fun _ H Q => Q (tys.map fun t => .ty (tyN t)) H) := by
  induction h with
  | nil => exact pa_imp pa_nil fun s H Q h => h
  | cons h hs _ ih => exact pa_imp (pa_cons h ih (nostar hs)) fun s H Q q => q
theorem blt_paired : ∀ tys : List Ty, Paired ClsV (tys.map fun t => L2.V.ty (tyN t)) (tys.map fun t => Value.type (tyN t))
  | [] => .nil
  | t :: ts => .cons (.ty _) (blt_paired ts)
theorem blt_any {K : PySem.W.Frag} (k : Kd) : ∀ tys : List Ty, tys.all builtinTy = true → PySem.W.kitAny K (.type (kdN k)) (tys.map fun t => Value.type (tyN t)) = some (tys.any fun t => kdIs k t)
  | [], _ => rfl
  | t :: ts, h => by
    rw [List.all_cons, Bool.and_eq_true] at h
    rw [List.map_cons, List.any_cons]
    refine kitAny_cons (kit_ty (kd_kit k t h.1)) (fun z => ?_) fun z => by rw [z, Bool.true_or]
    rw [z, Bool.false_or]
    exact blt_any k ts h.2
theorem se_isbt {tys : List Ty} {tp : Pos} {k : Nat} (hK : X.K = w.K) (hg : Gl X "isinstance") (hm : X.mg "isinstance" = none) (hb : tys.all builtinTy = true) (hne : tys ≠ []) (hl : tys.length ≤ 100) (hc : BltEs X es tys)
    (ha : SE X w F W e t) (hs : ∀ x p, e ≠ .Starred x p) : SE X w F W (.Call (.Name "isinstance" p) [e, .Tuple es k tp] [] pos) (.isi t tys) := by
  have nt : ∀ x p, Expr.Tuple es k tp ≠ .Starred x p := by intro x p z; cases z
  refine pe_imp (pe_callB call_isEt hg hm (by decide +kernel) (pa_cons ha (pa_cons (pe_tup hc.pa) pa_nil (nostar nt)) (nostar hs)) (by decide) (by decide) (nostar hs) (noany (by intro e he x p hz; simp at he; subst he; exact nt x p hz))) fun s H Q h => ?_
  obtain ⟨f, r, G, env, h, P, Xp, S, E, wp, q, qx⟩ := h
  refine ⟨f, r, G, env, h, _, Xp, S, E, wp, fun v h1 u r1 G1 H1 w1 e1 S1 rv => ?_, qx⟩
  refine ⟨by rw [List.length_map, big_eq]; unfold big; omega, fun pt hpt => ?_⟩
  obtain ⟨S2, e2⟩ := S1.lay hpt (.tup (tys.map fun t => .ty (tyN t)))
  obtain ⟨kd, tx, w2⟩ := kd_of S2 (Rv.mono e2 _ _ rv) w1 hb hne
  exact ⟨u, pt, _, .type (kdN kd), _, _, rfl, upd_same, blt_paired tys, .inl (by rw [hK]; exact tx), blt_any kd tys hb, q _ h1 (.bl _) r1 _ _ w2 (e1.trans e2) S2 rfl⟩
end
end Hb

/-! DKS: dicts of the module, from texts to defs: z in D, D[z], for z in D. -/
namespace Hb
open PySem PySem.Spec PyProof.Rows
open L2 hiding V Hp St
set_option autoImplicit false
/-- an entry: a text, a def -/
def VlR (w : Wo) (g : Nat) (v : Value) : Prop := match Nat.blt g 1000000 with
  | true => v = .ref (w.fa g)
  | false => ∃ t, v = .int ((g - 1000000 : Nat) : Int) t
def EnR (w : Wo) (q : Str × Nat) (e : DictEntry) : Prop := (∃ t, e.key = .str q.1 t) ∧ e.hash = PyData.keyHash w.pm q.1 ∧ VlR w q.2 e.val
/-- what is found -/
def FdR (w : Wo) (o : Option Nat) (r : Option Value) : Prop := match o with
  | some g => ∃ v, r = some v ∧ VlR w g v
  | none => r = none
structure DcAt (K : PySem.W.Frag) (w : Wo) (kvs : List (Str × Nat)) (d : Addr) (es : Array DictEntry) (n : Nat) : Prop where
  at_ : K.lookup d = some ⟨.type "dict", none, .dict es n, #[]⟩
  low : (d == sysModules) = false
  en : All2 (EnR w) kvs es.toList
theorem lit_of {w : Wo} : ∀ {kvs : List (Str × Nat)} {es : List DictEntry}, All2 (EnR w) kvs es → PySem.W.KeysLit w.pm es
  | _, _, .nil => trivial
  | _, _, .cons (a := q) ⟨⟨t, e1⟩, e2, _⟩ r => ⟨⟨q.1, t, e1, e2⟩, lit_of r⟩
theorem beqS (k z : Str) : (k == z) = decide (k = z) := by
  by_cases h : k = z
  · rw [decide_eq_true h]
    exact beq_iff_eq.mpr h
  · rw [decide_eq_false h]
    exact beq_eq_false_iff_ne.mpr h
theorem find_en {w : Wo} {z : Str} : ∀ {kvs : List (Str × Nat)} {es : List DictEntry}, All2 (EnR w) kvs es → FdR w (kvs.lookup z) ((es.find? (·.key.isStr z)).map (·.val)) ∧ es.any (·.refKey) = false
  | _, _, .nil => ⟨rfl, rfl⟩
  | _, _, .cons (a := q) (b := e) (as := kvs) (bs := es) ⟨⟨t, e1⟩, e2, e3⟩ r => by
    obtain ⟨i1, i2⟩ := find_en (z := z) r
    obtain ⟨k, g⟩ := q
    have rk : e.refKey = false := by unfold DictEntry.refKey; rw [e1]
    refine ⟨?_, by rw [List.any_cons, rk, i2]; rfl⟩
    have h0 : e.key.isStr z = decide (k = z) := by
      rw [e1]
      exact beqS k z
    rw [List.find?_cons, List.lookup_cons, h0]
    by_cases h : k = z
    · subst h
      rw [decide_eq_true rfl, beq_self_eq_true]
      exact ⟨e.val, rfl, e3⟩
    · rw [decide_eq_false h, show (z == k) = false by simpa using fun q => h q.symm]
      exact i1
section
variable {X : Cx} {w : Wo} {F : Phi} {W : WX} {tg e : Expr} {t : T} {p pos : Pos} {kvs : List (Str × Nat)} {d : Addr} {es : Array DictEntry} {n : Nat}
theorem DcAt.get (D : DcAt w.K w kvs d es n) (z : Str) : ∃ r, PySem.W.nsIn w.K d z = some r ∧ FdR w (kvs.lookup z) r := by
  obtain ⟨i1, i2⟩ := find_en (z := z) D.en
  refine ⟨_, ?_, i1⟩
  unfold PySem.W.nsIn
  rw [D.at_]
  show (match es.toList.find? (·.key.isStr z) with
    | some e => some (some e.val)
    | none => if es.toList.any (·.refKey) then none else some none) = _
  cases h : es.toList.find? (·.key.isStr z) with
  | some en => rfl
  | none =>
    rw [i2]
    rfl
theorem FdR.some_iff {o : Option Nat} {r : Option Value} (h : FdR w o r) : r.isSome = o.isSome := by
  cases o with
  | none => have h : r = none := h; rw [h]; rfl
  | some g => obtain ⟨v, rfl, _⟩ := h; rfl
theorem DcAt.kd (hK : X.K = w.K) (hp : w.pm = X.w.params) (D : DcAt w.K w kvs d es n) : KDict X.K X.w d es n := ⟨by rw [hK]; exact D.at_, by rw [← hp]; exact lit_of D.en, D.low⟩
theorem lookup_mem {z : Str} : ∀ kvs : List (Str × Nat), (kvs.lookup z).isSome = decide (z ∈ kvs.map (·.1))
  | [] => rfl
  | (k, g) :: kvs => by
    rw [List.lookup_cons, List.map_cons]
    by_cases h : z = k
    · subst h
      rw [beq_self_eq_true, decide_eq_true (List.mem_cons_self ..)]
      rfl
    · rw [beq_eq_false_iff_ne.mpr h, show decide (z ∈ k :: kvs.map (·.1)) = decide (z ∈ kvs.map (·.1)) by simp [h]]
      exact lookup_mem kvs
theorem strV_of {v : V} {Q : Str → Prop} (h : strV v Q) : ∃ z, v = .d (.str z) ∧ Q z := by
  cases v with
  | d d => cases d with
    | str z => exact ⟨z, rfl, h⟩
    | _ => exact h.elim
  | _ => exact h.elim
theorem look_at {z : Str} {g : Nat} {b : Bool} : ∀ {kvs : List (Str × Nat)}, (kvs.all fun q => Nat.blt q.2 1000000 == b) = true → kvs.lookup z = some g → Nat.blt g 1000000 = b
  | [], _, h => by cases h
  | (k, x) :: kvs, ha, h => by
    rw [List.all_cons, Bool.and_eq_true] at ha
    rw [List.lookup_cons] at h
    cases e : z == k with
    | true => rw [e] at h; cases h; exact eq_of_beq ha.1
    | false => rw [e] at h; exact look_at ha.2 h
/-- D[z], a def -/
theorem se_dkix (hK : X.K = w.K) (hp : w.pm = X.w.params) (D : DcAt w.K w kvs d es n) (hb : (kvs.all fun q => Nat.blt q.2 1000000 == true) = true) {x : Expr} (hx : PE X x (tC (.ref d))) (he : SE X w F W e t) (hs : PlainIx e) : SE X w F W (.Subscript x e pos) (.dkix kvs t) :=
  pe_imp (pe_ix ix_kdict hx he hs) fun s H Q h => by
    obtain ⟨f, r, G, env, h, P, Xp, S, E, wp, q, qx⟩ := h
    refine ⟨f, r, G, env, h, _, Xp, S, E, wp, fun v h1 u r1 G1 H1 w1 e1 S1 rv => ?_, qx⟩
    obtain ⟨z, rfl, w1⟩ := strV_of w1
    obtain ⟨g, eg, w1⟩ := optP_of w1
    have ru : u = .str z := rv
    subst ru
    have k := D.kd hK hp
    obtain ⟨rr, e2, e3⟩ := D.get z
    have eb := look_at hb eg
    rw [eg] at e3
    obtain ⟨vv, rfl, e3⟩ := e3
    unfold VlR at e3
    rw [eb] at e3
    have e3 : vv = .ref (w.fa g) := e3
    subst e3
    exact ⟨d, z, .ref (w.fa g), rfl, rfl, ⟨es, n, .ref (w.fa g), k.at_, k.lit, by rw [hK, e2], rfl⟩, q (.fn g) h1 _ r1 G1 H1 w1 e1 S1 rfl⟩
/-- D[z], a number -/
theorem se_dknm (hK : X.K = w.K) (hp : w.pm = X.w.params) (D : DcAt w.K w kvs d es n) (hb : (kvs.all fun q => Nat.blt q.2 1000000 == false) = true) {x : Expr} (hx : PE X x (tC (.ref d))) (he : SE X w F W e t) (hs : PlainIx e) : SE X w F W (.Subscript x e pos) (.dknm kvs t) :=
  pe_imp (pe_ix ix_kdict hx he hs) fun s H Q h => by
    obtain ⟨f, r, G, env, h, P, Xp, S, E, wp, q, qx⟩ := h
    refine ⟨f, r, G, env, h, _, Xp, S, E, wp, fun v h1 u r1 G1 H1 w1 e1 S1 rv => ?_, qx⟩
    obtain ⟨z, rfl, w1⟩ := strV_of w1
    obtain ⟨g, eg, w1⟩ := optP_of w1
    have ru : u = .str z := rv
    subst ru
    have k := D.kd hK hp
    obtain ⟨rr, e2, e3⟩ := D.get z
    have eb := look_at hb eg
    rw [eg] at e3
    obtain ⟨vv, rfl, e3⟩ := e3
    unfold VlR at e3
    rw [eb] at e3
    obtain ⟨t, rfl⟩ : ∃ t, vv = .int ((g - 1000000 : Nat) : Int) t := e3
    exact ⟨d, z, .int ((g - 1000000 : Nat) : Int), rfl, rfl, ⟨es, n, .int ((g - 1000000 : Nat) : Int) t, k.at_, k.lit, by rw [hK, e2], ⟨t, rfl⟩⟩, q (.d (.int _)) h1 _ r1 G1 H1 w1 e1 S1 rfl⟩
/-- z in D -/
theorem dkin_rd (hK : X.K = w.K) (D : DcAt w.K w kvs d es n) {s : Sg} {H : L2.Hp} {Q : VK} (h : rdE w F W (.dkin (kvs.map (·.1)) t) s H Q) :
    tOp (fun x y H Q => ∃ (z : Str) (r : Option Value), x = .str z ∧ y = .ref d ∧ PySem.W.nsIn X.K d z = some r ∧ Q (.bl r.isSome) H) (rdE w F W t) (tC (.ref d)) s H Q := by
  obtain ⟨f, r, G, env, h, P, Xp, S, E, wp, q, qx⟩ := h
  refine ⟨f, r, G, env, h, _, Xp, S, E, wp, fun v h1 u r1 G1 H1 w1 e1 S1 rv => ?_, qx⟩
  obtain ⟨z, rfl, w1⟩ := strV_of w1
  have ru : u = .str z := rv
  subst ru
  obtain ⟨rr, e2, e3⟩ := D.get z
  refine ⟨z, _, rfl, rfl, by rw [hK]; exact e2, ?_⟩
  rw [e3.some_iff, lookup_mem]
  exact q (.d (.bool _)) h1 _ r1 G1 H1 w1 e1 S1 rfl
theorem dkni_rd (hK : X.K = w.K) (D : DcAt w.K w kvs d es n) {s : Sg} {H : L2.Hp} {Q : VK} (h : rdE w F W (.dkni (kvs.map (·.1)) t) s H Q) :
    tOp (fun x y H Q => ∃ (z : Str) (r : Option Value), x = .str z ∧ y = .ref d ∧ PySem.W.nsIn X.K d z = some r ∧ Q (.bl (!r.isSome)) H) (rdE w F W t) (tC (.ref d)) s H Q := by
  obtain ⟨f, r, G, env, h, P, Xp, S, E, wp, q, qx⟩ := h
  refine ⟨f, r, G, env, h, _, Xp, S, E, wp, fun v h1 u r1 G1 H1 w1 e1 S1 rv => ?_, qx⟩
  obtain ⟨z, rfl, w1⟩ := strV_of w1
  have ru : u = .str z := rv
  subst ru
  obtain ⟨rr, e2, e3⟩ := D.get z
  refine ⟨z, _, rfl, rfl, by rw [hK]; exact e2, ?_⟩
  rw [e3.some_iff, lookup_mem]
  exact q (.d (.bool _)) h1 _ r1 G1 H1 w1 e1 S1 rfl
theorem se_dkin (hK : X.K = w.K) (hp : w.pm = X.w.params) (D : DcAt w.K w kvs d es n) {x : Expr} (hx : PE X x (tC (.ref d))) (he : SE X w F W e t) (hm : behindInMarks .In x = false) : SE X w F W (.Compare e [.In] [x] pos) (.dkin (kvs.map (·.1)) t) :=
  pe_imp (pe_cmpR (op_in_kd (D.kd hK hp)) he hx hm) fun _ _ _ h => dkin_rd hK D h
theorem st_dkin (hK : X.K = w.K) (hp : w.pm = X.w.params) (D : DcAt w.K w kvs d es n) {x : Expr} (hx : PE X x (tC (.ref d))) (he : SE X w F W e t) (hm : behindInMarks .In x = false) : ST X w F W (.Compare e [.In] [x] pos) (.dkin (kvs.map (·.1)) t) :=
  pt_imp (pt_cmpR (op_in_kd (D.kd hK hp)) he hx hm) fun s H Q h => rdT_tB (te := _) (fun _ _ _ h => dkin_rd hK D h) h
theorem se_dkni (hK : X.K = w.K) (hp : w.pm = X.w.params) (D : DcAt w.K w kvs d es n) {x : Expr} (hx : PE X x (tC (.ref d))) (he : SE X w F W e t) (hm : behindInMarks .NotIn x = false) : SE X w F W (.Compare e [.NotIn] [x] pos) (.dkni (kvs.map (·.1)) t) :=
  pe_imp (pe_cmpR (op_notIn_kd (D.kd hK hp)) he hx hm) fun _ _ _ h => dkni_rd hK D h
theorem st_dkni (hK : X.K = w.K) (hp : w.pm = X.w.params) (D : DcAt w.K w kvs d es n) {x : Expr} (hx : PE X x (tC (.ref d))) (he : SE X w F W e t) (hm : behindInMarks .NotIn x = false) : ST X w F W (.Compare e [.NotIn] [x] pos) (.dkni (kvs.map (·.1)) t) :=
  pt_imp (pt_cmpR (op_notIn_kd (D.kd hK hp)) he hx hm) fun s H Q h => rdT_tB (te := _) (fun _ _ _ h => dkni_rd hK D h) h
/-! ### a == C, C a tuple of the module -/
/-- a tuple of the module, as it is known -/
structure KcAt (K : PySem.W.Frag) (c : D) (a : Addr) : Prop where
  dp : ∀ H, Dp K H (.ref a) c
  sh : shp c
theorem eqk_rd {c : D} {a : Addr} (hK : X.K = w.K) (C : KcAt w.K c a) {s : Sg} {H : L2.Hp} {Q : VK} (h : rdE w F W (.eqk c t) s H Q) : tOp (rEqD X.K) (rdE w F W t) (tC (.ref a)) s H Q := by
  obtain ⟨f, r, G, env, h, P, Xp, S, E, wp, q, qx⟩ := h
  refine ⟨f, r, G, env, h, _, Xp, S, E, wp, fun v h1 u r1 G1 H1 w1 e1 S1 rv => ?_, qx⟩
  obtain ⟨x, ex, sx, w1⟩ := optP_of w1
  have rx := S1.read rv ex
  exact ⟨x, c, by rw [hK]; exact rx.dp S1.sub sx, by rw [hK]; exact C.dp H1, sx, C.sh, q (.d (.bool _)) h1 _ r1 G1 H1 w1 e1 S1 rfl⟩
theorem se_eqk {c : D} {a : Addr} (hu : X.A.units + 65 < cLine) (hK : X.K = w.K) (C : KcAt w.K c a) {x : Expr} (hx : PE X x (tC (.ref a))) (he : SE X w F W e t) (hm : behindInMarks .Eq x = false) : SE X w F W (.Compare e [.Eq] [x] pos) (.eqk c t) :=
  pe_imp (pe_cmpR (op_eqD (by omega)) he hx hm) fun _ _ _ h => eqk_rd hK C h
theorem st_eqk {c : D} {a : Addr} (hu : X.A.units + 65 < cLine) (hK : X.K = w.K) (C : KcAt w.K c a) {x : Expr} (hx : PE X x (tC (.ref a))) (he : SE X w F W e t) (hm : behindInMarks .Eq x = false) : ST X w F W (.Compare e [.Eq] [x] pos) (.eqk c t) :=
  pt_imp (pt_cmpR (op_eqD (by omega)) he hx hm) fun s H Q h => rdT_tB (te := _) (fun _ _ _ h => eqk_rd hK C h) h
/-! ### for z in D -/
def Itw (ws : List Str) : It := ⟨fun i _ => i < ws.length, fun i H x H' => H' = H ∧ ∃ z, ws[i]? = some z ∧ x = .str z, fun i _ => ws.length ≤ i⟩
theorem turn_dk {P : Program} {ww : World} {K : PySem.W.Frag} (D : DcAt K w kvs d es n) (it : Addr) : Turn P ww K tg (Itw (kvs.map (·.1))) [it] it (fun i h => h.IsKeyIter it d i kvs.length n) where
  mem := by simp
  obj := fun i h st b hb => by
    have e : b = it := by simpa using hb
    subst e
    obtain ⟨oi, e, c, dd⟩ := st
    exact ⟨oi, e, fun v z => by rw [dd] at z; cases z⟩
  keep := fun i h h' st k => st.at fun oi e => k it (by simp) oi e
  item := by
    intro X hP hw hK hc i pins s σ H E I hf st hg
    subst hP hw hK
    have hg : i < (kvs.map (·.1)).length := hg
    obtain ⟨f0, f1, f2, f3, f4, f5⟩ := hf it (by simp)
    have hgd := I.kIn d _ D.at_
    have hi : i < kvs.length := by rw [List.length_map] at hg; exact hg
    have hsz : es.size = kvs.length := by rw [← Array.length_toList]; exact D.en.length.symm
    obtain ⟨en, hen, ⟨⟨t, hk⟩, _, _⟩⟩ := D.en.getL (List.getElem?_eq_getElem hi)
    refine next_key_item st hgd rfl hsz (by rw [← Array.getElem?_toList]; exact hen) fun h' st' sb => ?_
    have I1 : Inv X pins σ H { s with heap := h' } := I.turned (t' := s.toks) (fun b ob hb e => (sb.2 b hb).trans e) f0 f1 f3 f4 f5
    obtain ⟨oi, e, c, dd⟩ := id st'
    exact ⟨en.key, rfl, go_of (s := { s with heap := h' }) e c dd (by decide) ⟨.str kvs[i].1, H, I1, ⟨t, hk⟩, ⟨rfl, kvs[i].1, by rw [List.getElem?_map, List.getElem?_eq_getElem hi]; rfl, rfl⟩, st', fun b hb => (hf b hb).1⟩⟩
  done := by
    intro X hP hw hK hc i pins s σ H E I hf st hg
    subst hP hw hK
    have hg : (kvs.map (·.1)).length ≤ i := hg
    obtain ⟨f0, f1, f2, f3, f4, f5⟩ := hf it (by simp)
    have hgd := I.kIn d _ D.at_
    have hsz : es.size = kvs.length := by rw [← Array.length_toList]; exact D.en.length.symm
    exact next_key_end (I.ok.hd hc) st hgd rfl hsz (by rw [List.length_map] at hg; exact hg) fun h' eb => ⟨rfl, I.turned (t' := s.toks) (fun b ob hb e => eb b ob hb e) f0 f1 f3 f4 f5⟩
  self := fun A i s Q E st h => wpAny_pyIter_keyiter st h
theorem serves_dk {r : List Addr} {G : L2.Hp} {ws : List Str} : Serves true w r G (Itw ws) (fun _ => True) (ws.map fun z => V.d (.str z)) := by
  refine ⟨fun f' i r' G' h' H' e S' _ hj => ?_, fun f' r' G' h' H' e S' _ => ?_⟩
  · rw [List.length_map] at hj
    refine ⟨hj, fun x H2 y => ?_⟩
    obtain ⟨rfl, z, ez, rfl⟩ := y
    exact ⟨G', .d (.str z), Ext.refl, S', by rw [List.getElem?_map, ez]; rfl, rfl⟩
  · rw [List.length_map]
    exact Nat.le_refl _
theorem si_dkit (hK : X.K = w.K) (D : DcAt w.K w kvs d es n) {x : Expr} (hx : PE X x (tC (.ref d))) : SI X w F W tg x (.dkit (kvs.map (·.1))) := by
  refine ⟨fun pins s σ H R I h => ?_⟩
  obtain ⟨f, r, G, env, h, P, Xp, S, E, wp, q, qx⟩ := h
  refine thn (hx.run pins s σ H (fun u H1 => u = .ref d ∧ H1 = H) I ⟨rfl, rfl⟩) fun uv s1 ⟨u, H1, I1, ru, hu, hH⟩ => ?_
  subst hu hH
  obtain rfl : uv = Value.ref d := ru
  have D' : DcAt X.K w kvs d es n := by rw [hK]; exact D
  have hgd := I1.kIn d _ D'.at_
  have hsz : es.size = kvs.length := by rw [← Array.length_toList]; exact D.en.length.symm
  refine iter_keys D.low hgd ⟨rfl, rfl, rfl⟩ rfl (pi_one (tk := s1.toks) I1 _ (turn_dk D' _) ⟨_, Heap.get?_push_size _ rfl, rfl, ?_⟩ (q _ _ h r G _ _ wp Ext.refl S serves_dk))
  rw [hsz] <;> rfl
end
end Hb

/-! ZP3: zip of three lists or tuples. -/
namespace Hb
open PySem PySem.Spec PyProof.Rows
open L2 hiding V Hp St
set_option autoImplicit false
def mkZ3 (K : PySem.W.Frag) (tp tq tu : Bool) (a b c : Addr) (H : L2.Hp) (i : Nat) (ws : List L2.V) : Prop := ∀ us vs us3, SqA K H tp a us → SqA K H tq b vs → SqA K H tu c us3 → ∃ x y u, ws = [x, y, u] ∧ us[i]? = some x ∧ vs[i]? = some y ∧ us3[i]? = some u
set_option maxHeartbeats 2000000 in
theorem turn_zip3 {P : Program} {w : World} {K : PySem.W.Frag} {elts : List Expr} {kk : Nat} {tpos : Pos} (tp tq tu : Bool) {a b d z TI TO i1 i2 i3 : Addr} (n m l : Nat) (ZS : ZipSep3 z TI TO i1 i2 i3 [i1, a] [i2, b] [i3, d]) (n1 : a ≠ i1) (n2 : b ≠ i2) (n3 : d ≠ i3) :
    Turn P w K (.Tuple elts kk tpos) (ItF (fun H => src1 K tp a n H ∧ src1 K tq b m H ∧ src1 K tu d l H) (min (min n m) l) (mkZ3 K tp tq tu a b d)) [z, TI, TO, i1, i2, i3] z
      (fun i h => IsZip h z TI TO .none ∧ IsTupOf3 h TI (.ref i1) (.ref i2) (.ref i3) ∧ (∃ x y u, IsTupOf3 h TO x y u) ∧ IsItA tp h i1 a i ∧ IsItA tq h i2 b i ∧ IsItA tu h i3 d i) where
  mem := by simp
  obj := fun i h st c hc => by
    obtain ⟨hz, hTI, ⟨x, y, u, hTO⟩, h1, h2, h3⟩ := st
    have e' : c = z ∨ c = TI ∨ c = TO ∨ c = i1 ∨ c = i2 ∨ c = i3 := by simpa using hc
    rcases e' with q | q | q | q | q | q
    · rw [q]; exact ⟨_, hz, fun v q => nomatch q⟩
    · rw [q]; exact ⟨_, hTI, fun v q => nomatch q⟩
    · rw [q]; exact ⟨_, hTO, fun v q => nomatch q⟩
    · rw [q]; exact itA_obj h1
    · rw [q]; exact itA_obj h2
    · rw [q]; exact itA_obj h3
  keep := fun i h h' st k => by
    obtain ⟨hz, hTI, ⟨x, y, u, hTO⟩, h1, h2, h3⟩ := st
    exact ⟨k z (by simp) _ hz, k TI (by simp) _ hTI, ⟨x, y, u, k TO (by simp) _ hTO⟩, itA_at h1 fun o q => k i1 (by simp) o q, itA_at h2 fun o q => k i2 (by simp) o q, itA_at h3 fun o q => k i3 (by simp) o q⟩
  item := by
    intro X hP hw hK hc i pins s σ H E I hf st hg
    subst hP hw hK
    obtain ⟨⟨⟨us, s1, hus⟩, ⟨vs, s2, hvs⟩, ⟨ws, s3, hws⟩⟩, hlt⟩ := hg
    subst hus hvs hws
    obtain ⟨its, rv, hs1, _⟩ := sqA_src I s1
    obtain ⟨its2, rv2, hs2, _⟩ := sqA_src I s2
    obtain ⟨its3, rv3, hs3, _⟩ := sqA_src I s3
    have hl := rv.length
    have hl2 := rv2.length
    have hl3 := rv3.length
    have st0 := st
    obtain ⟨hz, hTI, hTO, h1, h2, h3⟩ := st
    have D1 := draws_A (prog := X.prog) (w := X.w) (A := X.A.in1) (I.ok.hd hc) tp i1 a n1 its.toArray
    have D2 := draws_A (prog := X.prog) (w := X.w) (A := X.A.in1) (I.ok.hd hc) tq i2 b n2 its2.toArray
    have D3 := draws_A (prog := X.prog) (w := X.w) (A := X.A.in1) (I.ok.hd hc) tu i3 d n3 its3.toArray
    have Gn := GoesN.zip3 (elts := elts) (x1 := kk) (pos := tpos) ZS D1 D2 D3
    refine Gn.goes i s _ E (by simp; omega) ⟨hz, hTI, hTO, ⟨h1, hs1⟩, ⟨h2, hs2⟩, ⟨h3, hs3⟩⟩ fun v h' tk hY st' hk htk => ?_
    obtain ⟨T, x, y, u, rfl, hT, hx, hy, hu3, hTup⟩ := hY
    have hn : H T = none := I.hok.fresh hT
    have hu : its[i]? = some x := by simpa using hx
    have hv : its2[i]? = some y := by simpa using hy
    have hw3 : its3[i]? = some u := by simpa using hu3
    have hiu : i < us.length := by omega
    have hiv : i < vs.length := by omega
    have hiw : i < ws.length := by omega
    obtain ⟨x', hx', rx⟩ := rv.get (List.getElem?_eq_getElem hiu)
    obtain ⟨y', hy', ry⟩ := rv2.get (List.getElem?_eq_getElem hiv)
    obtain ⟨u', hu', ru⟩ := rv3.get (List.getElem?_eq_getElem hiw)
    rw [hu] at hx'
    rw [hv] at hy'
    rw [hw3] at hu'
    cases hx'
    cases hy'
    cases hu'
    have new : ObjOk X.prog X.w (upd H T (.tup [us[i], vs[i], ws[i]])) h' T (.tup [us[i], vs[i], ws[i]]) := by
      obtain ⟨o, ho, hcl, m, hd⟩ := hTup
      exact ⟨by show 3 ≤ sizeLine; decide, [x, y, u], .cons rx (.cons ry (.cons ru .nil)), ⟨o, ho, hcl, m, hd⟩⟩
    have I1 : Inv X pins σ (upd H T (.tup [us[i], vs[i], ws[i]])) { s with heap := h', toks := tk } := I.turnedNew (ch := [z, TI, TO, i1, i2, i3]) (fun c o hb q => hk c o (fun z => hb (by simp at z ⊢; rcases z with z | z | z | z | z <;> simp [z])) q) hf hT new
    obtain ⟨hz', hTI', hTO', ⟨h1', _⟩, ⟨h2', _⟩, ⟨h3', _⟩⟩ := st'
    refine ⟨.ref T, _, I1, rfl, ⟨T, _, rfl, hn, rfl, fun us' vs' ws' hu' hv' hw' => ⟨us[i], vs[i], ws[i], rfl, by rw [← sqA_inj I s1 hu']; exact List.getElem?_eq_getElem hiu, by rw [← sqA_inj I s2 hv']; exact List.getElem?_eq_getElem hiv, by rw [← sqA_inj I s3 hw']; exact List.getElem?_eq_getElem hiw⟩⟩, ⟨hz', hTI', hTO', h1', h2', h3'⟩, fun c hcm => ?_⟩
    have hb' : c ≠ T := fun zz => by
      obtain ⟨x0, y0, u0, hTO⟩ := hTO
      obtain ⟨o1, ho1, _⟩ := itA_obj h1
      obtain ⟨o2, ho2, _⟩ := itA_obj h2
      obtain ⟨o3, ho3, _⟩ := itA_obj h3
      have : c < s.heap.objs.size := by
        have e' : c = z ∨ c = TI ∨ c = TO ∨ c = i1 ∨ c = i2 ∨ c = i3 := by simpa using hcm
        rcases e' with q | q | q | q | q | q
        · rw [q]; exact Heap.lt_size hz
        · rw [q]; exact Heap.lt_size hTI
        · rw [q]; exact Heap.lt_size hTO
        · rw [q]; exact Heap.lt_size ho1
        · rw [q]; exact Heap.lt_size ho2
        · rw [q]; exact Heap.lt_size ho3
      rw [zz] at this
      exact absurd (Nat.lt_of_lt_of_le this hT) (Nat.lt_irrefl _)
    rw [upd_ne hb']
    exact (hf c hcm).1
  done := by
    intro X hP hw hK hc i pins s σ H E I hf st hg
    subst hP hw hK
    obtain ⟨⟨⟨us, s1, hus⟩, ⟨vs, s2, hvs⟩, ⟨ws, s3, hws⟩⟩, hlt⟩ := hg
    subst hus hvs hws
    obtain ⟨its, rv, hs1, _⟩ := sqA_src I s1
    obtain ⟨its2, rv2, hs2, _⟩ := sqA_src I s2
    obtain ⟨its3, rv3, hs3, _⟩ := sqA_src I s3
    have hl := rv.length
    have hl2 := rv2.length
    have hl3 := rv3.length
    obtain ⟨hz, hTI, hTO, h1, h2, h3⟩ := st
    have D1 := draws_A (prog := X.prog) (w := X.w) (A := X.A.in1) (I.ok.hd hc) tp i1 a n1 its.toArray
    have D2 := draws_A (prog := X.prog) (w := X.w) (A := X.A.in1) (I.ok.hd hc) tq i2 b n2 its2.toArray
    have D3 := draws_A (prog := X.prog) (w := X.w) (A := X.A.in1) (I.ok.hd hc) tu i3 d n3 its3.toArray
    have Gn := GoesN.zip3 (elts := elts) (x1 := kk) (pos := tpos) ZS D1 D2 D3
    have en : i = min (min its.toArray.size its2.toArray.size) its3.toArray.size := by simp; omega
    rw [en] at h1 h2 h3
    exact Gn.stops s _ E ⟨hz, hTI, hTO, ⟨h1, hs1⟩, ⟨h2, hs2⟩, ⟨h3, hs3⟩⟩ fun h' tk hk _ => I.turnedL (ch := [z, TI, TO, i1, i2, i3]) (fun c o hb q => hk c o (fun z => hb (by simp at z ⊢; rcases z with z | z | z | z | z <;> simp [z])) q) hf
  self := fun A i s Q E st h => wpAny_pyIter_zip st.1 h
theorem zip3D_len : ∀ (xs ys zs : List D), (zip3D xs ys zs).length = min (min xs.length ys.length) zs.length
  | [], _, _ => by simp [zip3D]
  | _ :: _, [], _ => by simp [zip3D]
  | _ :: _, _ :: _, [] => by simp [zip3D]
  | x :: xs, y :: ys, z :: zs => by show (zip3D xs ys zs).length + 1 = min (min (xs.length + 1) (ys.length + 1)) (zs.length + 1); rw [zip3D_len]; omega
theorem zip3D_get : ∀ (xs ys zs : List D) (i : Nat) (x y z : D), xs[i]? = some x → ys[i]? = some y → zs[i]? = some z → (zip3D xs ys zs)[i]? = some (.d (.tuple [x, y, z]))
  | [], _, _, _, _, _, _, h, _, _ => by simp at h
  | _ :: _, [], _, _, _, _, _, _, h, _ => by simp at h
  | _ :: _, _ :: _, [], _, _, _, _, _, _, h => by simp at h
  | x' :: xs, y' :: ys, z' :: zs, 0, x, y, z, h, h', h'' => by
    have h : some x' = some x := h
    have h' : some y' = some y := h'
    have h'' : some z' = some z := h''
    cases h
    cases h'
    cases h''
    rfl
  | _ :: xs, _ :: ys, _ :: zs, i + 1, x, y, z, h, h', h'' => zip3D_get xs ys zs i x y z h h' h''
section
variable {X : Cx} {w : Wo} {F : Phi} {W : WX} {e e2 e3 : Expr} {t t1 t2 t3 : T} {p pos tpos : Pos} {elts : List Expr} {kk : Nat}
theorem serves_zip3 {r : List Addr} {G : L2.Hp} {tp tq tu : Bool} {a b d : Addr} {c1 c2 c3 : Hp → Prop} {xs ys zs : List D} (sc : Src w r G tp a c1 xs) (sd : Src w r G tq b c2 ys) (se : Src w r G tu d c3 zs) :
    Serves false w r G (ItF (fun H => src1 w.K tp a xs.length H ∧ src1 w.K tq b ys.length H ∧ src1 w.K tu d zs.length H) (min (min xs.length ys.length) zs.length) (mkZ3 w.K tp tq tu a b d)) (fun h => c1 h ∧ c2 h ∧ c3 h) (zip3D xs ys zs) := by
  refine ⟨fun f' i r' G' h' H' e S c hi => ?_, fun f' r' G' h' H' e S c => ?_⟩
  · rw [zip3D_len] at hi
    obtain ⟨us, q, t⟩ := sc f' r' G' h' H' e S c.1
    obtain ⟨vs, q2, t2⟩ := sd f' r' G' h' H' e S c.2.1
    obtain ⟨ws, q3, t3⟩ := se f' r' G' h' H' e S c.2.2
    refine ⟨⟨⟨⟨us, q, (rpAll_len t).symm⟩, ⟨vs, q2, (rpAll_len t2).symm⟩, ⟨ws, q3, (rpAll_len t3).symm⟩⟩, hi⟩, fun x H2 y => ?_⟩
    obtain ⟨T, ws', rfl, hn, rfl, hm⟩ := y
    obtain ⟨x, y, u, rfl, hx, hy, hu⟩ := hm us vs ws q q2 q3
    obtain ⟨d, hd, rd⟩ := (rpAll_iff.mp t).getR hx
    obtain ⟨d2, hd2, rd2⟩ := (rpAll_iff.mp t2).getR hy
    obtain ⟨d3, hd3, rd3⟩ := (rpAll_iff.mp t3).getR hu
    obtain ⟨S2, e2⟩ := S.lay hn (.tup [x, y, u])
    exact ⟨_, _, e2, S2, zip3D_get xs ys zs i d d2 d3 hd hd2 hd3, ⟨T, _, rfl, .inl upd_same, _, _, rfl, Rp.mono e2.sub _ _ rd, _, _, rfl, Rp.mono e2.sub _ _ rd2, _, _, rfl, Rp.mono e2.sub _ _ rd3, rfl⟩⟩
  · rw [zip3D_len]
    obtain ⟨us, q, t⟩ := sc f' r' G' h' H' e S c.1
    obtain ⟨vs, q2, t2⟩ := sd f' r' G' h' H' e S c.2.1
    obtain ⟨ws, q3, t3⟩ := se f' r' G' h' H' e S c.2.2
    exact ⟨⟨⟨us, q, (rpAll_len t).symm⟩, ⟨vs, q2, (rpAll_len t2).symm⟩, ⟨ws, q3, (rpAll_len t3).symm⟩⟩, rfl⟩
theorem si_zip3 (hK : X.K = w.K) (hg : Gl X "zip") (hm : X.mg "zip" = none) (ha : SE X w F W e t1) (hb : SE X w F W e2 t2) (hc : SE X w F W e3 t3) (hs : ∀ x p, e ≠ .Starred x p) (hs2 : ∀ x p, e2 ≠ .Starred x p) (hs3 : ∀ x p, e3 ≠ .Starred x p) :
    SI X w F W (.Tuple elts kk tpos) (.Call (.Name "zip" p) [e, e2, e3] [] pos) (.zip3 t1 t2 t3) := by
  obtain ⟨wK, fa, ca, an, anj, xc, hu, pm⟩ := w
  have hK : X.K = wK := hK
  subst hK
  refine ⟨fun pins s σ H R I h => ?_⟩
  obtain ⟨f, r, G, env, h, P, Xp, S, E, wp, q, qx⟩ := h
  refine Call_ (ld_blt I hg hm PyProof.Rows.boot_zip (PyProof.Rows.callWith_type1 (thn ((pa_cons ha (pa_cons hb (pa_cons hc pa_nil (nostar hs3)) (nostar hs2)) (nostar hs)).run pos pins s σ H (fun us H1 => ∃ c1 c2 c3 xs ys zs h1 r1 G1 tp tq tu a b d, us = [.ref a, .ref b, .ref d] ∧ P (fun h => c1 h ∧ c2 h ∧ c3 h) (zip3D xs ys zs) h1 ∧ Ext r G r1 G1 ∧ Sim (Wo.mk X.K fa ca an anj xc hu pm) f r1 G1 h1 H1 ∧ c1 h1 ∧ c2 h1 ∧ c3 h1 ∧ Src (Wo.mk X.K fa ca an anj xc hu pm) r1 G1 tp a c1 xs ∧ Src (Wo.mk X.K fa ca an anj xc hu pm) r1 G1 tq b c2 ys ∧ Src (Wo.mk X.K fa ca an anj xc hu pm) r1 G1 tu d c3 zs) I
    ⟨f, r, G, env, h, _, Xp, S, E, wp, fun v h1 u r1 G1 H1 w1 e1 S1 rv => ?_, qx⟩) fun us s1 ⟨vs, H1, I1, r1, q1⟩ => ?_) (nostar hs) (noany (by simpa using ⟨hs2, hs3⟩))))
  · refine ⟨f, r1, G1, env, h1, _, Xp, S1, E.mono e1, w1, fun v2 h2 u2 r2 G2 H2 w2 e2 S2 rv2 => ?_, qx.mono e1⟩
    refine ⟨f, r2, G2, env, h2, _, Xp, S2, (E.mono e1).mono e2, w2, fun v3 h3 u3 r3 G3 H3 w3 e3 S3 rv3 => ?_, (qx.mono e1).mono e2⟩
    obtain ⟨c1, xs, tp, a, w3, ea, k1, sc⟩ := dsrc S3 (Rv.mono (e2.trans e3) _ _ rv) w3
    obtain ⟨c2, ys, tq, b, w3, eb, k2, sd⟩ := dsrc S3 (Rv.mono e3 _ _ rv2) w3
    obtain ⟨c3, zs, tu, d, w3, ed, k3, se⟩ := dsrc S3 rv3 w3
    subst ea eb ed
    exact ⟨c1, c2, c3, xs, ys, zs, h3, r3, G3, tp, tq, tu, a, b, d, rfl, w3, (e1.trans e2).trans e3, S3, k1, k2, k3, sc, sd, se⟩
  · obtain ⟨c1, c2, c3, xs, ys, zs, h1, r1', G1, tp, tq, tu, a, b, d, rfl, p1, e1, S1, k1, k2, k3, sc, sd, se⟩ := q1
    cases r1 with
    | cons ru rr =>
      cases rr with
      | cons ru2 rr =>
        cases rr with
        | cons ru3 rr =>
        cases rr
        cases ru
        cases ru2
        cases ru3
        obtain ⟨us0, hq, t0⟩ := sc f r1' G1 h1 H1 Ext.refl S1 k1
        obtain ⟨vs0, hq2, t02⟩ := sd f r1' G1 h1 H1 Ext.refl S1 k2
        obtain ⟨ws0, hq3, t03⟩ := se f r1' G1 h1 H1 Ext.refl S1 k3
        obtain ⟨its, rv, hs1, hlt⟩ := sqA_src I1 hq
        obtain ⟨its2, rv2, hs1', hlt2⟩ := sqA_src I1 hq2
        obtain ⟨its3, rv3, hs1'', hlt3⟩ := sqA_src I1 hq3
        refine zip_begins3 (begins_A tp a its.toArray) (begins_A tq b its2.toArray) (begins_A tu d its3.toArray) hs1 hs1' hs1'' fun h' hz hTI hTO hi1 hi2 hi3 hsz hk => wpAny_pyIter_zip hz ?_
        have I2 : Inv X pins σ H1 { s1 with heap := h' } := I1.kept (t' := s1.toks) hk
        have ZS : ZipSep3 (s1.heap.objs.size + 5) (s1.heap.objs.size + 3) (s1.heap.objs.size + 4) s1.heap.objs.size (s1.heap.objs.size + 1) (s1.heap.objs.size + 2) [s1.heap.objs.size, a] [s1.heap.objs.size + 1, b] [s1.heap.objs.size + 2, d] := zip_sep3 (by simpa using hlt) (by simpa using hlt2) (by simpa using hlt3)
        have T := turn_zip3 (P := X.prog) (w := X.w) (K := X.K) (elts := elts) (kk := kk) (tpos := tpos) tp tq tu xs.length ys.length zs.length ZS (Nat.ne_of_lt hlt) (Nat.ne_of_lt (Nat.lt_succ_of_lt hlt2)) (Nat.ne_of_lt (Nat.lt_succ_of_lt (Nat.lt_succ_of_lt hlt3)))
        refine ⟨s1.heap.objs.size + 5, [s1.heap.objs.size + 5, s1.heap.objs.size + 3, s1.heap.objs.size + 4, s1.heap.objs.size, s1.heap.objs.size + 1, s1.heap.objs.size + 2], _, _, H1, rfl, I2, T, ⟨hz, hTI, ⟨_, _, _, hTO⟩, itA_new hi1, itA_new hi2, itA_new hi3⟩, fun c hcm => ?_, q _ _ h1 r1' G1 H1 _ p1 e1 S1 (serves_zip3 sc sd se)⟩
        have hle : s1.heap.objs.size ≤ c := by
          have e' : c = s1.heap.objs.size + 5 ∨ c = s1.heap.objs.size + 3 ∨ c = s1.heap.objs.size + 4 ∨ c = s1.heap.objs.size ∨ c = s1.heap.objs.size + 1 ∨ c = s1.heap.objs.size + 2 := by simpa using hcm
          rcases e' with z | z | z | z | z | z <;> rw [z] <;> first | exact Nat.le_add_right _ _ | exact Nat.le_refl _
        exact I1.fpOk hle (I1.hok.fresh hle)
end
end Hb

/-! CHK: a checker: this text of the small language is that def's body. -/
namespace Hb
open PySem PySem.Spec PyProof.Rows
open L2 hiding V Hp St
set_option autoImplicit false
/-! ### views -/
def optB {α : Type} (o : Option α) (f : α → Bool) : Bool := match o with
  | some a => f a
  | none => false
theorem optB_of {α : Type} {o : Option α} {f : α → Bool} (h : optB o f = true) : ∃ a, o = some a ∧ f a = true := by
  cases o with
  | none => cases h
  | some a => exact ⟨a, rfl, h⟩
theorem and_of {a b : Bool} (h : (a && b) = true) : a = true ∧ b = true := Bool.and_eq_true_iff.mp h
def asName : Expr → Option (Str × Pos)
  | .Name x p => some (x, p)
  | _ => none
theorem asName_of {e : Expr} {r : Str × Pos} (h : asName e = some r) : e = .Name r.1 r.2 := by
  cases e <;> first | (cases h; rfl) | cases h
def asConst : Expr → Option Const
  | .Constant c _ _ => some c
  | _ => none
theorem asConst_of {e : Expr} {r : Const} (h : asConst e = some r) : ∃ k p, e = .Constant r k p := by
  cases e <;> first | (cases h; exact ⟨_, _, rfl⟩) | cases h
def asBin : Expr → Option (Expr × Operator × Expr)
  | .BinOp a o b _ => some (a, o, b)
  | _ => none
theorem asBin_of {e : Expr} {r : Expr × Operator × Expr} (h : asBin e = some r) : ∃ p, e = .BinOp r.1 r.2.1 r.2.2 p := by
  cases e <;> first | (cases h; exact ⟨_, rfl⟩) | cases h
def asUn : Expr → Option (UnaryOp × Expr)
  | .UnaryOp o a _ => some (o, a)
  | _ => none
theorem asUn_of {e : Expr} {r : UnaryOp × Expr} (h : asUn e = some r) : ∃ p, e = .UnaryOp r.1 r.2 p := by
  cases e <;> first | (cases h; exact ⟨_, rfl⟩) | cases h
def asBool : Expr → Option (BoolOp × List Expr × Pos)
  | .BoolOp o es p => some (o, es, p)
  | _ => none
theorem asBool_of {e : Expr} {r : BoolOp × List Expr × Pos} (h : asBool e = some r) : e = .BoolOp r.1 r.2.1 r.2.2 := by
  cases e <;> first | (cases h; rfl) | cases h
def asIf : Expr → Option (Expr × Expr × Expr)
  | .IfExp c a b _ => some (c, a, b)
  | _ => none
theorem asIf_of {e : Expr} {r : Expr × Expr × Expr} (h : asIf e = some r) : ∃ p, e = .IfExp r.1 r.2.1 r.2.2 p := by
  cases e <;> first | (cases h; exact ⟨_, rfl⟩) | cases h
def asCmp1 : Expr → Option (Expr × CmpOp × Expr)
  | .Compare a [o] [b] _ => some (a, o, b)
  | _ => none
theorem asCmp1_of {e : Expr} {r : Expr × CmpOp × Expr} (h : asCmp1 e = some r) : ∃ p, e = .Compare r.1 [r.2.1] [r.2.2] p := by
  unfold asCmp1 at h
  split at h
  · cases h; exact ⟨_, rfl⟩
  · cases h
def asCmp2 : Expr → Option (Expr × CmpOp × CmpOp × Expr × Expr)
  | .Compare a [o, o'] [b, c] _ => some (a, o, o', b, c)
  | _ => none
theorem asCmp2_of {e : Expr} {r : Expr × CmpOp × CmpOp × Expr × Expr} (h : asCmp2 e = some r) : ∃ p, e = .Compare r.1 [r.2.1, r.2.2.1] [r.2.2.2.1, r.2.2.2.2] p := by
  unfold asCmp2 at h
  split at h
  · cases h; exact ⟨_, rfl⟩
  · cases h
def asCall : Expr → Option (Str × List Expr × List Keyword)
  | .Call (.Name x _) es ks _ => some (x, es, ks)
  | _ => none
theorem asCall_of {e : Expr} {r : Str × List Expr × List Keyword} (h : asCall e = some r) : ∃ p q, e = .Call (.Name r.1 p) r.2.1 r.2.2 q := by
  unfold asCall at h
  split at h
  · cases h; exact ⟨_, _, rfl⟩
  · cases h
/-- f(a), f(a, b) -/
def asCall1 : Expr → Option (Str × Expr)
  | .Call (.Name x _) [a] [] _ => some (x, a)
  | _ => none
theorem asCall1_of {e : Expr} {r : Str × Expr} (h : asCall1 e = some r) : ∃ p q, e = .Call (.Name r.1 p) [r.2] [] q := by
  unfold asCall1 at h
  split at h
  · cases h; exact ⟨_, _, rfl⟩
  · cases h
def asCall2 : Expr → Option (Str × Expr × Expr)
  | .Call (.Name x _) [a, b] [] _ => some (x, a, b)
  | _ => none
theorem asCall2_of {e : Expr} {r : Str × Expr × Expr} (h : asCall2 e = some r) : ∃ p q, e = .Call (.Name r.1 p) [r.2.1, r.2.2] [] q := by
  unfold asCall2 at h
  split at h
  · cases h; exact ⟨_, _, rfl⟩
  · cases h
def asCall3 : Expr → Option (Str × Expr × Expr × Expr)
  | .Call (.Name x _) [a, b, c] [] _ => some (x, a, b, c)
  | _ => none
theorem asCall3_of {e : Expr} {r : Str × Expr × Expr × Expr} (h : asCall3 e = some r) : ∃ p q, e = .Call (.Name r.1 p) [r.2.1, r.2.2.1, r.2.2.2] [] q := by
  unfold asCall3 at h
  split at h
  · cases h; exact ⟨_, _, rfl⟩
  · cases h
def asAttr : Expr → Option (Expr × Str)
  | .Attribute o y _ => some (o, y)
  | _ => none
theorem asAttr_of {e : Expr} {r : Expr × Str} (h : asAttr e = some r) : ∃ p, e = .Attribute r.1 r.2 p := by
  cases e <;> first | (cases h; exact ⟨_, rfl⟩) | cases h
def asMeth : Expr → Option (Expr × Str × Pos × List Expr × Pos)
  | .Call (.Attribute o m p) es [] q => some (o, m, p, es, q)
  | _ => none
theorem asMeth_of {e : Expr} {r : Expr × Str × Pos × List Expr × Pos} (h : asMeth e = some r) : e = .Call (.Attribute r.1 r.2.1 r.2.2.1) r.2.2.2.1 [] r.2.2.2.2 := by
  unfold asMeth at h
  split at h
  · cases h; rfl
  · cases h
def asSub : Expr → Option (Expr × Expr)
  | .Subscript a b _ => some (a, b)
  | _ => none
theorem asSub_of {e : Expr} {r : Expr × Expr} (h : asSub e = some r) : ∃ p, e = .Subscript r.1 r.2 p := by
  cases e <;> first | (cases h; exact ⟨_, rfl⟩) | cases h
def asCut : Expr → Option (Option Expr × Option Expr)
  | .Slice a b none _ => some (a, b)
  | _ => none
theorem asCut_of {e : Expr} {r : Option Expr × Option Expr} (h : asCut e = some r) : ∃ p, e = .Slice r.1 r.2 none p := by
  unfold asCut at h
  split at h
  · cases h; exact ⟨_, rfl⟩
  · cases h
/-- a[::-1] -/
def isRev : Expr → Bool
  | .Slice none none (some (.UnaryOp .USub (.Constant (.int 1) _ _) _)) _ => true
  | _ => false
theorem isRev_of {e : Expr} (h : isRev e = true) : ∃ k p1 p2 p3, e = .Slice none none (some (.UnaryOp .USub (.Constant (.int 1) k p1) p2)) p3 := by
  unfold isRev at h
  split at h
  · exact ⟨_, _, _, _, rfl⟩
  · cases h
def asTup : Expr → Option (List Expr)
  | .Tuple es _ _ => some es
  | _ => none
theorem asTup_of {e : Expr} {r : List Expr} (h : asTup e = some r) : ∃ k p, e = .Tuple r k p := by
  cases e <;> first | (cases h; exact ⟨_, _, rfl⟩) | cases h
def asLst : Expr → Option (List Expr)
  | .List es _ => some es
  | _ => none
theorem asLst_of {e : Expr} {r : List Expr} (h : asLst e = some r) : ∃ p, e = .List r p := by
  cases e <;> first | (cases h; exact ⟨_, rfl⟩) | cases h
def isEdic : Expr → Bool
  | .Dict [] [] _ => true
  | _ => false
theorem isEdic_of {e : Expr} (h : isEdic e = true) : ∃ p, e = .Dict [] [] p := by
  unfold isEdic at h
  split at h
  · exact ⟨_, rfl⟩
  · cases h
structure Lc where
  elt : Expr
  tg : Expr
  it : Expr
  ifs : List Expr
  sc : Scope
  pos : Pos
def asLc : Expr → Option Lc
  | .ListComp e [⟨t, i, f, 0⟩] s p => some ⟨e, t, i, f, s, p⟩
  | _ => none
theorem asLc_of {e : Expr} {r : Lc} (h : asLc e = some r) : e = .ListComp r.elt [⟨r.tg, r.it, r.ifs, 0⟩] r.sc r.pos := by
  unfold asLc at h
  split at h
  · cases h; rfl
  · cases h
/-- sorted({..}) -/
def asSc : Expr → Option Lc
  | .SetComp e [⟨t, i, f, 0⟩] s p => some ⟨e, t, i, f, s, p⟩
  | _ => none
theorem asSc_of {e : Expr} {r : Lc} (h : asSc e = some r) : e = .SetComp r.elt [⟨r.tg, r.it, r.ifs, 0⟩] r.sc r.pos := by
  unfold asSc at h
  split at h
  · cases h; rfl
  · cases h
structure Lc2 where
  elt : Expr
  tg : Expr
  it : Expr
  ifs : List Expr
  tg2 : Expr
  it2 : Expr
  ifs2 : List Expr
  sc : Scope
  pos : Pos
def asLc2 : Expr → Option Lc2
  | .ListComp e [⟨t, i, f, 0⟩, ⟨t2, i2, f2, 0⟩] s p => some ⟨e, t, i, f, t2, i2, f2, s, p⟩
  | _ => none
theorem asLc2_of {e : Expr} {r : Lc2} (h : asLc2 e = some r) : e = .ListComp r.elt [⟨r.tg, r.it, r.ifs, 0⟩, ⟨r.tg2, r.it2, r.ifs2, 0⟩] r.sc r.pos := by
  unfold asLc2 at h
  split at h
  · cases h; rfl
  · cases h
/-- {k: v for t0 in i0 for t1 in i1} -/
structure Dc2P where
  kx : Expr
  vx : Expr
  t0 : Expr
  i0 : Expr
  t1 : Expr
  i1 : Expr
  sc : Scope
  pos : Pos
def asDc2 : Expr → Option Dc2P
  | .DictComp k v [⟨t, i, [], 0⟩, ⟨t2, i2, [], 0⟩] s p => some ⟨k, v, t, i, t2, i2, s, p⟩
  | _ => none
theorem asDc2_of {e : Expr} {r : Dc2P} (h : asDc2 e = some r) : e = dcE r.kx r.vx r.t0 r.i0 r.t1 r.i1 r.sc r.pos := by
  unfold asDc2 at h
  split at h
  · cases h; rfl
  · cases h
def noStar : Expr → Bool
  | .Starred _ _ => false
  | _ => true
theorem noStar_of {e : Expr} (h : noStar e = true) : ∀ x p, e ≠ .Starred x p := by
  intro x p z
  subst z
  cases h
theorem noStars_of {es : List Expr} (h : es.all noStar = true) : ∀ e ∈ es, ∀ x p, e ≠ .Starred x p := fun e he => noStar_of (List.all_eq_true.mp h e he)
def noSlice : Expr → Bool
  | .Slice _ _ _ _ => false
  | _ => true
theorem noSlice_of {e : Expr} (h : noSlice e = true) : ∀ a b c p, e ≠ .Slice a b c p := by
  intro a b c p z
  subst z
  cases h
theorem plainIx_of {e : Expr} (h : noSlice e = true) : PlainIx e := by
  intro o i
  cases e <;> first | rfl | cases h
def noComp : Expr → Bool
  | .ListComp _ _ _ _ => false
  | .SetComp _ _ _ _ => false
  | .DictComp _ _ _ _ _ => false
  | _ => true
theorem noComp_of {e : Expr} (h : noComp e = true) (t : Option Expr) (l : Nat) (env : PySem.Env) : swapsWith e t l env = pure false := by
  cases e <;> first | rfl | cases h
def noSet : Expr → Bool
  | .Set _ _ _ => false
  | _ => true
theorem noSet_of {e : Expr} (h : noSet e = true) : ∀ env x, foldedSetIterable e env x = pure x := by
  intro env x
  cases e <;> first | rfl | cases h
theorem marks_of {e : Expr} {op : CmpOp} (h : noSet e = true) : behindInMarks op e = false := by
  cases e <;> first | rfl | cases h
/-- no swapped stores -/
def twoSubs : Expr → Bool
  | .Tuple [.Subscript _ _ _, .Subscript _ _ _] _ _ => true
  | _ => false
theorem twoSubs_of {tg : Expr} (h : twoSubs tg = true) (e : Expr) (env : PySem.Env) : swappedStores [tg] e env = pure none := by
  unfold twoSubs at h
  split at h
  · cases e <;> first | rfl | skip
    unfold swappedStores
    dsimp only
    split
    · rfl
    · split
      · rfl
      · rfl
  · cases h
/-- constants alone, folded for sure -/
def foldTup : Expr → Bool
  | .Tuple vs _ _ => vs.all (foldedForSure 8)
  | _ => false
theorem foldTup_of {tg e : Expr} (h : foldTup e = true) (env : PySem.Env) : swappedStores [tg] e env = pure none := by
  unfold foldTup at h
  split at h
  · cases tg <;> first | rfl | skip
    all_goals
      unfold swappedStores
      dsimp only
      split
      · rfl
      · split
        · rfl
        · split
          · rfl
          · first | rfl | (rw [if_pos h]) | (rw [if_pos h]; rfl) | simp [h]
  · cases h
def noSwap (tg e : Expr) : Bool := (twoSubs tg || foldTup e) || (match e with
  | .Tuple _ _ _ => (match tg with | .Tuple _ _ _ => false | .List _ _ => false | _ => true)
  | _ => true)
theorem noSwap_of {tg e : Expr} (h : noSwap tg e = true) (env : PySem.Env) : swappedStores [tg] e env = pure none := by
  unfold noSwap at h
  rcases (Bool.or_eq_true _ _).mp h with h | h
  · rcases (Bool.or_eq_true _ _).mp h with h | h
    · exact twoSubs_of h e env
    · exact foldTup_of h env
  · cases e <;> first | (cases tg <;> rfl) | (cases tg <;> first | rfl | cases h)
def isName : Expr → Bool
  | .Name _ _ => true
  | _ => false
theorem swap_of {tg e : Expr} (h : (noComp e || !isName tg) = true) (l : Nat) (env : PySem.Env) : swapsWithSole [tg] e l env = pure false := by
  rcases (Bool.or_eq_true _ _).mp h with h | h
  · exact noComp_of h _ _ _
  · show swapsWith e (some tg) l env = pure false
    cases e <;> first | rfl | (cases tg <;> first | rfl | cases h)
/-- a test by its value -/
def plainTest : Expr → Bool
  | .UnaryOp .Not _ _ => false
  | .BoolOp _ _ _ => false
  | .IfExp _ _ _ _ => false
  | .Compare _ _ _ _ => false
  | _ => true
theorem plainTest_of {e : Expr} (h : plainTest e = true) (env : PySem.Env) : ∀ whole, isTrue e env whole = (do let v ← whole; standAt e.pos; holding [v] (truthy v)) := by
  intro whole
  cases e with
  | UnaryOp o a p => cases o <;> first | rfl | cases h
  | BoolOp _ _ _ => cases h
  | IfExp _ _ _ _ => cases h
  | Compare _ _ _ _ => cases h
  | _ => rfl
end Hb

/-! EXF: errors with a field: made by their own __init__, raised, asked. -/
namespace Hb
open PySem PySem.Spec PyProof.Rows
open L2 hiding V Hp St
set_option autoImplicit false
section
open PySem.W
variable {prog : Program} {w : World} {A : Around} {E : Value → Shared → Prop} {s : Shared} {K : Frag} {name : Str} {v : Value}
theorem method_of_cls {C : Addr} {pl : Sem Bool} {Q : Value × List Value → Shared → Prop} (X : K.In s.heap) (hr : readsIn K C (.type "type") = true) (e : findCls K (.ref C) (.type "type") name = some (.val v)) (hh : handedIn v = true)
    (h : Q (v, []) { s with toks := s.toks + 1 }) : wpAny (model prog w) A (getMethod (.ref C) name pl) Q E s := by
  have hr0 := hr
  simp only [readsIn, Bool.and_eq_true, beq_iff_eq] at hr0
  obtain ⟨⟨⟨⟨_, b⟩, c'⟩, _⟩, _⟩ := hr0
  have L0 : Looks (model prog w) s.heap (typeOf (.ref C)) (.type "type") := looks_typeIn X b
  unfold getMethod specialOf
  refine wpAny_bind (wpAny_bind (L0.here ((looks_findIn X c').here ?_)))
  dsimp only
  rw [if_pos canon_tga]
  exact wpAny_bind (wpAny_mono (Q := fun v => Q (v, [])) (E := E) (cls_value X hr e hh h) (fun _ _ z => wpAny_pure z) fun _ _ z => z)
end
/-- Base.__init__(self, ..), Base an own class that hands on ValueError's -/
theorem pe_hinit {X : Cx} {e : Expr} {es : List Expr} {ta : TA} {x : Str} {CH : Addr} {p1 p2 pos : Pos} (hg : Gl X x) (hm : X.mg x = some (.ref CH)) (hdb : (x == ("__debug__" : Str)) = false) (hr : PySem.W.readsIn X.K CH (.type "type") = true)
    (vV : PySem.W.findCls X.K (.ref CH) (.type "type") "__init__" = some (.val (.builtin "ValueError.__init__"))) (ha : PA X (e :: es) ta) (hs : ∀ y ∈ e :: es, ∀ x p, y ≠ .Starred x p) (h30 : (e :: es).length < 30) (hl : (p2.endLine == pos.line) = true) :
    PE X (.Call (.Attribute (.Name x p1) "__init__" p2) (e :: es) [] pos) (tVeI X.K ta) := by
  obtain ⟨pl, ht⟩ := mt_of (es := e :: es) (env := X.env) (recv_eq (o := .Name x p1) (name := "__init__") rfl) (few_ok (pos := pos) (env := X.env) hs h30) hl
  have he : starEach (e :: es) X.env = (false, eval e X.env) :: starEach es X.env := nostar (hs e (by simp))
  have hpl : (backTo pos (starEach es X.env)).any (·.1) = false := noany fun y hy => hs y (by simp [hy])
  refine ⟨fun pins s σ H Q I h => ?_⟩
  refine PySem.W.methodCall_KW (pl := pl) (ld_glob I hg hm ?_ hdb) ht
  refine method_of_cls I.kIn hr vV (by decide +kernel) ?_
  show wpAny _ _ (callWith pos (Value.builtin "ValueError.__init__") [] (backTo pos (starEach (e :: es) X.env)) []) _ _ _
  refine PyProof.Rows.callWith_method1 (thn (ha.run pos pins _ σ H _ (I.tok _) h) fun us s1 hh => ?_) he hpl
  obtain ⟨vs, H1, I1, r1, a, C, ws, rfl, hl, T, ea, q⟩ := hh
  cases r1 with
  | @cons _ u0 _ ur ra rw' =>
    obtain rfl : u0 = Value.ref a := ra
    have len : ur.length ≤ sizeLine := by
      rw [← Paired.length rw', sizeLine_eq]
      omega
    exact oinit_ok T I1 ea len fun s' J => ⟨.non, H1, J, rfl, q⟩
/-! ### what the written part must say -/
def oexB (K : PySem.W.Frag) (C : Addr) : Bool := (match K.lookup C with
  | some ⟨.type "type", _, .cls cd, sl⟩ => (match cd.mro, sl.toList with
    | .ref C' :: bm, [_, _, _, _, some (.builtin n), _] => decide (C' = C) && decide (n = "ValueError.__new__") && !cd.hasDel && cd.hasDict && PySem.HandSPX.refsVE bm
    | _, _ => false)
  | _ => false) && He.eqO (PySem.W.findIn K (.ref C) "__setattr__") (some (some (.builtin "object.__setattr__"))) && decide (PySem.W.subIn K (.ref C) (.type "BaseException") = some true) && decide (PySem.W.typeIn K (.ref C) = some (.type "type")) && PySem.W.keepIn K (.ref C)
theorem oexB_ok {K : PySem.W.Frag} {C : Addr} (h : oexB K C = true) : OexC K C := by
  obtain ⟨h, h5⟩ := and_of h
  obtain ⟨h, h4⟩ := and_of h
  obtain ⟨h, h3⟩ := and_of h
  obtain ⟨h1, h2⟩ := and_of h
  refine ⟨?_, He.eqO_ok h2, of_decide_eq_true h3, of_decide_eq_true h4, h5⟩
  split at h1
  · rename_i dd cd sl ho
    split at h1
    · rename_i C' bm k0 k1 k2 k3 n k5 hm hs
      obtain ⟨h1, g5⟩ := and_of h1
      obtain ⟨h1, g4⟩ := and_of h1
      obtain ⟨h1, g3⟩ := and_of h1
      obtain ⟨g1, g2⟩ := and_of h1
      have g1 := of_decide_eq_true g1
      have g2 := of_decide_eq_true g2
      subst g1 g2
      obtain ⟨nm, bs, mro, ns, qn, hd, sn, sub, ab, col, del⟩ := cd
      dsimp only at hm g3 g4
      have g3 : del = false := by simpa using g3
      subst hm g3 g4
      have hsl : sl = #[k0, k1, k2, k3, some (.builtin "ValueError.__new__"), k5] := by
        obtain ⟨l⟩ := sl
        simp only at hs
        rw [hs]
      subst hsl
      exact ⟨nm, qn, ns, bs, bm, sn, sub, ab, col, dd, k0, k1, k2, k3, k5, ho, g5⟩
    · cases h1
  · cases h1
/-- a class of errors with a field -/
structure XiC (w : Wo) (mg : Str → Option Value) (c : Nat) (hx : Str) (f : Nat) : Prop where
  oex : OexC w.K (w.ca c)
  hm : mg hx = some (.ref w.hu)
  hr : PySem.W.readsIn w.K w.hu (.type "type") = true
  hv : PySem.W.findCls w.K (.ref w.hu) (.type "type") "__init__" = some (.val (.builtin "ValueError.__init__"))
  nf : PySem.W.findIn w.K (.ref (w.ca c)) (w.an f) = some none
/-- what its __init__ does -/
def spI (w : Wo) (c f : Nat) : Sp := fun vs H Q _ => ∃ a y, vs = [.ref a, y] ∧ H a = some (exo a (w.ca c) none) ∧ ∀ dx, H dx = none → dx ≠ a → Q .non (upd (upd H dx (exd dx [(w.an f, y)])) a (exo a (w.ca c) (some dx)))
def nmB (names : List (Str × NameKind)) (x : Str) : Bool := decide (names.lookup x = some .local) && !(x == ("__debug__" : Str)) && !(x == ("__classdict__" : Str))
def initB (hx fn : Str) (N ps : List Str) (names : List (Str × NameKind)) : List Stmt → Bool
  | [.Expr (.Call (.Attribute (.Name h _) m p2) [.Name s _, .Constant (.str _) _ _] [] p5) _, .Assign [.Attribute (.Name s' _) g _] (.Name y _) _] =>
    (p2.endLine == p5.line) && decide (m = "__init__") && decide (h = hx) && decide (names.lookup h = some .globalImplicit) && !(h == ("__debug__" : Str)) && decide (N = [s, y]) && decide (ps = [s, y]) && decide (s' = s) && decide (g = fn) && nmB names s && nmB names y
  | _ => false
theorem init_ok {P : Program} {ww : World} {mg : Str → Option Value} {base : Heap} {w : Wo} {c f : Nat} {hx fn nm qn : Str} {N ps : List Str} {args : Arguments} {body : List Stmt} {scope : Scope} {fI : Addr} {fd : FuncData} (XI : XiC w mg c hx f) (hfn : w.an f = fn)
    (F : FunD w.K nm qn args body scope [] [] fI fd) (sc : FnScope N ps scope) (hb : initB hx fn N ps scope.names body = true) (k : Nat) : FnOk P ww w.K mg base (L2.CX P ww) (k + 1) fI fd ps (spI w c f) := by
  unfold initB at hb
  split at hb
  · rename_i h p1 m p2 s p3 z j p4 p5 p6 s' p7 g p8 y p9 p10
    obtain ⟨hb, h10⟩ := and_of hb
    obtain ⟨hb, h9⟩ := and_of hb
    obtain ⟨hb, h8⟩ := and_of hb
    obtain ⟨hb, h7⟩ := and_of hb
    obtain ⟨hb, h6⟩ := and_of hb
    obtain ⟨hb, h5⟩ := and_of hb
    obtain ⟨hb, h4⟩ := and_of hb
    obtain ⟨hb, h3⟩ := and_of hb
    obtain ⟨hb, h2⟩ := and_of hb
    obtain ⟨hl, h1⟩ := and_of hb
    have h1 := of_decide_eq_true h1
    have h2 := of_decide_eq_true h2
    have h3 := of_decide_eq_true h3
    have h5 := of_decide_eq_true h5
    have h6 := of_decide_eq_true h6
    have h7 := (of_decide_eq_true h7).symm
    have h8 := of_decide_eq_true h8
    have h4 : (h == ("__debug__" : Str)) = false := by simpa using h4
    subst h1 h2 h5 h6 h7 h8
    obtain ⟨h9, s3⟩ := and_of h9
    obtain ⟨s1, s2⟩ := and_of h9
    obtain ⟨h10, y3⟩ := and_of h10
    obtain ⟨y1, y2⟩ := and_of h10
    have s1 := of_decide_eq_true s1
    have y1 := of_decide_eq_true y1
    have s2 : (s == ("__debug__" : Str)) = false := by simpa using s2
    have s3 : (s == ("__classdict__" : Str)) = false := by simpa using s3
    have y2 : (y == ("__debug__" : Str)) = false := by simpa using y2
    have y3 : (y == ("__classdict__" : Str)) = false := by simpa using y3
    refine F.ok (k := k) sc (fun vs H Q E hh => by obtain ⟨a, y, rfl, _⟩ := hh; rfl) fun cdv A outer s0 H vs Q E hr hh => ?_
    let X : Cx := cxOf (L2.CX P ww) P ww w.K mg base [s, y] qn scope fI cdv A outer s0 H E
    have vs1 : ∀ p, PE X (.Name s p) (tVar 0) := fun p => pe_var (X := X) rfl (.inl s1) s2 s3
    have vy1 : ∀ p, PE X (.Name y p) (tVar 1) := fun p => pe_var (X := X) rfl (.inl y1) y2 y3
    refine ⟨_, pss_cons (ps_expr (pe_hinit (X := X) h3 XI.hm h4 XI.hr XI.hv (pa_cons (vs1 p3) (pa_cons pe_str pa_nil)) (by intro y hy x p hz; simp at hy; rcases hy with rfl | rfl <;> cases hz) (by show 2 < 30; decide) hl)) (pss_cons (ps_ost (vs1 p7) (vy1 p9)) pss_nil), ?_⟩
    obtain ⟨a, u, rfl, ha, q⟩ := hh
    refine ⟨.ref a, rfl, a, w.ca c, [.str z], rfl, by show 1 ≤ 1000; decide, XI.oex, ha, ?_⟩
    refine ⟨u, rfl, .ref a, rfl, a, w.ca c, rfl, XI.oex, by rw [← hfn]; exact XI.nf, .inl ⟨ha, fun dx n1 n2 => ?_⟩⟩
    have := q dx n1 n2
    rw [hfn] at this
    exact this
  · cases hb
section
variable {X : Cx} {w : Wo} {F : Phi} {W : WX} {e : Expr} {t : T}
/-- raise C(e) -/
theorem ss_raf {c f k : Nat} {x hx : Str} {p pos pos2 : Pos} {fI : Addr} {fd : FuncData} {ps : List Str} (hK : X.K = w.K) (hcalm : X.calm = true) (tk : Takes X W) (hc : c ∈ w.xc) (XI : XiC w X.mg c hx f) (iC : PySem.W.findIn w.K (.ref (w.ca c)) "__init__" = some (some (.ref fI)))
    (tI : PySem.W.typeIn w.K (.ref fI) = some (.type "function")) (Fn : FnOk X.prog X.w w.K X.mg X.base (L2.CX X.prog X.w) k fI fd ps (spI w c f)) (hr : Room (k + 1) X.A) (hb : Binds w.K fd ps []) (hg : Gl X x) (hm : X.mg x = some (.ref (w.ca c))) (hdb : (x == ("__debug__" : Str)) = false)
    (he : SE X w F W e t) (hs : ∀ x p, e ≠ .Starred x p) :
    SS X w F W (.Raise (some (.Call (.Name x p) [e] [] pos2)) none pos) (.raf c [f] (.cons t .nil)) := by
  have hx0 : Passes (L2.CX X.prog X.w) X (fun _ _ _ => False) := fun pins σ H s e s' I z => by
    obtain ⟨_, _, _, _, _, _, _, _, _, _, _, _, q⟩ := z
    exact q.elim
  have mk := pmk_oex (X := X) (sp := spI w c f) (dvs := []) (ds := []) (pos := pos2) (p := p) (by rw [hK]; exact XI.oex) (by rw [hK]; exact iC) (by rw [hK]; exact tI) (by rw [hK]; exact Fn) hr (by rw [hK]; exact hb) .nil hx0 hg hm (pa_cons he pa_nil (nostar hs)) hdb (nostar hs)
    (by rfl)
  refine ps_imp (ps_raise hcalm tk mk) fun D s H h => ?_
  obtain ⟨f0, r, G, env, h, n, kk, S, E, wp, q⟩ := h
  refine ⟨f0, r, G, env, h, _, _, S, E, wp, fun v h1 u r1 G1 H1 w1 e1 S1 rv => ?_, q.x E⟩
  obtain ⟨ds, ed, ⟨_, hl⟩, w2⟩ : ∃ ds, allD [v] = some ds ∧ ([f] ≠ [] ∧ ds.length = [f].length) ∧ kk.xe (.exc c ([f].zip ds).reverse) env h1 := by
    obtain ⟨ds, e1, e2⟩ := optP_of w1
    exact ⟨ds, e1, e2⟩
  obtain ⟨d0, rfl, rfl⟩ : ∃ d0, v = .d d0 ∧ ds = [d0] := by
    cases v with
    | d x => cases ed; exact ⟨x, rfl, rfl⟩
    | _ => cases ed
  refine ⟨by show 1 ≤ 1000; decide, fun a hn => ?_⟩
  refine ⟨a, u, rfl, upd_same, fun dx hd hne => ?_⟩
  refine ⟨rfl, dx, [(w.an f, u)], upd_same, by rw [upd_ne hne]; exact upd_same, ?_, ?_⟩
  · rw [upd_ne hne] at hd
    exact hd
  · have hd0 : H1 dx = none := by rw [upd_ne hne] at hd; exact hd
    have eH : upd (del (upd (upd (upd H1 a (exo a (w.ca c) none)) dx (exd dx [(w.an f, u)])) a (exo a (w.ca c) (some dx))) a) dx (.xd [(w.an f, u)]) = upd H1 dx (.xd [(w.an f, u)]) := by
      funext b
      by_cases hb : b = dx
      · subst hb; rw [upd_same, upd_same]
      · rw [upd_ne hb, upd_ne hb]
        by_cases ha : b = a
        · subst ha; rw [del_same, hn]
        · rw [del_ne ha, upd_ne ha, upd_ne hb, upd_ne ha]
    rw [eH]
    obtain ⟨S2, e2⟩ := S1.lay hd0 (.xd [(w.an f, u)]) (fun b z => nomatch z)
    exact q.xe (.exc c [(f, d0)]) env h1 s r1 _ _ _ (some dx) w2 (e1.trans e2) S2 ((E.mono e1).mono e2) ⟨rfl, hc, dx, [(w.an f, u)], rfl, upd_same, rfl, ⟨u, [], rfl, Rv.mono e2 (.d d0) u rv, rfl⟩⟩
end
/-! ### e.f -/
def tXo (K : PySem.W.Frag) (n : Str) (te : TE) : TE := fun σ H Q => te σ H fun x H1 => ∃ a C dd us v, x = .ref a ∧ ExcC K C ∧ PySem.W.findIn K (.ref C) n = some none ∧ H1 a = some (ExK (.ref C) (some dd) a) ∧ H1 dd = some (.xd us) ∧ us.lookup n = some v ∧ Q v H1
theorem pe_xo {X : Cx} {e : Expr} {te : TE} {pos : Pos} {n : Str} (he : PE X e te) (hb : attributeBase e n X.env (eval e X.env) = eval e X.env) : PE X (.Attribute e n pos) (tXo X.K n te) := by
  refine ⟨fun pins s σ H Q I h => ?_⟩
  refine attr_of hb (thn (he.run pins s σ H _ I h) fun u s1 hh => ?_)
  obtain ⟨x, H1, I1, rx, a, C, dd, us, v, rfl, T, hno, ha, hd, l, q⟩ := hh
  obtain rfl : u = Value.ref a := rx
  obtain ⟨⟨ob, vs, e0, z, hdt⟩, _⟩ := I1.hok a _ ha
  obtain ⟨mA, hns, hr⟩ := (show ObjOk X.prog X.w H1 s1.heap dd (.xd us) from I1.hok dd _ hd)
  obtain ⟨od, ho, hl⟩ := lookIn_ns hns
  obtain ⟨y, hy, ry⟩ := RelO.some_of (v := v) (o := mA n) (by rw [← l]; exact hr n)
  have J : PySem.W.InstAt s1.heap a ob C (some od) := ⟨e0, z.1, by unfold PySem.W.notCls; rw [hdt] <;> rfl, by rw [z.2]; exact ho⟩
  exact HandSPX.exc_get I1.kIn J T.hg T.hk T.hs (PySem.W.findObj_own T.hd hno rfl (by rw [hl, hy])) (handed_of ry) ⟨v, H1, I1.tok _, ry, q⟩
section
variable {X : Cx} {w : Wo} {F : Phi} {W : WX} {e : Expr} {t : T}
theorem xd_lookup {K : PySem.W.Frag} {G : L2.Hp} {an : Nat → Str} (inj : ∀ i j, an i = an j → i = j) {f : Nat} {x : D} : ∀ {fs : List (Nat × D)} {us : List (Str × L2.V)}, us.map (·.1) = fs.map (fun p => an p.1) → RpAll K G (fs.map (·.2)) (us.map (·.2)) → fs.lookup f = some x → ∃ v, us.lookup (an f) = some v ∧ Rp K G x v
  | [], _, _, _, h => by cases h
  | p :: fs, [], h1, _, _ => by cases h1
  | p :: fs, q :: us, h1, h2, h3 => by
    obtain ⟨g, d⟩ := p
    obtain ⟨m, u⟩ := q
    obtain ⟨v, vs, e1, r1, r2⟩ := h2
    injection h1 with h1 h4
    have h1 : m = an g := h1
    have e5 : u :: us.map (·.2) = v :: vs := e1
    injection e5 with e6 e7
    rw [← e6] at r1
    rw [← e7] at r2
    subst h1
    rw [List.lookup_cons] at h3
    by_cases hg : f = g
    · subst hg
      rw [beq_self_eq_true] at h3
      injection h3 with h3
      subst h3
      exact ⟨u, by rw [List.lookup_cons, beq_self_eq_true], r1⟩
    · rw [show (f == g) = false from beq_eq_false_iff_ne.mpr hg] at h3
      obtain ⟨v, l, r⟩ := xd_lookup inj h4 r2 h3
      exact ⟨v, by rw [List.lookup_cons, show (an f == an g) = false from beq_eq_false_iff_ne.mpr fun z => hg (inj _ _ z)]; exact l, r⟩
theorem se_xfl {f : Nat} {n : Str} {pos : Pos} (hK : X.K = w.K) (xo : XcOk w) (hn : w.an f = n) (hf : ∀ c ∈ w.xc, PySem.W.findIn w.K (.ref (w.ca c)) (w.an f) = some none) (he : SE X w F W e t) (hb : attributeBase e n X.env (eval e X.env) = eval e X.env) :
    SE X w F W (.Attribute e n pos) (.xfl t f) := by
  refine pe_imp (pe_xo he hb) fun s H Q h => ?_
  obtain ⟨f0, r, G, env, h, P, Xp, S, E, wp, q, qx⟩ := h
  refine ⟨f0, r, G, env, h, _, Xp, S, E, wp, fun v h1 u r1 G1 H1 w1 e1 S1 rv => ?_, qx⟩
  cases v with
  | exc c fs =>
    obtain ⟨x, el, w2⟩ := optP_of w1
    obtain ⟨hc, a, d, rfl, g, xd⟩ := rv
    cases fs with
    | nil => cases el
    | cons p fs =>
      obtain ⟨dd, us, rfl, gd, m, rp⟩ := xd
      obtain ⟨v, l, rx⟩ := xd_lookup w.anj m rp el
      subst hn
      exact ⟨a, w.ca c, dd, us, v, rfl, by rw [hK]; exact xo.ex c hc, by rw [hK]; exact hf c hc, S1.sub _ _ g, S1.sub _ _ gd, l, q _ h1 v r1 G1 H1 w2 e1 S1 rx⟩
  | _ => exact w1.elim
end
end Hb

/-! MKX: errors as values; lists of more than data put together. -/
namespace Hb
open PySem PySem.Spec PyProof.Rows
open L2 hiding V Hp St
set_option autoImplicit false
section
variable {X : Cx}
/-- an error that is made, as a value: it is tracked from then on -/
theorem pe_of_mk {e : Expr} {t : Sg → L2.Hp → XK → Prop} (hex : X.ex = []) (he : PMk X e t) : PE X e (fun σ H Q => t σ H fun cls d H1 => ∀ a, H1 a = none → Q (.ref a) (upd H1 a (ExK cls d a))) := by
  refine ⟨fun pins s σ H Q I h => wpAny_mono (he pins s σ H _ I h) (fun u s1 hu => ?_) fun _ _ x => x⟩
  obtain ⟨a, oe, vs, sI, H1, cls, d, rfl, J, kk, gone, ha, hz, hd, _, na, os, ag, _, q⟩ := hu
  have J1 : Inv X pins σ H1 { sI with heap := s1.heap, toks := sI.toks } := J.kept (t' := sI.toks) kk
  have J2 : Inv X pins σ H1 s1 := ⟨J1.ok, os.trans J1.os, ag, J1.base, J1.loc, J1.cell, J1.free, J1.freeC, J1.pin, J1.hok, J1.len⟩
  have g0 : X.s_0.heap.get? a = none := by
    cases e0 : X.s_0.heap.get? a with
    | none => rfl
    | some o =>
      obtain ⟨o1, z⟩ := J.base.there a o e0 (by rw [hex]; exact List.not_mem_nil)
      rw [gone] at z
      cases z
  have nL : a ≠ X.env.locals := fun z => by
    obtain ⟨m, ⟨o, es, ep, hg, _⟩, _⟩ := J.loc
    rw [← z, gone] at hg
    cases hg
  have nP : ∀ p ∈ X.pn ++ pins, p.1 ≠ a := fun p hp z => by
    have hg := (J.pin p hp).1
    rw [z, gone] at hg
    cases hg
  exact ⟨.ref a, _, adopt J2 ha hz hd na g0 nL nP, rfl, q a na⟩
/-- C(e), C an own class of errors without own __init__ -/
theorem pe_mkt {C : Addr} {x : Str} {e : Expr} {ta : TE} {p pos : Pos} (q : PySem.W.excIn X.K C He.veBase "ValueError.__new__" = true) (gC : X.mg x = some (.ref C)) (kC : PySem.W.keepIn X.K (.ref C) = true) (hg : Gl X x) (hdb : (x == ("__debug__" : Str)) = false)
    (he : PE X e ta) (hs : starEach [e] X.env = (false, eval e X.env) :: starEach [] X.env) :
    PE X (.Call (.Name x p) [e] [] pos) (fun σ H Q => ta σ H fun _ H1 => ∀ a, H1 a = none → Q (.ref a) (upd H1 a (ExK (.ref C) none a))) := by
  refine ⟨fun pins s σ H Q I h => wpAny_Call_Name_kw (ld_glob I hg gC ?_ hdb)⟩
  refine PySem.W.callWith_K (h₀ := X.base) I.ok.mod.kin kC ?_ hs (by rfl)
  rw [hs]
  refine Calls.spliced_cons (thn (he.run pins s σ H _ I h) fun u s2 ⟨v, H1, I1, r1, q1⟩ => Calls.spliced_nil ⟨I1.kIn, ?_⟩)
  obtain ⟨bm, N, nm, qn, bs, hdct, sn, sub, ab, col, dd, k0, k1, k2, k3, k5, mN, hC, hN, hni, TT⟩ := exc_obj I1.kIn q
  refine wpAny_call_exc_subT PySem.F.excBase_ValueError TT hC hN hni (fun h' a hm => ?_) (by show 1 ≤ sizeLine; rw [sizeLine_eq]; omega)
  have na : H1 a = none := I1.hok.gone hm.new
  obtain ⟨t, ht, _, _⟩ := hm.there
  exact ⟨.ref a, _, I1.laidN (o := ExK (.ref C) none a) hm.keeps hm.new na ⟨⟨_, _, ht, ⟨rfl, rfl⟩, rfl⟩, ⟨_, ht⟩, fun _ _ ⟨o, v, g, z⟩ k => ⟨o, v, k o g, z⟩⟩, rfl, q1 a na⟩
end
section
variable {X : Cx} {w : Wo} {F : Phi} {W : WX} {e : Expr} {t : T}
/-- C(e) as a value, C without own __init__ -/
theorem se_mkt {c : Nat} {x : Str} {p pos : Pos} (hK : X.K = w.K) (hc : c ∈ w.xc) (hq : PySem.W.excIn w.K (w.ca c) He.veBase "ValueError.__new__" = true) (gC : X.mg x = some (.ref (w.ca c))) (kC : PySem.W.keepIn w.K (.ref (w.ca c)) = true)
    (hg : Gl X x) (hdb : (x == ("__debug__" : Str)) = false) (he : SE X w F W e t) (hs : ∀ x p, e ≠ .Starred x p) :
    SE X w F W (.Call (.Name x p) [e] [] pos) (.mkx c [] (.cons t .nil)) := by
  refine pe_imp (pe_mkt (by rw [hK]; exact hq) gC (by rw [hK]; exact kC) hg hdb he (nostar hs)) fun s H Q h => ?_
  obtain ⟨f0, r, G, env, h, P, Xp, S, E, wp, q, qx⟩ := h
  refine ⟨f0, r, G, env, h, _, Xp, S, E, wp, fun v h1 u r1 G1 H1 w1 e1 S1 rv => ?_, qx⟩
  obtain ⟨ds, _, _, w2⟩ := optP_of w1
  intro a na
  obtain ⟨S2, e2⟩ := S1.lay na (ExK (.ref (w.ca c)) none a) (fun b z => nomatch z)
  exact q (.exc c []) h1 (.ref a) r1 _ _ w2 (e1.trans e2) S2 ⟨hc, a, none, rfl, upd_same, rfl⟩
/-- C(e) as a value, C with a field -/
theorem se_mkf {c f k : Nat} {x hx : Str} {p pos : Pos} {fI : Addr} {fd : FuncData} {ps : List Str} (hK : X.K = w.K) (hex : X.ex = []) (hc : c ∈ w.xc) (XI : XiC w X.mg c hx f) (iC : PySem.W.findIn w.K (.ref (w.ca c)) "__init__" = some (some (.ref fI)))
    (tI : PySem.W.typeIn w.K (.ref fI) = some (.type "function")) (Fn : FnOk X.prog X.w w.K X.mg X.base (L2.CX X.prog X.w) k fI fd ps (spI w c f)) (hr : Room (k + 1) X.A) (hb : Binds w.K fd ps []) (hg : Gl X x) (hm : X.mg x = some (.ref (w.ca c))) (hdb : (x == ("__debug__" : Str)) = false)
    (he : SE X w F W e t) (hs : ∀ x p, e ≠ .Starred x p) :
    SE X w F W (.Call (.Name x p) [e] [] pos) (.mkx c [f] (.cons t .nil)) := by
  have hx0 : Passes (L2.CX X.prog X.w) X (fun _ _ _ => False) := fun pins σ H s e s' I z => by
    obtain ⟨_, _, _, _, _, _, _, _, _, _, _, _, q⟩ := z
    exact q.elim
  have mk := pmk_oex (X := X) (sp := spI w c f) (dvs := []) (ds := []) (pos := pos) (p := p) (by rw [hK]; exact XI.oex) (by rw [hK]; exact iC) (by rw [hK]; exact tI) (by rw [hK]; exact Fn) hr (by rw [hK]; exact hb) .nil hx0 hg hm (pa_cons he pa_nil (nostar hs)) hdb (nostar hs)
    (by rfl)
  refine pe_imp (pe_of_mk hex mk) fun s H Q h => ?_
  obtain ⟨f0, r, G, env, h, P, Xp, S, E, wp, q, qx⟩ := h
  refine ⟨f0, r, G, env, h, _, Xp, S, E, wp, fun v h1 u r1 G1 H1 w1 e1 S1 rv => ?_, qx⟩
  obtain ⟨ds, ed, hl, w2⟩ : ∃ ds, allD [v] = some ds ∧ (([f] : List Nat) = [] ∨ ds.length = [f].length) ∧ P (.exc c ([f].zip ds).reverse) h1 := by
    obtain ⟨ds, e1, e2⟩ := optP_of w1
    exact ⟨ds, e1, e2⟩
  obtain ⟨d0, rfl, rfl⟩ : ∃ d0, v = .d d0 ∧ ds = [d0] := by
    cases v with
    | d x => cases ed; exact ⟨x, rfl, rfl⟩
    | _ => cases ed
  refine ⟨by show 1 ≤ 1000; decide, fun a hn => ⟨a, u, rfl, upd_same, fun dx hd hne => ⟨rfl, dx, [(w.an f, u)], upd_same, by rw [upd_ne hne]; exact upd_same, ?_, ?_⟩⟩⟩
  · rw [upd_ne hne] at hd
    exact hd
  · have hd0 : H1 dx = none := by rw [upd_ne hne] at hd; exact hd
    have eH : upd (del (upd (upd (upd H1 a (exo a (w.ca c) none)) dx (exd dx [(w.an f, u)])) a (exo a (w.ca c) (some dx))) a) dx (.xd [(w.an f, u)]) = upd H1 dx (.xd [(w.an f, u)]) := by
      funext b
      by_cases hb : b = dx
      · subst hb; rw [upd_same, upd_same]
      · rw [upd_ne hb, upd_ne hb]
        by_cases ha : b = a
        · subst ha; rw [del_same, hn]
        · rw [del_ne ha, upd_ne ha, upd_ne hb, upd_ne ha]
    rw [eH]
    intro b nb
    obtain ⟨S2, e2⟩ := S1.lay hd0 (.xd [(w.an f, u)]) (fun b z => nomatch z)
    obtain ⟨S3, e3⟩ := S2.lay nb (ExK (.ref (w.ca c)) (some dx) b) (fun b z => nomatch z)
    have hdb : dx ≠ b := fun z => by rw [← z, upd_same] at nb; cases nb
    exact q (.exc c [(f, d0)]) h1 (.ref b) r1 _ _ w2 (e1.trans (e2.trans e3)) S3 ⟨hc, b, some dx, rfl, upd_same, dx, [(w.an f, u)], rfl, by rw [upd_ne hdb]; exact upd_same, rfl, ⟨u, [], rfl, Rv.mono (e2.trans e3) (.d d0) u rv, rfl⟩⟩
end
/-! ### two fields -/
/-- what such an __init__ does -/
def spJ (w : Wo) (c f g : Nat) : Sp := fun vs H Q _ => ∃ a y z, vs = [.ref a, y, z] ∧ H a = some (exo a (w.ca c) none) ∧ ∀ dx, H dx = none → dx ≠ a →
  Q .non (upd (upd (upd H dx (exd dx [(w.an f, y)])) a (exo a (w.ca c) (some dx))) dx (exd dx [(w.an g, z), (w.an f, y)]))
def initB2 (hx fn gn : Str) (N ps : List Str) (names : List (Str × NameKind)) : List Stmt → Bool
  | [.Expr (.Call (.Attribute (.Name h _) m p2) [.Name s _, .Constant (.str _) _ _] [] p5) _, .Assign [.Attribute (.Name s' _) f _] (.Name y _) _, .Assign [.Attribute (.Name s'' _) g _] (.Name z _) _] =>
    (p2.endLine == p5.line) && (decide (m = "__init__") && (decide (h = hx) && (decide (names.lookup h = some .globalImplicit) && (!(h == ("__debug__" : Str)) && (decide (N = [s, y, z]) && (decide (ps = [s, y, z]) && (decide (s' = s) && (decide (s'' = s) && (decide (f = fn) && (decide (g = gn) && (nmB names s && (nmB names y && nmB names z))))))))))))
  | _ => false
theorem nmB_ok {names : List (Str × NameKind)} {x : Str} (h : nmB names x = true) : names.lookup x = some .local ∧ (x == ("__debug__" : Str)) = false ∧ (x == ("__classdict__" : Str)) = false := by
  obtain ⟨h, h3⟩ := and_of h
  obtain ⟨h1, h2⟩ := and_of h
  exact ⟨of_decide_eq_true h1, by simpa using h2, by simpa using h3⟩
theorem init_ok2 {P : Program} {ww : World} {mg : Str → Option Value} {base : Heap} {w : Wo} {c f g : Nat} {hx fn gn nm qn : Str} {N ps : List Str} {args : Arguments} {body : List Stmt} {scope : Scope} {fI : Addr} {fd : FuncData} (XI : XiC w mg c hx f) (XJ : XiC w mg c hx g) (hfn : w.an f = fn) (hgn : w.an g = gn)
    (F : FunD w.K nm qn args body scope [] [] fI fd) (sc : FnScope N ps scope) (hb : initB2 hx fn gn N ps scope.names body = true) (k : Nat) : FnOk P ww w.K mg base (L2.CX P ww) (k + 1) fI fd ps (spJ w c f g) := by
  unfold initB2 at hb
  split at hb
  · rename_i h p1 m p2 s p3 str j p4 p5 p6 s' p7 f' p8 y p9 p10 s'' q7 g' q8 z q9 q10
    obtain ⟨hl, hb⟩ := and_of hb
    obtain ⟨h1, hb⟩ := and_of hb
    obtain ⟨h2, hb⟩ := and_of hb
    obtain ⟨h3, hb⟩ := and_of hb
    obtain ⟨h4, hb⟩ := and_of hb
    obtain ⟨h5, hb⟩ := and_of hb
    obtain ⟨h6, hb⟩ := and_of hb
    obtain ⟨h7, hb⟩ := and_of hb
    obtain ⟨h8, hb⟩ := and_of hb
    obtain ⟨h9, hb⟩ := and_of hb
    obtain ⟨h10, hb⟩ := and_of hb
    obtain ⟨hs, hb⟩ := and_of hb
    obtain ⟨hy, hz⟩ := and_of hb
    have h1 := of_decide_eq_true h1
    have h2 := of_decide_eq_true h2
    have h3 := of_decide_eq_true h3
    have h4 : (h == ("__debug__" : Str)) = false := by simpa using h4
    have h5 := of_decide_eq_true h5
    have h6 := of_decide_eq_true h6
    have h7 := of_decide_eq_true h7
    have h8 := of_decide_eq_true h8
    have h9 := of_decide_eq_true h9
    have h10 := of_decide_eq_true h10
    subst h1 h2 h5 h6 h7 h8 h9 h10
    obtain ⟨s1, s2, s3⟩ := nmB_ok hs
    obtain ⟨y1, y2, y3⟩ := nmB_ok hy
    obtain ⟨z1, z2, z3⟩ := nmB_ok hz
    refine F.ok (k := k) sc (fun vs H Q E hh => by obtain ⟨a, y, z, rfl, _⟩ := hh; rfl) fun cdv A outer s0 H vs Q E hr hh => ?_
    let X : Cx := cxOf (L2.CX P ww) P ww w.K mg base [s'', y, z] qn scope fI cdv A outer s0 H E
    have vs1 : ∀ p, PE X (.Name s'' p) (tVar 0) := fun p => pe_var (X := X) rfl (.inl s1) s2 s3
    have vy1 : ∀ p, PE X (.Name y p) (tVar 1) := fun p => pe_var (X := X) rfl (.inl y1) y2 y3
    have vz1 : ∀ p, PE X (.Name z p) (tVar 2) := fun p => pe_var (X := X) rfl (.inl z1) z2 z3
    refine ⟨_, pss_cons (ps_expr (pe_hinit (X := X) h3 XI.hm h4 XI.hr XI.hv (pa_cons (vs1 p3) (pa_cons pe_str pa_nil)) (by intro y hy x p hz; simp at hy; rcases hy with rfl | rfl <;> cases hz) (by show 2 < 30; decide) hl)) (pss_cons (ps_ost (vs1 p7) (vy1 p9)) (pss_cons (ps_ost (vs1 q7) (vz1 q9)) pss_nil)), ?_⟩
    obtain ⟨a, u, v, rfl, ha, q⟩ := hh
    refine ⟨.ref a, rfl, a, w.ca c, [.str str], rfl, by show 1 ≤ 1000; decide, XI.oex, ha, ?_⟩
    refine ⟨u, rfl, .ref a, rfl, a, w.ca c, rfl, XI.oex, by rw [← hfn]; exact XI.nf, .inl ⟨ha, fun dx n1 n2 => ?_⟩⟩
    refine ⟨v, rfl, .ref a, rfl, a, w.ca c, rfl, XI.oex, by rw [← hgn]; exact XJ.nf, .inr ⟨dx, [(f', u)], upd_same, by rw [upd_ne n2]; exact upd_same, by show 1 ≤ 900; decide, ?_⟩⟩
    have := q dx n1 n2
    rw [hfn, hgn] at this
    exact this
  · cases hb
section
variable {X : Cx} {w : Wo} {F : Phi} {W : WX} {e e2 : Expr} {t t2 : T}
/-- C(e, e2) as a value, C with two fields -/
theorem se_mkg {c f g k : Nat} {x hx : Str} {p pos : Pos} {fI : Addr} {fd : FuncData} {ps : List Str} (hK : X.K = w.K) (hex : X.ex = []) (hc : c ∈ w.xc) (XI : XiC w X.mg c hx f) (iC : PySem.W.findIn w.K (.ref (w.ca c)) "__init__" = some (some (.ref fI)))
    (tI : PySem.W.typeIn w.K (.ref fI) = some (.type "function")) (Fn : FnOk X.prog X.w w.K X.mg X.base (L2.CX X.prog X.w) k fI fd ps (spJ w c f g)) (hr : Room (k + 1) X.A) (hb : Binds w.K fd ps []) (hg : Gl X x) (hm : X.mg x = some (.ref (w.ca c))) (hdb : (x == ("__debug__" : Str)) = false)
    (he : SE X w F W e t) (hs : ∀ x p, e ≠ .Starred x p) (he2 : SE X w F W e2 t2) (hs2 : ∀ x p, e2 ≠ .Starred x p) :
    SE X w F W (.Call (.Name x p) [e, e2] [] pos) (.mkx c [f, g] (.cons t (.cons t2 .nil))) := by
  have hx0 : Passes (L2.CX X.prog X.w) X (fun _ _ _ => False) := fun pins σ H s e s' I z => by
    obtain ⟨_, _, _, _, _, _, _, _, _, _, _, _, q⟩ := z
    exact q.elim
  have mk := pmk_oex (X := X) (sp := spJ w c f g) (dvs := []) (ds := []) (pos := pos) (p := p) (by rw [hK]; exact XI.oex) (by rw [hK]; exact iC) (by rw [hK]; exact tI) (by rw [hK]; exact Fn) hr (by rw [hK]; exact hb) .nil hx0 hg hm (pa_cons he (pa_cons he2 pa_nil (nostar hs2)) (nostar hs)) hdb (nostar hs)
    (noany (by intro e he x p hz; simp at he; subst he; exact hs2 x p hz))
  refine pe_imp (pe_of_mk hex mk) fun s H Q h => ?_
  obtain ⟨f0, r, G, env, h, P, Xp, S, E, wp, q, qx⟩ := h
  refine ⟨f0, r, G, env, h, _, Xp, S, E, wp, fun v h1 u r1 G1 H1 w1 e1 S1 rv => ?_, qx⟩
  refine ⟨f0, r1, G1, env, h1, _, Xp, S1, E.mono e1, w1, fun v2 h2 u2 r2 G2 H2 w2 e2 S2 rv2 => ?_, qx.mono e1⟩
  obtain ⟨ds, ed, hl, w3⟩ : ∃ ds, allD [v, v2] = some ds ∧ (([f, g] : List Nat) = [] ∨ ds.length = [f, g].length) ∧ P (.exc c ([f, g].zip ds).reverse) h2 := by
    obtain ⟨ds, e1, e2⟩ := optP_of w2
    exact ⟨ds, e1, e2⟩
  have rv := Rv.mono e2 _ _ rv
  obtain ⟨d0, d1, rfl, rfl, rfl⟩ : ∃ d0 d1, v = .d d0 ∧ v2 = .d d1 ∧ ds = [d0, d1] := by
    cases v with
    | d x => cases v2 with
      | d y => cases ed; exact ⟨x, y, rfl, rfl, rfl⟩
      | _ => cases ed
    | _ => cases ed
  refine ⟨by show 2 ≤ 1000; decide, fun a hn => ⟨a, u, u2, rfl, upd_same, fun dx hd hne => ⟨rfl, dx, [(w.an g, u2), (w.an f, u)], by rw [upd_ne (Ne.symm hne)]; exact upd_same, upd_same, ?_, ?_⟩⟩⟩
  · rw [upd_ne hne] at hd
    exact hd
  · have hd0 : H2 dx = none := by rw [upd_ne hne] at hd; exact hd
    have eH : upd (del (upd (upd (upd (upd H2 a (exo a (w.ca c) none)) dx (exd dx [(w.an f, u)])) a (exo a (w.ca c) (some dx))) dx (exd dx [(w.an g, u2), (w.an f, u)])) a) dx (.xd [(w.an g, u2), (w.an f, u)]) = upd H2 dx (.xd [(w.an g, u2), (w.an f, u)]) := by
      funext b
      by_cases hb : b = dx
      · subst hb; rw [upd_same, upd_same]
      · rw [upd_ne hb, upd_ne hb]
        by_cases ha : b = a
        · subst ha; rw [del_same, hn]
        · rw [del_ne ha, upd_ne hb, upd_ne ha, upd_ne hb, upd_ne ha]
    rw [eH]
    intro b nb
    obtain ⟨S3, e3⟩ := S2.lay hd0 (.xd [(w.an g, u2), (w.an f, u)]) (fun b z => nomatch z)
    obtain ⟨S4, e4⟩ := S3.lay nb (ExK (.ref (w.ca c)) (some dx) b) (fun b z => nomatch z)
    have hdb : dx ≠ b := fun z => by rw [← z, upd_same] at nb; cases nb
    exact q (.exc c [(g, d1), (f, d0)]) h2 (.ref b) r2 _ _ w3 ((e1.trans e2).trans (e3.trans e4)) S4 ⟨hc, b, some dx, rfl, upd_same, dx, [(w.an g, u2), (w.an f, u)], rfl, by rw [upd_ne hdb]; exact upd_same, rfl, ⟨u2, [u], rfl, Rv.mono (e3.trans e4) (.d d1) u2 rv2, u, [], rfl, Rv.mono (e3.trans e4) (.d d0) u rv, rfl⟩⟩
/-- a + b, lists that hold more than data -/
theorem lvV_of {h : Hp} {v : V} {Q : List V → Prop} (q : lvV h v Q) : ∃ n xs, v = .cell n ∧ h[n]? = some (.lv xs) ∧ Q xs := by
  unfold lvV at q
  split at q
  · split at q
    · rename_i n _ xs e; exact ⟨n, xs, rfl, e, q⟩
    · exact q.elim
  · exact q.elim
theorem se_catv {a b : Expr} {t1 t2 : T} {pos : Pos} (ha : SE X w F W a t1) (hb : SE X w F W b t2) : SE X w F W (.BinOp a .Add b pos) (.catv t1 t2) := by
  refine pe_imp (pe_op op_catL ha hb) fun s H Q h => ?_
  obtain ⟨f0, r, G, env, h, P, Xp, S, E, wp, q, qx⟩ := h
  refine ⟨f0, r, G, env, h, _, Xp, S, E, wp, fun v h1 u r1 G1 H1 w1 e1 S1 rv => ?_, qx⟩
  refine ⟨f0, r1, G1, env, h1, _, Xp, S1, E.mono e1, w1, fun v2 h2 u2 r2 G2 H2 w2 e2 S2 rv2 => ?_, qx.mono e1⟩
  obtain ⟨n, xs, rfl, hn, w2⟩ := lvV_of w2
  obtain ⟨m, ys, rfl, hm, w2⟩ := lvV_of w2
  obtain ⟨hl, w2⟩ := w2
  obtain ⟨a1, g1, rfl⟩ := Rv.mono e2 _ _ rv
  obtain ⟨a2, g2, rfl⟩ := rv2
  obtain ⟨_, us, k1, t1⟩ := S2.ob n a1 _ g1 hn
  obtain ⟨_, vs, k2, t2⟩ := S2.ob m a2 _ g2 hm
  have l1 := rvAll_len t1
  have l2 := rvAll_len t2
  refine ⟨a1, a2, us, vs, rfl, rfl, .inl (.inl k1), .inl (.inl k2), by rw [← l1, ← l2, big_eq]; exact hl, fun p hp => ?_⟩
  have g := (S2.fresh hp).1
  have e0 : Ext r2 G2 (r2 ++ [p]) G2 := ⟨fun n a e => by rw [List.getElem?_append_left (List.getElem?_eq_some_iff.mp e).1]; exact e, fun _ _ e => e⟩
  obtain ⟨S3, e3, el⟩ := S2.alloc (x := .lst (us ++ vs)) hp (o := .lv (xs ++ ys)) ⟨g, us ++ vs, upd_same, RvAll.mono e0 _ _ (rvAll_iff.mpr ((rvAll_iff.mp t1).append (rvAll_iff.mp t2)))⟩
  exact q _ _ (.ref p) _ _ _ w2 ((e1.trans e2).trans e3) S3 ⟨p, el, rfl⟩
end
end Hb

/-! CHK2: contexts, and the checker. -/
namespace Hb
open PySem PySem.Spec PyProof.Rows
open L2 hiding V Hp St
set_option autoImplicit false
/-! ### contexts -/
/-- a class: its number, its name, its maker, its methods, its fields -/
structure Kl where
  c : Nat
  x : Str
  mkr : List Nat
  ms : List (Str × Nat)
  fs : List Nat
/-- a class of errors with a field, told by what they are made with: its number, its name, its field -/
structure Xf where
  c : Nat
  x : Str
  f : Nat
structure XfOk (mg : Str → Option Value) (w : Wo) (q : Xf) : Prop where
  mem : q.c ∈ w.xc
  at_ : mg q.x = some (.ref (w.ca q.c))
  ini : ∃ hx fI fd ps, XiC w mg q.c hx q.f ∧ PySem.W.findIn w.K (.ref (w.ca q.c)) "__init__" = some (some (.ref fI)) ∧ PySem.W.typeIn w.K (.ref fI) = some (.type "function") ∧ Binds w.K fd ps [] ∧
    ∀ (P : Program) (ww : World) (base : Heap) (k : Nat), FnOk P ww w.K mg base (L2.CX P ww) (k + 1) fI fd ps (spI w q.c q.f)
/-- a class of errors with two fields -/
structure Xg where
  c : Nat
  x : Str
  f : Nat
  g : Nat
structure XgOk (mg : Str → Option Value) (w : Wo) (q : Xg) : Prop where
  mem : q.c ∈ w.xc
  at_ : mg q.x = some (.ref (w.ca q.c))
  ini : ∃ hx fI fd ps, XiC w mg q.c hx q.f ∧ PySem.W.findIn w.K (.ref (w.ca q.c)) "__init__" = some (some (.ref fI)) ∧ PySem.W.typeIn w.K (.ref fI) = some (.type "function") ∧ Binds w.K fd ps [] ∧
    ∀ (P : Program) (ww : World) (base : Heap) (k : Nat), FnOk P ww w.K mg base (L2.CX P ww) (k + 1) fI fd ps (spJ w q.c q.f q.g)
structure Tb where
  fns : List (Str × List Str × List (Nat × List Str × List Nat))
  gcs : List (Str × D)
  bls : List Str
  kls : List Kl
  ats : List Str
  xcs : List (Nat × Str × Bool)
  hue : List Str
  gds : Bool := false
  dcs : List (Str × List (Str × Nat)) := []
  xfs : List Xf := []
  xnf : List Nat := []
  kcs : List (Str × D) := []
  xf2 : List Xg := []
structure KlOk (mg : Str → Option Value) (w : Wo) (k : Kl) : Prop where
  cls : Cls w.K (w.ca k.c)
  at_ : mg k.x = some (.ref (w.ca k.c))
  mkr : ∀ g ∈ k.mkr, L2.Mk w.K (w.ca k.c) (w.fa g)
  ms : ∀ q ∈ k.ms, Meth w.K (w.ca k.c) q.1 (w.fa q.2) ∧ ∀ i, w.an i ≠ q.1
  fs : ∀ i ∈ k.fs, NoAttr w.K (w.ca k.c) (w.an i)
/-- a class of errors: its number, its name; whether it is made with a text alone -/
structure XkOk (mg : Str → Option Value) (w : Wo) (q : Nat × Str × Bool) : Prop where
  mem : q.1 ∈ w.xc
  at_ : mg q.2.1 = some (.ref (w.ca q.1))
  mak : q.2.2 = true → PySem.W.excIn w.K (w.ca q.1) He.veBase "ValueError.__new__" = true ∧ PySem.W.keepIn w.K (.ref (w.ca q.1)) = true ∧ PySem.W.subIn w.K (.ref (w.ca q.1)) (.type "BaseException") = some true ∧ PySem.W.typeIn w.K (.ref (w.ca q.1)) = some (.type "type")
/-- a tuple of the module -/
def KcOk (mg : Str → Option Value) (w : Wo) (q : Str × D) : Prop := ∃ a, mg q.1 = some (.ref a) ∧ KcAt w.K q.2 a
structure XsOk (mg : Str → Option Value) (w : Wo) (tb : Tb) : Prop where
  xo : tb.hue = [] ∨ XcOk w
  hue : ∀ x ∈ tb.hue, mg x = some (.ref w.hu)
  xcs : ∀ q ∈ tb.xcs, XkOk mg w q
  xfs : ∀ q ∈ tb.xfs, XfOk mg w q
  xnf : ∀ f ∈ tb.xnf, ∀ c ∈ w.xc, PySem.W.findIn w.K (.ref (w.ca c)) (w.an f) = some none
  kcs : ∀ q ∈ tb.kcs, KcOk mg w q
  xf2 : ∀ q ∈ tb.xf2, XgOk mg w q
/-- a dict of the module -/
def DcOk (mg : Str → Option Value) (w : Wo) (q : Str × List (Str × Nat)) : Prop := ∃ d es n, mg q.1 = some (.ref d) ∧ DcAt w.K w q.2 d es n
structure Cc where
  N : List Str
  nm : List (Str × NameKind)
  own : Option (List (Str × NameKind))
structure CtxOk (X : Cx) (w : Wo) (F : Phi) (tb : Tb) (cc : Cc) : Prop where
  hK : X.K = w.K
  hN : X.N = cc.N
  nd : cc.N.Nodup
  nm : X.env.scope.names = cc.nm
  kd : X.env.scope.kind = .function
  calm : X.calm = true
  un : X.A.units + 65 < cLine
  rm2 : Room 2 X.A
  defs : ∃ k, Room (k + 1) X.A ∧ ∀ (g : Nat) x ps kws, tb.fns[g]? = some (x, ps, kws) → DefOk X.prog X.w X.mg X.base k w F g x ps kws
  gcs : ∀ (g : Nat) x c, tb.gcs[g]? = some (x, c) → ∃ u v, X.mg x = some u ∧ RelV v u ∧ ∀ G, Rp w.K G c v
  bls : ∀ x ∈ tb.bls, X.mg x = none
  kls : ∀ k ∈ tb.kls, KlOk X.mg w k
  ats : ∀ (i : Nat) x, tb.ats[i]? = some x → w.an i = x
  xs : XsOk X.mg w tb
  gds : tb.gds = true → X.A.guards = some []
  dcs : tb.dcs = [] ∨ (w.pm = X.w.params ∧ ∀ q ∈ tb.dcs, DcOk X.mg w q)
  top : cc.own = none → X.stack = X.env :: X.outer ∧ X.env.frame = some X.env.locals ∧ X.ex = []
  fn : match cc.own with
    | none => ∀ x, X.fn x = true
    | some n0 => ∀ x, X.fn x = (n0.lookup x == some .cell)
def visB (cc : Cc) (x : Str) : Bool := (match cc.nm.lookup x with | some .local => true | some .cell => true | some .free => true | _ => false) && !(x == ("__debug__" : Str)) && !(x == ("__classdict__" : Str))
def locB (cc : Cc) (x : Str) : Bool := match cc.nm.lookup x with | some .local => true | some .cell => true | _ => false
def glB (cc : Cc) (x : Str) : Bool := (match cc.nm.lookup x with | some .globalImplicit => true | _ => false) && !(x == ("__debug__" : Str))
def blB (tb : Tb) (cc : Cc) (x : Str) : Bool := glB cc x && decide (x ∈ tb.bls) && decide (x ≠ "__name__")
def fnB (cc : Cc) (x : Str) : Bool := match cc.own with
  | none => true
  | some n0 => decide (cc.nm.lookup x = some .local) || (n0.lookup x == some .cell)
/-- the slot of a name that is stored -/
def slotB (cc : Cc) (i : Nat) (x : Str) : Bool := decide (cc.N[i]? = some x) && locB cc x && fnB cc x
section
variable {X : Cx} {w : Wo} {F : Phi} {tb : Tb} {cc : Cc}
theorem CtxOk.vis (c : CtxOk X w F tb cc) {x : Str} (h : visB cc x = true) : Vis X.env.scope x ∧ (x == ("__debug__" : Str)) = false ∧ (x == ("__classdict__" : Str)) = false := by
  obtain ⟨h, h3⟩ := and_of h
  obtain ⟨h, h2⟩ := and_of h
  refine ⟨?_, by simpa using h2, by simpa using h3⟩
  unfold Vis
  rw [c.nm]
  split at h <;> first | cases h | skip
  · exact .inl (by assumption)
  · exact .inr (.inl (by assumption))
  · exact .inr (.inr (by assumption))
theorem CtxOk.loc (c : CtxOk X w F tb cc) {x : Str} (h : locB cc x = true) : L2.Loc X.env.scope x := by
  unfold L2.Loc
  rw [c.nm]
  unfold locB at h
  split at h <;> first | cases h | skip
  · exact .inl (by assumption)
  · exact .inr (by assumption)
theorem CtxOk.gl (c : CtxOk X w F tb cc) {x : Str} (h : glB cc x = true) : Gl X x ∧ (x == ("__debug__" : Str)) = false := by
  obtain ⟨h, h2⟩ := and_of h
  refine ⟨?_, by simpa using h2⟩
  show X.env.scope.names.lookup x = some .globalImplicit
  rw [c.nm]
  split at h <;> first | assumption | cases h
theorem CtxOk.bl (c : CtxOk X w F tb cc) {x : Str} (h : blB tb cc x = true) : Gl X x ∧ X.mg x = none ∧ x ≠ "__name__" ∧ (x == ("__debug__" : Str)) = false := by
  obtain ⟨h, h3⟩ := and_of h
  obtain ⟨h, h2⟩ := and_of h
  obtain ⟨g1, g2⟩ := c.gl h
  exact ⟨g1, c.bls x (of_decide_eq_true h2), of_decide_eq_true h3, g2⟩
theorem CtxOk.slot (c : CtxOk X w F tb cc) {i : Nat} {x : Str} (h : slotB cc i x = true) : X.N.Nodup ∧ X.N[i]? = some x ∧ L2.Loc X.env.scope x ∧ (X.fn x = true ∨ X.env.scope.names.lookup x = some .local) := by
  obtain ⟨h, h3⟩ := and_of h
  obtain ⟨h, h2⟩ := and_of h
  refine ⟨by rw [c.hN]; exact c.nd, by rw [c.hN]; exact of_decide_eq_true h, c.loc h2, ?_⟩
  have f := c.fn
  unfold fnB at h3
  rw [c.nm]
  cases e : cc.own with
  | none => rw [e] at f; exact .inl (f x)
  | some n0 =>
    rw [e] at f h3
    have h3 : (decide (cc.nm.lookup x = some .local) || (n0.lookup x == some .cell)) = true := h3
    rcases (Bool.or_eq_true _ _).mp h3 with h | h
    · exact .inr (of_decide_eq_true h)
    · exact .inl ((f x).trans h)
/-! ### the block of a comprehension -/
def relN (nm : List (Str × NameKind)) (scope : Scope) : List (Str × NameKind) := scope.names.map fun (n, k) => if (k == NameKind.free && nm.lookup n == some .cell) then (n, NameKind.cell) else (n, k)
def blkCc (cc : Cc) (scope : Scope) : Cc := ⟨cc.N, relN cc.nm scope, some scope.names⟩
/-- the block's own names with their slots -/
def ownB (N : List Str) (scope : Scope) : List Nat → List (Str × Nat) := fun ws => ws.map fun i => (N.getD i "", i)
theorem ownB_map (N : List Str) (scope : Scope) (ws : List Nat) : (ownB N scope ws).map (·.2) = ws := by
  unfold ownB
  rw [List.map_map]
  exact List.map_id ws
def blkB (cc : Cc) (scope : Scope) (ws : List Nat) : Bool := blkC cc.N ⟨.function, cc.nm, false, false, []⟩ scope (ownB cc.N scope ws)
theorem CtxOk.blkOk (c : CtxOk X w F tb cc) {scope : Scope} {ws : List Nat} (h : blkB cc scope ws = true) : BlkOk X.N X.env.scope scope (ownB cc.N scope ws) := by
  have b := blkOk_by h
  refine ⟨b.kind, b.uniq, by rw [c.hN]; exact b.ix, ?_, by rw [c.hN]; exact b.own⟩
  rw [c.nm]
  exact b.free
theorem CtxOk.blk (c : CtxOk X w F tb cc) {scope : Scope} (hk : scope.kind = .function) (s : Shared) (H : L2.Hp) (C : Addr) (cl : List (Str × Addr)) (fp : List Addr) : CtxOk (X.blk s H scope (compEnvC scope cl C X.env) fp) w F tb (blkCc cc scope) where
  hK := c.hK
  hN := c.hN
  nd := c.nd
  nm := by
    show (relabel scope X.env).names = relN cc.nm scope
    unfold relabel relN
    have e : ∀ n, X.env.kindOf n = cc.nm.lookup n := fun n => by show X.env.scope.names.lookup n = _; rw [c.nm]
    simp only [c.kd, e]
    simp
  kd := by
    show (relabel scope X.env).kind = .function
    exact hk
  calm := c.calm
  un := c.un
  rm2 := c.rm2
  defs := c.defs
  gcs := c.gcs
  bls := c.bls
  kls := c.kls
  ats := c.ats
  xs := c.xs
  gds := c.gds
  dcs := c.dcs
  top := fun z => nomatch z
  fn := fun _ => rfl
/-- within try -/
theorem CtxOk.tr (c : CtxOk X w F tb cc) (pn : List (Addr × Obj)) (xe : Value → Shared → Prop) : CtxOk (X.tr pn xe) w F tb cc where
  hK := c.hK
  hN := c.hN
  nd := c.nd
  nm := c.nm
  kd := c.kd
  calm := c.calm
  un := c.un
  rm2 := c.rm2
  defs := c.defs
  gcs := c.gcs
  bls := c.bls
  kls := c.kls
  ats := c.ats
  xs := c.xs
  gds := c.gds
  dcs := c.dcs
  top := c.top
  fn := c.fn
theorem blkB_kind {scope : Scope} {ws : List Nat} (h : blkB cc scope ws = true) : scope.kind = .function := (blkOk_by h).kind
end
end Hb

/-! CHK3: the checker's steps, and that they are sound. -/
namespace Hb
open PySem PySem.Spec PyProof.Rows
open L2 hiding V Hp St
set_option autoImplicit false
structure Rec where
  E : Cc → Expr → T → Bool
  Tt : Cc → Expr → T → Bool
  G : Cc → Expr → T → Bool
  C : Cc → List Nat → Expr → T → Bool
  Ss : Cc → List Stmt → T → Bool
/-! ### operations -/
def opB : Operator → Option O2
  | .Add => some .add | .Sub => some .sub | .Mult => some .mul | .FloorDiv => some .fdiv | .Mod => some .mod | .Pow => some .pow | _ => none
def opC : CmpOp → O2
  | .Eq => .eq | .NotEq => .ne | .Lt => .lt | .LtE => .le | .Gt => .gt | .GtE => .ge | .Is => .is | .IsNot => .isnot | .In => .in_ | .NotIn => .notin
def c1n : O1 → Option Str
  | .len => some "len" | .sorted => some "sorted" | .all => some "all" | .any => some "any" | .sum => some "sum" | .min => some "min" | .max => some "max" | .sortt => some "sorted" | .lenk => some "len" | .sortk => some "sorted" | _ => none
def t1n : O1 → Option Str
  | .tuple => some "tuple" | .list => some "list" | .int => some "int" | .str => some "str" | _ => none
def c2n : O2 → Option Str
  | .min2 => some "min" | .max2 => some "max" | _ => none
def augO : Operator → Option O2
  | .Add => some .add | .Sub => some .sub | .Mult => some .mul | _ => none
section
variable {X : Cx} {w : Wo} {F : Phi} {W : WX} {tb : Tb} {cc : Cc}
theorem rC1_imp {f : Value} {r r' : L2.V → L2.Hp → VK → Prop} (h : CallR X f (rC1 r)) (i : ∀ x H Q, r' x H Q → r x H Q) : CallR X f (rC1 r') := callr_imp h fun xs H Q ⟨x, e, q⟩ => ⟨x, e, i x H Q q⟩
theorem rC2_imp {f : Value} {r r' : R2} (h : CallR X f (rC2 r)) (i : ∀ x y H Q, r' x y H Q → r x y H Q) : CallR X f (rC2 r') := callr_imp h fun xs H Q ⟨x, y, e, q⟩ => ⟨x, y, e, i x y H Q q⟩
theorem kD1 {f : Value} {o : O1} (hK : X.K = w.K) (hd : dat1 o = true) (h : CallR X f (rC1 (rD1 X.K (op1 o)))) : CallR X f (rC1 (rO1 w (o1V o))) := rC1_imp h fun x H Q q => by rw [hK]; exact r1_of (dat1_of hd) q
theorem kF1 {f : Value} {o : O1} (hK : X.K = w.K) (hd : dat1 o = true) (h : CallR X f (rC1 (rF1 X.K (op1 o)))) : CallR X f (rC1 (rO1 w (o1V o))) := rC1_imp h fun x H Q q => by rw [hK]; exact rD1_F (r1_of (dat1_of hd) q)
theorem kD2 {f : Value} {o : O2} (hK : X.K = w.K) (hd : dat2 o = true) (h : CallR X f (rC2 (rD2 X.K (op2 o)))) : CallR X f (rC2 (rO2 w (o2V o))) := rC2_imp h fun x y H Q q => by rw [hK]; exact r2_of (dat2_of hd) q
theorem pD2 {f : Value → Value → Sem Value} {o : O2} (hK : X.K = w.K) (hd : dat2 o = true) (h : OpR X f (rD2 X.K (op2 o))) : OpR X f (rO2 w (o2V o)) := opr_imp h fun x y H Q q => by rw [hK]; exact r2_of (dat2_of hd) q
theorem c1_ok (c : CtxOk X w F tb cc) {o : O1} {x : Str} (h : c1n o = some x) : ∃ id, bootBuiltins x = some (.builtin id) ∧ CallR X (.builtin id) (rC1 (rO1 w (o1V o))) := by
  cases o <;> first | cases h | skip
  · exact ⟨"len", by decide +kernel, k_len c.hK⟩
  · exact ⟨"sorted", by decide +kernel, kF1 c.hK rfl (k_sorted c.un)⟩
  · exact ⟨"all", by decide +kernel, kD1 c.hK rfl (k_all c.calm)⟩
  · exact ⟨"any", by decide +kernel, kD1 c.hK rfl (k_any c.calm)⟩
  · exact ⟨"sum", by decide +kernel, kD1 c.hK rfl (k_sum c.calm)⟩
  · exact ⟨"min", by decide +kernel, kD1 c.hK rfl (k_min c.calm c.un)⟩
  · exact ⟨"max", by decide +kernel, kD1 c.hK rfl (k_max c.calm c.un)⟩
  · exact ⟨"sorted", by decide +kernel, kF1 c.hK rfl (k_sortt c.un)⟩
  · exact ⟨"len", by decide +kernel, kD1 c.hK rfl k_lenk⟩
  · exact ⟨"sorted", by decide +kernel, kF1 c.hK rfl (k_sortk c.calm c.un)⟩
theorem t1_ok (c : CtxOk X w F tb cc) {o : O1} {x : Str} (h : t1n o = some x) : ∃ id, bootBuiltins x = some (.type id) ∧ CallR X (.type id) (rC1 (rO1 w (o1V o))) := by
  cases o <;> first | cases h | skip
  · exact ⟨"tuple", by decide +kernel, kD1 c.hK rfl k_tuple⟩
  · exact ⟨"list", by decide +kernel, kF1 c.hK rfl (k_list c.calm)⟩
  · exact ⟨"int", by decide +kernel, kD1 c.hK rfl k_int⟩
  · exact ⟨"str", by decide +kernel, kD1 c.hK rfl k_str⟩
theorem c2_ok (c : CtxOk X w F tb cc) {o : O2} {x : Str} (h : c2n o = some x) : ∃ id, bootBuiltins x = some (.builtin id) ∧ CallR X (.builtin id) (rC2 (rO2 w (o2V o))) := by
  cases o <;> first | cases h | skip
  · exact ⟨"min", by decide +kernel, kD2 c.hK rfl (k_min2 c.calm)⟩
  · exact ⟨"max", by decide +kernel, kD2 c.hK rfl (k_max2 c.calm)⟩
theorem bin_ok (c : CtxOk X w F tb cc) {op : Operator} {o : O2} (h : opB op = some o) : OpR X (binaryOp op) (rO2 w (o2V o)) := by
  cases op <;> first | (cases h; done) | (cases h; skip)
  · exact pD2 c.hK rfl p_add
  · exact pD2 c.hK rfl p_sub
  · exact pD2 c.hK rfl p_mul
  · exact pD2 c.hK rfl p_mod
  · exact pD2 c.hK rfl p_pow
  · exact pD2 c.hK rfl p_fdiv
theorem cmp_ok (c : CtxOk X w F tb cc) (op : CmpOp) : OpR X (compareOp op) (rO2 w (o2V (opC op))) := by
  cases op
  · exact pD2 c.hK rfl (p_eq c.un)
  · exact pD2 c.hK rfl (p_ne c.un)
  · exact pD2 c.hK rfl (p_lt c.un)
  · exact pD2 c.hK rfl (p_le c.un)
  · exact pD2 c.hK rfl (p_gt c.un)
  · exact pD2 c.hK rfl p_ge
  · exact p_is
  · exact p_isnot
  · exact pD2 c.hK rfl (p_in c.un)
  · exact pD2 c.hK rfl (p_notin c.un)
theorem aug_ok {op : Operator} {o : O2} (h : augO op = some o) : PIp X op (rAug w o) := by
  cases op <;> first | (cases h; done) | (cases h; skip)
  · exact ip_add'
  · exact ip_sub'
  · exact ip_mul'
end
/-! ### expressions, part by part -/
section
variable (rc : Rec) (tb : Tb) (cc : Cc)
def kVar (i : Nat) (e : Expr) : Bool := optB (asName e) fun r => decide (cc.N[i]? = some r.1) && visB cc r.1
def constB (c : D) (k : Const) : Bool := match c, k with
  | .none, .none => true
  | .bool a, .bool b => a == b
  | .int a, .int b => a == b
  | .str a, .str b => decide (a = b)
  | _, _ => false
def kCon (c : D) (e : Expr) : Bool := optB (asConst e) fun k => constB c k
def kGco (g : Nat) (c : D) (e : Expr) : Bool := optB (asName e) fun r => glB cc r.1 && tb.gcs.any fun q => decide (q.1 = r.1) && eqD q.2 c
def kFnv (g : Nat) (e : Expr) : Bool := optB (asName e) fun r => glB cc r.1 && decide (r.1 ≠ "") && optB tb.fns[g]? fun q => decide (q.1 = r.1)
def kO1 (o : O1) (e : Expr) (t : T) : Bool := match o with
  | .neg => optB (asUn e) fun r => decide (r.1 = .USub) && rc.E cc r.2 t
  | .rev => optB (asSub e) fun r => isRev r.2 && rc.E cc r.1 t
  | .lrange => optB (asCall1 e) fun r => decide (r.1 = "list") && blB tb cc "list" && optB (asCall1 r.2) fun q => decide (q.1 = "range") && blB tb cc "range" && noStar q.2 && rc.E cc q.2 t
  | .repr => tb.gds && optB (asCall1 e) fun r => decide (r.1 = "repr") && blB tb cc "repr" && noStar r.2 && rc.E cc r.2 t
  | .setlen => optB (asCall1 e) fun r => decide (r.1 = "len") && blB tb cc "len" && optB (asCall1 r.2) fun q => decide (q.1 = "set") && blB tb cc "set" && noStar q.2 && rc.E cc q.2 t
  | .sset => optB (asCall1 e) fun r => decide (r.1 = "sorted") && blB tb cc "sorted" && optB (asCall1 r.2) fun q => decide (q.1 = "set") && blB tb cc "set" && noStar q.2 && rc.E cc q.2 t
  | .sseti => optB (asCall1 e) fun r => decide (r.1 = "sorted") && blB tb cc "sorted" && optB (asCall1 r.2) fun q => decide (q.1 = "set") && blB tb cc "set" && noStar q.2 && rc.E cc q.2 t
  | .trange => optB (asCall1 e) fun r => decide (r.1 = "tuple") && blB tb cc "tuple" && optB (asCall1 r.2) fun q => decide (q.1 = "range") && blB tb cc "range" && noStar q.2 && rc.E cc q.2 t
  | o => (optB (c1n o) fun x => optB (asCall1 e) fun r => decide (r.1 = x) && blB tb cc x && noStar r.2 && rc.E cc r.2 t) ||
      (optB (t1n o) fun x => optB (asCall1 e) fun r => decide (r.1 = x) && blB tb cc x && noStar r.2 && rc.E cc r.2 t)
def kO2 (o : O2) (e : Expr) (t1 t2 : T) : Bool := match o with
  | .idx => optB (asSub e) fun r => noSlice r.2 && rc.E cc r.1 t1 && rc.E cc r.2 t2
  | .cutlo => optB (asSub e) fun r => optB (asCut r.2) fun q => optB q.1 fun b => q.2.isNone && rc.E cc r.1 t1 && rc.E cc b t2
  | .cuthi => optB (asSub e) fun r => optB (asCut r.2) fun q => optB q.2 fun b => q.1.isNone && rc.E cc r.1 t1 && rc.E cc b t2
  | .lrange2 => optB (asCall1 e) fun r => decide (r.1 = "list") && blB tb cc "list" && optB (asCall2 r.2) fun q => decide (q.1 = "range") && blB tb cc "range" && noStar q.2.1 && noStar q.2.2 && rc.E cc q.2.1 t1 && rc.E cc q.2.2 t2
  | o => (optB (asBin e) fun r => decide (opB r.2.1 = some o) && rc.E cc r.1 t1 && rc.E cc r.2.2 t2) ||
      (optB (asCmp1 e) fun r => decide (opC r.2.1 = o) && noSet r.2.2 && rc.E cc r.1 t1 && rc.E cc r.2.2 t2) ||
      (optB (c2n o) fun x => optB (asCall2 e) fun r => decide (r.1 = x) && blB tb cc x && noStar r.2.1 && noStar r.2.2 && rc.E cc r.2.1 t1 && rc.E cc r.2.2 t2)
def kO3 (e : Expr) (t1 t2 t3 : T) : Bool := optB (asSub e) fun r => optB (asCut r.2) fun q => optB q.1 fun b => optB q.2 fun c => rc.E cc r.1 t1 && rc.E cc b t2 && rc.E cc c t3
def kOwn (e : Expr) (t : T) : Bool := match t with
  | .o1 .list a => optB (asCall1 e) fun r => decide (r.1 = "list") && blB tb cc "list" && noStar r.2 && rc.E cc r.2 a
  | .o1 .sorted a => optB (asCall1 e) fun r => decide (r.1 = "sorted") && blB tb cc "sorted" && noStar r.2 && rc.E cc r.2 a
  | .o1 .lrange a => optB (asCall1 e) fun r => decide (r.1 = "list") && blB tb cc "list" && optB (asCall1 r.2) fun q => decide (q.1 = "range") && blB tb cc "range" && noStar q.2 && rc.E cc q.2 a
  | .o2 .add a b => optB (asBin e) fun r => decide (r.2.1 = .Add) && rc.E cc r.1 a && rc.E cc r.2.2 b
  | .o2 .mul a b => optB (asBin e) fun r => decide (r.2.1 = .Mult) && rc.E cc r.1 a && rc.E cc r.2.2 b
  | .o2 .cutlo a b => optB (asSub e) fun r => optB (asCut r.2) fun q => optB q.1 fun d => q.2.isNone && rc.E cc r.1 a && rc.E cc d b
  | .o2 .cuthi a b => optB (asSub e) fun r => optB (asCut r.2) fun q => optB q.2 fun d => q.1.isNone && rc.E cc r.1 a && rc.E cc d b
  | .o3 .cut a b d => optB (asSub e) fun r => optB (asCut r.2) fun q => optB q.1 fun e1 => optB q.2 fun e2 => rc.E cc r.1 a && rc.E cc e1 b && rc.E cc e2 d
  | _ => false
def kAs : List Expr → T → Bool
  | [], .nil => true
  | e :: es, .cons t r => noStar e && rc.E cc e t && kAs es r
  | _, _ => false
def kKs : List Keyword → T → Bool
  | [], .nil => true
  | k :: ks, .cons t r => rc.E cc k.value t && kKs ks r
  | _, _ => false
/-- and, or as values -/
def kVs (op : BoolOp) (p : Pos) : List Expr → T → Bool
  | [], _ => false
  | [a], t => rc.E cc a t
  | a :: b :: rest, t => (match t with
    | .and t1 t2 => decide (op = .And) && rc.E cc a t1 && kVs op p (b :: rest) t2
    | .or t1 t2 => decide (op = .Or) && rc.E cc a t1 && kVs op p (b :: rest) t2
    | .orl t1 t2 => decide (op = .Or) && rc.E cc a t1 && kVs op p (b :: rest) t2
    | _ => false)
def kWs (op : BoolOp) (p : Pos) : List Expr → T → Bool
  | [], _ => false
  | [a], t => rc.Tt cc a t
  | a :: b :: rest, t => (match t with
    | .and t1 t2 => decide (op = .And) && rc.Tt cc a t1 && kWs op p (b :: rest) t2
    | .or t1 t2 => decide (op = .Or) && rc.Tt cc a t1 && kWs op p (b :: rest) t2
    | _ => false)
def kChn (o p : O2) (e : Expr) (t1 t2 t3 : T) : Bool := optB (asCmp2 e) fun r => decide (opC r.2.1 = o) && decide (opC r.2.2.1 = p) && noSet r.2.2.2.2 && rc.E cc r.1 t1 && rc.E cc r.2.2.2.1 t2 && rc.E cc r.2.2.2.2 t3
/-- a class of errors by its name -/
def clsB (e : Expr) (ty : Ty) : Bool := optB (asName e) fun q => match ty with
  | .own c => glB cc q.1 && tb.xcs.any fun k => decide (k.1 = c) && (decide (k.2.1 = q.1) && Nat.blt c 1000)
  | .hue => glB cc q.1 && decide (q.1 ∈ tb.hue)
  | .verr => blB tb cc q.1 && decide (q.1 = "ValueError")
  | _ => false
def clssB : List Expr → List Ty → Bool
  | [], [] => true
  | e :: es, t :: ts => clsB tb cc e t && clssB es ts
  | _, _ => false
def kIsi (e : Expr) (t : T) (tys : List Ty) : Bool := optB (asCall2 e) fun r => decide (r.1 = "isinstance") && blB tb cc "isinstance" && noStar r.2.1 && rc.E cc r.2.1 t && ((match tys with
  | [ty] => (optB (asName r.2.2) fun q => blB tb cc q.1 && builtinTy ty && decide (q.1 = Str.ofString (tyN ty))) || (!tb.hue.isEmpty && clsB tb cc r.2.2 ty)
  | _ => false) || (!tb.hue.isEmpty && decide (tys.length ≤ 100) && optB (asTup r.2.2) fun es => clssB tb cc es tys))
def bltsB : List Expr → List Ty → Bool
  | [], [] => true
  | e :: es, t :: ts => (optB (asName e) fun q => blB tb cc q.1 && builtinTy t && decide (q.1 = Str.ofString (tyN t))) && bltsB es ts
  | _, _ => false
def kIsb (e : Expr) (t : T) (tys : List Ty) : Bool := optB (asCall2 e) fun r => decide (r.1 = "isinstance") && blB tb cc "isinstance" && noStar r.2.1 && rc.E cc r.2.1 t && (!tys.isEmpty && decide (tys.length ≤ 100)) && optB (asTup r.2.2) fun es => bltsB tb cc es tys
/-- methods of texts -/
def smN : Sm → Str
  | .join => "join" | .split => "split"
def kSmt (m : Sm) (e : Expr) (a b : T) : Bool := optB (asMeth e) fun r => decide (r.2.1 = smN m) && textBase r.1 && (r.2.2.1.endLine == r.2.2.2.2.line) && rc.E cc r.1 a && (match r.2.2.2.1 with
  | [x] => noStar x && rc.E cc x b
  | _ => false)
def kOwnS (e : Expr) (t : T) : Bool := match t with
  | .smt .split a b => optB (asMeth e) fun r => decide (r.2.1 = "split") && textBase r.1 && (r.2.2.1.endLine == r.2.2.2.2.line) && rc.E cc r.1 a && (match r.2.2.2.1 with
    | [x] => noStar x && rc.E cc x b
    | _ => false)
  | _ => false
/-- parts of an f-text -/
def jpB (e : Expr) (t : T) : Bool := match e, t with
  | .Constant (.str m) _ _, .con (.str z) => decide (m = z) && decide (z.length ≤ 100000)
  | .FormattedValue e k none _, .o1 .fmt t => decide (k = -1) && rc.E cc e t
  | _, _ => false
def kJs0 (e : Expr) (t1 t2 : T) : Bool := match e with
  | .JoinedStr [a, b] _ => jpB rc cc a t1 && jpB rc cc b t2
  | .JoinedStr [a, b, d] _ => (match t1 with
    | .o2 .add u v => jpB rc cc a u && jpB rc cc b v && jpB rc cc d t2
    | _ => false)
  | _ => false
def kJs (o : O2) (e : Expr) (t1 t2 : T) : Bool := decide (o = .add) && kJs0 rc cc e t1 t2
/-- dicts of the module -/
def kDcn (x : Str) (p : List (Str × Nat) → Bool) : Bool := glB cc x && tb.dcs.any fun d => decide (d.1 = x) && p d.2
def kDkin (ws : List Str) (e : Expr) (t : T) : Bool := optB (asCmp1 e) fun r => decide (r.2.1 = .In) && rc.E cc r.1 t && optB (asName r.2.2) fun q => kDcn tb cc q.1 fun kvs => decide (kvs.map (·.1) = ws)
def kDkni (ws : List Str) (e : Expr) (t : T) : Bool := optB (asCmp1 e) fun r => decide (r.2.1 = .NotIn) && rc.E cc r.1 t && optB (asName r.2.2) fun q => kDcn tb cc q.1 fun kvs => decide (kvs.map (·.1) = ws)
mutual
/-- the same data, numbers and tuples alone -/
def sameD : D → D → Bool
  | .int a, .int b => decide (a = b)
  | .tuple a, .tuple b => sameDs a b
  | _, _ => false
def sameDs : List D → List D → Bool
  | [], [] => true
  | a :: as, b :: bs => sameD a b && sameDs as bs
  | _, _ => false
end
mutual
theorem sameD_eq : ∀ {a b : D}, sameD a b = true → a = b
  | .int a, .int b, h => by rw [of_decide_eq_true h]
  | .tuple a, .tuple b, h => by rw [sameDs_eq (show sameDs a b = true from h)]
  | .none, _, h => by cases h
  | .bool _, _, h => by cases h
  | .str _, _, h => by cases h
  | .list _, _, h => by cases h
  | .dict _, _, h => by cases h
  | .int _, .none, h => by cases h
  | .int _, .bool _, h => by cases h
  | .int _, .str _, h => by cases h
  | .int _, .list _, h => by cases h
  | .int _, .tuple _, h => by cases h
  | .int _, .dict _, h => by cases h
  | .tuple _, .none, h => by cases h
  | .tuple _, .bool _, h => by cases h
  | .tuple _, .int _, h => by cases h
  | .tuple _, .str _, h => by cases h
  | .tuple _, .list _, h => by cases h
  | .tuple _, .dict _, h => by cases h
theorem sameDs_eq : ∀ {a b : List D}, sameDs a b = true → a = b
  | [], [], _ => rfl
  | a :: as, b :: bs, h => by
    have h : (sameD a b && sameDs as bs) = true := h
    rw [Bool.and_eq_true] at h
    rw [sameD_eq h.1, sameDs_eq h.2]
  | [], _ :: _, h => by cases h
  | _ :: _, [], h => by cases h
end
def kEqk (d : D) (e : Expr) (t : T) : Bool := optB (asCmp1 e) fun r => decide (r.2.1 = .Eq) && rc.E cc r.1 t && optB (asName r.2.2) fun q => glB cc q.1 && tb.kcs.any fun y => decide (y.1 = q.1) && sameD y.2 d
def kDkix (kvs : List (Str × Nat)) (e : Expr) (t : T) : Bool := optB (asSub e) fun r => noSlice r.2 && rc.E cc r.2 t && optB (asName r.1) fun q => kDcn tb cc q.1 fun kvs' => decide (kvs' = kvs) && kvs.all fun q => Nat.blt q.2 1000000 == true
def kDknm (kvs : List (Str × Nat)) (e : Expr) (t : T) : Bool := optB (asSub e) fun r => noSlice r.2 && rc.E cc r.2 t && optB (asName r.1) fun q => kDcn tb cc q.1 fun kvs' => decide (kvs' = kvs) && kvs.all fun q => Nat.blt q.2 1000000 == false
def kCallf (i : Nat) (fs : List Nat) (e : Expr) (t : T) : Bool := optB (asCall e) fun r => decide (cc.N[i]? = some r.1) && visB cc r.1 && r.2.2.isEmpty && !r.2.1.isEmpty && fs.all (fun g => optB tb.fns[g]? fun q => decide (tlen t = q.2.1.length)) && kAs rc cc r.2.1 t
/-- the arguments' number is right where all are there -/
def permB (ord : List Nat) (n np : Nat) : Bool := ord.all (fun i => decide (i < n)) && decide (ord.length = np)
def kCall (g : Nat) (e : Expr) (t : T) : Bool := optB (asCall e) fun r => optB tb.fns[g]? fun q => decide (q.1 = r.1) && decide (r.1 ≠ "") && glB cc r.1 && r.2.2.isEmpty && decide (tlen t = q.2.1.length) && kAs rc cc r.2.1 t
def kCallk (g : Nat) (e : Expr) (t1 t2 : T) (ord : List Nat) : Bool := optB (asCall e) fun r => optB tb.fns[g]? fun q => decide (q.1 = r.1) && decide (r.1 ≠ "") && glB cc r.1 && kAs rc cc r.2.1 t1 && kKs rc cc r.2.2 t2 &&
  (q.2.2.any fun kw => decide (kw.1 = tlen t1) && decide (kw.2.2 = ord) && decide (r.2.2.map (·.arg) = kw.2.1.map some) && decide (tlen t2 = kw.2.1.length) && permB ord (kw.1 + kw.2.1.length) q.2.1.length)
def kDget (e : Expr) (a b : T) : Bool := optB (asMeth e) fun r => decide (r.2.1 = "get") && plainBase r.1 && (r.2.2.1.endLine == r.2.2.2.2.line) && rc.E cc r.1 a && (match r.2.2.2.1 with
  | [x] => noStar x && rc.E cc x b
  | _ => false)
def kIxof (tp : Bool) (e : Expr) (a b : T) : Bool := optB (asMeth e) fun r => decide (r.2.1 = "index") && plainBase r.1 && (r.2.2.1.endLine == r.2.2.2.2.line) && rc.E cc r.1 a && (match r.2.2.2.1 with
  | [x] => noStar x && rc.E cc x b
  | _ => false)
def kDget2 (e : Expr) (a b c : T) : Bool := optB (asMeth e) fun r => decide (r.2.1 = "get") && plainBase r.1 && (r.2.2.1.endLine == r.2.2.2.2.line) && rc.E cc r.1 a && (match r.2.2.2.1 with
  | [x, y] => noStar x && noStar y && rc.E cc x b && rc.E cc y c
  | _ => false)
def kXfl (f : Nat) (e : Expr) (o : T) : Bool := optB (asAttr e) fun r => recvB r.1 && decide (tb.ats[f]? = some r.2) && (!tb.hue.isEmpty && decide (f ∈ tb.xnf)) && rc.E cc r.1 o
/-- an error that is made -/
def kMkx (c : Nat) (fs : List Nat) (e : Expr) (t : T) : Bool := optB (asCall e) fun r => cc.own.isNone && (r.2.2.isEmpty && (glB cc r.1 && (match fs, r.2.1, t with
  | [], [a], .cons t1 .nil => (tb.xcs.any fun q => decide (q.1 = c) && (decide (q.2.1 = r.1) && q.2.2)) && (noStar a && rc.E cc a t1)
  | [f], [a], .cons t1 .nil => (tb.xfs.any fun q => decide (q.c = c) && (decide (q.x = r.1) && decide (q.f = f))) && (noStar a && rc.E cc a t1)
  | [f, g], [a, b], .cons t1 (.cons t2 .nil) => (tb.xf2.any fun q => decide (q.c = c) && (decide (q.x = r.1) && (decide (q.f = f) && decide (q.g = g)))) && (noStar a && (noStar b && (rc.E cc a t1 && rc.E cc b t2)))
  | _, _, _ => false)))
def kCatv (e : Expr) (a b : T) : Bool := optB (asBin e) fun r => decide (r.2.1 = .Add) && (rc.E cc r.1 a && rc.E cc r.2.2 b)
def kFld (c f : Nat) (e : Expr) (o : T) : Bool := optB (asAttr e) fun r => recvB r.1 && decide (tb.ats[f]? = some r.2) && (tb.kls.any fun k => decide (k.c = c) && decide (f ∈ k.fs)) && rc.E cc r.1 o
def kMake (c g : Nat) (e : Expr) (t : T) : Bool := optB (asCall e) fun r => optB tb.fns[g]? fun q => r.2.2.isEmpty && glB cc r.1 && (tb.kls.any fun k => decide (k.c = c) && decide (k.x = r.1) && decide (g ∈ k.mkr)) && decide (tlen t + 1 = q.2.1.length) && kAs rc cc r.2.1 t
def kMeth (c g : Nat) (e : Expr) (o t : T) : Bool := optB (asMeth e) fun r => optB tb.fns[g]? fun q => recvB r.1 && (r.2.2.1.endLine == r.2.2.2.2.line) && (tb.kls.any fun k => decide (k.c = c) && decide ((r.2.1, g) ∈ k.ms)) && decide (tlen t + 1 = q.2.1.length) && decide (r.2.2.2.1.length < 30) && rc.E cc r.1 o && kAs rc cc r.2.2.2.1 t
def muN : Mu → Option (Str × Nat)
  | .append => some ("append", 1) | .extend => some ("extend", 1) | .pop => some ("pop", 0) | .popat => some ("pop", 1) | .insert => some ("insert", 2) | .reverse => some ("reverse", 0) | _ => none
def kMut (m : Mu) (e : Expr) (o args : T) : Bool := optB (muN m) fun q => optB (asMeth e) fun r => decide (r.2.1 = q.1) && decide (r.2.2.2.1.length = q.2) && plainBase r.1 && (r.2.2.1.endLine == r.2.2.2.2.line) && rc.E cc r.1 o && kAs rc cc r.2.2.2.1 args
def isTupE : Expr → Bool
  | .Tuple _ _ _ => true
  | _ => false
def kIt (tg e : Expr) (t : T) : Bool := match t with
  | .itv a => rc.E cc e a
  | .rng1 a => optB (asCall1 e) fun r => decide (r.1 = "range") && blB tb cc "range" && noStar r.2 && rc.E cc r.2 a
  | .rng2 a b => optB (asCall2 e) fun r => decide (r.1 = "range") && blB tb cc "range" && noStar r.2.1 && noStar r.2.2 && rc.E cc r.2.1 a && rc.E cc r.2.2 b
  | .dkit ws => optB (asName e) fun q => kDcn tb cc q.1 fun kvs => decide (kvs.map (·.1) = ws)
  | .rngd a b => optB (asCall3 e) fun r => decide (r.1 = "range") && blB tb cc "range" && noStar r.2.1 && noStar r.2.2.1 && noStar r.2.2.2 && rc.E cc r.2.1 a && rc.E cc r.2.2.1 b && rc.E cc r.2.2.2 (.o1 .neg (.con (.int 1)))
  | .enm k a => decide (k = 0) && isTupE tg && optB (asCall1 e) fun r => decide (r.1 = "enumerate") && blB tb cc "enumerate" && noStar r.2 && rc.E cc r.2 a
  | .zip2 a b => isTupE tg && optB (asCall2 e) fun r => decide (r.1 = "zip") && blB tb cc "zip" && noStar r.2.1 && noStar r.2.2 && rc.E cc r.2.1 a && rc.E cc r.2.2 b
  | .zip3 a b d => isTupE tg && optB (asCall3 e) fun r => decide (r.1 = "zip") && blB tb cc "zip" && noStar r.2.1 && noStar r.2.2.1 && noStar r.2.2.2 && rc.E cc r.2.1 a && rc.E cc r.2.2.1 b && rc.E cc r.2.2.2 d
  | _ => false
def kTs : List Expr → T → Bool
  | [], .nil => true
  | [e], .cons t .nil => rc.Tt cc e t
  | _, _ => false
end
/-- tuples that an iterator makes go to targets that part them -/
def stB (it tg : T) : Bool := sgI it || !stT tg
section
variable (rc : Rec) (tb : Tb) (cc : Cc)
def kLc (l : Lc) (it tg ifs elt : T) (ws : List Nat) : Bool := (stB it tg && noSet l.it) && blkB cc l.sc ws && kIt rc tb cc l.tg l.it it && rc.C (blkCc cc l.sc) ws l.tg tg && kTs rc (blkCc cc l.sc) l.ifs ifs && rc.E (blkCc cc l.sc) l.elt elt
def kLc2 (l : Lc2) (it tg ifs it2 tg2 ifs2 elt : T) (ws ws2 : List Nat) : Bool := (stB it tg && (stB it2 tg2 && noSet l.it)) && noSet l.it2 && blkB cc l.sc ws && ws2.all (fun i => decide (i ∈ ws)) && kIt rc tb cc l.tg l.it it && rc.C (blkCc cc l.sc) ws l.tg tg && kTs rc (blkCc cc l.sc) l.ifs ifs &&
  kIt rc tb (blkCc cc l.sc) l.tg2 l.it2 it2 && rc.C (blkCc cc l.sc) ws2 l.tg2 tg2 && kTs rc (blkCc cc l.sc) l.ifs2 ifs2 && rc.E (blkCc cc l.sc) l.elt elt
def stepE (e : Expr) (t : T) : Bool := (optB (asBool e) fun r => kVs rc cc r.1 r.2.2 r.2.1 t) || (match t with
  | .nil => true
  | .var i => kVar cc i e
  | .con c => kCon c e
  | .gco g c => kGco tb cc g c e
  | .fnv g => kFnv tb cc g e
  | .o1 o a => kO1 rc tb cc o e a
  | .o2 o a b => kO2 rc tb cc o e a b || kJs rc cc o e a b
  | .o3 _ a b c => kO3 rc cc e a b c
  | .not a => optB (asUn e) fun r => decide (r.1 = .Not) && rc.E cc r.2 a
  | .ite c a b => optB (asIf e) fun r => rc.Tt cc r.1 c && rc.E cc r.2.1 a && rc.E cc r.2.2 b
  | .chn o p a b c => kChn rc cc o p e a b c
  | .tup es => optB (asTup e) fun r => kAs rc cc r es
  | .lst _ es => optB (asLst e) fun r => kAs rc cc r es
  | .edic => isEdic e
  | .dnew _ => isEdic e
  | .dget a b => kDget rc cc e a b
  | .dget2 a b c => kDget2 rc cc e a b c
  | .fld c o f => kFld rc tb cc c f e o
  | .xfl o f => kXfl rc tb cc f e o
  | .mkx c fs args => kMkx rc tb cc c fs e args
  | .catv a b => kCatv rc cc e a b
  | .make c g args => kMake rc tb cc c g e args
  | .meth c g o args => kMeth rc tb cc c g e o args
  | .isi a tys => kIsi rc tb cc e a tys || kIsb rc tb cc e a tys
  | .dkin ws a => kDkin rc tb cc ws e a
  | .dkni ws a => kDkni rc tb cc ws e a
  | .eqk d a => kEqk rc tb cc d e a
  | .dkix kvs a => kDkix rc tb cc kvs e a
  | .dknm kvs a => kDknm rc tb cc kvs e a
  | .smt m a b => kSmt rc cc m e a b
  | .callf i fs args => kCallf rc tb cc i fs e args
  | .call g args => kCall rc tb cc g e args
  | .callk g args kws ord => kCallk rc tb cc g e args kws ord
  | .mtd m o args => kMut rc cc m e o args
  | .own a => kOwn rc tb cc e a || kOwnS rc cc e a
  | .ixof tp a b => kIxof rc cc tp e a b
  | .cmp1 _ it tg ifs elt ws => optB (asLc e) fun l => kLc rc tb cc l it tg ifs elt ws
  | .cmp2 _ it tg ifs it2 tg2 ifs2 elt ws ws2 => optB (asLc2 e) fun l => kLc2 rc tb cc l it tg ifs it2 tg2 ifs2 elt ws ws2
  | .scm it tg ifs elt ws => optB (asCall1 e) fun r => decide (r.1 = "sorted") && blB tb cc "sorted" && optB (asSc r.2) fun l => kLc rc tb cc l it tg ifs elt ws
  | _ => false)
def stepT (tb : Tb) (e : Expr) (t : T) : Bool := (optB (asBool e) fun r => kWs rc cc r.1 r.2.2 r.2.1 t) || (plainTest e && rc.E cc e t) || (match t with
  | .not a => optB (asUn e) fun r => decide (r.1 = .Not) && rc.Tt cc r.2 a
  | .o2 o a b => optB (asCmp1 e) fun r => decide (opC r.2.1 = o) && noSet r.2.2 && rc.E cc r.1 a && rc.E cc r.2.2 b
  | .dkin ws a => kDkin rc tb cc ws e a
  | .dkni ws a => kDkni rc tb cc ws e a
  | .eqk d a => kEqk rc tb cc d e a
  | .chn o p a b c => kChn rc cc o p e a b c
  | _ => false)
def kGs : List Expr → T → Bool
  | [], .nil => true
  | e :: es, .cons t r => noStar e && rc.G cc e t && kGs es r
  | _, _ => false
def kStar : Nat → List Expr → T → Bool
  | 0, .Starred e _ :: es, .cons t r => rc.G cc e t && kGs rc cc es r
  | n + 1, e :: es, .cons t r => noStar e && rc.G cc e t && kStar n es r
  | _, _, _ => false
def stepG (e : Expr) (t : T) : Bool := match t with
  | .tst i ts => optB (asTup e) fun es => kStar rc cc i es ts
  | .tnm i => optB (asName e) fun r => slotB cc i r.1
  | .ttp ts => optB (asTup e) fun es => decide (tlen ts = es.length) && kGs rc cc es ts
  | .tsl o i j => optB (asSub e) fun r => optB (asCut r.2) fun q => optB q.1 fun b => optB q.2 fun c => rc.E cc r.1 o && rc.E cc b i && rc.E cc c j
  | .tsb o i => optB (asSub e) fun r => noSlice r.2 && rc.E cc r.1 o && rc.E cc r.2 i
  | _ => false
def kCs (ws : List Nat) : List Expr → T → Bool
  | [], .nil => true
  | e :: es, .cons t r => noStar e && rc.C cc ws e t && kCs ws es r
  | _, _ => false
def stepC (ws : List Nat) (e : Expr) (t : T) : Bool := match t with
  | .tnm i => optB (asName e) fun r => slotB cc i r.1 && decide (i ∈ ws)
  | .ttp ts => optB (asTup e) fun es => decide (tlen ts = es.length) && kCs rc cc ws es ts
  | _ => false
/-! ### statements -/
def asExp : Stmt → Option Expr
  | .Expr e _ => some e
  | _ => none
theorem asExp_of {s : Stmt} {r : Expr} (h : asExp s = some r) : ∃ p, s = .Expr r p := by
  cases s <;> first | (cases h; exact ⟨_, rfl⟩) | cases h
def asAsg : Stmt → Option (Expr × Expr)
  | .Assign [t] e _ => some (t, e)
  | _ => none
theorem asAsg_of {s : Stmt} {r : Expr × Expr} (h : asAsg s = some r) : ∃ p, s = .Assign [r.1] r.2 p := by
  unfold asAsg at h
  split at h
  · cases h; exact ⟨_, rfl⟩
  · cases h
def asAsg2 : Stmt → Option (Expr × Expr × Expr)
  | .Assign [.Subscript a b p, .Subscript x y q] e _ => some (.Subscript a b p, .Subscript x y q, e)
  | _ => none
theorem asAsg2_of {s : Stmt} {r : Expr × Expr × Expr} (h : asAsg2 s = some r) : ∃ a b p x y q p0, r = (.Subscript a b p, .Subscript x y q, r.2.2) ∧ s = .Assign [.Subscript a b p, .Subscript x y q] r.2.2 p0 := by
  unfold asAsg2 at h
  split at h
  · cases h; exact ⟨_, _, _, _, _, _, _, rfl, rfl⟩
  · cases h
def asAug : Stmt → Option (Expr × Operator × Expr)
  | .AugAssign t o e _ => some (t, o, e)
  | _ => none
theorem asAug_of {s : Stmt} {r : Expr × Operator × Expr} (h : asAug s = some r) : ∃ p, s = .AugAssign r.1 r.2.1 r.2.2 p := by
  cases s <;> first | (cases h; exact ⟨_, rfl⟩) | cases h
def asIfS : Stmt → Option (Expr × List Stmt × List Stmt)
  | .If c a b _ => some (c, a, b)
  | _ => none
theorem asIfS_of {s : Stmt} {r : Expr × List Stmt × List Stmt} (h : asIfS s = some r) : ∃ p, s = .If r.1 r.2.1 r.2.2 p := by
  cases s <;> first | (cases h; exact ⟨_, rfl⟩) | cases h
def asFor : Stmt → Option (Expr × Expr × List Stmt)
  | .For t i b [] _ => some (t, i, b)
  | _ => none
theorem asFor_of {s : Stmt} {r : Expr × Expr × List Stmt} (h : asFor s = some r) : ∃ p, s = .For r.1 r.2.1 r.2.2 [] p := by
  unfold asFor at h
  split at h
  · cases h; exact ⟨_, rfl⟩
  · cases h
def asWhl : Stmt → Option (Expr × List Stmt)
  | .While c b [] _ => some (c, b)
  | _ => none
theorem asWhl_of {s : Stmt} {r : Expr × List Stmt} (h : asWhl s = some r) : ∃ p, s = .While r.1 r.2 [] p := by
  unfold asWhl at h
  split at h
  · cases h; exact ⟨_, rfl⟩
  · cases h
def asRet : Stmt → Option (Option Expr)
  | .Return e _ => some e
  | _ => none
theorem asRet_of {s : Stmt} {r : Option Expr} (h : asRet s = some r) : ∃ p, s = .Return r p := by
  cases s <;> first | (cases h; exact ⟨_, rfl⟩) | cases h
def isBrk : Stmt → Bool
  | .Break _ => true
  | _ => false
def isCnt : Stmt → Bool
  | .Continue _ => true
  | _ => false
def isPas : Stmt → Bool
  | .Pass _ => true
  | _ => false
theorem isBrk_of {s : Stmt} (h : isBrk s = true) : ∃ p, s = .Break p := by
  cases s <;> first | exact ⟨_, rfl⟩ | cases h
theorem isCnt_of {s : Stmt} (h : isCnt s = true) : ∃ p, s = .Continue p := by
  cases s <;> first | exact ⟨_, rfl⟩ | cases h
theorem isPas_of {s : Stmt} (h : isPas s = true) : ∃ p, s = .Pass p := by
  cases s <;> first | exact ⟨_, rfl⟩ | cases h
def asRai : Stmt → Option Str
  | .Raise (some (.Call (.Name x _) [.Constant (.str _) _ _] [] _)) none _ => some x
  | _ => none
theorem asRai_of {s : Stmt} {r : Str} (h : asRai s = some r) : ∃ p m j p2 p3 p4, s = .Raise (some (.Call (.Name r p) [.Constant (.str m) j p2] [] p3)) none p4 := by
  unfold asRai at h
  split at h
  · cases h; exact ⟨_, _, _, _, _, _, rfl⟩
  · cases h
def asRaf : Stmt → Option (Str × Expr)
  | .Raise (some (.Call (.Name x _) [e] [] _)) none _ => some (x, e)
  | _ => none
theorem asRaf_of {s : Stmt} {r : Str × Expr} (h : asRaf s = some r) : ∃ p p3 p4, s = .Raise (some (.Call (.Name r.1 p) [r.2] [] p3)) none p4 := by
  unfold asRaf at h
  split at h
  · cases h; exact ⟨_, _, _, rfl⟩
  · cases h
def kRaf (rc : Rec) (tb : Tb) (cc : Cc) (c : Nat) (fs : List Nat) (s : Stmt) (args : T) : Bool := match fs, args with
  | [f], .cons t .nil => optB (asRaf s) fun r => glB cc r.1 && (tb.xfs.any fun q => decide (q.c = c) && decide (q.x = r.1) && decide (q.f = f)) && noStar r.2 && rc.E cc r.2 t
  | _, _ => false
structure Tr where
  body : List Stmt
  x : Str
  n : Str
  m : Str
def asTry : Stmt → Option Tr
  | .Try body [.ExceptHandler (some (.Name x _)) (some n) [.Assign [.Name m _] (.Name n' _) _] _] [] [] _ => if n = n' then some ⟨body, x, n, m⟩ else none
  | _ => none
theorem asTry_of {s : Stmt} {r : Tr} (h : asTry s = some r) : ∃ np mp vp ap hp pos, s = .Try r.body [.ExceptHandler (some (.Name r.x np)) (some r.n) [.Assign [.Name r.m mp] (.Name r.n vp) ap] hp] [] [] pos := by
  unfold asTry at h
  split at h
  · split at h
    · rename_i e
      subst e
      cases h
      exact ⟨_, _, _, _, _, _, rfl⟩
    · cases h
  · cases h
/-- a comprehension's list goes to a name at once -/
def swB (x : Str) (py : Pos) (sc : Scope) (p : Pos) : Bool := decide (cc.nm.lookup x = some .local) && (py.line == p.line) && !(sc.names.any fun (n, k) => n == x && (k == .local || k == .cell))
def kDc2 (l : Dc2P) (a : T) (i j : Nat) (ws ws2 : List Nat) : Bool := noSet l.i0 && noSet l.i1 && blkB cc l.sc ws && ws2.all (fun i => decide (i ∈ ws)) && kIt rc tb cc l.t0 l.i0 (.itv a) && rc.C (blkCc cc l.sc) ws l.t0 (.tnm i) &&
  kIt rc tb (blkCc cc l.sc) l.t1 l.i1 (.itv (.var i)) && rc.C (blkCc cc l.sc) ws2 l.t1 (.tnm j) && rc.E (blkCc cc l.sc) l.kx (.var j) && rc.E (blkCc cc l.sc) l.vx (.con (.bool true))
def kAsg1 (te e : Expr) (tg a : T) : Bool := match tg, a with
  | .tnm k, .dpt a i j ws ws2 => optB (asName te) fun r => optB (asDc2 e) fun l => slotB cc k r.1 && swB cc r.1 r.2 l.sc l.pos && kDc2 rc tb cc l a i j ws ws2
  | .tnm i, .cmp1 _ it tg ifs elt ws => optB (asName te) fun r => optB (asLc e) fun l => slotB cc i r.1 && swB cc r.1 r.2 l.sc l.pos && kLc rc tb cc l it tg ifs elt ws
  | .tnm i, .cmp2 _ it tg ifs it2 tg2 ifs2 elt ws ws2 => optB (asName te) fun r => optB (asLc2 e) fun l => slotB cc i r.1 && swB cc r.1 r.2 l.sc l.pos && kLc2 rc tb cc l it tg ifs it2 tg2 ifs2 elt ws ws2
  | _, _ => false
/-- a name that is no local one, a comprehension -/
def kAsg2 (te e : Expr) (tg a : T) : Bool := match tg with
  | .tnm i => optB (asName te) fun r => slotB cc i r.1 && decide (cc.nm.lookup r.1 ≠ some .local) && rc.E cc e a
  | _ => false
/-- a field -/
def kAsg3 (te e : Expr) (tg a : T) : Bool := match tg with
  | .tsf c o f => optB (asAttr te) fun r => decide (tb.ats[f]? = some r.2) && (tb.kls.any fun k => decide (k.c = c) && decide (f ∈ k.fs)) && rc.E cc e a && rc.E cc r.1 o
  | _ => false
/-- a, b = x, y -/
def asPar : Expr → Option ((Str × Pos) × (Str × Pos))
  | .Tuple [.Name x px, .Name y py] _ _ => some ((x, px), (y, py))
  | _ => none
theorem asPar_of {e : Expr} {r : (Str × Pos) × (Str × Pos)} (h : asPar e = some r) : ∃ k p, e = .Tuple [.Name r.1.1 r.1.2, .Name r.2.1 r.2.2] k p := by
  unfold asPar at h
  split at h
  · cases h; exact ⟨_, _, rfl⟩
  · cases h
def asTup2 : Expr → Option (Expr × Expr)
  | .Tuple [a, b] _ _ => some (a, b)
  | _ => none
theorem asTup2_of {e : Expr} {r : Expr × Expr} (h : asTup2 e = some r) : ∃ k p, e = .Tuple [r.1, r.2] k p := by
  unfold asTup2 at h
  split at h
  · cases h; exact ⟨_, _, rfl⟩
  · cases h
def parB (x y : Str) (px py : Pos) (a b : Expr) : Bool := decide (cc.nm.lookup x = some .local) && decide (cc.nm.lookup y = some .local) && (px.line == py.line) && !(x == y) && !([a, b].all (foldedForSure 8)) && !([a, b].all (constantsAlone 8))
def kAsg4 (te e : Expr) (tg a : T) : Bool := match tg, a with
  | .ttp (.cons (.tnm i) (.cons (.tnm j) .nil)), .tup (.cons t1 (.cons t2 .nil)) => optB (asPar te) fun r => optB (asTup2 e) fun q => decide (i ≠ j) && decide (cc.N[i]? = some r.1.1) && decide (cc.N[j]? = some r.2.1) && parB cc r.1.1 r.2.1 r.1.2 r.2.2 q.1 q.2 && kAs rc cc [q.1, q.2] (.cons t1 (.cons t2 .nil))
  | _, _ => false
def kAsg (te e : Expr) (tg a : T) : Bool := kAsg4 rc cc te e tg a || ((noComp e || !isName te) && noSwap te e && noStar te && rc.E cc e a && rc.G cc te tg) || kAsg1 rc tb cc te e tg a || kAsg2 rc cc te e tg a || kAsg3 rc tb cc te e tg a
def stepS (s : Stmt) (t : T) : Bool := match t with
  | .nil => true
  | .exp a => optB (asExp s) fun e => noComp e && rc.E cc e a
  | .asg tg a => optB (asAsg s) fun r => kAsg rc tb cc r.1 r.2 tg a
  | .asg2 g1 g2 a => optB (asAsg2 s) fun r => rc.E cc r.2.2 a && rc.G cc r.1 g1 && rc.G cc r.2.1 g2
  | .augn o i a => optB (asAug s) fun r => optB (asName r.1) fun q => decide (augO r.2.1 = some o) && slotB cc i q.1 && rc.E cc r.2.2 a
  | .augs o e j a => optB (asAug s) fun r => optB (asSub r.1) fun q => decide (augO r.2.1 = some o) && noSlice q.2 && rc.E cc q.1 e && rc.E cc q.2 j && rc.E cc r.2.2 a
  | .ifs c a b => optB (asIfS s) fun r => rc.Tt cc r.1 c && rc.Ss cc r.2.1 a && rc.Ss cc r.2.2 b
  | .for_ tg it body => optB (asFor s) fun r => (stB it tg && noSet r.2.1) && kIt rc tb cc r.1 r.2.1 it && rc.G cc r.1 tg && rc.Ss cc r.2.2 body
  | .whl c body => optB (asWhl s) fun r => rc.Tt cc r.1 c && rc.Ss cc r.2 body
  | .ret a => optB (asRet s) fun r => optB r fun e => rc.E cc e a
  | .ret0 => optB (asRet s) fun r => r.isNone
  | .brk => isBrk s
  | .cnt => isCnt s
  | .pas => isPas s
  | .raf c fs args => kRaf rc tb cc c fs s args
  | .rai c => optB (asRai s) fun x => glB cc x && tb.xcs.any fun q => decide (q.1 = c) && decide (q.2.1 = x) && q.2.2
  | .try_ b i y => optB (asTry s) fun r => cc.own.isNone && glB cc r.x && decide (r.x ∈ tb.hue) && decide (cc.N[i]? = some r.n) && decide (cc.nm.lookup r.n = some .local) && !(r.n == ("__debug__" : Str)) && !(r.n == ("__classdict__" : Str)) && slotB cc y r.m && rc.Ss cc r.body b
  | _ => false
def stepSs : T → List Stmt → Bool
  | .nil, ss => ss.isEmpty
  | .cons (.kill _) r, ss => stepSs r ss
  | .cons (.frz _) r, ss => stepSs r ss
  | .cons t r, s :: ss => stepS rc tb cc s t && stepSs r ss
  | _, _ => false
end
def chk (tb : Tb) : Nat → Rec
  | 0 => ⟨fun _ _ _ => false, fun _ _ _ => false, fun _ _ _ => false, fun _ _ _ _ => false, fun _ _ _ => false⟩
  | n + 1 => ⟨stepE (chk tb n) tb, fun cc => stepT (chk tb n) cc tb, stepG (chk tb n), stepC (chk tb n), fun cc ss t => stepSs (chk tb n) tb cc t ss⟩
end Hb

set_option maxHeartbeats 2000000
/-! SCM: sorted({elt for ..}) of whole numbers. -/
namespace Hb
open PySem PySem.Spec PyProof.Rows
open L2 hiding V Hp St
set_option autoImplicit false
section
variable {w : Wo} {f : L2.Hp} {r : List Addr} {G H : L2.Hp} {h : Hp} {p : Addr} {o o' : HO}
theorem Sim.guardO (S : Sim w f r G h H) (hp : H p = none) : Sim w (upd f p o) r G h (upd H p o) := by
  obtain ⟨g, hf, hr⟩ := S.fresh hp
  refine ⟨fun a q e => ?_, S.gn, fun a q e => ?_, fun a q e => ?_, fun n a e => ?_, S.len, S.nd, fun n a q e1 e2 => ?_⟩
  · rw [upd_ne (ne_of_none e g)]; exact S.sub _ _ e
  · rcases upd_get e with ⟨rfl, rfl⟩ | ⟨hb, e⟩
    · exact upd_same
    · rw [upd_ne hb]; exact S.fr _ _ e
  · rcases upd_get e with ⟨rfl, rfl⟩ | ⟨hb, e⟩
    · exact g
    · exact S.fg _ _ e
  · have hb : a ≠ p := fun z => hr n (z ▸ e)
    rw [upd_ne hb]; exact S.fc n a e
  · have hb : a ≠ p := fun z => hr n (z ▸ e1)
    exact (S.ob n a q e1 e2).mono Ext.refl (fun z => z) (fun x z => by rw [upd_ne hb]; exact z) fun b z => by rw [upd_ne (ne_of_none z hp)]; exact z
theorem Sim.regardO (S : Sim w (upd f p o) r G h H) (ho : ∀ b, o ≠ .own b) : Sim w (upd f p o') r G h (upd H p o') := by
  have hp : H p = some o := S.fr _ _ upd_same
  have g : G p = none := S.fg p _ upd_same
  have hr : ∀ n : Nat, r[n]? ≠ some p := fun n e => by have := S.fc n p e; rw [upd_same] at this; cases this
  refine ⟨fun a q e => ?_, S.gn, fun a q e => ?_, fun a q e => ?_, fun n a e => ?_, S.len, S.nd, fun n a q e1 e2 => ?_⟩
  · rw [upd_ne (ne_of_none e g)]; exact S.sub _ _ e
  · rcases upd_get e with ⟨rfl, rfl⟩ | ⟨hb, e⟩
    · exact upd_same
    · rw [upd_ne hb]; exact S.fr a q (by rw [upd_ne hb]; exact e)
  · rcases upd_get e with ⟨rfl, rfl⟩ | ⟨hb, e⟩
    · exact g
    · exact S.fg a q (by rw [upd_ne hb]; exact e)
  · have hb : a ≠ p := fun z => hr n (z ▸ e)
    have := S.fc n a e
    rw [upd_ne hb] at this ⊢
    exact this
  · have hb : a ≠ p := fun z => hr n (z ▸ e1)
    exact (S.ob n a q e1 e2).mono Ext.refl (fun z => z) (fun x z => by rw [upd_ne hb]; exact z) fun b z => by rw [upd_ne (fun y => by subst y; rw [hp] at z; exact ho _ (Option.some.inj z))]; exact z
theorem Sim.dropO (S : Sim w (upd f p o) r G h H) (hf : f p = none) : Sim w f r G h H := by
  have hr : ∀ n : Nat, r[n]? ≠ some p := fun n e => by have := S.fc n p e; rw [upd_same] at this; cases this
  refine ⟨S.sub, S.gn, fun a q e => ?_, fun a q e => ?_, fun n a e => ?_, S.len, S.nd, S.ob⟩
  · exact S.fr a q (by rw [upd_ne (ne_of_none e hf)]; exact e)
  · exact S.fg a q (by rw [upd_ne (ne_of_none e hf)]; exact e)
  · have hb : a ≠ p := fun z => hr n (z ▸ e)
    have := S.fc n a e
    rw [upd_ne hb] at this
    exact this
end
theorem intVP_of {v : V} {Q : Int → Prop} (h : intVP v Q) : ∃ i, v = .d (.int i) ∧ Q i := by
  unfold intVP at h
  split at h
  · exact ⟨_, rfl, h⟩
  · exact h.elim
section
variable {X : Cx}
/-- {elt for target in iter if ..}, elt a whole number: D the new set -/
def tScI (w : World) (wi : TI) (g : TG) (tt : TT) (te : TE) (vs : List Nat) : TE := fun σ H Q => wi σ H fun J H1 => ∀ D, H1 D = none → ∃ W : Nat → Nat → L2.Hp → Prop, (∃ m, W 0 m (upd H1 D (SetO w D (fun _ => false) 0))) ∧ ∀ i m H, W i m H →
  (J.stop i H ∧ Q (.ref D) H) ∨ (J.go i H ∧ ∃ Nx : L2.Hp → Prop, (∀ H', Nx H' → ∃ m', m' < m ∧ W (i + 1) m' H') ∧ ∀ x H', J.yld i H x H' → g x (wipe σ vs) H' fun σ2 H2 => wipe σ2 vs = wipe σ vs ∧ tt σ2 H2 fun b H3 =>
    if b = true then te σ2 H3 fun y H4 => ∃ (c : Int) (S : Int → Bool) (n : Nat), y = .int c ∧ H4 D = some (SetO w D S n) ∧ n + 1 < scanBound ∧ Nx (upd H4 D (SetO w D (fun j => S j || decide (j = c)) (if S c = true then n else n + 1))) else Nx H3)
theorem addI_ok {pins : List (Addr × Obj)} {σ : L2.St} {H : L2.Hp} {s : Shared} {E : Value → Shared → Prop} {D : Addr} {S : Int → Bool} {n : Nat} {y : Int} {tk : Tok} {Q : Value → Shared → Prop} (I : Inv X pins σ H s) (hD : H D = some (SetO X.w D S n)) (room : n + 1 < scanBound)
    (h : ∀ s', Inv X pins σ (upd H D (SetO X.w D (fun j => S j || decide (j = y)) (if S y = true then n else n + 1))) s' → Q .none s') : wpAny (model X.prog X.w) X.A (call (.builtin "set.add") [.ref D, .int y tk]) Q E s := by
  have R := setO_get I hD
  refine setR_add R room fun h' sb new => ?_
  have he : ∃ u, h'.get? D = some u := by
    have ⟨o, _, _, _, ho, _⟩ := new
    exact ⟨o, ho⟩
  exact h _ (I.write (e := D) (t' := s.toks + 1) (by rw [hD]; trivial) (.inl rfl) (fun b u hb hu => (sb.2 b hb).trans hu) he (setO_new new))
theorem sci_core {pins : List (Addr × Obj)} {s : Shared} {σ : L2.St} {H : L2.Hp} {Q : VK} {elt tg iter : Expr} {ifs : List Expr} {scope : Scope} {own : List (PySem.Str × Nat)} {pos pos' : Pos} {wi : TI} {g : TG} {tt : TT} {te : TE} {use : Option (Value → Sem Unit)} {Qf : Value → Shared → Prop}
    (hc : X.calm = true) (hN : X.N.Nodup) (I : Inv X pins σ H s) (hi : PI X tg iter wi) (ok : BlkOk X.N X.env.scope scope own)
    (hg : ∀ (s : Shared) (H : L2.Hp) (C : Addr) (cl : List (PySem.Str × Addr)) (fp : List Addr), PG (X.blk s H scope (compEnvC scope cl C X.env) fp) tg g) (ht : ∀ (s : Shared) (H : L2.Hp) (C : Addr) (cl : List (PySem.Str × Addr)) (fp : List Addr), PTs (X.blk s H scope (compEnvC scope cl C X.env) fp) ifs tt)
    (he : ∀ (s : Shared) (H : L2.Hp) (C : Addr) (cl : List (PySem.Str × Addr)) (fp : List Addr), PE (X.blk s H scope (compEnvC scope cl C X.env) fp) elt te) (hs : ∀ x, foldedSetIterable iter X.env x = pure x)
    (h : tScI X.w wi g tt te (own.map (·.2)) σ H Q)
    (hRR : ∀ D C s' m H', Inv X pins σ H' s' → Q (.ref D) H' → s'.heap.Ns C m → FpOk X pins H' C → compPost (model X.prog X.w) X.A X.xe use Qf (.ref D) C (.ok .next) s') :
    wpAny (model X.prog X.w) X.A (comprehension (.SetComp elt [⟨tg, iter, ifs, 0⟩] scope pos) scope X.env pos' (newSet (.type "set")) false (eval iter X.env) use) Qf X.xe s := by
  have hfree : ∀ y ∈ scope.names, y.2 = .free → ∃ c, X.env.cells.lookup y.1 = some c := fun y hy e => by
    rcases ok.free y hy e with k | k
    · exact I.ok.has _ (.inl k)
    · exact I.ok.has _ (.inr k)
  refine wpAny_comprehension_free (use := use) rfl hs (closure_ok hfree) ok.kind (fun y hy e => by rw [ok.uniq y hy, e])
    (thn (hi.run pins s σ H _ I h) fun xv s1 hx => thn hx fun itv s2 h2 => ?_)
  obtain ⟨it, fp, tn, J, H2, e, I2, T, st2, f2, q⟩ := h2
  subst e
  refine PpSet.newSet_ok (newEnv_comp ?_)
  generalize hD : s2.heap.objs.size = D
  have hDn : H2 D = none := I2.hok.fresh (Nat.le_of_eq hD)
  obtain ⟨W, ⟨m0, w0⟩, turn⟩ := q D hDn
  -- the new list
  generalize hs3 : ({ s2 with heap := s2.heap.push { cls := .type "set", dict := none, data := .set #[] 0 (.fresh 0 0 (!X.w.params.followText "set-order")) } } : Shared) = s3
  have I3 : Inv X pins σ (upd H2 D (SetO X.w D (fun _ => false) 0)) s3 := by
    rw [← hs3]
    refine I2.laid (t' := s2.toks) (fun b o e => Heap.get?_push_of_some _ e) (Nat.le_of_eq hD) ?_
    rw [← hD]
    exact setO_new (setR_new_at (ns := []) (Heap.get?_push_size _ rfl))
  have h3 : s3.heap = s2.heap.push { cls := .type "set", dict := none, data := .set #[] 0 (.fresh 0 0 (!X.w.params.followText "set-order")) } := by rw [← hs3]
  have sz : ∀ b ∈ fp, b < s2.heap.objs.size := fun b hb => by
    obtain ⟨o, e, _⟩ := T.obj _ _ st2 b hb
    exact Heap.lt_size e
  have f3 : ∀ b ∈ fp, FpOk X pins (upd H2 D (SetO X.w D (fun _ => false) 0)) b ∧ b < s3.heap.objs.size := fun b hb => by
    have hlt := sz b hb
    refine ⟨⟨?_, (f2 b hb).2⟩, by rw [h3, Heap.size_push]; exact Nat.lt_succ_of_lt hlt⟩
    rw [upd_ne (by rw [← hD]; exact Nat.ne_of_lt hlt)]
    exact (f2 b hb).1
  have st3 : tn 0 s3.heap := T.keep _ _ _ st2 fun b _ o e => by rw [h3]; exact Heap.get?_push_of_some _ e
  have I4 := block_start I3 ok hN f3
  have pg := hg s3 (upd H2 D (SetO X.w D (fun _ => false) 0)) s3.heap.objs.size (cellsFrom (s3.heap.objs.size + 1) scope.names (cloFrom X.env.cells scope.names [])) fp
  have pt := ht s3 (upd H2 D (SetO X.w D (fun _ => false) 0)) s3.heap.objs.size (cellsFrom (s3.heap.objs.size + 1) scope.names (cloFrom X.env.cells scope.names [])) fp
  have pe := he s3 (upd H2 D (SetO X.w D (fun _ => false) 0)) s3.heap.objs.size (cellsFrom (s3.heap.objs.size + 1) scope.names (cloFrom X.env.cells scope.names [])) fp
  show codeAny _ _ (.compStart (.SetComp elt [⟨tg, iter, ifs, 0⟩] scope pos) 0 (.ref it) (.ref D) (compEnvC scope (cellsFrom (s3.heap.objs.size + 1) scope.names (cloFrom X.env.cells scope.names [])) s3.heap.objs.size X.env)) (compPost (model X.prog X.w) X.A X.xe use Qf (.ref D) s3.heap.objs.size) { s3 with heap := pushCells (s3.heap.push { cls := .type "dict", data := .dict #[] }) scope.names }
  have nfp : ∀ b ∈ fp, (upd H2 D (SetO X.w D (fun _ => false) 0)) b = none := fun b hb => (f3 b hb).1.1
  generalize hce : compEnvC scope (cellsFrom (s3.heap.objs.size + 1) scope.names (cloFrom X.env.cells scope.names [])) s3.heap.objs.size X.env = ce at I4 pg pt pe ⊢
  have cL : ce.locals = s3.heap.objs.size := by subst hce; rfl
  generalize hH3 : upd H2 D (SetO X.w D (fun _ => false) 0) = H3 at I3 I4 pg pt pe w0 nfp f3
  generalize hs4 : ({ s3 with heap := pushCells (s3.heap.push { cls := .type "dict", data := .dict #[] }) scope.names } : Shared) = s4 at I4 ⊢
  have st4 : tn 0 s4.heap := T.keep _ _ _ st3 fun b _ o e => by rw [← hs4]; exact pushCells_keeps _ _ _ _ (Heap.get?_push_of_some _ e)
  have stat : ∀ {σ' : L2.St} {H' : L2.Hp} {s' : Shared}, Inv (X.blk s3 H3 scope ce fp) [] σ' H' s' → (∀ b ∈ fp, H' b = none) → ∀ b ∈ fp, FpOk (X.blk s3 H3 scope ce fp) [] H' b := fun {σ' H' s'} I' hn b hb =>
    ⟨hn b hb, (I'.ok.exf b hb).1, I'.ok.exfs b hb, .inl hb, fun x c e => (I'.ok.exf b hb).2 x c e, fun p hp => absurd (show p ∈ ([] : List (Addr × Obj)) ++ [] from hp) (by simp)⟩
  have loop : codeAny (model X.prog X.w) X.A (.compLoop (.SetComp elt [⟨tg, iter, ifs, 0⟩] scope pos) 0 (.ref it) (.ref D) ce) (compPost (model X.prog X.w) X.A X.xe use Qf (.ref D) s3.heap.objs.size) s4 := by
    refine PpSet.compLoopS_any (fun n s' => ∃ i H', Inv (X.blk s3 H3 scope ce fp) [] (wipe σ (own.map (·.2))) H' s' ∧ tn i s'.heap ∧ (∀ b ∈ fp, H' b = none) ∧ W i n H') ?_ m0 ⟨0, H3, I4, st4, nfp, w0⟩
    rintro n s5 ⟨i, H5, I5, st5, n5, w5⟩
    rcases turn i n H5 w5 with ⟨stop, qq⟩ | ⟨go, Nx, hNx, step⟩
    · have td := T.done (X.blk s3 H3 scope ce fp) rfl rfl rfl hc i [] s5 _ H5 (fun _ _ => False) I5 (stat I5 n5) st5 stop
      refine thnF td fun r s6 ⟨hr, I6⟩ => ?_
      subst hr
      -- back in the def's context
      have I7 : Inv X pins σ H5 s6 := I3.call' (ch := fp) I6.os I6.base I6.hok I6.bare fun b hb => ⟨(f3 b hb).1.2.2.2.1, (f3 b hb).1.2.1, (f3 b hb).1.2.2.2.2.1, (f3 b hb).1.2.2.2.2.2⟩
      have nC : H5 s3.heap.objs.size = none := by
        have z : H5 ce.locals = none := I6.free
        rw [cL] at z
        exact z
      obtain ⟨m, hn, _⟩ := I6.loc
      have hn : s6.heap.Ns ce.locals m := hn
      rw [cL] at hn
      exact hRR D s3.heap.objs.size s6 m H5 I7 qq hn (I3.fpOk (Nat.le_refl _) nC)
    · have ti := T.item (X.blk s3 H3 scope ce fp) rfl rfl rfl hc i [] s5 _ H5 (fun _ _ => False) I5 (stat I5 n5) st5 go
      refine thnF ti fun r s6 ⟨u, hr, h6⟩ => ?_
      subst hr
      refine thnF h6 fun _ s7 ⟨x, H7, I7, r7, y7, st7, n7⟩ => ?_
      have I7' := I7.pinned (stat I7 n7) (T.obj _ _ st7)
      refine thnF (pg.run _ s7 _ H7 x u _ I7' r7 (step x H7 y7)) fun _ s8 ⟨σ8, H8, I8, hw8, q8⟩ => ?_
      refine thnF (pt.run _ s8 σ8 H8 _ I8 q8) fun b s9 ⟨H9, I9, q9⟩ => ?_
      -- the turn's end
      have fin : ∀ {s' : Shared} {H' : L2.Hp}, Inv (X.blk s3 H3 scope ce fp) ([] ++ pinsAt fp s7.heap) σ8 H' s' → Nx H' → ∃ m, m < n ∧ ∃ i H', Inv (X.blk s3 H3 scope ce fp) [] (wipe σ (own.map (·.2))) H' s' ∧ tn i s'.heap ∧ (∀ b ∈ fp, H' b = none) ∧ W i m H' := fun {s' H'} I' nx => by
        obtain ⟨m', hm, w'⟩ := hNx H' nx
        have pin' : ∀ b ∈ fp, ∀ o, s7.heap.get? b = some o → s'.heap.get? b = some o ∧ H' b = none := fun b hb o e =>
          let z := I'.pin (b, o) (List.mem_append_right _ (List.mem_append_right _ (mem_pinsAt hb e)))
          ⟨z.1, z.2.1⟩
        have hl : (wipe σ (own.map (·.2))).length = σ8.length := by rw [← hw8, wipe_length]
        refine ⟨m', hm, i + 1, H', (I'.unpinned (pins := [])).weak hl (fun j v e => ?_), T.keep _ _ _ st7 fun b hb o e => (pin' b hb o e).1, fun b hb => ?_, w'⟩
        · rw [← hw8] at e
          exact (wipe_some e).1
        · obtain ⟨o, e, _⟩ := T.obj _ _ st7 b hb
          exact (pin' b hb o e).2
      cases b with
      | false =>
        simp only [Bool.false_eq_true, if_false] at q9 ⊢
        exact fin I9 q9
      | true =>
        simp only [if_true] at q9 ⊢
        refine thnF (pe.run _ s9 σ8 H9 _ I9 q9) fun z s10 ⟨yv, H10, I10, r10, cb, S0, n0, ey, hD10, hz10, nx⟩ => ?_
        subst ey
        obtain ⟨tk, rfl⟩ := (show ∃ tk, z = Value.int cb tk from r10)
        exact addI_ok (X := X.blk s3 H3 scope ce fp) I10 hD10 hz10 fun s11 I11 => fin I11 nx
  exact PpSet.codeAny_compStart_set loop (T.self X.A 0 _ _ _ st4 loop)
/-- as a value -/
theorem pe_scI {elt tg iter : Expr} {ifs : List Expr} {scope : Scope} {own : List (PySem.Str × Nat)} {pos : Pos} {wi : TI} {g : TG} {tt : TT} {te : TE} (hc : X.calm = true) (hN : X.N.Nodup) (hi : PI X tg iter wi) (ok : BlkOk X.N X.env.scope scope own)
    (hg : ∀ (s : Shared) (H : L2.Hp) (C : Addr) (cl : List (PySem.Str × Addr)) (fp : List Addr), PG (X.blk s H scope (compEnvC scope cl C X.env) fp) tg g) (ht : ∀ (s : Shared) (H : L2.Hp) (C : Addr) (cl : List (PySem.Str × Addr)) (fp : List Addr), PTs (X.blk s H scope (compEnvC scope cl C X.env) fp) ifs tt)
    (he : ∀ (s : Shared) (H : L2.Hp) (C : Addr) (cl : List (PySem.Str × Addr)) (fp : List Addr), PE (X.blk s H scope (compEnvC scope cl C X.env) fp) elt te) (hs : ∀ x, foldedSetIterable iter X.env x = pure x := by intro _; rfl) :
    PE X (.SetComp elt [⟨tg, iter, ifs, 0⟩] scope pos) (tScI X.w wi g tt te (own.map (·.2))) := by
  refine ⟨fun pins s σ H Q I h => ?_⟩
  rw [PpSet.eval_SetComp]
  refine sci_core hc hN I hi ok hg ht he hs h fun D C s' m H' I' q hn f => ⟨m, hn, fun h'' sb => ?_⟩
  obtain ⟨f0, f1, f2, f3, f4, f5⟩ := f
  exact ⟨.ref D, H', I'.turned (t' := s'.toks) (fun b o hb e => (sb.2 b hb).trans e) f0 f1 f3 f4 f5, rfl, q⟩
end

section
variable {X : Cx} {w : Wo} {F : Phi} {W : WX} {t1 t2 t3 t4 : T} {ws : List Nat}
theorem rd_scm {wd : World} (hst : sgI t1 = true ∨ stT t2 = false) {s : Sg} {H : L2.Hp} {Q : VK} (h : rdE w F W (.scm t1 t2 t3 t4 ws) s H Q) : tScI wd (rdI w F W t1) (rdC w F ws t2) (rdTs w F t3) (rdE w F W0 t4) ws s H fun x H1 => rSortedSet wd [x] H1 Q := by
  obtain ⟨f, r, G, env, h, P, Xp, S, E, wp, q, qx⟩ := h
  refine ⟨f, r, G, env, h, _, Xp, S, E, wp, fun chk xs h1 r1 G1 H1 J p e1 S1 sv => ?_, qx⟩
  obtain ⟨few, p⟩ := p
  intro D hD
  have hf : f D = none := (S1.fresh hD).2.1
  generalize hturn : (fun (x : V) (h2 : Hp) (Q : Option V → Hp → Prop) => WA F t2 x (wipeE env ws) h2 (fun e2 h3 => WTs F t3 e2 h3 (fun t h4 => match t with
        | true => WE F t4 e2 h4 (fun v h5 => intVP v fun i => Q (some (.d (.int i))) h5) (fun _ _ => False)
        | false => Q none h4))) = turn at p
  generalize hfin : (fun (vs : List V) (h2 : Hp) => optP (allD vs) fun ds => optP (asInts ds) fun ns => P (.d (.list ((sortI (nubI ns)).map PyData.int))) h2) = fin at p
  refine ⟨fun i m H' => m = xs.length - i ∧ i ≤ xs.length ∧ ∃ (r' : List Addr) (G' : L2.Hp) (h' : Hp) (ns : List Int) (S0 : Int → Bool) (n0 : Nat), Ext r1 G1 r' G' ∧ Sim w (upd f D (SetO wd D S0 n0)) r' G' h' H' ∧ (∀ k : Int, S0 k = decide (k ∈ ns)) ∧ n0 ≤ i ∧ cmpW chk turn (xs.drop i) ((ns.map PyData.int).map V.d) h' fin,
    ⟨xs.length, by simp, Nat.zero_le _, r1, G1, h1, [], _, _, Ext.refl, S1.guardO hD, fun k => by simp, Nat.le_refl _, by rw [List.drop_zero]; exact p⟩, ?_⟩
  rintro i m H' ⟨rfl, hi, r', G', h', ns, S0, n0, e', S', hS0, hn0, wc⟩
  by_cases hlt : i < xs.length
  · rw [List.drop_eq_getElem_cons hlt] at wc
    obtain ⟨hchk, wc⟩ := cmpW_ic wc
    obtain ⟨go, yl⟩ := sv.1 _ i r' G' h' H' e' S' hchk hlt
    refine .inr ⟨go, fun H2 => ∃ (r2 : List Addr) (G2 : L2.Hp) (h2 : Hp) (ns2 : List Int) (S2 : Int → Bool) (n2 : Nat), Ext r1 G1 r2 G2 ∧ Sim w (upd f D (SetO wd D S2 n2)) r2 G2 h2 H2 ∧ (∀ k : Int, S2 k = decide (k ∈ ns2)) ∧ n2 ≤ i + 1 ∧ cmpW chk turn (xs.drop (i + 1)) ((ns2.map PyData.int).map V.d) h2 fin,
      fun H2 hN => ⟨xs.length - (i + 1), by omega, rfl, hlt, hN⟩, fun x H2 y => ?_⟩
    obtain ⟨G2, v, e2, S2, ev, rv⟩ := yl x H2 y
    rw [List.getElem?_eq_getElem hlt] at ev
    cases ev
    rw [← hturn] at wc
    refine ⟨_, r', G2, _, h', _, _, S2, (E.mono ((e1.trans e').trans e2)).wipe ws, rv.to hst, wc, fun env3 h3 s3 r3 G3 H3 p3 e3 S3 E3 k3 => ?_⟩
    refine ⟨?_, _, r3, G3, env3, h3, _, S3, E3, p3, fun b h4 r4 G4 H4 p4 e4 S4 => ?_⟩
    · rw [k3]
      exact wipe_wipe
    · have e04 := ((e'.trans e2).trans e3).trans e4
      cases b with
      | false =>
        dsimp only
        rw [if_neg Bool.false_ne_true]
        have p4 : cmpW chk turn (xs.drop (i + 1)) ((ns.map PyData.int).map V.d) h4 fin := by rw [← hturn]; exact p4
        exact ⟨r4, G4, h4, ns, S0, n0, e04, S4, hS0, by omega, p4⟩
      | true =>
        dsimp only
        rw [if_pos rfl]
        refine ⟨_, r4, G4, env3, h4, _, _, S4, E3.mono e4, p4, fun v5 h5 u5 r5 G5 H5 p5 e5 S5 rv5 => ?_, XOk.never⟩
        obtain ⟨c, rfl, p5⟩ := intVP_of p5
        have p5 : ((ns.map PyData.int).map V.d).length < big ∧ cmpW chk turn (xs.drop (i + 1)) ((ns.map PyData.int).map V.d ++ [.d (.int c)]) h5 fin := by rw [← hturn]; exact p5
        refine ⟨c, S0, n0, rv5, S5.fr _ _ upd_same, by unfold scanBound; omega, ?_⟩
        refine ⟨r5, G5, h5, ns ++ [c], _, _, e04.trans e5, S5.regardO (fun b z => nomatch z), fun k => ?_, ?_, by rw [List.map_append, List.map_append]; exact p5.2⟩
        · rw [hS0, Bool.eq_iff_iff]
          simp
        · split <;> omega
  · have e : i = xs.length := by omega
    subst e
    rw [List.drop_length] at wc
    obtain ⟨hchk, wc⟩ := cmpW_in wc
    refine .inl ⟨sv.2 _ r' G' h' H' e' S' hchk, ?_⟩
    rw [← hfin] at wc
    obtain ⟨ds, ed, wc⟩ := optP_of wc
    rw [allD_map'] at ed
    cases ed
    obtain ⟨ns', en, wc⟩ := optP_of wc
    rw [asInts_of] at en
    cases en
    refine ⟨D, S0, n0, rfl, S'.fr _ _ upd_same, by omega, fun ms p pw mem len hp => ?_⟩
    have eq : ms = sortI (nubI ns) := lt_uniq pw (sortI_lt (nubI_nodup ns)) fun x => by
      rw [mem, sortI_mem, nubI_mem, hS0]
      exact decide_eq_true_iff
    obtain ⟨S3, e4⟩ := (S'.dropO hf).lay hp (.lst (ms.map L2.V.int))
    have wp3 : P (.d (.list (ms.map PyData.int))) h' := by rw [eq]; exact wc
    exact q _ _ (.ref p) _ _ _ wp3 ((e1.trans e').trans e4) S3 ⟨p, _, rfl, .inl (.inl upd_same), rpAll_ints _⟩
theorem se_scm {elt tg iter : Expr} {ifs : List Expr} {scope : Scope} {own : List (Str × Nat)} {pos p p2 : Pos} (hst : sgI t1 = true ∨ stT t2 = false) (hc : X.calm = true) (hN : X.N.Nodup) (hg0 : Gl X "sorted") (hm0 : X.mg "sorted" = none) (hi : SI X w F W tg iter t1) (ok : BlkOk X.N X.env.scope scope own) (hg : BlkAll X scope fun Y => PG Y tg (rdC w F (own.map (·.2)) t2)) (ht : BlkAll X scope fun Y => PTs Y ifs (rdTs w F t3))
    (he : BlkAll X scope fun Y => SE Y w F W0 elt t4) (hs : ∀ x, foldedSetIterable iter X.env x = pure x) : SE X w F W (.Call (.Name "sorted" p) [.SetComp elt [⟨tg, iter, ifs, 0⟩] scope pos] [] p2) (.scm t1 t2 t3 t4 (own.map (·.2))) := by
  have nt : ∀ x q, Expr.SetComp elt [⟨tg, iter, ifs, 0⟩] scope pos ≠ .Starred x q := fun x q z => nomatch z
  refine pe_imp (pe_callB (cr_sortedSet hc) hg0 hm0 (by decide +kernel) (pa_cons (pe_scI hc hN hi ok hg ht he hs) pa_nil (nostar nt)) (by decide) (by decide) (nostar nt) rfl) fun s H Q h => ?_
  exact rd_scm hst h
end
end Hb

/-! CHK4: the checker is sound. -/
namespace Hb
open PySem PySem.Spec PyProof.Rows
open L2 hiding V Hp St
set_option autoImplicit false
structure RecOk (rc : Rec) (tb : Tb) : Prop where
  E : ∀ {X w F W cc e t}, CtxOk X w F tb cc → Takes X W → rc.E cc e t = true → SE X w F W e t
  Tt : ∀ {X w F W cc e t}, CtxOk X w F tb cc → Takes X W → rc.Tt cc e t = true → ST X w F W e t
  G : ∀ {X w F cc e t}, CtxOk X w F tb cc → rc.G cc e t = true → SG X w F e t
  C : ∀ {X w F cc ws e t}, CtxOk X w F tb cc → rc.C cc ws e t = true → PG X e (rdC w F ws t)
  Ss : ∀ {X w F W cc ss t}, CtxOk X w F tb cc → Takes X W → PassesOwn (model X.prog X.w) X.A X.env X.xe → rc.Ss cc ss t = true → SSs X w F W ss t
theorem takes0 {X : Cx} : Takes X W0 := fun u s' ⟨a, B, sI, pins, σ, H, cls, d, e, I, nb, up, sky, na, os, ag, w⟩ => w.elim
section
variable {X : Cx} {w : Wo} {F : Phi} {W : WX} {rc : Rec} {tb : Tb} {cc : Cc} {e : Expr} {t t1 t2 t3 : T}
theorem kVar_ok (c : CtxOk X w F tb cc) {i : Nat} (h : kVar cc i e = true) : SE X w F W e (.var i) := by
  obtain ⟨r, e1, h⟩ := optB_of h
  have := asName_of e1
  subst this
  obtain ⟨h1, h2⟩ := and_of h
  obtain ⟨v1, v2, v3⟩ := c.vis h2
  exact se_var (by rw [c.hN]; exact of_decide_eq_true h1) v1 v2 v3
theorem kCon_ok {d : D} (h : kCon d e = true) : SE X w F W e (.con d) := by
  obtain ⟨k, e1, h⟩ := optB_of h
  obtain ⟨n, p, rfl⟩ := asConst_of e1
  cases d with
  | none => cases k with
    | none => exact se_con (u := .non) pe_non fun _ => rfl
    | _ => cases h
  | bool a => cases k with
    | bool b => have := eq_of_beq h; subst this; exact se_con pe_bl fun _ => rfl
    | _ => cases h
  | int a => cases k with
    | int b => have := eq_of_beq h; subst this; exact se_con pe_int fun _ => rfl
    | _ => cases h
  | str a => cases k with
    | str b => have := of_decide_eq_true h; subst this; exact se_con pe_str fun _ => rfl
    | _ => cases h
  | _ => cases k <;> cases h
theorem kGco_ok (c : CtxOk X w F tb cc) {g : Nat} {d : D} (h : kGco tb cc g d e = true) : SE X w F W e (.gco g d) := by
  obtain ⟨r, e1, h⟩ := optB_of h
  have := asName_of e1
  subst this
  obtain ⟨h1, h⟩ := and_of h
  obtain ⟨q, e2, h⟩ := List.any_eq_true.mp h
  obtain ⟨h2, h3⟩ := and_of h
  have h2 := of_decide_eq_true h2
  have h3 := eqD_of _ _ h3
  obtain ⟨g1, g2⟩ := c.gl h1
  obtain ⟨i, ei⟩ := List.getElem?_of_mem e2
  obtain ⟨u, v, m, rv, rp⟩ := c.gcs i q.1 q.2 ei
  rw [h2] at m
  rw [h3] at rp
  exact se_gco (pe_glob g1 m rv g2) rp
theorem kFnv_ok (c : CtxOk X w F tb cc) {g : Nat} (h : kFnv tb cc g e = true) : SE X w F W e (.fnv g) := by
  obtain ⟨r, e1, h⟩ := optB_of h
  have := asName_of e1
  subst this
  obtain ⟨h1, h⟩ := and_of h
  obtain ⟨h1, h0⟩ := and_of h1
  obtain ⟨q, e2, h⟩ := optB_of h
  have h2 := of_decide_eq_true h
  obtain ⟨g1, g2⟩ := c.gl h1
  obtain ⟨k, _, df⟩ := c.defs
  have d := df g q.1 q.2.1 q.2.2 e2
  have m := d.at_
  rw [h2] at m
  exact se_fnv (pe_glob g1 (m (of_decide_eq_true h0)) rfl g2)
theorem kO1_ok (R : RecOk rc tb) (c : CtxOk X w F tb cc) (tk : Takes X W) {o : O1} (h : kO1 rc tb cc o e t = true) : SE X w F W e (.o1 o t) := by
  have gen : ((optB (c1n o) fun x => optB (asCall1 e) fun r => decide (r.1 = x) && blB tb cc x && noStar r.2 && rc.E cc r.2 t) ||
      (optB (t1n o) fun x => optB (asCall1 e) fun r => decide (r.1 = x) && blB tb cc x && noStar r.2 && rc.E cc r.2 t)) = true → SE X w F W e (.o1 o t) := by
    intro h
    rcases (Bool.or_eq_true _ _).mp h with h | h
    · obtain ⟨x, ex, h⟩ := optB_of h
      obtain ⟨r, e1, h⟩ := optB_of h
      obtain ⟨p, q, rfl⟩ := asCall1_of e1
      obtain ⟨h, h4⟩ := and_of h
      obtain ⟨h, h3⟩ := and_of h
      obtain ⟨h1, h2⟩ := and_of h
      have h1 := of_decide_eq_true h1
      obtain ⟨b1, b2, b3, b4⟩ := c.bl h2
      obtain ⟨id, ob, ok⟩ := c1_ok c ex
      rw [h1]
      exact se_b1 ok b1 b2 ob (R.E c tk h4) (noStar_of h3) b3 b4
    · obtain ⟨x, ex, h⟩ := optB_of h
      obtain ⟨r, e1, h⟩ := optB_of h
      obtain ⟨p, q, rfl⟩ := asCall1_of e1
      obtain ⟨h, h4⟩ := and_of h
      obtain ⟨h, h3⟩ := and_of h
      obtain ⟨h1, h2⟩ := and_of h
      have h1 := of_decide_eq_true h1
      obtain ⟨b1, b2, b3, b4⟩ := c.bl h2
      obtain ⟨id, ob, ok⟩ := t1_ok c ex
      rw [h1]
      exact se_ty1 ok b1 b2 ob (R.E c tk h4) (noStar_of h3) b3 b4
  cases o with
  | neg =>
    obtain ⟨r, e1, h⟩ := optB_of h
    obtain ⟨p, rfl⟩ := asUn_of e1
    obtain ⟨h1, h2⟩ := and_of h
    rw [of_decide_eq_true h1]
    exact se_un (unr_imp p_neg fun x H Q q => by rw [c.hK]; exact r1_of (dat1_of rfl) q) (R.E c tk h2)
  | rev =>
    obtain ⟨r, e1, h⟩ := optB_of h
    obtain ⟨p, rfl⟩ := asSub_of e1
    obtain ⟨h1, h2⟩ := and_of h
    obtain ⟨k, p1, p2, p3, e2⟩ := isRev_of h1
    rw [e2]
    exact se_rev c.hK (R.E c tk h2)
  | lrange =>
    obtain ⟨r, e1, h⟩ := optB_of h
    obtain ⟨p, q, rfl⟩ := asCall1_of e1
    obtain ⟨h, h5⟩ := and_of h
    obtain ⟨h1, h2⟩ := and_of h
    obtain ⟨r2, e2, h⟩ := optB_of h5
    obtain ⟨p2, q2, e3⟩ := asCall1_of e2
    obtain ⟨h, h4⟩ := and_of h
    obtain ⟨h, h3⟩ := and_of h
    obtain ⟨h6, h7⟩ := and_of h
    rw [of_decide_eq_true h1, e3, of_decide_eq_true h6]
    obtain ⟨b1, b2, b3, b4⟩ := c.bl h2
    obtain ⟨d1, d2, d3, d4⟩ := c.bl h7
    exact se_lrange c.calm b1 b2 d1 d2 (R.E c tk h4) (noStar_of h3)
  | trange =>
    obtain ⟨r, e1, h⟩ := optB_of h
    obtain ⟨p, q, rfl⟩ := asCall1_of e1
    obtain ⟨h, h5⟩ := and_of h
    obtain ⟨h1, h2⟩ := and_of h
    obtain ⟨r2, e2, h⟩ := optB_of h5
    obtain ⟨p2, q2, e3⟩ := asCall1_of e2
    obtain ⟨h, h4⟩ := and_of h
    obtain ⟨h, h3⟩ := and_of h
    obtain ⟨h6, h7⟩ := and_of h
    rw [of_decide_eq_true h1, e3, of_decide_eq_true h6]
    obtain ⟨b1, b2, b3, b4⟩ := c.bl h2
    obtain ⟨d1, d2, d3, d4⟩ := c.bl h7
    exact se_trange c.calm b1 b2 d1 d2 (R.E c tk h4) (noStar_of h3)
  | sset =>
    obtain ⟨r, e1, h⟩ := optB_of h
    obtain ⟨p, q, rfl⟩ := asCall1_of e1
    obtain ⟨h, h5⟩ := and_of h
    obtain ⟨h1, h2⟩ := and_of h
    obtain ⟨r2, e2, h⟩ := optB_of h5
    obtain ⟨p2, q2, e3⟩ := asCall1_of e2
    obtain ⟨h, h4⟩ := and_of h
    obtain ⟨h, h3⟩ := and_of h
    obtain ⟨h6, h7⟩ := and_of h
    rw [of_decide_eq_true h1, e3, of_decide_eq_true h6]
    obtain ⟨b1, b2, b3, b4⟩ := c.bl h2
    obtain ⟨d1, d2, d3, d4⟩ := c.bl h7
    exact se_sset c.hK c.calm c.un b1 b2 d1 d2 (R.E c tk h4) (noStar_of h3)
  | sseti =>
    obtain ⟨r, e1, h⟩ := optB_of h
    obtain ⟨p, q, rfl⟩ := asCall1_of e1
    obtain ⟨h, h5⟩ := and_of h
    obtain ⟨h1, h2⟩ := and_of h
    obtain ⟨r2, e2, h⟩ := optB_of h5
    obtain ⟨p2, q2, e3⟩ := asCall1_of e2
    obtain ⟨h, h4⟩ := and_of h
    obtain ⟨h, h3⟩ := and_of h
    obtain ⟨h6, h7⟩ := and_of h
    rw [of_decide_eq_true h1, e3, of_decide_eq_true h6]
    obtain ⟨b1, b2, b3, b4⟩ := c.bl h2
    obtain ⟨d1, d2, d3, d4⟩ := c.bl h7
    exact se_sseti c.hK c.calm b1 b2 d1 d2 (R.E c tk h4) (noStar_of h3)
  | repr =>
    obtain ⟨h0, h⟩ := and_of h
    obtain ⟨r, e1, h⟩ := optB_of h
    obtain ⟨p, q, rfl⟩ := asCall1_of e1
    obtain ⟨h, h4⟩ := and_of h
    obtain ⟨h, h3⟩ := and_of h
    obtain ⟨h1, h2⟩ := and_of h
    have h1 := of_decide_eq_true h1
    obtain ⟨b1, b2, b3, b4⟩ := c.bl h2
    rw [h1]
    obtain ⟨kk, rm, _⟩ := c.defs
    exact se_b1 (kD1 c.hK rfl (k_repr (by have := rm.un; omega) (c.gds h0))) b1 b2 (by decide +kernel) (R.E c tk h4) (noStar_of h3) b3 b4
  | setlen =>
    obtain ⟨r, e1, h⟩ := optB_of h
    obtain ⟨p, q, rfl⟩ := asCall1_of e1
    obtain ⟨h, h5⟩ := and_of h
    obtain ⟨h1, h2⟩ := and_of h
    obtain ⟨r2, e2, h⟩ := optB_of h5
    obtain ⟨p2, q2, e3⟩ := asCall1_of e2
    obtain ⟨h, h4⟩ := and_of h
    obtain ⟨h, h3⟩ := and_of h
    obtain ⟨h6, h7⟩ := and_of h
    rw [of_decide_eq_true h1, e3, of_decide_eq_true h6]
    obtain ⟨b1, b2, b3, b4⟩ := c.bl h2
    obtain ⟨d1, d2, d3, d4⟩ := c.bl h7
    exact se_setlen c.hK c.calm b1 b2 d1 d2 (R.E c tk h4) (noStar_of h3)
  | _ => exact gen h
theorem isNone_of {α : Type} {o : Option α} (h : o.isNone = true) : o = none := by
  cases o with
  | none => rfl
  | some _ => cases h
theorem kO2_ok (R : RecOk rc tb) (c : CtxOk X w F tb cc) (tk : Takes X W) {o : O2} (h : kO2 rc tb cc o e t1 t2 = true) : SE X w F W e (.o2 o t1 t2) := by
  have gen : ((optB (asBin e) fun r => decide (opB r.2.1 = some o) && rc.E cc r.1 t1 && rc.E cc r.2.2 t2) ||
      (optB (asCmp1 e) fun r => decide (opC r.2.1 = o) && noSet r.2.2 && rc.E cc r.1 t1 && rc.E cc r.2.2 t2) ||
      (optB (c2n o) fun x => optB (asCall2 e) fun r => decide (r.1 = x) && blB tb cc x && noStar r.2.1 && noStar r.2.2 && rc.E cc r.2.1 t1 && rc.E cc r.2.2 t2)) = true → SE X w F W e (.o2 o t1 t2) := by
    intro h
    rcases (Bool.or_eq_true _ _).mp h with h | h
    · rcases (Bool.or_eq_true _ _).mp h with h | h
      · obtain ⟨r, e1, h⟩ := optB_of h
        obtain ⟨p, rfl⟩ := asBin_of e1
        obtain ⟨h, h3⟩ := and_of h
        obtain ⟨h1, h2⟩ := and_of h
        exact se_bin (bin_ok c (of_decide_eq_true h1)) (R.E c tk h2) (R.E c tk h3)
      · obtain ⟨r, e1, h⟩ := optB_of h
        obtain ⟨p, rfl⟩ := asCmp1_of e1
        obtain ⟨h, h4⟩ := and_of h
        obtain ⟨h, h3⟩ := and_of h
        obtain ⟨h1, h2⟩ := and_of h
        have h1 := of_decide_eq_true h1
        rw [← h1]
        exact se_cmp (cmp_ok c _) (R.E c tk h3) (R.E c tk h4) (marks_of h2)
    · obtain ⟨x, ex, h⟩ := optB_of h
      obtain ⟨r, e1, h⟩ := optB_of h
      obtain ⟨p, q, rfl⟩ := asCall2_of e1
      obtain ⟨h, h6⟩ := and_of h
      obtain ⟨h, h5⟩ := and_of h
      obtain ⟨h, h4⟩ := and_of h
      obtain ⟨h, h3⟩ := and_of h
      obtain ⟨h1, h2⟩ := and_of h
      have h1 := of_decide_eq_true h1
      obtain ⟨b1, b2, b3, b4⟩ := c.bl h2
      obtain ⟨id, ob, ok⟩ := c2_ok c ex
      rw [h1]
      exact se_b2 ok b1 b2 ob (R.E c tk h5) (R.E c tk h6) (noStar_of h3) (noStar_of h4) b3 b4
  cases o with
  | idx =>
    obtain ⟨r, e1, h⟩ := optB_of h
    obtain ⟨p, rfl⟩ := asSub_of e1
    obtain ⟨h, h3⟩ := and_of h
    obtain ⟨h1, h2⟩ := and_of h
    exact se_ix (p_ix c.un c.hK) (R.E c tk h2) (R.E c tk h3) (plainIx_of h1)
  | cutlo =>
    obtain ⟨r, e1, h⟩ := optB_of h
    obtain ⟨p, rfl⟩ := asSub_of e1
    obtain ⟨q, e2, h⟩ := optB_of h
    obtain ⟨p2, e3⟩ := asCut_of e2
    obtain ⟨b, e4, h⟩ := optB_of h
    obtain ⟨h, h3⟩ := and_of h
    obtain ⟨h1, h2⟩ := and_of h
    rw [e3, e4, isNone_of h1]
    exact se_cutlo c.hK (R.E c tk h2) (R.E c tk h3)
  | cuthi =>
    obtain ⟨r, e1, h⟩ := optB_of h
    obtain ⟨p, rfl⟩ := asSub_of e1
    obtain ⟨q, e2, h⟩ := optB_of h
    obtain ⟨p2, e3⟩ := asCut_of e2
    obtain ⟨b, e4, h⟩ := optB_of h
    obtain ⟨h, h3⟩ := and_of h
    obtain ⟨h1, h2⟩ := and_of h
    rw [e3, e4, isNone_of h1]
    exact se_cuthi c.hK (R.E c tk h2) (R.E c tk h3)
  | lrange2 =>
    obtain ⟨r, e1, h⟩ := optB_of h
    obtain ⟨p, q, rfl⟩ := asCall1_of e1
    obtain ⟨h, h5⟩ := and_of h
    obtain ⟨h1, h2⟩ := and_of h
    obtain ⟨r2, e2, h⟩ := optB_of h5
    obtain ⟨p2, q2, e3⟩ := asCall2_of e2
    obtain ⟨h, h4⟩ := and_of h
    obtain ⟨h, h3⟩ := and_of h
    obtain ⟨h, h8⟩ := and_of h
    obtain ⟨h, h9⟩ := and_of h
    obtain ⟨h6, h7⟩ := and_of h
    rw [of_decide_eq_true h1, e3, of_decide_eq_true h6]
    obtain ⟨b1, b2, b3, b4⟩ := c.bl h2
    obtain ⟨d1, d2, d3, d4⟩ := c.bl h7
    exact se_lrange2 c.calm b1 b2 d1 d2 (R.E c tk h3) (R.E c tk h4) (noStar_of h9) (noStar_of h8)
  | _ => exact gen h
theorem kO3_ok (R : RecOk rc tb) (c : CtxOk X w F tb cc) (tk : Takes X W) {o : O3} (h : kO3 rc cc e t1 t2 t3 = true) : SE X w F W e (.o3 o t1 t2 t3) := by
  cases o
  obtain ⟨r, e1, h2⟩ := optB_of h
  clear h
  obtain ⟨p, rfl⟩ := asSub_of e1
  obtain ⟨q, e2, h⟩ := optB_of h2
  clear h2
  obtain ⟨p2, e3⟩ := asCut_of e2
  obtain ⟨b, e4, h⟩ := optB_of h
  obtain ⟨b2, e5, h⟩ := optB_of h
  obtain ⟨h, h3⟩ := and_of h
  obtain ⟨h1, h2⟩ := and_of h
  rw [e3, e4, e5]
  exact se_cut c.hK (R.E c tk h1) (R.E c tk h2) (R.E c tk h3)
theorem fr1K {f : Value} {o : O1} (hK : X.K = w.K) (h : CallR X f (rC1 (rF1 X.K (op1 o)))) : CallR X f (rC1 (rF1 w.K (op1 o))) := hK ▸ h
theorem gr2K {f : Value → Value → Sem Value} {o : O2} (hK : X.K = w.K) (h : OpR X f (rG2 X.K (op2 o))) : OpR X f (rG2 w.K (op2 o)) := hK ▸ h
theorem kOwn_ok (R : RecOk rc tb) (c : CtxOk X w F tb cc) (tk : Takes X W) (h : kOwn rc tb cc e t = true) : SE X w F W e (.own t) := by
  cases t with
  | o1 o a =>
    cases o with
    | list =>
      obtain ⟨r, e1, h⟩ := optB_of h
      obtain ⟨p, q, rfl⟩ := asCall1_of e1
      obtain ⟨h, h4⟩ := and_of h
      obtain ⟨h, h3⟩ := and_of h
      obtain ⟨h1, h2⟩ := and_of h
      obtain ⟨b1, b2, b3, b4⟩ := c.bl h2
      rw [of_decide_eq_true h1]
      exact se_t1g (id := "list") (fr1K c.hK (k_list c.calm)) (rd_own1 rfl) b1 b2 (by decide +kernel) (R.E c tk h4) (noStar_of h3) b3 b4
    | sorted =>
      obtain ⟨r, e1, h⟩ := optB_of h
      obtain ⟨p, q, rfl⟩ := asCall1_of e1
      obtain ⟨h, h4⟩ := and_of h
      obtain ⟨h, h3⟩ := and_of h
      obtain ⟨h1, h2⟩ := and_of h
      obtain ⟨b1, b2, b3, b4⟩ := c.bl h2
      rw [of_decide_eq_true h1]
      exact se_b1g (id := "sorted") (fr1K c.hK (k_sorted c.un)) (rd_own1 rfl) b1 b2 (by decide +kernel) (R.E c tk h4) (noStar_of h3) b3 b4
    | lrange =>
      obtain ⟨r, e1, h⟩ := optB_of h
      obtain ⟨p, q, rfl⟩ := asCall1_of e1
      obtain ⟨h, h5⟩ := and_of h
      obtain ⟨h1, h2⟩ := and_of h
      obtain ⟨r2, e2, h⟩ := optB_of h5
      obtain ⟨p2, q2, e3⟩ := asCall1_of e2
      obtain ⟨h, h4⟩ := and_of h
      obtain ⟨h, h3⟩ := and_of h
      obtain ⟨h6, h7⟩ := and_of h
      rw [of_decide_eq_true h1, e3, of_decide_eq_true h6]
      obtain ⟨b1, b2, b3, b4⟩ := c.bl h2
      obtain ⟨d1, d2, d3, d4⟩ := c.bl h7
      exact se_lrangeN c.calm b1 b2 d1 d2 (R.E c tk h4) (noStar_of h3)
    | _ => cases h
  | o2 o a b =>
    cases o with
    | add =>
      obtain ⟨r, e1, h⟩ := optB_of h
      obtain ⟨p, rfl⟩ := asBin_of e1
      obtain ⟨h, h3⟩ := and_of h
      obtain ⟨h1, h2⟩ := and_of h
      rw [of_decide_eq_true h1]
      exact se_bing (gr2K c.hK g_add) (R.E c tk h2) (R.E c tk h3) (rd_own2 rfl)
    | mul =>
      obtain ⟨r, e1, h⟩ := optB_of h
      obtain ⟨p, rfl⟩ := asBin_of e1
      obtain ⟨h, h3⟩ := and_of h
      obtain ⟨h1, h2⟩ := and_of h
      rw [of_decide_eq_true h1]
      exact se_bing (gr2K c.hK g_mul) (R.E c tk h2) (R.E c tk h3) (rd_own2 rfl)
    | cutlo =>
      obtain ⟨r, e1, h⟩ := optB_of h
      obtain ⟨p, rfl⟩ := asSub_of e1
      obtain ⟨q, e2, h⟩ := optB_of h
      obtain ⟨p2, e3⟩ := asCut_of e2
      obtain ⟨b, e4, h⟩ := optB_of h
      obtain ⟨h, h3⟩ := and_of h
      obtain ⟨h1, h2⟩ := and_of h
      rw [e3, e4, isNone_of h1]
      exact se_cutloN c.hK (R.E c tk h2) (R.E c tk h3)
    | cuthi =>
      obtain ⟨r, e1, h⟩ := optB_of h
      obtain ⟨p, rfl⟩ := asSub_of e1
      obtain ⟨q, e2, h⟩ := optB_of h
      obtain ⟨p2, e3⟩ := asCut_of e2
      obtain ⟨b, e4, h⟩ := optB_of h
      obtain ⟨h, h3⟩ := and_of h
      obtain ⟨h1, h2⟩ := and_of h
      rw [e3, e4, isNone_of h1]
      exact se_cuthiN c.hK (R.E c tk h2) (R.E c tk h3)
    | _ => cases h
  | o3 o a b d =>
    cases o
    obtain ⟨r, e1, h⟩ := optB_of h
    obtain ⟨p, rfl⟩ := asSub_of e1
    obtain ⟨q, e2, h⟩ := optB_of h
    obtain ⟨p2, e3⟩ := asCut_of e2
    obtain ⟨b, e4, h⟩ := optB_of h
    obtain ⟨b2, e5, h⟩ := optB_of h
    obtain ⟨h, h3⟩ := and_of h
    obtain ⟨h1, h2⟩ := and_of h
    rw [e3, e4, e5]
    exact se_cutN c.hK (R.E c tk h1) (R.E c tk h2) (R.E c tk h3)
  | _ => cases h
theorem kAs_ok (R : RecOk rc tb) (c : CtxOk X w F tb cc) (tk : Takes X W) : ∀ {es : List Expr} {t : T}, kAs rc cc es t = true → SA X w F W es t ∧ (∀ y ∈ es, ∀ x p, y ≠ .Starred x p) ∧ tlen t = es.length
  | [], t, h => by
    cases t with
    | nil => exact ⟨sa_nil, by simp, rfl⟩
    | _ => cases h
  | e :: es, t, h => by
    cases t with
    | cons a r =>
      obtain ⟨h, h3⟩ := and_of h
      obtain ⟨h1, h2⟩ := and_of h
      obtain ⟨i1, i2, i3⟩ := kAs_ok R c tk h3
      refine ⟨sa_cons (R.E c tk h2) i1 (noStar_of h1), fun y hy => ?_, by show tlen r + 1 = es.length + 1; rw [i3]⟩
      rcases List.mem_cons.mp hy with rfl | hy
      · exact noStar_of h1
      · exact i2 y hy
    | _ => cases h
theorem kKs_ok (R : RecOk rc tb) (c : CtxOk X w F tb cc) (tk : Takes X W) : ∀ {ks : List Keyword} {t : T}, kKs rc cc ks t = true → PK X ks (rdA w F W t)
  | [], t, h => by
    cases t with
    | nil => exact sk_nil
    | _ => cases h
  | ⟨nm, v, p⟩ :: ks, t, h => by
    cases t with
    | cons a r =>
      obtain ⟨h1, h2⟩ := and_of h
      exact sk_cons (R.E c tk h1) (kKs_ok R c tk h2)
    | _ => cases h
theorem kVs_ok (R : RecOk rc tb) (c : CtxOk X w F tb cc) (tk : Takes X W) {op : BoolOp} {p : Pos} : ∀ {es : List Expr} {t : T}, kVs rc cc op p es t = true → SE X w F W (.BoolOp op es p) t
  | [], t, h => by cases h
  | [a], t, h => se_one (R.E c tk h)
  | a :: b :: rest, t, h => by
    cases t with
    | and t1 t2 =>
      obtain ⟨h, h3⟩ := and_of h
      obtain ⟨h1, h2⟩ := and_of h
      have := of_decide_eq_true h1
      subst this
      exact se_and (R.E c tk h2) (kVs_ok R c tk h3)
    | or t1 t2 =>
      obtain ⟨h, h3⟩ := and_of h
      obtain ⟨h1, h2⟩ := and_of h
      have := of_decide_eq_true h1
      subst this
      exact se_or (R.E c tk h2) (kVs_ok R c tk h3)
    | orl t1 t2 =>
      obtain ⟨h, h3⟩ := and_of h
      obtain ⟨h1, h2⟩ := and_of h
      have := of_decide_eq_true h1
      subst this
      exact se_orl c.hK (R.E c tk h2) (kVs_ok R c tk h3)
    | _ => cases h
theorem kWs_ok (R : RecOk rc tb) (c : CtxOk X w F tb cc) (tk : Takes X W) {op : BoolOp} {p : Pos} : ∀ {es : List Expr} {t : T}, kWs rc cc op p es t = true → PW X (.BoolOp op es p) (rdT w F W t)
  | [], t, h => by cases h
  | [a], t, h => by
    cases op with
    | And => exact sw_and1 (R.Tt c tk h)
    | Or => exact sw_or1 (R.Tt c tk h)
  | a :: b :: rest, t, h => by
    cases t with
    | and t1 t2 =>
      obtain ⟨h, h3⟩ := and_of h
      obtain ⟨h1, h2⟩ := and_of h
      have := of_decide_eq_true h1
      subst this
      exact sw_and (R.Tt c tk h2) (kWs_ok R c tk h3)
    | or t1 t2 =>
      obtain ⟨h, h3⟩ := and_of h
      obtain ⟨h1, h2⟩ := and_of h
      have := of_decide_eq_true h1
      subst this
      exact sw_or (R.Tt c tk h2) (kWs_ok R c tk h3)
    | _ => cases h
theorem st_w (h : PW X e (rdT w F W t)) : ST X w F W e t := ⟨fun pins s σ H Q I q => h.run (eval e X.env) pins s σ H Q I q⟩
theorem kChn_ok (R : RecOk rc tb) (c : CtxOk X w F tb cc) (tk : Takes X W) {o p : O2} (h : kChn rc cc o p e t1 t2 t3 = true) : SE X w F W e (.chn o p t1 t2 t3) ∧ ST X w F W e (.chn o p t1 t2 t3) := by
  obtain ⟨r, e1, h⟩ := optB_of h
  obtain ⟨p, rfl⟩ := asCmp2_of e1
  obtain ⟨h, h6⟩ := and_of h
  obtain ⟨h, h5⟩ := and_of h
  obtain ⟨h, h4⟩ := and_of h
  obtain ⟨h, h3⟩ := and_of h
  obtain ⟨h1, h2⟩ := and_of h
  have h1 := of_decide_eq_true h1
  have h2 := of_decide_eq_true h2
  rw [← h1, ← h2]
  exact ⟨se_chn (cmp_ok c _) (cmp_ok c _) (R.E c tk h4) (R.E c tk h5) (R.E c tk h6) (marks_of h3), st_chn (cmp_ok c _) (cmp_ok c _) (R.E c tk h4) (R.E c tk h5) (R.E c tk h6) (marks_of h3)⟩
theorem CtxOk.xok (c : CtxOk X w F tb cc) (h : (!tb.hue.isEmpty) = true) : XcOk w := by
  rcases c.xs.xo with z | z
  · rw [z] at h; cases h
  · exact z
theorem clsB_ok (c : CtxOk X w F tb cc) {ty : Ty} (h : clsB tb cc e ty = true) : PE X e (tC (clsV w ty)) ∧ tyKnown w ty ∧ ∀ x p, e ≠ .Starred x p := by
  obtain ⟨q, e1, h⟩ := optB_of h
  rw [asName_of e1]
  refine ⟨?_, ?_, fun x p z => nomatch z⟩
  · cases ty with
    | own n =>
      obtain ⟨h1, h2⟩ := and_of h
      obtain ⟨k, hk, h⟩ := List.any_eq_true.mp h2
      obtain ⟨k1, k2⟩ := and_of h
      obtain ⟨k2, _⟩ := and_of k2
      obtain ⟨g1, g2⟩ := c.gl h1
      have m := (c.xs.xcs k hk).at_
      rw [of_decide_eq_true k1, of_decide_eq_true k2] at m
      exact pe_glob g1 m rfl g2
    | hue =>
      obtain ⟨h1, h2⟩ := and_of h
      obtain ⟨g1, g2⟩ := c.gl h1
      exact pe_glob g1 (c.xs.hue _ (of_decide_eq_true h2)) rfl g2
    | verr =>
      obtain ⟨h1, h2⟩ := and_of h
      obtain ⟨d1, d2, d3, d4⟩ := c.bl h1
      have e := of_decide_eq_true h2
      exact pe_bltn d1 d2 (by rw [e]; decide +kernel) (v := .ty "ValueError") rfl d3 d4
    | _ => cases h
  · cases ty with
    | own n =>
      obtain ⟨h1, h2⟩ := and_of h
      obtain ⟨k, hk, h⟩ := List.any_eq_true.mp h2
      obtain ⟨k1, k2⟩ := and_of h
      obtain ⟨_, k3⟩ := and_of k2
      have m := (c.xs.xcs k hk).mem
      rw [of_decide_eq_true k1] at m
      exact ⟨m, k3⟩
    | hue => trivial
    | verr => trivial
    | _ => cases h
theorem clssB_ok (c : CtxOk X w F tb cc) : ∀ {es : List Expr} {tys : List Ty}, clssB tb cc es tys = true → ClsEs X w es tys ∧ ∀ t ∈ tys, tyKnown w t
  | [], [], _ => ⟨.nil, by simp⟩
  | [], _ :: _, h => by cases h
  | _ :: _, [], h => by cases h
  | e :: es, t :: ts, h => by
    obtain ⟨h1, h2⟩ := and_of h
    obtain ⟨a1, a2, a3⟩ := clsB_ok c h1
    obtain ⟨b1, b2⟩ := clssB_ok c h2
    refine ⟨.cons a1 a3 b1, fun y hy => ?_⟩
    rcases List.mem_cons.mp hy with rfl | hy
    · exact a2
    · exact b2 y hy
theorem kIsi_ok (R : RecOk rc tb) (c : CtxOk X w F tb cc) (tk : Takes X W) {tys : List Ty} (h : kIsi rc tb cc e t tys = true) : SE X w F W e (.isi t tys) := by
  obtain ⟨r, e1, h⟩ := optB_of h
  obtain ⟨p, q, rfl⟩ := asCall2_of e1
  obtain ⟨h, h5⟩ := and_of h
  obtain ⟨h, h4⟩ := and_of h
  obtain ⟨h, h3⟩ := and_of h
  obtain ⟨h1, h2⟩ := and_of h
  rw [of_decide_eq_true h1]
  obtain ⟨b1, b2, b3, b4⟩ := c.bl h2
  rcases (Bool.or_eq_true _ _).mp h5 with h5 | h5
  · cases tys with
    | nil => cases h5
    | cons ty tys =>
      cases tys with
      | nil =>
        rcases (Bool.or_eq_true _ _).mp h5 with h5 | h5
        · obtain ⟨q, e2, h⟩ := optB_of h5
          have e3 := asName_of e2
          obtain ⟨h, h8⟩ := and_of h
          obtain ⟨h6, h7⟩ := and_of h
          have h8 := of_decide_eq_true h8
          obtain ⟨d1, d2, d3, d4⟩ := c.bl h6
          rw [e3]
          refine se_isi1 c.hK b1 b2 d1 d2 ?_ h7 d3 d4 (R.E c tk h4) (noStar_of h3)
          rw [h8]
          cases ty <;> first | decide +kernel | cases h7
        · obtain ⟨h6, h7⟩ := and_of h5
          obtain ⟨a1, a2, a3⟩ := clsB_ok c h7
          exact se_isx1 c.hK (c.xok h6) b1 b2 a2 a1 a3 (R.E c tk h4) (noStar_of h3)
      | cons _ _ => cases h5
  · obtain ⟨h5, h8⟩ := and_of h5
    obtain ⟨h6, h7⟩ := and_of h5
    obtain ⟨es, e2, h8⟩ := optB_of h8
    obtain ⟨k, tp, e3⟩ := asTup_of e2
    obtain ⟨a1, a2⟩ := clssB_ok c h8
    rw [e3]
    exact se_isxt c.hK (c.xok h6) b1 b2 a2 (of_decide_eq_true h7) a1 (R.E c tk h4) (noStar_of h3)
theorem bltsB_ok (c : CtxOk X w F tb cc) : ∀ {es : List Expr} {tys : List Ty}, bltsB tb cc es tys = true → BltEs X es tys ∧ tys.all builtinTy = true
  | [], [], _ => ⟨.nil, rfl⟩
  | [], _ :: _, h => by cases h
  | _ :: _, [], h => by cases h
  | e :: es, t :: ts, h => by
    obtain ⟨h1, h2⟩ := and_of h
    obtain ⟨b1, b2⟩ := bltsB_ok c h2
    obtain ⟨q, e2, h⟩ := optB_of h1
    have e3 := asName_of e2
    obtain ⟨h, h8⟩ := and_of h
    obtain ⟨h6, h7⟩ := and_of h
    have h8 := of_decide_eq_true h8
    obtain ⟨d1, d2, d3, d4⟩ := c.bl h6
    rw [e3]
    refine ⟨.cons (pe_bltn d1 d2 (v := .ty (tyN t)) (u := .type (tyN t)) ?_ rfl d3 d4) (by intro x p z; cases z) b1, by rw [List.all_cons, h7, b2]; rfl⟩
    rw [h8]
    cases t <;> first | decide +kernel | cases h7
theorem kIsb_ok (R : RecOk rc tb) (c : CtxOk X w F tb cc) (tk : Takes X W) {tys : List Ty} (h : kIsb rc tb cc e t tys = true) : SE X w F W e (.isi t tys) := by
  obtain ⟨r, e1, h⟩ := optB_of h
  obtain ⟨p, q, rfl⟩ := asCall2_of e1
  obtain ⟨h, h6⟩ := and_of h
  obtain ⟨h, h5⟩ := and_of h
  obtain ⟨h, h4⟩ := and_of h
  obtain ⟨h, h3⟩ := and_of h
  obtain ⟨h1, h2⟩ := and_of h
  obtain ⟨n1, n2⟩ := and_of h5
  rw [of_decide_eq_true h1]
  obtain ⟨b1, b2, b3, b4⟩ := c.bl h2
  obtain ⟨es, e2, h8⟩ := optB_of h6
  obtain ⟨k, tp, e3⟩ := asTup_of e2
  obtain ⟨a1, a2⟩ := bltsB_ok c h8
  rw [e3]
  exact se_isbt c.hK b1 b2 a2 (by intro z; subst z; cases n1) (of_decide_eq_true n2) a1 (R.E c tk h4) (noStar_of h3)
theorem kSmt_ok (R : RecOk rc tb) (c : CtxOk X w F tb cc) (tk : Takes X W) {m : Sm} (h : kSmt rc cc m e t1 t2 = true) : SE X w F W e (.smt m t1 t2) := by
  obtain ⟨r, e1, h⟩ := optB_of h
  have e2 := asMeth_of e1
  obtain ⟨h, h5⟩ := and_of h
  obtain ⟨h, h4⟩ := and_of h
  obtain ⟨h, h3⟩ := and_of h
  obtain ⟨h1, h2⟩ := and_of h
  rw [e2]
  split at h5
  · rename_i x ex
    obtain ⟨h6, h7⟩ := and_of h5
    rw [ex]
    cases m with
    | join => exact se_join c.hK (of_decide_eq_true h1) (R.E c tk h4) h2 h3 (R.E c tk h7) (noStar_of h6)
    | split => exact se_split c.hK (of_decide_eq_true h1) (R.E c tk h4) h2 h3 (R.E c tk h7) (noStar_of h6)
  · cases h5
theorem kOwnS_ok (R : RecOk rc tb) (c : CtxOk X w F tb cc) (tk : Takes X W) (h : kOwnS rc cc e t = true) : SE X w F W e (.own t) := by
  unfold kOwnS at h
  split at h
  · rename_i a b
    obtain ⟨r, e1, h⟩ := optB_of h
    have e2 := asMeth_of e1
    obtain ⟨h, h5⟩ := and_of h
    obtain ⟨h, h4⟩ := and_of h
    obtain ⟨h, h3⟩ := and_of h
    obtain ⟨h1, h2⟩ := and_of h
    rw [e2]
    split at h5
    · rename_i x ex
      obtain ⟨h6, h7⟩ := and_of h5
      rw [ex]
      exact se_splitO c.hK (of_decide_eq_true h1) (R.E c tk h4) h2 h3 (R.E c tk h7) (noStar_of h6)
    · cases h5
  · cases h
theorem jpB_ok (R : RecOk rc tb) (c : CtxOk X w F tb cc) (tk : Takes X W) (h : jpB rc cc e t = true) : ∃ te, JPart X w F W e t te := by
  unfold jpB at h
  split at h
  · obtain ⟨h1, h2⟩ := and_of h
    have := of_decide_eq_true h1
    subst this
    exact ⟨_, .con (of_decide_eq_true h2) pe_str⟩
  · obtain ⟨h1, h2⟩ := and_of h
    rw [of_decide_eq_true h1]
    exact ⟨_, .fv (R.E c tk h2)⟩
  · cases h
theorem kJs_ok (R : RecOk rc tb) (c : CtxOk X w F tb cc) (tk : Takes X W) {o : O2} (h : kJs rc cc o e t1 t2 = true) : SE X w F W e (.o2 o t1 t2) := by
  obtain ⟨h0, h'⟩ := and_of h
  clear h
  have := of_decide_eq_true h0
  subst this
  clear h0
  have h : kJs0 rc cc e t1 t2 = true := h'
  unfold kJs0 at h
  split at h
  · obtain ⟨h1, h2⟩ := and_of h
    obtain ⟨ta, ja⟩ := jpB_ok R c tk h1
    obtain ⟨tb', jb⟩ := jpB_ok R c tk h2
    exact se_joined2 ja jb
  · split at h
    · obtain ⟨h, h3⟩ := and_of h
      obtain ⟨h1, h2⟩ := and_of h
      obtain ⟨ta, ja⟩ := jpB_ok R c tk h1
      obtain ⟨tb', jb⟩ := jpB_ok R c tk h2
      obtain ⟨tc, jc⟩ := jpB_ok R c tk h3
      exact se_joined3 ja jb jc
    · cases h
  · cases h
theorem kCallf_ok (R : RecOk rc tb) (c : CtxOk X w F tb cc) (tk : Takes X W) {i : Nat} {fs : List Nat} (h : kCallf rc tb cc i fs e t = true) : SE X w F W e (.callf i fs t) := by
  obtain ⟨r, e1, h⟩ := optB_of h
  obtain ⟨p, q, rfl⟩ := asCall_of e1
  obtain ⟨h, h6⟩ := and_of h
  obtain ⟨h, h5⟩ := and_of h
  obtain ⟨h, h4⟩ := and_of h
  obtain ⟨h, h3⟩ := and_of h
  obtain ⟨h1, h2⟩ := and_of h
  obtain ⟨v1, v2, v3⟩ := c.vis h2
  obtain ⟨k, room, df⟩ := c.defs
  have room := room.mono (Nat.le_succ k)
  obtain ⟨i1, i2, i3⟩ := kAs_ok R c tk h6
  have ek : r.2.2 = [] := List.isEmpty_iff.mp h3
  rw [ek]
  cases ea : r.2.1 with
  | nil => rw [ea] at h4; cases h4
  | cons y ys =>
    rw [ea] at i1 i2
    refine se_callf c.hK room (by rw [c.hN]; exact of_decide_eq_true h1) v1 v2 v3 tk (fun g hg => ?_) i1 i2
    obtain ⟨q, eq, hq⟩ := optB_of (List.all_eq_true.mp h5 g hg)
    exact ⟨_, _, _, df g q.1 q.2.1 q.2.2 eq, of_decide_eq_true hq⟩
theorem kDcn_ok (c : CtxOk X w F tb cc) {x : Str} {p : Pos} {q : List (Str × Nat) → Bool} (h : kDcn tb cc x q = true) : ∃ kvs d es n, q kvs = true ∧ w.pm = X.w.params ∧ DcAt w.K w kvs d es n ∧ PE X (.Name x p) (tC (.ref d)) := by
  obtain ⟨h1, h⟩ := and_of h
  obtain ⟨y, hy, h⟩ := List.any_eq_true.mp h
  obtain ⟨h2, h3⟩ := and_of h
  have h2 := of_decide_eq_true h2
  obtain ⟨g1, g2⟩ := c.gl h1
  rcases c.dcs with z | ⟨z1, z2⟩
  · rw [z] at hy; cases hy
  · obtain ⟨d, es, n, m, D⟩ := z2 y hy
    rw [h2] at m
    exact ⟨y.2, d, es, n, h3, z1, D, pe_glob g1 m (v := .ref d) rfl g2⟩
theorem kDkin_ok (R : RecOk rc tb) (c : CtxOk X w F tb cc) (tk : Takes X W) {ws : List Str} (h : kDkin rc tb cc ws e t = true) : SE X w F W e (.dkin ws t) ∧ ST X w F W e (.dkin ws t) := by
  obtain ⟨r, e1, h⟩ := optB_of h
  obtain ⟨p, rfl⟩ := asCmp1_of e1
  obtain ⟨h, h3⟩ := and_of h
  obtain ⟨h1, h2⟩ := and_of h
  obtain ⟨q, e2, h3⟩ := optB_of h3
  have e3 := asName_of e2
  obtain ⟨kvs, d, es, n, h4, z1, D, pe⟩ := kDcn_ok (p := q.2) c h3
  have h4 := of_decide_eq_true h4
  subst h4
  have h1 := of_decide_eq_true h1
  have hm : behindInMarks .In r.2.2 = false := by rw [e3]; rfl
  rw [h1]
  rw [← e3] at pe
  exact ⟨se_dkin c.hK z1 D pe (R.E c tk h2) hm, st_dkin c.hK z1 D pe (R.E c tk h2) hm⟩
theorem kDkni_ok (R : RecOk rc tb) (c : CtxOk X w F tb cc) (tk : Takes X W) {ws : List Str} (h : kDkni rc tb cc ws e t = true) : SE X w F W e (.dkni ws t) ∧ ST X w F W e (.dkni ws t) := by
  obtain ⟨r, e1, h⟩ := optB_of h
  obtain ⟨p, rfl⟩ := asCmp1_of e1
  obtain ⟨h, h3⟩ := and_of h
  obtain ⟨h1, h2⟩ := and_of h
  obtain ⟨q, e2, h3⟩ := optB_of h3
  have e3 := asName_of e2
  obtain ⟨kvs, d, es, n, h4, z1, D, pe⟩ := kDcn_ok (p := q.2) c h3
  have h4 := of_decide_eq_true h4
  subst h4
  have h1 := of_decide_eq_true h1
  have hm : behindInMarks .NotIn r.2.2 = false := by rw [e3]; rfl
  rw [h1]
  rw [← e3] at pe
  exact ⟨se_dkni c.hK z1 D pe (R.E c tk h2) hm, st_dkni c.hK z1 D pe (R.E c tk h2) hm⟩
theorem kEqk_ok (R : RecOk rc tb) (c : CtxOk X w F tb cc) (tk : Takes X W) {d : D} (h : kEqk rc tb cc d e t = true) : SE X w F W e (.eqk d t) ∧ ST X w F W e (.eqk d t) := by
  obtain ⟨r, e1, h⟩ := optB_of h
  obtain ⟨p, rfl⟩ := asCmp1_of e1
  obtain ⟨h, h3⟩ := and_of h
  obtain ⟨h1, h2⟩ := and_of h
  obtain ⟨q, e2, h3⟩ := optB_of h3
  have e3 := asName_of e2
  obtain ⟨h4, h3⟩ := and_of h3
  obtain ⟨y, hy, h3⟩ := List.any_eq_true.mp h3
  obtain ⟨h5, h6⟩ := and_of h3
  have h5 := of_decide_eq_true h5
  have h6 := sameD_eq h6
  subst h6
  obtain ⟨g1, g2⟩ := c.gl h4
  obtain ⟨a, m, C⟩ := c.xs.kcs y hy
  rw [h5] at m
  have pe : PE X (.Name q.1 q.2) (tC (.ref a)) := pe_glob g1 m (v := .ref a) rfl g2
  have h1 := of_decide_eq_true h1
  have hm : behindInMarks .Eq r.2.2 = false := by rw [e3]; rfl
  rw [h1]
  rw [← e3] at pe
  exact ⟨se_eqk c.un c.hK C pe (R.E c tk h2) hm, st_eqk c.un c.hK C pe (R.E c tk h2) hm⟩
theorem kDkix_ok (R : RecOk rc tb) (c : CtxOk X w F tb cc) (tk : Takes X W) {kvs : List (Str × Nat)} (h : kDkix rc tb cc kvs e t = true) : SE X w F W e (.dkix kvs t) := by
  obtain ⟨r, e1, h⟩ := optB_of h
  obtain ⟨p, rfl⟩ := asSub_of e1
  obtain ⟨h, h3⟩ := and_of h
  obtain ⟨h1, h2⟩ := and_of h
  obtain ⟨q, e2, h3⟩ := optB_of h3
  have e3 := asName_of e2
  obtain ⟨kvs', d, es, n, h4, z1, D, pe⟩ := kDcn_ok (p := q.2) c h3
  obtain ⟨h4, hb⟩ := and_of h4
  have h4 := of_decide_eq_true h4
  subst h4
  rw [← e3] at pe
  exact se_dkix c.hK z1 D hb pe (R.E c tk h2) (plainIx_of h1)
theorem kDknm_ok (R : RecOk rc tb) (c : CtxOk X w F tb cc) (tk : Takes X W) {kvs : List (Str × Nat)} (h : kDknm rc tb cc kvs e t = true) : SE X w F W e (.dknm kvs t) := by
  obtain ⟨r, e1, h⟩ := optB_of h
  obtain ⟨p, rfl⟩ := asSub_of e1
  obtain ⟨h, h3⟩ := and_of h
  obtain ⟨h1, h2⟩ := and_of h
  obtain ⟨q, e2, h3⟩ := optB_of h3
  have e3 := asName_of e2
  obtain ⟨kvs', d, es, n, h4, z1, D, pe⟩ := kDcn_ok (p := q.2) c h3
  obtain ⟨h4, hb⟩ := and_of h4
  have h4 := of_decide_eq_true h4
  subst h4
  rw [← e3] at pe
  exact se_dknm c.hK z1 D hb pe (R.E c tk h2) (plainIx_of h1)
theorem perm_len {α : Type} {ord : List Nat} {n np : Nat} (h : permB ord n np = true) (vs : List α) (hl : vs.length = n) : (perm ord vs).length = np := by
  obtain ⟨h1, h3⟩ := and_of h
  rw [← of_decide_eq_true h3]
  clear h3 h
  unfold perm
  induction ord with
  | nil => rfl
  | cons i r ih =>
    rw [List.all_cons] at h1
    obtain ⟨g1, g2⟩ := and_of h1
    have g1 : i < vs.length := by rw [hl]; exact of_decide_eq_true g1
    rw [List.filterMap_cons, List.getElem?_eq_getElem g1]
    show (List.filterMap _ r).length + 1 = r.length + 1
    rw [ih g2]
theorem kCall_ok (R : RecOk rc tb) (c : CtxOk X w F tb cc) (tk : Takes X W) {g : Nat} (h : kCall rc tb cc g e t = true) : SE X w F W e (.call g t) := by
  obtain ⟨r, e1, h2⟩ := optB_of h
  clear h
  obtain ⟨p, q, rfl⟩ := asCall_of e1
  obtain ⟨q, e2, h⟩ := optB_of h2
  clear h2
  obtain ⟨h, h6⟩ := and_of h
  obtain ⟨h, h5⟩ := and_of h
  obtain ⟨h, h3⟩ := and_of h
  obtain ⟨h, h2⟩ := and_of h
  obtain ⟨h1, h0⟩ := and_of h
  obtain ⟨g1, g2⟩ := c.gl h2
  obtain ⟨k, room, df⟩ := c.defs
  have room := room.mono (Nat.le_succ k)
  have d := df g q.1 q.2.1 q.2.2 e2
  rw [of_decide_eq_true h1] at d
  obtain ⟨i1, i2, i3⟩ := kAs_ok R c tk h6
  have ek : r.2.2 = [] := List.isEmpty_iff.mp h3
  rw [ek]
  cases ea : r.2.1 with
  | nil =>
    rw [ea] at h6
    cases t with
    | nil => exact se_call0 c.hK d room g1 tk g2 (of_decide_eq_true h5).symm (of_decide_eq_true h0)
    | _ => cases h6
  | cons a as =>
    rw [ea] at i1 i2
    exact se_call c.hK d room g1 tk i1 i2 g2 (of_decide_eq_true h5) (of_decide_eq_true h0)
theorem kCallk_ok (R : RecOk rc tb) (c : CtxOk X w F tb cc) (tk : Takes X W) {g : Nat} {ord : List Nat} (h : kCallk rc tb cc g e t1 t2 ord = true) : SE X w F W e (.callk g t1 t2 ord) := by
  obtain ⟨r, e1, h2⟩ := optB_of h
  clear h
  obtain ⟨p, q, rfl⟩ := asCall_of e1
  obtain ⟨q, e2, h⟩ := optB_of h2
  clear h2
  obtain ⟨h, h5⟩ := and_of h
  obtain ⟨h, h4⟩ := and_of h
  obtain ⟨h, h3⟩ := and_of h
  obtain ⟨h, h2⟩ := and_of h
  obtain ⟨h1, h0⟩ := and_of h
  obtain ⟨g1, g2⟩ := c.gl h2
  obtain ⟨k, room, df⟩ := c.defs
  have room := room.mono (Nat.le_succ k)
  have d := df g q.1 q.2.1 q.2.2 e2
  rw [of_decide_eq_true h1] at d
  obtain ⟨i1, i2, i3⟩ := kAs_ok R c tk h3
  have ik := kKs_ok R c tk h4
  obtain ⟨kw, hkw, h⟩ := List.any_eq_true.mp h5
  obtain ⟨h, j5⟩ := and_of h
  obtain ⟨h, j4⟩ := and_of h
  obtain ⟨h, j3⟩ := and_of h
  obtain ⟨j1, j2⟩ := and_of h
  have j1 := of_decide_eq_true j1
  have j2 := of_decide_eq_true j2
  have j3 := of_decide_eq_true j3
  have j4 := of_decide_eq_true j4
  obtain ⟨np, ks, od⟩ := kw
  have j1 : np = tlen t1 := j1
  have j2 : od = ord := j2
  subst j2
  cases ea : r.2.1 with
  | nil =>
    rw [ea] at i3 h3
    have e0 : np = 0 := by rw [j1, i3]; rfl
    subst e0
    cases t1 with
    | nil => exact se_callk0 c.hK d hkw room g1 tk ik g2 j3 j4 (fun vs hl => perm_len j5 vs hl) (of_decide_eq_true h0)
    | _ => cases h3
  | cons a as =>
    rw [ea] at i1 i2
    exact se_callk c.hK d hkw room g1 tk i1 ik i2 g2 j3 j1.symm j4 (fun vs hl => perm_len j5 vs hl) (of_decide_eq_true h0)
theorem kDget_ok (R : RecOk rc tb) (c : CtxOk X w F tb cc) (tk : Takes X W) (h : kDget rc cc e t1 t2 = true) : SE X w F W e (.dget t1 t2) := by
  obtain ⟨r, e1, h2⟩ := optB_of h
  clear h
  have := asMeth_of e1
  subst this
  obtain ⟨h, h5⟩ := and_of h2
  obtain ⟨h, h4⟩ := and_of h
  obtain ⟨h, h3⟩ := and_of h
  obtain ⟨h1, h2⟩ := and_of h
  rw [of_decide_eq_true h1]
  split at h5
  · rename_i x ea
    obtain ⟨j1, j2⟩ := and_of h5
    rw [ea]
    exact se_dget c.un (R.E c tk h4) (R.E c tk j2) (m1_of h2 h3 (noStar_of j1))
  · cases h5
theorem kIxof_ok (R : RecOk rc tb) (c : CtxOk X w F tb cc) (tk : Takes X W) {tp : Bool} (h : kIxof rc cc tp e t1 t2 = true) : SE X w F W e (.ixof tp t1 t2) := by
  obtain ⟨r, e1, h⟩ := optB_of h
  have e2 := asMeth_of e1
  obtain ⟨h, h5⟩ := and_of h
  obtain ⟨h, h4⟩ := and_of h
  obtain ⟨h, h3⟩ := and_of h
  obtain ⟨h1, h2⟩ := and_of h
  rw [e2]
  split at h5
  · rename_i x ex
    obtain ⟨h6, h7⟩ := and_of h5
    rw [ex]
    cases tp with
    | true => exact se_ixt c.hK (of_decide_eq_true h1) (R.E c tk h4) h2 h3 (R.E c tk h7) (noStar_of h6)
    | false => exact se_ixof c.un c.hK (of_decide_eq_true h1) (R.E c tk h4) h2 h3 (R.E c tk h7) (noStar_of h6)
  · cases h5
theorem kDget2_ok (R : RecOk rc tb) (c : CtxOk X w F tb cc) (tk : Takes X W) (h : kDget2 rc cc e t1 t2 t3 = true) : SE X w F W e (.dget2 t1 t2 t3) := by
  obtain ⟨r, e1, h2⟩ := optB_of h
  clear h
  have := asMeth_of e1
  subst this
  obtain ⟨h, h5⟩ := and_of h2
  obtain ⟨h, h4⟩ := and_of h
  obtain ⟨h, h3⟩ := and_of h
  obtain ⟨h1, h2⟩ := and_of h
  rw [of_decide_eq_true h1]
  split at h5
  · rename_i x y ea
    obtain ⟨j, j4⟩ := and_of h5
    obtain ⟨j, j3⟩ := and_of j
    obtain ⟨j1, j2⟩ := and_of j
    rw [ea]
    exact se_dget2 c.un (R.E c tk h4) (R.E c tk j3) (R.E c tk j4) (m2_of h2 h3 (noStar_of j1) (noStar_of j2))
  · cases h5
theorem kMkx_ok (R : RecOk rc tb) (c : CtxOk X w F tb cc) (tk : Takes X W) {n : Nat} {fs : List Nat} {args : T} (h : kMkx rc tb cc n fs e args = true) : SE X w F W e (.mkx n fs args) := by
  obtain ⟨r, e1, h⟩ := optB_of h
  obtain ⟨p, q0, es⟩ := asCall_of e1
  obtain ⟨x, as, ks⟩ := r
  dsimp only at h es
  rw [es]
  obtain ⟨h1, h⟩ := and_of h
  obtain ⟨h2, h⟩ := and_of h
  obtain ⟨h3, h⟩ := and_of h
  obtain ⟨_, _, hex⟩ := c.top (isNone_of h1)
  rw [List.isEmpty_iff.mp h2]
  obtain ⟨g1, g2⟩ := c.gl h3
  split at h
  · obtain ⟨h4, h⟩ := and_of h
    obtain ⟨h5, h6⟩ := and_of h
    obtain ⟨q, hq, k⟩ := List.any_eq_true.mp h4
    obtain ⟨k1, k⟩ := and_of k
    obtain ⟨k2, k3⟩ := and_of k
    obtain ⟨x1, x2, x3⟩ := c.xs.xcs q hq
    obtain ⟨y1, y2, y3, y4⟩ := x3 k3
    rw [of_decide_eq_true k1] at x1 x2 y1 y2
    rw [of_decide_eq_true k2] at x2
    exact se_mkt c.hK x1 y1 x2 y2 g1 g2 (R.E c tk h6) (noStar_of h5)
  · obtain ⟨h4, h⟩ := and_of h
    obtain ⟨h5, h6⟩ := and_of h
    obtain ⟨q, hq, k⟩ := List.any_eq_true.mp h4
    obtain ⟨k1, k⟩ := and_of k
    obtain ⟨k2, k3⟩ := and_of k
    obtain ⟨m1, m2, hx, fI, fd, ps, XI, iC, tI, bd, fo⟩ := c.xs.xfs q hq
    rw [of_decide_eq_true k1] at m1 m2 XI iC fo
    rw [of_decide_eq_true k2] at m2
    rw [of_decide_eq_true k3] at XI fo
    exact se_mkf c.hK hex m1 XI iC tI (fo _ _ _ 0) c.rm2 bd g1 m2 g2 (R.E c tk h6) (noStar_of h5)
  · obtain ⟨h4, h⟩ := and_of h
    obtain ⟨h5, h⟩ := and_of h
    obtain ⟨h6, h⟩ := and_of h
    obtain ⟨h7, h8⟩ := and_of h
    obtain ⟨q, hq, k⟩ := List.any_eq_true.mp h4
    obtain ⟨k1, k⟩ := and_of k
    obtain ⟨k2, k⟩ := and_of k
    obtain ⟨k3, k4⟩ := and_of k
    obtain ⟨m1, m2, hx, fI, fd, ps, XI, iC, tI, bd, fo⟩ := c.xs.xf2 q hq
    rw [of_decide_eq_true k1] at m1 m2 XI iC fo
    rw [of_decide_eq_true k2] at m2
    rw [of_decide_eq_true k3] at XI fo
    rw [of_decide_eq_true k4] at fo
    exact se_mkg c.hK hex m1 XI iC tI (fo _ _ _ 0) c.rm2 bd g1 m2 g2 (R.E c tk h7) (noStar_of h5) (R.E c tk h8) (noStar_of h6)
  · cases h
theorem kXfl_ok (R : RecOk rc tb) (c : CtxOk X w F tb cc) (tk : Takes X W) {f : Nat} (h : kXfl rc tb cc f e t = true) : SE X w F W e (.xfl t f) := by
  obtain ⟨r, e1, h2⟩ := optB_of h
  clear h
  obtain ⟨p, rfl⟩ := asAttr_of e1
  obtain ⟨h, h4⟩ := and_of h2
  obtain ⟨h, h3⟩ := and_of h
  obtain ⟨h1, h2⟩ := and_of h
  obtain ⟨k1, k2⟩ := and_of h3
  have xo : XcOk w := by
    rcases c.xs.xo with z | z
    · rw [z] at k1; cases k1
    · exact z
  exact se_xfl c.hK xo (c.ats f r.2 (of_decide_eq_true h2)) (c.xs.xnf f (of_decide_eq_true k2)) (R.E c tk h4) (recv_eq h1)
theorem kFld_ok (R : RecOk rc tb) (c : CtxOk X w F tb cc) (tk : Takes X W) {n f : Nat} (h : kFld rc tb cc n f e t = true) : SE X w F W e (.fld n t f) := by
  obtain ⟨r, e1, h2⟩ := optB_of h
  clear h
  obtain ⟨p, rfl⟩ := asAttr_of e1
  obtain ⟨h, h4⟩ := and_of h2
  obtain ⟨h, h3⟩ := and_of h
  obtain ⟨h1, h2⟩ := and_of h
  obtain ⟨k, hk, h⟩ := List.any_eq_true.mp h3
  obtain ⟨k1, k2⟩ := and_of h
  have k1 := of_decide_eq_true k1
  have K := c.kls k hk
  have e0 := c.ats f r.2 (of_decide_eq_true h2)
  have fs := K.fs f (of_decide_eq_true k2)
  have cl := K.cls
  rw [k1] at fs cl
  exact se_fld c.hK cl fs e0 (R.E c tk h4) (recv_eq h1)
theorem kMake_ok (R : RecOk rc tb) (c : CtxOk X w F tb cc) (tk : Takes X W) {n g : Nat} (h : kMake rc tb cc n g e t = true) : SE X w F W e (.make n g t) := by
  obtain ⟨r, e1, h2⟩ := optB_of h
  clear h
  obtain ⟨p, q, rfl⟩ := asCall_of e1
  obtain ⟨q, e2, h⟩ := optB_of h2
  clear h2
  obtain ⟨h, h5⟩ := and_of h
  obtain ⟨h, h4⟩ := and_of h
  obtain ⟨h, h3⟩ := and_of h
  obtain ⟨h1, h2⟩ := and_of h
  obtain ⟨g1, g2⟩ := c.gl h2
  obtain ⟨kk, room, df⟩ := c.defs
  have d := df g q.1 q.2.1 q.2.2 e2
  obtain ⟨k, hk, h⟩ := List.any_eq_true.mp h3
  obtain ⟨h, k3⟩ := and_of h
  obtain ⟨k1, k2⟩ := and_of h
  have k1 := of_decide_eq_true k1
  have k2 := of_decide_eq_true k2
  have K := c.kls k hk
  have mk := K.mkr g (of_decide_eq_true k3)
  have at_ := K.at_
  rw [k1] at mk at_
  rw [k2] at at_
  obtain ⟨i1, i2, i3⟩ := kAs_ok R c tk h5
  have ek : r.2.2 = [] := List.isEmpty_iff.mp h1
  rw [ek]
  cases ea : r.2.1 with
  | nil =>
    rw [ea] at h5
    cases t with
    | nil => exact se_make0 c.hK mk at_ g1 d room g2 (of_decide_eq_true h4)
    | _ => cases h5
  | cons a as =>
    rw [ea] at i1 i2
    exact se_make c.hK mk at_ g1 d room i1 i2 g2 (of_decide_eq_true h4)
theorem kMeth_ok (R : RecOk rc tb) (c : CtxOk X w F tb cc) (tk : Takes X W) {n g : Nat} (h : kMeth rc tb cc n g e t1 t2 = true) : SE X w F W e (.meth n g t1 t2) := by
  obtain ⟨r, e1, h2⟩ := optB_of h
  clear h
  have := asMeth_of e1
  subst this
  obtain ⟨q, e2, h⟩ := optB_of h2
  clear h2
  obtain ⟨h, h7⟩ := and_of h
  obtain ⟨h, h6⟩ := and_of h
  obtain ⟨h, h5⟩ := and_of h
  obtain ⟨h, h4⟩ := and_of h
  obtain ⟨h, h3⟩ := and_of h
  obtain ⟨h1, h2⟩ := and_of h
  obtain ⟨kk, room, df⟩ := c.defs
  have room := room.mono (Nat.le_succ kk)
  have d := df g q.1 q.2.1 q.2.2 e2
  obtain ⟨k, hk, h⟩ := List.any_eq_true.mp h3
  obtain ⟨k1, k2⟩ := and_of h
  have k1 := of_decide_eq_true k1
  have K := c.kls k hk
  obtain ⟨mt, hn⟩ := K.ms _ (of_decide_eq_true k2)
  have cl := K.cls
  rw [k1] at mt cl
  obtain ⟨i1, i2, i3⟩ := kAs_ok R c tk h7
  have h5 := of_decide_eq_true h5
  cases ea : r.2.2.2.1 with
  | nil =>
    rw [ea] at h7
    cases t2 with
    | nil => exact se_meth0 c.hK cl mt hn d room tk (R.E c tk h6) h1 h2 (of_decide_eq_true h4)
    | _ => cases h7
  | cons a as =>
    rw [ea] at i1 i2 h5
    exact se_meth c.hK cl mt hn d room tk (R.E c tk h6) i1 i2 h1 h2 h5 (of_decide_eq_true h4)
theorem kMut_ok (R : RecOk rc tb) (c : CtxOk X w F tb cc) (tk : Takes X W) {m : Mu} (h : kMut rc cc m e t1 t2 = true) : SE X w F W e (.mtd m t1 t2) := by
  obtain ⟨q, e0, h2⟩ := optB_of h
  clear h
  obtain ⟨r, e1, h⟩ := optB_of h2
  clear h2
  have := asMeth_of e1
  subst this
  obtain ⟨h, h6⟩ := and_of h
  obtain ⟨h, h5⟩ := and_of h
  obtain ⟨h, h4⟩ := and_of h
  obtain ⟨h, h3⟩ := and_of h
  obtain ⟨h1, h2⟩ := and_of h
  have h1 := of_decide_eq_true h1
  have h2 := of_decide_eq_true h2
  obtain ⟨i1, i2, i3⟩ := kAs_ok R c tk h6
  rw [h1]
  have fin1 : ∀ {id : String}, Slot "list" q.1 id → typeOf (.builtin id) = pure (.type "method_descriptor") → MtR X id (rMut w m) → q.2 = 1 → SE X w F W (.Call (.Attribute r.1 q.1 r.2.2.1) r.2.2.2.1 [] r.2.2.2.2) (.mtd m t1 t2) := by
    intro id sl ty mt e1
    rw [e1] at h2
    cases ea : r.2.2.2.1 with
    | nil => rw [ea] at h2; cases h2
    | cons a as =>
      rw [ea] at i1 i2 h2
      exact se_mut c.hK sl ty mt (R.E c tk h5) h3 h4 i1 i2 (by rw [h2]; decide)
  have fin2 : ∀ {id : String}, Slot "list" q.1 id → typeOf (.builtin id) = pure (.type "method_descriptor") → MtR X id (rMut w m) → q.2 = 2 → SE X w F W (.Call (.Attribute r.1 q.1 r.2.2.1) r.2.2.2.1 [] r.2.2.2.2) (.mtd m t1 t2) := by
    intro id sl ty mt e1
    rw [e1] at h2
    cases ea : r.2.2.2.1 with
    | nil => rw [ea] at h2; cases h2
    | cons a as =>
      rw [ea] at i1 i2 h2
      exact se_mut c.hK sl ty mt (R.E c tk h5) h3 h4 i1 i2 (by rw [h2]; decide)
  have fin0 : ∀ {id : String}, Slot "list" q.1 id → typeOf (.builtin id) = pure (.type "method_descriptor") → MtR X id (rMut w m) → q.2 = 0 → SE X w F W (.Call (.Attribute r.1 q.1 r.2.2.1) r.2.2.2.1 [] r.2.2.2.2) (.mtd m t1 t2) := by
    intro id sl ty mt e1
    rw [e1] at h2
    have ea : r.2.2.2.1 = [] := List.length_eq_zero_iff.mp h2
    rw [ea] at h6 ⊢
    cases t2 with
    | nil => exact se_mut0 c.hK sl ty mt (R.E c tk h5) h3 h4
    | _ => cases h6
  cases m with
  | append => cases e0; exact fin1 PySem.F.slot_list_append PySem.F.type_list_append m_append rfl
  | extend => cases e0; exact fin1 PySem.F.slot_list_extend PySem.F.type_list_extend (m_extend c.hK) rfl
  | pop => cases e0; exact fin0 PySem.F.slot_list_pop PySem.F.type_list_pop m_pop rfl
  | popat => cases e0; exact fin1 PySem.F.slot_list_pop PySem.F.type_list_pop m_popat rfl
  | insert => cases e0; exact fin2 PySem.F.slot_list_insert PySem.F.type_list_insert m_insert rfl
  | reverse => cases e0; exact fin0 PySem.F.slot_list_reverse PySem.F.type_list_reverse m_reverse rfl
  | _ => cases e0
theorem isTupE_of {tg : Expr} (h : isTupE tg = true) : ∃ es k p, tg = .Tuple es k p := by
  cases tg <;> first | exact ⟨_, _, _, rfl⟩ | cases h
theorem kIt_ok (R : RecOk rc tb) (c : CtxOk X w F tb cc) (tk : Takes X W) {tg : Expr} (h : kIt rc tb cc tg e t = true) : SI X w F W tg e t := by
  cases t with
  | itv a => exact si_itv c.hK (R.E c tk h)
  | rng1 a =>
    obtain ⟨r, e1, h⟩ := optB_of h
    obtain ⟨p, q, rfl⟩ := asCall1_of e1
    obtain ⟨h, h4⟩ := and_of h
    obtain ⟨h, h3⟩ := and_of h
    obtain ⟨h1, h2⟩ := and_of h
    obtain ⟨b1, b2, b3, b4⟩ := c.bl h2
    rw [of_decide_eq_true h1]
    exact si_rng1 b1 b2 (R.E c tk h4) (noStar_of h3)
  | rng2 a b =>
    obtain ⟨r, e1, h⟩ := optB_of h
    obtain ⟨p, q, rfl⟩ := asCall2_of e1
    obtain ⟨h, h6⟩ := and_of h
    obtain ⟨h, h5⟩ := and_of h
    obtain ⟨h, h4⟩ := and_of h
    obtain ⟨h, h3⟩ := and_of h
    obtain ⟨h1, h2⟩ := and_of h
    obtain ⟨b1, b2, b3, b4⟩ := c.bl h2
    rw [of_decide_eq_true h1]
    exact si_rng2 b1 b2 (R.E c tk h5) (R.E c tk h6) (noStar_of h3) (noStar_of h4)
  | dkit ws =>
    obtain ⟨q, e2, h⟩ := optB_of h
    have e3 := asName_of e2
    obtain ⟨kvs, d, es, n, h4, z1, D, pe⟩ := kDcn_ok (p := q.2) c h
    have h4 := of_decide_eq_true h4
    subst h4
    rw [← e3] at pe
    exact si_dkit c.hK D pe
  | rngd a b =>
    obtain ⟨r, e1, h⟩ := optB_of h
    obtain ⟨p, q, rfl⟩ := asCall3_of e1
    obtain ⟨h, h8⟩ := and_of h
    obtain ⟨h, h7⟩ := and_of h
    obtain ⟨h, h6⟩ := and_of h
    obtain ⟨h, h5⟩ := and_of h
    obtain ⟨h, h4⟩ := and_of h
    obtain ⟨h, h3⟩ := and_of h
    obtain ⟨h1, h2⟩ := and_of h
    obtain ⟨b1, b2, b3, b4⟩ := c.bl h2
    rw [of_decide_eq_true h1]
    exact si_rngd b1 b2 (R.E c tk h6) (R.E c tk h7) (R.E c tk h8) (noStar_of h3) (noStar_of h4) (noStar_of h5)
  | enm k a =>
    obtain ⟨h, h9⟩ := and_of h
    obtain ⟨k0, kt⟩ := and_of h
    have := of_decide_eq_true k0
    subst this
    obtain ⟨es, kk, tp, rfl⟩ := isTupE_of kt
    obtain ⟨r, e1, h⟩ := optB_of h9
    obtain ⟨p, q, rfl⟩ := asCall1_of e1
    obtain ⟨h, h4⟩ := and_of h
    obtain ⟨h, h3⟩ := and_of h
    obtain ⟨h1, h2⟩ := and_of h
    obtain ⟨b1, b2, b3, b4⟩ := c.bl h2
    rw [of_decide_eq_true h1]
    exact si_enum c.hK b1 b2 (R.E c tk h4) (noStar_of h3)
  | zip2 a b =>
    obtain ⟨kt, h9⟩ := and_of h
    obtain ⟨es, kk, tp, rfl⟩ := isTupE_of kt
    obtain ⟨r, e1, h⟩ := optB_of h9
    obtain ⟨p, q, rfl⟩ := asCall2_of e1
    obtain ⟨h, h6⟩ := and_of h
    obtain ⟨h, h5⟩ := and_of h
    obtain ⟨h, h4⟩ := and_of h
    obtain ⟨h, h3⟩ := and_of h
    obtain ⟨h1, h2⟩ := and_of h
    obtain ⟨b1, b2, b3, b4⟩ := c.bl h2
    rw [of_decide_eq_true h1]
    exact si_zip c.hK b1 b2 (R.E c tk h5) (R.E c tk h6) (noStar_of h3) (noStar_of h4)
  | zip3 a b d =>
    obtain ⟨kt, h9⟩ := and_of h
    obtain ⟨es, kk, tp, rfl⟩ := isTupE_of kt
    obtain ⟨r, e1, h⟩ := optB_of h9
    obtain ⟨p, q, rfl⟩ := asCall3_of e1
    obtain ⟨h, h8⟩ := and_of h
    obtain ⟨h, h7⟩ := and_of h
    obtain ⟨h, h6⟩ := and_of h
    obtain ⟨h, h5⟩ := and_of h
    obtain ⟨h, h4⟩ := and_of h
    obtain ⟨h, h3⟩ := and_of h
    obtain ⟨h1, h2⟩ := and_of h
    obtain ⟨b1, b2, b3, b4⟩ := c.bl h2
    rw [of_decide_eq_true h1]
    exact si_zip3 c.hK b1 b2 (R.E c tk h6) (R.E c tk h7) (R.E c tk h8) (noStar_of h3) (noStar_of h4) (noStar_of h5)
  | _ => cases h
theorem kTs_ok (R : RecOk rc tb) (c : CtxOk X w F tb cc) : ∀ {es : List Expr} {t : T}, kTs rc cc es t = true → PTs X es (rdTs w F t)
  | [], t, h => by
    cases t with
    | nil => exact sts_nil
    | _ => cases h
  | [e], t, h => by
    cases t with
    | cons a r =>
      cases r with
      | nil => exact sts_one (R.Tt c takes0 h)
      | _ => cases h
    | _ => cases h
  | _ :: _ :: _, t, h => by
    unfold kTs at h
    cases h
theorem stB_of {it tg : T} (h : stB it tg = true) : sgI it = true ∨ stT tg = false := by
  unfold stB at h
  rw [Bool.or_eq_true, Bool.not_eq_true'] at h
  exact h
theorem kLc_se (R : RecOk rc tb) (c : CtxOk X w F tb cc) (tk : Takes X W) {l : Lc} {o : Bool} {it tg ifs elt : T} {ws : List Nat} (h : kLc rc tb cc l it tg ifs elt ws = true) :
    SE X w F W (.ListComp l.elt [⟨l.tg, l.it, l.ifs, 0⟩] l.sc l.pos) (.cmp1 o it tg ifs elt ws) ∧
    ∀ {i : Nat} {y : Str} {py spos : Pos}, slotB cc i y = true → swB cc y py l.sc l.pos = true → SS X w F W (.Assign [.Name y py] (.ListComp l.elt [⟨l.tg, l.it, l.ifs, 0⟩] l.sc l.pos) spos) (.asg (.tnm i) (.cmp1 o it tg ifs elt ws)) := by
  obtain ⟨h, h6⟩ := and_of h
  obtain ⟨h, h5⟩ := and_of h
  obtain ⟨h, h4⟩ := and_of h
  obtain ⟨h, h3⟩ := and_of h
  obtain ⟨h1, h2⟩ := and_of h
  obtain ⟨hst, h1⟩ := and_of h1
  have hst := stB_of hst
  have bo := c.blkOk h2
  have kd := blkB_kind h2
  have nd : X.N.Nodup := by rw [c.hN]; exact c.nd
  have hg : BlkAll X l.sc fun Y => PG Y l.tg (rdC w F ((ownB cc.N l.sc ws).map (·.2)) tg) := fun s H C cl fp => by rw [ownB_map]; exact R.C (c.blk kd s H C cl fp) h4
  have ht : BlkAll X l.sc fun Y => PTs Y l.ifs (rdTs w F ifs) := fun s H C cl fp => kTs_ok R (c.blk kd s H C cl fp) h5
  have he : BlkAll X l.sc fun Y => SE Y w F W0 l.elt elt := fun s H C cl fp => R.E (c.blk kd s H C cl fp) takes0 h6
  refine ⟨?_, fun {i y py spos} sl sw => ?_⟩
  · have q := se_cmp1 hst (o := o) (pos := l.pos) c.calm nd (kIt_ok R c tk h3) bo hg ht he (noSet_of h1 _)
    rw [ownB_map] at q
    exact q
  · obtain ⟨sw, s3⟩ := and_of sw
    obtain ⟨s1, s2⟩ := and_of sw
    have s1 := of_decide_eq_true s1
    have s1 : X.env.scope.names.lookup y = some .local := by rw [c.nm]; exact s1
    obtain ⟨_, l2, _, _⟩ := c.slot sl
    have q := ss_setcmp1 hst (o := o) (pos := l.pos) (spos := spos) c.calm nd l2 s1 (sw_true c.kd s1 s2 (by simpa using s3)) (kIt_ok R c tk h3) bo hg ht he (noSet_of h1 _)
    rw [ownB_map] at q
    exact q
theorem kScm_se (R : RecOk rc tb) (c : CtxOk X w F tb cc) (tk : Takes X W) {l : Lc} {it tg ifs elt : T} {ws : List Nat} {p p2 : Pos} (h : kLc rc tb cc l it tg ifs elt ws = true) (b1 : Gl X "sorted") (b2 : X.mg "sorted" = none) :
    SE X w F W (.Call (.Name "sorted" p) [.SetComp l.elt [⟨l.tg, l.it, l.ifs, 0⟩] l.sc l.pos] [] p2) (.scm it tg ifs elt ws) := by
  obtain ⟨h, h6⟩ := and_of h
  obtain ⟨h, h5⟩ := and_of h
  obtain ⟨h, h4⟩ := and_of h
  obtain ⟨h, h3⟩ := and_of h
  obtain ⟨h1, h2⟩ := and_of h
  obtain ⟨hst, h1⟩ := and_of h1
  have hst := stB_of hst
  have bo := c.blkOk h2
  have kd := blkB_kind h2
  have nd : X.N.Nodup := by rw [c.hN]; exact c.nd
  have hg : BlkAll X l.sc fun Y => PG Y l.tg (rdC w F ((ownB cc.N l.sc ws).map (·.2)) tg) := fun s H C cl fp => by rw [ownB_map]; exact R.C (c.blk kd s H C cl fp) h4
  have ht : BlkAll X l.sc fun Y => PTs Y l.ifs (rdTs w F ifs) := fun s H C cl fp => kTs_ok R (c.blk kd s H C cl fp) h5
  have he : BlkAll X l.sc fun Y => SE Y w F W0 l.elt elt := fun s H C cl fp => R.E (c.blk kd s H C cl fp) takes0 h6
  have q := se_scm hst (pos := l.pos) (p := p) (p2 := p2) c.calm nd b1 b2 (kIt_ok R c tk h3) bo hg ht he (noSet_of h1 _)
  rw [ownB_map] at q
  exact q
theorem kLc2_se (R : RecOk rc tb) (c : CtxOk X w F tb cc) (tk : Takes X W) {l : Lc2} {o : Bool} {it tg ifs it2 tg2 ifs2 elt : T} {ws ws2 : List Nat} (h : kLc2 rc tb cc l it tg ifs it2 tg2 ifs2 elt ws ws2 = true) :
    SE X w F W (.ListComp l.elt [⟨l.tg, l.it, l.ifs, 0⟩, ⟨l.tg2, l.it2, l.ifs2, 0⟩] l.sc l.pos) (.cmp2 o it tg ifs it2 tg2 ifs2 elt ws ws2) ∧
    ∀ {i : Nat} {y : Str} {py spos : Pos}, slotB cc i y = true → swB cc y py l.sc l.pos = true → SS X w F W (.Assign [.Name y py] (.ListComp l.elt [⟨l.tg, l.it, l.ifs, 0⟩, ⟨l.tg2, l.it2, l.ifs2, 0⟩] l.sc l.pos) spos) (.asg (.tnm i) (.cmp2 o it tg ifs it2 tg2 ifs2 elt ws ws2)) := by
  obtain ⟨h, h11⟩ := and_of h
  obtain ⟨h, h10⟩ := and_of h
  obtain ⟨h, h9⟩ := and_of h
  obtain ⟨h, h8⟩ := and_of h
  obtain ⟨h, h7⟩ := and_of h
  obtain ⟨h, h6⟩ := and_of h
  obtain ⟨h, h5⟩ := and_of h
  obtain ⟨h, h4⟩ := and_of h
  obtain ⟨h, h3⟩ := and_of h
  obtain ⟨h1, h2⟩ := and_of h
  obtain ⟨hst, h1⟩ := and_of h1
  obtain ⟨hst2, h1⟩ := and_of h1
  have hst := stB_of hst
  have hst2 := stB_of hst2
  have bo := c.blkOk h3
  have kd := blkB_kind h3
  have nd : X.N.Nodup := by rw [c.hN]; exact c.nd
  have hv : ∀ i ∈ ws2, i ∈ (ownB cc.N l.sc ws).map (·.2) := fun i hi => by rw [ownB_map]; exact of_decide_eq_true (List.all_eq_true.mp h4 i hi)
  have hg : BlkAll X l.sc fun Y => PG Y l.tg (rdC w F ((ownB cc.N l.sc ws).map (·.2)) tg) := fun s H C cl fp => by rw [ownB_map]; exact R.C (c.blk kd s H C cl fp) h6
  have ht : BlkAll X l.sc fun Y => PTs Y l.ifs (rdTs w F ifs) := fun s H C cl fp => kTs_ok R (c.blk kd s H C cl fp) h7
  have hi1 : BlkAll X l.sc fun Y => SI Y w F W0 l.tg2 l.it2 it2 := fun s H C cl fp => kIt_ok R (c.blk kd s H C cl fp) takes0 h8
  have hg1 : BlkAll X l.sc fun Y => PG Y l.tg2 (rdC w F ws2 tg2) := fun s H C cl fp => R.C (c.blk kd s H C cl fp) h9
  have ht1 : BlkAll X l.sc fun Y => PTs Y l.ifs2 (rdTs w F ifs2) := fun s H C cl fp => kTs_ok R (c.blk kd s H C cl fp) h10
  have he : BlkAll X l.sc fun Y => SE Y w F W0 l.elt elt := fun s H C cl fp => R.E (c.blk kd s H C cl fp) takes0 h11
  refine ⟨?_, fun {i y py spos} sl sw => ?_⟩
  · have q := se_cmp2 hst hst2 (o := o) (pos := l.pos) c.calm nd (kIt_ok R c tk h5) bo hv hg ht hi1 hg1 ht1 he (noSet_of h1 _) (noSet_of h2)
    rw [ownB_map] at q
    exact q
  · obtain ⟨sw, s3⟩ := and_of sw
    obtain ⟨s1, s2⟩ := and_of sw
    have s1 := of_decide_eq_true s1
    have s1 : X.env.scope.names.lookup y = some .local := by rw [c.nm]; exact s1
    obtain ⟨_, l2, _, _⟩ := c.slot sl
    have q := ss_setcmp2 hst hst2 (o := o) (pos := l.pos) (spos := spos) c.calm nd l2 s1 (sw_true c.kd s1 s2 (by simpa using s3)) (kIt_ok R c tk h5) bo hv hg ht hi1 hg1 ht1 he (noSet_of h1 _) (noSet_of h2)
    rw [ownB_map] at q
    exact q
theorem se_nev : SE X w F W e .nil := ⟨fun pins s σ H Q I h => by
  obtain ⟨f, r, G, env, h, P, Xp, S, E, wp, q, qx⟩ := h
  exact wp.elim⟩
theorem ss_nev {s : Stmt} : SS X w F W s .nil := ⟨fun D pins s σ H I h => by
  obtain ⟨f, r, G, env, h, n, k, S, E, wp, q⟩ := h
  exact wp.elim⟩
theorem stepE_ok (R : RecOk rc tb) (c : CtxOk X w F tb cc) (tk : Takes X W) (h : stepE rc tb cc e t = true) : SE X w F W e t := by
  rcases (Bool.or_eq_true _ _).mp h with h | h
  · obtain ⟨r, e1, h⟩ := optB_of h
    rw [asBool_of e1]
    exact kVs_ok R c tk h
  · cases t with
    | nil => exact se_nev
    | var i => exact kVar_ok c h
    | con d => exact kCon_ok h
    | gco g d => exact kGco_ok c h
    | fnv g => exact kFnv_ok c h
    | o1 o a => exact kO1_ok R c tk h
    | o2 o a b =>
      rcases (Bool.or_eq_true _ _).mp h with h | h
      · exact kO2_ok R c tk h
      · exact kJs_ok R c tk h
    | o3 o a b d => exact kO3_ok R c tk h
    | not a =>
      obtain ⟨r, e1, h⟩ := optB_of h
      obtain ⟨p, rfl⟩ := asUn_of e1
      obtain ⟨h1, h2⟩ := and_of h
      rw [of_decide_eq_true h1]
      exact se_not (R.E c tk h2)
    | ite d a b =>
      obtain ⟨r, e1, h⟩ := optB_of h
      obtain ⟨p, rfl⟩ := asIf_of e1
      obtain ⟨h, h3⟩ := and_of h
      obtain ⟨h1, h2⟩ := and_of h
      exact se_ite (R.Tt c tk h1) (R.E c tk h2) (R.E c tk h3)
    | chn o p a b d => exact (kChn_ok R c tk h).1
    | tup es =>
      obtain ⟨r, e1, h⟩ := optB_of h
      obtain ⟨k, p, rfl⟩ := asTup_of e1
      exact se_tup (kAs_ok R c tk h).1
    | lst o es =>
      obtain ⟨r, e1, h⟩ := optB_of h
      obtain ⟨p, rfl⟩ := asLst_of e1
      exact se_lst (kAs_ok R c tk h).1
    | edic =>
      obtain ⟨p, rfl⟩ := isEdic_of h
      exact se_edic
    | dnew k =>
      obtain ⟨p, rfl⟩ := isEdic_of h
      exact se_dnew
    | dget a b => exact kDget_ok R c tk h
    | dget2 a b d => exact kDget2_ok R c tk h
    | fld n o f => exact kFld_ok R c tk h
    | xfl o f => exact kXfl_ok R c tk h
    | mkx n fs args => exact kMkx_ok R c tk h
    | catv a b =>
      obtain ⟨r, e1, h⟩ := optB_of h
      obtain ⟨p, rfl⟩ := asBin_of e1
      obtain ⟨h1, h⟩ := and_of h
      obtain ⟨h2, h3⟩ := and_of h
      rw [of_decide_eq_true h1]
      exact se_catv (R.E c tk h2) (R.E c tk h3)
    | make n g args => exact kMake_ok R c tk h
    | meth n g o args => exact kMeth_ok R c tk h
    | isi a tys =>
      rcases (Bool.or_eq_true _ _).mp h with h | h
      · exact kIsi_ok R c tk h
      · exact kIsb_ok R c tk h
    | dkin ws a => exact (kDkin_ok R c tk h).1
    | dkni ws a => exact (kDkni_ok R c tk h).1
    | eqk d a => exact (kEqk_ok R c tk h).1
    | dkix kvs a => exact kDkix_ok R c tk h
    | dknm kvs a => exact kDknm_ok R c tk h
    | smt m a b => exact kSmt_ok R c tk h
    | callf i fs args => exact kCallf_ok R c tk h
    | call g args => exact kCall_ok R c tk h
    | callk g args kws ord => exact kCallk_ok R c tk h
    | mtd m o args => exact kMut_ok R c tk h
    | own a =>
      rcases (Bool.or_eq_true _ _).mp h with h | h
      · exact kOwn_ok R c tk h
      · exact kOwnS_ok R c tk h
    | ixof tp a b => exact kIxof_ok R c tk h
    | cmp1 o it tg ifs elt ws =>
      obtain ⟨l, e1, h⟩ := optB_of h
      rw [asLc_of e1]
      exact (kLc_se R c tk h).1
    | cmp2 o it tg ifs it2 tg2 ifs2 elt ws ws2 =>
      obtain ⟨l, e1, h⟩ := optB_of h
      rw [asLc2_of e1]
      exact (kLc2_se R c tk h).1
    | scm it tg ifs elt ws =>
      obtain ⟨r, e1, h⟩ := optB_of h
      obtain ⟨p, q, rfl⟩ := asCall1_of e1
      obtain ⟨h, h5⟩ := and_of h
      obtain ⟨h1, h2⟩ := and_of h
      obtain ⟨l, e2, h⟩ := optB_of h5
      rw [of_decide_eq_true h1, asSc_of e2]
      obtain ⟨b1, b2, b3, b4⟩ := c.bl h2
      exact kScm_se R c tk h b1 b2
    | _ => cases h
theorem stepT_ok (R : RecOk rc tb) (c : CtxOk X w F tb cc) (tk : Takes X W) (h : stepT rc cc tb e t = true) : ST X w F W e t := by
  rcases (Bool.or_eq_true _ _).mp h with h | h
  · rcases (Bool.or_eq_true _ _).mp h with h | h
    · obtain ⟨r, e1, h⟩ := optB_of h
      rw [asBool_of e1]
      exact st_w (kWs_ok R c tk h)
    · obtain ⟨h1, h2⟩ := and_of h
      exact st_val (R.E c tk h2) (plainTest_of h1 _)
  · cases t with
    | not a =>
      obtain ⟨r, e1, h⟩ := optB_of h
      obtain ⟨p, rfl⟩ := asUn_of e1
      obtain ⟨h1, h2⟩ := and_of h
      rw [of_decide_eq_true h1]
      exact st_not (R.Tt c tk h2)
    | o2 o a b =>
      obtain ⟨r, e1, h⟩ := optB_of h
      obtain ⟨p, rfl⟩ := asCmp1_of e1
      obtain ⟨h, h4⟩ := and_of h
      obtain ⟨h, h3⟩ := and_of h
      obtain ⟨h1, h2⟩ := and_of h
      have h1 := of_decide_eq_true h1
      rw [← h1]
      exact st_cmp (cmp_ok c _) (R.E c tk h3) (R.E c tk h4) (marks_of h2)
    | dkin ws a => exact (kDkin_ok R c tk h).2
    | dkni ws a => exact (kDkni_ok R c tk h).2
    | eqk d a => exact (kEqk_ok R c tk h).2
    | chn o p a b d => exact (kChn_ok R c tk h).2
    | _ => cases h
theorem kGs_ok (R : RecOk rc tb) (c : CtxOk X w F tb cc) : ∀ {es : List Expr} {t : T}, kGs rc cc es t = true → SGs X w F es t ∧ ∀ y ∈ es, ∀ x p, y ≠ .Starred x p
  | [], t, h => by
    cases t with
    | nil => exact ⟨sgs_nil, by simp⟩
    | _ => cases h
  | e :: es, t, h => by
    cases t with
    | cons a r =>
      obtain ⟨h, h3⟩ := and_of h
      obtain ⟨h1, h2⟩ := and_of h
      obtain ⟨i1, i2⟩ := kGs_ok R c h3
      refine ⟨sgs_cons (R.G c h2) i1 (noStar_of h1), fun y hy => ?_⟩
      rcases List.mem_cons.mp hy with rfl | hy
      · exact noStar_of h1
      · exact i2 y hy
    | _ => cases h
theorem sgs_star {e : Expr} {es : List Expr} {p : Pos} {t1 t2 : T} (h1 : SG X w F e t1) (h2 : SGs X w F es t2) : SGs X w F (.Starred e p :: es) (.cons t1 t2) := by
  refine ⟨fun pins s σ H vs us Q I r h => ?_⟩
  obtain ⟨f, r0, G, env, h, vs', P, S, E, rv, wp, q⟩ := h
  cases vs' with
  | nil => exact wp.elim
  | cons v vs' =>
    obtain ⟨u, us', rfl, ru, rr⟩ := rv
    cases r with
    | cons ra rb =>
      have e0 : (assignEach (.Starred e p :: es) X.env).map (·.2) = assign e X.env :: (assignEach es X.env).map (·.2) := rfl
      rw [e0]
      refine assignInOrder_cons (thn (h1.run pins s σ H u _ (fun σ1 H1 => rdGs w F t2 us' σ1 H1 Q) I ra ⟨f, r0, G, env, h, v, _, S, E, RvX.of ru, wp, fun env1 h1 s1 r1 G1 H1 w1 e1 S1 E1 => ⟨f, r1, G1, env1, h1, vs', P, S1, E1, RvAll.mono e1 _ _ rr, w1, q.mono e1⟩⟩) fun _ s1 ⟨σ1, H1, I1, q1⟩ => ?_)
      exact h2.run pins s1 σ1 H1 us' _ Q I1 rb q1
theorem kStar_ok (R : RecOk rc tb) (c : CtxOk X w F tb cc) : ∀ {i : Nat} {es : List Expr} {t : T}, kStar rc cc i es t = true →
    SGs X w F es t ∧ tlen t = es.length ∧ (assignEach es X.env).length = es.length ∧ (assignEach es X.env).findIdx? (·.1) = some i
  | 0, es, t, h => by
    unfold kStar at h
    split at h
    · obtain ⟨h1, h2⟩ := and_of h
      obtain ⟨i1, i2⟩ := kGs_ok R c h2
      rename_i e p es a r _
      have ln : ∀ {es : List Expr} {r : T}, kGs rc cc es r = true → tlen r = es.length := by
        intro es
        induction es with
        | nil => intro r h; cases r <;> first | rfl | cases h
        | cons e es ih =>
          intro r h
          cases r with
          | cons a r => show tlen r + 1 = es.length + 1; rw [ih (and_of h).2]
          | _ => cases h
      refine ⟨sgs_star (R.G c h1) i1, by show tlen r + 1 = es.length + 1; rw [ln h2], by show (assignEach es X.env).length + 1 = es.length + 1; rw [(assignEach_ok (env := X.env) i2).1], ?_⟩
      show List.findIdx? (·.1) ((true, assign e X.env) :: assignEach es X.env) = some 0
      rw [List.findIdx?_cons]
      rfl
    · rename_i h0
      exact nomatch h0
    · cases h
  | n + 1, es, t, h => by
    unfold kStar at h
    split at h
    · rename_i h0; cases h0
    · rename_i m e es a r hm
      cases hm
      obtain ⟨h, h3⟩ := and_of h
      obtain ⟨h1, h2⟩ := and_of h
      obtain ⟨i1, i2, i3, i4⟩ := kStar_ok R c h3
      have ns := noStar_of h1
      refine ⟨sgs_cons (R.G c h2) i1 ns, by show tlen r + 1 = es.length + 1; rw [i2], by rw [nostarA ns]; show (assignEach es X.env).length + 1 = es.length + 1; rw [i3], ?_⟩
      rw [nostarA ns, List.findIdx?_cons, i4]
      rfl
    · cases h
theorem stepG_ok (R : RecOk rc tb) (c : CtxOk X w F tb cc) (h : stepG rc cc e t = true) : SG X w F e t := by
  cases t with
  | tnm i =>
    obtain ⟨r, e1, h⟩ := optB_of h
    rw [asName_of e1]
    obtain ⟨a, b, d, f⟩ := c.slot h
    exact sg_name a b d f
  | tst i ts =>
    obtain ⟨r, e1, h⟩ := optB_of h
    obtain ⟨k, p, rfl⟩ := asTup_of e1
    obtain ⟨i1, i2, i3, i4⟩ := kStar_ok R c h
    exact sg_star c.hK c.calm i1 i2 i3 i4
  | ttp ts =>
    obtain ⟨r, e1, h⟩ := optB_of h
    obtain ⟨k, p, rfl⟩ := asTup_of e1
    obtain ⟨h1, h2⟩ := and_of h
    obtain ⟨i1, i2⟩ := kGs_ok R c h2
    exact sg_tup c.hK c.calm i1 i2 (of_decide_eq_true h1)
  | tsl o i j =>
    obtain ⟨r, e1, h⟩ := optB_of h
    obtain ⟨p, rfl⟩ := asSub_of e1
    obtain ⟨q, e2, h⟩ := optB_of h
    obtain ⟨b, e3, h⟩ := optB_of h
    obtain ⟨d, e4, h⟩ := optB_of h
    obtain ⟨p2, ec⟩ := asCut_of e2
    obtain ⟨h, h3⟩ := and_of h
    obtain ⟨h1, h2⟩ := and_of h
    rw [ec, e3, e4]
    exact sg_tsl c.hK (R.E c takes0 h1) (R.E c takes0 h2) (R.E c takes0 h3)
  | tsb o i =>
    obtain ⟨r, e1, h⟩ := optB_of h
    obtain ⟨p, rfl⟩ := asSub_of e1
    obtain ⟨h, h3⟩ := and_of h
    obtain ⟨h1, h2⟩ := and_of h
    exact sg_sub (p_set c.un) (R.E c takes0 h2) (R.E c takes0 h3) (noSlice_of h1)
  | _ => cases h
theorem kCs_ok (R : RecOk rc tb) (c : CtxOk X w F tb cc) {ws : List Nat} : ∀ {es : List Expr} {t : T}, kCs rc cc ws es t = true → PGs X es (rdCs w F ws t) ∧ ∀ y ∈ es, ∀ x p, y ≠ .Starred x p
  | [], t, h => by
    cases t with
    | nil => exact ⟨scs_nil, by simp⟩
    | _ => cases h
  | e :: es, t, h => by
    cases t with
    | cons a r =>
      obtain ⟨h, h3⟩ := and_of h
      obtain ⟨h1, h2⟩ := and_of h
      obtain ⟨i1, i2⟩ := kCs_ok R c h3
      refine ⟨scs_cons (R.C c h2) i1 (noStar_of h1), fun y hy => ?_⟩
      rcases List.mem_cons.mp hy with rfl | hy
      · exact noStar_of h1
      · exact i2 y hy
    | _ => cases h
theorem stepC_ok (R : RecOk rc tb) (c : CtxOk X w F tb cc) {ws : List Nat} (h : stepC rc cc ws e t = true) : PG X e (rdC w F ws t) := by
  cases t with
  | tnm i =>
    obtain ⟨r, e1, h⟩ := optB_of h
    rw [asName_of e1]
    obtain ⟨h1, h2⟩ := and_of h
    obtain ⟨a, b, d, f⟩ := c.slot h1
    exact sc_name a b d f (of_decide_eq_true h2)
  | ttp ts =>
    obtain ⟨r, e1, h⟩ := optB_of h
    obtain ⟨k, p, rfl⟩ := asTup_of e1
    obtain ⟨h1, h2⟩ := and_of h
    obtain ⟨i1, i2⟩ := kCs_ok R c h2
    exact sc_tup c.hK c.calm i1 i2 (of_decide_eq_true h1)
  | _ => cases h
theorem sw_no {x : Str} {py : Pos} {l : Nat} (hk : X.env.scope.names.lookup x ≠ some .local) : swapsWith e (some (.Name x py)) l X.env = pure false := by
  have hk : (X.env.kindOf x == some .local) = false := by
    rw [beq_eq_false_iff_ne]
    exact hk
  unfold swapsWith
  cases e <;> first | rfl | (simp only [hk]; simp)
theorem swap_attr {o : Expr} {y : Str} {p : Pos} {l : Nat} {env : PySem.Env} : swapsWith e (some (.Attribute o y p)) l env = pure false := by cases e <;> rfl
theorem kDc2_ss (R : RecOk rc tb) (c : CtxOk X w F tb cc) (tk : Takes X W) {l : Dc2P} {a : T} {i j : Nat} {ws ws2 : List Nat} (h : kDc2 rc tb cc l a i j ws ws2 = true) {k : Nat} {y : Str} {py spos : Pos} (sl : slotB cc k y = true) (sw : swB cc y py l.sc l.pos = true) :
    SS X w F W (.Assign [.Name y py] (dcE l.kx l.vx l.t0 l.i0 l.t1 l.i1 l.sc l.pos) spos) (.asg (.tnm k) (.dpt a i j ws ws2)) := by
  obtain ⟨h, h10⟩ := and_of h
  obtain ⟨h, h9⟩ := and_of h
  obtain ⟨h, h8⟩ := and_of h
  obtain ⟨h, h7⟩ := and_of h
  obtain ⟨h, h6⟩ := and_of h
  obtain ⟨h, h5⟩ := and_of h
  obtain ⟨h, h4⟩ := and_of h
  obtain ⟨h, h3⟩ := and_of h
  obtain ⟨h1, h2⟩ := and_of h
  have bo := c.blkOk h3
  have kd := blkB_kind h3
  have nd : X.N.Nodup := by rw [c.hN]; exact c.nd
  have hv : ∀ i ∈ ws2, i ∈ (ownB cc.N l.sc ws).map (·.2) := fun i hi => by rw [ownB_map]; exact of_decide_eq_true (List.all_eq_true.mp h4 i hi)
  have hg : BlkAll X l.sc fun Y => PG Y l.t0 (rdC w F ((ownB cc.N l.sc ws).map (·.2)) (.tnm i)) := fun s H C cl fp => by rw [ownB_map]; exact R.C (c.blk kd s H C cl fp) h6
  have hi1 : BlkAll X l.sc fun Y => SI Y w F W0 l.t1 l.i1 (.itv (.var i)) := fun s H C cl fp => kIt_ok R (c.blk kd s H C cl fp) takes0 h7
  have hg1 : BlkAll X l.sc fun Y => PG Y l.t1 (rdC w F ws2 (.tnm j)) := fun s H C cl fp => R.C (c.blk kd s H C cl fp) h8
  have hk : BlkAll X l.sc fun Y => SE Y w F W0 l.kx (.var j) := fun s H C cl fp => R.E (c.blk kd s H C cl fp) takes0 h9
  have he : BlkAll X l.sc fun Y => SE Y w F W0 l.vx (.con (.bool true)) := fun s H C cl fp => R.E (c.blk kd s H C cl fp) takes0 h10
  obtain ⟨sw, s3⟩ := and_of sw
  obtain ⟨s1, s2⟩ := and_of sw
  have s1 := of_decide_eq_true s1
  have s1 : X.env.scope.names.lookup y = some .local := by rw [c.nm]; exact s1
  obtain ⟨_, l2, _, _⟩ := c.slot sl
  have q := ss_setdpt (spos := spos) c.calm nd l2 s1 (sw_dict c.kd s1 s2 (by simpa using s3)) (kIt_ok R c tk h5) bo hv hg hi1 hg1 hk he (noSet_of h1 _) (noSet_of h2)
  rw [ownB_map] at q
  exact q
theorem kAsgN_ok (R : RecOk rc tb) (c : CtxOk X w F tb cc) (tk : Takes X W) {te : Expr} {tg : T} {pos : Pos} (h : (((noComp e || !isName te) && noSwap te e && noStar te && rc.E cc e t && rc.G cc te tg) || kAsg1 rc tb cc te e tg t || kAsg2 rc cc te e tg t) = true) : SS X w F W (.Assign [te] e pos) (.asg tg t) := by
  rcases (Bool.or_eq_true _ _).mp h with h | h
  · rcases (Bool.or_eq_true _ _).mp h with h | h
    · obtain ⟨h, h5⟩ := and_of h
      obtain ⟨h, h4⟩ := and_of h
      obtain ⟨h, h3⟩ := and_of h
      obtain ⟨h1, h2⟩ := and_of h
      exact ss_asg (R.E c tk h4) (R.G c h5) (swap_of h1 _ _) (noSwap_of h2 _) (noStar_of h3)
    · unfold kAsg1 at h
      split at h
      · obtain ⟨r, e1, h⟩ := optB_of h
        obtain ⟨l, e2, h⟩ := optB_of h
        rw [asName_of e1, asDc2_of e2]
        obtain ⟨h, h3⟩ := and_of h
        obtain ⟨h1, h2⟩ := and_of h
        exact kDc2_ss R c tk h3 h1 h2
      · obtain ⟨r, e1, h⟩ := optB_of h
        obtain ⟨l, e2, h⟩ := optB_of h
        rw [asName_of e1, asLc_of e2]
        obtain ⟨h, h3⟩ := and_of h
        obtain ⟨h1, h2⟩ := and_of h
        exact (kLc_se R c tk h3).2 h1 h2
      · obtain ⟨r, e1, h⟩ := optB_of h
        obtain ⟨l, e2, h⟩ := optB_of h
        rw [asName_of e1, asLc2_of e2]
        obtain ⟨h, h3⟩ := and_of h
        obtain ⟨h1, h2⟩ := and_of h
        exact (kLc2_se R c tk h3).2 h1 h2
      · cases h
  · unfold kAsg2 at h
    split at h
    · obtain ⟨r, e1, h⟩ := optB_of h
      rw [asName_of e1]
      obtain ⟨h, h3⟩ := and_of h
      obtain ⟨h1, h2⟩ := and_of h
      obtain ⟨a, b, d, f⟩ := c.slot h1
      exact ss_set a b d (R.E c tk h3) (sw_no (by rw [c.nm]; exact of_decide_eq_true h2)) f
    · cases h
theorem noStar_any {a b : Expr} (ha : noStar a = true) (hb : noStar b = true) : ([a, b].any fun | .Starred .. => true | _ => false) = false := by
  cases a <;> first | exact absurd ha Bool.false_ne_true | (cases b <;> first | exact absurd hb Bool.false_ne_true | rfl)
theorem par_ok (c : CtxOk X w F tb cc) {x y : Str} {px py pt pt2 : Pos} {kt k2 : Nat} {a b : Expr} (h : parB cc x y px py a b = true) (ha : noStar a = true) (hb : noStar b = true) :
    swappedStores [.Tuple [.Name x px, .Name y py] kt pt] (.Tuple [a, b] k2 pt2) X.env = pure (some [x, y]) := by
  obtain ⟨h, h6⟩ := and_of h
  obtain ⟨h, h5⟩ := and_of h
  obtain ⟨h, h4⟩ := and_of h
  obtain ⟨h, h3⟩ := and_of h
  obtain ⟨h1, h2⟩ := and_of h
  have h1 := of_decide_eq_true h1
  have h2 := of_decide_eq_true h2
  have kx : X.env.kindOf x = some .local := by show X.env.scope.names.lookup x = _; rw [c.nm]; exact h1
  have ky : X.env.kindOf y = some .local := by show X.env.scope.names.lookup y = _; rw [c.nm]; exact h2
  have bk : X.env.blockKind = .function := by unfold PySem.Env.blockKind; rw [c.kd]; rfl
  have h5 : [a, b].all (foldedForSure 8) = false := by cases e : [a, b].all (foldedForSure 8) with | true => rw [e] at h5; cases h5 | false => rfl
  have h6 : [a, b].all (constantsAlone 8) = false := by cases e : [a, b].all (constantsAlone 8) with | true => rw [e] at h6; cases h6 | false => rfl
  have hxy : (x == y) = false := by simpa using h4
  have hl : (py.line == px.line) = true := by rw [beq_iff_eq]; exact (beq_iff_eq.mp h3).symm
  have hne : x ≠ y := fun z => by rw [z, beq_self_eq_true] at hxy; cases hxy
  unfold swappedStores
  simp only [bk, h5, h6]
  refine Eq.trans (if_neg Bool.false_ne_true) ?_
  refine Eq.trans (if_neg ?_) ?_
  · clear h5 h6 h1 h2 kx ky hl hxy hne
    cases a <;> first | exact absurd ha Bool.false_ne_true | (cases b <;> first | exact absurd hb Bool.false_ne_true | exact Bool.false_ne_true)
  have l1 : (Option.map (fun e : Expr => e.pos.line) [Expr.Name x px, Expr.Name y py].head?).getD 0 = px.line := rfl
  simp only [l1, List.filterMap_cons, List.filterMap_nil, kx, ky, hl, beq_self_eq_true, Bool.and_self, if_true]
  have hd : [x, y].eraseDups = [x, y] := by
    rw [List.eraseDups_cons]
    have : [y].filter (fun z => !z == x) = [y] := by
      rw [List.filter_cons_of_pos]
      · rfl
      · have : (y == x) = false := by rw [beq_eq_false_iff_ne]; exact fun z => hne z.symm
        simp [this]
    rw [this]
    rfl
  rw [hd]
  refine Eq.trans (if_neg Bool.false_ne_true) ?_
  rfl
theorem kAsg_ok (R : RecOk rc tb) (c : CtxOk X w F tb cc) (tk : Takes X W) {te : Expr} {tg : T} {pos : Pos} (h : kAsg rc tb cc te e tg t = true) : SS X w F W (.Assign [te] e pos) (.asg tg t) := by
  have h : (kAsg4 rc cc te e tg t || (((noComp e || !isName te) && noSwap te e && noStar te && rc.E cc e t && rc.G cc te tg) || kAsg1 rc tb cc te e tg t || kAsg2 rc cc te e tg t) || kAsg3 rc tb cc te e tg t) = true := by
    have h : (kAsg4 rc cc te e tg t || ((noComp e || !isName te) && noSwap te e && noStar te && rc.E cc e t && rc.G cc te tg) || kAsg1 rc tb cc te e tg t || kAsg2 rc cc te e tg t || kAsg3 rc tb cc te e tg t) = true := h
    rw [← h]
    simp only [Bool.or_assoc]
  rcases (Bool.or_eq_true _ _).mp h with h | h
  · rcases (Bool.or_eq_true _ _).mp h with h | h
    · unfold kAsg4 at h
      split at h
      · obtain ⟨r, e1, h⟩ := optB_of h
        obtain ⟨q, e2, h⟩ := optB_of h
        obtain ⟨k1, p1, rfl⟩ := asPar_of e1
        obtain ⟨k2, p2, rfl⟩ := asTup2_of e2
        obtain ⟨h, h5⟩ := and_of h
        obtain ⟨h, h4⟩ := and_of h
        obtain ⟨h, h3⟩ := and_of h
        obtain ⟨h1, h2⟩ := and_of h
        have i1 := (kAs_ok R c tk h5).1
        have n1 : noStar q.1 = true ∧ noStar q.2 = true := by
          obtain ⟨g, g3⟩ := and_of h5
          obtain ⟨g1, _⟩ := and_of g
          obtain ⟨g, _⟩ := and_of g3
          obtain ⟨g2, _⟩ := and_of g
          exact ⟨g1, g2⟩
        have pr := par_ok (pt := p1) (pt2 := p2) (kt := k1) (k2 := k2) c h4 n1.1 n1.2
        obtain ⟨g, _⟩ := and_of h4
        obtain ⟨g, _⟩ := and_of g
        obtain ⟨g, _⟩ := and_of g
        obtain ⟨g, _⟩ := and_of g
        obtain ⟨g1, g2⟩ := and_of g
        exact ss_par c.calm (by rw [c.hN]; exact c.nd) (by rw [c.hN]; exact of_decide_eq_true h2) (by rw [c.hN]; exact of_decide_eq_true h3) (of_decide_eq_true h1) (by rw [c.nm]; exact of_decide_eq_true g1) (by rw [c.nm]; exact of_decide_eq_true g2) i1 pr
      · cases h
    · exact kAsgN_ok R c tk h
  · unfold kAsg3 at h
    split at h
    · rename_i n o f _ _
      obtain ⟨r, e1, h⟩ := optB_of h
      obtain ⟨p, rfl⟩ := asAttr_of e1
      obtain ⟨h, h5⟩ := and_of h
      obtain ⟨h, h4⟩ := and_of h
      obtain ⟨h2, h3⟩ := and_of h
      obtain ⟨k, hk, h⟩ := List.any_eq_true.mp h3
      obtain ⟨k1, k2⟩ := and_of h
      have k1 := of_decide_eq_true k1
      have K := c.kls k hk
      have e0 := c.ats f r.2 (of_decide_eq_true h2)
      have fs := K.fs f (of_decide_eq_true k2)
      have cl := K.cls
      rw [k1] at fs cl
      exact ss_fld c.hK cl fs e0 (R.E c tk h4) (R.E c takes0 h5) swap_attr
    · cases h
theorem stepS_ok (R : RecOk rc tb) (c : CtxOk X w F tb cc) (tk : Takes X W) (hp : PassesOwn (model X.prog X.w) X.A X.env X.xe) {s : Stmt} (h : stepS rc tb cc s t = true) : SS X w F W s t := by
  cases t with
  | nil => exact ss_nev
  | exp a =>
    obtain ⟨r, e1, h⟩ := optB_of h
    obtain ⟨p, rfl⟩ := asExp_of e1
    obtain ⟨h1, h2⟩ := and_of h
    exact ss_exp (R.E c tk h2) (noComp_of h1 _ _ _)
  | asg tg a =>
    obtain ⟨r, e1, h⟩ := optB_of h
    obtain ⟨p, rfl⟩ := asAsg_of e1
    exact kAsg_ok R c tk h
  | augn o i a =>
    obtain ⟨r, e1, h⟩ := optB_of h
    obtain ⟨p, rfl⟩ := asAug_of e1
    obtain ⟨q, e2, h⟩ := optB_of h
    rw [asName_of e2]
    obtain ⟨h, h3⟩ := and_of h
    obtain ⟨h1, h2⟩ := and_of h
    obtain ⟨a, b, d, f⟩ := c.slot h2
    exact ss_augn a b d (R.E c tk h3) (aug_ok (of_decide_eq_true h1)) f
  | augs o e j a =>
    obtain ⟨r, e1, h⟩ := optB_of h
    obtain ⟨p, rfl⟩ := asAug_of e1
    obtain ⟨q, e2, h⟩ := optB_of h
    obtain ⟨p2, e3⟩ := asSub_of e2
    rw [e3]
    obtain ⟨h, h5⟩ := and_of h
    obtain ⟨h, h4⟩ := and_of h
    obtain ⟨h, h3⟩ := and_of h
    obtain ⟨h1, h2⟩ := and_of h
    exact ss_augs (p_set c.un) (p_get c.un c.hK) (aug_ok (of_decide_eq_true h1)) (R.E c tk h3) (R.E c tk h4) (R.E c tk h5) (noSlice_of h2)
  | asg2 g1 g2 a =>
    obtain ⟨r, e1, h⟩ := optB_of h
    obtain ⟨a1, b1, p1, a2, b2, p2, p0, er, es⟩ := asAsg2_of e1
    rw [es]
    obtain ⟨h, h3⟩ := and_of h
    obtain ⟨h1, h2⟩ := and_of h
    rw [er] at h2 h3
    exact ss_asg2 (R.E c tk h1) (R.G c h2) (R.G c h3)
  | ifs d a b =>
    obtain ⟨r, e1, h⟩ := optB_of h
    obtain ⟨p, rfl⟩ := asIfS_of e1
    obtain ⟨h, h3⟩ := and_of h
    obtain ⟨h1, h2⟩ := and_of h
    exact ss_if (R.Tt c tk h1) (R.Ss c tk hp h2) (R.Ss c tk hp h3)
  | for_ tg it body =>
    obtain ⟨r, e1, h⟩ := optB_of h
    obtain ⟨p, rfl⟩ := asFor_of e1
    obtain ⟨h, h4⟩ := and_of h
    obtain ⟨h, h3⟩ := and_of h
    obtain ⟨h1, h2⟩ := and_of h
    obtain ⟨hst, h1⟩ := and_of h1
    exact ss_for (stB_of hst) hp c.calm (kIt_ok R c tk h2) (R.G c h3) (R.Ss c tk hp h4) (noSet_of h1 _)
  | whl d body =>
    obtain ⟨r, e1, h⟩ := optB_of h
    obtain ⟨p, rfl⟩ := asWhl_of e1
    obtain ⟨h1, h2⟩ := and_of h
    exact ss_whl hp (R.Tt c tk h1) (R.Ss c tk hp h2)
  | ret a =>
    obtain ⟨r, e1, h⟩ := optB_of h
    obtain ⟨p, rfl⟩ := asRet_of e1
    obtain ⟨e, e2, h⟩ := optB_of h
    rw [e2]
    exact ss_ret (R.E c tk h)
  | ret0 =>
    obtain ⟨r, e1, h⟩ := optB_of h
    obtain ⟨p, rfl⟩ := asRet_of e1
    rw [isNone_of h]
    exact ss_ret0
  | brk => obtain ⟨p, rfl⟩ := isBrk_of h; exact ss_brk
  | cnt => obtain ⟨p, rfl⟩ := isCnt_of h; exact ss_cnt
  | pas => obtain ⟨p, rfl⟩ := isPas_of h; exact ss_pass
  | raf n fs args =>
    have h : kRaf rc tb cc n fs s args = true := h
    unfold kRaf at h
    split at h
    · rename_i f t
      obtain ⟨r, e1, h⟩ := optB_of h
      obtain ⟨p, p3, p4, es⟩ := asRaf_of e1
      rw [es]
      obtain ⟨h, h4⟩ := and_of h
      obtain ⟨h, h3⟩ := and_of h
      obtain ⟨h1, h2⟩ := and_of h
      obtain ⟨g1, g2⟩ := c.gl h1
      obtain ⟨q, hq, h2⟩ := List.any_eq_true.mp h2
      obtain ⟨h2, k3⟩ := and_of h2
      obtain ⟨k1, k2⟩ := and_of h2
      obtain ⟨m1, m2, hx, fI, fd, ps, XI, iC, tI, bd, fo⟩ := c.xs.xfs q hq
      rw [of_decide_eq_true k1] at m1 m2 XI iC fo
      rw [of_decide_eq_true k2] at m2
      rw [of_decide_eq_true k3] at XI fo
      exact ss_raf c.hK c.calm tk m1 XI iC tI (fo _ _ _ 0) c.rm2 bd g1 m2 g2 (R.E c tk h4) (noStar_of h3)
    · cases h
  | rai n =>
    obtain ⟨x, e1, h⟩ := optB_of h
    obtain ⟨p, m, j, p2, p3, p4, es⟩ := asRai_of e1
    rw [es]
    obtain ⟨h1, h2⟩ := and_of h
    obtain ⟨k, hk, h⟩ := List.any_eq_true.mp h2
    obtain ⟨h, k3⟩ := and_of h
    obtain ⟨k1, k2⟩ := and_of h
    obtain ⟨g1, g2⟩ := c.gl h1
    obtain ⟨x1, x2, x3⟩ := c.xs.xcs k hk
    obtain ⟨y1, y2, y3, y4⟩ := x3 k3
    rw [of_decide_eq_true k1] at x1 x2 y1 y2 y3 y4
    rw [of_decide_eq_true k2] at x2
    exact ss_rai c.hK c.calm tk x1 y1 x2 y2 y3 y4 g1 g2
  | try_ b i y =>
    obtain ⟨r, e1, hh⟩ := optB_of h
    clear h
    have h := hh
    clear hh
    obtain ⟨np, mp, vp, ap, hp', pos, es⟩ := asTry_of e1
    rw [es]
    obtain ⟨h, h9⟩ := and_of h
    obtain ⟨h, h8⟩ := and_of h
    obtain ⟨h, h7⟩ := and_of h
    obtain ⟨h, h6⟩ := and_of h
    obtain ⟨h, h5⟩ := and_of h
    obtain ⟨h, h4⟩ := and_of h
    obtain ⟨h, h3⟩ := and_of h
    obtain ⟨h1, h2⟩ := and_of h
    have h3 := of_decide_eq_true h3
    obtain ⟨t1, t2, t3⟩ := c.top (isNone_of h1)
    obtain ⟨g1, g2⟩ := c.gl h2
    obtain ⟨s1, s2, s3, s4⟩ := c.slot h8
    have xo : XcOk w := by
      rcases c.xs.xo with z | z
      · rw [z] at h3; exact absurd h3 List.not_mem_nil
      · exact z
    exact ss_try c.hK xo t1 t2 t3 s1 (by rw [c.hN]; exact of_decide_eq_true h4) (by show X.env.scope.names.lookup _ = _; rw [c.nm]; exact of_decide_eq_true h5) ⟨g1, g2, .inl (c.xs.hue _ h3)⟩ s2 s3 s4 (by simpa using h6) (by simpa using h7) fun W' pn xe tk' hp2 => R.Ss (c.tr pn xe) tk' hp2 h9
  | _ => cases h
theorem stepSs_ok (R : RecOk rc tb) (c : CtxOk X w F tb cc) (tk : Takes X W) (hp : PassesOwn (model X.prog X.w) X.A X.env X.xe) : ∀ (t : T) {ss : List Stmt}, stepSs rc tb cc t ss = true → SSs X w F W ss t := by
  intro t
  induction t with
  | nil =>
    intro ss h
    have : ss = [] := List.isEmpty_iff.mp h
    subst this
    exact sss_nil
  | cons a r _ ih =>
    intro ss h
    cases a with
    | kill ks => exact sss_kill (ih h)
    | frz k => exact sss_frz (ih h)
    | _ =>
      cases ss with
      | nil => cases h
      | cons s ss =>
        obtain ⟨h1, h2⟩ := and_of h
        exact sss_cons (stepS_ok R c tk hp h1) (ih h2)
  | _ => intro ss h; cases h
end
theorem chk_ok (tb : Tb) : ∀ n, RecOk (chk tb n) tb
  | 0 => ⟨fun _ _ h => Bool.noConfusion h, fun _ _ h => Bool.noConfusion h, fun _ h => Bool.noConfusion h, fun _ h => Bool.noConfusion h, fun _ _ _ h => Bool.noConfusion h⟩
  | n + 1 => ⟨fun c tk h => stepE_ok (chk_ok tb n) c tk h, fun c tk h => stepT_ok (chk_ok tb n) c tk h, fun c h => stepG_ok (chk_ok tb n) c h, fun c h => stepC_ok (chk_ok tb n) c h, fun c tk hp h => stepSs_ok (chk_ok tb n) c tk hp _ h⟩
end Hb

/-! ISO: a def that is called by itself: it sees the cells that it is told, and no others. -/
namespace Hb
open PySem PySem.Spec PyProof.Rows
open L2 hiding V Hp St
set_option autoImplicit false
section
variable {w : Wo} {f : L2.Hp} {r : List Addr} {G H : L2.Hp} {h : Hp}
/-- the addresses of the cells that are told -/
def adsOf (r : List Addr) (cs : List Nat) : List Addr := cs.map fun n => r.getD n 0
/-- what of the caller must stay: its frame, its other living cells, and what instances own -/
def ownH (H : L2.Hp) (a : Addr) : Bool := match H a with
  | some (.own _) => true
  | _ => false
theorem ownH_of {a : Addr} : ownH H a = true ↔ ∃ b, H a = some (.own b) := by
  unfold ownH
  constructor
  · intro e
    split at e
    · exact ⟨_, by assumption⟩
    · cases e
  · rintro ⟨b, e⟩
    rw [e]
def isoF (f : L2.Hp) (r : List Addr) (h : Hp) (cs : List Nat) (G H : L2.Hp) : L2.Hp := fun a => match f a with
  | some o => some o
  | none => if (a ∈ r ∧ a ∉ adsOf r cs ∧ G a = none) ∨ ownH H a = true then H a else none
theorem isoF_of {cs : List Nat} {a : Addr} {o : HO} (e : isoF f r h cs G H a = some o) : f a = some o ∨ (H a = some o ∧ ((a ∈ r ∧ a ∉ adsOf r cs ∧ G a = none) ∨ ∃ b, H a = some (.own b))) := by
  unfold isoF at e
  cases ef : f a with
  | some q => rw [ef] at e; exact .inl e
  | none =>
    rw [ef] at e
    by_cases hc : (a ∈ r ∧ a ∉ adsOf r cs ∧ G a = none) ∨ ownH H a = true
    · simp only [if_pos hc] at e; exact .inr ⟨e, hc.imp id ownH_of.mp⟩
    · simp only [if_neg hc] at e; cases e
theorem isoF_at {cs : List Nat} {a : Addr} (ef : f a = none) (hc : (a ∈ r ∧ a ∉ adsOf r cs ∧ G a = none) ∨ ∃ b, H a = some (.own b)) : isoF f r h cs G H a = H a := by
  have hc : (a ∈ r ∧ a ∉ adsOf r cs ∧ G a = none) ∨ ownH H a = true := hc.imp id ownH_of.mpr
  unfold isoF
  rw [ef]
  simp only [if_pos hc]
theorem isoF_f {cs : List Nat} {a : Addr} {o : HO} (ef : f a = some o) : isoF f r h cs G H a = some o := by
  unfold isoF
  rw [ef]
theorem isoF_nf {cs : List Nat} {a : Addr} (e : isoF f r h cs G H a = none) : f a = none := by
  cases ef : f a with
  | none => rfl
  | some q => rw [isoF_f ef] at e; cases e
theorem isoIn_get : ∀ {cs : List Nat} {h0 : Hp}, isoIn h cs = some h0 → cs.length = h0.length ∧ ∀ (k : Nat) n, cs[k]? = some n → ∃ o, h[n]? = some o ∧ plain o = true ∧ h0[k]? = some o
  | [], h0, e => by cases e; exact ⟨rfl, fun k n e => by simp at e⟩
  | n :: cs, h0, e => by
    unfold isoIn at e
    cases eo : h[n]? with
    | none => simp only [eo] at e; cases e
    | some o =>
      simp only [eo] at e
      by_cases hp : plain o = true
      · rw [if_pos hp] at e
        cases er : isoIn h cs with
        | none => rw [er] at e; cases e
        | some h1 =>
          rw [er] at e
          cases e
          obtain ⟨i1, i2⟩ := isoIn_get er
          refine ⟨by simp [i1], fun k m em => ?_⟩
          cases k with
          | zero => simp at em; subst em; exact ⟨o, eo, hp, rfl⟩
          | succ k => simp at em; simpa using i2 k m em
      · rw [if_neg hp] at e; cases e
theorem getD_of {α : Type} {l : List α} {n : Nat} {a d : α} (h : l[n]? = some a) : l.getD n d = a := by
  rw [List.getD_eq_getElem?_getD, h]
  rfl
theorem nodup_at {α : Type} {l : List α} (hn : l.Nodup) {i j : Nat} {a : α} (h1 : l[i]? = some a) (h2 : l[j]? = some a) : i = j := by
  obtain ⟨q1, e1⟩ := List.getElem?_eq_some_iff.mp h1
  obtain ⟨q2, e2⟩ := List.getElem?_eq_some_iff.mp h2
  exact (List.getElem_inj hn).mp (e1.trans e2.symm)
theorem ads_get {cs : List Nat} {k : Nat} {n : Nat} {a : Addr} (e : cs[k]? = some n) (er : r[n]? = some a) : (adsOf r cs)[k]? = some a := by
  unfold adsOf
  rw [List.getElem?_map, e]
  show some (r.getD n 0) = some a
  rw [getD_of er]
theorem ads_of (S : Sim w f r G h H) {cs : List Nat} {h0 : Hp} (hi : isoIn h cs = some h0) {k : Nat} {a : Addr} (e : (adsOf r cs)[k]? = some a) : ∃ n, cs[k]? = some n ∧ r[n]? = some a := by
  unfold adsOf at e
  rw [List.getElem?_map] at e
  cases ec : cs[k]? with
  | none => rw [ec] at e; cases e
  | some n =>
    rw [ec] at e
    have e : some (r.getD n 0) = some a := e
    obtain ⟨o, eo, _⟩ := (isoIn_get hi).2 k n ec
    have hn : n < r.length := by rw [S.len]; exact (List.getElem?_eq_some_iff.mp eo).1
    refine ⟨n, rfl, ?_⟩
    rw [List.getElem?_eq_getElem hn]
    rw [getD_of (List.getElem?_eq_getElem hn)] at e
    exact e
theorem ads_mem (S : Sim w f r G h H) {cs : List Nat} {h0 : Hp} (hi : isoIn h cs = some h0) {n : Nat} {a : Addr} (er : r[n]? = some a) : a ∈ adsOf r cs ↔ n ∈ cs := by
  constructor
  · intro hm
    obtain ⟨k, ek⟩ := List.getElem?_of_mem hm
    obtain ⟨m, em, er2⟩ := ads_of S hi ek
    have := nodup_at S.nd er er2
    subst this
    exact List.mem_of_getElem? em
  · intro hm
    obtain ⟨k, ek⟩ := List.getElem?_of_mem hm
    exact List.mem_of_getElem? (ads_get ek er)
theorem ob_g {a : Addr} {o : Ob} (q : ObR w r G H a o) (hp : plain o = true) : G a = none := by
  cases o with
  | lst xs => exact q.1
  | dct _ _ => exact q.1
  | _ => cases hp
theorem plain_live {o : Ob} (hp : plain o = true) : o ≠ .dead := fun z => by subst z; cases hp
theorem iso_sim (S : Sim w f r G h H) {cs : List Nat} {h0 : Hp} (hi : isoIn h cs = some h0) (hn : cs.Nodup) : Sim w (isoF f r h cs G H) (adsOf r cs) G h0 H := by
  have gi := isoIn_get hi
  refine ⟨S.sub, S.gn, fun a o e => ?_, fun a o e => ?_, fun k a e => ?_, ?_, ?_, fun k a o e1 e2 => ?_⟩
  · rcases isoF_of e with e | ⟨e, _⟩
    · exact S.fr a o e
    · exact e
  · rcases isoF_of e with e | ⟨e, hc | ⟨b, eb⟩⟩
    · exact S.fg a o e
    · exact hc.2.2
    · cases eg : G a with
      | none => rfl
      | some q =>
        rw [S.sub a q eg] at eb
        cases eb
        exact absurd eg (S.gn a b)
  · obtain ⟨n, ec, er⟩ := ads_of S hi e
    obtain ⟨o', eo, hp, e0⟩ := gi.2 k n ec
    obtain ⟨g, x, hx, hb⟩ := (S.ob n a o' er eo).live (plain_live hp)
    cases ef : isoF f r h cs G H a with
    | none => rfl
    | some q =>
      rcases isoF_of ef with e' | ⟨_, hc | ⟨b, eb⟩⟩
      · rw [S.fc n a er] at e'; cases e'
      · exact absurd (List.mem_of_getElem? e) hc.2.1
      · rw [hx] at eb; cases eb; exact absurd rfl (hb b)
  · unfold adsOf; rw [List.length_map, gi.1]
  · refine List.pairwise_iff_getElem.mpr fun i j hi' hj hij z => ?_
    obtain ⟨n, e1, er1⟩ := ads_of S hi (List.getElem?_eq_getElem hi')
    obtain ⟨m, e2, er2⟩ := ads_of S hi (List.getElem?_eq_getElem hj)
    rw [z] at er1
    have := nodup_at S.nd er1 er2
    subst this
    have := nodup_at hn e1 e2
    omega
  · obtain ⟨n, ec, er⟩ := ads_of S hi e1
    obtain ⟨o', eo, hp, e0⟩ := gi.2 k n ec
    rw [e2] at e0
    cases e0
    have ob := S.ob n a o er eo
    cases o with
    | lst xs => exact ob
    | dct _ _ => exact ob
    | _ => cases hp
/-- the arguments, renumbered -/
theorem renum_rel (S : Sim w f r G h H) {h0 : Hp} : ∀ {args : List V} {us : List L2.V} (pre : List Nat), isoIn h (pre ++ cellsOf args) = some h0 → args.all argOk = true → RvAll w r G args us → RvAll w (adsOf r (pre ++ cellsOf args)) G (renum pre.length args) us
  | [], us, pre, _, _, t => t
  | a :: args, us, pre, hi, ha, t => by
    obtain ⟨u, us', rfl, ru, t⟩ := t
    rw [List.all_cons, Bool.and_eq_true] at ha
    cases a with
    | d x => exact ⟨u, us', rfl, ru, renum_rel (args := args) S pre hi ha.2 t⟩
    | fn g => exact ⟨u, us', rfl, ru, renum_rel (args := args) S pre hi ha.2 t⟩
    | exc k fs => exact ⟨u, us', rfl, ru, renum_rel (args := args) S pre hi ha.2 t⟩
    | cell n =>
      obtain ⟨a, er, rfl⟩ := ru
      have e : pre ++ cellsOf (V.cell n :: args) = (pre ++ [n]) ++ cellsOf args := by
        show pre ++ n :: cellsOf args = _
        rw [List.append_assoc]
        rfl
      rw [e] at hi ⊢
      have ih := renum_rel S (pre ++ [n]) hi ha.2 t
      rw [List.length_append, List.length_singleton] at ih
      refine ⟨_, us', rfl, ⟨a, ?_, rfl⟩, ih⟩
      exact ads_get (by rw [List.append_assoc, List.getElem?_append_right (Nat.le_refl _)]; simp) er
    | _ => cases ha.1
/-- back: the told cells as they are now -/
theorem isoBack_get {h1 : Hp} : ∀ {cs : List Nat} {k : Nat} {h h2 : Hp}, isoBack h h1 cs k = some h2 → cs.Nodup → h2.length = h.length ∧ (∀ n : Nat, n ∉ cs → h2[n]? = h[n]?) ∧ ∀ (j : Nat) n, cs[j]? = some n → n < h.length → ∃ o, h1[k + j]? = some o ∧ plain o = true ∧ h2[n]? = some o
  | [], k, h, h2, e, _ => by cases e; exact ⟨rfl, fun _ _ => rfl, fun j n e => by simp at e⟩
  | m :: cs, k, h, h2, e, hn => by
    unfold isoBack at e
    rw [List.nodup_cons] at hn
    cases eo : h1[k]? with
    | none => simp only [eo] at e; cases e
    | some o =>
      simp only [eo] at e
      by_cases hp : plain o = true
      · rw [if_pos hp] at e
        obtain ⟨i1, i2, i3⟩ := isoBack_get e hn.2
        refine ⟨by rw [i1, List.length_set], fun n hm => ?_, fun j n ej hl => ?_⟩
        · rw [i2 n fun z => hm (by simp [z])]
          rw [List.getElem?_set_ne fun z => hm (by simp [z])]
        · cases j with
          | zero =>
            simp at ej
            subst ej
            refine ⟨o, eo, hp, ?_⟩
            rw [i2 m hn.1, List.getElem?_set_self hl]
          | succ j =>
            simp at ej
            obtain ⟨o', e1, e2, e3⟩ := i3 j n ej (by rw [List.length_set]; exact hl)
            exact ⟨o', by rw [show k + (j + 1) = k + 1 + j by omega]; exact e1, e2, e3⟩
      · rw [if_neg hp] at e; cases e
theorem iso_back (S : Sim w f r G h H) {cs : List Nat} {h0 h1 h2 : Hp} {r1 : List Addr} {G1 H1 : L2.Hp} (hi : isoIn h cs = some h0) (hn : cs.Nodup) (ex : Ext (adsOf r cs) G r1 G1) (S1 : Sim w (isoF f r h cs G H) r1 G1 h1 H1) (hb : isoBack h h1 cs 0 = some h2) :
    Sim w f r G1 h2 H1 ∧ Ext r G r G1 := by
  have gi := isoIn_get hi
  have gb := isoBack_get hb hn
  have er : Ext r G r G1 := ⟨fun _ _ e => e, ex.sub⟩
  refine ⟨⟨S1.sub, S1.gn, fun a o e => S1.fr a o (isoF_f e), fun a o e => S1.fg a o (isoF_f e), S.fc, by rw [S.len, gb.1], S.nd, fun n a o e1 e2 => ?_⟩, er⟩
  have hnl : n < h.length := by rw [← S.len]; exact (List.getElem?_eq_some_iff.mp e1).1
  by_cases hm : n ∈ cs
  · obtain ⟨k, ek⟩ := List.getElem?_of_mem hm
    obtain ⟨o', o1, o2, o3⟩ := gb.2.2 k n ek hnl
    rw [Nat.zero_add] at o1
    rw [e2] at o3
    cases o3
    have ra := ex.pre k a (ads_get ek e1)
    have ob := S1.ob k a o ra o1
    cases o with
    | lst xs => exact ob
    | dct _ _ => exact ob
    | _ => cases o2
  · rw [gb.2.1 n hm] at e2
    have ob := S.ob n a o e1 e2
    by_cases hd : o = .dead
    · subst hd
      obtain ⟨q, eq⟩ := ob
      exact ⟨q, ex.sub _ _ eq⟩
    · obtain ⟨g, x, hx, hbx⟩ := ob.live hd
      have ea : isoF f r h cs G H a = H a := isoF_at (S.fc n a e1) (.inl ⟨List.mem_of_getElem? e1, fun z => hm ((ads_mem S hi e1).mp z), g⟩)
      refine ob.mono er (fun _ => S1.fg a x (ea.trans hx)) (fun y ey => S1.fr a y (ea.trans ey)) fun b eb => ?_
      cases efb : f b with
      | some q =>
        have := S.fr b q efb
        rw [eb] at this
        cases this
        exact S1.fr b _ (isoF_f efb)
      | none => exact S1.fr b _ ((isoF_at efb (.inr ⟨a, eb⟩)).trans eb)
/-- a new cell comes out too -/
theorem iso_cell (S : Sim w f r G h H) {cs : List Nat} {h0 h1 h2 : Hp} {r1 : List Addr} {G1 H1 : L2.Hp} (hi : isoIn h cs = some h0) (hn : cs.Nodup) (ex : Ext (adsOf r cs) G r1 G1) (S1 : Sim w (isoF f r h cs G H) r1 G1 h1 H1) (hb : isoBack h h1 cs 0 = some h2)
    {n : Nat} {a : Addr} {o : Ob} (hc : cs.length ≤ n) (er : r1[n]? = some a) (eo : h1[n]? = some o) (hp : plain o = true) :
    Sim w f (r ++ [a]) G1 (h2 ++ [o]) H1 ∧ Ext r G (r ++ [a]) G1 ∧ (r ++ [a])[h2.length]? = some a := by
  obtain ⟨S2, e2⟩ := iso_back S hi hn ex S1 hb
  have ob := S1.ob n a o er eo
  have g1 := ob_g ob hp
  have fa := S1.fc n a er
  have ffa : f a = none := isoF_nf fa
  have nr : ∀ m : Nat, r[m]? ≠ some a := fun m em => by
    by_cases hm : m ∈ cs
    · obtain ⟨k, ek⟩ := List.getElem?_of_mem hm
      have ra := ex.pre k a (ads_get ek em)
      have := nodup_at S1.nd ra er
      have hk : k < cs.length := (List.getElem?_eq_some_iff.mp ek).1
      omega
    · have gn : G a = none := by
        cases eg : G a with
        | none => rfl
        | some q => rw [ex.sub a q eg] at g1; cases g1
      rw [isoF_at ffa (.inl ⟨List.mem_of_getElem? em, fun z => hm ((ads_mem S hi em).mp z), gn⟩)] at fa
      have hml : m < h.length := by rw [← S.len]; exact (List.getElem?_eq_some_iff.mp em).1
      have obm := S.ob m a h[m] em (List.getElem?_eq_getElem hml)
      by_cases hd : h[m] = .dead
      · rw [hd] at obm
        obtain ⟨q, eq⟩ := obm
        rw [gn] at eq
        cases eq
      · obtain ⟨_, x, hx, _⟩ := obm.live hd
        rw [hx] at fa
        cases fa
  have ex3 : Ext r G1 (r ++ [a]) G1 := ⟨fun m b e => by rw [List.getElem?_append_left (List.getElem?_eq_some_iff.mp e).1]; exact e, fun _ _ e => e⟩
  have last : (r ++ [a])[h2.length]? = some a := by rw [← S2.len]; simp
  have cs' : ∀ (m : Nat) b, (r ++ [a])[m]? = some b → r[m]? = some b ∨ (m = r.length ∧ b = a) := fun m b e => by
    rcases Nat.lt_or_ge m r.length with z | z
    · rw [List.getElem?_append_left z] at e; exact .inl e
    · rw [List.getElem?_append_right z] at e
      obtain ⟨z2, e2⟩ := List.getElem?_eq_some_iff.mp e
      have : m - r.length = 0 := by simp at z2; omega
      refine .inr ⟨by omega, ?_⟩
      simp [this] at e2
      exact e2.symm
  refine ⟨⟨S2.sub, S2.gn, S2.fr, S2.fg, fun m b e => ?_, by simp [S2.len], ?_, fun m b q e1 e2' => ?_⟩, e2.trans ex3, last⟩
  · rcases cs' m b e with z | ⟨_, rfl⟩
    · exact S2.fc m b z
    · exact ffa
  · rw [List.nodup_append]
    refine ⟨S2.nd, by simp, fun b hb c hc z => ?_⟩
    simp at hc
    subst hc
    subst z
    obtain ⟨i, hi'⟩ := List.getElem?_of_mem hb
    exact nr i hi'
  · rcases cs' m b e1 with z | ⟨rfl, rfl⟩
    · have hml : m < h2.length := by rw [← S2.len]; exact (List.getElem?_eq_some_iff.mp z).1
      rw [List.getElem?_append_left hml] at e2'
      exact (S2.ob m b q z e2').mono ex3 (fun y => y) (fun x y => y) fun x y => y
    · rw [S2.len] at e2'
      simp at e2'
      subst e2'
      cases o with
      | lst xs => exact ob
      | dct _ _ => exact ob
      | _ => cases hp
end
end Hb

/-! TOP: all defs keep their promises; the law's end. -/
namespace Hb
open PySem PySem.Spec PyProof.Rows
open L2 hiding V Hp St
set_option autoImplicit false
section
variable {w : Wo} {f : L2.Hp} {r : List Addr} {G H : L2.Hp} {h : Hp}
theorem iso_q (S : Sim w f r G h H) {cs : List Nat} {h0 : Hp} {P : Pv} {Q : VK} (hi : isoIn h cs = some h0) (hn : cs.Nodup) (q : QOk w f r G P Q) : QOk w (isoF f r h cs G H) (adsOf r cs) G (fun v h1 => isoOut h cs v h1 P) Q := fun v h1 u r1 G1 H1 p ex S1 rv => by
  obtain ⟨h2, hb, p⟩ := optP_of p
  obtain ⟨S2, e2⟩ := iso_back S hi hn ex S1 hb
  cases v with
  | d x => exact q (.d x) h2 u r G1 H1 p e2 S2 rv
  | fn g => exact q (.fn g) h2 u r G1 H1 p e2 S2 rv
  | exc k fs => exact q (.exc k fs) h2 u r G1 H1 p e2 S2 rv
  | vt _ => exact p.elim
  | cell n =>
    obtain ⟨hc, p⟩ := p
    obtain ⟨o, eo, hp, p⟩ := optP_of p
    obtain ⟨a, er, rfl⟩ := rv
    obtain ⟨S3, e3, el⟩ := iso_cell S hi hn ex S1 hb hc er eo hp
    exact q _ _ _ _ G1 H1 p e3 S3 ⟨a, el, rfl⟩
theorem iso_x (S : Sim w f r G h H) {cs : List Nat} {h0 : Hp} {P : Px} {E : XK} (hi : isoIn h cs = some h0) (hn : cs.Nodup) (q : XOk w f r G P E) : XOk w (isoF f r h cs G H) (adsOf r cs) G (fun v h1 => isoOut h cs v h1 P) E := fun v h1 r1 G1 H1 c d p ex S1 rv => by
  obtain ⟨h2, hb, p⟩ := optP_of p
  obtain ⟨S2, e2⟩ := iso_back S hi hn ex S1 hb
  cases v with
  | exc k fs => exact q (.exc k fs) h2 r G1 H1 c d p e2 S2 rv
  | _ => exact rv.elim
end
/-! ### defs -/
structure Dr where
  x : Str
  nm : Str
  qn : Str
  ps : List Str
  N : List Str
  args : Arguments
  body : List Stmt
  scope : Scope
  kws : List (Nat × List Str × List Nat)
def scopeB (N ps : List Str) (sc : Scope) : Bool := decide (sc.kind = .function) && !sc.isCoroutine && !sc.isGenerator && decide N.Nodup && decide (N.take ps.length = ps) &&
  ps.all (fun x => decide (sc.names.lookup x = some .local) || decide (sc.names.lookup x = some .cell)) && sc.names.all (fun y => decide (y.2 ≠ .free))
theorem scopeB_ok {N ps : List Str} {sc : Scope} (h : scopeB N ps sc = true) : FnScope N ps sc := by
  obtain ⟨h, h7⟩ := and_of h
  obtain ⟨h, h6⟩ := and_of h
  obtain ⟨h, h5⟩ := and_of h
  obtain ⟨h, h4⟩ := and_of h
  obtain ⟨h, h3⟩ := and_of h
  obtain ⟨h1, h2⟩ := and_of h
  refine ⟨of_decide_eq_true h1, by simpa using h2, by simpa using h3, of_decide_eq_true h4, of_decide_eq_true h5, fun x hx => ?_, fun y hy => of_decide_eq_true (List.all_eq_true.mp h7 y hy)⟩
  have q := List.all_eq_true.mp h6 x hx
  rcases (Bool.or_eq_true _ _).mp q with q | q
  · exact .inl (of_decide_eq_true q)
  · exact .inr (of_decide_eq_true q)
def fnsOf (rows : List Dr) : List (Str × List Str × List (Nat × List Str × List Nat)) := rows.map fun r => (r.x, r.ps, r.kws)
/-- a def's text is the one that stands in the row -/
def rowB (tb : Tb) (fuel : Nat) (r : Dr) (fi : FnI) : Bool := scopeB r.N r.ps r.scope && decide (fi.np = r.ps.length) && decide (fi.ns = r.N.length) && (chk tb fuel).Ss ⟨r.N, r.scope.names, none⟩ r.body fi.body
def rowsB (tb : Tb) (fuel : Nat) : List Dr → List FnI → Bool
  | [], [] => true
  | r :: rs, fi :: fs => rowB tb fuel r fi && rowsB tb fuel rs fs
  | _, _ => false
theorem rowsB_get {tb : Tb} {fuel : Nat} : ∀ {rs : List Dr} {fs : List FnI}, rowsB tb fuel rs fs = true → ∀ {g : Nat} {r : Dr}, rs[g]? = some r → ∃ fi, fs[g]? = some fi ∧ rowB tb fuel r fi = true
  | [], _, _, g, r, e => by simp at e
  | r :: rs, [], h, _, _, _ => by cases h
  | r :: rs, fi :: fs, h, g, r', e => by
    obtain ⟨h1, h2⟩ := and_of h
    cases g with
    | zero => simp at e; subst e; exact ⟨fi, rfl, h1⟩
    | succ g => simp at e; simpa using rowsB_get h2 e
/-- what the head tells of a def -/
structure DrOk (mg : Str → Option Value) (w : Wo) (g : Nat) (r : Dr) : Prop where
  at_ : r.x ≠ "" → mg r.x = some (.ref (w.fa g))
  fn : ∃ fd, FunD w.K r.nm r.qn r.args r.body r.scope [] [] (w.fa g) fd ∧ Binds w.K fd r.ps [] ∧ ∀ kw ∈ r.kws, KBd w.K fd r.ps kw
structure ModOk (mg : Str → Option Value) (w : Wo) (tb : Tb) (rows : List Dr) : Prop where
  fns : tb.fns = fnsOf rows
  rows : ∀ (g : Nat) r, rows[g]? = some r → DrOk mg w g r
  gcs : ∀ (g : Nat) x c, tb.gcs[g]? = some (x, c) → ∃ u v, mg x = some u ∧ RelV v u ∧ ∀ G, Rp w.K G c v
  bls : ∀ x ∈ tb.bls, mg x = none
  kls : ∀ k ∈ tb.kls, KlOk mg w k
  ats : ∀ (i : Nat) x, tb.ats[i]? = some x → w.an i = x
  xs : XsOk mg w tb
  gd : tb.gds = false
  dcs : ∀ q ∈ tb.dcs, DcOk mg w q
/-! ### fields' names -/
def farS (i : Nat) : Str := ⟨#[i + 2000000]⟩
def nearB (x : Str) : Bool := x.cps.toList.all fun c => decide (c < 2000000)
theorem far_near {i : Nat} (h : nearB (farS i) = true) : False := by
  unfold nearB farS at h
  simp at h
  omega
def anF (l : List Str) (i : Nat) : Str := (l[i]?).getD (farS i)
theorem anF_at {l : List Str} {i : Nat} {x : Str} (e : l[i]? = some x) : anF l i = x := by unfold anF; rw [e]; rfl
theorem anF_inj {l : List Str} (hn : l.Nodup) (hs : l.all nearB = true) (i j : Nat) (e : anF l i = anF l j) : i = j := by
  have near : ∀ {k : Nat} {x : Str}, l[k]? = some x → nearB x = true := fun {k x} ek => List.all_eq_true.mp hs x (List.mem_of_getElem? ek)
  unfold anF at e
  cases ei : l[i]? with
  | none =>
    rw [ei] at e
    cases ej : l[j]? with
    | none =>
      rw [ej] at e
      have e : farS i = farS j := e
      unfold farS at e
      injection e with e
      simp at e
      exact e
    | some y =>
      rw [ej] at e
      have e : farS i = y := e
      exact (far_near (e ▸ near ej)).elim
  | some x =>
    rw [ei] at e
    cases ej : l[j]? with
    | none =>
      rw [ej] at e
      have e : x = farS j := e
      exact (far_near (e ▸ near ei)).elim
    | some y =>
      rw [ej] at e
      have e : x = y := e
      subst e
      exact nodup_at hn ei ej
theorem anF_ne {l : List Str} {m : Str} (hm : nearB m = true) (h : m ∉ l) (i : Nat) : anF l i ≠ m := by
  intro e
  unfold anF at e
  cases ei : l[i]? with
  | none =>
    rw [ei] at e
    have e : farS i = m := e
    exact far_near (e ▸ hm)
  | some x =>
    rw [ei] at e
    have e : x = m := e
    exact h (e ▸ List.mem_of_getElem? ei)
section
variable {P : Program} {ww : World} {mg : Str → Option Value} {base : Heap} {w : Wo} {tb : Tb} {rows : List Dr} {FT : List FnI} {fuel : Nat}
theorem start_rel {r : List Addr} {G : L2.Hp} {N : List Str} {args : List V} {us : List L2.V} {np : Nat} (t : RvAll w r G args us) (hl : args.length = np) : EnvR w r G (args.map some ++ List.replicate (N.length - np) none) (L2.start N us) := by
  have hu := rvAll_len t
  refine ⟨by unfold L2.start; rw [List.length_append, List.length_append, List.length_map, List.length_map, List.length_replicate, List.length_replicate, ← hu, hl], fun i v e => ?_⟩
  rcases Nat.lt_or_ge i args.length with z | z
  · rw [List.getElem?_append_left (by rw [List.length_map]; exact z), List.getElem?_map, List.getElem?_eq_getElem z] at e
    cases e
    obtain ⟨u, eu, ru⟩ := (rvAll_iff.mp t).getL (List.getElem?_eq_getElem z)
    refine ⟨u, ?_, ru⟩
    unfold L2.start
    rw [List.getElem?_append_left (by rw [List.length_map, ← hu]; exact z), List.getElem?_map, eu]
    rfl
  · rw [List.getElem?_append_right (by rw [List.length_map]; exact z)] at e
    have := List.mem_of_getElem? e
    rw [List.mem_replicate] at this
    exact absurd this.2 (by simp)
theorem tab_get {g : Nat} {x : Str} {ps : List Str} {kws : List (Nat × List Str × List Nat)} (M : ModOk mg w tb rows) (e : tb.fns[g]? = some (x, ps, kws)) : ∃ r, rows[g]? = some r ∧ r.x = x ∧ r.ps = ps ∧ r.kws = kws := by
  rw [M.fns] at e
  unfold fnsOf at e
  rw [List.getElem?_map] at e
  cases er : rows[g]? with
  | none => rw [er] at e; cases e
  | some r => rw [er] at e; cases e; exact ⟨r, rfl, rfl, rfl, rfl⟩
/-- one def, over what those that it calls keep -/
theorem fn_step (M : ModOk mg w tb rows) (hB : rowsB tb fuel rows FT = true) (n : Nat) (IH : ∀ (g : Nat) x ps kws, tb.fns[g]? = some (x, ps, kws) → DefOk P ww mg base (2 * n + 1) w (callN FT n) g x ps kws) {g : Nat} {r : Dr} {fd : FuncData} (er : rows[g]? = some r)
    (F : FunD w.K r.nm r.qn r.args r.body r.scope [] [] (w.fa g) fd) (hpm : tb.dcs = [] ∨ w.pm = ww.params := by exact .inl rfl) : FnOk P ww w.K mg base (L2.CX P ww) (2 * n + 1 + 1 + 1) (w.fa g) fd r.ps (spOf w (callN FT (n + 1)) r.ps.length g) := by
  obtain ⟨fi, ef, hb⟩ := rowsB_get hB er
  obtain ⟨hb, h4⟩ := and_of hb
  obtain ⟨hb, h3⟩ := and_of hb
  obtain ⟨h1, h2⟩ := and_of hb
  have h2 := of_decide_eq_true h2
  have h3 := of_decide_eq_true h3
  have sc := scopeB_ok h1
  generalize hm : 2 * n + 1 = m at IH ⊢
  refine F.ok (k := m + 1) sc (fun vs H Q E h => h.1) fun cdv A outer s H vs Q E hr h => ?_
  let X : Cx := cxOf (L2.CX P ww) P ww w.K mg base r.N r.qn r.scope (w.fa g) cdv A outer s H E
  have tk : Takes X (fun cls d _ H => E cls d H) := takes_of rfl rfl rfl (E₁ := fun e' s'' => L2.CX P ww outer H s E e' s'') rfl
  have hp : PassesOwn (model X.prog X.w) X.A X.env X.xe := passes_of (K := fun e s'' => L2.CX P ww outer H s E e s'') (E₁ := fun e' s'' => L2.CX P ww outer H s E e' s'') rfl
  have c : CtxOk X w (callN FT n) tb ⟨r.N, r.scope.names, none⟩ := ⟨rfl, rfl, sc.nd, rfl, sc.kind, rfl, by have := hr.un; show (A.deeper (envOfC r.qn r.scope s.heap.objs.size (w.fa g) cdv)).units + 65 < cLine; omega, hr.mono (by omega), ⟨m, hr, IH⟩, M.gcs, M.bls, M.kls, M.ats, M.xs, fun z => absurd (z.symm.trans M.gd) (by decide), hpm.imp id fun z => ⟨z, M.dcs⟩, fun _ => ⟨rfl, rfl, rfl⟩, fun _ => rfl⟩
  refine ⟨rdSs w (callN FT n) (fun cls d _ H => E cls d H) fi.body, (chk_ok tb fuel).Ss c tk hp h4, ?_⟩
  obtain ⟨hl, f, rr, G, args, hh, PP, Xp, S, t, wp, q, qx⟩ := h
  have wp : optP FT[g]? fun fn => args.length = fn.np ∧ (match fn.md with
    | 0 => args.all argOk = true ∧ (cellsOf args).Nodup ∧ optP (isoIn hh (cellsOf args)) fun h0 =>
        runB (callN FT n) fn (renum 0 args) h0 (fun v h1 => isoOut hh (cellsOf args) v h1 PP) (fun v h1 => isoOut hh (cellsOf args) v h1 Xp)
    | _ => runB (callN FT n) fn args hh PP Xp) := wp
  rw [ef] at wp
  obtain ⟨ha, wp⟩ := wp
  have fin : ∀ {f' : L2.Hp} {r' : List Addr} {args' : List V} {h' : Hp} {P' : Pv} {X' : Px}, Sim w f' r' G h' H → RvAll w r' G args' vs → runB (callN FT n) fi args' h' P' X' → args'.length = fi.np → QOk w f' r' G P' Q → XOk w f' r' G X' E →
      rdSs w (callN FT n) (fun cls d _ H => E cls d H) fi.body { nx := fun _ H' => Q .non H', rt := Q } (L2.start r.N vs) H := by
    intro f' r' args' h' P' X' S' t' wp' hl' q' qx'
    refine ⟨f', r', G, _, h', _, _, S', ?_, wp', ⟨?_, q', ?_, ?_, ?_⟩⟩
    · rw [h3]; exact start_rel t' hl'
    · intro env1 h1 s1 r1 G1 H1 p e1 S1 _
      exact q' _ h1 .non r1 G1 H1 p e1 S1 rfl
    · intro env1 h1 s1 r1 G1 H1 p; exact p.elim
    · intro env1 h1 s1 r1 G1 H1 p; exact p.elim
    · intro v env1 h1 s1 r1 G1 H1 c d p e1 S1 _ x
      exact qx' v h1 r1 G1 H1 c d p e1 S1 x
  cases em : fi.md with
  | zero =>
    rw [em] at wp
    obtain ⟨w1, w2, wp⟩ := wp
    obtain ⟨h0, ei, wp⟩ := optP_of wp
    have rn := renum_rel S (args := args) [] ei w1 t
    refine fin (iso_sim S ei w2) rn wp ?_ (iso_q S ei w2 q) (iso_x S ei w2 qx)
    have e1 := rvAll_len rn
    have e2 := rvAll_len t
    show (renum 0 args).length = fi.np
    rw [← ha, e2]
    exact e1
  | succ k =>
    rw [em] at wp
    exact fin S t wp ha q qx
/-- ALL DEFS keep their promises, to any depth -/
theorem all_ok (M : ModOk mg w tb rows) (hB : rowsB tb fuel rows FT = true) (hpm : tb.dcs = [] ∨ w.pm = ww.params := by exact .inl rfl) : ∀ (n g : Nat) x ps kws, tb.fns[g]? = some (x, ps, kws) → DefOk P ww mg base (2 * n + 1) w (callN FT n) g x ps kws
  | 0, g, x, ps, kws, e => by
    obtain ⟨r, er, rfl, rfl, rfl⟩ := tab_get M e
    have R := M.rows g r er
    obtain ⟨fd, F, bd, kb⟩ := R.fn
    refine ⟨R.at_, F.kp, fd, bd, kb, ⟨fun vs H Q E h => h.1, fun A outer s H args us vs Q E _ _ _ _ h => ?_⟩⟩
    obtain ⟨_, f, r, G, ag, h, P, Xp, _, _, wp, _⟩ := h
    exact wp.elim
  | n + 1, g, x, ps, kws, e => by
    obtain ⟨r, er, rfl, rfl, rfl⟩ := tab_get M e
    have R := M.rows g r er
    obtain ⟨fd, F, bd, kb⟩ := R.fn
    exact ⟨R.at_, F.kp, fd, bd, kb, fn_step M hB n (all_ok M hB hpm n) er F hpm⟩
/-! ### the law's end -/
theorem lq_script {K : PySem.W.Frag} {h : Heap} {H : L2.Hp} {a : Addr} {vs : List Value} {us : List L2.V} (KX : K.In h) (ha : h.get? a = some { cls := .type "list", data := .seq vs.toArray }) (hS : SqL K H a us) : LqL K H a us := by
  rcases hS with hS | ⟨o, its, n, hk, hc, hd, hs, hz, rv⟩
  · exact .inl hS
  · have e := KX a o hk
    rw [ha] at e
    cases e
    cases hs
    exact .inr ⟨_, _, hk, hz, rv⟩
theorem walk_hb {l : PySem.W.OpenLaw} {n k : Nat} {q : Program} {loose : List Str} {XP : (Str → Option Value) → Heap → Prop} {YP : World → Heap → Prop} {d : DefRec} {x : Str} {FT : List FnI} {g : Nat}
    (hn : l.most = some n) (hn2 : n ≤ sizeLine) (hdf : d.params.defaults = []) (hr : Room (2 * k + 1) callerA)
    (F : ∀ (ww : World) (mg : Str → Option Value) (fa : Addr) (h : Heap), YP ww h → h.Ns mainGlobals mg → mg d.name = some (.ref fa) →
      ∃ (w : Wo) (fd : FuncData), w.K.In h ∧ (∀ (s : Shared) (u : Value), BindsTo s fd ⟨[u], []⟩ [(x, u)]) ∧
        ∀ base : Heap, w.K.In base → base.Ns mainGlobals mg → FnOk l.prog ww w.K mg base (L2.CX l.prog ww) (2 * k + 1) fa fd [x] (spOf w (callN FT k) 1 g))
    (hl : ∀ ns : List Int, ns.length ≤ n → callN FT k g [.d (.list (ns.map PyData.int))] [] (fun v _ => v = .d (.bool true)) (fun _ _ => False)) :
    PySem.W.WalkO q loose XP YP l.row.toRowW d [] (fun f vs => PySem.call f vs) := by
  refine Att.attach_call hn hdf fun ww s₀ s₁ mg mb fa o pm cd doc a vs ns GG Y ho hd hcd hmg hobj hints hlen hg => ?_
  obtain ⟨w, fd, KX, hb, hF⟩ := F ww mg fa _ Y GG.T.g hmg
  refine law_call KX GG.T.g GG.T.b GG.T.builtins GG.T.nolimit hg hobj hints (Nat.le_trans hlen hn2) hr hF hb (fun H hO hS => ?_) fun H e s' hx => ?_
  · refine ⟨rfl, fun _ => none, [], H, [.d (.list (ns.map PyData.int))], [], _, _, ⟨Sub.rfl', fun b c z => by rcases hO b with e | ⟨o, xs, e⟩ <;> (rw [e] at z; cases z), fun a o e => (nomatch e), fun a o e => (nomatch e), fun m a e => absurd e (by simp), rfl, List.nodup_nil, fun m a o e => absurd e (by simp)⟩, ?_, hl ns hlen, ?_, XOk.never⟩
    · exact ⟨_, _, rfl, ⟨a, _, rfl, lq_script KX hobj hS, rpAll_ints ns⟩, rfl⟩
    · intro v h' u r' G' H' p _ _ rv
      have p : v = .d (.bool true) := p
      subst p
      exact rv
  · obtain ⟨_, _, _, _, _, _, _, _, _, _, _, _, z⟩ := hx
    exact z
/-- .. where the size of the script's numbers is asked -/
theorem walk_hbB {l : PySem.W.OpenLaw} {n k : Nat} {q : Program} {loose : List Str} {XP : (Str → Option Value) → Heap → Prop} {YP : World → Heap → Prop} {d : DefRec} {x : Str} {FT : List FnI} {g : Nat}
    (hn : l.most = some n) (hn2 : n ≤ sizeLine) (hdf : d.params.defaults = []) (hr : Room (2 * k + 1) callerA)
    (F : ∀ (ww : World) (mg : Str → Option Value) (fa : Addr) (h : Heap), YP ww h → h.Ns mainGlobals mg → mg d.name = some (.ref fa) →
      ∃ (w : Wo) (fd : FuncData), w.K.In h ∧ (∀ (s : Shared) (u : Value), BindsTo s fd ⟨[u], []⟩ [(x, u)]) ∧
        ∀ base : Heap, w.K.In base → base.Ns mainGlobals mg → FnOk l.prog ww w.K mg base (L2.CX l.prog ww) (2 * k + 1) fa fd [x] (spOf w (callN FT k) 1 g))
    (hl : ∀ ns : List Int, ns.length ≤ n → (∀ z ∈ ns, hugeOk z) → callN FT k g [.d (.list (ns.map PyData.int))] [] (fun v _ => v = .d (.bool true)) (fun _ _ => False)) :
    PySem.W.WalkO q loose XP YP l.row.toRowW d [] (fun f vs => PySem.call f vs) := by
  refine Att.attach_callB hn hdf fun ww s₀ s₁ mg mb fa o pm cd doc a vs ns GG Y ho hd hcd hmg hobj hints hlen hbits hg => ?_
  obtain ⟨w, fd, KX, hb, hF⟩ := F ww mg fa _ Y GG.T.g hmg
  refine law_call KX GG.T.g GG.T.b GG.T.builtins GG.T.nolimit hg hobj hints (Nat.le_trans hlen hn2) hr hF hb (fun H hO hS => ?_) fun H e s' hx => ?_
  · refine ⟨rfl, fun _ => none, [], H, [.d (.list (ns.map PyData.int))], [], _, _, ⟨Sub.rfl', fun b c z => by rcases hO b with e | ⟨o, xs, e⟩ <;> (rw [e] at z; cases z), fun a o e => (nomatch e), fun a o e => (nomatch e), fun m a e => absurd e (by simp), rfl, List.nodup_nil, fun m a o e => absurd e (by simp)⟩, ?_, hl ns hlen hbits, ?_, XOk.never⟩
    · exact ⟨_, _, rfl, ⟨a, _, rfl, lq_script KX hobj hS, rpAll_ints ns⟩, rfl⟩
    · intro v h' u r' G' H' p _ _ rv
      have p : v = .d (.bool true) := p
      subst p
      exact rv
  · obtain ⟨_, _, _, _, _, _, _, _, _, _, _, _, z⟩ := hx
    exact z
end
end Hb

/-! HKR: what the head looks at. -/
namespace Hb
open PySem PySem.Spec PyProof.Rows
set_option autoImplicit false
abbrev AlX : Type := He.AlD × Bool
def obsX (fa : List He.Fa) (fn : List He.DefD) (p : PySem.W.Frag → Bool) (K : PySem.W.Frag) : AlX := (He.obsD fa fn K, p K)
def obsXG (n : Nat) (fa : List He.Fa) (fn : List He.DefD) (p : PySem.W.Frag → Bool) (g : Addr → Option Obj) : AlX := obsX fa fn p (He.frG g (cStatics :: He.asD g n))
def hookX (n : Nat) (fa : List He.Fa) (fn : List He.DefD) (p : PySem.W.Frag → Bool) : PySem.W.Hook where
  α := AlX
  obs s := obsXG n fa fn p s.heap.get?
  val _ := (He.valD fn, true)
  says _ h := ∃ K : PySem.W.Frag, K.In h ∧ He.SaysD fa fn K ∧ p K = true
  of _ _ e := ⟨_, He.frG_in, congrArg Prod.fst e, congrArg Prod.snd e⟩
  keeps _ _ _ z k := by obtain ⟨K, hK, c⟩ := z; exact ⟨K, hK.keeps k, c⟩
theorem obsXG_eq {n : Nat} {fa : List He.Fa} {fn : List He.DefD} {p : PySem.W.Frag → Bool} {g : Addr → Option Obj} {s : Shared} (h : ∀ a, g a = s.heap.get? a) : obsXG n fa fn p g = (hookX n fa fn p).obs s := by
  rw [funext h]
  rfl
/-- isinstance asks instances of D rightly -/
def excB (K : PySem.W.Frag) (D : Addr) : Bool := He.eqO (PySem.W.findIn K (.ref D) "__getattribute__") (some (some (.builtin "BaseException.__getattribute__"))) && He.eqO (PySem.W.findIn K (.ref D) "__getattr__") (some none) &&
  decide (PySem.W.subIn K (.ref D) (.type "BaseException") = some true) && PySem.W.hasDictIn K D && He.eqO (PySem.W.findIn K (.ref D) "__class__") (some (some (.builtin "object.__class__"))) &&
  He.eqO (PySem.W.specialIn K (.builtin "object.__class__") "__get__") (some (some (.builtin "getset_descriptor.__get__"))) && decide (PySem.W.takesIn K (.builtin "object.__class__") = some true) && decide (PySem.W.mroIn K D (.type "object") = some true)
def isB (a : Option Bool) (b : Bool) : Bool := decide (a = some b)
def kdsB (K : PySem.W.Frag) (c : Value) : Bool := isB (PySem.W.kitOne K (.type "NoneType") c) false && isB (PySem.W.kitOne K (.type "bool") c) false && isB (PySem.W.kitOne K (.type "int") c) false && isB (PySem.W.kitOne K (.type "str") c) false &&
  isB (PySem.W.kitOne K (.type "tuple") c) false && isB (PySem.W.kitOne K (.type "list") c) false && isB (PySem.W.kitOne K (.type "dict") c) false
def xcB (hu : Str) (cs : List (Nat × Str)) (K : PySem.W.Frag) : Bool := kdsB K (.ref (He.ga K hu)) && cs.all fun q => excB K (He.ga K q.2) && isB (PySem.W.exmOne K (.ref (He.ga K q.2)) (.ref (He.ga K hu))) true && isB (PySem.W.kitOne K (.ref (He.ga K q.2)) (.ref (He.ga K hu))) true &&
  isB (PySem.W.kitOne K (.ref (He.ga K q.2)) (.type "ValueError")) true && kdsB K (.ref (He.ga K q.2)) && cs.all fun q' => !Nat.blt q'.1 1000 || isB (PySem.W.kitOne K (.ref (He.ga K q.2)) (.ref (He.ga K q'.2))) (decide (q'.1 = q.1))
def keyO : Value → Option Str
  | .str x _ => some x
  | _ => none
abbrev EnO : Type := Option Str × Int × Bool
def vlB (K : PySem.W.Frag) (v : Value) : Str ⊕ Int → Bool
  | .inl x => decide (v = .ref (He.fAd K (x, none)))
  | .inr i => (match v with
    | .int j _ => decide (j = i)
    | _ => false)
def zipT (K : PySem.W.Frag) : List DictEntry → List (Str × (Str ⊕ Int)) → List EnO
  | e :: es, q :: qs => (keyO e.key, e.hash, vlB K e.val q.2) :: zipT K es qs
  | [], [] => []
  | _, _ => [(none, 0, false)]
def tabO (K : PySem.W.Frag) (t : Str × List (Str × (Str ⊕ Int))) : Option (List EnO) := match K.lookup (He.ga K t.1) with
  | some o => if (decide (o.cls = .type "dict") && decide (o.dict = none) && o.slots.isEmpty && !(He.ga K t.1 == sysModules)) = true then (match o.data with
    | .dict es _ => some (zipT K es.toList t.2)
    | _ => none) else none
  | none => none
def tabV (P : Params) (t : Str × List (Str × (Str ⊕ Int))) : Option (List EnO) := some (t.2.map fun q => (some q.1, PyData.keyHash P q.1, true))
abbrev AlT : Type := AlX × List (Option (List EnO))
def obsT (fa : List He.Fa) (fn : List He.DefD) (p : PySem.W.Frag → Bool) (ts : List (Str × List (Str × (Str ⊕ Int)))) (K : PySem.W.Frag) : AlT := (obsX fa fn p K, ts.map (tabO K))
def obsTG (n : Nat) (fa : List He.Fa) (fn : List He.DefD) (p : PySem.W.Frag → Bool) (ts : List (Str × List (Str × (Str ⊕ Int)))) (g : Addr → Option Obj) : AlT := obsT fa fn p ts (He.frG g (cStatics :: He.asD g n))
def hookT (n : Nat) (fa : List He.Fa) (fn : List He.DefD) (p : PySem.W.Frag → Bool) (ts : List (Str × List (Str × (Str ⊕ Int)))) : PySem.W.Hook where
  α := AlT
  obs s := obsTG n fa fn p ts s.heap.get?
  val w := ((He.valD fn, true), ts.map (tabV w.params))
  says w h := ∃ K : PySem.W.Frag, K.In h ∧ He.SaysD fa fn K ∧ p K = true ∧ ts.map (tabO K) = ts.map (tabV w.params)
  of _ _ e := ⟨_, He.frG_in, congrArg (fun x : AlT => x.1.1) e, congrArg (fun x : AlT => x.1.2) e, congrArg Prod.snd e⟩
  keeps _ _ _ z k := by obtain ⟨K, hK, c⟩ := z; exact ⟨K, hK.keeps k, c⟩
theorem obsTG_eq {n : Nat} {fa : List He.Fa} {fn : List He.DefD} {p : PySem.W.Frag → Bool} {ts : List (Str × List (Str × (Str ⊕ Int)))} {g : Addr → Option Obj} {s : Shared} (h : ∀ a, g a = s.heap.get? a) : obsTG n fa fn p ts g = (hookT n fa fn p ts).obs s := by
  rw [funext h]
  rfl
mutual
def kdB (K : PySem.W.Frag) : PyData → Value → Bool
  | .int i, v => (match v with
    | .int j _ => decide (i = j)
    | _ => false)
  | .tuple ds, v => (match v with
    | .ref a => (match K.lookup a with
      | some ⟨.type x, _, .seq its _, _⟩ => decide (x = "tuple") && decide (its.size ≤ 100) && kdBs K ds its.toList
      | _ => false)
    | _ => false)
  | _, _ => false
def kdBs (K : PySem.W.Frag) : List PyData → List Value → Bool
  | [], [] => true
  | d :: ds, v :: vs => kdB K d v && kdBs K ds vs
  | _, _ => false
end
def kcB (q : Str × PyData) (K : PySem.W.Frag) : Bool := (match q.2 with | .tuple _ => true | _ => false) && kdB K q.2 (.ref (He.ga K q.1))
end Hb

/-! HOOK: the head's facts, with one more look at the classes of errors. -/
namespace Hb
open PySem PySem.Spec PyProof.Rows
open L2 hiding V Hp St
set_option autoImplicit false
theorem excB_ok {K : PySem.W.Frag} {D : Addr} (h : excB K D = true) : ExcC K D := by
  obtain ⟨h, h8⟩ := and_of h
  obtain ⟨h, h7⟩ := and_of h
  obtain ⟨h, h6⟩ := and_of h
  obtain ⟨h, h5⟩ := and_of h
  obtain ⟨h, h4⟩ := and_of h
  obtain ⟨h, h3⟩ := and_of h
  obtain ⟨h1, h2⟩ := and_of h
  exact ⟨He.eqO_ok h1, He.eqO_ok h2, of_decide_eq_true h3, h4, He.eqO_ok h5, He.eqO_ok h6, of_decide_eq_true h7, of_decide_eq_true h8⟩
theorem kdsB_ok {K : PySem.W.Frag} {c : Value} (h : kdsB K c = true) (k : Kd) : PySem.W.kitOne K (.type (kdN k)) c = some false := by
  obtain ⟨h, h7⟩ := and_of h
  obtain ⟨h, h6⟩ := and_of h
  obtain ⟨h, h5⟩ := and_of h
  obtain ⟨h, h4⟩ := and_of h
  obtain ⟨h, h3⟩ := and_of h
  obtain ⟨h1, h2⟩ := and_of h
  cases k
  · exact of_decide_eq_true h1
  · exact of_decide_eq_true h2
  · exact of_decide_eq_true h3
  · exact of_decide_eq_true h4
  · exact of_decide_eq_true h5
  · exact of_decide_eq_true h6
  · exact of_decide_eq_true h7
theorem xc_ok {w : Wo} {hu : Str} {cs : List (Nat × Str)} (hca : ∀ q ∈ cs, w.ca q.1 = He.ga w.K q.2) (hxc : w.xc = cs.map (·.1)) (hhu : w.hu = He.ga w.K hu) (h : xcB hu cs w.K = true) : XcOk w := by
  obtain ⟨h1, h2⟩ := and_of h
  have at_ : ∀ c ∈ w.xc, ∃ q ∈ cs, q.1 = c := fun c hc => by
    rw [hxc] at hc
    obtain ⟨q, hq, e⟩ := List.mem_map.mp hc
    exact ⟨q, hq, e⟩
  have row : ∀ q ∈ cs, excB w.K (w.ca q.1) = true ∧ PySem.W.exmOne w.K (.ref (w.ca q.1)) (.ref w.hu) = some true ∧ PySem.W.kitOne w.K (.ref (w.ca q.1)) (.ref w.hu) = some true ∧ PySem.W.kitOne w.K (.ref (w.ca q.1)) (.type "ValueError") = some true ∧
      kdsB w.K (.ref (w.ca q.1)) = true ∧ ∀ q' ∈ cs, Nat.blt q'.1 1000 = true → PySem.W.kitOne w.K (.ref (w.ca q.1)) (.ref (w.ca q'.1)) = some (decide (q'.1 = q.1)) := fun q hq => by
    have z := List.all_eq_true.mp h2 q hq
    obtain ⟨z, z6⟩ := and_of z
    obtain ⟨z, z5⟩ := and_of z
    obtain ⟨z, z4⟩ := and_of z
    obtain ⟨z, z3⟩ := and_of z
    obtain ⟨z1, z2⟩ := and_of z
    rw [hhu, hca q hq]
    refine ⟨z1, of_decide_eq_true z2, of_decide_eq_true z3, of_decide_eq_true z4, z5, fun q' hq' hlt => ?_⟩
    rw [hca q' hq']
    have z7 := List.all_eq_true.mp z6 q' hq'
    rw [hlt, Bool.not_true, Bool.false_or] at z7
    exact of_decide_eq_true z7
  constructor
  · intro c hc; obtain ⟨q, hq, rfl⟩ := at_ c hc; exact excB_ok (row q hq).1
  · intro c hc; obtain ⟨q, hq, rfl⟩ := at_ c hc; exact (row q hq).2.1
  · intro c hc; obtain ⟨q, hq, rfl⟩ := at_ c hc; exact (row q hq).2.2.1
  · intro c hc; obtain ⟨q, hq, rfl⟩ := at_ c hc; exact (row q hq).2.2.2.1
  · intro c hc c' hc'; obtain ⟨q, hq, rfl⟩ := at_ c hc; obtain ⟨q', hq', rfl⟩ := at_ c' hc'; exact (row q hq).2.2.2.2.2 q' hq'
  · intro k; rw [hhu]; exact kdsB_ok h1 k
  · intro k c hc; obtain ⟨q, hq, rfl⟩ := at_ c hc; exact kdsB_ok (row q hq).2.2.2.2.1 k
theorem xk_ok {mg : Str → Option Value} {w : Wo} {c : Nat} {x : Str} (hm : c ∈ w.xc) (hca : w.ca c = He.ga w.K x) (g : mg x = some (.ref (He.ga w.K x))) (h : (He.Fa.exc x).ok w.K = true) : XkOk mg w (c, x, true) := by
  refine ⟨hm, by show mg x = some (.ref (w.ca c)); rw [hca]; exact g, fun _ => ?_⟩
  show PySem.W.excIn w.K (w.ca c) He.veBase "ValueError.__new__" = true ∧ PySem.W.keepIn w.K (.ref (w.ca c)) = true ∧ PySem.W.subIn w.K (.ref (w.ca c)) (.type "BaseException") = some true ∧ PySem.W.typeIn w.K (.ref (w.ca c)) = some (.type "type")
  rw [hca]
  exact He.exc_ok h
theorem xk_ok' {mg : Str → Option Value} {w : Wo} {c : Nat} {x : Str} (hm : c ∈ w.xc) (hca : w.ca c = He.ga w.K x) (g : mg x = some (.ref (He.ga w.K x))) : XkOk mg w (c, x, false) := by
  refine ⟨hm, by show mg x = some (.ref (w.ca c)); rw [hca]; exact g, fun z => by cases z⟩
/-! ### dicts of the module, from texts to defs -/
/-- by what name a value is told -/
def NmOk (w : Wo) (nm : Nat → Str ⊕ Int) (g : Nat) : Prop := match Nat.blt g 1000000 with
  | true => ∃ x, nm g = .inl x ∧ w.fa g = He.fAd w.K (x, none)
  | false => nm g = .inr ((g - 1000000 : Nat) : Int)
theorem vl_ok {w : Wo} {nm : Nat → Str ⊕ Int} {g : Nat} {v : Value} (h : NmOk w nm g) (hv : vlB w.K v (nm g) = true) : VlR w g v := by
  unfold NmOk at h
  unfold VlR
  cases e : Nat.blt g 1000000 with
  | true =>
    rw [e] at h
    obtain ⟨x, h1, h2⟩ := h
    rw [h1] at hv
    have hv : decide (v = .ref (He.fAd w.K (x, none))) = true := hv
    show v = _
    rw [of_decide_eq_true hv, h2]
  | false =>
    rw [e] at h
    have h : nm g = .inr ((g - 1000000 : Nat) : Int) := h
    rw [h] at hv
    show ∃ t, v = _
    cases v with
    | int j t =>
      have hv : decide (j = ((g - 1000000 : Nat) : Int)) = true := hv
      exact ⟨t, by rw [of_decide_eq_true hv]⟩
    | _ => cases hv
theorem zip_ok {w : Wo} (nm : Nat → Str ⊕ Int) : ∀ {kvs : List (Str × Nat)} {es : List DictEntry}, (∀ q ∈ kvs, NmOk w nm q.2) →
    zipT w.K es (kvs.map fun q => (q.1, nm q.2)) = (kvs.map fun q => (q.1, nm q.2)).map (fun q => (some q.1, PyData.keyHash w.pm q.1, true)) → All2 (EnR w) kvs es
  | [], [], _, _ => .nil
  | [], _ :: _, _, h => by cases h
  | _ :: _, [], _, h => by
    have h : [((none : Option Str), (0 : Int), false)] = _ := h
    injection h with h1 _
    injection h1 with h1 _
    cases h1
  | q :: kvs, e :: es, hf, h => by
    have h : (keyO e.key, e.hash, vlB w.K e.val (nm q.2)) :: zipT w.K es (kvs.map fun q => (q.1, nm q.2)) = (some q.1, PyData.keyHash w.pm q.1, true) :: (kvs.map fun q => (q.1, nm q.2)).map (fun q => (some q.1, PyData.keyHash w.pm q.1, true)) := h
    injection h with h1 h2
    injection h1 with h1 h3
    injection h3 with h3 h4
    refine .cons ⟨?_, h3, vl_ok (hf q (by simp)) h4⟩ (zip_ok nm (fun q hq => hf q (by simp [hq])) h2)
    unfold keyO at h1
    split at h1
    · rename_i x t ek
      cases h1
      exact ⟨t, ek⟩
    · cases h1
theorem dtab_ok {mg : Str → Option Value} {w : Wo} {x : Str} {kvs : List (Str × Nat)} (nm : Nat → Str ⊕ Int) (hf : ∀ q ∈ kvs, NmOk w nm q.2) (g : mg x = some (.ref (He.ga w.K x)))
    (h : tabO w.K (x, kvs.map fun q => (q.1, nm q.2)) = tabV w.pm (x, kvs.map fun q => (q.1, nm q.2))) : DcOk mg w (x, kvs) := by
  unfold tabO at h
  cases hl : w.K.lookup (He.ga w.K x) with
  | none => rw [hl] at h; cases h
  | some o =>
    rw [hl] at h
    dsimp only at h
    split at h
    · rename_i hc
      obtain ⟨hc, h4⟩ := and_of hc
      obtain ⟨hc, h3⟩ := and_of hc
      obtain ⟨h1, h2⟩ := and_of hc
      obtain ⟨c, dd, dt, sl⟩ := o
      have e1 : c = .type "dict" := of_decide_eq_true h1
      have e2 : dd = none := of_decide_eq_true h2
      have e3 : sl = #[] := by simpa using h3
      subst e1 e2 e3
      dsimp only at h
      split at h
      ·
        injection h with h
        exact ⟨_, _, _, g, hl, by simpa using h4, zip_ok nm hf h⟩
      · cases h
    · cases h
/-! ### tuples of the module -/
mutual
theorem kdB_ok {K : PySem.W.Frag} : ∀ {d : D} {v : Value}, kdB K d v = true → ∃ u : L2.V, RelV u v ∧ ∀ H, Dp K H u d
  | .int i, v, h => by
    unfold kdB at h
    split at h
    · rename_i j t
      rw [of_decide_eq_true h]
      exact ⟨.int j, ⟨t, rfl⟩, fun H => .int j⟩
    · cases h
  | .tuple ds, v, h => by
    unfold kdB at h
    split at h
    · rename_i a
      split at h
      · rename_i x dd its n sl hl
        obtain ⟨h, h3⟩ := and_of h
        obtain ⟨h1, h2⟩ := and_of h
        have h1 := of_decide_eq_true h1
        have h2 := of_decide_eq_true h2
        subst h1
        obtain ⟨us, r1, r2⟩ := kdBs_ok h3
        refine ⟨.ref a, rfl, fun H => .tup (xs := us) (.inr ⟨_, its, n, hl, rfl, rfl, ?_, r1⟩) (r2 H)⟩
        exact Nat.le_trans h2 (by decide)
      · cases h
    · cases h
  | .none, v, h => by unfold kdB at h; cases h
  | .bool _, v, h => by unfold kdB at h; cases h
  | .str _, v, h => by unfold kdB at h; cases h
  | .list _, v, h => by unfold kdB at h; cases h
  | .dict _, v, h => by unfold kdB at h; cases h
theorem kdBs_ok {K : PySem.W.Frag} : ∀ {ds : List D} {vs : List Value}, kdBs K ds vs = true → ∃ us : List L2.V, Vals us vs ∧ ∀ H, DpAll K H us ds
  | [], [], _ => ⟨[], .nil, fun _ => .nil⟩
  | d :: ds, v :: vs, h => by
    have h : (kdB K d v && kdBs K ds vs) = true := by unfold kdBs at h; exact h
    obtain ⟨h1, h2⟩ := and_of h
    obtain ⟨u, r1, r2⟩ := kdB_ok h1
    obtain ⟨us, r3, r4⟩ := kdBs_ok h2
    exact ⟨u :: us, .cons r1 r3, fun H => .cons (r2 H) (r4 H)⟩
  | [], _ :: _, h => by unfold kdBs at h; cases h
  | _ :: _, [], h => by unfold kdBs at h; cases h
end
theorem kc_ok {mg : Str → Option Value} {w : Wo} {q : Str × D} (g : mg q.1 = some (.ref (He.ga w.K q.1))) (sh : shp q.2) (h : kcB q w.K = true) : KcOk mg w q := by
  obtain ⟨h1, h2⟩ := and_of h
  obtain ⟨u, r, dp⟩ := kdB_ok h2
  have hu : u = .ref (He.ga w.K q.1) := by
    have := dp (fun _ => none)
    cases u with
    | ref a => have r : Value.ref (He.ga w.K q.1) = .ref a := r; cases r; rfl
    | _ =>
      obtain ⟨x, d⟩ := q
      cases d with
      | tuple ds => cases this
      | _ => cases h1
  subst hu
  exact ⟨_, g, dp, sh⟩
end Hb

/-! TB: the texts. -/
namespace Hb
open PySem
set_option autoImplicit false
def fieldN : List Str := ["came_by", "case_now", "case_there", "colour", "colour_held", "colours_held", "elder_held", "gone_through", "group", "hues_now", "known_ends", "open_rows", "outcome", "over_flags", "points_judged", "points_sought", "row", "rows_held", "size_held", "splits_held", "spots_held", "swaps_known", "swaps_let", "table_held", "tie_order", "webs_judged", "webs_sought", "whole_held", "wide_held"]
def tb__law_pouch_k01 : T :=
  (.cons (.ret (.lst true (.cons (.o2 .max2 (.con (.int 0)) (.o2 .sub (.var 0) (.o2 .pow (.con (.int 10)) (.con (.int 18))))) (.cons (.o2 .add (.o2 .mod (.var 0) (.o2 .add (.o2 .pow (.con (.int 10)) (.con (.int 41))) (.con (.int 49)))) (.o2 .mul (.con (.int 104729)) (.var 1))) (.cons (.con (.int 0)) .nil)))))
  .nil)
def ix__law_pouch_k01 : FnI := ⟨2, 2, 0, tb__law_pouch_k01⟩
def C__law_pouch_k01 (FT : List FnI) (g : Nat) : Prop := FT[g]? = some (ix__law_pouch_k01)
def tb__law_reach_k01 : T :=
  (.cons (.ifs (.o2 .gt (.o2 .idx (.var 0) (.con (.int 0))) (.con (.int 0))) (.cons (.asg (.tnm 3) (.o2 .mod (.o2 .idx (.var 0) (.con (.int 0))) (.var 1)))
    (.cons (.asg (.tsb (.var 0) (.con (.int 0))) (.o2 .fdiv (.o2 .idx (.var 0) (.con (.int 0))) (.var 1)))
    (.cons (.ret (.var 3))
    .nil))) .nil)
  (.cons (.augs .add (.var 0) (.con (.int 2)) (.con (.int 1)))
  (.cons (.asg (.tnm 2) (.o2 .mod (.o2 .pow (.o2 .add (.o2 .idx (.var 0) (.con (.int 1))) (.o2 .mul (.con (.int 32452867)) (.o2 .idx (.var 0) (.con (.int 2))))) (.con (.int 5))) (.o2 .add (.o2 .pow (.con (.int 10)) (.con (.int 39))) (.con (.int 3)))))
  (.cons (.asg (.tnm 2) (.o2 .mod (.o2 .pow (.o2 .add (.var 2) (.o2 .mul (.o2 .mul (.con (.int 15485867)) (.o2 .idx (.var 0) (.con (.int 2)))) (.o2 .idx (.var 0) (.con (.int 2))))) (.con (.int 3))) (.o2 .add (.o2 .pow (.con (.int 10)) (.con (.int 37))) (.con (.int 43)))))
  (.cons (.ret (.o2 .mod (.o2 .fdiv (.var 2) (.con (.int 4096))) (.var 1)))
  .nil)))))
def ix__law_reach_k01 : FnI := ⟨2, 4, 0, tb__law_reach_k01⟩
def C__law_reach_k01 (FT : List FnI) (g : Nat) : Prop := FT[g]? = some (ix__law_reach_k01)
def tb__law_pairs_k01 : T :=
  (.cons (.asg (.tnm 1) (.lst true .nil))
  (.cons (.for_ (.tnm 2) (.rng1 (.var 0)) (.cons (.exp (.mtd .extend (.var 1) (.cons (.cmp1 false (.rng2 (.o2 .add (.var 2) (.con (.int 1))) (.var 0)) (.tnm 3) .nil (.tup (.cons (.var 2) (.cons (.var 3) .nil))) [3]) .nil)))
    .nil))
  (.cons (.frz 1)
  (.cons (.ret (.var 1))
  .nil))))
def ix__law_pairs_k01 : FnI := ⟨1, 4, 0, tb__law_pairs_k01⟩
def C__law_pairs_k01 (FT : List FnI) (g : Nat) : Prop := FT[g]? = some (ix__law_pairs_k01)
def tb__law_mesh_k01 (f__law_reach : Nat) (f__law_pairs : Nat) : T :=
  (.cons (.asg (.tnm 2) (.call f__law_reach (.cons (.var 0) (.cons (.con (.int 8)) .nil))))
  (.cons (.asg (.tnm 3) (.o2 .add (.con (.int 1)) (.call f__law_reach (.cons (.var 0) (.cons (.con (.int 4)) .nil)))))
  (.cons (.asg (.tnm 4) (.lst true .nil))
  (.cons (.for_ (.ttp (.cons (.tnm 5) (.cons (.tnm 6) .nil))) (.itv (.call f__law_pairs (.cons (.var 1) .nil))) (.cons (.asg (.tnm 7) (.o2 .lt (.call f__law_reach (.cons (.var 0) (.cons (.con (.int 5)) .nil))) (.var 3)))
    (.cons (.asg (.tnm 8) (.o2 .eq (.var 6) (.o2 .add (.var 5) (.con (.int 1)))))
    (.cons (.ifs (.o2 .idx (.lst false (.cons (.con (.bool true)) (.cons (.or (.var 8) (.o2 .eq (.var 6) (.o2 .sub (.o2 .add (.var 5) (.var 1)) (.con (.int 1))))) (.cons (.var 8) (.cons (.o2 .eq (.var 5) (.con (.int 0))) (.cons (.var 7) .nil)))))) (.o2 .min2 (.var 2) (.con (.int 4)))) (.cons (.exp (.mtd .append (.var 4) (.cons (.tup (.cons (.var 5) (.cons (.var 6) .nil))) .nil)))
      .nil) .nil)
    .nil))))
  (.cons (.ret (.tup (.cons (.var 1) (.cons (.o1 .tuple (.var 4)) .nil))))
  .nil)))))
def ix__law_mesh_k01 (f__law_reach : Nat) (f__law_pairs : Nat) : FnI := ⟨2, 9, 0, tb__law_mesh_k01 f__law_reach f__law_pairs⟩
def C__law_mesh_k01 (FT : List FnI) (g : Nat) : Prop := ∃ f__law_reach f__law_pairs : Nat, FT[g]? = some (ix__law_mesh_k01 f__law_reach f__law_pairs) ∧ C__law_reach_k01 FT f__law_reach ∧ C__law_pairs_k01 FT f__law_pairs
def tb_may_go : T :=
  (.cons (.ifs (.o2 .in_ (.var 3) (.var 2)) (.cons (.ret (.con (.bool false)))
    .nil) .nil)
  (.cons (.for_ (.ttp (.cons (.tnm 5) (.cons (.tnm 6) .nil))) (.enm 0 (.var 2)) (.cons (.asg (.tnm 7) (.o2 .in_ (.tup (.cons (.var 5) (.cons (.o1 .len (.var 2)) .nil))) (.o2 .idx (.var 0) (.con (.int 1)))))
    (.cons (.asg (.tnm 8) (.o2 .in_ (.tup (.cons (.o2 .min2 (.var 6) (.var 3)) (.cons (.o2 .max2 (.var 6) (.var 3)) .nil))) (.o2 .idx (.var 1) (.con (.int 1)))))
    (.cons (.ifs (.or (.and (.var 7) (.not (.var 8))) (.and (.var 4) (.and (.var 8) (.not (.var 7))))) (.cons (.ret (.con (.bool false)))
      .nil) .nil)
    .nil))))
  (.cons (.ret (.con (.bool true)))
  .nil)))
def ix_may_go : FnI := ⟨5, 9, 0, tb_may_go⟩
def C_may_go (FT : List FnI) (g : Nat) : Prop := FT[g]? = some (ix_may_go)
def tb_longer_ways (f_may_go : Nat) : T :=
  (.cons (.ret (.cmp1 false (.rng1 (.o2 .idx (.var 1) (.con (.int 0)))) (.tnm 4) (.cons (.call f_may_go (.cons (.var 0) (.cons (.var 1) (.cons (.var 2) (.cons (.var 4) (.cons (.var 3) .nil)))))) .nil) (.o2 .add (.var 2) (.tup (.cons (.var 4) .nil))) [4]))
  .nil)
def ix_longer_ways (f_may_go : Nat) : FnI := ⟨4, 5, 0, tb_longer_ways f_may_go⟩
def C_longer_ways (FT : List FnI) (g : Nat) : Prop := ∃ f_may_go : Nat, FT[g]? = some (ix_longer_ways f_may_go) ∧ C_may_go FT f_may_go
def tb_first_way (f_longer_ways : Nat) : T :=
  (.cons (.asg (.tnm 3) (.lst true (.cons (.tup .nil) .nil)))
  (.cons (.whl (.o2 .ne (.var 3) (.lst false .nil)) (.cons (.asg (.tnm 4) (.mtd .pop (.var 3) .nil))
    (.cons (.ifs (.o2 .eq (.o1 .len (.var 4)) (.o2 .idx (.var 0) (.con (.int 0)))) (.cons (.ret (.var 4))
      .nil) .nil)
    (.cons (.exp (.mtd .extend (.var 3) (.cons (.o1 .rev (.call f_longer_ways (.cons (.var 0) (.cons (.var 1) (.cons (.var 4) (.cons (.var 2) .nil)))))) .nil)))
    .nil))))
  (.cons (.ret (.con .none))
  .nil)))
def ix_first_way (f_longer_ways : Nat) : FnI := ⟨3, 5, 0, tb_first_way f_longer_ways⟩
def C_first_way (FT : List FnI) (g : Nat) : Prop := ∃ f_longer_ways : Nat, FT[g]? = some (ix_first_way f_longer_ways) ∧ C_longer_ways FT f_longer_ways
def tb_like_way (f_first_way : Nat) : T :=
  (.cons (.ifs (.o2 .ne (.o2 .idx (.var 0) (.con (.int 0))) (.o2 .idx (.var 1) (.con (.int 0)))) (.cons (.ret (.con .none))
    .nil) .nil)
  (.cons (.ret (.call f_first_way (.cons (.var 0) (.cons (.var 1) (.cons (.con (.bool true)) .nil)))))
  .nil))
def ix_like_way (f_first_way : Nat) : FnI := ⟨2, 2, 0, tb_like_way f_first_way⟩
def C_like_way (FT : List FnI) (g : Nat) : Prop := ∃ f_first_way : Nat, FT[g]? = some (ix_like_way f_first_way) ∧ C_first_way FT f_first_way
def tb_own_ways (f_longer_ways : Nat) : T :=
  (.cons (.asg (.tnm 1) (.lst false (.cons (.tup .nil) .nil)))
  (.cons (.for_ (.tnm 2) (.rng1 (.o2 .idx (.var 0) (.con (.int 0)))) (.cons (.asg (.tnm 1) (.cmp2 false (.itv (.var 1)) (.tnm 3) .nil (.itv (.call f_longer_ways (.cons (.var 0) (.cons (.var 0) (.cons (.var 3) (.cons (.con (.bool true)) .nil)))))) (.tnm 4) .nil (.var 4) [3, 4] [4]))
    .nil))
  (.cons (.ret (.o1 .len (.var 1)))
  .nil)))
def ix_own_ways (f_longer_ways : Nat) : FnI := ⟨1, 5, 0, tb_own_ways f_longer_ways⟩
def C_own_ways (FT : List FnI) (g : Nat) : Prop := ∃ f_longer_ways : Nat, FT[g]? = some (ix_own_ways f_longer_ways) ∧ C_longer_ways FT f_longer_ways
def tb__law_numbered_k02 (f__law_reach : Nat) : T :=
  (.cons (.asg (.tnm 2) (.own (.o1 .lrange (.o2 .idx (.var 1) (.con (.int 0))))))
  (.cons (.asg (.tnm 3) (.cmp1 false (.rng1 (.o2 .idx (.var 1) (.con (.int 0)))) (.tnm 5) .nil (.mtd .popat (.var 2) (.cons (.call f__law_reach (.cons (.var 0) (.cons (.o1 .len (.var 2)) .nil))) .nil)) [5]))
  (.cons (.asg (.tnm 4) (.cmp1 false (.itv (.o2 .idx (.var 1) (.con (.int 1)))) (.ttp (.cons (.tnm 6) (.cons (.tnm 7) .nil))) .nil (.o1 .sorted (.lst false (.cons (.o2 .idx (.var 3) (.var 6)) (.cons (.o2 .idx (.var 3) (.var 7)) .nil)))) [6, 7]))
  (.cons (.ret (.tup (.cons (.o2 .idx (.var 1) (.con (.int 0))) (.cons (.o1 .tuple (.o1 .sorted (.cmp1 false (.itv (.var 4)) (.tnm 8) .nil (.tup (.cons (.o2 .idx (.var 8) (.con (.int 0))) (.cons (.o2 .idx (.var 8) (.con (.int 1))) .nil))) [8]))) .nil))))
  .nil))))
def ix__law_numbered_k02 (f__law_reach : Nat) : FnI := ⟨2, 9, 0, tb__law_numbered_k02 f__law_reach⟩
def C__law_numbered_k02 (FT : List FnI) (g : Nat) : Prop := ∃ f__law_reach : Nat, FT[g]? = some (ix__law_numbered_k02 f__law_reach) ∧ C__law_reach_k01 FT f__law_reach
def tb__law_bent_k02 (f__law_pairs : Nat) (f__law_reach : Nat) : T :=
  (.cons (.asg (.tnm 2) (.call f__law_pairs (.cons (.o2 .idx (.var 1) (.con (.int 0))) .nil)))
  (.cons (.ifs (.o2 .eq (.var 2) (.lst false .nil)) (.cons (.ret (.var 1))
    .nil) .nil)
  (.cons (.asg (.tnm 3) (.o2 .idx (.var 2) (.call f__law_reach (.cons (.var 0) (.cons (.o1 .len (.var 2)) .nil)))))
  (.cons (.asg (.tnm 4) (.cmp1 true (.itv (.o2 .idx (.var 1) (.con (.int 1)))) (.tnm 5) (.cons (.o2 .ne (.var 5) (.var 3)) .nil) (.var 5) [5]))
  (.cons (.ifs (.o2 .eq (.o1 .len (.var 4)) (.o1 .len (.o2 .idx (.var 1) (.con (.int 1))))) (.cons (.exp (.mtd .append (.var 4) (.cons (.var 3) .nil)))
    .nil) .nil)
  (.cons (.ret (.tup (.cons (.o2 .idx (.var 1) (.con (.int 0))) (.cons (.o1 .tuple (.o1 .sorted (.var 4))) .nil))))
  .nil))))))
def ix__law_bent_k02 (f__law_pairs : Nat) (f__law_reach : Nat) : FnI := ⟨2, 6, 0, tb__law_bent_k02 f__law_pairs f__law_reach⟩
def C__law_bent_k02 (FT : List FnI) (g : Nat) : Prop := ∃ f__law_pairs f__law_reach : Nat, FT[g]? = some (ix__law_bent_k02 f__law_pairs f__law_reach) ∧ C__law_pairs_k01 FT f__law_pairs ∧ C__law_reach_k01 FT f__law_reach
def tb__law_whole_k02 : T :=
  (.cons (.ret (.and (.isi (.var 0) [.int]) (.not (.isi (.var 0) [.bool]))))
  .nil)
def ix__law_whole_k02 : FnI := ⟨1, 1, 0, tb__law_whole_k02⟩
def C__law_whole_k02 (FT : List FnI) (g : Nat) : Prop := FT[g]? = some (ix__law_whole_k02)
def tb__law_orders_k02 : T :=
  (.cons (.asg (.tnm 1) (.lst false (.cons (.tup .nil) .nil)))
  (.cons (.for_ (.tnm 2) (.rng1 (.var 0)) (.cons (.asg (.tnm 3) (.lst true .nil))
    (.cons (.for_ (.tnm 4) (.itv (.var 1)) (.cons (.exp (.mtd .extend (.var 3) (.cons (.cmp1 false (.rng1 (.var 0)) (.tnm 5) (.cons (.o2 .notin (.var 5) (.var 4)) .nil) (.o2 .add (.var 4) (.tup (.cons (.var 5) .nil))) [5]) .nil)))
      .nil))
    (.cons (.frz 3)
    (.cons (.asg (.tnm 1) (.var 3))
    .nil)))))
  (.cons (.ret (.var 1))
  .nil)))
def ix__law_orders_k02 : FnI := ⟨1, 6, 0, tb__law_orders_k02⟩
def C__law_orders_k02 (FT : List FnI) (g : Nat) : Prop := FT[g]? = some (ix__law_orders_k02)
def tb__law_alike_k02 (f__law_whole : Nat) : T :=
  (.cons (.ifs (.o2 .is (.var 1) (.con .none)) (.cons (.ret (.o2 .is (.var 0) (.con .none)))
    .nil) .nil)
  (.cons (.ret (.and (.isi (.var 0) [.tuple]) (.and (.o1 .all (.cmp1 false (.itv (.var 0)) (.tnm 2) .nil (.call f__law_whole (.cons (.var 2) .nil)) [2])) (.o2 .eq (.var 0) (.var 1)))))
  .nil))
def ix__law_alike_k02 (f__law_whole : Nat) : FnI := ⟨2, 3, 0, tb__law_alike_k02 f__law_whole⟩
def C__law_alike_k02 (FT : List FnI) (g : Nat) : Prop := ∃ f__law_whole : Nat, FT[g]? = some (ix__law_alike_k02 f__law_whole) ∧ C__law_whole_k02 FT f__law_whole
def tb_lies_way (f_first_way : Nat) : T :=
  (.cons (.ret (.call f_first_way (.cons (.var 0) (.cons (.var 1) (.cons (.con (.bool false)) .nil)))))
  .nil)
def ix_lies_way (f_first_way : Nat) : FnI := ⟨2, 2, 0, tb_lies_way f_first_way⟩
def C_lies_way (FT : List FnI) (g : Nat) : Prop := ∃ f_first_way : Nat, FT[g]? = some (ix_lies_way f_first_way) ∧ C_first_way FT f_first_way
def tb_ties_of : T :=
  (.cons (.ret (.cmp2 false (.rng1 (.var 0)) (.tnm 1) .nil (.rng2 (.o2 .add (.var 1) (.con (.int 1))) (.var 0)) (.tnm 2) .nil (.tup (.cons (.var 1) (.cons (.var 2) .nil))) [1, 2] [2]))
  .nil)
def ix_ties_of : FnI := ⟨1, 3, 0, tb_ties_of⟩
def C_ties_of (FT : List FnI) (g : Nat) : Prop := FT[g]? = some (ix_ties_of)
def tb_hues_by_ties (f_ties_of : Nat) : T :=
  (.cons (.asg (.ttp (.cons (.tnm 2) (.cons (.tnm 3) .nil))) (.var 0))
  (.cons (.asg (.tnm 1) (.dnew true))
  (.cons (.for_ (.ttp (.cons (.ttp (.cons (.tnm 5) (.cons (.tnm 6) .nil))) (.cons (.tnm 4) .nil))) (.zip2 (.call f_ties_of (.cons (.var 2) .nil)) (.var 3)) (.cons (.asg (.tsb (.var 1) (.tup (.cons (.var 5) (.cons (.var 6) .nil)))) (.var 4))
    (.cons (.asg (.tsb (.var 1) (.tup (.cons (.var 6) (.cons (.var 5) .nil)))) (.var 4))
    .nil)))
  (.cons (.frz 1)
  (.cons (.ret (.var 1))
  .nil)))))
def ix_hues_by_ties (f_ties_of : Nat) : FnI := ⟨1, 7, 0, tb_hues_by_ties f_ties_of⟩
def C_hues_by_ties (FT : List FnI) (g : Nat) : Prop := ∃ f_ties_of : Nat, FT[g]? = some (ix_hues_by_ties f_ties_of) ∧ C_ties_of FT f_ties_of
def tb_Hunt___init__ (f_hues_by_ties : Nat) : T :=
  (.cons (.asg (.ttp (.cons (.tnm 4) (.cons (.tnm 5) .nil))) (.var 1))
  (.cons (.asg (.tsf 2 (.var 0) 18) (.var 4))
  (.cons (.asg (.tsf 2 (.var 0) 6) (.cmp1 false (.rng1 (.var 4)) (.tnm 6) .nil (.cmp1 false (.itv (.var 5)) (.ttp (.cons (.tnm 7) (.cons (.tnm 8) .nil))) (.cons (.o2 .eq (.var 8) (.var 6)) .nil) (.var 7) [7, 8]) [6]))
  (.cons (.asg (.tsf 2 (.var 0) 28) (.o2 .idx (.var 2) (.con (.int 0))))
  (.cons (.asg (.tsf 2 (.var 0) 23) (.call f_hues_by_ties (.cons (.var 2) .nil)))
  (.cons (.asg (.tsf 2 (.var 0) 4) (.var 3))
  .nil))))))
def ix_Hunt___init__ (f_hues_by_ties : Nat) : FnI := ⟨4, 9, 1, tb_Hunt___init__ f_hues_by_ties⟩
def C_Hunt___init__ (FT : List FnI) (g : Nat) : Prop := ∃ f_hues_by_ties : Nat, FT[g]? = some (ix_Hunt___init__ f_hues_by_ties) ∧ C_hues_by_ties FT f_hues_by_ties
def tb_Hunt_may_come : T :=
  (.cons (.ifs (.o2 .in_ (.var 2) (.var 1)) (.cons (.ret (.con (.bool false)))
    .nil) .nil)
  (.cons (.asg (.tnm 3) (.o2 .idx (.fld 2 (.var 0) 6) (.o1 .len (.var 1))))
  (.cons (.ret (.o1 .all (.cmp1 false (.itv (.var 3)) (.tnm 4) .nil (.o2 .eq (.o2 .idx (.fld 2 (.var 0) 23) (.tup (.cons (.o2 .idx (.var 1) (.var 4)) (.cons (.var 2) .nil)))) (.fld 2 (.var 0) 4)) [4])))
  .nil)))
def ix_Hunt_may_come : FnI := ⟨3, 5, 1, tb_Hunt_may_come⟩
def C_Hunt_may_come (FT : List FnI) (g : Nat) : Prop := FT[g]? = some (ix_Hunt_may_come)
def tb_Hunt_longer_ones (f_Hunt_may_come : Nat) : T :=
  (.cons (.ret (.cmp1 false (.rng1 (.fld 2 (.var 0) 28)) (.tnm 2) (.cons (.meth 2 f_Hunt_may_come (.var 0) (.cons (.var 1) (.cons (.var 2) .nil))) .nil) (.o2 .add (.var 1) (.tup (.cons (.var 2) .nil))) [2]))
  .nil)
def ix_Hunt_longer_ones (f_Hunt_may_come : Nat) : FnI := ⟨2, 3, 1, tb_Hunt_longer_ones f_Hunt_may_come⟩
def C_Hunt_longer_ones (FT : List FnI) (g : Nat) : Prop := ∃ f_Hunt_may_come : Nat, FT[g]? = some (ix_Hunt_longer_ones f_Hunt_may_come) ∧ C_Hunt_may_come FT f_Hunt_may_come
def tb_Hunt_first_one (f_Hunt_longer_ones : Nat) : T :=
  (.cons (.asg (.tnm 1) (.lst true (.cons (.tup .nil) .nil)))
  (.cons (.whl (.o2 .ne (.var 1) (.lst false .nil)) (.cons (.asg (.tnm 2) (.mtd .pop (.var 1) .nil))
    (.cons (.ifs (.o2 .eq (.o1 .len (.var 2)) (.fld 2 (.var 0) 18)) (.cons (.ret (.var 2))
      .nil) .nil)
    (.cons (.exp (.mtd .extend (.var 1) (.cons (.o1 .rev (.meth 2 f_Hunt_longer_ones (.var 0) (.cons (.var 2) .nil))) .nil)))
    .nil))))
  (.cons (.ret (.con .none))
  .nil)))
def ix_Hunt_first_one (f_Hunt_longer_ones : Nat) : FnI := ⟨1, 3, 1, tb_Hunt_first_one f_Hunt_longer_ones⟩
def C_Hunt_first_one (FT : List FnI) (g : Nat) : Prop := ∃ f_Hunt_longer_ones : Nat, FT[g]? = some (ix_Hunt_first_one f_Hunt_longer_ones) ∧ C_Hunt_longer_ones FT f_Hunt_longer_ones
def tb_Hunt_count_all (f_Hunt_longer_ones : Nat) : T :=
  (.cons (.asg (.tnm 1) (.lst false (.cons (.tup .nil) .nil)))
  (.cons (.for_ (.tnm 2) (.rng1 (.o2 .sub (.fld 2 (.var 0) 18) (.con (.int 1)))) (.cons (.asg (.tnm 1) (.cmp2 false (.itv (.var 1)) (.tnm 3) .nil (.itv (.meth 2 f_Hunt_longer_ones (.var 0) (.cons (.var 3) .nil))) (.tnm 4) .nil (.var 4) [3, 4] [4]))
    .nil))
  (.cons (.ret (.o1 .sum (.cmp1 false (.itv (.var 1)) (.tnm 3) .nil (.o1 .len (.meth 2 f_Hunt_longer_ones (.var 0) (.cons (.var 3) .nil))) [3])))
  .nil)))
def ix_Hunt_count_all (f_Hunt_longer_ones : Nat) : FnI := ⟨1, 5, 1, tb_Hunt_count_all f_Hunt_longer_ones⟩
def C_Hunt_count_all (FT : List FnI) (g : Nat) : Prop := ∃ f_Hunt_longer_ones : Nat, FT[g]? = some (ix_Hunt_count_all f_Hunt_longer_ones) ∧ C_Hunt_longer_ones FT f_Hunt_longer_ones
def tb_first_group (f_Hunt_first_one : Nat) (f_Hunt___init__ : Nat) : T :=
  (.cons (.ret (.meth 2 f_Hunt_first_one (.make 2 f_Hunt___init__ (.cons (.o2 .idx (.var 0) (.var 2)) (.cons (.var 1) (.cons (.var 2) .nil)))) .nil))
  .nil)
def ix_first_group (f_Hunt_first_one : Nat) (f_Hunt___init__ : Nat) : FnI := ⟨3, 3, 0, tb_first_group f_Hunt_first_one f_Hunt___init__⟩
def C_first_group (FT : List FnI) (g : Nat) : Prop := ∃ f_Hunt_first_one f_Hunt___init__ : Nat, FT[g]? = some (ix_first_group f_Hunt_first_one f_Hunt___init__) ∧ C_Hunt_first_one FT f_Hunt_first_one ∧ C_Hunt___init__ FT f_Hunt___init__
def tb_many_groups (f_Hunt_count_all : Nat) (f_Hunt___init__ : Nat) : T :=
  (.cons (.ret (.meth 2 f_Hunt_count_all (.make 2 f_Hunt___init__ (.cons (.o2 .idx (.var 0) (.var 2)) (.cons (.var 1) (.cons (.var 2) .nil)))) .nil))
  .nil)
def ix_many_groups (f_Hunt_count_all : Nat) (f_Hunt___init__ : Nat) : FnI := ⟨3, 3, 0, tb_many_groups f_Hunt_count_all f_Hunt___init__⟩
def C_many_groups (FT : List FnI) (g : Nat) : Prop := ∃ f_Hunt_count_all f_Hunt___init__ : Nat, FT[g]? = some (ix_many_groups f_Hunt_count_all f_Hunt___init__) ∧ C_Hunt_count_all FT f_Hunt_count_all ∧ C_Hunt___init__ FT f_Hunt___init__
def tb_breach (f_first_group : Nat) : T :=
  (.cons (.for_ (.tnm 2) (.rng1 (.o1 .len (.var 0))) (.cons (.asg (.tnm 3) (.call f_first_group (.cons (.var 0) (.cons (.var 1) (.cons (.var 2) .nil)))))
    (.cons (.ifs (.o2 .isnot (.var 3) (.con .none)) (.cons (.ret (.tup (.cons (.var 2) (.cons (.var 3) .nil))))
      .nil) .nil)
    .nil)))
  (.cons (.ret (.con .none))
  .nil))
def ix_breach (f_first_group : Nat) : FnI := ⟨2, 4, 0, tb_breach f_first_group⟩
def C_breach (FT : List FnI) (g : Nat) : Prop := ∃ f_first_group : Nat, FT[g]? = some (ix_breach f_first_group) ∧ C_first_group FT f_first_group
def tb__law_bag_k15 : T :=
  (.cons (.ret (.lst true (.cons (.o2 .max2 (.con (.int 0)) (.o2 .sub (.var 0) (.o2 .pow (.con (.int 10)) (.con (.int 18))))) (.cons (.o2 .pow (.o2 .add (.o2 .add (.o2 .mod (.var 0) (.o2 .add (.o2 .pow (.con (.int 10)) (.con (.int 40))) (.con (.int 121)))) (.o2 .mul (.con (.int 7919)) (.var 1))) (.con (.int 1))) (.con (.int 3))) (.cons (.con (.int 0)) .nil)))))
  .nil)
def ix__law_bag_k15 : FnI := ⟨2, 2, 0, tb__law_bag_k15⟩
def C__law_bag_k15 (FT : List FnI) (g : Nat) : Prop := FT[g]? = some (ix__law_bag_k15)
def tb__law_draw_k15 : T :=
  (.cons (.ifs (.o2 .gt (.o2 .idx (.var 0) (.con (.int 0))) (.con (.int 0))) (.cons (.asg (.tnm 2) (.o2 .mod (.o2 .idx (.var 0) (.con (.int 0))) (.var 1)))
    (.cons (.asg (.tsb (.var 0) (.con (.int 0))) (.o2 .fdiv (.o2 .idx (.var 0) (.con (.int 0))) (.var 1)))
    (.cons (.ret (.var 2))
    .nil))) .nil)
  (.cons (.asg (.tsb (.var 0) (.con (.int 2))) (.o2 .add (.o2 .idx (.var 0) (.con (.int 2))) (.con (.int 1))))
  (.cons (.asg (.tsb (.var 0) (.con (.int 1))) (.o2 .mod (.o2 .add (.o2 .add (.o2 .pow (.o2 .idx (.var 0) (.con (.int 1))) (.con (.int 3))) (.o2 .mul (.con (.int 40692)) (.o2 .idx (.var 0) (.con (.int 2))))) (.con (.int 11))) (.o2 .add (.o2 .pow (.con (.int 10)) (.con (.int 31))) (.con (.int 33)))))
  (.cons (.ret (.o2 .mod (.o2 .fdiv (.o2 .idx (.var 0) (.con (.int 1))) (.o2 .pow (.con (.int 10)) (.con (.int 9)))) (.var 1)))
  .nil))))
def ix__law_draw_k15 : FnI := ⟨2, 3, 0, tb__law_draw_k15⟩
def C__law_draw_k15 (FT : List FnI) (g : Nat) : Prop := FT[g]? = some (ix__law_draw_k15)
def tb__law_cells_k15 : T :=
  (.cons (.ret (.o2 .add (.o2 .cuthi (.var 0) (.var 1)) (.o2 .mul (.lst false (.cons (.con (.int 0)) .nil)) (.o1 .int (.o2 .eq (.var 0) (.lst false .nil))))))
  .nil)
def ix__law_cells_k15 : FnI := ⟨2, 2, 0, tb__law_cells_k15⟩
def C__law_cells_k15 (FT : List FnI) (g : Nat) : Prop := FT[g]? = some (ix__law_cells_k15)
def tb__law_order_k15 (f__law_draw : Nat) : T :=
  (.cons (.asg (.tnm 2) (.own (.o1 .lrange (.var 1))))
  (.cons (.ret (.cmp1 false (.rng1 (.var 1)) (.tnm 3) .nil (.mtd .popat (.var 2) (.cons (.call f__law_draw (.cons (.var 0) (.cons (.o1 .len (.var 2)) .nil))) .nil)) [3]))
  .nil))
def ix__law_order_k15 (f__law_draw : Nat) : FnI := ⟨2, 4, 0, tb__law_order_k15 f__law_draw⟩
def C__law_order_k15 (FT : List FnI) (g : Nat) : Prop := ∃ f__law_draw : Nat, FT[g]? = some (ix__law_order_k15 f__law_draw) ∧ C__law_draw_k15 FT f__law_draw
def tb__law_called_k15 : T :=
  (.cons (.asg (.tnm 2) (.cmp1 false (.itv (.o2 .idx (.var 1) (.con (.int 1)))) (.ttp (.cons (.tnm 3) (.cons (.tnm 4) .nil))) .nil (.tup (.cons (.o2 .min2 (.o2 .idx (.var 0) (.var 3)) (.o2 .idx (.var 0) (.var 4))) (.cons (.o2 .max2 (.o2 .idx (.var 0) (.var 3)) (.o2 .idx (.var 0) (.var 4))) .nil))) [3, 4]))
  (.cons (.ret (.tup (.cons (.o2 .idx (.var 1) (.con (.int 0))) (.cons (.o1 .tuple (.o1 .sorted (.var 2))) .nil))))
  .nil))
def ix__law_called_k15 : FnI := ⟨2, 5, 0, tb__law_called_k15⟩
def C__law_called_k15 (FT : List FnI) (g : Nat) : Prop := FT[g]? = some (ix__law_called_k15)
def tb__law_web_k15 (f__law_draw : Nat) (f__law_called : Nat) (f__law_order : Nat) : T :=
  (.cons (.asg (.tnm 2) (.o2 .add (.con (.int 2)) (.call f__law_draw (.cons (.var 0) (.cons (.o2 .sub (.var 1) (.con (.int 1))) .nil)))))
  (.cons (.asg (.tnm 3) (.lst true .nil))
  (.cons (.for_ (.tnm 4) (.rng1 (.var 2)) (.cons (.exp (.mtd .extend (.var 3) (.cons (.cmp1 false (.rng2 (.o2 .add (.var 4) (.con (.int 1))) (.var 2)) (.tnm 9) .nil (.tup (.cons (.var 4) (.cons (.var 9) .nil))) [9]) .nil)))
    .nil))
  (.cons (.asg (.tnm 5) (.call f__law_draw (.cons (.var 0) (.cons (.con (.int 5)) .nil))))
  (.cons (.ifs (.o2 .eq (.var 5) (.con (.int 1))) (.cons (.asg (.tnm 3) (.cmp1 true (.itv (.var 3)) (.tnm 7) (.cons (.o2 .eq (.o2 .idx (.var 7) (.con (.int 0))) (.con (.int 0))) .nil) (.var 7) [7]))
    .nil) .nil)
  (.cons (.ifs (.o2 .eq (.var 5) (.con (.int 2))) (.cons (.asg (.tnm 3) (.cmp1 true (.itv (.var 3)) (.tnm 7) (.cons (.o2 .eq (.o2 .idx (.var 7) (.con (.int 1))) (.o2 .add (.o2 .idx (.var 7) (.con (.int 0))) (.con (.int 1)))) .nil) (.var 7) [7]))
    .nil) .nil)
  (.cons (.ifs (.o2 .gt (.var 5) (.con (.int 2))) (.cons (.asg (.tnm 3) (.cmp1 true (.itv (.var 3)) (.tnm 7) (.cons (.o2 .eq (.call f__law_draw (.cons (.var 0) (.cons (.con (.int 2)) .nil))) (.con (.int 0))) .nil) (.var 7) [7]))
    (.cons (.for_ (.tnm 6) (.rng1 (.var 2)) (.cons (.ifs (.o2 .eq (.cmp1 false (.itv (.var 3)) (.tnm 7) (.cons (.o2 .in_ (.var 6) (.var 7)) .nil) (.var 7) [7]) (.lst false .nil)) (.cons (.asg (.tnm 8) (.o2 .mod (.o2 .add (.o2 .add (.var 6) (.con (.int 1))) (.call f__law_draw (.cons (.var 0) (.cons (.o2 .sub (.var 2) (.con (.int 1))) .nil)))) (.var 2)))
        (.cons (.exp (.mtd .append (.var 3) (.cons (.tup (.cons (.o2 .min2 (.var 6) (.var 8)) (.cons (.o2 .max2 (.var 6) (.var 8)) .nil))) .nil)))
        .nil)) .nil)
      .nil))
    .nil)) .nil)
  (.cons (.frz 3)
  (.cons (.ret (.call f__law_called (.cons (.call f__law_order (.cons (.var 0) (.cons (.var 2) .nil))) (.cons (.tup (.cons (.var 2) (.cons (.var 3) .nil))) .nil))))
  .nil)))))))))
def ix__law_web_k15 (f__law_draw : Nat) (f__law_called : Nat) (f__law_order : Nat) : FnI := ⟨2, 10, 0, tb__law_web_k15 f__law_draw f__law_called f__law_order⟩
def C__law_web_k15 (FT : List FnI) (g : Nat) : Prop := ∃ f__law_draw f__law_called f__law_order : Nat, FT[g]? = some (ix__law_web_k15 f__law_draw f__law_called f__law_order) ∧ C__law_draw_k15 FT f__law_draw ∧ C__law_called_k15 FT f__law_called ∧ C__law_order_k15 FT f__law_order
def tb__law_demand_k15 (f__law_draw : Nat) (f__law_web : Nat) (f__law_called : Nat) (f__law_order : Nat) : T :=
  (.cons (.asg (.tnm 4) (.lst true .nil))
  (.cons (.for_ (.tnm 5) (.rng1 (.o2 .add (.var 1) (.call f__law_draw (.cons (.var 0) (.cons (.o2 .add (.o2 .sub (.var 2) (.var 1)) (.con (.int 1))) .nil))))) (.cons (.asg (.tnm 6) (.call f__law_web (.cons (.var 0) (.cons (.var 3) .nil))))
    (.cons (.ifs (.and (.o2 .gt (.var 5) (.con (.int 0))) (.o2 .eq (.call f__law_draw (.cons (.var 0) (.cons (.con (.int 2)) .nil))) (.con (.int 0)))) (.cons (.asg (.tnm 6) (.o2 .idx (.var 4) (.call f__law_draw (.cons (.var 0) (.cons (.var 5) .nil)))))
      (.cons (.asg (.tnm 6) (.call f__law_called (.cons (.call f__law_order (.cons (.var 0) (.cons (.o2 .idx (.var 6) (.con (.int 0))) .nil))) (.cons (.var 6) .nil))))
      .nil)) .nil)
    (.cons (.exp (.mtd .append (.var 4) (.cons (.var 6) .nil)))
    .nil))))
  (.cons (.ret (.o1 .tuple (.var 4)))
  .nil)))
def ix__law_demand_k15 (f__law_draw : Nat) (f__law_web : Nat) (f__law_called : Nat) (f__law_order : Nat) : FnI := ⟨4, 7, 0, tb__law_demand_k15 f__law_draw f__law_web f__law_called f__law_order⟩
def C__law_demand_k15 (FT : List FnI) (g : Nat) : Prop := ∃ f__law_draw f__law_web f__law_called f__law_order : Nat, FT[g]? = some (ix__law_demand_k15 f__law_draw f__law_web f__law_called f__law_order) ∧ C__law_draw_k15 FT f__law_draw ∧ C__law_web_k15 FT f__law_web ∧ C__law_called_k15 FT f__law_called ∧ C__law_order_k15 FT f__law_order
def tb__law_hues_k16 (f__law_draw : Nat) : T :=
  (.cons (.asg (.tnm 3) (.call f__law_draw (.cons (.var 0) (.cons (.var 2) .nil))))
  (.cons (.asg (.tnm 4) (.lst true .nil))
  (.cons (.asg (.tnm 5) (.o2 .idx (.lst false (.cons (.var 2) (.cons (.o2 .mul (.con (.int 3)) (.var 2)) .nil))) (.call f__law_draw (.cons (.var 0) (.cons (.con (.int 2)) .nil)))))
  (.cons (.for_ (.tnm 6) (.rng1 (.o2 .fdiv (.o2 .mul (.var 1) (.o2 .sub (.var 1) (.con (.int 1)))) (.con (.int 2)))) (.cons (.asg (.tnm 7) (.call f__law_draw (.cons (.var 0) (.cons (.var 5) .nil))))
    (.cons (.exp (.mtd .append (.var 4) (.cons (.ite (.o2 .lt (.var 7) (.var 2)) (.var 7) (.var 3)) .nil)))
    .nil)))
  (.cons (.ret (.o1 .tuple (.var 4)))
  .nil)))))
def ix__law_hues_k16 (f__law_draw : Nat) : FnI := ⟨3, 8, 0, tb__law_hues_k16 f__law_draw⟩
def C__law_hues_k16 (FT : List FnI) (g : Nat) : Prop := ∃ f__law_draw : Nat, FT[g]? = some (ix__law_hues_k16 f__law_draw) ∧ C__law_draw_k15 FT f__law_draw
def tb__law_same_k17 (f__law_same : Nat) : T :=
  (.cons (.ifs (.o2 .is (.var 1) (.con .none)) (.cons (.ret (.o2 .is (.var 0) (.con .none)))
    .nil) .nil)
  (.cons (.ifs (.isi (.var 1) [.bool]) (.cons (.ret (.and (.isi (.var 0) [.bool]) (.o2 .eq (.var 0) (.var 1))))
    .nil) .nil)
  (.cons (.ifs (.isi (.var 1) [.int]) (.cons (.ret (.and (.isi (.var 0) [.int]) (.and (.not (.isi (.var 0) [.bool])) (.o2 .eq (.var 0) (.var 1)))))
    .nil) .nil)
  (.cons (.ifs (.or (.o2 .ne (.isi (.var 1) [.tuple]) (.isi (.var 0) [.tuple])) (.o2 .ne (.isi (.var 1) [.list]) (.isi (.var 0) [.list]))) (.cons (.ret (.con (.bool false)))
    .nil) .nil)
  (.cons (.ret (.and (.o2 .eq (.o1 .len (.var 0)) (.o1 .len (.var 1))) (.o1 .all (.cmp1 false (.zip2 (.var 0) (.var 1)) (.ttp (.cons (.tnm 2) (.cons (.tnm 3) .nil))) .nil (.call f__law_same (.cons (.var 2) (.cons (.var 3) .nil))) [2, 3]))))
  .nil)))))
def ix__law_same_k17 (f__law_same : Nat) : FnI := ⟨2, 4, 0, tb__law_same_k17 f__law_same⟩
def C__law_same_k17 (FT : List FnI) (g : Nat) : Prop := FT[g]? = some (ix__law_same_k17 g)
def tb_hue_of (f_hues_by_ties : Nat) : T :=
  (.cons (.asg (.tnm 3) (.call f_hues_by_ties (.cons (.var 0) .nil)))
  (.cons (.ifs (.o2 .notin (.tup (.cons (.var 1) (.cons (.var 2) .nil))) (.var 3)) (.cons (.rai 9)
    .nil) .nil)
  (.cons (.ret (.o2 .idx (.var 3) (.tup (.cons (.var 1) (.cons (.var 2) .nil)))))
  .nil)))
def ix_hue_of (f_hues_by_ties : Nat) : FnI := ⟨3, 4, 0, tb_hue_of f_hues_by_ties⟩
def C_hue_of (FT : List FnI) (g : Nat) : Prop := ∃ f_hues_by_ties : Nat, FT[g]? = some (ix_hue_of f_hues_by_ties) ∧ C_hues_by_ties FT f_hues_by_ties
def tb__law_hue_k18 : T :=
  (.cons (.asg (.ttp (.cons (.tnm 5) (.cons (.tnm 6) .nil))) (.var 0))
  (.cons (.asg (.tnm 3) (.o2 .min2 (.var 1) (.var 2)))
  (.cons (.asg (.tnm 4) (.o2 .sub (.o2 .sub (.o2 .add (.o1 .sum (.cmp1 false (.rng1 (.var 3)) (.tnm 7) .nil (.o2 .sub (.o2 .sub (.var 5) (.con (.int 1))) (.var 7)) [7])) (.o2 .max2 (.var 1) (.var 2))) (.var 3)) (.con (.int 1))))
  (.cons (.ret (.o2 .idx (.var 6) (.var 4)))
  .nil))))
def ix__law_hue_k18 : FnI := ⟨3, 8, 0, tb__law_hue_k18⟩
def C__law_hue_k18 (FT : List FnI) (g : Nat) : Prop := FT[g]? = some (ix__law_hue_k18)
def tb__law_refused_k18 (f_hue_of : Nat) : T :=
  (.cons (.asg (.tnm 3) (.con .none))
  (.cons (.try_ (.cons (.exp (.call f_hue_of (.cons (.var 0) (.cons (.var 1) (.cons (.var 2) .nil)))))
    .nil) 4 3)
  (.cons (.asg (.tnm 5) (.isi (.var 3) [.own 4, .own 5, .own 6, .own 7, .own 10, .own 8, .own 12]))
  (.cons (.ret (.and (.isi (.var 3) [.own 9]) (.and (.isi (.var 3) [.verr]) (.not (.var 5)))))
  .nil))))
def ix__law_refused_k18 (f_hue_of : Nat) : FnI := ⟨3, 6, 0, tb__law_refused_k18 f_hue_of⟩
def C__law_refused_k18 (FT : List FnI) (g : Nat) : Prop := ∃ f_hue_of : Nat, FT[g]? = some (ix__law_refused_k18 f_hue_of) ∧ C_hue_of FT f_hue_of
def tb_law_k18 (f__law_cells : Nat) (f__law_bag : Nat) (f__law_draw : Nat) (f__law_hues : Nat) (f_hue_of : Nat) (f__law_hue : Nat) (f__law_refused : Nat) : T :=
  (.cons (.asg (.tnm 1) (.call f__law_cells (.cons (.var 0) (.cons (.con (.int 20)) .nil))))
  (.cons (.for_ (.tnm 2) (.rng1 (.o1 .len (.var 1))) (.cons (.asg (.tnm 3) (.call f__law_bag (.cons (.o2 .idx (.var 1) (.var 2)) (.cons (.var 2) .nil))))
    (.cons (.asg (.tnm 4) (.o2 .idx (.lst false (.cons (.o2 .add (.con (.int 1)) (.call f__law_draw (.cons (.var 3) (.cons (.con (.int 5)) .nil)))) (.cons (.o2 .add (.con (.int 1)) (.call f__law_draw (.cons (.var 3) (.cons (.con (.int 12)) .nil)))) (.cons (.con (.int 12)) .nil)))) (.call f__law_draw (.cons (.var 3) (.cons (.con (.int 3)) .nil)))))
    (.cons (.asg (.tnm 5) (.tup (.cons (.var 4) (.cons (.call f__law_hues (.cons (.var 3) (.cons (.var 4) (.cons (.o2 .add (.con (.int 1)) (.call f__law_draw (.cons (.var 3) (.cons (.con (.int 4)) .nil)))) .nil)))) .nil))))
    (.cons (.for_ (.tnm 6) (.rng1 (.var 4)) (.cons (.for_ (.tnm 9) (.rng1 (.var 4)) (.cons (.ifs (.o2 .ne (.var 6) (.var 9)) (.cons (.asg (.tnm 10) (.call f_hue_of (.cons (.var 5) (.cons (.var 6) (.cons (.var 9) .nil)))))
          (.cons (.ifs (.or (.isi (.var 10) [.bool]) (.or (.not (.isi (.var 10) [.int])) (.o2 .ne (.var 10) (.call f__law_hue (.cons (.var 5) (.cons (.var 6) (.cons (.var 9) .nil))))))) (.cons (.ret (.con (.bool false)))
            .nil) .nil)
          (.cons (.ifs (.o2 .ne (.callk f_hue_of .nil (.cons (.var 9) (.cons (.var 6) (.cons (.var 5) .nil))) [2, 1, 0]) (.var 10)) (.cons (.ret (.con (.bool false)))
            .nil) .nil)
          .nil))) .nil)
        .nil))
      .nil))
    (.cons (.asg (.tnm 7) (.o2 .add (.var 4) (.call f__law_draw (.cons (.var 3) (.cons (.o2 .pow (.con (.int 10)) (.con (.int 8))) .nil)))))
    (.cons (.asg (.tnm 8) (.call f__law_draw (.cons (.var 3) (.cons (.var 4) .nil))))
    (.cons (.for_ (.ttp (.cons (.tnm 6) (.cons (.tnm 9) .nil))) (.itv (.lst false (.cons (.tup (.cons (.var 8) (.cons (.var 8) .nil))) (.cons (.tup (.cons (.var 8) (.cons (.var 4) .nil))) (.cons (.tup (.cons (.var 4) (.cons (.var 8) .nil))) (.cons (.tup (.cons (.var 8) (.cons (.var 7) .nil))) (.cons (.tup (.cons (.o1 .neg (.con (.int 1))) (.cons (.var 8) .nil))) (.cons (.tup (.cons (.var 8) (.cons (.o1 .neg (.con (.int 1))) .nil))) (.cons (.tup (.cons (.o1 .neg (.var 4)) (.cons (.var 8) .nil))) (.cons (.tup (.cons (.var 7) (.cons (.o1 .neg (.con (.int 1))) .nil))) .nil)))))))))) (.cons (.ifs (.not (.call f__law_refused (.cons (.var 5) (.cons (.var 6) (.cons (.var 9) .nil))))) (.cons (.ret (.con (.bool false)))
        .nil) .nil)
      .nil))
    .nil))))))))
  (.cons (.ret (.con (.bool true)))
  .nil)))
def ix_law_k18 (f__law_cells : Nat) (f__law_bag : Nat) (f__law_draw : Nat) (f__law_hues : Nat) (f_hue_of : Nat) (f__law_hue : Nat) (f__law_refused : Nat) : FnI := ⟨1, 11, 0, tb_law_k18 f__law_cells f__law_bag f__law_draw f__law_hues f_hue_of f__law_hue f__law_refused⟩
def C_law_k18 (FT : List FnI) (g : Nat) : Prop := ∃ f__law_cells f__law_bag f__law_draw f__law_hues f_hue_of f__law_hue f__law_refused : Nat, FT[g]? = some (ix_law_k18 f__law_cells f__law_bag f__law_draw f__law_hues f_hue_of f__law_hue f__law_refused) ∧ C__law_cells_k15 FT f__law_cells ∧ C__law_bag_k15 FT f__law_bag ∧ C__law_draw_k15 FT f__law_draw ∧ C__law_hues_k16 FT f__law_hues ∧ C_hue_of FT f_hue_of ∧ C__law_hue_k18 FT f__law_hue ∧ C__law_refused_k18 FT f__law_refused
def tb__law_groups_k21 (f__law_hue : Nat) : T :=
  (.cons (.asg (.tnm 3) (.lst false (.cons (.tup .nil) .nil)))
  (.cons (.for_ (.tnm 4) (.rng1 (.o2 .idx (.var 0) (.con (.int 0)))) (.cons (.asg (.tnm 5) (.cmp1 false (.itv (.o2 .idx (.var 0) (.con (.int 1)))) (.ttp (.cons (.tnm 9) (.cons (.tnm 10) .nil))) (.cons (.o2 .eq (.var 10) (.var 4)) .nil) (.var 9) [9, 10]))
    (.cons (.asg (.tnm 6) (.lst true .nil))
    (.cons (.for_ (.tnm 7) (.itv (.var 3)) (.cons (.for_ (.tnm 8) (.rng1 (.o2 .idx (.var 1) (.con (.int 0)))) (.cons (.ifs (.o2 .notin (.var 8) (.var 7)) (.cons (.ifs (.o2 .eq (.cmp1 false (.itv (.var 5)) (.tnm 9) (.cons (.o2 .ne (.call f__law_hue (.cons (.var 1) (.cons (.o2 .idx (.var 7) (.var 9)) (.cons (.var 8) .nil)))) (.var 2)) .nil) (.var 9) [9]) (.lst false .nil)) (.cons (.exp (.mtd .append (.var 6) (.cons (.o2 .add (.var 7) (.tup (.cons (.var 8) .nil))) .nil)))
            .nil) .nil)
          .nil) .nil)
        .nil))
      .nil))
    (.cons (.frz 6)
    (.cons (.asg (.tnm 3) (.var 6))
    .nil))))))
  (.cons (.ret (.var 3))
  .nil)))
def ix__law_groups_k21 (f__law_hue : Nat) : FnI := ⟨3, 11, 0, tb__law_groups_k21 f__law_hue⟩
def C__law_groups_k21 (FT : List FnI) (g : Nat) : Prop := ∃ f__law_hue : Nat, FT[g]? = some (ix__law_groups_k21 f__law_hue) ∧ C__law_hue_k18 FT f__law_hue
def tb__law_square_k21 (f__law_hue : Nat) : T :=
  (.cons (.ret (.cmp1 false (.rng1 (.o2 .idx (.var 0) (.con (.int 0)))) (.tnm 1) .nil (.cmp1 false (.rng1 (.o2 .idx (.var 0) (.con (.int 0)))) (.tnm 2) .nil (.ite (.o2 .eq (.var 1) (.var 2)) (.o1 .neg (.con (.int 1))) (.call f__law_hue (.cons (.var 0) (.cons (.var 1) (.cons (.var 2) .nil))))) [2]) [1]))
  .nil)
def ix__law_square_k21 (f__law_hue : Nat) : FnI := ⟨1, 3, 0, tb__law_square_k21 f__law_hue⟩
def C__law_square_k21 (FT : List FnI) (g : Nat) : Prop := ∃ f__law_hue : Nat, FT[g]? = some (ix__law_square_k21 f__law_hue) ∧ C__law_hue_k18 FT f__law_hue
def tb__law_first_k21 (f__law_first : Nat) : T :=
  (.cons (.ifs (.o2 .eq (.o1 .len (.var 3)) (.o2 .idx (.var 0) (.con (.int 0)))) (.cons (.ret (.var 3))
    .nil) .nil)
  (.cons (.asg (.tnm 4) (.cmp1 false (.itv (.o2 .idx (.var 0) (.con (.int 1)))) (.ttp (.cons (.tnm 8) (.cons (.tnm 9) .nil))) (.cons (.o2 .eq (.var 9) (.o1 .len (.var 3))) .nil) (.var 8) [8, 9]))
  (.cons (.for_ (.tnm 5) (.rng1 (.o1 .len (.var 1))) (.cons (.asg (.tnm 6) (.cmp1 false (.itv (.var 4)) (.tnm 8) (.cons (.o2 .ne (.o2 .idx (.o2 .idx (.var 1) (.o2 .idx (.var 3) (.var 8))) (.var 5)) (.var 2)) .nil) (.var 8) [8]))
    (.cons (.ifs (.and (.o2 .notin (.var 5) (.var 3)) (.o2 .eq (.var 6) (.lst false .nil))) (.cons (.asg (.tnm 7) (.call f__law_first (.cons (.var 0) (.cons (.var 1) (.cons (.var 2) (.cons (.o2 .add (.var 3) (.tup (.cons (.var 5) .nil))) .nil))))))
      (.cons (.ifs (.o2 .isnot (.var 7) (.con .none)) (.cons (.ret (.var 7))
        .nil) .nil)
      .nil)) .nil)
    .nil)))
  (.cons (.ret (.con .none))
  .nil))))
def ix__law_first_k21 (f__law_first : Nat) : FnI := ⟨4, 10, 0, tb__law_first_k21 f__law_first⟩
def C__law_first_k21 (FT : List FnI) (g : Nat) : Prop := FT[g]? = some (ix__law_first_k21 g)
end Hb

namespace Lk18
open PySem
open Hb
set_option autoImplicit false
abbrev f_ties_of : Nat := 0
abbrev f_hues_by_ties : Nat := 1
abbrev f_hue_of : Nat := 2
abbrev f__law_bag : Nat := 3
abbrev f__law_draw : Nat := 4
abbrev f__law_cells : Nat := 5
abbrev f__law_hues : Nat := 6
abbrev f__law_hue : Nat := 7
abbrev f__law_refused : Nat := 8
abbrev f_law : Nat := 9
def FT : List FnI := [ix_ties_of, ix_hues_by_ties f_ties_of, ix_hue_of f_hues_by_ties, ix__law_bag_k15, ix__law_draw_k15, ix__law_cells_k15, ix__law_hues_k16 f__law_draw, ix__law_hue_k18, ix__law_refused_k18 f_hue_of, ix_law_k18 f__law_cells f__law_bag f__law_draw f__law_hues f_hue_of f__law_hue f__law_refused]
theorem c_ties_of : C_ties_of FT f_ties_of := rfl
theorem c_hues_by_ties : C_hues_by_ties FT f_hues_by_ties := ⟨f_ties_of, rfl, c_ties_of⟩
theorem c_hue_of : C_hue_of FT f_hue_of := ⟨f_hues_by_ties, rfl, c_hues_by_ties⟩
theorem c__law_bag : C__law_bag_k15 FT f__law_bag := rfl
theorem c__law_draw : C__law_draw_k15 FT f__law_draw := rfl
theorem c__law_cells : C__law_cells_k15 FT f__law_cells := rfl
theorem c__law_hues : C__law_hues_k16 FT f__law_hues := ⟨f__law_draw, rfl, c__law_draw⟩
theorem c__law_hue : C__law_hue_k18 FT f__law_hue := rfl
theorem c__law_refused : C__law_refused_k18 FT f__law_refused := ⟨f_hue_of, rfl, c_hue_of⟩
theorem c_law : C_law_k18 FT f_law := ⟨f__law_cells, f__law_bag, f__law_draw, f__law_hues, f_hue_of, f__law_hue, f__law_refused, rfl, c__law_cells, c__law_bag, c__law_draw, c__law_hues, c_hue_of, c__law_hue, c__law_refused⟩
end Lk18

set_option maxHeartbeats 0
namespace Lk18
open PySem PySem.Spec PyProof.Rows
open L2 hiding V Hp St
open Hb
set_option autoImplicit false
def top (i : Nat) : Stmt := PySem.Challenge.pw_huebound_k18_colours_of_ties.main.body.getD i (.Pass ⟨0, 0, 0, 0⟩)
def r_ties_of : Dr := ⟨"ties_of", "ties_of", "ties_of", ["many"], ["many", "a", "b"], defArgs (top 11), defBody (top 11), defScope (top 11), []⟩
def r_hues_by_ties : Dr := ⟨"hues_by_ties", "hues_by_ties", "hues_by_ties", ["colouring"], ["colouring", "found", "many", "hues", "hue", "a", "b"], defArgs (top 12), defBody (top 12), defScope (top 12), []⟩
def r_hue_of : Dr := ⟨"hue_of", "hue_of", "hue_of", ["colouring", "a", "b"], ["colouring", "a", "b", "found"], defArgs (top 13), defBody (top 13), defScope (top 13), [(0, ["b", "a", "colouring"], [2, 1, 0])]⟩
def r__law_bag : Dr := ⟨"_law_bag", "_law_bag", "_law_bag", ["_law_cell", "_law_k"], ["_law_cell", "_law_k"], defArgs (top 15), defBody (top 15), defScope (top 15), []⟩
def r__law_draw : Dr := ⟨"_law_draw", "_law_draw", "_law_draw", ["_law_bag_here", "_law_many"], ["_law_bag_here", "_law_many", "_law_found"], defArgs (top 16), defBody (top 16), defScope (top 16), []⟩
def r__law_cells : Dr := ⟨"_law_cells", "_law_cells", "_law_cells", ["_law_script", "_law_most"], ["_law_script", "_law_most"], defArgs (top 17), defBody (top 17), defScope (top 17), []⟩
def r__law_hues : Dr := ⟨"_law_hues", "_law_hues", "_law_hues", ["_law_bag_here", "_law_many", "_law_colours"], ["_law_bag_here", "_law_many", "_law_colours", "_law_often", "_law_found", "_law_wide", "_law_k", "_law_hue_here"], defArgs (top 18), defBody (top 18), defScope (top 18), []⟩
def r__law_hue : Dr := ⟨"_law_hue", "_law_hue", "_law_hue", ["_law_paint", "_law_p", "_law_q"], ["_law_paint", "_law_p", "_law_q", "_law_low", "_law_place", "_law_many", "_law_hues_here", "_law_k"], defArgs (top 19), defBody (top 19), defScope (top 19), []⟩
def r__law_refused : Dr := ⟨"_law_refused", "_law_refused", "_law_refused", ["_law_paint", "_law_p", "_law_q"], ["_law_paint", "_law_p", "_law_q", "_law_caught", "e", "_law_others"], defArgs (top 20), defBody (top 20), defScope (top 20), []⟩
def r_law : Dr := ⟨"law", "law", "law", ["_law_script"], ["_law_script", "_law_cells_here", "_law_k", "_law_bag_here", "_law_many", "_law_paint", "_law_p", "_law_far", "_law_one", "_law_q", "_law_found"], defArgs (top 21), defBody (top 21), defScope (top 21), []⟩
def rows : List Dr := [r_ties_of, r_hues_by_ties, r_hue_of, r__law_bag, r__law_draw, r__law_cells, r__law_hues, r__law_hue, r__law_refused, r_law]
def tb : Tb := ⟨fnsOf rows, [], ["range", "zip", "max", "int", "tuple", "min", "sum", "isinstance", "ValueError", "len", "bool"], [], [], [(9, "NoTie", true), (4, "NoMove", true), (5, "NoPoint", true), (6, "NoStand", false), (7, "NoSteps", true), (10, "NotDone", true), (8, "NoText", false), (12, "TooMany", true)], ["HueError"], false, [], [], [], [], []⟩
theorem okB : rowsB tb 60 rows FT = true := by decide +kernel
def d_ties_of : He.DefD := ⟨("ties_of", none), "ties_of", "ties_of", defArgs (top 11), defBody (top 11), defScope (top 11), [], []⟩
def d_hues_by_ties : He.DefD := ⟨("hues_by_ties", none), "hues_by_ties", "hues_by_ties", defArgs (top 12), defBody (top 12), defScope (top 12), [], []⟩
def d_hue_of : He.DefD := ⟨("hue_of", none), "hue_of", "hue_of", defArgs (top 13), defBody (top 13), defScope (top 13), [], []⟩
def d__law_bag : He.DefD := ⟨("_law_bag", none), "_law_bag", "_law_bag", defArgs (top 15), defBody (top 15), defScope (top 15), [], []⟩
def d__law_draw : He.DefD := ⟨("_law_draw", none), "_law_draw", "_law_draw", defArgs (top 16), defBody (top 16), defScope (top 16), [], []⟩
def d__law_cells : He.DefD := ⟨("_law_cells", none), "_law_cells", "_law_cells", defArgs (top 17), defBody (top 17), defScope (top 17), [], []⟩
def d__law_hues : He.DefD := ⟨("_law_hues", none), "_law_hues", "_law_hues", defArgs (top 18), defBody (top 18), defScope (top 18), [], []⟩
def d__law_hue : He.DefD := ⟨("_law_hue", none), "_law_hue", "_law_hue", defArgs (top 19), defBody (top 19), defScope (top 19), [], []⟩
def d__law_refused : He.DefD := ⟨("_law_refused", none), "_law_refused", "_law_refused", defArgs (top 20), defBody (top 20), defScope (top 20), [], []⟩
def d_law : He.DefD := ⟨("law", none), "law", "law", defArgs (top 21), defBody (top 21), defScope (top 21), [], []⟩
def fn : List He.DefD := [d_ties_of, d_hues_by_ties, d_hue_of, d__law_bag, d__law_draw, d__law_cells, d__law_hues, d__law_hue, d__law_refused, d_law]
def fa : List He.Fa := [.glo "ties_of", .glo "hues_by_ties", .glo "hue_of", .glo "_law_bag", .glo "_law_draw", .glo "_law_cells", .glo "_law_hues", .glo "_law_hue", .glo "_law_refused", .glo "law", .free "range", .free "zip", .free "max", .free "int", .free "tuple", .free "min", .free "sum", .free "isinstance", .free "ValueError", .free "len", .free "bool", .glo "NoTie", .exc "NoTie", .glo "NoMove", .exc "NoMove", .glo "NoPoint", .exc "NoPoint", .glo "NoStand", .glo "NoSteps", .exc "NoSteps", .glo "NotDone", .exc "NotDone", .glo "NoText", .glo "TooMany", .exc "TooMany", .glo "HueError"]
def xcs : List (Nat × Str) := [(9, "NoTie"), (4, "NoMove"), (5, "NoPoint"), (6, "NoStand"), (7, "NoSteps"), (10, "NotDone"), (8, "NoText"), (12, "TooMany")]
abbrev R : PySem.W.OpenRow := PySem.W.OpenLaw.row PySem.Challenge.rw_huebound_k18_colours_of_ties
def places : List (Str × Option Str) := [("ties_of", none), ("hues_by_ties", none), ("hue_of", none), ("_law_bag", none), ("_law_draw", none), ("_law_cells", none), ("_law_hues", none), ("_law_hue", none), ("_law_refused", none), ("law", none)]
def nmP (g : Nat) : Str ⊕ Int := match Nat.blt g 1000000 with | true => .inl (places.getD g ("law", none)).1 | false => .inr ((g - 1000000 : Nat) : Int)
abbrev hk : PySem.W.Hook := hookX 4 fa fn (xcB "HueError" xcs)
def ob (s : PySem.W.SharedT) : AlX := obsXG 4 fa fn (xcB "HueError" xcs) (HandSHeadRun.getT s)
theorem ob_eq (s : PySem.W.SharedT) : ob s = hk.obs s.abs := obsXG_eq (HandSHeadRun.getT_eq s)
theorem run (w : World) : HandSHeadRun.RunEq R (PySem.W.view R.prog [21]) hk ob 4000 ["ties_of", "hues_by_ties", "hue_of", "_law_bag", "_law_draw", "_law_cells", "_law_hues", "_law_hue", "_law_refused", "HueError", "NoTie", "NoPoint", "NoMove", "NoSteps", "TooMany", "NotDone", "NoText", "NoStand"] w := by
  intro os
  kernel_rfl
def klsN : List (Nat × Str) := [(9, "NoTie"), (4, "NoMove"), (5, "NoPoint"), (6, "NoStand"), (7, "NoSteps"), (10, "NotDone"), (8, "NoText"), (12, "TooMany")]
def wo (K : PySem.W.Frag) (pm : Params) : Wo := ⟨K, fun g => He.fAd K (places.getD g ("law", none)), fun c => He.ga K ((klsN.lookup c).getD ""), anF [], anF_inj (by decide +kernel) (by decide +kernel), xcs.map (·.1), He.ga K "HueError", pm⟩
section
variable {K : PySem.W.Frag} {h : Heap} {mg : Str → Option Value} {pm : Params}
theorem ok_ties_of (X : K.In h) (G : h.Ns mainGlobals mg) (c : He.SaysD fa fn K) : DrOk mg (wo K pm) 0 r_ties_of := by
  obtain ⟨fd, F⟩ := c.def_ 0 (d := d_ties_of) rfl
  refine ⟨fun _ => He.glo_ok X G (c.fact 0 (f := .glo "ties_of") rfl), fd, F, FunD.bindsN (ps := ["many"]) F fun _ _ _ _ _ _ us hl => match us, hl with | [_], _ => rfl, ?_⟩
  obtain ⟨oc, od, dV, kV, doc, pm, an, cdv, ct, osl, rfl, lk, hcd, hD, hK⟩ := F.ex
  have e0 : dV = .none := by rcases hD with ⟨_, e⟩ | ⟨e, _⟩; exact e; exact absurd rfl e
  subst e0
  intro kw hkw
  exact absurd hkw (by simp [r_ties_of])
theorem ok_hues_by_ties (X : K.In h) (G : h.Ns mainGlobals mg) (c : He.SaysD fa fn K) : DrOk mg (wo K pm) 1 r_hues_by_ties := by
  obtain ⟨fd, F⟩ := c.def_ 1 (d := d_hues_by_ties) rfl
  refine ⟨fun _ => He.glo_ok X G (c.fact 1 (f := .glo "hues_by_ties") rfl), fd, F, FunD.bindsN (ps := ["colouring"]) F fun _ _ _ _ _ _ us hl => match us, hl with | [_], _ => rfl, ?_⟩
  obtain ⟨oc, od, dV, kV, doc, pm, an, cdv, ct, osl, rfl, lk, hcd, hD, hK⟩ := F.ex
  have e0 : dV = .none := by rcases hD with ⟨_, e⟩ | ⟨e, _⟩; exact e; exact absurd rfl e
  subst e0
  intro kw hkw
  exact absurd hkw (by simp [r_hues_by_ties])
theorem ok_hue_of (X : K.In h) (G : h.Ns mainGlobals mg) (c : He.SaysD fa fn K) : DrOk mg (wo K pm) 2 r_hue_of := by
  obtain ⟨fd, F⟩ := c.def_ 2 (d := d_hue_of) rfl
  refine ⟨fun _ => He.glo_ok X G (c.fact 2 (f := .glo "hue_of") rfl), fd, F, FunD.bindsN (ps := ["colouring", "a", "b"]) F fun _ _ _ _ _ _ us hl => match us, hl with | [_, _, _], _ => rfl, ?_⟩
  obtain ⟨oc, od, dV, kV, doc, pm, an, cdv, ct, osl, rfl, lk, hcd, hD, hK⟩ := F.ex
  have e0 : dV = .none := by rcases hD with ⟨_, e⟩ | ⟨e, _⟩; exact e; exact absurd rfl e
  subst e0
  intro kw hkw
  rcases List.mem_cons.mp hkw with rfl | hkw
  · exact kbd_of (by decide) fun us ws hu hw => match us, ws, hu, hw with | [], [_, _, _], _, _ => rfl
  exact absurd hkw (by simp)
theorem ok__law_bag (X : K.In h) (G : h.Ns mainGlobals mg) (c : He.SaysD fa fn K) : DrOk mg (wo K pm) 3 r__law_bag := by
  obtain ⟨fd, F⟩ := c.def_ 3 (d := d__law_bag) rfl
  refine ⟨fun _ => He.glo_ok X G (c.fact 3 (f := .glo "_law_bag") rfl), fd, F, FunD.bindsN (ps := ["_law_cell", "_law_k"]) F fun _ _ _ _ _ _ us hl => match us, hl with | [_, _], _ => rfl, ?_⟩
  obtain ⟨oc, od, dV, kV, doc, pm, an, cdv, ct, osl, rfl, lk, hcd, hD, hK⟩ := F.ex
  have e0 : dV = .none := by rcases hD with ⟨_, e⟩ | ⟨e, _⟩; exact e; exact absurd rfl e
  subst e0
  intro kw hkw
  exact absurd hkw (by simp [r__law_bag])
theorem ok__law_draw (X : K.In h) (G : h.Ns mainGlobals mg) (c : He.SaysD fa fn K) : DrOk mg (wo K pm) 4 r__law_draw := by
  obtain ⟨fd, F⟩ := c.def_ 4 (d := d__law_draw) rfl
  refine ⟨fun _ => He.glo_ok X G (c.fact 4 (f := .glo "_law_draw") rfl), fd, F, FunD.bindsN (ps := ["_law_bag_here", "_law_many"]) F fun _ _ _ _ _ _ us hl => match us, hl with | [_, _], _ => rfl, ?_⟩
  obtain ⟨oc, od, dV, kV, doc, pm, an, cdv, ct, osl, rfl, lk, hcd, hD, hK⟩ := F.ex
  have e0 : dV = .none := by rcases hD with ⟨_, e⟩ | ⟨e, _⟩; exact e; exact absurd rfl e
  subst e0
  intro kw hkw
  exact absurd hkw (by simp [r__law_draw])
theorem ok__law_cells (X : K.In h) (G : h.Ns mainGlobals mg) (c : He.SaysD fa fn K) : DrOk mg (wo K pm) 5 r__law_cells := by
  obtain ⟨fd, F⟩ := c.def_ 5 (d := d__law_cells) rfl
  refine ⟨fun _ => He.glo_ok X G (c.fact 5 (f := .glo "_law_cells") rfl), fd, F, FunD.bindsN (ps := ["_law_script", "_law_most"]) F fun _ _ _ _ _ _ us hl => match us, hl with | [_, _], _ => rfl, ?_⟩
  obtain ⟨oc, od, dV, kV, doc, pm, an, cdv, ct, osl, rfl, lk, hcd, hD, hK⟩ := F.ex
  have e0 : dV = .none := by rcases hD with ⟨_, e⟩ | ⟨e, _⟩; exact e; exact absurd rfl e
  subst e0
  intro kw hkw
  exact absurd hkw (by simp [r__law_cells])
theorem ok__law_hues (X : K.In h) (G : h.Ns mainGlobals mg) (c : He.SaysD fa fn K) : DrOk mg (wo K pm) 6 r__law_hues := by
  obtain ⟨fd, F⟩ := c.def_ 6 (d := d__law_hues) rfl
  refine ⟨fun _ => He.glo_ok X G (c.fact 6 (f := .glo "_law_hues") rfl), fd, F, FunD.bindsN (ps := ["_law_bag_here", "_law_many", "_law_colours"]) F fun _ _ _ _ _ _ us hl => match us, hl with | [_, _, _], _ => rfl, ?_⟩
  obtain ⟨oc, od, dV, kV, doc, pm, an, cdv, ct, osl, rfl, lk, hcd, hD, hK⟩ := F.ex
  have e0 : dV = .none := by rcases hD with ⟨_, e⟩ | ⟨e, _⟩; exact e; exact absurd rfl e
  subst e0
  intro kw hkw
  exact absurd hkw (by simp [r__law_hues])
theorem ok__law_hue (X : K.In h) (G : h.Ns mainGlobals mg) (c : He.SaysD fa fn K) : DrOk mg (wo K pm) 7 r__law_hue := by
  obtain ⟨fd, F⟩ := c.def_ 7 (d := d__law_hue) rfl
  refine ⟨fun _ => He.glo_ok X G (c.fact 7 (f := .glo "_law_hue") rfl), fd, F, FunD.bindsN (ps := ["_law_paint", "_law_p", "_law_q"]) F fun _ _ _ _ _ _ us hl => match us, hl with | [_, _, _], _ => rfl, ?_⟩
  obtain ⟨oc, od, dV, kV, doc, pm, an, cdv, ct, osl, rfl, lk, hcd, hD, hK⟩ := F.ex
  have e0 : dV = .none := by rcases hD with ⟨_, e⟩ | ⟨e, _⟩; exact e; exact absurd rfl e
  subst e0
  intro kw hkw
  exact absurd hkw (by simp [r__law_hue])
theorem ok__law_refused (X : K.In h) (G : h.Ns mainGlobals mg) (c : He.SaysD fa fn K) : DrOk mg (wo K pm) 8 r__law_refused := by
  obtain ⟨fd, F⟩ := c.def_ 8 (d := d__law_refused) rfl
  refine ⟨fun _ => He.glo_ok X G (c.fact 8 (f := .glo "_law_refused") rfl), fd, F, FunD.bindsN (ps := ["_law_paint", "_law_p", "_law_q"]) F fun _ _ _ _ _ _ us hl => match us, hl with | [_, _, _], _ => rfl, ?_⟩
  obtain ⟨oc, od, dV, kV, doc, pm, an, cdv, ct, osl, rfl, lk, hcd, hD, hK⟩ := F.ex
  have e0 : dV = .none := by rcases hD with ⟨_, e⟩ | ⟨e, _⟩; exact e; exact absurd rfl e
  subst e0
  intro kw hkw
  exact absurd hkw (by simp [r__law_refused])
theorem ok_law (X : K.In h) (G : h.Ns mainGlobals mg) (c : He.SaysD fa fn K) : DrOk mg (wo K pm) 9 r_law := by
  obtain ⟨fd, F⟩ := c.def_ 9 (d := d_law) rfl
  refine ⟨fun _ => He.glo_ok X G (c.fact 9 (f := .glo "law") rfl), fd, F, FunD.bindsN (ps := ["_law_script"]) F fun _ _ _ _ _ _ us hl => match us, hl with | [_], _ => rfl, ?_⟩
  obtain ⟨oc, od, dV, kV, doc, pm, an, cdv, ct, osl, rfl, lk, hcd, hD, hK⟩ := F.ex
  have e0 : dV = .none := by rcases hD with ⟨_, e⟩ | ⟨e, _⟩; exact e; exact absurd rfl e
  subst e0
  intro kw hkw
  exact absurd hkw (by simp [r_law])
theorem xsOk (X : K.In h) (G : h.Ns mainGlobals mg) (c : He.SaysD fa fn K) (cx : (xcB "HueError" xcs) K = true) : XsOk mg (wo K pm) tb := by
  refine ⟨.inr (xc_ok (w := wo K pm) (fun q hq => ?_) rfl rfl cx), fun x hx => ?_, fun q hq => ?_, fun q hq => ?_, ?_, ?_, fun q hq => absurd hq (by simp [tb])⟩
  · simp only [xcs, List.mem_cons, List.mem_nil_iff, or_false] at hq
    rcases hq with rfl | rfl | rfl | rfl | rfl | rfl | rfl | rfl <;> rfl
  · have hx := List.mem_singleton.mp hx; subst hx; exact He.glo_ok X G (c.fact 35 rfl)
  rcases List.mem_cons.mp hq with rfl | hq
  · exact xk_ok (by show _ ∈ xcs.map (·.1); decide) rfl (He.glo_ok X G (c.fact 21 rfl)) (c.fact 22 rfl)
  rcases List.mem_cons.mp hq with rfl | hq
  · exact xk_ok (by show _ ∈ xcs.map (·.1); decide) rfl (He.glo_ok X G (c.fact 23 rfl)) (c.fact 24 rfl)
  rcases List.mem_cons.mp hq with rfl | hq
  · exact xk_ok (by show _ ∈ xcs.map (·.1); decide) rfl (He.glo_ok X G (c.fact 25 rfl)) (c.fact 26 rfl)
  rcases List.mem_cons.mp hq with rfl | hq
  · exact xk_ok' (by show _ ∈ xcs.map (·.1); decide) rfl (He.glo_ok X G (c.fact 27 rfl))
  rcases List.mem_cons.mp hq with rfl | hq
  · exact xk_ok (by show _ ∈ xcs.map (·.1); decide) rfl (He.glo_ok X G (c.fact 28 rfl)) (c.fact 29 rfl)
  rcases List.mem_cons.mp hq with rfl | hq
  · exact xk_ok (by show _ ∈ xcs.map (·.1); decide) rfl (He.glo_ok X G (c.fact 30 rfl)) (c.fact 31 rfl)
  rcases List.mem_cons.mp hq with rfl | hq
  · exact xk_ok' (by show _ ∈ xcs.map (·.1); decide) rfl (He.glo_ok X G (c.fact 32 rfl))
  rcases List.mem_cons.mp hq with rfl | hq
  · exact xk_ok (by show _ ∈ xcs.map (·.1); decide) rfl (He.glo_ok X G (c.fact 33 rfl)) (c.fact 34 rfl)
  exact absurd hq (by simp)
  exact absurd hq (by simp [tb])
  · exact fun f hf => absurd hf (by simp [tb])
  exact fun q hq => absurd hq (by simp [tb])
theorem modOk (X : K.In h) (G : h.Ns mainGlobals mg) (c : He.SaysD fa fn K) (xs : XsOk mg (wo K pm) tb) : ModOk mg (wo K pm) tb rows := by
  refine ⟨rfl, fun g r e => ?_, fun g x d e => ?_, fun x hx => ?_, fun k hk => ?_, fun i x e => anF_at e, xs, rfl, fun q hq => ?_⟩
  · match g, e with
    | 0, e => cases e; exact ok_ties_of X G c
    | 1, e => cases e; exact ok_hues_by_ties X G c
    | 2, e => cases e; exact ok_hue_of X G c
    | 3, e => cases e; exact ok__law_bag X G c
    | 4, e => cases e; exact ok__law_draw X G c
    | 5, e => cases e; exact ok__law_cells X G c
    | 6, e => cases e; exact ok__law_hues X G c
    | 7, e => cases e; exact ok__law_hue X G c
    | 8, e => cases e; exact ok__law_refused X G c
    | 9, e => cases e; exact ok_law X G c
    | n + 10, e => exact absurd e (by simp [rows])
  · exact absurd e (by simp [tb])
  · have hx : x ∈ (["range", "zip", "max", "int", "tuple", "min", "sum", "isinstance", "ValueError", "len", "bool"] : List Str) := hx
    simp only [List.mem_cons, List.mem_nil_iff, or_false] at hx
    rcases hx with rfl | rfl | rfl | rfl | rfl | rfl | rfl | rfl | rfl | rfl | rfl
    · exact He.free_ok X G (c.fact 10 rfl)
    · exact He.free_ok X G (c.fact 11 rfl)
    · exact He.free_ok X G (c.fact 12 rfl)
    · exact He.free_ok X G (c.fact 13 rfl)
    · exact He.free_ok X G (c.fact 14 rfl)
    · exact He.free_ok X G (c.fact 15 rfl)
    · exact He.free_ok X G (c.fact 16 rfl)
    · exact He.free_ok X G (c.fact 17 rfl)
    · exact He.free_ok X G (c.fact 18 rfl)
    · exact He.free_ok X G (c.fact 19 rfl)
    · exact He.free_ok X G (c.fact 20 rfl)
  · exact absurd hk (by simp [tb])
  · exact absurd hq (by simp [tb])
end
end Lk18

/-! AUTO: steps. -/
namespace Hb
open PySem
section
variable {chk : Hp → Prop} {body : V → Env → Hp → Nx → Kk → Prop} {n : Nx} {k : Kk}
/-- a loop over what a list of things becomes -/
theorem forW_m {α : Type} (f : α → V) (I : List α → Env → Hp → Prop) : ∀ (xs : List α) (env : Env) (h : Hp), I xs env h → (∀ l e h, I l e h → chk h) →
    (∀ e h x l (nx : Nx), I (x :: l) e h → (∀ e' h', I l e' h' → nx e' h') → body (f x) e h nx ⟨k.rt, n, nx, k.xe⟩) →
    (∀ e h, I [] e h → n e h) → forW chk body (xs.map f) env h n k
  | [], env, h, h0, hc, _, fin => forW_nil (hc _ _ _ h0) (fin env h h0)
  | x :: xs, env, h, h0, hc, st, fin => forW_cons (hc _ _ _ h0) (st env h x xs _ h0 fun e' h' hi => forW_m f I xs e' h' hi hc st fin)
/-- a loop over numbers -/
theorem forW_ran (lo : Int) (I : Nat → Env → Hp → Prop) : ∀ (m j : Nat) (env : Env) (h : Hp), I j env h → (∀ i e h, I i e h → chk h) →
    (∀ i e h (nx : Nx), I i e h → j ≤ i → i < j + m → (∀ e' h', I (i + 1) e' h' → nx e' h') → body (.d (.int (lo + i))) e h nx ⟨k.rt, n, nx, k.xe⟩) →
    (∀ e h, I (j + m) e h → n e h) → forW chk body ((ranI (lo + j) m).map V.d) env h n k
  | 0, j, env, h, h0, hc, _, fin => forW_nil (hc _ _ _ h0) (fin env h h0)
  | m + 1, j, env, h, h0, hc, st, fin => by
    refine forW_cons (hc _ _ _ h0) (st j env h _ h0 (Nat.le_refl _) (by omega) fun e' h' hi => ?_)
    have e : lo + (j : Int) + 1 = lo + ((j + 1 : Nat) : Int) := by omega
    show forW chk body ((ranI (lo + j + 1) m).map V.d) e' h' n k
    rw [e]
    exact forW_ran lo I m (j + 1) e' h' hi hc (fun i e h nx hi h1 h2 q => st i e h nx hi (by omega) (by omega) q) fun e h hi => fin e h (by rw [show j + (m + 1) = j + 1 + m by omega]; exact hi)
theorem forW_r0 (I : Nat → Env → Hp → Prop) (m : Nat) (env : Env) (h : Hp) (h0 : I 0 env h) (hc : ∀ i e h, I i e h → chk h)
    (st : ∀ i e h (nx : Nx), I i e h → i < m → (∀ e' h', I (i + 1) e' h' → nx e' h') → body (.d (.int i)) e h nx ⟨k.rt, n, nx, k.xe⟩)
    (fin : ∀ e h, I m e h → n e h) : forW chk body ((ranI 0 m).map V.d) env h n k :=
  forW_ran 0 I m 0 env h h0 hc (fun i e h nx hi _ hm q => by
    have := st i e h nx hi (by omega) q
    rw [show (0 : Int) + (i : Int) = i by omega]
    exact this) fun e h hi => fin e h (by rw [Nat.zero_add] at hi; exact hi)
end
section
variable {chk : Hp → Prop} {turn : V → Hp → (Option V → Hp → Prop) → Prop} {h : Hp} {Q : List V → Hp → Prop}
/-- the same over what a list of things becomes -/
theorem cmpW_mm {α β : Type} (f : α → D) (r : β → D) (g : α → Option β) (hc : chk h) (ts : List α) (ht : ∀ x ∈ ts, ∀ Q', Q' ((g x).map fun b => V.d (r b)) h → turn (.d (f x)) h Q') (hl : ts.length ≤ big) (q : Q (((ts.filterMap g).map r).map V.d) h) :
    cmpW chk turn ((ts.map f).map V.d) [] h Q := by
  rw [List.map_map] at q
  have key : ∀ (ts : List α) (acc : List V), (∀ x ∈ ts, ∀ Q', Q' ((g x).map fun b => V.d (r b)) h → turn (.d (f x)) h Q') → acc.length + ts.length ≤ big → Q (acc ++ (ts.filterMap g).map fun b => V.d (r b)) h → cmpW chk turn ((ts.map f).map V.d) acc h Q := by
    intro ts
    induction ts with
    | nil => intro acc _ _ q; exact cmpW_nil hc (by rw [List.filterMap_nil, List.map_nil, List.append_nil] at q; exact q)
    | cons x ts ih =>
      intro acc ht hl q
      simp only [List.length_cons] at hl
      refine cmpW_cons hc (ht x (by simp) _ ?_)
      rw [List.filterMap_cons] at q
      cases e : g x with
      | none =>
        rw [e] at q
        exact ih acc (fun y hy => ht y (by simp [hy])) (by omega) q
      | some v =>
        rw [e] at q
        refine ⟨by omega, ih (acc ++ [V.d (r v)]) (fun y hy => ht y (by simp [hy])) (by simp only [List.length_append, List.length_cons, List.length_nil]; omega) ?_⟩
        rw [List.append_assoc]
        exact q
  exact key ts [] ht (by simpa using hl) q
theorem cmpW_mp {α β : Type} (f : α → D) (r : β → D) (g : α → β) (hc : chk h) (ts : List α) (ht : ∀ x ∈ ts, ∀ Q', Q' (some (V.d (r (g x)))) h → turn (.d (f x)) h Q') (hl : ts.length ≤ big) (q : Q (((ts.map g).map r).map V.d) h) :
    cmpW chk turn ((ts.map f).map V.d) [] h Q := by
  refine cmpW_mm f r (fun x => some (g x)) hc ts ht hl ?_
  rw [show ts.filterMap (fun x => some (g x)) = ts.map g from by rw [← List.filterMap_eq_map]; rfl]
  exact q
end
/-- two fors -/
theorem cmpW2_fm {α : Type} {chk : Hp → Prop} {turn : V → List V → Hp → (List V → Hp → Prop) → Prop} {h : Hp} {Q : List V → Hp → Prop} (f : α → V) (g : α → List V) (hc : chk h) : ∀ (ts : List α) (acc : List V),
    (∀ x ∈ ts, ∀ (acc : List V) Q', acc.length + (g x).length ≤ big → Q' (acc ++ g x) h → turn (f x) acc h Q') → acc.length + (ts.flatMap g).length ≤ big → Q (acc ++ ts.flatMap g) h → cmpW2 chk turn (ts.map f) acc h Q
  | [], acc, _, _, q => cmpW2_nil hc (by rw [List.flatMap_nil, List.append_nil] at q; exact q)
  | x :: ts, acc, ht, hl, q => by
    rw [List.flatMap_cons, List.length_append] at hl
    refine cmpW2_cons hc (ht x (by simp) acc _ (by omega) ?_)
    refine cmpW2_fm f g hc ts (acc ++ g x) (fun y hy => ht y (by simp [hy])) (by rw [List.length_append]; omega) ?_
    rw [List.append_assoc]
    rw [List.flatMap_cons] at q
    exact q
end Hb

/-! MK: what the laws make their input by. -/
namespace Hb
open PySem
set_option autoImplicit false
/-- a pouch -/
def Pch (t : Nat) (xs : List D) : Prop := ∃ a b c : Int, xs = [.int a, .int b, .int c] ∧ 0 ≤ a ∧ 0 ≤ b ∧ b < 2 ^ 200 ∧ 0 ≤ c ∧ c ≤ t
theorem Pch.mono {t t' : Nat} {xs : List D} (h : Pch t xs) (ht : t ≤ t') : Pch t' xs := by
  obtain ⟨a, b, c, e, h1, h2, h3, h4, h5⟩ := h
  exact ⟨a, b, c, e, h1, h2, h3, h4, by omega⟩
theorem abs_lt {i : Int} {k : Nat} (h0 : 0 ≤ i) (h : i < ((2 ^ k : Nat) : Int)) : i.natAbs < 2 ^ k := by omega
theorem two_cast (k : Nat) : ((2 : Int) ^ k) = ((2 ^ k : Nat) : Int) := by norm_cast
/-! ### webs -/
/-- ties of a web of m points -/
def Ties (m : Int) (T : List (Int × Int)) : Prop := ∀ p ∈ T, 0 ≤ p.1 ∧ p.1 < p.2 ∧ p.2 < m
/-- all pairs, row by row -/
def rowP (m a : Int) : List (Int × Int) := (List.range (m - (a + 1)).toNat).map fun i => (a, a + 1 + (i : Nat))
def pairsP (m : Int) : Nat → Int → List (Int × Int)
  | 0, _ => []
  | k + 1, a => rowP m a ++ pairsP m k (a + 1)
def allP (m : Int) : List (Int × Int) := pairsP m m.toNat 0
theorem rowP_ok {m a : Int} (h0 : 0 ≤ a) {p : Int × Int} (h : p ∈ rowP m a) : p.1 = a ∧ a < p.2 ∧ p.2 < m := by
  unfold rowP at h
  obtain ⟨i, hi, rfl⟩ := List.mem_map.mp h
  have := List.mem_range.mp hi
  refine ⟨rfl, ?_, ?_⟩
  · show a < a + 1 + (i : Int); omega
  · show a + 1 + (i : Int) < m; omega
theorem pairsP_ok {m : Int} : ∀ {k : Nat} {a : Int}, 0 ≤ a → Ties m (pairsP m k a)
  | 0, _, _ => fun p hp => by cases hp
  | k + 1, a, h => fun p hp => by
    rcases List.mem_append.mp hp with hp | hp
    · obtain ⟨h1, h2, h3⟩ := rowP_ok h hp
      exact ⟨by omega, by omega, h3⟩
    · exact pairsP_ok (show 0 ≤ a + 1 by omega) p hp
theorem allP_ok (m : Int) : Ties m (allP m) := pairsP_ok (by omega)
theorem rowP_len (m a : Int) : (rowP m a).length = (m - (a + 1)).toNat := by unfold rowP; rw [List.length_map, List.length_range]
theorem pairsP_len {m : Int} (hm : m ≤ 30) : ∀ {k : Nat} {a : Int}, 0 ≤ a → (pairsP m k a).length ≤ 30 * k
  | 0, _, _ => Nat.le_refl _
  | k + 1, a, h => by
    show (rowP m a ++ pairsP m k (a + 1)).length ≤ _
    rw [List.length_append, rowP_len]
    have := pairsP_len hm (k := k) (show 0 ≤ a + 1 by omega)
    omega
end Hb

/-! WAYS: ways of webs, plainly. -/
namespace Hb
open PySem
set_option autoImplicit false
/-! ### may_go -/
def mn (a b : Int) : Int := if b < a then b else a
def mx (a b : Int) : Int := if a < b then b else a
/-! ### longer_ways -/
def rngI (m : Int) : List Int := (List.range m.toNat).map fun i => ((i : Nat) : Int)
theorem ranI_rng : ∀ (k : Nat) (lo : Int), ranI lo k = ((List.range k).map fun i => lo + (i : Nat)).map PyData.int
  | 0, _ => rfl
  | k + 1, lo => by
    rw [List.range_succ_eq_map, List.map_cons, List.map_cons, List.map_map]
    show PyData.int lo :: ranI (lo + 1) k = _
    rw [ranI_rng k (lo + 1)]
    congr 1
    · rw [show lo + ((0 : Nat) : Int) = lo by omega]
    · rw [List.map_map, List.map_map]
      apply List.map_congr_left
      intro i _
      show PyData.int _ = PyData.int _
      congr 1
      show lo + 1 + (i : Nat) = lo + ((i + 1 : Nat) : Int)
      omega
theorem ran0_rng (m : Int) : ranI 0 m.toNat = (rngI m).map PyData.int := by
  rw [ranI_rng]
  unfold rngI
  congr 1
  apply List.map_congr_left
  intro i _
  omega
theorem rngI_mem {m p : Int} (h : p ∈ rngI m) : 0 ≤ p ∧ p < m := by
  unfold rngI at h
  obtain ⟨i, hi, rfl⟩ := List.mem_map.mp h
  have := List.mem_range.mp hi
  omega
theorem rngI_len (m : Int) : (rngI m).length = m.toNat := by unfold rngI; rw [List.length_map, List.length_range]
end Hb

/-! DFS: trees gone through by a stack, level by level. -/
namespace Hb
open PySem
set_option autoImplicit false
section
variable {α : Type} (kids : α → List α)
end
end Hb

/-! WAYS2: first_way, like_way, lies_way, own_ways. -/
namespace Hb
open PySem
set_option autoImplicit false
/-! ### like_way, lies_way, own_ways -/
end Hb

/-! MK2: webs numbered otherwise, bent. -/
namespace Hb
open PySem
set_option autoImplicit false
/-- an item by a number -/
def gI (s : List Int) (i : Int) : Int := s.getD i.toNat 0
theorem atI_gI {s : List Int} {i : Int} {Q : D → Prop} (h0 : 0 ≤ i) (h1 : i < s.length) (q : Q (.int (gI s i))) : optP (L2.atI (s.map PyData.int) i) Q := by
  refine optP_ix h0 (by rw [List.length_map]; exact h1) fun x hx => ?_
  rw [List.getElem?_map] at hx
  unfold gI at q
  rw [List.getD_eq_getElem?_getD] at q
  cases e : s[i.toNat]? with
  | none => rw [e] at hx; cases hx
  | some y => rw [e] at hx q; cases hx; exact q
/-! ### all orders -/
/-! ### a law over the cells -/
end Hb

/-! BAG: what the laws of colourings make their input by. -/
namespace Hb
open PySem
set_option autoImplicit false
/-- a bag -/
def Bag (t : Nat) (xs : List D) : Prop := ∃ a b c : Int, xs = [.int a, .int b, .int c] ∧ 0 ≤ a ∧ 0 ≤ b ∧ b < 2 ^ 450 ∧ 0 ≤ c ∧ c ≤ t
theorem Bag.mono {t t' : Nat} {xs : List D} (h : Bag t xs) (ht : t ≤ t') : Bag t' xs := by
  obtain ⟨a, b, c, e, h1, h2, h3, h4, h5⟩ := h
  exact ⟨a, b, c, e, h1, h2, h3, h4, by omega⟩
theorem lt4000b {i : Int} (h0 : 0 ≤ i) (h : i < 2 ^ 450) : i.natAbs < 2 ^ 4000 := by
  rw [two_cast] at h
  exact Nat.lt_of_lt_of_le (abs_lt h0 h) (Nat.pow_le_pow_right (by omega) (by omega))
theorem w_draw {FT : List FnI} {g : Nat} (c0 : C__law_draw_k15 FT g) {n : Nat} (hn : 1 ≤ n) {h : Hp} {k t : Nat} {m : Int} {xs : List D} {P : Pv} {X : Px} (hk : h[k]? = some (.lst xs)) (hp : Bag t xs) (ht : t < 2 ^ 60) (hm : 0 < m) (hm2 : m < 2 ^ 60)
    (q : ∀ v ys, 0 ≤ v → v < m → Bag (t + 1) ys → P (.d (.int v)) (h.set k (.lst ys))) : callN FT n g [.cell k, .d (.int m)] h P X := by
  obtain ⟨n, rfl⟩ : ∃ m, n = m + 1 := ⟨n - 1, by omega⟩
  obtain ⟨a, b, c, rfl, ha, hb, hb2, hc, hc2⟩ := hp
  refine callN_c (ds := [.int m]) (fn := ix__law_draw_k15) c0 rfl rfl hk ?_
  (conv => whnf)
  by_cases h0 : 0 < a
  · rw [decide_eq_true h0]
    (conv => whnf)
    refine ⟨hm, ?_⟩
    have e0 := Int.emod_nonneg a (show m ≠ 0 by omega)
    have e1 := Int.emod_lt_of_pos a hm
    generalize a % m = s at e0 e1 ⊢
    (conv => whnf)
    refine ⟨⟨hm, ilt4000 (by omega)⟩, ?_⟩
    (conv => whnf)
    exact q s _ e0 e1 ⟨a / m, b, c, rfl, Int.ediv_nonneg ha (by omega), hb, hb2, hc, by omega⟩
  · rw [decide_eq_false h0]
    (conv => whnf)
    refine ⟨⟨by decide, by decide, lt4000b hb hb2⟩, ?_⟩
    (conv => whnf)
    refine ⟨okMul_l (by decide), ?_⟩
    (conv => whnf)
    refine ⟨⟨by decide, by decide, lt4000 (by decide)⟩, ?_⟩
    (conv => whnf)
    have e2 : (0 : Int) < 10 ^ Int.toNat 31 + 33 := by decide
    refine ⟨e2, ?_⟩
    have e0 := Int.emod_nonneg (b ^ Int.toNat 3 + 40692 * (c + 1) + 11) (Int.ne_of_gt e2)
    have e1 := Int.emod_lt_of_pos (b ^ Int.toNat 3 + 40692 * (c + 1) + 11) e2
    generalize (b ^ Int.toNat 3 + 40692 * (c + 1) + 11) % (10 ^ Int.toNat 31 + 33) = s at e0 e1 ⊢
    have e3 : s < 2 ^ 450 := Int.lt_of_lt_of_le e1 (by decide)
    clear e1 e2
    (conv => whnf)
    refine ⟨⟨by decide, by decide, lt4000 (by decide)⟩, ?_⟩
    (conv => whnf)
    refine ⟨⟨by decide, ilt4000 (by decide)⟩, ?_⟩
    (conv => whnf)
    refine ⟨hm, ?_⟩
    have g0 := Int.emod_nonneg (s / 10 ^ Int.toNat 9) (show m ≠ 0 by omega)
    have g1 := Int.emod_lt_of_pos (s / 10 ^ Int.toNat 9) hm
    generalize s / 10 ^ Int.toNat 9 % m = v at g0 g1 ⊢
    (conv => whnf)
    exact q v _ g0 g1 ⟨a, s, c + 1, rfl, ha, e0, e3, by omega, by omega⟩
theorem cube_lt {s : Int} (h0 : 0 ≤ s) (h : s < 2 ^ 140) : 0 ≤ s ^ Int.toNat 3 ∧ s ^ Int.toNat 3 < 2 ^ 450 := by
  refine ⟨Int.pow_nonneg h0, ?_⟩
  have h1 : s.toNat < 2 ^ 140 := by omega
  have h2 : s.toNat ^ 3 < (2 ^ 140) ^ 3 := Nat.pow_lt_pow_left h1 (by omega)
  have h3 : ((s.toNat ^ 3 : Nat) : Int) < ((2 ^ 450 : Nat) : Int) := by
    have : s.toNat ^ 3 < 2 ^ 450 := Nat.lt_of_lt_of_le h2 (by decide)
    exact Int.ofNat_lt.mpr this
  have e : ((s.toNat ^ 3 : Nat) : Int) = s ^ Int.toNat 3 := by
    rw [Int.natCast_pow, Int.toNat_of_nonneg h0]
    rfl
  rw [e] at h3
  rw [two_cast]
  exact h3
theorem w_bag {FT : List FnI} {g : Nat} (c0 : C__law_bag_k15 FT g) {n : Nat} (hn : 1 ≤ n) {h : Hp} {c k : Int} (hk : 0 ≤ k) (hk2 : k < 1000) {P : Pv} {X : Px} (q : ∀ xs, Bag 0 xs → P (.cell h.length) (h ++ [.lst xs])) : callN FT n g [.d (.int c), .d (.int k)] h P X := by
  obtain ⟨n, rfl⟩ : ∃ m, n = m + 1 := ⟨n - 1, by omega⟩
  refine callN_d (ds := [.int c, .int k]) (fn := ix__law_bag_k15) c0 rfl rfl ?_
  (conv => whnf)
  refine ⟨⟨by decide, by decide, lt4000 (by decide)⟩, ?_⟩
  (conv => whnf)
  refine ⟨⟨by decide, by decide, lt4000 (by decide)⟩, ?_⟩
  (conv => whnf)
  have e2 : (0 : Int) < 10 ^ Int.toNat 40 + 121 := by decide
  refine ⟨e2, ?_⟩
  have e0 := Int.emod_nonneg c (Int.ne_of_gt e2)
  have e1 := Int.emod_lt_of_pos c e2
  generalize c % (10 ^ Int.toNat 40 + 121) = s at e0 e1 ⊢
  have e3 : s < 2 ^ 139 := Int.lt_of_lt_of_le e1 (by decide)
  (conv => whnf)
  refine ⟨okMul_l (by decide), ?_⟩
  (conv => whnf)
  have f0 : 0 ≤ s + 7919 * k + 1 := by omega
  have f1 : s + 7919 * k + 1 < 2 ^ 140 := by omega
  refine ⟨⟨by decide, by decide, lt4000 (by omega)⟩, ?_⟩
  obtain ⟨f2, f3⟩ := cube_lt f0 f1
  (((conv => whnf); repeat (refine And.intro (by (first | exact trivial | exact Nat.le_of_ble_eq_true rfl | omega | decide | rfl | (unfold big; omega) | assumption | exact ⟨by decide, by decide, lt4000 (by decide)⟩ | exact okMul_l (by decide) | exact okMul_r (by decide) | (first | rfl | exact shp_tupI _ | exact (shk_prs _).shp (by decide) | exact (shk_prD _).shp (by decide) | assumption) | exact .inl ⟨by (first | rfl | exact shp_tupI _ | exact (shk_prs _).shp (by decide) | exact (shk_prD _).shp (by decide) | assumption), by (first | rfl | exact shp_tupI _ | exact (shk_prs _).shp (by decide) | exact (shk_prD _).shp (by decide) | assumption)⟩ | exact .inr (.inr ⟨_, rfl, rfl⟩) | exact .inr (.inl ⟨_, rfl, rfl⟩))) ?_; conv => whnf)))
  refine q _ ⟨_, _, _, rfl, ?_, f2, f3, by omega, by omega⟩
  split <;> omega
end Hb

/-! BAG2: webs, demands, colourings by a bag. -/
namespace Hb
open PySem
set_option autoImplicit false
end Hb

/-! BAG3: demands, colourings by a bag. -/
namespace Hb
open PySem
set_option autoImplicit false
/-- a colouring: hues of all ties -/
def colD (m : Int) (H : List Int) : D := .tuple [.int m, .tuple (H.map PyData.int)]
theorem half_pos {m : Int} (h : 0 ≤ m) : 0 ≤ m * (m - 1) / 2 := by
  rcases Int.lt_or_le 0 m with z | z
  · exact Int.ediv_nonneg (Int.mul_nonneg h (by omega)) (by omega)
  · have : m = 0 := by omega
    subst this
    decide
theorem half_le {m : Int} (h : 0 ≤ m) (h2 : m ≤ 30) : m * (m - 1) / 2 ≤ 435 := by
  have h1 : m * (m - 1) ≤ 30 * 29 := by
    rcases Int.lt_or_le 0 m with z | z
    · exact Int.mul_le_mul h2 (by omega) (by omega) (by omega)
    · have : m = 0 := by omega
      subst this
      decide
  omega
theorem w_hues {FT : List FnI} {g : Nat} (c0 : C__law_hues_k16 FT g) {n : Nat} (hn : 2 ≤ n) {h : Hp} {k t : Nat} {m C : Int} {xs : List D} (hk : h[k]? = some (.lst xs)) (hp : Bag t xs) (ht : t + 5000 < 2 ^ 60) (hm : 0 ≤ m) (hm2 : m ≤ 30) (hC : 0 < C) (hC2 : C < 2 ^ 40) {P : Pv} {X : Px}
    (q : ∀ (H : List Int) ys, (H.length : Int) = m * (m - 1) / 2 → (∀ x ∈ H, 0 ≤ x ∧ x < C) → Bag (t + 500) ys → P (.d (.tuple (H.map PyData.int))) (h.set k (.lst ys))) : callN FT n g [.cell k, .d (.int m), .d (.int C)] h P X := by
  obtain ⟨n, rfl⟩ : ∃ m, n = m + 1 := ⟨n - 1, by omega⟩
  obtain ⟨fr, ef, er⟩ := c0
  refine callN_c (ds := [.int m, .int C]) (fn := ix__law_hues_k16 fr) ef rfl rfl hk ?_
  (((conv => whnf); repeat (refine And.intro (by (first | exact trivial | exact Nat.le_of_ble_eq_true rfl | omega | decide | rfl | (unfold big; omega) | assumption | exact ⟨by decide, by decide, lt4000 (by decide)⟩ | exact okMul_l (by decide) | exact okMul_r (by decide) | (first | rfl | exact shp_tupI _ | exact (shk_prs _).shp (by decide) | exact (shk_prD _).shp (by decide) | assumption) | exact .inl ⟨by (first | rfl | exact shp_tupI _ | exact (shk_prs _).shp (by decide) | exact (shk_prD _).shp (by decide) | assumption), by (first | rfl | exact shp_tupI _ | exact (shk_prs _).shp (by decide) | exact (shk_prD _).shp (by decide) | assumption)⟩ | exact .inr (.inr ⟨_, rfl, rfl⟩) | exact .inr (.inl ⟨_, rfl, rfl⟩))) ?_; conv => whnf)))
  refine w_draw er (n := n) (by omega) (h := [.lst xs]) rfl hp (by omega) hC (by omega) fun u ys u0 u1 hp => ?_
  (((conv => whnf); repeat (refine And.intro (by (first | exact trivial | exact Nat.le_of_ble_eq_true rfl | omega | decide | rfl | (unfold big; omega) | assumption | exact ⟨by decide, by decide, lt4000 (by decide)⟩ | exact okMul_l (by decide) | exact okMul_r (by decide) | (first | rfl | exact shp_tupI _ | exact (shk_prs _).shp (by decide) | exact (shk_prD _).shp (by decide) | assumption) | exact .inl ⟨by (first | rfl | exact shp_tupI _ | exact (shk_prs _).shp (by decide) | exact (shk_prD _).shp (by decide) | assumption), by (first | rfl | exact shp_tupI _ | exact (shk_prs _).shp (by decide) | exact (shk_prD _).shp (by decide) | assumption)⟩ | exact .inr (.inr ⟨_, rfl, rfl⟩) | exact .inr (.inl ⟨_, rfl, rfl⟩))) ?_; conv => whnf)))
  refine w_draw er (n := n) (by omega) (h := [.lst ys, .lst []]) rfl hp (by omega) (by decide) (by decide) fun d zs d0 d1 hp => ?_
  (((conv => whnf); repeat (refine And.intro (by (first | exact trivial | exact Nat.le_of_ble_eq_true rfl | omega | decide | rfl | (unfold big; omega) | assumption | exact ⟨by decide, by decide, lt4000 (by decide)⟩ | exact okMul_l (by decide) | exact okMul_r (by decide) | (first | rfl | exact shp_tupI _ | exact (shk_prs _).shp (by decide) | exact (shk_prD _).shp (by decide) | assumption) | exact .inl ⟨by (first | rfl | exact shp_tupI _ | exact (shk_prs _).shp (by decide) | exact (shk_prD _).shp (by decide) | assumption), by (first | rfl | exact shp_tupI _ | exact (shk_prs _).shp (by decide) | exact (shk_prD _).shp (by decide) | assumption)⟩ | exact .inr (.inr ⟨_, rfl, rfl⟩) | exact .inr (.inl ⟨_, rfl, rfl⟩))) ?_; conv => whnf)))
  refine optP_at d0 d1 fun x hx => ?_
  have hb : ∃ W : Int, x = .int W ∧ 0 < W ∧ W < 2 ^ 42 := by
    simp only [List.mem_cons, List.not_mem_nil, or_false] at hx
    rcases hx with rfl | rfl
    · exact ⟨C, rfl, hC, by omega⟩
    · exact ⟨3 * C, rfl, by omega, by omega⟩
  obtain ⟨W, rfl, W0, W1⟩ := hb
  (conv => whnf)
  refine And.intro (okMul_l (by omega)) ?_
  have p0 := half_pos hm
  have p1 := half_le hm hm2
  (conv => whnf)
  refine And.intro (by decide) ?_
  generalize m * (m - 1) / 2 = L at p0 p1 q ⊢
  (((conv => whnf); repeat (refine And.intro (by (first | exact trivial | exact Nat.le_of_ble_eq_true rfl | omega | decide | rfl | (unfold big; omega) | assumption | exact ⟨by decide, by decide, lt4000 (by decide)⟩ | exact okMul_l (by decide) | exact okMul_r (by decide) | (first | rfl | exact shp_tupI _ | exact (shk_prs _).shp (by decide) | exact (shk_prD _).shp (by decide) | assumption) | exact .inl ⟨by (first | rfl | exact shp_tupI _ | exact (shk_prs _).shp (by decide) | exact (shk_prD _).shp (by decide) | assumption), by (first | rfl | exact shp_tupI _ | exact (shk_prs _).shp (by decide) | exact (shk_prD _).shp (by decide) | assumption)⟩ | exact .inr (.inr ⟨_, rfl, rfl⟩) | exact .inr (.inl ⟨_, rfl, rfl⟩))) ?_; conv => whnf)))
  refine forW_r0 (fun i e h' => ∃ (A : List Int) (us : List D) (o6 o7 : Option V), h' = [.lst us, .lst (A.map PyData.int)] ∧ Bag (t + 2 + i) us ∧ A.length = i ∧ (∀ x ∈ A, 0 ≤ x ∧ x < C) ∧ e = [some (.cell 0), some (.d (.int m)), some (.d (.int C)), some (.d (.int u)), some (.cell 1), some (.d (.int W)), o6, o7]) _ _ _ ?_ (fun _ _ _ _ => trivial) ?_ ?_
  · exact ⟨[], zs, _, _, rfl, hp, rfl, by simp, rfl⟩
  · rintro i e h' nx ⟨A, us, o6, o7, rfl, hp, hl, hA, rfl⟩ hi hnx
    (((conv => whnf); repeat (refine And.intro (by (first | exact trivial | exact Nat.le_of_ble_eq_true rfl | omega | decide | rfl | (unfold big; omega) | assumption | exact ⟨by decide, by decide, lt4000 (by decide)⟩ | exact okMul_l (by decide) | exact okMul_r (by decide) | (first | rfl | exact shp_tupI _ | exact (shk_prs _).shp (by decide) | exact (shk_prD _).shp (by decide) | assumption) | exact .inl ⟨by (first | rfl | exact shp_tupI _ | exact (shk_prs _).shp (by decide) | exact (shk_prD _).shp (by decide) | assumption), by (first | rfl | exact shp_tupI _ | exact (shk_prs _).shp (by decide) | exact (shk_prD _).shp (by decide) | assumption)⟩ | exact .inr (.inr ⟨_, rfl, rfl⟩) | exact .inr (.inl ⟨_, rfl, rfl⟩))) ?_; conv => whnf)))
    refine w_draw er (n := n) (by omega) (h := [.lst us, .lst (A.map PyData.int)]) rfl hp (by omega) W0 (by omega) fun v vs v0 v1 hp => ?_
    have go : ∀ y : Int, 0 ≤ y → y < C → ∀ {o6 o7 : Option V}, nx [some (.cell 0), some (.d (.int m)), some (.d (.int C)), some (.d (.int u)), some (.cell 1), some (.d (.int W)), o6, o7] [.lst vs, .lst (A.map PyData.int ++ [.int y])] := fun y y0 y1 o6 o7 => by
      refine hnx _ _ ⟨A ++ [y], vs, _, _, by rw [List.map_append]; rfl, hp, by rw [List.length_append, List.length_singleton]; omega, fun x hx => ?_, rfl⟩
      rcases List.mem_append.mp hx with hx | hx
      · exact hA x hx
      · simp at hx; subst hx; exact ⟨y0, y1⟩
    (conv => whnf)
    by_cases e : v < C
    · rw [decide_eq_true e]
      (conv => whnf)
      refine And.intro (Nat.lt_of_le_of_lt (show _ ≤ 435 by rw [List.length_map]; omega) (by decide)) ?_
      exact go v v0 e
    · rw [decide_eq_false e]
      (conv => whnf)
      refine And.intro (Nat.lt_of_le_of_lt (show _ ≤ 435 by rw [List.length_map]; omega) (by decide)) ?_
      exact go u u0 u1
  · rintro e h' ⟨A, us, o6, o7, rfl, hp, hl, hA, rfl⟩
    (((conv => whnf); repeat (refine And.intro (by (first | exact trivial | exact Nat.le_of_ble_eq_true rfl | omega | decide | rfl | (unfold big; omega) | assumption | exact ⟨by decide, by decide, lt4000 (by decide)⟩ | exact okMul_l (by decide) | exact okMul_r (by decide) | (first | rfl | exact shp_tupI _ | exact (shk_prs _).shp (by decide) | exact (shk_prD _).shp (by decide) | assumption) | exact .inl ⟨by (first | rfl | exact shp_tupI _ | exact (shk_prs _).shp (by decide) | exact (shk_prD _).shp (by decide) | assumption), by (first | rfl | exact shp_tupI _ | exact (shk_prs _).shp (by decide) | exact (shk_prD _).shp (by decide) | assumption)⟩ | exact .inr (.inr ⟨_, rfl, rfl⟩) | exact .inr (.inl ⟨_, rfl, rfl⟩))) ?_; conv => whnf)))
    exact q A us (by omega) hA (hp.mono (by omega))
theorem w_cells {FT : List FnI} {g : Nat} (c0 : C__law_cells_k15 FT g) {n : Nat} (hn : 1 ≤ n) {h : Hp} {ns : List Int} {N : Int} (hns : ns.length ≤ 63) (hN : 0 ≤ N) (hN2 : N < 1000) {P : Pv} {X : Px}
    (q : ∀ cs : List Int, cs.length ≤ 64 → P (.d (.list (cs.map PyData.int))) h) : callN FT n g [.d (.list (ns.map PyData.int)), .d (.int N)] h P X := by
  obtain ⟨n, rfl⟩ : ∃ m, n = m + 1 := ⟨n - 1, by omega⟩
  refine callN_d (ds := [.list (ns.map PyData.int), .int N]) (fn := ix__law_cells_k15) c0 rfl rfl ?_
  obtain ⟨N, rfl⟩ : ∃ k : Nat, N = k := ⟨N.toNat, by omega⟩
  cases ns with
  | nil =>
    (((conv => whnf); repeat (refine And.intro (by (first | exact trivial | exact Nat.le_of_ble_eq_true rfl | omega | decide | rfl | (unfold big; omega) | assumption | exact ⟨by decide, by decide, lt4000 (by decide)⟩ | exact okMul_l (by decide) | exact okMul_r (by decide) | (first | rfl | exact shp_tupI _ | exact (shk_prs _).shp (by decide) | exact (shk_prD _).shp (by decide) | assumption) | exact .inl ⟨by (first | rfl | exact shp_tupI _ | exact (shk_prs _).shp (by decide) | exact (shk_prD _).shp (by decide) | assumption), by (first | rfl | exact shp_tupI _ | exact (shk_prs _).shp (by decide) | exact (shk_prD _).shp (by decide) | assumption)⟩ | exact .inr (.inr ⟨_, rfl, rfl⟩) | exact .inr (.inl ⟨_, rfl, rfl⟩))) ?_; conv => whnf)))
    have e : cutD (List.map PyData.int ([] : List Int)) none (some (N : Int)) = [] := by rw [cut_hi]; exact List.take_nil
    rw [e]
    refine And.intro (Nat.le_of_ble_eq_true rfl) ?_
    exact q [0] (by decide)
  | cons a ns =>
    (((conv => whnf); repeat (refine And.intro (by (first | exact trivial | exact Nat.le_of_ble_eq_true rfl | omega | decide | rfl | (unfold big; omega) | assumption | exact ⟨by decide, by decide, lt4000 (by decide)⟩ | exact okMul_l (by decide) | exact okMul_r (by decide) | (first | rfl | exact shp_tupI _ | exact (shk_prs _).shp (by decide) | exact (shk_prD _).shp (by decide) | assumption) | exact .inl ⟨by (first | rfl | exact shp_tupI _ | exact (shk_prs _).shp (by decide) | exact (shk_prD _).shp (by decide) | assumption), by (first | rfl | exact shp_tupI _ | exact (shk_prs _).shp (by decide) | exact (shk_prD _).shp (by decide) | assumption)⟩ | exact .inr (.inr ⟨_, rfl, rfl⟩) | exact .inr (.inl ⟨_, rfl, rfl⟩))) ?_; conv => whnf)))
    have e : cutD ((a :: ns).map PyData.int) none (some (N : Int)) = ((a :: ns).take N).map PyData.int := by rw [cut_hi, List.map_take]
    rw [e]
    have hl : ((a :: ns).take N).length ≤ 63 := by rw [List.length_take]; omega
    generalize (a :: ns).take N = cs at hl
    refine And.intro ⟨show (-(2 ^ 63 : Int)) ≤ 0 by decide, show (0 : Int) < 2 ^ 63 by decide, Nat.le_of_ble_eq_true rfl⟩ ?_
    (conv => whnf)
    refine And.intro (Nat.le_trans (show _ ≤ 63 by rw [List.length_map]; exact hl) (by decide)) ?_
    have q := q cs (by omega)
    rw [← List.append_nil (cs.map PyData.int)] at q
    exact q
end Hb

/-! HUE: the hues of a colouring by their ties. -/
namespace Hb
open PySem
set_option autoImplicit false
/-! ### places -/
/-- how many ties stand ahead of the row a + j, from the row a on -/
def offI (m a : Int) : Nat → Int
  | 0 => 0
  | j + 1 => (m - 1 - a) + offI m (a + 1) j
def placeI (m a b : Int) : Int := offI m 0 (mn a b).toNat + mx a b - mn a b - 1
def hueI (m : Int) (H : List Int) (a b : Int) : Int := gI H (placeI m a b)
theorem placeI_comm (m a b : Int) : placeI m a b = placeI m b a := by
  unfold placeI
  have e1 : mn a b = mn b a := by unfold mn; split <;> split <;> omega
  have e2 : mx a b = mx b a := by unfold mx; split <;> split <;> omega
  rw [e1, e2]
theorem hueI_comm (m : Int) (H : List Int) (a b : Int) : hueI m H a b = hueI m H b a := by unfold hueI; rw [placeI_comm]
theorem offI_sum (m : Int) : ∀ (j : Nat) (a : Int), ((List.range j).map fun i => m - 1 - (a + (i : Nat))).sum = offI m a j
  | 0, _ => rfl
  | j + 1, a => by
    rw [List.range_succ_eq_map, List.map_cons, List.map_map, List.sum_cons]
    show m - 1 - (a + ((0 : Nat) : Int)) + _ = (m - 1 - a) + offI m (a + 1) j
    rw [← offI_sum m j (a + 1)]
    have e : (List.range j).map ((fun i : Nat => m - 1 - (a + (i : Int))) ∘ Nat.succ) = (List.range j).map fun i : Nat => m - 1 - (a + 1 + (i : Int)) := List.map_congr_left fun i _ => by
      show m - 1 - (a + ((i + 1 : Nat) : Int)) = m - 1 - (a + 1 + (i : Int))
      omega
    rw [e]
    omega
theorem rowP_get {m a : Int} {i : Nat} (h : i < (m - (a + 1)).toNat) : (rowP m a)[i]? = some (a, a + 1 + (i : Nat)) := by
  unfold rowP
  rw [List.getElem?_map, List.getElem?_range h]
  rfl
/-- the tie (a + j, b) stands at its place -/
theorem pairsP_get {m : Int} : ∀ (k j : Nat) (a b : Int), a + k = m → a + j < b → b < m → 0 ≤ offI m a j ∧ (pairsP m k a)[(offI m a j + (b - (a + j) - 1)).toNat]? = some (a + j, b)
  | 0, j, a, b, hk, h1, h2 => by omega
  | k + 1, 0, a, b, hk, h1, h2 => by
    have h1 : a < b := by omega
    refine ⟨Int.le_refl _, ?_⟩
    show (rowP m a ++ pairsP m k (a + 1))[(0 + (b - (a + ((0 : Nat) : Int)) - 1)).toNat]? = _
    have e : (0 + (b - (a + ((0 : Nat) : Int)) - 1)).toNat = (b - a - 1).toNat := by congr 1; omega
    rw [e, List.getElem?_append_left (by rw [rowP_len]; omega), rowP_get (by omega)]
    congr 2
    · omega
    · omega
  | k + 1, j + 1, a, b, hk, h1, h2 => by
    obtain ⟨i1, i2⟩ := pairsP_get (m := m) k j (a + 1) b (by omega) (by omega) h2
    have hr : (rowP m a).length = (m - (a + 1)).toNat := rowP_len m a
    refine ⟨by show 0 ≤ (m - 1 - a) + offI m (a + 1) j; omega, ?_⟩
    show (rowP m a ++ pairsP m k (a + 1))[((m - 1 - a) + offI m (a + 1) j + (b - (a + ((j + 1 : Nat) : Int)) - 1)).toNat]? = _
    rw [List.getElem?_append_right (by rw [hr]; omega), hr]
    have e : ((m - 1 - a) + offI m (a + 1) j + (b - (a + ((j + 1 : Nat) : Int)) - 1)).toNat - (m - (a + 1)).toNat = (offI m (a + 1) j + (b - (a + 1 + (j : Int)) - 1)).toNat := by omega
    rw [e, i2]
    congr 2
    omega
theorem pairsP_half {m : Int} : ∀ (k : Nat) (a : Int), a + k = m → 2 * (pairsP m k a).length = k * (k - 1)
  | 0, _, _ => rfl
  | k + 1, a, h => by
    have ih := pairsP_half (m := m) k (a + 1) (by omega)
    show 2 * (rowP m a ++ pairsP m k (a + 1)).length = (k + 1) * k
    rw [List.length_append, rowP_len, Nat.mul_add, ih]
    have e : (m - (a + 1)).toNat = k := by omega
    rw [e]
    cases k with
    | zero => rfl
    | succ k => simp only [Nat.add_sub_cancel, Nat.add_mul, Nat.mul_add, Nat.mul_one, Nat.one_mul]; omega
theorem half_of {m : Int} (hm : 0 ≤ m) : m * (m - 1) / 2 = ((allP m).length : Int) := by
  have h := pairsP_half (m := m) m.toNat 0 (by omega)
  have e : m * (m - 1) = 2 * ((allP m).length : Int) := by
    show m * (m - 1) = 2 * ((pairsP m m.toNat 0).length : Int)
    have h2 : ((2 * (pairsP m m.toNat 0).length : Nat) : Int) = ((m.toNat * (m.toNat - 1) : Nat) : Int) := by rw [h]
    rw [Int.natCast_mul, Int.natCast_mul] at h2
    rcases Int.lt_or_le 0 m with z | z
    · have e1 : ((m.toNat : Nat) : Int) = m := by omega
      have e2 : ((m.toNat - 1 : Nat) : Int) = m - 1 := by omega
      rw [e1, e2] at h2
      exact h2.symm
    · have : m = 0 := by omega
      subst this
      rfl
  rw [e]
  exact Int.mul_ediv_cancel_left _ (by decide)
theorem place_get {m a b : Int} (h0 : 0 ≤ a) (h1 : a < b) (h2 : b < m) : 0 ≤ placeI m a b ∧ (allP m)[(placeI m a b).toNat]? = some (a, b) := by
  obtain ⟨i1, i2⟩ := pairsP_get (m := m) m.toNat a.toNat 0 b (by omega) (by omega) h2
  have e1 : mn a b = a := by unfold mn; rw [if_neg (by omega)]
  have e2 : mx a b = b := by unfold mx; rw [if_pos h1]
  have e : placeI m a b = offI m 0 a.toNat + (b - (0 + (a.toNat : Int)) - 1) := by unfold placeI; rw [e1, e2]; omega
  rw [e]
  refine ⟨by omega, ?_⟩
  show (pairsP m m.toNat 0)[_]? = _
  rw [i2]
  congr 2
  omega
theorem place_lt {m a b : Int} (h0 : 0 ≤ a) (h1 : a < b) (h2 : b < m) : 0 ≤ placeI m a b ∧ placeI m a b < (allP m).length := by
  obtain ⟨i1, i2⟩ := place_get h0 h1 h2
  have := (List.getElem?_eq_some_iff.mp i2).1
  omega
theorem place_lt2 {m a b : Int} (h0 : 0 ≤ a) (h1 : a < m) (h2 : 0 ≤ b) (h3 : b < m) (ne : a ≠ b) : 0 ≤ placeI m a b ∧ placeI m a b < (allP m).length := by
  rcases Int.lt_or_le a b with z | z
  · exact place_lt h0 z h3
  · rw [placeI_comm]; exact place_lt h2 (by omega) h1
/-- the law's hue -/
theorem w_hue {FT : List FnI} {g : Nat} (c0 : C__law_hue_k18 FT g) {n : Nat} (hn : 1 ≤ n) {h : Hp} {m a b : Int} {H : List Int} (hH : (H.length : Int) = m * (m - 1) / 2) (h0 : 0 ≤ a) (h1 : a < m) (h2 : 0 ≤ b) (h3 : b < m) (ne : a ≠ b) (hm : m ≤ 1000) {P : Pv} {X : Px}
    (q : P (.d (.int (hueI m H a b))) h) : callN FT n g [.d (colD m H), .d (.int a), .d (.int b)] h P X := by
  obtain ⟨n, rfl⟩ : ∃ m, n = m + 1 := ⟨n - 1, by omega⟩
  refine callN_d (ds := [colD m H, .int a, .int b]) (fn := ix__law_hue_k18) c0 rfl rfl ?_
  have l0 : 0 ≤ mn a b ∧ mn a b < m := by unfold mn; split <;> omega
  (((conv => whnf); repeat (refine And.intro (by (first | exact trivial | exact Nat.le_of_ble_eq_true rfl | omega | decide | rfl | (unfold big; omega) | assumption | exact ⟨by decide, by decide, lt4000 (by decide)⟩ | exact okMul_l (by decide) | exact okMul_r (by decide) | (first | rfl | exact shp_tupI _ | exact (shk_prs _).shp (by decide) | exact (shk_prD _).shp (by decide) | assumption) | exact .inl ⟨by (first | rfl | exact shp_tupI _ | exact (shk_prs _).shp (by decide) | exact (shk_prD _).shp (by decide) | assumption), by (first | rfl | exact shp_tupI _ | exact (shk_prs _).shp (by decide) | exact (shk_prD _).shp (by decide) | assumption)⟩ | exact .inr (.inr ⟨_, rfl, rfl⟩) | exact .inr (.inl ⟨_, rfl, rfl⟩))) ?_; conv => whnf)))
  show cmpW _ _ ((ranI 0 (mn a b).toNat).map V.d) _ _ _
  rw [ran0_rng]
  refine cmpW_mp PyData.int PyData.int (fun k => m - 1 - k) trivial (rngI (mn a b)) (fun k hk Q' qq => ?_) (by rw [rngI_len]; exact Nat.le_trans (show _ ≤ 1000 by omega) (by decide)) ?_
  · (((conv => whnf); repeat (refine And.intro (by (first | exact trivial | exact Nat.le_of_ble_eq_true rfl | omega | decide | rfl | (unfold big; omega) | assumption | exact ⟨by decide, by decide, lt4000 (by decide)⟩ | exact okMul_l (by decide) | exact okMul_r (by decide) | (first | rfl | exact shp_tupI _ | exact (shk_prs _).shp (by decide) | exact (shk_prD _).shp (by decide) | assumption) | exact .inl ⟨by (first | rfl | exact shp_tupI _ | exact (shk_prs _).shp (by decide) | exact (shk_prD _).shp (by decide) | assumption), by (first | rfl | exact shp_tupI _ | exact (shk_prs _).shp (by decide) | exact (shk_prD _).shp (by decide) | assumption)⟩ | exact .inr (.inr ⟨_, rfl, rfl⟩) | exact .inr (.inl ⟨_, rfl, rfl⟩))) ?_; conv => whnf)))
    exact qq
  · refine mkL_d ?_
    (conv => whnf)
    rw [asInts_of]
    (conv => whnf)
    have e : ((rngI (mn a b)).map fun k => m - 1 - k).sum = offI m 0 (mn a b).toNat := by
      rw [← offI_sum]
      unfold rngI
      rw [List.map_map]
      congr 1
      exact List.map_congr_left fun i _ => by show m - 1 - ((i : Nat) : Int) = m - 1 - (0 + (i : Int)); omega
    rw [e]
    obtain ⟨p0, p1⟩ := place_lt2 h0 h1 h2 h3 ne
    rw [← half_of (by omega), ← hH] at p1
    exact atI_gI p0 p1 q
end Hb

/-! HUE2: ties_of, hues_by_ties, and what their dict tells. -/
namespace Hb
open PySem
set_option autoImplicit false
mutual
theorem eqD_t : ∀ (a b : D), eqD a b = true → a = b
  | .none, b, h => by cases b <;> first | rfl | (unfold eqD at h; cases h)
  | .bool a, b, h => by cases b <;> first | (unfold eqD at h; rw [eq_of_beq h]) | (unfold eqD at h; cases h)
  | .int a, b, h => by cases b <;> first | (unfold eqD at h; rw [eq_of_beq h]) | (unfold eqD at h; cases h)
  | .str a, b, h => by cases b <;> first | (unfold eqD at h; rw [of_decide_eq_true h]) | (unfold eqD at h; cases h)
  | .list a, b, h => by cases b <;> first | (unfold eqD at h; rw [eqDs_t _ _ h]) | (unfold eqD at h; cases h)
  | .tuple a, b, h => by cases b <;> first | (unfold eqD at h; rw [eqDs_t _ _ h]) | (unfold eqD at h; cases h)
  | .dict a, b, h => by
    cases a with
    | nil => cases b with
      | dict b => cases b with
        | nil => rfl
        | cons _ _ => unfold eqD at h; cases h
      | _ => unfold eqD at h; cases h
    | cons _ _ => cases b <;> (unfold eqD at h; cases h)
theorem eqDs_t : ∀ (a b : List D), eqDs a b = true → a = b
  | [], b, h => by cases b <;> first | rfl | (unfold eqDs at h; cases h)
  | a :: as, b, h => by
    cases b with
    | nil => unfold eqDs at h; cases h
    | cons b bs =>
      unfold eqDs at h
      obtain ⟨h1, h2⟩ := Bool.and_eq_true_iff.mp h
      rw [eqD_t _ _ h1, eqDs_t _ _ h2]
end
theorem valD_put (kvs : List (D × D)) (k v k' : D) : valD (putD kvs k v) k' = if eqD k k' = true then some v else valD kvs k' := by
  unfold putD valD
  by_cases ha : (kvs.any fun p => eqD p.1 k) = true
  · rw [if_pos ha]
    induction kvs with
    | nil => cases ha
    | cons p kvs ih =>
      rw [List.map_cons, List.find?_cons, List.find?_cons]
      have e1 : (if eqD p.1 k = true then (p.1, v) else p).1 = p.1 := by split <;> rfl
      rw [e1]
      by_cases hp : eqD p.1 k' = true
      · rw [hp]
        show some (if eqD p.1 k = true then (p.1, v) else p).2 = if eqD k k' = true then some v else some p.2
        have e2 := eqD_t _ _ hp
        by_cases hk : eqD p.1 k = true
        · have e3 := eqD_t _ _ hk
          rw [if_pos hk, if_pos (by rw [← e3]; exact hp)]
        · rw [if_neg hk, if_neg]
          intro z
          have e4 := eqD_t _ _ z
          exact hk (by rw [e4]; exact hp)
      · have hp' : eqD p.1 k' = false := by simpa using hp
        rw [hp']
        show ((kvs.map fun p => if eqD p.1 k = true then (p.1, v) else p).find? fun p => eqD p.1 k').map (·.2) = if eqD k k' = true then some v else (kvs.find? fun p => eqD p.1 k').map (·.2)
        by_cases ha2 : (kvs.any fun p => eqD p.1 k) = true
        · exact ih ha2
        · rw [List.any_cons] at ha
          have hk : eqD p.1 k = true := by
            rcases (Bool.or_eq_true _ _).mp ha with z | z
            · exact z
            · exact absurd z ha2
          have e3 := eqD_t _ _ hk
          rw [if_neg (by rw [← e3]; exact hp)]
          have e5 : kvs.map (fun p => if eqD p.1 k = true then (p.1, v) else p) = kvs := by
            have : ∀ x ∈ kvs, (if eqD x.1 k = true then (x.1, v) else x) = x := fun x hx => by
              rw [if_neg]
              intro z
              exact ha2 (List.any_eq_true.mpr ⟨x, hx, z⟩)
            rw [List.map_congr_left this, List.map_id']
          rw [e5]
  · rw [if_neg ha, List.find?_append]
    have hn : ∀ x ∈ kvs, ¬ eqD x.1 k = true := fun x hx z => ha (List.any_eq_true.mpr ⟨x, hx, z⟩)
    by_cases hk : eqD k k' = true
    · have e := eqD_t _ _ hk
      rw [if_pos hk]
      have e0 : kvs.find? (fun p => eqD p.1 k') = none := List.find?_eq_none.mpr fun x hx => by rw [← e]; exact hn x hx
      rw [e0, List.find?_cons, hk]
      rfl
    · rw [if_neg hk]
      have hk' : eqD k k' = false := by simpa using hk
      rw [List.find?_cons, hk', List.find?_nil, Option.or_none]
theorem putD_len (kvs : List (D × D)) (k v : D) : (putD kvs k v).length ≤ kvs.length + 1 := by
  unfold putD
  split
  · rw [List.length_map]; omega
  · rw [List.length_append, List.length_singleton]; exact Nat.le_refl _
theorem putD_key {kvs : List (D × D)} {k v : D} {t : Bool} (hk : keyB t k = true) (h : ∀ p ∈ kvs, keyB t p.1 = true) : ∀ p ∈ putD kvs k v, keyB t p.1 = true := by
  intro p hp
  unfold putD at hp
  split at hp
  · obtain ⟨x, hx, rfl⟩ := List.mem_map.mp hp
    split
    · exact h x hx
    · exact h x hx
  · rcases List.mem_append.mp hp with hp | hp
    · exact h p hp
    · simp at hp; subst hp; exact hk
theorem eqD_prD (p q : Int × Int) : eqD (prD p) (prD q) = decide (p = q) := by
  show (p.1 == q.1 && (p.2 == q.2 && true)) = _
  rw [Bool.eq_iff_iff]
  simp [Prod.ext_iff]
/-! ### the dict -/
def dic2 (kvs : List (D × D)) : List ((Int × Int) × Int) → List (D × D)
  | [] => kvs
  | x :: r => dic2 (putD (putD kvs (prD x.1) (.int x.2)) (prD (x.1.2, x.1.1)) (.int x.2)) r
theorem dic2_key : ∀ (Z : List ((Int × Int) × Int)) {kvs : List (D × D)}, (∀ p ∈ kvs, keyB true p.1 = true) → ∀ p ∈ dic2 kvs Z, keyB true p.1 = true
  | [], _, h => h
  | x :: r, kvs, h => dic2_key r (putD_key rfl (putD_key rfl h))
theorem dic2_far : ∀ (Z : List ((Int × Int) × Int)) {kvs : List (D × D)} {a b : Int}, (∀ x ∈ Z, x.1 ≠ (a, b) ∧ x.1 ≠ (b, a)) → valD (dic2 kvs Z) (prD (a, b)) = valD kvs (prD (a, b))
  | [], _, _, _, _ => rfl
  | x :: r, kvs, a, b, h => by
    obtain ⟨h1, h2⟩ := h x (by simp)
    show valD (dic2 _ r) _ = _
    rw [dic2_far r fun y hy => h y (by simp [hy]), valD_put, valD_put, eqD_prD, eqD_prD]
    rw [decide_eq_false h1, decide_eq_false (fun z => h2 (by rw [← Prod.eta x.1]; simp at z; rw [z.1, z.2]))]
    rfl
theorem dic2_near : ∀ (Z : List ((Int × Int) × Int)) {kvs : List (D × D)} {a b h : Int}, (Z.map (·.1)).Nodup → (∀ x ∈ Z, x.1.1 < x.1.2) → ((a, b), h) ∈ Z → valD (dic2 kvs Z) (prD (a, b)) = some (.int h) ∧ valD (dic2 kvs Z) (prD (b, a)) = some (.int h)
  | [], _, _, _, _, _, _, hm => by cases hm
  | x :: r, kvs, a, b, h, nd, lt, hm => by
    rw [List.map_cons, List.nodup_cons] at nd
    have lr : ∀ y ∈ r, y.1.1 < y.1.2 := fun y hy => lt y (by simp [hy])
    rcases List.mem_cons.mp hm with e | hm
    · subst e
      have hab : a < b := lt ((a, b), h) (by simp)
      have f1 : ∀ y ∈ r, y.1 ≠ (a, b) ∧ y.1 ≠ (b, a) := fun y hy => ⟨fun z => nd.1 (List.mem_map.mpr ⟨y, hy, z⟩), fun z => by have := lr y hy; rw [z] at this; simp only at this; omega⟩
      have f2 : ∀ y ∈ r, y.1 ≠ (b, a) ∧ y.1 ≠ (a, b) := fun y hy => ⟨(f1 y hy).2, (f1 y hy).1⟩
      show valD (dic2 _ r) _ = _ ∧ valD (dic2 _ r) _ = _
      rw [dic2_far r f1, dic2_far r f2, valD_put, valD_put, valD_put, eqD_prD, eqD_prD, eqD_prD]
      refine ⟨?_, ?_⟩
      · rw [decide_eq_false (by simp; omega), decide_eq_true rfl]; rfl
      · rw [decide_eq_true rfl]; rfl
    · exact dic2_near r nd.2 lr hm
theorem pairsP_lo {m : Int} : ∀ {k : Nat} {a : Int} {p : Int × Int}, p ∈ pairsP m k a → a ≤ p.1
  | 0, _, _, h => by cases h
  | k + 1, a, p, h => by
    rcases List.mem_append.mp h with h | h
    · unfold rowP at h
      obtain ⟨i, _, rfl⟩ := List.mem_map.mp h
      exact Int.le_refl _
    · have := pairsP_lo h; omega
theorem rowP_nodup (m a : Int) : (rowP m a).Nodup := by
  unfold rowP
  rw [List.nodup_iff_pairwise_ne, List.pairwise_map]
  exact List.Pairwise.imp (fun h z => h (by simp at z; omega)) (List.nodup_iff_pairwise_ne.mp List.nodup_range)
theorem pairsP_nodup (m : Int) : ∀ (k : Nat) (a : Int), (pairsP m k a).Nodup
  | 0, _ => List.nodup_nil
  | k + 1, a => by
    show (rowP m a ++ pairsP m k (a + 1)).Nodup
    rw [List.nodup_append]
    refine ⟨rowP_nodup m a, pairsP_nodup m k (a + 1), fun x hx y hy z => ?_⟩
    subst z
    have := pairsP_lo hy
    unfold rowP at hx
    obtain ⟨i, _, rfl⟩ := List.mem_map.mp hx
    simp only at this
    omega
/-- a table of the hues -/
def TabOk (m : Int) (H : List Int) (kvs : List (D × D)) : Prop := (∀ p ∈ kvs, keyB true p.1 = true) ∧ ∀ a b : Int, 0 ≤ a → a < m → 0 ≤ b → b < m → a ≠ b → valD kvs (prD (a, b)) = some (.int (hueI m H a b))
def tabD (m : Int) (H : List Int) : List (D × D) := dic2 [] ((allP m).zip H)
theorem zip_fst {α β : Type} : ∀ (l : List α) (r : List β), l.length = r.length → (l.zip r).map (·.1) = l
  | [], _, _ => rfl
  | a :: l, [], h => by cases h
  | a :: l, b :: r, h => by show a :: (l.zip r).map (·.1) = _; rw [zip_fst l r (by simpa using h)]
theorem tab_ok {m : Int} {H : List Int} (hm : 0 ≤ m) (hH : (H.length : Int) = m * (m - 1) / 2) : TabOk m H (tabD m H) := by
  have hl : (allP m).length = H.length := by rw [half_of hm] at hH; omega
  refine ⟨dic2_key _ (by simp), ?_⟩
  have key : ∀ a b : Int, 0 ≤ a → a < b → b < m → valD (tabD m H) (prD (a, b)) = some (.int (hueI m H a b)) ∧ valD (tabD m H) (prD (b, a)) = some (.int (hueI m H a b)) := fun a b h0 h1 h2 => by
    obtain ⟨p0, p1⟩ := place_get h0 h1 h2
    have p2 := (place_lt h0 h1 h2).2
    refine dic2_near _ (by rw [zip_fst _ _ hl]; exact pairsP_nodup m _ _) (fun x hx => ?_) ?_
    · have hx1 : x.1 ∈ ((allP m).zip H).map (·.1) := List.mem_map.mpr ⟨x, hx, rfl⟩
      rw [zip_fst _ _ hl] at hx1
      exact (allP_ok m _ hx1).2.1
    · refine List.mem_of_getElem? (i := (placeI m a b).toNat) ?_
      rw [List.getElem?_zip_eq_some]
      refine ⟨p1, ?_⟩
      unfold hueI gI
      rw [List.getD_eq_getElem?_getD, List.getElem?_eq_getElem (show (placeI m a b).toNat < H.length by omega)]
      rfl
  intro a b h0 h1 h2 h3 ne
  rcases Int.lt_or_le a b with z | z
  · exact (key a b h0 z h3).1
  · rw [hueI_comm]
    exact (key b a h2 (by omega) h1).2
/-! ### the program's defs -/
theorem allP_flat (m : Int) : ∀ (k : Nat) (a : Int), pairsP m k a = ((List.range k).map fun i => a + ((i : Nat) : Int)).flatMap (rowP m)
  | 0, _ => rfl
  | k + 1, a => by
    rw [List.range_succ_eq_map, List.map_cons, List.map_map, List.flatMap_cons]
    show rowP m a ++ pairsP m k (a + 1) = _
    rw [allP_flat m k (a + 1)]
    congr 1
    · rw [show a + ((0 : Nat) : Int) = a by omega]
    · congr 1
      exact List.map_congr_left fun i _ => by show a + 1 + (i : Int) = a + ((i + 1 : Nat) : Int); omega
theorem allP_rng (m : Int) : allP m = (rngI m).flatMap (rowP m) := by
  unfold allP rngI
  rw [allP_flat]
  congr 1
  exact List.map_congr_left fun i _ => by omega
theorem map_flat {α β γ : Type} (f : β → γ) (g : α → List β) : ∀ l : List α, (l.flatMap g).map f = l.flatMap fun x => (g x).map f
  | [] => rfl
  | x :: l => by rw [List.flatMap_cons, List.map_append, map_flat f g l, List.flatMap_cons]
theorem w_ties {FT : List FnI} {g : Nat} (c0 : C_ties_of FT g) {n : Nat} (hn : 1 ≤ n) {h : Hp} {m : Int} (hm : 0 ≤ m) (hm2 : m ≤ 30) {P : Pv} {X : Px} (q : P (.d (.list ((allP m).map prD))) h) : callN FT n g [.d (.int m)] h P X := by
  obtain ⟨n, rfl⟩ : ∃ m, n = m + 1 := ⟨n - 1, by omega⟩
  refine callN_d (ds := [.int m]) (fn := ix_ties_of) c0 rfl rfl ?_
  (((conv => whnf); repeat (refine And.intro (by (first | exact trivial | exact Nat.le_of_ble_eq_true rfl | omega | decide | rfl | (unfold big; omega) | assumption | exact ⟨by decide, by decide, lt4000 (by decide)⟩ | exact okMul_l (by decide) | exact okMul_r (by decide) | (first | rfl | exact shp_tupI _ | exact (shk_prs _).shp (by decide) | exact (shk_prD _).shp (by decide) | assumption) | exact .inl ⟨by (first | rfl | exact shp_tupI _ | exact (shk_prs _).shp (by decide) | exact (shk_prD _).shp (by decide) | assumption), by (first | rfl | exact shp_tupI _ | exact (shk_prs _).shp (by decide) | exact (shk_prD _).shp (by decide) | assumption)⟩ | exact .inr (.inr ⟨_, rfl, rfl⟩) | exact .inr (.inl ⟨_, rfl, rfl⟩))) ?_; conv => whnf)))
  have hL : (allP m).length ≤ 900 := Nat.le_trans (pairsP_len hm2 (by omega)) (by omega)
  rw [ran0_rng, show List.map V.d ((rngI m).map PyData.int) = (rngI m).map (V.d ∘ PyData.int) from List.map_map]
  have e : (rngI m).flatMap (fun a => (rowP m a).map fun p => V.d (prD p)) = ((allP m).map prD).map V.d := by rw [allP_rng, List.map_map, map_flat]; rfl
  refine cmpW2_fm (V.d ∘ PyData.int) (fun a => (rowP m a).map fun p => V.d (prD p)) (by exact trivial) (rngI m) [] (fun a ha acc Q' hl qq => ?_) (by rw [e, List.length_map, List.length_map]; exact Nat.le_trans (show _ ≤ 900 by simpa using hL) (by decide)) ?_
  · obtain ⟨a0, a1⟩ := rngI_mem ha
    (((conv => whnf); repeat (refine And.intro (by (first | exact trivial | exact Nat.le_of_ble_eq_true rfl | omega | decide | rfl | (unfold big; omega) | assumption | exact ⟨by decide, by decide, lt4000 (by decide)⟩ | exact okMul_l (by decide) | exact okMul_r (by decide) | (first | rfl | exact shp_tupI _ | exact (shk_prs _).shp (by decide) | exact (shk_prD _).shp (by decide) | assumption) | exact .inl ⟨by (first | rfl | exact shp_tupI _ | exact (shk_prs _).shp (by decide) | exact (shk_prD _).shp (by decide) | assumption), by (first | rfl | exact shp_tupI _ | exact (shk_prs _).shp (by decide) | exact (shk_prD _).shp (by decide) | assumption)⟩ | exact .inr (.inr ⟨_, rfl, rfl⟩) | exact .inr (.inl ⟨_, rfl, rfl⟩))) ?_; conv => whnf)))
    rw [ranI_rng, show ∀ l : List Int, List.map V.d (l.map PyData.int) = l.map (V.d ∘ PyData.int) from fun l => List.map_map]
    have hlr : (rowP m a).length = (m - (a + 1)).toNat := rowP_len m a
    rw [List.length_map] at hl
    refine cmpW_map (fun v => match v with | .d (.int b) => V.d (prD (a, b)) | v => v) trivial _ acc (fun x hx Q2 q2 => ?_) ?_ ?_
    · obtain ⟨b, _, rfl⟩ := List.mem_map.mp hx
      (((conv => whnf); repeat (refine And.intro (by (first | exact trivial | exact Nat.le_of_ble_eq_true rfl | omega | decide | rfl | (unfold big; omega) | assumption | exact ⟨by decide, by decide, lt4000 (by decide)⟩ | exact okMul_l (by decide) | exact okMul_r (by decide) | (first | rfl | exact shp_tupI _ | exact (shk_prs _).shp (by decide) | exact (shk_prD _).shp (by decide) | assumption) | exact .inl ⟨by (first | rfl | exact shp_tupI _ | exact (shk_prs _).shp (by decide) | exact (shk_prD _).shp (by decide) | assumption), by (first | rfl | exact shp_tupI _ | exact (shk_prs _).shp (by decide) | exact (shk_prD _).shp (by decide) | assumption)⟩ | exact .inr (.inr ⟨_, rfl, rfl⟩) | exact .inr (.inl ⟨_, rfl, rfl⟩))) ?_; conv => whnf)))
      exact q2
    · rw [List.length_map, List.length_map, List.length_range]; omega
    · have e2 : (((List.range (m - (a + 1)).toNat).map fun i => a + 1 + ((i : Nat) : Int)).map (V.d ∘ PyData.int)).map (fun v => match v with | .d (.int b) => V.d (prD (a, b)) | v => v) = (rowP m a).map fun p => V.d (prD p) := by
        unfold rowP
        rw [List.map_map, List.map_map, List.map_map]
        rfl
      rw [e2]
      exact qq
  · rw [e, List.nil_append]
    refine mkL_d ?_
    exact q
theorem zipD_zip : ∀ (r : List (Int × Int)) (s : List Int), zipD (r.map prD) (s.map PyData.int) = (r.zip s).map fun x => V.d (.tuple [prD x.1, .int x.2])
  | [], _ => rfl
  | _ :: _, [] => rfl
  | p :: r, h :: s => by show V.d _ :: zipD (r.map prD) (s.map PyData.int) = _; rw [zipD_zip r s]; rfl
theorem w_table {FT : List FnI} {g : Nat} (c0 : C_hues_by_ties FT g) {n : Nat} (hn : 2 ≤ n) {h : Hp} {m : Int} {H : List Int} (hm : 0 ≤ m) (hm2 : m ≤ 30) {P : Pv} {X : Px} (q : P (.d (.dict (tabD m H))) h) : callN FT n g [.d (colD m H)] h P X := by
  obtain ⟨n, rfl⟩ : ∃ m, n = m + 1 := ⟨n - 1, by omega⟩
  obtain ⟨ft, ef, et⟩ := c0
  refine callN_d (ds := [colD m H]) (fn := ix_hues_by_ties ft) ef rfl rfl ?_
  (((conv => whnf); repeat (refine And.intro (by (first | exact trivial | exact Nat.le_of_ble_eq_true rfl | omega | decide | rfl | (unfold big; omega) | assumption | exact ⟨by decide, by decide, lt4000 (by decide)⟩ | exact okMul_l (by decide) | exact okMul_r (by decide) | (first | rfl | exact shp_tupI _ | exact (shk_prs _).shp (by decide) | exact (shk_prD _).shp (by decide) | assumption) | exact .inl ⟨by (first | rfl | exact shp_tupI _ | exact (shk_prs _).shp (by decide) | exact (shk_prD _).shp (by decide) | assumption), by (first | rfl | exact shp_tupI _ | exact (shk_prs _).shp (by decide) | exact (shk_prD _).shp (by decide) | assumption)⟩ | exact .inr (.inr ⟨_, rfl, rfl⟩) | exact .inr (.inl ⟨_, rfl, rfl⟩))) ?_; conv => whnf)))
  refine w_ties et (n := n) (by omega) hm hm2 ?_
  (((conv => whnf); repeat (refine And.intro (by (first | exact trivial | exact Nat.le_of_ble_eq_true rfl | omega | decide | rfl | (unfold big; omega) | assumption | exact ⟨by decide, by decide, lt4000 (by decide)⟩ | exact okMul_l (by decide) | exact okMul_r (by decide) | (first | rfl | exact shp_tupI _ | exact (shk_prs _).shp (by decide) | exact (shk_prD _).shp (by decide) | assumption) | exact .inl ⟨by (first | rfl | exact shp_tupI _ | exact (shk_prs _).shp (by decide) | exact (shk_prD _).shp (by decide) | assumption), by (first | rfl | exact shp_tupI _ | exact (shk_prs _).shp (by decide) | exact (shk_prD _).shp (by decide) | assumption)⟩ | exact .inr (.inr ⟨_, rfl, rfl⟩) | exact .inr (.inl ⟨_, rfl, rfl⟩))) ?_; conv => whnf)))
  have hL : (allP m).length ≤ 900 := Nat.le_trans (pairsP_len hm2 (by omega)) (by omega)
  rw [zipD_zip]
  have hZ : ((allP m).zip H).length ≤ 900 := by rw [List.length_zip]; omega
  unfold tabD at q
  generalize (allP m).zip H = Z at hZ q
  refine forW_m (fun x : (Int × Int) × Int => V.d (.tuple [prD x.1, .int x.2])) (fun l e h' => ∃ (kvs : List (D × D)) (a b c : Option V), h' = [.dct true kvs] ∧ e = [some (.d (colD m H)), some (.cell 0), some (.d (.int m)), some (.d (.tuple (H.map PyData.int))), a, b, c] ∧ kvs.length + 2 * l.length ≤ 1800 ∧ P (.d (.dict (dic2 kvs l))) h) _ _ _ ?_ (fun _ _ _ _ => ⟨trivial, trivial⟩) ?_ ?_
  · exact ⟨[], _, _, _, rfl, rfl, by simp only [List.length_nil]; omega, q⟩
  · rintro e h' x l nx ⟨kvs, a, b, c, rfl, rfl, hl, q⟩ hnx
    simp only [List.length_cons] at hl
    (((conv => whnf); repeat (refine And.intro (by (first | exact trivial | exact Nat.le_of_ble_eq_true rfl | omega | decide | rfl | (unfold big; omega) | assumption | exact ⟨by decide, by decide, lt4000 (by decide)⟩ | exact okMul_l (by decide) | exact okMul_r (by decide) | (first | rfl | exact shp_tupI _ | exact (shk_prs _).shp (by decide) | exact (shk_prD _).shp (by decide) | assumption) | exact .inl ⟨by (first | rfl | exact shp_tupI _ | exact (shk_prs _).shp (by decide) | exact (shk_prD _).shp (by decide) | assumption), by (first | rfl | exact shp_tupI _ | exact (shk_prs _).shp (by decide) | exact (shk_prD _).shp (by decide) | assumption)⟩ | exact .inr (.inr ⟨_, rfl, rfl⟩) | exact .inr (.inl ⟨_, rfl, rfl⟩))) ?_; conv => whnf)))
    refine And.intro ⟨rfl, Nat.lt_of_le_of_lt (show _ ≤ 1800 by omega) (by decide)⟩ ?_
    (((conv => whnf); repeat (refine And.intro (by (first | exact trivial | exact Nat.le_of_ble_eq_true rfl | omega | decide | rfl | (unfold big; omega) | assumption | exact ⟨by decide, by decide, lt4000 (by decide)⟩ | exact okMul_l (by decide) | exact okMul_r (by decide) | (first | rfl | exact shp_tupI _ | exact (shk_prs _).shp (by decide) | exact (shk_prD _).shp (by decide) | assumption) | exact .inl ⟨by (first | rfl | exact shp_tupI _ | exact (shk_prs _).shp (by decide) | exact (shk_prD _).shp (by decide) | assumption), by (first | rfl | exact shp_tupI _ | exact (shk_prs _).shp (by decide) | exact (shk_prD _).shp (by decide) | assumption)⟩ | exact .inr (.inr ⟨_, rfl, rfl⟩) | exact .inr (.inl ⟨_, rfl, rfl⟩))) ?_; conv => whnf)))
    have l1 := putD_len kvs (prD x.1) (.int x.2)
    refine And.intro ⟨rfl, Nat.lt_of_le_of_lt (show (putD kvs (prD x.1) (.int x.2)).length ≤ 1800 by omega) (by decide)⟩ ?_
    have l2 := putD_len (putD kvs (prD x.1) (.int x.2)) (prD (x.1.2, x.1.1)) (.int x.2)
    exact hnx _ _ ⟨putD (putD kvs (prD x.1) (.int x.2)) (prD (x.1.2, x.1.1)) (.int x.2), _, _, _, rfl, rfl, by omega, q⟩
  · rintro e h' ⟨kvs, a, b, c, rfl, rfl, hl, q⟩
    exact q
end Hb

/-! HUEOF: hue_of, told and refused. -/
namespace Hb
open PySem
set_option autoImplicit false
theorem tab_none {m : Int} {H : List Int} {a b : Int} (h : ¬ (0 ≤ a ∧ a < m ∧ 0 ≤ b ∧ b < m ∧ a ≠ b)) : valD (tabD m H) (prD (a, b)) = none := by
  unfold tabD
  rw [dic2_far _ fun x hx => ?_]
  · rfl
  · have hx1 : x.1 ∈ allP m := by
      obtain ⟨i, hi⟩ := List.getElem?_of_mem hx
      rw [List.getElem?_zip_eq_some] at hi
      exact List.mem_of_getElem? hi.1
    obtain ⟨p0, p1, p2⟩ := allP_ok m _ hx1
    constructor
    · intro z; rw [z] at p0 p1 p2; simp only at p0 p1 p2; omega
    · intro z; rw [z] at p0 p1 p2; simp only at p0 p1 p2; omega
theorem tab_keys (m : Int) (H : List Int) : ∀ p ∈ tabD m H, keyB true p.1 = true := dic2_key _ (by simp)
theorem w_hueof {FT : List FnI} {g : Nat} (c0 : C_hue_of FT g) {n : Nat} (hn : 3 ≤ n) {h : Hp} {m a b : Int} {H : List Int} (hm : 0 ≤ m) (hm2 : m ≤ 30) (hH : (H.length : Int) = m * (m - 1) / 2) (h0 : 0 ≤ a) (h1 : a < m) (h2 : 0 ≤ b) (h3 : b < m) (ne : a ≠ b) {P : Pv} {X : Px}
    (q : P (.d (.int (hueI m H a b))) h) : callN FT n g [.d (colD m H), .d (.int a), .d (.int b)] h P X := by
  obtain ⟨n, rfl⟩ : ∃ m, n = m + 1 := ⟨n - 1, by omega⟩
  obtain ⟨ft, ef, et⟩ := c0
  refine callN_d (ds := [colD m H, .int a, .int b]) (fn := ix_hue_of ft) ef rfl rfl ?_
  have ev := (tab_ok (H := H) hm hH).2 a b h0 h1 h2 h3 ne
  (((conv => whnf); repeat (refine And.intro (by (first | exact trivial | exact Nat.le_of_ble_eq_true rfl | omega | decide | rfl | (unfold big; omega) | assumption | exact ⟨by decide, by decide, lt4000 (by decide)⟩ | exact okMul_l (by decide) | exact okMul_r (by decide) | (first | rfl | exact shp_tupI _ | exact (shk_prs _).shp (by decide) | exact (shk_prD _).shp (by decide) | assumption) | exact .inl ⟨by (first | rfl | exact shp_tupI _ | exact (shk_prs _).shp (by decide) | exact (shk_prD _).shp (by decide) | assumption), by (first | rfl | exact shp_tupI _ | exact (shk_prs _).shp (by decide) | exact (shk_prD _).shp (by decide) | assumption)⟩ | exact .inr (.inr ⟨_, rfl, rfl⟩) | exact .inr (.inl ⟨_, rfl, rfl⟩))) ?_; conv => whnf)))
  refine w_table et (n := n) (by omega) hm hm2 ?_
  (((conv => whnf); repeat (refine And.intro (by (first | exact trivial | exact Nat.le_of_ble_eq_true rfl | omega | decide | rfl | (unfold big; omega) | assumption | exact ⟨by decide, by decide, lt4000 (by decide)⟩ | exact okMul_l (by decide) | exact okMul_r (by decide) | (first | rfl | exact shp_tupI _ | exact (shk_prs _).shp (by decide) | exact (shk_prD _).shp (by decide) | assumption) | exact .inl ⟨by (first | rfl | exact shp_tupI _ | exact (shk_prs _).shp (by decide) | exact (shk_prD _).shp (by decide) | assumption), by (first | rfl | exact shp_tupI _ | exact (shk_prs _).shp (by decide) | exact (shk_prD _).shp (by decide) | assumption)⟩ | exact .inr (.inr ⟨_, rfl, rfl⟩) | exact .inr (.inl ⟨_, rfl, rfl⟩))) ?_; conv => whnf)))
  refine And.intro ⟨true, rfl, tab_keys m H⟩ ?_
  (conv => whnf)
  erw [ev]
  (((conv => whnf); repeat (refine And.intro (by (first | exact trivial | exact Nat.le_of_ble_eq_true rfl | omega | decide | rfl | (unfold big; omega) | assumption | exact ⟨by decide, by decide, lt4000 (by decide)⟩ | exact okMul_l (by decide) | exact okMul_r (by decide) | (first | rfl | exact shp_tupI _ | exact (shk_prs _).shp (by decide) | exact (shk_prD _).shp (by decide) | assumption) | exact .inl ⟨by (first | rfl | exact shp_tupI _ | exact (shk_prs _).shp (by decide) | exact (shk_prD _).shp (by decide) | assumption), by (first | rfl | exact shp_tupI _ | exact (shk_prs _).shp (by decide) | exact (shk_prD _).shp (by decide) | assumption)⟩ | exact .inr (.inr ⟨_, rfl, rfl⟩) | exact .inr (.inl ⟨_, rfl, rfl⟩))) ?_; conv => whnf)))
  refine And.intro ⟨true, rfl, tab_keys m H⟩ ?_
  (conv => whnf)
  erw [ev]
  exact q
theorem w_hueof_x {FT : List FnI} {g : Nat} (c0 : C_hue_of FT g) {n : Nat} (hn : 3 ≤ n) {h : Hp} {m a b : Int} {H : List Int} (hm : 0 ≤ m) (hm2 : m ≤ 30) (ho : ¬ (0 ≤ a ∧ a < m ∧ 0 ≤ b ∧ b < m ∧ a ≠ b)) {P : Pv} {X : Px}
    (q : X (.exc 9 []) h) : callN FT n g [.d (colD m H), .d (.int a), .d (.int b)] h P X := by
  obtain ⟨n, rfl⟩ : ∃ m, n = m + 1 := ⟨n - 1, by omega⟩
  obtain ⟨ft, ef, et⟩ := c0
  refine callN_d (ds := [colD m H, .int a, .int b]) (fn := ix_hue_of ft) ef rfl rfl ?_
  (((conv => whnf); repeat (refine And.intro (by (first | exact trivial | exact Nat.le_of_ble_eq_true rfl | omega | decide | rfl | (unfold big; omega) | assumption | exact ⟨by decide, by decide, lt4000 (by decide)⟩ | exact okMul_l (by decide) | exact okMul_r (by decide) | (first | rfl | exact shp_tupI _ | exact (shk_prs _).shp (by decide) | exact (shk_prD _).shp (by decide) | assumption) | exact .inl ⟨by (first | rfl | exact shp_tupI _ | exact (shk_prs _).shp (by decide) | exact (shk_prD _).shp (by decide) | assumption), by (first | rfl | exact shp_tupI _ | exact (shk_prs _).shp (by decide) | exact (shk_prD _).shp (by decide) | assumption)⟩ | exact .inr (.inr ⟨_, rfl, rfl⟩) | exact .inr (.inl ⟨_, rfl, rfl⟩))) ?_; conv => whnf)))
  refine w_table et (n := n) (by omega) hm hm2 ?_
  (((conv => whnf); repeat (refine And.intro (by (first | exact trivial | exact Nat.le_of_ble_eq_true rfl | omega | decide | rfl | (unfold big; omega) | assumption | exact ⟨by decide, by decide, lt4000 (by decide)⟩ | exact okMul_l (by decide) | exact okMul_r (by decide) | (first | rfl | exact shp_tupI _ | exact (shk_prs _).shp (by decide) | exact (shk_prD _).shp (by decide) | assumption) | exact .inl ⟨by (first | rfl | exact shp_tupI _ | exact (shk_prs _).shp (by decide) | exact (shk_prD _).shp (by decide) | assumption), by (first | rfl | exact shp_tupI _ | exact (shk_prs _).shp (by decide) | exact (shk_prD _).shp (by decide) | assumption)⟩ | exact .inr (.inr ⟨_, rfl, rfl⟩) | exact .inr (.inl ⟨_, rfl, rfl⟩))) ?_; conv => whnf)))
  refine And.intro ⟨true, rfl, tab_keys m H⟩ ?_
  (conv => whnf)
  erw [tab_none ho]
  (((conv => whnf); repeat (refine And.intro (by (first | exact trivial | exact Nat.le_of_ble_eq_true rfl | omega | decide | rfl | (unfold big; omega) | assumption | exact ⟨by decide, by decide, lt4000 (by decide)⟩ | exact okMul_l (by decide) | exact okMul_r (by decide) | (first | rfl | exact shp_tupI _ | exact (shk_prs _).shp (by decide) | exact (shk_prD _).shp (by decide) | assumption) | exact .inl ⟨by (first | rfl | exact shp_tupI _ | exact (shk_prs _).shp (by decide) | exact (shk_prD _).shp (by decide) | assumption), by (first | rfl | exact shp_tupI _ | exact (shk_prs _).shp (by decide) | exact (shk_prD _).shp (by decide) | assumption)⟩ | exact .inr (.inr ⟨_, rfl, rfl⟩) | exact .inr (.inl ⟨_, rfl, rfl⟩))) ?_; conv => whnf)))
  exact q
end Hb

/-! HUNT: groups of a web in a colouring. -/
namespace Hb
open PySem
set_option autoImplicit false
end Hb

/-! HUNT2: longer_ones, first_one, count_all; first_group, many_groups, breach. -/
namespace Hb
open PySem
set_option autoImplicit false
section
variable {T : List (Int × Int)} {M C : Int} {H : List Int}
end
/-- what is asked of a web and a colouring -/
structure GrOk (m : Int) (T : List (Int × Int)) (M : Int) (H : List Int) : Prop where
  hT : Ties m T
  hl : T.length ≤ 2000
  m0 : 0 ≤ m
  m1 : m ≤ 1000
  M0 : 0 ≤ M
  M1 : M ≤ 30
  hH : (H.length : Int) = M * (M - 1) / 2
  big : (M.toNat + 1) ^ m.toNat ≤ big
end Hb

/-! GRP: the laws' own groups, sameness. -/
namespace Hb
open PySem
set_option autoImplicit false
end Hb

/-! GRP2: sameness; the square of hues; the first group by going back. -/
namespace Hb
open PySem
set_option autoImplicit false
/-- plain data of a small depth -/
inductive Smp : Nat → D → Prop
  | non {k : Nat} : Smp k .none
  | bl {k : Nat} {b : Bool} : Smp k (.bool b)
  | num {k : Nat} {i : Int} : Smp k (.int i)
  | tup {k : Nat} {xs : List D} (h : ∀ x ∈ xs, Smp k x) (hl : xs.length ≤ big) : Smp (k + 1) (.tuple xs)
  | lst {k : Nat} {xs : List D} (h : ∀ x ∈ xs, Smp k x) (hl : xs.length ≤ big) : Smp (k + 1) (.list xs)
/-! ### the square -/
end Hb

/-! HUNT3: how many groups; small things that several laws use. -/
namespace Hb
open PySem
set_option autoImplicit false
end Hb

/-! GRPU: small things of the laws of groups. -/
namespace Hb
open PySem
set_option autoImplicit false
theorem last_at {h : Hp} {o : Ob} : (h ++ [o])[h.length]? = some o := by rw [List.getElem?_append_right (Nat.le_refl _), Nat.sub_self]; rfl
theorem last_set {h : Hp} {o o' : Ob} : (h ++ [o]).set h.length o' = h ++ [o'] := by rw [List.set_append_right _ _ (Nat.le_refl _), Nat.sub_self]; rfl
theorem at_int {cs : List Int} {i : Nat} (h : i < cs.length) : L2.atI (cs.map PyData.int) (i : Int) = some (.int cs[i]) := by
  unfold L2.atI L2.ixN
  rw [if_pos (by omega), if_pos (by rw [List.length_map]; omega)]
  show (cs.map PyData.int)[((i : Nat) : Int).toNat]? = _
  rw [Int.toNat_natCast, List.getElem?_map, List.getElem?_eq_getElem h]
  rfl
end Hb

/-! the law k18. -/
namespace Lk18
open PySem
open Hb
set_option autoImplicit false
theorem w_refused {FT : List FnI} {g : Nat} (c0 : C__law_refused_k18 FT g) {n : Nat} (hn : 4 ≤ n) {h : Hp} {m a b : Int} {H : List Int} (hm : 0 ≤ m) (hm2 : m ≤ 30) (ho : ¬ (0 ≤ a ∧ a < m ∧ 0 ≤ b ∧ b < m ∧ a ≠ b)) {P : Pv} {X : Px}
    (q : P (.d (.bool true)) h) : callN FT n g [.d (colD m H), .d (.int a), .d (.int b)] h P X := by
  obtain ⟨n, rfl⟩ : ∃ m, n = m + 1 := ⟨n - 1, by omega⟩
  obtain ⟨fh, ef, eh⟩ := c0
  refine callN_d (ds := [colD m H, .int a, .int b]) (fn := ix__law_refused_k18 fh) ef rfl rfl ?_
  (((conv => whnf); repeat (refine And.intro (by (first | exact trivial | exact Nat.le_of_ble_eq_true rfl | omega | decide | rfl | (unfold big; omega) | assumption | exact ⟨by decide, by decide, lt4000 (by decide)⟩ | exact okMul_l (by decide) | exact okMul_r (by decide) | (first | rfl | exact shp_tupI _ | exact (shk_prs _).shp (by decide) | exact (shk_prD _).shp (by decide) | assumption) | exact .inl ⟨by (first | rfl | exact shp_tupI _ | exact (shk_prs _).shp (by decide) | exact (shk_prD _).shp (by decide) | assumption), by (first | rfl | exact shp_tupI _ | exact (shk_prs _).shp (by decide) | exact (shk_prD _).shp (by decide) | assumption)⟩ | exact .inr (.inr ⟨_, rfl, rfl⟩) | exact .inr (.inl ⟨_, rfl, rfl⟩))) ?_; conv => whnf)))
  refine w_hueof_x eh (n := n) (by omega) hm hm2 ho ?_
  (conv => whnf)
  refine And.intro ⟨rfl, rfl⟩ ?_
  (conv => whnf)
  refine And.intro ⟨rfl, rfl⟩ ?_
  (conv => whnf)
  refine And.intro ⟨rfl, rfl⟩ ?_
  exact q
theorem law_main : ∀ ns : List Int, ns.length ≤ 63 → callN FT 6 f_law [.d (.list (ns.map PyData.int))] [] (fun v _ => v = .d (.bool true)) (fun _ _ => False) := by
  intro ns hns
  obtain ⟨fc, fba, fr, fh, fo, fu, fx, ef, ec, eba, er, eh, eo, eu, ex⟩ := c_law
  refine callN_d (ds := [.list (ns.map PyData.int)]) (fn := ix_law_k18 fc fba fr fh fo fu fx) ef rfl rfl ?_
  (((conv => whnf); repeat (refine And.intro (by (first | exact trivial | exact Nat.le_of_ble_eq_true rfl | omega | decide | rfl | (unfold big; omega) | assumption | exact ⟨by decide, by decide, lt4000 (by decide)⟩ | exact okMul_l (by decide) | exact okMul_r (by decide) | (first | rfl | exact shp_tupI _ | exact (shk_prs _).shp (by decide) | exact (shk_prD _).shp (by decide) | assumption) | exact .inl ⟨by (first | rfl | exact shp_tupI _ | exact (shk_prs _).shp (by decide) | exact (shk_prD _).shp (by decide) | assumption), by (first | rfl | exact shp_tupI _ | exact (shk_prs _).shp (by decide) | exact (shk_prD _).shp (by decide) | assumption)⟩ | exact .inr (.inr ⟨_, rfl, rfl⟩) | exact .inr (.inl ⟨_, rfl, rfl⟩))) ?_; conv => whnf)))
  refine w_cells ec (n := 5) (by omega) hns (by decide) (by decide) fun cs hcs => ?_
  (conv => whnf)
  rw [List.length_map]
  refine And.intro (by omega) ?_
  rw [Int.toNat_natCast]
  refine forW_r0 (fun i e h' => ∃ (o2 o3 o4 o5 o6 o7 o8 o9 o10 : Option V), e = [some (.d (.list (ns.map PyData.int))), some (.d (.list (cs.map PyData.int))), o2, o3, o4, o5, o6, o7, o8, o9, o10]) _ _ _ ⟨_, _, _, _, _, _, _, _, _, rfl⟩ (fun _ _ _ _ => trivial) ?_ ?_
  · rintro i e h' nx ⟨o2, o3, o4, o5, o6, o7, o8, o9, o10, rfl⟩ hi hnx
    (((conv => whnf); repeat (refine And.intro (by (first | exact trivial | exact Nat.le_of_ble_eq_true rfl | omega | decide | rfl | (unfold big; omega) | assumption | exact ⟨by decide, by decide, lt4000 (by decide)⟩ | exact okMul_l (by decide) | exact okMul_r (by decide) | (first | rfl | exact shp_tupI _ | exact (shk_prs _).shp (by decide) | exact (shk_prD _).shp (by decide) | assumption) | exact .inl ⟨by (first | rfl | exact shp_tupI _ | exact (shk_prs _).shp (by decide) | exact (shk_prD _).shp (by decide) | assumption), by (first | rfl | exact shp_tupI _ | exact (shk_prs _).shp (by decide) | exact (shk_prD _).shp (by decide) | assumption)⟩ | exact .inr (.inr ⟨_, rfl, rfl⟩) | exact .inr (.inl ⟨_, rfl, rfl⟩))) ?_; conv => whnf)))
    rw [at_int hi]
    (((conv => whnf); repeat (refine And.intro (by (first | exact trivial | exact Nat.le_of_ble_eq_true rfl | omega | decide | rfl | (unfold big; omega) | assumption | exact ⟨by decide, by decide, lt4000 (by decide)⟩ | exact okMul_l (by decide) | exact okMul_r (by decide) | (first | rfl | exact shp_tupI _ | exact (shk_prs _).shp (by decide) | exact (shk_prD _).shp (by decide) | assumption) | exact .inl ⟨by (first | rfl | exact shp_tupI _ | exact (shk_prs _).shp (by decide) | exact (shk_prD _).shp (by decide) | assumption), by (first | rfl | exact shp_tupI _ | exact (shk_prs _).shp (by decide) | exact (shk_prD _).shp (by decide) | assumption)⟩ | exact .inr (.inr ⟨_, rfl, rfl⟩) | exact .inr (.inl ⟨_, rfl, rfl⟩))) ?_; conv => whnf)))
    refine w_bag eba (n := 5) (by omega) (by omega) (by omega) fun xs hp => ?_
    (((conv => whnf); repeat (refine And.intro (by (first | exact trivial | exact Nat.le_of_ble_eq_true rfl | omega | decide | rfl | (unfold big; omega) | assumption | exact ⟨by decide, by decide, lt4000 (by decide)⟩ | exact okMul_l (by decide) | exact okMul_r (by decide) | (first | rfl | exact shp_tupI _ | exact (shk_prs _).shp (by decide) | exact (shk_prD _).shp (by decide) | assumption) | exact .inl ⟨by (first | rfl | exact shp_tupI _ | exact (shk_prs _).shp (by decide) | exact (shk_prD _).shp (by decide) | assumption), by (first | rfl | exact shp_tupI _ | exact (shk_prs _).shp (by decide) | exact (shk_prD _).shp (by decide) | assumption)⟩ | exact .inr (.inr ⟨_, rfl, rfl⟩) | exact .inr (.inl ⟨_, rfl, rfl⟩))) ?_; conv => whnf)))
    refine w_draw er (n := 5) (by omega) last_at hp (by decide) (by omega) (by omega) fun v1 us1 u0 u1 hp => ?_
    rw [last_set]
    (((conv => whnf); repeat (refine And.intro (by (first | exact trivial | exact Nat.le_of_ble_eq_true rfl | omega | decide | rfl | (unfold big; omega) | assumption | exact ⟨by decide, by decide, lt4000 (by decide)⟩ | exact okMul_l (by decide) | exact okMul_r (by decide) | (first | rfl | exact shp_tupI _ | exact (shk_prs _).shp (by decide) | exact (shk_prD _).shp (by decide) | assumption) | exact .inl ⟨by (first | rfl | exact shp_tupI _ | exact (shk_prs _).shp (by decide) | exact (shk_prD _).shp (by decide) | assumption), by (first | rfl | exact shp_tupI _ | exact (shk_prs _).shp (by decide) | exact (shk_prD _).shp (by decide) | assumption)⟩ | exact .inr (.inr ⟨_, rfl, rfl⟩) | exact .inr (.inl ⟨_, rfl, rfl⟩))) ?_; conv => whnf)))
    refine w_draw er (n := 5) (by omega) last_at hp (by decide) (by omega) (by omega) fun v2 us2 u2 u3 hp => ?_
    rw [last_set]
    (((conv => whnf); repeat (refine And.intro (by (first | exact trivial | exact Nat.le_of_ble_eq_true rfl | omega | decide | rfl | (unfold big; omega) | assumption | exact ⟨by decide, by decide, lt4000 (by decide)⟩ | exact okMul_l (by decide) | exact okMul_r (by decide) | (first | rfl | exact shp_tupI _ | exact (shk_prs _).shp (by decide) | exact (shk_prD _).shp (by decide) | assumption) | exact .inl ⟨by (first | rfl | exact shp_tupI _ | exact (shk_prs _).shp (by decide) | exact (shk_prD _).shp (by decide) | assumption), by (first | rfl | exact shp_tupI _ | exact (shk_prs _).shp (by decide) | exact (shk_prD _).shp (by decide) | assumption)⟩ | exact .inr (.inr ⟨_, rfl, rfl⟩) | exact .inr (.inl ⟨_, rfl, rfl⟩))) ?_; conv => whnf)))
    refine w_draw er (n := 5) (by omega) last_at hp (by decide) (by omega) (by omega) fun v3 us3 u4 u5 hp => ?_
    rw [last_set]
    (conv => whnf)
    refine optP_at u4 (by exact u5) fun x hx => ?_
    have hM : ∃ M : Int, x = .int M ∧ 1 ≤ M ∧ M ≤ 12 := by
      have hx : x ∈ ([.int (1 + v1), .int (1 + v2), .int 12] : List D) := hx
      simp only [List.mem_cons, List.not_mem_nil, or_false] at hx
      rcases hx with rfl | rfl | rfl
      · exact ⟨_, rfl, by omega, by omega⟩
      · exact ⟨_, rfl, by omega, by omega⟩
      · exact ⟨_, rfl, by omega, by omega⟩
    obtain ⟨M, rfl, M0, M1⟩ := hM
    (conv => whnf)
    refine w_draw er (n := 5) (by omega) last_at hp (by decide) (by omega) (by omega) fun v4 us4 u6 u7 hp => ?_
    rw [last_set]
    (conv => whnf)
    refine w_hues eh (n := 5) (by omega) last_at hp (by decide) (by omega) (by omega) (by omega) (by omega) fun H ws hH _ hp => ?_
    rw [last_set]
    (conv => whnf)
    refine And.intro (Nat.le_of_ble_eq_true rfl) ?_
    (conv => whnf)
    refine And.intro (by omega) ?_
    refine forW_r0 (fun j e h2 => ∃ (o6 o7 o8 o9 o10 : Option V), h2 = h' ++ [.lst ws] ∧ e = [some (.d (.list (ns.map PyData.int))), some (.d (.list (cs.map PyData.int))), some (.d (.int i)), some (.cell h'.length), some (.d (.int M)), some (.d (colD M H)), o6, o7, o8, o9, o10]) _ _ _ ⟨_, _, _, _, _, rfl, rfl⟩ (fun _ _ _ _ => trivial) ?_ ?_
    · rintro j e h2 nx2 ⟨o6, o7, o8, o9, o10, rfl, rfl⟩ hj hnx2
      (conv => whnf)
      refine And.intro (by omega) ?_
      refine forW_r0 (fun l e h2 => ∃ (o7 o8 o9 o10 : Option V), h2 = h' ++ [.lst ws] ∧ e = [some (.d (.list (ns.map PyData.int))), some (.d (.list (cs.map PyData.int))), some (.d (.int i)), some (.cell h'.length), some (.d (.int M)), some (.d (colD M H)), some (.d (.int j)), o7, o8, o9, o10]) _ _ _ ⟨_, _, _, _, rfl, rfl⟩ (fun _ _ _ _ => trivial) ?_ ?_
      · rintro l e h2 nx3 ⟨o7, o8, o9, o10, rfl, rfl⟩ hl hnx3
        (conv => whnf)
        by_cases e : (j : Int) = (l : Int)
        · rw [decide_eq_true e]
          (conv => whnf)
          exact hnx3 _ _ ⟨_, _, _, _, rfl, rfl⟩
        · rw [decide_eq_false e]
          (conv => whnf)
          refine w_hueof eo (n := 5) (by omega) (by omega) (by omega) hH (by omega) (by omega) (by omega) (by omega) e ?_
          (conv => whnf)
          refine w_hue eu (n := 5) (by omega) hH (by omega) (by omega) (by omega) (by omega) e (by omega) ?_
          (conv => whnf)
          rw [decide_eq_true rfl]
          (conv => whnf)
          refine w_hueof eo (n := 5) (by omega) (by omega) (by omega) hH (by omega) (by omega) (by omega) (by omega) e ?_
          (conv => whnf)
          rw [decide_eq_true rfl]
          (conv => whnf)
          exact hnx3 _ _ ⟨_, _, _, _, rfl, rfl⟩
      · rintro e h2 ⟨o7, o8, o9, o10, rfl, rfl⟩
        exact hnx2 _ _ ⟨_, _, _, _, _, rfl, rfl⟩
    · rintro e h2 ⟨o6, o7, o8, o9, o10, rfl, rfl⟩
      (((conv => whnf); repeat (refine And.intro (by (first | exact trivial | exact Nat.le_of_ble_eq_true rfl | omega | decide | rfl | (unfold big; omega) | assumption | exact ⟨by decide, by decide, lt4000 (by decide)⟩ | exact okMul_l (by decide) | exact okMul_r (by decide) | (first | rfl | exact shp_tupI _ | exact (shk_prs _).shp (by decide) | exact (shk_prD _).shp (by decide) | assumption) | exact .inl ⟨by (first | rfl | exact shp_tupI _ | exact (shk_prs _).shp (by decide) | exact (shk_prD _).shp (by decide) | assumption), by (first | rfl | exact shp_tupI _ | exact (shk_prs _).shp (by decide) | exact (shk_prD _).shp (by decide) | assumption)⟩ | exact .inr (.inr ⟨_, rfl, rfl⟩) | exact .inr (.inl ⟨_, rfl, rfl⟩))) ?_; conv => whnf)))
      refine w_draw er (n := 5) (by omega) last_at hp (by decide) (by decide) (by decide) fun v5 us5 u8 u9 hp => ?_
      rw [last_set]
      (((conv => whnf); repeat (refine And.intro (by (first | exact trivial | exact Nat.le_of_ble_eq_true rfl | omega | decide | rfl | (unfold big; omega) | assumption | exact ⟨by decide, by decide, lt4000 (by decide)⟩ | exact okMul_l (by decide) | exact okMul_r (by decide) | (first | rfl | exact shp_tupI _ | exact (shk_prs _).shp (by decide) | exact (shk_prD _).shp (by decide) | assumption) | exact .inl ⟨by (first | rfl | exact shp_tupI _ | exact (shk_prs _).shp (by decide) | exact (shk_prD _).shp (by decide) | assumption), by (first | rfl | exact shp_tupI _ | exact (shk_prs _).shp (by decide) | exact (shk_prD _).shp (by decide) | assumption)⟩ | exact .inr (.inr ⟨_, rfl, rfl⟩) | exact .inr (.inl ⟨_, rfl, rfl⟩))) ?_; conv => whnf)))
      refine w_draw er (n := 5) (by omega) last_at hp (by decide) (by omega) (by omega) fun v6 us6 u10 u11 hp => ?_
      rw [last_set]
      (conv => whnf)
      refine And.intro (Nat.le_of_ble_eq_true rfl) ?_
      (((conv => whnf); repeat (refine And.intro (by (first | exact trivial | exact Nat.le_of_ble_eq_true rfl | omega | decide | rfl | (unfold big; omega) | assumption | exact ⟨by decide, by decide, lt4000 (by decide)⟩ | exact okMul_l (by decide) | exact okMul_r (by decide) | (first | rfl | exact shp_tupI _ | exact (shk_prs _).shp (by decide) | exact (shk_prD _).shp (by decide) | assumption) | exact .inl ⟨by (first | rfl | exact shp_tupI _ | exact (shk_prs _).shp (by decide) | exact (shk_prD _).shp (by decide) | assumption), by (first | rfl | exact shp_tupI _ | exact (shk_prs _).shp (by decide) | exact (shk_prD _).shp (by decide) | assumption)⟩ | exact .inr (.inr ⟨_, rfl, rfl⟩) | exact .inr (.inl ⟨_, rfl, rfl⟩))) ?_; conv => whnf)))
      refine forW_m (fun p : Int × Int => V.d (prD p)) (fun l e h2 => (∀ p ∈ l, ¬ (0 ≤ p.1 ∧ p.1 < M ∧ 0 ≤ p.2 ∧ p.2 < M ∧ p.1 ≠ p.2)) ∧ ∃ (o6 o9 o10 : Option V), h2 = h' ++ [.lst us6] ∧ e = [some (.d (.list (ns.map PyData.int))), some (.d (.list (cs.map PyData.int))), some (.d (.int i)), some (.cell h'.length), some (.d (.int M)), some (.d (colD M H)), o6, some (.d (.int (M + v5))), some (.d (.int v6)), o9, o10])
        [(v6, v6), (v6, M), (M, v6), (v6, M + v5), (-1, v6), (v6, -1), (-M, v6), (M + v5, -1)] _ _ ⟨?_, _, _, _, rfl, rfl⟩ (fun _ _ _ _ => trivial) ?_ ?_
      · intro p hp
        simp only [List.mem_cons, List.not_mem_nil, or_false] at hp
        rcases hp with rfl | rfl | rfl | rfl | rfl | rfl | rfl | rfl <;> simp only <;> omega
      · rintro e h2 p l nx2 ⟨hl, o6, o9, o10, rfl, rfl⟩ hnx2
        (((conv => whnf); repeat (refine And.intro (by (first | exact trivial | exact Nat.le_of_ble_eq_true rfl | omega | decide | rfl | (unfold big; omega) | assumption | exact ⟨by decide, by decide, lt4000 (by decide)⟩ | exact okMul_l (by decide) | exact okMul_r (by decide) | (first | rfl | exact shp_tupI _ | exact (shk_prs _).shp (by decide) | exact (shk_prD _).shp (by decide) | assumption) | exact .inl ⟨by (first | rfl | exact shp_tupI _ | exact (shk_prs _).shp (by decide) | exact (shk_prD _).shp (by decide) | assumption), by (first | rfl | exact shp_tupI _ | exact (shk_prs _).shp (by decide) | exact (shk_prD _).shp (by decide) | assumption)⟩ | exact .inr (.inr ⟨_, rfl, rfl⟩) | exact .inr (.inl ⟨_, rfl, rfl⟩))) ?_; conv => whnf)))
        refine w_refused ex (n := 5) (by omega) (by omega) (by omega) (hl p (by simp)) ?_
        (((conv => whnf); repeat (refine And.intro (by (first | exact trivial | exact Nat.le_of_ble_eq_true rfl | omega | decide | rfl | (unfold big; omega) | assumption | exact ⟨by decide, by decide, lt4000 (by decide)⟩ | exact okMul_l (by decide) | exact okMul_r (by decide) | (first | rfl | exact shp_tupI _ | exact (shk_prs _).shp (by decide) | exact (shk_prD _).shp (by decide) | assumption) | exact .inl ⟨by (first | rfl | exact shp_tupI _ | exact (shk_prs _).shp (by decide) | exact (shk_prD _).shp (by decide) | assumption), by (first | rfl | exact shp_tupI _ | exact (shk_prs _).shp (by decide) | exact (shk_prD _).shp (by decide) | assumption)⟩ | exact .inr (.inr ⟨_, rfl, rfl⟩) | exact .inr (.inl ⟨_, rfl, rfl⟩))) ?_; conv => whnf)))
        exact hnx2 _ _ ⟨fun p hp => hl p (by simp [hp]), _, _, _, rfl, rfl⟩
      · rintro e h2 ⟨_, o6, o9, o10, rfl, rfl⟩
        exact hnx _ _ ⟨_, _, _, _, _, _, _, _, _, rfl⟩
  · rintro e h' ⟨o2, o3, o4, o5, o6, o7, o8, o9, o10, rfl⟩
    rfl
end Lk18

set_option maxHeartbeats 0
open PySem PySem.W PySem.Calls PyProof.Rows
theorem PySem.Challenge.cw_huebound_k18_colours_of_ties_holds : PySem.Challenge.rw_huebound_k18_colours_of_ties.Holds := by
  w_on; o_law
  refine HandSHeadRun.head_any (r := OpenLaw.row PySem.Challenge.rw_huebound_k18_colours_of_ties) (q := view (OpenLaw.row PySem.Challenge.rw_huebound_k18_colours_of_ties).prog [21]) (H := Lk18.hk) (ob := Lk18.ob) (M := 4000) (loose := ["ties_of", "hues_by_ties", "hue_of", "_law_bag", "_law_draw", "_law_cells", "_law_hues", "_law_hue", "_law_refused", "HueError", "NoTie", "NoPoint", "NoMove", "NoSteps", "TooMany", "NotDone", "NoText", "NoStand"]) (d := HandSHeadRun.topDef (OpenLaw.row PySem.Challenge.rw_huebound_k18_colours_of_ties).prog 21) (kwd := []) Lk18.ob_eq
    (by kernel_rfl) (fun s => by kernel_rfl) Lk18.run (by kernel_rfl) (by kernel_rfl) (by kernel_rfl) (by rfl) (by first | assumption | decide +kernel) (by decide +kernel) ⟨rfl, rfl, rfl, rfl, rfl, by decide +kernel⟩ ?hw ?hc
  case hw => w_witness2
  case hc =>
    refine Hb.walk_hb (l := PySem.Challenge.rw_huebound_k18_colours_of_ties) (n := 63) (k := 6) (x := "_law_script") (FT := Lk18.FT) (g := Lk18.f_law) rfl (by decide) (by kernel_rfl) ⟨rfl, by decide, by decide⟩ ?F Lk18.law_main
    intro w mg fa h Y G hmg0
    obtain ⟨K, KX, c, cx⟩ := Y
    have xs := Lk18.xsOk (pm := w.params) KX G c cx
    have hmg : mg ("law" : PySem.Str) = some (.ref fa) := by
      have e : (HandSHeadRun.topDef (OpenLaw.row PySem.Challenge.rw_huebound_k18_colours_of_ties).prog 21).name = ("law" : PySem.Str) := by kernel_rfl
      rw [← e]
      exact hmg0
    have ro := Lk18.ok_law (pm := w.params) KX G c
    have e := hmg.symm.trans (ro.at_ (by decide))
    cases e
    obtain ⟨fd, F⟩ := c.def_ 9 (d := Lk18.d_law) rfl
    have b := L2.FunD.bindsA (ps := ["_law_script"]) F fun _ _ _ _ _ _ us hl => match us, hl with | [_], _ => rfl
    refine ⟨Lk18.wo K w.params, fd, KX, fun s v => b s [v] rfl, fun base X2 G2 => ?_⟩
    exact Hb.fn_step (Lk18.modOk KX G c xs) Lk18.okB 5 (Hb.all_ok (Lk18.modOk KX G c xs) Lk18.okB (.inl rfl) 5) (r := Lk18.r_law) rfl F (.inl rfl)
