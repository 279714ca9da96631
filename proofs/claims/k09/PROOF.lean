import PyProof.Rows.All
import Wide.All
import OpenK.AllK
import Wide.FinOn
import HandS.More
import HandS.ForMost
import KE.LtData
import HandS.Text
import PyProof.ReprRoads
import HandS.TupMul
import HandS.ForExc
import HandS.TupAny
import HandS.Deep
import HandS.Zip
import HandS.Wide
import HandS.Style
import HandS.CallSlots
import HandS.IsInst
import HandS.SortInts
import HandS.TupLe
import HandS.Conv
import HandS.Dict
import HandS.Codes
import HandS.ExcValue
import HandS.ExcIs
import KE.GoesNew
import KE.GoesEnumKw
import HandS.WideBits
import HandS.Call
import HandS.List
import KE.SortData
import HandS.SortRule
import HandS.SortOrd
import HandS.Sort
import KE.DatumOrd
import HandS.ExcOwn
import PyProof.TupleOfSeq
import KE.KRevSl
import HandS.CallRecv
import HandS.SetFor
import HandS.HeadHook1
import PyProof.ExcBaseAll.ValueError
import HandS.TupSets
import HandS.Flow
import HandS.DictComp
import KE.KUnpack
import PyProof.CollectIter
import HandS.FStr
import HandS.Iter
import HandS.Ends
import HandS.EndBits
import HandS.Defaults
import HandS.WordsExc
import HandS.Head0
import HandS.Head1
import HandS.Head2
import HandS.HeadEnd
import HandS.HeadHook2
import PySem.Challenge.RW_huebound_k09_colourings_written
set_option Elab.async false
set_option linter.all false
set_option maxRecDepth 100000
/-! CORE: a small language for the defs of the laws and of the program, and its meaning as predicate transformers. -/
namespace Hb
open PySem

abbrev D := PyData
/-- a value: data, a cell of the small heap, a tuple that holds cells, a def, a caught error -/
inductive V where
  | d (x : D)
  | cell (n : Nat)
  | vt (xs : List V)
  | fn (f : Nat)
  | exc (c : Nat) (fs : List (Nat × D))
/-- what stands in a cell -/
inductive Ob where
  | dead
  | lst (xs : List D)
  | lv (xs : List V)
  | dct (t : Bool) (kvs : List (D × D))
  | ins (c : Nat) (fs : List (Nat × V))
abbrev Hp := List Ob
abbrev Env := List (Option V)
abbrev Pv := V → Hp → Prop
abbrev Px := V → Hp → Prop
abbrev Phi := Nat → List V → Hp → Pv → Px → Prop
/-- the most items of a sequence -/
abbrev big : Nat := 16777216

def optP {α : Type} (o : Option α) (Q : α → Prop) : Prop := match o with
  | some a => Q a
  | none => False

/-! ### keys and dicts -/
mutual
def eqD : D → D → Bool
  | .none, .none => true
  | .bool a, .bool b => a == b
  | .int a, .int b => a == b
  | .str a, .str b => decide (a = b)
  | .list a, .list b => eqDs a b
  | .tuple a, .tuple b => eqDs a b
  | .dict [], .dict [] => true
  | _, _ => false
def eqDs : List D → List D → Bool
  | [], [] => true
  | a :: as, b :: bs => eqD a b && eqDs as bs
  | _, _ => false
end
/-- a key: a whole number or a text; (t) a tuple of these -/
def atomD : D → Bool
  | .int _ => true
  | .str _ => true
  | _ => false
def keyB (t : Bool) (k : D) : Bool := match t with
  | false => atomD k
  | true => (match k with
    | .tuple xs => xs.all atomD
    | _ => false)
def valD (kvs : List (D × D)) (k : D) : Option D := (kvs.find? fun p => eqD p.1 k).map (·.2)
def putD (kvs : List (D × D)) (k v : D) : List (D × D) := if (kvs.any fun p => eqD p.1 k) = true then kvs.map (fun p => if eqD p.1 k = true then (p.1, v) else p) else kvs ++ [(k, v)]
/-- a dict is asked for a key -/
def dkP (kvs : List (D × D)) (k : D) (Q : Option D → Prop) : Prop := (∃ t, keyB t k = true ∧ ∀ p ∈ kvs, keyB t p.1 = true) ∧ Q (valD kvs k)

/-! ### classes of things -/
inductive Ty where
  | int | bool | str | tuple | list | dict | own (c : Nat) | verr | hue
  deriving DecidableEq

/-! ### operations on data -/
inductive O1 where
  | neg | len | tuple | list | sorted | all | any | sum | min | max | int | str | repr | setlen | rev | lrange | trange | sset | fmt
  deriving DecidableEq
inductive O2 where
  | add | sub | mul | fdiv | mod | pow | eq | ne | lt | le | gt | ge | is | isnot | in_ | notin | idx | min2 | max2 | lrange2 | trange2 | cutlo | cuthi
  deriving DecidableEq
inductive O3 where
  | cut
  deriving DecidableEq
/-- methods of texts -/
inductive Sm where
  | join | split
  deriving DecidableEq
/-- methods that change what they are called of -/
inductive Mu where
  | append | extend | pop | popat | insert | remove | reverse
  deriving DecidableEq

def asInts : List D → Option (List Int)
  | [] => some []
  | .int i :: r => (asInts r).map (i :: ·)
  | _ :: _ => none
def asBools : List D → Option (List Bool)
  | [] => some []
  | .bool b :: r => (asBools r).map (b :: ·)
  | _ :: _ => none
def insI (x : Int) : List Int → List Int
  | [] => [x]
  | y :: r => if x ≤ y then x :: y :: r else y :: insI x r
def sortI : List Int → List Int
  | [] => []
  | x :: r => insI x (sortI r)
/-- pairs of numbers, by the first, then by the second -/
def lexP (p q : Int × Int) : Bool := if p.1 = q.1 then decide (p.2 < q.2) else decide (p.1 < q.1)
def insP (x : Int × Int) : List (Int × Int) → List (Int × Int)
  | [] => [x]
  | y :: r => if lexP y x = true then y :: insP x r else x :: y :: r
def sortP : List (Int × Int) → List (Int × Int)
  | [] => []
  | x :: r => insP x (sortP r)
def prD (p : Int × Int) : D := .tuple [.int p.1, .int p.2]
def asPr : D → Option (Int × Int)
  | .tuple [.int a, .int b] => some (a, b)
  | _ => none
def asPrs : List D → Option (List (Int × Int))
  | [] => some []
  | x :: r => (match asPr x with
    | some p => (asPrs r).map (p :: ·)
    | none => none)
/-- lists of numbers, by their order -/
def asLs : List D → Option (List (List Int))
  | [] => some []
  | .list x :: r => (match asInts x with
    | some ns => (asLs r).map (ns :: ·)
    | none => none)
  | _ :: _ => none
def lsD (ns : List Int) : D := .list (ns.map PyData.int)
def sortL (ls : List (List Int)) : List (List Int) := ls.mergeSort fun a b => decide (a ≤ b)
/-- sorted -/
def sortD (xs : List D) : Option (List D) := match asInts xs with
  | some ns => some ((sortI ns).map PyData.int)
  | none => (match asPrs xs with
    | some ps => some ((sortP ps).map prD)
    | none => (asLs xs).map fun ls => (sortL ls).map lsD)
/-- each number once -/
def nubI : List Int → List Int
  | [] => []
  | x :: r => if x ∈ r then nubI r else x :: nubI r
/-- each pair once -/
def nubP : List (Int × Int) → List (Int × Int)
  | [] => []
  | x :: r => if x ∈ r then nubP r else x :: nubP r
/-- the first place of a number -/
def ixI (i : Int) : List Int → Option Nat
  | [] => none
  | x :: r => if x = i then some 0 else (ixI i r).map (· + 1)
def maxI (x : Int) : List Int → Int
  | [] => x
  | y :: r => maxI (if x < y then y else x) r
def minI (x : Int) : List Int → Int
  | [] => x
  | y :: r => minI (if y < x then y else x) r
def ranI (lo : Int) : Nat → List D
  | 0 => []
  | n + 1 => .int lo :: ranI (lo + 1) n
def ranD (hi : Int) : Nat → List D
  | 0 => []
  | n + 1 => .int hi :: ranD (hi - 1) n
def cutD {α : Type} (xs : List α) (lo hi : Option Int) : List α := (xs.drop (HT.sIx xs.length 0 lo)).take (HT.sIx xs.length xs.length hi - HT.sIx xs.length 0 lo)
def cutS (z : Str) (lo hi : Option Int) : Str := ⟨(cutD z.cps.toList lo hi).toArray⟩
/-- the signs of a text -/
def signs (z : Str) : List D := z.cps.toList.map fun c => .str ⟨#[c]⟩

def lenP (x : D) (Q : D → Prop) : Prop := match x with
  | .list xs => Q (.int xs.length)
  | .tuple xs => Q (.int xs.length)
  | .str z => z.length ≤ big ∧ Q (.int z.length)
  | .dict kvs => (∀ p ∈ kvs, keyB false p.1 = true) ∧ Q (.int kvs.length)
  | _ => False
def strInt (i : Int) : Str := Str.ofString (toString i)
/-- what repr is asked of: data without dicts (or the empty dict alone), not too long -/
def repOk (x : D) : Prop := (x = .dict [] ∨ PyData.canLay0 x = true) ∧ PyData.showable x = true ∧ PyData.depth x ≤ 200 ∧ (PyData.shown x).length ≤ big
def strsD : List D → Option (List Str)
  | [] => some []
  | .str z :: r => (strsD r).map (z :: ·)
  | _ :: _ => none
def op1 (o : O1) (x : D) (Q : D → Prop) : Prop := match o with
  | .neg => (match x with | .int i => Q (.int (-i)) | _ => False)
  | .len => lenP x Q
  | .tuple => (match x with | .list xs => Q (.tuple xs) | .tuple xs => Q (.tuple xs) | _ => False)
  | .list => (match x with | .list xs => Q (.list xs) | .tuple xs => Q (.list xs) | _ => False)
  | .sorted => (match x with
    | .list xs => optP (sortD xs) fun ys => Q (.list ys)
    | .tuple xs => optP (asInts xs) fun ns => Q (.list ((sortI ns).map PyData.int))
    | _ => False)
  | .all => (match x with | .list xs => optP (asBools xs) fun bs => Q (.bool (bs.all id)) | _ => False)
  | .any => (match x with | .list xs => optP (asBools xs) fun bs => Q (.bool (bs.any id)) | _ => False)
  | .sum => (match x with | .list xs => optP (asInts xs) fun ns => Q (.int ns.sum) | _ => False)
  | .max => (match x with | .list xs => optP (asInts xs) fun ns => (match ns with | n :: r => Q (.int (maxI n r)) | [] => False) | .tuple xs => optP (asInts xs) fun ns => (match ns with | n :: r => Q (.int (maxI n r)) | [] => False) | _ => False)
  | .min => (match x with | .list xs => (match asInts xs with | some ns => (match ns with | n :: r => Q (.int (minI n r)) | [] => False) | none => optP (asPrs xs) fun ps => ∀ p ∈ ps, Q (prD p)) | .tuple xs => optP (asInts xs) fun ns => (match ns with | n :: r => Q (.int (minI n r)) | [] => False) | _ => False)
  | .int => (match x with | .int i => Q (.int i) | .bool b => Q (.int (if b = true then 1 else 0)) | .str z => z.length ≤ 640 ∧ optP (intText? z) fun i => Q (.int i) | _ => False)
  | .fmt => (match x with | .int i => (0 ≤ i ∧ i < 10 ^ 200) ∧ Q (.str (strInt i)) | .str z => z.length ≤ 100000 ∧ Q (.str z) | _ => False)
  | .str => (match x with | .int i => i.natAbs < 2 ^ 1000 ∧ Q (.str (strInt i)) | _ => False)
  | .rev => (match x with | .list xs => Q (.list xs.reverse) | .tuple xs => Q (.tuple xs.reverse) | _ => False)
  | .lrange => (match x with | .int i => (-(2 ^ 62) ≤ i ∧ i ≤ big) ∧ Q (.list (ranI 0 i.toNat)) | _ => False)
  | .trange => (match x with | .int i => (-(2 ^ 62) ≤ i ∧ i ≤ big) ∧ Q (.tuple (ranI 0 i.toNat)) | _ => False)
  | .repr => repOk x ∧ Q (.str (PyData.shown x))
  | .sset => (match x with
    | .list xs => optP (asPrs xs) fun ps => (ps.length < 64 ∧ ∀ p ∈ ps, (0 ≤ p.1 ∧ p.1 < 64) ∧ 0 ≤ p.2 ∧ p.2 < 64) ∧ Q (.list ((sortP (nubP ps)).map prD))
    | _ => False)
  | .setlen => (match x with
    | .list xs => optP (asInts xs) fun ns => ns.length ≤ 1000 ∧ Q (.int (nubI ns).length)
    | .tuple xs => optP (asInts xs) fun ns => ns.length ≤ 1000 ∧ Q (.int (nubI ns).length)
    | _ => False)

def shp (x : D) : Prop := SeqAt.shaped x = true
def eqP (x y : D) (Q : Bool → Prop) : Prop := match x, y with
  | .int i, .int j => Q (decide (i = j))
  | .str i, .str j => Q (decide (i = j))
  | .bool i, .bool j => Q (decide (i = j))
  | x, y => ((shp x ∧ shp y) ∨ (∃ xs, x = .tuple xs ∧ y = .tuple []) ∨ ∃ xs, x = .list xs ∧ y = .list []) ∧ Q (PyData.eqv x y)
def ltP (x y : D) (Q : Bool → Prop) : Prop := match x, y with
  | .int i, .int j => Q (decide (i < j))
  | .tuple xs, .tuple ys => optP (asInts xs) fun ns => optP (asInts ys) fun ms => Q (HT.lexLt ns ms)
  | _, _ => False
def leP (x y : D) (Q : Bool → Prop) : Prop := match x, y with
  | .int i, .int j => Q (decide (i ≤ j))
  | .tuple xs, .tuple ys => optP (asInts xs) fun ns => optP (asInts ys) fun ms => Q (!HT.lexLt ms ns)
  | _, _ => False
def gtP (x y : D) (Q : Bool → Prop) : Prop := match x, y with
  | .int i, .int j => Q (decide (j < i))
  | .tuple xs, .tuple ys => optP (asInts xs) fun ns => optP (asInts ys) fun ms => Q (HT.lexLt ms ns)
  | _, _ => False
/-- a text of one sign -/
def signOf (u : Str) : Option Nat := match u.cps.toList with
  | [c] => some c
  | _ => none
def inP (x y : D) (Q : Bool → Prop) : Prop := match y with
  | .list ys => shp x ∧ shp (.list ys) ∧ Q (ys.any fun z => PyData.eqv z x)
  | .tuple ys => shp x ∧ shp (.tuple ys) ∧ Q (ys.any fun z => PyData.eqv z x)
  | .dict kvs => dkP kvs x fun o => Q o.isSome
  | .str z => (match x with | .str u => optP (signOf u) fun c => Q (decide (c ∈ z.cps.toList)) | _ => False)
  | _ => False
/-- a number of a script -/
def hugeOk (i : Int) : Prop := Builtin.Int.intBits i ≤ 1048576
def okMul (i j : Int) : Prop := i.natAbs < 2 ^ 64 ∨ j.natAbs < 2 ^ 64 ∨ (i.natAbs < 2 ^ 4000 ∧ j.natAbs < 2 ^ 4000) ∨ (hugeOk i ∧ j.natAbs < 2 ^ 4000)
def addP (x y : D) (Q : D → Prop) : Prop := match x, y with
  | .int i, .int j => Q (.int (i + j))
  | .str i, .str j => i.length + j.length ≤ big ∧ Q (.str (i ++ j))
  | .tuple xs, .tuple ys => xs.length + ys.length ≤ big ∧ Q (.tuple (xs ++ ys))
  | .list xs, .list ys => xs.length + ys.length ≤ big ∧ Q (.list (xs ++ ys))
  | _, _ => False
def mulP (x y : D) (Q : D → Prop) : Prop := match x, y with
  | .int i, .int j => okMul i j ∧ Q (.int (i * j))
  | .list xs, .int j => (-(2 ^ 63) ≤ j ∧ j < 2 ^ 63 ∧ xs.length * j.toNat ≤ big) ∧ Q (.list (List.replicate j.toNat xs).flatten)
  | .tuple xs, .int j => (xs ≠ [] ∧ 2 ≤ j ∧ j ≤ 1000 ∧ xs.length ≤ 1000) ∧ Q (.tuple (List.replicate j.toNat xs).flatten)
  | _, _ => False
def idxP (x y : D) (Q : D → Prop) : Prop := match x, y with
  | .list xs, .int i => optP (L2.atI xs i) Q
  | .tuple xs, .int i => optP (L2.atI xs i) Q
  | .str z, .int i => z.length ≤ big ∧ optP (L2.atI z.cps.toList i) fun c => Q (.str ⟨#[c]⟩)
  | .dict kvs, k => dkP kvs k fun o => optP o Q
  | _, _ => False
def cutP (x : D) (lo hi : Option Int) (Q : D → Prop) : Prop := match x with
  | .list xs => Q (.list (cutD xs lo hi))
  | .tuple xs => Q (.tuple (cutD xs lo hi))
  | .str z => z.length ≤ big ∧ Q (.str (cutS z lo hi))
  | _ => False
/-- a.join(xs) -/
def joinP (x y : D) (Q : D → Prop) : Prop := match x, y with
  | .str a, .list xs => optP (strsD xs) fun zs => ((zs.map (·.length)).sum + zs.length * a.length ≤ 100000) ∧ Q (.str (Txt.join a zs))
  | _, _ => False
/-- a.split(b) -/
def splitP (x y : D) (Q : D → Prop) : Prop := match x, y with
  | .str a, .str b => ((b.length == 0) = false ∧ a.length ≤ 100000) ∧ Q (.list ((Txt.split a b).map PyData.str))
  | _, _ => False
def smP (m : Sm) (x y : D) (Q : D → Prop) : Prop := match m with
  | .join => joinP x y Q
  | .split => splitP x y Q
def intP (x : D) (Q : Int → Prop) : Prop := match x with
  | .int i => Q i
  | _ => False
def op2 (o : O2) (x y : D) (Q : D → Prop) : Prop := match o with
  | .add => addP x y Q
  | .sub => intP x fun i => intP y fun j => Q (.int (i - j))
  | .mul => mulP x y Q
  | .fdiv => intP x fun i => intP y fun j => (0 < j ∧ j < 2 ^ 4000) ∧ Q (.int (i / j))
  | .mod => intP x fun i => intP y fun j => 0 < j ∧ Q (.int (i % j))
  | .pow => intP x fun i => intP y fun j => (0 ≤ j ∧ j ≤ 64 ∧ i.natAbs < 2 ^ 4000) ∧ Q (.int (i ^ j.toNat))
  | .eq => eqP x y fun b => Q (.bool b)
  | .ne => eqP x y fun b => Q (.bool (!b))
  | .lt => ltP x y fun b => Q (.bool b)
  | .le => leP x y fun b => Q (.bool b)
  | .gt => gtP x y fun b => Q (.bool b)
  | .ge => intP x fun i => intP y fun j => Q (.bool (decide (j ≤ i)))
  | .in_ => inP x y fun b => Q (.bool b)
  | .notin => inP x y fun b => Q (.bool (!b))
  | .idx => idxP x y Q
  | .min2 => intP x fun i => intP y fun j => Q (.int (if j < i then j else i))
  | .max2 => intP x fun i => intP y fun j => Q (.int (if i < j then j else i))
  | .lrange2 => intP x fun i => intP y fun j => (-(2 ^ 62) ≤ i ∧ i < 2 ^ 62 ∧ -(2 ^ 62) ≤ j ∧ j < 2 ^ 62 ∧ j - i ≤ big) ∧ Q (.list (ranI i (j - i).toNat))
  | .trange2 => intP x fun i => intP y fun j => (-(2 ^ 62) ≤ i ∧ i < 2 ^ 62 ∧ -(2 ^ 62) ≤ j ∧ j < 2 ^ 62 ∧ j - i ≤ big) ∧ Q (.tuple (ranI i (j - i).toNat))
  | .cutlo => intP y fun i => cutP x (some i) none Q
  | .cuthi => intP y fun i => cutP x none (some i) Q
  | .is => False
  | .isnot => False
/-! ### values and cells -/
/-- a value as data, cells read -/
def rdV (h : Hp) : V → Option D
  | .d x => some x
  | .cell n => (match h[n]? with | some (.lst xs) => some (.list xs) | some (.dct _ kvs) => some (.dict kvs) | _ => none)
  | _ => none
def allD : List V → Option (List D)
  | [] => some []
  | .d x :: r => (allD r).map (x :: ·)
  | _ :: _ => none
def mkTup (vs : List V) : V := match allD vs with
  | some ds => .d (.tuple ds)
  | none => .vt vs
def mkOb (vs : List V) : Ob := match allD vs with
  | some ds => .lst ds
  | none => .lv vs
/-- a is b, where b is None, True or False -/
def isP (x y : V) (Q : Bool → Prop) : Prop := match y with
  | .d .none => (match x with | .d .none => Q true | _ => Q false)
  | .d (.bool b) => (match x with | .d (.bool a) => Q (decide (a = b)) | _ => False)
  | _ => False
def idxV (h : Hp) (x y : V) (Q : V → Prop) : Prop := match x with
  | .vt xs => (match y with | .d (.int i) => optP (L2.atI xs i) Q | _ => False)
  | .cell n => (match h[n]? with
    | some (.lv xs) => (match y with | .d (.int i) => optP (L2.atI xs i) Q | _ => False)
    | some (.lst xs) => (match y with | .d (.int i) => optP (L2.atI xs i) fun z => Q (.d z) | _ => False)
    | some (.dct _ kvs) => optP (rdV h y) fun k => dkP kvs k fun o => optP o fun z => Q (.d z)
    | _ => False)
  | .d a => optP (rdV h y) fun b => idxP a b fun z => Q (.d z)
  | _ => False
def o1V (o : O1) (h : Hp) (x : V) (Q : V → Prop) : Prop := match o with
  | .len => (match x with
    | .vt xs => Q (.d (.int xs.length))
    | .cell n => (match h[n]? with
      | some (.lst xs) => Q (.d (.int xs.length))
      | some (.lv xs) => Q (.d (.int xs.length))
      | some (.dct _ kvs) => (∀ p ∈ kvs, keyB false p.1 = true) ∧ Q (.d (.int kvs.length))
      | _ => False)
    | .d a => lenP a fun z => Q (.d z)
    | _ => False)
  | o => optP (rdV h x) fun a => op1 o a fun z => Q (.d z)
def o2V (o : O2) (h : Hp) (x y : V) (Q : V → Prop) : Prop := match o with
  | .is => isP x y fun b => Q (.d (.bool b))
  | .isnot => isP x y fun b => Q (.d (.bool (!b)))
  | .idx => idxV h x y Q
  | o => optP (rdV h x) fun a => optP (rdV h y) fun b => op2 o a b fun z => Q (.d z)
def intV : V → Option Int
  | .d (.int i) => some i
  | _ => none
/-- isinstance -/
def isTy (h : Hp) (x : V) (t : Ty) : Bool := match x with
  | .d (.bool _) => decide (t = .bool) || decide (t = .int)
  | .d (.int _) => decide (t = .int)
  | .d (.str _) => decide (t = .str)
  | .d (.tuple _) => decide (t = .tuple)
  | .d (.list _) => decide (t = .list)
  | .d (.dict _) => decide (t = .dict)
  | .d .none => false
  | .vt _ => decide (t = .tuple)
  | .cell n => (match h[n]? with
    | some (.lst _) => decide (t = .list)
    | some (.lv _) => decide (t = .list)
    | some (.dct _ _) => decide (t = .dict)
    | some (.ins c _) => decide (t = .own c)
    | _ => false)
  | .fn _ => false
  | .exc c _ => decide (t = .own c) || decide (t = .hue) || decide (t = .verr)
def clsTy : Ty → Bool
  | .own _ => true | .verr => true | .hue => true | _ => false
def isiP (h : Hp) (x : V) (tys : List Ty) (Q : Bool → Prop) : Prop := match x with
  | .fn _ => False
  | .cell n => (match h[n]? with
    | some .dead => False
    | some (.ins _ _) => False
    | some _ => Q (tys.any fun t => isTy h x t)
    | none => False)
  | .exc c fs => (fs = [] ∧ tys.all clsTy = true) ∧ Q (tys.any fun t => isTy h (.exc c fs) t)
  | x => Q (tys.any fun t => isTy h x t)
/-- a list stands in the cell -/
def lstAt (h : Hp) (v : V) (Q : Prop) : Prop := match v with
  | .cell n => (match h[n]? with
    | some (.lst _) => Q
    | some (.lv _) => Q
    | _ => False)
  | _ => False
/-- the items of what is walked, and what must stay while it is -/
def itemsV (h : Hp) (x : V) (Q : (Hp → Prop) → List V → Prop) : Prop := match x with
  | .d (.list xs) => Q (fun _ => True) (xs.map V.d)
  | .d (.tuple xs) => Q (fun _ => True) (xs.map V.d)
  | .d (.str z) => Q (fun _ => True) ((signs z).map V.d)
  | .vt xs => Q (fun _ => True) xs
  | .cell n => (match h[n]? with
    | some (.lst xs) => Q (fun h' => h'[n]? = some (.lst xs)) (xs.map V.d)
    | some (.lv xs) => Q (fun h' => h'[n]? = some (.lv xs)) xs
    | _ => False)
  | _ => False
/-- the items as data -/
def ditemsV (h : Hp) (x : V) (Q : (Hp → Prop) → List D → Prop) : Prop := match x with
  | .d (.list xs) => Q (fun _ => True) xs
  | .d (.tuple xs) => Q (fun _ => True) xs
  | .cell n => (match h[n]? with
    | some (.lst xs) => Q (fun h' => h'[n]? = some (.lst xs)) xs
    | _ => False)
  | _ => False
def enumD (k : Int) : List D → List V
  | [] => []
  | x :: r => .d (.tuple [.int k, x]) :: enumD (k + 1) r
def zipD : List D → List D → List V
  | x :: r, y :: s => .d (.tuple [x, y]) :: zipD r s
  | _, _ => []
def zip3D : List D → List D → List D → List V
  | x :: r, y :: s, z :: t => .d (.tuple [x, y, z]) :: zip3D r s t
  | _, _, _ => []
/-- a tuple or list that is told to targets -/
def partsV (h : Hp) (x : V) (Q : List V → Prop) : Prop := match x with
  | .d (.tuple xs) => Q (xs.map V.d)
  | .d (.list xs) => Q (xs.map V.d)
  | .vt xs => Q xs
  | .cell n => (match h[n]? with
    | some (.lst xs) => Q (xs.map V.d)
    | some (.lv xs) => Q xs
    | _ => False)
  | _ => False
/-- a list of data -/
def dlistV (h : Hp) (x : V) (Q : List D → Prop) : Prop := match x with
  | .d (.list xs) => Q xs
  | .cell n => (match h[n]? with
    | some (.lst xs) => Q xs
    | _ => False)
  | _ => False
/-- x.m(args), the value told and the heap behind it -/
def mutL (m : Mu) (xs : List D) (vs : List V) (h : Hp) (Q : V → List D → Prop) : Prop := match m, vs with
  | .append, [.d y] => xs.length < big ∧ Q (.d .none) (xs ++ [y])
  | .extend, [v] => optP (rdV h v) fun a => (match a with
    | .list ys => xs.length + ys.length ≤ big ∧ Q (.d .none) (xs ++ ys)
    | _ => False)
  | .pop, [] => optP xs.getLast? fun y => Q (.d y) xs.dropLast
  | .popat, [.d (.int i)] => optP (L2.ixN xs.length i) fun k => optP xs[k]? fun y => Q (.d y) (xs.eraseIdx k)
  | .insert, [.d (.int i), .d y] => (xs.length < big ∧ 0 ≤ i ∧ i < 2 ^ 63) ∧ Q (.d .none) (xs.take i.toNat ++ [y] ++ xs.drop i.toNat)
  | .reverse, [] => Q (.d .none) xs.reverse
  | _, _ => False
def mutV (m : Mu) (o : V) (vs : List V) (h : Hp) (P : Pv) : Prop := match o with
  | .cell n => (match h[n]? with
    | some (.lst xs) => mutL m xs vs h fun v ys => P v (h.set n (.lst ys))
    | _ => False)
  | _ => False
/-- x[i] = v -/
def setV (o i v : V) (h : Hp) (Q : Hp → Prop) : Prop := match o with
  | .cell n => (match h[n]? with
    | some (.lst xs) => (match i, v with
      | .d (.int k), .d y => optP (L2.ixN xs.length k) fun j => Q (h.set n (.lst (xs.set j y)))
      | _, _ => False)
    | some (.dct t kvs) => (match i, v with
      | .d k, .d y => (keyB t k = true ∧ kvs.length < big) ∧ Q (h.set n (.dct t (putD kvs k y)))
      | _, _ => False)
    | _ => False)
  | _ => False
/-- a dict stands there -/
def dicAt (h : Hp) (v : V) (Q : Prop) : Prop := match v with
  | .d (.dict _) => Q
  | .cell n => (match h[n]? with
    | some (.dct _ _) => Q
    | _ => False)
  | _ => False
/-- a tuple, or a list, stands there -/
def seqAt (tp : Bool) (h : Hp) (v : V) (Q : Prop) : Prop := match tp with
  | true => (match v with
    | .d (.tuple _) => Q
    | _ => False)
  | false => (match v with
    | .d (.list _) => Q
    | .cell n => (match h[n]? with
      | some (.lst _) => Q
      | _ => False)
    | _ => False)
/-- one of these defs -/
def fnIn (v : V) (fs : List Nat) (Q : Nat → Prop) : Prop := match v with
  | .fn f => f ∈ fs ∧ Q f
  | _ => False
/-- a text stands there -/
def strAt (v : V) (Q : Prop) : Prop := match v with
  | .d (.str _) => Q
  | _ => False
/-- whether a list has items -/
def lstP (x : V) (Q : Bool → Prop) : Prop := match x with
  | .d (.list xs) => Q (!xs.isEmpty)
  | _ => False
/-- x.index(y), numbers -/
def ixP (x y : D) (Q : D → Prop) : Prop := match x with
  | .tuple xs => optP (asInts xs) fun ns => intP y fun i => optP (ixI i ns) fun k => Q (.int k)
  | .list xs => optP (asInts xs) fun ns => intP y fun i => optP (ixI i ns) fun k => Q (.int k)
  | _ => False
/-- an instance of the class c stands there -/
def insAt (h : Hp) (c : Nat) (v : V) (Q : Prop) : Prop := match v with
  | .cell n => (match h[n]? with
    | some (.ins c' _) => c' = c ∧ Q
    | _ => False)
  | _ => False
/-- x.f -/
def fldV (h : Hp) (c : Nat) (v : V) (f : Nat) (Q : V → Prop) : Prop := match v with
  | .cell n => (match h[n]? with
    | some (.ins c' fs) => c' = c ∧ optP (fs.lookup f) Q
    | _ => False)
  | _ => False
def putI : List (Nat × V) → Nat → V → List (Nat × V)
  | [], g, v => [(g, v)]
  | p :: fs, g, v => if p.1 = g then (p.1, v) :: fs else p :: putI fs g v
/-- x.f = y -/
def setF (h : Hp) (c : Nat) (x : V) (f : Nat) (y : V) (Q : Hp → Prop) : Prop := match x with
  | .cell n => (match h[n]? with
    | some (.ins c' fs) => (c' = c ∧ fs.length < 1000) ∧ Q (h.set n (.ins c' (putI fs f y)))
    | _ => False)
  | _ => False

/-- the numbers of rows, each once, as they come first -/
def addI (acc : List Int) (i : Int) : List Int := if i ∈ acc then acc else acc ++ [i]
def ptsD (ns : List Int) : List (D × D) := (ns.foldl addI []).map fun i => (.int i, .bool true)
def asTups : List V → Option (List (List Int))
  | [] => some []
  | .d (.tuple xs) :: r => (match asInts xs with
    | some a => (asTups r).map (a :: ·)
    | none => none)
  | _ :: _ => none
/-! ### the language -/
inductive T where
  | nil | cons (a r : T)
  -- expressions
  | var (i : Nat) | con (c : D) | gco (g : Nat) (c : D) | fnv (f : Nat)
  | o1 (o : O1) (a : T) | o2 (o : O2) (a b : T) | o3 (o : O3) (a b c : T)
  | and (a b : T) | or (a b : T) | not (a : T) | ite (c a b : T) | chn (o p : O2) (a b c : T)
  | tup (es : T) | lst (own : Bool) (es : T) | edic | dnew (t : Bool) | dget (a k : T) | dget2 (a k d : T)
  | fld (c : Nat) (o : T) (f : Nat) | make (c g : Nat) (args : T) | meth (c g : Nat) (o args : T)
  | isi (a : T) (tys : List Ty)
  | call (f : Nat) (args : T) | callk (f : Nat) (args kws : T) (ord : List Nat)
  | callf (i : Nat) (fs : List Nat) (args : T)
  | mtd (m : Mu) (o args : T)
  | own (a : T)
  | smt (m : Sm) (a b : T) | ixof (tp : Bool) (a b : T) | orl (a b : T)
  | cmp1 (own : Bool) (it tg ifs elt : T) (ws : List Nat)
  | cmp2 (own : Bool) (it tg ifs it2 tg2 ifs2 elt : T) (ws ws2 : List Nat)
  | dpt (a : T) (i j : Nat) (ws ws2 : List Nat)
  -- what is walked
  | itv (a : T) | rng1 (a : T) | rng2 (a b : T) | rngd (a b : T) | enm (k : Int) (a : T) | zip2 (a b : T) | zip3 (a b c : T)
  -- targets
  | tnm (i : Nat) | ttp (ts : T) | tst (i : Nat) (ts : T) | tsb (o i : T) | tsf (c : Nat) (o : T) (f : Nat)
  -- statements
  | exp (a : T) | asg (tg a : T) | augn (o : O2) (i : Nat) (a : T) | augs (o : O2) (e j a : T) | ifs (c a b : T) | for_ (tg it body : T) | whl (c body : T)
  | ret (a : T) | ret0 | brk | cnt | pas | kill (ks : List Nat) | frz (i : Nat)
  | rai (c : Nat) | try_ (body : T) (i y : Nat)

/-- what is wanted behind a statement, but for its plain end -/
structure Kk where
  rt : V → Hp → Prop
  bk : Env → Hp → Prop
  ct : Env → Hp → Prop
  xe : V → Env → Hp → Prop

def wipeE (env : Env) : List Nat → Env
  | [] => env
  | i :: r => (wipeE env r).set i none
/-- arguments in the parameters' order -/
def perm {α : Type} (ord : List Nat) (xs : List α) : List α := ord.filterMap fun i => xs[i]?
def tlen : T → Nat
  | .cons _ r => tlen r + 1
  | _ => 0
/-- the lists of some cells, data from here on -/
def frzL (h : Hp) : List V → Option (List D × Hp)
  | [] => some ([], h)
  | .cell m :: r => (match h[m]? with
    | some (.lst xs) => (frzL (h.set m .dead) r).map fun p => (.list xs :: p.1, p.2)
    | _ => none)
  | _ :: _ => none
def frzE (env : Env) (h : Hp) (i : Nat) (Q : Env → Hp → Prop) : Prop := match env[i]? with
  | some (some (.cell n)) => (match h[n]? with
    | some (.lst xs) => Q (env.set i (some (.d (.list xs)))) (h.set n .dead)
    | some (.dct _ kvs) => Q (env.set i (some (.d (.dict kvs)))) (h.set n .dead)
    | some (.lv xs) => optP (frzL (h.set n .dead) xs) fun p => Q (env.set i (some (.d (.list p.1)))) p.2
    | _ => False)
  | some (some (.d x)) => Q env h
  | _ => False

abbrev Nx := Env → Hp → Prop
def forW0 (chk : Hp → Prop) (body : V → Env → Hp → Nx → Kk → Prop) : List V → Env → Hp → Nx → Kk → Prop
  | [], env, h, n, _ => chk h ∧ n env h
  | x :: r, env, h, n, k => chk h ∧ body x env h (fun e h' => forW0 chk body r e h' n k) ⟨k.rt, n, fun e h' => forW0 chk body r e h' n k, k.xe⟩
/-- a comprehension's turns: the items made so far -/
def cmpW0 (chk : Hp → Prop) (turn : V → Hp → (Option V → Hp → Prop) → Prop) : List V → List V → Hp → (List V → Hp → Prop) → Prop
  | [], acc, h, Q => chk h ∧ Q acc h
  | x :: r, acc, h, Q => chk h ∧ turn x h fun o h' => (match o with
    | some v => acc.length < big ∧ cmpW0 chk turn r (acc ++ [v]) h' Q
    | none => cmpW0 chk turn r acc h' Q)
/-- the outer turns of two fors -/
def cmpW20 (chk : Hp → Prop) (turn : V → List V → Hp → (List V → Hp → Prop) → Prop) : List V → List V → Hp → (List V → Hp → Prop) → Prop
  | [], acc, h, Q => chk h ∧ Q acc h
  | x :: r, acc, h, Q => chk h ∧ turn x acc h fun acc' h' => cmpW20 chk turn r acc' h' Q
def whileN0 (c : Env → Hp → (Bool → Hp → Prop) → Prop) (body : Env → Hp → Nx → Kk → Prop) : Nat → Env → Hp → Nx → Kk → Prop
  | 0, _, _, _, _ => False
  | m + 1, env, h, n, k => c env h fun t h1 => (match t with
    | true => body env h1 (fun e h' => whileN0 c body m e h' n k) ⟨k.rt, n, fun e h' => whileN0 c body m e h' n k, k.xe⟩
    | false => n env h1)
@[irreducible] def forW (chk : Hp → Prop) (body : V → Env → Hp → Nx → Kk → Prop) (xs : List V) (env : Env) (h : Hp) (n : Nx) (k : Kk) : Prop := forW0 chk body xs env h n k
@[irreducible] def cmpW (chk : Hp → Prop) (turn : V → Hp → (Option V → Hp → Prop) → Prop) (xs acc : List V) (h : Hp) (Q : List V → Hp → Prop) : Prop := cmpW0 chk turn xs acc h Q
@[irreducible] def cmpW2 (chk : Hp → Prop) (turn : V → List V → Hp → (List V → Hp → Prop) → Prop) (xs acc : List V) (h : Hp) (Q : List V → Hp → Prop) : Prop := cmpW20 chk turn xs acc h Q
@[irreducible] def whileN (c : Env → Hp → (Bool → Hp → Prop) → Prop) (body : Env → Hp → Nx → Kk → Prop) (m : Nat) (env : Env) (h : Hp) (n : Nx) (k : Kk) : Prop := whileN0 c body m env h n k
theorem forW_eq : @forW = @forW0 := by unfold forW; rfl
theorem cmpW_eq : @cmpW = @cmpW0 := by unfold cmpW; rfl
theorem cmpW2_eq : @cmpW2 = @cmpW20 := by unfold cmpW2; rfl
theorem whileN_eq : @whileN = @whileN0 := by unfold whileN; rfl
section
variable {chk : Hp → Prop} {body : V → Env → Hp → Nx → Kk → Prop} {env : Env} {h : Hp} {n : Nx} {k : Kk}
theorem forW_in (q : forW chk body [] env h n k) : chk h ∧ n env h := by rw [forW_eq] at q; exact q
theorem forW_ic {x : V} {r : List V} (q : forW chk body (x :: r) env h n k) : chk h ∧ body x env h (fun e h' => forW chk body r e h' n k) ⟨k.rt, n, fun e h' => forW chk body r e h' n k, k.xe⟩ := by rw [forW_eq] at q ⊢; exact q
end
section
variable {chk : Hp → Prop} {turn : V → Hp → (Option V → Hp → Prop) → Prop} {acc : List V} {h : Hp} {Q : List V → Hp → Prop}
theorem cmpW_in (q : cmpW chk turn [] acc h Q) : chk h ∧ Q acc h := by rw [cmpW_eq] at q; exact q
theorem cmpW_ic {x : V} {r : List V} (q : cmpW chk turn (x :: r) acc h Q) : chk h ∧ turn x h fun o h' => (match o with
    | some v => acc.length < big ∧ cmpW chk turn r (acc ++ [v]) h' Q
    | none => cmpW chk turn r acc h' Q) := by rw [cmpW_eq] at q ⊢; exact q
end
section
variable {chk : Hp → Prop} {turn : V → List V → Hp → (List V → Hp → Prop) → Prop} {acc : List V} {h : Hp} {Q : List V → Hp → Prop}
theorem cmpW2_in (q : cmpW2 chk turn [] acc h Q) : chk h ∧ Q acc h := by rw [cmpW2_eq] at q; exact q
theorem cmpW2_ic {x : V} {r : List V} (q : cmpW2 chk turn (x :: r) acc h Q) : chk h ∧ turn x acc h fun acc' h' => cmpW2 chk turn r acc' h' Q := by rw [cmpW2_eq] at q ⊢; exact q
end
section
variable {c : Env → Hp → (Bool → Hp → Prop) → Prop} {body : Env → Hp → Nx → Kk → Prop} {m : Nat} {env : Env} {h : Hp} {n : Nx} {k : Kk}
theorem whileN_i0 (q : whileN c body 0 env h n k) : False := by rw [whileN_eq] at q; exact q
theorem whileN_is (q : whileN c body (m + 1) env h n k) : c env h fun t h1 => (match t with
    | true => body env h1 (fun e h' => whileN c body m e h' n k) ⟨k.rt, n, fun e h' => whileN c body m e h' n k, k.xe⟩
    | false => n env h1) := by rw [whileN_eq] at q ⊢; exact q
end
/-- a made list: data, or a new cell -/
def mkL (own : Bool) (vs : List V) (h : Hp) (P : Pv) : Prop := match own with
  | false => optP (allD vs) fun ds => P (.d (.list ds)) h
  | true => P (.cell h.length) (h ++ [mkOb vs])
/-- x op= y of numbers -/
def augV (o : O2) (x y : V) (Q : V → Prop) : Prop := match x, y with
  | .d (.int m), .d (.int n) => (match o with
    | .add => Q (.d (.int (m + n)))
    | .sub => Q (.d (.int (m - n)))
    | .mul => okMul m n ∧ Q (.d (.int (m * n)))
    | _ => False)
  | _, _ => False
def boolP (v : V) (Q : Bool → Prop) : Prop := match v with
  | .d (.bool b) => Q b
  | _ => False

section
variable (F : Phi)
mutual
def WE : T → Env → Hp → Pv → Px → Prop
  | .var i, env, h, P, _ => optP env[i]? fun o => optP o fun v => P v h
  | .con c, _, h, P, _ => P (.d c) h
  | .gco _ c, _, h, P, _ => P (.d c) h
  | .fnv f, _, h, P, _ => P (.fn f) h
  | .o1 o a, env, h, P, X => WE a env h (fun x h1 => o1V o h1 x fun z => P z h1) X
  | .o2 o a b, env, h, P, X => WE a env h (fun x h1 => WE b env h1 (fun y h2 => o2V o h2 x y fun z => P z h2) X) X
  | .o3 _ a b c, env, h, P, X => WE a env h (fun x h1 => WE b env h1 (fun y h2 => optP (intV y) fun i => WE c env h2 (fun w h3 => optP (intV w) fun j => optP (rdV h3 x) fun d =>
      cutP d (some i) (some j) fun z => P (.d z) h3) X) X) X
  | .and a b, env, h, P, X => WE a env h (fun x h1 => boolP x fun t => match t with | true => WE b env h1 P X | false => P (.d (.bool false)) h1) X
  | .or a b, env, h, P, X => WE a env h (fun x h1 => boolP x fun t => match t with | true => P (.d (.bool true)) h1 | false => WE b env h1 P X) X
  | .not a, env, h, P, X => WE a env h (fun x h1 => boolP x fun t => P (.d (.bool (!t))) h1) X
  | .ite c a b, env, h, P, X => WE c env h (fun x h1 => boolP x fun t => match t with | true => WE a env h1 P X | false => WE b env h1 P X) X
  | .chn o p a b c, env, h, P, X => WE a env h (fun x h1 => WE b env h1 (fun y h2 => o2V o h2 x y fun z => boolP z fun t => match t with
      | true => WE c env h2 (fun w h3 => o2V p h3 y w fun z => P z h3) X
      | false => P (.d (.bool false)) h2) X) X
  | .tup es, env, h, P, X => WEs es env h (fun vs h1 => vs.length ≤ big ∧ P (mkTup vs) h1) X
  | .lst o es, env, h, P, X => WEs es env h (fun vs h1 => vs.length ≤ big ∧ mkL o vs h1 P) X
  | .edic, _, h, P, _ => P (.d (.dict [])) h
  | .dnew t, _, h, P, _ => P (.cell h.length) (h ++ [.dct t []])
  | .dget a k, env, h, P, X => WE a env h (fun v h1 => dicAt h1 v (WE k env h1 (fun y h2 => optP (rdV h2 v) fun x => optP (rdV h2 y) fun k => (match x with
      | .dict kvs => dkP kvs k fun o => P (.d (o.getD .none)) h2
      | _ => False)) X)) X
  | .dget2 a k d, env, h, P, X => WE a env h (fun v h1 => dicAt h1 v (WE k env h1 (fun y h2 => WE d env h2 (fun u h3 => optP (rdV h3 v) fun x => optP (rdV h3 y) fun k => (match u with
      | .d e => (match x with
        | .dict kvs => dkP kvs k fun o => P (.d (o.getD e)) h3
        | _ => False)
      | _ => False)) X) X)) X
  | .fld c o f, env, h, P, X => WE o env h (fun v h1 => fldV h1 c v f fun z => P z h1) X
  | .make c g args, env, h, P, X => WEs args env h (fun vs h1 => F g (.cell h1.length :: vs) (h1 ++ [.ins c []]) (fun v h2 => v = .d .none ∧ P (.cell h1.length) h2) (fun _ _ => False)) X
  | .meth c g o args, env, h, P, X => WE o env h (fun v h1 => insAt h1 c v (WEs args env h1 (fun vs h2 => F g (v :: vs) h2 P X) X)) X
  | .isi a tys, env, h, P, X => WE a env h (fun x h1 => isiP h1 x tys fun b => P (.d (.bool b)) h1) X
  | .call f args, env, h, P, X => WEs args env h (fun vs h1 => F f vs h1 P X) X
  | .callk f args kws ord, env, h, P, X => WEs args env h (fun vs h1 => WEs kws env h1 (fun zs h2 => F f (perm ord (vs ++ zs)) h2 P X) X) X
  | .callf i fs args, env, h, P, X => optP env[i]? fun o => optP o fun v => fnIn v fs fun f => WEs args env h (fun vs h1 => F f vs h1 P X) X
  | .mtd m o args, env, h, P, X => WE o env h (fun v h1 => lstAt h1 v (WEs args env h1 (fun vs h2 => mutV m v vs h2 P) X)) X
  | .orl a b, env, h, P, X => WE a env h (fun x h1 => lstP x fun t => match t with | true => P x h1 | false => WE b env h1 P X) X
  | .smt m a b, env, h, P, X => WE a env h (fun v h1 => strAt v (WE b env h1 (fun y h2 => optP (rdV h2 v) fun x => optP (rdV h2 y) fun z => smP m x z fun r => P (.d r) h2) X)) X
  | .ixof tp a b, env, h, P, X => WE a env h (fun v h1 => seqAt tp h1 v (WE b env h1 (fun y h2 => optP (rdV h2 v) fun x => optP (rdV h2 y) fun z => ixP x z fun r => P (.d r) h2) X)) X
  | .own a, env, h, P, X => WE a env h (fun v h1 => match v with | .d (.list xs) => P (.cell h1.length) (h1 ++ [.lst xs]) | _ => False) X
  | .cmp1 o it tg ifs elt ws, env, h, P, X => WI it env h (fun chk xs h1 =>
      cmpW chk (fun x h2 Q => WA tg x (wipeE env ws) h2 (fun e2 h3 => WTs ifs e2 h3 (fun t h4 => match t with
        | true => WE elt e2 h4 (fun v h5 => Q (some v) h5) (fun _ _ => False)
        | false => Q none h4)) ) xs [] h1 fun vs h2 => mkL o vs h2 P) X
  | .dpt a i j _ ws2, env, h, P, X => WE a env h (fun v h1 => itemsV h1 v fun chk xs => ((i < env.length ∧ j < env.length ∧ i ∉ ws2) ∧ ∀ h, chk h) ∧ optP (asTups xs) fun rows => rows.flatten.length ≤ 10000 ∧ P (.d (.dict (ptsD rows.flatten))) h1) X
  | .cmp2 o it tg ifs it2 tg2 ifs2 elt ws ws2, env, h, P, X => WI it env h (fun chk xs h1 =>
      cmpW2 chk (fun x acc h2 Q => WA tg x (wipeE env ws) h2 (fun e2 h3 => WTs ifs e2 h3 (fun t h4 => match t with
        | true => WI it2 e2 h4 (fun chk2 ys h5 => cmpW chk2 (fun y h6 Q2 => WA tg2 y (wipeE e2 ws2) h6 (fun e3 h7 => WTs ifs2 e3 h7 (fun t2 h8 => match t2 with
            | true => WE elt e3 h8 (fun v h9 => Q2 (some v) h9) (fun _ _ => False)
            | false => Q2 none h8))) ys acc h5 Q) (fun _ _ => False)
        | false => Q acc h4))) xs [] h1 fun vs h2 => mkL o vs h2 P) X
  | _, _, _, _, _ => False
def WEs : T → Env → Hp → (List V → Hp → Prop) → Px → Prop
  | .nil, _, h, P, _ => P [] h
  | .cons a r, env, h, P, X => WE a env h (fun v h1 => WEs r env h1 (fun vs h2 => P (v :: vs) h2) X) X
  | _, _, _, _, _ => False
/-- tests of a comprehension, no error leaves -/
def WTs : T → Env → Hp → (Bool → Hp → Prop) → Prop
  | .nil, _, h, P => P true h
  | .cons a .nil, env, h, P => WE a env h (fun v h1 => boolP v fun t => P t h1) (fun _ _ => False)
  | _, _, _, _ => False
def WI : T → Env → Hp → ((Hp → Prop) → List V → Hp → Prop) → Px → Prop
  | .itv a, env, h, P, X => WE a env h (fun v h1 => itemsV h1 v fun chk xs => P chk xs h1) X
  | .rng1 a, env, h, P, X => WE a env h (fun v h1 => optP (rdV h1 v) fun d => intP d fun j => (-(2 ^ 62) ≤ j ∧ j < 2 ^ 62) ∧ P (fun _ => True) ((ranI 0 j.toNat).map V.d) h1) X
  | .rng2 a b, env, h, P, X => WE a env h (fun v h1 => WE b env h1 (fun u h2 => optP (rdV h2 v) fun d => intP d fun i => optP (rdV h2 u) fun d => intP d fun j =>
      (-(2 ^ 62) ≤ i ∧ i < 2 ^ 62 ∧ -(2 ^ 62) ≤ j ∧ j < 2 ^ 62) ∧ P (fun _ => True) ((ranI i (j - i).toNat).map V.d) h2) X) X
  | .rngd a b, env, h, P, X => WE a env h (fun v h1 => WE b env h1 (fun u h2 => optP (rdV h2 v) fun d => intP d fun i => optP (rdV h2 u) fun d => intP d fun j =>
      (-(2 ^ 62) ≤ i ∧ i < 2 ^ 62 ∧ -(2 ^ 62) ≤ j ∧ j < 2 ^ 62) ∧ P (fun _ => True) ((ranD i (i - j).toNat).map V.d) h2) X) X
  | .enm k a, env, h, P, X => WE a env h (fun v h1 => ditemsV h1 v fun chk xs => P chk (enumD k xs) h1) X
  | .zip2 a b, env, h, P, X => WE a env h (fun v h1 => WE b env h1 (fun u h2 => ditemsV h2 v fun c1 xs => ditemsV h2 u fun c2 ys => P (fun h => c1 h ∧ c2 h) (zipD xs ys) h2) X) X
  | .zip3 a b c, env, h, P, X => WE a env h (fun v h1 => WE b env h1 (fun u h2 => WE c env h2 (fun w h3 => ditemsV h3 v fun c1 xs => ditemsV h3 u fun c2 ys => ditemsV h3 w fun c3 zs =>
      P (fun h => c1 h ∧ c2 h ∧ c3 h) (zip3D xs ys zs) h3) X) X) X
  | _, _, _, _, _ => False
/-- a target is told a value (no error leaves) -/
def WA : T → V → Env → Hp → (Env → Hp → Prop) → Prop
  | .tnm i, v, env, h, Q => Q (env.set i (some v)) h
  | .ttp ts, v, env, h, Q => partsV h v fun vs => vs.length = tlen ts ∧ WAs ts vs env h Q
  | .tst i ts, v, env, h, Q => dlistV h v fun xs => (i < tlen ts ∧ tlen ts ≤ xs.length + 1) ∧
      WAs ts ((xs.take i).map V.d ++ [.d (.list ((xs.drop i).take (xs.length - i - (tlen ts - 1 - i))))] ++ ((xs.drop i).drop (xs.length - i - (tlen ts - 1 - i))).map V.d) env h Q
  | .tsb o i, v, env, h, Q => WE o env h (fun x h1 => WE i env h1 (fun y h2 => setV x y v h2 fun h3 => Q env h3) (fun _ _ => False)) (fun _ _ => False)
  | .tsf c o f, v, env, h, Q => WE o env h (fun x h1 => setF h1 c x f v fun h2 => Q env h2) (fun _ _ => False)
  | _, _, _, _, _ => False
def WAs : T → List V → Env → Hp → (Env → Hp → Prop) → Prop
  | .nil, vs, env, h, Q => vs = [] ∧ Q env h
  | .cons t r, vs, env, h, Q => (match vs with
    | v :: us => WA t v env h fun e h1 => WAs r us e h1 Q
    | [] => False)
  | _, _, _, _, _ => False
end
mutual
def WS : T → Env → Hp → Nx → Kk → Prop
  | .exp a, env, h, n, k => WE F a env h (fun _ h1 => n env h1) (fun x h1 => k.xe x env h1)
  | .asg tg a, env, h, n, k => WE F a env h (fun v h1 => WA F tg v env h1 n) (fun x h1 => k.xe x env h1)
  | .augn o i a, env, h, n, k => optP env[i]? fun ov => optP ov fun x => WE F a env h (fun y h1 => augV o x y fun z => n (env.set i (some z)) h1) (fun x h1 => k.xe x env h1)
  | .augs o e j a, env, h, n, k => WE F e env h (fun x h1 => WE F j env h1 (fun y h2 => idxV h2 x y fun z => WE F a env h2 (fun w h3 => augV o z w fun r =>
      setV x y r h3 fun h4 => n env h4) (fun x h1 => k.xe x env h1)) (fun x h1 => k.xe x env h1)) (fun x h1 => k.xe x env h1)
  | .ifs c a b, env, h, n, k => WE F c env h (fun v h1 => boolP v fun t => match t with | true => WSs a env h1 n k | false => WSs b env h1 n k) (fun x h1 => k.xe x env h1)
  | .for_ tg it body, env, h, n, k => WI F it env h (fun chk xs h1 => forW chk (fun x e h2 n2 k2 => WA F tg x e h2 fun e1 h3 => WSs body e1 h3 n2 k2) xs env h1 n k) (fun x h1 => k.xe x env h1)
  | .whl c body, env, h, n, k => ∃ m, whileN (fun e h1 Q => WE F c e h1 (fun v h2 => boolP v fun t => Q t h2) (fun _ _ => False)) (fun e h1 n1 k1 => WSs body e h1 n1 k1) m env h n k
  | .ret a, env, h, _, k => WE F a env h (fun v h1 => k.rt v h1) (fun x h1 => k.xe x env h1)
  | .ret0, _, h, _, k => k.rt (.d .none) h
  | .brk, env, h, _, k => k.bk env h
  | .cnt, env, h, _, k => k.ct env h
  | .pas, env, h, n, _ => n env h
  | .kill ks, env, h, n, _ => n (wipeE env ks) h
  | .frz i, env, h, n, _ => frzE env h i n
  | .rai c, env, h, _, k => k.xe (.exc c []) env h
  | .try_ b i y, env, h, n, k => WSs b env h n ⟨k.rt, k.bk, k.ct, fun x e h1 => n (((e.set i none).set y (some x)).set i none) h1⟩
  | _, _, _, _, _ => False
def WSs : T → Env → Hp → Nx → Kk → Prop
  | .nil, env, h, n, _ => n env h
  | .cons s r, env, h, n, k => WS s env h (fun e h1 => WSs r e h1 n k) k
  | _, _, _, _, _ => False
end
end

/-! ### calls -/
structure FnI where
  np : Nat
  ns : Nat
  md : Nat
  body : T
def plain : Ob → Bool
  | .lst _ => true
  | .dct _ _ => true
  | _ => false
def cellsOf : List V → List Nat
  | [] => []
  | .cell n :: r => n :: cellsOf r
  | _ :: r => cellsOf r
def renum (k : Nat) : List V → List V
  | [] => []
  | .cell _ :: r => .cell k :: renum (k + 1) r
  | v :: r => v :: renum k r
/-- an argument of a def that is called by itself: a cell, data, a def -/
def argOk : V → Bool
  | .d _ => true
  | .cell _ => true
  | .fn _ => true
  | .exc _ _ => true
  | _ => false
def isoIn (h : Hp) : List Nat → Option Hp
  | [] => some []
  | n :: r => (match h[n]? with
    | some o => if plain o = true then (isoIn h r).map (o :: ·) else none
    | none => none)
def isoBack (h h0 : Hp) : List Nat → Nat → Option Hp
  | [], _ => some h
  | n :: r, k => (match h0[k]? with
    | some o => if plain o = true then isoBack (h.set n o) h0 r (k + 1) else none
    | none => none)
def isoOut (h : Hp) (cs : List Nat) (v : V) (h0 : Hp) (P : Pv) : Prop := optP (isoBack h h0 cs 0) fun h1 => match v with
  | .d x => P (.d x) h1
  | .fn f => P (.fn f) h1
  | .exc c fs => P (.exc c fs) h1
  | .cell n => cs.length ≤ n ∧ optP h0[n]? fun o => plain o = true ∧ P (.cell h1.length) (h1 ++ [o])
  | _ => False
def runB (F : Phi) (f : FnI) (args : List V) (h : Hp) (P : Pv) (X : Px) : Prop :=
  WSs F f.body (args.map some ++ List.replicate (f.ns - f.np) none) h (fun _ h1 => P (.d .none) h1)
    ⟨P, fun _ _ => False, fun _ _ => False, fun x _ h1 => X x h1⟩
/-- a call: by itself (md 0: it sees the cells it is told alone), or over the whole heap -/
def callN (FT : List FnI) : Nat → Phi
  | 0, _, _, _, _, _ => False
  | n + 1, f, args, h, P, X => optP FT[f]? fun fn => args.length = fn.np ∧ (match fn.md with
    | 0 => args.all argOk = true ∧ (cellsOf args).Nodup ∧ optP (isoIn h (cellsOf args)) fun h0 =>
        runB (callN FT n) fn (renum 0 args) h0 (fun v h1 => isoOut h (cellsOf args) v h1 P) (fun v h1 => isoOut h (cellsOf args) v h1 X)
    | _ => runB (callN FT n) fn args h P X)
end Hb

/-! SRT: sorted numbers. -/
namespace Hb
open PySem
theorem insI_perm (x : Int) : ∀ l : List Int, (insI x l).Perm (x :: l)
  | [] => .refl _
  | y :: r => by
    unfold insI
    by_cases h : x ≤ y
    · rw [if_pos h]
    · rw [if_neg h]; exact ((insI_perm x r).cons y).trans (List.Perm.swap x y r)
theorem sortI_perm : ∀ l : List Int, (sortI l).Perm l
  | [] => .refl _
  | x :: r => (insI_perm x (sortI r)).trans ((sortI_perm r).cons x)
theorem insI_sorted (x : Int) : ∀ l : List Int, l.Pairwise (· ≤ ·) → (insI x l).Pairwise (· ≤ ·)
  | [], _ => by simp [insI]
  | y :: r, h => by
    unfold insI
    rw [List.pairwise_cons] at h
    by_cases hx : x ≤ y
    · rw [if_pos hx, List.pairwise_cons, List.pairwise_cons]
      refine ⟨fun z hz => ?_, h⟩
      rcases List.mem_cons.mp hz with rfl | hz
      · exact hx
      · exact Int.le_trans hx (h.1 z hz)
    · rw [if_neg hx, List.pairwise_cons]
      refine ⟨fun z hz => ?_, insI_sorted x r h.2⟩
      rcases List.mem_cons.mp ((insI_perm x r).subset hz) with rfl | hz
      · omega
      · exact h.1 z hz
theorem sortI_sorted : ∀ l : List Int, (sortI l).Pairwise (· ≤ ·)
  | [] => .nil
  | x :: r => insI_sorted x _ (sortI_sorted r)
theorem sorted_uniq : ∀ {l l' : List Int}, l.Perm l' → l.Pairwise (· ≤ ·) → l'.Pairwise (· ≤ ·) → l = l'
  | [], l', p, _, _ => (List.nil_perm.mp p).symm ▸ rfl
  | x :: r, [], p, _, _ => absurd p.length_eq (by simp)
  | x :: r, y :: t, p, h, h' => by
    rw [List.pairwise_cons] at h h'
    have e : x = y := by
      have hx : x ∈ y :: t := p.subset (by simp)
      have hy : y ∈ x :: r := p.symm.subset (by simp)
      rcases List.mem_cons.mp hx with rfl | hx
      · rfl
      · rcases List.mem_cons.mp hy with rfl | hy
        · rfl
        · exact Int.le_antisymm (h.1 y hy) (h'.1 x hx)
    subst e
    rw [sorted_uniq ((List.perm_cons x).mp p) h.2 h'.2]
end Hb

/-! REL: how the small heap and its data stand in the abstract heap of the hand layer. -/
namespace Hb
open PySem PySem.Spec PyProof.Rows
open L2 hiding V Hp St
set_option autoImplicit false
abbrev Sg := L2.St

/-- where things of the text stand -/
structure Wo where
  K : PySem.W.Frag
  fa : Nat → Addr
  ca : Nat → Addr
  an : Nat → Str
  anj : ∀ i j : Nat, an i = an j → i = j
  xc : List Nat
  hu : Addr

/-! ### lists of pairs -/
inductive All2 {α β : Type} (R : α → β → Prop) : List α → List β → Prop
  | nil : All2 R [] []
  | cons {a b as bs} : R a b → All2 R as bs → All2 R (a :: as) (b :: bs)
namespace All2
variable {α β : Type} {R S : α → β → Prop}
theorem length {as : List α} {bs : List β} (h : All2 R as bs) : as.length = bs.length := by
  induction h with
  | nil => rfl
  | cons _ _ ih => simp [ih]
theorem imp {as : List α} {bs : List β} (h : All2 R as bs) (f : ∀ a b, R a b → S a b) : All2 S as bs := by
  induction h with
  | nil => exact .nil
  | cons r _ ih => exact .cons (f _ _ r) ih
theorem append {as as' : List α} {bs bs' : List β} (h : All2 R as bs) (h' : All2 R as' bs') : All2 R (as ++ as') (bs ++ bs') := by
  induction h with
  | nil => exact h'
  | cons r _ ih => exact .cons r ih
theorem getL {as : List α} {bs : List β} (h : All2 R as bs) : ∀ {i : Nat} {a : α}, as[i]? = some a → ∃ b, bs[i]? = some b ∧ R a b := by
  induction h with
  | nil => intro i a e; simp at e
  | cons r _ ih =>
    intro i a e
    cases i with
    | zero => simp at e; subst e; exact ⟨_, rfl, r⟩
    | succ i => simp at e; simpa using ih e
theorem getR {as : List α} {bs : List β} (h : All2 R as bs) : ∀ {i : Nat} {b : β}, bs[i]? = some b → ∃ a, as[i]? = some a ∧ R a b := by
  induction h with
  | nil => intro i a e; simp at e
  | cons r _ ih =>
    intro i a e
    cases i with
    | zero => simp at e; subst e; exact ⟨_, rfl, r⟩
    | succ i => simp at e; simpa using ih e
theorem take {as : List α} {bs : List β} (h : All2 R as bs) : ∀ n : Nat, All2 R (as.take n) (bs.take n) := by
  induction h with
  | nil => intro n; simp; exact .nil
  | cons r _ ih =>
    intro n
    cases n with
    | zero => simp; exact .nil
    | succ n => simp; exact .cons r (ih n)
theorem drop {as : List α} {bs : List β} (h : All2 R as bs) : ∀ n : Nat, All2 R (as.drop n) (bs.drop n) := by
  induction h with
  | nil => intro n; simp; exact .nil
  | cons r t ih =>
    intro n
    cases n with
    | zero => simp; exact .cons r t
    | succ n => simp; exact ih n
theorem set {as : List α} {bs : List β} (h : All2 R as bs) {a : α} {b : β} (r' : R a b) : ∀ n : Nat, All2 R (as.set n a) (bs.set n b) := by
  induction h with
  | nil => intro n; simp; exact .nil
  | cons r t ih =>
    intro n
    cases n with
    | zero => simp; exact .cons r' t
    | succ n => simp; exact .cons r (ih n)
theorem eraseIdx {as : List α} {bs : List β} (h : All2 R as bs) : ∀ n : Nat, All2 R (as.eraseIdx n) (bs.eraseIdx n) := by
  induction h with
  | nil => intro n; simp; exact .nil
  | cons r t ih =>
    intro n
    cases n with
    | zero => simp; exact t
    | succ n => simp; exact .cons r (ih n)
theorem dropLast {as : List α} {bs : List β} (h : All2 R as bs) : All2 R as.dropLast bs.dropLast := by
  rw [List.dropLast_eq_take, List.dropLast_eq_take, h.length]
  exact h.take _
theorem reverse {as : List α} {bs : List β} (h : All2 R as bs) : All2 R as.reverse bs.reverse := by
  induction h with
  | nil => exact .nil
  | cons r _ ih => rw [List.reverse_cons, List.reverse_cons]; exact ih.append (.cons r .nil)
theorem rep {as : List α} {bs : List β} (h : All2 R as bs) : ∀ k : Nat, All2 R (List.replicate k as).flatten (List.replicate k bs).flatten
  | 0 => .nil
  | k + 1 => by rw [List.replicate_succ, List.replicate_succ, List.flatten_cons, List.flatten_cons]; exact h.append (rep h k)
theorem snoc {as : List α} {bs : List β} (h : All2 R as bs) {a : α} {b : β} (r : R a b) : All2 R (as ++ [a]) (bs ++ [b]) := h.append (.cons r .nil)
end All2

/-! ### data in a heap -/
/-- a list by its one object -/
def LqL (K : PySem.W.Frag) (H : L2.Hp) (a : Addr) (xs : List L2.V) : Prop :=
  Rd H a (.lst xs) ∨ ∃ (its : Array Value) (n : Nat), K.lookup a = some { cls := .type "list", data := .seq its n } ∧ its.size ≤ sizeLine ∧ Vals xs its.toList
theorem LqL.sq {K : PySem.W.Frag} {H : L2.Hp} {a : Addr} {xs : List L2.V} (h : LqL K H a xs) : SqL K H a xs := by
  rcases h with h | ⟨its, n, h, z, r⟩
  · exact .inl h
  · exact .inr ⟨_, its, n, h, rfl, rfl, rfl, z, r⟩
theorem inv_lq {X : Cx} {pins : List (Addr × Obj)} {s : Shared} {σ : Sg} {H : L2.Hp} {a : Addr} {xs : List L2.V} (I : Inv X pins σ H s) (h : LqL X.K H a xs) :
    ∃ (its : List Value) (n : Nat), Vals xs its ∧ s.heap.get? a = some { cls := .type "list", data := .seq its.toArray n } ∧ xs.length ≤ sizeLine := by
  rcases h with h | ⟨its, n, h, z, r⟩
  · obtain ⟨z, its, n, r, e⟩ := h.ok I.hok
    exact ⟨its, n, r, e, z⟩
  · refine ⟨its.toList, n, r, by simpa using I.kIn a _ h, ?_⟩
    have e := r.length
    simp only [Array.length_toList] at e
    omega
/-- a tuple by its one object -/
def TqT (G : L2.Hp) (a : Addr) (xs : List L2.V) : Prop := G a = some (.tup xs)
theorem TqT.sq {K : PySem.W.Frag} {G : L2.Hp} {a : Addr} {xs : List L2.V} (h : TqT G a xs) : SqT K G a xs := .inl (.inl h)
/-! ### dicts in a heap -/
def keyD : Key → D
  | .inl i => .int i
  | .inr z => .str z
def keyT (ks : List Key) : D := .tuple (ks.map keyD)
/-- a dict's object: its keys, its values; t: its keys are tuples -/
def DcA (H : L2.Hp) (t : Bool) (a : Addr) (ks : List D) (us : List L2.V) : Prop := match t with
  | false => ∃ kus : List (Key × L2.V), H a = some (.dK kus) ∧ ks = kus.map (fun p => keyD p.1) ∧ us = kus.map (·.2)
  | true => ∃ kus : List (List Key × L2.V), H a = some (.dT kus) ∧ ks = kus.map (fun p => keyT p.1) ∧ us = kus.map (·.2)
theorem DcA.mono {H H' : L2.Hp} {t : Bool} {a : Addr} {ks : List D} {us : List L2.V} (h : DcA H t a ks us) (s : ∀ o, H a = some o → H' a = some o) : DcA H' t a ks us := by
  cases t with
  | false => obtain ⟨kus, e, z⟩ := h; exact ⟨kus, s _ e, z⟩
  | true => obtain ⟨kus, e, z⟩ := h; exact ⟨kus, s _ e, z⟩
theorem DcA.at {H : L2.Hp} {t : Bool} {a : Addr} {ks : List D} {us : List L2.V} (h : DcA H t a ks us) : ∃ o, H a = some o ∧ (∀ b, o ≠ .own b) := by
  cases t with
  | false => obtain ⟨kus, e, z⟩ := h; exact ⟨_, e, fun b q => nomatch q⟩
  | true => obtain ⟨kus, e, z⟩ := h; exact ⟨_, e, fun b q => nomatch q⟩
mutual
def Rp (K : PySem.W.Frag) (G : L2.Hp) : D → L2.V → Prop
  | .none, u => u = .non
  | .bool b, u => u = .bl b
  | .int i, u => u = .int i
  | .str x, u => u = .str x
  | .list ds, u => ∃ a xs, u = .ref a ∧ LqL K G a xs ∧ RpAll K G ds xs
  | .tuple ds, u => ∃ a xs, u = .ref a ∧ TqT G a xs ∧ RpAll K G ds xs
  | .dict kvs, u => ∃ a t us, u = .ref a ∧ DcA G t a (kvs.map (·.1)) us ∧ RpKv K G kvs us
def RpAll (K : PySem.W.Frag) (G : L2.Hp) : List D → List L2.V → Prop
  | [], us => us = []
  | d :: ds, us => ∃ v vs, us = v :: vs ∧ Rp K G d v ∧ RpAll K G ds vs
def RpKv (K : PySem.W.Frag) (G : L2.Hp) : List (D × D) → List L2.V → Prop
  | [], us => us = []
  | (_, d) :: ds, us => ∃ v vs, us = v :: vs ∧ Rp K G d v ∧ RpKv K G ds vs
end
theorem rpKv_iff {K : PySem.W.Frag} {G : L2.Hp} : ∀ {kvs : List (D × D)} {us : List L2.V}, RpKv K G kvs us ↔ RpAll K G (kvs.map (·.2)) us
  | [], us => Iff.rfl
  | (k, d) :: kvs, us => ⟨fun ⟨v, vs, e, h1, h2⟩ => ⟨v, vs, e, h1, rpKv_iff.mp h2⟩, fun ⟨v, vs, e, h1, h2⟩ => ⟨v, vs, e, h1, rpKv_iff.mpr h2⟩⟩
theorem rpAll_iff {K : PySem.W.Frag} {G : L2.Hp} : ∀ {ds : List D} {us : List L2.V}, RpAll K G ds us ↔ All2 (Rp K G) ds us
  | [], us => ⟨fun h => by have h : us = [] := h; subst h; exact .nil, fun h => by cases h; rfl⟩
  | d :: ds, us => ⟨fun h => by obtain ⟨v, vs, rfl, h1, h2⟩ := h; exact .cons h1 (rpAll_iff.mp h2), fun h => by cases h with | cons r t => exact ⟨_, _, rfl, r, rpAll_iff.mpr t⟩⟩
/-- what stood stands -/
abbrev Sub (G G' : L2.Hp) : Prop := ∀ a o, G a = some o → G' a = some o
theorem Sub.rfl' {G : L2.Hp} : Sub G G := fun _ _ h => h
theorem Sub.trans {G1 G2 G3 : L2.Hp} (a : Sub G1 G2) (b : Sub G2 G3) : Sub G1 G3 := fun c o h => b c o (a c o h)
theorem lqL_mono {K : PySem.W.Frag} {G G' : L2.Hp} (s : Sub G G') {a : Addr} {xs : List L2.V} (h : LqL K G a xs) : LqL K G' a xs := by
  rcases h with (h | ⟨o, h⟩) | h
  · exact .inl (.inl (s _ _ h))
  · exact .inl (.inr ⟨o, s _ _ h⟩)
  · exact .inr h
theorem sqS_mono {K : PySem.W.Frag} {G G' : L2.Hp} (s : Sub G G') {a : Addr} {xs : List L2.V} (h : SqL K G a xs) : SqL K G' a xs := by
  rcases h with (h | ⟨o, h⟩) | h
  · exact .inl (.inl (s _ _ h))
  · exact .inl (.inr ⟨o, s _ _ h⟩)
  · exact .inr h
theorem sqL_mono {K : PySem.W.Frag} {G G' : L2.Hp} (s : Sub G G') {a : Addr} {xs : List L2.V} (h : LqL K G a xs) : SqL K G' a xs := (lqL_mono s h).sq
theorem sqT_mono {K : PySem.W.Frag} {G G' : L2.Hp} (s : Sub G G') {a : Addr} {xs : List L2.V} (h : SqT K G a xs) : SqT K G' a xs := by
  rcases h with (h | ⟨o, h⟩) | h
  · exact .inl (.inl (s _ _ h))
  · exact .inl (.inr ⟨o, s _ _ h⟩)
  · exact .inr h
theorem tqT_mono {K : PySem.W.Frag} {G G' : L2.Hp} (s : Sub G G') {a : Addr} {xs : List L2.V} (h : TqT G a xs) : SqT K G' a xs := .inl (.inl (s _ _ h))
mutual
theorem Rp.mono {K : PySem.W.Frag} {G G' : L2.Hp} (s : Sub G G') : ∀ (d : D) (u : L2.V), Rp K G d u → Rp K G' d u
  | .none, _, h => h
  | .bool _, _, h => h
  | .int _, _, h => h
  | .str _, _, h => h
  | .list ds, _, h => by obtain ⟨a, xs, e, q, r⟩ := h; exact ⟨a, xs, e, lqL_mono s q, RpAll.mono s ds xs r⟩
  | .tuple ds, _, h => by obtain ⟨a, xs, e, q, r⟩ := h; exact ⟨a, xs, e, s _ _ q, RpAll.mono s ds xs r⟩
  | .dict kvs, _, h => by obtain ⟨a, t, us, e, q, r⟩ := h; exact ⟨a, t, us, e, q.mono (s _), RpKv.mono s kvs us r⟩
theorem RpKv.mono {K : PySem.W.Frag} {G G' : L2.Hp} (s : Sub G G') : ∀ (ds : List (D × D)) (us : List L2.V), RpKv K G ds us → RpKv K G' ds us
  | [], _, h => h
  | (_, d) :: ds, _, h => by obtain ⟨v, vs, e, r, t⟩ := h; exact ⟨v, vs, e, Rp.mono s d v r, RpKv.mono s ds vs t⟩
theorem RpAll.mono {K : PySem.W.Frag} {G G' : L2.Hp} (s : Sub G G') : ∀ (ds : List D) (us : List L2.V), RpAll K G ds us → RpAll K G' ds us
  | [], _, h => h
  | d :: ds, _, h => by obtain ⟨v, vs, e, r, t⟩ := h; exact ⟨v, vs, e, Rp.mono s d v r, RpAll.mono s ds vs t⟩
end
/-- read: the top stands in H, what is within is data -/
def Rt (K : PySem.W.Frag) (G H : L2.Hp) : D → L2.V → Prop
  | .list ds, u => ∃ a xs, u = .ref a ∧ LqL K H a xs ∧ RpAll K G ds xs
  | .dict kvs, u => ∃ a t us, u = .ref a ∧ DcA H t a (kvs.map (·.1)) us ∧ RpKv K G kvs us
  | d, u => Rp K G d u
theorem Rp.top {K : PySem.W.Frag} {G H : L2.Hp} (s : Sub G H) {d : D} {u : L2.V} (h : Rp K G d u) : Rt K G H d u := by
  cases d with
  | list ds => obtain ⟨a, xs, e, q, r⟩ := h; exact ⟨a, xs, e, lqL_mono s q, r⟩
  | dict ds => obtain ⟨a, t, us, e, q, r⟩ := h; exact ⟨a, t, us, e, q.mono (s _), r⟩
  | _ => exact h
mutual
theorem Rp.dp {K : PySem.W.Frag} {G : L2.Hp} : ∀ (d : D) (u : L2.V), Rp K G d u → d.canLay0 = true → Dp K G u d
  | .none, u, h, _ => by have h : u = .non := h; subst h; exact .non
  | .bool b, u, h, _ => by have h : u = .bl b := h; subst h; exact .bl b
  | .int i, u, h, _ => by have h : u = .int i := h; subst h; exact .int i
  | .str i, u, h, _ => by have h : u = .str i := h; subst h; exact .str i
  | .list ds, _, h, c => by obtain ⟨a, xs, e, q, r⟩ := h; subst e; exact .lst q.sq (RpAll.dp ds xs r c)
  | .tuple ds, _, h, c => by obtain ⟨a, xs, e, q, r⟩ := h; subst e; exact .tup q.sq (RpAll.dp ds xs r c)
  | .dict _, _, h, c => by cases c
theorem RpAll.dp {K : PySem.W.Frag} {G : L2.Hp} : ∀ (ds : List D) (us : List L2.V), RpAll K G ds us → PyData.canLayAll0 ds = true → DpAll K G us ds
  | [], us, h, _ => by have h : us = [] := h; subst h; exact .nil
  | d :: ds, _, h, c => by
    obtain ⟨v, vs, e, r, t⟩ := h
    subst e
    have c' : (PyData.canLay0 d && PyData.canLayAll0 ds) = true := c
    rw [Bool.and_eq_true] at c'
    exact .cons (Rp.dp d v r c'.1) (RpAll.dp ds vs t c'.2)
end
theorem Rt.dp {K : PySem.W.Frag} {G H : L2.Hp} (s : Sub G H) {d : D} {u : L2.V} (h : Rt K G H d u) (c : shp d) : Dp K H u d := by
  have c := SeqAt.canLay_of_shaped c
  cases d with
  | list ds => obtain ⟨a, xs, rfl, q, r⟩ := h; exact .lst q.sq (RpAll.dp ds xs (RpAll.mono s _ _ r) c)
  | dict ds => cases c
  | _ => exact Rp.dp _ _ (Rp.mono s _ _ h) c

/-! ### values in a heap -/
/-- a caught error of the class cls, its fields in the dict d -/
def ExK (cls : Value) (d : Option Addr) (a : Addr) : HO := .ext fun h => ∃ (ob : Obj) (vs : Array Value), h.get? a = some ob ∧ Zc cls d ob ∧ ob.data = .fields vs
/-- an error's fields -/
def XdR (w : Wo) (G : L2.Hp) (fs : List (Nat × D)) (d : Option Addr) : Prop := match fs with
  | [] => d = none
  | _ => ∃ dd us, d = some dd ∧ G dd = some (.xd us) ∧ us.map (·.1) = fs.map (fun p => w.an p.1) ∧ RpAll w.K G (fs.map (·.2)) (us.map (·.2))
theorem XdR.mono {w : Wo} {G G' : L2.Hp} (s : Sub G G') {fs : List (Nat × D)} {d : Option Addr} (h : XdR w G fs d) : XdR w G' fs d := by
  cases fs with
  | nil => exact h
  | cons p fs =>
    obtain ⟨dd, us, e, g, m, q⟩ := h
    exact ⟨dd, us, e, s _ _ g, m, RpAll.mono s _ _ q⟩
mutual
def Rv (w : Wo) (r : List Addr) (G : L2.Hp) : V → L2.V → Prop
  | .d x, u => Rp w.K G x u
  | .cell n, u => ∃ a, r[n]? = some a ∧ u = .ref a
  | .vt xs, u => ∃ a us, u = .ref a ∧ TqT G a us ∧ RvAll w r G xs us
  | .fn f, u => u = .ref (w.fa f)
  | .exc c fs, u => c ∈ w.xc ∧ ∃ a d, u = .ref a ∧ G a = some (ExK (.ref (w.ca c)) d a) ∧ XdR w G fs d
def RvAll (w : Wo) (r : List Addr) (G : L2.Hp) : List V → List L2.V → Prop
  | [], us => us = []
  | x :: xs, us => ∃ v vs, us = v :: vs ∧ Rv w r G x v ∧ RvAll w r G xs vs
end
theorem rvAll_iff {w : Wo} {r : List Addr} {G : L2.Hp} : ∀ {ds : List V} {us : List L2.V}, RvAll w r G ds us ↔ All2 (Rv w r G) ds us
  | [], us => ⟨fun h => by have h : us = [] := h; subst h; exact .nil, fun h => by cases h; rfl⟩
  | d :: ds, us => ⟨fun h => by obtain ⟨v, vs, rfl, h1, h2⟩ := h; exact .cons h1 (rvAll_iff.mp h2), fun h => by cases h with | cons r t => exact ⟨_, _, rfl, r, rvAll_iff.mpr t⟩⟩
/-- the heap has grown -/
structure Ext (r : List Addr) (G : L2.Hp) (r' : List Addr) (G' : L2.Hp) : Prop where
  pre : ∀ (n : Nat) a, r[n]? = some a → r'[n]? = some a
  sub : Sub G G'
theorem Ext.refl {r : List Addr} {G : L2.Hp} : Ext r G r G := ⟨fun _ _ h => h, fun _ _ h => h⟩
theorem Ext.trans {r1 r2 r3 : List Addr} {G1 G2 G3 : L2.Hp} (a : Ext r1 G1 r2 G2) (b : Ext r2 G2 r3 G3) : Ext r1 G1 r3 G3 :=
  ⟨fun n x h => b.pre n x (a.pre n x h), fun x o h => b.sub x o (a.sub x o h)⟩
mutual
theorem Rv.mono {w : Wo} {r r' : List Addr} {G G' : L2.Hp} (e : Ext r G r' G') : ∀ (v : V) (u : L2.V), Rv w r G v u → Rv w r' G' v u
  | .d x, u, h => Rp.mono e.sub x u h
  | .cell n, u, h => by obtain ⟨a, q, rfl⟩ := h; exact ⟨a, e.pre _ _ q, rfl⟩
  | .vt xs, u, h => by obtain ⟨a, us, e1, q, t⟩ := h; exact ⟨a, us, e1, e.sub _ _ q, RvAll.mono e xs us t⟩
  | .fn _, u, h => h
  | .exc _ _, _, h => by obtain ⟨hc, a, d, e1, q, t⟩ := h; exact ⟨hc, a, d, e1, e.sub _ _ q, t.mono e.sub⟩
theorem RvAll.mono {w : Wo} {r r' : List Addr} {G G' : L2.Hp} (e : Ext r G r' G') : ∀ (vs : List V) (us : List L2.V), RvAll w r G vs us → RvAll w r' G' vs us
  | [], _, h => h
  | v :: vs, _, h => by obtain ⟨u, us, e1, q, t⟩ := h; exact ⟨u, us, e1, Rv.mono e v u q, RvAll.mono e vs us t⟩
end
theorem rvAll_d {w : Wo} {r : List Addr} {G : L2.Hp} {ds : List D} {us : List L2.V} : RvAll w r G (ds.map V.d) us ↔ RpAll w.K G ds us := by
  induction ds generalizing us with
  | nil => exact Iff.rfl
  | cons d ds ih => exact ⟨fun ⟨v, vs, e, h1, h2⟩ => ⟨v, vs, e, h1, ih.mp h2⟩, fun ⟨v, vs, e, h1, h2⟩ => ⟨v, vs, e, h1, ih.mpr h2⟩⟩
theorem allD_map : ∀ {vs : List V} {ds : List D}, allD vs = some ds → vs = ds.map V.d
  | [], ds, h => by cases h; rfl
  | .d x :: r, ds, h => by
    unfold allD at h
    cases e : allD r with
    | none => rw [e] at h; cases h
    | some es => rw [e] at h; cases h; rw [allD_map e]; rfl
  | .cell _ :: _, _, h => by cases h
  | .vt _ :: _, _, h => by cases h
  | .fn _ :: _, _, h => by cases h
  | .exc _ _ :: _, _, h => by cases h
theorem allD_of : ∀ (ds : List D), allD (ds.map V.d) = some ds
  | [] => rfl
  | d :: ds => by show (allD (ds.map V.d)).map (d :: ·) = _; rw [allD_of ds]; rfl

/-- a cell's object -/
def ObR (w : Wo) (r : List Addr) (G H : L2.Hp) (a : Addr) : Ob → Prop
  | .dead => ∃ o, G a = some o
  | .lst xs => G a = none ∧ ∃ us, H a = some (.lst us) ∧ RpAll w.K G xs us
  | .lv xs => G a = none ∧ ∃ us, H a = some (.lst us) ∧ RvAll w r G xs us
  | .dct t kvs => G a = none ∧ ∃ us, DcA H t a (kvs.map (·.1)) us ∧ RpKv w.K G kvs us
  | .ins c fs => G a = none ∧ ∃ dx us, H a = some (.ins (w.ca c) dx us) ∧ H dx = some (.own a) ∧ us.map (·.1) = fs.map (fun p => w.an p.1) ∧ RvAll w r G (fs.map (·.2)) (us.map (·.2))
/-- a living cell's place -/
theorem ObR.live {w : Wo} {r : List Addr} {G H : L2.Hp} {a : Addr} {o : Ob} (q : ObR w r G H a o) (hd : o ≠ .dead) : G a = none ∧ ∃ x, H a = some x ∧ ∀ b, x ≠ .own b := by
  cases o with
  | dead => exact (hd rfl).elim
  | lst xs => obtain ⟨g, us, e, _⟩ := q; exact ⟨g, _, e, fun b z => nomatch z⟩
  | lv xs => obtain ⟨g, us, e, _⟩ := q; exact ⟨g, _, e, fun b z => nomatch z⟩
  | dct t kvs => obtain ⟨g, us, e, _⟩ := q; exact ⟨g, e.at⟩
  | ins c fs => obtain ⟨g, dx, us, e, _⟩ := q; exact ⟨g, _, e, fun b z => nomatch z⟩
/-- the small heap h, its cells at r, its data within G, stands in H; f: what of others must stay -/
structure Sim (w : Wo) (f : L2.Hp) (r : List Addr) (G : L2.Hp) (h : Hp) (H : L2.Hp) : Prop where
  sub : Sub G H
  gn : ∀ a b, G a ≠ some (.own b)
  fr : Sub f H
  fg : ∀ a o, f a = some o → G a = none
  fc : ∀ (n : Nat) a, r[n]? = some a → f a = none
  len : r.length = h.length
  nd : r.Nodup
  ob : ∀ (n : Nat) a o, r[n]? = some a → h[n]? = some o → ObR w r G H a o
def EnvR (w : Wo) (r : List Addr) (G : L2.Hp) (env : Env) (s : Sg) : Prop :=
  env.length = s.length ∧ ∀ (i : Nat) v, env[i]? = some (some v) → ∃ u, s[i]? = some (some u) ∧ Rv w r G v u
section
variable {w : Wo} {f : L2.Hp} {r r' : List Addr} {G G' H H' : L2.Hp} {h h' : Hp} {env : Env} {s : Sg}
theorem EnvR.mono (e : EnvR w r G env s) (x : Ext r G r' G') : EnvR w r' G' env s := ⟨e.1, fun i v q => by
  obtain ⟨u, e1, e2⟩ := e.2 i v q
  exact ⟨u, e1, Rv.mono x v u e2⟩⟩
theorem EnvR.set (e : EnvR w r G env s) {v : V} {u : L2.V} (rv : Rv w r G v u) (i : Nat) : EnvR w r G (env.set i (some v)) (s.set i (some u)) := by
  refine ⟨by simp [e.1], fun j y q => ?_⟩
  by_cases hj : i = j
  · subst hj
    by_cases hi : i < env.length
    · rw [List.getElem?_set_self hi] at q
      cases q
      exact ⟨u, by rw [List.getElem?_set_self (by rw [← e.1]; exact hi)], rv⟩
    · rw [List.getElem?_eq_none (by simpa using hi)] at q; cases q
  · rw [List.getElem?_set_ne hj] at q
    rw [List.getElem?_set_ne hj]
    exact e.2 j y q
theorem EnvR.forget (e : EnvR w r G env s) (i : Nat) (o : Option L2.V) : EnvR w r G (env.set i none) (s.set i o) := by
  refine ⟨by simp [e.1], fun j y q => ?_⟩
  by_cases hj : i = j
  · subst hj
    by_cases hi : i < env.length
    · rw [List.getElem?_set_self hi] at q; cases q
    · rw [List.getElem?_eq_none (by simpa using hi)] at q; cases q
  · rw [List.getElem?_set_ne hj] at q
    rw [List.getElem?_set_ne hj]
    exact e.2 j y q
theorem EnvR.kill1 (e : EnvR w r G env s) (i : Nat) : EnvR w r G (env.set i none) s := by
  refine ⟨by simp [e.1], fun j y q => ?_⟩
  by_cases hj : i = j
  · subst hj
    by_cases hi : i < env.length
    · rw [List.getElem?_set_self hi] at q; cases q
    · rw [List.getElem?_eq_none (by simpa using hi)] at q; cases q
  · rw [List.getElem?_set_ne hj] at q
    exact e.2 j y q
theorem EnvR.kill (e : EnvR w r G env s) : ∀ ks : List Nat, EnvR w r G (wipeE env ks) s
  | [] => e
  | k :: ks => (e.kill ks).kill1 k
theorem EnvR.wipe (e : EnvR w r G env s) : ∀ ks : List Nat, EnvR w r G (wipeE env ks) (wipe s ks)
  | [] => e
  | k :: ks => (e.wipe ks).forget k none
theorem Sim.fresh (S : Sim w f r G h H) {p : Addr} (hp : H p = none) : G p = none ∧ f p = none ∧ ∀ n : Nat, r[n]? ≠ some p := by
  refine ⟨?_, ?_, fun n e => ?_⟩
  · cases q : G p with
    | none => rfl
    | some o => rw [S.sub _ _ q] at hp; cases hp
  · cases q : f p with
    | none => rfl
    | some o => rw [S.fr _ _ q] at hp; cases hp
  · have hn : n < h.length := by rw [← S.len]; exact (List.getElem?_eq_some_iff.mp e).1
    have q := S.ob n p h[n] e (List.getElem?_eq_getElem hn)
    by_cases hd : h[n] = .dead
    · rw [hd] at q; obtain ⟨o, q⟩ := q; rw [S.sub _ _ q] at hp; cases hp
    · obtain ⟨_, x, z, _⟩ := q.live hd; rw [z] at hp; cases hp
theorem sub_upd {p : Addr} {o : HO} (hp : G p = none) : Sub G (upd G p o) := fun a q e => by
  rw [upd_ne (ne_of_none e hp)]; exact e
theorem upd_get {p b : Addr} {o q : HO} : upd G p o b = some q → (b = p ∧ q = o) ∨ (b ≠ p ∧ G b = some q) := fun e => by
  by_cases hb : b = p
  · subst hb; rw [upd_same] at e; exact .inl ⟨rfl, (Option.some.inj e).symm⟩
  · rw [upd_ne hb] at e; exact .inr ⟨hb, e⟩
/-- an object stays as it was where its address and its parts stand -/
theorem ObR.mono {a : Addr} {o : Ob} (q : ObR w r G H a o) (e : Ext r G r' G') (hg : G a = none → G' a = none) (hh : ∀ x, H a = some x → H' a = some x) (ho : ∀ b, H b = some (.own a) → H' b = some (.own a)) : ObR w r' G' H' a o := by
  cases o with
  | dead => obtain ⟨o, q⟩ := q; exact ⟨o, e.sub _ _ q⟩
  | lst xs => obtain ⟨g, us, q, t⟩ := q; exact ⟨hg g, us, hh _ q, RpAll.mono e.sub _ _ t⟩
  | lv xs => obtain ⟨g, us, q, t⟩ := q; exact ⟨hg g, us, hh _ q, RvAll.mono e _ _ t⟩
  | dct t kvs => obtain ⟨g, us, q, t⟩ := q; exact ⟨hg g, us, q.mono hh, RpKv.mono e.sub _ _ t⟩
  | ins c fs => obtain ⟨g, dx, us, q, od, en, t⟩ := q; exact ⟨hg g, dx, us, hh _ q, ho _ od, en, RvAll.mono e _ _ t⟩
/-- some thing that is neither data nor a cell comes -/
theorem Sim.other (S : Sim w f r G h H) {p : Addr} (hp : H p = none) (o : HO) : Sim w f r G h (upd H p o) := by
  obtain ⟨g, hf, hr⟩ := S.fresh hp
  refine ⟨fun a q e => ?_, S.gn, fun a q e => ?_, S.fg, S.fc, S.len, S.nd, fun n a q e1 e2 => ?_⟩
  · rw [upd_ne (ne_of_none e g)]; exact S.sub _ _ e
  · rw [upd_ne (ne_of_none e hf)]; exact S.fr _ _ e
  · have hn : a ≠ p := fun z => hr n (z ▸ e1)
    exact (S.ob n a q e1 e2).mono Ext.refl (fun z => z) (fun x z => by rw [upd_ne hn]; exact z) fun b z => by rw [upd_ne (ne_of_none z hp)]; exact z
/-- new data laid -/
theorem Sim.lay (S : Sim w f r G h H) {p : Addr} (hp : H p = none) (o : HO) (hown : ∀ b, o ≠ .own b := by intro b z; cases z) : Sim w f r (upd G p o) h (upd H p o) ∧ Ext r G r (upd G p o) := by
  obtain ⟨g, hf, hr⟩ := S.fresh hp
  have ex : Ext r G r (upd G p o) := ⟨fun _ _ e => e, sub_upd g⟩
  refine ⟨⟨fun a q e => ?_, fun a b e => ?_, fun a q e => ?_, fun a q e => ?_, S.fc, S.len, S.nd, fun n a q e1 e2 => ?_⟩, ex⟩
  · rcases upd_get e with ⟨rfl, rfl⟩ | ⟨hb, e⟩
    · exact upd_same
    · rw [upd_ne hb]; exact S.sub _ _ e
  · rcases upd_get e with ⟨_, z⟩ | ⟨_, e⟩
    · exact hown b z.symm
    · exact S.gn _ _ e
  · rw [upd_ne (ne_of_none e hf)]; exact S.fr _ _ e
  · rw [upd_ne (ne_of_none e hf)]; exact S.fg _ _ e
  · have hn : a ≠ p := fun z => hr n (z ▸ e1)
    exact (S.ob n a q e1 e2).mono ex (fun z => by rw [upd_ne hn]; exact z) (fun x z => by rw [upd_ne hn]; exact z) fun b z => by rw [upd_ne (ne_of_none z hp)]; exact z
/-- a new cell -/
theorem Sim.alloc (S : Sim w f r G h H) {p : Addr} {x : HO} (hp : H p = none) {o : Ob} (hd : ObR w (r ++ [p]) G (upd H p x) p o) :
    Sim w f (r ++ [p]) G (h ++ [o]) (upd H p x) ∧ Ext r G (r ++ [p]) G ∧ (r ++ [p])[h.length]? = some p := by
  obtain ⟨g, hf, hr⟩ := S.fresh hp
  have ex : Ext r G (r ++ [p]) G := ⟨fun n a e => by rw [List.getElem?_append_left (List.getElem?_eq_some_iff.mp e).1]; exact e, fun _ _ e => e⟩
  have last : (r ++ [p])[h.length]? = some p := by rw [← S.len]; simp
  have cases' : ∀ (n : Nat) a, (r ++ [p])[n]? = some a → r[n]? = some a ∨ (n = r.length ∧ a = p) := fun n a e => by
    rcases Nat.lt_or_ge n r.length with z | z
    · rw [List.getElem?_append_left z] at e; exact .inl e
    · rw [List.getElem?_append_right z] at e
      obtain ⟨z2, e2⟩ := List.getElem?_eq_some_iff.mp e
      have : n - r.length = 0 := by simp at z2; omega
      refine .inr ⟨by omega, ?_⟩
      simp [this] at e2
      exact e2.symm
  refine ⟨⟨fun a q e => ?_, S.gn, fun a q e => ?_, S.fg, fun n a e => ?_, by simp [S.len], ?_, fun n a q e1 e2 => ?_⟩, ex, last⟩
  · rw [upd_ne (ne_of_none e g)]; exact S.sub _ _ e
  · rw [upd_ne (ne_of_none e hf)]; exact S.fr _ _ e
  · rcases cases' n a e with z | ⟨_, rfl⟩
    · exact S.fc n a z
    · exact hf
  · rw [List.nodup_append]
    refine ⟨S.nd, by simp, fun a ha b hb z => ?_⟩
    simp at hb
    subst hb
    subst z
    obtain ⟨i, hi⟩ := List.getElem?_of_mem ha
    exact hr i hi
  · rcases cases' n a e1 with z | ⟨rfl, rfl⟩
    · have hn : n < h.length := by rw [← S.len]; exact (List.getElem?_eq_some_iff.mp z).1
      rw [List.getElem?_append_left hn] at e2
      have ha : a ≠ p := fun y => hr n (y ▸ z)
      exact (S.ob n a q z e2).mono ex (fun y => y) (fun x y => by rw [upd_ne ha]; exact y) fun b y => by rw [upd_ne (ne_of_none y hp)]; exact y
    · rw [S.len] at e2
      simp at e2
      subst e2
      exact hd
/-- a cell changed -/
theorem Sim.put (S : Sim w f r G h H) {n : Nat} {a : Addr} {x : HO} {o o' : Ob} (e1 : r[n]? = some a) (e2 : h[n]? = some o) (hd : o ≠ .dead) (q : ObR w r G (upd H a x) a o') :
    Sim w f r G (h.set n o') (upd H a x) := by
  obtain ⟨g, x0, ha0, hx0⟩ := (S.ob n a o e1 e2).live hd
  have fa := S.fc n a e1
  have hown : ∀ b c, H c = some (.own b) → c ≠ a := fun b c z y => by subst y; rw [ha0] at z; exact hx0 b (Option.some.inj z)
  refine ⟨fun b q e => ?_, S.gn, fun b q e => ?_, S.fg, S.fc, by simp [S.len], S.nd, fun m b x y z => ?_⟩
  · rw [upd_ne (ne_of_none e g)]; exact S.sub _ _ e
  · rw [upd_ne (ne_of_none e fa)]; exact S.fr _ _ e
  · by_cases hm : n = m
    · subst hm
      rw [e1] at y
      cases y
      rw [List.getElem?_set_self (List.getElem?_eq_some_iff.mp e2).1] at z
      cases z
      exact q
    · rw [List.getElem?_set_ne hm] at z
      have hb : b ≠ a := fun t => by
        subst t
        obtain ⟨h1, q1⟩ := List.getElem?_eq_some_iff.mp e1
        obtain ⟨h2, q2⟩ := List.getElem?_eq_some_iff.mp y
        exact hm ((List.getElem_inj S.nd).mp (q1.trans q2.symm))
      exact (S.ob m b x y z).mono Ext.refl (fun t => t) (fun t u => by rw [upd_ne hb]; exact u) fun c u => by rw [upd_ne (hown _ _ u)]; exact u
/-- a cell becomes data -/
theorem Sim.freezeO (S : Sim w f r G h H) {n : Nat} {a : Addr} {o : Ob} {x : HO} (e1 : r[n]? = some a) (e2 : h[n]? = some o) (g : G a = none) (ha : H a = some x) (hx : ∀ b, x ≠ .own b) :
    Sim w f r (upd G a x) (h.set n .dead) H ∧ Ext r G r (upd G a x) := by
  have fa := S.fc n a e1
  have ex : Ext r G r (upd G a x) := ⟨fun _ _ e => e, sub_upd g⟩
  refine ⟨⟨fun b q e => ?_, fun b c e => ?_, S.fr, fun b q e => ?_, S.fc, by simp [S.len], S.nd, fun m b y z t => ?_⟩, ex⟩
  · rcases upd_get e with ⟨rfl, rfl⟩ | ⟨hb, e⟩
    · exact ha
    · exact S.sub _ _ e
  · rcases upd_get e with ⟨_, z⟩ | ⟨_, e⟩
    · exact hx c z.symm
    · exact S.gn _ _ e
  · rw [upd_ne (ne_of_none e fa)]; exact S.fg _ _ e
  · by_cases hm : n = m
    · subst hm
      rw [e1] at z
      cases z
      rw [List.getElem?_set_self (List.getElem?_eq_some_iff.mp e2).1] at t
      cases t
      exact ⟨_, upd_same⟩
    · rw [List.getElem?_set_ne hm] at t
      have hb : b ≠ a := fun q => by
        subst q
        obtain ⟨h1, q1⟩ := List.getElem?_eq_some_iff.mp e1
        obtain ⟨h2, q2⟩ := List.getElem?_eq_some_iff.mp z
        exact hm ((List.getElem_inj S.nd).mp (q1.trans q2.symm))
      exact (S.ob m b y z t).mono ex (fun q => by rw [upd_ne hb]; exact q) (fun _ q => q) fun _ q => q
theorem Sim.freeze (S : Sim w f r G h H) {n : Nat} {a : Addr} {xs : List D} (e1 : r[n]? = some a) (e2 : h[n]? = some (.lst xs)) :
    ∃ us, H a = some (.lst us) ∧ Sim w f r (upd G a (.lst us)) (h.set n .dead) H ∧ Ext r G r (upd G a (.lst us)) ∧ Rp w.K (upd G a (.lst us)) (.list xs) (.ref a) := by
  obtain ⟨g, us, ha, t⟩ := S.ob n a _ e1 e2
  obtain ⟨S2, ex⟩ := S.freezeO e1 e2 g ha (fun b z => nomatch z)
  exact ⟨us, ha, S2, ex, ⟨a, us, rfl, .inl (.inl upd_same), RpAll.mono ex.sub _ _ t⟩⟩
theorem Sim.freezeD (S : Sim w f r G h H) {n : Nat} {a : Addr} {t : Bool} {kvs : List (D × D)} (e1 : r[n]? = some a) (e2 : h[n]? = some (.dct t kvs)) :
    ∃ G', Sim w f r G' (h.set n .dead) H ∧ Ext r G r G' ∧ Rp w.K G' (.dict kvs) (.ref a) := by
  obtain ⟨g, us, ha, q⟩ := S.ob n a _ e1 e2
  obtain ⟨x, hx, hn⟩ := ha.at
  obtain ⟨S2, ex⟩ := S.freezeO e1 e2 g hx hn
  refine ⟨_, S2, ex, ⟨a, t, us, rfl, ha.mono fun o z => ?_, RpKv.mono ex.sub _ _ q⟩⟩
  rw [hx] at z
  cases z
  exact upd_same
/-- a value read as data -/
theorem Sim.read (S : Sim w f r G h H) {v : V} {u : L2.V} {d : D} (q : Rv w r G v u) (e : rdV h v = some d) : Rt w.K G H d u := by
  cases v with
  | d x => cases e; exact Rp.top S.sub q
  | cell n =>
    obtain ⟨a, e1, rfl⟩ := q
    unfold rdV at e
    cases z : h[n]? with
    | none => simp only [z] at e; cases e
    | some o =>
      cases o with
      | lst xs =>
        simp only [z] at e
        cases e
        obtain ⟨_, us, ha, t⟩ := S.ob n a _ e1 z
        exact ⟨a, us, rfl, .inl (.inl ha), t⟩
      | dct t kvs =>
        simp only [z] at e
        cases e
        obtain ⟨_, us, ha, q⟩ := S.ob n a _ e1 z
        exact ⟨a, t, us, rfl, ha, q⟩
      | _ => simp only [z] at e; cases e
  | vt _ => cases e
  | fn _ => cases e
  | exc _ _ => cases e
end
end Hb

/-! SND1: readings of the small language, and its plain constructs. -/
namespace Hb
open PySem PySem.Spec PyProof.Rows
open L2 hiding V Hp St
set_option autoImplicit false

/-- an error in a heap -/
def ExR (w : Wo) (r : List Addr) (G H : L2.Hp) : V → Value → Option Addr → Prop
  | .exc c fs, cls, d => cls = .ref (w.ca c) ∧ c ∈ w.xc ∧ XdR w G fs d
  | _, _, _ => False
def QOk (w : Wo) (f : L2.Hp) (r : List Addr) (G : L2.Hp) (P : Pv) (Q : L2.V → L2.Hp → Prop) : Prop :=
  ∀ v h' u r' G' H', P v h' → Ext r G r' G' → Sim w f r' G' h' H' → Rv w r' G' v u → Q u H'
def XOk (w : Wo) (f : L2.Hp) (r : List Addr) (G : L2.Hp) (Xp : Px) (E : XK) : Prop :=
  ∀ v h' r' G' H' c d, Xp v h' → Ext r G r' G' → Sim w f r' G' h' H' → ExR w r' G' H' v c d → E c d H'
def AOk (n : Nat) (w : Wo) (f : L2.Hp) (r : List Addr) (G : L2.Hp) (P : List V → Hp → Prop) (Q : List L2.V → L2.Hp → Prop) : Prop :=
  ∀ vs h' us r' G' H', P vs h' → vs.length = n → Ext r G r' G' → Sim w f r' G' h' H' → RvAll w r' G' vs us → Q us H'
def TOk (w : Wo) (f : L2.Hp) (r : List Addr) (G : L2.Hp) (P : Pv) (Q : Bool → L2.Hp → Prop) : Prop :=
  ∀ v h' r' G' H', P v h' → Ext r G r' G' → Sim w f r' G' h' H' → ∃ b, v = .d (.bool b) ∧ Q b H'
section
variable {w : Wo} {f : L2.Hp} {r r1 : List Addr} {G G1 : L2.Hp}
theorem QOk.mono {P : Pv} {Q : L2.V → L2.Hp → Prop} (q : QOk w f r G P Q) (e : Ext r G r1 G1) : QOk w f r1 G1 P Q := fun v h u r' G' H p x => q v h u r' G' H p (e.trans x)
theorem XOk.mono {P : Px} {Q : XK} (q : XOk w f r G P Q) (e : Ext r G r1 G1) : XOk w f r1 G1 P Q := fun v h r' G' H c d p x => q v h r' G' H c d p (e.trans x)
theorem AOk.mono {n : Nat} {P : List V → Hp → Prop} {Q : List L2.V → L2.Hp → Prop} (q : AOk n w f r G P Q) (e : Ext r G r1 G1) : AOk n w f r1 G1 P Q := fun v h u r' G' H p l x => q v h u r' G' H p l (e.trans x)
theorem TOk.mono {P : Pv} {Q : Bool → L2.Hp → Prop} (q : TOk w f r G P Q) (e : Ext r G r1 G1) : TOk w f r1 G1 P Q := fun v h r' G' H p x => q v h r' G' H p (e.trans x)
theorem XOk.never {Q : XK} : XOk w f r G (fun _ _ => False) Q := fun _ _ _ _ _ _ _ z => z.elim
end
def rdE (w : Wo) (F : Phi) (W : WX) (t : T) : TE := fun s H Q => ∃ f r G env h P Xp, Sim w f r G h H ∧ EnvR w r G env s ∧ WE F t env h P Xp ∧ QOk w f r G P Q ∧ XOk w f r G Xp (fun c d H' => W c d s H')
def rdT (w : Wo) (F : Phi) (W : WX) (t : T) : TT := fun s H Q => ∃ f r G env h P Xp, Sim w f r G h H ∧ EnvR w r G env s ∧ WE F t env h P Xp ∧ TOk w f r G P Q ∧ XOk w f r G Xp (fun c d H' => W c d s H')
def rdA (w : Wo) (F : Phi) (W : WX) (t : T) : TA := fun s H Q => ∃ f r G env h P Xp, Sim w f r G h H ∧ EnvR w r G env s ∧ WEs F t env h P Xp ∧ AOk (tlen t) w f r G P Q ∧ XOk w f r G Xp (fun c d H' => W c d s H')
abbrev SE (X : Cx) (w : Wo) (F : Phi) (W : WX) (e : Expr) (t : T) : Prop := PE X e (rdE w F W t)
abbrev ST (X : Cx) (w : Wo) (F : Phi) (W : WX) (e : Expr) (t : T) : Prop := PT X e (rdT w F W t)
abbrev SA (X : Cx) (w : Wo) (F : Phi) (W : WX) (es : List Expr) (t : T) : Prop := PA X es (rdA w F W t)
section
variable {X : Cx} {w : Wo} {F : Phi} {W : WX}
theorem pe_imp {e : Expr} {t t' : TE} (h : PE X e t) (i : ∀ s H Q, t' s H Q → t s H Q) : PE X e t' := ⟨fun pins s σ H Q I q => h.run pins s σ H Q I (i σ H Q q)⟩
theorem pt_imp {e : Expr} {t t' : TT} (h : PT X e t) (i : ∀ s H Q, t' s H Q → t s H Q) : PT X e t' := ⟨fun pins s σ H Q I q => h.run pins s σ H Q I (i σ H Q q)⟩
theorem pw_imp {e : Expr} {t t' : TT} (h : PW X e t) (i : ∀ s H Q, t' s H Q → t s H Q) : PW X e t' := ⟨fun wh pins s σ H Q I q => h.run wh pins s σ H Q I (i σ H Q q)⟩
theorem pa_imp {es : List Expr} {t t' : TA} (h : PA X es t) (i : ∀ s H Q, t' s H Q → t s H Q) : PA X es t' := ⟨fun p pins s σ H Q I q => h.run p pins s σ H Q I (i σ H Q q)⟩
theorem ps_imp {st : Stmt} {t t' : TS} (h : PS X st t) (i : ∀ D s H, t' D s H → t D s H) : PS X st t' := ⟨fun pins s σ H D I q => h.run pins s σ H D I (i D σ H q)⟩
theorem pss_imp {st : List Stmt} {t t' : TS} (h : PSs X st t) (i : ∀ D s H, t' D s H → t D s H) : PSs X st t' := ⟨fun pins s σ H D I q => h.run pins s σ H D I (i D σ H q)⟩

/-! ### names, constants -/
theorem se_var {i : Nat} {x : Str} {pos : Pos} (hN : X.N[i]? = some x) (hv : Vis X.env.scope x) (hd : (x == ("__debug__" : Str)) = false) (hcd : (x == ("__classdict__" : Str)) = false) : SE X w F W (.Name x pos) (.var i) :=
  pe_imp (pe_var hN hv hd hcd) fun s H Q h => by
    obtain ⟨f, r, G, env, h, P, Xp, S, E, wp, q, _⟩ := h
    have wp : optP env[i]? fun o => optP o fun v => P v h := wp
    cases e : env[i]? with
    | none => rw [e] at wp; exact wp.elim
    | some o =>
      rw [e] at wp
      cases o with
      | none => exact wp.elim
      | some v =>
        obtain ⟨u, e1, rv⟩ := E.2 i v e
        exact ⟨u, e1, q v h u r G H wp Ext.refl S rv⟩
theorem se_con {c : D} {e : Expr} {u : L2.V} (h : PE X e (tC u)) (hu : ∀ G, Rp w.K G c u) : SE X w F W e (.con c) := pe_imp h fun s H Q h => by
  obtain ⟨f, r, G, env, h, P, Xp, S, E, wp, q, _⟩ := h
  exact q (.d c) h u r G H wp Ext.refl S (hu G)
theorem se_gco {g : Nat} {c : D} {e : Expr} {u : L2.V} (h : PE X e (tC u)) (hu : ∀ G, Rp w.K G c u) : SE X w F W e (.gco g c) := pe_imp h fun s H Q h => by
  obtain ⟨f, r, G, env, h, P, Xp, S, E, wp, q, _⟩ := h
  exact q (.d c) h u r G H wp Ext.refl S (hu G)
theorem se_fnv {g : Nat} {e : Expr} (h : PE X e (tC (.ref (w.fa g)))) : SE X w F W e (.fnv g) := pe_imp h fun s H Q h => by
  obtain ⟨f, r, G, env, h, P, Xp, S, E, wp, q, _⟩ := h
  exact q (.fn g) h _ r G H wp Ext.refl S rfl

/-! ### operations -/
/-- by values: what an operation asks and gives -/
def rO1 (w : Wo) (o : Hp → V → (V → Prop) → Prop) : L2.V → L2.Hp → VK → Prop := fun x H Q => ∃ f r G h v P, Sim w f r G h H ∧ Rv w r G v x ∧ o h v P ∧
  ∀ z u r' G' H', P z → Ext r G r' G' → Sim w f r' G' h H' → Rv w r' G' z u → Q u H'
def rO2 (w : Wo) (o : Hp → V → V → (V → Prop) → Prop) : R2 := fun x y H Q => ∃ f r G h v1 v2 P, Sim w f r G h H ∧ Rv w r G v1 x ∧ Rv w r G v2 y ∧ o h v1 v2 P ∧
  ∀ z u r' G' H', P z → Ext r G r' G' → Sim w f r' G' h H' → Rv w r' G' z u → Q u H'
variable {a b c e : Expr} {t t1 t2 t3 : T} {pos : Pos}
theorem rd_o2 {o : O2} {s : Sg} {H : L2.Hp} {Q : VK} (h : rdE w F W (.o2 o t1 t2) s H Q) : tOp (rO2 w (o2V o)) (rdE w F W t1) (rdE w F W t2) s H Q := by
  obtain ⟨f, r, G, env, h, P, Xp, S, E, wp, q, qx⟩ := h
  refine ⟨f, r, G, env, h, _, Xp, S, E, wp, fun v h1 u r1 G1 H1 w1 e1 S1 rv => ?_, qx⟩
  refine ⟨f, r1, G1, env, h1, _, Xp, S1, E.mono e1, w1, fun v2 h2 u2 r2 G2 H2 w2 e2 S2 rv2 => ?_, qx.mono e1⟩
  exact ⟨f, r2, G2, h2, v, v2, _, S2, Rv.mono e2 _ _ rv, rv2, w2, fun z u' r' G' H' pz e3 S3 rz => q z h2 u' r' G' H' pz ((e1.trans e2).trans e3) S3 rz⟩
theorem se_bin {op : Operator} {o : O2} (ho : OpR X (binaryOp op) (rO2 w (o2V o))) (ha : SE X w F W a t1) (hb : SE X w F W b t2) : SE X w F W (.BinOp a op b pos) (.o2 o t1 t2) :=
  pe_imp (pe_op ho ha hb) fun _ _ _ h => rd_o2 h
theorem se_cmp {op : CmpOp} {o : O2} (ho : OpR X (compareOp op) (rO2 w (o2V o))) (ha : SE X w F W a t1) (hb : SE X w F W b t2) (hm : behindInMarks op b = false) : SE X w F W (.Compare a [op] [b] pos) (.o2 o t1 t2) :=
  pe_imp (pe_cmpR ho ha hb hm) fun _ _ _ h => rd_o2 h
/-- a test's reading from a value's -/
theorem rdT_tB {te : TE} {s : Sg} {H : L2.Hp} {Q : Bool → L2.Hp → Prop} (hh : ∀ s H Q, rdE w F W t s H Q → te s H Q) (h : rdT w F W t s H Q) : te s H fun x H1 => ∃ k, x = .bl k ∧ Q k H1 := by
  obtain ⟨f, r, G, env, h, P, Xp, S, E, wp, q, qx⟩ := h
  refine hh _ _ _ ⟨f, r, G, env, h, P, Xp, S, E, wp, fun v h1 u r1 G1 H1 p e1 S1 rv => ?_, qx⟩
  obtain ⟨k, rfl, qk⟩ := q v h1 r1 G1 H1 p e1 S1
  exact ⟨k, rv, qk⟩
theorem st_cmp {op : CmpOp} {o : O2} (ho : OpR X (compareOp op) (rO2 w (o2V o))) (ha : SE X w F W a t1) (hb : SE X w F W b t2) (hm : behindInMarks op b = false) : ST X w F W (.Compare a [op] [b] pos) (.o2 o t1 t2) :=
  pt_imp (pt_cmpR ho ha hb hm) fun s H Q h => rdT_tB (te := tOp (rO2 w (o2V o)) (rdE w F W t1) (rdE w F W t2)) (fun _ _ _ h => rd_o2 h) h
theorem st_val (h : SE X w F W e t) (he : ∀ whole, isTrue e X.env whole = (do let v ← whole; standAt e.pos; holding [v] (truthy v))) : ST X w F W e t :=
  pt_imp (pt_val h he) fun s H Q h => rdT_tB (te := rdE w F W t) (fun _ _ _ h => h) h
theorem se_ix (ho : IxR X (rO2 w (o2V .idx))) (ha : SE X w F W a t1) (hb : SE X w F W b t2) (hs : PlainIx b) : SE X w F W (.Subscript a b pos) (.o2 .idx t1 t2) :=
  pe_imp (pe_ix ho ha hb hs) fun _ _ _ h => rd_o2 h
theorem rd_o1 {o : O1} {s : Sg} {H : L2.Hp} {Q : VK} (h : rdE w F W (.o1 o t) s H Q) : rdE w F W t s H fun x H1 => rO1 w (o1V o) x H1 Q := by
  obtain ⟨f, r, G, env, h, P, Xp, S, E, wp, q, qx⟩ := h
  refine ⟨f, r, G, env, h, _, Xp, S, E, wp, fun v h1 u r1 G1 H1 w1 e1 S1 rv => ?_, qx⟩
  exact ⟨f, r1, G1, h1, v, _, S1, rv, w1, fun z u' r' G' H' pz e3 S3 rz => q z h1 u' r' G' H' pz (e1.trans e3) S3 rz⟩
theorem se_un {op : UnaryOp} {o : O1} (ho : UnR X (unaryOp op) (rO1 w (o1V o))) (ha : SE X w F W a t) : SE X w F W (.UnaryOp op a pos) (.o1 o t) :=
  pe_imp (pe_un ho ha) fun _ _ _ h => rd_o1 h
/-- one written argument, two -/
theorem rd_a1 {s : Sg} {H : L2.Hp} {Q : VK} {R : L2.V → L2.Hp → Prop} (h : rdE w F W t s H R) : tCons (rdE w F W t) tNil s H fun xs H1 => ∃ x, xs = [x] ∧ R x H1 := by
  obtain ⟨f, r, G, env, h, P, Xp, S, E, wp, q, qx⟩ := h
  exact ⟨f, r, G, env, h, P, Xp, S, E, wp, fun v h1 u r1 G1 H1 p e1 S1 rv => ⟨u, rfl, q v h1 u r1 G1 H1 p e1 S1 rv⟩, qx⟩
def rC1 (r : L2.V → L2.Hp → VK → Prop) : List L2.V → L2.Hp → VK → Prop := fun xs H Q => ∃ x, xs = [x] ∧ r x H Q
def rC2 (r : R2) : List L2.V → L2.Hp → VK → Prop := fun xs H Q => ∃ x y, xs = [x, y] ∧ r x y H Q
theorem nostar {e : Expr} {es : List Expr} {env : PySem.Env} (h : ∀ x p, e ≠ .Starred x p) : starEach (e :: es) env = (false, eval e env) :: starEach es env := by
  cases e <;> first | rfl | exact absurd rfl (h _ _)
theorem noany {es : List Expr} {env : PySem.Env} {pos : Pos} : (∀ e ∈ es, ∀ x p, e ≠ .Starred x p) → (backTo pos (starEach es env)).any (·.1) = false := by
  induction es with
  | nil => intro _; rfl
  | cons e es ih =>
    intro h
    rw [nostar (h e (by simp))]
    show (false || (backTo pos (starEach es env)).any (·.1)) = false
    rw [ih fun e he => h e (by simp [he])]
    rfl
theorem se_b1 {x : Str} {id : String} {o : O1} {p : Pos} (hc : CallR X (.builtin id) (rC1 (rO1 w (o1V o)))) (hg : Gl X x) (hm : X.mg x = none) (hv : bootBuiltins x = some (.builtin id)) (ha : SE X w F W a t) (hs : ∀ x p, a ≠ .Starred x p)
    (hn : x ≠ "__name__") (hdb : (x == ("__debug__" : Str)) = false) : SE X w F W (.Call (.Name x p) [a] [] pos) (.o1 o t) :=
  pe_imp (pe_callB hc hg hm hv (pa_cons ha pa_nil (nostar hs)) hn hdb (nostar hs) rfl) fun s H Q h => by
    obtain ⟨f, r, G, env, h, P, Xp, S, E, wp, q, qx⟩ := rd_o1 h
    exact ⟨f, r, G, env, h, P, Xp, S, E, wp, fun v h1 u r1 G1 H1 p e1 S1 rv => ⟨u, rfl, q v h1 u r1 G1 H1 p e1 S1 rv⟩, qx⟩
theorem se_ty1 {x : Str} {id : String} {o : O1} {p : Pos} (hc : CallR X (.type id) (rC1 (rO1 w (o1V o)))) (hg : Gl X x) (hm : X.mg x = none) (hv : bootBuiltins x = some (.type id)) (ha : SE X w F W a t) (hs : ∀ x p, a ≠ .Starred x p)
    (hn : x ≠ "__name__") (hdb : (x == ("__debug__" : Str)) = false) : SE X w F W (.Call (.Name x p) [a] [] pos) (.o1 o t) :=
  pe_imp (pe_callTy hc hg hm hv (pa_cons ha pa_nil (nostar hs)) hn hdb (nostar hs) rfl) fun s H Q h => by
    obtain ⟨f, r, G, env, h, P, Xp, S, E, wp, q, qx⟩ := rd_o1 h
    exact ⟨f, r, G, env, h, P, Xp, S, E, wp, fun v h1 u r1 G1 H1 p e1 S1 rv => ⟨u, rfl, q v h1 u r1 G1 H1 p e1 S1 rv⟩, qx⟩
theorem se_b2 {x : Str} {id : String} {o : O2} {p : Pos} (hc : CallR X (.builtin id) (rC2 (rO2 w (o2V o)))) (hg : Gl X x) (hm : X.mg x = none) (hv : bootBuiltins x = some (.builtin id)) (ha : SE X w F W a t1) (hb : SE X w F W b t2)
    (hs : ∀ x p, a ≠ .Starred x p) (hs2 : ∀ x p, b ≠ .Starred x p) (hn : x ≠ "__name__") (hdb : (x == ("__debug__" : Str)) = false) : SE X w F W (.Call (.Name x p) [a, b] [] pos) (.o2 o t1 t2) :=
  pe_imp (pe_callB hc hg hm hv (pa_cons ha (pa_cons hb pa_nil (nostar hs2)) (nostar hs)) hn hdb (nostar hs) (noany (by simpa using hs2))) fun s H Q h => by
    obtain ⟨f, r, G, env, h, P, Xp, S, E, wp, q, qx⟩ := rd_o2 h
    refine ⟨f, r, G, env, h, P, Xp, S, E, wp, fun v h1 u r1 G1 H1 p e1 S1 rv => ?_, qx⟩
    obtain ⟨f', r', G', env', h', P', Xp', S', E', wp', q', qx'⟩ := q v h1 u r1 G1 H1 p e1 S1 rv
    exact ⟨f', r', G', env', h', P', Xp', S', E', wp', fun v2 h2 u2 r2 G2 H2 p2 e2 S2 rv2 => ⟨u, u2, rfl, q' v2 h2 u2 r2 G2 H2 p2 e2 S2 rv2⟩, qx'⟩

/-! ### and, or, not, if -/
theorem boolP_of {v : V} {Q : Bool → Prop} (h : boolP v Q) : ∃ k, v = .d (.bool k) ∧ Q k := by
  cases v with
  | d x => cases x <;> first | exact ⟨_, rfl, h⟩ | exact h.elim
  | _ => exact h.elim
theorem rd_and {s : Sg} {H : L2.Hp} {Q : Bool → L2.Hp → Prop} (h : rdT w F W (.and t1 t2) s H Q) : tAnd (rdT w F W t1) (rdT w F W t2) s H Q := by
  obtain ⟨f, r, G, env, h, P, Xp, S, E, wp, q, qx⟩ := h
  refine ⟨f, r, G, env, h, _, Xp, S, E, wp, fun v h1 r1 G1 H1 p e1 S1 => ?_, qx⟩
  obtain ⟨k, rfl, p⟩ := boolP_of p
  refine ⟨k, rfl, ?_⟩
  cases k with
  | true => rw [if_pos rfl]; exact ⟨f, r1, G1, env, h1, _, Xp, S1, E.mono e1, p, q.mono e1, qx.mono e1⟩
  | false =>
    rw [if_neg Bool.false_ne_true]
    obtain ⟨k, e, qk⟩ := q _ h1 r1 G1 H1 p e1 S1
    cases e
    exact qk
theorem rd_or {s : Sg} {H : L2.Hp} {Q : Bool → L2.Hp → Prop} (h : rdT w F W (.or t1 t2) s H Q) : tOr (rdT w F W t1) (rdT w F W t2) s H Q := by
  obtain ⟨f, r, G, env, h, P, Xp, S, E, wp, q, qx⟩ := h
  refine ⟨f, r, G, env, h, _, Xp, S, E, wp, fun v h1 r1 G1 H1 p e1 S1 => ?_, qx⟩
  obtain ⟨k, rfl, p⟩ := boolP_of p
  refine ⟨k, rfl, ?_⟩
  cases k with
  | false => rw [if_neg Bool.false_ne_true]; exact ⟨f, r1, G1, env, h1, _, Xp, S1, E.mono e1, p, q.mono e1, qx.mono e1⟩
  | true =>
    rw [if_pos rfl]
    obtain ⟨k, e, qk⟩ := q _ h1 r1 G1 H1 p e1 S1
    cases e
    exact qk
theorem sw_and1 (h : ST X w F W a t) : PW X (.BoolOp .And [a] pos) (rdT w F W t) := pw_and1 h
theorem sw_or1 (h : ST X w F W a t) : PW X (.BoolOp .Or [a] pos) (rdT w F W t) := pw_or1 h
theorem sw_and {rest : List Expr} (ha : ST X w F W a t1) (hb : PW X (.BoolOp .And (b :: rest) pos) (rdT w F W t2)) : PW X (.BoolOp .And (a :: b :: rest) pos) (rdT w F W (.and t1 t2)) := pw_imp (pw_and ha hb) fun _ _ _ h => rd_and h
theorem sw_or {rest : List Expr} (ha : ST X w F W a t1) (hb : PW X (.BoolOp .Or (b :: rest) pos) (rdT w F W t2)) : PW X (.BoolOp .Or (a :: b :: rest) pos) (rdT w F W (.or t1 t2)) := pw_imp (pw_or ha hb) fun _ _ _ h => rd_or h
theorem st_not (ha : ST X w F W a t) : ST X w F W (.UnaryOp .Not a pos) (.not t) := pt_imp (pt_not ha) fun s H Q h => by
  obtain ⟨f, r, G, env, h, P, Xp, S, E, wp, q, qx⟩ := h
  refine ⟨f, r, G, env, h, _, Xp, S, E, wp, fun v h1 r1 G1 H1 p e1 S1 => ?_, qx⟩
  obtain ⟨k, rfl, p⟩ := boolP_of p
  obtain ⟨k', e, qk⟩ := q _ h1 r1 G1 H1 p e1 S1
  cases e
  exact ⟨k, rfl, qk⟩
theorem se_not (ha : SE X w F W a t) : SE X w F W (.UnaryOp .Not a pos) (.not t) := pe_imp (pe_not ha) fun s H Q h => by
  obtain ⟨f, r, G, env, h, P, Xp, S, E, wp, q, qx⟩ := h
  refine ⟨f, r, G, env, h, _, Xp, S, E, wp, fun v h1 u r1 G1 H1 p e1 S1 rv => ?_, qx⟩
  obtain ⟨k, rfl, p⟩ := boolP_of p
  exact ⟨k, rv, q _ h1 (.bl (!k)) r1 G1 H1 p e1 S1 rfl⟩
theorem se_ite (hc : ST X w F W c t1) (ha : SE X w F W a t2) (hb : SE X w F W b t3) : SE X w F W (.IfExp c a b pos) (.ite t1 t2 t3) := pe_imp (pe_ifExp hc ha hb) fun s H Q h => by
  obtain ⟨f, r, G, env, h, P, Xp, S, E, wp, q, qx⟩ := h
  refine ⟨f, r, G, env, h, _, Xp, S, E, wp, fun v h1 r1 G1 H1 p e1 S1 => ?_, qx⟩
  obtain ⟨k, rfl, p⟩ := boolP_of p
  refine ⟨k, rfl, ?_⟩
  cases k with
  | true => rw [if_pos rfl]; exact ⟨f, r1, G1, env, h1, _, Xp, S1, E.mono e1, p, q.mono e1, qx.mono e1⟩
  | false => rw [if_neg Bool.false_ne_true]; exact ⟨f, r1, G1, env, h1, _, Xp, S1, E.mono e1, p, q.mono e1, qx.mono e1⟩
end
end Hb

/-! SND2: and, or as values, chains, displays, arguments, calls. -/
namespace Hb
open PySem PySem.Spec PyProof.Rows
open L2 hiding V Hp St
set_option autoImplicit false
section
variable {X : Cx} {w : Wo} {F : Phi} {W : WX} {a b c e : Expr} {es : List Expr} {t t1 t2 t3 : T} {pos : Pos}
theorem se_one {op : BoolOp} (h : SE X w F W a t) : SE X w F W (.BoolOp op [a] pos) t := pe_one h
theorem se_and {rest : List Expr} (ha : SE X w F W a t1) (hb : SE X w F W (.BoolOp .And (b :: rest) pos) t2) : SE X w F W (.BoolOp .And (a :: b :: rest) pos) (.and t1 t2) := pe_imp (pe_and ha hb) fun s H Q h => by
  obtain ⟨f, r, G, env, h, P, Xp, S, E, wp, q, qx⟩ := h
  refine ⟨f, r, G, env, h, _, Xp, S, E, wp, fun v h1 u r1 G1 H1 p e1 S1 rv => ?_, qx⟩
  obtain ⟨k, rfl, p⟩ := boolP_of p
  refine ⟨k, rv, ?_⟩
  cases k with
  | true => rw [if_pos rfl]; exact ⟨f, r1, G1, env, h1, _, Xp, S1, E.mono e1, p, q.mono e1, qx.mono e1⟩
  | false => rw [if_neg Bool.false_ne_true]; exact q _ h1 (.bl false) r1 G1 H1 p e1 S1 rfl
theorem se_or {rest : List Expr} (ha : SE X w F W a t1) (hb : SE X w F W (.BoolOp .Or (b :: rest) pos) t2) : SE X w F W (.BoolOp .Or (a :: b :: rest) pos) (.or t1 t2) := pe_imp (pe_or ha hb) fun s H Q h => by
  obtain ⟨f, r, G, env, h, P, Xp, S, E, wp, q, qx⟩ := h
  refine ⟨f, r, G, env, h, _, Xp, S, E, wp, fun v h1 u r1 G1 H1 p e1 S1 rv => ?_, qx⟩
  obtain ⟨k, rfl, p⟩ := boolP_of p
  refine ⟨k, rv, ?_⟩
  cases k with
  | false => rw [if_neg Bool.false_ne_true]; exact ⟨f, r1, G1, env, h1, _, Xp, S1, E.mono e1, p, q.mono e1, qx.mono e1⟩
  | true => rw [if_pos rfl]; exact q _ h1 (.bl true) r1 G1 H1 p e1 S1 rfl
theorem rd_chn {o p : O2} {s : Sg} {H : L2.Hp} {Q : VK} (h : rdE w F W (.chn o p t1 t2 t3) s H Q) : tChain (rO2 w (o2V o)) (rO2 w (o2V p)) (rdE w F W t1) (rdE w F W t2) (rdE w F W t3) s H Q := by
  obtain ⟨f, r, G, env, h, P, Xp, S, E, wp, q, qx⟩ := h
  refine ⟨f, r, G, env, h, _, Xp, S, E, wp, fun v h1 u r1 G1 H1 w1 e1 S1 rv => ?_, qx⟩
  refine ⟨f, r1, G1, env, h1, _, Xp, S1, E.mono e1, w1, fun v2 h2 u2 r2 G2 H2 w2 e2 S2 rv2 => ?_, qx.mono e1⟩
  refine ⟨f, r2, G2, h2, v, v2, _, S2, Rv.mono e2 _ _ rv, rv2, w2, fun z u' r3 G3 H3 pz e3 S3 rz => ?_⟩
  obtain ⟨k, rfl, pz⟩ := boolP_of pz
  refine ⟨k, rz, ?_⟩
  cases k with
  | false => rw [if_neg Bool.false_ne_true]; exact q _ h2 (.bl false) r3 G3 H3 pz ((e1.trans e2).trans e3) S3 rfl
  | true =>
    rw [if_pos rfl]
    refine ⟨f, r3, G3, env, h2, _, Xp, S3, E.mono ((e1.trans e2).trans e3), pz, fun v4 h4 u4 r4 G4 H4 w4 e4 S4 rv4 => ?_, qx.mono ((e1.trans e2).trans e3)⟩
    exact ⟨f, r4, G4, h4, v2, v4, _, S4, Rv.mono (e3.trans e4) _ _ rv2, rv4, w4, fun z u5 r5 G5 H5 pz5 e5 S5 rz5 => q z h4 u5 r5 G5 H5 pz5 ((((e1.trans e2).trans e3).trans e4).trans e5) S5 rz5⟩
theorem se_chn {op op' : CmpOp} {o p : O2} (ho : OpR X (compareOp op) (rO2 w (o2V o))) (hp : OpR X (compareOp op') (rO2 w (o2V p))) (ha : SE X w F W a t1) (hb : SE X w F W b t2) (hc : SE X w F W c t3) (hm : lastMarks [op, op'] [b, c] = false) :
    SE X w F W (.Compare a [op, op'] [b, c] pos) (.chn o p t1 t2 t3) := pe_imp (pe_chain ho hp ha hb hc hm) fun _ _ _ h => rd_chn h
theorem st_chn {op op' : CmpOp} {o p : O2} (ho : OpR X (compareOp op) (rO2 w (o2V o))) (hp : OpR X (compareOp op') (rO2 w (o2V p))) (ha : SE X w F W a t1) (hb : SE X w F W b t2) (hc : SE X w F W c t3) (hm : lastMarks [op, op'] [b, c] = false) :
    ST X w F W (.Compare a [op, op'] [b, c] pos) (.chn o p t1 t2 t3) :=
  pt_imp (pt_chain ho hp ha hb hc hm) fun s H Q h => rdT_tB (te := tChain (rO2 w (o2V o)) (rO2 w (o2V p)) (rdE w F W t1) (rdE w F W t2) (rdE w F W t3)) (fun _ _ _ h => rd_chn h) h

/-! ### arguments, displays -/
theorem sa_nil : SA X w F W [] .nil := pa_imp pa_nil fun s H Q h => by
  obtain ⟨f, r, G, env, h, P, Xp, S, E, wp, q, qx⟩ := h
  exact q [] h [] r G H wp rfl Ext.refl S rfl
theorem sa_cons (ha : SE X w F W e t1) (hs : SA X w F W es t2) (hn : ∀ x p, e ≠ .Starred x p) : SA X w F W (e :: es) (.cons t1 t2) := pa_imp (pa_cons ha hs (nostar hn)) fun s H Q h => by
  obtain ⟨f, r, G, env, h, P, Xp, S, E, wp, q, qx⟩ := h
  refine ⟨f, r, G, env, h, _, Xp, S, E, wp, fun v h1 u r1 G1 H1 w1 e1 S1 rv => ?_, qx⟩
  refine ⟨f, r1, G1, env, h1, _, Xp, S1, E.mono e1, w1, fun vs h2 us r2 G2 H2 w2 l2 e2 S2 rv2 => ?_, qx.mono e1⟩
  exact q (v :: vs) h2 (u :: us) r2 G2 H2 w2 (by show vs.length + 1 = tlen t2 + 1; rw [l2]) (e1.trans e2) S2 ⟨u, us, rfl, Rv.mono e2 _ _ rv, rv2⟩
theorem big_eq : sizeLine = big := sizeLine_eq
theorem rvAll_len {r : List Addr} {G : L2.Hp} {vs : List V} {us : List L2.V} (h : RvAll w r G vs us) : vs.length = us.length := (rvAll_iff.mp h).length
theorem rpAll_len {K : PySem.W.Frag} {G : L2.Hp} {vs : List D} {us : List L2.V} (h : RpAll K G vs us) : vs.length = us.length := (rpAll_iff.mp h).length
/-- a tuple laid -/
theorem rv_tup {r : List Addr} {G : L2.Hp} {vs : List V} {us : List L2.V} {p : Addr} (ht : TqT G p us) (h : RvAll w r G vs us) : Rv w r G (mkTup vs) (.ref p) := by
  unfold mkTup
  cases e : allD vs with
  | none => exact ⟨p, us, rfl, ht, h⟩
  | some ds =>
    have e2 := allD_map e
    subst e2
    exact ⟨p, us, rfl, ht, rvAll_d.mp h⟩
theorem se_tup {x1 : Nat} (h : SA X w F W es t) : SE X w F W (.Tuple es x1 pos) (.tup t) := pe_imp (pe_tup h) fun s H Q h => by
  obtain ⟨f, r, G, env, h, P, Xp, S, E, wp, q, qx⟩ := h
  refine ⟨f, r, G, env, h, _, Xp, S, E, wp, fun vs h1 us r1 G1 H1 w1 _ e1 S1 rv => ?_, qx⟩
  obtain ⟨hl, w1⟩ := w1
  refine ⟨by rw [← rvAll_len rv, big_eq]; exact hl, fun p hp => ?_⟩
  obtain ⟨S2, e2⟩ := S1.lay hp (.tup us)
  exact q _ h1 (.ref p) r1 _ _ w1 (e1.trans e2) S2 (rv_tup upd_same (RvAll.mono e2 _ _ rv))
theorem ob_mk {r : List Addr} {G H : L2.Hp} {vs : List V} {us : List L2.V} {p : Addr} (hg : G p = none) (h : RvAll w r G vs us) : ObR w r G (upd H p (.lst us)) p (mkOb vs) := by
  unfold mkOb
  cases e : allD vs with
  | none => exact ⟨hg, us, upd_same, h⟩
  | some ds =>
    have e2 := allD_map e
    subst e2
    exact ⟨hg, us, upd_same, rvAll_d.mp h⟩
/-- a list laid: data, or a new cell -/
theorem mkL_ok {f : L2.Hp} {r r1 : List Addr} {G G1 H1 : L2.Hp} {o : Bool} {vs : List V} {us : List L2.V} {h1 : Hp} {P : Pv} {Q : VK} {p : Addr} (q : QOk w f r G P Q) (m : mkL o vs h1 P) (e1 : Ext r G r1 G1) (S1 : Sim w f r1 G1 h1 H1) (rv : RvAll w r1 G1 vs us) (hp : H1 p = none) :
    Q (.ref p) (upd H1 p (.lst us)) := by
  cases o with
  | false =>
    have m : optP (allD vs) fun ds => P (.d (.list ds)) h1 := m
    cases e : allD vs with
    | none => rw [e] at m; exact m.elim
    | some ds =>
      rw [e] at m
      have e3 := allD_map e
      subst e3
      obtain ⟨S2, e2⟩ := S1.lay hp (.lst us)
      have m' : P (.d (.list ds)) h1 := by
        have m : optP (allD (ds.map V.d)) fun ds => P (.d (.list ds)) h1 := m
        rw [e] at m
        exact m
      exact q (.d (.list ds)) h1 (.ref p) r1 _ _ m' (e1.trans e2) S2 ⟨p, us, rfl, .inl (.inl upd_same), RpAll.mono e2.sub _ _ (rvAll_d.mp rv)⟩
  | true =>
    have m : P (.cell h1.length) (h1 ++ [mkOb vs]) := m
    have g := (S1.fresh hp).1
    have e0 : Ext r1 G1 (r1 ++ [p]) G1 := ⟨fun n a e => by rw [List.getElem?_append_left (List.getElem?_eq_some_iff.mp e).1]; exact e, fun _ _ e => e⟩
    obtain ⟨S2, e2, el⟩ := S1.alloc (x := .lst us) hp (o := mkOb vs) (ob_mk g (RvAll.mono e0 _ _ rv))
    exact q _ _ (.ref p) _ _ _ m (e1.trans e2) S2 ⟨p, el, rfl⟩
theorem se_lst {o : Bool} (h : SA X w F W es t) : SE X w F W (.List es pos) (.lst o t) := pe_imp (pe_lst h) fun s H Q h => by
  obtain ⟨f, r, G, env, h, P, Xp, S, E, wp, q, qx⟩ := h
  refine ⟨f, r, G, env, h, _, Xp, S, E, wp, fun vs h1 us r1 G1 H1 w1 _ e1 S1 rv => ?_, qx⟩
  obtain ⟨hl, w1⟩ := w1
  exact ⟨by rw [← rvAll_len rv, big_eq]; exact hl, fun p hp => mkL_ok q w1 e1 S1 rv hp⟩
theorem se_edic : SE X w F W (.Dict [] [] pos) .edic := pe_imp pe_dnewK fun s H Q h => by
  obtain ⟨f, r, G, env, h, P, Xp, S, E, wp, q, qx⟩ := h
  intro p hp
  obtain ⟨S2, e2⟩ := S.lay hp (.dK [])
  exact q (.d (.dict [])) h (.ref p) r _ _ wp e2 S2 ⟨p, false, [], rfl, ⟨[], upd_same, rfl, rfl⟩, rfl⟩

/-! ### calls of defs -/
/-- a def as it is called: the promise of its meaning -/
def spOf (w : Wo) (F : Phi) (np : Nat) (g : Nat) : Sp := fun us H Q E => us.length = np ∧ ∃ f r G args h P Xp, Sim w f r G h H ∧ RvAll w r G args us ∧ F g args h P Xp ∧ QOk w f r G P Q ∧ XOk w f r G Xp E
/-- positional and keyword values in the parameters' order -/
def kArr {α : Type} (np : Nat) (nk : Nat) (ord : List Nat) (us ws : List α) : List α := if us.length = np ∧ ws.length = nk then perm ord (us ++ ws) else []
abbrev KBd (K : PySem.W.Frag) (fd : FuncData) (ps : List Str) (kw : Nat × List Str × List Nat) : Prop := KBinds K fd ps kw.2.1 (kArr kw.1 kw.2.1.length kw.2.2) (kArr kw.1 kw.2.1.length kw.2.2)
theorem vals_perm {us : List L2.V} {ws : List Value} (h : Vals us ws) (ord : List Nat) : Vals (perm ord us) (perm ord ws) := by
  unfold perm
  induction ord with
  | nil => exact .nil
  | cons i r ih =>
    rw [List.filterMap_cons, List.filterMap_cons]
    cases e : us[i]? with
    | none => rw [h.none_of e]; exact ih
    | some u =>
      obtain ⟨v, e2, rv⟩ := h.get e
      rw [e2]
      exact .cons rv ih
/-- a pattern of keywords binds, by one equation -/
theorem kbd_of {K : PySem.W.Frag} {fd : FuncData} {ps : List Str} {np : Nat} {ks : List Str} {ord : List Nat} (hp : ps ≠ [])
    (h : ∀ us ws : List Value, us.length = np → ws.length = ks.length → bindArgs fd ⟨us, ks.zip ws⟩ = pure (ps.zip (perm ord (us ++ ws)))) : KBd K fd ps (np, ks, ord) where
  to := fun s us ws _ hl => by
    unfold kArr at hl ⊢
    by_cases e : us.length = np ∧ ws.length = ks.length
    · rw [if_pos e] at hl ⊢
      exact .of_eq (h us ws e.1 e.2)
    · rw [if_neg e] at hl
      exact absurd (List.length_eq_zero_iff.mp hl.symm) hp
  rel := fun {vs us zs ws} r rz => by
    unfold kArr
    by_cases e : us.length = np ∧ ws.length = ks.length
    · rw [if_pos e, if_pos (by rw [r.length, rz.length]; exact e)]
      exact vals_perm (r.append rz) ord
    · rw [if_neg e, if_neg (by rw [r.length, rz.length]; exact e)]
      exact .nil
theorem rvAll_perm {r : List Addr} {G : L2.Hp} {vs : List V} {us : List L2.V} (h : RvAll w r G vs us) (ord : List Nat) : RvAll w r G (perm ord vs) (perm ord us) := by
  have h := rvAll_iff.mp h
  rw [rvAll_iff]
  unfold perm
  induction ord with
  | nil => exact .nil
  | cons i q ih =>
    rw [List.filterMap_cons, List.filterMap_cons]
    cases e : vs[i]? with
    | none =>
      have : us[i]? = none := List.getElem?_eq_none_iff.mpr (by have := List.getElem?_eq_none_iff.mp e; have := h.length; omega)
      rw [this]; exact ih
    | some u =>
      obtain ⟨v, e2, rv⟩ := h.getL e
      rw [e2]
      exact .cons rv ih
/-- the def number g: its name, its parameters, the patterns of keywords that it is called by -/
structure DefOk (P : Program) (ww : World) (mg : Str → Option Value) (base : Heap) (k : Nat) (w : Wo) (F : Phi) (g : Nat) (x : Str) (ps : List Str) (kws : List (Nat × List Str × List Nat)) : Prop where
  at_ : x ≠ "" → mg x = some (.ref (w.fa g))
  kp : PySem.W.keepIn w.K (.ref (w.fa g)) = true
  ok : ∃ fd, Binds w.K fd ps [] ∧ (∀ kw ∈ kws, KBd w.K fd ps kw) ∧ FnOk P ww w.K mg base (L2.CX P ww) k (w.fa g) fd ps (spOf w F ps.length g)
variable {k g : Nat} {x : Str} {ps : List Str} {kwl : List (Nat × List Str × List Nat)} {p : Pos}
theorem se_call (hK : X.K = w.K) (dk : DefOk X.prog X.w X.mg X.base k w F g x ps kwl) (hr : Room k X.A) (hg : Gl X x) (tk : Takes X W) (ha : SA X w F W (e :: es) t) (hs : ∀ y ∈ e :: es, ∀ x p, y ≠ .Starred x p) (hdb : (x == ("__debug__" : Str)) = false) (hl : tlen t = ps.length) (hx : x ≠ "") :
    SE X w F W (.Call (.Name x p) (e :: es) [] pos) (.call g t) := by
  obtain ⟨fd, bd, _, fo⟩ := dk.ok
  have kp := dk.kp
  rw [← hK] at fo bd kp
  refine pe_imp (pe_callS (E := L2.WE W) fo hr hg (dk.at_ hx) kp bd (fun s => passAt tk s) ha hdb (nostar (hs e (by simp))) (noany fun y hy => hs y (by simp [hy]))) fun s H Q h => ?_
  obtain ⟨f, r, G, env, h, P, Xp, S, E, wp, q, qx⟩ := h
  refine ⟨f, r, G, env, h, _, Xp, S, E, wp, fun vs h1 us r1 G1 H1 w1 l1 e1 S1 rv => ?_, qx⟩
  exact ⟨by rw [← rvAll_len rv, l1]; exact hl, f, r1, G1, vs, h1, P, Xp, S1, rv, w1, q.mono e1, qx.mono e1⟩
theorem se_call0 (hK : X.K = w.K) (dk : DefOk X.prog X.w X.mg X.base k w F g x ps kwl) (hr : Room k X.A) (hg : Gl X x) (tk : Takes X W) (hdb : (x == ("__debug__" : Str)) = false) (hl : ps.length = 0) (hx : x ≠ "") :
    SE X w F W (.Call (.Name x p) [] [] pos) (.call g .nil) := by
  obtain ⟨fd, bd, _, fo⟩ := dk.ok
  have kp := dk.kp
  rw [← hK] at fo bd kp
  refine ⟨fun pins s σ H Q I h => ?_⟩
  obtain ⟨f, r, G, env, h, P, Xp, S, E, wp, q, qx⟩ := h
  refine wpAny_Call_Name_kw (ld_glob I hg (dk.at_ hx) ?_ hdb)
  refine PySem.W.callWith_K0 I.kIn kp (run_fnS (E := L2.WE W) (us := []) (vs := []) fo hr bd (passAt tk σ) I .nil ?_)
  exact ⟨hl.symm, f, r, G, [], h, P, Xp, S, rfl, wp, q, qx⟩
/-- keywords -/
theorem sk_nil : PK X [] (rdA w F W .nil) := ⟨fun _ _ _ σ H Q I h => wpAny_evalAll_nil (by
  obtain ⟨f, r, G, env, h, P, Xp, S, E, wp, q, qx⟩ := h
  exact ⟨[], H, I, .nil, q [] h [] r G H wp rfl Ext.refl S rfl⟩)⟩
theorem sk_cons {nm : Option Str} {kpos : Pos} {kws : List Keyword} (ha : SE X w F W e t1) (hs : PK X kws (rdA w F W t2)) : PK X (⟨nm, e, kpos⟩ :: kws) (rdA w F W (.cons t1 t2)) :=
  ⟨fun po pins s σ H Q I h => (pk_cons ha hs).run po pins s σ H Q I (by
    obtain ⟨f, r, G, env, h, P, Xp, S, E, wp, q, qx⟩ := h
    refine ⟨f, r, G, env, h, _, Xp, S, E, wp, fun v h1 u r1 G1 H1 w1 e1 S1 rv => ?_, qx⟩
    refine ⟨f, r1, G1, env, h1, _, Xp, S1, E.mono e1, w1, fun vs h2 us r2 G2 H2 w2 l2 e2 S2 rv2 => ?_, qx.mono e1⟩
    exact q (v :: vs) h2 (u :: us) r2 G2 H2 w2 (by show vs.length + 1 = tlen t2 + 1; rw [l2]) (e1.trans e2) S2 ⟨u, us, rfl, Rv.mono e2 _ _ rv, rv2⟩)⟩
theorem run_fnkS {CX : CXT} {k : Nat} {f : Addr} {fd : FuncData} {ps ks : List Str} {sp : Sp} {E : Sg → XK} {g : List Value → List Value → List Value} {gV : List L2.V → List L2.V → List L2.V} {pins : List (Addr × Obj)} {σ : Sg} {H : L2.Hp} {s : Shared} {Q : VK} {us ws : List Value} {vs zs : List L2.V}
    (F : FnOk X.prog X.w X.K X.mg X.base CX k f fd ps sp) (hr : Room k X.A) (hb : KBinds X.K fd ps ks g gV) (hx : PassesAt CX X σ (E σ))
    (I : Inv X pins σ H s) (r : Vals vs us) (rz : Vals zs ws) (h : sp (gV vs zs) H Q (E σ)) : wpAny (model X.prog X.w) X.A (call (.ref f) us (ks.zip ws)) (EP X pins σ Q) X.xe s := by
  have r2 := hb.rel r rz
  have hl : (g us ws).length = ps.length := by rw [← r2.length]; exact F.len _ _ _ _ h
  refine wpAny_call (codeAny_mono (F.run X.A X.stack s H ⟨us, ks.zip ws⟩ (g us ws) (gV vs zs) Q (E σ) hr I.env0 (hb.to s us ws I.kIn hl) r2 h) fun r s' hq => ?_)
  cases r with
  | error e => exact hx pins H s e s' I hq
  | ok fl =>
    cases fl with
    | ret u => exact I.after hq
    | next => exact False.elim hq
    | brk => exact False.elim hq
    | cont => exact False.elim hq
theorem kw_names {env : PySem.Env} : ∀ {kws : List Keyword} {ks : List Str}, kws.map (·.arg) = ks.map some → (backToKw pos (keywordEach kws env)).all (·.1.isSome) = true ∧ (backToKw pos (keywordEach kws env)).filterMap (·.1) = ks ∧ (backToKw pos (keywordEach kws env)).any (·.1.isNone) = false
  | [], ks, h => by
    have h : ks.map some = [] := h.symm
    have : ks = [] := by simpa using h
    subst this
    exact ⟨rfl, rfl, rfl⟩
  | ⟨nm, v, q⟩ :: kws, [], h => by simp at h
  | ⟨nm, v, q⟩ :: kws, k :: ks, h => by
    have h : nm :: kws.map (·.arg) = some k :: ks.map some := h
    injection h with h1 h2
    subst h1
    obtain ⟨i1, i2, i3⟩ := kw_names (env := env) h2
    refine ⟨?_, ?_, ?_⟩
    · show (true && (backToKw pos (keywordEach kws env)).all (·.1.isSome)) = true
      rw [i1]; rfl
    · show k :: (backToKw pos (keywordEach kws env)).filterMap (·.1) = _
      rw [i2]
    · show (false || (backToKw pos (keywordEach kws env)).any (·.1.isNone)) = false
      rw [i3]; rfl
/-- the keywords' part, behind the positional values us -/
theorem kw_part {kws : List Keyword} {np : Nat} {ks : List Str} {ord : List Nat} {fd : FuncData} (hr : Room k X.A) (tk : Takes X W) (kb : KBd X.K fd ps (np, ks, ord)) (fo : FnOk X.prog X.w X.K X.mg X.base (L2.CX X.prog X.w) k (w.fa g) fd ps (spOf w F ps.length g))
    (hk : PK X kws (rdA w F W t2)) (h2 : tlen t2 = ks.length) (ho : ∀ vs : List V, vs.length = np + ks.length → (perm ord vs).length = ps.length)
    {pins : List (Addr × Obj)} {s1 : Shared} {σ : Sg} {H1 : L2.Hp} {Q : VK} {f : L2.Hp} {r1 : List Addr} {G1 : L2.Hp} {env : Env} {h1 : Hp} {P : Pv} {Xp : Px} {vs : List V} {us : List L2.V} {uvs : List Value}
    (I : Inv X pins σ H1 s1) (S1 : Sim w f r1 G1 h1 H1) (E1 : EnvR w r1 G1 env σ) (rv : RvAll w r1 G1 vs us) (rr : Vals us uvs) (lv : vs.length = np)
    (w1 : WEs F t2 env h1 (fun zs h2 => F g (perm ord (vs ++ zs)) h2 P Xp) Xp) (q : QOk w f r1 G1 P Q) (qx : XOk w f r1 G1 Xp (fun c d H' => W c d σ H')) :
    wpAny (model X.prog X.w) X.A (evalAll ((backToKw pos (keywordEach kws X.env)).map (·.2))) (fun ws s2 => X.K.In s2.heap ∧ wpAny (model X.prog X.w) X.A (call (.ref (w.fa g)) uvs (ks.zip ws)) (EP X pins σ Q) X.xe s2) X.xe s1 := by
  refine thn (hk.run pos pins s1 σ H1 (fun zs H2 => spOf w F ps.length g (kArr np ks.length ord us zs) H2 Q (L2.WE W σ)) I ⟨f, r1, G1, env, h1, _, Xp, S1, E1, w1, fun zs h2' us2 r2 G2 H2 w2 l2 e2 S2 rv2 => ?_, qx⟩) fun ws s2 ⟨zs, H2, I2, rz, q2⟩ => ⟨I2.kIn, ?_⟩
  · have lz : zs.length = ks.length := by rw [l2]; exact h2
    have lu : us.length = np ∧ us2.length = ks.length := ⟨by rw [← rvAll_len rv]; exact lv, by rw [← rvAll_len rv2]; exact lz⟩
    have rva : RvAll w r2 G2 (vs ++ zs) (us ++ us2) := rvAll_iff.mpr ((rvAll_iff.mp (RvAll.mono e2 _ _ rv)).append (rvAll_iff.mp rv2))
    show spOf w F ps.length g (kArr np ks.length ord us us2) H2 Q (L2.WE W σ)
    unfold kArr
    rw [if_pos lu]
    refine ⟨?_, f, r2, G2, perm ord (vs ++ zs), h2', P, Xp, S2, rvAll_perm rva ord, w2, q.mono e2, qx.mono e2⟩
    rw [← rvAll_len (rvAll_perm rva ord)]
    exact ho _ (by rw [List.length_append, lv, lz])
  · exact run_fnkS (E := L2.WE W) fo hr kb (passAt tk σ) I2 rr rz q2
theorem se_callk0 {kws : List Keyword} {ks : List Str} {ord : List Nat} (hK : X.K = w.K) (dk : DefOk X.prog X.w X.mg X.base k w F g x ps kwl) (hkw : (0, ks, ord) ∈ kwl) (hr : Room k X.A) (hg : Gl X x) (tk : Takes X W)
    (hk : PK X kws (rdA w F W t2)) (hdb : (x == ("__debug__" : Str)) = false) (hn : kws.map (·.arg) = ks.map some) (h2 : tlen t2 = ks.length)
    (ho : ∀ vs : List V, vs.length = 0 + ks.length → (perm ord vs).length = ps.length) (hx : x ≠ "") : SE X w F W (.Call (.Name x p) [] kws pos) (.callk g .nil t2 ord) := by
  obtain ⟨fd, bd, kb, fo⟩ := dk.ok
  have kp := dk.kp
  have kb := kb _ hkw
  rw [← hK] at fo bd kp kb
  obtain ⟨n1, n2, n3⟩ := kw_names (pos := pos) (env := X.env) hn
  refine ⟨fun pins s σ H Q I h => ?_⟩
  refine wpAny_Call_Name_kw (ld_glob I hg (dk.at_ hx) ?_ hdb)
  refine PySem.W.callWith_KW0 (h₀ := X.base) I.ok.mod.kin kp n1 ?_ (by rw [n3]; rfl)
  rw [n2]
  obtain ⟨f, r, G, env, h, P, Xp, S, E, wp, q, qx⟩ := h
  exact kw_part hr tk kb fo hk h2 ho I S E (vs := []) (us := []) (uvs := []) rfl .nil rfl wp q qx
theorem se_callk {kws : List Keyword} {np : Nat} {ks : List Str} {ord : List Nat} (hK : X.K = w.K) (dk : DefOk X.prog X.w X.mg X.base k w F g x ps kwl) (hkw : (np, ks, ord) ∈ kwl) (hr : Room k X.A) (hg : Gl X x) (tk : Takes X W)
    (ha : SA X w F W (e :: es) t1) (hk : PK X kws (rdA w F W t2)) (hs : ∀ y ∈ e :: es, ∀ x p, y ≠ .Starred x p) (hdb : (x == ("__debug__" : Str)) = false) (hn : kws.map (·.arg) = ks.map some) (h1 : tlen t1 = np) (h2 : tlen t2 = ks.length)
    (ho : ∀ vs : List V, vs.length = np + ks.length → (perm ord vs).length = ps.length) (hx : x ≠ "") : SE X w F W (.Call (.Name x p) (e :: es) kws pos) (.callk g t1 t2 ord) := by
  obtain ⟨fd, bd, kb, fo⟩ := dk.ok
  have kp := dk.kp
  have kb := kb _ hkw
  rw [← hK] at fo bd kp kb
  obtain ⟨n1, n2, n3⟩ := kw_names (pos := pos) (env := X.env) hn
  have n4 : (backTo pos (starEach (e :: es) X.env)).any (·.1) = false := noany hs
  refine ⟨fun pins s σ H Q I h => ?_⟩
  refine wpAny_Call_Name_kw (ld_glob I hg (dk.at_ hx) ?_ hdb)
  refine PySem.W.callWith_KW (h₀ := X.base) I.ok.mod.kin kp n1 ?_ (by rw [n3, n4]; rfl) (nostar (hs e (by simp)))
  rw [n2]
  obtain ⟨f, r, G, env, h, P, Xp, S, E, wp, q, qx⟩ := h
  refine thn (ha.run pos pins s σ H (fun us H1 => ∃ f r1 G1 h1 vs, Sim w f r1 G1 h1 H1 ∧ EnvR w r1 G1 env σ ∧ RvAll w r1 G1 vs us ∧ vs.length = np ∧ WEs F t2 env h1 (fun zs h2 => F g (perm ord (vs ++ zs)) h2 P Xp) Xp ∧ QOk w f r1 G1 P Q ∧ XOk w f r1 G1 Xp (fun c d H' => W c d σ H')) I
    ⟨f, r, G, env, h, _, Xp, S, E, wp, fun vs h1' us r1 G1 H1 w1 l1 e1 S1 rv => ?_, qx⟩) fun us s1 hq => ?_
  · exact ⟨f, r1, G1, h1', vs, S1, E.mono e1, rv, by rw [l1]; exact h1, w1, q.mono e1, qx.mono e1⟩
  · obtain ⟨vs, H1, I1, rr, f, r1, G1, h1', vs', S1, E1, rv, lv, w1, q1, qx1⟩ := hq
    exact kw_part hr tk kb fo hk h2 ho I1 S1 E1 rv rr lv w1 q1 qx1
end
end Hb

/-! SND3: what is walked, and targets. -/
namespace Hb
open PySem PySem.Spec PyProof.Rows
open L2 hiding V Hp St
set_option autoImplicit false

/-- the iterator J hands out the items xs, as long as chk holds -/
def Serves (w : Wo) (r : List Addr) (G : L2.Hp) (J : It) (chk : Hp → Prop) (xs : List V) : Prop :=
  (∀ f (i : Nat) r' G' h' H', Ext r G r' G' → Sim w f r' G' h' H' → chk h' → i < xs.length → J.go i H' ∧ ∀ x H2, J.yld i H' x H2 → ∃ G2 v, Ext r' G' r' G2 ∧ Sim w f r' G2 h' H2 ∧ xs[i]? = some v ∧ Rv w r' G2 v x) ∧
  (∀ f r' G' h' H', Ext r G r' G' → Sim w f r' G' h' H' → chk h' → J.stop xs.length H')
def IOk (w : Wo) (f : L2.Hp) (r : List Addr) (G : L2.Hp) (P : (Hp → Prop) → List V → Hp → Prop) (R : It → L2.Hp → Prop) : Prop :=
  ∀ chk xs h' r' G' H' J, P chk xs h' → Ext r G r' G' → Sim w f r' G' h' H' → Serves w r' G' J chk xs → R J H'
theorem IOk.mono {w : Wo} {f : L2.Hp} {r r1 : List Addr} {G G1 : L2.Hp} {P : (Hp → Prop) → List V → Hp → Prop} {R : It → L2.Hp → Prop} (q : IOk w f r G P R) (e : Ext r G r1 G1) : IOk w f r1 G1 P R :=
  fun chk xs h r' G' H J p x => q chk xs h r' G' H J p (e.trans x)
def rdI (w : Wo) (F : Phi) (W : WX) (t : T) : TI := fun s H R => ∃ f r G env h P Xp, Sim w f r G h H ∧ EnvR w r G env s ∧ WI F t env h P Xp ∧ IOk w f r G P R ∧ XOk w f r G Xp (fun c d H' => W c d s H')
abbrev SI (X : Cx) (w : Wo) (F : Phi) (W : WX) (tg e : Expr) (t : T) : Prop := PI X tg e (rdI w F W t)

/-! ### a list or a tuple, by its kind -/
def SqA (K : PySem.W.Frag) (H : L2.Hp) (tp : Bool) (a : Addr) (us : List L2.V) : Prop := match tp with
  | true => SqT K H a us
  | false => SqL K H a us
theorem sqA_mono {K : PySem.W.Frag} {G G' : L2.Hp} (s : Sub G G') {tp : Bool} {a : Addr} {xs : List L2.V} (h : SqA K G tp a xs) : SqA K G' tp a xs := by
  cases tp with
  | true => exact sqT_mono s h
  | false => exact sqS_mono s h
section
variable {X : Cx} {w : Wo} {F : Phi} {W : WX} {pins : List (Addr × Obj)} {σ : Sg} {H : L2.Hp} {s : Shared} {a : Addr} {us : List L2.V} {R : It → L2.Hp → Prop} {tg : Expr}
theorem it_list {E : Value → Shared → Prop} (I : Inv X pins σ H s) (hq : SqL X.K H a us) (q : R (Itl X.K a) H) : wpAny (model X.prog X.w) X.A (pyIter (.ref a)) (PIE X pins σ tg R) E s := by
  obtain ⟨its, rv, p, hz⟩ := I.list hq
  refine wpAny_pyIter_list p.isList ?_
  refine ⟨s.heap.objs.size, [s.heap.objs.size], _, _, H, rfl, I.kept (t' := s.toks) fun b o e => Heap.get?_push_of_some _ e, turn_list a _, ⟨_, Heap.get?_push_size _ rfl, rfl, rfl⟩, fun b hb => ?_, q⟩
  have e : b = s.heap.objs.size := by simpa using hb
  subst e
  exact I.fpOk (Nat.le_refl _) (I.hok.fresh (Nat.le_refl _))
theorem it_tup {E : Value → Shared → Prop} (I : Inv X pins σ H s) (hq : SqT X.K H a us) (q : R (Itt X.K a) H) : wpAny (model X.prog X.w) X.A (pyIter (.ref a)) (PIE X pins σ tg R) E s := by
  obtain ⟨its, rv, p, hz⟩ := I.tuple hq
  refine wpAny_pyIter_tuple (show s.heap.IsTuple a its.toArray from p) ?_
  refine ⟨s.heap.objs.size, [s.heap.objs.size], _, _, H, rfl, I.kept (t' := s.toks) fun b o e => Heap.get?_push_of_some _ e, turn_tuple a _, ⟨_, Heap.get?_push_size _ rfl, rfl, rfl⟩, fun b hb => ?_, q⟩
  have e : b = s.heap.objs.size := by simpa using hb
  subst e
  exact I.fpOk (Nat.le_refl _) (I.hok.fresh (Nat.le_refl _))
theorem it_str {E : Value → Shared → Prop} {x : Str} {t : Tok} (I : Inv X pins σ H s) (q : R (Its x) H) : wpAny (model X.prog X.w) X.A (pyIter (.str x t)) (PIE X pins σ tg R) E s := by
  cases ha : x.cps.all (· < 128)
  · exact wpAny_pyIter_wide ha (pi_one (tk := s.toks) I _ (turn_str _ x t "str_iterator" (.inr rfl)) ⟨_, Heap.get?_push_size _ rfl, rfl, rfl⟩ q)
  · exact wpAny_pyIter_ascii ha (pi_one (tk := s.toks) I _ (turn_str _ x t "str_ascii_iterator" (.inl rfl)) ⟨_, Heap.get?_push_size _ rfl, rfl, rfl⟩ q)
/-- how a sequence that stands serves -/
theorem serves_list {r : List Addr} {G : L2.Hp} {chk : Hp → Prop} {xs : List V} (hh : ∀ f r' G' h' H', Ext r G r' G' → Sim w f r' G' h' H' → chk h' → ∃ us, SqL w.K H' a us ∧ RvAll w r' G' xs us) : Serves w r G (Itl w.K a) chk xs := by
  refine ⟨fun f' i r' G' h' H' e S c hi => ?_, fun f' r' G' h' H' e S c => ?_⟩
  · obtain ⟨us, q, t⟩ := hh f' r' G' h' H' e S c
    have t := rvAll_iff.mp t
    obtain ⟨u, e1, rv⟩ := t.getL (List.getElem?_eq_getElem hi)
    refine ⟨⟨us, u, q, e1⟩, fun x H2 y => ?_⟩
    obtain ⟨rfl, y⟩ := y
    have := y us q
    rw [e1] at this
    cases this
    exact ⟨G', _, Ext.refl, S, List.getElem?_eq_getElem hi, rv⟩
  · obtain ⟨us, q, t⟩ := hh f' r' G' h' H' e S c
    exact ⟨us, q, by rw [← rvAll_len t]; exact Nat.le_refl _⟩
theorem serves_tup {r : List Addr} {G : L2.Hp} {chk : Hp → Prop} {xs : List V} (hh : ∀ f r' G' h' H', Ext r G r' G' → Sim w f r' G' h' H' → chk h' → ∃ us, SqT w.K H' a us ∧ RvAll w r' G' xs us) : Serves w r G (Itt w.K a) chk xs := by
  refine ⟨fun f' i r' G' h' H' e S c hi => ?_, fun f' r' G' h' H' e S c => ?_⟩
  · obtain ⟨us, q, t⟩ := hh f' r' G' h' H' e S c
    have t := rvAll_iff.mp t
    obtain ⟨u, e1, rv⟩ := t.getL (List.getElem?_eq_getElem hi)
    refine ⟨⟨us, u, q, e1⟩, fun x H2 y => ?_⟩
    obtain ⟨rfl, y⟩ := y
    have := y us q
    rw [e1] at this
    cases this
    exact ⟨G', _, Ext.refl, S, List.getElem?_eq_getElem hi, rv⟩
  · obtain ⟨us, q, t⟩ := hh f' r' G' h' H' e S c
    exact ⟨us, q, by rw [← rvAll_len t]; exact Nat.le_refl _⟩
/-- what is walked, by its value -/
inductive Walked (w : Wo) (r : List Addr) (G : L2.Hp) (H : L2.Hp) : L2.V → (Hp → Prop) → List V → Prop
  | lst {a us chk xs} : SqL w.K H a us → Serves w r G (Itl w.K a) chk xs → Walked w r G H (.ref a) chk xs
  | tup {a us chk xs} : SqT w.K H a us → Serves w r G (Itt w.K a) chk xs → Walked w r G H (.ref a) chk xs
  | str {x chk xs} : Serves w r G (Its x) chk xs → Walked w r G H (.str x) chk xs
theorem walked {f : L2.Hp} {r : List Addr} {G : L2.Hp} {h : Hp} {v : V} {u : L2.V} {Q : (Hp → Prop) → List V → Prop} (S : Sim w f r G h H) (rv : Rv w r G v u) (q : itemsV h v Q) : ∃ chk xs, Q chk xs ∧ Walked w r G H u chk xs := by
  cases v with
  | d x =>
    cases x with
    | list ds =>
      obtain ⟨a, us, rfl, hq, t⟩ := rv
      exact ⟨_, _, q, .lst (sqL_mono S.sub hq) (serves_list fun f' r' G' h' H' e S' _ => ⟨us, sqL_mono (e.sub.trans S'.sub) hq, rvAll_d.mpr (RpAll.mono e.sub _ _ t)⟩)⟩
    | tuple ds =>
      obtain ⟨a, us, rfl, hq, t⟩ := rv
      exact ⟨_, _, q, .tup (tqT_mono S.sub hq) (serves_tup fun f' r' G' h' H' e S' _ => ⟨us, tqT_mono (e.sub.trans S'.sub) hq, rvAll_d.mpr (RpAll.mono e.sub _ _ t)⟩)⟩
    | str z =>
      have rv : u = .str z := rv
      subst rv
      have ln : ((signs z).map V.d).length = z.cps.size := by simp [signs]
      refine ⟨_, _, q, .str ⟨fun f' i r' G' h' H' e S' _ hi => ?_, fun f' r' G' h' H' e S' _ => ?_⟩⟩
      · rw [ln] at hi
        refine ⟨hi, fun x H2 y => ?_⟩
        obtain ⟨rfl, c, e1, rfl⟩ := y
        have e2 : ((signs z).map V.d)[i]? = some (.d (.str ⟨#[c]⟩)) := by
          unfold signs
          rw [List.getElem?_map, List.getElem?_map, Array.getElem?_toList, e1]
          rfl
        exact ⟨G', _, Ext.refl, S', e2, rfl⟩
      · rw [ln]
        exact Nat.le_refl _
    | _ => exact q.elim
  | cell n =>
    obtain ⟨a, e1, rfl⟩ := rv
    have q : (match h[n]? with
      | some (.lst xs) => Q (fun h' => h'[n]? = some (.lst xs)) (xs.map V.d)
      | some (.lv xs) => Q (fun h' => h'[n]? = some (.lv xs)) xs
      | _ => False) := q
    cases eo : h[n]? with
    | none => rw [eo] at q; exact q.elim
    | some o =>
      rw [eo] at q
      cases o with
      | lst xs =>
        obtain ⟨_, us, ha, t⟩ := S.ob n a _ e1 eo
        refine ⟨_, _, q, .lst (SqL.of ha) (serves_list fun f' r' G' h' H' e S' c => ?_)⟩
        obtain ⟨_, us', ha', t'⟩ := S'.ob n a _ (e.pre _ _ e1) c
        exact ⟨us', SqL.of ha', rvAll_d.mpr t'⟩
      | lv xs =>
        obtain ⟨_, us, ha, t⟩ := S.ob n a _ e1 eo
        refine ⟨_, _, q, .lst (SqL.of ha) (serves_list fun f' r' G' h' H' e S' c => ?_)⟩
        obtain ⟨_, us', ha', t'⟩ := S'.ob n a _ (e.pre _ _ e1) c
        exact ⟨us', SqL.of ha', t'⟩
      | _ => exact q.elim
  | vt xs =>
    obtain ⟨a, us, rfl, hq, t⟩ := rv
    exact ⟨_, _, q, .tup (tqT_mono S.sub hq) (serves_tup fun f' r' G' h' H' e S' _ => ⟨us, tqT_mono (e.sub.trans S'.sub) hq, RvAll.mono e _ _ t⟩)⟩
  | fn _ => exact q.elim
  | exc _ _ => exact q.elim
theorem si_itv {e : Expr} {t : T} (hK : X.K = w.K) (ha : SE X w F W e t) : SI X w F W tg e (.itv t) := by
  refine ⟨fun pins s σ H R I h => ?_⟩
  obtain ⟨f, r, G, env, h, P, Xp, S, E, wp, q, qx⟩ := h
  refine thn (ha.run pins s σ H (fun u H1 => ∃ chk xs h1 r1 G1, P chk xs h1 ∧ Ext r G r1 G1 ∧ Sim w f r1 G1 h1 H1 ∧ Walked w r1 G1 H1 u chk xs) I ⟨f, r, G, env, h, _, Xp, S, E, wp, fun v h1 u r1 G1 H1 w1 e1 S1 rv => ?_, qx⟩) fun uv s1 ⟨u, H1, I1, ru, q1⟩ => ?_
  · obtain ⟨chk, xs, p1, wk⟩ := walked S1 rv w1
    exact ⟨chk, xs, h1, r1, G1, p1, e1, S1, wk⟩
  · obtain ⟨chk, xs, h1, r1, G1, p1, e1, S1, wk⟩ := q1
    cases wk with
    | lst hq sv => cases ru; rw [← hK] at hq sv; exact it_list I1 hq (q chk xs h1 r1 G1 H1 _ p1 e1 S1 sv)
    | tup hq sv => cases ru; rw [← hK] at hq sv; exact it_tup I1 hq (q chk xs h1 r1 G1 H1 _ p1 e1 S1 sv)
    | str sv => obtain ⟨t, rfl⟩ := ru; exact it_str I1 (q chk xs h1 r1 G1 H1 _ p1 e1 S1 sv)
/-! ### ranges -/
theorem ranI_len : ∀ (lo : Int) (n : Nat), (ranI lo n).length = n
  | _, 0 => rfl
  | lo, n + 1 => by show (ranI (lo + 1) n).length + 1 = n + 1; rw [ranI_len]
theorem ranI_get : ∀ (lo : Int) (n i : Nat), i < n → (ranI lo n)[i]? = some (.int (lo + i))
  | lo, 0, i, h => by omega
  | lo, n + 1, 0, h => by show some (PyData.int lo) = _; simp
  | lo, n + 1, i + 1, h => by
    show (ranI (lo + 1) n)[i]? = _
    rw [ranI_get (lo + 1) n i (by omega)]
    congr 2
    omega
theorem serves_range {r : List Addr} {G : L2.Hp} {lo : Int} {n : Nat} : Serves w r G (Itr lo n) (fun _ => True) ((ranI lo n).map V.d) := by
  have ln : ((ranI lo n).map V.d).length = n := by rw [List.length_map, ranI_len]
  refine ⟨fun f' i r' G' h' H' e S' _ hi => ?_, fun f' r' G' h' H' e S' _ => ?_⟩
  · rw [ln] at hi
    refine ⟨hi, fun x H2 y => ?_⟩
    obtain ⟨rfl, rfl⟩ := y
    exact ⟨G', .d (.int (lo + i)), Ext.refl, S', by rw [List.getElem?_map, ranI_get lo n i hi]; rfl, rfl⟩
  · rw [ln]
    exact Nat.le_refl _
theorem intP_of {d : D} {Q : Int → Prop} (h : intP d Q) : ∃ i, d = .int i ∧ Q i := by
  cases d <;> first | exact ⟨_, rfl, h⟩ | exact h.elim
theorem optP_of {α : Type} {o : Option α} {Q : α → Prop} (h : optP o Q) : ∃ a, o = some a ∧ Q a := by
  cases o with
  | none => exact h.elim
  | some a => exact ⟨a, rfl, h⟩
variable {e e2 e3 : Expr} {t t1 t2 t3 : T} {p pos : Pos}
theorem si_rng1 (hg : Gl X "range") (hm : X.mg "range" = none) (ha : SE X w F W e t) (hs : ∀ x p, e ≠ .Starred x p) : SI X w F W tg (.Call (.Name "range" p) [e] [] pos) (.rng1 t) := by
  refine ⟨fun pins s σ H R I h => (pi_range1 hg hm (pa_cons ha pa_nil (nostar hs)) (nostar hs)).run pins s σ H R I ?_⟩
  obtain ⟨f, r, G, env, h, P, Xp, S, E, wp, q, qx⟩ := h
  refine ⟨f, r, G, env, h, _, Xp, S, E, wp, fun v h1 u r1 G1 H1 w1 e1 S1 rv => ?_, qx⟩
  obtain ⟨d, ed, w1⟩ := optP_of w1
  obtain ⟨j, rfl, w1⟩ := intP_of w1
  obtain ⟨⟨b1, b2⟩, w1⟩ := w1
  have rd : u = .int j := S1.read rv ed
  subst rd
  exact ⟨j, rfl, b1, b2, q _ _ h1 r1 G1 H1 _ w1 e1 S1 serves_range⟩
theorem si_rng2 (hg : Gl X "range") (hm : X.mg "range" = none) (ha : SE X w F W e t1) (hb : SE X w F W e2 t2) (hs : ∀ x p, e ≠ .Starred x p) (hs2 : ∀ x p, e2 ≠ .Starred x p) : SI X w F W tg (.Call (.Name "range" p) [e, e2] [] pos) (.rng2 t1 t2) := by
  refine ⟨fun pins s σ H R I h => (pi_range2 hg hm (pa_cons ha (pa_cons hb pa_nil (nostar hs2)) (nostar hs)) (by rw [nostar hs, nostar hs2]; rfl) (nostar hs2)).run pins s σ H R I ?_⟩
  obtain ⟨f, r, G, env, h, P, Xp, S, E, wp, q, qx⟩ := h
  refine ⟨f, r, G, env, h, _, Xp, S, E, wp, fun v h1 u r1 G1 H1 w1 e1 S1 rv => ?_, qx⟩
  refine ⟨f, r1, G1, env, h1, _, Xp, S1, E.mono e1, w1, fun v2 h2 u2 r2 G2 H2 w2 e2 S2 rv2 => ?_, qx.mono e1⟩
  obtain ⟨d, ed, w2⟩ := optP_of w2
  obtain ⟨i, rfl, w2⟩ := intP_of w2
  obtain ⟨d, ed2, w2⟩ := optP_of w2
  obtain ⟨j, rfl, w2⟩ := intP_of w2
  obtain ⟨b, w2⟩ := w2
  have rd : u = .int i := S2.read (Rv.mono e2 _ _ rv) ed
  have rd2 : u2 = .int j := S2.read rv2 ed2
  subst rd rd2
  exact ⟨i, j, rfl, b, q _ _ h2 r2 G2 H2 _ w2 (e1.trans e2) S2 serves_range⟩
end
end Hb

/-! SND3b: enumerate and zip, over lists and tuples in any mix. -/
namespace Hb
open PySem PySem.Spec PyProof.Rows
open L2 hiding V Hp St
set_option autoImplicit false
set_option maxHeartbeats 1000000 in
theorem meets_enum1 {v : Value} {o : Obj} {H : Heap → Prop} (B : Begins v o H) :
    Meets (Builtin.«enumerate.__new__» ⟨[.type "enumerate", v], []⟩) (fun _ R s => H s.heap ∧
      R (.ok (.ret (.ref (s.heap.push o).objs.size))) { s with heap := (s.heap.push o).push { cls := .type "enumerate", data := .fields #[.none, .bool false, .ref s.heap.objs.size, rawInt 0, .none, .none] } }) :=
  .of_wp fun prog w A R s h => by
    obtain ⟨hp, g, d, tk, os⟩ := s; obtain ⟨h1, h⟩ := h
    have hsub := sub_enumerate
    have q1 : ∀ {A' : Around} {E : Value → Shared → Prop} {Q : Value → Shared → Prop}, Q (.ref hp.objs.size) ⟨hp.push o, g, d, tk, os⟩ → wpAny (model prog w) A' (pyIter v) Q E ⟨hp, g, d, tk, os⟩ :=
      fun q => B.iter prog w _ _ ⟨hp, g, d, tk, os⟩ _ h1 q
    wp_walk using q1
    refine wpAny_stack_any fun st => wpAny_pure ?_
    split
    · rename_i c _ _ _ _ _
      cases (c == Value.type "enumerate")
      · wp_walk using q1
        exact ⟨_, rfl, h⟩
      · wp_walk using q1
        exact ⟨_, rfl, h⟩
    · wp_walk using q1
      exact ⟨_, rfl, h⟩
section
variable {prog : Program} {w : World} {A : Around} {E : Value → Shared → Prop} {s : Shared}
theorem enum1_begins {v : Value} {o : Obj} {H : Heap → Prop} {Q : Value → Shared → Prop} (B : Begins v o H) (h1 : H s.heap)
    (h : ∀ h', IsEnum h' (s.heap.objs.size + 1) s.heap.objs.size 0 .none → h'.get? s.heap.objs.size = some o → h'.objs.size = s.heap.objs.size + 2 →
      (∀ b o, s.heap.get? b = some o → h'.get? b = some o) → Q (.ref (s.heap.objs.size + 1)) { s with heap := h' }) :
    wpAny (model prog w) A (call (.type "enumerate") [v]) Q E s := by
  refine callType_new F.called_enumerate (by decide) (F.typeCall_enumerate_1 _) (F.newCall_enumerate_1 _) (fun obj => F.args_object_init_2 obj _) F.entry_enumerate_new
    (meets_enum1 B) ⟨h1, ?_⟩
  have hz : (s.heap.push o).objs.size = s.heap.objs.size + 1 := Heap.size_push ..
  show _ ∧ _
  rw [hz]
  have he : IsEnum ((s.heap.push o).push { cls := .type "enumerate", data := .fields #[.none, .bool false, .ref s.heap.objs.size, rawInt 0, .none, .none] }) (s.heap.objs.size + 1) s.heap.objs.size 0 .none := by
    have := Heap.get?_push_size (s.heap.push o) (o := { cls := .type "enumerate", data := .fields #[.none, .bool false, .ref s.heap.objs.size, rawInt 0, .none, .none] }) rfl
    rw [hz] at this; exact this
  refine ⟨⟨_, he, rfl⟩, h _ he (Heap.get?_push_of_some _ (Heap.get?_push_size _ B.free)) (by rw [Heap.size_push, hz]) fun b o x => Heap.get?_push_of_some _ (Heap.get?_push_of_some _ x)⟩
end
/-! ### a source: a list or a tuple -/
def IsItA (tp : Bool) (h : Heap) (it a : Addr) (i : Nat) : Prop := match tp with
  | true => h.IsTupleIter it a i
  | false => h.IsListIter it a i
def IsSrc (tp : Bool) (h : Heap) (a : Addr) (its : Array Value) : Prop := match tp with
  | true => h.IsTuple a its
  | false => h.IsList a its
def itObj (tp : Bool) (a : Addr) : Obj := match tp with
  | true => { cls := .type "tuple_iterator", data := .fields #[.ref a, .int 0 0] }
  | false => { cls := .type "list_iterator", data := .fields #[.ref a, .int 0 0] }
theorem begins_A (tp : Bool) (a : Addr) (its : Array Value) : Begins (.ref a) (itObj tp a) fun h => IsSrc tp h a its := by
  cases tp with
  | true => exact begins_tuple a its
  | false => exact begins_list a its
theorem itA_new {tp : Bool} {h : Heap} {it a : Addr} (e : h.get? it = some (itObj tp a)) : IsItA tp h it a 0 := by
  cases tp with
  | true => exact ⟨_, e, rfl, rfl⟩
  | false => exact ⟨_, e, rfl, rfl⟩
theorem draws_A {prog : Program} {w : World} {A : Around} (hh : A.handled = none) (tp : Bool) (it a : Addr) (hne : a ≠ it) (its : Array Value) :
    Draws prog w A it [it, a] its.size (fun i v => its[i]? = some v) (fun i h => IsItA tp h it a i ∧ IsSrc tp h a its) := by
  cases tp with
  | true => exact Draws.tuple hh it a hne its
  | false => exact Draws.list hh it a hne its
theorem itA_obj {tp : Bool} {h : Heap} {it a : Addr} {i : Nat} (x : IsItA tp h it a i) : ∃ o, h.get? it = some o ∧ ∀ v, o.data ≠ .cell v := by
  cases tp with
  | true => obtain ⟨o, e, c, d⟩ := x; exact ⟨o, e, fun v q => by rw [d] at q; cases q⟩
  | false => obtain ⟨o, e, c, d⟩ := x; exact ⟨o, e, fun v q => by rw [d] at q; cases q⟩
theorem itA_at {tp : Bool} {h h' : Heap} {it a : Addr} {i : Nat} (x : IsItA tp h it a i) (k : ∀ o, h.get? it = some o → h'.get? it = some o) : IsItA tp h' it a i := by
  cases tp with
  | true => exact Heap.IsTupleIter.at x k
  | false => exact Heap.IsListIter.at x k
section
variable {X : Cx} {pins : List (Addr × Obj)} {σ : Sg} {H : L2.Hp} {s : Shared} {a : Addr} {us : List L2.V}
theorem sqA_src {tp : Bool} (I : Inv X pins σ H s) (h : SqA X.K H tp a us) : ∃ its : List Value, Vals us its ∧ IsSrc tp s.heap a its.toArray ∧ a < s.heap.objs.size := by
  cases tp with
  | true =>
    obtain ⟨its, rv, p, _⟩ := I.tuple h
    obtain ⟨o, ho, _⟩ := id p
    exact ⟨its, rv, p, Heap.lt_size ho⟩
  | false =>
    obtain ⟨its, rv, p, _⟩ := I.list h
    exact ⟨its, rv, p.isList, p.lt⟩
end
theorem sqA_inj {X : Cx} {pins : List (Addr × Obj)} {σ : Sg} {H : L2.Hp} {s : Shared} {a : Addr} {us vs : List L2.V} {tp : Bool} (I : Inv X pins σ H s) (h : SqA X.K H tp a us) (h' : SqA X.K H tp a vs) : us = vs := by
  cases tp with
  | true => exact I.tuple_inj h h'
  | false => exact I.list_inj h h'
/-- n new tuples, made as mk tells, as long as the source stands -/
def ItF (src : L2.Hp → Prop) (n : Nat) (mk : L2.Hp → Nat → List L2.V → Prop) : It :=
  ⟨fun i H => src H ∧ i < n, fun i H v H' => ∃ T us, v = .ref T ∧ H T = none ∧ H' = upd H T (.tup us) ∧ mk H i us, fun i H => src H ∧ n = i⟩
def src1 (K : PySem.W.Frag) (tp : Bool) (a : Addr) (n : Nat) (H : L2.Hp) : Prop := ∃ us, SqA K H tp a us ∧ us.length = n
def mkE (K : PySem.W.Frag) (k : Int) (tp : Bool) (a : Addr) (H : L2.Hp) (i : Nat) (vs : List L2.V) : Prop := ∀ us, SqA K H tp a us → ∃ x, vs = [.int (k + i), x] ∧ us[i]? = some x
def mkZ (K : PySem.W.Frag) (tp tq : Bool) (a b : Addr) (H : L2.Hp) (i : Nat) (ws : List L2.V) : Prop := ∀ us vs, SqA K H tp a us → SqA K H tq b vs → ∃ x y, ws = [x, y] ∧ us[i]? = some x ∧ vs[i]? = some y
theorem turn_enumA {P : Program} {w : World} {K : PySem.W.Frag} {elts : List Expr} {kk : Nat} {tpos : Pos} (k : Int) (tp : Bool) (a e it : Addr) (n : Nat) :
    Turn P w K (.Tuple elts kk tpos) (ItF (src1 K tp a n) n (mkE K k tp a)) [e, it] e
      (fun i h => (∃ old, IsEnum h e it (k + (i : Int)) old) ∧ IsItA tp h it a i ∧ e ≠ it ∧ a ≠ it ∧ a ≠ e) where
  mem := by simp
  obj := fun i h st b hb => by
    obtain ⟨⟨old, he⟩, hi, _⟩ := st
    have e' : b = e ∨ b = it := by simpa using hb
    rcases e' with z | z
    · rw [z]; exact ⟨_, he, fun v q => nomatch q⟩
    · rw [z]; exact itA_obj hi
  keep := fun i h h' st kp => let ⟨⟨old, he⟩, hi, hne⟩ := st; ⟨⟨old, kp e (by simp) _ he⟩, itA_at hi fun o q => kp it (by simp) o q, hne⟩
  item := by
    intro X hP hw hK hc i pins s σ H E I hf st hg
    subst hP hw hK
    obtain ⟨hen, hit, hne, hai, hae⟩ := st
    obtain ⟨⟨us, hsrc, hus⟩, hlt⟩ := hg
    subst hus
    obtain ⟨its, rv, hs, _⟩ := sqA_src I hsrc
    have hl := rv.length
    have D := draws_A (prog := X.prog) (w := X.w) (A := X.A.in1) (I.ok.hd hc) tp it a hai its.toArray
    have Gn := GoesN.enumFrom (elts := elts) (x1 := kk) (pos := tpos) k D e hne (by simp [hne, Ne.symm hae]) (by simp)
    refine Gn.goes i s _ E (by simpa using (by omega : i < its.length)) ⟨hen, hit, hs⟩ fun v h' tk hY st' hk htk => ?_
    obtain ⟨T, t, x, rfl, hT, hx, hTup⟩ := hY
    have hn : H T = none := I.hok.fresh hT
    have hu : its[i]? = some x := by simpa using hx
    have hi2 : i < us.length := hlt
    obtain ⟨y, hy, ry⟩ := rv.get (List.getElem?_eq_getElem hi2)
    rw [hu] at hy
    cases hy
    have new : ObjOk X.prog X.w (upd H T (.tup [.int (k + i), us[i]])) h' T (.tup [.int (k + i), us[i]]) := by
      obtain ⟨o, ho, hcl, m, hd⟩ := hTup
      exact ⟨by show 2 ≤ sizeLine; decide, [.int (k + (i : Int)) t, x], .cons ⟨_, rfl⟩ (.cons ry .nil), ⟨o, ho, hcl, m, hd⟩⟩
    have I1 : Inv X pins σ (upd H T (.tup [.int (k + i), us[i]])) { s with heap := h', toks := tk } := I.turnedNew (ch := [e, it]) (fun b o hb q => hk b o hb q) hf hT new
    obtain ⟨hen', hit', hs'⟩ := st'
    refine ⟨.ref T, _, I1, rfl, ⟨T, _, rfl, hn, rfl, fun us' hu' => ⟨us[i], rfl, by rw [← sqA_inj I hsrc hu']; exact List.getElem?_eq_getElem hi2⟩⟩, ⟨hen', hit', hne, hai, hae⟩, fun b hb => ?_⟩
    have hb' : b ≠ T := fun z => by
      have e' : b = e ∨ b = it := by simpa using hb
      obtain ⟨old, he⟩ := hen
      obtain ⟨o, ho, _⟩ := itA_obj hit
      have : b < s.heap.objs.size := by
        rcases e' with z | z
        · rw [z]; exact Heap.lt_size he
        · rw [z]; exact Heap.lt_size ho
      rw [z] at this
      exact absurd (Nat.lt_of_lt_of_le this hT) (Nat.lt_irrefl _)
    rw [upd_ne hb']
    exact (hf b hb).1
  done := by
    intro X hP hw hK hc i pins s σ H E I hf st hg
    subst hP hw hK
    obtain ⟨hen, hit, hne, hai, hae⟩ := st
    obtain ⟨⟨us, hsrc, hus⟩, hlt⟩ := hg
    subst hus
    obtain ⟨its, rv, hs, _⟩ := sqA_src I hsrc
    have hl := rv.length
    have D := draws_A (prog := X.prog) (w := X.w) (A := X.A.in1) (I.ok.hd hc) tp it a hai its.toArray
    have Gn := GoesN.enumFrom (elts := elts) (x1 := kk) (pos := tpos) k D e hne (by simp [hne, Ne.symm hae]) (by simp)
    have en : i = its.toArray.size := by simp; omega
    rw [en] at hen hit
    exact Gn.stops s _ E ⟨hen, hit, hs⟩ fun h' tk hk _ => I.turnedL (ch := [e, it]) (fun b o hb q => hk b o hb q) hf
  self := fun A i s Q E st h => let ⟨⟨_, he⟩, _⟩ := st; wpAny_pyIter_enum he h
theorem turn_zipA {P : Program} {w : World} {K : PySem.W.Frag} {elts : List Expr} {kk : Nat} {tpos : Pos} (tp tq : Bool) {a b z TI TO i1 i2 : Addr} (n m : Nat) (ZS : ZipSep2 z TI TO i1 i2 [i1, a] [i2, b]) (n1 : a ≠ i1) (n2 : b ≠ i2) :
    Turn P w K (.Tuple elts kk tpos) (ItF (fun H => src1 K tp a n H ∧ src1 K tq b m H) (min n m) (mkZ K tp tq a b)) [z, TI, TO, i1, i2] z
      (fun i h => IsZip h z TI TO .none ∧ IsTupOf2 h TI (.ref i1) (.ref i2) ∧ (∃ x y, IsTupOf2 h TO x y) ∧ IsItA tp h i1 a i ∧ IsItA tq h i2 b i) where
  mem := by simp
  obj := fun i h st c hc => by
    obtain ⟨hz, hTI, ⟨x, y, hTO⟩, h1, h2⟩ := st
    have e' : c = z ∨ c = TI ∨ c = TO ∨ c = i1 ∨ c = i2 := by simpa using hc
    rcases e' with q | q | q | q | q
    · rw [q]; exact ⟨_, hz, fun v q => nomatch q⟩
    · rw [q]; exact ⟨_, hTI, fun v q => nomatch q⟩
    · rw [q]; exact ⟨_, hTO, fun v q => nomatch q⟩
    · rw [q]; exact itA_obj h1
    · rw [q]; exact itA_obj h2
  keep := fun i h h' st k => by
    obtain ⟨hz, hTI, ⟨x, y, hTO⟩, h1, h2⟩ := st
    exact ⟨k z (by simp) _ hz, k TI (by simp) _ hTI, ⟨x, y, k TO (by simp) _ hTO⟩, itA_at h1 fun o q => k i1 (by simp) o q, itA_at h2 fun o q => k i2 (by simp) o q⟩
  item := by
    intro X hP hw hK hc i pins s σ H E I hf st hg
    subst hP hw hK
    obtain ⟨⟨⟨us, s1, hus⟩, ⟨vs, s2, hvs⟩⟩, hlt⟩ := hg
    subst hus hvs
    obtain ⟨its, rv, hs1, _⟩ := sqA_src I s1
    obtain ⟨its2, rv2, hs2, _⟩ := sqA_src I s2
    have hl := rv.length
    have hl2 := rv2.length
    have st0 := st
    obtain ⟨hz, hTI, hTO, h1, h2⟩ := st
    have D1 := draws_A (prog := X.prog) (w := X.w) (A := X.A.in1) (I.ok.hd hc) tp i1 a n1 its.toArray
    have D2 := draws_A (prog := X.prog) (w := X.w) (A := X.A.in1) (I.ok.hd hc) tq i2 b n2 its2.toArray
    have Gn := GoesN.zip2 (elts := elts) (x1 := kk) (pos := tpos) ZS D1 D2
    refine Gn.goes i s _ E (by simp; omega) ⟨hz, hTI, hTO, ⟨h1, hs1⟩, ⟨h2, hs2⟩⟩ fun v h' tk hY st' hk htk => ?_
    obtain ⟨T, x, y, rfl, hT, hx, hy, hTup⟩ := hY
    have hn : H T = none := I.hok.fresh hT
    have hu : its[i]? = some x := by simpa using hx
    have hv : its2[i]? = some y := by simpa using hy
    have hiu : i < us.length := by omega
    have hiv : i < vs.length := by omega
    obtain ⟨x', hx', rx⟩ := rv.get (List.getElem?_eq_getElem hiu)
    obtain ⟨y', hy', ry⟩ := rv2.get (List.getElem?_eq_getElem hiv)
    rw [hu] at hx'
    rw [hv] at hy'
    cases hx'
    cases hy'
    have new : ObjOk X.prog X.w (upd H T (.tup [us[i], vs[i]])) h' T (.tup [us[i], vs[i]]) := by
      obtain ⟨o, ho, hcl, m, hd⟩ := hTup
      exact ⟨by show 2 ≤ sizeLine; decide, [x, y], .cons rx (.cons ry .nil), ⟨o, ho, hcl, m, hd⟩⟩
    have I1 : Inv X pins σ (upd H T (.tup [us[i], vs[i]])) { s with heap := h', toks := tk } := I.turnedNew (ch := [z, TI, TO, i1, i2]) (fun c o hb q => hk c o (fun z => hb (by simp at z ⊢; rcases z with z | z | z | z <;> simp [z])) q) hf hT new
    obtain ⟨hz', hTI', hTO', ⟨h1', _⟩, ⟨h2', _⟩⟩ := st'
    refine ⟨.ref T, _, I1, rfl, ⟨T, _, rfl, hn, rfl, fun us' vs' hu' hv' => ⟨us[i], vs[i], rfl, by rw [← sqA_inj I s1 hu']; exact List.getElem?_eq_getElem hiu, by rw [← sqA_inj I s2 hv']; exact List.getElem?_eq_getElem hiv⟩⟩, ⟨hz', hTI', hTO', h1', h2'⟩, fun c hcm => ?_⟩
    have hb' : c ≠ T := fun zz => by
      obtain ⟨x0, y0, hTO⟩ := hTO
      obtain ⟨o1, ho1, _⟩ := itA_obj h1
      obtain ⟨o2, ho2, _⟩ := itA_obj h2
      have : c < s.heap.objs.size := by
        have e' : c = z ∨ c = TI ∨ c = TO ∨ c = i1 ∨ c = i2 := by simpa using hcm
        rcases e' with q | q | q | q | q
        · rw [q]; exact Heap.lt_size hz
        · rw [q]; exact Heap.lt_size hTI
        · rw [q]; exact Heap.lt_size hTO
        · rw [q]; exact Heap.lt_size ho1
        · rw [q]; exact Heap.lt_size ho2
      rw [zz] at this
      exact absurd (Nat.lt_of_lt_of_le this hT) (Nat.lt_irrefl _)
    rw [upd_ne hb']
    exact (hf c hcm).1
  done := by
    intro X hP hw hK hc i pins s σ H E I hf st hg
    subst hP hw hK
    obtain ⟨⟨⟨us, s1, hus⟩, ⟨vs, s2, hvs⟩⟩, hlt⟩ := hg
    subst hus hvs
    obtain ⟨its, rv, hs1, _⟩ := sqA_src I s1
    obtain ⟨its2, rv2, hs2, _⟩ := sqA_src I s2
    have hl := rv.length
    have hl2 := rv2.length
    obtain ⟨hz, hTI, hTO, h1, h2⟩ := st
    have D1 := draws_A (prog := X.prog) (w := X.w) (A := X.A.in1) (I.ok.hd hc) tp i1 a n1 its.toArray
    have D2 := draws_A (prog := X.prog) (w := X.w) (A := X.A.in1) (I.ok.hd hc) tq i2 b n2 its2.toArray
    have Gn := GoesN.zip2 (elts := elts) (x1 := kk) (pos := tpos) ZS D1 D2
    have en : i = min its.toArray.size its2.toArray.size := by simp; omega
    rw [en] at h1 h2
    exact Gn.stops s _ E ⟨hz, hTI, hTO, ⟨h1, hs1⟩, ⟨h2, hs2⟩⟩ fun h' tk hk _ => I.turnedL (ch := [z, TI, TO, i1, i2]) (fun c o hb q => hk c o (fun z => hb (by simp at z ⊢; rcases z with z | z | z | z <;> simp [z])) q) hf
  self := fun A i s Q E st h => wpAny_pyIter_zip st.1 h
/-! ### the rules -/
/-- a source as data -/
def Src (w : Wo) (r : List Addr) (G : L2.Hp) (tp : Bool) (a : Addr) (chk : Hp → Prop) (xs : List D) : Prop :=
  ∀ f r' G' h' H', Ext r G r' G' → Sim w f r' G' h' H' → chk h' → ∃ us, SqA w.K H' tp a us ∧ RpAll w.K G' xs us
theorem Src.mono {w : Wo} {r r1 : List Addr} {G G1 : L2.Hp} {tp : Bool} {a : Addr} {chk : Hp → Prop} {xs : List D} (s : Src w r G tp a chk xs) (e : Ext r G r1 G1) : Src w r1 G1 tp a chk xs := fun f r' G' h' H' e' => s f r' G' h' H' (e.trans e')
theorem dsrc {w : Wo} {f : L2.Hp} {r : List Addr} {G H : L2.Hp} {h : Hp} {v : V} {u : L2.V} {Q : (Hp → Prop) → List D → Prop} (S : Sim w f r G h H) (rv : Rv w r G v u) (q : ditemsV h v Q) :
    ∃ chk xs tp a, Q chk xs ∧ u = .ref a ∧ chk h ∧ Src w r G tp a chk xs := by
  cases v with
  | d x =>
    cases x with
    | list ds =>
      obtain ⟨a, us, rfl, hq, t⟩ := rv
      exact ⟨_, _, false, a, q, rfl, trivial, fun f' r' G' h' H' e S' _ => ⟨us, sqL_mono (e.sub.trans S'.sub) hq, RpAll.mono e.sub _ _ t⟩⟩
    | tuple ds =>
      obtain ⟨a, us, rfl, hq, t⟩ := rv
      exact ⟨_, _, true, a, q, rfl, trivial, fun f' r' G' h' H' e S' _ => ⟨us, tqT_mono (e.sub.trans S'.sub) hq, RpAll.mono e.sub _ _ t⟩⟩
    | _ => exact q.elim
  | cell n =>
    obtain ⟨a, e1, rfl⟩ := rv
    have q : (match h[n]? with
      | some (.lst xs) => Q (fun h' => h'[n]? = some (.lst xs)) xs
      | _ => False) := q
    cases eo : h[n]? with
    | none => rw [eo] at q; exact q.elim
    | some o =>
      rw [eo] at q
      cases o with
      | lst xs =>
        refine ⟨_, _, false, a, q, rfl, eo, fun f' r' G' h' H' e S' c => ?_⟩
        obtain ⟨_, us', ha', t'⟩ := S'.ob n a _ (e.pre _ _ e1) c
        exact ⟨us', SqL.of ha', t'⟩
      | _ => exact q.elim
  | vt _ => exact q.elim
  | fn _ => exact q.elim
  | exc _ _ => exact q.elim
theorem enumD_len : ∀ (k : Int) (xs : List D), (enumD k xs).length = xs.length
  | _, [] => rfl
  | k, x :: xs => by show (enumD (k + 1) xs).length + 1 = xs.length + 1; rw [enumD_len]
theorem enumD_get : ∀ (k : Int) (xs : List D) (i : Nat) (x : D), xs[i]? = some x → (enumD k xs)[i]? = some (.d (.tuple [.int (k + i), x]))
  | k, [], i, x, h => by simp at h
  | k, y :: xs, 0, x, h => by
    have h : some y = some x := h
    cases h
    show some (V.d (.tuple [.int k, y])) = _
    simp
  | k, y :: xs, i + 1, x, h => by
    show (enumD (k + 1) xs)[i]? = _
    rw [enumD_get (k + 1) xs i x h]
    have : k + 1 + (i : Int) = k + ((i + 1 : Nat) : Int) := by omega
    rw [this]
theorem zipD_len : ∀ (xs ys : List D), (zipD xs ys).length = min xs.length ys.length
  | [], _ => by simp [zipD]
  | _ :: _, [] => by simp [zipD]
  | x :: xs, y :: ys => by show (zipD xs ys).length + 1 = min (xs.length + 1) (ys.length + 1); rw [zipD_len]; omega
theorem zipD_get : ∀ (xs ys : List D) (i : Nat) (x y : D), xs[i]? = some x → ys[i]? = some y → (zipD xs ys)[i]? = some (.d (.tuple [x, y]))
  | [], _, _, _, _, h, _ => by simp at h
  | _ :: _, [], _, _, _, _, h => by simp at h
  | x' :: xs, y' :: ys, 0, x, y, h, h' => by
    have h : some x' = some x := h
    have h' : some y' = some y := h'
    cases h
    cases h'
    rfl
  | _ :: xs, _ :: ys, i + 1, x, y, h, h' => zipD_get xs ys i x y h h'
section
variable {X : Cx} {w : Wo} {F : Phi} {W : WX} {e e2 e3 : Expr} {t t1 t2 t3 : T} {p pos tpos : Pos} {elts : List Expr} {kk : Nat}
theorem serves_enum {r : List Addr} {G : L2.Hp} {tp : Bool} {a : Addr} {chk : Hp → Prop} {xs : List D} {k : Int} (sc : Src w r G tp a chk xs) : Serves w r G (ItF (src1 w.K tp a xs.length) xs.length (mkE w.K k tp a)) chk (enumD k xs) := by
  refine ⟨fun f' i r' G' h' H' e S c hi => ?_, fun f' r' G' h' H' e S c => ?_⟩
  · rw [enumD_len] at hi
    obtain ⟨us, q, t⟩   := sc f' r' G' h' H' e S c
    refine ⟨⟨⟨us, q, (rpAll_len t).symm⟩, hi⟩, fun x H2 y => ?_⟩
    obtain ⟨T, vs, rfl, hn, rfl, hm⟩ := y
    obtain ⟨x, rfl, hx⟩ := hm us q
    obtain ⟨d, hd, rd⟩ := (rpAll_iff.mp t).getR hx
    obtain ⟨S2, e2⟩ := S.lay hn (.tup [.int (k + i), x])
    exact ⟨_, _, e2, S2, enumD_get k xs i d hd, ⟨T, _, rfl, upd_same, _, _, rfl, rfl, _, _, rfl, Rp.mono e2.sub _ _ rd, rfl⟩⟩
  · rw [enumD_len]
    obtain ⟨us, q, t⟩   := sc f' r' G' h' H' e S c
    exact ⟨⟨us, q, (rpAll_len t).symm⟩, rfl⟩
theorem serves_zip {r : List Addr} {G : L2.Hp} {tp tq : Bool} {a b : Addr} {c1 c2 : Hp → Prop} {xs ys : List D} (sc : Src w r G tp a c1 xs) (sd : Src w r G tq b c2 ys) :
    Serves w r G (ItF (fun H => src1 w.K tp a xs.length H ∧ src1 w.K tq b ys.length H) (min xs.length ys.length) (mkZ w.K tp tq a b)) (fun h => c1 h ∧ c2 h) (zipD xs ys) := by
  refine ⟨fun f' i r' G' h' H' e S c hi => ?_, fun f' r' G' h' H' e S c => ?_⟩
  · rw [zipD_len] at hi
    obtain ⟨us, q, t⟩   := sc f' r' G' h' H' e S c.1
    obtain ⟨vs, q2, t2⟩  := sd f' r' G' h' H' e S c.2
    refine ⟨⟨⟨⟨us, q, (rpAll_len t).symm⟩, ⟨vs, q2, (rpAll_len t2).symm⟩⟩, hi⟩, fun x H2 y => ?_⟩
    obtain ⟨T, ws, rfl, hn, rfl, hm⟩ := y
    obtain ⟨x, y, rfl, hx, hy⟩ := hm us vs q q2
    obtain ⟨d, hd, rd⟩ := (rpAll_iff.mp t).getR hx
    obtain ⟨d2, hd2, rd2⟩ := (rpAll_iff.mp t2).getR hy
    obtain ⟨S2, e2⟩ := S.lay hn (.tup [x, y])
    exact ⟨_, _, e2, S2, zipD_get xs ys i d d2 hd hd2, ⟨T, _, rfl, upd_same, _, _, rfl, Rp.mono e2.sub _ _ rd, _, _, rfl, Rp.mono e2.sub _ _ rd2, rfl⟩⟩
  · rw [zipD_len]
    obtain ⟨us, q, t⟩   := sc f' r' G' h' H' e S c.1
    obtain ⟨vs, q2, t2⟩  := sd f' r' G' h' H' e S c.2
    exact ⟨⟨⟨us, q, (rpAll_len t).symm⟩, ⟨vs, q2, (rpAll_len t2).symm⟩⟩, rfl⟩
theorem si_enum (hK : X.K = w.K) (hg : Gl X "enumerate") (hm : X.mg "enumerate" = none) (ha : SE X w F W e t) (hs : ∀ x p, e ≠ .Starred x p) :
    SI X w F W (.Tuple elts kk tpos) (.Call (.Name "enumerate" p) [e] [] pos) (.enm 0 t) := by
  obtain ⟨wK, fa, ca, an, anj, xc, hu⟩ := w
  have hK : X.K = wK := hK
  subst hK
  refine ⟨fun pins s σ H R I h => ?_⟩
  obtain ⟨f, r, G, env, h, P, Xp, S, E, wp, q, qx⟩ := h
  refine Call_ (ld_blt I hg hm boot_enumerate (PyProof.Rows.callWith_type1 (thn ((pa_cons ha pa_nil (nostar hs)).run pos pins s σ H (fun us H1 => ∃ u, us = [u] ∧ ∃ chk xs h1 r1 G1 tp a, P chk (enumD 0 xs) h1 ∧ Ext r G r1 G1 ∧ Sim (Wo.mk X.K fa ca an anj xc hu) f r1 G1 h1 H1 ∧ u = .ref a ∧ chk h1 ∧ Src (Wo.mk X.K fa ca an anj xc hu) r1 G1 tp a chk xs) I
    ⟨f, r, G, env, h, _, Xp, S, E, wp, fun v h1 u r1 G1 H1 w1 e1 S1 rv => ?_, qx⟩) fun us s1 ⟨vs, H1, I1, r1, q1⟩ => ?_) (nostar hs) rfl))
  · obtain ⟨chk, xs, tp, a, p1, ea, c1, sc⟩ := dsrc S1 rv w1
    exact ⟨u, rfl, chk, xs, h1, r1, G1, tp, a, p1, e1, S1, ea, c1, sc⟩
  · obtain ⟨u, rfl, chk, xs, h1, r1', G1, tp, a, p1, e1, S1, rfl, c1, sc⟩ := q1
    cases r1 with
    | cons ru rr =>
      cases rr
      cases ru
      obtain ⟨us0, hq, t0⟩ := sc f r1' G1 h1 H1 Ext.refl S1 c1
      obtain ⟨its, rv, hs1, hlt⟩ := sqA_src I1 hq
      refine enum1_begins (begins_A tp a its.toArray) hs1 fun h' he hit hsz hk => wpAny_pyIter_enum he ?_
      have I2 : Inv X pins σ H1 { s1 with heap := h' } := I1.kept (t' := s1.toks) hk
      have T := turn_enumA (P := X.prog) (w := X.w) (K := X.K) (elts := elts) (kk := kk) (tpos := tpos) 0 tp a (s1.heap.objs.size + 1) s1.heap.objs.size xs.length
      refine ⟨s1.heap.objs.size + 1, [s1.heap.objs.size + 1, s1.heap.objs.size], _, _, H1, rfl, I2, T, ⟨⟨.none, he⟩, itA_new hit, Nat.succ_ne_self _, Nat.ne_of_lt hlt, Nat.ne_of_lt (Nat.lt_succ_of_lt hlt)⟩, fun b hb => ?_, q chk _ h1 r1' G1 H1 _ p1 e1 S1 (serves_enum sc)⟩
      have e' : b = s1.heap.objs.size + 1 ∨ b = s1.heap.objs.size := by simpa using hb
      have hle : s1.heap.objs.size ≤ b := by
        rcases e' with z | z
        · rw [z]; exact Nat.le_add_right _ _
        · rw [z]; exact Nat.le_refl _
      exact I1.fpOk hle (I1.hok.fresh hle)
theorem si_zip (hK : X.K = w.K) (hg : Gl X "zip") (hm : X.mg "zip" = none) (ha : SE X w F W e t1) (hb : SE X w F W e2 t2) (hs : ∀ x p, e ≠ .Starred x p) (hs2 : ∀ x p, e2 ≠ .Starred x p) :
    SI X w F W (.Tuple elts kk tpos) (.Call (.Name "zip" p) [e, e2] [] pos) (.zip2 t1 t2) := by
  obtain ⟨wK, fa, ca, an, anj, xc, hu⟩ := w
  have hK : X.K = wK := hK
  subst hK
  refine ⟨fun pins s σ H R I h => ?_⟩
  obtain ⟨f, r, G, env, h, P, Xp, S, E, wp, q, qx⟩ := h
  refine Call_ (ld_blt I hg hm PyProof.Rows.boot_zip (PyProof.Rows.callWith_type1 (thn ((pa_cons ha (pa_cons hb pa_nil (nostar hs2)) (nostar hs)).run pos pins s σ H (fun us H1 => ∃ c1 c2 xs ys h1 r1 G1 tp tq a b, us = [.ref a, .ref b] ∧ P (fun h => c1 h ∧ c2 h) (zipD xs ys) h1 ∧ Ext r G r1 G1 ∧ Sim (Wo.mk X.K fa ca an anj xc hu) f r1 G1 h1 H1 ∧ c1 h1 ∧ c2 h1 ∧ Src (Wo.mk X.K fa ca an anj xc hu) r1 G1 tp a c1 xs ∧ Src (Wo.mk X.K fa ca an anj xc hu) r1 G1 tq b c2 ys) I
    ⟨f, r, G, env, h, _, Xp, S, E, wp, fun v h1 u r1 G1 H1 w1 e1 S1 rv => ?_, qx⟩) fun us s1 ⟨vs, H1, I1, r1, q1⟩ => ?_) (nostar hs) (noany (by simpa using hs2))))
  · refine ⟨f, r1, G1, env, h1, _, Xp, S1, E.mono e1, w1, fun v2 h2 u2 r2 G2 H2 w2 e2 S2 rv2 => ?_, qx.mono e1⟩
    obtain ⟨c1, xs, tp, a, w2, ea, k1, sc⟩ := dsrc S2 (Rv.mono e2 _ _ rv) w2
    obtain ⟨c2, ys, tq, b, w2, eb, k2, sd⟩ := dsrc S2 rv2 w2
    subst ea eb
    exact ⟨c1, c2, xs, ys, h2, r2, G2, tp, tq, a, b, rfl, w2, e1.trans e2, S2, k1, k2, sc, sd⟩
  · obtain ⟨c1, c2, xs, ys, h1, r1', G1, tp, tq, a, b, rfl, p1, e1, S1, k1, k2, sc, sd⟩ := q1
    cases r1 with
    | cons ru rr =>
      cases rr with
      | cons ru2 rr =>
        cases rr
        cases ru
        cases ru2
        obtain ⟨us0, hq, t0⟩ := sc f r1' G1 h1 H1 Ext.refl S1 k1
        obtain ⟨vs0, hq2, t02⟩ := sd f r1' G1 h1 H1 Ext.refl S1 k2
        obtain ⟨its, rv, hs1, hlt⟩ := sqA_src I1 hq
        obtain ⟨its2, rv2, hs1', hlt2⟩ := sqA_src I1 hq2
        refine zip_begins2 (begins_A tp a its.toArray) (begins_A tq b its2.toArray) hs1 hs1' fun h' hz hTI hTO hi1 hi2 hsz hk => wpAny_pyIter_zip hz ?_
        have I2 : Inv X pins σ H1 { s1 with heap := h' } := I1.kept (t' := s1.toks) hk
        have ZS : ZipSep2 (s1.heap.objs.size + 4) (s1.heap.objs.size + 2) (s1.heap.objs.size + 3) s1.heap.objs.size (s1.heap.objs.size + 1) [s1.heap.objs.size, a] [s1.heap.objs.size + 1, b] := zip_sep2 (by simpa using hlt) (by simpa using hlt2)
        have T := turn_zipA (P := X.prog) (w := X.w) (K := X.K) (elts := elts) (kk := kk) (tpos := tpos) tp tq xs.length ys.length ZS (Nat.ne_of_lt hlt) (Nat.ne_of_lt (Nat.lt_succ_of_lt hlt2))
        refine ⟨s1.heap.objs.size + 4, [s1.heap.objs.size + 4, s1.heap.objs.size + 2, s1.heap.objs.size + 3, s1.heap.objs.size, s1.heap.objs.size + 1], _, _, H1, rfl, I2, T, ⟨hz, hTI, ⟨_, _, hTO⟩, itA_new hi1, itA_new hi2⟩, fun c hcm => ?_, q _ _ h1 r1' G1 H1 _ p1 e1 S1 (serves_zip sc sd)⟩
        have e' : c = s1.heap.objs.size + 4 ∨ c = s1.heap.objs.size + 2 ∨ c = s1.heap.objs.size + 3 ∨ c = s1.heap.objs.size ∨ c = s1.heap.objs.size + 1 := by simpa using hcm
        have hle : s1.heap.objs.size ≤ c := by
          rcases e' with z | z | z | z | z
          · rw [z]; exact Nat.le_add_right _ _
          · rw [z]; exact Nat.le_add_right _ _
          · rw [z]; exact Nat.le_add_right _ _
          · rw [z]; exact Nat.le_refl _
          · rw [z]; exact Nat.le_add_right _ _
        exact I1.fpOk hle (I1.hok.fresh hle)
end
end Hb

/-! SND4: targets and statements. -/
namespace Hb
open PySem PySem.Spec PyProof.Rows
open L2 hiding V Hp St
set_option autoImplicit false
def GOk (w : Wo) (f : L2.Hp) (r : List Addr) (G : L2.Hp) (P : Env → Hp → Prop) (Q : Sg → L2.Hp → Prop) : Prop :=
  ∀ env' h' s' r' G' H', P env' h' → Ext r G r' G' → Sim w f r' G' h' H' → EnvR w r' G' env' s' → Q s' H'
theorem GOk.mono {w : Wo} {f : L2.Hp} {r r1 : List Addr} {G G1 : L2.Hp} {P : Env → Hp → Prop} {Q : Sg → L2.Hp → Prop} (q : GOk w f r G P Q) (e : Ext r G r1 G1) : GOk w f r1 G1 P Q :=
  fun env h s r' G' H p x => q env h s r' G' H p (e.trans x)
def rdG (w : Wo) (F : Phi) (t : T) : TG := fun u s H Q => ∃ f r G env h v P, Sim w f r G h H ∧ EnvR w r G env s ∧ Rv w r G v u ∧ WA F t v env h P ∧ GOk w f r G P Q
def rdGs (w : Wo) (F : Phi) (t : T) : TGs := fun us s H Q => ∃ f r G env h vs P, Sim w f r G h H ∧ EnvR w r G env s ∧ RvAll w r G vs us ∧ WAs F t vs env h P ∧ GOk w f r G P Q
abbrev SG (X : Cx) (w : Wo) (F : Phi) (tg : Expr) (t : T) : Prop := PG X tg (rdG w F t)
abbrev SGs (X : Cx) (w : Wo) (F : Phi) (tg : List Expr) (t : T) : Prop := PGs X tg (rdGs w F t)
section
variable {X : Cx} {w : Wo} {F : Phi} {W : WX} {e e2 : Expr} {es : List Expr} {t t1 t2 : T} {pos : Pos}
theorem pg_imp {t t' : TG} (h : PG X e t) (i : ∀ v s H Q, t' v s H Q → t v s H Q) : PG X e t' := ⟨fun pins s σ H v u Q I r q => h.run pins s σ H v u Q I r (i v σ H Q q)⟩
theorem pgs_imp {t t' : TGs} (h : PGs X es t) (i : ∀ v s H Q, t' v s H Q → t v s H Q) : PGs X es t' := ⟨fun pins s σ H v u Q I r q => h.run pins s σ H v u Q I r (i v σ H Q q)⟩
theorem pg_or {t t' : TG} (h : PG X e t) (h' : PG X e t') : PG X e (fun v s H Q => t v s H Q ∨ t' v s H Q) := ⟨fun pins s σ H v u Q I r q => q.elim (h.run pins s σ H v u Q I r) (h'.run pins s σ H v u Q I r)⟩
theorem sg_name {i : Nat} {x : Str} (hN : X.N.Nodup) (hi : X.N[i]? = some x) (hx : Loc X.env.scope x) (hf : X.fn x = true ∨ X.env.scope.names.lookup x = some .local) : SG X w F (.Name x pos) (.tnm i) :=
  pg_imp (pg_name hN hi hx hf) fun u s H Q h => by
    obtain ⟨f, r, G, env, h, v, P, S, E, rv, wp, q⟩ := h
    exact q _ h _ r G H wp Ext.refl S (E.set rv i)
theorem sgs_nil : SGs X w F [] .nil := pgs_imp pgs_nil fun us s H Q h => by
  obtain ⟨f, r, G, env, h, vs, P, S, E, rv, wp, q⟩ := h
  obtain ⟨rfl, wp⟩ := wp
  exact ⟨rv, q _ h _ r G H wp Ext.refl S E⟩
theorem nostarA {env : PySem.Env} (h : ∀ x p, e ≠ .Starred x p) : assignEach (e :: es) env = (false, assign e env) :: assignEach es env := by
  cases e <;> first | rfl | exact absurd rfl (h _ _)
theorem assignEach_ok {env : PySem.Env} : ∀ {es : List Expr}, (∀ e ∈ es, ∀ x p, e ≠ .Starred x p) → (assignEach es env).length = es.length ∧ (assignEach es env).findIdx? (·.1) = none
  | [], _ => ⟨rfl, rfl⟩
  | e :: es, h => by
    obtain ⟨i1, i2⟩ := assignEach_ok (env := env) (es := es) fun e he => h e (by simp [he])
    rw [nostarA (h e (by simp))]
    refine ⟨by simp [i1], ?_⟩
    rw [List.findIdx?_cons, i2]
    rfl
theorem sgs_cons (h1 : SG X w F e t1) (h2 : SGs X w F es t2) (hs : ∀ x p, e ≠ .Starred x p) : SGs X w F (e :: es) (.cons t1 t2) :=
  pgs_imp (pgs_cons h1 h2 (by rw [nostarA hs]; rfl)) fun us s H Q h => by
    obtain ⟨f, r, G, env, h, vs, P, S, E, rv, wp, q⟩ := h
    cases vs with
    | nil => exact wp.elim
    | cons v vs =>
      obtain ⟨u, us, rfl, ru, rr⟩ := rv
      refine ⟨u, us, rfl, f, r, G, env, h, v, _, S, E, ru, wp, fun env1 h1 s1 r1 G1 H1 w1 e1 S1 E1 => ?_⟩
      exact ⟨f, r1, G1, env1, h1, vs, P, S1, E1, RvAll.mono e1 _ _ rr, w1, q.mono e1⟩
/-- a value told to several targets -/
theorem parts_ok {f : L2.Hp} {r : List Addr} {G H : L2.Hp} {h : Hp} {v : V} {u : L2.V} {Q : List V → Prop} (S : Sim w f r G h H) (rv : Rv w r G v u) (q : partsV h v Q) : ∃ vs a us, Q vs ∧ u = .ref a ∧ (SqT w.K H a us ∨ SqL w.K H a us) ∧ RvAll w r G vs us := by
  cases v with
  | d x =>
    cases x with
    | list ds => obtain ⟨a, us, rfl, hq, t⟩ := rv; exact ⟨_, a, us, q, rfl, .inr (sqL_mono S.sub hq), rvAll_d.mpr t⟩
    | tuple ds => obtain ⟨a, us, rfl, hq, t⟩ := rv; exact ⟨_, a, us, q, rfl, .inl (tqT_mono S.sub hq), rvAll_d.mpr t⟩
    | _ => exact q.elim
  | vt xs => obtain ⟨a, us, rfl, hq, t⟩ := rv; exact ⟨_, a, us, q, rfl, .inl (tqT_mono S.sub hq), t⟩
  | cell n =>
    obtain ⟨a, e1, rfl⟩ := rv
    have q : (match h[n]? with
      | some (.lst xs) => Q (xs.map V.d)
      | some (.lv xs) => Q xs
      | _ => False) := q
    cases eo : h[n]? with
    | none => rw [eo] at q; exact q.elim
    | some o =>
      rw [eo] at q
      cases o with
      | lst xs => obtain ⟨_, us, ha, t⟩ := S.ob n a _ e1 eo; exact ⟨_, a, us, q, rfl, .inr (SqL.of ha), rvAll_d.mpr t⟩
      | lv xs => obtain ⟨_, us, ha, t⟩ := S.ob n a _ e1 eo; exact ⟨_, a, us, q, rfl, .inr (SqL.of ha), t⟩
      | _ => exact q.elim
  | fn _ => exact q.elim
  | exc _ _ => exact q.elim
theorem sg_tup {k : Nat} (hK : X.K = w.K) (hc : X.calm = true) (h : SGs X w F es t) (hs : ∀ e ∈ es, ∀ x p, e ≠ .Starred x p) (hl : tlen t = es.length) : SG X w F (.Tuple es k pos) (.ttp t) := by
  obtain ⟨a1, a2⟩ := assignEach_ok (env := X.env) hs
  refine pg_imp (pg_or (pg_tup (k := k) hc h a1 a2) (pg_lst (k := k) hc h a1 a2)) fun u s H Q h => ?_
  obtain ⟨f, r, G, env, h, v, P, S, E, rv, wp, q⟩ := h
  have wp : partsV h v fun vs => vs.length = tlen t ∧ WAs F t vs env h P := wp
  obtain ⟨vs, a, us, ⟨l, wp⟩, rfl, hq, t⟩ := parts_ok S rv wp
  have lu : us.length = es.length := by rw [← rvAll_len t, l, hl]
  rw [← hK] at hq
  rcases hq with hq | hq
  · exact .inl ⟨a, us, rfl, hq, lu, f, r, G, env, h, vs, P, S, E, t, wp, q⟩
  · exact .inr ⟨a, us, rfl, hq, lu, f, r, G, env, h, vs, P, S, E, t, wp, q⟩
/-- o[i] = v by values -/
def rSet (w : Wo) : TSet := fun o i v H Q => ∃ f r G h v1 v2 v3 P, Sim w f r G h H ∧ Rv w r G v1 o ∧ Rv w r G v2 i ∧ Rv w r G v3 v ∧ setV v1 v2 v3 h P ∧ ∀ h' r' G' H', P h' → Ext r G r' G' → Sim w f r' G' h' H' → Q H'
theorem noslice {o i : Expr} {env : PySem.Env} (h : ∀ a b c p, i ≠ .Slice a b c p) : ∀ v, assign (.Subscript o i pos) env v = (do
      let ov ← holding [v] (eval o env)
      let iv ← holding [v, ov] (eval i env)
      standAt pos
      holding [v, ov, iv] (setItem ov iv v)
      release [v, ov, iv] []) := by
  intro v
  cases i <;> first | rfl | exact absurd rfl (h _ _ _ _)
theorem sg_sub (hst : PSet X (rSet w)) (ho : SE X w F W e t1) (hi : SE X w F W e2 t2) (hn : ∀ a b c p, e2 ≠ .Slice a b c p) : SG X w F (.Subscript e e2 pos) (.tsb t1 t2) :=
  pg_imp (pg_sub ho hi hst (noslice hn)) fun u s H Q h => by
    obtain ⟨f, r, G, env, h, v, P, S, E, rv, wp, q⟩ := h
    refine ⟨f, r, G, env, h, _, _, S, E, wp, fun v1 h1 u1 r1 G1 H1 w1 e1 S1 rv1 => ?_, XOk.never⟩
    refine ⟨f, r1, G1, env, h1, _, _, S1, E.mono e1, w1, fun v2 h2 u2 r2 G2 H2 w2 e2 S2 rv2 => ?_, XOk.never⟩
    exact ⟨f, r2, G2, h2, v1, v2, v, _, S2, Rv.mono e2 _ _ rv1, rv2, Rv.mono (e1.trans e2) _ _ rv, w2, fun h3 r3 G3 H3 p3 e3 S3 => q env h3 s r3 G3 H3 p3 ((e1.trans e2).trans e3) S3 (E.mono ((e1.trans e2).trans e3))⟩
end

/-! ### statements -/
structure KOk (w : Wo) (W : WX) (f : L2.Hp) (r : List Addr) (G : L2.Hp) (n : Nx) (k : Kk) (D : Ends) : Prop where
  nx : GOk w f r G n D.nx
  rt : QOk w f r G k.rt D.rt
  bk : GOk w f r G k.bk D.bk
  ct : GOk w f r G k.ct D.ct
  xe : ∀ v env' h' s' r' G' H' c d, k.xe v env' h' → Ext r G r' G' → Sim w f r' G' h' H' → EnvR w r' G' env' s' → ExR w r' G' H' v c d → W c d s' H'
theorem KOk.mono {w : Wo} {W : WX} {f : L2.Hp} {r r1 : List Addr} {G G1 : L2.Hp} {n : Nx} {k : Kk} {D : Ends} (q : KOk w W f r G n k D) (e : Ext r G r1 G1) : KOk w W f r1 G1 n k D :=
  ⟨q.nx.mono e, q.rt.mono e, q.bk.mono e, q.ct.mono e, fun v env h s r' G' H c d p x => q.xe v env h s r' G' H c d p (e.trans x)⟩
theorem KOk.x {w : Wo} {W : WX} {f : L2.Hp} {r : List Addr} {G : L2.Hp} {n : Nx} {k : Kk} {D : Ends} {env : Env} {s : Sg} (q : KOk w W f r G n k D) (E : EnvR w r G env s) : XOk w f r G (fun x h1 => k.xe x env h1) (fun c d H' => W c d s H') :=
  fun v h' r' G' H' c d p e S x => q.xe v env h' s r' G' H' c d p e S (E.mono e) x
def rdS (w : Wo) (F : Phi) (W : WX) (t : T) : TS := fun D s H => ∃ f r G env h n k, Sim w f r G h H ∧ EnvR w r G env s ∧ WS F t env h n k ∧ KOk w W f r G n k D
def rdSs (w : Wo) (F : Phi) (W : WX) (t : T) : TS := fun D s H => ∃ f r G env h n k, Sim w f r G h H ∧ EnvR w r G env s ∧ WSs F t env h n k ∧ KOk w W f r G n k D
abbrev SS (X : Cx) (w : Wo) (F : Phi) (W : WX) (st : Stmt) (t : T) : Prop := PS X st (rdS w F W t)
abbrev SSs (X : Cx) (w : Wo) (F : Phi) (W : WX) (st : List Stmt) (t : T) : Prop := PSs X st (rdSs w F W t)
section
variable {X : Cx} {w : Wo} {F : Phi} {W : WX} {e e2 tg it : Expr} {es : List Expr} {st : Stmt} {a b body rest : List Stmt} {t t1 t2 t3 : T} {pos : Pos}
theorem ss_pass : SS X w F W (.Pass pos) .pas := ps_imp ps_pass fun D s H h => by
  obtain ⟨f, r, G, env, h, n, k, S, E, wp, q⟩ := h
  exact q.nx env h s r G H wp Ext.refl S E
theorem ss_brk : SS X w F W (.Break pos) .brk := ps_imp ps_break fun D s H h => by
  obtain ⟨f, r, G, env, h, n, k, S, E, wp, q⟩ := h
  exact q.bk env h s r G H wp Ext.refl S E
theorem ss_cnt : SS X w F W (.Continue pos) .cnt := ps_imp ps_continue fun D s H h => by
  obtain ⟨f, r, G, env, h, n, k, S, E, wp, q⟩ := h
  exact q.ct env h s r G H wp Ext.refl S E
theorem ss_ret0 : SS X w F W (.Return none pos) .ret0 := ps_imp ps_retN fun D s H h => by
  obtain ⟨f, r, G, env, h, n, k, S, E, wp, q⟩ := h
  exact q.rt _ h .non r G H wp Ext.refl S rfl
theorem ss_ret (he : SE X w F W e t) : SS X w F W (.Return (some e) pos) (.ret t) := ps_imp (ps_ret he) fun D s H h => by
  obtain ⟨f, r, G, env, h, n, k, S, E, wp, q⟩ := h
  exact ⟨f, r, G, env, h, _, _, S, E, wp, q.rt, q.x E⟩
theorem ss_exp (he : SE X w F W e t) (hs : swapsWith e none pos.line X.env = pure false) : SS X w F W (.Expr e pos) (.exp t) := ps_imp (ps_expr he hs) fun D s H h => by
  obtain ⟨f, r, G, env, h, n, k, S, E, wp, q⟩ := h
  exact ⟨f, r, G, env, h, _, _, S, E, wp, fun v h1 u r1 G1 H1 p e1 S1 _ => q.nx env h1 s r1 G1 H1 p e1 S1 (E.mono e1), q.x E⟩
theorem ss_if (hc : ST X w F W e t1) (ha : SSs X w F W a t2) (hb : SSs X w F W b t3) : SS X w F W (.If e a b pos) (.ifs t1 t2 t3) := ps_imp (ps_if hc ha hb) fun D s H h => by
  obtain ⟨f, r, G, env, h, n, k, S, E, wp, q⟩ := h
  refine ⟨f, r, G, env, h, _, _, S, E, wp, fun v h1 r1 G1 H1 p e1 S1 => ?_, q.x E⟩
  obtain ⟨c, rfl, p⟩ := boolP_of p
  refine ⟨c, rfl, ?_⟩
  cases c with
  | true => rw [if_pos rfl]; exact ⟨f, r1, G1, env, h1, n, k, S1, E.mono e1, p, q.mono e1⟩
  | false => rw [if_neg Bool.false_ne_true]; exact ⟨f, r1, G1, env, h1, n, k, S1, E.mono e1, p, q.mono e1⟩
theorem ss_set {i : Nat} {x : Str} {pos' : Pos} (hN : X.N.Nodup) (hi : X.N[i]? = some x) (hx : Loc X.env.scope x) (he : SE X w F W e t) (hs : swapsWith e (some (.Name x pos')) pos.line X.env = pure false) (hf : X.fn x = true ∨ X.env.scope.names.lookup x = some .local) :
    SS X w F W (.Assign [.Name x pos'] e pos) (.asg (.tnm i) t) := ps_imp (ps_set hN hi hx he hs hf) fun D s H h => by
  obtain ⟨f, r, G, env, h, n, k, S, E, wp, q⟩ := h
  exact ⟨f, r, G, env, h, _, _, S, E, wp, fun v h1 u r1 G1 H1 p e1 S1 rv => q.nx _ h1 _ r1 G1 H1 p e1 S1 ((E.mono e1).set rv i), q.x E⟩
theorem ss_asg (he : SE X w F W e t) (hg : SG X w F tg t1) (hs : swapsWithSole [tg] e pos.line X.env = pure false) (hw : swappedStores [tg] e X.env = pure none) (hn : ∀ x p, tg ≠ .Starred x p) : SS X w F W (.Assign [tg] e pos) (.asg t1 t) :=
  ps_imp (ps_asg he hg hs hw (by rw [nostarA hn]; rfl)) fun D s H h => by
    obtain ⟨f, r, G, env, h, n, k, S, E, wp, q⟩ := h
    refine ⟨f, r, G, env, h, _, _, S, E, wp, fun v h1 u r1 G1 H1 p e1 S1 rv => ?_, q.x E⟩
    exact ⟨f, r1, G1, env, h1, v, n, S1, E.mono e1, rv, p, q.nx.mono e1⟩
/-- x op= y by values -/
def rAug (w : Wo) (o : O2) : TIp := fun x y H Q => ∃ f r G h v1 v2 P, Sim w f r G h H ∧ Rv w r G v1 x ∧ Rv w r G v2 y ∧ augV o v1 v2 P ∧ ∀ z u, P z → Rv w r G z u → Q u H
theorem ss_augn {i : Nat} {x : Str} {op : Operator} {o : O2} {pos' : Pos} (hN : X.N.Nodup) (hi : X.N[i]? = some x) (hx : Loc X.env.scope x) (he : SE X w F W e t) (ho : PIp X op (rAug w o)) (hf : X.fn x = true ∨ X.env.scope.names.lookup x = some .local) :
    SS X w F W (.AugAssign (.Name x pos') op e pos) (.augn o i t) := ps_imp (ps_aug hN hi hx he ho hf) fun D s H h => by
  obtain ⟨f, r, G, env, h, n, k, S, E, wp, q⟩ := h
  obtain ⟨ov, eo, wp⟩ := optP_of wp
  obtain ⟨v, rfl, wp⟩ := optP_of wp
  obtain ⟨u, eu, rv⟩ := E.2 i v eo
  refine ⟨u, eu, f, r, G, env, h, _, _, S, E, wp, fun v2 h1 u2 r1 G1 H1 p e1 S1 rv2 => ?_, q.x E⟩
  exact ⟨f, r1, G1, h1, v, v2, _, S1, Rv.mono e1 _ _ rv, rv2, p, fun z u' pz rz => q.nx _ h1 _ r1 G1 H1 pz e1 S1 ((E.mono e1).set rz i)⟩
theorem noslice2 {i : Expr} (h : ∀ a b c p, i ≠ .Slice a b c p) : ∀ ov iv new, augStore i ov iv new = (do holding [new, ov, iv] (setItem ov iv new); release [new, ov, iv] []; pure .next) := by
  intro ov iv new
  cases i <;> first | rfl | exact absurd rfl (h _ _ _ _)
theorem ss_augs {op : Operator} {o : O2} {tpos : Pos} (hst : PSet X (rSet w)) (hgt : PGet X (rO2 w idxV)) (ho : PIp X op (rAug w o)) (h1 : SE X w F W e t1) (h2 : SE X w F W e2 t2) (h3 : SE X w F W tg t3) (hn : ∀ a b c p, e2 ≠ .Slice a b c p) :
    SS X w F W (.AugAssign (.Subscript e e2 tpos) op tg pos) (.augs o t1 t2 t3) := ps_imp (ps_augS h1 h2 hgt h3 ho hst (noslice2 hn)) fun D s H h => by
  obtain ⟨f, r, G, env, h, n, k, S, E, wp, q⟩ := h
  refine ⟨f, r, G, env, h, _, _, S, E, wp, fun v1 h1 u1 r1 G1 H1 w1 e1 S1 rv1 => ?_, q.x E⟩
  refine ⟨f, r1, G1, env, h1, _, _, S1, E.mono e1, w1, fun v2 h2 u2 r2 G2 H2 w2 e2 S2 rv2 => ?_, (q.mono e1).x (E.mono e1)⟩
  refine ⟨f, r2, G2, h2, v1, v2, _, S2, Rv.mono e2 _ _ rv1, rv2, w2, fun z u3 r3 G3 H3 w3 e3 S3 rz => ?_⟩
  have e13 := (e1.trans e2).trans e3
  refine ⟨f, r3, G3, env, h2, _, _, S3, E.mono e13, w3, fun v4 h4 u4 r4 G4 H4 w4 e4 S4 rv4 => ?_, (q.mono e13).x (E.mono e13)⟩
  refine ⟨f, r4, G4, h4, z, v4, _, S4, Rv.mono e4 _ _ rz, rv4, w4, fun z5 u5 w5 rz5 => ?_⟩
  exact ⟨f, r4, G4, h4, v1, v2, z5, _, S4, Rv.mono ((e2.trans e3).trans e4) _ _ rv1, Rv.mono (e3.trans e4) _ _ rv2, rz5, w5, fun h6 r6 G6 H6 p6 e6 S6 => q.nx env h6 s r6 G6 H6 p6 ((e13.trans e4).trans e6) S6 (E.mono ((e13.trans e4).trans e6))⟩
theorem sss_nil : SSs X w F W [] .nil := pss_imp pss_nil fun D s H h => by
  obtain ⟨f, r, G, env, h, n, k, S, E, wp, q⟩ := h
  exact q.nx env h s r G H wp Ext.refl S E
theorem sss_cons (h1 : SS X w F W st t1) (h2 : SSs X w F W rest t2) : SSs X w F W (st :: rest) (.cons t1 t2) := pss_imp (pss_cons h1 h2) fun D s H h => by
  obtain ⟨f, r, G, env, h, n, k, S, E, wp, q⟩ := h
  exact ⟨f, r, G, env, h, _, k, S, E, wp, ⟨fun env1 h1 s1 r1 G1 H1 p e1 S1 E1 => ⟨f, r1, G1, env1, h1, n, k, S1, E1, p, q.mono e1⟩, q.rt, q.bk, q.ct, q.xe⟩⟩
theorem sss_kill {ks : List Nat} (h : SSs X w F W rest t) : SSs X w F W rest (.cons (.kill ks) t) := pss_imp h fun D s H h => by
  obtain ⟨f, r, G, env, h, n, k, S, E, wp, q⟩ := h
  exact ⟨f, r, G, _, h, n, k, S, E.kill ks, wp, q⟩
theorem frz_cells {f H : L2.Hp} {r : List Addr} : ∀ {xs : List V} {us : List L2.V} {G : L2.Hp} {h h' : Hp} {ds : List D}, Sim w f r G h H → RvAll w r G xs us → frzL h xs = some (ds, h') → ∃ G', Sim w f r G' h' H ∧ Ext r G r G' ∧ RpAll w.K G' ds us
  | [], us, G, h, h', ds, S, t, e => by
    cases e
    exact ⟨G, S, Ext.refl, t⟩
  | .cell m :: xs, us, G, h, h', ds, S, t, e => by
    obtain ⟨u, us, rfl, ⟨a, er, rfl⟩, t⟩ := t
    unfold frzL at e
    cases em : h[m]? with
    | none => simp only [em] at e; cases e
    | some o =>
      cases o with
      | lst ys =>
        simp only [em] at e
        obtain ⟨⟨ds', h2⟩, e2, e3⟩ := Option.map_eq_some_iff.mp e
        cases e3
        obtain ⟨vs, ha, S1, x1, rp⟩ := S.freeze er em
        obtain ⟨G2, S2, x2, rp2⟩ := frz_cells S1 (RvAll.mono x1 _ _ t) e2
        exact ⟨G2, S2, x1.trans x2, _, _, rfl, Rp.mono x2.sub _ _ rp, rp2⟩
      | _ => simp only [em] at e; cases e
  | .d _ :: _, _, _, _, _, _, _, _, e => by cases e
  | .vt _ :: _, _, _, _, _, _, _, _, e => by cases e
  | .fn _ :: _, _, _, _, _, _, _, _, e => by cases e
  | .exc _ _ :: _, _, _, _, _, _, _, _, e => by cases e
theorem sss_frz {i : Nat} (h : SSs X w F W rest t) : SSs X w F W rest (.cons (.frz i) t) := pss_imp h fun D s H h => by
  obtain ⟨f, r, G, env, h, n, k, S, E, wp, q⟩ := h
  have wp : (match env[i]? with
    | some (some (.cell m)) => (match h[m]? with
      | some (.lst xs) => WSs F t (env.set i (some (.d (.list xs)))) (h.set m .dead) n k
      | some (.dct _ kvs) => WSs F t (env.set i (some (.d (.dict kvs)))) (h.set m .dead) n k
      | some (.lv xs) => optP (frzL (h.set m .dead) xs) fun p => WSs F t (env.set i (some (.d (.list p.1)))) p.2 n k
      | _ => False)
    | some (some (.d x)) => WSs F t env h n k
    | _ => False) := wp
  cases eo : env[i]? with
  | none => rw [eo] at wp; exact wp.elim
  | some ov =>
    rw [eo] at wp
    cases ov with
    | none => exact wp.elim
    | some v =>
      cases v with
      | d x => exact ⟨f, r, G, _, h, n, k, S, E, wp, q⟩
      | cell m =>
        have wp : (match h[m]? with
          | some (.lst xs) => WSs F t (env.set i (some (.d (.list xs)))) (h.set m .dead) n k
          | some (.dct _ kvs) => WSs F t (env.set i (some (.d (.dict kvs)))) (h.set m .dead) n k
          | some (.lv xs) => optP (frzL (h.set m .dead) xs) fun p => WSs F t (env.set i (some (.d (.list p.1)))) p.2 n k
          | _ => False) := wp
        cases em : h[m]? with
        | none => rw [em] at wp; exact wp.elim
        | some o =>
          rw [em] at wp
          cases o with
          | lst xs =>
            obtain ⟨u, eu, a, er, rfl⟩ := E.2 i _ eo
            obtain ⟨us, ha, S2, e2, rp⟩ := S.freeze er em
            refine ⟨f, r, _, _, _, n, k, S2, ?_, wp, q.mono e2⟩
            have E2 := (E.mono e2).set (v := .d (.list xs)) rp i
            have es : s.set i (some (.ref a)) = s := by
              apply List.ext_getElem?
              intro j
              by_cases hj : i = j
              · subst hj
                rw [List.getElem?_set_self (List.getElem?_eq_some_iff.mp eu).1, eu]
              · rw [List.getElem?_set_ne hj]
            rw [es] at E2
            exact E2
          | lv xs =>
            obtain ⟨u, eu, a, er, rfl⟩ := E.2 i _ eo
            obtain ⟨p, ep, wp⟩ := optP_of wp
            obtain ⟨ds, h2⟩ := p
            obtain ⟨g, us, ha, tv⟩ := S.ob m a _ er em
            obtain ⟨S1, x1⟩ := S.freezeO er em g ha (fun b z => nomatch z)
            obtain ⟨G2, S2, x2, rp⟩ := frz_cells S1 (RvAll.mono x1 _ _ tv) ep
            have rp2 : Rp w.K G2 (.list ds) (.ref a) := ⟨a, us, rfl, .inl (.inl (x2.sub _ _ upd_same)), rp⟩
            refine ⟨f, r, _, _, _, n, k, S2, ?_, wp, q.mono (x1.trans x2)⟩
            have E2 := (E.mono (x1.trans x2)).set (v := .d (.list ds)) rp2 i
            have es : s.set i (some (.ref a)) = s := by
              apply List.ext_getElem?
              intro j
              by_cases hj : i = j
              · subst hj
                rw [List.getElem?_set_self (List.getElem?_eq_some_iff.mp eu).1, eu]
              · rw [List.getElem?_set_ne hj]
            rw [es] at E2
            exact E2
          | dct tk kvs =>
            obtain ⟨u, eu, a, er, rfl⟩ := E.2 i _ eo
            obtain ⟨G2, S2, e2, rp⟩ := S.freezeD er em
            refine ⟨f, r, _, _, _, n, k, S2, ?_, wp, q.mono e2⟩
            have E2 := (E.mono e2).set (v := .d (.dict kvs)) rp i
            have es : s.set i (some (.ref a)) = s := by
              apply List.ext_getElem?
              intro j
              by_cases hj : i = j
              · subst hj
                rw [List.getElem?_set_self (List.getElem?_eq_some_iff.mp eu).1, eu]
              · rw [List.getElem?_set_ne hj]
            rw [es] at E2
            exact E2
          | _ => exact wp.elim
      | _ => exact wp.elim
/-! ### loops -/
theorem ss_for (hp : PassesOwn (model X.prog X.w) X.A X.env X.xe) (hc : X.calm = true) (hi : SI X w F W tg it t1) (hg : SG X w F tg t2) (hb : SSs X w F W body t3) (hs : ∀ x, foldedSetIterable it X.env x = pure x) : SS X w F W (.For tg it body [] pos) (.for_ t2 t1 t3) :=
  ps_imp (ps_for hp hc hi hg hb hs) fun D s H h => by
    obtain ⟨f, r, G, env, h, n, k, S, E, wp, q⟩ := h
    refine ⟨f, r, G, env, h, _, _, S, E, wp, fun chk xs h1 r1 G1 H1 J p e1 S1 sv => ?_, q.x E⟩
    refine ⟨fun i m s' H' => m = xs.length - i ∧ i ≤ xs.length ∧ ∃ r' G' env' h', Ext r1 G1 r' G' ∧ Sim w f r' G' h' H' ∧ EnvR w r' G' env' s' ∧ forW chk (fun x e h2 n2 k2 => WA F t2 x e h2 fun e1 h3 => WSs F t3 e1 h3 n2 k2) (xs.drop i) env' h' n k,
      ⟨xs.length, by simp, Nat.zero_le _, r1, G1, env, h1, Ext.refl, S1, E.mono e1, by rw [List.drop_zero]; exact p⟩, ?_⟩
    rintro i m s' H' ⟨rfl, hi, r', G', env', h', e', S', E', wf⟩
    by_cases hlt : i < xs.length
    · rw [List.drop_eq_getElem_cons hlt] at wf
      obtain ⟨hchk, wf⟩ := forW_ic wf
      obtain ⟨go, yl⟩ := sv.1 f i r' G' h' H' e' S' hchk hlt
      refine .inr ⟨go, fun s2 H2 => ∃ r2 G2 env2 h2, Ext r1 G1 r2 G2 ∧ Sim w f r2 G2 h2 H2 ∧ EnvR w r2 G2 env2 s2 ∧ forW chk (fun x e h2 n2 k2 => WA F t2 x e h2 fun e1 h3 => WSs F t3 e1 h3 n2 k2) (xs.drop (i + 1)) env2 h2 n k,
        fun s2 H2 hN => ⟨xs.length - (i + 1), by omega, rfl, hlt, hN⟩, fun x H2 y => ?_⟩
      obtain ⟨G2, v, e2, S2, ev, rv⟩ := yl x H2 y
      rw [List.getElem?_eq_getElem hlt] at ev
      cases ev
      refine ⟨f, r', G2, env', h', _, _, S2, E'.mono e2, rv, wf, fun env3 h3 s3 r3 G3 H3 p3 e3 S3 E3 => ?_⟩
      have e03 := (e'.trans e2).trans e3
      have q3 := q.mono (e1.trans e03)
      refine ⟨f, r3, G3, env3, h3, _, _, S3, E3, p3, ⟨?_, q3.rt, q3.nx, ?_, q3.xe⟩⟩
      · intro env4 h4 s4 r4 G4 H4 p4 e4 S4 E4
        exact ⟨r4, G4, env4, h4, e03.trans e4, S4, E4, p4⟩
      · intro env4 h4 s4 r4 G4 H4 p4 e4 S4 E4
        exact ⟨r4, G4, env4, h4, e03.trans e4, S4, E4, p4⟩
    · have e : i = xs.length := by omega
      subst e
      rw [List.drop_length] at wf
      obtain ⟨hchk, wf⟩ := forW_in wf
      exact .inl ⟨sv.2 f r' G' h' H' e' S' hchk, q.nx env' h' s' r' G' H' wf (e1.trans e') S' E'⟩
theorem ss_whl (hp : PassesOwn (model X.prog X.w) X.A X.env X.xe) (hc : ST X w F W e t1) (hb : SSs X w F W body t2) : SS X w F W (.While e body [] pos) (.whl t1 t2) :=
  ps_imp (ps_while hp hc hb) fun D s H h => by
    obtain ⟨f, r, G, env, h, n, k, S, E, ⟨m, wp⟩, q⟩ := h
    refine ⟨fun m s' H' => ∃ r' G' env' h', Ext r G r' G' ∧ Sim w f r' G' h' H' ∧ EnvR w r' G' env' s' ∧ whileN (fun e h1 Q => WE F t1 e h1 (fun v h2 => boolP v fun t => Q t h2) (fun _ _ => False)) (fun e h1 n1 k1 => WSs F t2 e h1 n1 k1) m env' h' n k, ⟨m, r, G, env, h, Ext.refl, S, E, wp⟩, ?_⟩
    rintro m s' H' ⟨r', G', env', h', e', S', E', wp⟩
    cases m with
    | zero => exact (whileN_i0 wp).elim
    | succ m =>
      refine ⟨f, r', G', env', h', _, _, S', E', whileN_is wp, fun v h1 r1 G1 H1 p e1 S1 => ?_, XOk.never⟩
      obtain ⟨c, rfl, p⟩ := boolP_of p
      refine ⟨c, rfl, ?_⟩
      have q1 := q.mono (e'.trans e1)
      dsimp only
      cases c with
      | false => rw [if_neg Bool.false_ne_true]; exact q1.nx env' h1 s' r1 G1 H1 p Ext.refl S1 (E'.mono e1)
      | true =>
        rw [if_pos rfl]
        refine ⟨fun s2 H2 => ∃ r2 G2 env2 h2, Ext r G r2 G2 ∧ Sim w f r2 G2 h2 H2 ∧ EnvR w r2 G2 env2 s2 ∧ whileN (fun e h1 Q => WE F t1 e h1 (fun v h2 => boolP v fun t => Q t h2) (fun _ _ => False)) (fun e h1 n1 k1 => WSs F t2 e h1 n1 k1) m env2 h2 n k, fun s2 H2 hN => ⟨m, Nat.lt_succ_self m, hN⟩, ?_⟩
        refine ⟨f, r1, G1, env', h1, _, _, S1, E'.mono e1, p, ⟨?_, q1.rt, q1.nx, ?_, q1.xe⟩⟩
        · intro env4 h4 s4 r4 G4 H4 p4 e4 S4 E4
          exact ⟨r4, G4, env4, h4, (e'.trans e1).trans e4, S4, E4, p4⟩
        · intro env4 h4 s4 r4 G4 H4 p4 e4 S4 E4
          exact ⟨r4, G4, env4, h4, (e'.trans e1).trans e4, S4, E4, p4⟩
end
end Hb

/-! SND5: comprehensions. -/
namespace Hb
open PySem PySem.Spec PyProof.Rows
open L2 hiding V Hp St
set_option autoImplicit false
section
variable {w : Wo} {f : L2.Hp} {r : List Addr} {G H : L2.Hp} {h : Hp} {p : Addr} {us : List L2.V}
/-- the list that is being made is guarded -/
theorem Sim.guard (S : Sim w f r G h H) (hp : H p = none) : Sim w (upd f p (.lst us)) r G h (upd H p (.lst us)) := by
  obtain ⟨g, hf, hr⟩ := S.fresh hp
  refine ⟨fun a q e => ?_, S.gn, fun a q e => ?_, fun a q e => ?_, fun n a e => ?_, S.len, S.nd, fun n a q e1 e2 => ?_⟩
  · rw [upd_ne (ne_of_none e g)]; exact S.sub _ _ e
  · rcases upd_get e with ⟨rfl, rfl⟩ | ⟨hb, e⟩
    · exact upd_same
    · rw [upd_ne hb]; exact S.fr _ _ e
  · rcases upd_get e with ⟨rfl, rfl⟩ | ⟨hb, e⟩
    · exact g
    · exact S.fg _ _ e
  · have hb : a ≠ p := fun z => hr n (z ▸ e)
    rw [upd_ne hb]; exact S.fc n a e
  · have hb : a ≠ p := fun z => hr n (z ▸ e1)
    exact (S.ob n a q e1 e2).mono Ext.refl (fun z => z) (fun x z => by rw [upd_ne hb]; exact z) fun b z => by rw [upd_ne (ne_of_none z hp)]; exact z
/-- .. and grows -/
theorem Sim.regard {vs : List L2.V} (S : Sim w (upd f p (.lst us)) r G h H) : Sim w (upd f p (.lst vs)) r G h (upd H p (.lst vs)) := by
  have hp : H p = some (.lst us) := S.fr _ _ upd_same
  have g : G p = none := S.fg p _ upd_same
  have hr : ∀ n : Nat, r[n]? ≠ some p := fun n e => by have := S.fc n p e; rw [upd_same] at this; cases this
  refine ⟨fun a q e => ?_, S.gn, fun a q e => ?_, fun a q e => ?_, fun n a e => ?_, S.len, S.nd, fun n a q e1 e2 => ?_⟩
  · rw [upd_ne (ne_of_none e g)]; exact S.sub _ _ e
  · rcases upd_get e with ⟨rfl, rfl⟩ | ⟨hb, e⟩
    · exact upd_same
    · rw [upd_ne hb]; exact S.fr a q (by rw [upd_ne hb]; exact e)
  · rcases upd_get e with ⟨rfl, rfl⟩ | ⟨hb, e⟩
    · exact g
    · exact S.fg a q (by rw [upd_ne hb]; exact e)
  · have hb : a ≠ p := fun z => hr n (z ▸ e)
    have := S.fc n a e
    rw [upd_ne hb] at this ⊢
    exact this
  · have hb : a ≠ p := fun z => hr n (z ▸ e1)
    exact (S.ob n a q e1 e2).mono Ext.refl (fun z => z) (fun x z => by rw [upd_ne hb]; exact z) fun b z => by rw [upd_ne (fun y => by subst y; rw [hp] at z; cases z)]; exact z
/-- .. and is data in the end -/
theorem Sim.unguard (S : Sim w (upd f p (.lst us)) r G h H) (hf : f p = none) : Sim w f r (upd G p (.lst us)) h H ∧ Ext r G r (upd G p (.lst us)) := by
  have hp : H p = some (.lst us) := S.fr _ _ upd_same
  have g : G p = none := S.fg p _ upd_same
  have hr : ∀ n : Nat, r[n]? ≠ some p := fun n e => by have := S.fc n p e; rw [upd_same] at this; cases this
  have ex : Ext r G r (upd G p (.lst us)) := ⟨fun _ _ e => e, sub_upd g⟩
  refine ⟨⟨fun a q e => ?_, fun a b e => ?_, fun a q e => ?_, fun a q e => ?_, fun n a e => ?_, S.len, S.nd, fun n a q e1 e2 => ?_⟩, ex⟩
  · rcases upd_get e with ⟨rfl, rfl⟩ | ⟨hb, e⟩
    · exact hp
    · exact S.sub _ _ e
  · rcases upd_get e with ⟨_, z⟩ | ⟨_, e⟩
    · cases z
    · exact S.gn _ _ e
  · exact S.fr a q (by rw [upd_ne (ne_of_none e hf)]; exact e)
  · rw [upd_ne (ne_of_none e hf)]; exact S.fg a q (by rw [upd_ne (ne_of_none e hf)]; exact e)
  · have hb : a ≠ p := fun z => hr n (z ▸ e)
    have := S.fc n a e
    rw [upd_ne hb] at this
    exact this
  · have hb : a ≠ p := fun z => hr n (z ▸ e1)
    exact (S.ob n a q e1 e2).mono ex (fun z => by rw [upd_ne hb]; exact z) (fun x z => z) fun _ z => z
/-- .. or a new cell -/
theorem Sim.uncell (S : Sim w (upd f p (.lst us)) r G h H) (hf : f p = none) {vs : List V} (rv : RvAll w r G vs us) : Sim w f (r ++ [p]) G (h ++ [mkOb vs]) H ∧ Ext r G (r ++ [p]) G ∧ (r ++ [p])[h.length]? = some p := by
  have hp : H p = some (.lst us) := S.fr _ _ upd_same
  have g : G p = none := S.fg p _ upd_same
  have hr : ∀ n : Nat, r[n]? ≠ some p := fun n e => by have := S.fc n p e; rw [upd_same] at this; cases this
  have ex : Ext r G (r ++ [p]) G := ⟨fun n a e => by rw [List.getElem?_append_left (List.getElem?_eq_some_iff.mp e).1]; exact e, fun _ _ e => e⟩
  have last : (r ++ [p])[h.length]? = some p := by rw [← S.len]; simp
  have cases' : ∀ (n : Nat) a, (r ++ [p])[n]? = some a → r[n]? = some a ∨ (n = r.length ∧ a = p) := fun n a e => by
    rcases Nat.lt_or_ge n r.length with z | z
    · rw [List.getElem?_append_left z] at e; exact .inl e
    · rw [List.getElem?_append_right z] at e
      obtain ⟨z2, e2⟩ := List.getElem?_eq_some_iff.mp e
      have : n - r.length = 0 := by simp at z2; omega
      refine .inr ⟨by omega, ?_⟩
      simp [this] at e2
      exact e2.symm
  have eu : upd H p (.lst us) = H := by
    funext b
    by_cases hb : b = p
    · subst hb; rw [upd_same, hp]
    · rw [upd_ne hb]
  refine ⟨⟨S.sub, S.gn, fun a q e => S.fr a q (by rw [upd_ne (ne_of_none e hf)]; exact e), fun a q e => S.fg a q (by rw [upd_ne (ne_of_none e hf)]; exact e), fun n a e => ?_, by simp [S.len], ?_, fun n a q e1 e2 => ?_⟩, ex, last⟩
  · rcases cases' n a e with z | ⟨_, rfl⟩
    · have hb : a ≠ p := fun y => hr n (y ▸ z)
      have := S.fc n a z
      rw [upd_ne hb] at this
      exact this
    · exact hf
  · rw [List.nodup_append]
    refine ⟨S.nd, by simp, fun a ha b hb z => ?_⟩
    simp at hb
    subst hb
    subst z
    obtain ⟨i, hi⟩ := List.getElem?_of_mem ha
    exact hr i hi
  · rcases cases' n a e1 with z | ⟨rfl, rfl⟩
    · have hn : n < h.length := by rw [← S.len]; exact (List.getElem?_eq_some_iff.mp z).1
      rw [List.getElem?_append_left hn] at e2
      exact (S.ob n a q z e2).mono ex (fun y => y) (fun x y => y) fun _ y => y
    · rw [S.len] at e2
      simp at e2
      subst e2
      have := ob_mk (H := H) g (RvAll.mono ex _ _ rv)
      rw [eu] at this
      exact this
/-- the made list handed out -/
theorem mkL_end {r0 : List Addr} {G0 : L2.Hp} {o : Bool} {vs : List V} {P : Pv} {Q : VK} (q : QOk w f r0 G0 P Q) (m : mkL o vs h P) (e1 : Ext r0 G0 r G) (S : Sim w (upd f p (.lst us)) r G h H) (hf : f p = none) (rv : RvAll w r G vs us) : Q (.ref p) H := by
  cases o with
  | false =>
    have m : optP (allD vs) fun ds => P (.d (.list ds)) h := m
    obtain ⟨ds, e, m'⟩ := optP_of m
    have e3 := allD_map e
    subst e3
    obtain ⟨S2, e2⟩ := S.unguard hf
    exact q (.d (.list ds)) h (.ref p) r _ _ m' (e1.trans e2) S2 ⟨p, us, rfl, .inl (.inl upd_same), RpAll.mono e2.sub _ _ (rvAll_d.mp rv)⟩
  | true =>
    have m : P (.cell h.length) (h ++ [mkOb vs]) := m
    obtain ⟨S2, e2, el⟩ := S.uncell hf rv
    exact q _ _ (.ref p) _ _ _ m (e1.trans e2) S2 ⟨p, el, rfl⟩
end
/-! ### targets of a comprehension: its own slots alone -/
def CGOk (w : Wo) (ws : List Nat) (s : Sg) (f : L2.Hp) (r : List Addr) (G : L2.Hp) (P : Env → Hp → Prop) (Q : Sg → L2.Hp → Prop) : Prop :=
  ∀ env' h' s' r' G' H', P env' h' → Ext r G r' G' → Sim w f r' G' h' H' → EnvR w r' G' env' s' → wipe s' ws = wipe s ws → Q s' H'
def rdC (w : Wo) (F : Phi) (ws : List Nat) (t : T) : TG := fun u s H Q => ∃ f r G env h v P, Sim w f r G h H ∧ EnvR w r G env s ∧ Rv w r G v u ∧ WA F t v env h P ∧ CGOk w ws s f r G P Q
def rdCs (w : Wo) (F : Phi) (ws : List Nat) (t : T) : TGs := fun us s H Q => ∃ f r G env h vs P, Sim w f r G h H ∧ EnvR w r G env s ∧ RvAll w r G vs us ∧ WAs F t vs env h P ∧ CGOk w ws s f r G P Q
theorem wipe_set {i : Nat} {o : Option L2.V} : ∀ {ws : List Nat} {s : Sg}, i ∈ ws → wipe (s.set i o) ws = wipe s ws
  | v :: vs, s, h => by
    by_cases hm : i ∈ vs
    · show (wipe (s.set i o) vs).set v none = (wipe s vs).set v none
      rw [wipe_set hm]
    · have e : i = v := by
        rcases List.mem_cons.mp h with z | z
        · exact z
        · exact absurd z hm
      subst e
      apply List.ext_getElem?
      intro j
      show ((wipe (s.set i o) vs).set i none)[j]? = ((wipe s vs).set i none)[j]?
      by_cases hj : i = j
      · subst hj
        by_cases hl : i < s.length
        · rw [List.getElem?_set_self (by rw [wipe_length, List.length_set]; exact hl), List.getElem?_set_self (by rw [wipe_length]; exact hl)]
        · rw [List.getElem?_eq_none (by rw [List.length_set, wipe_length, List.length_set]; omega), List.getElem?_eq_none (by rw [List.length_set, wipe_length]; omega)]
      · rw [List.getElem?_set_ne hj, List.getElem?_set_ne hj]
        by_cases hjv : j ∈ vs
        · have gen : ∀ (s : Sg) (l : List Nat), j ∈ l → (wipe s l)[j]? = if j < s.length then some none else none := by
            intro s l hl
            induction l with
            | nil => cases hl
            | cons a l ih =>
              show ((wipe s l).set a none)[j]? = _
              by_cases ha : a = j
              · subst ha
                by_cases hz : a < s.length
                · rw [List.getElem?_set_self (by rw [wipe_length]; exact hz), if_pos hz]
                · rw [List.getElem?_eq_none (by rw [List.length_set, wipe_length]; omega), if_neg hz]
              · rw [List.getElem?_set_ne ha]
                exact ih (by rcases List.mem_cons.mp hl with z | z; exact absurd z.symm ha; exact z)
          rw [gen _ _ hjv, gen _ _ hjv, List.length_set]
        · rw [wipe_out hjv, wipe_out hjv, List.getElem?_set_ne hj]
section
variable {X : Cx} {w : Wo} {F : Phi} {W : WX} {e e2 : Expr} {es : List Expr} {t t1 t2 t3 t4 : T} {pos : Pos} {ws : List Nat}
theorem sc_name {i : Nat} {x : Str} (hN : X.N.Nodup) (hi : X.N[i]? = some x) (hx : Loc X.env.scope x) (hf : X.fn x = true ∨ X.env.scope.names.lookup x = some .local) (hw : i ∈ ws) : PG X (.Name x pos) (rdC w F ws (.tnm i)) :=
  pg_imp (pg_name hN hi hx hf) fun u s H Q h => by
    obtain ⟨f, r, G, env, h, v, P, S, E, rv, wp, q⟩ := h
    exact q _ h _ r G H wp Ext.refl S (E.set rv i) (wipe_set hw)
theorem scs_nil : PGs X [] (rdCs w F ws .nil) := pgs_imp pgs_nil fun us s H Q h => by
  obtain ⟨f, r, G, env, h, vs, P, S, E, rv, wp, q⟩ := h
  obtain ⟨rfl, wp⟩ := wp
  exact ⟨rv, q _ h _ r G H wp Ext.refl S E rfl⟩
theorem scs_cons (h1 : PG X e (rdC w F ws t1)) (h2 : PGs X es (rdCs w F ws t2)) (hs : ∀ x p, e ≠ .Starred x p) : PGs X (e :: es) (rdCs w F ws (.cons t1 t2)) :=
  pgs_imp (pgs_cons h1 h2 (by rw [nostarA hs]; rfl)) fun us s H Q h => by
    obtain ⟨f, r, G, env, h, vs, P, S, E, rv, wp, q⟩ := h
    cases vs with
    | nil => exact wp.elim
    | cons v vs =>
      obtain ⟨u, us, rfl, ru, rr⟩ := rv
      refine ⟨u, us, rfl, f, r, G, env, h, v, _, S, E, ru, wp, fun env1 h1 s1 r1 G1 H1 w1 e1 S1 E1 k1 => ?_⟩
      exact ⟨f, r1, G1, env1, h1, vs, P, S1, E1, RvAll.mono e1 _ _ rr, w1, fun env2 h2 s2 r2 G2 H2 w2 e2 S2 E2 k2 => q env2 h2 s2 r2 G2 H2 w2 (e1.trans e2) S2 E2 (k2.trans k1)⟩
theorem sc_tup {k : Nat} (hK : X.K = w.K) (hc : X.calm = true) (h : PGs X es (rdCs w F ws t)) (hs : ∀ e ∈ es, ∀ x p, e ≠ .Starred x p) (hl : tlen t = es.length) : PG X (.Tuple es k pos) (rdC w F ws (.ttp t)) := by
  obtain ⟨a1, a2⟩ := assignEach_ok (env := X.env) hs
  refine pg_imp (pg_or (pg_tup (k := k) hc h a1 a2) (pg_lst (k := k) hc h a1 a2)) fun u s H Q h => ?_
  obtain ⟨f, r, G, env, h, v, P, S, E, rv, wp, q⟩ := h
  have wp : partsV h v fun vs => vs.length = tlen t ∧ WAs F t vs env h P := wp
  obtain ⟨vs, a, us, ⟨l, wp⟩, rfl, hq, t⟩ := parts_ok S rv wp
  have lu : us.length = es.length := by rw [← rvAll_len t, l, hl]
  rw [← hK] at hq
  rcases hq with hq | hq
  · exact .inl ⟨a, us, rfl, hq, lu, f, r, G, env, h, vs, P, S, E, t, wp, q⟩
  · exact .inr ⟨a, us, rfl, hq, lu, f, r, G, env, h, vs, P, S, E, t, wp, q⟩
/-! ### tests -/
abbrev W0 : WX := fun _ _ _ _ => False
def rdTs (w : Wo) (F : Phi) (t : T) : TT := fun s H Q => ∃ f r G env h P, Sim w f r G h H ∧ EnvR w r G env s ∧ WTs F t env h P ∧ ∀ b h' r' G' H', P b h' → Ext r G r' G' → Sim w f r' G' h' H' → Q b H'
theorem pts_imp {ifs : List Expr} {t t' : TT} (h : PTs X ifs t) (i : ∀ s H Q, t' s H Q → t s H Q) : PTs X ifs t' := ⟨fun pins s σ H Q I q => h.run pins s σ H Q I (i σ H Q q)⟩
theorem sts_nil : PTs X [] (rdTs w F .nil) := pts_imp pts_nil fun s H Q h => by
  obtain ⟨f, r, G, env, h, P, S, E, wp, q⟩ := h
  exact q true h r G H wp Ext.refl S
theorem sts_one (h : ST X w F W0 e t) : PTs X [e] (rdTs w F (.cons t .nil)) := pts_imp (pts_one h) fun s H Q h => by
  obtain ⟨f, r, G, env, h, P, S, E, wp, q⟩ := h
  refine ⟨f, r, G, env, h, _, _, S, E, wp, fun v h1 r1 G1 H1 p e1 S1 => ?_, XOk.never⟩
  obtain ⟨c, rfl, p⟩ := boolP_of p
  exact ⟨c, rfl, q c h1 r1 G1 H1 p e1 S1⟩
/-! ### one for -/
theorem rd_cmp1 {o : Bool} {s : Sg} {H : L2.Hp} {Q : VK} (h : rdE w F W (.cmp1 o t1 t2 t3 t4 ws) s H Q) : tLc (rdI w F W t1) (rdC w F ws t2) (rdTs w F t3) (rdE w F W0 t4) ws s H Q := by
  obtain ⟨f, r, G, env, h, P, Xp, S, E, wp, q, qx⟩ := h
  refine ⟨f, r, G, env, h, _, Xp, S, E, wp, fun chk xs h1 r1 G1 H1 J p e1 S1 sv => ?_, qx⟩
  intro D hD
  have hf : f D = none := (S1.fresh hD).2.1
  generalize hturn : (fun (x : V) (h2 : Hp) (Q : Option V → Hp → Prop) => WA F t2 x (wipeE env ws) h2 (fun e2 h3 => WTs F t3 e2 h3 (fun t h4 => match t with
        | true => WE F t4 e2 h4 (fun v h5 => Q (some v) h5) (fun _ _ => False)
        | false => Q none h4))) = turn at p
  refine ⟨fun i m H' => m = xs.length - i ∧ i ≤ xs.length ∧ ∃ r' G' h' acc ua, Ext r1 G1 r' G' ∧ Sim w (upd f D (.lst ua)) r' G' h' H' ∧ RvAll w r' G' acc ua ∧ cmpW chk turn (xs.drop i) acc h' fun vs h2 => mkL o vs h2 P,
    ⟨xs.length, by simp, Nat.zero_le _, r1, G1, h1, [], [], Ext.refl, S1.guard hD, rfl, by rw [List.drop_zero]; exact p⟩, ?_⟩
  rintro i m H' ⟨rfl, hi, r', G', h', acc, ua, e', S', ra, wc⟩
  by_cases hlt : i < xs.length
  · rw [List.drop_eq_getElem_cons hlt] at wc
    obtain ⟨hchk, wc⟩ := cmpW_ic wc
    obtain ⟨go, yl⟩ := sv.1 _ i r' G' h' H' e' S' hchk hlt
    refine .inr ⟨go, fun H2 => ∃ r2 G2 h2 acc2 ua2, Ext r1 G1 r2 G2 ∧ Sim w (upd f D (.lst ua2)) r2 G2 h2 H2 ∧ RvAll w r2 G2 acc2 ua2 ∧ cmpW chk turn (xs.drop (i + 1)) acc2 h2 fun vs h2 => mkL o vs h2 P,
      fun H2 hN => ⟨xs.length - (i + 1), by omega, rfl, hlt, hN⟩, fun x H2 y => ?_⟩
    obtain ⟨G2, v, e2, S2, ev, rv⟩ := yl x H2 y
    rw [List.getElem?_eq_getElem hlt] at ev
    cases ev
    rw [← hturn] at wc
    refine ⟨_, r', G2, _, h', _, _, S2, (E.mono ((e1.trans e').trans e2)).wipe ws, rv, wc, fun env3 h3 s3 r3 G3 H3 p3 e3 S3 E3 k3 => ?_⟩
    refine ⟨?_, _, r3, G3, env3, h3, _, S3, E3, p3, fun b h4 r4 G4 H4 p4 e4 S4 => ?_⟩
    · rw [k3]
      apply List.ext_getElem?
      intro j
      by_cases hj : j ∈ ws
      · have gen : ∀ (s : Sg) (l : List Nat), j ∈ l → (wipe s l)[j]? = if j < s.length then some none else none := by
          intro s l hl
          induction l with
          | nil => cases hl
          | cons a l ih =>
            show ((wipe s l).set a none)[j]? = _
            by_cases ha : a = j
            · subst ha
              by_cases hz : a < s.length
              · rw [List.getElem?_set_self (by rw [wipe_length]; exact hz), if_pos hz]
              · rw [List.getElem?_eq_none (by rw [List.length_set, wipe_length]; omega), if_neg hz]
            · rw [List.getElem?_set_ne ha]
              exact ih (by rcases List.mem_cons.mp hl with z | z; exact absurd z.symm ha; exact z)
        rw [gen _ _ hj, gen _ _ hj, wipe_length]
      · rw [wipe_out hj]
    · have e04 := ((e'.trans e2).trans e3).trans e4
      have ra4 := RvAll.mono ((e2.trans e3).trans e4) _ _ ra
      cases b with
      | false =>
        dsimp only
        rw [if_neg Bool.false_ne_true]
        have p4 : cmpW chk turn (xs.drop (i + 1)) acc h4 fun vs h2 => mkL o vs h2 P := by rw [← hturn]; exact p4
        exact ⟨r4, G4, h4, acc, ua, e04, S4, ra4, p4⟩
      | true =>
        dsimp only
        rw [if_pos rfl]
        refine ⟨_, r4, G4, env3, h4, _, _, S4, E3.mono e4, p4, fun v5 h5 u5 r5 G5 H5 p5 e5 S5 rv5 => ?_, XOk.never⟩
        have p5 : acc.length < big ∧ cmpW chk turn (xs.drop (i + 1)) (acc ++ [v5]) h5 fun vs h2 => mkL o vs h2 P := by rw [← hturn]; exact p5
        have ra5 := RvAll.mono e5 _ _ ra4
        refine ⟨ua, S5.fr _ _ upd_same, by rw [← rvAll_len ra5, big_eq]; exact p5.1, ?_⟩
        exact ⟨r5, G5, h5, acc ++ [v5], ua ++ [u5], e04.trans e5, S5.regard, rvAll_iff.mpr ((rvAll_iff.mp ra5).snoc rv5), p5.2⟩
  · have e : i = xs.length := by omega
    subst e
    rw [List.drop_length] at wc
    obtain ⟨hchk, wc⟩ := cmpW_in wc
    exact .inl ⟨sv.2 _ r' G' h' H' e' S' hchk, mkL_end q wc (e1.trans e') S' hf ra⟩
abbrev BlkAll (X : Cx) (scope : Scope) (P : Cx → Prop) : Prop := ∀ (s : Shared) (H : L2.Hp) (C : Addr) (cl : List (Str × Addr)) (fp : List Addr), P (X.blk s H scope (compEnvC scope cl C X.env) fp)
variable {elt tg iter tg1 iter1 : Expr} {ifs ifs1 : List Expr} {scope : Scope} {own : List (Str × Nat)}
theorem se_cmp1 {o : Bool} (hc : X.calm = true) (hN : X.N.Nodup) (hi : SI X w F W tg iter t1) (ok : BlkOk X.N X.env.scope scope own) (hg : BlkAll X scope fun Y => PG Y tg (rdC w F (own.map (·.2)) t2)) (ht : BlkAll X scope fun Y => PTs Y ifs (rdTs w F t3))
    (he : BlkAll X scope fun Y => SE Y w F W0 elt t4) (hs : ∀ x, foldedSetIterable iter X.env x = pure x) : SE X w F W (.ListComp elt [⟨tg, iter, ifs, 0⟩] scope pos) (.cmp1 o t1 t2 t3 t4 (own.map (·.2))) :=
  pe_imp (pe_lc hc hN hi ok hg ht he hs) fun _ _ _ h => rd_cmp1 h
theorem ss_setcmp1 {o : Bool} {i : Nat} {y : Str} {py spos : Pos} (hc : X.calm = true) (hN : X.N.Nodup) (hy : X.N[i]? = some y) (hyl : X.env.scope.names.lookup y = some .local) (hsw : swapsWith (.ListComp elt [⟨tg, iter, ifs, 0⟩] scope pos) (some (.Name y py)) spos.line X.env = pure true)
    (hi : SI X w F W tg iter t1) (ok : BlkOk X.N X.env.scope scope own) (hg : BlkAll X scope fun Y => PG Y tg (rdC w F (own.map (·.2)) t2)) (ht : BlkAll X scope fun Y => PTs Y ifs (rdTs w F t3))
    (he : BlkAll X scope fun Y => SE Y w F W0 elt t4) (hs : ∀ x, foldedSetIterable iter X.env x = pure x) : SS X w F W (.Assign [.Name y py] (.ListComp elt [⟨tg, iter, ifs, 0⟩] scope pos) spos) (.asg (.tnm i) (.cmp1 o t1 t2 t3 t4 (own.map (·.2)))) :=
  ps_imp (ps_setLc hc hN hy hyl hsw hi ok hg ht he hs) fun D s H h => by
    obtain ⟨f, r, G, env, h, n, k, S, E, wp, q⟩ := h
    exact rd_cmp1 (W := W) ⟨f, r, G, env, h, _, _, S, E, wp, fun v h1 u r1 G1 H1 p e1 S1 rv => q.nx _ h1 _ r1 G1 H1 p e1 S1 ((E.mono e1).set rv i), q.x E⟩
/-! ### two fors -/
theorem wipe_wipe {ws : List Nat} {s : Sg} : wipe (wipe s ws) ws = wipe s ws := by
  apply List.ext_getElem?
  intro j
  by_cases hj : j ∈ ws
  · have gen : ∀ (s : Sg) (l : List Nat), j ∈ l → (wipe s l)[j]? = if j < s.length then some none else none := by
      intro s l hl
      induction l with
      | nil => cases hl
      | cons a l ih =>
        show ((wipe s l).set a none)[j]? = _
        by_cases ha : a = j
        · subst ha
          by_cases hz : a < s.length
          · rw [List.getElem?_set_self (by rw [wipe_length]; exact hz), if_pos hz]
          · rw [List.getElem?_eq_none (by rw [List.length_set, wipe_length]; omega), if_neg hz]
        · rw [List.getElem?_set_ne ha]
          exact ih (by rcases List.mem_cons.mp hl with z | z; exact absurd z.symm ha; exact z)
    rw [gen _ _ hj, gen _ _ hj, wipe_length]
  · rw [wipe_out hj]
variable {t5 t6 t7 : T} {ws2 : List Nat}
theorem rd_cmp2 {o : Bool} {s : Sg} {H : L2.Hp} {Q : VK} (h : rdE w F W (.cmp2 o t1 t2 t3 t4 t5 t6 t7 ws ws2) s H Q) : tLc2 (rdI w F W t1) (rdC w F ws t2) (rdTs w F t3) (rdI w F W0 t4) (rdC w F ws2 t5) (rdTs w F t6) (rdE w F W0 t7) ws ws2 s H Q := by
  obtain ⟨f, r, G, env, h, P, Xp, S, E, wp, q, qx⟩ := h
  refine ⟨f, r, G, env, h, _, Xp, S, E, wp, fun chk xs h1 r1 G1 H1 J p e1 S1 sv => ?_, qx⟩
  intro D hD
  have hf : f D = none := (S1.fresh hD).2.1
  generalize hin : (fun (e2 : Env) (y : V) (h6 : Hp) (Q2 : Option V → Hp → Prop) => WA F t5 y (wipeE e2 ws2) h6 (fun e3 h7 => WTs F t6 e3 h7 (fun t2 h8 => match t2 with
            | true => WE F t7 e3 h8 (fun v h9 => Q2 (some v) h9) (fun _ _ => False)
            | false => Q2 none h8))) = inn
  generalize hturn : (fun (x : V) (acc : List V) (h2 : Hp) (Q : List V → Hp → Prop) => WA F t2 x (wipeE env ws) h2 (fun e2 h3 => WTs F t3 e2 h3 (fun t h4 => match t with
        | true => WI F t4 e2 h4 (fun chk2 ys h5 => cmpW chk2 (inn e2) ys acc h5 Q) (fun _ _ => False)
        | false => Q acc h4))) = turn
  have p : cmpW2 chk turn xs [] h1 fun vs h2 => mkL o vs h2 P := by rw [← hturn, ← hin]; exact p
  refine ⟨fun i m H' => m = xs.length - i ∧ i ≤ xs.length ∧ ∃ r' G' h' acc ua, Ext r1 G1 r' G' ∧ Sim w (upd f D (.lst ua)) r' G' h' H' ∧ RvAll w r' G' acc ua ∧ cmpW2 chk turn (xs.drop i) acc h' fun vs h2 => mkL o vs h2 P,
    ⟨xs.length, by simp, Nat.zero_le _, r1, G1, h1, [], [], Ext.refl, S1.guard hD, rfl, by rw [List.drop_zero]; exact p⟩, ?_⟩
  rintro i m H' ⟨rfl, hi, r', G', h', acc, ua, e', S', ra, wc⟩
  by_cases hlt : i < xs.length
  · rw [List.drop_eq_getElem_cons hlt] at wc
    obtain ⟨hchk, wc⟩ := cmpW2_ic wc
    obtain ⟨go, yl⟩ := sv.1 _ i r' G' h' H' e' S' hchk hlt
    refine .inr ⟨go, fun H2 => ∃ r2 G2 h2 acc2 ua2, Ext r1 G1 r2 G2 ∧ Sim w (upd f D (.lst ua2)) r2 G2 h2 H2 ∧ RvAll w r2 G2 acc2 ua2 ∧ cmpW2 chk turn (xs.drop (i + 1)) acc2 h2 fun vs h2 => mkL o vs h2 P,
      fun H2 hN => ⟨xs.length - (i + 1), by omega, rfl, hlt, hN⟩, fun x H2 y => ?_⟩
    obtain ⟨G2, v, e2, S2, ev, rv⟩ := yl x H2 y
    rw [List.getElem?_eq_getElem hlt] at ev
    cases ev
    rw [← hturn] at wc
    refine ⟨_, r', G2, _, h', _, _, S2, (E.mono ((e1.trans e').trans e2)).wipe ws, rv, wc, fun env3 h3 s3 r3 G3 H3 p3 e3 S3 E3 k3 => ?_⟩
    refine ⟨by rw [k3, wipe_wipe], _, r3, G3, env3, h3, _, S3, E3, p3, fun b h4 r4 G4 H4 p4 e4 S4 => ?_⟩
    have e04 := ((e'.trans e2).trans e3).trans e4
    have ra4 := RvAll.mono ((e2.trans e3).trans e4) _ _ ra
    cases b with
    | false =>
      dsimp only
      rw [if_neg Bool.false_ne_true]
      have p4 : cmpW2 chk turn (xs.drop (i + 1)) acc h4 fun vs h2 => mkL o vs h2 P := by rw [← hturn]; exact p4
      exact ⟨r4, G4, h4, acc, ua, e04, S4, ra4, p4⟩
    | true =>
      dsimp only
      rw [if_pos rfl]
      have E4 := E3.mono e4
      refine ⟨_, r4, G4, env3, h4, _, _, S4, E4, p4, fun chk2 ys h5 r5 G5 H5 J2 p5 e5 S5 sv2 => ?_, XOk.never⟩
      have p5 : cmpW chk2 (inn env3) ys acc h5 fun acc' h' => cmpW2 chk turn (xs.drop (i + 1)) acc' h' fun vs h2 => mkL o vs h2 P := by rw [← hturn]; exact p5
      refine ⟨fun j m2 H6 => m2 = ys.length - j ∧ j ≤ ys.length ∧ ∃ r6 G6 h6 acc6 ua6, Ext r5 G5 r6 G6 ∧ Sim w (upd f D (.lst ua6)) r6 G6 h6 H6 ∧ RvAll w r6 G6 acc6 ua6 ∧ cmpW chk2 (inn env3) (ys.drop j) acc6 h6 fun acc' h' => cmpW2 chk turn (xs.drop (i + 1)) acc' h' fun vs h2 => mkL o vs h2 P,
        ⟨ys.length, by simp, Nat.zero_le _, r5, G5, h5, acc, ua, Ext.refl, S5, RvAll.mono e5 _ _ ra4, by rw [List.drop_zero]; exact p5⟩, ?_⟩
      rintro j m2 H6 ⟨rfl, hj, r6, G6, h6, acc6, ua6, e6, S6, ra6, wc6⟩
      have e06 := (e04.trans e5).trans e6
      by_cases hjl : j < ys.length
      · rw [List.drop_eq_getElem_cons hjl] at wc6
        obtain ⟨hchk2, wc6⟩ := cmpW_ic wc6
        obtain ⟨go2, yl2⟩ := sv2.1 _ j r6 G6 h6 H6 e6 S6 hchk2 hjl
        refine .inr ⟨go2, fun H7 => ∃ r7 G7 h7 acc7 ua7, Ext r5 G5 r7 G7 ∧ Sim w (upd f D (.lst ua7)) r7 G7 h7 H7 ∧ RvAll w r7 G7 acc7 ua7 ∧ cmpW chk2 (inn env3) (ys.drop (j + 1)) acc7 h7 fun acc' h' => cmpW2 chk turn (xs.drop (i + 1)) acc' h' fun vs h2 => mkL o vs h2 P,
          fun H7 hN => ⟨ys.length - (j + 1), by omega, rfl, hjl, hN⟩, fun x2 H7 y2 => ?_⟩
        obtain ⟨G7, v7, e7, S7, ev7, rv7⟩ := yl2 x2 H7 y2
        rw [List.getElem?_eq_getElem hjl] at ev7
        cases ev7
        rw [← hin] at wc6
        refine ⟨_, r6, G7, _, h6, _, _, S7, (E4.mono ((e5.trans e6).trans e7)).wipe ws2, rv7, wc6, fun env8 h8 s8 r8 G8 H8 p8 e8 S8 E8 k8 => ?_⟩
        refine ⟨by rw [k8, wipe_wipe], _, r8, G8, env8, h8, _, S8, E8, p8, fun b2 h9 r9 G9 H9 p9 e9 S9 => ?_⟩
        have e59 := ((e6.trans e7).trans e8).trans e9
        have ra9 := RvAll.mono ((e7.trans e8).trans e9) _ _ ra6
        cases b2 with
        | false =>
          dsimp only
          rw [if_neg Bool.false_ne_true]
          have p9 : cmpW chk2 (inn env3) (ys.drop (j + 1)) acc6 h9 fun acc' h' => cmpW2 chk turn (xs.drop (i + 1)) acc' h' fun vs h2 => mkL o vs h2 P := by rw [← hin]; exact p9
          exact ⟨r9, G9, h9, acc6, ua6, e59, S9, ra9, p9⟩
        | true =>
          dsimp only
          rw [if_pos rfl]
          refine ⟨_, r9, G9, env8, h9, _, _, S9, E8.mono e9, p9, fun va ha ua' ra' Ga Ha pa ea Sa rva => ?_, XOk.never⟩
          have pa : acc6.length < big ∧ cmpW chk2 (inn env3) (ys.drop (j + 1)) (acc6 ++ [va]) ha fun acc' h' => cmpW2 chk turn (xs.drop (i + 1)) acc' h' fun vs h2 => mkL o vs h2 P := by rw [← hin]; exact pa
          have raa := RvAll.mono ea _ _ ra9
          refine ⟨ua6, Sa.fr _ _ upd_same, by rw [← rvAll_len raa, big_eq]; exact pa.1, ?_⟩
          exact ⟨ra', Ga, ha, acc6 ++ [va], ua6 ++ [ua'], e59.trans ea, Sa.regard, rvAll_iff.mpr ((rvAll_iff.mp raa).snoc rva), pa.2⟩
      · have e : j = ys.length := by omega
        subst e
        rw [List.drop_length] at wc6
        obtain ⟨hchk2, wc6⟩ := cmpW_in wc6
        exact .inl ⟨sv2.2 _ r6 G6 h6 H6 e6 S6 hchk2, r6, G6, h6, acc6, ua6, e06, S6, ra6, wc6⟩
  · have e : i = xs.length := by omega
    subst e
    rw [List.drop_length] at wc
    obtain ⟨hchk, wc⟩ := cmpW2_in wc
    exact .inl ⟨sv.2 _ r' G' h' H' e' S' hchk, mkL_end q wc (e1.trans e') S' hf ra⟩
theorem se_cmp2 {o : Bool} (hc : X.calm = true) (hN : X.N.Nodup) (hi : SI X w F W tg iter t1) (ok : BlkOk X.N X.env.scope scope own) (hv : ∀ i ∈ ws2, i ∈ own.map (·.2)) (hg : BlkAll X scope fun Y => PG Y tg (rdC w F (own.map (·.2)) t2)) (ht : BlkAll X scope fun Y => PTs Y ifs (rdTs w F t3))
    (hi1 : BlkAll X scope fun Y => SI Y w F W0 tg1 iter1 t4) (hg1 : BlkAll X scope fun Y => PG Y tg1 (rdC w F ws2 t5)) (ht1 : BlkAll X scope fun Y => PTs Y ifs1 (rdTs w F t6))
    (he : BlkAll X scope fun Y => SE Y w F W0 elt t7) (hs : ∀ x, foldedSetIterable iter X.env x = pure x) (hs1 : ∀ env x, foldedSetIterable iter1 env x = pure x) :
    SE X w F W (.ListComp elt [⟨tg, iter, ifs, 0⟩, ⟨tg1, iter1, ifs1, 0⟩] scope pos) (.cmp2 o t1 t2 t3 t4 t5 t6 t7 (own.map (·.2)) ws2) :=
  pe_imp (pe_lc2 hc hN hi ok hv hg ht hi1 hg1 ht1 he hs hs1) fun _ _ _ h => rd_cmp2 h
theorem ss_setcmp2 {o : Bool} {i : Nat} {y : Str} {py spos : Pos} (hc : X.calm = true) (hN : X.N.Nodup) (hy : X.N[i]? = some y) (hyl : X.env.scope.names.lookup y = some .local) (hsw : swapsWith (.ListComp elt [⟨tg, iter, ifs, 0⟩, ⟨tg1, iter1, ifs1, 0⟩] scope pos) (some (.Name y py)) spos.line X.env = pure true)
    (hi : SI X w F W tg iter t1) (ok : BlkOk X.N X.env.scope scope own) (hv : ∀ i ∈ ws2, i ∈ own.map (·.2)) (hg : BlkAll X scope fun Y => PG Y tg (rdC w F (own.map (·.2)) t2)) (ht : BlkAll X scope fun Y => PTs Y ifs (rdTs w F t3))
    (hi1 : BlkAll X scope fun Y => SI Y w F W0 tg1 iter1 t4) (hg1 : BlkAll X scope fun Y => PG Y tg1 (rdC w F ws2 t5)) (ht1 : BlkAll X scope fun Y => PTs Y ifs1 (rdTs w F t6))
    (he : BlkAll X scope fun Y => SE Y w F W0 elt t7) (hs : ∀ x, foldedSetIterable iter X.env x = pure x) (hs1 : ∀ env x, foldedSetIterable iter1 env x = pure x) :
    SS X w F W (.Assign [.Name y py] (.ListComp elt [⟨tg, iter, ifs, 0⟩, ⟨tg1, iter1, ifs1, 0⟩] scope pos) spos) (.asg (.tnm i) (.cmp2 o t1 t2 t3 t4 t5 t6 t7 (own.map (·.2)) ws2)) :=
  ps_imp (ps_setLc2 hc hN hy hyl hsw hi ok hv hg ht hi1 hg1 ht1 he hs hs1) fun D s H h => by
    obtain ⟨f, r, G, env, h, n, k, S, E, wp, q⟩ := h
    exact rd_cmp2 (W := W) ⟨f, r, G, env, h, _, _, S, E, wp, fun v h1 u r1 G1 H1 p e1 S1 rv => q.nx _ h1 _ r1 G1 H1 p e1 S1 ((E.mono e1).set rv i), q.x E⟩
end
end Hb

/-! DCT: dicts asked and stored. -/
namespace Hb
open PySem PySem.Spec PyProof.Rows
open L2 hiding V Hp St
set_option autoImplicit false
mutual
theorem eqD_of : ∀ (a b : D), eqD a b = true → a = b
  | .none, b, h => by cases b <;> first | rfl | (unfold eqD at h; cases h)
  | .bool a, b, h => by cases b <;> first | (unfold eqD at h; rw [eq_of_beq h]) | (unfold eqD at h; cases h)
  | .int a, b, h => by cases b <;> first | (unfold eqD at h; rw [eq_of_beq h]) | (unfold eqD at h; cases h)
  | .str a, b, h => by cases b <;> first | (unfold eqD at h; rw [of_decide_eq_true h]) | (unfold eqD at h; cases h)
  | .list a, b, h => by cases b <;> first | (unfold eqD at h; rw [eqDs_of _ _ h]) | (unfold eqD at h; cases h)
  | .tuple a, b, h => by cases b <;> first | (unfold eqD at h; rw [eqDs_of _ _ h]) | (unfold eqD at h; cases h)
  | .dict a, b, h => by
    cases a with
    | nil => cases b with
      | dict b => cases b with
        | nil => rfl
        | cons _ _ => unfold eqD at h; cases h
      | _ => unfold eqD at h; cases h
    | cons _ _ => cases b <;> (unfold eqD at h; cases h)
theorem eqDs_of : ∀ (a b : List D), eqDs a b = true → a = b
  | [], b, h => by cases b <;> first | rfl | (unfold eqDs at h; cases h)
  | a :: as, b, h => by
    cases b with
    | nil => unfold eqDs at h; cases h
    | cons b bs =>
      unfold eqDs at h
      obtain ⟨h1, h2⟩ := Bool.and_eq_true_iff.mp h
      rw [eqD_of _ _ h1, eqDs_of _ _ h2]
end
theorem eqD_key (a b : Key) : eqD (keyD a) (keyD b) = decide (a = b) := by
  cases a with
  | inl i => cases b with
    | inl j =>
      show (i == j) = decide ((Sum.inl i : Key) = Sum.inl j)
      rw [key_ll]
    | inr y => rw [key_lr]; rfl
  | inr x => cases b with
    | inl j => rw [key_rl]; rfl
    | inr y =>
      show decide (x = y) = decide ((Sum.inr x : Key) = Sum.inr y)
      rw [key_rr]
theorem eqD_keys : ∀ a b : List Key, eqDs (a.map keyD) (b.map keyD) = decide (a = b)
  | [], [] => rfl
  | [], _ :: _ => rfl
  | _ :: _, [] => rfl
  | x :: a, y :: b => by
    show (eqD (keyD x) (keyD y) && eqDs (a.map keyD) (b.map keyD)) = _
    rw [eqD_key, eqD_keys a b]
    by_cases h1 : x = y
    · subst h1
      by_cases h2 : a = b
      · subst h2; simp
      · rw [decide_eq_false h2, decide_eq_false (fun z => h2 (List.cons.inj z).2)]; simp
    · rw [decide_eq_false h1, decide_eq_false (fun z => h1 (List.cons.inj z).1)]; rfl
theorem eqD_keyT (a b : List Key) : eqD (keyT a) (keyT b) = decide (a = b) := eqD_keys a b
/-! ### keys -/
theorem key_atom {d : D} (h : atomD d = true) : ∃ k, d = keyD k := by
  cases d with
  | int i => exact ⟨.inl i, rfl⟩
  | str z => exact ⟨.inr z, rfl⟩
  | _ => cases h
theorem key_atoms : ∀ {ds : List D}, ds.all atomD = true → ∃ ks : List Key, ds = ks.map keyD
  | [], _ => ⟨[], rfl⟩
  | d :: ds, h => by
    rw [List.all_cons, Bool.and_eq_true] at h
    obtain ⟨k, rfl⟩ := key_atom h.1
    obtain ⟨ks, rfl⟩ := key_atoms h.2
    exact ⟨k :: ks, rfl⟩
theorem keyB_f {k : D} (h : keyB false k = true) : ∃ q, k = keyD q := key_atom h
theorem keyB_t {k : D} (h : keyB true k = true) : ∃ q, k = keyT q := by
  cases k with
  | tuple xs =>
    obtain ⟨ks, e⟩ := key_atoms (ds := xs) h
    exact ⟨ks, by rw [e]; rfl⟩
  | _ => cases h
theorem keyD_f (k : Key) : keyB false (keyD k) = true := by cases k <;> rfl
theorem keyD_t (k : Key) : keyB true (keyD k) = false := by cases k <;> rfl
theorem keyT_f (k : List Key) : keyB false (keyT k) = false := rfl
section
variable {K : PySem.W.Frag} {G H : L2.Hp}
theorem rp_key {k : Key} {u : L2.V} (h : Rp K G (keyD k) u) : u = kV k := by cases k <;> exact h
theorem rpAll_keys : ∀ {ks : List Key} {us : List L2.V}, RpAll K G (ks.map keyD) us → us = ks.map kV
  | [], us, h => h
  | k :: ks, us, h => by
    obtain ⟨v, vs, rfl, h1, h2⟩ := h
    rw [rp_key h1, rpAll_keys h2]
    rfl
/-- asked for a key: what the keys and the values tell -/
theorem val_rel {κ : Type} [DecidableEq κ] (kd : κ → D) (he : ∀ a b, eqD (kd a) (kd b) = decide (a = b)) (q : κ) : ∀ {kvs : List (D × D)} {kus : List (κ × L2.V)}, kvs.map (·.1) = kus.map (fun p => kd p.1) → RpKv K G kvs (kus.map (·.2)) →
    (match valD kvs (kd q) with
      | some z => ∃ u, valV kus q = some u ∧ Rp K G z u
      | none => valV kus q = none)
  | [], [], _, _ => rfl
  | [], _ :: _, h, _ => by cases h
  | _ :: _, [], h, _ => by cases h
  | (k, d) :: kvs, (c, v) :: kus, h, r => by
    have h : k :: kvs.map (·.1) = kd c :: kus.map (fun p => kd p.1) := h
    injection h with h1 h2
    subst h1
    obtain ⟨v', vs, e, r1, r2⟩ := r
    have e : v :: kus.map (·.2) = v' :: vs := e
    injection e with e1 e2
    subst e1 e2
    have ih := val_rel kd he q h2 r2
    unfold valD at ih ⊢
    rw [List.find?_cons]
    show (match Option.map (·.2) (match eqD (kd c) (kd q) with | true => some (kd c, d) | false => kvs.find? fun p => eqD p.1 (kd q)) with
      | some z => ∃ u, valV ((c, v) :: kus) q = some u ∧ Rp K G z u
      | none => valV ((c, v) :: kus) q = none)
    rw [he]
    by_cases hc : c = q
    · rw [decide_eq_true hc]
      exact ⟨v, valV_pos hc, r1⟩
    · rw [decide_eq_false hc, valV_neg (p := (c, v)) hc]
      exact ih
/-- stored -/
theorem put_rel {κ : Type} [DecidableEq κ] (kd : κ → D) (he : ∀ a b, eqD (kd a) (kd b) = decide (a = b)) (q : κ) {z : D} {u : L2.V} (hz : Rp K G z u) {kvs : List (D × D)} {kus : List (κ × L2.V)} (h : kvs.map (·.1) = kus.map (fun p => kd p.1)) (r : RpKv K G kvs (kus.map (·.2))) :
    (putD kvs (kd q) z).map (·.1) = (putK kus q u).map (fun p => kd p.1) ∧ RpKv K G (putD kvs (kd q) z) ((putK kus q u).map (·.2)) := by
  have any_eq : ∀ {kvs : List (D × D)} {kus : List (κ × L2.V)}, kvs.map (·.1) = kus.map (fun p => kd p.1) → (kvs.any fun p => eqD p.1 (kd q)) = kus.any fun p => decide (p.1 = q) := by
    intro kvs
    induction kvs with
    | nil => intro kus h; cases kus with
      | nil => rfl
      | cons _ _ => cases h
    | cons p kvs ih =>
      intro kus h
      cases kus with
      | nil => cases h
      | cons c kus =>
        have h : p.1 :: kvs.map (·.1) = kd c.1 :: kus.map (fun p => kd p.1) := h
        injection h with h1 h2
        rw [List.any_cons, List.any_cons, ih h2, h1, he]
  have rep : ∀ {kvs : List (D × D)} {kus : List (κ × L2.V)}, kvs.map (·.1) = kus.map (fun p => kd p.1) → RpKv K G kvs (kus.map (·.2)) →
      (kvs.map fun p => if eqD p.1 (kd q) = true then (p.1, z) else p).map (·.1) = (kus.map fun p => if p.1 = q then (p.1, u) else p).map (fun p => kd p.1) ∧ RpKv K G (kvs.map fun p => if eqD p.1 (kd q) = true then (p.1, z) else p) ((kus.map fun p => if p.1 = q then (p.1, u) else p).map (·.2)) := by
    intro kvs
    induction kvs with
    | nil => intro kus h r; cases kus with
      | nil => exact ⟨rfl, rfl⟩
      | cons _ _ => cases h
    | cons p kvs ih =>
      intro kus h r
      cases kus with
      | nil => cases h
      | cons c kus =>
        obtain ⟨k, d⟩ := p
        have h : k :: kvs.map (·.1) = kd c.1 :: kus.map (fun p => kd p.1) := h
        injection h with h1 h2
        subst h1
        obtain ⟨v', vs, e, r1, r2⟩ := r
        have e : c.2 :: kus.map (·.2) = v' :: vs := e
        injection e with e1 e2
        subst e1 e2
        obtain ⟨i1, i2⟩ := ih h2 r2
        simp only [List.map_cons]
        by_cases hc : c.1 = q
        · rw [if_pos (show eqD (kd c.1) (kd q) = true by rw [he, decide_eq_true hc]), if_pos hc]
          exact ⟨by rw [i1], _, _, rfl, hz, i2⟩
        · rw [if_neg (show ¬ eqD (kd c.1) (kd q) = true by rw [he, decide_eq_false hc]; exact Bool.false_ne_true), if_neg hc]
          exact ⟨by rw [i1], _, _, rfl, r1, i2⟩
  unfold putD putK
  rw [any_eq h]
  by_cases hb : (kus.any fun p => decide (p.1 = q)) = true
  · rw [if_pos hb, if_pos hb]
    exact rep h r
  · rw [if_neg hb, if_neg hb]
    refine ⟨by rw [List.map_append, List.map_append, h]; rfl, ?_⟩
    rw [rpKv_iff, rpAll_iff] at r ⊢
    rw [List.map_append, List.map_append]
    exact r.snoc hz
theorem rt_key {k : D} {y : L2.V} {kvs : List (D × D)} (r : Rt K G H k y) (hk : ∃ t, keyB t k = true ∧ ∀ p ∈ kvs, keyB t p.1 = true) : Rp K G k y := by
  obtain ⟨t, h, _⟩ := hk
  cases k with
  | list _ => cases t <;> cases h
  | dict _ => cases t <;> cases h
  | _ => exact r
theorem asked_some {o : Option L2.V} {x : Option D} (h : match x with | some z => ∃ u, o = some u ∧ Rp K G z u | none => o = none) : o.isSome = x.isSome := by
  cases x with
  | none => rw [show o = none from h]; rfl
  | some z => obtain ⟨u, e, _⟩ := h; rw [e]; rfl
/-- what a dict's object answers: by its kind of key; an empty one to each -/
inductive Asked (H : L2.Hp) (a : Addr) (y : L2.V) : Option L2.V → Prop
  | get {o : Option L2.V} : DGet H a y o → Asked H a y o
  | noT {b : Addr} {ks : List Key} : H a = some (.dK []) → y = .ref b → H b = some (.tup (ks.map kV)) → Asked H a y none
  | noK {k : Key} : H a = some (.dT []) → y = kV k → Asked H a y none
theorem asked {t : Bool} {a : Addr} {kvs : List (D × D)} {us : List L2.V} {k : D} {y : L2.V} (sb : Sub G H) (hd : DcA H t a (kvs.map (·.1)) us) (rv : RpKv K G kvs us) (rk : Rp K G k y) (hk : ∃ t, keyB t k = true ∧ ∀ p ∈ kvs, keyB t p.1 = true) :
    ∃ o, Asked H a y o ∧ (match valD kvs k with | some z => ∃ u, o = some u ∧ Rp K G z u | none => o = none) := by
  obtain ⟨t2, h1, h2⟩ := hk
  cases t with
  | false =>
    obtain ⟨kus, ha, ek, rfl⟩ := hd
    cases t2 with
    | false =>
      obtain ⟨q, rfl⟩ := keyB_f h1
      have := rp_key rk
      subst this
      refine ⟨valV kus q, .get (DGet.k ha), ?_⟩
      have vr := val_rel keyD eqD_key q ek rv
      cases e : valD kvs (keyD q) with
      | none => rw [e] at vr; exact vr
      | some z => rw [e] at vr; obtain ⟨u, e1, e2⟩ := vr; exact ⟨u, e1, e2⟩
    | true =>
      have hn : kvs = [] := by
        cases kvs with
        | nil => rfl
        | cons p kvs =>
          exfalso
          have := h2 p (by simp)
          cases kus with
          | nil => cases ek
          | cons c kus =>
            have ek : p.1 :: kvs.map (·.1) = keyD c.1 :: kus.map (fun p => keyD p.1) := ek
            injection ek with e1 _
            rw [e1, keyD_t] at this
            cases this
      subst hn
      have : kus = [] := by cases kus with
        | nil => rfl
        | cons _ _ => cases ek
      subst this
      obtain ⟨q, rfl⟩ := keyB_t h1
      obtain ⟨b, xs, rfl, hb, t⟩ := rk
      have := rpAll_keys t
      subst this
      exact ⟨none, .noT ha rfl (sb _ _ hb), rfl⟩
  | true =>
    obtain ⟨kus, ha, ek, rfl⟩ := hd
    cases t2 with
    | true =>
      obtain ⟨q, rfl⟩ := keyB_t h1
      obtain ⟨b, xs, rfl, hb, t⟩ := rk
      have := rpAll_keys t
      subst this
      refine ⟨valV kus q, .get (DGet.t ha (sb _ _ hb)), ?_⟩
      have vr := val_rel keyT eqD_keyT q ek rv
      cases e : valD kvs (keyT q) with
      | none => rw [e] at vr; exact vr
      | some z => rw [e] at vr; obtain ⟨u, e1, e2⟩ := vr; exact ⟨u, e1, e2⟩
    | false =>
      have hn : kvs = [] := by
        cases kvs with
        | nil => rfl
        | cons p kvs =>
          exfalso
          have := h2 p (by simp)
          cases kus with
          | nil => cases ek
          | cons c kus =>
            have ek : p.1 :: kvs.map (·.1) = keyT c.1 :: kus.map (fun p => keyT p.1) := ek
            injection ek with e1 _
            rw [e1, keyT_f] at this
            cases this
      subst hn
      have : kus = [] := by cases kus with
        | nil => rfl
        | cons _ _ => cases ek
      subst this
      obtain ⟨q, rfl⟩ := keyB_f h1
      have := rp_key rk
      subst this
      exact ⟨none, .noK ha rfl, rfl⟩
end
section
variable {X : Cx} {pins : List (Addr × Obj)} {σ : Sg} {H : L2.Hp} {s : Shared} {a : Addr} {y d : L2.V} {u r : Value} {o : Option L2.V} {A : Around} {E : Value → Shared → Prop}
theorem empty_T (I : Inv X pins σ H s) (e : H a = some (.dK [])) : (a == sysModules) = false ∧ s.heap.DictOfH (tupleKind (mixKind X.prog X.w)) a [] := by
  obtain ⟨_, hd, vs, rel, ob, es, ep, h1, h2, h3, _, pr, _⟩ := dk_of I.hok e
  cases rel
  refine ⟨hd, ob, es, ep, h1, h2, h3, ?_, (fun x hx => by cases hx), List.nodup_nil⟩
  generalize hl : es.toList = l at pr
  cases pr
  rfl
theorem empty_K (I : Inv X pins σ H s) (e : H a = some (.dT [])) : (a == sysModules) = false ∧ s.heap.DictOf (mixKind X.prog X.w) a [] := by
  obtain ⟨_, hd, xs, rel, ob, es, ep, h1, h2, h3, h4, _, _⟩ := dt_of I.hok e
  cases rel
  have h4 : es.toList = [] := h4
  refine ⟨hd, ob, es, ep, h1, h2, h3, fun e he => ?_, by rw [h4]; exact .nil, List.nodup_nil⟩
  have : e ∈ es.toList := by simpa using he
  rw [h4] at this
  cases this
theorem a_in {Q : Value → Shared → Prop} (hu : A.units + 1 < cLine) (I : Inv X pins σ H s) (g : Asked H a y o) (ry : RelV y u) (h : ∀ s', Inv X pins σ H s' → Q (.bool o.isSome) s') : wpAny (model X.prog X.w) A (compareOp .In u (.ref a)) Q E s := by
  cases g with
  | get g => exact d_in hu I g ry h
  | noT ea ey eb =>
    subst ey
    cases (show u = Value.ref _ from ry)
    obtain ⟨hd, dd⟩ := empty_T I ea
    exact wpAny_in_heap (tupleKind_room_in1 hu) (key_of I.hok eb) hd dd (h _ (I.tok _))
  | noK ea ey =>
    subst ey
    obtain ⟨hd, dd⟩ := empty_K I ea
    exact wpAny_in_of (kV_is ry) hd dd.mapOf (h _ (I.tok _))
theorem a_notIn {Q : Value → Shared → Prop} (hu : A.units + 1 < cLine) (I : Inv X pins σ H s) (g : Asked H a y o) (ry : RelV y u) (h : ∀ s', Inv X pins σ H s' → Q (.bool (!o.isSome)) s') : wpAny (model X.prog X.w) A (compareOp .NotIn u (.ref a)) Q E s := by
  cases g with
  | get g => exact d_notIn hu I g ry h
  | noT ea ey eb =>
    subst ey
    cases (show u = Value.ref _ from ry)
    obtain ⟨hd, dd⟩ := empty_T I ea
    exact wpAny_notIn_heap (tupleKind_room_in1 hu) (key_of I.hok eb) hd dd (h _ (I.tok _))
  | noK ea ey =>
    subst ey
    obtain ⟨hd, dd⟩ := empty_K I ea
    exact wpAny_notIn_of (kV_is ry) hd dd.mapOf (h _ (I.tok _))
theorem a_get1 {Q : Value → Shared → Prop} (hu : A.units + 1 < cLine) (I : Inv X pins σ H s) (g : Asked H a y o) (ry : RelV y u) (h : ∀ w' s', Inv X pins σ H s' → RelV (o.getD .non) w' → Q w' s') : wpAny (model X.prog X.w) A (call (.builtin "dict.get") [.ref a, u]) Q E s := by
  cases g with
  | get g => exact d_get1 hu I g ry h
  | noT ea ey eb =>
    subst ey
    cases (show u = Value.ref _ from ry)
    obtain ⟨hd, dd⟩ := empty_T I ea
    exact call_meetsIn PySem.F.slot_dict_get dd.typeIs PySem.F.entry_dict_get (PySem.F.args_dict_get_2 _ _) (meetsH_dict_get (tupleKind (mixKind X.prog X.w)) a _ hd) ⟨tupleKind_room_in1 hu, _, _, key_of I.hok eb, dd, h _ _ (I.tok _) rfl⟩
  | noK ea ey =>
    subst ey
    obtain ⟨hd, dd⟩ := empty_K I ea
    exact call_meetsIn PySem.F.slot_dict_get dd.typeIs PySem.F.entry_dict_get (PySem.F.args_dict_get_2 _ _) (meets_dict_get (mixKind X.prog X.w) a (kV_is ry) hd) ⟨_, dd.mapOf, h _ _ (I.tok _) rfl⟩
theorem a_get2 {Q : Value → Shared → Prop} (hu : A.units + 1 < cLine) (I : Inv X pins σ H s) (g : Asked H a y o) (ry : RelV y u) (rd : RelV d r) (h : ∀ w' s', Inv X pins σ H s' → RelV (o.getD d) w' → Q w' s') : wpAny (model X.prog X.w) A (call (.builtin "dict.get") [.ref a, u, r]) Q E s := by
  cases g with
  | get g => exact d_get2 hu I g ry rd h
  | noT ea ey eb =>
    subst ey
    cases (show u = Value.ref _ from ry)
    obtain ⟨hd, dd⟩ := empty_T I ea
    exact call_meetsIn PySem.F.slot_dict_get dd.typeIs PySem.F.entry_dict_get (PySem.F.args_dict_get_3 _ _ _) (meetsH_dict_get_default (tupleKind (mixKind X.prog X.w)) a _ hd r) ⟨tupleKind_room_in1 hu, _, _, key_of I.hok eb, dd, h _ _ (I.tok _) rd⟩
  | noK ea ey =>
    subst ey
    obtain ⟨hd, dd⟩ := empty_K I ea
    exact call_meetsIn PySem.F.slot_dict_get dd.typeIs PySem.F.entry_dict_get (PySem.F.args_dict_get_3 _ _ _) (meets_dict_get_default (mixKind X.prog X.w) a (kV_is ry) hd r) ⟨_, dd.mapOf, h _ _ (I.tok _) rd⟩
end
end Hb

/-! PRIM: the operations on data, against the model. -/
namespace Hb
open PySem PySem.Spec PyProof.Rows
open L2 hiding V Hp St
set_option autoImplicit false

def seqO : HO → Bool
  | .lst _ => true
  | .tup _ => true
  | _ => false
/-- what may come out of an operation: an old value, or one new object -/
def Out (K : PySem.W.Frag) (G H : L2.Hp) (P : D → Prop) (Q : VK) : Prop :=
  (∀ z u, P z → Rp K G z u → Q u H) ∧ (∀ z p o, P z → H p = none → seqO o = true → (Sub G (upd G p o) → Rp K (upd G p o) z (.ref p)) → Q (.ref p) (upd H p o))
def rD1 (K : PySem.W.Frag) (o : D → (D → Prop) → Prop) : L2.V → L2.Hp → VK → Prop := fun x H Q => ∃ G d P, Sub G H ∧ Rt K G H d x ∧ o d P ∧ Out K G H P Q
def rD2 (K : PySem.W.Frag) (o : D → D → (D → Prop) → Prop) : R2 := fun x y H Q => ∃ G d1 d2 P, Sub G H ∧ Rt K G H d1 x ∧ Rt K G H d2 y ∧ o d1 d2 P ∧ Out K G H P Q
section
variable {X : Cx} {w : Wo}
theorem opr_imp {f : Value → Value → Sem Value} {r r' : R2} (h : OpR X f r) (i : ∀ x y H Q, r' x y H Q → r x y H Q) : OpR X f r' := fun pins s σ H x y v u Q I rx ry q => h pins s σ H x y v u Q I rx ry (i x y H Q q)
theorem callr_imp {f : Value} {r r' : List L2.V → L2.Hp → VK → Prop} (h : CallR X f r) (i : ∀ xs H Q, r' xs H Q → r xs H Q) : CallR X f r' := fun pins s σ H xs us Q I rx q => h pins s σ H xs us Q I rx (i xs H Q q)
theorem unr_imp {f : Value → Sem Value} {r r' : L2.V → L2.Hp → VK → Prop} (h : UnR X f r) (i : ∀ xs H Q, r' xs H Q → r xs H Q) : UnR X f r' := fun pins s σ H xs us Q I rx q => h pins s σ H xs us Q I rx (i xs H Q q)
theorem out_of {f : L2.Hp} {r : List Addr} {G H : L2.Hp} {h : Hp} {P : V → Prop} {Q : VK} (S : Sim w f r G h H) (q : ∀ z u r' G' H', P z → Ext r G r' G' → Sim w f r' G' h H' → Rv w r' G' z u → Q u H') : Out w.K G H (fun z => P (.d z)) Q :=
  ⟨fun z u pz rz => q (.d z) u r G H pz Ext.refl S rz, fun z p o pz hp ho rz => by
    obtain ⟨S2, e2⟩ := S.lay hp o (fun b z => by subst z; cases ho)
    exact q (.d z) (.ref p) r _ _ pz e2 S2 (rz e2.sub)⟩
theorem r2_of {o : O2} {x y : L2.V} {H : L2.Hp} {Q : VK} (ho : ∀ h x y (P : V → Prop), o2V o h x y P → optP (rdV h x) fun a => optP (rdV h y) fun b => op2 o a b fun z => P (.d z)) (h : rO2 w (o2V o) x y H Q) : rD2 w.K (op2 o) x y H Q := by
  obtain ⟨f, r, G, h, v1, v2, P, S, r1, r2, wp, q⟩ := h
  obtain ⟨d1, e1, wp⟩ := optP_of (ho _ _ _ _ wp)
  obtain ⟨d2, e2, wp⟩ := optP_of wp
  exact ⟨G, d1, d2, _, S.sub, S.read r1 e1, S.read r2 e2, wp, out_of S q⟩
theorem r1_of {o : O1} {x : L2.V} {H : L2.Hp} {Q : VK} (ho : ∀ h x (P : V → Prop), o1V o h x P → optP (rdV h x) fun a => op1 o a fun z => P (.d z)) (h : rO1 w (o1V o) x H Q) : rD1 w.K (op1 o) x H Q := by
  obtain ⟨f, r, G, h, v1, P, S, r1, wp, q⟩ := h
  obtain ⟨d1, e1, wp⟩ := optP_of (ho _ _ _ wp)
  exact ⟨G, d1, _, S.sub, S.read r1 e1, wp, out_of S q⟩

/-! ### lists as objects -/
variable {pins : List (Addr × Obj)} {s : Shared} {σ : Sg} {H : L2.Hp}
def rCatL (K : PySem.W.Frag) : R2 := fun x y H Q => ∃ l b xs zs, x = .ref l ∧ y = .ref b ∧ LqL K H l xs ∧ LqL K H b zs ∧ xs.length + zs.length ≤ sizeLine ∧ ∀ p, H p = none → Q (.ref p) (upd H p (.lst (xs ++ zs)))
theorem op_catL : OpR X (binaryOp .Add) (rCatL X.K) := by
  intro pins s σ H x y v u Q I rx ry h
  obtain ⟨l, b, xs, zs, rfl, rfl, hH, hB, hz, q⟩ := h
  cases rx
  cases ry
  obtain ⟨its, n, r1, e, _⟩ := inv_lq I hH
  obtain ⟨its2, n2, r2, e2, _⟩ := inv_lq I hB
  have l1 := r1.length
  have l2 := r2.length
  refine PySem.P.add_list e e2 ?_ (by rw [List.size_toArray, List.size_toArray]; omega)
  have ea : its.toArray ++ its2.toArray = (its ++ its2).toArray := by simp
  rw [ea]
  exact ⟨.ref _, _, I.lnew (t' := s.toks) (r1.append r2) (by rw [List.length_append]; exact hz), rfl, q _ I.fresh⟩
def rRepL (K : PySem.W.Frag) : R2 := fun x y H Q => ∃ l k xs, x = .ref l ∧ y = .int k ∧ LqL K H l xs ∧ -(2 ^ 63) ≤ k ∧ k < 2 ^ 63 ∧ xs.length * k.toNat ≤ sizeLine ∧
  ∀ p, H p = none → Q (.ref p) (upd H p (.lst (List.replicate k.toNat xs).flatten))
theorem op_repL : OpR X (binaryOp .Mult) (rRepL X.K) := by
  intro pins s σ H x y v u Q I rx ry h
  obtain ⟨l, k, xs, rfl, rfl, hH, h1, h2, hz, q⟩ := h
  cases rx
  obtain ⟨t, rfl⟩ := ry
  obtain ⟨its, n, r, e, z⟩ := inv_lq I hH
  have hl := r.length
  have hlen : its.toArray.size * k.toNat ≤ sizeLine := by rw [List.size_toArray, ← hl]; exact hz
  have hcap : ¬ its.toArray.size * k.toNat > (2 ^ 63 - 1) / 8 := by
    have : (sizeLine : Nat) ≤ (2 ^ 63 - 1) / 8 := by decide
    omega
  have hfit : ¬ (!Builtin.List.listFitsIndex k) = true := by
    rw [fitsIndex_both h1 h2]
    exact Bool.false_ne_true
  have hlong : ¬ Builtin.List.listTooLong (its.toArray.size * k.toNat) = true := by
    rw [notLongL hlen]
    exact Bool.false_ne_true
  have hnew : List.foldl (fun x1 x2 => x1 ++ x2) #[] (List.replicate (if its.toArray.isEmpty = true then 0 else k.toNat) its.toArray) = (List.replicate k.toNat its).flatten.toArray := by
    have f0 : ∀ m : Nat, List.foldl (fun x1 x2 => x1 ++ x2) #[] (List.replicate m its.toArray) = (List.replicate m its).flatten.toArray := fun m => by
      have := foldl_rep its m []
      rw [List.nil_append] at this
      exact this
    rw [f0]
    cases its with
    | nil => simp
    | cons a r' => rw [if_neg (by simp)]
  refine wpAny_binaryOp_repeat_ref (T := "list") (U := "int") (by decide) ⟨_, e, rfl⟩ (fun s' => typeIs_int s' k t) noFill_list_mul F.fills_int_mul F.slot_int_rmul repeat_list F.slot_int_index.lookup
    (call_meets F.slot_int_rmul (typeIs_int s k t) F.entry_int_rmul (F.args_int_rmul_2 _ _) (int___rmul___int_list k t l its.toArray n)
      ⟨e, rfl, ⟨_, e, rfl⟩, call_meets F.slot_list_mul ⟨_, e, rfl⟩ F.entry_list_mul (F.args_list_mul_2 _ _) (AutoListH.list___mul___list_int_3 l its.toArray n k t hfit hcap hlong) ⟨e, ?_⟩⟩)
  rw [hnew]
  exact ⟨.ref _, _, I.lnew (t' := s.toks) (r.rep k.toNat) (by rw [PyProof.Rows.lm_len_rep_flat, Nat.mul_comm]; exact hz), rfl, q _ I.fresh⟩
theorem asInts_map : ∀ {xs : List D} {ns : List Int}, asInts xs = some ns → xs = ns.map PyData.int
  | [], ns, h => by cases h; rfl
  | .int i :: r, ns, h => by
    unfold asInts at h
    cases e : asInts r with
    | none => rw [e] at h; cases h
    | some es => rw [e] at h; cases h; rw [asInts_map e]; rfl
  | .none :: _, _, h => by cases h
  | .bool _ :: _, _, h => by cases h
  | .str _ :: _, _, h => by cases h
  | .list _ :: _, _, h => by cases h
  | .tuple _ :: _, _, h => by cases h
  | .dict _ :: _, _, h => by cases h
theorem asBools_map : ∀ {xs : List D} {ns : List Bool}, asBools xs = some ns → xs = ns.map PyData.bool
  | [], ns, h => by cases h; rfl
  | .bool i :: r, ns, h => by
    unfold asBools at h
    cases e : asBools r with
    | none => rw [e] at h; cases h
    | some es => rw [e] at h; cases h; rw [asBools_map e]; rfl
  | .none :: _, _, h => by cases h
  | .int _ :: _, _, h => by cases h
  | .str _ :: _, _, h => by cases h
  | .list _ :: _, _, h => by cases h
  | .tuple _ :: _, _, h => by cases h
  | .dict _ :: _, _, h => by cases h
theorem rp_ints {K : PySem.W.Frag} {G : L2.Hp} : ∀ {ns : List Int} {us : List L2.V}, RpAll K G (ns.map PyData.int) us → us = ns.map L2.V.int
  | [], us, h => h
  | n :: ns, us, h => by obtain ⟨v, vs, rfl, h1, h2⟩ := h; rw [rp_ints h2]; have h1 : v = .int n := h1; rw [h1]; rfl
theorem rp_bools {K : PySem.W.Frag} {G : L2.Hp} : ∀ {ns : List Bool} {us : List L2.V}, RpAll K G (ns.map PyData.bool) us → us = ns.map L2.V.bl
  | [], us, h => h
  | n :: ns, us, h => by obtain ⟨v, vs, rfl, h1, h2⟩ := h; rw [rp_bools h2]; have h1 : v = .bl n := h1; rw [h1]; rfl
theorem rpAll_ints {K : PySem.W.Frag} {G : L2.Hp} : ∀ (ns : List Int), RpAll K G (ns.map PyData.int) (ns.map L2.V.int)
  | [] => rfl
  | n :: ns => ⟨_, _, rfl, rfl, rpAll_ints ns⟩
theorem rpAll_append {K : PySem.W.Frag} {G : L2.Hp} {as bs : List D} {us vs : List L2.V} (h : RpAll K G as us) (h' : RpAll K G bs vs) : RpAll K G (as ++ bs) (us ++ vs) := rpAll_iff.mpr ((rpAll_iff.mp h).append (rpAll_iff.mp h'))
theorem okMul_ok {i j : Int} (h : okMul i j) : CMul i j ∨ CMulX i j := by
  rcases h with h | h | ⟨h1, h2⟩ | ⟨h1, h2⟩
  · refine .inl (.inl ⟨?_, ?_⟩)
    · have : ((2 : Int) ^ 64) = ((2 ^ 64 : Nat) : Int) := by norm_cast
      omega
    · have : ((2 : Int) ^ 64) = ((2 ^ 64 : Nat) : Int) := by norm_cast
      omega
  · refine .inl (.inr ⟨?_, ?_⟩)
    · have : ((2 : Int) ^ 64) = ((2 ^ 64 : Nat) : Int) := by norm_cast
      omega
    · have : ((2 : Int) ^ 64) = ((2 ^ 64 : Nat) : Int) := by norm_cast
      omega
  · exact .inr (mulx_ok h1 h2 (by omega))
  · refine .inr ?_
    have h1 : Builtin.Int.intBits i ≤ 1048576 := h1
    have h3 := PyProof.Rows.intBits_le h2
    unfold CMulX
    omega
/-! ### arithmetic -/
theorem p_add : OpR X (binaryOp .Add) (rD2 X.K addP) := by
  intro pins s σ H x y v u Q I rx ry ⟨G, d1, d2, P, sb, r1, r2, wp, q1, q2⟩
  cases d1 with
  | int i => cases d2 with
    | int j => exact op_add pins s σ H x y v u Q I rx ry ⟨i, j, r1, r2, q1 _ _ wp rfl⟩
    | _ => exact wp.elim
  | str i => cases d2 with
    | str j => exact op_add_str pins s σ H x y v u Q I rx ry ⟨i, j, r1, r2, by rw [big_eq]; exact wp.1, q1 _ _ wp.2 rfl⟩
    | _ => exact wp.elim
  | tuple xs => cases d2 with
    | tuple ys =>
      obtain ⟨a, us, rfl, h1, t1⟩ := r1
      obtain ⟨b, vs, rfl, h2, t2⟩ := r2
      obtain ⟨hz, wp⟩ := wp
      refine op_catA pins s σ H _ _ v u Q I rx ry ⟨a, b, us, vs, rfl, rfl, tqT_mono sb h1, tqT_mono sb h2, by rw [← rpAll_len t1, ← rpAll_len t2, big_eq]; exact hz, fun e => ?_, fun e e2 => ?_, fun _ _ p hp => ?_⟩
      · subst e
        have t1 := rpAll_len t1
        have : xs = [] := List.length_eq_zero_iff.mp t1
        subst this
        exact q1 _ _ wp ⟨b, vs, rfl, h2, t2⟩
      · subst e2
        have t2 := rpAll_len t2
        have : ys = [] := List.length_eq_zero_iff.mp t2
        subst this
        rw [List.append_nil] at wp
        exact q1 _ _ wp ⟨a, us, rfl, h1, t1⟩
      · exact q2 _ p _ wp hp rfl fun e => ⟨p, _, rfl, upd_same, RpAll.mono e _ _ (rpAll_append t1 t2)⟩
    | _ => exact wp.elim
  | list xs => cases d2 with
    | list ys =>
      obtain ⟨a, us, rfl, h1, t1⟩ := r1
      obtain ⟨b, vs, rfl, h2, t2⟩ := r2
      obtain ⟨hz, wp⟩ := wp
      exact op_catL pins s σ H _ _ v u Q I rx ry ⟨a, b, us, vs, rfl, rfl, h1, h2, by rw [← rpAll_len t1, ← rpAll_len t2, big_eq]; exact hz, fun p hp => q2 _ p _ wp hp rfl fun e => ⟨p, _, rfl, .inl (.inl upd_same), RpAll.mono e _ _ (rpAll_append t1 t2)⟩⟩
    | _ => exact wp.elim
  | _ => exact wp.elim
theorem p_sub : OpR X (binaryOp .Sub) (rD2 X.K (op2 .sub)) := by
  intro pins s σ H x y v u Q I rx ry ⟨G, d1, d2, P, sb, r1, r2, wp, q1, q2⟩
  obtain ⟨i, rfl, wp⟩ := intP_of wp
  obtain ⟨j, rfl, wp⟩ := intP_of wp
  exact op_sub pins s σ H x y v u Q I rx ry ⟨i, j, r1, r2, q1 _ _ wp rfl⟩
theorem p_mul : OpR X (binaryOp .Mult) (rD2 X.K mulP) := by
  intro pins s σ H x y v u Q I rx ry ⟨G, d1, d2, P, sb, r1, r2, wp, q1, q2⟩
  cases d1 with
  | int i => cases d2 with
    | int j =>
      obtain ⟨ok, wp⟩ := wp
      rcases okMul_ok ok with ok | ok
      · exact op_mul pins s σ H x y v u Q I rx ry ⟨i, j, r1, r2, ok, q1 _ _ wp rfl⟩
      · exact op_mulX pins s σ H x y v u Q I rx ry ⟨i, j, r1, r2, ok, q1 _ _ wp rfl⟩
    | _ => exact wp.elim
  | list xs => cases d2 with
    | int j =>
      obtain ⟨a, us, rfl, h1, t1⟩ := r1
      obtain ⟨⟨b1, b2, b3⟩, wp⟩ := wp
      exact op_repL pins s σ H _ _ v u Q I rx ry ⟨a, j, us, rfl, r2, h1, b1, b2, by rw [← rpAll_len t1, big_eq]; exact b3, fun p hp => q2 _ p _ wp hp rfl fun e => ⟨p, _, rfl, .inl (.inl upd_same), RpAll.mono e _ _ (rpAll_iff.mpr ((rpAll_iff.mp t1).rep _))⟩⟩
    | _ => exact wp.elim
  | tuple xs => cases d2 with
    | int j =>
      obtain ⟨a, us, rfl, h1, t1⟩ := r1
      obtain ⟨⟨b0, b1, b2, b3⟩, wp⟩ := wp
      have l := rpAll_len t1
      exact op_repT pins s σ H _ _ v u Q I rx ry ⟨a, j, us, rfl, r2, tqT_mono sb h1, fun e => b0 (by subst e; exact List.length_eq_zero_iff.mp l), b1, b2, by rw [← l]; exact b3, fun p hp => q2 _ p _ wp hp rfl fun e => ⟨p, _, rfl, upd_same, RpAll.mono e _ _ (rpAll_iff.mpr ((rpAll_iff.mp t1).rep _))⟩⟩
    | _ => exact wp.elim
  | _ => exact wp.elim
theorem p_fdiv : OpR X (binaryOp .FloorDiv) (rD2 X.K (op2 .fdiv)) := by
  intro pins s σ H x y v u Q I rx ry ⟨G, d1, d2, P, sb, r1, r2, wp, q1, q2⟩
  obtain ⟨i, rfl, wp⟩ := intP_of wp
  obtain ⟨j, rfl, wp⟩ := intP_of wp
  obtain ⟨⟨h0, h1⟩, wp⟩ := wp
  have e : ((2 : Int) ^ 4000) = ((2 ^ 4000 : Nat) : Int) := by norm_cast
  exact op_fdivW pins s σ H x y v u Q I rx ry ⟨i, j, r1, r2, wide_div h0 (b := 4000) (by rw [e] at h1; omega) (by omega) (by omega), q1 _ _ wp rfl⟩
theorem p_mod : OpR X (binaryOp .Mod) (rD2 X.K (op2 .mod)) := by
  intro pins s σ H x y v u Q I rx ry ⟨G, d1, d2, P, sb, r1, r2, wp, q1, q2⟩
  obtain ⟨i, rfl, wp⟩ := intP_of wp
  obtain ⟨j, rfl, wp⟩ := intP_of wp
  exact op_mod pins s σ H x y v u Q I rx ry ⟨i, j, r1, r2, wp.1, q1 _ _ wp.2 rfl⟩
theorem p_pow : OpR X (binaryOp .Pow) (rD2 X.K (op2 .pow)) := by
  intro pins s σ H x y v u Q I rx ry ⟨G, d1, d2, P, sb, r1, r2, wp, q1, q2⟩
  obtain ⟨i, rfl, wp⟩ := intP_of wp
  obtain ⟨j, rfl, wp⟩ := intP_of wp
  obtain ⟨⟨h0, h1, h2⟩, wp⟩ := wp
  have r1 : x = .int i := r1
  have r2 : y = .int j := r2
  subst r1 r2
  obtain ⟨t, rfl⟩ := rx
  obtain ⟨t', rfl⟩ := ry
  refine PyProof.Rows.pow_int h0 ?_ ⟨.int _, H, I.tok _, ⟨_, rfl⟩, q1 _ _ wp rfl⟩
  have b : Builtin.Int.intBits i ≤ 4000 := by
    have := PySem.Flt.log2_lt_of (by omega : 0 < 4000) h2
    unfold Builtin.Int.intBits
    split <;> omega
  have e1 : (Builtin.Int.intBits i : Int) * j ≤ 4000 * 64 := Int.mul_le_mul (by omega) h1 h0 (by omega)
  exact Int.le_trans e1 (by decide)
theorem p_neg : UnR X (unaryOp .USub) (rD1 X.K (op1 .neg)) := by
  intro pins s σ H x v Q I rx ⟨G, d, P, sb, r1, wp, q1, q2⟩
  cases d with
  | int i => exact un_neg pins s σ H x v Q I rx ⟨i, r1, q1 _ _ wp rfl⟩
  | _ => exact wp.elim
/-! ### comparisons -/
theorem eqv_nil : ∀ xs : List D, PyData.eqv (.tuple xs) (.tuple []) = xs.isEmpty
  | [] => rfl
  | _ :: _ => rfl
theorem eq_tup0 {a b : Addr} {us : List L2.V} {Q : VK} {E : Value → Shared → Prop} (hu : X.A.units < cLine) (I : Inv X pins σ H s) (h1 : SqT X.K H a us) (h2 : SqT X.K H b []) (q : Q (.bl us.isEmpty) H) : wpAny (model X.prog X.w) X.A (compareOp .Eq (.ref a) (.ref b)) (EP X pins σ Q) E s := by
  obtain ⟨its, r1, p1, _⟩ := I.tuple h1
  obtain ⟨its2, r2, p2, _⟩ := I.tuple h2
  cases r2
  refine SeqAt.eq_tupleAt (e := fun _ => true) p1 p2 hu (fun j _ h2 => absurd h2 (by simp)) ⟨.bl us.isEmpty, H, I, ?_, q⟩
  show Value.bool _ = Value.bool _
  cases r1 <;> rfl
theorem ne_tup0 {a b : Addr} {us : List L2.V} {Q : VK} {E : Value → Shared → Prop} (hu : X.A.units < cLine) (I : Inv X pins σ H s) (h1 : SqT X.K H a us) (h2 : SqT X.K H b []) (q : Q (.bl (!us.isEmpty)) H) : wpAny (model X.prog X.w) X.A (compareOp .NotEq (.ref a) (.ref b)) (EP X pins σ Q) E s := by
  obtain ⟨its, r1, p1, _⟩ := I.tuple h1
  obtain ⟨its2, r2, p2, _⟩ := I.tuple h2
  cases r2
  refine SeqAt.RcNeAt.tuples (e := fun _ => true) p1 p2 hu (fun j _ h2 => absurd h2 (by simp)) X.prog X.w E _ ⟨.bl (!us.isEmpty), H, I, ?_, q⟩
  show Value.bool _ = Value.bool _
  cases r1 <;> rfl
theorem eqv_nilL : ∀ xs : List D, PyData.eqv (.list xs) (.list []) = xs.isEmpty
  | [] => rfl
  | _ :: _ => rfl
theorem eq_lst0 {a b : Addr} {us : List L2.V} {Q : VK} {E : Value → Shared → Prop} (hu : X.A.units < cLine) (I : Inv X pins σ H s) (h1 : SqL X.K H a us) (h2 : SqL X.K H b []) (q : Q (.bl us.isEmpty) H) : wpAny (model X.prog X.w) X.A (compareOp .Eq (.ref a) (.ref b)) (EP X pins σ Q) E s := by
  obtain ⟨its, r1, p1, _⟩ := I.list h1
  obtain ⟨its2, r2, p2, _⟩ := I.list h2
  cases r2
  cases r1 with
  | nil => exact SeqAt.eq_listAt (e := fun _ => true) p1.isList p2.isList rfl hu (fun j _ h2 => absurd h2 (by simp)) ⟨.bl true, H, I, rfl, q⟩
  | cons r t => exact SeqAt.eq_list_lengthsAt p1.isList p2.isList (by simp) hu ⟨.bl false, H, I, rfl, q⟩
theorem ne_lst0 {a b : Addr} {us : List L2.V} {Q : VK} {E : Value → Shared → Prop} (hu : X.A.units < cLine) (I : Inv X pins σ H s) (h1 : SqL X.K H a us) (h2 : SqL X.K H b []) (q : Q (.bl (!us.isEmpty)) H) : wpAny (model X.prog X.w) X.A (compareOp .NotEq (.ref a) (.ref b)) (EP X pins σ Q) E s := by
  obtain ⟨its, r1, p1, _⟩ := I.list h1
  obtain ⟨its2, r2, p2, _⟩ := I.list h2
  cases r2
  cases r1 with
  | nil => exact SeqAt.RcNeAt.lists (e := fun _ => true) p1.isList p2.isList rfl hu (fun j _ h2 => absurd h2 (by simp)) X.prog X.w E _ ⟨.bl false, H, I, rfl, q⟩
  | cons r t => exact SeqAt.RcNeAt.lists_lengths p1.isList p2.isList (by simp) hu X.prog X.w E _ ⟨.bl true, H, I, rfl, q⟩
theorem eqP_of {x y : D} {Q : Bool → Prop} (h : eqP x y Q) : (∃ i j, x = .int i ∧ y = .int j ∧ Q (decide (i = j))) ∨ (∃ i j, x = .str i ∧ y = .str j ∧ Q (decide (i = j))) ∨ (∃ i j, x = .bool i ∧ y = .bool j ∧ Q (decide (i = j))) ∨
    (((shp x ∧ shp y) ∨ (∃ xs, x = .tuple xs ∧ y = .tuple []) ∨ ∃ xs, x = .list xs ∧ y = .list []) ∧ Q (PyData.eqv x y)) := by
  cases x with
  | int i => cases y with
    | int j => exact .inl ⟨i, j, rfl, rfl, h⟩
    | _ => exact .inr (.inr (.inr h))
  | str i => cases y with
    | str j => exact .inr (.inl ⟨i, j, rfl, rfl, h⟩)
    | _ => exact .inr (.inr (.inr h))
  | bool i => cases y with
    | bool j => exact .inr (.inr (.inl ⟨i, j, rfl, rfl, h⟩))
    | _ => exact .inr (.inr (.inr h))
  | _ => exact .inr (.inr (.inr h))
theorem empty_of {K : PySem.W.Frag} {G : L2.Hp} {xs : List D} {us : List L2.V} (h : RpAll K G xs us) : xs.isEmpty = us.isEmpty := by
  cases xs with
  | nil => have h : us = [] := h; subst h; rfl
  | cons d ds => obtain ⟨v, vs, rfl, _⟩ := h; rfl
theorem dec_i {i j : Int} : decide (L2.V.int i = L2.V.int j) = decide (i = j) := by rw [dec_int]; rw [Bool.eq_iff_iff]; simp
theorem dec_s {i j : Str} : decide (L2.V.str i = L2.V.str j) = decide (i = j) := by rw [dec_str]; rw [Bool.eq_iff_iff]; simp
theorem dec_b {i j : Bool} : decide (L2.V.bl i = L2.V.bl j) = decide (i = j) := by rw [dec_bl]; rw [Bool.eq_iff_iff]; simp
theorem p_eq (hu : X.A.units + 65 < cLine) : OpR X (compareOp .Eq) (rD2 X.K (op2 .eq)) := by
  intro pins s σ H x y v u Q I rx ry ⟨G, d1, d2, P, sb, r1, r2, wp, q1, q2⟩
  have wp : eqP d1 d2 fun b => P (.bool b) := wp
  rcases eqP_of wp with ⟨i, j, rfl, rfl, wp⟩ | ⟨i, j, rfl, rfl, wp⟩ | ⟨i, j, rfl, rfl, wp⟩ | ⟨h, wp⟩
  · have r1 : x = .int i := r1
    have r2 : y = .int j := r2
    subst r1 r2
    exact op_eq pins s σ H _ _ v u Q I rx ry ⟨rfl, by rw [dec_i]; exact q1 _ _ wp rfl⟩
  · have r1 : x = .str i := r1
    have r2 : y = .str j := r2
    subst r1 r2
    exact op_eq pins s σ H _ _ v u Q I rx ry ⟨rfl, by rw [dec_s]; exact q1 _ _ wp rfl⟩
  · have r1 : x = .bl i := r1
    have r2 : y = .bl j := r2
    subst r1 r2
    exact op_eq pins s σ H _ _ v u Q I rx ry ⟨rfl, by rw [dec_b]; exact q1 _ _ wp rfl⟩
  · rcases h with ⟨s1, s2⟩ | ⟨xs, rfl, rfl⟩ | ⟨xs, rfl, rfl⟩
    · exact op_eqD (by omega) pins s σ H x y v u Q I rx ry ⟨d1, d2, r1.dp sb s1, r2.dp sb s2, s1, s2, q1 _ _ wp rfl⟩
    · obtain ⟨a, us, rfl, h1, t1⟩ := r1
      obtain ⟨b, vs, rfl, h2, t2⟩ := r2
      have t2 : vs = [] := t2
      subst t2
      cases rx
      cases ry
      exact eq_tup0 (by omega) I (tqT_mono sb h1) (tqT_mono sb h2) (q1 _ _ wp (by rw [eqv_nil, empty_of t1]; rfl))
    · obtain ⟨a, us, rfl, h1, t1⟩ := r1
      obtain ⟨b, vs, rfl, h2, t2⟩ := r2
      have t2 : vs = [] := t2
      subst t2
      cases rx
      cases ry
      exact eq_lst0 (by omega) I h1.sq h2.sq (q1 _ _ wp (by rw [eqv_nilL, empty_of t1]; rfl))
theorem p_ne (hu : X.A.units + 65 < cLine) : OpR X (compareOp .NotEq) (rD2 X.K (op2 .ne)) := by
  intro pins s σ H x y v u Q I rx ry ⟨G, d1, d2, P, sb, r1, r2, wp, q1, q2⟩
  have wp : eqP d1 d2 fun b => P (.bool (!b)) := wp
  rcases eqP_of wp with ⟨i, j, rfl, rfl, wp⟩ | ⟨i, j, rfl, rfl, wp⟩ | ⟨i, j, rfl, rfl, wp⟩ | ⟨h, wp⟩
  · have r1 : x = .int i := r1
    have r2 : y = .int j := r2
    subst r1 r2
    exact op_ne pins s σ H _ _ v u Q I rx ry ⟨rfl, by rw [dec_i]; exact q1 _ _ wp rfl⟩
  · have r1 : x = .str i := r1
    have r2 : y = .str j := r2
    subst r1 r2
    exact op_ne pins s σ H _ _ v u Q I rx ry ⟨rfl, by rw [dec_s]; exact q1 _ _ wp rfl⟩
  · have r1 : x = .bl i := r1
    have r2 : y = .bl j := r2
    subst r1 r2
    exact op_ne pins s σ H _ _ v u Q I rx ry ⟨rfl, by rw [dec_b]; exact q1 _ _ wp rfl⟩
  · rcases h with ⟨s1, s2⟩ | ⟨xs, rfl, rfl⟩ | ⟨xs, rfl, rfl⟩
    · exact op_neD (by omega) pins s σ H x y v u Q I rx ry ⟨d1, d2, r1.dp sb s1, r2.dp sb s2, s1, s2, q1 _ _ wp rfl⟩
    · obtain ⟨a, us, rfl, h1, t1⟩ := r1
      obtain ⟨b, vs, rfl, h2, t2⟩ := r2
      have t2 : vs = [] := t2
      subst t2
      cases rx
      cases ry
      exact ne_tup0 (by omega) I (tqT_mono sb h1) (tqT_mono sb h2) (q1 _ _ wp (by rw [eqv_nil, empty_of t1]; rfl))
    · obtain ⟨a, us, rfl, h1, t1⟩ := r1
      obtain ⟨b, vs, rfl, h2, t2⟩ := r2
      have t2 : vs = [] := t2
      subst t2
      cases rx
      cases ry
      exact ne_lst0 (by omega) I h1.sq h2.sq (q1 _ _ wp (by rw [eqv_nilL, empty_of t1]; rfl))
/-- the tuples of a comparison -/
theorem tup_ints {K : PySem.W.Frag} {G : L2.Hp} {xs : List D} {ns : List Int} {x : L2.V} (sb : Sub G H) (r : Rp K G (.tuple xs) x) (e : asInts xs = some ns) : ∃ a, x = .ref a ∧ SqT K H a (ns.map L2.V.int) := by
  obtain ⟨a, us, rfl, h1, t1⟩ := r
  have := asInts_map e
  subst this
  have := rp_ints t1
  subst this
  exact ⟨a, rfl, tqT_mono sb h1⟩
theorem p_lt (hu : X.A.units + 65 < cLine) : OpR X (compareOp .Lt) (rD2 X.K (op2 .lt)) := by
  intro pins s σ H x y v u Q I rx ry ⟨G, d1, d2, P, sb, r1, r2, wp, q1, q2⟩
  have wp : ltP d1 d2 fun b => P (.bool b) := wp
  cases d1 with
  | int i => cases d2 with
    | int j => exact op_lt pins s σ H x y v u Q I rx ry ⟨i, j, r1, r2, q1 _ _ wp rfl⟩
    | _ => exact wp.elim
  | tuple xs => cases d2 with
    | tuple ys =>
      obtain ⟨ns, e1, wp⟩ := optP_of wp
      obtain ⟨ms, e2, wp⟩ := optP_of wp
      obtain ⟨a, rfl, h1⟩ := tup_ints sb r1 e1
      obtain ⟨b, rfl, h2⟩ := tup_ints sb r2 e2
      exact op_ltT (by omega) pins s σ H _ _ v u Q I rx ry ⟨a, b, ns, ms, rfl, rfl, h1, h2, q1 _ _ wp rfl⟩
    | _ => exact wp.elim
  | _ => exact wp.elim
theorem lexAt_shift {e r : Nat → Bool} {z : Bool} : ∀ (k i : Nat), _root_.Ob.lexAt e r z (i + 1) k = _root_.Ob.lexAt (fun j => e (j + 1)) (fun j => r (j + 1)) z i k
  | 0, i => rfl
  | k + 1, i => by
    rw [_root_.Ob.lexAt_succ, _root_.Ob.lexAt_succ, lexAt_shift k (i + 1)]
theorem lex_le : ∀ ns ms : List Int, _root_.Ob.lexAt (fun j => decide (ns.getD j 0 = ms.getD j 0)) (fun j => decide (ns.getD j 0 ≤ ms.getD j 0)) (decide (ns.length ≤ ms.length)) 0 (min ns.length ms.length) = !HT.lexLt ms ns
  | [], [] => rfl
  | [], m :: ms => by simp [_root_.Ob.lexAt, HT.lexLt]
  | n :: ns, [] => by simp [_root_.Ob.lexAt, HT.lexLt]
  | n :: ns, m :: ms => by
    have e : min (n :: ns).length (m :: ms).length = min ns.length ms.length + 1 := by simp only [List.length_cons]; omega
    rw [e, _root_.Ob.lexAt_succ, lexAt_shift, HT.lexLt_cons]
    by_cases h : n = m
    · subst h
      rw [if_pos (by simp), if_pos rfl, ← lex_le ns ms]
      simp
    · rw [if_neg (by simpa using h), if_neg (fun z => h z.symm)]
      simp only [List.getD_cons_zero]
      rw [← decide_not]
      congr 1
      simp
theorem p_le (hu : X.A.units + 65 < cLine) : OpR X (compareOp .LtE) (rD2 X.K (op2 .le)) := by
  intro pins s σ H x y v u Q I rx ry ⟨G, d1, d2, P, sb, r1, r2, wp, q1, q2⟩
  have wp : leP d1 d2 fun b => P (.bool b) := wp
  cases d1 with
  | int i => cases d2 with
    | int j => exact op_le pins s σ H x y v u Q I rx ry ⟨i, j, r1, r2, q1 _ _ wp rfl⟩
    | _ => exact wp.elim
  | tuple xs => cases d2 with
    | tuple ys =>
      obtain ⟨ns, e1, wp⟩ := optP_of wp
      obtain ⟨ms, e2, wp⟩ := optP_of wp
      obtain ⟨a, rfl, h1⟩ := tup_ints sb r1 e1
      obtain ⟨b, rfl, h2⟩ := tup_ints sb r2 e2
      exact op_leT (by omega) pins s σ H _ _ v u Q I rx ry ⟨a, b, ns, ms, rfl, rfl, h1, h2, by rw [lex_le]; exact q1 _ _ wp rfl⟩
    | _ => exact wp.elim
  | _ => exact wp.elim
theorem lex_gt : ∀ ns ms : List Int, _root_.Ob.lexAt (fun j => decide (ns.getD j 0 = ms.getD j 0)) (fun j => decide (ms.getD j 0 < ns.getD j 0)) (decide (ms.length < ns.length)) 0 (min ns.length ms.length) = HT.lexLt ms ns
  | [], [] => rfl
  | [], m :: ms => by simp [_root_.Ob.lexAt, HT.lexLt]
  | n :: ns, [] => by simp [_root_.Ob.lexAt, HT.lexLt]
  | n :: ns, m :: ms => by
    have e : min (n :: ns).length (m :: ms).length = min ns.length ms.length + 1 := by simp only [List.length_cons]; omega
    rw [e, _root_.Ob.lexAt_succ, lexAt_shift, HT.lexLt_cons]
    by_cases h : n = m
    · subst h
      rw [if_pos (by simp), if_pos rfl, ← lex_gt ns ms]
      simp
    · rw [if_neg (by simpa using h), if_neg (fun z => h z.symm)]
      simp only [List.getD_cons_zero]
def rGtT (K : PySem.W.Frag) : R2 := fun x y H Q => ∃ (a b : Addr) (ns ms : List Int), x = .ref a ∧ y = .ref b ∧ SqT K H a (ns.map L2.V.int) ∧ SqT K H b (ms.map L2.V.int) ∧ Q (.bl (HT.lexLt ms ns)) H
theorem op_gtT {X : Cx} (hu : X.A.units < cLine) : OpR X (compareOp .Gt) (rGtT X.K) := by
  intro pins s σ H x y v u Q I rx ry h
  obtain ⟨a, b, ns, ms, rfl, rfl, ha, hb, q⟩ := h
  cases rx
  cases ry
  obtain ⟨its, r1, p1, _⟩ := I.tuple ha
  obtain ⟨its2, r2, p2, _⟩ := I.tuple hb
  have i1 : IntsAre its ns := Vals.ints r1
  have i2 : IntsAre its2 ms := Vals.ints r2
  have e1 : its.toArray.size = ns.length := by rw [List.size_toArray]; exact i1.length
  have e2 : its2.toArray.size = ms.length := by rw [List.size_toArray]; exact i2.length
  have at1 : ∀ j (h1 : j < its.toArray.size), ∃ t, its.toArray[j] = .int (ns.getD j 0) t := fun j h1 => PyProof.Rows.IntsAre.int_at i1 _ _ (by simp at h1; simp [h1])
  have at2 : ∀ j (h1 : j < its2.toArray.size), ∃ t, its2.toArray[j] = .int (ms.getD j 0) t := fun j h1 => PyProof.Rows.IntsAre.int_at i2 _ _ (by simp at h1; simp [h1])
  have R := _root_.Ob.RcOp.tuples_gt (A := X.A) (s := s) (e := fun j => decide (ns.getD j 0 = ms.getD j 0)) (r := fun j => decide (ms.getD j 0 < ns.getD j 0)) p1 p2 hu (fun j h1 h2 => by
    obtain ⟨t, et⟩ := at1 j h1
    obtain ⟨t', et'⟩ := at2 j h2
    rw [et, et']
    have z : (ns.getD j 0 == ms.getD j 0) = decide (ns.getD j 0 = ms.getD j 0) := by
      by_cases q : ns.getD j 0 = ms.getD j 0
      · rw [decide_eq_true q]; exact beq_iff_eq.mpr q
      · rw [decide_eq_false q]; exact beq_eq_false_iff_ne.mpr q
    rw [← z]
    exact SeqAt.EqAt.int_int _ _ _ _) (fun j h1 h2 _ => by
    obtain ⟨t, et⟩ := at1 j h1
    obtain ⟨t', et'⟩ := at2 j h2
    rw [et, et']
    exact _root_.Ob.RcOp.gt_int _ _ _ _)
  rw [e1, e2, lex_gt] at R
  have z : wpAny (model X.prog X.w) X.A (compareOp .Gt (.ref a) (.ref b)) (EP X pins σ Q) X.xe s := R X.prog X.w X.xe (EP X pins σ Q) ⟨.bl _, H, I, rfl, q⟩
  exact z
theorem p_gt (hu : X.A.units + 65 < cLine) : OpR X (compareOp .Gt) (rD2 X.K (op2 .gt)) := by
  intro pins s σ H x y v u Q I rx ry ⟨G, d1, d2, P, sb, r1, r2, wp, q1, q2⟩
  have wp : gtP d1 d2 fun b => P (.bool b) := wp
  cases d1 with
  | int i => cases d2 with
    | int j => exact op_gt pins s σ H x y v u Q I rx ry ⟨i, j, r1, r2, q1 _ _ wp rfl⟩
    | _ => exact wp.elim
  | tuple xs => cases d2 with
    | tuple ys =>
      obtain ⟨ns, e1, wp⟩ := optP_of wp
      obtain ⟨ms, e2, wp⟩ := optP_of wp
      obtain ⟨a, rfl, h1⟩ := tup_ints sb r1 e1
      obtain ⟨b, rfl, h2⟩ := tup_ints sb r2 e2
      exact op_gtT (by omega) pins s σ H _ _ v u Q I rx ry ⟨a, b, ns, ms, rfl, rfl, h1, h2, q1 _ _ wp rfl⟩
    | _ => exact wp.elim
  | _ => exact wp.elim
theorem p_ge : OpR X (compareOp .GtE) (rD2 X.K (op2 .ge)) := by
  intro pins s σ H x y v u Q I rx ry ⟨G, d1, d2, P, sb, r1, r2, wp, q1, q2⟩
  obtain ⟨i, rfl, wp⟩ := intP_of wp
  obtain ⟨j, rfl, wp⟩ := intP_of wp
  exact op_ge pins s σ H x y v u Q I rx ry ⟨i, j, r1, r2, q1 _ _ wp rfl⟩
theorem sign_of {x : D} {z : Str} {Q : Bool → Prop} (h : inP x (.str z) Q) : ∃ c : Nat, x = .str ⟨#[c]⟩ ∧ Q (decide (c ∈ z.cps.toList)) := by
  cases x with
  | str u =>
    obtain ⟨c, e, q⟩ := optP_of (show optP (signOf u) fun c => Q (decide (c ∈ z.cps.toList)) from h)
    refine ⟨c, ?_, q⟩
    unfold signOf at e
    split at e
    · rename_i d ed
      cases e
      obtain ⟨⟨l⟩⟩ := u
      have ed : l = [c] := ed
      subst ed
      rfl
    · cases e
  | _ => exact (show False from h).elim
theorem p_in (hu : X.A.units + 65 < cLine) : OpR X (compareOp .In) (rD2 X.K (op2 .in_)) := by
  intro pins s σ H x y v u Q I rx ry ⟨G, d1, d2, P, sb, r1, r2, wp, q1, q2⟩
  have wp : inP d1 d2 fun b => P (.bool b) := wp
  cases d2 with
  | list ys =>
    obtain ⟨s1, s2, wp⟩ := wp
    exact op_inD hu pins s σ H x y v u Q I rx ry ⟨d1, ys, r1.dp sb s1, r2.dp sb s2, s1, s2, q1 _ _ wp rfl⟩
  | tuple ys =>
    obtain ⟨s1, s2, wp⟩ := wp
    obtain ⟨as, k1⟩ := Dp.reads I d1 x v (r1.dp sb s1) rx
    obtain ⟨bs, k2⟩ := Dp.reads I (.tuple ys) y u (r2.dp sb s2) ry
    exact SeqAt.in_tuple_reads k2 k1 (SeqAt.canLay_of_shaped s2) (SeqAt.canLay_of_shaped s1) (room_in_shaped s1 hu) ⟨.bl _, H, I, rfl, q1 _ _ wp rfl⟩
  | dict kvs =>
    obtain ⟨hk, wp⟩ := wp
    obtain ⟨a, t, us, rfl, hd, rv⟩ := r2
    obtain ⟨o, g, vr⟩ := asked sb hd rv (rt_key r1 hk) hk
    cases ry
    refine a_in (by omega) I g rx fun s' I' => ⟨.bl o.isSome, H, I', rfl, q1 _ _ wp ?_⟩
    show L2.V.bl o.isSome = .bl (valD kvs d1).isSome
    rw [asked_some vr]
  | str z =>
    obtain ⟨c, rfl, wp⟩ := sign_of wp
    have r1 : x = .str ⟨#[c]⟩ := r1
    have r2 : y = .str z := r2
    subst r1 r2
    exact op_in_sign pins s σ H _ _ v u Q I rx ry ⟨c, z, rfl, rfl, q1 _ _ wp rfl⟩
  | _ => exact wp.elim
theorem p_notin (hu : X.A.units + 65 < cLine) : OpR X (compareOp .NotIn) (rD2 X.K (op2 .notin)) := by
  intro pins s σ H x y v u Q I rx ry ⟨G, d1, d2, P, sb, r1, r2, wp, q1, q2⟩
  have wp : inP d1 d2 fun b => P (.bool !b) := wp
  cases d2 with
  | list ys =>
    obtain ⟨s1, s2, wp⟩ := wp
    exact op_notInD hu pins s σ H x y v u Q I rx ry ⟨d1, ys, r1.dp sb s1, r2.dp sb s2, s1, s2, q1 _ _ wp rfl⟩
  | tuple ys =>
    obtain ⟨s1, s2, wp⟩ := wp
    obtain ⟨as, k1⟩ := Dp.reads I d1 x v (r1.dp sb s1) rx
    obtain ⟨bs, k2⟩ := Dp.reads I (.tuple ys) y u (r2.dp sb s2) ry
    exact SeqAt.notIn_tuple_reads k2 k1 (SeqAt.canLay_of_shaped s2) (SeqAt.canLay_of_shaped s1) (room_in_shaped s1 hu) ⟨.bl _, H, I, rfl, q1 _ _ wp rfl⟩
  | dict kvs =>
    obtain ⟨hk, wp⟩ := wp
    obtain ⟨a, t, us, rfl, hd, rv⟩ := r2
    obtain ⟨o, g, vr⟩ := asked sb hd rv (rt_key r1 hk) hk
    cases ry
    refine a_notIn (by omega) I g rx fun s' I' => ⟨.bl (!o.isSome), H, I', rfl, q1 _ _ wp ?_⟩
    show L2.V.bl (!o.isSome) = .bl (!(valD kvs d1).isSome)
    rw [asked_some vr]
  | str z =>
    obtain ⟨c, rfl, wp⟩ := sign_of wp
    have r1 : x = .str ⟨#[c]⟩ := r1
    have r2 : y = .str z := r2
    subst r1 r2
    exact op_notIn_sign pins s σ H _ _ v u Q I rx ry ⟨c, z, rfl, rfl, q1 _ _ wp rfl⟩
  | _ => exact wp.elim
end
end Hb

/-! PRIM2: built-ins by call, items, identity. -/
namespace Hb
open PySem PySem.Spec PyProof.Rows
open L2 hiding V Hp St
set_option autoImplicit false
/-- a new list comes out -/
def OutL (K : PySem.W.Frag) (G H : L2.Hp) (P : D → Prop) (Q : VK) : Prop := ∀ ds us p, P (.list ds) → RpAll K G ds us → H p = none → Q (.ref p) (upd H p (.lst us))
def rF1 (K : PySem.W.Frag) (o : D → (D → Prop) → Prop) : L2.V → L2.Hp → VK → Prop := fun x H Q => ∃ G d P, Sub G H ∧ Rt K G H d x ∧ o d P ∧ OutL K G H P Q
def rF2 (K : PySem.W.Frag) (o : D → D → (D → Prop) → Prop) : R2 := fun x y H Q => ∃ G d1 d2 P, Sub G H ∧ Rt K G H d1 x ∧ Rt K G H d2 y ∧ o d1 d2 P ∧ OutL K G H P Q
section
variable {X : Cx} {w : Wo} {pins : List (Addr × Obj)} {s : Shared} {σ : Sg} {H : L2.Hp}
theorem Out.toL {K : PySem.W.Frag} {G : L2.Hp} {P : D → Prop} {Q : VK} (h : Out K G H P Q) : OutL K G H P Q := fun ds us p pz t hp => h.2 _ p _ pz hp rfl fun e => ⟨p, us, rfl, .inl (.inl upd_same), RpAll.mono e _ _ t⟩
theorem rD1_F {K : PySem.W.Frag} {o : D → (D → Prop) → Prop} {x : L2.V} {Q : VK} (h : rD1 K o x H Q) : rF1 K o x H Q := by
  obtain ⟨G, d, P, sb, r, wp, q⟩ := h
  exact ⟨G, d, P, sb, r, wp, q.toL⟩
theorem rD2_F {K : PySem.W.Frag} {o : D → D → (D → Prop) → Prop} {x y : L2.V} {Q : VK} (h : rD2 K o x y H Q) : rF2 K o x y H Q := by
  obtain ⟨G, d, d2, P, sb, r, r2, wp, q⟩ := h
  exact ⟨G, d, d2, P, sb, r, r2, wp, q.toL⟩
/-- one argument, data -/
theorem c1_of {f : Value} {r : L2.V → L2.Hp → VK → Prop} (h : ∀ (pins : List (Addr × Obj)) (s : Shared) (σ : Sg) (H : L2.Hp) (x : L2.V) (v : Value) (Q : VK), Inv X pins σ H s → RelV x v → r x H Q → wpAny (model X.prog X.w) X.A (call f [v]) (EP X pins σ Q) X.xe s) : CallR X f (rC1 r) := by
  intro pins s σ H xs us Q I rx ⟨x, e, q⟩
  subst e
  obtain ⟨u, rfl, ru⟩ := vals1 rx
  exact h pins s σ H x u Q I ru q
theorem c2_of {f : Value} {r : R2} (h : ∀ (pins : List (Addr × Obj)) (s : Shared) (σ : Sg) (H : L2.Hp) (x y : L2.V) (v u : Value) (Q : VK), Inv X pins σ H s → RelV x v → RelV y u → r x y H Q → wpAny (model X.prog X.w) X.A (call f [v, u]) (EP X pins σ Q) X.xe s) : CallR X f (rC2 r) := by
  intro pins s σ H xs us Q I rx ⟨x, y, e, q⟩
  subst e
  obtain ⟨u, u2, rfl, ru, ru2⟩ := vals2 rx
  exact h pins s σ H x y u u2 Q I ru ru2 q
theorem vals_1 {x : L2.V} {v : Value} (r : RelV x v) : Vals [x] [v] := .cons r .nil
theorem vals_2 {x y : L2.V} {v u : Value} (r : RelV x v) (r2 : RelV y u) : Vals [x, y] [v, u] := .cons r (.cons r2 .nil)
theorem k_list : CallR X (.type "list") (rC1 (rF1 X.K (op1 .list))) := c1_of fun pins s σ H x v Q I rx ⟨G, d, P, sb, r, wp, q⟩ => by
  cases d with
  | list ds => obtain ⟨a, us, rfl, h1, t⟩ := r; exact call_list_of pins s σ H _ _ Q I (vals_1 rx) ⟨a, us, rfl, .inl h1.sq, fun l hl => q ds us l wp t hl⟩
  | tuple ds => obtain ⟨a, us, rfl, h1, t⟩ := r; exact call_list_of pins s σ H _ _ Q I (vals_1 rx) ⟨a, us, rfl, .inr (tqT_mono sb h1), fun l hl => q ds us l wp t hl⟩
  | _ => exact wp.elim
theorem k_tuple : CallR X (.type "tuple") (rC1 (rD1 X.K (op1 .tuple))) := c1_of fun pins s σ H x v Q I rx ⟨G, d, P, sb, r, wp, q1, q2⟩ => by
  cases d with
  | list ds => obtain ⟨a, us, rfl, h1, t⟩ := r; exact call_tuple_of pins s σ H _ _ Q I (vals_1 rx) ⟨a, us, rfl, .inl ⟨h1.sq, fun l hl => q2 _ l _ wp hl rfl fun e => ⟨l, us, rfl, upd_same, RpAll.mono e _ _ t⟩⟩⟩
  | tuple ds => obtain ⟨a, us, rfl, h1, t⟩ := r; exact call_tuple_of pins s σ H _ _ Q I (vals_1 rx) ⟨a, us, rfl, .inr ⟨tqT_mono sb h1, q1 _ _ wp ⟨a, us, rfl, h1, t⟩⟩⟩
  | _ => exact wp.elim
theorem lst_bools {K : PySem.W.Frag} {G : L2.Hp} {xs : List D} {ns : List Bool} {us : List L2.V} (t : RpAll K G xs us) (e : asBools xs = some ns) : us = ns.map L2.V.bl := by
  have := asBools_map e
  subst this
  exact rp_bools t
theorem k_all (hc : X.calm = true) : CallR X (.builtin "all") (rC1 (rD1 X.K (op1 .all))) := c1_of fun pins s σ H x v Q I rx ⟨G, d, P, sb, r, wp, q1, q2⟩ => by
  cases d with
  | list ds =>
    obtain ⟨a, us, rfl, h1, t⟩ := r
    obtain ⟨bs, e, wp⟩ := optP_of wp
    have := lst_bools t e
    subst this
    exact cr_all hc pins s σ H _ _ Q I (vals_1 rx) ⟨a, bs, rfl, h1.sq, q1 _ _ wp rfl⟩
  | _ => exact wp.elim
theorem k_any (hc : X.calm = true) : CallR X (.builtin "any") (rC1 (rD1 X.K (op1 .any))) := c1_of fun pins s σ H x v Q I rx ⟨G, d, P, sb, r, wp, q1, q2⟩ => by
  cases d with
  | list ds =>
    obtain ⟨a, us, rfl, h1, t⟩ := r
    obtain ⟨bs, e, wp⟩ := optP_of wp
    have := lst_bools t e
    subst this
    exact cr_any hc pins s σ H _ _ Q I (vals_1 rx) ⟨a, bs, rfl, h1.sq, q1 _ _ wp rfl⟩
  | _ => exact wp.elim
theorem lst_ints {K : PySem.W.Frag} {G : L2.Hp} {xs : List D} {ns : List Int} {us : List L2.V} (t : RpAll K G xs us) (e : asInts xs = some ns) : us = ns.map L2.V.int := by
  have := asInts_map e
  subst this
  exact rp_ints t
theorem k_sum (hc : X.calm = true) : CallR X (.builtin "sum") (rC1 (rD1 X.K (op1 .sum))) := c1_of fun pins s σ H x v Q I rx ⟨G, d, P, sb, r, wp, q1, q2⟩ => by
  cases d with
  | list ds =>
    obtain ⟨a, us, rfl, h1, t⟩ := r
    obtain ⟨bs, e, wp⟩ := optP_of wp
    have := lst_ints t e
    subst this
    exact cr_sum hc pins s σ H _ _ Q I (vals_1 rx) ⟨a, bs, rfl, h1.sq, q1 _ _ wp rfl⟩
  | _ => exact wp.elim
theorem maxI_mem : ∀ (r : List Int) (x : Int), maxI x r ∈ x :: r
  | [], x => by simp [maxI]
  | y :: r, x => by
    unfold maxI
    by_cases h : x < y
    · rw [if_pos h]; have := maxI_mem r y; simp at this ⊢; exact .inr this
    · rw [if_neg h]; have := maxI_mem r x; simp at this ⊢; rcases this with h | h; exact .inl h; exact .inr (.inr h)
theorem maxI_ge : ∀ (r : List Int) (x : Int), ∀ y ∈ x :: r, y ≤ maxI x r
  | [], x, y, h => by simp at h; subst h; exact Int.le_refl _
  | z :: r, x, y, h => by
    unfold maxI
    by_cases hz : x < z
    · rw [if_pos hz]
      have := maxI_ge r z
      simp at h this
      rcases h with rfl | rfl | h
      · exact Int.le_trans (Int.le_of_lt hz) this.1
      · exact this.1
      · exact this.2 y h
    · rw [if_neg hz]
      have := maxI_ge r x
      simp at h this
      rcases h with rfl | rfl | h
      · exact this.1
      · exact Int.le_trans (by omega) this.1
      · exact this.2 y h
theorem minI_mem : ∀ (r : List Int) (x : Int), minI x r ∈ x :: r
  | [], x => by simp [minI]
  | y :: r, x => by
    unfold minI
    by_cases h : y < x
    · rw [if_pos h]; have := minI_mem r y; simp at this ⊢; exact .inr this
    · rw [if_neg h]; have := minI_mem r x; simp at this ⊢; rcases this with h | h; exact .inl h; exact .inr (.inr h)
theorem minI_le : ∀ (r : List Int) (x : Int), ∀ y ∈ x :: r, minI x r ≤ y
  | [], x, y, h => by simp at h; subst h; exact Int.le_refl _
  | z :: r, x, y, h => by
    unfold minI
    by_cases hz : z < x
    · rw [if_pos hz]
      have := minI_le r z
      simp at h this
      rcases h with rfl | rfl | h
      · exact Int.le_trans this.1 (Int.le_of_lt hz)
      · exact this.1
      · exact this.2 y h
    · rw [if_neg hz]
      have := minI_le r x
      simp at h this
      rcases h with rfl | rfl | h
      · exact this.1
      · exact Int.le_trans this.1 (by omega)
      · exact this.2 y h
/-- the greatest, the least, of a tuple of numbers -/
theorem ints_hold {h : Heap} : ∀ {ns : List Int} {us : List Value}, Vals (ns.map L2.V.int) us → PySem.W.HoldAll h us ns
  | [], _, .nil => PySem.W.HoldAll.nil
  | n :: ns, _, .cons r t => by
    obtain ⟨tk, rfl⟩ := r
    exact PySem.W.HoldAll.cons ⟨[], Reads.int n tk⟩ (ints_hold t)
theorem maxOf_eq : ∀ (ns : List Int) (n : Int), PySem.W.maxOf n ns = maxI n ns
  | [], _ => rfl
  | m :: ns, n => by
    show PySem.W.maxOf (if decide (n < m) = true then m else n) ns = maxI (if n < m then m else n) ns
    rw [maxOf_eq]
    congr 1
    simp
theorem minOf_eq : ∀ (ns : List Int) (n : Int), PySem.W.minOf n ns = minI n ns
  | [], _ => rfl
  | m :: ns, n => by
    show PySem.W.minOf (if decide (m < n) = true then m else n) ns = minI (if m < n then m else n) ns
    rw [minOf_eq]
    congr 1
    simp
theorem int_depth : PySem.W.Datum.depth Int ≤ 60 := by decide
theorem hold_int {h : Heap} {v : Value} {i : Int} (H : PySem.W.Holds h v i) : ∃ t, v = .int i t := by
  obtain ⟨as, r⟩ := H
  have r : Reads h v (.int i) as := r
  cases r
  exact ⟨_, rfl⟩
theorem k_max (hc : X.calm = true) (hu : X.A.units + 65 < cLine) : CallR X (.builtin "max") (rC1 (rD1 X.K (op1 .max))) := c1_of fun pins s σ H x v Q I rx ⟨G, d, P, sb, r, wp, q1, q2⟩ => by
  cases d with
  | list ds =>
    obtain ⟨a, us, rfl, h1, t⟩ := r
    obtain ⟨bs, e, wp⟩ := optP_of wp
    have := lst_ints t e
    subst this
    cases bs with
    | nil => exact wp.elim
    | cons n ns =>
      refine cr_max hc pins s σ H _ _ Q I (vals_1 rx) ⟨a, n :: ns, rfl, h1.sq, by simp, fun m hm hall => ?_⟩
      have e : m = maxI n ns := Int.le_antisymm (maxI_ge ns n m hm) (hall _ (maxI_mem ns n))
      subst e
      exact q1 _ _ wp rfl
  | tuple ds =>
    obtain ⟨bs, e, wp⟩ := optP_of wp
    obtain ⟨a, rfl, h1⟩ := tup_ints sb r e
    cases bs with
    | nil => exact wp.elim
    | cons n ns =>
      obtain rfl : v = Value.ref a := rx
      obtain ⟨its, rv, pt, _⟩ := I.tuple h1
      refine PySem.W.max_tuple_datum (α := Int) (vs := its.toArray) (I.ok.hd hc) (show s.heap.IsTuple a its.toArray from pt) (x := n) (xs := ns) (by simpa using ints_hold rv) (Nat.lt_of_le_of_lt (Nat.add_le_add_left (int_depth) (X.A.units + 1)) (by omega)) fun i v h' tk _ hv hk => ?_
      obtain ⟨t, rfl⟩ := hold_int hv
      rw [maxOf_eq] at *
      exact ⟨.int _, H, I.kept (t' := tk) hk, ⟨_, rfl⟩, q1 _ _ wp rfl⟩
  | _ => exact wp.elim
/-! ### sorted, pairs -/
theorem lexP_iff {p q : Int × Int} : lexP p q = true ↔ p.1 < q.1 ∨ (p.1 = q.1 ∧ p.2 < q.2) := SrtO.lexB_iff
theorem lexP_no {p q : Int × Int} : lexP p q = false ↔ ¬ (p.1 < q.1 ∨ (p.1 = q.1 ∧ p.2 < q.2)) := SrtO.lexB_no
theorem insP_perm (x : Int × Int) : ∀ l, (insP x l).Perm (x :: l)
  | [] => .refl _
  | y :: r => by
    unfold insP
    by_cases h : lexP y x = true
    · rw [if_pos h]; exact ((insP_perm x r).cons y).trans (List.Perm.swap x y r)
    · rw [if_neg h]
theorem sortP_perm : ∀ l, (sortP l).Perm l
  | [] => .refl _
  | x :: r => (insP_perm x (sortP r)).trans ((sortP_perm r).cons x)
abbrev SrP (l : List (Int × Int)) : Prop := l.Pairwise fun x y => lexP y x = false
theorem insP_sorted (x : Int × Int) : ∀ l, SrP l → SrP (insP x l)
  | [], _ => by simp [insP]
  | y :: r, h => by
    unfold insP
    unfold SrP at h ⊢
    rw [List.pairwise_cons] at h
    by_cases hx : lexP y x = true
    · rw [if_pos hx, List.pairwise_cons]
      refine ⟨fun z hz => ?_, insP_sorted x r h.2⟩
      rcases List.mem_cons.mp ((insP_perm x r).subset hz) with rfl | hz
      · have := lexP_iff.mp hx
        rw [lexP_no]
        omega
      · exact h.1 z hz
    · rw [if_neg hx, List.pairwise_cons, List.pairwise_cons]
      rw [Bool.not_eq_true] at hx
      refine ⟨fun z hz => ?_, h⟩
      rcases List.mem_cons.mp hz with rfl | hz
      · exact hx
      · have a := lexP_no.mp (h.1 z hz)
        have b := lexP_no.mp hx
        rw [lexP_no]
        omega
theorem sortP_sorted : ∀ l, SrP (sortP l)
  | [] => .nil
  | x :: r => insP_sorted x _ (sortP_sorted r)
theorem srP_uniq : ∀ {l l' : List (Int × Int)}, l.Perm l' → SrP l → SrP l' → l = l'
  | [], l', p, _, _ => (List.nil_perm.mp p).symm ▸ rfl
  | x :: r, [], p, _, _ => absurd p.length_eq (by simp)
  | x :: r, y :: t, p, h, h' => by
    unfold SrP at h h'
    rw [List.pairwise_cons] at h h'
    have e : x = y := by
      have hx : x ∈ y :: t := p.subset (by simp)
      have hy : y ∈ x :: r := p.symm.subset (by simp)
      rcases List.mem_cons.mp hx with rfl | hx
      · rfl
      · rcases List.mem_cons.mp hy with rfl | hy
        · rfl
        · have a := lexP_no.mp (h.1 y hy)
          have b := lexP_no.mp (h'.1 x hx)
          exact Prod.ext (by omega) (by omega)
    subst e
    rw [srP_uniq ((List.perm_cons x).mp p) h.2 h'.2]
theorem asPr_of {x : D} {p : Int × Int} (h : asPr x = some p) : x = prD p := by
  unfold asPr at h
  split at h
  · cases h; rfl
  · cases h
theorem asPrs_map : ∀ {xs : List D} {ps : List (Int × Int)}, asPrs xs = some ps → xs = ps.map prD
  | [], ps, h => by cases h; rfl
  | x :: r, ps, h => by
    unfold asPrs at h
    cases e1 : asPr x with
    | none => rw [e1] at h; cases h
    | some p =>
      rw [e1] at h
      have h : (asPrs r).map (p :: ·) = some ps := h
      cases e : asPrs r with
      | none => rw [e] at h; cases h
      | some es => rw [e] at h; cases h; rw [asPrs_map e, asPr_of e1]; rfl
/-- the pair that a value is -/
noncomputable def keyP (h : Heap) (v : Value) : Int × Int := open Classical in if e : ∃ p : Int × Int, Srt.IsPair h v p.1 p.2 then e.choose else (0, 0)
theorem keyP_eq {h : Heap} {v : Value} {p : Int × Int} (e : Srt.IsPair h v p.1 p.2) : keyP h v = p := by
  have ex : ∃ p : Int × Int, Srt.IsPair h v p.1 p.2 := ⟨p, e⟩
  unfold keyP
  rw [dif_pos ex]
  obtain ⟨a, o, t, u, n, e1, ho, hc, hd⟩ := ex.choose_spec
  obtain ⟨a', o', t', u', n', e1', ho', hc', hd'⟩ := e
  rw [e1] at e1'
  cases e1'
  rw [ho] at ho'
  cases ho'
  rw [hd] at hd'
  injection hd' with q1 _
  have q2 := congrArg Array.toList q1
  simp at q2
  exact Prod.ext q2.1.1 q2.2.1
theorem prs_at {G : L2.Hp} (I : Inv X pins σ H s) (sb : Sub G H) : ∀ {ps : List (Int × Int)} {us : List L2.V} {its : List Value}, RpAll X.K G (ps.map prD) us → Vals us its →
    its.map (keyP s.heap) = ps ∧ ∀ v ∈ its, Srt.IsPair s.heap v (keyP s.heap v).1 (keyP s.heap v).2 ∧ ∃ a, v = .ref a ∧ Rp X.K G (prD (keyP s.heap v)) (.ref a)
  | [], us, its, t, r => by
    have t : us = [] := t
    subst t
    cases r
    exact ⟨rfl, fun v hv => absurd hv (by simp)⟩
  | p :: ps, us, its, t, r => by
    obtain ⟨u, us', rfl, ru, t⟩ := t
    cases r with
    | cons r1 r2 =>
      rename_i w0 its'
      obtain ⟨i1, i2⟩ := prs_at I sb t r2
      have ru0 := ru
      obtain ⟨a, xs, rfl, hq, tx⟩ := ru
      obtain ⟨v1, vs1, rfl, q1, v2, vs2, rfl, q2, q3⟩ := tx
      have q1 : v1 = .int p.1 := q1
      have q2 : v2 = .int p.2 := q2
      have q3 : vs2 = [] := q3
      subst q1 q2 q3
      obtain ⟨its2, rr, ⟨o, ho, hc, n, hd⟩, _⟩ := I.tuple (tqT_mono sb hq)
      obtain ⟨x1, x2, rfl, ⟨t1, rfl⟩, ⟨t2, rfl⟩⟩ := vals2 rr
      have r1 : w0 = Value.ref a := r1
      subst r1
      have ip : Srt.IsPair s.heap (.ref a) p.1 p.2 := ⟨a, o, t1, t2, n, rfl, ho, hc, hd⟩
      have ek := keyP_eq ip
      refine ⟨by rw [List.map_cons, ek, i1], fun v hv => ?_⟩
      rcases List.mem_cons.mp hv with rfl | hv
      · rw [ek]; exact ⟨ip, a, rfl, ru0⟩
      · exact i2 v hv
/-- sorted of a tuple of numbers -/
theorem sorted_tupI {prog : Program} {ww : World} {A : Around} {E : Value → Shared → Prop} {s : Shared} {l : Addr} {vs : List Value} {ns : List Int} {Q : Value → Shared → Prop} (hl : s.heap.IsTuple l vs.toArray) (hz : vs.length ≤ sizeLine) (hi : IntsAre vs ns)
    (h : ∀ (out : List Value) (e : Nat) (h' : Heap) (p : Addr), SrtO.Srtd SrtO.ltIv out → SrtO.Stb SrtO.ltIv out vs → (∀ b o, s.heap.get? b = some o → h'.get? b = some o) → s.heap.get? p = none → h'.get? p = some (seqObj "list" out.toArray e) → Q (.ref p) { s with heap := h' }) :
    wpAny (model prog ww) A (call (.builtin "sorted") [.ref l]) Q E s := by
  obtain ⟨o, ho, hc, n, hd⟩ := hl
  refine PySem.Calls.call_function_entry kind_sorted plain_sorted entry_sorted (args_sorted1 _) ?_; unfold Builtin.«sorted»
  refine wpAny_bind (m := checkCount "sorted" 1 1 _) (wpAny_pure (wpAny_bind (wpAny_collect_seq l (.inr rfl) ho hc hd (fun h1 k1 => ?_) (by simpa using hz))))
  refine wpAny_bind (wpAny_newList ?_ (by simpa using hz))
  have e1 : vs.toArray.toList = vs := by simp
  rw [e1]
  have at1 : (h1.push (seqObj "list" vs.toArray 0)).get? h1.objs.size = some (seqObj "list" vs.toArray 0) := Heap.get?_push_size _ rfl
  have new1 : s.heap.get? h1.objs.size = none := by
    cases z : s.heap.get? h1.objs.size with
    | none => rfl
    | some u => exact absurd (Heap.lt_size (k1 _ _ z)) (Nat.lt_irrefl _)
  have old1 : ∀ b u, s.heap.get? b = some u → b ≠ h1.objs.size ∧ b < h1.objs.size := fun b u e => ⟨Nat.ne_of_lt (Heap.lt_size (k1 b u e)), Heap.lt_size (k1 b u e)⟩
  show wpAny _ _ _ _ _ { s with heap := h1.push (seqObj "list" vs.toArray 0) }
  refine wpAny_bind (wpAny_holding (wpAny_call_entry slot_list_sort ⟨_, at1, rfl⟩ entry_list_sort (SrtO.list_sort_ord SrtO.swo_int at1 hz (fun h2 => SrtO.ints_sortable hi h2) fun out hs hb => ⟨_, rfl, ?_⟩) (args_list_sort _)))
  obtain ⟨e, he⟩ := sortedHeap_at (vs := vs) (out := out.toArray) at1
  refine wpAny_pure ⟨_, rfl, h out e _ _ hs hb (fun b u q => ?_) new1 he⟩
  obtain ⟨n1, n2⟩ := old1 b u q
  rw [sortedHeap_old n1 (by rw [size_push']; exact Nat.lt_succ_of_lt n2)]
  exact Heap.get?_push_of_some _ (k1 b u q)
theorem pair_depth : PySem.W.Datum.depth (Int × Int) ≤ 60 := by decide
theorem prs_hold {h : Heap} : ∀ (its : List Value), (∀ v ∈ its, Srt.IsPair h v (keyP h v).1 (keyP h v).2) → PySem.W.HoldAll h its (its.map (keyP h))
  | [], _ => PySem.W.HoldAll.nil
  | v :: its, hp => by
    refine PySem.W.HoldAll.cons ?_ (prs_hold its fun u hu => hp u (by simp [hu]))
    have ip := hp v (by simp)
    generalize keyP h v = p at ip
    obtain ⟨a, o, t, u, n, e, ho, hc, hd⟩ := ip
    subst e
    exact ⟨_, Reads.tuple ho hc hd (.cons (Reads.int p.1 t) (.cons (Reads.int p.2 u) .nil))⟩
theorem k_min (hc : X.calm = true) (hu : X.A.units + 65 < cLine) : CallR X (.builtin "min") (rC1 (rD1 X.K (op1 .min))) := c1_of fun pins s σ H x v Q I rx ⟨G, d, P, sb, r, wp, q1, q2⟩ => by
  cases d with
  | list ds =>
    obtain ⟨a, us, rfl, h1, t⟩ := r
    cases e : asInts ds with
    | some bs =>
      simp only [op1, e] at wp
      have := lst_ints t e
      subst this
      cases bs with
      | nil => exact wp.elim
      | cons n ns =>
        refine cr_min hc pins s σ H _ _ Q I (vals_1 rx) ⟨a, n :: ns, rfl, h1.sq, by simp, fun m hm hall => ?_⟩
        have e : m = minI n ns := Int.le_antisymm (hall _ (minI_mem ns n)) (minI_le ns n m hm)
        subst e
        exact q1 _ _ wp rfl
    | none =>
      simp only [op1, e] at wp
      obtain ⟨ps, ep, wp2⟩ := optP_of wp
      clear wp
      have := asPrs_map ep
      subst this
      obtain ⟨its, rv, hl, hz⟩ := I.list h1.sq
      obtain rfl : v = Value.ref a := rx
      obtain ⟨k1, k2⟩ := prs_at I sb t rv
      have hold := prs_hold its fun v hv => (k2 v hv).1
      rw [k1] at hold
      cases ps with
      | nil => cases e
      | cons x xs =>
        refine PySem.W.min_list_datum (α := Int × Int) (vs := its.toArray) (I.ok.hd hc) hl.isList (x := x) (xs := xs) (by simpa using hold) (Nat.lt_of_le_of_lt (Nat.add_le_add_left (pair_depth) (X.A.units + 1)) (by omega)) fun i v h' tk hi hv hk => ?_
        have vm : v ∈ its := by
          have := List.mem_of_getElem? (l := its) (i := i) (a := v) (by simpa using hi)
          exact this
        obtain ⟨_, b, rfl, rp⟩ := k2 v vm
        have pm : keyP s.heap (Value.ref b) ∈ x :: xs := by rw [← k1]; exact List.mem_map.mpr ⟨_, vm, rfl⟩
        exact ⟨.ref b, H, I.kept (t' := tk) hk, rfl, q1 _ _ (wp2 _ pm) rp⟩
  | tuple ds =>
    obtain ⟨bs, e, wp⟩ := optP_of wp
    obtain ⟨a, rfl, h1⟩ := tup_ints sb r e
    cases bs with
    | nil => exact wp.elim
    | cons n ns =>
      obtain rfl : v = Value.ref a := rx
      obtain ⟨its, rv, pt, _⟩ := I.tuple h1
      refine PySem.W.min_tuple_datum (α := Int) (vs := its.toArray) (I.ok.hd hc) (show s.heap.IsTuple a its.toArray from pt) (x := n) (xs := ns) (by simpa using ints_hold rv) (Nat.lt_of_le_of_lt (Nat.add_le_add_left (int_depth) (X.A.units + 1)) (by omega)) fun i v h' tk _ hv hk => ?_
      obtain ⟨t, rfl⟩ := hold_int hv
      rw [minOf_eq] at *
      exact ⟨.int _, H, I.kept (t' := tk) hk, ⟨_, rfl⟩, q1 _ _ wp rfl⟩
  | _ => exact wp.elim
theorem asLs_map : ∀ {xs : List D} {ls : List (List Int)}, asLs xs = some ls → xs = ls.map lsD
  | [], ls, h => by cases h; rfl
  | x :: r, ls, h => by
    cases x with
    | list ys =>
      have h : (match asInts ys with | some ns => (asLs r).map (ns :: ·) | none => none) = some ls := h
      cases e1 : asInts ys with
      | none => rw [e1] at h; cases h
      | some ns =>
        rw [e1] at h
        obtain ⟨l2, e2, e3⟩ := Option.map_eq_some_iff.mp h
        subst e3
        rw [asLs_map e2, asInts_map e1]
        rfl
    | _ => cases h
theorem shk_lsD (b : List Int) : PyData.canLay0 (lsD b) = true ∧ (lsD b).depth ≤ 2 := by
  refine ⟨?_, ?_⟩
  · show PyData.canLayAll0 (b.map PyData.int) = true
    induction b with
    | nil => rfl
    | cons x b ih => show (true && PyData.canLayAll0 (b.map PyData.int)) = true; rw [ih]; rfl
  · show PyData.depthAll (b.map PyData.int) + 1 ≤ 2
    rw [PySem.W.depth_ints]
    omega
theorem ls_each {G : L2.Hp} (I : Inv X pins σ H s) (sb : Sub G H) : ∀ {ls : List (List Int)} {us : List L2.V} {its : List Value}, RpAll X.K G (ls.map lsD) us → Vals us its →
    PySem.W.EachIs (fun v b => ∃ a, v = Value.ref a ∧ Rp X.K G (lsD b) (.ref a)) its ls ∧ PySem.W.EachIs (fun v b => ∃ as, Reads s.heap v (lsD b) as) its ls
  | [], us, its, t, r => by
    have t : us = [] := t
    subst t
    cases r
    exact ⟨.nil, .nil⟩
  | b :: ls, us, its, t, r => by
    obtain ⟨u, us', rfl, ru, t⟩ := t
    cases r with
    | cons r1 r2 =>
      obtain ⟨i1, i2⟩ := ls_each I sb t r2
      have rd := Dp.reads I (lsD b) u _ (Rp.dp _ _ (Rp.mono sb _ _ ru) (shk_lsD b).1) r1
      have ru0 := ru
      obtain ⟨a, xs, rfl, _, _⟩ := ru
      exact ⟨.cons ⟨a, r1, ru0⟩ i1, .cons rd i2⟩
theorem each_rp {G : L2.Hp} {K : PySem.W.Frag} : ∀ {out : List Value} {ls : List (List Int)}, PySem.W.EachIs (fun v b => ∃ a, v = Value.ref a ∧ Rp K G (lsD b) (.ref a)) out ls → (∀ u ∈ out, ∃ a, u = Value.ref a) ∧ RpAll K G (ls.map lsD) (out.map backV)
  | _, _, .nil => ⟨fun u hu => absurd hu (by simp), rfl⟩
  | _, _, .cons ⟨a, e, rp⟩ h => by
    obtain ⟨h1, h2⟩ := each_rp h
    subst e
    refine ⟨fun u hu => ?_, _, _, rfl, rp, h2⟩
    rcases List.mem_cons.mp hu with rfl | hu
    · exact ⟨a, rfl⟩
    · exact h1 u hu
theorem k_sorted (hu : X.A.units + 65 < cLine) : CallR X (.builtin "sorted") (rC1 (rF1 X.K (op1 .sorted))) := c1_of fun pins s σ H x v Q I rx ⟨G, d, P, sb, r, wp, q⟩ => by
  cases d with
  | list ds =>
    obtain ⟨a, us, rfl, h1, t⟩ := r
    have wp : optP (sortD ds) fun ys => P (.list ys) := wp
    unfold sortD at wp
    cases e : asInts ds with
    | some bs =>
      simp only [e] at wp
      have wp : P (.list ((sortI bs).map PyData.int)) := wp
      have := lst_ints t e
      subst this
      refine cr_sortedI pins s σ H _ _ Q I (vals_1 rx) ⟨a, bs, rfl, h1.sq, fun ns p hp hs hn => ?_⟩
      have e : ns = sortI bs := sorted_uniq (hp.trans (sortI_perm bs).symm) hs (sortI_sorted bs)
      subst e
      exact q _ _ p wp (rpAll_ints _) hn
    | none =>
      simp only [e] at wp
      cases ep : asPrs ds with
      | some ps =>
        simp only [ep] at wp
        have wp2 : P (.list ((sortP ps).map prD)) := wp
        have := asPrs_map ep
        subst this
        obtain ⟨its, rv, hl, hz⟩ := I.list h1.sq
        obtain rfl : v = Value.ref a := rx
        obtain ⟨k1, k2⟩ := prs_at I sb t rv
        refine SrtO.sorted_pairsO (k := keyP s.heap) hl.isList (by rw [← rv.length]; exact hz) (fun v hv => (k2 v hv).1) fun h' d out s1 s2 kp hd hn => ?_
        have e1 : out.map (keyP s.heap) = sortP ps := by
          refine srP_uniq ?_ (List.pairwise_map.mpr s1) (sortP_sorted ps)
          exact ((s2.perm.map _).trans (by rw [k1])).trans (sortP_perm ps).symm
        have h3 : ∀ u ∈ out, ∃ a, u = Value.ref a := fun u hu => by
          obtain ⟨_, a, e, _⟩ := k2 u (s2.perm.mem_iff.mp hu)
          exact ⟨a, e⟩
        have rp : RpAll X.K G ((out.map (keyP s.heap)).map prD) (out.map backV) := by
          have gen : ∀ l : List Value, (∀ u ∈ l, u ∈ its) → RpAll X.K G ((l.map (keyP s.heap)).map prD) (l.map backV) := by
            intro l
            induction l with
            | nil => intro _; rfl
            | cons u l ih =>
              intro hu
              obtain ⟨_, a, e, rp⟩ := k2 u (hu u (by simp))
              refine ⟨_, _, rfl, ?_, ih fun y hy => hu y (by simp [hy])⟩
              rw [show backV u = .ref a by rw [e]; rfl]
              exact rp
          exact gen out fun u hu => s2.perm.mem_iff.mp hu
        rw [e1] at rp
        obtain ⟨n, hn⟩ := hn
        refine ⟨.ref d, upd H d (.lst (out.map backV)), I.laid (t' := s.toks) kp hd ⟨?_, out, n, vals_back h3, hn⟩, rfl, q _ _ d wp2 rp (I.hok.fresh hd)⟩
        rw [List.length_map, s2.perm.length_eq, ← rv.length]
        exact hz
      | none =>
        simp only [ep] at wp
        obtain ⟨ys, ey, wp2⟩ := optP_of wp
        obtain ⟨ls, el, rfl⟩ := Option.map_eq_some_iff.mp ey
        have := asLs_map el
        subst this
        obtain ⟨its, rv, hl, hz⟩ := I.list h1.sq
        obtain rfl : v = Value.ref a := rx
        obtain ⟨k1, k2⟩ := ls_each I sb t rv
        have k3 := k1.length
        refine PySem.W.sorted_data (enc := lsD) hl.isList k1 k2 (PySem.W.AllAlike.of fun b b' => by
          show PySem.W.alike (.list (b.map PyData.int)) (.list (b'.map PyData.int)) = true
          rw [PySem.W.alike]
          exact PySem.W.alike_ints b b') (PySem.W.Sortable.others fun b => ⟨fun z => (nomatch z), fun xs z => (nomatch z)⟩) (by rw [← k3, ← rv.length]; exact hz) (fun b _ => by
          have : (lsD b).depth ≤ 2 := (shk_lsD b).2
          omega) fun out ho he => ?_
        rw [show PySem.W.dataLe false lsD = fun p q => decide (p ≤ q) from PySem.W.dataLe_rows (fun b => b)] at he
        have he : PySem.W.EachIs _ out (sortL ls) := he
        obtain ⟨e, hat⟩ := sortedAll_at s.heap its out.toArray
        obtain ⟨h3, rp⟩ := each_rp he
        refine ⟨.ref (s.heap.objs.size + 1), upd H (s.heap.objs.size + 1) (.lst (out.map backV)), I.laid (t' := s.toks) (fun b o e => sortedAll_old e) (Nat.le_succ _) ⟨?_, out, e, vals_back h3, hat⟩, rfl, q _ _ _ wp2 rp (I.hok.fresh (Nat.le_succ _))⟩
        rw [List.length_map, ho, ← k3, ← rv.length]
        exact hz
  | tuple ds =>
    obtain ⟨bs, e, wp⟩ := optP_of wp
    obtain ⟨a, rfl, h1⟩ := tup_ints sb r e
    obtain rfl : v = Value.ref a := rx
    obtain ⟨its, rv, pt, hz⟩ := I.tuple h1
    have hi := rv.ints
    have hlen : its.length ≤ sizeLine := by rw [← rv.length]; exact hz
    refine sorted_tupI (show s.heap.IsTuple a its.toArray from pt) hlen hi fun out e h' p s1 s2 kp np he => ?_
    obtain ⟨k1, k2, k3⟩ := SrtO.ints_out hi s1 s2
    have eq : out.map SrtO.iv = sortI bs := sorted_uniq (k2.trans (sortI_perm bs).symm) k3 (sortI_sorted bs)
    have hn : H p = none := I.hok.gone np
    have ol : ((out.map SrtO.iv).map L2.V.int).length ≤ sizeLine := by
      rw [List.length_map, k2.length_eq]
      rw [List.length_map] at hz
      exact hz
    refine ⟨.ref p, upd H p (.lst ((out.map SrtO.iv).map L2.V.int)), I.laidN (t' := s.toks) kp np hn ⟨ol, out, e, vals_of_ints k1, he⟩, rfl, ?_⟩
    rw [eq]
    exact q _ _ p wp (rpAll_ints _) hn
  | _ => exact wp.elim
theorem k_int : CallR X (.type "int") (rC1 (rD1 X.K (op1 .int))) := c1_of fun pins s σ H x v Q I rx ⟨G, d, P, sb, r, wp, q1, q2⟩ => by
  cases d with
  | int i => have r : x = .int i := r; subst r; exact call_int1 pins s σ H _ _ Q I (vals_1 rx) (.inl ⟨i, rfl, q1 _ _ wp rfl⟩)
  | bool b => have r : x = .bl b := r; subst r; exact call_int1 pins s σ H _ _ Q I (vals_1 rx) (.inr ⟨b, rfl, q1 _ _ wp rfl⟩)
  | str z =>
    have r : x = .str z := r
    subst r
    obtain ⟨hl, wp⟩ := wp
    obtain ⟨i, e, wp⟩ := optP_of wp
    exact call_int_str pins s σ H _ _ Q I (vals_1 rx) ⟨z, i, rfl, e, hl, q1 _ _ wp rfl⟩
  | _ => exact wp.elim
theorem k_str : CallR X (.type "str") (rC1 (rD1 X.K (op1 .str))) := c1_of fun pins s σ H x v Q I rx ⟨G, d, P, sb, r, wp, q1, q2⟩ => by
  cases d with
  | int i =>
    have r : x = .int i := r
    subst r
    obtain ⟨hb, wp⟩ := wp
    exact call_str_int pins s σ H _ _ Q I (vals_1 rx) ⟨i, rfl, Nat.lt_of_lt_of_le (PySem.Flt.log2_lt_of (by omega) hb) (by omega), q1 _ _ wp rfl⟩
  | _ => exact wp.elim
theorem k_min2 (hc : X.calm = true) : CallR X (.builtin "min") (rC2 (rD2 X.K (op2 .min2))) := c2_of fun pins s σ H x y v u Q I rx ry ⟨G, d1, d2, P, sb, r1, r2, wp, q1, q2⟩ => by
  obtain ⟨i, rfl, wp⟩ := intP_of wp
  obtain ⟨j, rfl, wp⟩ := intP_of wp
  have r1 : x = .int i := r1
  have r2 : y = .int j := r2
  subst r1 r2
  exact call_min2 hc pins s σ H _ _ Q I (vals_2 rx ry) ⟨i, j, rfl, q1 _ _ wp rfl⟩
theorem k_max2 (hc : X.calm = true) : CallR X (.builtin "max") (rC2 (rD2 X.K (op2 .max2))) := c2_of fun pins s σ H x y v u Q I rx ry ⟨G, d1, d2, P, sb, r1, r2, wp, q1, q2⟩ => by
  obtain ⟨i, rfl, wp⟩ := intP_of wp
  obtain ⟨j, rfl, wp⟩ := intP_of wp
  have r1 : x = .int i := r1
  have r2 : y = .int j := r2
  subst r1 r2
  exact call_max2 hc pins s σ H _ _ Q I (vals_2 rx ry) ⟨i, j, rfl, q1 _ _ wp rfl⟩
/-! ### len -/
theorem DcA.len {t : Bool} {a : Addr} {ks : List D} {us : List L2.V} (h : DcA H t a ks us) : ks.length = us.length := by
  cases t with
  | false => obtain ⟨kus, _, e1, e2⟩ := h; rw [e1, e2, List.length_map, List.length_map]
  | true => obtain ⟨kus, _, e1, e2⟩ := h; rw [e1, e2, List.length_map, List.length_map]
theorem k_lenD {t : Bool} {a : Addr} {kvs : List (D × D)} {us : List L2.V} {vs : List Value} {Q : VK} (hl : (kvs.map (·.1)).length = us.length) (I : Inv X pins σ H s) (hd : DcA H t a (kvs.map (·.1)) us) (hb : ∀ p ∈ kvs, keyB false p.1 = true) (rx : Vals [.ref a] vs) (q : Q (.int kvs.length) H) : wpAny (model X.prog X.w) X.A (call (.builtin "len") vs) (EP X pins σ Q) X.xe s := by
  obtain ⟨v, ev, rx'⟩ := vals1 rx
  subst ev
  obtain rfl : v = Value.ref a := rx'
  rw [List.length_map] at hl
  cases t with
  | false =>
    obtain ⟨kus, ha, _, eu⟩ := hd
    have e : kus.length = kvs.length := by rw [hl, eu, List.length_map]
    refine d_len I (.inl ha) fun t s' I' => ⟨.int kvs.length, H, I', ⟨t, by rw [e]⟩, q⟩
  | true =>
    obtain ⟨kus, ha, ek, eu⟩ := hd
    have e : kus.length = kvs.length := by rw [hl, eu, List.length_map]
    have hk : kvs = [] := by
      cases kvs with
      | nil => rfl
      | cons p kvs =>
        exfalso
        have := hb p (by simp)
        cases kus with
        | nil => cases ek
        | cons c kus =>
          have ek : p.1 :: kvs.map (·.1) = keyT c.1 :: kus.map (fun p => keyT p.1) := ek
          injection ek with e1 _
          rw [e1, keyT_f] at this
          cases this
    subst hk
    have hk : kus = [] := List.length_eq_zero_iff.mp e
    subst hk
    obtain ⟨hn, dd⟩ := empty_K I ha
    exact call_len_dict hn dd (by decide) ⟨.int 0, H, I.tok _, ⟨_, rfl⟩, q⟩
theorem k_len (hK : X.K = w.K) : CallR X (.builtin "len") (rC1 (rO1 w (o1V .len))) := c1_of fun pins s σ H x v Q I rx ⟨f, r, G, h, v1, P, S, rv, wp, q⟩ => by
  have fin : ∀ n : Nat, P (.d (.int n)) → Q (.int n) H := fun n pz => q _ (.int n) r G H pz Ext.refl S rfl
  cases v1 with
  | d d =>
    cases d with
    | list ds => obtain ⟨a, us, rfl, h1, t⟩ := rv; exact call_len pins s σ H _ _ Q I (vals_1 rx) ⟨_, _, rfl, .inl ⟨us, by rw [hK]; exact sqL_mono S.sub h1, rfl⟩, by rw [← rpAll_len t]; exact fin _ wp⟩
    | tuple ds => obtain ⟨a, us, rfl, h1, t⟩ := rv; exact call_len pins s σ H _ _ Q I (vals_1 rx) ⟨_, _, rfl, .inr ⟨us, by rw [hK]; exact tqT_mono S.sub h1, rfl⟩, by rw [← rpAll_len t]; exact fin _ wp⟩
    | str z => have rv : x = .str z := rv; subst rv; exact call_len pins s σ H _ _ Q I (vals_1 rx) ⟨_, _, rfl, ⟨by rw [big_eq]; exact wp.1, rfl⟩, fin _ wp.2⟩
    | dict kvs =>
      obtain ⟨a, t, us, rfl, hd, t2⟩ := rv
      have hd := hd.mono (S.sub a)
      exact k_lenD (DcA.len hd) I hd wp.1 (vals_1 rx) (fin _ wp.2)
    | _ => exact wp.elim
  | vt xs => obtain ⟨a, us, rfl, h1, t⟩ := rv; exact call_len pins s σ H _ _ Q I (vals_1 rx) ⟨_, _, rfl, .inr ⟨us, by rw [hK]; exact tqT_mono S.sub h1, rfl⟩, by rw [← rvAll_len t]; exact fin _ wp⟩
  | cell n =>
    obtain ⟨a, e1, rfl⟩ := rv
    have wp : (match h[n]? with
      | some (.lst xs) => P (.d (.int xs.length))
      | some (.lv xs) => P (.d (.int xs.length))
      | some (.dct _ kvs) => (∀ p ∈ kvs, keyB false p.1 = true) ∧ P (.d (.int kvs.length))
      | _ => False) := wp
    cases eo : h[n]? with
    | none => rw [eo] at wp; exact wp.elim
    | some o =>
      rw [eo] at wp
      have ob := S.ob n a o e1 eo
      cases o with
      | lst xs => obtain ⟨_, us, ha, t⟩ := ob; exact call_len pins s σ H _ _ Q I (vals_1 rx) ⟨_, _, rfl, .inl ⟨us, SqL.of ha, rfl⟩, by rw [← rpAll_len t]; exact fin _ wp⟩
      | lv xs => obtain ⟨_, us, ha, t⟩ := ob; exact call_len pins s σ H _ _ Q I (vals_1 rx) ⟨_, _, rfl, .inl ⟨us, SqL.of ha, rfl⟩, by rw [← rvAll_len t]; exact fin _ wp⟩
      | dct t kvs => obtain ⟨_, us, hd, t2⟩ := ob; exact k_lenD (DcA.len hd) I hd wp.1 (vals_1 rx) (fin _ wp.2)
      | _ => exact wp.elim
  | fn _ => exact wp.elim
  | exc _ _ => exact wp.elim
/-! ### is -/
theorem rv_non {r : List Addr} {G : L2.Hp} : ∀ {v : V} {u : L2.V}, Rv w r G v u → (∀ Q : Bool → Prop, isP v (.d .none) Q → Q (decide (u = .non))) := by
  intro v u rv Q h
  cases v with
  | d d =>
    cases d with
    | none => have rv : u = .non := rv; subst rv; exact h
    | bool b => have rv : u = .bl b := rv; subst rv; exact h
    | int b => have rv : u = .int b := rv; subst rv; exact h
    | str b => have rv : u = .str b := rv; subst rv; exact h
    | list b => obtain ⟨a, _, rfl, _⟩ := rv; exact h
    | tuple b => obtain ⟨a, _, rfl, _⟩ := rv; exact h
    | dict b => obtain ⟨a, _, _, rfl, _⟩ := rv; exact h
  | cell n => obtain ⟨a, _, rfl⟩ := rv; exact h
  | vt xs => obtain ⟨a, _, rfl, _⟩ := rv; exact h
  | fn f => have rv : u = .ref (w.fa f) := rv; subst rv; exact h
  | exc _ _ => obtain ⟨_, a, d, rfl, _⟩ := rv; exact h
theorem isP_of {v1 v2 : V} {Q : Bool → Prop} (h : isP v1 v2 Q) : v2 = .d .none ∨ ∃ a b, v1 = .d (.bool a) ∧ v2 = .d (.bool b) ∧ Q (decide (a = b)) := by
  cases v2 with
  | d d => cases d with
    | none => exact .inl rfl
    | bool b =>
      cases v1 with
      | d e => cases e with
        | bool a => exact .inr ⟨a, b, rfl, rfl, h⟩
        | _ => exact h.elim
      | _ => exact h.elim
    | _ => exact h.elim
  | _ => exact h.elim
theorem p_is : OpR X (compareOp .Is) (rO2 w (o2V .is)) := by
  intro pins s σ H x y v u Q I rx ry ⟨f, r, G, h, v1, v2, P, S, r1, r2, wp, q⟩
  have wp : isP v1 v2 fun b => P (.d (.bool b)) := wp
  rcases isP_of wp with rfl | ⟨a, b, rfl, rfl, wp⟩
  · have r2 : y = .non := r2
    subst r2
    exact op_isN pins s σ H x _ v u Q I rx ry ⟨rfl, q _ _ r G H (rv_non r1 _ wp) Ext.refl S rfl⟩
  · have r1 : x = .bl a := r1
    have r2 : y = .bl b := r2
    subst r1 r2
    exact op_is_bl pins s σ H _ _ v u Q I rx ry ⟨a, b, rfl, rfl, q _ _ r G H wp Ext.refl S rfl⟩
theorem p_isnot : OpR X (compareOp .IsNot) (rO2 w (o2V .isnot)) := by
  intro pins s σ H x y v u Q I rx ry ⟨f, r, G, h, v1, v2, P, S, r1, r2, wp, q⟩
  have wp : isP v1 v2 fun b => P (.d (.bool (!b))) := wp
  rcases isP_of wp with rfl | ⟨a, b, rfl, rfl, wp⟩
  · have r2 : y = .non := r2
    subst r2
    exact op_notN pins s σ H x _ v u Q I rx ry ⟨rfl, q _ _ r G H (rv_non r1 _ wp) Ext.refl S rfl⟩
  · have r1 : x = .bl a := r1
    have r2 : y = .bl b := r2
    subst r1 r2
    exact op_isnot_bl pins s σ H _ _ v u Q I rx ry ⟨a, b, rfl, rfl, q _ _ r G H wp Ext.refl S rfl⟩
/-! ### x[i] -/
theorem atI_all2 {α β : Type} {R : α → β → Prop} {as : List α} {bs : List β} (h : All2 R as bs) {i : Int} {a : α} (e : L2.atI as i = some a) : ∃ b, L2.atI bs i = some b ∧ R a b := by
  unfold L2.atI at e ⊢
  rw [← h.length]
  cases ej : L2.ixN as.length i with
  | none => rw [ej] at e; cases e
  | some j =>
    rw [ej] at e
    exact h.getL e
def rDx : R2 := fun x y H Q => ∃ a v, x = .ref a ∧ DGet H a y (some v) ∧ Q v H
theorem dx_of {K : PySem.W.Frag} {G : L2.Hp} {t : Bool} {a : Addr} {kvs : List (D × D)} {us : List L2.V} {k z : D} {y : L2.V} {Q : VK} (sb : Sub G H) (hd : DcA H t a (kvs.map (·.1)) us) (rv : RpKv K G kvs us) (rk : Rp K G k y) (hk : ∃ t, keyB t k = true ∧ ∀ p ∈ kvs, keyB t p.1 = true) (ez : valD kvs k = some z)
    (q : ∀ u, Rp K G z u → Q u H) : rDx (.ref a) y H Q := by
  obtain ⟨o, g, vr⟩ := asked sb hd rv rk hk
  rw [ez] at vr
  obtain ⟨u, rfl, ru⟩ := vr
  cases g with
  | get g => exact ⟨a, u, rfl, g, q u ru⟩
theorem idx_of (hK : X.K = w.K) {x y : L2.V} {Q : VK} (h : rO2 w idxV x y H Q) : rIx X.K x y H Q ∨ rDx x y H Q := by
  obtain ⟨f, r, G, h, v1, v2, P, S, r1, r2, wp, q⟩ := h
  have fin : ∀ z u, P z → Rv w r G z u → Q u H := fun z u pz rz => q z u r G H pz Ext.refl S rz
  cases v1 with
  | d d =>
    have wp : optP (rdV h v2) fun b => idxP d b fun z => P (.d z) := wp
    obtain ⟨e, e2, wp⟩ := optP_of wp
    have rd := S.read r2 e2
    cases d with
    | list ds =>
      cases e with
      | int i =>
        obtain ⟨z, ez, wp⟩ := optP_of wp
        obtain ⟨a, us, rfl, h1, t⟩ := r1
        obtain ⟨u, eu, ru⟩ := atI_all2 (rpAll_iff.mp t) ez
        exact .inl <| .inl ⟨a, us, i, u, rfl, rd, by rw [hK]; exact sqL_mono S.sub h1, eu, fin _ _ wp ru⟩
      | _ => exact wp.elim
    | tuple ds =>
      cases e with
      | int i =>
        obtain ⟨z, ez, wp⟩ := optP_of wp
        obtain ⟨a, us, rfl, h1, t⟩ := r1
        obtain ⟨u, eu, ru⟩ := atI_all2 (rpAll_iff.mp t) ez
        exact .inl <| .inr (.inl ⟨a, us, i, u, rfl, rd, by rw [hK]; exact tqT_mono S.sub h1, eu, fin _ _ wp ru⟩)
      | _ => exact wp.elim
    | str z =>
      cases e with
      | int i =>
        obtain ⟨hz, wp⟩ := wp
        obtain ⟨c, ec, wp⟩ := optP_of wp
        exact .inl <| .inr (.inr ⟨z, i, c, r1, rd, by rw [big_eq]; exact hz, ec, fin _ _ wp rfl⟩)
      | _ => exact wp.elim
    | dict kvs =>
      obtain ⟨hk, wp⟩ := wp
      obtain ⟨z, ez, wp⟩ := optP_of wp
      obtain ⟨a, t, us, rfl, hd, t2⟩ := r1
      exact .inr (dx_of S.sub (hd.mono (S.sub a)) t2 (rt_key rd hk) hk ez fun u ru => fin _ _ wp ru)
    | _ => exact wp.elim
  | vt xs =>
    cases v2 with
    | d e => cases e with
      | int i =>
        obtain ⟨z, ez, wp⟩ := optP_of wp
        obtain ⟨a, us, rfl, h1, t⟩ := r1
        obtain ⟨u, eu, ru⟩ := atI_all2 (rvAll_iff.mp t) ez
        exact .inl <| .inr (.inl ⟨a, us, i, u, rfl, r2, by rw [hK]; exact tqT_mono S.sub h1, eu, fin _ _ wp ru⟩)
      | _ => exact wp.elim
    | _ => exact wp.elim
  | cell n =>
    obtain ⟨a, e1, rfl⟩ := r1
    cases eo : h[n]? with
    | none => unfold idxV at wp; simp only [eo] at wp
    | some o =>
      have ob := S.ob n a o e1 eo
      cases o with
      | lst xs =>
        cases v2 with
        | d e => cases e with
          | int i =>
            unfold idxV at wp
            simp only [eo] at wp
            obtain ⟨z, ez, wp⟩ := optP_of wp
            obtain ⟨_, us, ha, t⟩ := ob
            obtain ⟨u, eu, ru⟩ := atI_all2 (rpAll_iff.mp t) ez
            exact .inl <| .inl ⟨a, us, i, u, rfl, r2, SqL.of ha, eu, fin _ _ wp ru⟩
          | _ => unfold idxV at wp; simp only [eo] at wp
        | _ => unfold idxV at wp; simp only [eo] at wp
      | lv xs =>
        cases v2 with
        | d e => cases e with
          | int i =>
            unfold idxV at wp
            simp only [eo] at wp
            obtain ⟨z, ez, wp⟩ := optP_of wp
            obtain ⟨_, us, ha, t⟩ := ob
            obtain ⟨u, eu, ru⟩ := atI_all2 (rvAll_iff.mp t) ez
            exact .inl <| .inl ⟨a, us, i, u, rfl, r2, SqL.of ha, eu, fin _ _ wp ru⟩
          | _ => unfold idxV at wp; simp only [eo] at wp
        | _ => unfold idxV at wp; simp only [eo] at wp
      | dct t kvs =>
        unfold idxV at wp
        simp only [eo] at wp
        obtain ⟨k, ek, wp⟩ := optP_of wp
        obtain ⟨hk, wp⟩ := wp
        obtain ⟨z, ez, wp⟩ := optP_of wp
        obtain ⟨_, us, hd, t2⟩ := ob
        exact .inr (dx_of S.sub hd t2 (rt_key (S.read r2 ek) hk) hk ez fun u ru => fin _ _ wp ru)
      | _ => unfold idxV at wp; simp only [eo] at wp
  | fn _ => exact wp.elim
  | exc _ _ => exact wp.elim
theorem p_ix (hu : X.A.units + 65 < cLine) (hK : X.K = w.K) : IxR X (rO2 w (o2V .idx)) := fun va sl pins s σ H x y v u Q I rx ry h hs => by
  rcases idx_of hK h with h | ⟨a, z, rfl, g, q⟩
  · exact ix_seq va sl pins s σ H x y v u Q I rx ry h hs
  · cases rx
    exact tail_any (ops := [.ref a, u]) (dict_typeIs I g) PySem.F.slot_dict_getitem.lookup (d_getItem (by omega) I g ry fun w' s3 I3 rw' => ⟨z, H, I3, rw', q⟩) hs
theorem p_get (hu : X.A.units + 65 < cLine) (hK : X.K = w.K) : PGet X (rO2 w idxV) := by
  intro pins s σ H o i ov iv Q I ro ri h
  rcases idx_of hK h with (⟨p, xs, i, z, rfl, rfl, hq, he, q⟩ | ⟨p, xs, i, z, rfl, rfl, hq, he, q⟩ | ⟨z, i, c, rfl, rfl, hz, he, q⟩) | ⟨a, z, rfl, g, q⟩
  · cases ro
    obtain ⟨t, rfl⟩ := ri
    obtain ⟨its, r, pl, hz⟩ := I.list hq
    obtain ⟨j, h1, h2, h3, h4, h5⟩ := atI_get he
    obtain ⟨w, ew, rw'⟩ := r.get h2
    have hl := r.length
    have hn := line63
    have fin : EP X pins σ Q w s := ⟨z, H, I, rw', q⟩
    by_cases h0 : 0 ≤ i
    · have hj : i.toNat = j := by
        rw [seqIndex_of h0 h5] at h1
        exact Option.some.inj h1
      exact wpAny_getItem_list pl.isList h0 (by omega) (by rw [hj]; simpa using ew) fin
    · have hj : (i + (its.toArray.size : Int)).toNat = j := by
        rw [seqIndex_neg (by omega) h4] at h1
        rw [List.size_toArray, ← hl]
        exact Option.some.inj h1
      exact wpAny_getItem_list_neg pl.isList (by omega) (by rw [List.size_toArray] <;> omega) (by omega) (by rw [hj]; simpa using ew) fin
  · cases ro
    obtain ⟨t, rfl⟩ := ri
    obtain ⟨its, r, pl, hz⟩ := I.tuple hq
    obtain ⟨j, h1, h2, h3, h4, h5⟩ := atI_get he
    obtain ⟨w, ew, rw'⟩ := r.get h2
    have hl := r.length
    have hn := line63
    have fin : EP X pins σ Q w s := ⟨z, H, I, rw', q⟩
    exact PyProof.Rows.getItem_tuple (j := j) pl (by omega) (by omega) (by rw [List.size_toArray, ← hl]; exact h1) (by simpa using ew) fin
  · obtain ⟨t, rfl⟩ := ro
    obtain ⟨t', rfl⟩ := ri
    obtain ⟨j, h1, h2, h3, h4, h5⟩ := atI_get he
    have hl : z.cps.toList.length = z.length := by simp [Str.length]
    rw [hl] at h1 h4 h5
    have hn := line63
    exact getItem_str (c := c) (by
      have e1 : decide (i < -(2 ^ 63 : Int)) = false := decide_eq_false (by omega)
      have e2 : decide (i ≥ 2 ^ 63) = false := decide_eq_false (by omega)
      rw [e1, e2, Bool.or_false]) (by rw [h1]; simpa using h2) ⟨.str ⟨#[c]⟩, H, I.tok _, ⟨_, rfl⟩, q⟩
  · cases ro
    exact d_getItem (by omega) I g ri fun w' s3 I3 rw' => ⟨z, H, I3, rw', q⟩
/-! ### x[i] = v, x op= v -/
theorem p_set (hu : X.A.units + 65 < cLine) : PSet X (rSet w) := by
  intro pins s σ H o i v ov iv u Q I ro ri rv ⟨f, r, G, h, v1, v2, v3, P, S, r1, r2, r3, wp, q⟩
  cases v1 with
  | cell n =>
    obtain ⟨a, e1, rfl⟩ := r1
    cases eo : h[n]? with
    | none => unfold setV at wp; simp only [eo] at wp
    | some ob =>
      have obr := S.ob n a ob e1 eo
      cases ob with
      | lst xs =>
        cases v2 with
        | d e => cases e with
          | int k =>
            cases v3 with
            | d y =>
              unfold setV at wp
              simp only [eo] at wp
              obtain ⟨j, ej, wp⟩ := optP_of wp
              obtain ⟨g, us, ha, t⟩ := obr
              have r2 : i = .int k := r2
              refine set_list pins s σ H _ _ v ov iv u Q I ro ri rv ⟨a, us, k, j, rfl, r2, ha, by rw [← rpAll_len t]; exact ej, ?_⟩
              have S2 := S.put (x := .lst (us.set j v)) (o' := .lst (xs.set j y)) e1 eo (fun z => nomatch z) ⟨g, _, upd_same, rpAll_iff.mpr ((rpAll_iff.mp t).set r3 j)⟩
              exact q _ r G _ wp Ext.refl S2
            | _ => unfold setV at wp; simp only [eo] at wp
          | _ => unfold setV at wp; simp only [eo] at wp
        | _ => unfold setV at wp; simp only [eo] at wp
      | dct t kvs =>
        cases v2 with
        | d k =>
          cases v3 with
          | d y =>
            unfold setV at wp
            simp only [eo] at wp
            obtain ⟨⟨hk, hz⟩, wp⟩ := wp
            obtain ⟨g, us, hd, t2⟩ := obr
            cases t with
            | false =>
              obtain ⟨kus, ha, ek, rfl⟩ := hd
              obtain ⟨c, rfl⟩ := keyB_f hk
              have := rp_key r2
              subst this
              obtain ⟨p1, p2⟩ := put_rel keyD eqD_key c r3 ek t2
              have hl : kus.length < sizeLine := by rw [big_eq, show kus.length = kvs.length by have := congrArg List.length ek; simpa using this.symm]; exact hz
              cases ro
              refine d_setItem (by omega) I (DPut.k ha hl) ri rv fun s' I' => ⟨_, I', q _ r G _ wp Ext.refl (S.put (o' := .dct false (putD kvs (keyD c) y)) e1 eo (fun z => nomatch z) ⟨g, _, ⟨_, upd_same, p1, rfl⟩, p2⟩)⟩
            | true =>
              obtain ⟨kus, ha, ek, rfl⟩ := hd
              obtain ⟨c, rfl⟩ := keyB_t hk
              obtain ⟨b, xs, rfl, hb, tk⟩ := r2
              have := rpAll_keys tk
              subst this
              obtain ⟨p1, p2⟩ := put_rel keyT eqD_keyT c r3 ek t2
              have hl : kus.length < sizeLine := by rw [big_eq, show kus.length = kvs.length by have := congrArg List.length ek; simpa using this.symm]; exact hz
              cases ro
              refine d_setItem (by omega) I (DPut.t ha (S.sub _ _ hb) hl) ri rv fun s' I' => ⟨_, I', q _ r G _ wp Ext.refl (S.put (o' := .dct true (putD kvs (keyT c) y)) e1 eo (fun z => nomatch z) ⟨g, _, ⟨_, upd_same, p1, rfl⟩, p2⟩)⟩
          | _ => unfold setV at wp; simp only [eo] at wp
        | _ => unfold setV at wp; simp only [eo] at wp
      | _ => unfold setV at wp; simp only [eo] at wp
  | _ => exact wp.elim
theorem aug_of {o : O2} {x y : L2.V} {Q : VK} (h : rAug w o x y H Q) : ∃ m n, x = .int m ∧ y = .int n ∧ (match o with
    | .add => Q (.int (m + n)) H
    | .sub => Q (.int (m - n)) H
    | .mul => okMul m n ∧ Q (.int (m * n)) H
    | _ => False) := by
  obtain ⟨f, r, G, h, v1, v2, P, S, r1, r2, wp, q⟩ := h
  cases v1 with
  | d d1 => cases d1 with
    | int m => cases v2 with
      | d d2 => cases d2 with
        | int n =>
          refine ⟨m, n, r1, r2, ?_⟩
          cases o with
          | add => exact q _ _ wp rfl
          | sub => exact q _ _ wp rfl
          | mul => exact ⟨wp.1, q _ _ wp.2 rfl⟩
          | _ => exact wp.elim
        | _ => exact wp.elim
      | _ => exact wp.elim
    | _ => cases v2 <;> exact wp.elim
  | _ => cases v2 <;> exact wp.elim
theorem ip_add' : PIp X .Add (rAug w .add) := fun pins s σ H x y v u Q I rx ry h => by
  obtain ⟨m, n, rfl, rfl, q⟩ := aug_of h
  exact iop_add pins s σ H _ _ v u Q I rx ry ⟨m, n, rfl, rfl, q⟩
theorem ip_sub' : PIp X .Sub (rAug w .sub) := fun pins s σ H x y v u Q I rx ry h => by
  obtain ⟨m, n, rfl, rfl, q⟩ := aug_of h
  exact iop_sub pins s σ H _ _ v u Q I rx ry ⟨m, n, rfl, rfl, q⟩
theorem ip_mul' : PIp X .Mult (rAug w .mul) := fun pins s σ H x y v u Q I rx ry h => by
  obtain ⟨m, n, rfl, rfl, ok, q⟩ := aug_of h
  rcases okMul_ok ok with ok | ok
  · exact iop_mul pins s σ H _ _ v u Q I rx ry ⟨m, n, rfl, rfl, ok, q⟩
  · obtain ⟨t, rfl⟩ := rx
    obtain ⟨t', rfl⟩ := ry
    exact imul_int ⟨.int _, H, I.tok _, ⟨_, rfl⟩, q⟩ ok.ok
end
end Hb

/-! SND6: isinstance, methods, new lists, slices, ranges. -/
namespace Hb
open PySem PySem.Spec PyProof.Rows
open L2 hiding V Hp St
set_option autoImplicit false
/-! ### isinstance -/
def tyN : Ty → String
  | .int => "int" | .bool => "bool" | .str => "str" | .tuple => "tuple" | .list => "list" | .dict => "dict" | .verr => "ValueError" | .own _ => "ValueError" | .hue => "ValueError"
def builtinTy : Ty → Bool
  | .int => true | .bool => true | .str => true | .tuple => true | .list => true | .dict => true | _ => false
/-- the kind of a value -/
inductive Kd where | non | bl | int | str | tup | lst | dic
def kdN : Kd → String
  | .non => "NoneType" | .bl => "bool" | .int => "int" | .str => "str" | .tup => "tuple" | .lst => "list" | .dic => "dict"
def kdIs : Kd → Ty → Bool
  | .bl, .bool => true | .bl, .int => true | .int, .int => true | .str, .str => true | .tup, .tuple => true | .lst, .list => true | .dic, .dict => true | _, _ => false
theorem kd_kit : ∀ (k : Kd) (t : Ty), builtinTy t = true → kitB (kdN k) (tyN t) = some (kdIs k t) := by
  intro k t ht
  cases t <;> first | (cases k <;> decide +kernel) | cases ht
section
variable {X : Cx} {w : Wo} {f : L2.Hp} {r : List Addr} {G H : L2.Hp} {h : Hp}
theorem lq_ty {K : PySem.W.Frag} {a : Addr} {us : List L2.V} (h : LqL K H a us) : TyX K H (.ref a) (.type "list") := by
  rcases h with (h | ⟨o, h⟩) | ⟨its, n, h, _⟩
  · exact .base (.lst h)
  · exact .base (.frz h)
  · exact .kList h rfl
theorem sq_ty {K : PySem.W.Frag} {a : Addr} {us : List L2.V} (h : SqT K H a us) : TyX K H (.ref a) (.type "tuple") := by
  rcases h with (h | ⟨o, h⟩) | ⟨o, its, n, h, c, _⟩
  · exact .base (.tup h)
  · exact .fTuple h
  · exact .kTuple h c
theorem dc_ty {K : PySem.W.Frag} {t : Bool} {a : Addr} {ks : List D} {us : List L2.V} (h : DcA H t a ks us) : TyX K H (.ref a) (.type "dict") := by
  cases t with
  | false => obtain ⟨kus, e, _⟩ := h; exact .base (.dK e)
  | true => obtain ⟨kus, e, _⟩ := h; exact .base (.dT e)
theorem kd_of {v : V} {u : L2.V} {tys : List Ty} {Q : Bool → Prop} (S : Sim w f r G h H) (rv : Rv w r G v u) (q : isiP h v tys Q) (hb : tys.all builtinTy = true) (hne : tys ≠ []) : ∃ k, TyX w.K H u (.type (kdN k)) ∧ Q (tys.any fun t => kdIs k t) := by
  have any_eq : ∀ (f g : Ty → Bool), (∀ t, builtinTy t = true → f t = g t) → tys.any f = tys.any g := by
    intro f g hfg
    clear q hne
    induction tys with
    | nil => rfl
    | cons t ts ih =>
      rw [List.all_cons, Bool.and_eq_true] at hb
      rw [List.any_cons, List.any_cons, hfg t hb.1, ih hb.2]
  cases v with
  | d d =>
    have q : Q (tys.any fun t => isTy h (.d d) t) := q
    cases d with
    | none => have rv : u = .non := rv; subst rv; exact ⟨.non, .base .non, by rw [any_eq _ (fun t => isTy h (.d .none) t) fun t ht => by cases t <;> first | rfl | cases ht]; exact q⟩
    | bool b => have rv : u = .bl b := rv; subst rv; exact ⟨.bl, .base (.bl b), by rw [any_eq _ (fun t => isTy h (.d (.bool b)) t) fun t ht => by cases t <;> first | rfl | cases ht]; exact q⟩
    | int b => have rv : u = .int b := rv; subst rv; exact ⟨.int, .base (.int b), by rw [any_eq _ (fun t => isTy h (.d (.int b)) t) fun t ht => by cases t <;> first | rfl | cases ht]; exact q⟩
    | str b => have rv : u = .str b := rv; subst rv; exact ⟨.str, .base (.str b), by rw [any_eq _ (fun t => isTy h (.d (.str b)) t) fun t ht => by cases t <;> first | rfl | cases ht]; exact q⟩
    | list b => obtain ⟨a, us, rfl, hq, _⟩ := rv; exact ⟨.lst, lq_ty (lqL_mono S.sub hq), by rw [any_eq _ (fun t => isTy h (.d (.list b)) t) fun t ht => by cases t <;> first | rfl | cases ht]; exact q⟩
    | tuple b => obtain ⟨a, us, rfl, hq, _⟩ := rv; exact ⟨.tup, sq_ty (tqT_mono S.sub hq), by rw [any_eq _ (fun t => isTy h (.d (.tuple b)) t) fun t ht => by cases t <;> first | rfl | cases ht]; exact q⟩
    | dict b => obtain ⟨a, t, us, rfl, hq, _⟩ := rv; exact ⟨.dic, dc_ty (hq.mono (S.sub a)), by rw [any_eq _ (fun t => isTy h (.d (.dict b)) t) fun t ht => by cases t <;> first | rfl | cases ht]; exact q⟩
  | cell n =>
    obtain ⟨a, e1, rfl⟩ := rv
    cases eo : h[n]? with
    | none => unfold isiP at q; simp only [eo] at q
    | some o =>
      have ob := S.ob n a o e1 eo
      cases o with
      | lst xs =>
        obtain ⟨_, us, ha, _⟩ := ob
        refine ⟨.lst, .base (.lst ha), ?_⟩
        unfold isiP at q
        simp only [eo] at q
        rw [any_eq _ (fun t => isTy h (.cell n) t) fun t ht => by unfold isTy; simp only [eo]; cases t <;> first | rfl | cases ht]
        exact q
      | lv xs =>
        obtain ⟨_, us, ha, _⟩ := ob
        refine ⟨.lst, .base (.lst ha), ?_⟩
        unfold isiP at q
        simp only [eo] at q
        rw [any_eq _ (fun t => isTy h (.cell n) t) fun t ht => by unfold isTy; simp only [eo]; cases t <;> first | rfl | cases ht]
        exact q
      | dct t kvs =>
        obtain ⟨_, us, hd, _⟩ := ob
        refine ⟨.dic, dc_ty hd, ?_⟩
        unfold isiP at q
        simp only [eo] at q
        rw [any_eq _ (fun t => isTy h (.cell n) t) fun t ht => by unfold isTy; simp only [eo]; cases t <;> first | rfl | cases ht]
        exact q
      | ins _ _ => unfold isiP at q; simp only [eo] at q
      | dead => unfold isiP at q; simp only [eo] at q
  | vt xs =>
    have q : Q (tys.any fun t => isTy h (.vt xs) t) := q
    obtain ⟨a, us, rfl, hq, _⟩ := rv
    exact ⟨.tup, sq_ty (tqT_mono S.sub hq), by rw [any_eq _ (fun t => isTy h (.vt xs) t) fun t ht => by cases t <;> first | rfl | cases ht]; exact q⟩
  | fn _ => exact q.elim
  | exc c fs =>
    obtain ⟨⟨_, q⟩, _⟩ := q
    cases tys with
    | nil => exact absurd rfl hne
    | cons ty tys =>
      rw [List.all_cons, Bool.and_eq_true] at q hb
      cases ty <;> first | exact Bool.noConfusion q.1 | exact Bool.noConfusion hb.1
end
section
variable {X : Cx} {w : Wo} {F : Phi} {W : WX} {a b e : Expr} {t t1 t2 : T} {pos : Pos}
theorem se_isi1 {ty : Ty} {x : Str} {p p2 : Pos} (hK : X.K = w.K) (hg : Gl X "isinstance") (hm : X.mg "isinstance" = none) (hgx : Gl X x) (hmx : X.mg x = none) (hx : bootBuiltins x = some (.type (tyN ty))) (hb : builtinTy ty = true) (hn : x ≠ "__name__") (hd : (x == ("__debug__" : Str)) = false)
    (ha : SE X w F W a t) (hs : ∀ x p, a ≠ .Starred x p) : SE X w F W (.Call (.Name "isinstance" p) [a, .Name x p2] [] pos) (.isi t [ty]) := by
  refine pe_imp (pe_callB call_isi hg hm (by decide +kernel) (pa_cons ha (pa_cons (pe_bltn hgx hmx hx (v := .ty (tyN ty)) rfl hn hd) pa_nil) (nostar hs)) (by decide) (by decide) (nostar hs) (noany (by intro e he x p hz; simp at he; subst he; cases hz))) fun s H Q h => ?_
  obtain ⟨f, r, G, env, h, P, Xp, S, E, wp, q, qx⟩ := h
  refine ⟨f, r, G, env, h, _, Xp, S, E, wp, fun v h1 u r1 G1 H1 w1 e1 S1 rv => ?_, qx⟩
  obtain ⟨k, tx, w2⟩ := kd_of S1 rv w1 (by simpa using hb) (by simp)
  have w2 : P (.d (.bool (kdIs k ty || false))) h1 := w2
  rw [Bool.or_false] at w2
  exact ⟨u, .ty (tyN ty), .type (kdN k), .type (tyN ty), kdIs k ty, rfl, .ty _, by rw [hK]; exact tx, kit_ty (kd_kit k ty hb), q _ h1 (.bl (kdIs k ty)) r1 G1 H1 w2 e1 S1 rfl⟩
/-! ### methods that change a list -/
def plainBase : Expr → Bool
  | .Name _ _ => true
  | .Subscript _ _ _ => true
  | _ => false
theorem base_eq {o : Expr} {name : Str} {env : PySem.Env} (h : plainBase o = true) : attributeBase o name env (eval o env) = eval o env := by
  cases o <;> first | rfl | cases h
def rMut (w : Wo) (m : Mu) : L2.V → List L2.V → L2.Hp → VK → Prop := fun x xs H Q => ∃ f r G h v vs P, Sim w f r G h H ∧ Rv w r G v x ∧ RvAll w r G vs xs ∧ mutV m v vs h P ∧
  ∀ z u h' r' G' H', P z h' → Ext r G r' G' → Sim w f r' G' h' H' → Rv w r' G' z u → Q u H'
theorem mut_of {m : Mu} {x : L2.V} {xs : List L2.V} {H : L2.Hp} {Q : VK} (h : rMut w m x xs H Q) : ∃ f r G h vs P, ∃ n : Nat, ∃ a ds us, Sim w f r G h H ∧ x = .ref a ∧ RvAll w r G vs xs ∧ H a = some (.lst us) ∧ RpAll w.K G ds us ∧ mutL m ds vs h P ∧
    (∀ z u ds' us', P z ds' → RpAll w.K G ds' us' → Rv w r G z u → Q u (upd H a (.lst us'))) ∧ h[n]? = some (Ob.lst ds) ∧ r[n]? = some a := by
  obtain ⟨f, r, G, h, v, vs, P, S, rv, rvs, wp, q⟩ := h
  cases v with
  | cell n =>
    obtain ⟨a, e1, rfl⟩ := rv
    cases eo : h[n]? with
    | none => unfold mutV at wp; simp only [eo] at wp
    | some o =>
      have ob := S.ob n a o e1 eo
      cases o with
      | lst ds =>
        unfold mutV at wp
        simp only [eo] at wp
        obtain ⟨g, us, ha, t⟩ := ob
        refine ⟨f, r, G, h, vs, _, n, a, ds, us, S, rfl, rvs, ha, t, wp, fun z u ds' us' pz t' rz => ?_, eo, e1⟩
        exact q z u _ r G _ pz Ext.refl (S.put (x := .lst us') (o' := .lst ds') e1 eo (fun z => nomatch z) ⟨g, us', upd_same, t'⟩) rz
      | _ => unfold mutV at wp; simp only [eo] at wp
  | _ => exact wp.elim
theorem m_append : MtR X "list.append" (rMut w .append) := fun pins s σ H x xs v us Q I rx rxs h => by
  obtain ⟨f, r, G, h, vs, P, n, a, ds, us', S, rfl, rvs, ha, t, wp, q, _⟩ := mut_of h
  cases vs with
  | nil => exact wp.elim
  | cons y ys =>
    cases y with
    | d d =>
      cases ys with
      | nil =>
        obtain ⟨hz, wp⟩ := wp
        obtain ⟨u, us2, rfl, ru, e⟩ := rvs
        have e : us2 = [] := e
        subst e
        exact mt_append pins s σ H _ _ v us Q I rx rxs ⟨a, us', u, rfl, rfl, ha, by rw [← rpAll_len t, big_eq]; exact hz, q _ _ _ _ wp (rpAll_iff.mpr ((rpAll_iff.mp t).snoc ru)) rfl⟩
      | cons _ _ => exact wp.elim
    | _ => exact wp.elim
def rExtendL (K : PySem.W.Frag) : L2.V → List L2.V → L2.Hp → VK → Prop := fun x vs H Q => ∃ l b xs zs, x = .ref l ∧ vs = [.ref b] ∧ H l = some (.lst xs) ∧ LqL K H b zs ∧ xs.length + zs.length ≤ sizeLine ∧ Q .non (upd H l (.lst (xs ++ zs)))
theorem mt_extendL : MtM X "list.extend" (rExtendL X.K) := by
  intro pins s σ H x vs v us Q I rx rv h
  obtain ⟨l, b, xs, zs, rfl, rfl, hH, hB, hz, q⟩ := h
  cases rx
  obtain ⟨u, rfl, ru⟩ := rv.one
  cases ru
  obtain ⟨z, its, n, r, hl, e⟩ := I.lstM hH
  obtain ⟨its2, n2, r2, e2, z2⟩ := inv_lq I hB
  have hl2 := r2.length
  have hsz : its.toArray.size + its2.toArray.size ≤ sizeLine := by rw [List.size_toArray, List.size_toArray]; omega
  have hlong : ¬ (!its.toArray.isEmpty && Builtin.List.listTooLong (its.toArray.size + its2.toArray.size)) = true := by
    rw [notLongL hsz, Bool.and_false]
    exact Bool.false_ne_true
  refine call_meets F.slot_list_extend ⟨_, e, rfl⟩ F.entry_list_extend (F.args_list_extend_2 _ _)
    (AutoSeq1.list_extend_list_list_0 l its.toArray n b its2.toArray n2 hlong (by rw [List.size_toArray]; omega) (by omega)) ⟨e, e2, ?_⟩
  refine ⟨.non, _, I.lset (its' := its ++ its2) hH e (by simp) (r.append r2) ?_, rfl, q⟩
  rw [List.length_append]
  omega
theorem m_extend (hK : X.K = w.K) : MtR X "list.extend" (rMut w .extend) := fun pins s σ H x xs v us Q I rx rxs h => by
  obtain ⟨f, r, G, h, vs, P, n, a, ds, us', S, rfl, rvs, ha, t, wp, q, _⟩ := mut_of h
  cases vs with
  | nil => exact wp.elim
  | cons y ys =>
    cases ys with
    | nil =>
      obtain ⟨d, ed, wp⟩ := optP_of wp
      obtain ⟨u, us2, rfl, ru, e⟩ := rvs
      have e : us2 = [] := e
      subst e
      have rd := S.read ru ed
      cases d with
      | list zs =>
        obtain ⟨hz, wp⟩ := wp
        obtain ⟨b, uz, rfl, hb, tz⟩ := rd
        exact mt_extendL pins s σ H _ _ v us Q I rx rxs ⟨a, b, us', uz, rfl, rfl, ha, by rw [hK]; exact hb, by rw [← rpAll_len t, ← rpAll_len tz, big_eq]; exact hz, q _ _ _ _ wp (rpAll_append t tz) rfl⟩
      | _ => exact wp.elim
    | cons _ _ => cases y <;> exact wp.elim
theorem m_pop : MtR X "list.pop" (rMut w .pop) := fun pins s σ H x xs v us Q I rx rxs h => by
  obtain ⟨f, r, G, h, vs, P, n, a, ds, us', S, rfl, rvs, ha, t, wp, q, _⟩ := mut_of h
  cases vs with
  | nil =>
    have e : xs = [] := rvs
    subst e
    obtain ⟨y, ey, wp⟩ := optP_of wp
    rw [List.getLast?_eq_getElem?] at ey
    obtain ⟨u, eu, ru⟩ := (rpAll_iff.mp t).getL ey
    exact mt_pop pins s σ H _ _ v us Q I rx rxs ⟨a, us', u, rfl, rfl, ha, by rw [← rpAll_len t]; exact eu, q _ _ _ _ wp (rpAll_iff.mpr (rpAll_iff.mp t).dropLast) ru⟩
  | cons _ _ => exact wp.elim
theorem m_popat : MtR X "list.pop" (rMut w .popat) := fun pins s σ H x xs v us Q I rx rxs h => by
  obtain ⟨f, r, G, h, vs, P, n, a, ds, us', S, rfl, rvs, ha, t, wp, q, _⟩ := mut_of h
  cases vs with
  | nil => exact wp.elim
  | cons y ys =>
    cases y with
    | d d =>
      cases d with
      | int i =>
        cases ys with
        | nil =>
          obtain ⟨k, ek, wp⟩ := optP_of wp
          obtain ⟨y, ey, wp⟩ := optP_of wp
          obtain ⟨u, us2, rfl, ru, e⟩ := rvs
          have e : us2 = [] := e
          subst e
          have ru : u = .int i := ru
          subst ru
          obtain ⟨uy, euy, ruy⟩ := (rpAll_iff.mp t).getL ey
          obtain ⟨h1, h2, h3, h4⟩ := ixN_seq ek
          have hl := rpAll_len t
          obtain ⟨z, _⟩ := I.lstM ha
          have hn := line63
          exact mt_popAt pins s σ H _ _ v us Q I rx rxs ⟨a, us', i, k, uy, rfl, rfl, ha, by omega, by omega, by rw [← hl]; exact h1, euy, q _ _ _ _ wp (rpAll_iff.mpr ((rpAll_iff.mp t).eraseIdx k)) ruy⟩
        | cons _ _ => exact wp.elim
      | _ => exact wp.elim
    | _ => exact wp.elim
theorem m_insert : MtR X "list.insert" (rMut w .insert) := fun pins s σ H x xs v us Q I rx rxs h => by
  obtain ⟨f, r, G, h, vs, P, n, a, ds, us', S, rfl, rvs, ha, t, wp, q, _⟩ := mut_of h
  cases vs with
  | nil => exact wp.elim
  | cons y ys =>
    cases y with
    | d d =>
      cases d with
      | int i =>
        cases ys with
        | nil => exact wp.elim
        | cons z zs =>
          cases z with
          | d z =>
            cases zs with
            | nil =>
              obtain ⟨⟨hz, h0, h1⟩, wp⟩ := wp
              obtain ⟨u, us2, rfl, ru, u2, us3, rfl, ru2, e⟩ := rvs
              have e : us3 = [] := e
              subst e
              have ru : u = .int i := ru
              subst ru
              exact mt_insert pins s σ H _ _ v us Q I rx rxs ⟨a, us', i, u2, rfl, rfl, ha, by rw [← rpAll_len t, big_eq]; exact hz, h0, h1, q _ _ _ _ wp (rpAll_iff.mpr (((rpAll_iff.mp t).take i.toNat).snoc ru2 |>.append ((rpAll_iff.mp t).drop i.toNat))) rfl⟩
            | cons _ _ => exact wp.elim
          | _ => exact wp.elim
      | _ => exact wp.elim
    | _ => exact wp.elim
theorem m_reverse : MtR X "list.reverse" (rMut w .reverse) := fun pins s σ H x xs v us Q I rx rxs h => by
  obtain ⟨f, r, G, h, vs, P, n, a, ds, us', S, rfl, rvs, ha, t, wp, q, _⟩ := mut_of h
  cases vs with
  | nil =>
    have e : xs = [] := rvs
    subst e
    exact mt_reverse pins s σ H _ _ v us Q I rx rxs ⟨a, us', rfl, rfl, ha, q _ _ _ _ wp (rpAll_iff.mpr (rpAll_iff.mp t).reverse) rfl⟩
  | cons _ _ => exact wp.elim
theorem lst_ty (S : Prop) {f : L2.Hp} {r : List Addr} {G H : L2.Hp} {h : Hp} {v : V} {u : L2.V} {Q : Prop} (Sm : Sim w f r G h H) (rv : Rv w r G v u) (q : lstAt h v Q) : (∃ a us, u = .ref a ∧ H a = some (.lst us)) ∧ Q := by
  cases v with
  | cell n =>
    obtain ⟨a, e1, rfl⟩ := rv
    cases eo : h[n]? with
    | none => unfold lstAt at q; simp only [eo] at q
    | some o =>
      have ob := Sm.ob n a o e1 eo
      cases o with
      | lst ds => unfold lstAt at q; simp only [eo] at q; obtain ⟨g, us, ha, t⟩ := ob; exact ⟨⟨a, us, rfl, ha⟩, q⟩
      | lv ds => unfold lstAt at q; simp only [eo] at q; obtain ⟨g, us, ha, t⟩ := ob; exact ⟨⟨a, us, rfl, ha⟩, q⟩
      | _ => unfold lstAt at q; simp only [eo] at q
  | _ => exact q.elim
theorem few_ok {es : List Expr} {env : PySem.Env} (hn : ∀ e ∈ es, ∀ x p, e ≠ .Starred x p) (hl : es.length < 30) :
    ((backTo pos (starEach es env)).all (fun x => !x.1) && (backToKw pos (keywordEach [] env)).all (fun x => x.1.isSome) && decide (es.length + ([] : List Keyword).length + (if ([] : List Keyword).isEmpty then 0 else 1) < 30)) = true := by
  have h1 : (backTo pos (starEach es env)).all (fun x => !x.1) = true := by
    have := noany (env := env) (pos := pos) hn
    rw [List.any_eq_false] at this
    rw [List.all_eq_true]
    intro x hx
    have := this x hx
    cases hb : x.1 with
    | true => rw [hb] at this; exact absurd rfl this
    | false => rfl
  rw [h1]
  show (true && true && decide (es.length + 0 + 0 < 30)) = true
  rw [decide_eq_true (by omega)]
  rfl
theorem rd_mut {m : Mu} {o : T} {s : Sg} {H : L2.Hp} {Q : VK} (h : rdE w F W (.mtd m o t) s H Q) : rdE w F W o s H fun x H1 => tyV w.K "list" x H1 ∧ rdA w F W t s H1 fun xs H2 => rMut w m x xs H2 Q := by
  obtain ⟨f, r, G, env, h, P, Xp, S, E, wp, q, qx⟩ := h
  refine ⟨f, r, G, env, h, _, Xp, S, E, wp, fun v h1 u r1 G1 H1 w1 e1 S1 rv => ?_, qx⟩
  obtain ⟨⟨a, us, rfl, ha⟩, w1⟩ := lst_ty True S1 rv w1
  refine ⟨.inl ⟨rfl, us, SqL.of ha⟩, f, r1, G1, env, h1, _, Xp, S1, E.mono e1, w1, fun vs h2 us2 r2 G2 H2 w2 l2 e2 S2 rv2 => ?_, qx.mono e1⟩
  exact ⟨f, r2, G2, h2, v, vs, _, S2, Rv.mono e2 _ _ rv, rv2, w2, fun z u' h' r' G' H' pz e3 S3 rz => q z h' u' r' G' H' pz ((e1.trans e2).trans e3) S3 rz⟩
theorem se_mut0 {m : Mu} {o : T} {oe : Expr} {name : Str} {id : String} {apos cpos : Pos} (hK : X.K = w.K) (slot : Slot "list" name id) (hty : typeOf (.builtin id) = pure (.type "method_descriptor")) (hm : MtR X id (rMut w m)) (ho : SE X w F W oe o) (hb : plainBase oe = true) (hl : (apos.endLine == cpos.line) = true) :
    SE X w F W (.Call (.Attribute oe name apos) [] [] cpos) (.mtd m o .nil) := pe_imp (pe_bm0 PySem.F.plainAttrs_list slot hty hm ho (base_eq hb) hl) fun s H Q h => by
  obtain ⟨f, r, G, env, h, P, Xp, S, E, wp, q, qx⟩ := rd_mut h
  refine ⟨f, r, G, env, h, P, Xp, S, E, wp, fun v h1 u r1 G1 H1 w1 e1 S1 rv => ?_, qx⟩
  obtain ⟨ty, f', r', G', env', h', P', Xp', S', E', wp', q', qx'⟩ := q v h1 u r1 G1 H1 w1 e1 S1 rv
  exact ⟨by rw [hK]; exact ty, q' [] h' [] r' G' H1 wp' rfl Ext.refl S' rfl⟩
theorem se_mut {m : Mu} {o : T} {oe : Expr} {es : List Expr} {name : Str} {id : String} {apos cpos : Pos} (hK : X.K = w.K) (slot : Slot "list" name id) (hty : typeOf (.builtin id) = pure (.type "method_descriptor")) (hm : MtR X id (rMut w m)) (ho : SE X w F W oe o) (hb : plainBase oe = true) (hl : (apos.endLine == cpos.line) = true)
    (ha : SA X w F W (e :: es) t) (hs : ∀ y ∈ e :: es, ∀ x p, y ≠ .Starred x p) (h30 : (e :: es).length < 30) : SE X w F W (.Call (.Attribute oe name apos) (e :: es) [] cpos) (.mtd m o t) :=
  pe_imp (pe_bm PySem.F.plainAttrs_list slot hty hm ho ha (base_eq hb) (few_ok hs h30) hl (nostar (hs e (by simp))) (noany fun y hy => hs y (by simp [hy]))) fun s H Q h => by
    obtain ⟨f, r, G, env, h, P, Xp, S, E, wp, q, qx⟩ := rd_mut h
    refine ⟨f, r, G, env, h, P, Xp, S, E, wp, fun v h1 u r1 G1 H1 w1 e1 S1 rv => ?_, qx⟩
    obtain ⟨ty, z⟩ := q v h1 u r1 G1 H1 w1 e1 S1 rv
    exact ⟨by rw [hK]; exact ty, z⟩
end
end Hb

/-! SND7: new lists of one's own, slices, ranges. -/
namespace Hb
open PySem PySem.Spec PyProof.Rows
open L2 hiding V Hp St
set_option autoImplicit false
section
variable {X : Cx} {w : Wo} {F : Phi} {W : WX} {a b c e : Expr} {t t' t1 t2 t3 : T} {pos : Pos}
/-- one argument, any reading -/
theorem se_b1g {x : Str} {id : String} {r : L2.V → L2.Hp → VK → Prop} {p : Pos} (hc : CallR X (.builtin id) (rC1 r)) (i : ∀ s H Q, rdE w F W t' s H Q → rdE w F W t s H fun x H1 => r x H1 Q) (hg : Gl X x) (hm : X.mg x = none) (hv : bootBuiltins x = some (.builtin id)) (ha : SE X w F W a t) (hs : ∀ x p, a ≠ .Starred x p)
    (hn : x ≠ "__name__") (hdb : (x == ("__debug__" : Str)) = false) : SE X w F W (.Call (.Name x p) [a] [] pos) t' :=
  pe_imp (pe_callB hc hg hm hv (pa_cons ha pa_nil (nostar hs)) hn hdb (nostar hs) rfl) fun s H Q h => by
    obtain ⟨f, r, G, env, h, P, Xp, S, E, wp, q, qx⟩ := i s H Q h
    exact ⟨f, r, G, env, h, P, Xp, S, E, wp, fun v h1 u r1 G1 H1 p e1 S1 rv => ⟨u, rfl, q v h1 u r1 G1 H1 p e1 S1 rv⟩, qx⟩
theorem se_t1g {x : Str} {id : String} {r : L2.V → L2.Hp → VK → Prop} {p : Pos} (hc : CallR X (.type id) (rC1 r)) (i : ∀ s H Q, rdE w F W t' s H Q → rdE w F W t s H fun x H1 => r x H1 Q) (hg : Gl X x) (hm : X.mg x = none) (hv : bootBuiltins x = some (.type id)) (ha : SE X w F W a t) (hs : ∀ x p, a ≠ .Starred x p)
    (hn : x ≠ "__name__") (hdb : (x == ("__debug__" : Str)) = false) : SE X w F W (.Call (.Name x p) [a] [] pos) t' :=
  pe_imp (pe_callTy hc hg hm hv (pa_cons ha pa_nil (nostar hs)) hn hdb (nostar hs) rfl) fun s H Q h => by
    obtain ⟨f, r, G, env, h, P, Xp, S, E, wp, q, qx⟩ := i s H Q h
    exact ⟨f, r, G, env, h, P, Xp, S, E, wp, fun v h1 u r1 G1 H1 p e1 S1 rv => ⟨u, rfl, q v h1 u r1 G1 H1 p e1 S1 rv⟩, qx⟩
theorem se_bing {op : Operator} {r : R2} (ho : OpR X (binaryOp op) r) (ha : SE X w F W a t1) (hb : SE X w F W b t2) (i : ∀ s H Q, rdE w F W t' s H Q → tOp r (rdE w F W t1) (rdE w F W t2) s H Q) : SE X w F W (.BinOp a op b pos) t' :=
  pe_imp (pe_op ho ha hb) i
/-- ops that read data alone -/
def dat1 : O1 → Bool
  | .len => false
  | _ => true
def dat2 : O2 → Bool
  | .is => false | .isnot => false | .idx => false
  | _ => true
theorem dat1_of {o : O1} (h : dat1 o = true) : ∀ h x (P : V → Prop), o1V o h x P → optP (rdV h x) fun a => op1 o a fun z => P (.d z) := by
  intro hh x P wp
  cases o <;> first | exact wp | cases h
theorem dat2_of {o : O2} (h : dat2 o = true) : ∀ h x y (P : V → Prop), o2V o h x y P → optP (rdV h x) fun a => optP (rdV h y) fun b => op2 o a b fun z => P (.d z) := by
  intro hh x y P wp
  cases o <;> first | exact wp | cases h
/-- a new list that is a cell of its own -/
theorem out_own {f : L2.Hp} {r r1 : List Addr} {G G1 H1 : L2.Hp} {h1 : Hp} {P : Pv} {Q : VK} (q : QOk w f r G P Q) (e1 : Ext r G r1 G1) (S1 : Sim w f r1 G1 h1 H1) :
    OutL w.K G1 H1 (fun z => match V.d z with | .d (.list xs) => P (.cell h1.length) (h1 ++ [.lst xs]) | _ => False) Q := fun ds us p pz t hp => by
  have g := (S1.fresh hp).1
  obtain ⟨S2, e2, el⟩ := S1.alloc (x := .lst us) hp (o := .lst ds) ⟨g, us, upd_same, t⟩
  exact q _ _ (.ref p) _ _ _ pz (e1.trans e2) S2 ⟨p, el, rfl⟩
theorem rd_own1 {o : O1} (hd : dat1 o = true) : ∀ s H Q, rdE w F W (.own (.o1 o t)) s H Q → rdE w F W t s H fun x H1 => rF1 w.K (op1 o) x H1 Q := fun s H Q h => by
  obtain ⟨f, r, G, env, h, P, Xp, S, E, wp, q, qx⟩ := h
  refine ⟨f, r, G, env, h, _, Xp, S, E, wp, fun v h1 u r1 G1 H1 w1 e1 S1 rv => ?_, qx⟩
  obtain ⟨d, ed, w1⟩ := optP_of (dat1_of hd _ _ _ w1)
  exact ⟨G1, d, _, S1.sub, S1.read rv ed, w1, out_own q e1 S1⟩
/-- a new list, and nothing else, comes out -/
def rG2 (K : PySem.W.Frag) (o : D → D → (D → Prop) → Prop) : R2 := fun x y H Q => ∃ G d1 d2 P, Sub G H ∧ Rt K G H d1 x ∧ Rt K G H d2 y ∧ o d1 d2 P ∧ (∀ z, P z → ∃ ds, z = .list ds) ∧ OutL K G H P Q
theorem only_list {P : Pv} {h1 : Hp} : ∀ z : D, (match V.d z with | .d (.list xs) => P (.cell h1.length) (h1 ++ [.lst xs]) | _ => False) → ∃ ds, z = .list ds := fun z h => by
  cases z with
  | list ds => exact ⟨ds, rfl⟩
  | _ => exact h.elim
theorem rd_own2 {o : O2} (hd : dat2 o = true) : ∀ s H Q, rdE w F W (.own (.o2 o t1 t2)) s H Q → tOp (rG2 w.K (op2 o)) (rdE w F W t1) (rdE w F W t2) s H Q := fun s H Q h => by
  obtain ⟨f, r, G, env, h, P, Xp, S, E, wp, q, qx⟩ := h
  refine ⟨f, r, G, env, h, _, Xp, S, E, wp, fun v h1 u r1 G1 H1 w1 e1 S1 rv => ?_, qx⟩
  refine ⟨f, r1, G1, env, h1, _, Xp, S1, E.mono e1, w1, fun v2 h2 u2 r2 G2 H2 w2 e2 S2 rv2 => ?_, qx.mono e1⟩
  obtain ⟨d, ed, w2⟩ := optP_of (dat2_of hd _ _ _ _ w2)
  obtain ⟨d2, ed2, w2⟩ := optP_of w2
  exact ⟨G2, d, d2, _, S2.sub, S2.read (Rv.mono e2 _ _ rv) ed, S2.read rv2 ed2, w2, only_list, out_own q (e1.trans e2) S2⟩
theorem rd_dat1 {o : O1} (hd : dat1 o = true) : ∀ s H Q, rdE w F W (.o1 o t) s H Q → rdE w F W t s H fun x H1 => rD1 w.K (op1 o) x H1 Q := fun s H Q h => by
  obtain ⟨f, r, G, env, h, P, Xp, S, E, wp, q, qx⟩ := rd_o1 h
  exact ⟨f, r, G, env, h, P, Xp, S, E, wp, fun v h1 u r1 G1 H1 p e1 S1 rv => r1_of (dat1_of hd) (q v h1 u r1 G1 H1 p e1 S1 rv), qx⟩
theorem rd_dat2 {o : O2} (hd : dat2 o = true) : ∀ s H Q, rdE w F W (.o2 o t1 t2) s H Q → tOp (rD2 w.K (op2 o)) (rdE w F W t1) (rdE w F W t2) s H Q := fun s H Q h => by
  obtain ⟨f, r, G, env, h, P, Xp, S, E, wp, q, qx⟩ := rd_o2 h
  refine ⟨f, r, G, env, h, P, Xp, S, E, wp, fun v h1 u r1 G1 H1 p e1 S1 rv => ?_, qx⟩
  obtain ⟨f', r', G', env', h', P', Xp', S', E', wp', q', qx'⟩ := q v h1 u r1 G1 H1 p e1 S1 rv
  exact ⟨f', r', G', env', h', P', Xp', S', E', wp', fun v2 h2 u2 r2 G2 H2 p2 e2 S2 rv2 => r2_of (dat2_of hd) (q' v2 h2 u2 r2 G2 H2 p2 e2 S2 rv2), qx'⟩
theorem rd_mono {x : T} {s : Sg} {H : L2.Hp} {Q Q' : VK} (i : ∀ v H, Q v H → Q' v H) (h : rdE w F W x s H Q) : rdE w F W x s H Q' := by
  obtain ⟨f, r, G, env, h, P, Xp, S, E, wp, q, qx⟩ := h
  exact ⟨f, r, G, env, h, P, Xp, S, E, wp, fun v h1 u r1 G1 H1 p e1 S1 rv => i _ _ (q v h1 u r1 G1 H1 p e1 S1 rv), qx⟩
theorem rd_fr1 {o : O1} (hd : dat1 o = true) : ∀ s H Q, rdE w F W (.o1 o t) s H Q → rdE w F W t s H fun x H1 => rF1 w.K (op1 o) x H1 Q := fun s H Q h => rd_mono (fun v H h => rD1_F h) (rd_dat1 hd s H Q h)

/-! ### + and * of lists, new -/
theorem nol {z : D} (h : ∃ ds, z = PyData.list ds) (hz : ∀ ds, z ≠ .list ds) : False := by
  obtain ⟨ds, e⟩ := h
  exact hz ds e
theorem g_add : OpR X (binaryOp .Add) (rG2 X.K (op2 .add)) := by
  intro pins s σ H x y v u Q I rx ry ⟨G, d1, d2, P, sb, r1, r2, wp, ol, q⟩
  have wp : addP d1 d2 P := wp
  cases d1 with
  | int i => cases d2 with
    | int j => exact (nol (ol _ wp) fun _ e => nomatch e).elim
    | _ => exact wp.elim
  | str i => cases d2 with
    | str j => exact (nol (ol _ wp.2) fun _ e => nomatch e).elim
    | _ => exact wp.elim
  | tuple xs => cases d2 with
    | tuple ys => exact (nol (ol _ wp.2) fun _ e => nomatch e).elim
    | _ => exact wp.elim
  | list xs => cases d2 with
    | list ys =>
      obtain ⟨a, us, rfl, h1, t1⟩ := r1
      obtain ⟨b, vs, rfl, h2, t2⟩ := r2
      obtain ⟨hz, wp⟩ := wp
      exact op_catL pins s σ H _ _ v u Q I rx ry ⟨a, b, us, vs, rfl, rfl, h1, h2, by rw [← rpAll_len t1, ← rpAll_len t2, big_eq]; exact hz, fun p hp => q _ _ p wp (rpAll_append t1 t2) hp⟩
    | _ => exact wp.elim
  | _ => exact wp.elim
theorem g_mul : OpR X (binaryOp .Mult) (rG2 X.K (op2 .mul)) := by
  intro pins s σ H x y v u Q I rx ry ⟨G, d1, d2, P, sb, r1, r2, wp, ol, q⟩
  have wp : mulP d1 d2 P := wp
  cases d1 with
  | int i => cases d2 with
    | int j => exact (nol (ol _ wp.2) fun _ e => nomatch e).elim
    | _ => exact wp.elim
  | list xs => cases d2 with
    | int j =>
      obtain ⟨a, us, rfl, h1, t1⟩ := r1
      obtain ⟨⟨b1, b2, b3⟩, wp⟩ := wp
      exact op_repL pins s σ H _ _ v u Q I rx ry ⟨a, j, us, rfl, r2, h1, b1, b2, by rw [← rpAll_len t1, big_eq]; exact b3, fun p hp => q _ _ p wp (rpAll_iff.mpr ((rpAll_iff.mp t1).rep _)) hp⟩
    | _ => exact wp.elim
  | tuple xs => cases d2 with
    | int j => exact (nol (ol _ wp.2) fun _ e => nomatch e).elim
    | _ => exact wp.elim
  | _ => exact wp.elim
/-! ### slices -/
def rSlD (K : PySem.W.Frag) : L2.V → Option Int → Option Int → L2.Hp → VK → Prop := fun x lo hi H Q => ∃ G d P, Sub G H ∧ Rt K G H d x ∧ cutP d lo hi P ∧ Out K G H P Q
def rSlG (K : PySem.W.Frag) : L2.V → Option Int → Option Int → L2.Hp → VK → Prop := fun x lo hi H Q => ∃ G d P, Sub G H ∧ Rt K G H d x ∧ cutP d lo hi P ∧ (∀ z, P z → ∃ ds, z = .list ds) ∧ OutL K G H P Q
theorem cut_rel {K : PySem.W.Frag} {G : L2.Hp} {ds : List D} {us : List L2.V} (t : RpAll K G ds us) (lo hi : Option Int) : RpAll K G (cutD ds lo hi) (cutV us lo hi) := by
  have t := rpAll_iff.mp t
  rw [rpAll_iff]
  unfold cutD cutV
  rw [t.length]
  exact (t.drop _).take _
theorem cutD_all {α : Type} {xs : List α} {lo hi : Option Int} (h : HT.sIx xs.length 0 lo = 0 ∧ HT.sIx xs.length xs.length hi = xs.length) : cutD xs lo hi = xs := by
  unfold cutD
  rw [h.1, h.2, List.drop_zero, Nat.sub_zero, List.take_length]
theorem sl_dat : SlR X (rSlD X.K) := by
  intro pins s σ H x v vl vu lo hi sl Q I rx hs pl pu ⟨G, d, P, sb, r, wp, q1, q2⟩
  cases d with
  | list ds =>
    obtain ⟨a, us, rfl, h1, t⟩ := r
    exact sl_list pins s σ H _ v vl vu lo hi sl Q I rx hs pl pu ⟨a, us, rfl, h1.sq, fun p hp => q2 _ p _ wp hp rfl fun e => ⟨p, _, rfl, .inl (.inl upd_same), RpAll.mono e _ _ (cut_rel t lo hi)⟩⟩
  | tuple ds =>
    obtain ⟨a, us, rfl, h1, t⟩ := r
    have hl := rpAll_len t
    refine sl_tupA pins s σ H _ v vl vu lo hi sl Q I rx hs pl pu ⟨a, us, rfl, tqT_mono sb h1, fun hw => ?_, fun _ p hp => q2 _ p _ wp hp rfl fun e => ⟨p, _, rfl, upd_same, RpAll.mono e _ _ (cut_rel t lo hi)⟩⟩
    rw [← hl] at hw
    have wp : P (.tuple (cutD ds lo hi)) := wp
    rw [cutD_all hw] at wp
    exact q1 _ _ wp ⟨a, us, rfl, h1, t⟩
  | str z =>
    have r : x = .str z := r
    subst r
    obtain ⟨hz, wp⟩ := wp
    exact sl_str pins s σ H _ v vl vu lo hi sl Q I rx hs pl pu ⟨z, rfl, by rw [big_eq]; exact hz, q1 _ _ wp (by
      show L2.V.str (L2.cutS z lo hi) = L2.V.str (cutS z lo hi)
      rfl)⟩
  | _ => exact wp.elim
theorem sl_new : SlR X (rSlG X.K) := by
  intro pins s σ H x v vl vu lo hi sl Q I rx hs pl pu ⟨G, d, P, sb, r, wp, ol, q⟩
  cases d with
  | list ds =>
    obtain ⟨a, us, rfl, h1, t⟩ := r
    exact sl_list pins s σ H _ v vl vu lo hi sl Q I rx hs pl pu ⟨a, us, rfl, h1.sq, fun p hp => q _ _ p wp (cut_rel t lo hi) hp⟩
  | tuple ds => exact (nol (ol _ wp) fun _ e => nomatch e).elim
  | str z => exact (nol (ol _ wp.2) fun _ e => nomatch e).elim
  | _ => exact wp.elim
theorem intV_of {v : V} {i : Int} (h : intV v = some i) : v = .d (.int i) := by
  cases v with
  | d d => cases d <;> first | (cases h; rfl) | cases h
  | _ => cases h
theorem rd_dat3 {o : O3} {s : Sg} {H : L2.Hp} {Q : VK} (h : rdE w F W (.o3 o t1 t2 t3) s H Q) : tSl (rSlD w.K) (rdE w F W t1) (tPart (rdE w F W t2)) (tPart (rdE w F W t3)) s H Q := by
  obtain ⟨f, r, G, env, h, P, Xp, S, E, wp, q, qx⟩ := h
  refine ⟨f, r, G, env, h, _, Xp, S, E, wp, fun v h1 u r1 G1 H1 w1 e1 S1 rv => ?_, qx⟩
  refine ⟨f, r1, G1, env, h1, _, Xp, S1, E.mono e1, w1, fun v2 h2 u2 r2 G2 H2 w2 e2 S2 rv2 => ?_, qx.mono e1⟩
  obtain ⟨i, ei, w2'⟩ := optP_of w2
  have := intV_of ei
  subst this
  refine ⟨i, rv2, f, r2, G2, env, h2, _, Xp, S2, E.mono (e1.trans e2), w2', fun v3 h3 u3 r3 G3 H3 w3 e3 S3 rv3 => ?_, qx.mono (e1.trans e2)⟩
  obtain ⟨j, ej, w3'⟩ := optP_of w3
  have := intV_of ej
  subst this
  obtain ⟨d, ed, w4⟩ := optP_of w3'
  exact ⟨j, rv3, G3, d, _, S3.sub, S3.read (Rv.mono (e2.trans e3) _ _ rv) ed, w4, out_of S3 fun z u' r' G' H' pz e4 S4 rz => q z h3 u' r' G' H' pz (((e1.trans e2).trans e3).trans e4) S4 rz⟩
theorem rd_own3 {o : O3} {s : Sg} {H : L2.Hp} {Q : VK} (h : rdE w F W (.own (.o3 o t1 t2 t3)) s H Q) : tSl (rSlG w.K) (rdE w F W t1) (tPart (rdE w F W t2)) (tPart (rdE w F W t3)) s H Q := by
  obtain ⟨f, r, G, env, h, P, Xp, S, E, wp, q, qx⟩ := h
  refine ⟨f, r, G, env, h, _, Xp, S, E, wp, fun v h1 u r1 G1 H1 w1 e1 S1 rv => ?_, qx⟩
  refine ⟨f, r1, G1, env, h1, _, Xp, S1, E.mono e1, w1, fun v2 h2 u2 r2 G2 H2 w2 e2 S2 rv2 => ?_, qx.mono e1⟩
  obtain ⟨i, ei, w2'⟩ := optP_of w2
  have := intV_of ei
  subst this
  refine ⟨i, rv2, f, r2, G2, env, h2, _, Xp, S2, E.mono (e1.trans e2), w2', fun v3 h3 u3 r3 G3 H3 w3 e3 S3 rv3 => ?_, qx.mono (e1.trans e2)⟩
  obtain ⟨j, ej, w3'⟩ := optP_of w3
  have := intV_of ej
  subst this
  obtain ⟨d, ed, w4⟩ := optP_of w3'
  exact ⟨j, rv3, G3, d, _, S3.sub, S3.read (Rv.mono (e2.trans e3) _ _ rv) ed, w4, only_list, out_own q ((e1.trans e2).trans e3) S3⟩
variable {p2 : Pos}
theorem sl_datK (hK : X.K = w.K) : SlR X (rSlD w.K) := hK ▸ sl_dat
theorem sl_newK (hK : X.K = w.K) : SlR X (rSlG w.K) := hK ▸ sl_new
theorem se_cut (hK : X.K = w.K) (ha : SE X w F W a t1) (hb : SE X w F W b t2) (hc : SE X w F W c t3) : SE X w F W (.Subscript a (.Slice (some b) (some c) none p2) pos) (.o3 .cut t1 t2 t3) :=
  pe_imp (pe_slice (sl_datK hK) ha (po_some hb) (po_some hc)) fun s H Q h => rd_dat3 h
theorem se_cutN (hK : X.K = w.K) (ha : SE X w F W a t1) (hb : SE X w F W b t2) (hc : SE X w F W c t3) : SE X w F W (.Subscript a (.Slice (some b) (some c) none p2) pos) (.own (.o3 .cut t1 t2 t3)) :=
  pe_imp (pe_slice (sl_newK hK) ha (po_some hb) (po_some hc)) fun s H Q h => rd_own3 h
theorem cut2 {o : O2} {lo hi : Int → Option Int} (ho : ∀ d e P, op2 o d e P → ∃ i, e = .int i ∧ cutP d (lo i) (hi i) P) {x y : L2.V} {H : L2.Hp} {Q : VK} (h : rD2 w.K (op2 o) x y H Q) : ∃ i, y = .int i ∧ rSlD w.K x (lo i) (hi i) H Q := by
  obtain ⟨G, d1, d2, P, sb, r1, r2, wp, q⟩ := h
  obtain ⟨i, rfl, wp'⟩ := ho _ _ _ wp
  exact ⟨i, r2, G, d1, P, sb, r1, wp', q⟩
theorem cutN2 {o : O2} {lo hi : Int → Option Int} (ho : ∀ d e P, op2 o d e P → ∃ i, e = .int i ∧ cutP d (lo i) (hi i) P) {x y : L2.V} {H : L2.Hp} {Q : VK} (h : rG2 w.K (op2 o) x y H Q) : ∃ i, y = .int i ∧ rSlG w.K x (lo i) (hi i) H Q := by
  obtain ⟨G, d1, d2, P, sb, r1, r2, wp, ol, q⟩ := h
  obtain ⟨i, rfl, wp'⟩ := ho _ _ _ wp
  exact ⟨i, r2, G, d1, P, sb, r1, wp', ol, q⟩
theorem op_cutlo (d e : D) (P : D → Prop) (h : op2 .cutlo d e P) : ∃ i, e = .int i ∧ cutP d (some i) none P := by
  obtain ⟨i, rfl, h⟩ := intP_of h
  exact ⟨i, rfl, h⟩
theorem op_cuthi (d e : D) (P : D → Prop) (h : op2 .cuthi d e P) : ∃ i, e = .int i ∧ cutP d none (some i) P := by
  obtain ⟨i, rfl, h⟩ := intP_of h
  exact ⟨i, rfl, h⟩
theorem se_cutlo (hK : X.K = w.K) (ha : SE X w F W a t1) (hb : SE X w F W b t2) : SE X w F W (.Subscript a (.Slice (some b) none none p2) pos) (.o2 .cutlo t1 t2) :=
  pe_imp (pe_slice (sl_datK hK) ha (po_some hb) po_none) fun s H Q h => rd_mono (fun x H1 h => rd_mono (fun y H2 h => cut2 (lo := some) (hi := fun _ => none) op_cutlo h) h) (rd_dat2 rfl s H Q h)
theorem se_cuthi (hK : X.K = w.K) (ha : SE X w F W a t1) (hb : SE X w F W b t2) : SE X w F W (.Subscript a (.Slice none (some b) none p2) pos) (.o2 .cuthi t1 t2) :=
  pe_imp (pe_slice (sl_datK hK) ha po_none (po_some hb)) fun s H Q h => rd_mono (fun x H1 h => rd_mono (fun y H2 h => cut2 (lo := fun _ => none) (hi := some) op_cuthi h) h) (rd_dat2 rfl s H Q h)
theorem se_cutloN (hK : X.K = w.K) (ha : SE X w F W a t1) (hb : SE X w F W b t2) : SE X w F W (.Subscript a (.Slice (some b) none none p2) pos) (.own (.o2 .cutlo t1 t2)) :=
  pe_imp (pe_slice (sl_newK hK) ha (po_some hb) po_none) fun s H Q h => rd_mono (fun x H1 h => rd_mono (fun y H2 h => cutN2 (lo := some) (hi := fun _ => none) op_cutlo h) h) (rd_own2 rfl s H Q h)
theorem se_cuthiN (hK : X.K = w.K) (ha : SE X w F W a t1) (hb : SE X w F W b t2) : SE X w F W (.Subscript a (.Slice none (some b) none p2) pos) (.own (.o2 .cuthi t1 t2)) :=
  pe_imp (pe_slice (sl_newK hK) ha po_none (po_some hb)) fun s H Q h => rd_mono (fun x H1 h => rd_mono (fun y H2 h => cutN2 (lo := fun _ => none) (hi := some) op_cuthi h) h) (rd_own2 rfl s H Q h)
/-! ### [::-1] -/
section
variable {prog : Program} {ww : World} {A : Around} {EE : Value → Shared → Prop} {s : Shared}
theorem places_rev (n : Nat) : Builtin.Slice.slicePlaces ((n : Int) - 1) (-1) (-1) = n := by
  unfold Builtin.Slice.slicePlaces
  have h1 : ¬ ((-1 : Int) > 0) := by omega
  simp only [h1, if_false]
  by_cases h : (n : Int) - 1 > -1
  · have e : ((n : Int) - 1 - -1 - 1) / (- -1) = (n : Int) - 1 := by
      rw [show (- -1 : Int) = 1 by decide, Int.ediv_one]
      omega
    first
      | rw [if_pos h, e]; omega
      | (rw [if_pos (by omega)]; rw [e]; omega)
  · split <;> omega
theorem fm_congr {α β : Type} {f g : α → Option β} : ∀ {l : List α}, (∀ x ∈ l, f x = g x) → l.filterMap f = l.filterMap g
  | [], _ => rfl
  | x :: l, h => by rw [List.filterMap_cons, List.filterMap_cons, h x (by simp), fm_congr fun y hy => h y (by simp [hy])]
theorem sliceApplied_rev {sl : Addr} {vs : Value} {n : Nat} {Q : Int × Int × Nat → Shared → Prop} (hs : s.heap.IsSliceOf sl .none .none vs) (ps : IsPart vs (some (-1)))
    (h : Q ((n : Int) - 1, -1, n) s) : wpAny (model prog ww) A (Builtin.Slice.sliceApplied (.ref sl) (pure (n : Int))) Q EE s := by
  obtain ⟨os, hos, hcs, hds⟩ := id hs
  unfold Builtin.Slice.sliceApplied Builtin.Slice.sliceFields
  refine wpAny_bind (wpAny_bind (wpAny_field hos hds (x := .none) rfl (wpAny_bind (wpAny_field hos hds (x := .none) rfl (wpAny_bind (wpAny_field hos hds (x := vs) rfl (wpAny_pure ?_)))))))
  refine wpAny_bind (HT.slicePart_ ps ?_)
  show wpAny _ _ (if ((-1 : Int) == 0) = true then _ else _) _ _ s
  rw [if_neg (by decide)]
  refine wpAny_bind (HT.slicePart_ .none (wpAny_bind (HT.slicePart_ .none (wpAny_bind (wpAny_pure ?_)))))
  show wpAny _ _ (match Builtin.Slice.sliceAdjust none none (-1) (n : Int) with | (lo, hi) => pure (lo, (-1 : Int), Builtin.Slice.slicePlaces lo hi (-1))) _ _ s
  have e : Builtin.Slice.sliceAdjust none none (-1) (n : Int) = ((n : Int) - 1, -1) := by
    unfold Builtin.Slice.sliceAdjust
    simp
  rw [e]
  show wpAny _ _ (pure ((n : Int) - 1, (-1 : Int), Builtin.Slice.slicePlaces ((n : Int) - 1) (-1) (-1))) _ _ s
  rw [places_rev]
  exact wpAny_pure h
theorem pick_rev (xs : Array Value) : ((List.range xs.size).filterMap fun (m : Nat) => xs[((xs.size : Int) - 1 + (m : Int) * -1).toNat]?).toArray = xs.toList.reverse.toArray := by
  have e : (List.range xs.size).filterMap (fun (m : Nat) => xs[((xs.size : Int) - 1 + (m : Int) * -1).toNat]?) = ((List.range xs.size).map fun k => xs.size - 1 - k).filterMap (xs[·]?) := by
    rw [List.filterMap_map]
    refine fm_congr fun m hm => ?_
    have := List.mem_range.mp hm
    have e1 : ((xs.size : Int) - 1 + (m : Int) * -1).toNat = xs.size - 1 - m := by omega
    rw [e1]
    rfl
  rw [e, PySem.W.krv_range, List.filterMap_reverse, PySem.W.krv_all]
theorem getItem_tuple_rev {t sl : Addr} {items : Array Value} {vs : Value} {Q : Value → Shared → Prop} (ht : IsTup s.heap t items) (hs : s.heap.IsSliceOf sl .none .none vs) (ps : IsPart vs (some (-1)))
    (h : Q (.ref s.heap.objs.size) { s with heap := s.heap.push { cls := .type "tuple", data := .seq items.toList.reverse.toArray } })
    (hsz : items.size ≤ sizeLine) : wpAny (model prog ww) A (getItem (.ref t) (.ref sl)) Q EE s := by
  have htake : sizeOk (.seq items.toList.reverse.toArray) := by
    show items.toList.reverse.toArray.size ≤ sizeLine
    rw [List.size_toArray, List.length_reverse, Array.length_toList]
    exact hsz
  obtain ⟨os, hos, hcs, hds⟩ := id hs
  have hTs : s.TypeIs (.ref sl) "slice" := ⟨os, hos, hcs⟩
  unfold getItem
  try with_reducible refine wpAny_holding ?_
  first | refine wpAny_bind (wpAny_pure ?_) | skip
  refine wpAny_bind (wpAny_sequenceKey ht.typeIs (by decide) ?_)
  refine wpAny_bind (wpAny_callSpecial?_slot (name := Str.ofString "__getitem__") ht.typeIs PyProof.Rows.slot_tuple_getitem
    (wpAny_call_entry PyProof.Rows.slot_tuple_getitem ht.typeIs entry_tuple_getitem ?_ (args_tuple_getitem _ _)))
  show wpAny _ _ (Builtin.Tuple.tupleItemsOf (.ref t) >>= _) _ _ s
  refine wpAny_bind (tupleItemsOf_ ht ?_)
  refine wpAny_bind (wpAny_typeOf hTs ?_)
  rw [if_pos (by decide)]
  refine wpAny_bind (sliceApplied_rev hs ps ?_)
  have hno : ¬ ((((items.size : Int) - 1) == 0 && (-1 : Int) == 1 && items.size == items.size) = true) := by
    intro q
    rw [Bool.and_eq_true, Bool.and_eq_true] at q
    exact absurd q.1.2 (by decide)
  show wpAny _ _ (if (((items.size : Int) - 1) == 0 && (-1 : Int) == 1 && items.size == items.size) = true then _ else _) _ _ s
  rw [if_neg hno, pick_rev]
  first
    | exact wpAny_bind (m := Builtin.Tuple.tupleExact _) (wpAny_newObj_type (wpAny_pure ⟨_, rfl, wpAny_pure h⟩) htake)
    | exact wpAny_bind (m := Builtin.Tuple.tupleExact _) (wpAny_newObj_type (wpAny_bind (wpAny_pure (wpAny_pure ⟨_, rfl, wpAny_pure h⟩))) htake)
    | exact wpAny_bind (wpAny_bind (m := Builtin.Tuple.tupleExact _) (wpAny_newObj_type (wpAny_pure (wpAny_pure ⟨_, rfl, wpAny_pure h⟩)) htake))
    | exact wpAny_bind (wpAny_bind (m := Builtin.Tuple.tupleExact _) (wpAny_newObj_type (wpAny_pure ⟨_, rfl, wpAny_pure h⟩) htake))
end
/-- e[::-1], by values -/
def RevR (X : Cx) (r : L2.V → L2.Hp → VK → Prop) : Prop :=
  ∀ (pins : List (Addr × Obj)) (s : Shared) (σ : Sg) (H : L2.Hp) (x : L2.V) (v vs : Value) (sl : Addr) (Q : VK), Inv X pins σ H s → RelV x v → s.heap.IsSliceOf sl .none .none vs → IsPart vs (some (-1)) → r x H Q →
    ∃ T id, typeLookup (.type T) "__getitem__" = pure (some (.builtin id)) ∧ s.TypeIs v T ∧ wpAny (model X.prog X.w) X.A (getItem v (.ref sl)) (EP X pins σ Q) X.xe s
theorem pe_rev {e : Expr} {te : TE} {k : Nat} {p1 p2 p3 pos : Pos} {r : L2.V → L2.Hp → VK → Prop} (hr : RevR X r) (he : PE X e te) : PE X (.Subscript e (.Slice none none (some (.UnaryOp .USub (.Constant (.int 1) k p1) p2)) p3) pos) (fun σ H Q => te σ H fun x H1 => r x H1 Q) := by
  refine ⟨fun pins s σ H Q I h => ?_⟩
  refine Subscript_ (thn (he.run pins s σ H _ I h) fun v s1 ⟨x, H1, I1, r1, q1⟩ => ?_)
  have hst : PO X (some (.UnaryOp .USub (.Constant (.int 1) k p1) p2)) (tPart (tUn (rU fun i => .int (-i)) (tC (.int 1)))) := po_some (pe_un un_neg pe_int)
  refine wpAny_Slice (thn (po_none.run pins s1 σ H1 (fun o H2 => o = none ∧ H2 = H1) I1 ⟨rfl, rfl⟩) fun vl s2 ⟨l, H2, I2, pl, el, e2⟩ => ?_)
  subst el e2
  refine thn (po_none.run pins s2 σ H2 (fun o H3 => o = none ∧ H3 = H2) I2 ⟨rfl, rfl⟩) fun vu s3 ⟨u, H3, I3, pu, eu, e3⟩ => ?_
  subst eu e3
  refine thn (hst.run pins s3 σ H3 (fun o H4 => o = some (-1) ∧ H4 = H3) I3 ⟨1, rfl, -1, rfl, rfl, rfl⟩) fun vs s4 ⟨o, H4, I4, ps, eo, e4⟩ => ?_
  subst eo e4
  cases pl
  cases pu
  have I5 : Inv X pins σ H4 { s4 with heap := s4.heap.push { cls := .type "slice", data := .fields #[.none, .none, vs] } } := I4.kept (t' := s4.toks) fun b ob q => Heap.get?_push_of_some _ q
  obtain ⟨T, id, hT, ht, hg⟩ := hr pins { s4 with heap := s4.heap.push { cls := .type "slice", data := .fields #[.none, .none, vs] } } σ H4 x v vs s4.heap.objs.size Q I5 r1 (Heap.IsSliceOf.new ..) ps q1
  show wpAny (model X.prog X.w) X.A (subscriptTail e (.Slice none none (some (.UnaryOp .USub (.Constant (.int 1) k p1) p2)) p3) v (.ref s4.heap.objs.size)) (EP X pins σ Q) X.xe { s4 with heap := s4.heap.push { cls := .type "slice", data := .fields #[.none, .none, vs] } }
  exact tail_any (ops := [v, .ref s4.heap.objs.size]) ht hT hg (by with_unfolding_all rfl)
theorem rev_list {pins : List (Addr × Obj)} {s : Shared} {σ : Sg} {H : L2.Hp} {a sl : Addr} {us : List L2.V} {vs : Value} {Q : VK} (I : Inv X pins σ H s) (hx : SqL X.K H a us) (hs : s.heap.IsSliceOf sl .none .none vs) (ps : IsPart vs (some (-1))) (q : ∀ p, H p = none → Q (.ref p) (upd H p (.lst us.reverse))) :
    wpAny (model X.prog X.w) X.A (getItem (.ref a) (.ref sl)) (EP X pins σ Q) X.xe s := by
  obtain ⟨its, r, ht, hz⟩ := I.list hx
  have hlen := r.length
  refine wpAny_getItem_list_slice ht.isList hs .none .none ps (by decide) ?_ (by rw [List.size_toArray]; omega)
  rw [PySem.W.krv_pick]
  refine ⟨.ref _, _, I.laid (t' := s.toks) (o := .lst us.reverse) (fun b ob q => Heap.get?_push_of_some _ q) (Nat.le_refl _) ?_, rfl, q _ (I.hok.fresh (Nat.le_refl _))⟩
  exact ⟨by rw [List.length_reverse]; exact hz, _, 0, r.reverse, Heap.get?_push_size _ rfl⟩
theorem rev_dat : RevR X (rD1 X.K (op1 .rev)) := by
  intro pins s σ H x v vs sl Q I rx hs ps ⟨G, d, P, sb, r, wp, q1, q2⟩
  cases d with
  | list ds =>
    obtain ⟨a, us, rfl, h1, t⟩ := r
    cases rx
    obtain ⟨its, _, ht, _⟩ := I.list h1.sq
    exact ⟨"list", _, PySem.slot_list_getitem.lookup, ht.isList.typeIs, rev_list I h1.sq hs ps fun p hp => q2 _ p _ wp hp rfl fun e => ⟨p, _, rfl, .inl (.inl upd_same), RpAll.mono e _ _ (rpAll_iff.mpr (rpAll_iff.mp t).reverse)⟩⟩
  | tuple ds =>
    obtain ⟨a, us, rfl, h1, t⟩ := r
    cases rx
    obtain ⟨its, r, ht, hz⟩ := I.tuple (tqT_mono sb h1)
    have hlen := r.length
    refine ⟨"tuple", _, PyProof.Rows.slot_tuple_getitem.lookup, ht.typeIs, getItem_tuple_rev ht hs ps ?_ (by rw [List.size_toArray]; omega)⟩
    refine ⟨.ref _, _, I.laid (t' := s.toks) (o := .tup us.reverse) (fun b ob q => Heap.get?_push_of_some _ q) (Nat.le_refl _) ?_, rfl, q2 _ _ _ wp (I.hok.fresh (Nat.le_refl _)) rfl fun e => ⟨_, _, rfl, upd_same, RpAll.mono e _ _ (rpAll_iff.mpr (rpAll_iff.mp t).reverse)⟩⟩
    exact ⟨by rw [List.length_reverse]; exact hz, _, r.reverse, IsTup.new _ _⟩
  | _ => exact wp.elim
theorem se_rev {k : Nat} {p1 p2 p3 : Pos} (hK : X.K = w.K) (ha : SE X w F W a t) : SE X w F W (.Subscript a (.Slice none none (some (.UnaryOp .USub (.Constant (.int 1) k p1) p2)) p3) pos) (.o1 .rev t) :=
  pe_imp (pe_rev (hK ▸ rev_dat) ha) fun s H Q h => rd_dat1 rfl s H Q h
/-! ### list(range(..)), tuple(range(..)) -/
theorem rg_rel {K : PySem.W.Frag} {G : L2.Hp} : ∀ (n : Nat) (lo : Int), RpAll K G (ranI lo n) ((List.range n).map fun i => L2.V.int (lo + (i : Nat)))
  | 0, lo => rfl
  | n + 1, lo => by
    rw [List.range_succ_eq_map, List.map_cons, List.map_map]
    refine ⟨_, _, rfl, ?_, ?_⟩
    · show L2.V.int _ = L2.V.int lo
      congr 1
      omega
    · have := rg_rel (K := K) (G := G) n (lo + 1)
      have e : ((fun (i : Nat) => L2.V.int (lo + (i : Nat))) ∘ Nat.succ) = fun (i : Nat) => L2.V.int (lo + 1 + (i : Nat)) := by
        funext i
        show L2.V.int (lo + ((i + 1 : Nat) : Int)) = _
        congr 1
        omega
      rw [e]
      exact this
theorem rg0_ok {i : Int} (h : -(2 ^ 62) ≤ i ∧ i ≤ big) : RgOk 0 i := by
  have e : ((2 : Int) ^ 62) = 4611686018427387904 := by decide
  obtain ⟨h1, h2⟩ := h
  have h2 : i ≤ 16777216 := h2
  rw [e] at h1
  refine ⟨by omega, by omega, by omega, by omega, ?_⟩
  have e2 : (2 ^ 24 : Nat) = 16777216 := by decide
  omega
theorem rg2_ok {i j : Int} (h : -(2 ^ 62) ≤ i ∧ i < 2 ^ 62 ∧ -(2 ^ 62) ≤ j ∧ j < 2 ^ 62 ∧ j - i ≤ big) : RgOk i j := by
  obtain ⟨h1, h2, h3, h4, h5⟩ := h
  have h5 : j - i ≤ 16777216 := h5
  refine ⟨h1, h2, h3, h4, ?_⟩
  have e2 : (2 ^ 24 : Nat) = 16777216 := by decide
  omega
theorem rgV0 {i : Int} {K : PySem.W.Frag} {G : L2.Hp} : RpAll K G (ranI 0 i.toNat) (rgV 0 i) := by
  have := rg_rel (K := K) (G := G) i.toNat 0
  unfold rgV
  rw [Int.sub_zero]
  exact this
variable {p p3 : Pos}
theorem se_lrange (hc : X.calm = true) (hg : Gl X "list") (hm : X.mg "list" = none) (hgr : Gl X "range") (hmr : X.mg "range" = none) (ha : SE X w F W a t) (hs : ∀ x p, a ≠ .Starred x p) : SE X w F W (.Call (.Name "list" p) [.Call (.Name "range" p2) [a] [] p3] [] pos) (.o1 .lrange t) :=
  pe_imp (pe_listRg hc hg hm (prg_1 hgr hmr ha (nostar hs))) fun s H Q h => rd_mono (fun x H1 h => by
    obtain ⟨G, d, P, sb, r, wp, q⟩ := h
    cases d with
    | int i => exact ⟨i, r, rg0_ok wp.1, fun p hp => q _ _ p wp.2 rgV0 hp⟩
    | _ => exact wp.elim) (rd_fr1 (o := .lrange) rfl s H Q h)
theorem se_lrangeN (hc : X.calm = true) (hg : Gl X "list") (hm : X.mg "list" = none) (hgr : Gl X "range") (hmr : X.mg "range" = none) (ha : SE X w F W a t) (hs : ∀ x p, a ≠ .Starred x p) : SE X w F W (.Call (.Name "list" p) [.Call (.Name "range" p2) [a] [] p3] [] pos) (.own (.o1 .lrange t)) :=
  pe_imp (pe_listRg hc hg hm (prg_1 hgr hmr ha (nostar hs))) fun s H Q h => rd_mono (fun x H1 h => by
    obtain ⟨G, d, P, sb, r, wp, q⟩ := h
    cases d with
    | int i => exact ⟨i, r, rg0_ok wp.1, fun p hp => q _ _ p wp.2 rgV0 hp⟩
    | _ => exact wp.elim) (rd_own1 (o := .lrange) rfl s H Q h)
theorem se_trange (hc : X.calm = true) (hg : Gl X "tuple") (hm : X.mg "tuple" = none) (hgr : Gl X "range") (hmr : X.mg "range" = none) (ha : SE X w F W a t) (hs : ∀ x p, a ≠ .Starred x p) : SE X w F W (.Call (.Name "tuple" p) [.Call (.Name "range" p2) [a] [] p3] [] pos) (.o1 .trange t) :=
  pe_imp (pe_tupRg hc hg hm (prg_1 hgr hmr ha (nostar hs))) fun s H Q h => rd_mono (fun x H1 h => by
    obtain ⟨G, d, P, sb, r, wp, q1, q2⟩ := h
    cases d with
    | int i => exact ⟨i, r, rg0_ok wp.1, fun p hp => q2 _ p _ wp.2 hp rfl fun e => ⟨p, _, rfl, upd_same, RpAll.mono e _ _ rgV0⟩⟩
    | _ => exact wp.elim) (rd_dat1 (o := .trange) rfl s H Q h)
theorem se_lrange2 (hc : X.calm = true) (hg : Gl X "list") (hm : X.mg "list" = none) (hgr : Gl X "range") (hmr : X.mg "range" = none) (ha : SE X w F W a t1) (hb : SE X w F W b t2) (hs : ∀ x p, a ≠ .Starred x p) (hs2 : ∀ x p, b ≠ .Starred x p) : SE X w F W (.Call (.Name "list" p) [.Call (.Name "range" p2) [a, b] [] p3] [] pos) (.o2 .lrange2 t1 t2) :=
  pe_imp (pe_listRg hc hg hm (prg_2 hgr hmr ha hb (by rw [nostar hs, nostar hs2]) (nostar hs2) (noany (by simpa using hs2)))) fun s H Q h => rd_mono (fun x H1 h => rd_mono (fun y H2 h => by
    obtain ⟨G, d1, d2, P, sb, r1, r2, wp, q⟩ := rD2_F h
    obtain ⟨i, rfl, wp⟩ := intP_of wp
    obtain ⟨j, rfl, wp⟩ := intP_of wp
    exact ⟨i, j, r1, r2, rg2_ok wp.1, fun p hp => q _ _ p wp.2 (rg_rel _ _) hp⟩) h) (rd_dat2 (o := .lrange2) rfl s H Q h)
end
end Hb

/-! SND8: new dicts, get; instances, their fields, their methods. -/
namespace Hb
open PySem PySem.Spec PyProof.Rows
open L2 hiding V Hp St
set_option autoImplicit false
section
variable {X : Cx} {w : Wo} {F : Phi} {W : WX} {a b e : Expr} {es : List Expr} {t t1 t2 t3 : T} {pos : Pos}
/-! ### dicts -/
theorem se_dnew {k : Bool} : SE X w F W (.Dict [] [] pos) (.dnew k) := by
  cases k with
  | false =>
    exact pe_imp pe_dnewK fun s H Q h => by
      obtain ⟨f, r, G, env, h, P, Xp, S, E, wp, q, qx⟩ := h
      intro p hp
      obtain ⟨S2, e2, el⟩ := S.alloc (x := .dK []) hp (o := .dct false []) ⟨(S.fresh hp).1, [], ⟨[], upd_same, rfl, rfl⟩, rfl⟩
      exact q _ _ (.ref p) _ _ _ wp e2 S2 ⟨p, el, rfl⟩
  | true =>
    exact pe_imp pe_dnewT fun s H Q h => by
      obtain ⟨f, r, G, env, h, P, Xp, S, E, wp, q, qx⟩ := h
      intro p hp
      obtain ⟨S2, e2, el⟩ := S.alloc (x := .dT []) hp (o := .dct true []) ⟨(S.fresh hp).1, [], ⟨[], upd_same, rfl, rfl⟩, rfl⟩
      exact q _ _ (.ref p) _ _ _ wp e2 S2 ⟨p, el, rfl⟩
theorem dic_of {f : L2.Hp} {r : List Addr} {G H : L2.Hp} {h : Hp} {v : V} {u : L2.V} {Q : Prop} (S : Sim w f r G h H) (rv : Rv w r G v u) (q : dicAt h v Q) : (∃ a, u = .ref a ∧ IsD H a) ∧ Q := by
  have key : ∀ {t : Bool} {a : Addr} {ks : List D} {us : List L2.V}, DcA H t a ks us → IsD H a := fun {t a ks us} hd => by
    cases t with
    | false => obtain ⟨kus, e, _⟩ := hd; exact .inl ⟨kus, .inl e⟩
    | true => obtain ⟨kus, e, _⟩ := hd; exact .inr ⟨kus, .inl e⟩
  cases v with
  | d d => cases d with
    | dict kvs => obtain ⟨a, t, us, rfl, hd, _⟩ := rv; exact ⟨⟨a, rfl, key (hd.mono (S.sub a))⟩, q⟩
    | _ => exact q.elim
  | cell n =>
    obtain ⟨a, e1, rfl⟩ := rv
    cases eo : h[n]? with
    | none => unfold dicAt at q; simp only [eo] at q
    | some o =>
      have ob := S.ob n a o e1 eo
      cases o with
      | dct t kvs => unfold dicAt at q; simp only [eo] at q; obtain ⟨_, us, hd, _⟩ := ob; exact ⟨⟨a, rfl, key hd⟩, q⟩
      | _ => unfold dicAt at q; simp only [eo] at q
  | _ => exact q.elim
theorem m1_of {o e : Expr} {m : Str} {apos cpos : Pos} (hb : plainBase o = true) (hl : (apos.endLine == cpos.line) = true) (hs : ∀ x p, e ≠ .Starred x p) : M1 X o m apos e cpos :=
  ⟨base_eq hb, few_ok (by intro y hy; simp at hy; subst hy; exact hs) (by show 1 < 30; decide), hl, by show backTo cpos (starEach [e] X.env) = _; rw [nostar hs]; rfl⟩
theorem m2_of {o e f : Expr} {m : Str} {apos cpos : Pos} (hb : plainBase o = true) (hl : (apos.endLine == cpos.line) = true) (hs : ∀ x p, e ≠ .Starred x p) (hs2 : ∀ x p, f ≠ .Starred x p) : M2 X o m apos e f cpos :=
  ⟨base_eq hb, few_ok (by intro y hy; simp at hy; rcases hy with rfl | rfl; exact hs; exact hs2) (by show 2 < 30; decide), hl, by show backTo cpos (starEach [e, f] X.env) = _; rw [nostar hs, nostar hs2]; rfl⟩
/-- a dict that is read, and its key -/
theorem ask_of {f : L2.Hp} {r : List Addr} {G H : L2.Hp} {h : Hp} {v y : V} {u uy : L2.V} {x k : D} {kvs : List (D × D)} {Q : Option D → Prop} (S : Sim w f r G h H) (rv : Rv w r G v u) (ry : Rv w r G y uy) (e1 : rdV h v = some (.dict kvs)) (e2 : rdV h y = some k) (wp : dkP kvs k Q) :
    ∃ a o, u = .ref a ∧ Asked H a uy o ∧ (match valD kvs k with | some z => ∃ u, o = some u ∧ Rp w.K G z u | none => o = none) ∧ Q (valD kvs k) := by
  obtain ⟨hk, wp⟩ := wp
  obtain ⟨a, t, us, rfl, hd, t2⟩ := S.read rv e1
  obtain ⟨o, g, vr⟩ := asked S.sub hd t2 (rt_key (S.read ry e2) hk) hk
  exact ⟨a, o, rfl, g, vr, wp⟩
theorem se_dget {apos cpos : Pos} (hu : X.A.units + 65 < cLine) (ho : SE X w F W a t1) (he : SE X w F W b t2) (m : M1 X a "get" apos b cpos) : SE X w F W (.Call (.Attribute a "get" apos) [b] [] cpos) (.dget t1 t2) := by
  refine ⟨fun pins s σ H Q I h => ?_⟩
  obtain ⟨f, r, G, env, h, P, Xp, S, E, wp, q, qx⟩ := h
  refine wpAny_Call_method m.base m.few m.line PySem.F.plainAttrs_dict PySem.F.slot_dict_get PySem.F.type_dict_get (thn (ho.run pins s σ H (fun u H1 => ∃ d, u = .ref d ∧ IsD H1 d ∧ rdE w F W t2 σ H1 fun y H2 => ∃ o, Asked H2 d y o ∧ Q (o.getD .non) H2) I
    ⟨f, r, G, env, h, _, Xp, S, E, wp, fun v h1 u r1 G1 H1 w1 e1 S1 rv => ?_, qx⟩) fun uv s1 hq => ?_)
  · obtain ⟨⟨d, rfl, hd⟩, w1⟩ := dic_of S1 rv w1
    refine ⟨d, rfl, hd, f, r1, G1, env, h1, _, Xp, S1, E.mono e1, w1, fun y h2 uy r2 G2 H2 w2 e2 S2 ry => ?_, qx.mono e1⟩
    obtain ⟨x, ex, w2⟩ := optP_of w2
    obtain ⟨k, ek, w2⟩ := optP_of w2
    cases x with
    | dict kvs =>
      obtain ⟨d', o, ed, g, vr, w2⟩ := ask_of (x := .none) S2 (Rv.mono e2 _ _ rv) ry ex ek w2
      cases ed
      refine ⟨o, g, ?_⟩
      cases ev : valD kvs k with
      | none =>
        rw [ev] at vr w2
        have vr : o = none := vr
        subst vr
        exact q _ h2 .non r2 G2 H2 w2 (e1.trans e2) S2 rfl
      | some z =>
        rw [ev] at vr w2
        obtain ⟨u, rfl, ru⟩ := vr
        exact q _ h2 u r2 G2 H2 w2 (e1.trans e2) S2 ru
    | _ => exact w2.elim
  · obtain ⟨u, H1, I1, ru, d, rfl, hd, q1⟩ := hq
    obtain rfl : uv = Value.ref d := ru
    obtain ⟨t1', t2', _⟩ := isD_at I1 hd
    refine ⟨t1', t2', ?_⟩
    rw [m.trees]
    refine Calls.callWith_builtin rfl (Calls.evalArgs_plain (Calls.spliced_cons (thn (he.run pins s1 σ H1 _ I1 q1) fun iv s2 hq2 => Calls.spliced_nil ?_)))
    obtain ⟨y, H2, I2, ry, o, g, q2⟩ := hq2
    exact a_get1 (by omega) I2 g ry fun w' s3 I3 rw' => ⟨_, H2, I3, rw', q2⟩
theorem se_dget2 {c : Expr} {apos cpos : Pos} (hu : X.A.units + 65 < cLine) (ho : SE X w F W a t1) (he : SE X w F W b t2) (hc : SE X w F W c t3) (m : M2 X a "get" apos b c cpos) : SE X w F W (.Call (.Attribute a "get" apos) [b, c] [] cpos) (.dget2 t1 t2 t3) := by
  refine ⟨fun pins s σ H Q I h => ?_⟩
  obtain ⟨f, r, G, env, h, P, Xp, S, E, wp, q, qx⟩ := h
  refine wpAny_Call_method m.base m.few m.line PySem.F.plainAttrs_dict PySem.F.slot_dict_get PySem.F.type_dict_get (thn (ho.run pins s σ H (fun u H1 => ∃ d, u = .ref d ∧ IsD H1 d ∧ rdE w F W t2 σ H1 fun y H2 => rdE w F W t3 σ H2 fun z H3 => ∃ o, Asked H3 d y o ∧ Q (o.getD z) H3) I
    ⟨f, r, G, env, h, _, Xp, S, E, wp, fun v h1 u r1 G1 H1 w1 e1 S1 rv => ?_, qx⟩) fun uv s1 hq => ?_)
  · obtain ⟨⟨d, rfl, hd⟩, w1⟩ := dic_of S1 rv w1
    refine ⟨d, rfl, hd, f, r1, G1, env, h1, _, Xp, S1, E.mono e1, w1, fun y h2 uy r2 G2 H2 w2 e2 S2 ry => ?_, qx.mono e1⟩
    refine ⟨f, r2, G2, env, h2, _, Xp, S2, E.mono (e1.trans e2), w2, fun z h3 uz r3 G3 H3 w3 e3 S3 rz => ?_, qx.mono (e1.trans e2)⟩
    obtain ⟨x, ex, w3⟩ := optP_of w3
    obtain ⟨k, ek, w3⟩ := optP_of w3
    cases z with
    | d z =>
      cases x with
      | dict kvs =>
        obtain ⟨d', o, ed, g, vr, w3⟩ := ask_of (x := .none) S3 (Rv.mono (e2.trans e3) _ _ rv) (Rv.mono e3 _ _ ry) ex ek w3
        cases ed
        refine ⟨o, g, ?_⟩
        cases ev : valD kvs k with
        | none =>
          rw [ev] at vr w3
          have vr : o = none := vr
          subst vr
          exact q _ h3 uz r3 G3 H3 w3 ((e1.trans e2).trans e3) S3 rz
        | some y =>
          rw [ev] at vr w3
          obtain ⟨u, rfl, ru⟩ := vr
          exact q _ h3 u r3 G3 H3 w3 ((e1.trans e2).trans e3) S3 ru
      | _ => exact w3.elim
    | _ => exact w3.elim
  · obtain ⟨u, H1, I1, ru, d, rfl, hd, q1⟩ := hq
    obtain rfl : uv = Value.ref d := ru
    obtain ⟨t1', t2', _⟩ := isD_at I1 hd
    refine ⟨t1', t2', ?_⟩
    rw [m.trees]
    refine Calls.callWith_builtin rfl (Calls.evalArgs_plain (Calls.spliced_cons (thn (he.run pins s1 σ H1 _ I1 q1) fun iv s2 hq2 => ?_)))
    obtain ⟨y, H2, I2, ry, q2⟩ := hq2
    refine Calls.spliced_cons (thn (hc.run pins s2 σ H2 _ I2 q2) fun jv s3 hq3 => Calls.spliced_nil ?_)
    obtain ⟨z, H3, I3, rz, o, g, q3⟩ := hq3
    exact a_get2 (by omega) I3 g ry rz fun w' s4 I4 rw' => ⟨_, H3, I4, rw', q3⟩
/-! ### instances -/
/-- an instance's cell -/
theorem ins_of {f : L2.Hp} {r : List Addr} {G H : L2.Hp} {h : Hp} {c : Nat} {v : V} {u : L2.V} {Q : Prop} (S : Sim w f r G h H) (rv : Rv w r G v u) (q : insAt h c v Q) : (∃ a dx us, ∃ n : Nat, ∃ fs, v = .cell n ∧ h[n]? = some (.ins c fs) ∧ r[n]? = some a ∧ u = .ref a ∧ H a = some (.ins (w.ca c) dx us)) ∧ Q := by
  cases v with
  | cell n =>
    obtain ⟨a, e1, rfl⟩ := rv
    cases eo : h[n]? with
    | none => unfold insAt at q; simp only [eo] at q
    | some o =>
      have ob := S.ob n a o e1 eo
      cases o with
      | ins c' fs =>
        unfold insAt at q
        simp only [eo] at q
        obtain ⟨rfl, q⟩ := q
        obtain ⟨g, dx, us, ha, _⟩ := ob
        exact ⟨⟨a, dx, us, n, fs, rfl, eo, e1, rfl, ha⟩, q⟩
      | _ => unfold insAt at q; simp only [eo] at q
  | _ => exact q.elim
theorem lookup_rel {r : List Addr} {G : L2.Hp} : ∀ {fs : List (Nat × V)} {us : List (Str × L2.V)} {g : Nat} {z : V}, us.map (·.1) = fs.map (fun p => w.an p.1) → RvAll w r G (fs.map (·.2)) (us.map (·.2)) → fs.lookup g = some z → ∃ u, us.lookup (w.an g) = some u ∧ Rv w r G z u
  | [], us, g, z, _, _, e => by cases e
  | (k, v) :: fs, [], g, z, h, _, _ => by cases h
  | (k, v) :: fs, (x, u) :: us, g, z, h, t, e => by
    have h : x :: us.map (·.1) = w.an k :: fs.map (fun p => w.an p.1) := h
    injection h with h1 h2
    subst h1
    obtain ⟨u', us', eu, ru, t⟩ := t
    have eu : u :: us.map (·.2) = u' :: us' := eu
    injection eu with e1 e2
    subst e1 e2
    rw [List.lookup_cons] at e
    rw [List.lookup_cons]
    by_cases hk : g = k
    · subst hk
      rw [beq_self_eq_true] at e ⊢
      cases e
      exact ⟨u, rfl, ru⟩
    · have n1 : (g == k) = false := beq_eq_false_iff_ne.mpr hk
      have n2 : (w.an g == w.an k) = false := beq_eq_false_iff_ne.mpr fun z => hk (w.anj _ _ z)
      rw [n1] at e
      rw [n2]
      exact lookup_rel h2 t e
theorem se_fld {o : Expr} {c : Nat} {g : Nat} {y : Str} (hK : X.K = w.K) (hc : Cls w.K (w.ca c)) (hn : NoAttr w.K (w.ca c) (w.an g)) (hy : w.an g = y) (ho : SE X w F W o t) (hb : attributeBase o y X.env (eval o X.env) = eval o X.env) : SE X w F W (.Attribute o y pos) (.fld c t g) := by
  subst hy
  refine pe_imp (pe_fld ho hb) fun s H Q h => ?_
  obtain ⟨f, r, G, env, h, P, Xp, S, E, wp, q, qx⟩ := h
  refine ⟨f, r, G, env, h, _, Xp, S, E, wp, fun v h1 u r1 G1 H1 w1 e1 S1 rv => ?_, qx⟩
  cases v with
  | cell n =>
    obtain ⟨a, er, rfl⟩ := rv
    cases eo : h1[n]? with
    | none => unfold fldV at w1; simp only [eo] at w1
    | some ob =>
      have obr := S1.ob n a ob er eo
      cases ob with
      | ins c' fs =>
        unfold fldV at w1
        simp only [eo] at w1
        obtain ⟨rfl, w1⟩ := w1
        obtain ⟨z, ez, w1⟩ := optP_of w1
        obtain ⟨gg, dx, us, ha, od, en, t⟩ := obr
        obtain ⟨u, eu, ru⟩ := lookup_rel en t ez
        exact ⟨a, _, dx, us, u, rfl, ha, by rw [hK]; exact hc, by rw [hK]; exact hn, eu, q z h1 u r1 G1 H1 w1 e1 S1 ru⟩
      | _ => unfold fldV at w1; simp only [eo] at w1
  | _ => exact w1.elim
/-- o.f = e -/
theorem put_relI {r : List Addr} {G : L2.Hp} {g : Nat} {z : V} {u : L2.V} (rz : Rv w r G z u) : ∀ {fs : List (Nat × V)} {us : List (Str × L2.V)}, us.map (·.1) = fs.map (fun p => w.an p.1) → RvAll w r G (fs.map (·.2)) (us.map (·.2)) →
    (putF (w.an g) u us).map (·.1) = (putI fs g z).map (fun p => w.an p.1) ∧ RvAll w r G ((putI fs g z).map (·.2)) ((putF (w.an g) u us).map (·.2))
  | [], us, h, t => by
    have : us = [] := by cases us with
      | nil => rfl
      | cons _ _ => cases h
    subst this
    exact ⟨rfl, _, _, rfl, rz, rfl⟩
  | (k, v) :: fs, [], h, t => by cases h
  | (k, v) :: fs, (x, y) :: us, h, t => by
    have h : x :: us.map (·.1) = w.an k :: fs.map (fun p => w.an p.1) := h
    injection h with h1 h2
    subst h1
    obtain ⟨u', us', eu, ru, t⟩ := t
    have eu : y :: us.map (·.2) = u' :: us' := eu
    injection eu with e1 e2
    subst e1 e2
    show ((if w.an k = w.an g then (w.an k, u) :: us else (w.an k, y) :: putF (w.an g) u us).map (·.1)) = ((if k = g then (k, z) :: fs else (k, v) :: putI fs g z).map (fun p => w.an p.1)) ∧
      RvAll w r G ((if k = g then (k, z) :: fs else (k, v) :: putI fs g z).map (·.2)) ((if w.an k = w.an g then (w.an k, u) :: us else (w.an k, y) :: putF (w.an g) u us).map (·.2))
    by_cases hk : k = g
    · subst hk
      rw [if_pos rfl, if_pos rfl]
      exact ⟨by rw [List.map_cons, List.map_cons, h2], _, _, rfl, rz, t⟩
    · rw [if_neg hk, if_neg fun q => hk (w.anj _ _ q)]
      obtain ⟨i1, i2⟩ := put_relI rz h2 t
      exact ⟨by rw [List.map_cons, List.map_cons, i1], _, _, rfl, ru, i2⟩
theorem ss_fld {o : Expr} {c : Nat} {g : Nat} {y : Str} {p' : Pos} (hK : X.K = w.K) (hc : Cls w.K (w.ca c)) (hn : NoAttr w.K (w.ca c) (w.an g)) (hy : w.an g = y) (he : SE X w F W e t) (ho : SE X w F W0 o t1) (hs : swapsWith e (some (.Attribute o y p')) pos.line X.env = pure false) :
    SS X w F W (.Assign [.Attribute o y p'] e pos) (.asg (.tsf c t1 g) t) := by
  subst hy
  refine ps_imp (ps_fld ho he hs) fun D s H h => ?_
  obtain ⟨f, r, G, env, h, n, k, S, E, wp, q⟩ := h
  refine ⟨f, r, G, env, h, _, _, S, E, wp, fun v h1 u r1 G1 H1 w1 e1 S1 rv => ?_, q.x E⟩
  refine ⟨f, r1, G1, env, h1, _, _, S1, E.mono e1, w1, fun x h2 ux r2 G2 H2 w2 e2 S2 rx => ?_, XOk.never⟩
  cases x with
  | cell m =>
    obtain ⟨a, er, rfl⟩ := rx
    cases eo : h2[m]? with
    | none => unfold setF at w2; simp only [eo] at w2
    | some ob =>
      have obr := S2.ob m a ob er eo
      cases ob with
      | ins c' fs =>
        unfold setF at w2
        simp only [eo] at w2
        obtain ⟨⟨rfl, hl⟩, w2⟩ := w2
        obtain ⟨gg, dx, us, ha, od, en, t⟩ := obr
        have hlu : us.length = fs.length := by have := congrArg List.length en; simpa using this
        obtain ⟨p1, p2⟩ := put_relI (g := g) (Rv.mono e2 _ _ rv) en t
        have nd : dx ≠ a := fun z => by subst z; rw [od] at ha; cases ha
        refine ⟨a, _, dx, us, rfl, ha, by rw [hK]; exact hc, by rw [hK]; exact hn, by omega, ?_⟩
        exact q.nx env _ s r2 G2 _ w2 (e1.trans e2) (S2.put (o' := .ins c' (putI fs g v)) er eo (fun z => nomatch z) ⟨gg, dx, _, upd_same, by rw [upd_ne nd]; exact od, p1, p2⟩) (E.mono (e1.trans e2))
      | _ => unfold setF at w2; simp only [eo] at w2
  | _ => exact w2.elim
/-! ### methods, new instances -/
/-- a name, a subscript, an attribute, a call of a class that is not super -/
def recvB : Expr → Bool
  | .Name _ _ => true
  | .Subscript _ _ _ => true
  | .Call (.Name x _) _ _ _ => x != ("super" : Str)
  | .Call (.Attribute _ _ _) _ _ _ => true
  | .Attribute _ _ _ => true
  | _ => false
theorem recv_eq {o : Expr} {name : Str} {env : PySem.Env} (h : recvB o = true) : attributeBase o name env (eval o env) = eval o env := by
  unfold recvB at h
  split at h
  · rfl
  · rfl
  · rename_i x p as ks q
    cases as with
    | nil => cases ks with
      | nil => exact abase_call h
      | cons _ _ => rfl
    | cons _ _ => rfl
  · rfl
  · rfl
  · cases h
theorem mt_of {o : Expr} {m : Str} {apos cpos : Pos} {es : List Expr} {env : PySem.Env} (hb : attributeBase o m env (eval o env) = eval o env)
    (hf : ((backTo cpos (starEach es env)).all (fun x => !x.1) && (backToKw cpos (keywordEach [] env)).all (fun x => x.1.isSome) && decide (es.length + ([] : List Keyword).length + (if ([] : List Keyword).isEmpty then 0 else 1) < 30)) = true) (hl : (apos.endLine == cpos.line) = true) :
    ∃ pl : Sem Bool, eval (.Call (.Attribute o m apos) es [] cpos) env = (do
      let ov ← eval o env
      standAt apos.atName
      let (f, first) ← holding [ov] (getMethod ov m pl)
      callWith cpos f first (backTo cpos (starEach es env)) (backToKw cpos (keywordEach [] env))) := by
  refine ⟨(do return (← importBound o env).getD true), mcall_of hb fun ov => ?_⟩
  have hform : methodCallForm (es.length + ([] : List Keyword).length) (backTo cpos (starEach es env)) (backToKw cpos (keywordEach [] env)) = true := hf
  have hpos : methodCallPos true o env apos cpos = pure cpos := by unfold methodCallPos; simp [hl]
  unfold methodCall
  rw [hform, hpos]
  simp only [pure_bind]
  rfl
theorem no_field {fs : List (Nat × V)} {us : List (Str × L2.V)} {m : Str} (h : us.map (·.1) = fs.map (fun p => w.an p.1)) (hm : ∀ i, w.an i ≠ m) : us.lookup m = none := by
  induction us generalizing fs with
  | nil => rfl
  | cons u us ih =>
    cases fs with
    | nil => cases h
    | cons p fs =>
      have h : u.1 :: us.map (·.1) = w.an p.1 :: fs.map (fun p => w.an p.1) := h
      injection h with h1 h2
      obtain ⟨x, y⟩ := u
      rw [List.lookup_cons]
      have n2 : (m == x) = false := beq_eq_false_iff_ne.mpr fun z => hm p.1 (by rw [← h1]; exact z.symm)
      rw [n2]
      exact ih h2
theorem rd_meth {c g np : Nat} {m : Str} {o args : T} {s : Sg} {H : L2.Hp} {Q : VK} (hm : ∀ i, w.an i ≠ m) (hl : tlen args + 1 = np) (h : rdE w F W (.meth c g o args) s H Q) : rdE w F W o s H fun u H1 => ∃ a dx us, u = .ref a ∧ H1 a = some (.ins (w.ca c) dx us) ∧ us.lookup m = none ∧
    rdA w F W args s H1 fun vs H2 => spOf w F np g (.ref a :: vs) H2 Q (L2.WE W s) := by
  obtain ⟨f, r, G, env, h, P, Xp, S, E, wp, q, qx⟩ := h
  refine ⟨f, r, G, env, h, _, Xp, S, E, wp, fun v h1 u r1 G1 H1 w1 e1 S1 rv => ?_, qx⟩
  obtain ⟨⟨a, dx, us, n, fs, rfl, eo, er, rfl, ha⟩, w1⟩ := ins_of S1 rv w1
  obtain ⟨_, dx', us', ha', _, en, _⟩ := S1.ob n a _ er eo
  rw [ha] at ha'
  cases ha'
  refine ⟨a, dx, us, rfl, ha, no_field en hm, f, r1, G1, env, h1, _, Xp, S1, E.mono e1, w1, fun vs h2 ws r2 G2 H2 w2 l2 e2 S2 rvs => ?_, qx.mono e1⟩
  refine ⟨?_, f, r2, G2, .cell n :: vs, h2, P, Xp, S2, ⟨_, _, rfl, Rv.mono e2 _ _ rv, rvs⟩, w2, q.mono (e1.trans e2), qx.mono (e1.trans e2)⟩
  show ws.length + 1 = np
  rw [← rvAll_len rvs, l2]
  exact hl
variable {k g c : Nat} {x m : Str} {ps : List Str} {kwl : List (Nat × List Str × List Nat)} {p apos cpos : Pos}
theorem se_meth {o : Expr} (hK : X.K = w.K) (hc : Cls w.K (w.ca c)) (hm : Meth w.K (w.ca c) m (w.fa g)) (hmn : ∀ i, w.an i ≠ m) (dk : DefOk X.prog X.w X.mg X.base k w F g x ps kwl) (hr : Room k X.A) (tk : Takes X W) (ho : SE X w F W o t1) (ha : SA X w F W (e :: es) t2) (hs : ∀ y ∈ e :: es, ∀ x p, y ≠ .Starred x p)
    (hb : recvB o = true) (hl : (apos.endLine == cpos.line) = true) (h30 : (e :: es).length < 30) (hlen : tlen t2 + 1 = ps.length) : SE X w F W (.Call (.Attribute o m apos) (e :: es) [] cpos) (.meth c g t1 t2) := by
  obtain ⟨fd, bd, _, fo⟩ := dk.ok
  obtain ⟨pl, ht⟩ := mt_of (recv_eq (name := m) hb) (few_ok (pos := cpos) (env := X.env) hs h30) hl
  rw [← hK] at fo bd hc hm
  refine ⟨fun pins s σ H Q I h => ?_⟩
  refine PySem.W.methodCall_KW (pl := pl) (thn (ho.run pins s σ H _ I (rd_meth hmn hlen h)) fun uv s1 hq => ?_) ht
  obtain ⟨u, H1, I1, ru, a, dx, us, rfl, ea, l, q⟩ := hq
  obtain rfl : uv = Value.ref a := ru
  refine getmeth_ok I1 ea hc hm l ?_
  refine PySem.W.callWith_K (first := [.ref a]) (h₀ := X.base) I1.ok.mod.kin hm.kp (thn (ha.run cpos pins s1 σ H1 _ I1 q) fun vs s2 hq2 => ?_) (nostar (hs e (by simp))) (noany fun y hy => hs y (by simp [hy]))
  obtain ⟨ws, H2, I2, r, q2⟩ := hq2
  exact ⟨I2.kIn, run_fnS (E := L2.WE W) (us := .ref a :: vs) (vs := .ref a :: ws) fo hr bd (passAt tk σ) I2 (.cons rfl r) q2⟩
theorem se_meth0 {o : Expr} (hK : X.K = w.K) (hc : Cls w.K (w.ca c)) (hm : Meth w.K (w.ca c) m (w.fa g)) (hmn : ∀ i, w.an i ≠ m) (dk : DefOk X.prog X.w X.mg X.base k w F g x ps kwl) (hr : Room k X.A) (tk : Takes X W) (ho : SE X w F W o t1)
    (hb : recvB o = true) (hl : (apos.endLine == cpos.line) = true) (hlen : 1 = ps.length) : SE X w F W (.Call (.Attribute o m apos) [] [] cpos) (.meth c g t1 .nil) := by
  obtain ⟨fd, bd, _, fo⟩ := dk.ok
  obtain ⟨pl, ht⟩ := mt_of (es := []) (recv_eq (name := m) hb) (few_ok (pos := cpos) (env := X.env) (fun e he => by cases he) (by decide)) hl
  rw [← hK] at fo bd hc hm
  refine ⟨fun pins s σ H Q I h => ?_⟩
  refine PySem.W.methodCall_KW (pl := pl) (thn (ho.run pins s σ H _ I (rd_meth (args := .nil) (np := ps.length) hmn hlen h)) fun uv s1 hq => ?_) ht
  obtain ⟨u, H1, I1, ru, a, dx, us, rfl, ea, l, f, r, G, env, h, P, Xp, S, E, wp, q, qx⟩ := hq
  obtain rfl : uv = Value.ref a := ru
  refine getmeth_ok I1 ea hc hm l ?_
  have q2 := q [] h [] r G H1 wp rfl Ext.refl S rfl
  exact PySem.W.callWith_K0 (first := [.ref a]) I1.kIn hm.kp (run_fnS (E := L2.WE W) (us := [.ref a]) (vs := [.ref a]) fo hr bd (passAt tk σ) I1 (.cons rfl .nil) q2)
theorem rd_make {np : Nat} {args : T} {s : Sg} {H : L2.Hp} {Q : VK} (hl : tlen args + 1 = np) (h : rdE w F W (.make c g args) s H Q) : rdA w F W args s H fun vs H1 => ∀ x dx, H1 x = none → H1 dx = none → dx ≠ x →
    spOf w F np g (.ref x :: (vs ++ [])) (upd (upd H1 dx (.own x)) x (.ins (w.ca c) dx [])) (fun v H2 => v = .non ∧ Q (.ref x) H2) (fun _ _ _ => False) := by
  obtain ⟨f, r, G, env, h, P, Xp, S, E, wp, q, qx⟩ := h
  refine ⟨f, r, G, env, h, _, Xp, S, E, wp, fun vs h1 us r1 G1 H1 w1 l1 e1 S1 rvs => ?_, qx⟩
  intro y dx hy hd ne
  rw [List.append_nil]
  have S2 := S1.other hd (.own y)
  have hy2 : upd H1 dx (.own y) y = none := by rw [upd_ne (Ne.symm ne)]; exact hy
  obtain ⟨S3, e3, el⟩ := S2.alloc (x := .ins (w.ca c) dx []) hy2 (o := .ins c []) ⟨(S2.fresh hy2).1, dx, [], upd_same, by rw [upd_ne ne]; exact upd_same, rfl, rfl⟩
  refine ⟨?_, f, r1 ++ [y], G1, .cell h1.length :: vs, h1 ++ [.ins c []], _, _, S3, ⟨_, _, rfl, ⟨y, el, rfl⟩, RvAll.mono e3 _ _ rvs⟩, w1, ?_, XOk.never⟩
  · show us.length + 1 = np
    rw [← rvAll_len rvs, l1]
    exact hl
  · rintro v h' u r' G' H' ⟨rfl, pv⟩ ex S' rv
    exact ⟨rv, q _ h' (.ref y) r' G' H' pv ((e1.trans e3).trans ex) S' ⟨y, ex.pre _ _ el, rfl⟩⟩
theorem se_make {y : Str} (hK : X.K = w.K) (hM : L2.Mk w.K (w.ca c) (w.fa g)) (hy : X.mg y = some (.ref (w.ca c))) (hg : Gl X y) (dk : DefOk X.prog X.w X.mg X.base k w F g x ps kwl) (hr : Room (k + 1) X.A) (ha : SA X w F W (e :: es) t) (hs : ∀ y ∈ e :: es, ∀ x p, y ≠ .Starred x p)
    (hdb : (y == ("__debug__" : Str)) = false) (hlen : tlen t + 1 = ps.length) : SE X w F W (.Call (.Name y p) (e :: es) [] cpos) (.make c g t) := by
  obtain ⟨fd, bd, _, fo⟩ := dk.ok
  rw [← hK] at fo bd hM
  have hx : Passes (L2.CX X.prog X.w) X (fun _ _ _ => False) := fun pins σ H s e s' I hc => by
    obtain ⟨_, _, _, _, _, _, _, _, _, _, _, _, z⟩ := hc
    exact z.elim
  exact pe_imp (pe_make hM fo hr hg hy bd .nil hx ha hdb (nostar (hs e (by simp))) (noany fun y hy => hs y (by simp [hy]))) fun s H Q h => rd_make hlen h
theorem se_make0 {y : Str} (hK : X.K = w.K) (hM : L2.Mk w.K (w.ca c) (w.fa g)) (hy : X.mg y = some (.ref (w.ca c))) (hg : Gl X y) (dk : DefOk X.prog X.w X.mg X.base k w F g x ps kwl) (hr : Room (k + 1) X.A)
    (hdb : (y == ("__debug__" : Str)) = false) (hlen : 1 = ps.length) : SE X w F W (.Call (.Name y p) [] [] cpos) (.make c g .nil) := by
  obtain ⟨fd, bd, _, fo⟩ := dk.ok
  rw [← hK] at fo bd hM
  have hx : Passes (L2.CX X.prog X.w) X (fun _ _ _ => False) := fun pins σ H s e s' I hc => by
    obtain ⟨_, _, _, _, _, _, _, _, _, _, _, _, z⟩ := hc
    exact z.elim
  refine pe_imp (pe_make0 hM fo hr hg hy bd .nil hx hdb) fun s H Q h => ?_
  obtain ⟨f, r, G, env, h, P, Xp, S, E, wp, q, qx⟩ := rd_make (args := .nil) (np := ps.length) hlen h
  exact q [] h [] r G H wp rfl Ext.refl S rfl
end
end Hb

/-! SND9: len(set(x)) of whole numbers. -/
namespace Hb
open PySem PySem.Spec PyProof.Rows
open L2 hiding V Hp St
set_option autoImplicit false
theorem nubI_mem {x : Int} : ∀ {l : List Int}, x ∈ nubI l ↔ x ∈ l
  | [] => Iff.rfl
  | y :: r => by
    unfold nubI
    split
    · rename_i h
      rw [nubI_mem, List.mem_cons]
      constructor
      · exact .inr
      · rintro (rfl | h2)
        · exact h
        · exact h2
    · rw [List.mem_cons, nubI_mem, List.mem_cons]
theorem nubI_nodup : ∀ l : List Int, (nubI l).Nodup
  | [] => List.nodup_nil
  | y :: r => by
    unfold nubI
    split
    · exact nubI_nodup r
    · rename_i h
      exact List.nodup_cons.mpr ⟨fun z => h (nubI_mem.mp z), nubI_nodup r⟩
theorem len_of_mem {a b : List Int} (ha : a.Nodup) (hb : b.Nodup) (h : ∀ x, x ∈ a ↔ x ∈ b) : a.length = b.length := ((List.perm_ext_iff_of_nodup ha hb).mpr h).length_eq
theorem first_facts (val : Nat → Int) : ∀ i, (firstMet val i).Nodup ∧ ∀ x, x ∈ firstMet val i ↔ x ∈ (List.range i).map val
  | 0 => ⟨List.nodup_nil, fun x => Iff.rfl⟩
  | i + 1 => by
    obtain ⟨h1, h2⟩ := first_facts val i
    rw [firstMet_succ, List.range_succ, List.map_append]
    unfold step_dedup
    split
    · rename_i h
      obtain ⟨y, hy, ey⟩ := List.any_eq_true.mp h
      have ey := eq_of_beq ey
      subst ey
      refine ⟨h1, fun x => ?_⟩
      rw [List.mem_append, ← h2]
      constructor
      · exact .inl
      · rintro (h | h)
        · exact h
        · simp at h; subst h; exact hy
    · rename_i h
      refine ⟨?_, fun x => ?_⟩
      · rw [List.nodup_append]
        refine ⟨h1, by simp, fun a ha b hb z => ?_⟩
        simp at hb
        subst hb
        subst z
        exact h (List.any_eq_true.mpr ⟨_, ha, beq_self_eq_true _⟩)
      · rw [List.mem_append, List.mem_append, h2]
        rfl
theorem getD_map (ns : List Int) : (List.range ns.length).map (fun i => ns.getD i 0) = ns := by
  apply List.ext_getElem?
  intro i
  rw [List.getElem?_map]
  rcases Nat.lt_or_ge i ns.length with h | h
  · rw [List.getElem?_range h, List.getElem?_eq_getElem h]
    show some (ns.getD i 0) = _
    rw [List.getD_eq_getElem?_getD, List.getElem?_eq_getElem h]
    rfl
  · rw [List.getElem?_eq_none (by rw [List.length_range]; exact h), List.getElem?_eq_none h]
    rfl
def tLenSetN (K : PySem.W.Frag) (ta : TE) : TE := fun σ H Q => ta σ H fun x H1 => ∃ (l : Addr) (ns : List Int), x = .ref l ∧ (SqL K H1 l (ns.map V.int) ∨ SqT K H1 l (ns.map V.int)) ∧ ns.length ≤ 1000 ∧ Q (.int ((nubI ns).length : Nat)) H1
theorem pe_lenSetN {X : Cx} {a : Expr} {ta : TE} {p p2 q pos : Pos} (hg : Gl X "len") (hm : X.mg "len" = none) (hg2 : Gl X "set") (hm2 : X.mg "set" = none) (ha : PE X a ta) (hc : X.calm = true)
    (na : starEach [a] X.env = (false, eval a X.env) :: starEach [] X.env) : PE X (.Call (.Name "len" p) [.Call (.Name "set" p2) [a] [] q] [] pos) (tLenSetN X.K ta) := by
  refine ⟨fun pins s σ H Q I h => ?_⟩
  refine Call_ (ld_blt I hg hm boot_len ?_)
  refine callWith_builtin1 (args_cons ?_ rfl) rfl rfl
  refine Call_ (ld_blt I hg2 hm2 boot_set ?_)
  refine callWith_type1 (args_cons (thn (ha.run pins s σ H _ I h) fun v s1 ⟨x, H1, I1, r1, q1⟩ => args_nil ?_) na) na rfl
  obtain ⟨l, ns, rfl, hq, hl, q1⟩ := q1
  cases r1
  rcases hq with hq | hq
  · obtain ⟨its, r, pl, hz⟩ := I1.list hq
    have hlen : its.toArray.size = ns.length := by rw [List.size_toArray, ← r.length, List.length_map]
    refine call_set_list (I1.ok.hd hc) pl.isList (by simpa using RZ.intsAre_vals r) (by rw [hlen]; unfold scanBound; omega) fun h' tk hS hk => ?_
    refine args_nil ?_
    obtain ⟨f1, f2⟩ := first_facts (fun i => ns.getD i 0) ns.length
    have hcnt : (firstMet (fun i => ns.getD i 0) its.toArray.size).length = (nubI ns).length := by
      rw [hlen]
      refine len_of_mem f1 (nubI_nodup ns) fun x => ?_
      rw [f2, getD_map, nubI_mem]
    rw [hcnt] at hS
    obtain ⟨o, es, ep, t, ho, hex, hd, _, _, _, hf, hn⟩ := hS
    have hle : (nubI ns).length ≤ ns.length := by rw [← hcnt, hlen]; exact firstMet_length_le _ _
    have I2 : Inv X pins σ H1 { s1 with heap := h', toks := tk } := I1.kept fun b o e => hk b o (Heap.lt_size e) e
    exact call_len_set ho hex hd hf (by rw [hn] <;> omega) ⟨.int (nubI ns).length, H1, I2.tok _, ⟨_, by rw [hn]⟩, q1⟩
  · obtain ⟨its, r, pt, hz⟩ := I1.tuple hq
    refine call_set_tupI ns (I1.ok.hd hc) (show s1.heap.IsTuple l its.toArray from pt) (by simpa using RZ.intsAre_vals r) (by unfold scanBound; omega) fun h' tk c R1 hcn hk => ?_
    refine args_nil ?_
    obtain ⟨o, es, ep, t, ho, hex, hd, _, nd, hm', _, hf, hn, _⟩ := R1
    have hcnt : c = (nubI ns).length := by
      rw [← hn, ← Array.length_toList, ← List.length_map (f := keyOf)]
      refine len_of_mem nd (nubI_nodup ns) fun x => ?_
      rw [← hm', nubI_mem]
      exact decide_eq_true_iff
    have I2 : Inv X pins σ H1 { s1 with heap := h', toks := tk } := I1.kept fun b o e => hk b o e
    exact call_len_set ho hex hd hf (by rw [hn] <;> omega) ⟨.int (nubI ns).length, H1, I2.tok _, ⟨_, by rw [hn, hcnt]⟩, q1⟩
section
variable {X : Cx} {w : Wo} {F : Phi} {W : WX} {a : Expr} {t : T} {p p2 p3 pos : Pos}
theorem se_setlen (hK : X.K = w.K) (hc : X.calm = true) (hg : Gl X "len") (hm : X.mg "len" = none) (hg2 : Gl X "set") (hm2 : X.mg "set" = none) (ha : SE X w F W a t) (hs : ∀ x p, a ≠ .Starred x p) :
    SE X w F W (.Call (.Name "len" p) [.Call (.Name "set" p2) [a] [] p3] [] pos) (.o1 .setlen t) :=
  pe_imp (pe_lenSetN hg hm hg2 hm2 ha hc (nostar hs)) fun s H Q h => rd_mono (fun x H1 h => by
    obtain ⟨G, d, P, sb, r, wp, q1, q2⟩ := h
    cases d with
    | list ds =>
      obtain ⟨a, us, rfl, h1, t⟩ := r
      obtain ⟨bs, e, wp⟩ := optP_of wp
      have := lst_ints t e
      subst this
      exact ⟨a, bs, rfl, .inl (by rw [hK]; exact h1.sq), wp.1, q1 _ _ wp.2 rfl⟩
    | tuple ds =>
      obtain ⟨bs, e, wp⟩ := optP_of wp
      obtain ⟨a, rfl, h1⟩ := tup_ints sb r e
      exact ⟨a, bs, rfl, .inr (by rw [hK]; exact h1), wp.1, q1 _ _ wp.2 rfl⟩
    | _ => exact wp.elim) (rd_dat1 (o := .setlen) rfl s H Q h)
theorem parts_mk {h : Hp} {vs : List V} {Q : List V → Prop} (q : partsV h (mkTup vs) Q) : Q vs := by
  unfold mkTup at q
  cases e : allD vs with
  | none => rw [e] at q; exact q
  | some ds =>
    rw [e] at q
    have q : Q (ds.map V.d) := q
    have e2 : ∀ (vs : List V) (ds : List D), allD vs = some ds → vs = ds.map V.d := by
      intro vs
      induction vs with
      | nil => intro ds e; cases e; rfl
      | cons v vs ih =>
        intro ds e
        cases v with
        | d x =>
          have e : (allD vs).map (x :: ·) = some ds := e
          cases e3 : allD vs with
          | none => rw [e3] at e; cases e
          | some r => rw [e3] at e; cases e; rw [ih r e3]; rfl
        | _ => cases e
    rw [e2 vs ds e]
    exact q
theorem ss_par {b : Expr} {t1 t2 : T} {i j : Nat} {x y : Str} {px py pt : Pos} {kt k2 pt2} (hc : X.calm = true) (hN : X.N.Nodup) (hi : X.N[i]? = some x) (hj : X.N[j]? = some y) (hij : i ≠ j)
    (hx : X.env.scope.names.lookup x = some .local) (hy : X.env.scope.names.lookup y = some .local) (ha : SA X w F W [a, b] (.cons t1 (.cons t2 .nil)))
    (hw : swappedStores [.Tuple [.Name x px, .Name y py] kt pt] (.Tuple [a, b] k2 pt2) X.env = pure (some [x, y])) :
    SS X w F W (.Assign [.Tuple [.Name x px, .Name y py] kt pt] (.Tuple [a, b] k2 pt2) pos) (.asg (.ttp (.cons (.tnm i) (.cons (.tnm j) .nil))) (.tup (.cons t1 (.cons t2 .nil)))) :=
  ps_imp (ps_par hc hN hi hj hij hx hy ha hw) fun D s H h => by
    obtain ⟨f, r, G, env, h, n, k, S, E, wp, q⟩ := h
    have wp : WEs F (.cons t1 (.cons t2 .nil)) env h (fun vs h1 => vs.length ≤ big ∧ WA F (.ttp (.cons (.tnm i) (.cons (.tnm j) .nil))) (mkTup vs) env h1 n) (fun x h1 => k.xe x env h1) := wp
    refine ⟨f, r, G, env, h, _, _, S, E, wp, fun vs h1 us r1 G1 H1 p l1 e1 S1 rvs => ?_, q.x E⟩
    obtain ⟨_, p⟩ := p
    match vs, l1, rvs, p with
    | [v1, v2], _, rvs, p =>
      obtain ⟨u1, us1, rfl, ru1, rvs⟩ := rvs
      obtain ⟨u2, us2, rfl, ru2, rvs⟩ := rvs
      have rvs : us2 = [] := rvs
      subst rvs
      have p : partsV h1 (mkTup [v1, v2]) fun vs => vs.length = tlen (.cons (.tnm i) (.cons (.tnm j) .nil)) ∧ WAs F (.cons (.tnm i) (.cons (.tnm j) .nil)) vs env h1 n := p
      obtain ⟨_, p⟩ := parts_mk p
      have p : n ((env.set i (some v1)).set j (some v2)) h1 := p.2
      exact ⟨u1, u2, rfl, q.nx _ h1 _ r1 G1 H1 p e1 S1 (((E.mono e1).set ru1 i).set ru2 j)⟩
end
end Hb

/-! EXN: errors: raised, caught and kept, asked for their class. -/
namespace Hb
open PySem PySem.Spec PyProof.Rows
open L2 hiding V Hp St
set_option autoImplicit false
section
variable {X : Cx} {pins : List (Addr × Obj)} {σ : Sg} {H : L2.Hp} {s : Shared}
/-- a caught error is tracked from here on -/
theorem adopt {a : Addr} {ob : Obj} {vs : Array Value} {cls : Value} {d : Option Addr} (I : Inv X pins σ H s) (ha : s.heap.get? a = some ob) (hz : Zc cls d ob) (hd : ob.data = .fields vs)
    (hn : H a = none) (h0 : X.s_0.heap.get? a = none) (nL : a ≠ X.env.locals) (hp : ∀ p ∈ X.pn ++ pins, p.1 ≠ a) : Inv X pins σ (upd H a (ExK cls d a)) s := by
  have new : ObjOk X.prog X.w (upd H a (ExK cls d a)) s.heap a (ExK cls d a) := ⟨⟨ob, vs, ha, hz, hd⟩, ⟨ob, ha⟩, fun _ _ ⟨o, v, q, z⟩ k => ⟨o, v, k o q, z⟩⟩
  have far : ∀ b u, H b = some u → b ≠ a := fun b u e z => by rw [z, hn] at e; cases e
  constructor
  · exact I.ok
  · exact I.os
  · exact I.bare
  · constructor
    · exact I.base.keep
    · exact I.base.slot
    · intro b u e n hx
      have hb : b ≠ a := fun z => by rw [z, h0] at e; cases e
      rw [upd_ne hb]
      exact I.base.free b u e n hx
    · exact I.base.there
    · intro b xs e
      have q := I.base.tups b xs e
      rw [upd_ne (far b _ q)]
      exact q
    · intro b u v e
      have q := I.base.frzs b u v e
      rw [upd_ne (far b _ q)]
      exact q
    · intro b ps e
      obtain ⟨m, q⟩ := I.base.tbls b ps e
      refine ⟨m, ?_⟩
      rw [upd_ne (far b _ q)]
      exact q
  · exact I.loc
  · exact I.cell
  · rw [upd_ne (Ne.symm nL)]
    exact I.free
  · intro x c e
    have hc : c ≠ a := fun z => by
      obtain ⟨v, o, ho, hq⟩ := I.cell x c e
      rw [z, ha] at ho
      cases ho
      rw [hd] at hq
      cases hq
    rw [upd_ne hc]
    exact I.freeC x c e
  · intro p hq
    obtain ⟨e, n, r⟩ := I.pin p hq
    refine ⟨e, ?_, r⟩
    rw [upd_ne (hp p hq)]
    exact n
  · exact I.hok.laidN (fun _ _ q => q) hn new
  · exact I.len
end
/-- what is wished of an error in the body of try: it is of the class, and the rest runs with it in the slot y -/
def wKeep (K : PySem.W.Frag) (c : Value) (i y : Nat) (D : Ends) : WX := fun cls d σ H => PySem.W.exmOne K cls c = some true ∧
  ∀ a, H a = none → D.nx (((σ.set i (some (.ref a))).set y (some (.ref a))).set i none) (upd H a (ExK cls d a))
section
variable {X : Cx} {x n m : Str} {c : Value} {i y : Nat} {body : List Stmt} {np mp vp ap hp pos : Pos} {tb : WX → TS}
/-- try: body, except x as n: m = n; the error is kept -/
theorem ps_try_keep (hs : X.stack = X.env :: X.outer) (hf : X.env.frame = some X.env.locals) (hex : X.ex = []) (hN : X.N.Nodup) (hi : X.N[i]? = some n) (hln : X.env.kindOf n = some .local) (hc : Names X x c)
    (hm : X.N[y]? = some m) (hlm : Loc X.env.scope m) (hfm : X.fn m = true ∨ X.env.scope.names.lookup m = some .local) (hd1 : (n == ("__debug__" : Str)) = false) (hd2 : (n == ("__classdict__" : Str)) = false)
    (hb : ∀ (W : WX) (pn : List (Addr × Obj)) (xe : Value → Shared → Prop), Takes (X.tr pn xe) W → PassesOwn (model X.prog X.w) X.A X.env xe → PSs (X.tr pn xe) body (tb W)) :
    PS X (.Try body [.ExceptHandler (some (.Name x np)) (some n) [.Assign [.Name m mp] (.Name n vp) ap] hp] [] [] pos) (fun D σ H => tb (wKeep X.K c i y D) D σ H) := by
  constructor
  intro pins s σ H D I h
  have ok := I.ok
  have fr : X.A.frames = some (X.env :: X.outer) := ok.frames.trans (congrArg some hs)
  have lcl : Loc X.env.scope n := .inl hln
  refine wpAny_Try_except (wpAny_mono ((hb _ (X.pn ++ pins) _ (fun u t z => ?grab) PassesOwn.looking).run [] s σ H D (I.toTry _) h) (fun fl t z => ?plain) fun _ _ z => z)
  case plain =>
    cases fl with
    | next => obtain ⟨σ1, H1, J, q⟩ := z; exact wpAny_execs_nil ⟨σ1, H1, J.ofTry ok, q⟩
    | ret u => obtain ⟨v1, σ1, H1, J, r1, q⟩ := z; exact ⟨v1, σ1, H1, J.ofTry ok, r1, q⟩
    | brk => obtain ⟨σ1, H1, J, q⟩ := z; exact ⟨σ1, H1, J.ofTry ok, q⟩
    | cont => obtain ⟨σ1, H1, J, q⟩ := z; exact ⟨σ1, H1, J.ofTry ok, q⟩
  case grab =>
    obtain ⟨a, B, t0, pins1, σ1, H1, cls, d, rfl, J0, nb, up, sky, na, os, ag, hm1, hyes⟩ := z
    have J : Inv X pins σ1 H1 t0 := J0.ofTry ok
    have sky1 : Sky B (X.env :: X.outer) a (Zc cls d) X.env.locals t.heap := hs ▸ sky
    show wpAny (model X.prog X.w) X.A (noteFrame (.ref a) X.env) _ _ _
    refine Sky.land Zc.steady fr hf sky1 fun k3 fl3 up3 => ?_
    have J3 : Inv X pins σ1 H1 { t with heap := k3 } := J.landed nb fl3.1 (up.trans up3) os ag
    obtain ⟨o3, v3, g3, z3, d3⟩ := fl3.there
    have nfr : a ∉ frs (X.env :: X.outer) := fun hm => by
      obtain ⟨_, o, e, hnf⟩ := fl3.2.2.1.mem hm
      rw [g3] at e
      cases e
      exact hnf _ d3
    have nL : a ≠ X.env.locals := fun z => nfr (List.mem_filterMap.mpr ⟨X.env, List.mem_cons_self, hf.trans (congrArg some z.symm)⟩)
    have nF : a ∉ X.fs := fun hm => by
      obtain ⟨e, he, q⟩ := List.mem_filterMap.mp hm
      exact nfr (List.mem_filterMap.mpr ⟨e, List.mem_cons_of_mem _ he, q⟩)
    have gone : t0.heap.get? a = none := by
      cases e : t0.heap.get? a with
      | none => rfl
      | some o =>
        have z := nb a o e (by rw [hs]; exact nfr)
        rw [fl3.2.1] at z
        cases z
    have gone0 : X.s_0.heap.get? a = none := by
      cases e : X.s_0.heap.get? a with
      | none => rfl
      | some o =>
        obtain ⟨o1, z⟩ := J.base.there a o e (by rw [hex]; exact List.not_mem_nil)
        rw [gone] at z
        cases z
    have pinN : ∀ p ∈ X.pn ++ pins, p.1 ≠ a := fun p hp z => by
      have q := (J.pin p hp).1
      rw [z, gone] at q
      cases q
    have S3 := J3.suite g3 d3 na nL nF
    refine wpAny_handleBy_cons (codeAny_handlers_test ?_) (by intro q; cases q)
    have LT : PySem.W.Looks (model X.prog X.w) k3 (typeOf (.ref a)) cls := fun A Q E s k q => wpAny_typeOf_ref (k _ _ g3) (z3.1 ▸ q)
    have LM := PySem.W.exm_one (M := model X.prog X.w) J3.kIn LT hm1
    have test : ∀ {Q : Value → Shared → Prop} {E : Value → Shared → Prop}, Q c { t with heap := k3 } → wpAny (model X.prog X.w) (X.A.mark (some (.ref a))) (eval (.Name x np) X.env) Q E { t with heap := k3 } := fun {Q E} q => by
      rcases hc with ⟨hg, hdb, hm | ⟨hm, hv, hnn⟩⟩
      · exact ld_glob S3 hg hm q hdb
      · exact ld_blt S3 hg hm hv q hnn hdb
    refine test (LM.here ?_)
    refine codeAny_handlers_suite_as ?_
    refine HandSPX.lands_againZ fl3 fun k4 fl4 up4 => ?_
    have J4 : Inv X pins σ1 H1 { t with heap := k4 } := J.landed nb fl4.1 ((up.trans up3).trans up4) os ag
    obtain ⟨o4, v4, g4, z4, d4⟩ := fl4.there
    have S4 := J4.suite g4 d4 na nL nF
    refine store_ok (X := X.suite a ((a, o4) :: (X.pn ++ pins))) (v := .ref a) S4 hN hi lcl rfl (fun t5 S5 => ?_) (.inr hln)
    have hil : i < σ1.length := by
      have z := (List.getElem?_eq_some_iff.mp hi).1
      have e : σ1.length = X.N.length := S4.len
      omega
    have suite := pss_cons (ps_set (X := X.suite a ((a, o4) :: (X.pn ++ pins))) (pos := ap) (pos' := mp) hN hm hlm (pe_var (X := X.suite a ((a, o4) :: (X.pn ++ pins))) (pos := vp) hi (.inl hln) hd1 hd2) rfl hfm) pss_nil
    refine wpAny_mono (suite.run [] t5 _ H1 { nx := fun σ' H' => σ' = (σ1.set i (some (.ref a))).set y (some (.ref a)) ∧ H' = H1, rt := fun _ _ => False } S5 ⟨.ref a, by rw [List.getElem?_set_self hil], rfl, rfl⟩) (fun fl t6 z => ?_) fun _ _ z => z.elim
    cases fl with
    | next =>
      obtain ⟨σ6, H6, S6, e1, e2⟩ := z
      subst e1 e2
      obtain ⟨g6, n6, _⟩ := S6.pin (a, o4) (List.mem_append_left _ List.mem_cons_self)
      exact gone_ok (adopt (S6.unsuite ok) g6 z4 d4 n6 gone0 nL pinN) hN hi hln fun t7 J7 => ⟨_, _, J7, hyes a na⟩
    | ret u => obtain ⟨_, _, _, _, _, z⟩ := z; exact z.elim
    | brk => obtain ⟨_, _, _, z⟩ := z; exact z.elim
    | cont => obtain ⟨_, _, _, z⟩ := z; exact z.elim
end
/-! ### what the classes of errors say -/
/-- the classes of errors, as isinstance and except ask them -/
structure XcOk (w : Wo) : Prop where
  ex : ∀ c ∈ w.xc, ExcC w.K (w.ca c)
  em : ∀ c ∈ w.xc, PySem.W.exmOne w.K (.ref (w.ca c)) (.ref w.hu) = some true
  kh : ∀ c ∈ w.xc, PySem.W.kitOne w.K (.ref (w.ca c)) (.ref w.hu) = some true
  kv : ∀ c ∈ w.xc, PySem.W.kitOne w.K (.ref (w.ca c)) (.type "ValueError") = some true
  kk : ∀ c ∈ w.xc, ∀ c' ∈ w.xc, PySem.W.kitOne w.K (.ref (w.ca c)) (.ref (w.ca c')) = some (decide (c' = c))
  nh : ∀ k : Kd, PySem.W.kitOne w.K (.type (kdN k)) (.ref w.hu) = some false
  nk : ∀ k : Kd, ∀ c ∈ w.xc, PySem.W.kitOne w.K (.type (kdN k)) (.ref (w.ca c)) = some false
theorem kd_verr (k : Kd) : kitB (kdN k) "ValueError" = some false := by cases k <;> decide +kernel
/-- a class by its kind -/
def clsV (w : Wo) : Ty → L2.V
  | .own c => .ref (w.ca c)
  | .hue => .ref w.hu
  | _ => .ty "ValueError"
def clsU (w : Wo) : Ty → Value
  | .own c => .ref (w.ca c)
  | .hue => .ref w.hu
  | _ => .type "ValueError"
theorem cls_vu (w : Wo) (t : Ty) : ClsV (clsV w t) (clsU w t) := by
  cases t <;> first | exact .own _ | exact .ty _
def tyKnown (w : Wo) : Ty → Prop
  | .own c => c ∈ w.xc
  | .hue => True
  | .verr => True
  | _ => False
/-- the kind of a value, errors too -/
def TyE (K : PySem.W.Frag) (H : L2.Hp) (x : L2.V) (t : Value) : Prop := TyX K H x t ∨ ∃ D a, x = .ref a ∧ t = .ref D ∧ ExcC K D ∧ H a = some (ExK (.ref D) none a)
section
variable {X : Cx} {w : Wo} {f : L2.Hp} {r : List Addr} {G H : L2.Hp} {h : Hp}
theorem kit_e {pins : List (Addr × Obj)} {σ : Sg} {s : Shared} {x : L2.V} {u t : Value} (I : Inv X pins σ H s) (rx : RelV x u) (ty : TyE X.K H x t) : ∃ P : Heap → Prop, PySem.W.KitX X.K u t P ∧ P s.heap ∧ u ≠ .builtin "__main__.__loader__#opaque" := by
  rcases ty with ty | ⟨D, a, rfl, rfl, C, ha⟩
  · exact kit_of I rx ty
  · cases (show u = Value.ref a from rx)
    obtain ⟨⟨ob, vs, e, z, hd⟩, _⟩ := I.hok a _ ha
    have J : PySem.W.InstAt s.heap a ob D none := by
      obtain ⟨oc, od, oda, osl⟩ := ob
      obtain ⟨z1, z2⟩ := z
      dsimp only at z1 z2 hd
      subst z1 z2 hd
      exact ⟨e, rfl, rfl, trivial⟩
    exact ⟨_, PySem.W.handS_kitx_exc C.hg C.hk C.hs C.hd C.ha C.hn C.ht C.hm, J, fun z => nomatch z⟩
def rIsE1 (K : PySem.W.Frag) : List L2.V → L2.Hp → VK → Prop := fun xs H Q => ∃ (x c : L2.V) (t u : Value) (b : Bool), xs = [x, c] ∧ ClsV c u ∧ TyE K H x t ∧ PySem.W.kitOne K t u = some b ∧ Q (.bl b) H
def rIsEt (K : PySem.W.Frag) : List L2.V → L2.Hp → VK → Prop := fun xs H Q => ∃ (x : L2.V) (tp : Addr) (cs : List L2.V) (t : Value) (us : List Value) (b : Bool), xs = [x, .ref tp] ∧ H tp = some (.tup cs) ∧ Paired ClsV cs us ∧ TyE K H x t ∧ PySem.W.kitAny K t us = some b ∧ Q (.bl b) H
theorem call_isE1 : CallR X (.builtin "isinstance") (rIsE1 X.K) := fun pins s σ H xs us Q I r q => by
  obtain ⟨x, c, t, u, b, rfl, k, ty, e, q⟩ := q
  obtain ⟨v1, v2, rfl, r1, r2⟩ := vals2 r
  obtain ⟨P, Z, p, hx⟩ := kit_e I r1 ty
  rw [k.eq r2]
  exact PySem.W.kia_one Z I.kIn p e hx fun tk => ⟨.bl b, H, I.tok tk, rfl, q⟩
theorem call_isEt : CallR X (.builtin "isinstance") (rIsEt X.K) := fun pins s σ H xs us Q I r q => by
  obtain ⟨x, tp, cs, t, ws, b, rfl, hT, k, ty, e, q⟩ := q
  obtain ⟨v1, v2, rfl, r1, r2⟩ := vals2 r
  obtain ⟨P, Z, p, hx⟩ := kit_e I r1 ty
  cases (show v2 = Value.ref tp from r2)
  obtain ⟨_, its, rv, o, g1, g2, n, g3⟩ := (show ObjOk X.prog X.w H s.heap tp (.tup cs) from I.hok tp _ hT)
  have ei := ClsV.all k rv
  subst ei
  obtain ⟨oc, od, dt, sl⟩ := o
  simp only at g2 g3
  subst g2 g3
  exact PySem.W.kia_tup Z I.kIn p g1 e hx fun tk => ⟨.bl b, H, I.tok tk, rfl, q⟩
/-- any value before classes of errors -/
theorem kd_cls (xo : XcOk w) {v : V} {u : L2.V} {tys : List Ty} {Q : Bool → Prop} (S : Sim w f r G h H) (rv : Rv w r G v u) (q : isiP h v tys Q) (hb : ∀ t ∈ tys, tyKnown w t) :
    ∃ t b, TyE w.K H u t ∧ Q b ∧ PySem.W.kitAny w.K t (tys.map (clsU w)) = some b ∧ ∀ ty, tys = [ty] → PySem.W.kitOne w.K t (clsU w ty) = some b := by
  have plainK : ∀ (k : Kd) (ts : List Ty), (∀ t ∈ ts, tyKnown w t) → PySem.W.kitAny w.K (.type (kdN k)) (ts.map (clsU w)) = some false ∧ ∀ ty, ts = [ty] → PySem.W.kitOne w.K (.type (kdN k)) (clsU w ty) = some false := by
    intro k ts ht
    have one : ∀ t, tyKnown w t → PySem.W.kitOne w.K (.type (kdN k)) (clsU w t) = some false := fun t ht => by
      cases t with
      | own c => exact xo.nk k c ht
      | hue => exact xo.nh k
      | verr => exact kit_ty (kd_verr k)
      | _ => exact ht.elim
    refine ⟨?_, fun ty e => one ty (ht ty (by simp [e]))⟩
    induction ts with
    | nil => rfl
    | cons t ts ih => exact kitAny_cons (one t (ht t (by simp))) (fun _ => ih fun t hm => ht t (by simp [hm])) fun z => by cases z
  have plain : ∀ (k : Kd), TyX w.K H u (.type (kdN k)) → Q false → ∃ t b, TyE w.K H u t ∧ Q b ∧ PySem.W.kitAny w.K t (tys.map (clsU w)) = some b ∧ ∀ ty, tys = [ty] → PySem.W.kitOne w.K t (clsU w ty) = some b := fun k tx q => ⟨_, _, .inl tx, q, plainK k tys hb⟩
  have anyF : ∀ g : Ty → Bool, (∀ t, tyKnown w t → g t = false) → tys.any g = false := fun g hg => by
    rw [List.any_eq_false]
    intro t ht
    rw [hg t (hb t ht)]
    exact Bool.false_ne_true
  cases v with
  | d d =>
    replace q : Q (tys.any fun t => isTy h (.d d) t) := q
    rw [anyF _ fun t ht => by cases d <;> cases t <;> first | rfl | exact ht.elim] at q
    cases d with
    | none => have rv : u = .non := rv; subst rv; exact plain .non (.base .non) q
    | bool b => have rv : u = .bl b := rv; subst rv; exact plain .bl (.base (.bl b)) q
    | int b => have rv : u = .int b := rv; subst rv; exact plain .int (.base (.int b)) q
    | str b => have rv : u = .str b := rv; subst rv; exact plain .str (.base (.str b)) q
    | list b => obtain ⟨a, us, rfl, hq, _⟩ := rv; exact plain .lst (lq_ty (lqL_mono S.sub hq)) q
    | tuple b => obtain ⟨a, us, rfl, hq, _⟩ := rv; exact plain .tup (sq_ty (tqT_mono S.sub hq)) q
    | dict b => obtain ⟨a, t, us, rfl, hq, _⟩ := rv; exact plain .dic (dc_ty (hq.mono (S.sub a))) q
  | cell n =>
    obtain ⟨a, e1, rfl⟩ := rv
    unfold isiP at q
    cases eo : h[n]? with
    | none => simp only [eo] at q
    | some o =>
      have ob := S.ob n a o e1 eo
      cases o with
      | lst xs =>
        simp only [eo] at q
        rw [anyF _ fun t ht => by unfold isTy; simp only [eo]; cases t <;> first | rfl | exact ht.elim] at q
        obtain ⟨_, us, ha, _⟩ := ob
        exact plain .lst (.base (.lst ha)) q
      | lv xs =>
        simp only [eo] at q
        rw [anyF _ fun t ht => by unfold isTy; simp only [eo]; cases t <;> first | rfl | exact ht.elim] at q
        obtain ⟨_, us, ha, _⟩ := ob
        exact plain .lst (.base (.lst ha)) q
      | dct t kvs =>
        simp only [eo] at q
        rw [anyF _ fun t ht => by unfold isTy; simp only [eo]; cases t <;> first | rfl | exact ht.elim] at q
        obtain ⟨_, us, hd, _⟩ := ob
        exact plain .dic (dc_ty hd) q
      | ins _ _ => simp only [eo] at q
      | dead => simp only [eo] at q
  | vt xs =>
    have q : Q (tys.any fun t => isTy h (.vt xs) t) := q
    rw [anyF _ fun t ht => by cases t <;> first | rfl | exact ht.elim] at q
    obtain ⟨a, us, rfl, hq, _⟩ := rv
    exact plain .tup (sq_ty (tqT_mono S.sub hq)) q
  | fn _ => exact q.elim
  | exc c fs =>
    obtain ⟨⟨rfl, hall⟩, q⟩ := q
    clear hall
    obtain ⟨hc, a, d, rfl, g, xd⟩ := rv
    have xd : d = none := xd
    subst xd
    have one : ∀ t, tyKnown w t → PySem.W.kitOne w.K (.ref (w.ca c)) (clsU w t) = some (isTy h (.exc c []) t) := fun t ht => by
      cases t with
      | own c' =>
        have e : isTy h (.exc c []) (.own c') = decide (c' = c) := by
          unfold isTy
          by_cases z : c' = c
          · subst z; simp
          · simp [z]
        rw [e]
        exact xo.kk c hc c' ht
      | hue => exact xo.kh c hc
      | verr => exact xo.kv c hc
      | _ => exact ht.elim
    refine ⟨.ref (w.ca c), _, .inr ⟨w.ca c, a, rfl, rfl, xo.ex c hc, S.sub _ _ g⟩, q, ?_, fun ty e => ?_⟩
    · clear q plain anyF
      induction tys with
      | nil => rfl
      | cons t ts ih =>
        rw [List.any_cons]
        refine kitAny_cons (one t (hb t (by simp))) (fun z => ?_) fun z => by rw [z, Bool.true_or]
        rw [z, Bool.false_or]
        exact ih fun t hm => hb t (by simp [hm])
    · subst e
      rw [List.any_cons, List.any_nil, Bool.or_false]
      exact one ty (hb ty (by simp))
end
section
variable {X : Cx} {w : Wo} {F : Phi} {W : WX} {a e : Expr} {es : List Expr} {t : T} {pos : Pos}
/-- isinstance(a, C), C a class of errors -/
theorem se_isx1 {ty : Ty} {p : Pos} (hK : X.K = w.K) (xo : XcOk w) (hg : Gl X "isinstance") (hm : X.mg "isinstance" = none) (hty : tyKnown w ty) (hc : PE X e (tC (clsV w ty))) (hsc : ∀ x p, e ≠ .Starred x p)
    (ha : SE X w F W a t) (hs : ∀ x p, a ≠ .Starred x p) : SE X w F W (.Call (.Name "isinstance" p) [a, e] [] pos) (.isi t [ty]) := by
  refine pe_imp (pe_callB call_isE1 hg hm (by decide +kernel) (pa_cons ha (pa_cons hc pa_nil (nostar hsc)) (nostar hs)) (by decide) (by decide) (nostar hs) (noany (by intro e he x p hz; simp at he; subst he; exact hsc x p hz))) fun s H Q h => ?_
  obtain ⟨f, r, G, env, h, P, Xp, S, E, wp, q, qx⟩ := h
  refine ⟨f, r, G, env, h, _, Xp, S, E, wp, fun v h1 u r1 G1 H1 w1 e1 S1 rv => ?_, qx⟩
  obtain ⟨tt, b, tx, w2, _, k1⟩ := kd_cls xo S1 rv w1 (by simpa using hty)
  exact ⟨u, clsV w ty, tt, clsU w ty, b, rfl, cls_vu w ty, by rw [hK]; exact tx, by rw [hK]; exact k1 ty rfl, q _ h1 (.bl b) r1 G1 H1 w2 e1 S1 rfl⟩
/-- names of classes, one by one -/
inductive ClsEs (X : Cx) (w : Wo) : List Expr → List Ty → Prop where
  | nil : ClsEs X w [] []
  | cons {e : Expr} {es : List Expr} {ty : Ty} {tys : List Ty} (h : PE X e (tC (clsV w ty))) (hs : ∀ x p, e ≠ .Starred x p) (r : ClsEs X w es tys) : ClsEs X w (e :: es) (ty :: tys)
theorem ClsEs.pa {tys : List Ty} (h : ClsEs X w es tys) : PA X es (fun _ H Q => Q (tys.map (clsV w)) H) := by
  induction h with
  | nil => exact pa_imp pa_nil fun s H Q h => h
  | cons h hs _ ih => exact pa_imp (pa_cons h ih (nostar hs)) fun s H Q q => q
theorem cls_paired (w : Wo) : ∀ tys : List Ty, Paired ClsV (tys.map (clsV w)) (tys.map (clsU w))
  | [] => .nil
  | t :: ts => .cons (cls_vu w t) (cls_paired w ts)
/-- isinstance(a, (C, D, ..)) -/
theorem se_isxt {tys : List Ty} {p tp : Pos} {k : Nat} (hK : X.K = w.K) (xo : XcOk w) (hg : Gl X "isinstance") (hm : X.mg "isinstance" = none) (hty : ∀ t ∈ tys, tyKnown w t) (hl : tys.length ≤ 100) (hc : ClsEs X w es tys)
    (ha : SE X w F W a t) (hs : ∀ x p, a ≠ .Starred x p) : SE X w F W (.Call (.Name "isinstance" p) [a, .Tuple es k tp] [] pos) (.isi t tys) := by
  have nt : ∀ x p, Expr.Tuple es k tp ≠ .Starred x p := by intro x p z; cases z
  refine pe_imp (pe_callB call_isEt hg hm (by decide +kernel) (pa_cons ha (pa_cons (pe_tup hc.pa) pa_nil (nostar nt)) (nostar hs)) (by decide) (by decide) (nostar hs) (noany (by intro e he x p hz; simp at he; subst he; exact nt x p hz))) fun s H Q h => ?_
  obtain ⟨f, r, G, env, h, P, Xp, S, E, wp, q, qx⟩ := h
  refine ⟨f, r, G, env, h, _, Xp, S, E, wp, fun v h1 u r1 G1 H1 w1 e1 S1 rv => ?_, qx⟩
  refine ⟨by rw [List.length_map, big_eq]; unfold big; omega, fun pt hpt => ?_⟩
  obtain ⟨S2, e2⟩ := S1.lay hpt (.tup (tys.map (clsV w)))
  obtain ⟨tt, b, tx, w2, k1, _⟩ := kd_cls xo S2 (Rv.mono e2 _ _ rv) w1 hty
  exact ⟨u, pt, tys.map (clsV w), tt, tys.map (clsU w), b, rfl, upd_same, cls_paired w tys, by rw [hK]; exact tx, by rw [hK]; exact k1, q _ h1 (.bl b) r1 _ _ w2 (e1.trans e2) S2 rfl⟩
/-- raise C('..') -/
theorem ss_rai {c : Nat} {x m : Str} {j : Nat} {p p2 pos2 : Pos} (hK : X.K = w.K) (hcalm : X.calm = true) (tk : Takes X W) (hc : c ∈ w.xc) (hq : PySem.W.excIn w.K (w.ca c) He.veBase "ValueError.__new__" = true) (gC : X.mg x = some (.ref (w.ca c))) (kC : PySem.W.keepIn w.K (.ref (w.ca c)) = true)
    (h1 : PySem.W.subIn w.K (.ref (w.ca c)) (.type "BaseException") = some true) (h2 : PySem.W.typeIn w.K (.ref (w.ca c)) = some (.type "type")) (hg : Gl X x) (hdb : (x == ("__debug__" : Str)) = false) :
    SS X w F W (.Raise (some (.Call (.Name x p) [.Constant (.str m) j p2] [] pos2)) none pos) (.rai c) := by
  refine ps_imp (ps_raise hcalm tk (pmk_own PySem.F.excBase_ValueError (by rw [hK]; exact hq) gC (by rw [hK]; exact kC) (raises_own (by rw [hK]; exact h1) (by rw [hK]; exact h2)) hg hdb)) fun D s H h => ?_
  obtain ⟨f, r, G, env, h, n, k, S, E, wp, q⟩ := h
  exact q.xe (.exc c []) env h s r G H _ none wp Ext.refl S E ⟨rfl, hc, rfl⟩
/-- try: body, except HueError as n: m = n -/
theorem ss_try {i y : Nat} {x n m : Str} {body : List Stmt} {np mp vp ap hp : Pos} (hK : X.K = w.K) (xo : XcOk w) (hs : X.stack = X.env :: X.outer) (hf : X.env.frame = some X.env.locals) (hex : X.ex = []) (hN : X.N.Nodup) (hi : X.N[i]? = some n) (hln : X.env.kindOf n = some .local)
    (hc : Names X x (.ref w.hu)) (hm : X.N[y]? = some m) (hlm : Loc X.env.scope m) (hfm : X.fn m = true ∨ X.env.scope.names.lookup m = some .local) (hd1 : (n == ("__debug__" : Str)) = false) (hd2 : (n == ("__classdict__" : Str)) = false)
    (hb : ∀ (W : WX) (pn : List (Addr × Obj)) (xe : Value → Shared → Prop), Takes (X.tr pn xe) W → PassesOwn (model X.prog X.w) X.A X.env xe → SSs (X.tr pn xe) w F W body t) :
    SS X w F W (.Try body [.ExceptHandler (some (.Name x np)) (some n) [.Assign [.Name m mp] (.Name n vp) ap] hp] [] [] pos) (.try_ t i y) := by
  refine ps_imp (ps_try_keep (tb := fun W => rdSs w F W t) hs hf hex hN hi hln hc hm hlm hfm hd1 hd2 hb) fun D s H h => ?_
  obtain ⟨f, r, G, env, h, n, k, S, E, wp, q⟩ := h
  refine ⟨f, r, G, env, h, _, _, S, E, wp, q.nx, q.rt, q.bk, q.ct, fun v env1 h1 s1 r1 G1 H1 c d p e1 S1 E1 x => ?_⟩
  cases v with
  | exc k fs =>
    obtain ⟨rfl, hk, xd⟩ := x
    refine ⟨by rw [hK]; exact xo.em k hk, fun a ha => ?_⟩
    obtain ⟨S2, e2⟩ := S1.lay ha (ExK (.ref (w.ca k)) d a) (fun b z => nomatch z)
    have E2 := E1.mono e2
    exact q.nx _ h1 _ r1 _ _ p (e1.trans e2) S2 (((E2.forget i (some (.ref a))).set (v := .exc k fs) (u := .ref a) ⟨hk, a, d, rfl, upd_same, xd.mono e2.sub⟩ y).forget i none)
  | _ => exact x.elim
end
end Hb

/-! EXT: sorted(set(pairs)), x.index(n) of a list. -/
namespace Hb
open PySem PySem.Spec PyProof.Rows
open L2 hiding V Hp St
set_option autoImplicit false
theorem nubP_mem : ∀ {l : List (Int × Int)} {x : Int × Int}, x ∈ nubP l ↔ x ∈ l
  | [], _ => Iff.rfl
  | y :: l, x => by
    unfold nubP
    by_cases h : y ∈ l
    · rw [if_pos h, nubP_mem, List.mem_cons]
      exact ⟨.inr, fun z => z.elim (fun e => e ▸ h) id⟩
    · rw [if_neg h, List.mem_cons, List.mem_cons, nubP_mem]
theorem nubP_nodup : ∀ l : List (Int × Int), (nubP l).Nodup
  | [] => List.nodup_nil
  | y :: l => by
    unfold nubP
    by_cases h : y ∈ l
    · rw [if_pos h]; exact nubP_nodup l
    · rw [if_neg h, List.nodup_cons, nubP_mem]; exact ⟨h, nubP_nodup l⟩
theorem perm_of_mem {l l' : List (Int × Int)} (h : l.Nodup) (h' : l'.Nodup) (e : ∀ x, x ∈ l ↔ x ∈ l') : l.Perm l' := (List.perm_ext_iff_of_nodup h h').mpr e
section
variable {X : Cx} {w : Wo} {F : Phi} {W : WX} {a : Expr} {t t1 t2 : T} {p p2 p3 pos : Pos}
/-- pairs by their objects -/
theorem prs_ks {K : PySem.W.Frag} {G : L2.Hp} : ∀ {ps : List (Int × Int)} {us : List L2.V}, RpAll K G (ps.map prD) us → ∃ ks : List (Addr × List Int), us = ks.map (fun q => L2.V.ref q.1) ∧ ks.map (·.2) = ps.map (fun q => [q.1, q.2]) ∧ ∀ q ∈ ks, G q.1 = some (.tup (q.2.map L2.V.int))
  | [], us, h => by have h : us = [] := h; subst h; exact ⟨[], rfl, rfl, fun q hq => by cases hq⟩
  | x :: ps, us, h => by
    obtain ⟨v, vs, rfl, h1, h2⟩ := h
    obtain ⟨ks, rfl, e2, e3⟩ := prs_ks h2
    obtain ⟨b, zs, rfl, hb, hz⟩ := h1
    have hz : zs = [L2.V.int x.1, L2.V.int x.2] := by
      obtain ⟨v1, w1, rfl, r1, hz⟩ := hz
      obtain ⟨v2, w2, rfl, r2, hz⟩ := hz
      have hz : w2 = [] := hz
      have r1 : v1 = .int x.1 := r1
      have r2 : v2 = .int x.2 := r2
      rw [hz, r1, r2]
    subst hz
    refine ⟨(b, [x.1, x.2]) :: ks, rfl, by rw [List.map_cons, List.map_cons, e2], fun q hq => ?_⟩
    rcases List.mem_cons.mp hq with rfl | hq
    · exact hb
    · exact e3 q hq
def prL : List Int → Int × Int
  | [x, y] => (x, y)
  | _ => (0, 0)
theorem prL_all {G : L2.Hp} {K : PySem.W.Frag} : ∀ {L : List (Addr × List Int)}, (∀ q ∈ L, G q.1 = some (.tup (q.2.map L2.V.int)) ∧ ∃ x y : Int, q.2 = [x, y]) → RpAll K G ((L.map fun q => prL q.2).map prD) (L.map fun q => L2.V.ref q.1)
  | [], _ => rfl
  | q :: L, h => by
    obtain ⟨h1, x, y, e⟩ := h q (by simp)
    rw [e] at h1
    refine ⟨_, _, rfl, ?_, prL_all fun q hq => h q (by simp [hq])⟩
    show Rp K G (prD (prL q.2)) (.ref q.1)
    rw [e]
    exact ⟨q.1, _, rfl, h1, ⟨_, _, rfl, rfl, _, _, rfl, rfl, rfl⟩⟩
theorem code_lex {x y : Int × Int} (h : TS.code 64 [x.1, x.2] ≤ TS.code 64 [y.1, y.2]) (b1 : (0 ≤ x.1 ∧ x.1 < 64) ∧ 0 ≤ x.2 ∧ x.2 < 64) (b2 : (0 ≤ y.1 ∧ y.1 < 64) ∧ 0 ≤ y.2 ∧ y.2 < 64) : lexP y x = false := by
  rw [code_pair, code_pair] at h
  rw [lexP_no]
  omega
theorem se_sset (hK : X.K = w.K) (hc : X.calm = true) (hu : X.A.units + 65 < cLine) (hg : Gl X "sorted") (hm : X.mg "sorted" = none) (hg2 : Gl X "set") (hm2 : X.mg "set" = none) (ha : SE X w F W a t) (hs : ∀ x p, a ≠ .Starred x p) :
    SE X w F W (.Call (.Name "sorted" p) [.Call (.Name "set" p2) [a] [] p3] [] pos) (.o1 .sset t) := by
  have nt : ∀ x q, Expr.Call (.Name "set" p2) [a] [] p3 ≠ .Starred x q := fun x q z => nomatch z
  refine pe_imp (pe_callB (cr_sortedT hc) hg hm (by decide +kernel) (pa_cons (pe_callTy (cr_setOfT hc (by omega)) hg2 hm2 (by decide +kernel) (pa_cons ha pa_nil (nostar hs)) (by decide) (by decide) (nostar hs) rfl) pa_nil (nostar nt)) (by decide) (by decide) (nostar nt) rfl) fun s H Q h => ?_
  refine rd_mono (fun x H1 h => ?_) (rd_o1 h)
  obtain ⟨f, r, G, h0, v, P, S, rv, wp, q⟩ := h
  have wp : optP (rdV h0 v) fun a => op1 .sset a fun z => P (.d z) := wp
  obtain ⟨d, ed, wp⟩ := optP_of wp
  have rt := S.read rv ed
  cases d with
  | list ds =>
    obtain ⟨l, us, rfl, hl, tt⟩ := rt
    obtain ⟨ps, ep, ⟨hlen, hbd⟩, wp2⟩ := optP_of wp
    clear wp
    have := asPrs_map ep
    subst this
    obtain ⟨ks, rfl, e2, e3⟩ := prs_ks tt
    have kp : ∀ q ∈ ks, ∃ x ∈ ps, q.2 = [x.1, x.2] := fun q hq => by
      have : q.2 ∈ ks.map (·.2) := List.mem_map.mpr ⟨q, hq, rfl⟩
      rw [e2] at this
      obtain ⟨x, hx, e⟩ := List.mem_map.mp this
      exact ⟨x, hx, e.symm⟩
    refine ⟨l, ks, rfl, by rw [hK]; exact hl.sq, fun q hq => tqT_mono S.sub (e3 q hq), by have := congrArg List.length e2; rw [List.length_map, List.length_map] at this; omega, fun b L hb hsub hall => ?_⟩
    have S2 := S.other hb (SetTO X.prog X.w b L)
    have gL : ∀ q ∈ L, G q.1 = some (.tup (q.2.map L2.V.int)) := fun q hq => e3 q (hsub q hq)
    refine ⟨b, L, 2, 64, rfl, upd_same, fun q hq => tqT_mono S2.sub (gL q hq), by decide, fun q hq => ?_, fun L' p pm nd few pw hp => ?_⟩
    · obtain ⟨x, hx, e⟩ := kp q (hsub q hq)
      obtain ⟨⟨b1, b2⟩, b3, b4⟩ := hbd x hx
      rw [e]
      refine ⟨rfl, fun n hn => ?_⟩
      simp only [List.mem_cons, List.not_mem_nil, or_false] at hn
      rcases hn with rfl | rfl
      · exact ⟨b1, b2⟩
      · exact ⟨b3, b4⟩
    · have inL : ∀ q ∈ L', q ∈ ks := fun q hq => hsub q (pm.subset hq)
      have eq : (L'.map fun q => prL q.2) = sortP (nubP ps) := by
        have back : ∀ q ∈ L', q.2 = [(prL q.2).1, (prL q.2).2] ∧ prL q.2 ∈ ps := fun q hq => by
          obtain ⟨x, hx, e⟩ := kp q (inL q hq)
          rw [e]
          exact ⟨rfl, hx⟩
        refine srP_uniq ?_ ?_ (sortP_sorted _)
        · refine List.Perm.trans (perm_of_mem ?_ (nubP_nodup ps) fun x => ?_) (sortP_perm _).symm
          · rw [List.nodup_iff_pairwise_ne, List.pairwise_map]
            have nd2 := List.pairwise_map.mp (List.nodup_iff_pairwise_ne.mp nd)
            refine List.Pairwise.imp_of_mem (fun {q1 q2} m1 m2 hne z => ?_) nd2
            rw [(back q1 m1).1, (back q2 m2).1, z] at hne
            exact hne rfl
          · rw [nubP_mem]
            constructor
            · intro hx
              obtain ⟨q, hq, rfl⟩ := List.mem_map.mp hx
              exact (back q hq).2
            · intro hx
              have : [x.1, x.2] ∈ ks.map (·.2) := by rw [e2]; exact List.mem_map.mpr ⟨x, hx, rfl⟩
              obtain ⟨k, hk, e⟩ := List.mem_map.mp this
              obtain ⟨q, hq, e'⟩ := List.mem_map.mp (hall k hk)
              refine List.mem_map.mpr ⟨q, pm.symm.subset hq, ?_⟩
              rw [e', e]
              rfl
        · unfold SrP
          rw [List.pairwise_map]
          refine List.Pairwise.imp_of_mem (fun {q1 q2} m1 m2 hle => ?_) pw
          obtain ⟨c1, c2⟩ := back q1 m1
          obtain ⟨c3, c4⟩ := back q2 m2
          rw [c1, c3] at hle
          exact code_lex hle (hbd _ c2) (hbd _ c4)
      have wp : P (.d (.list ((sortP (nubP ps)).map prD))) := wp2
      rw [← eq] at wp
      obtain ⟨S3, e4⟩ := S2.lay hp (.lst (L'.map fun q => L2.V.ref q.1))
      refine q _ _ r _ _ wp e4 S3 ⟨p, _, rfl, .inl (.inl upd_same), ?_⟩
      refine RpAll.mono e4.sub _ _ (prL_all fun q hq => ?_)
      obtain ⟨x, hx, e⟩ := kp q (inL q hq)
      exact ⟨gL q (pm.subset hq), x.1, x.2, e⟩
  | _ => exact wp.elim
/-! ### index -/
theorem ixI_some : ∀ {ns : List Int} {i : Int} {k : Nat}, ixI i ns = some k → ns[k]? = some i ∧ ∀ m : Nat, m < k → ns[m]? ≠ some i
  | [], _, _, h => by cases h
  | x :: ns, i, k, h => by
    unfold ixI at h
    by_cases e : x = i
    · rw [if_pos e] at h
      cases h
      exact ⟨by rw [e]; rfl, fun m hm => absurd hm (Nat.not_lt_zero _)⟩
    · rw [if_neg e] at h
      obtain ⟨j, hj, rfl⟩ := Option.map_eq_some_iff.mp h
      obtain ⟨h1, h2⟩ := ixI_some hj
      refine ⟨h1, fun m hm => ?_⟩
      cases m with
      | zero => intro z; exact e (Option.some.inj z)
      | succ m => exact h2 m (by omega)
theorem flat_ints' (ns : List Int) : (ns.map L2.V.int).all flatV = true := by
  rw [List.all_map]
  exact List.all_eq_true.mpr fun _ _ => rfl
theorem se_ixof {e oe : Expr} {name : Str} {apos cpos : Pos} (hK : X.K = w.K) (hn : name = "index") (ho : SE X w F W oe t1) (hb : plainBase oe = true) (hl : (apos.endLine == cpos.line) = true) (he : SE X w F W e t2) (hs : ∀ x p, e ≠ .Starred x p) :
    SE X w F W (.Call (.Attribute oe name apos) [e] [] cpos) (.ixof false t1 t2) := by
  subst hn
  refine pe_imp (pe_bm PySem.F.plainAttrs_list PySem.F.slot_list_index (by rfl) mt_index ho (pa_cons he pa_nil (nostar hs)) (base_eq hb) (few_ok (by intro y hy; simp at hy; subst hy; exact hs) (by show 1 < 30; decide)) hl (nostar hs) rfl) fun s H Q h => ?_
  obtain ⟨f, r, G, env, h, P, Xp, S, E, wp, q, qx⟩ := h
  refine ⟨f, r, G, env, h, _, Xp, S, E, wp, fun v h1 u r1 G1 H1 w1 e1 S1 rv => ?_, qx⟩
  have key : (∃ a us, u = .ref a ∧ LqL w.K H1 a us) ∧ WE F t2 env h1 (fun y h2 => optP (rdV h2 v) fun x => optP (rdV h2 y) fun z => ixP x z fun r => P (.d r) h2) Xp ∧ ∀ (h2 : Hp) (xs : List D), rdV h2 v ≠ some (.tuple xs) := by
    cases v with
    | d d =>
      cases d with
      | list ds => obtain ⟨a, us, rfl, hq, _⟩ := rv; exact ⟨⟨a, us, rfl, lqL_mono S1.sub hq⟩, w1, fun h2 xs z => by cases z⟩
      | _ => exact w1.elim
    | cell n =>
      obtain ⟨a, er, rfl⟩ := rv
      have w1 : (match h1[n]? with
        | some (.lst _) => WE F t2 env h1 (fun y h2 => optP (rdV h2 (.cell n)) fun x => optP (rdV h2 y) fun z => ixP x z fun r => P (.d r) h2) Xp
        | _ => False) := w1
      cases eo : h1[n]? with
      | none => rw [eo] at w1; exact w1.elim
      | some o =>
        rw [eo] at w1
        cases o with
        | lst xs => obtain ⟨_, us, ha, _⟩ := S1.ob n a _ er eo; refine ⟨⟨a, us, rfl, .inl (.inl ha)⟩, w1, fun h2 ys z => ?_⟩; unfold rdV at z; cases e3 : h2[n]? with | none => simp only [e3] at z; cases z | some o => cases o <;> (simp only [e3] at z; cases z)
        | _ => exact w1.elim
    | _ => exact w1.elim
  obtain ⟨⟨a, us, rfl, hq⟩, w1, notT⟩ := key
  refine ⟨.inl ⟨rfl, us, by rw [hK]; exact hq.sq⟩, f, r1, G1, env, h1, _, Xp, S1, E.mono e1, w1, fun y h2 u2 r2 G2 H2 w2 e2 S2 rv2 => ?_, qx.mono e1⟩
  obtain ⟨x, ex, w2⟩ := optP_of w2
  obtain ⟨z, ez, w2⟩ := optP_of w2
  have rx := S2.read (Rv.mono e2 _ _ rv) ex
  have rz := S2.read rv2 ez
  cases x with
  | list ds =>
    obtain ⟨a', us', e0, hq', tt⟩ := rx
    cases e0
    obtain ⟨ns, en, w2⟩ := optP_of w2
    have := lst_ints tt en
    subst this
    cases z with
    | int i =>
      obtain ⟨k, ek, w2⟩ := optP_of w2
      have rz : u2 = .int i := rz
      subst rz
      obtain ⟨k1, k2⟩ := ixI_some ek
      refine ⟨a, ns.map L2.V.int, .int i, k, .int i, rfl, rfl, by rw [hK]; exact hq'.sq, rfl, flat_ints' ns, by rw [List.getElem?_map, k1]; rfl, ?_, fun m z' hm hz => ?_, q _ h2 _ r2 G2 H2 w2 (e1.trans e2) S2 rfl⟩
      · show (i == i) = true
        exact beq_self_eq_true i
      · rw [List.getElem?_map] at hz
        obtain ⟨n, en, rfl⟩ := Option.map_eq_some_iff.mp hz
        show (n == i) = false
        rw [beq_eq_false_iff_ne]
        exact fun z => k2 m hm (z ▸ en)
    | _ => exact w2.elim
  | tuple ds => exact absurd ex (notT h2 ds)
  | _ => exact w2.elim
theorem se_orl {b : Expr} {rest : List Expr} (hK : X.K = w.K) (ha : SE X w F W a t1) (hb : SE X w F W (.BoolOp .Or (b :: rest) pos) t2) : SE X w F W (.BoolOp .Or (a :: b :: rest) pos) (.orl t1 t2) := pe_imp (L2.pe_orT ha hb) fun s H Q h => by
  obtain ⟨f, r, G, env, h, P, Xp, S, E, wp, q, qx⟩ := h
  refine ⟨f, r, G, env, h, _, Xp, S, E, wp, fun v h1 u r1 G1 H1 p e1 S1 rv => ?_, qx⟩
  cases v with
  | d x =>
    cases x with
    | list xs =>
      have rt := S1.read rv (show rdV h1 (.d (.list xs)) = some (.list xs) from rfl)
      have rv0 := rv
      obtain ⟨l, us, rfl, hl, tt⟩ := rt
      have el : xs.isEmpty = us.isEmpty := by
        cases xs with
        | nil =>
          have tt : us = [] := tt
          rw [tt]
          rfl
        | cons y ys =>
          obtain ⟨u, us', rfl, _⟩ := tt
          rfl
      refine ⟨!xs.isEmpty, .inl ⟨us, by rw [hK]; exact hl.sq, by rw [el]⟩, ?_⟩
      have p : (match !xs.isEmpty with | true => P (.d (.list xs)) h1 | false => WE F t2 env h1 P Xp) := p
      cases ee : (!xs.isEmpty) with
      | false =>
        rw [ee] at p
        rw [if_neg Bool.false_ne_true]
        exact ⟨f, r1, G1, env, h1, _, Xp, S1, E.mono e1, p, q.mono e1, qx.mono e1⟩
      | true =>
        rw [ee] at p
        rw [if_pos rfl]
        exact q _ h1 _ r1 G1 H1 p e1 S1 rv0
    | _ => exact p.elim
  | _ => exact p.elim
end
end Hb

/-! RPR: repr of data, where no object's repr is under way. -/
namespace Hb
open PySem PySem.Spec PyProof.Rows
open L2 hiding V Hp St
set_option autoImplicit false
section
variable {X : Cx} {pins : List (Addr × Obj)} {σ : Sg} {H : L2.Hp} {s : Shared}
/-- the empty dict is read -/
theorem reads_dct0 (I : Inv X pins σ H s) {a : Addr} {t : Bool} (h : DcA H t a [] []) : Reads s.heap (.ref a) (.dict []) [a] ∧ sysModules ≠ a := by
  cases t with
  | false =>
    obtain ⟨kus, e, z, _⟩ := h
    have : kus = [] := by cases kus with | nil => rfl | cons _ _ => cases z
    subst this
    obtain ⟨_, hs, vs, kv, o, es, ep, g, ex, hd, ko, pr, _⟩ := I.hok a _ e
    cases kv
    have e0 : es.toList = [] := by cases hx : es.toList with | nil => rfl | cons _ _ => rw [hx] at pr; cases pr
    refine ⟨?_, fun z => by subst z; simp at hs⟩
    refine Reads.dict (as := []) (bs := []) g ex.1 hd ?_ ?_
    · rw [e0]; exact .nil
    · rw [e0]; exact .nil
  | true =>
    obtain ⟨kus, e, z, _⟩ := h
    have : kus = [] := by cases kus with | nil => rfl | cons _ _ => cases z
    subst this
    obtain ⟨_, hs, xs, pr, o, es, ep, g, ex, hd, he, hn⟩ := I.hok a _ e
    cases pr
    refine ⟨?_, fun z => by subst z; simp at hs⟩
    refine Reads.dict (as := []) (bs := []) g ex.1 hd ?_ ?_
    · rw [he]; exact .nil
    · rw [he]; exact .nil
/-- repr(x) -/
theorem k_repr (hu : X.A.units + 210 < cLine) (hg : X.A.guards = some []) : CallR X (.builtin "repr") (rC1 (rD1 X.K (op1 .repr))) := c1_of fun pins s σ H x v Q I rx ⟨G, d, P, sb, r, wp, q1, q2⟩ => by
  obtain ⟨⟨ok, hs, hd, hz⟩, wp⟩ := wp
  have hz' : (PyData.shown d).length ≤ sizeLine := by rw [big_eq]; exact hz
  have deep : ∀ {a : Addr} {as : List Addr}, v = .ref a → Reads s.heap (.ref a) d as → (PyData.hasDict d = true → sysModules ∉ as) → wpAny (model X.prog X.w) X.A (call (.builtin "repr") [v]) (EP X pins σ Q) X.xe s := fun {a as} e rd hm => by
    subst e
    exact PySem.repr_of_reads' rd hs hm hg (by omega) (fun _ _ e => e) (fun h' u tk k => ⟨.str _, H, I.kept k, ⟨_, rfl⟩, q1 _ _ wp rfl⟩) hz'
  rcases ok with rfl | ok
  · obtain ⟨a, t, us, rfl, h1, h2⟩ := r
    have h2 : us = [] := h2
    subst h2
    obtain ⟨rd, ne⟩ := reads_dct0 I h1
    exact deep rx rd fun _ hm => ne (List.mem_singleton.mp hm)
  · have nod := PyData.hasDict_of_canLay d ok
    have dp : Dp X.K H x d := by
      cases d with
      | list ds => obtain ⟨a, xs, rfl, q, t⟩ := r; exact .lst q.sq (RpAll.dp ds xs (RpAll.mono sb _ _ t) ok)
      | dict ds => cases ok
      | _ => exact Rp.dp _ _ (Rp.mono sb _ _ r) ok
    obtain ⟨as, rd⟩ := Dp.reads I d x v dp rx
    cases d with
    | none =>
      cases rd
      exact PySem.P.repr_of_none ⟨.str _, H, I.tok _, ⟨_, rfl⟩, q1 _ _ wp rfl⟩
    | bool b =>
      cases rd
      exact PySem.P.repr_of_bool ⟨.str _, H, I.tok _, ⟨_, by cases b <;> rfl⟩, q1 _ _ wp rfl⟩
    | int i =>
      cases rd
      exact PySem.P.repr_of_int (of_decide_eq_true hs) ⟨.str _, H, I.tok _, ⟨_, rfl⟩, q1 _ _ wp rfl⟩
    | str z =>
      cases rd
      exact PySem.P.repr_of_str ⟨.str _, H, I.tok _, ⟨_, rfl⟩, q1 _ _ wp rfl⟩ hz'
    | list ds => cases rd with | list g c dd al => exact deep rfl (.list g c dd al) (PyData.noDict_hsm nod)
    | tuple ds => cases rd with | tuple g c dd al => exact deep rfl (.tuple g c dd al) (PyData.noDict_hsm nod)
    | dict ds => cases ok
end
end Hb

/-! DC2: {k: v for t0 in i0 for t1 in i1}. -/
namespace Hb
open PySem PySem.Spec PyProof.Rows
open L2 hiding V Hp St
set_option autoImplicit false
/-- such an expression -/
abbrev dcE (kx vx t0 i0 t1 i1 : Expr) (scope : Scope) (pos : Pos) : Expr := .DictComp kx vx [⟨t0, i0, [], 0⟩, ⟨t1, i1, [], 0⟩] scope pos
theorem turnD_out (kx vx t0 i0 t1 i1 : Expr) (scope : Scope) (pos : Pos) (it acc : Value) (env : PySem.Env) : compTurn (dcE kx vx t0 i0 t1 i1 scope pos) 0 it acc env = (do
    standAt i0.pos
    match ← pyNext it with
    | none => pure (.done .next)
    | some v =>
      letOwnedTupleGo t0 it v
      assign t0 env v
      let mut ok := true
      for c in ([] : List Expr) do
        if ok then ok ← isTrue c env (eval c env)
      if ok then
        let x ← eval i1 env
        standAt i1.pos
        let x ← foldedSetIterable i1 env x
        let _ ← runOwn (.compStart (dcE kx vx t0 i0 t1 i1 scope pos) 1 (← holding [x] (pyIter x)) acc env) env
      again (.compLoop (dcE kx vx t0 i0 t1 i1 scope pos) 0 it acc env)) := by rfl
theorem turnD_in (kx vx t0 i0 t1 i1 : Expr) (scope : Scope) (pos : Pos) (it : Value) (D : Addr) (env : PySem.Env) : compTurn (dcE kx vx t0 i0 t1 i1 scope pos) 1 it (.ref D) env = (do
    standAt i1.pos
    match ← pyNext it with
    | none => pure (.done .next)
    | some v =>
      letOwnedTupleGo t1 it v
      assign t1 env v
      let mut ok := true
      for c in ([] : List Expr) do
        if ok then ok ← isTrue c env (eval c env)
      if ok then
        (do
          let kv ← eval kx env
          let vv ← holding [kv] (eval vx env)
          standAt { kx.pos with endLine := vx.pos.endLine, endCol := vx.pos.endCol }
          holding [kv, vv] (dictSet D kv vv))
      again (.compLoop (dcE kx vx t0 i0 t1 i1 scope pos) 1 it (.ref D) env)) := by rfl
section
variable {prog : Program} {ww : World} {A : Around} {R : Result → Shared → Prop} {s : Shared} {kx vx t0 i0 t1 i1 : Expr} {scope : Scope} {pos : Pos} {it acc : Value} {D : Addr} {env : PySem.Env}
/-- the outer loop, turn by turn -/
theorem loopD_out (hs : ∀ x, foldedSetIterable i1 env x = pure x) (I : Nat → Shared → Prop)
    (turn : ∀ n s, I n s → wpAny (model prog ww) A (pyNext it) (fun r s1 => match r with
      | none => R (.ok .next) s1
      | some v => wpAny (model prog ww) A (letOwnedTupleGo t0 it v) (fun _ s2 => wpAny (model prog ww) A (assign t0 env v) (fun _ s3 =>
          wpAny (model prog ww) A (eval i1 env) (fun x s4 => wpAny (model prog ww) A (pyIter x) (fun it1 s5 =>
            codeAny (model prog ww) A (.compStart (dcE kx vx t0 i0 t1 i1 scope pos) 1 it1 acc env) (fun r s' => match r with
              | .ok _ => ∃ m, m < n ∧ I m s'
              | .error _ => False) s5) (notedBy (model prog ww) A env fun e s' => R (.error e) s') s4)
          (notedBy (model prog ww) A env fun e s' => R (.error e) s') s3) (notedBy (model prog ww) A env fun e s' => R (.error e) s') s2) (notedBy (model prog ww) A env fun e s' => R (.error e) s') s1) (notedBy (model prog ww) A env fun e s' => R (.error e) s') s)
    (n : Nat) (h : I n s) : codeAny (model prog ww) A (.compLoop (dcE kx vx t0 i0 t1 i1 scope pos) 0 it acc env) R s := by
  refine codeAny_loop rfl I (fun n s hI => ?_) n h
  show wpAny _ A ((compTurn (dcE kx vx t0 i0 t1 i1 scope pos) 0 it acc env).onRaise (fun x => do noteFrame x env; theTreesLotGoes x)) _ _ s
  refine wpAny_noted ?_
  rw [turnD_out]
  refine wpAny_bind (wpAny_standAt (wpAny_bind (wpAny_mono (turn n s hI) (fun r s1 h1 => ?_) fun _ _ z => z)))
  cases r with
  | none => exact wpAny_pure h1
  | some v =>
    refine wpAny_bind (wpAny_mono h1 (fun _ s2 h2 => wpAny_bind (wpAny_mono h2 (fun _ s3 h3 => ?_) fun _ _ z => z)) fun _ _ z => z)
    refine wpAny_bind (wpAny_pure ?_)
    refine wpAny_bind (wpAny_mono h3 (fun x s4 h4 => ?_) fun _ _ z => z)
    refine wpAny_bind (wpAny_standAt (wpAny_bind (wpAny_of_eq (hs x) (wpAny_bind (wpAny_holding (wpAny_mono h4 (fun it1 s5 h5 => ?_) fun _ _ z => z))))))
    refine wpAny_bind (wpAny_runOwn ?_)
    rw [Around.mark_none]
    refine codeAny_mono h5 fun r s' hr => ?_
    cases r with
    | ok f => first | exact wpAny_pure ⟨rfl, hr⟩ | exact wpAny_bind (wpAny_pure (wpAny_pure ⟨rfl, hr⟩))
    | error e => exact hr.elim
/-- the inner loop -/
theorem loopD_in (I : Nat → Shared → Prop)
    (turn : ∀ n s, I n s → wpAny (model prog ww) A (pyNext it) (fun r s1 => match r with
      | none => R (.ok .next) s1
      | some v => wpAny (model prog ww) A (letOwnedTupleGo t1 it v) (fun _ s2 => wpAny (model prog ww) A (assign t1 env v) (fun _ s3 =>
          wpAny (model prog ww) A (eval kx env) (fun kv s4 => wpAny (model prog ww) A (eval vx env) (fun vv s5 =>
            wpAny (model prog ww) A (dictSet D kv vv) (fun _ s6 => ∃ m, m < n ∧ I m s6) (notedBy (model prog ww) A env fun e s' => R (.error e) s') s5) (notedBy (model prog ww) A env fun e s' => R (.error e) s') s4)
          (notedBy (model prog ww) A env fun e s' => R (.error e) s') s3) (notedBy (model prog ww) A env fun e s' => R (.error e) s') s2) (notedBy (model prog ww) A env fun e s' => R (.error e) s') s1) (notedBy (model prog ww) A env fun e s' => R (.error e) s') s)
    (n : Nat) (h : I n s) : codeAny (model prog ww) A (.compLoop (dcE kx vx t0 i0 t1 i1 scope pos) 1 it (.ref D) env) R s := by
  refine codeAny_loop rfl I (fun n s hI => ?_) n h
  show wpAny _ A ((compTurn (dcE kx vx t0 i0 t1 i1 scope pos) 1 it (.ref D) env).onRaise (fun x => do noteFrame x env; theTreesLotGoes x)) _ _ s
  refine wpAny_noted ?_
  rw [turnD_in]
  refine wpAny_bind (wpAny_standAt (wpAny_bind (wpAny_mono (turn n s hI) (fun r s1 h1 => ?_) fun _ _ z => z)))
  cases r with
  | none => exact wpAny_pure h1
  | some v =>
    refine wpAny_bind (wpAny_mono h1 (fun _ s2 h2 => wpAny_bind (wpAny_mono h2 (fun _ s3 h3 => ?_) fun _ _ z => z)) fun _ _ z => z)
    refine wpAny_bind (wpAny_pure ?_)
    exact wpAny_bind (wpAny_bind (wpAny_mono h3 (fun kv s4 h4 => wpAny_bind (wpAny_holding (wpAny_mono h4 (fun vv s5 h5 => wpAny_bind (wpAny_standAt (wpAny_holding (wpAny_mono h5 (fun _ s6 h6 => wpAny_pure ⟨rfl, h6⟩) fun _ _ z => z)))) fun _ _ z => z))) fun _ _ z => z))
/-- the inner loop's start -/
theorem startD_in (h0 : codeAny (model prog ww) A (.compLoop (dcE kx vx t0 i0 t1 i1 scope pos) 1 it acc env) R s)
    (h : wpAny (model prog ww) A (pyIter it) (fun it' s' => codeAny (model prog ww) A (.compLoop (dcE kx vx t0 i0 t1 i1 scope pos) 1 it' acc env) R s') (notedBy (model prog ww) A env fun x s' => R (.error x) s') s) :
    codeAny (model prog ww) A (.compStart (dcE kx vx t0 i0 t1 i1 scope pos) 1 it acc env) R s := by
  refine codeAny_of_tree ?_
  show wpAny _ _ ((compStart (dcE kx vx t0 i0 t1 i1 scope pos) 1 it acc env).onRaise (fun x => do noteFrame x env; standAt theWindowsPlace)) _ _ s
  refine wpAny_notedAt ?_
  unfold compStart
  show wpAny _ _ (ask >>= _) _ _ s
  refine wpAny_bind (wpAny_askSetting (wpAny_ite ?_))
  split
  · first
      | exact wpAny_bind (wpAny_pure (wpAny_pure (And.intro rfl h0)))
      | exact wpAny_pure (And.intro rfl h0)
  · first
      | exact wpAny_bind (wpAny_rule (wpAny_bind (wpAny_standAt (wpAny_bind (wpAny_mono h (fun it' s' h' => wpAny_pure (And.intro rfl h')) fun _ _ x => x)))))
      | (refine wpAny_bind (wpAny_rule ?_); show wpAny _ _ (standAt i1.pos >>= _) _ _ s; exact wpAny_bind (wpAny_standAt (wpAny_bind (wpAny_mono h (fun it' s' h' => wpAny_pure (And.intro rfl h')) fun _ _ x => x))))
end
section
variable {X : Cx}
/-- what is wished of {k: v for t0 in i0 for t1 in i1}, keys whole numbers or texts: D the new dict; W, W1 the loops' states, Nx, Nx1 behind a turn -/
def tDc2 (wi : TI) (g : TG) (wi1 : TI) (g1 : TG) (tk tv : TE) (vs vs1 : List Nat) : TE := fun σ H Q => wi σ H fun J H1 => ∀ D, H1 D = none → ∃ W : Nat → Nat → L2.Hp → Prop, (∃ m, W 0 m (upd H1 D (.dK []))) ∧ ∀ i m H, W i m H →
  (J.stop i H ∧ Q (.ref D) H) ∨ (J.go i H ∧ ∃ Nx : L2.Hp → Prop, (∀ H', Nx H' → ∃ m', m' < m ∧ W (i + 1) m' H') ∧ ∀ x H', J.yld i H x H' → g x (wipe σ vs) H' fun σ2 H2 => wipe σ2 vs = wipe σ vs ∧
    wi1 σ2 H2 fun J1 H4 => ∃ W1 : Nat → Nat → L2.Hp → Prop, (∃ m, W1 0 m H4) ∧ ∀ j k H, W1 j k H →
      (J1.stop j H ∧ Nx H) ∨ (J1.go j H ∧ ∃ Nx1 : L2.Hp → Prop, (∀ H', Nx1 H' → ∃ k', k' < k ∧ W1 (j + 1) k' H') ∧ ∀ x H', J1.yld j H x H' → g1 x (wipe σ2 vs1) H' fun σ3 H5 => wipe σ3 vs1 = wipe σ2 vs1 ∧
        tk σ3 H5 fun y H6 => tv σ3 H6 fun z H7 => ∃ kvs k, y = kV k ∧ H7 D = some (.dK kvs) ∧ kvs.length < sizeLine ∧ Nx1 (upd H7 D (.dK (putK kvs k z)))))
/-- a turn's end: what was pinned stands, the block's names are let go -/
theorem turn_end {fp : List Addr} {pins : List (Addr × Obj)} {σ0 σ9 : Sg} {H' : L2.Hp} {s7 s' : Shared}
    (I' : Inv X (pins ++ pinsAt fp s7.heap) σ9 H' s') (hl : σ0.length = σ9.length) (hk : ∀ (j : Nat) v, σ0[j]? = some (some v) → σ9[j]? = some (some v)) (hobj : ∀ b ∈ fp, ∃ o, s7.heap.get? b = some o) :
    Inv X pins σ0 H' s' ∧ (∀ b ∈ fp, ∀ o, s7.heap.get? b = some o → s'.heap.get? b = some o) ∧ ∀ b ∈ fp, H' b = none := by
  have pin' : ∀ b ∈ fp, ∀ o, s7.heap.get? b = some o → s'.heap.get? b = some o ∧ H' b = none := fun b hb o e =>
    let z := I'.pin (b, o) (List.mem_append_right _ (List.mem_append_right _ (mem_pinsAt hb e)))
    ⟨z.1, z.2.1⟩
  refine ⟨(I'.unpinned (pins := pins)).weak hl hk, fun b hb o e => (pin' b hb o e).1, fun b hb => ?_⟩
  obtain ⟨o, e⟩ := hobj b hb
  exact (pin' b hb o e).2
theorem dc2_core {pins : List (Addr × Obj)} {s : Shared} {σ : Sg} {H : L2.Hp} {Q : VK} {kx vx t0 i0 t1 i1 : Expr} {scope : Scope} {own : List (Str × Nat)} {vs1 : List Nat} {pos pos' : Pos} {wi wi1 : TI} {g g1 : TG} {tk tv : TE} {use : Option (Value → Sem Unit)} {Qf : Value → Shared → Prop}
    (hc : X.calm = true) (hN : X.N.Nodup) (I : Inv X pins σ H s) (hi : PI X t0 i0 wi) (ok : BlkOk X.N X.env.scope scope own) (hv : ∀ i ∈ vs1, i ∈ own.map (·.2))
    (hg : ∀ (s : Shared) (H : L2.Hp) (C : Addr) (cl : List (Str × Addr)) (fp : List Addr), PG (X.blk s H scope (compEnvC scope cl C X.env) fp) t0 g)
    (hi1 : ∀ (s : Shared) (H : L2.Hp) (C : Addr) (cl : List (Str × Addr)) (fp : List Addr), PI (X.blk s H scope (compEnvC scope cl C X.env) fp) t1 i1 wi1)
    (hg1 : ∀ (s : Shared) (H : L2.Hp) (C : Addr) (cl : List (Str × Addr)) (fp : List Addr), PG (X.blk s H scope (compEnvC scope cl C X.env) fp) t1 g1)
    (hk : ∀ (s : Shared) (H : L2.Hp) (C : Addr) (cl : List (Str × Addr)) (fp : List Addr), PE (X.blk s H scope (compEnvC scope cl C X.env) fp) kx tk)
    (he : ∀ (s : Shared) (H : L2.Hp) (C : Addr) (cl : List (Str × Addr)) (fp : List Addr), PE (X.blk s H scope (compEnvC scope cl C X.env) fp) vx tv) (hs : ∀ x, foldedSetIterable i0 X.env x = pure x) (hs1 : ∀ env x, foldedSetIterable i1 env x = pure x)
    (h : tDc2 wi g wi1 g1 tk tv (own.map (·.2)) vs1 σ H Q)
    (hRR : ∀ D C s' m H', Inv X pins σ H' s' → Q (.ref D) H' → s'.heap.Ns C m → FpOk X pins H' C → compPost (model X.prog X.w) X.A X.xe use Qf (.ref D) C (.ok .next) s') :
    wpAny (model X.prog X.w) X.A (comprehension (dcE kx vx t0 i0 t1 i1 scope pos) scope X.env pos' newDict false (eval i0 X.env) use) Qf X.xe s := by
  have hfree : ∀ y ∈ scope.names, y.2 = .free → ∃ c, X.env.cells.lookup y.1 = some c := fun y hy e => by
    rcases ok.free y hy e with k | k
    · exact I.ok.has _ (.inl k)
    · exact I.ok.has _ (.inr k)
  refine wpAny_comprehension_free (use := use) rfl hs (closure_ok hfree) ok.kind (fun y hy e => by rw [ok.uniq y hy, e]) (thn (hi.run pins s σ H _ I h) fun xv s1 hx => thn hx fun itv s2 h2 => ?_)
  obtain ⟨it, fp, tn, J, H2, e, I2, T, st2, f2, q⟩ := h2
  subst e
  refine wpAny_newObj_type (newEnv_comp ?_)
  generalize hD : s2.heap.objs.size = D
  have hDn : H2 D = none := I2.hok.fresh (Nat.le_of_eq hD)
  obtain ⟨W, ⟨m0, w0⟩, turn⟩ := q D hDn
  -- the new dict, and the block's own environment
  generalize hs3 : ({ s2 with heap := s2.heap.push { cls := .type "dict", data := .dict #[] } } : Shared) = s3
  have h3 : s3.heap = s2.heap.push { cls := .type "dict", data := .dict #[] } := by rw [← hs3]
  have I3 : Inv X pins σ (upd H2 D (.dK [])) s3 := by
    rw [← hs3]
    refine I2.laid (t' := s2.toks) (fun b o e => Heap.get?_push_of_some _ e) (Nat.le_of_eq hD) ?_
    rw [← hD]
    exact dk_empty s2.heap I2.big
  have f3 : ∀ b ∈ fp, FpOk X pins (upd H2 D (.dK [])) b ∧ b < s3.heap.objs.size := fun b hb => by
    obtain ⟨o, e, _⟩ := T.obj _ _ st2 b hb
    have hlt := Heap.lt_size e
    refine ⟨⟨?_, (f2 b hb).2⟩, by rw [h3, Heap.size_push]; exact Nat.lt_succ_of_lt hlt⟩
    rw [upd_ne (by rw [← hD]; exact Nat.ne_of_lt hlt)]
    exact (f2 b hb).1
  have st3 : tn 0 s3.heap := T.keep _ _ _ st2 fun b _ o e => by rw [h3]; exact Heap.get?_push_of_some _ e
  have I4 := block_start I3 ok hN f3
  have all := fun {P : Cx → Prop} (z : ∀ (s : Shared) (H : L2.Hp) (C : Addr) (cl : List (Str × Addr)) (fp : List Addr), P (X.blk s H scope (compEnvC scope cl C X.env) fp)) => z s3 (upd H2 D (.dK [])) s3.heap.objs.size (cellsFrom (s3.heap.objs.size + 1) scope.names (cloFrom X.env.cells scope.names [])) fp
  have pg := all (P := fun Y => PG Y t0 g) hg
  have pi1 := all (P := fun Y => PI Y t1 i1 wi1) hi1
  have pg1 := all (P := fun Y => PG Y t1 g1) hg1
  have pk := all (P := fun Y => PE Y kx tk) hk
  have pe := all (P := fun Y => PE Y vx tv) he
  clear all
  show codeAny _ _ (.compStart (dcE kx vx t0 i0 t1 i1 scope pos) 0 (.ref it) (.ref D) (compEnvC scope (cellsFrom (s3.heap.objs.size + 1) scope.names (cloFrom X.env.cells scope.names [])) s3.heap.objs.size X.env)) _ { s3 with heap := pushCells (s3.heap.push { cls := .type "dict", data := .dict #[] }) scope.names }
  have nfp : ∀ b ∈ fp, (upd H2 D (.dK [])) b = none := fun b hb => (f3 b hb).1.1
  generalize hce : compEnvC scope (cellsFrom (s3.heap.objs.size + 1) scope.names (cloFrom X.env.cells scope.names [])) s3.heap.objs.size X.env = ce at I4 pg pi1 pg1 pk pe ⊢
  have cL : ce.locals = s3.heap.objs.size := by subst hce; rfl
  generalize hH3 : upd H2 D (.dK []) = H3 at I3 I4 pg pi1 pg1 pk pe w0 nfp f3
  generalize hs4 : ({ s3 with heap := pushCells (s3.heap.push { cls := .type "dict", data := .dict #[] }) scope.names } : Shared) = s4 at I4 ⊢
  have st4 : tn 0 s4.heap := T.keep _ _ _ st3 fun b _ o e => by rw [← hs4]; exact pushCells_keeps _ _ _ _ (Heap.get?_push_of_some _ e)
  -- the state of the outer loop
  let Io : Nat → Shared → Prop := fun n s' => ∃ i H', Inv (X.blk s3 H3 scope ce fp) [] (wipe σ (own.map (·.2))) H' s' ∧ tn i s'.heap ∧ (∀ b ∈ fp, H' b = none) ∧ W i n H'
  have stat : ∀ {σ' : Sg} {H' : L2.Hp} {s' : Shared}, Inv (X.blk s3 H3 scope ce fp) [] σ' H' s' → (∀ b ∈ fp, H' b = none) → ∀ b ∈ fp, FpOk (X.blk s3 H3 scope ce fp) [] H' b := fun I' hn b hb =>
    ⟨hn b hb, (I'.ok.exf b hb).1, I'.ok.exfs b hb, .inl hb, fun x c e => (I'.ok.exf b hb).2 x c e, fun p hp => absurd (show p ∈ ([] : List (Addr × Obj)) ++ [] from hp) (by simp)⟩
  refine codeAny_compStart_dict ?loop (T.self X.A 0 _ _ _ st4 ?loop)
  refine loopD_out (hs1 ce) Io ?_ m0 ⟨0, H3, I4, st4, nfp, w0⟩
  rintro n s5 ⟨i, H5, I5, st5, n5, w5⟩
  rcases turn i n H5 w5 with ⟨stop, qq⟩ | ⟨go, Nx, hNx, step⟩
  · -- the end: back in the def
    refine thnF (T.done (X.blk s3 H3 scope ce fp) rfl rfl rfl hc i [] s5 _ H5 (fun _ _ => False) I5 (stat I5 n5) st5 stop) fun r s6 ⟨hr, I6⟩ => ?_
    subst hr
    have I7 : Inv X pins σ H5 s6 := I3.call' (ch := fp) I6.os I6.base I6.hok I6.bare fun b hb => ⟨(f3 b hb).1.2.2.2.1, (f3 b hb).1.2.1, (f3 b hb).1.2.2.2.2.1, (f3 b hb).1.2.2.2.2.2⟩
    have nC : H5 s3.heap.objs.size = none := by
      have z : H5 ce.locals = none := I6.free
      rw [cL] at z
      exact z
    obtain ⟨m, hn, _⟩ := I6.loc
    have hn : s6.heap.Ns ce.locals m := hn
    rw [cL] at hn
    exact hRR D s3.heap.objs.size s6 m H5 I7 qq hn (I3.fpOk (Nat.le_refl _) nC)
  -- a turn of the outer loop
  refine thnF (T.item (X.blk s3 H3 scope ce fp) rfl rfl rfl hc i [] s5 _ H5 (fun _ _ => False) I5 (stat I5 n5) st5 go) fun r s6 ⟨u, hr, h6⟩ => ?_
  subst hr
  refine thnF h6 fun _ s7 ⟨x, H7, I7, r7, y7, st7, n7⟩ => ?_
  refine thnF (pg.run _ s7 _ H7 x u _ (I7.pinned (stat I7 n7) (T.obj _ _ st7)) r7 (step x H7 y7)) fun _ s8 ⟨σ8, H8, I8, hw8, q8⟩ => ?_
  have ob7 : ∀ b ∈ fp, ∃ o, s7.heap.get? b = some o := fun b hb => let ⟨o, e, _⟩ := T.obj _ _ st7 b hb; ⟨o, e⟩
  have len8 : (wipe σ (own.map (·.2))).length = σ8.length := by rw [← hw8, wipe_length]
  have known : ∀ (j : Nat) v, (wipe σ (own.map (·.2)))[j]? = some (some v) → (wipe σ8 vs1)[j]? = some (some v) := fun j v e => by
    rw [← hw8] at e
    obtain ⟨e1, e2⟩ := wipe_some e
    rw [wipe_out fun z => e2 (hv j z)]
    exact e1
  have outer_end : ∀ {s' : Shared} {H' : L2.Hp}, Inv (X.blk s3 H3 scope ce fp) ([] ++ pinsAt fp s7.heap) (wipe σ8 vs1) H' s' → Nx H' → ∃ m, m < n ∧ Io m s' := fun {s' H'} I' nx => by
    obtain ⟨m', hm, w'⟩ := hNx H' nx
    obtain ⟨J1, J2, J3⟩ := turn_end I' (len8.trans (wipe_length σ8 vs1).symm) known ob7
    exact ⟨m', hm, i + 1, H', J1, T.keep _ _ _ st7 J2, J3, w'⟩
  refine thnF (pi1.run _ s8 σ8 H8 _ I8 q8) fun xv s10 hx => thnF hx fun itv s11 h11 => ?_
  obtain ⟨it1, fp1, tn1, J1, H11, e1, I11, T1, st11, f11, W1, ⟨m1, w1⟩, turn1⟩ := h11
  subst e1
  have stat1 : ∀ {H' : L2.Hp}, (∀ b ∈ fp1, H' b = none) → ∀ b ∈ fp1, FpOk (X.blk s3 H3 scope ce fp) ([] ++ pinsAt fp s7.heap) H' b := fun hn b hb => ⟨hn b hb, (f11 b hb).2⟩
  have inner : codeAny (model X.prog X.w) X.A (.compLoop (dcE kx vx t0 i0 t1 i1 scope pos) 1 (.ref it1) (.ref D) ce) (fun r s' => match r with
      | .ok _ => ∃ m, m < n ∧ Io m s'
      | .error _ => False) s11 := by
    refine loopD_in (fun k s' => ∃ j H', Inv (X.blk s3 H3 scope ce fp) ([] ++ pinsAt fp s7.heap) (wipe σ8 vs1) H' s' ∧ tn1 j s'.heap ∧ (∀ b ∈ fp1, H' b = none) ∧ W1 j k H') ?_ m1 ⟨0, H11, I11.weak (wipe_length _ _) (fun j v e => (wipe_some e).1), st11, fun b hb => (f11 b hb).1, w1⟩
    rintro k s12 ⟨j, H12, I12, st12, n12, w12⟩
    rcases turn1 j k H12 w12 with ⟨stop1, nx1⟩ | ⟨go1, Nx1, hNx1, step1⟩
    · refine thnF (T1.done (X.blk s3 H3 scope ce fp) rfl rfl rfl hc j _ s12 (wipe σ8 vs1) H12 (fun _ _ => False) I12 (stat1 n12) st12 stop1) fun r s13 ⟨hr, I13⟩ => ?_
      subst hr
      exact outer_end I13 nx1
    · refine thnF (T1.item (X.blk s3 H3 scope ce fp) rfl rfl rfl hc j _ s12 (wipe σ8 vs1) H12 (fun _ _ => False) I12 (stat1 n12) st12 go1) fun r s13 ⟨u1, hr, h13⟩ => ?_
      subst hr
      refine thnF h13 fun _ s14 ⟨x1, H14, I14, r14, y14, st14, n14⟩ => ?_
      refine thnF (pg1.run _ s14 (wipe σ8 vs1) H14 x1 u1 _ (I14.pinned (stat1 n14) (T1.obj _ _ st14)) r14 (step1 x1 H14 y14)) fun _ s15 ⟨σ15, H15, I15, hw15, q15⟩ => ?_
      have ob14 : ∀ b ∈ fp1, ∃ o, s14.heap.get? b = some o := fun b hb => let ⟨o, e, _⟩ := T1.obj _ _ st14 b hb; ⟨o, e⟩
      refine thnF (pk.run _ s15 σ15 H15 _ I15 q15) fun z s16 ⟨yk, H16, I16, r16, q16⟩ => ?_
      refine thnF (pe.run _ s16 σ15 H16 _ I16 q16) fun z2 s17 ⟨yv, H17, I17, r17, kvs, kk, ek, hD17, hz17, nx⟩ => ?_
      subst ek
      refine d_dictSet (X := X.blk s3 H3 scope ce fp) I17 hD17 hz17 r16 r17 fun s18 I18 => ?_
      obtain ⟨k', hk', w'⟩ := hNx1 _ nx
      obtain ⟨K1, K2, K3⟩ := turn_end (σ0 := wipe σ8 vs1) I18 (by rw [← hw15, wipe_length]) (fun j v e => by rw [← hw15] at e; exact (wipe_some e).1) ob14
      exact ⟨k', hk', j + 1, _, K1, T1.keep _ _ _ st14 K2, K3, w'⟩
  exact startD_in inner (T1.self X.A 0 _ _ _ st11 inner)
/-- y = {k: v for t0 in i0 for t1 in i1} -/
theorem ps_setDc2 {i : Nat} {y : Str} {py : Pos} {kx vx t0 i0 t1 i1 : Expr} {scope : Scope} {own : List (Str × Nat)} {vs1 : List Nat} {pos spos : Pos} {wi wi1 : TI} {g g1 : TG} {tk tv : TE} (hc : X.calm = true) (hN : X.N.Nodup) (hy : X.N[i]? = some y) (hyl : X.env.scope.names.lookup y = some .local)
    (hsw : swapsWith (dcE kx vx t0 i0 t1 i1 scope pos) (some (.Name y py)) spos.line X.env = pure true) (hi : PI X t0 i0 wi) (ok : BlkOk X.N X.env.scope scope own) (hv : ∀ i ∈ vs1, i ∈ own.map (·.2))
    (hg : ∀ (s : Shared) (H : L2.Hp) (C : Addr) (cl : List (Str × Addr)) (fp : List Addr), PG (X.blk s H scope (compEnvC scope cl C X.env) fp) t0 g)
    (hi1 : ∀ (s : Shared) (H : L2.Hp) (C : Addr) (cl : List (Str × Addr)) (fp : List Addr), PI (X.blk s H scope (compEnvC scope cl C X.env) fp) t1 i1 wi1)
    (hg1 : ∀ (s : Shared) (H : L2.Hp) (C : Addr) (cl : List (Str × Addr)) (fp : List Addr), PG (X.blk s H scope (compEnvC scope cl C X.env) fp) t1 g1)
    (hk : ∀ (s : Shared) (H : L2.Hp) (C : Addr) (cl : List (Str × Addr)) (fp : List Addr), PE (X.blk s H scope (compEnvC scope cl C X.env) fp) kx tk)
    (he : ∀ (s : Shared) (H : L2.Hp) (C : Addr) (cl : List (Str × Addr)) (fp : List Addr), PE (X.blk s H scope (compEnvC scope cl C X.env) fp) vx tv) (hs : ∀ x, foldedSetIterable i0 X.env x = pure x) (hs1 : ∀ env x, foldedSetIterable i1 env x = pure x) :
    PS X (.Assign [.Name y py] (dcE kx vx t0 i0 t1 i1 scope pos) spos) (tAsg (tDc2 wi g wi1 g1 tk tv (own.map (·.2)) vs1) (gName i)) := by
  refine ⟨fun pins s σ H D I h => ?_⟩
  rw [exec_Assign_Name_used _ _ _ _ hsw]
  refine wpAny_bind (wpAny_standAt (wpAny_bind ?_))
  show wpAny _ X.A (do let _ ← comprehension (dcE kx vx t0 i0 t1 i1 scope pos) scope X.env (firstIterPos [⟨t0, i0, [], 0⟩, ⟨t1, i1, [], 0⟩] pos) newDict false (eval i0 X.env) (some (assign (.Name y py) X.env))) _ _ s
  have h : tDc2 wi g wi1 g1 tk tv (own.map (·.2)) vs1 σ H (fun x H1 => gName i x σ H1 D.nx) := h
  refine wpAny_bind (thn (dc2_core (Qf := fun _ s' => SP X pins D .next s') hc hN I hi ok hv hg hi1 hg1 hk he hs hs1 h fun L C s' m H' I' q hn f => ?_) fun _ s' hq => wpAny_pure (wpAny_pure hq))
  show wpAny _ _ (assign (.Name y py) X.env (.ref L)) _ _ _
  obtain ⟨f0, f1, f2, f3, f4, f5⟩ := f
  refine wpAny_assign_Name (store_ok2 (v := L2.V.ref L) I' hN hy (.inl hyl) rfl (fun s2 I2 ⟨a, sb, ha⟩ => ?_) (.inr hyl))
  have apart : C ≠ a := by
    rcases ha with z | z
    · rw [z]; exact f1
    · exact fun e => f4 y a z e.symm
  exact ⟨m, hn.sameBut sb apart, fun h3 sb3 => ⟨_, H', I2.turned (t' := s2.toks) (fun b o hb e => (sb3.2 b hb).trans e) f0 f1 f3 f4 f5, q⟩⟩
end
end Hb

/-! DPT: {j: True for i in a for j in i}, a a tuple of tuples of whole numbers. -/
namespace Hb
open PySem PySem.Spec PyProof.Rows
open L2 hiding V Hp St
set_option autoImplicit false
section
variable {w : Wo} {f : L2.Hp} {r : List Addr} {G H : L2.Hp} {h : Hp} {p : Addr} {us : List (Key × L2.V)}
/-- the dict that is being made is guarded -/
theorem Sim.guardD (S : Sim w f r G h H) (hp : H p = none) : Sim w (upd f p (.dK us)) r G h (upd H p (.dK us)) := by
  obtain ⟨g, hf, hr⟩ := S.fresh hp
  refine ⟨fun a q e => ?_, S.gn, fun a q e => ?_, fun a q e => ?_, fun n a e => ?_, S.len, S.nd, fun n a q e1 e2 => ?_⟩
  · rw [upd_ne (ne_of_none e g)]; exact S.sub _ _ e
  · rcases upd_get e with ⟨rfl, rfl⟩ | ⟨hb, e⟩
    · exact upd_same
    · rw [upd_ne hb]; exact S.fr _ _ e
  · rcases upd_get e with ⟨rfl, rfl⟩ | ⟨hb, e⟩
    · exact g
    · exact S.fg _ _ e
  · have hb : a ≠ p := fun z => hr n (z ▸ e)
    rw [upd_ne hb]; exact S.fc n a e
  · have hb : a ≠ p := fun z => hr n (z ▸ e1)
    exact (S.ob n a q e1 e2).mono Ext.refl (fun z => z) (fun x z => by rw [upd_ne hb]; exact z) fun b z => by rw [upd_ne (ne_of_none z hp)]; exact z
/-- .. and grows -/
theorem Sim.regardD {vs : List (Key × L2.V)} (S : Sim w (upd f p (.dK us)) r G h H) : Sim w (upd f p (.dK vs)) r G h (upd H p (.dK vs)) := by
  have hp : H p = some (.dK us) := S.fr _ _ upd_same
  have g : G p = none := S.fg p _ upd_same
  have hr : ∀ n : Nat, r[n]? ≠ some p := fun n e => by have := S.fc n p e; rw [upd_same] at this; cases this
  refine ⟨fun a q e => ?_, S.gn, fun a q e => ?_, fun a q e => ?_, fun n a e => ?_, S.len, S.nd, fun n a q e1 e2 => ?_⟩
  · rw [upd_ne (ne_of_none e g)]; exact S.sub _ _ e
  · rcases upd_get e with ⟨rfl, rfl⟩ | ⟨hb, e⟩
    · exact upd_same
    · rw [upd_ne hb]; exact S.fr a q (by rw [upd_ne hb]; exact e)
  · rcases upd_get e with ⟨rfl, rfl⟩ | ⟨hb, e⟩
    · exact g
    · exact S.fg a q (by rw [upd_ne hb]; exact e)
  · have hb : a ≠ p := fun z => hr n (z ▸ e)
    have := S.fc n a e
    rw [upd_ne hb] at this ⊢
    exact this
  · have hb : a ≠ p := fun z => hr n (z ▸ e1)
    exact (S.ob n a q e1 e2).mono Ext.refl (fun z => z) (fun x z => by rw [upd_ne hb]; exact z) fun b z => by rw [upd_ne (fun y => by subst y; rw [hp] at z; cases z)]; exact z
/-- .. and is data in the end -/
theorem Sim.unguardD (S : Sim w (upd f p (.dK us)) r G h H) (hf : f p = none) : Sim w f r (upd G p (.dK us)) h H ∧ Ext r G r (upd G p (.dK us)) := by
  have hp : H p = some (.dK us) := S.fr _ _ upd_same
  have g : G p = none := S.fg p _ upd_same
  have hr : ∀ n : Nat, r[n]? ≠ some p := fun n e => by have := S.fc n p e; rw [upd_same] at this; cases this
  have ex : Ext r G r (upd G p (.dK us)) := ⟨fun _ _ e => e, sub_upd g⟩
  refine ⟨⟨fun a q e => ?_, fun a b e => ?_, fun a q e => ?_, fun a q e => ?_, fun n a e => ?_, S.len, S.nd, fun n a q e1 e2 => ?_⟩, ex⟩
  · rcases upd_get e with ⟨rfl, rfl⟩ | ⟨hb, e⟩
    · exact hp
    · exact S.sub _ _ e
  · rcases upd_get e with ⟨_, z⟩ | ⟨_, e⟩
    · cases z
    · exact S.gn _ _ e
  · exact S.fr a q (by rw [upd_ne (ne_of_none e hf)]; exact e)
  · rw [upd_ne (ne_of_none e hf)]; exact S.fg a q (by rw [upd_ne (ne_of_none e hf)]; exact e)
  · have hb : a ≠ p := fun z => hr n (z ▸ e)
    have := S.fc n a e
    rw [upd_ne hb] at this
    exact this
  · have hb : a ≠ p := fun z => hr n (z ▸ e1)
    exact (S.ob n a q e1 e2).mono ex (fun z => by rw [upd_ne hb]; exact z) (fun x z => z) fun _ z => z
end
def ptsK (ns : List Int) : List (Key × L2.V) := (ns.foldl addI []).map fun i => (Sum.inl i, L2.V.bl true)
theorem putK_pt (acc : List Int) (i : Int) : putK (acc.map fun i => ((Sum.inl i : Key), L2.V.bl true)) (Sum.inl i) (L2.V.bl true) = (addI acc i).map fun i => (Sum.inl i, L2.V.bl true) := by
  unfold putK addI
  by_cases h : i ∈ acc
  · have e : ((acc.map fun i => ((Sum.inl i : Key), L2.V.bl true)).any fun kv => decide (kv.1 = Sum.inl i)) = true := by
      rw [List.any_map, List.any_eq_true]
      exact ⟨i, h, by simp⟩
    rw [if_pos e, if_pos h, List.map_map]
    refine List.map_congr_left fun j _ => ?_
    show (if (Sum.inl j : Key) = Sum.inl i then _ else _) = _
    split
    · rfl
    · rfl
  · have e : ¬ ((acc.map fun i => ((Sum.inl i : Key), L2.V.bl true)).any fun kv => decide (kv.1 = Sum.inl i)) = true := by
      rw [List.any_map, List.any_eq_true]
      rintro ⟨j, hj, z⟩
      have z := of_decide_eq_true z
      cases z
      exact h hj
    rw [if_neg e, if_neg h, List.map_append]
    rfl
theorem addI_len : ∀ (ns acc : List Int), (ns.foldl addI acc).length ≤ acc.length + ns.length
  | [], acc => Nat.le_refl _
  | i :: ns, acc => by
    have := addI_len ns (addI acc i)
    have e : (addI acc i).length ≤ acc.length + 1 := by
      unfold addI
      split
      · omega
      · rw [List.length_append]; simp
    rw [List.foldl_cons, List.length_cons]
    omega
theorem ptsK_snoc (ns : List Int) (i : Int) : putK (ptsK ns) (Sum.inl i) (L2.V.bl true) = ptsK (ns ++ [i]) := by
  unfold ptsK
  rw [putK_pt, List.foldl_append]
  rfl
theorem ptsK_len (ns : List Int) : (ptsK ns).length ≤ ns.length := by
  unfold ptsK
  rw [List.length_map]
  have := addI_len ns []
  simpa using this
theorem wipeE_len (env : Env) : ∀ ws : List Nat, (wipeE env ws).length = env.length
  | [] => rfl
  | i :: ws => by show ((wipeE env ws).set i none).length = _; rw [List.length_set]; exact wipeE_len env ws
/-- a dict made by a comprehension goes to a local name at once -/
theorem sw_dict {kx vx : Expr} {gs : List Comprehension} {scope : Scope} {pos py : Pos} {y : Str} {l : Nat} {env : PySem.Env} (hk : env.scope.kind = .function) (hy : env.scope.names.lookup y = some .local) (hl : (py.line == pos.line) = true)
    (ha : (scope.names.any fun (n, k) => n == y && (k == .local || k == .cell)) = false) : swapsWith (.DictComp kx vx gs scope pos) (some (.Name y py)) l env = pure true := by
  have ky : env.kindOf y = some .local := hy
  have kb : env.blockKind = .function := by unfold PySem.Env.blockKind; rw [hk]; rfl
  unfold swapsWith
  simp only [kb, ky, ha, Expr.pos, hl]
  rfl
theorem keys_pt (ns : List Int) : (ptsD ns).map (·.1) = (ptsK ns).map fun p => keyD p.1 := by
  unfold ptsD ptsK
  rw [List.map_map, List.map_map]
  rfl
theorem vals_pt (K : PySem.W.Frag) (G : L2.Hp) (ns : List Int) : RpKv K G (ptsD ns) ((ptsK ns).map (·.2)) := by
  unfold ptsD ptsK
  generalize ns.foldl addI [] = l
  rw [List.map_map]
  induction l with
  | nil => exact rfl
  | cons a l ih => exact ⟨_, _, rfl, rfl, ih⟩
theorem asTups_map : ∀ {xs : List V} {rows : List (List Int)}, asTups xs = some rows → xs = rows.map fun a => V.d (.tuple (a.map PyData.int))
  | [], rows, e => by cases e; rfl
  | .d (.tuple ys) :: xs, rows, e => by
    unfold asTups at e
    cases ea : asInts ys with
    | none => rw [ea] at e; cases e
    | some a =>
      rw [ea] at e
      cases er : asTups xs with
      | none => simp only [er] at e; cases e
      | some b =>
        simp only [er] at e
        cases e
        rw [asTups_map er, asInts_map ea]
        rfl
section
variable {X : Cx} {w : Wo} {F : Phi} {W : WX} {t : T} {i j : Nat} {ws ws2 : List Nat}
theorem rd_dpt {s : Sg} {H : L2.Hp} {Q : VK} (h : rdE w F W (.dpt t i j ws ws2) s H Q) : tDc2 (rdI w F W (.itv t)) (rdC w F ws (.tnm i)) (rdI w F W0 (.itv (.var i))) (rdC w F ws2 (.tnm j)) (rdE w F W0 (.var j)) (rdE w F W0 (.con (.bool true))) ws ws2 s H Q := by
  obtain ⟨f, r, G, env, h, P, Xp, S, E, wp, q, qx⟩ := h
  refine ⟨f, r, G, env, h, fun chk xs h1 => ((i < env.length ∧ j < env.length ∧ i ∉ ws2) ∧ ∀ h, chk h) ∧ optP (asTups xs) fun rows => rows.flatten.length ≤ 10000 ∧ P (.d (.dict (ptsD rows.flatten))) h1, _, S, E, wp, fun chk xs h1 r1 G1 H1 J p e1 S1 sv => ?_, qx⟩
  intro D hD
  have hf : f D = none := (S1.fresh hD).2.1
  obtain ⟨⟨⟨il, jl, ij⟩, hchk⟩, p⟩ := p
  obtain ⟨rows, er, hl, pq⟩ := optP_of p
  clear p
  have ex := asTups_map er
  subst ex
  refine ⟨fun n m H' => m = rows.length - n ∧ n ≤ rows.length ∧ ∃ r' G', Ext r1 G1 r' G' ∧ Sim w (upd f D (.dK (ptsK (rows.take n).flatten))) r' G' h1 H', ⟨rows.length, by simp, Nat.zero_le _, r1, G1, Ext.refl, S1.guardD hD⟩, ?_⟩
  rintro n m H' ⟨rfl, hn, r', G', e', S'⟩
  by_cases hlt : n < rows.length
  · obtain ⟨go, yl⟩ := sv.1 _ n r' G' h1 H' e' S' (hchk _) (by rw [List.length_map]; exact hlt)
    refine .inr ⟨go, fun H2 => ∃ r2 G2, Ext r1 G1 r2 G2 ∧ Sim w (upd f D (.dK (ptsK (rows.take (n + 1)).flatten))) r2 G2 h1 H2, fun H2 hN => ⟨rows.length - (n + 1), by omega, rfl, hlt, hN⟩, fun x H2 y => ?_⟩
    obtain ⟨G2, v, e2, S2, ev, rv⟩ := yl x H2 y
    rw [List.getElem?_map, List.getElem?_eq_getElem hlt] at ev
    cases ev
    refine ⟨_, r', G2, wipeE env ws, h1, V.d (.tuple (rows[n].map PyData.int)), fun e h2 => e = (wipeE env ws).set i (some (V.d (.tuple (rows[n].map PyData.int)))) ∧ h2 = h1, S2, (E.mono ((e1.trans e').trans e2)).wipe ws, rv, ⟨rfl, rfl⟩, fun env3 h3 s3 r3 G3 H3 p3 e3 S3 E3 k3 => ?_⟩
    obtain ⟨rfl, rfl⟩ := p3
    refine ⟨by rw [k3, wipe_wipe], ?_⟩
    have wl : (wipeE env ws).length = env.length := wipeE_len _ _
    have gi : ((wipeE env ws).set i (some (V.d (.tuple (rows[n].map PyData.int)))))[i]? = some (some (V.d (.tuple (rows[n].map PyData.int)))) := List.getElem?_set_self (by rw [wl]; exact il)
    have wi : WI F (.itv (.var i)) ((wipeE env ws).set i (some (V.d (.tuple (rows[n].map PyData.int))))) h3 (fun chk2 ys h5 => ys = rows[n].map (fun a => V.d (.int a)) ∧ (∀ h, chk2 h) ∧ h5 = h3) (fun _ _ => False) := by
      show optP (((wipeE env ws).set i (some (V.d (.tuple (rows[n].map PyData.int)))))[i]?) (fun o => optP o fun v => itemsV h3 v fun chk xs => (xs = rows[n].map (fun a => V.d (.int a)) ∧ (∀ h, chk h) ∧ h3 = h3))
      rw [gi]
      exact ⟨by rw [List.map_map]; rfl, fun _ => trivial, rfl⟩
    refine ⟨_, r3, G3, _, h3, _, _, S3, E3, wi, fun chk2 ys h5 r5 G5 H5 J2 p5 e5 S5 sv2 => ?_, XOk.never⟩
    obtain ⟨rfl, hchk2, rfl⟩ := p5
    have e05 := ((e'.trans e2).trans e3).trans e5
    have tk : (rows.take (n + 1)).flatten = (rows.take n).flatten ++ rows[n] := by rw [List.take_succ_eq_append_getElem hlt, List.flatten_append]; simp
    have lt : ∀ k, k ≤ rows[n].length → ((rows.take n).flatten ++ rows[n].take k).length ≤ 10000 := fun k hk => by
      refine Nat.le_trans ?_ hl
      have e1 : rows.flatten = (rows.take n).flatten ++ (rows.drop n).flatten := by rw [← List.flatten_append, List.take_append_drop]
      have e2 : (rows.drop n).flatten = rows[n] ++ (rows.drop (n + 1)).flatten := by rw [List.drop_eq_getElem_cons hlt]; rfl
      rw [e1, e2, List.length_append, List.length_append, List.length_append, List.length_take]
      omega
    refine ⟨fun k m2 H6 => m2 = rows[n].length - k ∧ k ≤ rows[n].length ∧ ∃ r6 G6, Ext r5 G5 r6 G6 ∧ Sim w (upd f D (.dK (ptsK ((rows.take n).flatten ++ rows[n].take k)))) r6 G6 h5 H6,
      ⟨rows[n].length, by simp, Nat.zero_le _, r5, G5, Ext.refl, by rw [List.take_zero, List.append_nil]; exact S5⟩, ?_⟩
    rintro k m2 H6 ⟨rfl, hk, r6, G6, e6, S6⟩
    by_cases hkl : k < rows[n].length
    · obtain ⟨go2, yl2⟩ := sv2.1 _ k r6 G6 h5 H6 e6 S6 (hchk2 _) (by rw [List.length_map]; exact hkl)
      refine .inr ⟨go2, fun H7 => ∃ r7 G7, Ext r5 G5 r7 G7 ∧ Sim w (upd f D (.dK (ptsK ((rows.take n).flatten ++ rows[n].take (k + 1))))) r7 G7 h5 H7, fun H7 hN => ⟨rows[n].length - (k + 1), by omega, rfl, hkl, hN⟩, fun x2 H7 y2 => ?_⟩
      obtain ⟨G7, v7, e7, S7, ev7, rv7⟩ := yl2 x2 H7 y2
      rw [List.getElem?_map, List.getElem?_eq_getElem hkl] at ev7
      cases ev7
      let env7 : Env := wipeE ((wipeE env ws).set i (some (V.d (.tuple (rows[n].map PyData.int))))) ws2
      have l7 : env7.length = env.length := by show (wipeE _ ws2).length = _; rw [wipeE_len, List.length_set, wl]
      refine ⟨_, r6, G7, env7, h5, V.d (.int rows[n][k]), fun e h2 => e = env7.set j (some (V.d (.int rows[n][k]))) ∧ h2 = h5, S7, (E3.mono ((e5.trans e6).trans e7)).wipe ws2, rv7, ⟨rfl, rfl⟩, fun env8 h8 s8 r8 G8 H8 p8 e8 S8 E8 k8 => ?_⟩
      obtain ⟨rfl, rfl⟩ := p8
      refine ⟨by rw [k8, wipe_wipe], ?_⟩
      have gj : (env7.set j (some (V.d (.int rows[n][k]))))[j]? = some (some (V.d (.int rows[n][k]))) := List.getElem?_set_self (by rw [l7]; exact jl)
      have wk : WE F (.var j) (env7.set j (some (V.d (.int rows[n][k])))) h8 (fun v h9 => v = V.d (.int rows[n][k]) ∧ h9 = h8) (fun _ _ => False) := by
        show optP ((env7.set j (some (V.d (.int rows[n][k]))))[j]?) (fun o => optP o fun v => (v = V.d (.int rows[n][k]) ∧ h8 = h8))
        rw [gj]
        exact ⟨rfl, rfl⟩
      refine ⟨_, r8, G8, _, h8, _, _, S8, E8, wk, fun va ha ua ra Ga Ha pa ea Sa rva => ?_, XOk.never⟩
      obtain ⟨rfl, rfl⟩ := pa
      have rva : ua = .int rows[n][k] := rva
      subst rva
      refine ⟨_, ra, Ga, _, ha, fun v h9 => v = V.d (.bool true) ∧ h9 = ha, _, Sa, E8.mono ea, ⟨rfl, rfl⟩, fun vb hb ub rb Gb Hb pb eb Sb rvb => ?_, XOk.never⟩
      obtain ⟨rfl, rfl⟩ := pb
      have rvb : ub = .bl true := rvb
      subst rvb
      have lk := lt k hk
      refine ⟨ptsK ((rows.take n).flatten ++ rows[n].take k), .inl rows[n][k], rfl, Sb.fr _ _ upd_same, Nat.lt_of_le_of_lt (Nat.le_trans (ptsK_len _) lk) (by rw [sizeLine_eq]; decide), rb, Gb, (((e6.trans e7).trans e8).trans ea).trans eb, ?_⟩
      rw [ptsK_snoc, List.append_assoc, show rows[n].take k ++ [rows[n][k]] = rows[n].take (k + 1) from (List.take_succ_eq_append_getElem hkl).symm]
      exact Sb.regardD
    · have e : k = rows[n].length := by omega
      subst e
      have st2 := sv2.2 _ r6 G6 h5 H6 e6 S6 (hchk2 _)
      rw [List.length_map] at st2
      refine .inl ⟨st2, r6, G6, e05.trans e6, ?_⟩
      rw [List.take_length] at S6
      rw [tk]
      exact S6
  · have e : n = rows.length := by omega
    subst e
    have st := sv.2 _ r' G' h1 H' e' S' (hchk _)
    rw [List.length_map] at st
    refine .inl ⟨st, ?_⟩
    rw [List.take_length] at S'
    obtain ⟨S2, e2⟩ := S'.unguardD hf
    exact q (.d (.dict (ptsD rows.flatten))) h1 (.ref D) r' _ _ pq ((e1.trans e').trans e2) S2 ⟨D, false, _, rfl, ⟨_, upd_same, keys_pt _, rfl⟩, vals_pt _ _ _⟩
variable {tg iter tg1 : Expr} {scope : Scope} {own : List (Str × Nat)}
theorem ss_setdpt {k : Nat} {y : Str} {py pos spos : Pos} {kx vx t0 i0 t1 i1 : Expr} (hc : X.calm = true) (hN : X.N.Nodup) (hy : X.N[k]? = some y) (hyl : X.env.scope.names.lookup y = some .local)
    (hsw : swapsWith (dcE kx vx t0 i0 t1 i1 scope pos) (some (.Name y py)) spos.line X.env = pure true) (hi : SI X w F W t0 i0 (.itv t)) (ok : BlkOk X.N X.env.scope scope own) (hv : ∀ i ∈ ws2, i ∈ own.map (·.2))
    (hg : BlkAll X scope fun Y => PG Y t0 (rdC w F (own.map (·.2)) (.tnm i))) (hi1 : BlkAll X scope fun Y => SI Y w F W0 t1 i1 (.itv (.var i))) (hg1 : BlkAll X scope fun Y => PG Y t1 (rdC w F ws2 (.tnm j)))
    (hk : BlkAll X scope fun Y => SE Y w F W0 kx (.var j)) (he : BlkAll X scope fun Y => SE Y w F W0 vx (.con (.bool true))) (hs : ∀ x, foldedSetIterable i0 X.env x = pure x) (hs1 : ∀ env x, foldedSetIterable i1 env x = pure x) :
    SS X w F W (.Assign [.Name y py] (dcE kx vx t0 i0 t1 i1 scope pos) spos) (.asg (.tnm k) (.dpt t i j (own.map (·.2)) ws2)) :=
  ps_imp (ps_setDc2 hc hN hy hyl hsw hi ok hv hg hi1 hg1 hk he hs hs1) fun D s H h => by
    obtain ⟨f, r, G, env, h, n, kk, S, E, wp, q⟩ := h
    have wp : WE F (.dpt t i j (own.map (·.2)) ws2) env h (fun v h1 => n (env.set k (some v)) h1) (fun x h1 => kk.xe x env h1) := wp
    exact rd_dpt (W := W) ⟨f, r, G, env, h, _, _, S, E, wp, fun v h1 u r1 G1 H1 p e1 S1 rv => q.nx _ h1 _ r1 G1 H1 p e1 S1 ((E.mono e1).set rv k), q.x E⟩
end
end Hb

/-! STA: one starred target among several: a, *b, c = a list. -/
namespace Hb
open PySem PySem.Spec PyProof.Rows
open L2 hiding V Hp St
set_option autoImplicit false
section
variable {prog : Program} {w : World} {A : Around} {E : Value → Shared → Prop} {s : Shared}
/-- a walk from its i-th item on -/
theorem walk_from {I : Addr} {fp wr : List Addr} {G : Array GenState → Array GenState → Prop} {n : Nat} {P : Nat → Value → Prop} {Z : Nat → Shared → Prop} (W : WalksS prog w A I fp wr G n P Z) {i : Nat} (hi : i ≤ n) :
    WalksS prog w A I fp wr G (n - i) (fun k v => P (i + k) v) (fun k s => Z (i + k) s) where
  sub := W.sub
  grefl := W.grefl
  gtrans := W.gtrans
  frame := fun k => W.frame (i + k)
  item := fun k s Q E hk st hQ => W.item (i + k) s Q E (by omega) st hQ
  done := fun s Q E st hQ => W.done s Q E (by rw [show i + (n - i) = n by omega] at st; exact st) hQ
  self := fun k => W.self (i + k)
theorem unpk_star {l : Addr} {items : Array Value} {n i : Nat} {Q : List Value → Shared → Prop} (hh : A.handled = none) (hl : s.heap.IsList l items) (hi : i < n) (hn : n ≤ items.size + 1) (hz : items.size ≤ sizeLine)
    (hQ : ∀ (h' : Heap) (tk : Nat), (∀ b o, s.heap.get? b = some o → h'.get? b = some o) →
      Q (items.toList.take i ++ [Value.ref h'.objs.size] ++ (items.toList.drop i).drop (items.size - i - (n - 1 - i))) { s with heap := h'.push { cls := .type "list", data := .seq ((items.toList.drop i).take (items.size - i - (n - 1 - i))).toArray }, toks := tk }) :
    wpAny (model prog w) A (unpackItems (.ref l) n (some i)) Q E s := by
  have hll : l < s.heap.objs.size := by obtain ⟨o, ho, _⟩ := hl; exact Heap.lt_size ho
  have hlt : l ≠ s.heap.objs.size := Nat.ne_of_lt hll
  unfold unpackItems notIterableAtAll
  refine wpAny_bind (wpAny_bind (wpAny_specialOf hl.typeIs slot_list_iter.lookup (wpAny_pure ?_)))
  rw [if_neg (by decide)]
  refine wpAny_bind (wpAny_holding (wpAny_pyIter_list hl ?_))
  dsimp only
  refine wpAny_bind (wpAny_holding (PySem.W.kun_draw hlt i 0 _ _ ⟨_, Heap.get?_push_size _ rfl, rfl, rfl⟩ (hl.push _) (by omega) fun h1 it1 sb1 => ?_))
  rw [List.drop_zero]
  rw [Nat.zero_add] at it1
  have hl1 : h1.IsList l items := (hl.push _).extBut sb1.extBut hlt
  have k1 : ∀ b o, s.heap.get? b = some o → h1.get? b = some o := fun b o e => sb1.extBut b o (Nat.ne_of_lt (Heap.lt_size e)) (Heap.get?_push_of_some _ e)
  have flen : (items.toList.take i).length = i := by rw [List.length_take, Array.length_toList]; omega
  have sz1 : s.heap.objs.size < h1.objs.size := by obtain ⟨o, ho, _⟩ := it1; exact Heap.lt_size ho
  rw [if_neg (by rw [flen]; omega)]
  have hA : A.in1.handled = none := hh
  refine wpAny_bind (wpAny_holding (wpAny_collect_iter (s := { s with heap := h1 }) (.inr (.inr (.inl rfl))) (walk_from (Walks.list (prog := prog) (w := w) hA s.heap.objs.size l hlt items).toS (i := i) (by omega))
    (fun k s' z => ?_) ?_ ?_ ?_ (fun s2 acc mv ia => ?_) (by omega)))
  · obtain ⟨⟨o, ho, hc, _⟩, _⟩ := z
    exact ⟨o, ho, hc⟩
  · exact ⟨it1, hl1⟩
  · intro b hb
    simp at hb
    rcases hb with rfl | rfl
    · exact sz1
    · exact Nat.lt_trans hll sz1
  · simp
  have ea : acc.toList = items.toList.drop i := by
    refine List.ext_getElem? fun j => ?_
    rw [List.getElem?_drop, Array.getElem?_toList, Array.getElem?_toList]
    by_cases hj : j < acc.size
    · have e2 : acc[j]? = some acc[j] := Array.getElem?_eq_getElem hj
      rw [e2]
      exact (ia.2 j _ e2).symm
    · rw [Array.getElem?_eq_none (by omega), Array.getElem?_eq_none (by rw [ia.1] at hj; omega)]
  have lr : (items.toList.drop i).length = items.size - i := by rw [List.length_drop, Array.length_toList]
  have nlt : ¬ items.size - i < n - 1 - i := fun z => by omega
  rw [ea, lr, if_neg nlt]
  have k2 : ∀ b o, s.heap.get? b = some o → s2.heap.get? b = some o := fun b o e => mv.heap b o (by
    intro z
    rw [List.mem_singleton] at z
    subst z
    exact absurd (Heap.lt_size e) (Nat.lt_irrefl _)) (k1 b o e)
  obtain ⟨hp2, g2, d2, t2, o2⟩ := s2
  have q1 : g2 = s.gens := mv.gens
  have q2 : d2 = s.drawn := mv.drawn
  have q3 : o2 = s.os := mv.os
  subst q1 q2 q3
  refine wpAny_bind (wpAny_newObj_type ?_ ?_)
  · exact wpAny_pure (hQ hp2 t2 k2)
  · show (List.take (items.size - i - (n - 1 - i)) (items.toList.drop i)).toArray.size ≤ sizeLine
    rw [List.size_toArray, List.length_take, lr]
    omega
end
/-- a, *b, c = a list: b a new list -/
def gStar (K : PySem.W.Frag) (i n : Nat) (t : TGs) : TG := fun v σ H Q => ∃ a xs, v = L2.V.ref a ∧ SqL K H a xs ∧ i < n ∧ n ≤ xs.length + 1 ∧
  ∀ l, H l = none → t (xs.take i ++ [L2.V.ref l] ++ (xs.drop i).drop (xs.length - i - (n - 1 - i))) σ (L2.upd H l (.lst ((xs.drop i).take (xs.length - i - (n - 1 - i))))) Q
section
variable {X : Cx} {pos : Pos}
theorem pg_star {es : List Expr} {k : Nat} {t : TGs} {i n : Nat} (hc : X.calm = true) (h : PGs X es t)
    (hn : (assignEach es X.env).length = n) (hst : (assignEach es X.env).findIdx? (·.1) = some i) : PG X (.Tuple es k pos) (gStar X.K i n t) := by
  refine ⟨fun pins s σ H v u Q I r hw => ?_⟩
  obtain ⟨a, xs, rfl, hq, hi, hl, hw⟩ := hw
  cases r
  obtain ⟨its, rv, pl, hz⟩ := I.list hq
  have e1 := rv.length
  rw [PyProof.Rows.assign_Tuple]
  refine wpAny_bind (wpAny_standAt ?_)
  unfold unpack
  rw [hn, hst]
  refine wpAny_bind (wpAny_holding (unpk_star (I.ok.hd hc) pl.isList hi (by rw [List.size_toArray]; omega) (by rw [List.size_toArray]; omega) fun h' tk kp => ?_))
  have I1 : Inv X pins σ H { s with heap := h', toks := tk } := I.kept (t' := tk) kp
  have hp : H h'.objs.size = none := I1.hok.fresh (Nat.le_refl _)
  have ez : its.toArray.toList = its := rfl
  have es' : its.toArray.size = xs.length := by rw [List.size_toArray, e1]
  rw [ez, es']
  have rm : Vals ((xs.drop i).take (xs.length - i - (n - 1 - i))) ((its.drop i).take (xs.length - i - (n - 1 - i))) := Vals.take _ (Vals.drop _ rv)
  have I2 : Inv X pins σ (L2.upd H h'.objs.size (.lst ((xs.drop i).take (xs.length - i - (n - 1 - i))))) { s with heap := h'.push { cls := .type "list", data := .seq ((its.drop i).take (xs.length - i - (n - 1 - i))).toArray }, toks := tk } :=
    I1.laid (t' := tk) (fun b o e => Heap.get?_push_of_some _ e) (Nat.le_refl _)
      (show ObjOk X.prog X.w _ _ _ (.lst _) from ⟨by rw [List.length_take, List.length_drop]; omega, _, 0, rm, Heap.get?_push_size _ rfl⟩)
  exact h.run pins _ σ _ _ _ Q I2 (Vals.append (Vals.append (Vals.take _ rv) (Paired.cons (show RelV (L2.V.ref h'.objs.size) (Value.ref h'.objs.size) from rfl) Paired.nil)) (Vals.drop _ (Vals.drop _ rv))) (hw _ hp)
end
end Hb

/-! TEX: starred targets, ranges downwards, texts (join, split, f-texts), calls of a def held in a name, isinstance of several built-in classes. -/
namespace Hb
open PySem PySem.Spec PyProof.Rows
open L2 hiding V Hp St
set_option autoImplicit false
section
variable {X : Cx} {w : Wo} {F : Phi} {W : WX} {tg e e2 e3 oe : Expr} {es : List Expr} {t t1 t2 : T} {p pos apos cpos : Pos}
/-! ### starred targets -/
theorem dlist_ok {f : L2.Hp} {r : List Addr} {G H : L2.Hp} {h : Hp} {v : V} {u : L2.V} {Q : List D → Prop} (S : Sim w f r G h H) (rv : Rv w r G v u) (q : dlistV h v Q) : ∃ xs a us, Q xs ∧ u = .ref a ∧ SqL w.K H a us ∧ RpAll w.K G xs us := by
  cases v with
  | d x =>
    cases x with
    | list ds => obtain ⟨a, us, rfl, hq, t⟩ := rv; exact ⟨_, a, us, q, rfl, sqL_mono S.sub hq, t⟩
    | _ => exact q.elim
  | cell n =>
    obtain ⟨a, e1, rfl⟩ := rv
    have q : (match h[n]? with
      | some (.lst xs) => Q xs
      | _ => False) := q
    cases eo : h[n]? with
    | none => rw [eo] at q; exact q.elim
    | some o =>
      rw [eo] at q
      cases o with
      | lst xs => obtain ⟨_, us, ha, t⟩ := S.ob n a _ e1 eo; exact ⟨_, a, us, q, rfl, SqL.of ha, t⟩
      | _ => exact q.elim
  | _ => exact q.elim
theorem rvAll_app {r : List Addr} {G : L2.Hp} {as bs : List V} {us ws : List L2.V} (h1 : RvAll w r G as us) (h2 : RvAll w r G bs ws) : RvAll w r G (as ++ bs) (us ++ ws) :=
  rvAll_iff.mpr (All2.append (rvAll_iff.mp h1) (rvAll_iff.mp h2))
theorem sg_star {k i : Nat} (hK : X.K = w.K) (hc : X.calm = true) (h : SGs X w F es t) (hl : tlen t = es.length) (h1 : (assignEach es X.env).length = es.length) (h2 : (assignEach es X.env).findIdx? (·.1) = some i) : SG X w F (.Tuple es k pos) (.tst i t) := by
  refine pg_imp (pg_star (k := k) (i := i) (n := es.length) hc h h1 h2) fun u s H Q h => ?_
  obtain ⟨f, r, G, env, h, v, P, S, E, rv, wp, q⟩ := h
  obtain ⟨xs, a, us, ⟨⟨hi, hn⟩, wp⟩, rfl, hq, rp⟩ := dlist_ok S rv wp
  have el : xs.length = us.length := (rpAll_iff.mp rp).length
  rw [hl] at hi hn wp
  rw [el] at hn
  refine ⟨a, us, rfl, by rw [hK]; exact hq, hi, hn, fun l hp => ?_⟩
  obtain ⟨S2, e2⟩ := S.lay hp (.lst ((us.drop i).take (us.length - i - (es.length - 1 - i))))
  have rq : RpAll w.K (L2.upd G l (.lst ((us.drop i).take (us.length - i - (es.length - 1 - i))))) xs us := RpAll.mono e2.sub _ _ rp
  have rq' := rpAll_iff.mp rq
  refine ⟨f, r, _, env, h, _, P, S2, E.mono e2, ?_, wp, q.mono e2⟩
  refine rvAll_app (rvAll_app (rvAll_d.mpr (rpAll_iff.mpr (rq'.take i))) ⟨_, _, rfl, ?_, rfl⟩) (rvAll_d.mpr (rpAll_iff.mpr ?_))
  · rw [el]
    exact ⟨l, _, rfl, .inl (.inl upd_same), rpAll_iff.mpr ((rq'.drop i).take _)⟩
  · rw [el]
    exact (rq'.drop i).drop _
/-! ### range(a, b, -1) -/
theorem ranD_len : ∀ (hi : Int) (n : Nat), (ranD hi n).length = n
  | _, 0 => rfl
  | hi, n + 1 => by show (ranD (hi - 1) n).length + 1 = n + 1; rw [ranD_len]
theorem ranD_get : ∀ (hi : Int) (n i : Nat), i < n → (ranD hi n)[i]? = some (.int (hi - i))
  | hi, 0, i, h => by omega
  | hi, n + 1, 0, h => by show some (PyData.int hi) = _; simp
  | hi, n + 1, i + 1, h => by
    show (ranD (hi - 1) n)[i]? = _
    rw [ranD_get (hi - 1) n i (by omega)]
    congr 2
    omega
theorem serves_rangeD {r : List Addr} {G : L2.Hp} {hi : Int} {n : Nat} : Serves w r G (Itc hi (-1) n) (fun _ => True) ((ranD hi n).map V.d) := by
  have ln : ((ranD hi n).map V.d).length = n := by rw [List.length_map, ranD_len]
  refine ⟨fun f' i r' G' h' H' e S' _ hj => ?_, fun f' r' G' h' H' e S' _ => ?_⟩
  · rw [ln] at hj
    refine ⟨hj, fun x H2 y => ?_⟩
    obtain ⟨rfl, rfl⟩ := y
    exact ⟨G', .d (.int (hi - i)), Ext.refl, S', by rw [List.getElem?_map, ranD_get hi n i hj]; rfl, by show L2.V.int _ = L2.V.int _; congr 1; omega⟩
  · rw [ln]
    exact Nat.le_refl _
theorem si_rngd (hg : Gl X "range") (hm : X.mg "range" = none) (ha : SE X w F W e t1) (hb : SE X w F W e2 t2) (hc : SE X w F W e3 (.o1 .neg (.con (.int 1)))) (hs : ∀ x p, e ≠ .Starred x p) (hs2 : ∀ x p, e2 ≠ .Starred x p) (hs3 : ∀ x p, e3 ≠ .Starred x p) :
    SI X w F W tg (.Call (.Name "range" p) [e, e2, e3] [] pos) (.rngd t1 t2) := by
  refine ⟨fun pins s σ H R I h => (pi_range3 hg hm (pa_cons ha (pa_cons hb (pa_cons hc pa_nil (nostar hs3)) (nostar hs2)) (nostar hs)) (by rw [nostar hs]) (by rw [nostar hs2, nostar hs3]; rfl)).run pins s σ H R I ?_⟩
  obtain ⟨f, r, G, env, h, P, Xp, S, E, wp, q, qx⟩ := h
  refine ⟨f, r, G, env, h, _, Xp, S, E, wp, fun v h1 u r1 G1 H1 w1 e1 S1 rv => ?_, qx⟩
  refine ⟨f, r1, G1, env, h1, _, Xp, S1, E.mono e1, w1, fun v2 h2 u2 r2 G2 H2 w2 e2 S2 rv2 => ?_, qx.mono e1⟩
  obtain ⟨d, ed, w2⟩ := optP_of w2
  obtain ⟨i, rfl, w2⟩ := intP_of w2
  obtain ⟨d, ed2, w2⟩ := optP_of w2
  obtain ⟨j, rfl, w2⟩ := intP_of w2
  obtain ⟨⟨b1, b2, b3, b4⟩, w2⟩ := w2
  have rd : u = .int i := S2.read (Rv.mono e2 _ _ rv) ed
  have rd2 : u2 = .int j := S2.read rv2 ed2
  subst rd rd2
  refine ⟨f, r2, G2, env, h2, fun v3 h3 => v3 = .d (.int (-1)) ∧ h3 = h2, Xp, S2, (E.mono e1).mono e2, ⟨rfl, rfl⟩, fun v3 h3 u3 r3 G3 H3 w3 e3 S3 rv3 => ?_, (qx.mono e1).mono e2⟩
  obtain ⟨rfl, rfl⟩ := w3
  have rd3 : u3 = .int (-1) := rv3
  subst rd3
  exact ⟨i, j, -1, _, rfl, RgC.neg b1 b2 b3 b4, q _ _ h3 r3 G3 H3 _ w2 ((e1.trans e2).trans e3) S3 serves_rangeD⟩
/-! ### join and split -/
def textBase : Expr → Bool
  | .Name _ _ => true
  | .Subscript _ _ _ => true
  | .Constant _ _ _ => true
  | _ => false
theorem textBase_eq {o : Expr} {name : Str} {env : PySem.Env} (h : textBase o = true) : attributeBase o name env (eval o env) = eval o env := by
  cases o <;> first | rfl | cases h
theorem lst_strs {K : PySem.W.Frag} {G : L2.Hp} : ∀ {ds : List D} {us : List L2.V} {zs : List Str}, RpAll K G ds us → strsD ds = some zs → us = zs.map L2.V.str
  | [], us, zs, h, e => by cases e; exact h
  | d :: ds, us, zs, h, e => by
    obtain ⟨v, vs, rfl, r, t⟩ := h
    cases d with
    | str z =>
      have e : (strsD ds).map (z :: ·) = some zs := e
      obtain ⟨ys, ey, rfl⟩ := Option.map_eq_some_iff.mp e
      have r : v = .str z := r
      rw [r, lst_strs t ey]
      rfl
    | _ => cases e
theorem rp_strs {K : PySem.W.Frag} {G : L2.Hp} : ∀ zs : List Str, RpAll K G (zs.map PyData.str) (zs.map L2.V.str)
  | [] => rfl
  | z :: zs => ⟨_, _, rfl, rfl, rp_strs zs⟩
theorem strAt_of {v : V} {Q : Prop} (h : strAt v Q) : ∃ z, v = .d (.str z) ∧ Q := by
  cases v with
  | d d => cases d with
    | str z => exact ⟨z, rfl, h⟩
    | _ => exact h.elim
  | _ => exact h.elim
theorem se_join {name : Str} (hK : X.K = w.K) (hn : name = "join") (ho : SE X w F W oe t1) (hb : textBase oe = true) (hl : (apos.endLine == cpos.line) = true) (he : SE X w F W e t2) (hs : ∀ x p, e ≠ .Starred x p) :
    SE X w F W (.Call (.Attribute oe name apos) [e] [] cpos) (.smt .join t1 t2) := by
  subst hn
  refine pe_imp (pe_join ho he (nostar hs) (textBase_eq hb) hl) fun s H Q h => ?_
  obtain ⟨f, r, G, env, h, P, Xp, S, E, wp, q, qx⟩ := h
  refine ⟨f, r, G, env, h, _, Xp, S, E, wp, fun v h1 u r1 G1 H1 w1 e1 S1 rv => ?_, qx⟩
  obtain ⟨z, rfl, w1⟩ := strAt_of w1
  have ru : u = .str z := rv
  subst ru
  refine ⟨⟨z, rfl⟩, f, r1, G1, env, h1, _, Xp, S1, E.mono e1, w1, fun y h2 u2 r2 G2 H2 w2 e2 S2 rv2 => ?_, qx.mono e1⟩
  obtain ⟨x, ex, w2⟩ := optP_of w2
  obtain ⟨d, ed, w2⟩ := optP_of w2
  cases ex
  have rx := S2.read rv2 ed
  cases d with
  | list ds =>
    obtain ⟨a, us, rfl, hq, tt⟩ := rx
    obtain ⟨zs, ez, w2⟩ := optP_of w2
    obtain ⟨hz, w2⟩ := w2
    have := lst_strs tt ez
    subst this
    exact ⟨z, a, zs, rfl, rfl, .inl (by rw [hK]; exact hq.sq), Nat.le_trans hz (by decide), q _ h2 (.str _) r2 G2 H2 w2 (e1.trans e2) S2 rfl⟩
  | _ => exact w2.elim
theorem se_split {name : Str} (hK : X.K = w.K) (hn : name = "split") (ho : SE X w F W oe t1) (hb : textBase oe = true) (hl : (apos.endLine == cpos.line) = true) (he : SE X w F W e t2) (hs : ∀ x p, e ≠ .Starred x p) :
    SE X w F W (.Call (.Attribute oe name apos) [e] [] cpos) (.smt .split t1 t2) := by
  subst hn
  refine pe_imp (pe_split ho he (nostar hs) (textBase_eq hb) hl) fun s H Q h => ?_
  obtain ⟨f, r, G, env, h, P, Xp, S, E, wp, q, qx⟩ := h
  refine ⟨f, r, G, env, h, _, Xp, S, E, wp, fun v h1 u r1 G1 H1 w1 e1 S1 rv => ?_, qx⟩
  obtain ⟨z, rfl, w1⟩ := strAt_of w1
  have ru : u = .str z := rv
  subst ru
  refine ⟨⟨z, rfl⟩, f, r1, G1, env, h1, _, Xp, S1, E.mono e1, w1, fun y h2 u2 r2 G2 H2 w2 e2 S2 rv2 => ?_, qx.mono e1⟩
  obtain ⟨x, ex, w2⟩ := optP_of w2
  obtain ⟨d, ed, w2⟩ := optP_of w2
  cases ex
  have rx := S2.read rv2 ed
  cases d with
  | str b =>
    have rx : u2 = .str b := rx
    subst rx
    obtain ⟨⟨hb0, hz⟩, w2⟩ := w2
    refine ⟨z, b, rfl, rfl, hb0, by rw [sizeLine_eq]; omega, fun pp hpp => ?_⟩
    obtain ⟨S3, e3⟩ := S2.lay hpp (.lst ((Txt.split z b).map L2.V.str))
    exact q _ h2 (.ref pp) r2 _ _ w2 ((e1.trans e2).trans e3) S3 ⟨pp, _, rfl, .inl (.inl upd_same), rp_strs _⟩
  | _ => exact w2.elim
/-! ### f-texts -/
/-- a part: a text, or a value's text -/
inductive JPart (X : Cx) (w : Wo) (F : Phi) (W : WX) : Expr → T → TE → Prop where
  | con {m : Str} {e : Expr} (hm : m.length ≤ 100000) (h : PE X e (tC (.str m))) : JPart X w F W e (.con (.str m)) (tC (.str m))
  | fv {e : Expr} {t : T} {p : Pos} (h : SE X w F W e t) : JPart X w F W (.FormattedValue e (-1) none p) (.o1 .fmt t) (tFmt (rdE w F W t))
theorem JPart.pe {te : TE} (j : JPart X w F W e t te) : PE X e te := by
  cases j with
  | con _ h => exact h
  | fv h => exact pe_fmt h
theorem strInt_len {i : Int} (h0 : 0 ≤ i) (h1 : i < 10 ^ 200) : (strInt i).length ≤ 200 := by
  obtain ⟨n, rfl⟩ := Int.eq_ofNat_of_zero_le h0
  have e : TL.tl (strInt (n : Int)) = TL.numL n := TL.tl_num n
  have e2 : (strInt (n : Int)).length = (TL.numL n).length := by rw [← e]; rfl
  rw [e2]
  exact TL.numL_len (by decide) (by exact_mod_cast h1)
theorem JPart.run {te : TE} (j : JPart X w F W e t te) {f : L2.Hp} {r : List Addr} {G H : L2.Hp} {env : Env} {h : Hp} {P : Pv} {Xp : Px} {s : Sg} {Q : VK} (S : Sim w f r G h H) (E : EnvR w r G env s) (wp : WE F t env h P Xp) (qx : XOk w f r G Xp (fun c d H' => W c d s H'))
    (k : ∀ (z : Str) h1 r1 G1 H1, z.length ≤ 100000 → P (.d (.str z)) h1 → Ext r G r1 G1 → Sim w f r1 G1 h1 H1 → Q (.str z) H1) : te s H Q := by
  cases j with
  | con hm _ => exact k _ h r G H hm wp Ext.refl S
  | fv _ =>
    refine ⟨f, r, G, env, h, _, Xp, S, E, wp, fun v h1 u r1 G1 H1 w1 e1 S1 rv => ?_, qx⟩
    obtain ⟨d, ed, w1⟩ := optP_of w1
    have rd := S1.read rv ed
    cases d with
    | str z =>
      obtain ⟨hz, w1⟩ := w1
      exact .inl ⟨z, rd, by rw [sizeLine_eq]; omega, k z h1 r1 G1 H1 hz w1 e1 S1⟩
    | int i =>
      obtain ⟨⟨h0, h1'⟩, w1⟩ := w1
      refine .inr ⟨i, rd, ?_, k (strInt i) h1 r1 G1 H1 (Nat.le_trans (strInt_len h0 h1') (by decide)) w1 e1 S1⟩
      have hb : i.natAbs < 2 ^ 1000 := Nat.lt_of_lt_of_le (show i.natAbs < 10 ^ 200 by omega) (by decide)
      exact Nat.lt_of_lt_of_le (PySem.Flt.log2_lt_of (by omega) hb) (by omega)
    | _ => exact w1.elim
theorem empty_app (z : Str) : Str.empty ++ z = z := by
  obtain ⟨c⟩ := z
  show (⟨#[] ++ c⟩ : Str) = ⟨c⟩
  rw [Array.empty_append]
theorem app_len (y z : Str) : (y ++ z).length = y.length + z.length := by
  obtain ⟨c⟩ := y
  obtain ⟨d⟩ := z
  show (c ++ d).size = c.size + d.size
  exact Array.size_append
theorem se_joined2 {ta tb : TE} (ja : JPart X w F W e t1 ta) (jb : JPart X w F W e2 t2 tb) : SE X w F W (.JoinedStr [e, e2] pos) (.o2 .add t1 t2) := by
  refine pe_imp (pe_joined (.cons ja.pe (.cons jb.pe .nil))) fun s H Q h => ?_
  obtain ⟨f, r, G, env, h, P, Xp, S, E, wp, q, qx⟩ := h
  refine ja.run S E wp qx fun z h1 r1 G1 H1 hz w1 e1 S1 => ⟨z, rfl, by rw [empty_app, sizeLine_eq]; omega, ?_⟩
  refine jb.run S1 (E.mono e1) w1 (qx.mono e1) fun y h2 r2 G2 H2 hy w2 e2 S2 => ⟨y, rfl, by rw [empty_app, app_len, sizeLine_eq]; omega, ?_⟩
  show Q (.str (Str.empty ++ z ++ y)) H2
  rw [empty_app]
  have w2 : addP (.str z) (.str y) fun d => P (.d d) h2 := w2
  exact q _ h2 _ r2 G2 H2 w2.2 (e1.trans e2) S2 rfl
theorem se_joined3 {t3 : T} {ta tb tc : TE} (ja : JPart X w F W e t1 ta) (jb : JPart X w F W e2 t2 tb) (jc : JPart X w F W e3 t3 tc) : SE X w F W (.JoinedStr [e, e2, e3] pos) (.o2 .add (.o2 .add t1 t2) t3) := by
  refine pe_imp (pe_joined (.cons ja.pe (.cons jb.pe (.cons jc.pe .nil)))) fun s H Q h => ?_
  obtain ⟨f, r, G, env, h, P, Xp, S, E, wp, q, qx⟩ := h
  refine ja.run S E wp qx fun z h1 r1 G1 H1 hz w1 e1 S1 => ⟨z, rfl, by rw [empty_app, sizeLine_eq]; omega, ?_⟩
  refine jb.run S1 (E.mono e1) w1 (qx.mono e1) fun y h2 r2 G2 H2 hy w2 e2 S2 => ⟨y, rfl, by rw [empty_app, app_len, sizeLine_eq]; omega, ?_⟩
  have w2 : addP (.str z) (.str y) fun d => WE F t3 env h2 (fun u h3 => o2V .add h3 (.d d) u fun r => P r h3) Xp := w2
  refine jc.run S2 ((E.mono e1).mono e2) w2.2 ((qx.mono e1).mono e2) fun x h3 r3 G3 H3 hx w3 e3 S3 => ⟨x, rfl, by rw [empty_app, app_len, app_len, sizeLine_eq]; omega, ?_⟩
  show Q (.str (Str.empty ++ z ++ y ++ x)) H3
  rw [empty_app]
  have w3 : addP (.str (z ++ y)) (.str x) fun d => P (.d d) h3 := w3
  exact q _ h3 _ r3 G3 H3 w3.2 ((e1.trans e2).trans e3) S3 rfl
/-! ### a call of a def that a name holds -/
theorem fnIn_of {v : V} {fs : List Nat} {Q : Nat → Prop} (h : fnIn v fs Q) : ∃ g, v = .fn g ∧ g ∈ fs ∧ Q g := by
  cases v with
  | fn g => exact ⟨g, rfl, h.1, h.2⟩
  | _ => exact h.elim
theorem se_callf {i k : Nat} {x : Str} {fs : List Nat} (hK : X.K = w.K) (hr : Room k X.A) (hN : X.N[i]? = some x) (hv : Vis X.env.scope x) (hdb : (x == ("__debug__" : Str)) = false) (hcd : (x == ("__classdict__" : Str)) = false) (tk : Takes X W)
    (dk : ∀ g ∈ fs, ∃ y ps kwl, DefOk X.prog X.w X.mg X.base k w F g y ps kwl ∧ tlen t = ps.length) (ha : SA X w F W (e :: es) t) (hs : ∀ y ∈ e :: es, ∀ x p, y ≠ .Starred x p) :
    SE X w F W (.Call (.Name x p) (e :: es) [] pos) (.callf i fs t) := by
  refine ⟨fun pins s σ H Q I h => ?_⟩
  obtain ⟨f, r, G, env, h, P, Xp, S, E, wp, q, qx⟩ := h
  obtain ⟨o, eo, wp⟩ := optP_of wp
  obtain ⟨v, ev, wp⟩ := optP_of wp
  subst ev
  obtain ⟨g, rfl, hg, wp⟩ := fnIn_of wp
  obtain ⟨u, hu, ru⟩ := E.2 i _ eo
  have ru : u = .ref (w.fa g) := ru
  subst ru
  obtain ⟨y, ps, kwl, d, hl⟩ := dk g hg
  obtain ⟨fd, bd, _, fo⟩ := d.ok
  have kp := d.kp
  rw [← hK] at fo bd kp
  refine wpAny_Call_Name_kw (thn ((pe_var (pos := p) hN hv hdb hcd).run pins s σ H (fun v H1 => v = .ref (w.fa g) ∧ H1 = H) I ⟨_, hu, rfl, rfl⟩) fun uv s1 ⟨v, H1, I1, r1, q1⟩ => ?_)
  obtain ⟨rfl, rfl⟩ := q1
  cases r1
  refine PySem.W.callWith_K (h₀ := X.base) I.ok.mod.kin kp (thn (ha.run pos pins s1 σ _ (fun vs H2 => spOf w F ps.length g vs H2 Q (L2.WE W σ)) I1 ⟨f, r, G, env, h, _, Xp, S, E, wp, fun vs h1 us r1 G1 H2 w1 l1 e1 S1 rv => ?_, qx⟩) fun us s2 ⟨vs, H2, I2, rr, q⟩ => ⟨I2.kIn, ?_⟩) (nostar (hs e (by simp))) (noany fun y hy => hs y (by simp [hy]))
  · exact ⟨by rw [← rvAll_len rv, l1]; exact hl, f, r1, G1, vs, h1, P, Xp, S1, rv, w1, q.mono e1, qx.mono e1⟩
  · exact run_fnS (E := L2.WE W) fo hr bd (passAt tk σ) I2 rr q
/-! ### isinstance(a, (C, D, ..)), built-in classes -/
inductive BltEs (X : Cx) : List Expr → List Ty → Prop where
  | nil : BltEs X [] []
  | cons {e : Expr} {es : List Expr} {ty : Ty} {tys : List Ty} (h : PE X e (tC (.ty (tyN ty)))) (hs : ∀ x p, e ≠ .Starred x p) (r : BltEs X es tys) : BltEs X (e :: es) (ty :: tys)
theorem BltEs.pa {tys : List Ty} (h : BltEs X es tys) : PA X es (fun _ H Q => Q (tys.map fun t => .ty (tyN t)) H) := by
  induction h with
  | nil => exact pa_imp pa_nil fun s H Q h => h
  | cons h hs _ ih => exact pa_imp (pa_cons h ih (nostar hs)) fun s H Q q => q
theorem blt_paired : ∀ tys : List Ty, Paired ClsV (tys.map fun t => L2.V.ty (tyN t)) (tys.map fun t => Value.type (tyN t))
  | [] => .nil
  | t :: ts => .cons (.ty _) (blt_paired ts)
theorem blt_any {K : PySem.W.Frag} (k : Kd) : ∀ tys : List Ty, tys.all builtinTy = true → PySem.W.kitAny K (.type (kdN k)) (tys.map fun t => Value.type (tyN t)) = some (tys.any fun t => kdIs k t)
  | [], _ => rfl
  | t :: ts, h => by
    rw [List.all_cons, Bool.and_eq_true] at h
    rw [List.map_cons, List.any_cons]
    refine kitAny_cons (kit_ty (kd_kit k t h.1)) (fun z => ?_) fun z => by rw [z, Bool.true_or]
    rw [z, Bool.false_or]
    exact blt_any k ts h.2
theorem se_isbt {tys : List Ty} {tp : Pos} {k : Nat} (hK : X.K = w.K) (hg : Gl X "isinstance") (hm : X.mg "isinstance" = none) (hb : tys.all builtinTy = true) (hne : tys ≠ []) (hl : tys.length ≤ 100) (hc : BltEs X es tys)
    (ha : SE X w F W e t) (hs : ∀ x p, e ≠ .Starred x p) : SE X w F W (.Call (.Name "isinstance" p) [e, .Tuple es k tp] [] pos) (.isi t tys) := by
  have nt : ∀ x p, Expr.Tuple es k tp ≠ .Starred x p := by intro x p z; cases z
  refine pe_imp (pe_callB call_isEt hg hm (by decide +kernel) (pa_cons ha (pa_cons (pe_tup hc.pa) pa_nil (nostar nt)) (nostar hs)) (by decide) (by decide) (nostar hs) (noany (by intro e he x p hz; simp at he; subst he; exact nt x p hz))) fun s H Q h => ?_
  obtain ⟨f, r, G, env, h, P, Xp, S, E, wp, q, qx⟩ := h
  refine ⟨f, r, G, env, h, _, Xp, S, E, wp, fun v h1 u r1 G1 H1 w1 e1 S1 rv => ?_, qx⟩
  refine ⟨by rw [List.length_map, big_eq]; unfold big; omega, fun pt hpt => ?_⟩
  obtain ⟨S2, e2⟩ := S1.lay hpt (.tup (tys.map fun t => .ty (tyN t)))
  obtain ⟨kd, tx, w2⟩ := kd_of S2 (Rv.mono e2 _ _ rv) w1 hb hne
  exact ⟨u, pt, _, .type (kdN kd), _, _, rfl, upd_same, blt_paired tys, .inl (by rw [hK]; exact tx), blt_any kd tys hb, q _ h1 (.bl _) r1 _ _ w2 (e1.trans e2) S2 rfl⟩
end
end Hb

/-! CHK: a checker: this text of the small language is that def's body. -/
namespace Hb
open PySem PySem.Spec PyProof.Rows
open L2 hiding V Hp St
set_option autoImplicit false
/-! ### views -/
def optB {α : Type} (o : Option α) (f : α → Bool) : Bool := match o with
  | some a => f a
  | none => false
theorem optB_of {α : Type} {o : Option α} {f : α → Bool} (h : optB o f = true) : ∃ a, o = some a ∧ f a = true := by
  cases o with
  | none => cases h
  | some a => exact ⟨a, rfl, h⟩
theorem and_of {a b : Bool} (h : (a && b) = true) : a = true ∧ b = true := Bool.and_eq_true_iff.mp h
def asName : Expr → Option (Str × Pos)
  | .Name x p => some (x, p)
  | _ => none
theorem asName_of {e : Expr} {r : Str × Pos} (h : asName e = some r) : e = .Name r.1 r.2 := by
  cases e <;> first | (cases h; rfl) | cases h
def asConst : Expr → Option Const
  | .Constant c _ _ => some c
  | _ => none
theorem asConst_of {e : Expr} {r : Const} (h : asConst e = some r) : ∃ k p, e = .Constant r k p := by
  cases e <;> first | (cases h; exact ⟨_, _, rfl⟩) | cases h
def asBin : Expr → Option (Expr × Operator × Expr)
  | .BinOp a o b _ => some (a, o, b)
  | _ => none
theorem asBin_of {e : Expr} {r : Expr × Operator × Expr} (h : asBin e = some r) : ∃ p, e = .BinOp r.1 r.2.1 r.2.2 p := by
  cases e <;> first | (cases h; exact ⟨_, rfl⟩) | cases h
def asUn : Expr → Option (UnaryOp × Expr)
  | .UnaryOp o a _ => some (o, a)
  | _ => none
theorem asUn_of {e : Expr} {r : UnaryOp × Expr} (h : asUn e = some r) : ∃ p, e = .UnaryOp r.1 r.2 p := by
  cases e <;> first | (cases h; exact ⟨_, rfl⟩) | cases h
def asBool : Expr → Option (BoolOp × List Expr × Pos)
  | .BoolOp o es p => some (o, es, p)
  | _ => none
theorem asBool_of {e : Expr} {r : BoolOp × List Expr × Pos} (h : asBool e = some r) : e = .BoolOp r.1 r.2.1 r.2.2 := by
  cases e <;> first | (cases h; rfl) | cases h
def asIf : Expr → Option (Expr × Expr × Expr)
  | .IfExp c a b _ => some (c, a, b)
  | _ => none
theorem asIf_of {e : Expr} {r : Expr × Expr × Expr} (h : asIf e = some r) : ∃ p, e = .IfExp r.1 r.2.1 r.2.2 p := by
  cases e <;> first | (cases h; exact ⟨_, rfl⟩) | cases h
def asCmp1 : Expr → Option (Expr × CmpOp × Expr)
  | .Compare a [o] [b] _ => some (a, o, b)
  | _ => none
theorem asCmp1_of {e : Expr} {r : Expr × CmpOp × Expr} (h : asCmp1 e = some r) : ∃ p, e = .Compare r.1 [r.2.1] [r.2.2] p := by
  unfold asCmp1 at h
  split at h
  · cases h; exact ⟨_, rfl⟩
  · cases h
def asCmp2 : Expr → Option (Expr × CmpOp × CmpOp × Expr × Expr)
  | .Compare a [o, o'] [b, c] _ => some (a, o, o', b, c)
  | _ => none
theorem asCmp2_of {e : Expr} {r : Expr × CmpOp × CmpOp × Expr × Expr} (h : asCmp2 e = some r) : ∃ p, e = .Compare r.1 [r.2.1, r.2.2.1] [r.2.2.2.1, r.2.2.2.2] p := by
  unfold asCmp2 at h
  split at h
  · cases h; exact ⟨_, rfl⟩
  · cases h
def asCall : Expr → Option (Str × List Expr × List Keyword)
  | .Call (.Name x _) es ks _ => some (x, es, ks)
  | _ => none
theorem asCall_of {e : Expr} {r : Str × List Expr × List Keyword} (h : asCall e = some r) : ∃ p q, e = .Call (.Name r.1 p) r.2.1 r.2.2 q := by
  unfold asCall at h
  split at h
  · cases h; exact ⟨_, _, rfl⟩
  · cases h
/-- f(a), f(a, b) -/
def asCall1 : Expr → Option (Str × Expr)
  | .Call (.Name x _) [a] [] _ => some (x, a)
  | _ => none
theorem asCall1_of {e : Expr} {r : Str × Expr} (h : asCall1 e = some r) : ∃ p q, e = .Call (.Name r.1 p) [r.2] [] q := by
  unfold asCall1 at h
  split at h
  · cases h; exact ⟨_, _, rfl⟩
  · cases h
def asCall2 : Expr → Option (Str × Expr × Expr)
  | .Call (.Name x _) [a, b] [] _ => some (x, a, b)
  | _ => none
theorem asCall2_of {e : Expr} {r : Str × Expr × Expr} (h : asCall2 e = some r) : ∃ p q, e = .Call (.Name r.1 p) [r.2.1, r.2.2] [] q := by
  unfold asCall2 at h
  split at h
  · cases h; exact ⟨_, _, rfl⟩
  · cases h
def asCall3 : Expr → Option (Str × Expr × Expr × Expr)
  | .Call (.Name x _) [a, b, c] [] _ => some (x, a, b, c)
  | _ => none
theorem asCall3_of {e : Expr} {r : Str × Expr × Expr × Expr} (h : asCall3 e = some r) : ∃ p q, e = .Call (.Name r.1 p) [r.2.1, r.2.2.1, r.2.2.2] [] q := by
  unfold asCall3 at h
  split at h
  · cases h; exact ⟨_, _, rfl⟩
  · cases h
def asAttr : Expr → Option (Expr × Str)
  | .Attribute o y _ => some (o, y)
  | _ => none
theorem asAttr_of {e : Expr} {r : Expr × Str} (h : asAttr e = some r) : ∃ p, e = .Attribute r.1 r.2 p := by
  cases e <;> first | (cases h; exact ⟨_, rfl⟩) | cases h
def asMeth : Expr → Option (Expr × Str × Pos × List Expr × Pos)
  | .Call (.Attribute o m p) es [] q => some (o, m, p, es, q)
  | _ => none
theorem asMeth_of {e : Expr} {r : Expr × Str × Pos × List Expr × Pos} (h : asMeth e = some r) : e = .Call (.Attribute r.1 r.2.1 r.2.2.1) r.2.2.2.1 [] r.2.2.2.2 := by
  unfold asMeth at h
  split at h
  · cases h; rfl
  · cases h
def asSub : Expr → Option (Expr × Expr)
  | .Subscript a b _ => some (a, b)
  | _ => none
theorem asSub_of {e : Expr} {r : Expr × Expr} (h : asSub e = some r) : ∃ p, e = .Subscript r.1 r.2 p := by
  cases e <;> first | (cases h; exact ⟨_, rfl⟩) | cases h
def asCut : Expr → Option (Option Expr × Option Expr)
  | .Slice a b none _ => some (a, b)
  | _ => none
theorem asCut_of {e : Expr} {r : Option Expr × Option Expr} (h : asCut e = some r) : ∃ p, e = .Slice r.1 r.2 none p := by
  unfold asCut at h
  split at h
  · cases h; exact ⟨_, rfl⟩
  · cases h
/-- a[::-1] -/
def isRev : Expr → Bool
  | .Slice none none (some (.UnaryOp .USub (.Constant (.int 1) _ _) _)) _ => true
  | _ => false
theorem isRev_of {e : Expr} (h : isRev e = true) : ∃ k p1 p2 p3, e = .Slice none none (some (.UnaryOp .USub (.Constant (.int 1) k p1) p2)) p3 := by
  unfold isRev at h
  split at h
  · exact ⟨_, _, _, _, rfl⟩
  · cases h
def asTup : Expr → Option (List Expr)
  | .Tuple es _ _ => some es
  | _ => none
theorem asTup_of {e : Expr} {r : List Expr} (h : asTup e = some r) : ∃ k p, e = .Tuple r k p := by
  cases e <;> first | (cases h; exact ⟨_, _, rfl⟩) | cases h
def asLst : Expr → Option (List Expr)
  | .List es _ => some es
  | _ => none
theorem asLst_of {e : Expr} {r : List Expr} (h : asLst e = some r) : ∃ p, e = .List r p := by
  cases e <;> first | (cases h; exact ⟨_, rfl⟩) | cases h
def isEdic : Expr → Bool
  | .Dict [] [] _ => true
  | _ => false
theorem isEdic_of {e : Expr} (h : isEdic e = true) : ∃ p, e = .Dict [] [] p := by
  unfold isEdic at h
  split at h
  · exact ⟨_, rfl⟩
  · cases h
structure Lc where
  elt : Expr
  tg : Expr
  it : Expr
  ifs : List Expr
  sc : Scope
  pos : Pos
def asLc : Expr → Option Lc
  | .ListComp e [⟨t, i, f, 0⟩] s p => some ⟨e, t, i, f, s, p⟩
  | _ => none
theorem asLc_of {e : Expr} {r : Lc} (h : asLc e = some r) : e = .ListComp r.elt [⟨r.tg, r.it, r.ifs, 0⟩] r.sc r.pos := by
  unfold asLc at h
  split at h
  · cases h; rfl
  · cases h
structure Lc2 where
  elt : Expr
  tg : Expr
  it : Expr
  ifs : List Expr
  tg2 : Expr
  it2 : Expr
  ifs2 : List Expr
  sc : Scope
  pos : Pos
def asLc2 : Expr → Option Lc2
  | .ListComp e [⟨t, i, f, 0⟩, ⟨t2, i2, f2, 0⟩] s p => some ⟨e, t, i, f, t2, i2, f2, s, p⟩
  | _ => none
theorem asLc2_of {e : Expr} {r : Lc2} (h : asLc2 e = some r) : e = .ListComp r.elt [⟨r.tg, r.it, r.ifs, 0⟩, ⟨r.tg2, r.it2, r.ifs2, 0⟩] r.sc r.pos := by
  unfold asLc2 at h
  split at h
  · cases h; rfl
  · cases h
/-- {k: v for t0 in i0 for t1 in i1} -/
structure Dc2P where
  kx : Expr
  vx : Expr
  t0 : Expr
  i0 : Expr
  t1 : Expr
  i1 : Expr
  sc : Scope
  pos : Pos
def asDc2 : Expr → Option Dc2P
  | .DictComp k v [⟨t, i, [], 0⟩, ⟨t2, i2, [], 0⟩] s p => some ⟨k, v, t, i, t2, i2, s, p⟩
  | _ => none
theorem asDc2_of {e : Expr} {r : Dc2P} (h : asDc2 e = some r) : e = dcE r.kx r.vx r.t0 r.i0 r.t1 r.i1 r.sc r.pos := by
  unfold asDc2 at h
  split at h
  · cases h; rfl
  · cases h
def noStar : Expr → Bool
  | .Starred _ _ => false
  | _ => true
theorem noStar_of {e : Expr} (h : noStar e = true) : ∀ x p, e ≠ .Starred x p := by
  intro x p z
  subst z
  cases h
theorem noStars_of {es : List Expr} (h : es.all noStar = true) : ∀ e ∈ es, ∀ x p, e ≠ .Starred x p := fun e he => noStar_of (List.all_eq_true.mp h e he)
def noSlice : Expr → Bool
  | .Slice _ _ _ _ => false
  | _ => true
theorem noSlice_of {e : Expr} (h : noSlice e = true) : ∀ a b c p, e ≠ .Slice a b c p := by
  intro a b c p z
  subst z
  cases h
theorem plainIx_of {e : Expr} (h : noSlice e = true) : PlainIx e := by
  intro o i
  cases e <;> first | rfl | cases h
def noComp : Expr → Bool
  | .ListComp _ _ _ _ => false
  | .SetComp _ _ _ _ => false
  | .DictComp _ _ _ _ _ => false
  | _ => true
theorem noComp_of {e : Expr} (h : noComp e = true) (t : Option Expr) (l : Nat) (env : PySem.Env) : swapsWith e t l env = pure false := by
  cases e <;> first | rfl | cases h
def noSet : Expr → Bool
  | .Set _ _ _ => false
  | _ => true
theorem noSet_of {e : Expr} (h : noSet e = true) : ∀ env x, foldedSetIterable e env x = pure x := by
  intro env x
  cases e <;> first | rfl | cases h
theorem marks_of {e : Expr} {op : CmpOp} (h : noSet e = true) : behindInMarks op e = false := by
  cases e <;> first | rfl | cases h
/-- no swapped stores -/
def noSwap (tg e : Expr) : Bool := match e with
  | .Tuple _ _ _ => (match tg with | .Tuple _ _ _ => false | .List _ _ => false | _ => true)
  | _ => true
theorem noSwap_of {tg e : Expr} (h : noSwap tg e = true) (env : PySem.Env) : swappedStores [tg] e env = pure none := by
  unfold noSwap at h
  cases e <;> first | (cases tg <;> rfl) | (cases tg <;> first | rfl | cases h)
def isName : Expr → Bool
  | .Name _ _ => true
  | _ => false
theorem swap_of {tg e : Expr} (h : (noComp e || !isName tg) = true) (l : Nat) (env : PySem.Env) : swapsWithSole [tg] e l env = pure false := by
  rcases (Bool.or_eq_true _ _).mp h with h | h
  · exact noComp_of h _ _ _
  · show swapsWith e (some tg) l env = pure false
    cases e <;> first | rfl | (cases tg <;> first | rfl | cases h)
/-- a test by its value -/
def plainTest : Expr → Bool
  | .UnaryOp .Not _ _ => false
  | .BoolOp _ _ _ => false
  | .IfExp _ _ _ _ => false
  | .Compare _ _ _ _ => false
  | _ => true
theorem plainTest_of {e : Expr} (h : plainTest e = true) (env : PySem.Env) : ∀ whole, isTrue e env whole = (do let v ← whole; standAt e.pos; holding [v] (truthy v)) := by
  intro whole
  cases e with
  | UnaryOp o a p => cases o <;> first | rfl | cases h
  | BoolOp _ _ _ => cases h
  | IfExp _ _ _ _ => cases h
  | Compare _ _ _ _ => cases h
  | _ => rfl
end Hb

/-! CHK2: contexts, and the checker. -/
namespace Hb
open PySem PySem.Spec PyProof.Rows
open L2 hiding V Hp St
set_option autoImplicit false
/-! ### contexts -/
/-- a class: its number, its name, its maker, its methods, its fields -/
structure Kl where
  c : Nat
  x : Str
  mkr : List Nat
  ms : List (Str × Nat)
  fs : List Nat
structure Tb where
  fns : List (Str × List Str × List (Nat × List Str × List Nat))
  gcs : List (Str × D)
  bls : List Str
  kls : List Kl
  ats : List Str
  xcs : List (Nat × Str × Bool)
  hue : List Str
  gds : Bool := false
structure KlOk (mg : Str → Option Value) (w : Wo) (k : Kl) : Prop where
  cls : Cls w.K (w.ca k.c)
  at_ : mg k.x = some (.ref (w.ca k.c))
  mkr : ∀ g ∈ k.mkr, L2.Mk w.K (w.ca k.c) (w.fa g)
  ms : ∀ q ∈ k.ms, Meth w.K (w.ca k.c) q.1 (w.fa q.2) ∧ ∀ i, w.an i ≠ q.1
  fs : ∀ i ∈ k.fs, NoAttr w.K (w.ca k.c) (w.an i)
/-- a class of errors: its number, its name; whether it is made with a text alone -/
structure XkOk (mg : Str → Option Value) (w : Wo) (q : Nat × Str × Bool) : Prop where
  mem : q.1 ∈ w.xc
  at_ : mg q.2.1 = some (.ref (w.ca q.1))
  mak : q.2.2 = true → PySem.W.excIn w.K (w.ca q.1) He.veBase "ValueError.__new__" = true ∧ PySem.W.keepIn w.K (.ref (w.ca q.1)) = true ∧ PySem.W.subIn w.K (.ref (w.ca q.1)) (.type "BaseException") = some true ∧ PySem.W.typeIn w.K (.ref (w.ca q.1)) = some (.type "type")
structure XsOk (mg : Str → Option Value) (w : Wo) (tb : Tb) : Prop where
  xo : tb.hue = [] ∨ XcOk w
  hue : ∀ x ∈ tb.hue, mg x = some (.ref w.hu)
  xcs : ∀ q ∈ tb.xcs, XkOk mg w q
structure Cc where
  N : List Str
  nm : List (Str × NameKind)
  own : Option (List (Str × NameKind))
structure CtxOk (X : Cx) (w : Wo) (F : Phi) (tb : Tb) (cc : Cc) : Prop where
  hK : X.K = w.K
  hN : X.N = cc.N
  nd : cc.N.Nodup
  nm : X.env.scope.names = cc.nm
  kd : X.env.scope.kind = .function
  calm : X.calm = true
  un : X.A.units + 65 < cLine
  defs : ∃ k, Room (k + 1) X.A ∧ ∀ (g : Nat) x ps kws, tb.fns[g]? = some (x, ps, kws) → DefOk X.prog X.w X.mg X.base k w F g x ps kws
  gcs : ∀ (g : Nat) x c, tb.gcs[g]? = some (x, c) → ∃ u v, X.mg x = some u ∧ RelV v u ∧ ∀ G, Rp w.K G c v
  bls : ∀ x ∈ tb.bls, X.mg x = none
  kls : ∀ k ∈ tb.kls, KlOk X.mg w k
  ats : ∀ (i : Nat) x, tb.ats[i]? = some x → w.an i = x
  xs : XsOk X.mg w tb
  gds : tb.gds = true → X.A.guards = some []
  top : cc.own = none → X.stack = X.env :: X.outer ∧ X.env.frame = some X.env.locals ∧ X.ex = []
  fn : match cc.own with
    | none => ∀ x, X.fn x = true
    | some n0 => ∀ x, X.fn x = (n0.lookup x == some .cell)
def visB (cc : Cc) (x : Str) : Bool := (match cc.nm.lookup x with | some .local => true | some .cell => true | some .free => true | _ => false) && !(x == ("__debug__" : Str)) && !(x == ("__classdict__" : Str))
def locB (cc : Cc) (x : Str) : Bool := match cc.nm.lookup x with | some .local => true | some .cell => true | _ => false
def glB (cc : Cc) (x : Str) : Bool := (match cc.nm.lookup x with | some .globalImplicit => true | _ => false) && !(x == ("__debug__" : Str))
def blB (tb : Tb) (cc : Cc) (x : Str) : Bool := glB cc x && decide (x ∈ tb.bls) && decide (x ≠ "__name__")
def fnB (cc : Cc) (x : Str) : Bool := match cc.own with
  | none => true
  | some n0 => decide (cc.nm.lookup x = some .local) || (n0.lookup x == some .cell)
/-- the slot of a name that is stored -/
def slotB (cc : Cc) (i : Nat) (x : Str) : Bool := decide (cc.N[i]? = some x) && locB cc x && fnB cc x
section
variable {X : Cx} {w : Wo} {F : Phi} {tb : Tb} {cc : Cc}
theorem CtxOk.vis (c : CtxOk X w F tb cc) {x : Str} (h : visB cc x = true) : Vis X.env.scope x ∧ (x == ("__debug__" : Str)) = false ∧ (x == ("__classdict__" : Str)) = false := by
  obtain ⟨h, h3⟩ := and_of h
  obtain ⟨h, h2⟩ := and_of h
  refine ⟨?_, by simpa using h2, by simpa using h3⟩
  unfold Vis
  rw [c.nm]
  split at h <;> first | cases h | skip
  · exact .inl (by assumption)
  · exact .inr (.inl (by assumption))
  · exact .inr (.inr (by assumption))
theorem CtxOk.loc (c : CtxOk X w F tb cc) {x : Str} (h : locB cc x = true) : L2.Loc X.env.scope x := by
  unfold L2.Loc
  rw [c.nm]
  unfold locB at h
  split at h <;> first | cases h | skip
  · exact .inl (by assumption)
  · exact .inr (by assumption)
theorem CtxOk.gl (c : CtxOk X w F tb cc) {x : Str} (h : glB cc x = true) : Gl X x ∧ (x == ("__debug__" : Str)) = false := by
  obtain ⟨h, h2⟩ := and_of h
  refine ⟨?_, by simpa using h2⟩
  show X.env.scope.names.lookup x = some .globalImplicit
  rw [c.nm]
  split at h <;> first | assumption | cases h
theorem CtxOk.bl (c : CtxOk X w F tb cc) {x : Str} (h : blB tb cc x = true) : Gl X x ∧ X.mg x = none ∧ x ≠ "__name__" ∧ (x == ("__debug__" : Str)) = false := by
  obtain ⟨h, h3⟩ := and_of h
  obtain ⟨h, h2⟩ := and_of h
  obtain ⟨g1, g2⟩ := c.gl h
  exact ⟨g1, c.bls x (of_decide_eq_true h2), of_decide_eq_true h3, g2⟩
theorem CtxOk.slot (c : CtxOk X w F tb cc) {i : Nat} {x : Str} (h : slotB cc i x = true) : X.N.Nodup ∧ X.N[i]? = some x ∧ L2.Loc X.env.scope x ∧ (X.fn x = true ∨ X.env.scope.names.lookup x = some .local) := by
  obtain ⟨h, h3⟩ := and_of h
  obtain ⟨h, h2⟩ := and_of h
  refine ⟨by rw [c.hN]; exact c.nd, by rw [c.hN]; exact of_decide_eq_true h, c.loc h2, ?_⟩
  have f := c.fn
  unfold fnB at h3
  rw [c.nm]
  cases e : cc.own with
  | none => rw [e] at f; exact .inl (f x)
  | some n0 =>
    rw [e] at f h3
    have h3 : (decide (cc.nm.lookup x = some .local) || (n0.lookup x == some .cell)) = true := h3
    rcases (Bool.or_eq_true _ _).mp h3 with h | h
    · exact .inr (of_decide_eq_true h)
    · exact .inl ((f x).trans h)
/-! ### the block of a comprehension -/
def relN (nm : List (Str × NameKind)) (scope : Scope) : List (Str × NameKind) := scope.names.map fun (n, k) => if (k == NameKind.free && nm.lookup n == some .cell) then (n, NameKind.cell) else (n, k)
def blkCc (cc : Cc) (scope : Scope) : Cc := ⟨cc.N, relN cc.nm scope, some scope.names⟩
/-- the block's own names with their slots -/
def ownB (N : List Str) (scope : Scope) : List Nat → List (Str × Nat) := fun ws => ws.map fun i => (N.getD i "", i)
theorem ownB_map (N : List Str) (scope : Scope) (ws : List Nat) : (ownB N scope ws).map (·.2) = ws := by
  unfold ownB
  rw [List.map_map]
  exact List.map_id ws
def blkB (cc : Cc) (scope : Scope) (ws : List Nat) : Bool := blkC cc.N ⟨.function, cc.nm, false, false, []⟩ scope (ownB cc.N scope ws)
theorem CtxOk.blkOk (c : CtxOk X w F tb cc) {scope : Scope} {ws : List Nat} (h : blkB cc scope ws = true) : BlkOk X.N X.env.scope scope (ownB cc.N scope ws) := by
  have b := blkOk_by h
  refine ⟨b.kind, b.uniq, by rw [c.hN]; exact b.ix, ?_, by rw [c.hN]; exact b.own⟩
  rw [c.nm]
  exact b.free
theorem CtxOk.blk (c : CtxOk X w F tb cc) {scope : Scope} (hk : scope.kind = .function) (s : Shared) (H : L2.Hp) (C : Addr) (cl : List (Str × Addr)) (fp : List Addr) : CtxOk (X.blk s H scope (compEnvC scope cl C X.env) fp) w F tb (blkCc cc scope) where
  hK := c.hK
  hN := c.hN
  nd := c.nd
  nm := by
    show (relabel scope X.env).names = relN cc.nm scope
    unfold relabel relN
    have e : ∀ n, X.env.kindOf n = cc.nm.lookup n := fun n => by show X.env.scope.names.lookup n = _; rw [c.nm]
    simp only [c.kd, e]
    simp
  kd := by
    show (relabel scope X.env).kind = .function
    exact hk
  calm := c.calm
  un := c.un
  defs := c.defs
  gcs := c.gcs
  bls := c.bls
  kls := c.kls
  ats := c.ats
  xs := c.xs
  gds := c.gds
  top := fun z => nomatch z
  fn := fun _ => rfl
/-- within try -/
theorem CtxOk.tr (c : CtxOk X w F tb cc) (pn : List (Addr × Obj)) (xe : Value → Shared → Prop) : CtxOk (X.tr pn xe) w F tb cc where
  hK := c.hK
  hN := c.hN
  nd := c.nd
  nm := c.nm
  kd := c.kd
  calm := c.calm
  un := c.un
  defs := c.defs
  gcs := c.gcs
  bls := c.bls
  kls := c.kls
  ats := c.ats
  xs := c.xs
  gds := c.gds
  top := c.top
  fn := c.fn
theorem blkB_kind {scope : Scope} {ws : List Nat} (h : blkB cc scope ws = true) : scope.kind = .function := (blkOk_by h).kind
end
end Hb

/-! CHK3: the checker's steps, and that they are sound. -/
namespace Hb
open PySem PySem.Spec PyProof.Rows
open L2 hiding V Hp St
set_option autoImplicit false
structure Rec where
  E : Cc → Expr → T → Bool
  Tt : Cc → Expr → T → Bool
  G : Cc → Expr → T → Bool
  C : Cc → List Nat → Expr → T → Bool
  Ss : Cc → List Stmt → T → Bool
/-! ### operations -/
def opB : Operator → Option O2
  | .Add => some .add | .Sub => some .sub | .Mult => some .mul | .FloorDiv => some .fdiv | .Mod => some .mod | .Pow => some .pow | _ => none
def opC : CmpOp → O2
  | .Eq => .eq | .NotEq => .ne | .Lt => .lt | .LtE => .le | .Gt => .gt | .GtE => .ge | .Is => .is | .IsNot => .isnot | .In => .in_ | .NotIn => .notin
def c1n : O1 → Option Str
  | .len => some "len" | .sorted => some "sorted" | .all => some "all" | .any => some "any" | .sum => some "sum" | .min => some "min" | .max => some "max" | _ => none
def t1n : O1 → Option Str
  | .tuple => some "tuple" | .list => some "list" | .int => some "int" | .str => some "str" | _ => none
def c2n : O2 → Option Str
  | .min2 => some "min" | .max2 => some "max" | _ => none
def augO : Operator → Option O2
  | .Add => some .add | .Sub => some .sub | .Mult => some .mul | _ => none
section
variable {X : Cx} {w : Wo} {F : Phi} {W : WX} {tb : Tb} {cc : Cc}
theorem rC1_imp {f : Value} {r r' : L2.V → L2.Hp → VK → Prop} (h : CallR X f (rC1 r)) (i : ∀ x H Q, r' x H Q → r x H Q) : CallR X f (rC1 r') := callr_imp h fun xs H Q ⟨x, e, q⟩ => ⟨x, e, i x H Q q⟩
theorem rC2_imp {f : Value} {r r' : R2} (h : CallR X f (rC2 r)) (i : ∀ x y H Q, r' x y H Q → r x y H Q) : CallR X f (rC2 r') := callr_imp h fun xs H Q ⟨x, y, e, q⟩ => ⟨x, y, e, i x y H Q q⟩
theorem kD1 {f : Value} {o : O1} (hK : X.K = w.K) (hd : dat1 o = true) (h : CallR X f (rC1 (rD1 X.K (op1 o)))) : CallR X f (rC1 (rO1 w (o1V o))) := rC1_imp h fun x H Q q => by rw [hK]; exact r1_of (dat1_of hd) q
theorem kF1 {f : Value} {o : O1} (hK : X.K = w.K) (hd : dat1 o = true) (h : CallR X f (rC1 (rF1 X.K (op1 o)))) : CallR X f (rC1 (rO1 w (o1V o))) := rC1_imp h fun x H Q q => by rw [hK]; exact rD1_F (r1_of (dat1_of hd) q)
theorem kD2 {f : Value} {o : O2} (hK : X.K = w.K) (hd : dat2 o = true) (h : CallR X f (rC2 (rD2 X.K (op2 o)))) : CallR X f (rC2 (rO2 w (o2V o))) := rC2_imp h fun x y H Q q => by rw [hK]; exact r2_of (dat2_of hd) q
theorem pD2 {f : Value → Value → Sem Value} {o : O2} (hK : X.K = w.K) (hd : dat2 o = true) (h : OpR X f (rD2 X.K (op2 o))) : OpR X f (rO2 w (o2V o)) := opr_imp h fun x y H Q q => by rw [hK]; exact r2_of (dat2_of hd) q
theorem c1_ok (c : CtxOk X w F tb cc) {o : O1} {x : Str} (h : c1n o = some x) : ∃ id, bootBuiltins x = some (.builtin id) ∧ CallR X (.builtin id) (rC1 (rO1 w (o1V o))) := by
  cases o <;> first | cases h | skip
  · exact ⟨"len", by decide +kernel, k_len c.hK⟩
  · exact ⟨"sorted", by decide +kernel, kF1 c.hK rfl (k_sorted c.un)⟩
  · exact ⟨"all", by decide +kernel, kD1 c.hK rfl (k_all c.calm)⟩
  · exact ⟨"any", by decide +kernel, kD1 c.hK rfl (k_any c.calm)⟩
  · exact ⟨"sum", by decide +kernel, kD1 c.hK rfl (k_sum c.calm)⟩
  · exact ⟨"min", by decide +kernel, kD1 c.hK rfl (k_min c.calm c.un)⟩
  · exact ⟨"max", by decide +kernel, kD1 c.hK rfl (k_max c.calm c.un)⟩
theorem t1_ok (c : CtxOk X w F tb cc) {o : O1} {x : Str} (h : t1n o = some x) : ∃ id, bootBuiltins x = some (.type id) ∧ CallR X (.type id) (rC1 (rO1 w (o1V o))) := by
  cases o <;> first | cases h | skip
  · exact ⟨"tuple", by decide +kernel, kD1 c.hK rfl k_tuple⟩
  · exact ⟨"list", by decide +kernel, kF1 c.hK rfl k_list⟩
  · exact ⟨"int", by decide +kernel, kD1 c.hK rfl k_int⟩
  · exact ⟨"str", by decide +kernel, kD1 c.hK rfl k_str⟩
theorem c2_ok (c : CtxOk X w F tb cc) {o : O2} {x : Str} (h : c2n o = some x) : ∃ id, bootBuiltins x = some (.builtin id) ∧ CallR X (.builtin id) (rC2 (rO2 w (o2V o))) := by
  cases o <;> first | cases h | skip
  · exact ⟨"min", by decide +kernel, kD2 c.hK rfl (k_min2 c.calm)⟩
  · exact ⟨"max", by decide +kernel, kD2 c.hK rfl (k_max2 c.calm)⟩
theorem bin_ok (c : CtxOk X w F tb cc) {op : Operator} {o : O2} (h : opB op = some o) : OpR X (binaryOp op) (rO2 w (o2V o)) := by
  cases op <;> first | (cases h; done) | (cases h; skip)
  · exact pD2 c.hK rfl p_add
  · exact pD2 c.hK rfl p_sub
  · exact pD2 c.hK rfl p_mul
  · exact pD2 c.hK rfl p_mod
  · exact pD2 c.hK rfl p_pow
  · exact pD2 c.hK rfl p_fdiv
theorem cmp_ok (c : CtxOk X w F tb cc) (op : CmpOp) : OpR X (compareOp op) (rO2 w (o2V (opC op))) := by
  cases op
  · exact pD2 c.hK rfl (p_eq c.un)
  · exact pD2 c.hK rfl (p_ne c.un)
  · exact pD2 c.hK rfl (p_lt c.un)
  · exact pD2 c.hK rfl (p_le c.un)
  · exact pD2 c.hK rfl (p_gt c.un)
  · exact pD2 c.hK rfl p_ge
  · exact p_is
  · exact p_isnot
  · exact pD2 c.hK rfl (p_in c.un)
  · exact pD2 c.hK rfl (p_notin c.un)
theorem aug_ok {op : Operator} {o : O2} (h : augO op = some o) : PIp X op (rAug w o) := by
  cases op <;> first | (cases h; done) | (cases h; skip)
  · exact ip_add'
  · exact ip_sub'
  · exact ip_mul'
end
/-! ### expressions, part by part -/
section
variable (rc : Rec) (tb : Tb) (cc : Cc)
def kVar (i : Nat) (e : Expr) : Bool := optB (asName e) fun r => decide (cc.N[i]? = some r.1) && visB cc r.1
def constB (c : D) (k : Const) : Bool := match c, k with
  | .none, .none => true
  | .bool a, .bool b => a == b
  | .int a, .int b => a == b
  | .str a, .str b => decide (a = b)
  | _, _ => false
def kCon (c : D) (e : Expr) : Bool := optB (asConst e) fun k => constB c k
def kGco (g : Nat) (c : D) (e : Expr) : Bool := optB (asName e) fun r => glB cc r.1 && tb.gcs.any fun q => decide (q.1 = r.1) && eqD q.2 c
def kFnv (g : Nat) (e : Expr) : Bool := optB (asName e) fun r => glB cc r.1 && decide (r.1 ≠ "") && optB tb.fns[g]? fun q => decide (q.1 = r.1)
def kO1 (o : O1) (e : Expr) (t : T) : Bool := match o with
  | .neg => optB (asUn e) fun r => decide (r.1 = .USub) && rc.E cc r.2 t
  | .rev => optB (asSub e) fun r => isRev r.2 && rc.E cc r.1 t
  | .lrange => optB (asCall1 e) fun r => decide (r.1 = "list") && blB tb cc "list" && optB (asCall1 r.2) fun q => decide (q.1 = "range") && blB tb cc "range" && noStar q.2 && rc.E cc q.2 t
  | .repr => tb.gds && optB (asCall1 e) fun r => decide (r.1 = "repr") && blB tb cc "repr" && noStar r.2 && rc.E cc r.2 t
  | .setlen => optB (asCall1 e) fun r => decide (r.1 = "len") && blB tb cc "len" && optB (asCall1 r.2) fun q => decide (q.1 = "set") && blB tb cc "set" && noStar q.2 && rc.E cc q.2 t
  | .sset => optB (asCall1 e) fun r => decide (r.1 = "sorted") && blB tb cc "sorted" && optB (asCall1 r.2) fun q => decide (q.1 = "set") && blB tb cc "set" && noStar q.2 && rc.E cc q.2 t
  | .trange => optB (asCall1 e) fun r => decide (r.1 = "tuple") && blB tb cc "tuple" && optB (asCall1 r.2) fun q => decide (q.1 = "range") && blB tb cc "range" && noStar q.2 && rc.E cc q.2 t
  | o => (optB (c1n o) fun x => optB (asCall1 e) fun r => decide (r.1 = x) && blB tb cc x && noStar r.2 && rc.E cc r.2 t) ||
      (optB (t1n o) fun x => optB (asCall1 e) fun r => decide (r.1 = x) && blB tb cc x && noStar r.2 && rc.E cc r.2 t)
def kO2 (o : O2) (e : Expr) (t1 t2 : T) : Bool := match o with
  | .idx => optB (asSub e) fun r => noSlice r.2 && rc.E cc r.1 t1 && rc.E cc r.2 t2
  | .cutlo => optB (asSub e) fun r => optB (asCut r.2) fun q => optB q.1 fun b => q.2.isNone && rc.E cc r.1 t1 && rc.E cc b t2
  | .cuthi => optB (asSub e) fun r => optB (asCut r.2) fun q => optB q.2 fun b => q.1.isNone && rc.E cc r.1 t1 && rc.E cc b t2
  | .lrange2 => optB (asCall1 e) fun r => decide (r.1 = "list") && blB tb cc "list" && optB (asCall2 r.2) fun q => decide (q.1 = "range") && blB tb cc "range" && noStar q.2.1 && noStar q.2.2 && rc.E cc q.2.1 t1 && rc.E cc q.2.2 t2
  | o => (optB (asBin e) fun r => decide (opB r.2.1 = some o) && rc.E cc r.1 t1 && rc.E cc r.2.2 t2) ||
      (optB (asCmp1 e) fun r => decide (opC r.2.1 = o) && noSet r.2.2 && rc.E cc r.1 t1 && rc.E cc r.2.2 t2) ||
      (optB (c2n o) fun x => optB (asCall2 e) fun r => decide (r.1 = x) && blB tb cc x && noStar r.2.1 && noStar r.2.2 && rc.E cc r.2.1 t1 && rc.E cc r.2.2 t2)
def kO3 (e : Expr) (t1 t2 t3 : T) : Bool := optB (asSub e) fun r => optB (asCut r.2) fun q => optB q.1 fun b => optB q.2 fun c => rc.E cc r.1 t1 && rc.E cc b t2 && rc.E cc c t3
def kOwn (e : Expr) (t : T) : Bool := match t with
  | .o1 .list a => optB (asCall1 e) fun r => decide (r.1 = "list") && blB tb cc "list" && noStar r.2 && rc.E cc r.2 a
  | .o1 .sorted a => optB (asCall1 e) fun r => decide (r.1 = "sorted") && blB tb cc "sorted" && noStar r.2 && rc.E cc r.2 a
  | .o1 .lrange a => optB (asCall1 e) fun r => decide (r.1 = "list") && blB tb cc "list" && optB (asCall1 r.2) fun q => decide (q.1 = "range") && blB tb cc "range" && noStar q.2 && rc.E cc q.2 a
  | .o2 .add a b => optB (asBin e) fun r => decide (r.2.1 = .Add) && rc.E cc r.1 a && rc.E cc r.2.2 b
  | .o2 .mul a b => optB (asBin e) fun r => decide (r.2.1 = .Mult) && rc.E cc r.1 a && rc.E cc r.2.2 b
  | .o2 .cutlo a b => optB (asSub e) fun r => optB (asCut r.2) fun q => optB q.1 fun d => q.2.isNone && rc.E cc r.1 a && rc.E cc d b
  | .o2 .cuthi a b => optB (asSub e) fun r => optB (asCut r.2) fun q => optB q.2 fun d => q.1.isNone && rc.E cc r.1 a && rc.E cc d b
  | .o3 .cut a b d => optB (asSub e) fun r => optB (asCut r.2) fun q => optB q.1 fun e1 => optB q.2 fun e2 => rc.E cc r.1 a && rc.E cc e1 b && rc.E cc e2 d
  | _ => false
def kAs : List Expr → T → Bool
  | [], .nil => true
  | e :: es, .cons t r => noStar e && rc.E cc e t && kAs es r
  | _, _ => false
def kKs : List Keyword → T → Bool
  | [], .nil => true
  | k :: ks, .cons t r => rc.E cc k.value t && kKs ks r
  | _, _ => false
/-- and, or as values -/
def kVs (op : BoolOp) (p : Pos) : List Expr → T → Bool
  | [], _ => false
  | [a], t => rc.E cc a t
  | a :: b :: rest, t => (match t with
    | .and t1 t2 => decide (op = .And) && rc.E cc a t1 && kVs op p (b :: rest) t2
    | .or t1 t2 => decide (op = .Or) && rc.E cc a t1 && kVs op p (b :: rest) t2
    | .orl t1 t2 => decide (op = .Or) && rc.E cc a t1 && kVs op p (b :: rest) t2
    | _ => false)
def kWs (op : BoolOp) (p : Pos) : List Expr → T → Bool
  | [], _ => false
  | [a], t => rc.Tt cc a t
  | a :: b :: rest, t => (match t with
    | .and t1 t2 => decide (op = .And) && rc.Tt cc a t1 && kWs op p (b :: rest) t2
    | .or t1 t2 => decide (op = .Or) && rc.Tt cc a t1 && kWs op p (b :: rest) t2
    | _ => false)
def kChn (o p : O2) (e : Expr) (t1 t2 t3 : T) : Bool := optB (asCmp2 e) fun r => decide (opC r.2.1 = o) && decide (opC r.2.2.1 = p) && noSet r.2.2.2.2 && rc.E cc r.1 t1 && rc.E cc r.2.2.2.1 t2 && rc.E cc r.2.2.2.2 t3
/-- a class of errors by its name -/
def clsB (e : Expr) (ty : Ty) : Bool := optB (asName e) fun q => match ty with
  | .own c => glB cc q.1 && tb.xcs.any fun k => decide (k.1 = c) && decide (k.2.1 = q.1)
  | .hue => glB cc q.1 && decide (q.1 ∈ tb.hue)
  | .verr => blB tb cc q.1 && decide (q.1 = "ValueError")
  | _ => false
def clssB : List Expr → List Ty → Bool
  | [], [] => true
  | e :: es, t :: ts => clsB tb cc e t && clssB es ts
  | _, _ => false
def kIsi (e : Expr) (t : T) (tys : List Ty) : Bool := optB (asCall2 e) fun r => decide (r.1 = "isinstance") && blB tb cc "isinstance" && noStar r.2.1 && rc.E cc r.2.1 t && ((match tys with
  | [ty] => (optB (asName r.2.2) fun q => blB tb cc q.1 && builtinTy ty && decide (q.1 = Str.ofString (tyN ty))) || (!tb.hue.isEmpty && clsB tb cc r.2.2 ty)
  | _ => false) || (!tb.hue.isEmpty && decide (tys.length ≤ 100) && optB (asTup r.2.2) fun es => clssB tb cc es tys))
def bltsB : List Expr → List Ty → Bool
  | [], [] => true
  | e :: es, t :: ts => (optB (asName e) fun q => blB tb cc q.1 && builtinTy t && decide (q.1 = Str.ofString (tyN t))) && bltsB es ts
  | _, _ => false
def kIsb (e : Expr) (t : T) (tys : List Ty) : Bool := optB (asCall2 e) fun r => decide (r.1 = "isinstance") && blB tb cc "isinstance" && noStar r.2.1 && rc.E cc r.2.1 t && (!tys.isEmpty && decide (tys.length ≤ 100)) && optB (asTup r.2.2) fun es => bltsB tb cc es tys
/-- methods of texts -/
def smN : Sm → Str
  | .join => "join" | .split => "split"
def kSmt (m : Sm) (e : Expr) (a b : T) : Bool := optB (asMeth e) fun r => decide (r.2.1 = smN m) && textBase r.1 && (r.2.2.1.endLine == r.2.2.2.2.line) && rc.E cc r.1 a && (match r.2.2.2.1 with
  | [x] => noStar x && rc.E cc x b
  | _ => false)
/-- parts of an f-text -/
def jpB (e : Expr) (t : T) : Bool := match e, t with
  | .Constant (.str m) _ _, .con (.str z) => decide (m = z) && decide (z.length ≤ 100000)
  | .FormattedValue e k none _, .o1 .fmt t => decide (k = -1) && rc.E cc e t
  | _, _ => false
def kJs0 (e : Expr) (t1 t2 : T) : Bool := match e with
  | .JoinedStr [a, b] _ => jpB rc cc a t1 && jpB rc cc b t2
  | .JoinedStr [a, b, d] _ => (match t1 with
    | .o2 .add u v => jpB rc cc a u && jpB rc cc b v && jpB rc cc d t2
    | _ => false)
  | _ => false
def kJs (o : O2) (e : Expr) (t1 t2 : T) : Bool := decide (o = .add) && kJs0 rc cc e t1 t2
def kCallf (i : Nat) (fs : List Nat) (e : Expr) (t : T) : Bool := optB (asCall e) fun r => decide (cc.N[i]? = some r.1) && visB cc r.1 && r.2.2.isEmpty && !r.2.1.isEmpty && fs.all (fun g => optB tb.fns[g]? fun q => decide (tlen t = q.2.1.length)) && kAs rc cc r.2.1 t
/-- the arguments' number is right where all are there -/
def permB (ord : List Nat) (n np : Nat) : Bool := ord.all (fun i => decide (i < n)) && decide (ord.length = np)
def kCall (g : Nat) (e : Expr) (t : T) : Bool := optB (asCall e) fun r => optB tb.fns[g]? fun q => decide (q.1 = r.1) && decide (r.1 ≠ "") && glB cc r.1 && r.2.2.isEmpty && decide (tlen t = q.2.1.length) && kAs rc cc r.2.1 t
def kCallk (g : Nat) (e : Expr) (t1 t2 : T) (ord : List Nat) : Bool := optB (asCall e) fun r => optB tb.fns[g]? fun q => decide (q.1 = r.1) && decide (r.1 ≠ "") && glB cc r.1 && kAs rc cc r.2.1 t1 && kKs rc cc r.2.2 t2 &&
  (q.2.2.any fun kw => decide (kw.1 = tlen t1) && decide (kw.2.2 = ord) && decide (r.2.2.map (·.arg) = kw.2.1.map some) && decide (tlen t2 = kw.2.1.length) && permB ord (kw.1 + kw.2.1.length) q.2.1.length)
def kDget (e : Expr) (a b : T) : Bool := optB (asMeth e) fun r => decide (r.2.1 = "get") && plainBase r.1 && (r.2.2.1.endLine == r.2.2.2.2.line) && rc.E cc r.1 a && (match r.2.2.2.1 with
  | [x] => noStar x && rc.E cc x b
  | _ => false)
def kIxof (tp : Bool) (e : Expr) (a b : T) : Bool := !tp && optB (asMeth e) fun r => decide (r.2.1 = "index") && plainBase r.1 && (r.2.2.1.endLine == r.2.2.2.2.line) && rc.E cc r.1 a && (match r.2.2.2.1 with
  | [x] => noStar x && rc.E cc x b
  | _ => false)
def kDget2 (e : Expr) (a b c : T) : Bool := optB (asMeth e) fun r => decide (r.2.1 = "get") && plainBase r.1 && (r.2.2.1.endLine == r.2.2.2.2.line) && rc.E cc r.1 a && (match r.2.2.2.1 with
  | [x, y] => noStar x && noStar y && rc.E cc x b && rc.E cc y c
  | _ => false)
def kFld (c f : Nat) (e : Expr) (o : T) : Bool := optB (asAttr e) fun r => recvB r.1 && decide (tb.ats[f]? = some r.2) && (tb.kls.any fun k => decide (k.c = c) && decide (f ∈ k.fs)) && rc.E cc r.1 o
def kMake (c g : Nat) (e : Expr) (t : T) : Bool := optB (asCall e) fun r => optB tb.fns[g]? fun q => r.2.2.isEmpty && glB cc r.1 && (tb.kls.any fun k => decide (k.c = c) && decide (k.x = r.1) && decide (g ∈ k.mkr)) && decide (tlen t + 1 = q.2.1.length) && kAs rc cc r.2.1 t
def kMeth (c g : Nat) (e : Expr) (o t : T) : Bool := optB (asMeth e) fun r => optB tb.fns[g]? fun q => recvB r.1 && (r.2.2.1.endLine == r.2.2.2.2.line) && (tb.kls.any fun k => decide (k.c = c) && decide ((r.2.1, g) ∈ k.ms)) && decide (tlen t + 1 = q.2.1.length) && decide (r.2.2.2.1.length < 30) && rc.E cc r.1 o && kAs rc cc r.2.2.2.1 t
def muN : Mu → Option (Str × Nat)
  | .append => some ("append", 1) | .extend => some ("extend", 1) | .pop => some ("pop", 0) | .popat => some ("pop", 1) | .insert => some ("insert", 2) | .reverse => some ("reverse", 0) | _ => none
def kMut (m : Mu) (e : Expr) (o args : T) : Bool := optB (muN m) fun q => optB (asMeth e) fun r => decide (r.2.1 = q.1) && decide (r.2.2.2.1.length = q.2) && plainBase r.1 && (r.2.2.1.endLine == r.2.2.2.2.line) && rc.E cc r.1 o && kAs rc cc r.2.2.2.1 args
def isTupE : Expr → Bool
  | .Tuple _ _ _ => true
  | _ => false
def kIt (tg e : Expr) (t : T) : Bool := match t with
  | .itv a => rc.E cc e a
  | .rng1 a => optB (asCall1 e) fun r => decide (r.1 = "range") && blB tb cc "range" && noStar r.2 && rc.E cc r.2 a
  | .rng2 a b => optB (asCall2 e) fun r => decide (r.1 = "range") && blB tb cc "range" && noStar r.2.1 && noStar r.2.2 && rc.E cc r.2.1 a && rc.E cc r.2.2 b
  | .rngd a b => optB (asCall3 e) fun r => decide (r.1 = "range") && blB tb cc "range" && noStar r.2.1 && noStar r.2.2.1 && noStar r.2.2.2 && rc.E cc r.2.1 a && rc.E cc r.2.2.1 b && rc.E cc r.2.2.2 (.o1 .neg (.con (.int 1)))
  | .enm k a => decide (k = 0) && isTupE tg && optB (asCall1 e) fun r => decide (r.1 = "enumerate") && blB tb cc "enumerate" && noStar r.2 && rc.E cc r.2 a
  | .zip2 a b => isTupE tg && optB (asCall2 e) fun r => decide (r.1 = "zip") && blB tb cc "zip" && noStar r.2.1 && noStar r.2.2 && rc.E cc r.2.1 a && rc.E cc r.2.2 b
  | _ => false
def kTs : List Expr → T → Bool
  | [], .nil => true
  | [e], .cons t .nil => rc.Tt cc e t
  | _, _ => false
end
section
variable (rc : Rec) (tb : Tb) (cc : Cc)
def kLc (l : Lc) (it tg ifs elt : T) (ws : List Nat) : Bool := noSet l.it && blkB cc l.sc ws && kIt rc tb cc l.tg l.it it && rc.C (blkCc cc l.sc) ws l.tg tg && kTs rc (blkCc cc l.sc) l.ifs ifs && rc.E (blkCc cc l.sc) l.elt elt
def kLc2 (l : Lc2) (it tg ifs it2 tg2 ifs2 elt : T) (ws ws2 : List Nat) : Bool := noSet l.it && noSet l.it2 && blkB cc l.sc ws && ws2.all (fun i => decide (i ∈ ws)) && kIt rc tb cc l.tg l.it it && rc.C (blkCc cc l.sc) ws l.tg tg && kTs rc (blkCc cc l.sc) l.ifs ifs &&
  kIt rc tb (blkCc cc l.sc) l.tg2 l.it2 it2 && rc.C (blkCc cc l.sc) ws2 l.tg2 tg2 && kTs rc (blkCc cc l.sc) l.ifs2 ifs2 && rc.E (blkCc cc l.sc) l.elt elt
def stepE (e : Expr) (t : T) : Bool := (optB (asBool e) fun r => kVs rc cc r.1 r.2.2 r.2.1 t) || (match t with
  | .nil => true
  | .var i => kVar cc i e
  | .con c => kCon c e
  | .gco g c => kGco tb cc g c e
  | .fnv g => kFnv tb cc g e
  | .o1 o a => kO1 rc tb cc o e a
  | .o2 o a b => kO2 rc tb cc o e a b || kJs rc cc o e a b
  | .o3 _ a b c => kO3 rc cc e a b c
  | .not a => optB (asUn e) fun r => decide (r.1 = .Not) && rc.E cc r.2 a
  | .ite c a b => optB (asIf e) fun r => rc.Tt cc r.1 c && rc.E cc r.2.1 a && rc.E cc r.2.2 b
  | .chn o p a b c => kChn rc cc o p e a b c
  | .tup es => optB (asTup e) fun r => kAs rc cc r es
  | .lst _ es => optB (asLst e) fun r => kAs rc cc r es
  | .edic => isEdic e
  | .dnew _ => isEdic e
  | .dget a b => kDget rc cc e a b
  | .dget2 a b c => kDget2 rc cc e a b c
  | .fld c o f => kFld rc tb cc c f e o
  | .make c g args => kMake rc tb cc c g e args
  | .meth c g o args => kMeth rc tb cc c g e o args
  | .isi a tys => kIsi rc tb cc e a tys || kIsb rc tb cc e a tys
  | .smt m a b => kSmt rc cc m e a b
  | .callf i fs args => kCallf rc tb cc i fs e args
  | .call g args => kCall rc tb cc g e args
  | .callk g args kws ord => kCallk rc tb cc g e args kws ord
  | .mtd m o args => kMut rc cc m e o args
  | .own a => kOwn rc tb cc e a
  | .ixof tp a b => kIxof rc cc tp e a b
  | .cmp1 _ it tg ifs elt ws => optB (asLc e) fun l => kLc rc tb cc l it tg ifs elt ws
  | .cmp2 _ it tg ifs it2 tg2 ifs2 elt ws ws2 => optB (asLc2 e) fun l => kLc2 rc tb cc l it tg ifs it2 tg2 ifs2 elt ws ws2
  | _ => false)
def stepT (e : Expr) (t : T) : Bool := (optB (asBool e) fun r => kWs rc cc r.1 r.2.2 r.2.1 t) || (plainTest e && rc.E cc e t) || (match t with
  | .not a => optB (asUn e) fun r => decide (r.1 = .Not) && rc.Tt cc r.2 a
  | .o2 o a b => optB (asCmp1 e) fun r => decide (opC r.2.1 = o) && noSet r.2.2 && rc.E cc r.1 a && rc.E cc r.2.2 b
  | .chn o p a b c => kChn rc cc o p e a b c
  | _ => false)
def kGs : List Expr → T → Bool
  | [], .nil => true
  | e :: es, .cons t r => noStar e && rc.G cc e t && kGs es r
  | _, _ => false
def kStar : Nat → List Expr → T → Bool
  | 0, .Starred e _ :: es, .cons t r => rc.G cc e t && kGs rc cc es r
  | n + 1, e :: es, .cons t r => noStar e && rc.G cc e t && kStar n es r
  | _, _, _ => false
def stepG (e : Expr) (t : T) : Bool := match t with
  | .tst i ts => optB (asTup e) fun es => kStar rc cc i es ts
  | .tnm i => optB (asName e) fun r => slotB cc i r.1
  | .ttp ts => optB (asTup e) fun es => decide (tlen ts = es.length) && kGs rc cc es ts
  | .tsb o i => optB (asSub e) fun r => noSlice r.2 && rc.E cc r.1 o && rc.E cc r.2 i
  | _ => false
def kCs (ws : List Nat) : List Expr → T → Bool
  | [], .nil => true
  | e :: es, .cons t r => noStar e && rc.C cc ws e t && kCs ws es r
  | _, _ => false
def stepC (ws : List Nat) (e : Expr) (t : T) : Bool := match t with
  | .tnm i => optB (asName e) fun r => slotB cc i r.1 && decide (i ∈ ws)
  | .ttp ts => optB (asTup e) fun es => decide (tlen ts = es.length) && kCs rc cc ws es ts
  | _ => false
/-! ### statements -/
def asExp : Stmt → Option Expr
  | .Expr e _ => some e
  | _ => none
theorem asExp_of {s : Stmt} {r : Expr} (h : asExp s = some r) : ∃ p, s = .Expr r p := by
  cases s <;> first | (cases h; exact ⟨_, rfl⟩) | cases h
def asAsg : Stmt → Option (Expr × Expr)
  | .Assign [t] e _ => some (t, e)
  | _ => none
theorem asAsg_of {s : Stmt} {r : Expr × Expr} (h : asAsg s = some r) : ∃ p, s = .Assign [r.1] r.2 p := by
  unfold asAsg at h
  split at h
  · cases h; exact ⟨_, rfl⟩
  · cases h
def asAug : Stmt → Option (Expr × Operator × Expr)
  | .AugAssign t o e _ => some (t, o, e)
  | _ => none
theorem asAug_of {s : Stmt} {r : Expr × Operator × Expr} (h : asAug s = some r) : ∃ p, s = .AugAssign r.1 r.2.1 r.2.2 p := by
  cases s <;> first | (cases h; exact ⟨_, rfl⟩) | cases h
def asIfS : Stmt → Option (Expr × List Stmt × List Stmt)
  | .If c a b _ => some (c, a, b)
  | _ => none
theorem asIfS_of {s : Stmt} {r : Expr × List Stmt × List Stmt} (h : asIfS s = some r) : ∃ p, s = .If r.1 r.2.1 r.2.2 p := by
  cases s <;> first | (cases h; exact ⟨_, rfl⟩) | cases h
def asFor : Stmt → Option (Expr × Expr × List Stmt)
  | .For t i b [] _ => some (t, i, b)
  | _ => none
theorem asFor_of {s : Stmt} {r : Expr × Expr × List Stmt} (h : asFor s = some r) : ∃ p, s = .For r.1 r.2.1 r.2.2 [] p := by
  unfold asFor at h
  split at h
  · cases h; exact ⟨_, rfl⟩
  · cases h
def asWhl : Stmt → Option (Expr × List Stmt)
  | .While c b [] _ => some (c, b)
  | _ => none
theorem asWhl_of {s : Stmt} {r : Expr × List Stmt} (h : asWhl s = some r) : ∃ p, s = .While r.1 r.2 [] p := by
  unfold asWhl at h
  split at h
  · cases h; exact ⟨_, rfl⟩
  · cases h
def asRet : Stmt → Option (Option Expr)
  | .Return e _ => some e
  | _ => none
theorem asRet_of {s : Stmt} {r : Option Expr} (h : asRet s = some r) : ∃ p, s = .Return r p := by
  cases s <;> first | (cases h; exact ⟨_, rfl⟩) | cases h
def isBrk : Stmt → Bool
  | .Break _ => true
  | _ => false
def isCnt : Stmt → Bool
  | .Continue _ => true
  | _ => false
def isPas : Stmt → Bool
  | .Pass _ => true
  | _ => false
theorem isBrk_of {s : Stmt} (h : isBrk s = true) : ∃ p, s = .Break p := by
  cases s <;> first | exact ⟨_, rfl⟩ | cases h
theorem isCnt_of {s : Stmt} (h : isCnt s = true) : ∃ p, s = .Continue p := by
  cases s <;> first | exact ⟨_, rfl⟩ | cases h
theorem isPas_of {s : Stmt} (h : isPas s = true) : ∃ p, s = .Pass p := by
  cases s <;> first | exact ⟨_, rfl⟩ | cases h
def asRai : Stmt → Option Str
  | .Raise (some (.Call (.Name x _) [.Constant (.str _) _ _] [] _)) none _ => some x
  | _ => none
theorem asRai_of {s : Stmt} {r : Str} (h : asRai s = some r) : ∃ p m j p2 p3 p4, s = .Raise (some (.Call (.Name r p) [.Constant (.str m) j p2] [] p3)) none p4 := by
  unfold asRai at h
  split at h
  · cases h; exact ⟨_, _, _, _, _, _, rfl⟩
  · cases h
structure Tr where
  body : List Stmt
  x : Str
  n : Str
  m : Str
def asTry : Stmt → Option Tr
  | .Try body [.ExceptHandler (some (.Name x _)) (some n) [.Assign [.Name m _] (.Name n' _) _] _] [] [] _ => if n = n' then some ⟨body, x, n, m⟩ else none
  | _ => none
theorem asTry_of {s : Stmt} {r : Tr} (h : asTry s = some r) : ∃ np mp vp ap hp pos, s = .Try r.body [.ExceptHandler (some (.Name r.x np)) (some r.n) [.Assign [.Name r.m mp] (.Name r.n vp) ap] hp] [] [] pos := by
  unfold asTry at h
  split at h
  · split at h
    · rename_i e
      subst e
      cases h
      exact ⟨_, _, _, _, _, _, rfl⟩
    · cases h
  · cases h
/-- a comprehension's list goes to a name at once -/
def swB (x : Str) (py : Pos) (sc : Scope) (p : Pos) : Bool := decide (cc.nm.lookup x = some .local) && (py.line == p.line) && !(sc.names.any fun (n, k) => n == x && (k == .local || k == .cell))
def kDc2 (l : Dc2P) (a : T) (i j : Nat) (ws ws2 : List Nat) : Bool := noSet l.i0 && noSet l.i1 && blkB cc l.sc ws && ws2.all (fun i => decide (i ∈ ws)) && kIt rc tb cc l.t0 l.i0 (.itv a) && rc.C (blkCc cc l.sc) ws l.t0 (.tnm i) &&
  kIt rc tb (blkCc cc l.sc) l.t1 l.i1 (.itv (.var i)) && rc.C (blkCc cc l.sc) ws2 l.t1 (.tnm j) && rc.E (blkCc cc l.sc) l.kx (.var j) && rc.E (blkCc cc l.sc) l.vx (.con (.bool true))
def kAsg1 (te e : Expr) (tg a : T) : Bool := match tg, a with
  | .tnm k, .dpt a i j ws ws2 => optB (asName te) fun r => optB (asDc2 e) fun l => slotB cc k r.1 && swB cc r.1 r.2 l.sc l.pos && kDc2 rc tb cc l a i j ws ws2
  | .tnm i, .cmp1 _ it tg ifs elt ws => optB (asName te) fun r => optB (asLc e) fun l => slotB cc i r.1 && swB cc r.1 r.2 l.sc l.pos && kLc rc tb cc l it tg ifs elt ws
  | .tnm i, .cmp2 _ it tg ifs it2 tg2 ifs2 elt ws ws2 => optB (asName te) fun r => optB (asLc2 e) fun l => slotB cc i r.1 && swB cc r.1 r.2 l.sc l.pos && kLc2 rc tb cc l it tg ifs it2 tg2 ifs2 elt ws ws2
  | _, _ => false
/-- a name that is no local one, a comprehension -/
def kAsg2 (te e : Expr) (tg a : T) : Bool := match tg with
  | .tnm i => optB (asName te) fun r => slotB cc i r.1 && decide (cc.nm.lookup r.1 ≠ some .local) && rc.E cc e a
  | _ => false
/-- a field -/
def kAsg3 (te e : Expr) (tg a : T) : Bool := match tg with
  | .tsf c o f => optB (asAttr te) fun r => decide (tb.ats[f]? = some r.2) && (tb.kls.any fun k => decide (k.c = c) && decide (f ∈ k.fs)) && rc.E cc e a && rc.E cc r.1 o
  | _ => false
/-- a, b = x, y -/
def asPar : Expr → Option ((Str × Pos) × (Str × Pos))
  | .Tuple [.Name x px, .Name y py] _ _ => some ((x, px), (y, py))
  | _ => none
theorem asPar_of {e : Expr} {r : (Str × Pos) × (Str × Pos)} (h : asPar e = some r) : ∃ k p, e = .Tuple [.Name r.1.1 r.1.2, .Name r.2.1 r.2.2] k p := by
  unfold asPar at h
  split at h
  · cases h; exact ⟨_, _, rfl⟩
  · cases h
def asTup2 : Expr → Option (Expr × Expr)
  | .Tuple [a, b] _ _ => some (a, b)
  | _ => none
theorem asTup2_of {e : Expr} {r : Expr × Expr} (h : asTup2 e = some r) : ∃ k p, e = .Tuple [r.1, r.2] k p := by
  unfold asTup2 at h
  split at h
  · cases h; exact ⟨_, _, rfl⟩
  · cases h
def parB (x y : Str) (px py : Pos) (a b : Expr) : Bool := decide (cc.nm.lookup x = some .local) && decide (cc.nm.lookup y = some .local) && (px.line == py.line) && !(x == y) && !([a, b].all (foldedForSure 8)) && !([a, b].all (constantsAlone 8))
def kAsg4 (te e : Expr) (tg a : T) : Bool := match tg, a with
  | .ttp (.cons (.tnm i) (.cons (.tnm j) .nil)), .tup (.cons t1 (.cons t2 .nil)) => optB (asPar te) fun r => optB (asTup2 e) fun q => decide (i ≠ j) && decide (cc.N[i]? = some r.1.1) && decide (cc.N[j]? = some r.2.1) && parB cc r.1.1 r.2.1 r.1.2 r.2.2 q.1 q.2 && kAs rc cc [q.1, q.2] (.cons t1 (.cons t2 .nil))
  | _, _ => false
def kAsg (te e : Expr) (tg a : T) : Bool := kAsg4 rc cc te e tg a || ((noComp e || !isName te) && noSwap te e && noStar te && rc.E cc e a && rc.G cc te tg) || kAsg1 rc tb cc te e tg a || kAsg2 rc cc te e tg a || kAsg3 rc tb cc te e tg a
def stepS (s : Stmt) (t : T) : Bool := match t with
  | .nil => true
  | .exp a => optB (asExp s) fun e => noComp e && rc.E cc e a
  | .asg tg a => optB (asAsg s) fun r => kAsg rc tb cc r.1 r.2 tg a
  | .augn o i a => optB (asAug s) fun r => optB (asName r.1) fun q => decide (augO r.2.1 = some o) && slotB cc i q.1 && rc.E cc r.2.2 a
  | .augs o e j a => optB (asAug s) fun r => optB (asSub r.1) fun q => decide (augO r.2.1 = some o) && noSlice q.2 && rc.E cc q.1 e && rc.E cc q.2 j && rc.E cc r.2.2 a
  | .ifs c a b => optB (asIfS s) fun r => rc.Tt cc r.1 c && rc.Ss cc r.2.1 a && rc.Ss cc r.2.2 b
  | .for_ tg it body => optB (asFor s) fun r => noSet r.2.1 && kIt rc tb cc r.1 r.2.1 it && rc.G cc r.1 tg && rc.Ss cc r.2.2 body
  | .whl c body => optB (asWhl s) fun r => rc.Tt cc r.1 c && rc.Ss cc r.2 body
  | .ret a => optB (asRet s) fun r => optB r fun e => rc.E cc e a
  | .ret0 => optB (asRet s) fun r => r.isNone
  | .brk => isBrk s
  | .cnt => isCnt s
  | .pas => isPas s
  | .rai c => optB (asRai s) fun x => glB cc x && tb.xcs.any fun q => decide (q.1 = c) && decide (q.2.1 = x) && q.2.2
  | .try_ b i y => optB (asTry s) fun r => cc.own.isNone && glB cc r.x && decide (r.x ∈ tb.hue) && decide (cc.N[i]? = some r.n) && decide (cc.nm.lookup r.n = some .local) && !(r.n == ("__debug__" : Str)) && !(r.n == ("__classdict__" : Str)) && slotB cc y r.m && rc.Ss cc r.body b
  | _ => false
def stepSs : T → List Stmt → Bool
  | .nil, ss => ss.isEmpty
  | .cons (.kill _) r, ss => stepSs r ss
  | .cons (.frz _) r, ss => stepSs r ss
  | .cons t r, s :: ss => stepS rc tb cc s t && stepSs r ss
  | _, _ => false
end
def chk (tb : Tb) : Nat → Rec
  | 0 => ⟨fun _ _ _ => false, fun _ _ _ => false, fun _ _ _ => false, fun _ _ _ _ => false, fun _ _ _ => false⟩
  | n + 1 => ⟨stepE (chk tb n) tb, stepT (chk tb n), stepG (chk tb n), stepC (chk tb n), fun cc ss t => stepSs (chk tb n) tb cc t ss⟩
end Hb

/-! CHK4: the checker is sound. -/
namespace Hb
open PySem PySem.Spec PyProof.Rows
open L2 hiding V Hp St
set_option autoImplicit false
structure RecOk (rc : Rec) (tb : Tb) : Prop where
  E : ∀ {X w F W cc e t}, CtxOk X w F tb cc → Takes X W → rc.E cc e t = true → SE X w F W e t
  Tt : ∀ {X w F W cc e t}, CtxOk X w F tb cc → Takes X W → rc.Tt cc e t = true → ST X w F W e t
  G : ∀ {X w F cc e t}, CtxOk X w F tb cc → rc.G cc e t = true → SG X w F e t
  C : ∀ {X w F cc ws e t}, CtxOk X w F tb cc → rc.C cc ws e t = true → PG X e (rdC w F ws t)
  Ss : ∀ {X w F W cc ss t}, CtxOk X w F tb cc → Takes X W → PassesOwn (model X.prog X.w) X.A X.env X.xe → rc.Ss cc ss t = true → SSs X w F W ss t
theorem takes0 {X : Cx} : Takes X W0 := fun u s' ⟨a, B, sI, pins, σ, H, cls, d, e, I, nb, up, sky, na, os, ag, w⟩ => w.elim
section
variable {X : Cx} {w : Wo} {F : Phi} {W : WX} {rc : Rec} {tb : Tb} {cc : Cc} {e : Expr} {t t1 t2 t3 : T}
theorem kVar_ok (c : CtxOk X w F tb cc) {i : Nat} (h : kVar cc i e = true) : SE X w F W e (.var i) := by
  obtain ⟨r, e1, h⟩ := optB_of h
  have := asName_of e1
  subst this
  obtain ⟨h1, h2⟩ := and_of h
  obtain ⟨v1, v2, v3⟩ := c.vis h2
  exact se_var (by rw [c.hN]; exact of_decide_eq_true h1) v1 v2 v3
theorem kCon_ok {d : D} (h : kCon d e = true) : SE X w F W e (.con d) := by
  obtain ⟨k, e1, h⟩ := optB_of h
  obtain ⟨n, p, rfl⟩ := asConst_of e1
  cases d with
  | none => cases k with
    | none => exact se_con (u := .non) pe_non fun _ => rfl
    | _ => cases h
  | bool a => cases k with
    | bool b => have := eq_of_beq h; subst this; exact se_con pe_bl fun _ => rfl
    | _ => cases h
  | int a => cases k with
    | int b => have := eq_of_beq h; subst this; exact se_con pe_int fun _ => rfl
    | _ => cases h
  | str a => cases k with
    | str b => have := of_decide_eq_true h; subst this; exact se_con pe_str fun _ => rfl
    | _ => cases h
  | _ => cases k <;> cases h
theorem kGco_ok (c : CtxOk X w F tb cc) {g : Nat} {d : D} (h : kGco tb cc g d e = true) : SE X w F W e (.gco g d) := by
  obtain ⟨r, e1, h⟩ := optB_of h
  have := asName_of e1
  subst this
  obtain ⟨h1, h⟩ := and_of h
  obtain ⟨q, e2, h⟩ := List.any_eq_true.mp h
  obtain ⟨h2, h3⟩ := and_of h
  have h2 := of_decide_eq_true h2
  have h3 := eqD_of _ _ h3
  obtain ⟨g1, g2⟩ := c.gl h1
  obtain ⟨i, ei⟩ := List.getElem?_of_mem e2
  obtain ⟨u, v, m, rv, rp⟩ := c.gcs i q.1 q.2 ei
  rw [h2] at m
  rw [h3] at rp
  exact se_gco (pe_glob g1 m rv g2) rp
theorem kFnv_ok (c : CtxOk X w F tb cc) {g : Nat} (h : kFnv tb cc g e = true) : SE X w F W e (.fnv g) := by
  obtain ⟨r, e1, h⟩ := optB_of h
  have := asName_of e1
  subst this
  obtain ⟨h1, h⟩ := and_of h
  obtain ⟨h1, h0⟩ := and_of h1
  obtain ⟨q, e2, h⟩ := optB_of h
  have h2 := of_decide_eq_true h
  obtain ⟨g1, g2⟩ := c.gl h1
  obtain ⟨k, _, df⟩ := c.defs
  have d := df g q.1 q.2.1 q.2.2 e2
  have m := d.at_
  rw [h2] at m
  exact se_fnv (pe_glob g1 (m (of_decide_eq_true h0)) rfl g2)
theorem kO1_ok (R : RecOk rc tb) (c : CtxOk X w F tb cc) (tk : Takes X W) {o : O1} (h : kO1 rc tb cc o e t = true) : SE X w F W e (.o1 o t) := by
  have gen : ((optB (c1n o) fun x => optB (asCall1 e) fun r => decide (r.1 = x) && blB tb cc x && noStar r.2 && rc.E cc r.2 t) ||
      (optB (t1n o) fun x => optB (asCall1 e) fun r => decide (r.1 = x) && blB tb cc x && noStar r.2 && rc.E cc r.2 t)) = true → SE X w F W e (.o1 o t) := by
    intro h
    rcases (Bool.or_eq_true _ _).mp h with h | h
    · obtain ⟨x, ex, h⟩ := optB_of h
      obtain ⟨r, e1, h⟩ := optB_of h
      obtain ⟨p, q, rfl⟩ := asCall1_of e1
      obtain ⟨h, h4⟩ := and_of h
      obtain ⟨h, h3⟩ := and_of h
      obtain ⟨h1, h2⟩ := and_of h
      have h1 := of_decide_eq_true h1
      obtain ⟨b1, b2, b3, b4⟩ := c.bl h2
      obtain ⟨id, ob, ok⟩ := c1_ok c ex
      rw [h1]
      exact se_b1 ok b1 b2 ob (R.E c tk h4) (noStar_of h3) b3 b4
    · obtain ⟨x, ex, h⟩ := optB_of h
      obtain ⟨r, e1, h⟩ := optB_of h
      obtain ⟨p, q, rfl⟩ := asCall1_of e1
      obtain ⟨h, h4⟩ := and_of h
      obtain ⟨h, h3⟩ := and_of h
      obtain ⟨h1, h2⟩ := and_of h
      have h1 := of_decide_eq_true h1
      obtain ⟨b1, b2, b3, b4⟩ := c.bl h2
      obtain ⟨id, ob, ok⟩ := t1_ok c ex
      rw [h1]
      exact se_ty1 ok b1 b2 ob (R.E c tk h4) (noStar_of h3) b3 b4
  cases o with
  | neg =>
    obtain ⟨r, e1, h⟩ := optB_of h
    obtain ⟨p, rfl⟩ := asUn_of e1
    obtain ⟨h1, h2⟩ := and_of h
    rw [of_decide_eq_true h1]
    exact se_un (unr_imp p_neg fun x H Q q => by rw [c.hK]; exact r1_of (dat1_of rfl) q) (R.E c tk h2)
  | rev =>
    obtain ⟨r, e1, h⟩ := optB_of h
    obtain ⟨p, rfl⟩ := asSub_of e1
    obtain ⟨h1, h2⟩ := and_of h
    obtain ⟨k, p1, p2, p3, e2⟩ := isRev_of h1
    rw [e2]
    exact se_rev c.hK (R.E c tk h2)
  | lrange =>
    obtain ⟨r, e1, h⟩ := optB_of h
    obtain ⟨p, q, rfl⟩ := asCall1_of e1
    obtain ⟨h, h5⟩ := and_of h
    obtain ⟨h1, h2⟩ := and_of h
    obtain ⟨r2, e2, h⟩ := optB_of h5
    obtain ⟨p2, q2, e3⟩ := asCall1_of e2
    obtain ⟨h, h4⟩ := and_of h
    obtain ⟨h, h3⟩ := and_of h
    obtain ⟨h6, h7⟩ := and_of h
    rw [of_decide_eq_true h1, e3, of_decide_eq_true h6]
    obtain ⟨b1, b2, b3, b4⟩ := c.bl h2
    obtain ⟨d1, d2, d3, d4⟩ := c.bl h7
    exact se_lrange c.calm b1 b2 d1 d2 (R.E c tk h4) (noStar_of h3)
  | trange =>
    obtain ⟨r, e1, h⟩ := optB_of h
    obtain ⟨p, q, rfl⟩ := asCall1_of e1
    obtain ⟨h, h5⟩ := and_of h
    obtain ⟨h1, h2⟩ := and_of h
    obtain ⟨r2, e2, h⟩ := optB_of h5
    obtain ⟨p2, q2, e3⟩ := asCall1_of e2
    obtain ⟨h, h4⟩ := and_of h
    obtain ⟨h, h3⟩ := and_of h
    obtain ⟨h6, h7⟩ := and_of h
    rw [of_decide_eq_true h1, e3, of_decide_eq_true h6]
    obtain ⟨b1, b2, b3, b4⟩ := c.bl h2
    obtain ⟨d1, d2, d3, d4⟩ := c.bl h7
    exact se_trange c.calm b1 b2 d1 d2 (R.E c tk h4) (noStar_of h3)
  | sset =>
    obtain ⟨r, e1, h⟩ := optB_of h
    obtain ⟨p, q, rfl⟩ := asCall1_of e1
    obtain ⟨h, h5⟩ := and_of h
    obtain ⟨h1, h2⟩ := and_of h
    obtain ⟨r2, e2, h⟩ := optB_of h5
    obtain ⟨p2, q2, e3⟩ := asCall1_of e2
    obtain ⟨h, h4⟩ := and_of h
    obtain ⟨h, h3⟩ := and_of h
    obtain ⟨h6, h7⟩ := and_of h
    rw [of_decide_eq_true h1, e3, of_decide_eq_true h6]
    obtain ⟨b1, b2, b3, b4⟩ := c.bl h2
    obtain ⟨d1, d2, d3, d4⟩ := c.bl h7
    exact se_sset c.hK c.calm c.un b1 b2 d1 d2 (R.E c tk h4) (noStar_of h3)
  | repr =>
    obtain ⟨h0, h⟩ := and_of h
    obtain ⟨r, e1, h⟩ := optB_of h
    obtain ⟨p, q, rfl⟩ := asCall1_of e1
    obtain ⟨h, h4⟩ := and_of h
    obtain ⟨h, h3⟩ := and_of h
    obtain ⟨h1, h2⟩ := and_of h
    have h1 := of_decide_eq_true h1
    obtain ⟨b1, b2, b3, b4⟩ := c.bl h2
    rw [h1]
    obtain ⟨kk, rm, _⟩ := c.defs
    exact se_b1 (kD1 c.hK rfl (k_repr (by have := rm.un; omega) (c.gds h0))) b1 b2 (by decide +kernel) (R.E c tk h4) (noStar_of h3) b3 b4
  | setlen =>
    obtain ⟨r, e1, h⟩ := optB_of h
    obtain ⟨p, q, rfl⟩ := asCall1_of e1
    obtain ⟨h, h5⟩ := and_of h
    obtain ⟨h1, h2⟩ := and_of h
    obtain ⟨r2, e2, h⟩ := optB_of h5
    obtain ⟨p2, q2, e3⟩ := asCall1_of e2
    obtain ⟨h, h4⟩ := and_of h
    obtain ⟨h, h3⟩ := and_of h
    obtain ⟨h6, h7⟩ := and_of h
    rw [of_decide_eq_true h1, e3, of_decide_eq_true h6]
    obtain ⟨b1, b2, b3, b4⟩ := c.bl h2
    obtain ⟨d1, d2, d3, d4⟩ := c.bl h7
    exact se_setlen c.hK c.calm b1 b2 d1 d2 (R.E c tk h4) (noStar_of h3)
  | _ => exact gen h
theorem isNone_of {α : Type} {o : Option α} (h : o.isNone = true) : o = none := by
  cases o with
  | none => rfl
  | some _ => cases h
theorem kO2_ok (R : RecOk rc tb) (c : CtxOk X w F tb cc) (tk : Takes X W) {o : O2} (h : kO2 rc tb cc o e t1 t2 = true) : SE X w F W e (.o2 o t1 t2) := by
  have gen : ((optB (asBin e) fun r => decide (opB r.2.1 = some o) && rc.E cc r.1 t1 && rc.E cc r.2.2 t2) ||
      (optB (asCmp1 e) fun r => decide (opC r.2.1 = o) && noSet r.2.2 && rc.E cc r.1 t1 && rc.E cc r.2.2 t2) ||
      (optB (c2n o) fun x => optB (asCall2 e) fun r => decide (r.1 = x) && blB tb cc x && noStar r.2.1 && noStar r.2.2 && rc.E cc r.2.1 t1 && rc.E cc r.2.2 t2)) = true → SE X w F W e (.o2 o t1 t2) := by
    intro h
    rcases (Bool.or_eq_true _ _).mp h with h | h
    · rcases (Bool.or_eq_true _ _).mp h with h | h
      · obtain ⟨r, e1, h⟩ := optB_of h
        obtain ⟨p, rfl⟩ := asBin_of e1
        obtain ⟨h, h3⟩ := and_of h
        obtain ⟨h1, h2⟩ := and_of h
        exact se_bin (bin_ok c (of_decide_eq_true h1)) (R.E c tk h2) (R.E c tk h3)
      · obtain ⟨r, e1, h⟩ := optB_of h
        obtain ⟨p, rfl⟩ := asCmp1_of e1
        obtain ⟨h, h4⟩ := and_of h
        obtain ⟨h, h3⟩ := and_of h
        obtain ⟨h1, h2⟩ := and_of h
        have h1 := of_decide_eq_true h1
        rw [← h1]
        exact se_cmp (cmp_ok c _) (R.E c tk h3) (R.E c tk h4) (marks_of h2)
    · obtain ⟨x, ex, h⟩ := optB_of h
      obtain ⟨r, e1, h⟩ := optB_of h
      obtain ⟨p, q, rfl⟩ := asCall2_of e1
      obtain ⟨h, h6⟩ := and_of h
      obtain ⟨h, h5⟩ := and_of h
      obtain ⟨h, h4⟩ := and_of h
      obtain ⟨h, h3⟩ := and_of h
      obtain ⟨h1, h2⟩ := and_of h
      have h1 := of_decide_eq_true h1
      obtain ⟨b1, b2, b3, b4⟩ := c.bl h2
      obtain ⟨id, ob, ok⟩ := c2_ok c ex
      rw [h1]
      exact se_b2 ok b1 b2 ob (R.E c tk h5) (R.E c tk h6) (noStar_of h3) (noStar_of h4) b3 b4
  cases o with
  | idx =>
    obtain ⟨r, e1, h⟩ := optB_of h
    obtain ⟨p, rfl⟩ := asSub_of e1
    obtain ⟨h, h3⟩ := and_of h
    obtain ⟨h1, h2⟩ := and_of h
    exact se_ix (p_ix c.un c.hK) (R.E c tk h2) (R.E c tk h3) (plainIx_of h1)
  | cutlo =>
    obtain ⟨r, e1, h⟩ := optB_of h
    obtain ⟨p, rfl⟩ := asSub_of e1
    obtain ⟨q, e2, h⟩ := optB_of h
    obtain ⟨p2, e3⟩ := asCut_of e2
    obtain ⟨b, e4, h⟩ := optB_of h
    obtain ⟨h, h3⟩ := and_of h
    obtain ⟨h1, h2⟩ := and_of h
    rw [e3, e4, isNone_of h1]
    exact se_cutlo c.hK (R.E c tk h2) (R.E c tk h3)
  | cuthi =>
    obtain ⟨r, e1, h⟩ := optB_of h
    obtain ⟨p, rfl⟩ := asSub_of e1
    obtain ⟨q, e2, h⟩ := optB_of h
    obtain ⟨p2, e3⟩ := asCut_of e2
    obtain ⟨b, e4, h⟩ := optB_of h
    obtain ⟨h, h3⟩ := and_of h
    obtain ⟨h1, h2⟩ := and_of h
    rw [e3, e4, isNone_of h1]
    exact se_cuthi c.hK (R.E c tk h2) (R.E c tk h3)
  | lrange2 =>
    obtain ⟨r, e1, h⟩ := optB_of h
    obtain ⟨p, q, rfl⟩ := asCall1_of e1
    obtain ⟨h, h5⟩ := and_of h
    obtain ⟨h1, h2⟩ := and_of h
    obtain ⟨r2, e2, h⟩ := optB_of h5
    obtain ⟨p2, q2, e3⟩ := asCall2_of e2
    obtain ⟨h, h4⟩ := and_of h
    obtain ⟨h, h3⟩ := and_of h
    obtain ⟨h, h8⟩ := and_of h
    obtain ⟨h, h9⟩ := and_of h
    obtain ⟨h6, h7⟩ := and_of h
    rw [of_decide_eq_true h1, e3, of_decide_eq_true h6]
    obtain ⟨b1, b2, b3, b4⟩ := c.bl h2
    obtain ⟨d1, d2, d3, d4⟩ := c.bl h7
    exact se_lrange2 c.calm b1 b2 d1 d2 (R.E c tk h3) (R.E c tk h4) (noStar_of h9) (noStar_of h8)
  | _ => exact gen h
theorem kO3_ok (R : RecOk rc tb) (c : CtxOk X w F tb cc) (tk : Takes X W) {o : O3} (h : kO3 rc cc e t1 t2 t3 = true) : SE X w F W e (.o3 o t1 t2 t3) := by
  cases o
  obtain ⟨r, e1, h2⟩ := optB_of h
  clear h
  obtain ⟨p, rfl⟩ := asSub_of e1
  obtain ⟨q, e2, h⟩ := optB_of h2
  clear h2
  obtain ⟨p2, e3⟩ := asCut_of e2
  obtain ⟨b, e4, h⟩ := optB_of h
  obtain ⟨b2, e5, h⟩ := optB_of h
  obtain ⟨h, h3⟩ := and_of h
  obtain ⟨h1, h2⟩ := and_of h
  rw [e3, e4, e5]
  exact se_cut c.hK (R.E c tk h1) (R.E c tk h2) (R.E c tk h3)
theorem fr1K {f : Value} {o : O1} (hK : X.K = w.K) (h : CallR X f (rC1 (rF1 X.K (op1 o)))) : CallR X f (rC1 (rF1 w.K (op1 o))) := hK ▸ h
theorem gr2K {f : Value → Value → Sem Value} {o : O2} (hK : X.K = w.K) (h : OpR X f (rG2 X.K (op2 o))) : OpR X f (rG2 w.K (op2 o)) := hK ▸ h
theorem kOwn_ok (R : RecOk rc tb) (c : CtxOk X w F tb cc) (tk : Takes X W) (h : kOwn rc tb cc e t = true) : SE X w F W e (.own t) := by
  cases t with
  | o1 o a =>
    cases o with
    | list =>
      obtain ⟨r, e1, h⟩ := optB_of h
      obtain ⟨p, q, rfl⟩ := asCall1_of e1
      obtain ⟨h, h4⟩ := and_of h
      obtain ⟨h, h3⟩ := and_of h
      obtain ⟨h1, h2⟩ := and_of h
      obtain ⟨b1, b2, b3, b4⟩ := c.bl h2
      rw [of_decide_eq_true h1]
      exact se_t1g (id := "list") (fr1K c.hK k_list) (rd_own1 rfl) b1 b2 (by decide +kernel) (R.E c tk h4) (noStar_of h3) b3 b4
    | sorted =>
      obtain ⟨r, e1, h⟩ := optB_of h
      obtain ⟨p, q, rfl⟩ := asCall1_of e1
      obtain ⟨h, h4⟩ := and_of h
      obtain ⟨h, h3⟩ := and_of h
      obtain ⟨h1, h2⟩ := and_of h
      obtain ⟨b1, b2, b3, b4⟩ := c.bl h2
      rw [of_decide_eq_true h1]
      exact se_b1g (id := "sorted") (fr1K c.hK (k_sorted c.un)) (rd_own1 rfl) b1 b2 (by decide +kernel) (R.E c tk h4) (noStar_of h3) b3 b4
    | lrange =>
      obtain ⟨r, e1, h⟩ := optB_of h
      obtain ⟨p, q, rfl⟩ := asCall1_of e1
      obtain ⟨h, h5⟩ := and_of h
      obtain ⟨h1, h2⟩ := and_of h
      obtain ⟨r2, e2, h⟩ := optB_of h5
      obtain ⟨p2, q2, e3⟩ := asCall1_of e2
      obtain ⟨h, h4⟩ := and_of h
      obtain ⟨h, h3⟩ := and_of h
      obtain ⟨h6, h7⟩ := and_of h
      rw [of_decide_eq_true h1, e3, of_decide_eq_true h6]
      obtain ⟨b1, b2, b3, b4⟩ := c.bl h2
      obtain ⟨d1, d2, d3, d4⟩ := c.bl h7
      exact se_lrangeN c.calm b1 b2 d1 d2 (R.E c tk h4) (noStar_of h3)
    | _ => cases h
  | o2 o a b =>
    cases o with
    | add =>
      obtain ⟨r, e1, h⟩ := optB_of h
      obtain ⟨p, rfl⟩ := asBin_of e1
      obtain ⟨h, h3⟩ := and_of h
      obtain ⟨h1, h2⟩ := and_of h
      rw [of_decide_eq_true h1]
      exact se_bing (gr2K c.hK g_add) (R.E c tk h2) (R.E c tk h3) (rd_own2 rfl)
    | mul =>
      obtain ⟨r, e1, h⟩ := optB_of h
      obtain ⟨p, rfl⟩ := asBin_of e1
      obtain ⟨h, h3⟩ := and_of h
      obtain ⟨h1, h2⟩ := and_of h
      rw [of_decide_eq_true h1]
      exact se_bing (gr2K c.hK g_mul) (R.E c tk h2) (R.E c tk h3) (rd_own2 rfl)
    | cutlo =>
      obtain ⟨r, e1, h⟩ := optB_of h
      obtain ⟨p, rfl⟩ := asSub_of e1
      obtain ⟨q, e2, h⟩ := optB_of h
      obtain ⟨p2, e3⟩ := asCut_of e2
      obtain ⟨b, e4, h⟩ := optB_of h
      obtain ⟨h, h3⟩ := and_of h
      obtain ⟨h1, h2⟩ := and_of h
      rw [e3, e4, isNone_of h1]
      exact se_cutloN c.hK (R.E c tk h2) (R.E c tk h3)
    | cuthi =>
      obtain ⟨r, e1, h⟩ := optB_of h
      obtain ⟨p, rfl⟩ := asSub_of e1
      obtain ⟨q, e2, h⟩ := optB_of h
      obtain ⟨p2, e3⟩ := asCut_of e2
      obtain ⟨b, e4, h⟩ := optB_of h
      obtain ⟨h, h3⟩ := and_of h
      obtain ⟨h1, h2⟩ := and_of h
      rw [e3, e4, isNone_of h1]
      exact se_cuthiN c.hK (R.E c tk h2) (R.E c tk h3)
    | _ => cases h
  | o3 o a b d =>
    cases o
    obtain ⟨r, e1, h⟩ := optB_of h
    obtain ⟨p, rfl⟩ := asSub_of e1
    obtain ⟨q, e2, h⟩ := optB_of h
    obtain ⟨p2, e3⟩ := asCut_of e2
    obtain ⟨b, e4, h⟩ := optB_of h
    obtain ⟨b2, e5, h⟩ := optB_of h
    obtain ⟨h, h3⟩ := and_of h
    obtain ⟨h1, h2⟩ := and_of h
    rw [e3, e4, e5]
    exact se_cutN c.hK (R.E c tk h1) (R.E c tk h2) (R.E c tk h3)
  | _ => cases h
theorem kAs_ok (R : RecOk rc tb) (c : CtxOk X w F tb cc) (tk : Takes X W) : ∀ {es : List Expr} {t : T}, kAs rc cc es t = true → SA X w F W es t ∧ (∀ y ∈ es, ∀ x p, y ≠ .Starred x p) ∧ tlen t = es.length
  | [], t, h => by
    cases t with
    | nil => exact ⟨sa_nil, by simp, rfl⟩
    | _ => cases h
  | e :: es, t, h => by
    cases t with
    | cons a r =>
      obtain ⟨h, h3⟩ := and_of h
      obtain ⟨h1, h2⟩ := and_of h
      obtain ⟨i1, i2, i3⟩ := kAs_ok R c tk h3
      refine ⟨sa_cons (R.E c tk h2) i1 (noStar_of h1), fun y hy => ?_, by show tlen r + 1 = es.length + 1; rw [i3]⟩
      rcases List.mem_cons.mp hy with rfl | hy
      · exact noStar_of h1
      · exact i2 y hy
    | _ => cases h
theorem kKs_ok (R : RecOk rc tb) (c : CtxOk X w F tb cc) (tk : Takes X W) : ∀ {ks : List Keyword} {t : T}, kKs rc cc ks t = true → PK X ks (rdA w F W t)
  | [], t, h => by
    cases t with
    | nil => exact sk_nil
    | _ => cases h
  | ⟨nm, v, p⟩ :: ks, t, h => by
    cases t with
    | cons a r =>
      obtain ⟨h1, h2⟩ := and_of h
      exact sk_cons (R.E c tk h1) (kKs_ok R c tk h2)
    | _ => cases h
theorem kVs_ok (R : RecOk rc tb) (c : CtxOk X w F tb cc) (tk : Takes X W) {op : BoolOp} {p : Pos} : ∀ {es : List Expr} {t : T}, kVs rc cc op p es t = true → SE X w F W (.BoolOp op es p) t
  | [], t, h => by cases h
  | [a], t, h => se_one (R.E c tk h)
  | a :: b :: rest, t, h => by
    cases t with
    | and t1 t2 =>
      obtain ⟨h, h3⟩ := and_of h
      obtain ⟨h1, h2⟩ := and_of h
      have := of_decide_eq_true h1
      subst this
      exact se_and (R.E c tk h2) (kVs_ok R c tk h3)
    | or t1 t2 =>
      obtain ⟨h, h3⟩ := and_of h
      obtain ⟨h1, h2⟩ := and_of h
      have := of_decide_eq_true h1
      subst this
      exact se_or (R.E c tk h2) (kVs_ok R c tk h3)
    | orl t1 t2 =>
      obtain ⟨h, h3⟩ := and_of h
      obtain ⟨h1, h2⟩ := and_of h
      have := of_decide_eq_true h1
      subst this
      exact se_orl c.hK (R.E c tk h2) (kVs_ok R c tk h3)
    | _ => cases h
theorem kWs_ok (R : RecOk rc tb) (c : CtxOk X w F tb cc) (tk : Takes X W) {op : BoolOp} {p : Pos} : ∀ {es : List Expr} {t : T}, kWs rc cc op p es t = true → PW X (.BoolOp op es p) (rdT w F W t)
  | [], t, h => by cases h
  | [a], t, h => by
    cases op with
    | And => exact sw_and1 (R.Tt c tk h)
    | Or => exact sw_or1 (R.Tt c tk h)
  | a :: b :: rest, t, h => by
    cases t with
    | and t1 t2 =>
      obtain ⟨h, h3⟩ := and_of h
      obtain ⟨h1, h2⟩ := and_of h
      have := of_decide_eq_true h1
      subst this
      exact sw_and (R.Tt c tk h2) (kWs_ok R c tk h3)
    | or t1 t2 =>
      obtain ⟨h, h3⟩ := and_of h
      obtain ⟨h1, h2⟩ := and_of h
      have := of_decide_eq_true h1
      subst this
      exact sw_or (R.Tt c tk h2) (kWs_ok R c tk h3)
    | _ => cases h
theorem st_w (h : PW X e (rdT w F W t)) : ST X w F W e t := ⟨fun pins s σ H Q I q => h.run (eval e X.env) pins s σ H Q I q⟩
theorem kChn_ok (R : RecOk rc tb) (c : CtxOk X w F tb cc) (tk : Takes X W) {o p : O2} (h : kChn rc cc o p e t1 t2 t3 = true) : SE X w F W e (.chn o p t1 t2 t3) ∧ ST X w F W e (.chn o p t1 t2 t3) := by
  obtain ⟨r, e1, h⟩ := optB_of h
  obtain ⟨p, rfl⟩ := asCmp2_of e1
  obtain ⟨h, h6⟩ := and_of h
  obtain ⟨h, h5⟩ := and_of h
  obtain ⟨h, h4⟩ := and_of h
  obtain ⟨h, h3⟩ := and_of h
  obtain ⟨h1, h2⟩ := and_of h
  have h1 := of_decide_eq_true h1
  have h2 := of_decide_eq_true h2
  rw [← h1, ← h2]
  exact ⟨se_chn (cmp_ok c _) (cmp_ok c _) (R.E c tk h4) (R.E c tk h5) (R.E c tk h6) (marks_of h3), st_chn (cmp_ok c _) (cmp_ok c _) (R.E c tk h4) (R.E c tk h5) (R.E c tk h6) (marks_of h3)⟩
theorem CtxOk.xok (c : CtxOk X w F tb cc) (h : (!tb.hue.isEmpty) = true) : XcOk w := by
  rcases c.xs.xo with z | z
  · rw [z] at h; cases h
  · exact z
theorem clsB_ok (c : CtxOk X w F tb cc) {ty : Ty} (h : clsB tb cc e ty = true) : PE X e (tC (clsV w ty)) ∧ tyKnown w ty ∧ ∀ x p, e ≠ .Starred x p := by
  obtain ⟨q, e1, h⟩ := optB_of h
  rw [asName_of e1]
  refine ⟨?_, ?_, fun x p z => nomatch z⟩
  · cases ty with
    | own n =>
      obtain ⟨h1, h2⟩ := and_of h
      obtain ⟨k, hk, h⟩ := List.any_eq_true.mp h2
      obtain ⟨k1, k2⟩ := and_of h
      obtain ⟨g1, g2⟩ := c.gl h1
      have m := (c.xs.xcs k hk).at_
      rw [of_decide_eq_true k1, of_decide_eq_true k2] at m
      exact pe_glob g1 m rfl g2
    | hue =>
      obtain ⟨h1, h2⟩ := and_of h
      obtain ⟨g1, g2⟩ := c.gl h1
      exact pe_glob g1 (c.xs.hue _ (of_decide_eq_true h2)) rfl g2
    | verr =>
      obtain ⟨h1, h2⟩ := and_of h
      obtain ⟨d1, d2, d3, d4⟩ := c.bl h1
      have e := of_decide_eq_true h2
      exact pe_bltn d1 d2 (by rw [e]; decide +kernel) (v := .ty "ValueError") rfl d3 d4
    | _ => cases h
  · cases ty with
    | own n =>
      obtain ⟨h1, h2⟩ := and_of h
      obtain ⟨k, hk, h⟩ := List.any_eq_true.mp h2
      obtain ⟨k1, k2⟩ := and_of h
      have m := (c.xs.xcs k hk).mem
      rw [of_decide_eq_true k1] at m
      exact m
    | hue => trivial
    | verr => trivial
    | _ => cases h
theorem clssB_ok (c : CtxOk X w F tb cc) : ∀ {es : List Expr} {tys : List Ty}, clssB tb cc es tys = true → ClsEs X w es tys ∧ ∀ t ∈ tys, tyKnown w t
  | [], [], _ => ⟨.nil, by simp⟩
  | [], _ :: _, h => by cases h
  | _ :: _, [], h => by cases h
  | e :: es, t :: ts, h => by
    obtain ⟨h1, h2⟩ := and_of h
    obtain ⟨a1, a2, a3⟩ := clsB_ok c h1
    obtain ⟨b1, b2⟩ := clssB_ok c h2
    refine ⟨.cons a1 a3 b1, fun y hy => ?_⟩
    rcases List.mem_cons.mp hy with rfl | hy
    · exact a2
    · exact b2 y hy
theorem kIsi_ok (R : RecOk rc tb) (c : CtxOk X w F tb cc) (tk : Takes X W) {tys : List Ty} (h : kIsi rc tb cc e t tys = true) : SE X w F W e (.isi t tys) := by
  obtain ⟨r, e1, h⟩ := optB_of h
  obtain ⟨p, q, rfl⟩ := asCall2_of e1
  obtain ⟨h, h5⟩ := and_of h
  obtain ⟨h, h4⟩ := and_of h
  obtain ⟨h, h3⟩ := and_of h
  obtain ⟨h1, h2⟩ := and_of h
  rw [of_decide_eq_true h1]
  obtain ⟨b1, b2, b3, b4⟩ := c.bl h2
  rcases (Bool.or_eq_true _ _).mp h5 with h5 | h5
  · cases tys with
    | nil => cases h5
    | cons ty tys =>
      cases tys with
      | nil =>
        rcases (Bool.or_eq_true _ _).mp h5 with h5 | h5
        · obtain ⟨q, e2, h⟩ := optB_of h5
          have e3 := asName_of e2
          obtain ⟨h, h8⟩ := and_of h
          obtain ⟨h6, h7⟩ := and_of h
          have h8 := of_decide_eq_true h8
          obtain ⟨d1, d2, d3, d4⟩ := c.bl h6
          rw [e3]
          refine se_isi1 c.hK b1 b2 d1 d2 ?_ h7 d3 d4 (R.E c tk h4) (noStar_of h3)
          rw [h8]
          cases ty <;> first | decide +kernel | cases h7
        · obtain ⟨h6, h7⟩ := and_of h5
          obtain ⟨a1, a2, a3⟩ := clsB_ok c h7
          exact se_isx1 c.hK (c.xok h6) b1 b2 a2 a1 a3 (R.E c tk h4) (noStar_of h3)
      | cons _ _ => cases h5
  · obtain ⟨h5, h8⟩ := and_of h5
    obtain ⟨h6, h7⟩ := and_of h5
    obtain ⟨es, e2, h8⟩ := optB_of h8
    obtain ⟨k, tp, e3⟩ := asTup_of e2
    obtain ⟨a1, a2⟩ := clssB_ok c h8
    rw [e3]
    exact se_isxt c.hK (c.xok h6) b1 b2 a2 (of_decide_eq_true h7) a1 (R.E c tk h4) (noStar_of h3)
theorem bltsB_ok (c : CtxOk X w F tb cc) : ∀ {es : List Expr} {tys : List Ty}, bltsB tb cc es tys = true → BltEs X es tys ∧ tys.all builtinTy = true
  | [], [], _ => ⟨.nil, rfl⟩
  | [], _ :: _, h => by cases h
  | _ :: _, [], h => by cases h
  | e :: es, t :: ts, h => by
    obtain ⟨h1, h2⟩ := and_of h
    obtain ⟨b1, b2⟩ := bltsB_ok c h2
    obtain ⟨q, e2, h⟩ := optB_of h1
    have e3 := asName_of e2
    obtain ⟨h, h8⟩ := and_of h
    obtain ⟨h6, h7⟩ := and_of h
    have h8 := of_decide_eq_true h8
    obtain ⟨d1, d2, d3, d4⟩ := c.bl h6
    rw [e3]
    refine ⟨.cons (pe_bltn d1 d2 (v := .ty (tyN t)) (u := .type (tyN t)) ?_ rfl d3 d4) (by intro x p z; cases z) b1, by rw [List.all_cons, h7, b2]; rfl⟩
    rw [h8]
    cases t <;> first | decide +kernel | cases h7
theorem kIsb_ok (R : RecOk rc tb) (c : CtxOk X w F tb cc) (tk : Takes X W) {tys : List Ty} (h : kIsb rc tb cc e t tys = true) : SE X w F W e (.isi t tys) := by
  obtain ⟨r, e1, h⟩ := optB_of h
  obtain ⟨p, q, rfl⟩ := asCall2_of e1
  obtain ⟨h, h6⟩ := and_of h
  obtain ⟨h, h5⟩ := and_of h
  obtain ⟨h, h4⟩ := and_of h
  obtain ⟨h, h3⟩ := and_of h
  obtain ⟨h1, h2⟩ := and_of h
  obtain ⟨n1, n2⟩ := and_of h5
  rw [of_decide_eq_true h1]
  obtain ⟨b1, b2, b3, b4⟩ := c.bl h2
  obtain ⟨es, e2, h8⟩ := optB_of h6
  obtain ⟨k, tp, e3⟩ := asTup_of e2
  obtain ⟨a1, a2⟩ := bltsB_ok c h8
  rw [e3]
  exact se_isbt c.hK b1 b2 a2 (by intro z; subst z; cases n1) (of_decide_eq_true n2) a1 (R.E c tk h4) (noStar_of h3)
theorem kSmt_ok (R : RecOk rc tb) (c : CtxOk X w F tb cc) (tk : Takes X W) {m : Sm} (h : kSmt rc cc m e t1 t2 = true) : SE X w F W e (.smt m t1 t2) := by
  obtain ⟨r, e1, h⟩ := optB_of h
  have e2 := asMeth_of e1
  obtain ⟨h, h5⟩ := and_of h
  obtain ⟨h, h4⟩ := and_of h
  obtain ⟨h, h3⟩ := and_of h
  obtain ⟨h1, h2⟩ := and_of h
  rw [e2]
  split at h5
  · rename_i x ex
    obtain ⟨h6, h7⟩ := and_of h5
    rw [ex]
    cases m with
    | join => exact se_join c.hK (of_decide_eq_true h1) (R.E c tk h4) h2 h3 (R.E c tk h7) (noStar_of h6)
    | split => exact se_split c.hK (of_decide_eq_true h1) (R.E c tk h4) h2 h3 (R.E c tk h7) (noStar_of h6)
  · cases h5
theorem jpB_ok (R : RecOk rc tb) (c : CtxOk X w F tb cc) (tk : Takes X W) (h : jpB rc cc e t = true) : ∃ te, JPart X w F W e t te := by
  unfold jpB at h
  split at h
  · obtain ⟨h1, h2⟩ := and_of h
    have := of_decide_eq_true h1
    subst this
    exact ⟨_, .con (of_decide_eq_true h2) pe_str⟩
  · obtain ⟨h1, h2⟩ := and_of h
    rw [of_decide_eq_true h1]
    exact ⟨_, .fv (R.E c tk h2)⟩
  · cases h
theorem kJs_ok (R : RecOk rc tb) (c : CtxOk X w F tb cc) (tk : Takes X W) {o : O2} (h : kJs rc cc o e t1 t2 = true) : SE X w F W e (.o2 o t1 t2) := by
  obtain ⟨h0, h'⟩ := and_of h
  clear h
  have := of_decide_eq_true h0
  subst this
  clear h0
  have h : kJs0 rc cc e t1 t2 = true := h'
  unfold kJs0 at h
  split at h
  · obtain ⟨h1, h2⟩ := and_of h
    obtain ⟨ta, ja⟩ := jpB_ok R c tk h1
    obtain ⟨tb', jb⟩ := jpB_ok R c tk h2
    exact se_joined2 ja jb
  · split at h
    · obtain ⟨h, h3⟩ := and_of h
      obtain ⟨h1, h2⟩ := and_of h
      obtain ⟨ta, ja⟩ := jpB_ok R c tk h1
      obtain ⟨tb', jb⟩ := jpB_ok R c tk h2
      obtain ⟨tc, jc⟩ := jpB_ok R c tk h3
      exact se_joined3 ja jb jc
    · cases h
  · cases h
theorem kCallf_ok (R : RecOk rc tb) (c : CtxOk X w F tb cc) (tk : Takes X W) {i : Nat} {fs : List Nat} (h : kCallf rc tb cc i fs e t = true) : SE X w F W e (.callf i fs t) := by
  obtain ⟨r, e1, h⟩ := optB_of h
  obtain ⟨p, q, rfl⟩ := asCall_of e1
  obtain ⟨h, h6⟩ := and_of h
  obtain ⟨h, h5⟩ := and_of h
  obtain ⟨h, h4⟩ := and_of h
  obtain ⟨h, h3⟩ := and_of h
  obtain ⟨h1, h2⟩ := and_of h
  obtain ⟨v1, v2, v3⟩ := c.vis h2
  obtain ⟨k, room, df⟩ := c.defs
  have room := room.mono (Nat.le_succ k)
  obtain ⟨i1, i2, i3⟩ := kAs_ok R c tk h6
  have ek : r.2.2 = [] := List.isEmpty_iff.mp h3
  rw [ek]
  cases ea : r.2.1 with
  | nil => rw [ea] at h4; cases h4
  | cons y ys =>
    rw [ea] at i1 i2
    refine se_callf c.hK room (by rw [c.hN]; exact of_decide_eq_true h1) v1 v2 v3 tk (fun g hg => ?_) i1 i2
    obtain ⟨q, eq, hq⟩ := optB_of (List.all_eq_true.mp h5 g hg)
    exact ⟨_, _, _, df g q.1 q.2.1 q.2.2 eq, of_decide_eq_true hq⟩
theorem perm_len {α : Type} {ord : List Nat} {n np : Nat} (h : permB ord n np = true) (vs : List α) (hl : vs.length = n) : (perm ord vs).length = np := by
  obtain ⟨h1, h3⟩ := and_of h
  rw [← of_decide_eq_true h3]
  clear h3 h
  unfold perm
  induction ord with
  | nil => rfl
  | cons i r ih =>
    rw [List.all_cons] at h1
    obtain ⟨g1, g2⟩ := and_of h1
    have g1 : i < vs.length := by rw [hl]; exact of_decide_eq_true g1
    rw [List.filterMap_cons, List.getElem?_eq_getElem g1]
    show (List.filterMap _ r).length + 1 = r.length + 1
    rw [ih g2]
theorem kCall_ok (R : RecOk rc tb) (c : CtxOk X w F tb cc) (tk : Takes X W) {g : Nat} (h : kCall rc tb cc g e t = true) : SE X w F W e (.call g t) := by
  obtain ⟨r, e1, h2⟩ := optB_of h
  clear h
  obtain ⟨p, q, rfl⟩ := asCall_of e1
  obtain ⟨q, e2, h⟩ := optB_of h2
  clear h2
  obtain ⟨h, h6⟩ := and_of h
  obtain ⟨h, h5⟩ := and_of h
  obtain ⟨h, h3⟩ := and_of h
  obtain ⟨h, h2⟩ := and_of h
  obtain ⟨h1, h0⟩ := and_of h
  obtain ⟨g1, g2⟩ := c.gl h2
  obtain ⟨k, room, df⟩ := c.defs
  have room := room.mono (Nat.le_succ k)
  have d := df g q.1 q.2.1 q.2.2 e2
  rw [of_decide_eq_true h1] at d
  obtain ⟨i1, i2, i3⟩ := kAs_ok R c tk h6
  have ek : r.2.2 = [] := List.isEmpty_iff.mp h3
  rw [ek]
  cases ea : r.2.1 with
  | nil =>
    rw [ea] at h6
    cases t with
    | nil => exact se_call0 c.hK d room g1 tk g2 (of_decide_eq_true h5).symm (of_decide_eq_true h0)
    | _ => cases h6
  | cons a as =>
    rw [ea] at i1 i2
    exact se_call c.hK d room g1 tk i1 i2 g2 (of_decide_eq_true h5) (of_decide_eq_true h0)
theorem kCallk_ok (R : RecOk rc tb) (c : CtxOk X w F tb cc) (tk : Takes X W) {g : Nat} {ord : List Nat} (h : kCallk rc tb cc g e t1 t2 ord = true) : SE X w F W e (.callk g t1 t2 ord) := by
  obtain ⟨r, e1, h2⟩ := optB_of h
  clear h
  obtain ⟨p, q, rfl⟩ := asCall_of e1
  obtain ⟨q, e2, h⟩ := optB_of h2
  clear h2
  obtain ⟨h, h5⟩ := and_of h
  obtain ⟨h, h4⟩ := and_of h
  obtain ⟨h, h3⟩ := and_of h
  obtain ⟨h, h2⟩ := and_of h
  obtain ⟨h1, h0⟩ := and_of h
  obtain ⟨g1, g2⟩ := c.gl h2
  obtain ⟨k, room, df⟩ := c.defs
  have room := room.mono (Nat.le_succ k)
  have d := df g q.1 q.2.1 q.2.2 e2
  rw [of_decide_eq_true h1] at d
  obtain ⟨i1, i2, i3⟩ := kAs_ok R c tk h3
  have ik := kKs_ok R c tk h4
  obtain ⟨kw, hkw, h⟩ := List.any_eq_true.mp h5
  obtain ⟨h, j5⟩ := and_of h
  obtain ⟨h, j4⟩ := and_of h
  obtain ⟨h, j3⟩ := and_of h
  obtain ⟨j1, j2⟩ := and_of h
  have j1 := of_decide_eq_true j1
  have j2 := of_decide_eq_true j2
  have j3 := of_decide_eq_true j3
  have j4 := of_decide_eq_true j4
  obtain ⟨np, ks, od⟩ := kw
  have j1 : np = tlen t1 := j1
  have j2 : od = ord := j2
  subst j2
  cases ea : r.2.1 with
  | nil =>
    rw [ea] at i3 h3
    have e0 : np = 0 := by rw [j1, i3]; rfl
    subst e0
    cases t1 with
    | nil => exact se_callk0 c.hK d hkw room g1 tk ik g2 j3 j4 (fun vs hl => perm_len j5 vs hl) (of_decide_eq_true h0)
    | _ => cases h3
  | cons a as =>
    rw [ea] at i1 i2
    exact se_callk c.hK d hkw room g1 tk i1 ik i2 g2 j3 j1.symm j4 (fun vs hl => perm_len j5 vs hl) (of_decide_eq_true h0)
theorem kDget_ok (R : RecOk rc tb) (c : CtxOk X w F tb cc) (tk : Takes X W) (h : kDget rc cc e t1 t2 = true) : SE X w F W e (.dget t1 t2) := by
  obtain ⟨r, e1, h2⟩ := optB_of h
  clear h
  have := asMeth_of e1
  subst this
  obtain ⟨h, h5⟩ := and_of h2
  obtain ⟨h, h4⟩ := and_of h
  obtain ⟨h, h3⟩ := and_of h
  obtain ⟨h1, h2⟩ := and_of h
  rw [of_decide_eq_true h1]
  split at h5
  · rename_i x ea
    obtain ⟨j1, j2⟩ := and_of h5
    rw [ea]
    exact se_dget c.un (R.E c tk h4) (R.E c tk j2) (m1_of h2 h3 (noStar_of j1))
  · cases h5
theorem kIxof_ok (R : RecOk rc tb) (c : CtxOk X w F tb cc) (tk : Takes X W) {tp : Bool} (h : kIxof rc cc tp e t1 t2 = true) : SE X w F W e (.ixof tp t1 t2) := by
  obtain ⟨h0, h⟩ := and_of h
  cases tp with
  | true => cases h0
  | false =>
    obtain ⟨r, e1, h⟩ := optB_of h
    have e2 := asMeth_of e1
    obtain ⟨h, h5⟩ := and_of h
    obtain ⟨h, h4⟩ := and_of h
    obtain ⟨h, h3⟩ := and_of h
    obtain ⟨h1, h2⟩ := and_of h
    rw [e2]
    split at h5
    · rename_i x ex
      obtain ⟨h6, h7⟩ := and_of h5
      rw [ex]
      exact se_ixof c.hK (of_decide_eq_true h1) (R.E c tk h4) h2 h3 (R.E c tk h7) (noStar_of h6)
    · cases h5
theorem kDget2_ok (R : RecOk rc tb) (c : CtxOk X w F tb cc) (tk : Takes X W) (h : kDget2 rc cc e t1 t2 t3 = true) : SE X w F W e (.dget2 t1 t2 t3) := by
  obtain ⟨r, e1, h2⟩ := optB_of h
  clear h
  have := asMeth_of e1
  subst this
  obtain ⟨h, h5⟩ := and_of h2
  obtain ⟨h, h4⟩ := and_of h
  obtain ⟨h, h3⟩ := and_of h
  obtain ⟨h1, h2⟩ := and_of h
  rw [of_decide_eq_true h1]
  split at h5
  · rename_i x y ea
    obtain ⟨j, j4⟩ := and_of h5
    obtain ⟨j, j3⟩ := and_of j
    obtain ⟨j1, j2⟩ := and_of j
    rw [ea]
    exact se_dget2 c.un (R.E c tk h4) (R.E c tk j3) (R.E c tk j4) (m2_of h2 h3 (noStar_of j1) (noStar_of j2))
  · cases h5
theorem kFld_ok (R : RecOk rc tb) (c : CtxOk X w F tb cc) (tk : Takes X W) {n f : Nat} (h : kFld rc tb cc n f e t = true) : SE X w F W e (.fld n t f) := by
  obtain ⟨r, e1, h2⟩ := optB_of h
  clear h
  obtain ⟨p, rfl⟩ := asAttr_of e1
  obtain ⟨h, h4⟩ := and_of h2
  obtain ⟨h, h3⟩ := and_of h
  obtain ⟨h1, h2⟩ := and_of h
  obtain ⟨k, hk, h⟩ := List.any_eq_true.mp h3
  obtain ⟨k1, k2⟩ := and_of h
  have k1 := of_decide_eq_true k1
  have K := c.kls k hk
  have e0 := c.ats f r.2 (of_decide_eq_true h2)
  have fs := K.fs f (of_decide_eq_true k2)
  have cl := K.cls
  rw [k1] at fs cl
  exact se_fld c.hK cl fs e0 (R.E c tk h4) (recv_eq h1)
theorem kMake_ok (R : RecOk rc tb) (c : CtxOk X w F tb cc) (tk : Takes X W) {n g : Nat} (h : kMake rc tb cc n g e t = true) : SE X w F W e (.make n g t) := by
  obtain ⟨r, e1, h2⟩ := optB_of h
  clear h
  obtain ⟨p, q, rfl⟩ := asCall_of e1
  obtain ⟨q, e2, h⟩ := optB_of h2
  clear h2
  obtain ⟨h, h5⟩ := and_of h
  obtain ⟨h, h4⟩ := and_of h
  obtain ⟨h, h3⟩ := and_of h
  obtain ⟨h1, h2⟩ := and_of h
  obtain ⟨g1, g2⟩ := c.gl h2
  obtain ⟨kk, room, df⟩ := c.defs
  have d := df g q.1 q.2.1 q.2.2 e2
  obtain ⟨k, hk, h⟩ := List.any_eq_true.mp h3
  obtain ⟨h, k3⟩ := and_of h
  obtain ⟨k1, k2⟩ := and_of h
  have k1 := of_decide_eq_true k1
  have k2 := of_decide_eq_true k2
  have K := c.kls k hk
  have mk := K.mkr g (of_decide_eq_true k3)
  have at_ := K.at_
  rw [k1] at mk at_
  rw [k2] at at_
  obtain ⟨i1, i2, i3⟩ := kAs_ok R c tk h5
  have ek : r.2.2 = [] := List.isEmpty_iff.mp h1
  rw [ek]
  cases ea : r.2.1 with
  | nil =>
    rw [ea] at h5
    cases t with
    | nil => exact se_make0 c.hK mk at_ g1 d room g2 (of_decide_eq_true h4)
    | _ => cases h5
  | cons a as =>
    rw [ea] at i1 i2
    exact se_make c.hK mk at_ g1 d room i1 i2 g2 (of_decide_eq_true h4)
theorem kMeth_ok (R : RecOk rc tb) (c : CtxOk X w F tb cc) (tk : Takes X W) {n g : Nat} (h : kMeth rc tb cc n g e t1 t2 = true) : SE X w F W e (.meth n g t1 t2) := by
  obtain ⟨r, e1, h2⟩ := optB_of h
  clear h
  have := asMeth_of e1
  subst this
  obtain ⟨q, e2, h⟩ := optB_of h2
  clear h2
  obtain ⟨h, h7⟩ := and_of h
  obtain ⟨h, h6⟩ := and_of h
  obtain ⟨h, h5⟩ := and_of h
  obtain ⟨h, h4⟩ := and_of h
  obtain ⟨h, h3⟩ := and_of h
  obtain ⟨h1, h2⟩ := and_of h
  obtain ⟨kk, room, df⟩ := c.defs
  have room := room.mono (Nat.le_succ kk)
  have d := df g q.1 q.2.1 q.2.2 e2
  obtain ⟨k, hk, h⟩ := List.any_eq_true.mp h3
  obtain ⟨k1, k2⟩ := and_of h
  have k1 := of_decide_eq_true k1
  have K := c.kls k hk
  obtain ⟨mt, hn⟩ := K.ms _ (of_decide_eq_true k2)
  have cl := K.cls
  rw [k1] at mt cl
  obtain ⟨i1, i2, i3⟩ := kAs_ok R c tk h7
  have h5 := of_decide_eq_true h5
  cases ea : r.2.2.2.1 with
  | nil =>
    rw [ea] at h7
    cases t2 with
    | nil => exact se_meth0 c.hK cl mt hn d room tk (R.E c tk h6) h1 h2 (of_decide_eq_true h4)
    | _ => cases h7
  | cons a as =>
    rw [ea] at i1 i2 h5
    exact se_meth c.hK cl mt hn d room tk (R.E c tk h6) i1 i2 h1 h2 h5 (of_decide_eq_true h4)
theorem kMut_ok (R : RecOk rc tb) (c : CtxOk X w F tb cc) (tk : Takes X W) {m : Mu} (h : kMut rc cc m e t1 t2 = true) : SE X w F W e (.mtd m t1 t2) := by
  obtain ⟨q, e0, h2⟩ := optB_of h
  clear h
  obtain ⟨r, e1, h⟩ := optB_of h2
  clear h2
  have := asMeth_of e1
  subst this
  obtain ⟨h, h6⟩ := and_of h
  obtain ⟨h, h5⟩ := and_of h
  obtain ⟨h, h4⟩ := and_of h
  obtain ⟨h, h3⟩ := and_of h
  obtain ⟨h1, h2⟩ := and_of h
  have h1 := of_decide_eq_true h1
  have h2 := of_decide_eq_true h2
  obtain ⟨i1, i2, i3⟩ := kAs_ok R c tk h6
  rw [h1]
  have fin1 : ∀ {id : String}, Slot "list" q.1 id → typeOf (.builtin id) = pure (.type "method_descriptor") → MtR X id (rMut w m) → q.2 = 1 → SE X w F W (.Call (.Attribute r.1 q.1 r.2.2.1) r.2.2.2.1 [] r.2.2.2.2) (.mtd m t1 t2) := by
    intro id sl ty mt e1
    rw [e1] at h2
    cases ea : r.2.2.2.1 with
    | nil => rw [ea] at h2; cases h2
    | cons a as =>
      rw [ea] at i1 i2 h2
      exact se_mut c.hK sl ty mt (R.E c tk h5) h3 h4 i1 i2 (by rw [h2]; decide)
  have fin2 : ∀ {id : String}, Slot "list" q.1 id → typeOf (.builtin id) = pure (.type "method_descriptor") → MtR X id (rMut w m) → q.2 = 2 → SE X w F W (.Call (.Attribute r.1 q.1 r.2.2.1) r.2.2.2.1 [] r.2.2.2.2) (.mtd m t1 t2) := by
    intro id sl ty mt e1
    rw [e1] at h2
    cases ea : r.2.2.2.1 with
    | nil => rw [ea] at h2; cases h2
    | cons a as =>
      rw [ea] at i1 i2 h2
      exact se_mut c.hK sl ty mt (R.E c tk h5) h3 h4 i1 i2 (by rw [h2]; decide)
  have fin0 : ∀ {id : String}, Slot "list" q.1 id → typeOf (.builtin id) = pure (.type "method_descriptor") → MtR X id (rMut w m) → q.2 = 0 → SE X w F W (.Call (.Attribute r.1 q.1 r.2.2.1) r.2.2.2.1 [] r.2.2.2.2) (.mtd m t1 t2) := by
    intro id sl ty mt e1
    rw [e1] at h2
    have ea : r.2.2.2.1 = [] := List.length_eq_zero_iff.mp h2
    rw [ea] at h6 ⊢
    cases t2 with
    | nil => exact se_mut0 c.hK sl ty mt (R.E c tk h5) h3 h4
    | _ => cases h6
  cases m with
  | append => cases e0; exact fin1 PySem.F.slot_list_append PySem.F.type_list_append m_append rfl
  | extend => cases e0; exact fin1 PySem.F.slot_list_extend PySem.F.type_list_extend (m_extend c.hK) rfl
  | pop => cases e0; exact fin0 PySem.F.slot_list_pop PySem.F.type_list_pop m_pop rfl
  | popat => cases e0; exact fin1 PySem.F.slot_list_pop PySem.F.type_list_pop m_popat rfl
  | insert => cases e0; exact fin2 PySem.F.slot_list_insert PySem.F.type_list_insert m_insert rfl
  | reverse => cases e0; exact fin0 PySem.F.slot_list_reverse PySem.F.type_list_reverse m_reverse rfl
  | _ => cases e0
theorem isTupE_of {tg : Expr} (h : isTupE tg = true) : ∃ es k p, tg = .Tuple es k p := by
  cases tg <;> first | exact ⟨_, _, _, rfl⟩ | cases h
theorem kIt_ok (R : RecOk rc tb) (c : CtxOk X w F tb cc) (tk : Takes X W) {tg : Expr} (h : kIt rc tb cc tg e t = true) : SI X w F W tg e t := by
  cases t with
  | itv a => exact si_itv c.hK (R.E c tk h)
  | rng1 a =>
    obtain ⟨r, e1, h⟩ := optB_of h
    obtain ⟨p, q, rfl⟩ := asCall1_of e1
    obtain ⟨h, h4⟩ := and_of h
    obtain ⟨h, h3⟩ := and_of h
    obtain ⟨h1, h2⟩ := and_of h
    obtain ⟨b1, b2, b3, b4⟩ := c.bl h2
    rw [of_decide_eq_true h1]
    exact si_rng1 b1 b2 (R.E c tk h4) (noStar_of h3)
  | rng2 a b =>
    obtain ⟨r, e1, h⟩ := optB_of h
    obtain ⟨p, q, rfl⟩ := asCall2_of e1
    obtain ⟨h, h6⟩ := and_of h
    obtain ⟨h, h5⟩ := and_of h
    obtain ⟨h, h4⟩ := and_of h
    obtain ⟨h, h3⟩ := and_of h
    obtain ⟨h1, h2⟩ := and_of h
    obtain ⟨b1, b2, b3, b4⟩ := c.bl h2
    rw [of_decide_eq_true h1]
    exact si_rng2 b1 b2 (R.E c tk h5) (R.E c tk h6) (noStar_of h3) (noStar_of h4)
  | rngd a b =>
    obtain ⟨r, e1, h⟩ := optB_of h
    obtain ⟨p, q, rfl⟩ := asCall3_of e1
    obtain ⟨h, h8⟩ := and_of h
    obtain ⟨h, h7⟩ := and_of h
    obtain ⟨h, h6⟩ := and_of h
    obtain ⟨h, h5⟩ := and_of h
    obtain ⟨h, h4⟩ := and_of h
    obtain ⟨h, h3⟩ := and_of h
    obtain ⟨h1, h2⟩ := and_of h
    obtain ⟨b1, b2, b3, b4⟩ := c.bl h2
    rw [of_decide_eq_true h1]
    exact si_rngd b1 b2 (R.E c tk h6) (R.E c tk h7) (R.E c tk h8) (noStar_of h3) (noStar_of h4) (noStar_of h5)
  | enm k a =>
    obtain ⟨h, h9⟩ := and_of h
    obtain ⟨k0, kt⟩ := and_of h
    have := of_decide_eq_true k0
    subst this
    obtain ⟨es, kk, tp, rfl⟩ := isTupE_of kt
    obtain ⟨r, e1, h⟩ := optB_of h9
    obtain ⟨p, q, rfl⟩ := asCall1_of e1
    obtain ⟨h, h4⟩ := and_of h
    obtain ⟨h, h3⟩ := and_of h
    obtain ⟨h1, h2⟩ := and_of h
    obtain ⟨b1, b2, b3, b4⟩ := c.bl h2
    rw [of_decide_eq_true h1]
    exact si_enum c.hK b1 b2 (R.E c tk h4) (noStar_of h3)
  | zip2 a b =>
    obtain ⟨kt, h9⟩ := and_of h
    obtain ⟨es, kk, tp, rfl⟩ := isTupE_of kt
    obtain ⟨r, e1, h⟩ := optB_of h9
    obtain ⟨p, q, rfl⟩ := asCall2_of e1
    obtain ⟨h, h6⟩ := and_of h
    obtain ⟨h, h5⟩ := and_of h
    obtain ⟨h, h4⟩ := and_of h
    obtain ⟨h, h3⟩ := and_of h
    obtain ⟨h1, h2⟩ := and_of h
    obtain ⟨b1, b2, b3, b4⟩ := c.bl h2
    rw [of_decide_eq_true h1]
    exact si_zip c.hK b1 b2 (R.E c tk h5) (R.E c tk h6) (noStar_of h3) (noStar_of h4)
  | _ => cases h
theorem kTs_ok (R : RecOk rc tb) (c : CtxOk X w F tb cc) : ∀ {es : List Expr} {t : T}, kTs rc cc es t = true → PTs X es (rdTs w F t)
  | [], t, h => by
    cases t with
    | nil => exact sts_nil
    | _ => cases h
  | [e], t, h => by
    cases t with
    | cons a r =>
      cases r with
      | nil => exact sts_one (R.Tt c takes0 h)
      | _ => cases h
    | _ => cases h
  | _ :: _ :: _, t, h => by
    unfold kTs at h
    cases h
theorem kLc_se (R : RecOk rc tb) (c : CtxOk X w F tb cc) (tk : Takes X W) {l : Lc} {o : Bool} {it tg ifs elt : T} {ws : List Nat} (h : kLc rc tb cc l it tg ifs elt ws = true) :
    SE X w F W (.ListComp l.elt [⟨l.tg, l.it, l.ifs, 0⟩] l.sc l.pos) (.cmp1 o it tg ifs elt ws) ∧
    ∀ {i : Nat} {y : Str} {py spos : Pos}, slotB cc i y = true → swB cc y py l.sc l.pos = true → SS X w F W (.Assign [.Name y py] (.ListComp l.elt [⟨l.tg, l.it, l.ifs, 0⟩] l.sc l.pos) spos) (.asg (.tnm i) (.cmp1 o it tg ifs elt ws)) := by
  obtain ⟨h, h6⟩ := and_of h
  obtain ⟨h, h5⟩ := and_of h
  obtain ⟨h, h4⟩ := and_of h
  obtain ⟨h, h3⟩ := and_of h
  obtain ⟨h1, h2⟩ := and_of h
  have bo := c.blkOk h2
  have kd := blkB_kind h2
  have nd : X.N.Nodup := by rw [c.hN]; exact c.nd
  have hg : BlkAll X l.sc fun Y => PG Y l.tg (rdC w F ((ownB cc.N l.sc ws).map (·.2)) tg) := fun s H C cl fp => by rw [ownB_map]; exact R.C (c.blk kd s H C cl fp) h4
  have ht : BlkAll X l.sc fun Y => PTs Y l.ifs (rdTs w F ifs) := fun s H C cl fp => kTs_ok R (c.blk kd s H C cl fp) h5
  have he : BlkAll X l.sc fun Y => SE Y w F W0 l.elt elt := fun s H C cl fp => R.E (c.blk kd s H C cl fp) takes0 h6
  refine ⟨?_, fun {i y py spos} sl sw => ?_⟩
  · have q := se_cmp1 (o := o) (pos := l.pos) c.calm nd (kIt_ok R c tk h3) bo hg ht he (noSet_of h1 _)
    rw [ownB_map] at q
    exact q
  · obtain ⟨sw, s3⟩ := and_of sw
    obtain ⟨s1, s2⟩ := and_of sw
    have s1 := of_decide_eq_true s1
    have s1 : X.env.scope.names.lookup y = some .local := by rw [c.nm]; exact s1
    obtain ⟨_, l2, _, _⟩ := c.slot sl
    have q := ss_setcmp1 (o := o) (pos := l.pos) (spos := spos) c.calm nd l2 s1 (sw_true c.kd s1 s2 (by simpa using s3)) (kIt_ok R c tk h3) bo hg ht he (noSet_of h1 _)
    rw [ownB_map] at q
    exact q
theorem kLc2_se (R : RecOk rc tb) (c : CtxOk X w F tb cc) (tk : Takes X W) {l : Lc2} {o : Bool} {it tg ifs it2 tg2 ifs2 elt : T} {ws ws2 : List Nat} (h : kLc2 rc tb cc l it tg ifs it2 tg2 ifs2 elt ws ws2 = true) :
    SE X w F W (.ListComp l.elt [⟨l.tg, l.it, l.ifs, 0⟩, ⟨l.tg2, l.it2, l.ifs2, 0⟩] l.sc l.pos) (.cmp2 o it tg ifs it2 tg2 ifs2 elt ws ws2) ∧
    ∀ {i : Nat} {y : Str} {py spos : Pos}, slotB cc i y = true → swB cc y py l.sc l.pos = true → SS X w F W (.Assign [.Name y py] (.ListComp l.elt [⟨l.tg, l.it, l.ifs, 0⟩, ⟨l.tg2, l.it2, l.ifs2, 0⟩] l.sc l.pos) spos) (.asg (.tnm i) (.cmp2 o it tg ifs it2 tg2 ifs2 elt ws ws2)) := by
  obtain ⟨h, h11⟩ := and_of h
  obtain ⟨h, h10⟩ := and_of h
  obtain ⟨h, h9⟩ := and_of h
  obtain ⟨h, h8⟩ := and_of h
  obtain ⟨h, h7⟩ := and_of h
  obtain ⟨h, h6⟩ := and_of h
  obtain ⟨h, h5⟩ := and_of h
  obtain ⟨h, h4⟩ := and_of h
  obtain ⟨h, h3⟩ := and_of h
  obtain ⟨h1, h2⟩ := and_of h
  have bo := c.blkOk h3
  have kd := blkB_kind h3
  have nd : X.N.Nodup := by rw [c.hN]; exact c.nd
  have hv : ∀ i ∈ ws2, i ∈ (ownB cc.N l.sc ws).map (·.2) := fun i hi => by rw [ownB_map]; exact of_decide_eq_true (List.all_eq_true.mp h4 i hi)
  have hg : BlkAll X l.sc fun Y => PG Y l.tg (rdC w F ((ownB cc.N l.sc ws).map (·.2)) tg) := fun s H C cl fp => by rw [ownB_map]; exact R.C (c.blk kd s H C cl fp) h6
  have ht : BlkAll X l.sc fun Y => PTs Y l.ifs (rdTs w F ifs) := fun s H C cl fp => kTs_ok R (c.blk kd s H C cl fp) h7
  have hi1 : BlkAll X l.sc fun Y => SI Y w F W0 l.tg2 l.it2 it2 := fun s H C cl fp => kIt_ok R (c.blk kd s H C cl fp) takes0 h8
  have hg1 : BlkAll X l.sc fun Y => PG Y l.tg2 (rdC w F ws2 tg2) := fun s H C cl fp => R.C (c.blk kd s H C cl fp) h9
  have ht1 : BlkAll X l.sc fun Y => PTs Y l.ifs2 (rdTs w F ifs2) := fun s H C cl fp => kTs_ok R (c.blk kd s H C cl fp) h10
  have he : BlkAll X l.sc fun Y => SE Y w F W0 l.elt elt := fun s H C cl fp => R.E (c.blk kd s H C cl fp) takes0 h11
  refine ⟨?_, fun {i y py spos} sl sw => ?_⟩
  · have q := se_cmp2 (o := o) (pos := l.pos) c.calm nd (kIt_ok R c tk h5) bo hv hg ht hi1 hg1 ht1 he (noSet_of h1 _) (noSet_of h2)
    rw [ownB_map] at q
    exact q
  · obtain ⟨sw, s3⟩ := and_of sw
    obtain ⟨s1, s2⟩ := and_of sw
    have s1 := of_decide_eq_true s1
    have s1 : X.env.scope.names.lookup y = some .local := by rw [c.nm]; exact s1
    obtain ⟨_, l2, _, _⟩ := c.slot sl
    have q := ss_setcmp2 (o := o) (pos := l.pos) (spos := spos) c.calm nd l2 s1 (sw_true c.kd s1 s2 (by simpa using s3)) (kIt_ok R c tk h5) bo hv hg ht hi1 hg1 ht1 he (noSet_of h1 _) (noSet_of h2)
    rw [ownB_map] at q
    exact q
theorem se_nev : SE X w F W e .nil := ⟨fun pins s σ H Q I h => by
  obtain ⟨f, r, G, env, h, P, Xp, S, E, wp, q, qx⟩ := h
  exact wp.elim⟩
theorem ss_nev {s : Stmt} : SS X w F W s .nil := ⟨fun D pins s σ H I h => by
  obtain ⟨f, r, G, env, h, n, k, S, E, wp, q⟩ := h
  exact wp.elim⟩
theorem stepE_ok (R : RecOk rc tb) (c : CtxOk X w F tb cc) (tk : Takes X W) (h : stepE rc tb cc e t = true) : SE X w F W e t := by
  rcases (Bool.or_eq_true _ _).mp h with h | h
  · obtain ⟨r, e1, h⟩ := optB_of h
    rw [asBool_of e1]
    exact kVs_ok R c tk h
  · cases t with
    | nil => exact se_nev
    | var i => exact kVar_ok c h
    | con d => exact kCon_ok h
    | gco g d => exact kGco_ok c h
    | fnv g => exact kFnv_ok c h
    | o1 o a => exact kO1_ok R c tk h
    | o2 o a b =>
      rcases (Bool.or_eq_true _ _).mp h with h | h
      · exact kO2_ok R c tk h
      · exact kJs_ok R c tk h
    | o3 o a b d => exact kO3_ok R c tk h
    | not a =>
      obtain ⟨r, e1, h⟩ := optB_of h
      obtain ⟨p, rfl⟩ := asUn_of e1
      obtain ⟨h1, h2⟩ := and_of h
      rw [of_decide_eq_true h1]
      exact se_not (R.E c tk h2)
    | ite d a b =>
      obtain ⟨r, e1, h⟩ := optB_of h
      obtain ⟨p, rfl⟩ := asIf_of e1
      obtain ⟨h, h3⟩ := and_of h
      obtain ⟨h1, h2⟩ := and_of h
      exact se_ite (R.Tt c tk h1) (R.E c tk h2) (R.E c tk h3)
    | chn o p a b d => exact (kChn_ok R c tk h).1
    | tup es =>
      obtain ⟨r, e1, h⟩ := optB_of h
      obtain ⟨k, p, rfl⟩ := asTup_of e1
      exact se_tup (kAs_ok R c tk h).1
    | lst o es =>
      obtain ⟨r, e1, h⟩ := optB_of h
      obtain ⟨p, rfl⟩ := asLst_of e1
      exact se_lst (kAs_ok R c tk h).1
    | edic =>
      obtain ⟨p, rfl⟩ := isEdic_of h
      exact se_edic
    | dnew k =>
      obtain ⟨p, rfl⟩ := isEdic_of h
      exact se_dnew
    | dget a b => exact kDget_ok R c tk h
    | dget2 a b d => exact kDget2_ok R c tk h
    | fld n o f => exact kFld_ok R c tk h
    | make n g args => exact kMake_ok R c tk h
    | meth n g o args => exact kMeth_ok R c tk h
    | isi a tys =>
      rcases (Bool.or_eq_true _ _).mp h with h | h
      · exact kIsi_ok R c tk h
      · exact kIsb_ok R c tk h
    | smt m a b => exact kSmt_ok R c tk h
    | callf i fs args => exact kCallf_ok R c tk h
    | call g args => exact kCall_ok R c tk h
    | callk g args kws ord => exact kCallk_ok R c tk h
    | mtd m o args => exact kMut_ok R c tk h
    | own a => exact kOwn_ok R c tk h
    | ixof tp a b => exact kIxof_ok R c tk h
    | cmp1 o it tg ifs elt ws =>
      obtain ⟨l, e1, h⟩ := optB_of h
      rw [asLc_of e1]
      exact (kLc_se R c tk h).1
    | cmp2 o it tg ifs it2 tg2 ifs2 elt ws ws2 =>
      obtain ⟨l, e1, h⟩ := optB_of h
      rw [asLc2_of e1]
      exact (kLc2_se R c tk h).1
    | _ => cases h
theorem stepT_ok (R : RecOk rc tb) (c : CtxOk X w F tb cc) (tk : Takes X W) (h : stepT rc cc e t = true) : ST X w F W e t := by
  rcases (Bool.or_eq_true _ _).mp h with h | h
  · rcases (Bool.or_eq_true _ _).mp h with h | h
    · obtain ⟨r, e1, h⟩ := optB_of h
      rw [asBool_of e1]
      exact st_w (kWs_ok R c tk h)
    · obtain ⟨h1, h2⟩ := and_of h
      exact st_val (R.E c tk h2) (plainTest_of h1 _)
  · cases t with
    | not a =>
      obtain ⟨r, e1, h⟩ := optB_of h
      obtain ⟨p, rfl⟩ := asUn_of e1
      obtain ⟨h1, h2⟩ := and_of h
      rw [of_decide_eq_true h1]
      exact st_not (R.Tt c tk h2)
    | o2 o a b =>
      obtain ⟨r, e1, h⟩ := optB_of h
      obtain ⟨p, rfl⟩ := asCmp1_of e1
      obtain ⟨h, h4⟩ := and_of h
      obtain ⟨h, h3⟩ := and_of h
      obtain ⟨h1, h2⟩ := and_of h
      have h1 := of_decide_eq_true h1
      rw [← h1]
      exact st_cmp (cmp_ok c _) (R.E c tk h3) (R.E c tk h4) (marks_of h2)
    | chn o p a b d => exact (kChn_ok R c tk h).2
    | _ => cases h
theorem kGs_ok (R : RecOk rc tb) (c : CtxOk X w F tb cc) : ∀ {es : List Expr} {t : T}, kGs rc cc es t = true → SGs X w F es t ∧ ∀ y ∈ es, ∀ x p, y ≠ .Starred x p
  | [], t, h => by
    cases t with
    | nil => exact ⟨sgs_nil, by simp⟩
    | _ => cases h
  | e :: es, t, h => by
    cases t with
    | cons a r =>
      obtain ⟨h, h3⟩ := and_of h
      obtain ⟨h1, h2⟩ := and_of h
      obtain ⟨i1, i2⟩ := kGs_ok R c h3
      refine ⟨sgs_cons (R.G c h2) i1 (noStar_of h1), fun y hy => ?_⟩
      rcases List.mem_cons.mp hy with rfl | hy
      · exact noStar_of h1
      · exact i2 y hy
    | _ => cases h
theorem sgs_star {e : Expr} {es : List Expr} {p : Pos} {t1 t2 : T} (h1 : SG X w F e t1) (h2 : SGs X w F es t2) : SGs X w F (.Starred e p :: es) (.cons t1 t2) := by
  refine ⟨fun pins s σ H vs us Q I r h => ?_⟩
  obtain ⟨f, r0, G, env, h, vs', P, S, E, rv, wp, q⟩ := h
  cases vs' with
  | nil => exact wp.elim
  | cons v vs' =>
    obtain ⟨u, us', rfl, ru, rr⟩ := rv
    cases r with
    | cons ra rb =>
      have e0 : (assignEach (.Starred e p :: es) X.env).map (·.2) = assign e X.env :: (assignEach es X.env).map (·.2) := rfl
      rw [e0]
      refine assignInOrder_cons (thn (h1.run pins s σ H u _ (fun σ1 H1 => rdGs w F t2 us' σ1 H1 Q) I ra ⟨f, r0, G, env, h, v, _, S, E, ru, wp, fun env1 h1 s1 r1 G1 H1 w1 e1 S1 E1 => ⟨f, r1, G1, env1, h1, vs', P, S1, E1, RvAll.mono e1 _ _ rr, w1, q.mono e1⟩⟩) fun _ s1 ⟨σ1, H1, I1, q1⟩ => ?_)
      exact h2.run pins s1 σ1 H1 us' _ Q I1 rb q1
theorem kStar_ok (R : RecOk rc tb) (c : CtxOk X w F tb cc) : ∀ {i : Nat} {es : List Expr} {t : T}, kStar rc cc i es t = true →
    SGs X w F es t ∧ tlen t = es.length ∧ (assignEach es X.env).length = es.length ∧ (assignEach es X.env).findIdx? (·.1) = some i
  | 0, es, t, h => by
    unfold kStar at h
    split at h
    · obtain ⟨h1, h2⟩ := and_of h
      obtain ⟨i1, i2⟩ := kGs_ok R c h2
      rename_i e p es a r _
      have ln : ∀ {es : List Expr} {r : T}, kGs rc cc es r = true → tlen r = es.length := by
        intro es
        induction es with
        | nil => intro r h; cases r <;> first | rfl | cases h
        | cons e es ih =>
          intro r h
          cases r with
          | cons a r => show tlen r + 1 = es.length + 1; rw [ih (and_of h).2]
          | _ => cases h
      refine ⟨sgs_star (R.G c h1) i1, by show tlen r + 1 = es.length + 1; rw [ln h2], by show (assignEach es X.env).length + 1 = es.length + 1; rw [(assignEach_ok (env := X.env) i2).1], ?_⟩
      show List.findIdx? (·.1) ((true, assign e X.env) :: assignEach es X.env) = some 0
      rw [List.findIdx?_cons]
      rfl
    · rename_i h0
      exact nomatch h0
    · cases h
  | n + 1, es, t, h => by
    unfold kStar at h
    split at h
    · rename_i h0; cases h0
    · rename_i m e es a r hm
      cases hm
      obtain ⟨h, h3⟩ := and_of h
      obtain ⟨h1, h2⟩ := and_of h
      obtain ⟨i1, i2, i3, i4⟩ := kStar_ok R c h3
      have ns := noStar_of h1
      refine ⟨sgs_cons (R.G c h2) i1 ns, by show tlen r + 1 = es.length + 1; rw [i2], by rw [nostarA ns]; show (assignEach es X.env).length + 1 = es.length + 1; rw [i3], ?_⟩
      rw [nostarA ns, List.findIdx?_cons, i4]
      rfl
    · cases h
theorem stepG_ok (R : RecOk rc tb) (c : CtxOk X w F tb cc) (h : stepG rc cc e t = true) : SG X w F e t := by
  cases t with
  | tnm i =>
    obtain ⟨r, e1, h⟩ := optB_of h
    rw [asName_of e1]
    obtain ⟨a, b, d, f⟩ := c.slot h
    exact sg_name a b d f
  | tst i ts =>
    obtain ⟨r, e1, h⟩ := optB_of h
    obtain ⟨k, p, rfl⟩ := asTup_of e1
    obtain ⟨i1, i2, i3, i4⟩ := kStar_ok R c h
    exact sg_star c.hK c.calm i1 i2 i3 i4
  | ttp ts =>
    obtain ⟨r, e1, h⟩ := optB_of h
    obtain ⟨k, p, rfl⟩ := asTup_of e1
    obtain ⟨h1, h2⟩ := and_of h
    obtain ⟨i1, i2⟩ := kGs_ok R c h2
    exact sg_tup c.hK c.calm i1 i2 (of_decide_eq_true h1)
  | tsb o i =>
    obtain ⟨r, e1, h⟩ := optB_of h
    obtain ⟨p, rfl⟩ := asSub_of e1
    obtain ⟨h, h3⟩ := and_of h
    obtain ⟨h1, h2⟩ := and_of h
    exact sg_sub (p_set c.un) (R.E c takes0 h2) (R.E c takes0 h3) (noSlice_of h1)
  | _ => cases h
theorem kCs_ok (R : RecOk rc tb) (c : CtxOk X w F tb cc) {ws : List Nat} : ∀ {es : List Expr} {t : T}, kCs rc cc ws es t = true → PGs X es (rdCs w F ws t) ∧ ∀ y ∈ es, ∀ x p, y ≠ .Starred x p
  | [], t, h => by
    cases t with
    | nil => exact ⟨scs_nil, by simp⟩
    | _ => cases h
  | e :: es, t, h => by
    cases t with
    | cons a r =>
      obtain ⟨h, h3⟩ := and_of h
      obtain ⟨h1, h2⟩ := and_of h
      obtain ⟨i1, i2⟩ := kCs_ok R c h3
      refine ⟨scs_cons (R.C c h2) i1 (noStar_of h1), fun y hy => ?_⟩
      rcases List.mem_cons.mp hy with rfl | hy
      · exact noStar_of h1
      · exact i2 y hy
    | _ => cases h
theorem stepC_ok (R : RecOk rc tb) (c : CtxOk X w F tb cc) {ws : List Nat} (h : stepC rc cc ws e t = true) : PG X e (rdC w F ws t) := by
  cases t with
  | tnm i =>
    obtain ⟨r, e1, h⟩ := optB_of h
    rw [asName_of e1]
    obtain ⟨h1, h2⟩ := and_of h
    obtain ⟨a, b, d, f⟩ := c.slot h1
    exact sc_name a b d f (of_decide_eq_true h2)
  | ttp ts =>
    obtain ⟨r, e1, h⟩ := optB_of h
    obtain ⟨k, p, rfl⟩ := asTup_of e1
    obtain ⟨h1, h2⟩ := and_of h
    obtain ⟨i1, i2⟩ := kCs_ok R c h2
    exact sc_tup c.hK c.calm i1 i2 (of_decide_eq_true h1)
  | _ => cases h
theorem sw_no {x : Str} {py : Pos} {l : Nat} (hk : X.env.scope.names.lookup x ≠ some .local) : swapsWith e (some (.Name x py)) l X.env = pure false := by
  have hk : (X.env.kindOf x == some .local) = false := by
    rw [beq_eq_false_iff_ne]
    exact hk
  unfold swapsWith
  cases e <;> first | rfl | (simp only [hk]; simp)
theorem swap_attr {o : Expr} {y : Str} {p : Pos} {l : Nat} {env : PySem.Env} : swapsWith e (some (.Attribute o y p)) l env = pure false := by cases e <;> rfl
theorem kDc2_ss (R : RecOk rc tb) (c : CtxOk X w F tb cc) (tk : Takes X W) {l : Dc2P} {a : T} {i j : Nat} {ws ws2 : List Nat} (h : kDc2 rc tb cc l a i j ws ws2 = true) {k : Nat} {y : Str} {py spos : Pos} (sl : slotB cc k y = true) (sw : swB cc y py l.sc l.pos = true) :
    SS X w F W (.Assign [.Name y py] (dcE l.kx l.vx l.t0 l.i0 l.t1 l.i1 l.sc l.pos) spos) (.asg (.tnm k) (.dpt a i j ws ws2)) := by
  obtain ⟨h, h10⟩ := and_of h
  obtain ⟨h, h9⟩ := and_of h
  obtain ⟨h, h8⟩ := and_of h
  obtain ⟨h, h7⟩ := and_of h
  obtain ⟨h, h6⟩ := and_of h
  obtain ⟨h, h5⟩ := and_of h
  obtain ⟨h, h4⟩ := and_of h
  obtain ⟨h, h3⟩ := and_of h
  obtain ⟨h1, h2⟩ := and_of h
  have bo := c.blkOk h3
  have kd := blkB_kind h3
  have nd : X.N.Nodup := by rw [c.hN]; exact c.nd
  have hv : ∀ i ∈ ws2, i ∈ (ownB cc.N l.sc ws).map (·.2) := fun i hi => by rw [ownB_map]; exact of_decide_eq_true (List.all_eq_true.mp h4 i hi)
  have hg : BlkAll X l.sc fun Y => PG Y l.t0 (rdC w F ((ownB cc.N l.sc ws).map (·.2)) (.tnm i)) := fun s H C cl fp => by rw [ownB_map]; exact R.C (c.blk kd s H C cl fp) h6
  have hi1 : BlkAll X l.sc fun Y => SI Y w F W0 l.t1 l.i1 (.itv (.var i)) := fun s H C cl fp => kIt_ok R (c.blk kd s H C cl fp) takes0 h7
  have hg1 : BlkAll X l.sc fun Y => PG Y l.t1 (rdC w F ws2 (.tnm j)) := fun s H C cl fp => R.C (c.blk kd s H C cl fp) h8
  have hk : BlkAll X l.sc fun Y => SE Y w F W0 l.kx (.var j) := fun s H C cl fp => R.E (c.blk kd s H C cl fp) takes0 h9
  have he : BlkAll X l.sc fun Y => SE Y w F W0 l.vx (.con (.bool true)) := fun s H C cl fp => R.E (c.blk kd s H C cl fp) takes0 h10
  obtain ⟨sw, s3⟩ := and_of sw
  obtain ⟨s1, s2⟩ := and_of sw
  have s1 := of_decide_eq_true s1
  have s1 : X.env.scope.names.lookup y = some .local := by rw [c.nm]; exact s1
  obtain ⟨_, l2, _, _⟩ := c.slot sl
  have q := ss_setdpt (spos := spos) c.calm nd l2 s1 (sw_dict c.kd s1 s2 (by simpa using s3)) (kIt_ok R c tk h5) bo hv hg hi1 hg1 hk he (noSet_of h1 _) (noSet_of h2)
  rw [ownB_map] at q
  exact q
theorem kAsgN_ok (R : RecOk rc tb) (c : CtxOk X w F tb cc) (tk : Takes X W) {te : Expr} {tg : T} {pos : Pos} (h : (((noComp e || !isName te) && noSwap te e && noStar te && rc.E cc e t && rc.G cc te tg) || kAsg1 rc tb cc te e tg t || kAsg2 rc cc te e tg t) = true) : SS X w F W (.Assign [te] e pos) (.asg tg t) := by
  rcases (Bool.or_eq_true _ _).mp h with h | h
  · rcases (Bool.or_eq_true _ _).mp h with h | h
    · obtain ⟨h, h5⟩ := and_of h
      obtain ⟨h, h4⟩ := and_of h
      obtain ⟨h, h3⟩ := and_of h
      obtain ⟨h1, h2⟩ := and_of h
      exact ss_asg (R.E c tk h4) (R.G c h5) (swap_of h1 _ _) (noSwap_of h2 _) (noStar_of h3)
    · unfold kAsg1 at h
      split at h
      · obtain ⟨r, e1, h⟩ := optB_of h
        obtain ⟨l, e2, h⟩ := optB_of h
        rw [asName_of e1, asDc2_of e2]
        obtain ⟨h, h3⟩ := and_of h
        obtain ⟨h1, h2⟩ := and_of h
        exact kDc2_ss R c tk h3 h1 h2
      · obtain ⟨r, e1, h⟩ := optB_of h
        obtain ⟨l, e2, h⟩ := optB_of h
        rw [asName_of e1, asLc_of e2]
        obtain ⟨h, h3⟩ := and_of h
        obtain ⟨h1, h2⟩ := and_of h
        exact (kLc_se R c tk h3).2 h1 h2
      · obtain ⟨r, e1, h⟩ := optB_of h
        obtain ⟨l, e2, h⟩ := optB_of h
        rw [asName_of e1, asLc2_of e2]
        obtain ⟨h, h3⟩ := and_of h
        obtain ⟨h1, h2⟩ := and_of h
        exact (kLc2_se R c tk h3).2 h1 h2
      · cases h
  · unfold kAsg2 at h
    split at h
    · obtain ⟨r, e1, h⟩ := optB_of h
      rw [asName_of e1]
      obtain ⟨h, h3⟩ := and_of h
      obtain ⟨h1, h2⟩ := and_of h
      obtain ⟨a, b, d, f⟩ := c.slot h1
      exact ss_set a b d (R.E c tk h3) (sw_no (by rw [c.nm]; exact of_decide_eq_true h2)) f
    · cases h
theorem noStar_any {a b : Expr} (ha : noStar a = true) (hb : noStar b = true) : ([a, b].any fun | .Starred .. => true | _ => false) = false := by
  cases a <;> first | exact absurd ha Bool.false_ne_true | (cases b <;> first | exact absurd hb Bool.false_ne_true | rfl)
theorem par_ok (c : CtxOk X w F tb cc) {x y : Str} {px py pt pt2 : Pos} {kt k2 : Nat} {a b : Expr} (h : parB cc x y px py a b = true) (ha : noStar a = true) (hb : noStar b = true) :
    swappedStores [.Tuple [.Name x px, .Name y py] kt pt] (.Tuple [a, b] k2 pt2) X.env = pure (some [x, y]) := by
  obtain ⟨h, h6⟩ := and_of h
  obtain ⟨h, h5⟩ := and_of h
  obtain ⟨h, h4⟩ := and_of h
  obtain ⟨h, h3⟩ := and_of h
  obtain ⟨h1, h2⟩ := and_of h
  have h1 := of_decide_eq_true h1
  have h2 := of_decide_eq_true h2
  have kx : X.env.kindOf x = some .local := by show X.env.scope.names.lookup x = _; rw [c.nm]; exact h1
  have ky : X.env.kindOf y = some .local := by show X.env.scope.names.lookup y = _; rw [c.nm]; exact h2
  have bk : X.env.blockKind = .function := by unfold PySem.Env.blockKind; rw [c.kd]; rfl
  have h5 : [a, b].all (foldedForSure 8) = false := by cases e : [a, b].all (foldedForSure 8) with | true => rw [e] at h5; cases h5 | false => rfl
  have h6 : [a, b].all (constantsAlone 8) = false := by cases e : [a, b].all (constantsAlone 8) with | true => rw [e] at h6; cases h6 | false => rfl
  have hxy : (x == y) = false := by simpa using h4
  have hl : (py.line == px.line) = true := by rw [beq_iff_eq]; exact (beq_iff_eq.mp h3).symm
  have hne : x ≠ y := fun z => by rw [z, beq_self_eq_true] at hxy; cases hxy
  unfold swappedStores
  simp only [bk, h5, h6]
  refine Eq.trans (if_neg Bool.false_ne_true) ?_
  refine Eq.trans (if_neg ?_) ?_
  · clear h5 h6 h1 h2 kx ky hl hxy hne
    cases a <;> first | exact absurd ha Bool.false_ne_true | (cases b <;> first | exact absurd hb Bool.false_ne_true | exact Bool.false_ne_true)
  have l1 : (Option.map (fun e : Expr => e.pos.line) [Expr.Name x px, Expr.Name y py].head?).getD 0 = px.line := rfl
  simp only [l1, List.filterMap_cons, List.filterMap_nil, kx, ky, hl, beq_self_eq_true, Bool.and_self, if_true]
  have hd : [x, y].eraseDups = [x, y] := by
    rw [List.eraseDups_cons]
    have : [y].filter (fun z => !z == x) = [y] := by
      rw [List.filter_cons_of_pos]
      · rfl
      · have : (y == x) = false := by rw [beq_eq_false_iff_ne]; exact fun z => hne z.symm
        simp [this]
    rw [this]
    rfl
  rw [hd]
  refine Eq.trans (if_neg Bool.false_ne_true) ?_
  rfl
theorem kAsg_ok (R : RecOk rc tb) (c : CtxOk X w F tb cc) (tk : Takes X W) {te : Expr} {tg : T} {pos : Pos} (h : kAsg rc tb cc te e tg t = true) : SS X w F W (.Assign [te] e pos) (.asg tg t) := by
  have h : (kAsg4 rc cc te e tg t || (((noComp e || !isName te) && noSwap te e && noStar te && rc.E cc e t && rc.G cc te tg) || kAsg1 rc tb cc te e tg t || kAsg2 rc cc te e tg t) || kAsg3 rc tb cc te e tg t) = true := by
    have h : (kAsg4 rc cc te e tg t || ((noComp e || !isName te) && noSwap te e && noStar te && rc.E cc e t && rc.G cc te tg) || kAsg1 rc tb cc te e tg t || kAsg2 rc cc te e tg t || kAsg3 rc tb cc te e tg t) = true := h
    rw [← h]
    simp only [Bool.or_assoc]
  rcases (Bool.or_eq_true _ _).mp h with h | h
  · rcases (Bool.or_eq_true _ _).mp h with h | h
    · unfold kAsg4 at h
      split at h
      · obtain ⟨r, e1, h⟩ := optB_of h
        obtain ⟨q, e2, h⟩ := optB_of h
        obtain ⟨k1, p1, rfl⟩ := asPar_of e1
        obtain ⟨k2, p2, rfl⟩ := asTup2_of e2
        obtain ⟨h, h5⟩ := and_of h
        obtain ⟨h, h4⟩ := and_of h
        obtain ⟨h, h3⟩ := and_of h
        obtain ⟨h1, h2⟩ := and_of h
        have i1 := (kAs_ok R c tk h5).1
        have n1 : noStar q.1 = true ∧ noStar q.2 = true := by
          obtain ⟨g, g3⟩ := and_of h5
          obtain ⟨g1, _⟩ := and_of g
          obtain ⟨g, _⟩ := and_of g3
          obtain ⟨g2, _⟩ := and_of g
          exact ⟨g1, g2⟩
        have pr := par_ok (pt := p1) (pt2 := p2) (kt := k1) (k2 := k2) c h4 n1.1 n1.2
        obtain ⟨g, _⟩ := and_of h4
        obtain ⟨g, _⟩ := and_of g
        obtain ⟨g, _⟩ := and_of g
        obtain ⟨g, _⟩ := and_of g
        obtain ⟨g1, g2⟩ := and_of g
        exact ss_par c.calm (by rw [c.hN]; exact c.nd) (by rw [c.hN]; exact of_decide_eq_true h2) (by rw [c.hN]; exact of_decide_eq_true h3) (of_decide_eq_true h1) (by rw [c.nm]; exact of_decide_eq_true g1) (by rw [c.nm]; exact of_decide_eq_true g2) i1 pr
      · cases h
    · exact kAsgN_ok R c tk h
  · unfold kAsg3 at h
    split at h
    · rename_i n o f _ _
      obtain ⟨r, e1, h⟩ := optB_of h
      obtain ⟨p, rfl⟩ := asAttr_of e1
      obtain ⟨h, h5⟩ := and_of h
      obtain ⟨h, h4⟩ := and_of h
      obtain ⟨h2, h3⟩ := and_of h
      obtain ⟨k, hk, h⟩ := List.any_eq_true.mp h3
      obtain ⟨k1, k2⟩ := and_of h
      have k1 := of_decide_eq_true k1
      have K := c.kls k hk
      have e0 := c.ats f r.2 (of_decide_eq_true h2)
      have fs := K.fs f (of_decide_eq_true k2)
      have cl := K.cls
      rw [k1] at fs cl
      exact ss_fld c.hK cl fs e0 (R.E c tk h4) (R.E c takes0 h5) swap_attr
    · cases h
theorem stepS_ok (R : RecOk rc tb) (c : CtxOk X w F tb cc) (tk : Takes X W) (hp : PassesOwn (model X.prog X.w) X.A X.env X.xe) {s : Stmt} (h : stepS rc tb cc s t = true) : SS X w F W s t := by
  cases t with
  | nil => exact ss_nev
  | exp a =>
    obtain ⟨r, e1, h⟩ := optB_of h
    obtain ⟨p, rfl⟩ := asExp_of e1
    obtain ⟨h1, h2⟩ := and_of h
    exact ss_exp (R.E c tk h2) (noComp_of h1 _ _ _)
  | asg tg a =>
    obtain ⟨r, e1, h⟩ := optB_of h
    obtain ⟨p, rfl⟩ := asAsg_of e1
    exact kAsg_ok R c tk h
  | augn o i a =>
    obtain ⟨r, e1, h⟩ := optB_of h
    obtain ⟨p, rfl⟩ := asAug_of e1
    obtain ⟨q, e2, h⟩ := optB_of h
    rw [asName_of e2]
    obtain ⟨h, h3⟩ := and_of h
    obtain ⟨h1, h2⟩ := and_of h
    obtain ⟨a, b, d, f⟩ := c.slot h2
    exact ss_augn a b d (R.E c tk h3) (aug_ok (of_decide_eq_true h1)) f
  | augs o e j a =>
    obtain ⟨r, e1, h⟩ := optB_of h
    obtain ⟨p, rfl⟩ := asAug_of e1
    obtain ⟨q, e2, h⟩ := optB_of h
    obtain ⟨p2, e3⟩ := asSub_of e2
    rw [e3]
    obtain ⟨h, h5⟩ := and_of h
    obtain ⟨h, h4⟩ := and_of h
    obtain ⟨h, h3⟩ := and_of h
    obtain ⟨h1, h2⟩ := and_of h
    exact ss_augs (p_set c.un) (p_get c.un c.hK) (aug_ok (of_decide_eq_true h1)) (R.E c tk h3) (R.E c tk h4) (R.E c tk h5) (noSlice_of h2)
  | ifs d a b =>
    obtain ⟨r, e1, h⟩ := optB_of h
    obtain ⟨p, rfl⟩ := asIfS_of e1
    obtain ⟨h, h3⟩ := and_of h
    obtain ⟨h1, h2⟩ := and_of h
    exact ss_if (R.Tt c tk h1) (R.Ss c tk hp h2) (R.Ss c tk hp h3)
  | for_ tg it body =>
    obtain ⟨r, e1, h⟩ := optB_of h
    obtain ⟨p, rfl⟩ := asFor_of e1
    obtain ⟨h, h4⟩ := and_of h
    obtain ⟨h, h3⟩ := and_of h
    obtain ⟨h1, h2⟩ := and_of h
    exact ss_for hp c.calm (kIt_ok R c tk h2) (R.G c h3) (R.Ss c tk hp h4) (noSet_of h1 _)
  | whl d body =>
    obtain ⟨r, e1, h⟩ := optB_of h
    obtain ⟨p, rfl⟩ := asWhl_of e1
    obtain ⟨h1, h2⟩ := and_of h
    exact ss_whl hp (R.Tt c tk h1) (R.Ss c tk hp h2)
  | ret a =>
    obtain ⟨r, e1, h⟩ := optB_of h
    obtain ⟨p, rfl⟩ := asRet_of e1
    obtain ⟨e, e2, h⟩ := optB_of h
    rw [e2]
    exact ss_ret (R.E c tk h)
  | ret0 =>
    obtain ⟨r, e1, h⟩ := optB_of h
    obtain ⟨p, rfl⟩ := asRet_of e1
    rw [isNone_of h]
    exact ss_ret0
  | brk => obtain ⟨p, rfl⟩ := isBrk_of h; exact ss_brk
  | cnt => obtain ⟨p, rfl⟩ := isCnt_of h; exact ss_cnt
  | pas => obtain ⟨p, rfl⟩ := isPas_of h; exact ss_pass
  | rai n =>
    obtain ⟨x, e1, h⟩ := optB_of h
    obtain ⟨p, m, j, p2, p3, p4, es⟩ := asRai_of e1
    rw [es]
    obtain ⟨h1, h2⟩ := and_of h
    obtain ⟨k, hk, h⟩ := List.any_eq_true.mp h2
    obtain ⟨h, k3⟩ := and_of h
    obtain ⟨k1, k2⟩ := and_of h
    obtain ⟨g1, g2⟩ := c.gl h1
    obtain ⟨x1, x2, x3⟩ := c.xs.xcs k hk
    obtain ⟨y1, y2, y3, y4⟩ := x3 k3
    rw [of_decide_eq_true k1] at x1 x2 y1 y2 y3 y4
    rw [of_decide_eq_true k2] at x2
    exact ss_rai c.hK c.calm tk x1 y1 x2 y2 y3 y4 g1 g2
  | try_ b i y =>
    obtain ⟨r, e1, hh⟩ := optB_of h
    clear h
    have h := hh
    clear hh
    obtain ⟨np, mp, vp, ap, hp', pos, es⟩ := asTry_of e1
    rw [es]
    obtain ⟨h, h9⟩ := and_of h
    obtain ⟨h, h8⟩ := and_of h
    obtain ⟨h, h7⟩ := and_of h
    obtain ⟨h, h6⟩ := and_of h
    obtain ⟨h, h5⟩ := and_of h
    obtain ⟨h, h4⟩ := and_of h
    obtain ⟨h, h3⟩ := and_of h
    obtain ⟨h1, h2⟩ := and_of h
    have h3 := of_decide_eq_true h3
    obtain ⟨t1, t2, t3⟩ := c.top (isNone_of h1)
    obtain ⟨g1, g2⟩ := c.gl h2
    obtain ⟨s1, s2, s3, s4⟩ := c.slot h8
    have xo : XcOk w := by
      rcases c.xs.xo with z | z
      · rw [z] at h3; exact absurd h3 List.not_mem_nil
      · exact z
    exact ss_try c.hK xo t1 t2 t3 s1 (by rw [c.hN]; exact of_decide_eq_true h4) (by show X.env.scope.names.lookup _ = _; rw [c.nm]; exact of_decide_eq_true h5) ⟨g1, g2, .inl (c.xs.hue _ h3)⟩ s2 s3 s4 (by simpa using h6) (by simpa using h7) fun W' pn xe tk' hp2 => R.Ss (c.tr pn xe) tk' hp2 h9
  | _ => cases h
theorem stepSs_ok (R : RecOk rc tb) (c : CtxOk X w F tb cc) (tk : Takes X W) (hp : PassesOwn (model X.prog X.w) X.A X.env X.xe) : ∀ (t : T) {ss : List Stmt}, stepSs rc tb cc t ss = true → SSs X w F W ss t := by
  intro t
  induction t with
  | nil =>
    intro ss h
    have : ss = [] := List.isEmpty_iff.mp h
    subst this
    exact sss_nil
  | cons a r _ ih =>
    intro ss h
    cases a with
    | kill ks => exact sss_kill (ih h)
    | frz k => exact sss_frz (ih h)
    | _ =>
      cases ss with
      | nil => cases h
      | cons s ss =>
        obtain ⟨h1, h2⟩ := and_of h
        exact sss_cons (stepS_ok R c tk hp h1) (ih h2)
  | _ => intro ss h; cases h
end
theorem chk_ok (tb : Tb) : ∀ n, RecOk (chk tb n) tb
  | 0 => ⟨fun _ _ h => Bool.noConfusion h, fun _ _ h => Bool.noConfusion h, fun _ h => Bool.noConfusion h, fun _ h => Bool.noConfusion h, fun _ _ _ h => Bool.noConfusion h⟩
  | n + 1 => ⟨fun c tk h => stepE_ok (chk_ok tb n) c tk h, fun c tk h => stepT_ok (chk_ok tb n) c tk h, fun c h => stepG_ok (chk_ok tb n) c h, fun c h => stepC_ok (chk_ok tb n) c h, fun c tk hp h => stepSs_ok (chk_ok tb n) c tk hp _ h⟩
end Hb

/-! ISO: a def that is called by itself: it sees the cells that it is told, and no others. -/
namespace Hb
open PySem PySem.Spec PyProof.Rows
open L2 hiding V Hp St
set_option autoImplicit false
section
variable {w : Wo} {f : L2.Hp} {r : List Addr} {G H : L2.Hp} {h : Hp}
/-- the addresses of the cells that are told -/
def adsOf (r : List Addr) (cs : List Nat) : List Addr := cs.map fun n => r.getD n 0
/-- what of the caller must stay: its frame, its other living cells, and what instances own -/
def ownH (H : L2.Hp) (a : Addr) : Bool := match H a with
  | some (.own _) => true
  | _ => false
theorem ownH_of {a : Addr} : ownH H a = true ↔ ∃ b, H a = some (.own b) := by
  unfold ownH
  constructor
  · intro e
    split at e
    · exact ⟨_, by assumption⟩
    · cases e
  · rintro ⟨b, e⟩
    rw [e]
def isoF (f : L2.Hp) (r : List Addr) (h : Hp) (cs : List Nat) (G H : L2.Hp) : L2.Hp := fun a => match f a with
  | some o => some o
  | none => if (a ∈ r ∧ a ∉ adsOf r cs ∧ G a = none) ∨ ownH H a = true then H a else none
theorem isoF_of {cs : List Nat} {a : Addr} {o : HO} (e : isoF f r h cs G H a = some o) : f a = some o ∨ (H a = some o ∧ ((a ∈ r ∧ a ∉ adsOf r cs ∧ G a = none) ∨ ∃ b, H a = some (.own b))) := by
  unfold isoF at e
  cases ef : f a with
  | some q => rw [ef] at e; exact .inl e
  | none =>
    rw [ef] at e
    by_cases hc : (a ∈ r ∧ a ∉ adsOf r cs ∧ G a = none) ∨ ownH H a = true
    · simp only [if_pos hc] at e; exact .inr ⟨e, hc.imp id ownH_of.mp⟩
    · simp only [if_neg hc] at e; cases e
theorem isoF_at {cs : List Nat} {a : Addr} (ef : f a = none) (hc : (a ∈ r ∧ a ∉ adsOf r cs ∧ G a = none) ∨ ∃ b, H a = some (.own b)) : isoF f r h cs G H a = H a := by
  have hc : (a ∈ r ∧ a ∉ adsOf r cs ∧ G a = none) ∨ ownH H a = true := hc.imp id ownH_of.mpr
  unfold isoF
  rw [ef]
  simp only [if_pos hc]
theorem isoF_f {cs : List Nat} {a : Addr} {o : HO} (ef : f a = some o) : isoF f r h cs G H a = some o := by
  unfold isoF
  rw [ef]
theorem isoF_nf {cs : List Nat} {a : Addr} (e : isoF f r h cs G H a = none) : f a = none := by
  cases ef : f a with
  | none => rfl
  | some q => rw [isoF_f ef] at e; cases e
theorem isoIn_get : ∀ {cs : List Nat} {h0 : Hp}, isoIn h cs = some h0 → cs.length = h0.length ∧ ∀ (k : Nat) n, cs[k]? = some n → ∃ o, h[n]? = some o ∧ plain o = true ∧ h0[k]? = some o
  | [], h0, e => by cases e; exact ⟨rfl, fun k n e => by simp at e⟩
  | n :: cs, h0, e => by
    unfold isoIn at e
    cases eo : h[n]? with
    | none => simp only [eo] at e; cases e
    | some o =>
      simp only [eo] at e
      by_cases hp : plain o = true
      · rw [if_pos hp] at e
        cases er : isoIn h cs with
        | none => rw [er] at e; cases e
        | some h1 =>
          rw [er] at e
          cases e
          obtain ⟨i1, i2⟩ := isoIn_get er
          refine ⟨by simp [i1], fun k m em => ?_⟩
          cases k with
          | zero => simp at em; subst em; exact ⟨o, eo, hp, rfl⟩
          | succ k => simp at em; simpa using i2 k m em
      · rw [if_neg hp] at e; cases e
theorem getD_of {α : Type} {l : List α} {n : Nat} {a d : α} (h : l[n]? = some a) : l.getD n d = a := by
  rw [List.getD_eq_getElem?_getD, h]
  rfl
theorem nodup_at {α : Type} {l : List α} (hn : l.Nodup) {i j : Nat} {a : α} (h1 : l[i]? = some a) (h2 : l[j]? = some a) : i = j := by
  obtain ⟨q1, e1⟩ := List.getElem?_eq_some_iff.mp h1
  obtain ⟨q2, e2⟩ := List.getElem?_eq_some_iff.mp h2
  exact (List.getElem_inj hn).mp (e1.trans e2.symm)
theorem ads_get {cs : List Nat} {k : Nat} {n : Nat} {a : Addr} (e : cs[k]? = some n) (er : r[n]? = some a) : (adsOf r cs)[k]? = some a := by
  unfold adsOf
  rw [List.getElem?_map, e]
  show some (r.getD n 0) = some a
  rw [getD_of er]
theorem ads_of (S : Sim w f r G h H) {cs : List Nat} {h0 : Hp} (hi : isoIn h cs = some h0) {k : Nat} {a : Addr} (e : (adsOf r cs)[k]? = some a) : ∃ n, cs[k]? = some n ∧ r[n]? = some a := by
  unfold adsOf at e
  rw [List.getElem?_map] at e
  cases ec : cs[k]? with
  | none => rw [ec] at e; cases e
  | some n =>
    rw [ec] at e
    have e : some (r.getD n 0) = some a := e
    obtain ⟨o, eo, _⟩ := (isoIn_get hi).2 k n ec
    have hn : n < r.length := by rw [S.len]; exact (List.getElem?_eq_some_iff.mp eo).1
    refine ⟨n, rfl, ?_⟩
    rw [List.getElem?_eq_getElem hn]
    rw [getD_of (List.getElem?_eq_getElem hn)] at e
    exact e
theorem ads_mem (S : Sim w f r G h H) {cs : List Nat} {h0 : Hp} (hi : isoIn h cs = some h0) {n : Nat} {a : Addr} (er : r[n]? = some a) : a ∈ adsOf r cs ↔ n ∈ cs := by
  constructor
  · intro hm
    obtain ⟨k, ek⟩ := List.getElem?_of_mem hm
    obtain ⟨m, em, er2⟩ := ads_of S hi ek
    have := nodup_at S.nd er er2
    subst this
    exact List.mem_of_getElem? em
  · intro hm
    obtain ⟨k, ek⟩ := List.getElem?_of_mem hm
    exact List.mem_of_getElem? (ads_get ek er)
theorem ob_g {a : Addr} {o : Ob} (q : ObR w r G H a o) (hp : plain o = true) : G a = none := by
  cases o with
  | lst xs => exact q.1
  | dct _ _ => exact q.1
  | _ => cases hp
theorem plain_live {o : Ob} (hp : plain o = true) : o ≠ .dead := fun z => by subst z; cases hp
theorem iso_sim (S : Sim w f r G h H) {cs : List Nat} {h0 : Hp} (hi : isoIn h cs = some h0) (hn : cs.Nodup) : Sim w (isoF f r h cs G H) (adsOf r cs) G h0 H := by
  have gi := isoIn_get hi
  refine ⟨S.sub, S.gn, fun a o e => ?_, fun a o e => ?_, fun k a e => ?_, ?_, ?_, fun k a o e1 e2 => ?_⟩
  · rcases isoF_of e with e | ⟨e, _⟩
    · exact S.fr a o e
    · exact e
  · rcases isoF_of e with e | ⟨e, hc | ⟨b, eb⟩⟩
    · exact S.fg a o e
    · exact hc.2.2
    · cases eg : G a with
      | none => rfl
      | some q =>
        rw [S.sub a q eg] at eb
        cases eb
        exact absurd eg (S.gn a b)
  · obtain ⟨n, ec, er⟩ := ads_of S hi e
    obtain ⟨o', eo, hp, e0⟩ := gi.2 k n ec
    obtain ⟨g, x, hx, hb⟩ := (S.ob n a o' er eo).live (plain_live hp)
    cases ef : isoF f r h cs G H a with
    | none => rfl
    | some q =>
      rcases isoF_of ef with e' | ⟨_, hc | ⟨b, eb⟩⟩
      · rw [S.fc n a er] at e'; cases e'
      · exact absurd (List.mem_of_getElem? e) hc.2.1
      · rw [hx] at eb; cases eb; exact absurd rfl (hb b)
  · unfold adsOf; rw [List.length_map, gi.1]
  · refine List.pairwise_iff_getElem.mpr fun i j hi' hj hij z => ?_
    obtain ⟨n, e1, er1⟩ := ads_of S hi (List.getElem?_eq_getElem hi')
    obtain ⟨m, e2, er2⟩ := ads_of S hi (List.getElem?_eq_getElem hj)
    rw [z] at er1
    have := nodup_at S.nd er1 er2
    subst this
    have := nodup_at hn e1 e2
    omega
  · obtain ⟨n, ec, er⟩ := ads_of S hi e1
    obtain ⟨o', eo, hp, e0⟩ := gi.2 k n ec
    rw [e2] at e0
    cases e0
    have ob := S.ob n a o er eo
    cases o with
    | lst xs => exact ob
    | dct _ _ => exact ob
    | _ => cases hp
/-- the arguments, renumbered -/
theorem renum_rel (S : Sim w f r G h H) {h0 : Hp} : ∀ {args : List V} {us : List L2.V} (pre : List Nat), isoIn h (pre ++ cellsOf args) = some h0 → args.all argOk = true → RvAll w r G args us → RvAll w (adsOf r (pre ++ cellsOf args)) G (renum pre.length args) us
  | [], us, pre, _, _, t => t
  | a :: args, us, pre, hi, ha, t => by
    obtain ⟨u, us', rfl, ru, t⟩ := t
    rw [List.all_cons, Bool.and_eq_true] at ha
    cases a with
    | d x => exact ⟨u, us', rfl, ru, renum_rel (args := args) S pre hi ha.2 t⟩
    | fn g => exact ⟨u, us', rfl, ru, renum_rel (args := args) S pre hi ha.2 t⟩
    | exc k fs => exact ⟨u, us', rfl, ru, renum_rel (args := args) S pre hi ha.2 t⟩
    | cell n =>
      obtain ⟨a, er, rfl⟩ := ru
      have e : pre ++ cellsOf (V.cell n :: args) = (pre ++ [n]) ++ cellsOf args := by
        show pre ++ n :: cellsOf args = _
        rw [List.append_assoc]
        rfl
      rw [e] at hi ⊢
      have ih := renum_rel S (pre ++ [n]) hi ha.2 t
      rw [List.length_append, List.length_singleton] at ih
      refine ⟨_, us', rfl, ⟨a, ?_, rfl⟩, ih⟩
      exact ads_get (by rw [List.append_assoc, List.getElem?_append_right (Nat.le_refl _)]; simp) er
    | _ => cases ha.1
/-- back: the told cells as they are now -/
theorem isoBack_get {h1 : Hp} : ∀ {cs : List Nat} {k : Nat} {h h2 : Hp}, isoBack h h1 cs k = some h2 → cs.Nodup → h2.length = h.length ∧ (∀ n : Nat, n ∉ cs → h2[n]? = h[n]?) ∧ ∀ (j : Nat) n, cs[j]? = some n → n < h.length → ∃ o, h1[k + j]? = some o ∧ plain o = true ∧ h2[n]? = some o
  | [], k, h, h2, e, _ => by cases e; exact ⟨rfl, fun _ _ => rfl, fun j n e => by simp at e⟩
  | m :: cs, k, h, h2, e, hn => by
    unfold isoBack at e
    rw [List.nodup_cons] at hn
    cases eo : h1[k]? with
    | none => simp only [eo] at e; cases e
    | some o =>
      simp only [eo] at e
      by_cases hp : plain o = true
      · rw [if_pos hp] at e
        obtain ⟨i1, i2, i3⟩ := isoBack_get e hn.2
        refine ⟨by rw [i1, List.length_set], fun n hm => ?_, fun j n ej hl => ?_⟩
        · rw [i2 n fun z => hm (by simp [z])]
          rw [List.getElem?_set_ne fun z => hm (by simp [z])]
        · cases j with
          | zero =>
            simp at ej
            subst ej
            refine ⟨o, eo, hp, ?_⟩
            rw [i2 m hn.1, List.getElem?_set_self hl]
          | succ j =>
            simp at ej
            obtain ⟨o', e1, e2, e3⟩ := i3 j n ej (by rw [List.length_set]; exact hl)
            exact ⟨o', by rw [show k + (j + 1) = k + 1 + j by omega]; exact e1, e2, e3⟩
      · rw [if_neg hp] at e; cases e
theorem iso_back (S : Sim w f r G h H) {cs : List Nat} {h0 h1 h2 : Hp} {r1 : List Addr} {G1 H1 : L2.Hp} (hi : isoIn h cs = some h0) (hn : cs.Nodup) (ex : Ext (adsOf r cs) G r1 G1) (S1 : Sim w (isoF f r h cs G H) r1 G1 h1 H1) (hb : isoBack h h1 cs 0 = some h2) :
    Sim w f r G1 h2 H1 ∧ Ext r G r G1 := by
  have gi := isoIn_get hi
  have gb := isoBack_get hb hn
  have er : Ext r G r G1 := ⟨fun _ _ e => e, ex.sub⟩
  refine ⟨⟨S1.sub, S1.gn, fun a o e => S1.fr a o (isoF_f e), fun a o e => S1.fg a o (isoF_f e), S.fc, by rw [S.len, gb.1], S.nd, fun n a o e1 e2 => ?_⟩, er⟩
  have hnl : n < h.length := by rw [← S.len]; exact (List.getElem?_eq_some_iff.mp e1).1
  by_cases hm : n ∈ cs
  · obtain ⟨k, ek⟩ := List.getElem?_of_mem hm
    obtain ⟨o', o1, o2, o3⟩ := gb.2.2 k n ek hnl
    rw [Nat.zero_add] at o1
    rw [e2] at o3
    cases o3
    have ra := ex.pre k a (ads_get ek e1)
    have ob := S1.ob k a o ra o1
    cases o with
    | lst xs => exact ob
    | dct _ _ => exact ob
    | _ => cases o2
  · rw [gb.2.1 n hm] at e2
    have ob := S.ob n a o e1 e2
    by_cases hd : o = .dead
    · subst hd
      obtain ⟨q, eq⟩ := ob
      exact ⟨q, ex.sub _ _ eq⟩
    · obtain ⟨g, x, hx, hbx⟩ := ob.live hd
      have ea : isoF f r h cs G H a = H a := isoF_at (S.fc n a e1) (.inl ⟨List.mem_of_getElem? e1, fun z => hm ((ads_mem S hi e1).mp z), g⟩)
      refine ob.mono er (fun _ => S1.fg a x (ea.trans hx)) (fun y ey => S1.fr a y (ea.trans ey)) fun b eb => ?_
      cases efb : f b with
      | some q =>
        have := S.fr b q efb
        rw [eb] at this
        cases this
        exact S1.fr b _ (isoF_f efb)
      | none => exact S1.fr b _ ((isoF_at efb (.inr ⟨a, eb⟩)).trans eb)
/-- a new cell comes out too -/
theorem iso_cell (S : Sim w f r G h H) {cs : List Nat} {h0 h1 h2 : Hp} {r1 : List Addr} {G1 H1 : L2.Hp} (hi : isoIn h cs = some h0) (hn : cs.Nodup) (ex : Ext (adsOf r cs) G r1 G1) (S1 : Sim w (isoF f r h cs G H) r1 G1 h1 H1) (hb : isoBack h h1 cs 0 = some h2)
    {n : Nat} {a : Addr} {o : Ob} (hc : cs.length ≤ n) (er : r1[n]? = some a) (eo : h1[n]? = some o) (hp : plain o = true) :
    Sim w f (r ++ [a]) G1 (h2 ++ [o]) H1 ∧ Ext r G (r ++ [a]) G1 ∧ (r ++ [a])[h2.length]? = some a := by
  obtain ⟨S2, e2⟩ := iso_back S hi hn ex S1 hb
  have ob := S1.ob n a o er eo
  have g1 := ob_g ob hp
  have fa := S1.fc n a er
  have ffa : f a = none := isoF_nf fa
  have nr : ∀ m : Nat, r[m]? ≠ some a := fun m em => by
    by_cases hm : m ∈ cs
    · obtain ⟨k, ek⟩ := List.getElem?_of_mem hm
      have ra := ex.pre k a (ads_get ek em)
      have := nodup_at S1.nd ra er
      have hk : k < cs.length := (List.getElem?_eq_some_iff.mp ek).1
      omega
    · have gn : G a = none := by
        cases eg : G a with
        | none => rfl
        | some q => rw [ex.sub a q eg] at g1; cases g1
      rw [isoF_at ffa (.inl ⟨List.mem_of_getElem? em, fun z => hm ((ads_mem S hi em).mp z), gn⟩)] at fa
      have hml : m < h.length := by rw [← S.len]; exact (List.getElem?_eq_some_iff.mp em).1
      have obm := S.ob m a h[m] em (List.getElem?_eq_getElem hml)
      by_cases hd : h[m] = .dead
      · rw [hd] at obm
        obtain ⟨q, eq⟩ := obm
        rw [gn] at eq
        cases eq
      · obtain ⟨_, x, hx, _⟩ := obm.live hd
        rw [hx] at fa
        cases fa
  have ex3 : Ext r G1 (r ++ [a]) G1 := ⟨fun m b e => by rw [List.getElem?_append_left (List.getElem?_eq_some_iff.mp e).1]; exact e, fun _ _ e => e⟩
  have last : (r ++ [a])[h2.length]? = some a := by rw [← S2.len]; simp
  have cs' : ∀ (m : Nat) b, (r ++ [a])[m]? = some b → r[m]? = some b ∨ (m = r.length ∧ b = a) := fun m b e => by
    rcases Nat.lt_or_ge m r.length with z | z
    · rw [List.getElem?_append_left z] at e; exact .inl e
    · rw [List.getElem?_append_right z] at e
      obtain ⟨z2, e2⟩ := List.getElem?_eq_some_iff.mp e
      have : m - r.length = 0 := by simp at z2; omega
      refine .inr ⟨by omega, ?_⟩
      simp [this] at e2
      exact e2.symm
  refine ⟨⟨S2.sub, S2.gn, S2.fr, S2.fg, fun m b e => ?_, by simp [S2.len], ?_, fun m b q e1 e2' => ?_⟩, e2.trans ex3, last⟩
  · rcases cs' m b e with z | ⟨_, rfl⟩
    · exact S2.fc m b z
    · exact ffa
  · rw [List.nodup_append]
    refine ⟨S2.nd, by simp, fun b hb c hc z => ?_⟩
    simp at hc
    subst hc
    subst z
    obtain ⟨i, hi'⟩ := List.getElem?_of_mem hb
    exact nr i hi'
  · rcases cs' m b e1 with z | ⟨rfl, rfl⟩
    · have hml : m < h2.length := by rw [← S2.len]; exact (List.getElem?_eq_some_iff.mp z).1
      rw [List.getElem?_append_left hml] at e2'
      exact (S2.ob m b q z e2').mono ex3 (fun y => y) (fun x y => y) fun x y => y
    · rw [S2.len] at e2'
      simp at e2'
      subst e2'
      cases o with
      | lst xs => exact ob
      | dct _ _ => exact ob
      | _ => cases hp
end
end Hb

/-! TOP: all defs keep their promises; the law's end. -/
namespace Hb
open PySem PySem.Spec PyProof.Rows
open L2 hiding V Hp St
set_option autoImplicit false
section
variable {w : Wo} {f : L2.Hp} {r : List Addr} {G H : L2.Hp} {h : Hp}
theorem iso_q (S : Sim w f r G h H) {cs : List Nat} {h0 : Hp} {P : Pv} {Q : VK} (hi : isoIn h cs = some h0) (hn : cs.Nodup) (q : QOk w f r G P Q) : QOk w (isoF f r h cs G H) (adsOf r cs) G (fun v h1 => isoOut h cs v h1 P) Q := fun v h1 u r1 G1 H1 p ex S1 rv => by
  obtain ⟨h2, hb, p⟩ := optP_of p
  obtain ⟨S2, e2⟩ := iso_back S hi hn ex S1 hb
  cases v with
  | d x => exact q (.d x) h2 u r G1 H1 p e2 S2 rv
  | fn g => exact q (.fn g) h2 u r G1 H1 p e2 S2 rv
  | exc k fs => exact q (.exc k fs) h2 u r G1 H1 p e2 S2 rv
  | vt _ => exact p.elim
  | cell n =>
    obtain ⟨hc, p⟩ := p
    obtain ⟨o, eo, hp, p⟩ := optP_of p
    obtain ⟨a, er, rfl⟩ := rv
    obtain ⟨S3, e3, el⟩ := iso_cell S hi hn ex S1 hb hc er eo hp
    exact q _ _ _ _ G1 H1 p e3 S3 ⟨a, el, rfl⟩
theorem iso_x (S : Sim w f r G h H) {cs : List Nat} {h0 : Hp} {P : Px} {E : XK} (hi : isoIn h cs = some h0) (hn : cs.Nodup) (q : XOk w f r G P E) : XOk w (isoF f r h cs G H) (adsOf r cs) G (fun v h1 => isoOut h cs v h1 P) E := fun v h1 r1 G1 H1 c d p ex S1 rv => by
  obtain ⟨h2, hb, p⟩ := optP_of p
  obtain ⟨S2, e2⟩ := iso_back S hi hn ex S1 hb
  cases v with
  | exc k fs => exact q (.exc k fs) h2 r G1 H1 c d p e2 S2 rv
  | _ => exact rv.elim
end
/-! ### defs -/
structure Dr where
  x : Str
  nm : Str
  qn : Str
  ps : List Str
  N : List Str
  args : Arguments
  body : List Stmt
  scope : Scope
  kws : List (Nat × List Str × List Nat)
def scopeB (N ps : List Str) (sc : Scope) : Bool := decide (sc.kind = .function) && !sc.isCoroutine && !sc.isGenerator && decide N.Nodup && decide (N.take ps.length = ps) &&
  ps.all (fun x => decide (sc.names.lookup x = some .local) || decide (sc.names.lookup x = some .cell)) && sc.names.all (fun y => decide (y.2 ≠ .free))
theorem scopeB_ok {N ps : List Str} {sc : Scope} (h : scopeB N ps sc = true) : FnScope N ps sc := by
  obtain ⟨h, h7⟩ := and_of h
  obtain ⟨h, h6⟩ := and_of h
  obtain ⟨h, h5⟩ := and_of h
  obtain ⟨h, h4⟩ := and_of h
  obtain ⟨h, h3⟩ := and_of h
  obtain ⟨h1, h2⟩ := and_of h
  refine ⟨of_decide_eq_true h1, by simpa using h2, by simpa using h3, of_decide_eq_true h4, of_decide_eq_true h5, fun x hx => ?_, fun y hy => of_decide_eq_true (List.all_eq_true.mp h7 y hy)⟩
  have q := List.all_eq_true.mp h6 x hx
  rcases (Bool.or_eq_true _ _).mp q with q | q
  · exact .inl (of_decide_eq_true q)
  · exact .inr (of_decide_eq_true q)
def fnsOf (rows : List Dr) : List (Str × List Str × List (Nat × List Str × List Nat)) := rows.map fun r => (r.x, r.ps, r.kws)
/-- a def's text is the one that stands in the row -/
def rowB (tb : Tb) (fuel : Nat) (r : Dr) (fi : FnI) : Bool := scopeB r.N r.ps r.scope && decide (fi.np = r.ps.length) && decide (fi.ns = r.N.length) && (chk tb fuel).Ss ⟨r.N, r.scope.names, none⟩ r.body fi.body
def rowsB (tb : Tb) (fuel : Nat) : List Dr → List FnI → Bool
  | [], [] => true
  | r :: rs, fi :: fs => rowB tb fuel r fi && rowsB tb fuel rs fs
  | _, _ => false
theorem rowsB_get {tb : Tb} {fuel : Nat} : ∀ {rs : List Dr} {fs : List FnI}, rowsB tb fuel rs fs = true → ∀ {g : Nat} {r : Dr}, rs[g]? = some r → ∃ fi, fs[g]? = some fi ∧ rowB tb fuel r fi = true
  | [], _, _, g, r, e => by simp at e
  | r :: rs, [], h, _, _, _ => by cases h
  | r :: rs, fi :: fs, h, g, r', e => by
    obtain ⟨h1, h2⟩ := and_of h
    cases g with
    | zero => simp at e; subst e; exact ⟨fi, rfl, h1⟩
    | succ g => simp at e; simpa using rowsB_get h2 e
/-- what the head tells of a def -/
structure DrOk (mg : Str → Option Value) (w : Wo) (g : Nat) (r : Dr) : Prop where
  at_ : r.x ≠ "" → mg r.x = some (.ref (w.fa g))
  fn : ∃ fd, FunD w.K r.nm r.qn r.args r.body r.scope [] [] (w.fa g) fd ∧ Binds w.K fd r.ps [] ∧ ∀ kw ∈ r.kws, KBd w.K fd r.ps kw
structure ModOk (mg : Str → Option Value) (w : Wo) (tb : Tb) (rows : List Dr) : Prop where
  fns : tb.fns = fnsOf rows
  rows : ∀ (g : Nat) r, rows[g]? = some r → DrOk mg w g r
  gcs : ∀ (g : Nat) x c, tb.gcs[g]? = some (x, c) → ∃ u v, mg x = some u ∧ RelV v u ∧ ∀ G, Rp w.K G c v
  bls : ∀ x ∈ tb.bls, mg x = none
  kls : ∀ k ∈ tb.kls, KlOk mg w k
  ats : ∀ (i : Nat) x, tb.ats[i]? = some x → w.an i = x
  xs : XsOk mg w tb
  gd : tb.gds = false
/-! ### fields' names -/
def farS (i : Nat) : Str := ⟨#[i + 2000000]⟩
def nearB (x : Str) : Bool := x.cps.toList.all fun c => decide (c < 2000000)
theorem far_near {i : Nat} (h : nearB (farS i) = true) : False := by
  unfold nearB farS at h
  simp at h
  omega
def anF (l : List Str) (i : Nat) : Str := (l[i]?).getD (farS i)
theorem anF_at {l : List Str} {i : Nat} {x : Str} (e : l[i]? = some x) : anF l i = x := by unfold anF; rw [e]; rfl
theorem anF_inj {l : List Str} (hn : l.Nodup) (hs : l.all nearB = true) (i j : Nat) (e : anF l i = anF l j) : i = j := by
  have near : ∀ {k : Nat} {x : Str}, l[k]? = some x → nearB x = true := fun {k x} ek => List.all_eq_true.mp hs x (List.mem_of_getElem? ek)
  unfold anF at e
  cases ei : l[i]? with
  | none =>
    rw [ei] at e
    cases ej : l[j]? with
    | none =>
      rw [ej] at e
      have e : farS i = farS j := e
      unfold farS at e
      injection e with e
      simp at e
      exact e
    | some y =>
      rw [ej] at e
      have e : farS i = y := e
      exact (far_near (e ▸ near ej)).elim
  | some x =>
    rw [ei] at e
    cases ej : l[j]? with
    | none =>
      rw [ej] at e
      have e : x = farS j := e
      exact (far_near (e ▸ near ei)).elim
    | some y =>
      rw [ej] at e
      have e : x = y := e
      subst e
      exact nodup_at hn ei ej
theorem anF_ne {l : List Str} {m : Str} (hm : nearB m = true) (h : m ∉ l) (i : Nat) : anF l i ≠ m := by
  intro e
  unfold anF at e
  cases ei : l[i]? with
  | none =>
    rw [ei] at e
    have e : farS i = m := e
    exact far_near (e ▸ hm)
  | some x =>
    rw [ei] at e
    have e : x = m := e
    exact h (e ▸ List.mem_of_getElem? ei)
section
variable {P : Program} {ww : World} {mg : Str → Option Value} {base : Heap} {w : Wo} {tb : Tb} {rows : List Dr} {FT : List FnI} {fuel : Nat}
theorem start_rel {r : List Addr} {G : L2.Hp} {N : List Str} {args : List V} {us : List L2.V} {np : Nat} (t : RvAll w r G args us) (hl : args.length = np) : EnvR w r G (args.map some ++ List.replicate (N.length - np) none) (L2.start N us) := by
  have hu := rvAll_len t
  refine ⟨by unfold L2.start; rw [List.length_append, List.length_append, List.length_map, List.length_map, List.length_replicate, List.length_replicate, ← hu, hl], fun i v e => ?_⟩
  rcases Nat.lt_or_ge i args.length with z | z
  · rw [List.getElem?_append_left (by rw [List.length_map]; exact z), List.getElem?_map, List.getElem?_eq_getElem z] at e
    cases e
    obtain ⟨u, eu, ru⟩ := (rvAll_iff.mp t).getL (List.getElem?_eq_getElem z)
    refine ⟨u, ?_, ru⟩
    unfold L2.start
    rw [List.getElem?_append_left (by rw [List.length_map, ← hu]; exact z), List.getElem?_map, eu]
    rfl
  · rw [List.getElem?_append_right (by rw [List.length_map]; exact z)] at e
    have := List.mem_of_getElem? e
    rw [List.mem_replicate] at this
    exact absurd this.2 (by simp)
theorem tab_get {g : Nat} {x : Str} {ps : List Str} {kws : List (Nat × List Str × List Nat)} (M : ModOk mg w tb rows) (e : tb.fns[g]? = some (x, ps, kws)) : ∃ r, rows[g]? = some r ∧ r.x = x ∧ r.ps = ps ∧ r.kws = kws := by
  rw [M.fns] at e
  unfold fnsOf at e
  rw [List.getElem?_map] at e
  cases er : rows[g]? with
  | none => rw [er] at e; cases e
  | some r => rw [er] at e; cases e; exact ⟨r, rfl, rfl, rfl, rfl⟩
/-- one def, over what those that it calls keep -/
theorem fn_step (M : ModOk mg w tb rows) (hB : rowsB tb fuel rows FT = true) (n : Nat) (IH : ∀ (g : Nat) x ps kws, tb.fns[g]? = some (x, ps, kws) → DefOk P ww mg base (2 * n) w (callN FT n) g x ps kws) {g : Nat} {r : Dr} {fd : FuncData} (er : rows[g]? = some r)
    (F : FunD w.K r.nm r.qn r.args r.body r.scope [] [] (w.fa g) fd) : FnOk P ww w.K mg base (L2.CX P ww) (2 * n + 1 + 1) (w.fa g) fd r.ps (spOf w (callN FT (n + 1)) r.ps.length g) := by
  obtain ⟨fi, ef, hb⟩ := rowsB_get hB er
  obtain ⟨hb, h4⟩ := and_of hb
  obtain ⟨hb, h3⟩ := and_of hb
  obtain ⟨h1, h2⟩ := and_of hb
  have h2 := of_decide_eq_true h2
  have h3 := of_decide_eq_true h3
  have sc := scopeB_ok h1
  generalize hm : 2 * n = m at IH ⊢
  refine F.ok (k := m + 1) sc (fun vs H Q E h => h.1) fun cdv A outer s H vs Q E hr h => ?_
  let X : Cx := cxOf (L2.CX P ww) P ww w.K mg base r.N r.qn r.scope (w.fa g) cdv A outer s H E
  have tk : Takes X (fun cls d _ H => E cls d H) := takes_of rfl rfl rfl (E₁ := fun e' s'' => L2.CX P ww outer H s E e' s'') rfl
  have hp : PassesOwn (model X.prog X.w) X.A X.env X.xe := passes_of (K := fun e s'' => L2.CX P ww outer H s E e s'') (E₁ := fun e' s'' => L2.CX P ww outer H s E e' s'') rfl
  have c : CtxOk X w (callN FT n) tb ⟨r.N, r.scope.names, none⟩ := ⟨rfl, rfl, sc.nd, rfl, sc.kind, rfl, by have := hr.un; show (A.deeper (envOfC r.qn r.scope s.heap.objs.size (w.fa g) cdv)).units + 65 < cLine; omega, ⟨m, hr, IH⟩, M.gcs, M.bls, M.kls, M.ats, M.xs, fun z => absurd (z.symm.trans M.gd) (by decide), fun _ => ⟨rfl, rfl, rfl⟩, fun _ => rfl⟩
  refine ⟨rdSs w (callN FT n) (fun cls d _ H => E cls d H) fi.body, (chk_ok tb fuel).Ss c tk hp h4, ?_⟩
  obtain ⟨hl, f, rr, G, args, hh, PP, Xp, S, t, wp, q, qx⟩ := h
  have wp : optP FT[g]? fun fn => args.length = fn.np ∧ (match fn.md with
    | 0 => args.all argOk = true ∧ (cellsOf args).Nodup ∧ optP (isoIn hh (cellsOf args)) fun h0 =>
        runB (callN FT n) fn (renum 0 args) h0 (fun v h1 => isoOut hh (cellsOf args) v h1 PP) (fun v h1 => isoOut hh (cellsOf args) v h1 Xp)
    | _ => runB (callN FT n) fn args hh PP Xp) := wp
  rw [ef] at wp
  obtain ⟨ha, wp⟩ := wp
  have fin : ∀ {f' : L2.Hp} {r' : List Addr} {args' : List V} {h' : Hp} {P' : Pv} {X' : Px}, Sim w f' r' G h' H → RvAll w r' G args' vs → runB (callN FT n) fi args' h' P' X' → args'.length = fi.np → QOk w f' r' G P' Q → XOk w f' r' G X' E →
      rdSs w (callN FT n) (fun cls d _ H => E cls d H) fi.body { nx := fun _ H' => Q .non H', rt := Q } (L2.start r.N vs) H := by
    intro f' r' args' h' P' X' S' t' wp' hl' q' qx'
    refine ⟨f', r', G, _, h', _, _, S', ?_, wp', ⟨?_, q', ?_, ?_, ?_⟩⟩
    · rw [h3]; exact start_rel t' hl'
    · intro env1 h1 s1 r1 G1 H1 p e1 S1 _
      exact q' _ h1 .non r1 G1 H1 p e1 S1 rfl
    · intro env1 h1 s1 r1 G1 H1 p; exact p.elim
    · intro env1 h1 s1 r1 G1 H1 p; exact p.elim
    · intro v env1 h1 s1 r1 G1 H1 c d p e1 S1 _ x
      exact qx' v h1 r1 G1 H1 c d p e1 S1 x
  cases em : fi.md with
  | zero =>
    rw [em] at wp
    obtain ⟨w1, w2, wp⟩ := wp
    obtain ⟨h0, ei, wp⟩ := optP_of wp
    have rn := renum_rel S (args := args) [] ei w1 t
    refine fin (iso_sim S ei w2) rn wp ?_ (iso_q S ei w2 q) (iso_x S ei w2 qx)
    have e1 := rvAll_len rn
    have e2 := rvAll_len t
    show (renum 0 args).length = fi.np
    rw [← ha, e2]
    exact e1
  | succ k =>
    rw [em] at wp
    exact fin S t wp ha q qx
/-- ALL DEFS keep their promises, to any depth -/
theorem all_ok (M : ModOk mg w tb rows) (hB : rowsB tb fuel rows FT = true) : ∀ (n g : Nat) x ps kws, tb.fns[g]? = some (x, ps, kws) → DefOk P ww mg base (2 * n) w (callN FT n) g x ps kws
  | 0, g, x, ps, kws, e => by
    obtain ⟨r, er, rfl, rfl, rfl⟩ := tab_get M e
    have R := M.rows g r er
    obtain ⟨fd, F, bd, kb⟩ := R.fn
    refine ⟨R.at_, F.kp, fd, bd, kb, ⟨fun vs H Q E h => h.1, fun A outer s H args us vs Q E _ _ _ _ h => ?_⟩⟩
    obtain ⟨_, f, r, G, ag, h, P, Xp, _, _, wp, _⟩ := h
    exact wp.elim
  | n + 1, g, x, ps, kws, e => by
    obtain ⟨r, er, rfl, rfl, rfl⟩ := tab_get M e
    have R := M.rows g r er
    obtain ⟨fd, F, bd, kb⟩ := R.fn
    exact ⟨R.at_, F.kp, fd, bd, kb, fn_step M hB n (all_ok M hB n) er F⟩
/-! ### the law's end -/
theorem lq_script {K : PySem.W.Frag} {h : Heap} {H : L2.Hp} {a : Addr} {vs : List Value} {us : List L2.V} (KX : K.In h) (ha : h.get? a = some { cls := .type "list", data := .seq vs.toArray }) (hS : SqL K H a us) : LqL K H a us := by
  rcases hS with hS | ⟨o, its, n, hk, hc, hd, hs, hz, rv⟩
  · exact .inl hS
  · have e := KX a o hk
    rw [ha] at e
    cases e
    cases hs
    exact .inr ⟨_, _, hk, hz, rv⟩
theorem walk_hb {l : PySem.W.OpenLaw} {n k : Nat} {q : Program} {loose : List Str} {XP : (Str → Option Value) → Heap → Prop} {YP : World → Heap → Prop} {d : DefRec} {x : Str} {FT : List FnI} {g : Nat}
    (hn : l.most = some n) (hn2 : n ≤ sizeLine) (hdf : d.params.defaults = []) (hr : Room (2 * k) callerA)
    (F : ∀ (ww : World) (mg : Str → Option Value) (fa : Addr) (h : Heap), YP ww h → h.Ns mainGlobals mg → mg d.name = some (.ref fa) →
      ∃ (w : Wo) (fd : FuncData), w.K.In h ∧ (∀ (s : Shared) (u : Value), BindsTo s fd ⟨[u], []⟩ [(x, u)]) ∧
        ∀ base : Heap, w.K.In base → base.Ns mainGlobals mg → FnOk l.prog ww w.K mg base (L2.CX l.prog ww) (2 * k) fa fd [x] (spOf w (callN FT k) 1 g))
    (hl : ∀ ns : List Int, ns.length ≤ n → callN FT k g [.d (.list (ns.map PyData.int))] [] (fun v _ => v = .d (.bool true)) (fun _ _ => False)) :
    PySem.W.WalkO q loose XP YP l.row.toRowW d [] (fun f vs => PySem.call f vs) := by
  refine Att.attach_call hn hdf fun ww s₀ s₁ mg mb fa o pm cd doc a vs ns GG Y ho hd hcd hmg hobj hints hlen hg => ?_
  obtain ⟨w, fd, KX, hb, hF⟩ := F ww mg fa _ Y GG.T.g hmg
  refine law_call KX GG.T.g GG.T.b GG.T.builtins GG.T.nolimit hg hobj hints (Nat.le_trans hlen hn2) hr hF hb (fun H hO hS => ?_) fun H e s' hx => ?_
  · refine ⟨rfl, fun _ => none, [], H, [.d (.list (ns.map PyData.int))], [], _, _, ⟨Sub.rfl', fun b c z => by rcases hO b with e | ⟨o, xs, e⟩ <;> (rw [e] at z; cases z), fun a o e => (nomatch e), fun a o e => (nomatch e), fun m a e => absurd e (by simp), rfl, List.nodup_nil, fun m a o e => absurd e (by simp)⟩, ?_, hl ns hlen, ?_, XOk.never⟩
    · exact ⟨_, _, rfl, ⟨a, _, rfl, lq_script KX hobj hS, rpAll_ints ns⟩, rfl⟩
    · intro v h' u r' G' H' p _ _ rv
      have p : v = .d (.bool true) := p
      subst p
      exact rv
  · obtain ⟨_, _, _, _, _, _, _, _, _, _, _, _, z⟩ := hx
    exact z
/-- .. where the size of the script's numbers is asked -/
theorem walk_hbB {l : PySem.W.OpenLaw} {n k : Nat} {q : Program} {loose : List Str} {XP : (Str → Option Value) → Heap → Prop} {YP : World → Heap → Prop} {d : DefRec} {x : Str} {FT : List FnI} {g : Nat}
    (hn : l.most = some n) (hn2 : n ≤ sizeLine) (hdf : d.params.defaults = []) (hr : Room (2 * k) callerA)
    (F : ∀ (ww : World) (mg : Str → Option Value) (fa : Addr) (h : Heap), YP ww h → h.Ns mainGlobals mg → mg d.name = some (.ref fa) →
      ∃ (w : Wo) (fd : FuncData), w.K.In h ∧ (∀ (s : Shared) (u : Value), BindsTo s fd ⟨[u], []⟩ [(x, u)]) ∧
        ∀ base : Heap, w.K.In base → base.Ns mainGlobals mg → FnOk l.prog ww w.K mg base (L2.CX l.prog ww) (2 * k) fa fd [x] (spOf w (callN FT k) 1 g))
    (hl : ∀ ns : List Int, ns.length ≤ n → (∀ z ∈ ns, hugeOk z) → callN FT k g [.d (.list (ns.map PyData.int))] [] (fun v _ => v = .d (.bool true)) (fun _ _ => False)) :
    PySem.W.WalkO q loose XP YP l.row.toRowW d [] (fun f vs => PySem.call f vs) := by
  refine Att.attach_callB hn hdf fun ww s₀ s₁ mg mb fa o pm cd doc a vs ns GG Y ho hd hcd hmg hobj hints hlen hbits hg => ?_
  obtain ⟨w, fd, KX, hb, hF⟩ := F ww mg fa _ Y GG.T.g hmg
  refine law_call KX GG.T.g GG.T.b GG.T.builtins GG.T.nolimit hg hobj hints (Nat.le_trans hlen hn2) hr hF hb (fun H hO hS => ?_) fun H e s' hx => ?_
  · refine ⟨rfl, fun _ => none, [], H, [.d (.list (ns.map PyData.int))], [], _, _, ⟨Sub.rfl', fun b c z => by rcases hO b with e | ⟨o, xs, e⟩ <;> (rw [e] at z; cases z), fun a o e => (nomatch e), fun a o e => (nomatch e), fun m a e => absurd e (by simp), rfl, List.nodup_nil, fun m a o e => absurd e (by simp)⟩, ?_, hl ns hlen hbits, ?_, XOk.never⟩
    · exact ⟨_, _, rfl, ⟨a, _, rfl, lq_script KX hobj hS, rpAll_ints ns⟩, rfl⟩
    · intro v h' u r' G' H' p _ _ rv
      have p : v = .d (.bool true) := p
      subst p
      exact rv
  · obtain ⟨_, _, _, _, _, _, _, _, _, _, _, _, z⟩ := hx
    exact z
end
end Hb

/-! HOOK: the head's facts, with one more look at the classes of errors. -/
namespace Hb
open PySem PySem.Spec PyProof.Rows
open L2 hiding V Hp St
set_option autoImplicit false
abbrev AlX : Type := He.AlD × Bool
def obsX (fa : List He.Fa) (fn : List He.DefD) (p : PySem.W.Frag → Bool) (K : PySem.W.Frag) : AlX := (He.obsD fa fn K, p K)
def obsXG (n : Nat) (fa : List He.Fa) (fn : List He.DefD) (p : PySem.W.Frag → Bool) (g : Addr → Option Obj) : AlX := obsX fa fn p (He.frG g (He.asD g n))
def hookX (n : Nat) (fa : List He.Fa) (fn : List He.DefD) (p : PySem.W.Frag → Bool) : PySem.W.Hook where
  α := AlX
  obs s := obsXG n fa fn p s.heap.get?
  val _ := (He.valD fn, true)
  says _ h := ∃ K : PySem.W.Frag, K.In h ∧ He.SaysD fa fn K ∧ p K = true
  of _ _ e := ⟨_, He.frG_in, congrArg Prod.fst e, congrArg Prod.snd e⟩
  keeps _ _ _ z k := by obtain ⟨K, hK, c⟩ := z; exact ⟨K, hK.keeps k, c⟩
theorem obsXG_eq {n : Nat} {fa : List He.Fa} {fn : List He.DefD} {p : PySem.W.Frag → Bool} {g : Addr → Option Obj} {s : Shared} (h : ∀ a, g a = s.heap.get? a) : obsXG n fa fn p g = (hookX n fa fn p).obs s := by
  rw [funext h]
  rfl
/-- isinstance asks instances of D rightly -/
def excB (K : PySem.W.Frag) (D : Addr) : Bool := He.eqO (PySem.W.findIn K (.ref D) "__getattribute__") (some (some (.builtin "BaseException.__getattribute__"))) && He.eqO (PySem.W.findIn K (.ref D) "__getattr__") (some none) &&
  decide (PySem.W.subIn K (.ref D) (.type "BaseException") = some true) && PySem.W.hasDictIn K D && He.eqO (PySem.W.findIn K (.ref D) "__class__") (some (some (.builtin "object.__class__"))) &&
  He.eqO (PySem.W.specialIn K (.builtin "object.__class__") "__get__") (some (some (.builtin "getset_descriptor.__get__"))) && decide (PySem.W.takesIn K (.builtin "object.__class__") = some true) && decide (PySem.W.mroIn K D (.type "object") = some true)
theorem excB_ok {K : PySem.W.Frag} {D : Addr} (h : excB K D = true) : ExcC K D := by
  obtain ⟨h, h8⟩ := and_of h
  obtain ⟨h, h7⟩ := and_of h
  obtain ⟨h, h6⟩ := and_of h
  obtain ⟨h, h5⟩ := and_of h
  obtain ⟨h, h4⟩ := and_of h
  obtain ⟨h, h3⟩ := and_of h
  obtain ⟨h1, h2⟩ := and_of h
  exact ⟨He.eqO_ok h1, He.eqO_ok h2, of_decide_eq_true h3, h4, He.eqO_ok h5, He.eqO_ok h6, of_decide_eq_true h7, of_decide_eq_true h8⟩
def isB (a : Option Bool) (b : Bool) : Bool := decide (a = some b)
def kdsB (K : PySem.W.Frag) (c : Value) : Bool := isB (PySem.W.kitOne K (.type "NoneType") c) false && isB (PySem.W.kitOne K (.type "bool") c) false && isB (PySem.W.kitOne K (.type "int") c) false && isB (PySem.W.kitOne K (.type "str") c) false &&
  isB (PySem.W.kitOne K (.type "tuple") c) false && isB (PySem.W.kitOne K (.type "list") c) false && isB (PySem.W.kitOne K (.type "dict") c) false
theorem kdsB_ok {K : PySem.W.Frag} {c : Value} (h : kdsB K c = true) (k : Kd) : PySem.W.kitOne K (.type (kdN k)) c = some false := by
  obtain ⟨h, h7⟩ := and_of h
  obtain ⟨h, h6⟩ := and_of h
  obtain ⟨h, h5⟩ := and_of h
  obtain ⟨h, h4⟩ := and_of h
  obtain ⟨h, h3⟩ := and_of h
  obtain ⟨h1, h2⟩ := and_of h
  cases k
  · exact of_decide_eq_true h1
  · exact of_decide_eq_true h2
  · exact of_decide_eq_true h3
  · exact of_decide_eq_true h4
  · exact of_decide_eq_true h5
  · exact of_decide_eq_true h6
  · exact of_decide_eq_true h7
def xcB (hu : Str) (cs : List (Nat × Str)) (K : PySem.W.Frag) : Bool := kdsB K (.ref (He.ga K hu)) && cs.all fun q => excB K (He.ga K q.2) && isB (PySem.W.exmOne K (.ref (He.ga K q.2)) (.ref (He.ga K hu))) true && isB (PySem.W.kitOne K (.ref (He.ga K q.2)) (.ref (He.ga K hu))) true &&
  isB (PySem.W.kitOne K (.ref (He.ga K q.2)) (.type "ValueError")) true && kdsB K (.ref (He.ga K q.2)) && cs.all fun q' => isB (PySem.W.kitOne K (.ref (He.ga K q.2)) (.ref (He.ga K q'.2))) (decide (q'.1 = q.1))
theorem xc_ok {w : Wo} {hu : Str} {cs : List (Nat × Str)} (hca : ∀ q ∈ cs, w.ca q.1 = He.ga w.K q.2) (hxc : w.xc = cs.map (·.1)) (hhu : w.hu = He.ga w.K hu) (h : xcB hu cs w.K = true) : XcOk w := by
  obtain ⟨h1, h2⟩ := and_of h
  have at_ : ∀ c ∈ w.xc, ∃ q ∈ cs, q.1 = c := fun c hc => by
    rw [hxc] at hc
    obtain ⟨q, hq, e⟩ := List.mem_map.mp hc
    exact ⟨q, hq, e⟩
  have row : ∀ q ∈ cs, excB w.K (w.ca q.1) = true ∧ PySem.W.exmOne w.K (.ref (w.ca q.1)) (.ref w.hu) = some true ∧ PySem.W.kitOne w.K (.ref (w.ca q.1)) (.ref w.hu) = some true ∧ PySem.W.kitOne w.K (.ref (w.ca q.1)) (.type "ValueError") = some true ∧
      kdsB w.K (.ref (w.ca q.1)) = true ∧ ∀ q' ∈ cs, PySem.W.kitOne w.K (.ref (w.ca q.1)) (.ref (w.ca q'.1)) = some (decide (q'.1 = q.1)) := fun q hq => by
    have z := List.all_eq_true.mp h2 q hq
    obtain ⟨z, z6⟩ := and_of z
    obtain ⟨z, z5⟩ := and_of z
    obtain ⟨z, z4⟩ := and_of z
    obtain ⟨z, z3⟩ := and_of z
    obtain ⟨z1, z2⟩ := and_of z
    rw [hhu, hca q hq]
    refine ⟨z1, of_decide_eq_true z2, of_decide_eq_true z3, of_decide_eq_true z4, z5, fun q' hq' => ?_⟩
    rw [hca q' hq']
    exact of_decide_eq_true (List.all_eq_true.mp z6 q' hq')
  constructor
  · intro c hc; obtain ⟨q, hq, rfl⟩ := at_ c hc; exact excB_ok (row q hq).1
  · intro c hc; obtain ⟨q, hq, rfl⟩ := at_ c hc; exact (row q hq).2.1
  · intro c hc; obtain ⟨q, hq, rfl⟩ := at_ c hc; exact (row q hq).2.2.1
  · intro c hc; obtain ⟨q, hq, rfl⟩ := at_ c hc; exact (row q hq).2.2.2.1
  · intro c hc c' hc'; obtain ⟨q, hq, rfl⟩ := at_ c hc; obtain ⟨q', hq', rfl⟩ := at_ c' hc'; exact (row q hq).2.2.2.2.2 q' hq'
  · intro k; rw [hhu]; exact kdsB_ok h1 k
  · intro k c hc; obtain ⟨q, hq, rfl⟩ := at_ c hc; exact kdsB_ok (row q hq).2.2.2.2.1 k
theorem xk_ok {mg : Str → Option Value} {w : Wo} {c : Nat} {x : Str} (hm : c ∈ w.xc) (hca : w.ca c = He.ga w.K x) (g : mg x = some (.ref (He.ga w.K x))) (h : (He.Fa.exc x).ok w.K = true) : XkOk mg w (c, x, true) := by
  refine ⟨hm, by show mg x = some (.ref (w.ca c)); rw [hca]; exact g, fun _ => ?_⟩
  show PySem.W.excIn w.K (w.ca c) He.veBase "ValueError.__new__" = true ∧ PySem.W.keepIn w.K (.ref (w.ca c)) = true ∧ PySem.W.subIn w.K (.ref (w.ca c)) (.type "BaseException") = some true ∧ PySem.W.typeIn w.K (.ref (w.ca c)) = some (.type "type")
  rw [hca]
  exact He.exc_ok h
theorem xk_ok' {mg : Str → Option Value} {w : Wo} {c : Nat} {x : Str} (hm : c ∈ w.xc) (hca : w.ca c = He.ga w.K x) (g : mg x = some (.ref (He.ga w.K x))) : XkOk mg w (c, x, false) := by
  refine ⟨hm, by show mg x = some (.ref (w.ca c)); rw [hca]; exact g, fun z => by cases z⟩
end Hb

/-! TB: the texts. -/
namespace Hb
open PySem
set_option autoImplicit false
def fieldN : List Str := ["came_by", "case_now", "case_there", "colour", "colour_held", "colours_held", "elder_held", "gone_through", "group", "hues_now", "known_ends", "open_rows", "outcome", "over_flags", "points_judged", "points_sought", "row", "rows_held", "size_held", "splits_held", "spots_held", "swaps_known", "swaps_let", "table_held", "tie_order", "webs_judged", "webs_sought", "whole_held", "wide_held"]
def tb__law_pouch_k01 : T :=
  (.cons (.ret (.lst true (.cons (.o2 .max2 (.con (.int 0)) (.o2 .sub (.var 0) (.o2 .pow (.con (.int 10)) (.con (.int 18))))) (.cons (.o2 .add (.o2 .mod (.var 0) (.o2 .add (.o2 .pow (.con (.int 10)) (.con (.int 41))) (.con (.int 49)))) (.o2 .mul (.con (.int 104729)) (.var 1))) (.cons (.con (.int 0)) .nil)))))
  .nil)
def ix__law_pouch_k01 : FnI := ⟨2, 2, 0, tb__law_pouch_k01⟩
def C__law_pouch_k01 (FT : List FnI) (g : Nat) : Prop := FT[g]? = some (ix__law_pouch_k01)
def tb__law_reach_k01 : T :=
  (.cons (.ifs (.o2 .gt (.o2 .idx (.var 0) (.con (.int 0))) (.con (.int 0))) (.cons (.asg (.tnm 3) (.o2 .mod (.o2 .idx (.var 0) (.con (.int 0))) (.var 1)))
    (.cons (.asg (.tsb (.var 0) (.con (.int 0))) (.o2 .fdiv (.o2 .idx (.var 0) (.con (.int 0))) (.var 1)))
    (.cons (.ret (.var 3))
    .nil))) .nil)
  (.cons (.augs .add (.var 0) (.con (.int 2)) (.con (.int 1)))
  (.cons (.asg (.tnm 2) (.o2 .mod (.o2 .pow (.o2 .add (.o2 .idx (.var 0) (.con (.int 1))) (.o2 .mul (.con (.int 32452867)) (.o2 .idx (.var 0) (.con (.int 2))))) (.con (.int 5))) (.o2 .add (.o2 .pow (.con (.int 10)) (.con (.int 39))) (.con (.int 3)))))
  (.cons (.asg (.tnm 2) (.o2 .mod (.o2 .pow (.o2 .add (.var 2) (.o2 .mul (.o2 .mul (.con (.int 15485867)) (.o2 .idx (.var 0) (.con (.int 2)))) (.o2 .idx (.var 0) (.con (.int 2))))) (.con (.int 3))) (.o2 .add (.o2 .pow (.con (.int 10)) (.con (.int 37))) (.con (.int 43)))))
  (.cons (.ret (.o2 .mod (.o2 .fdiv (.var 2) (.con (.int 4096))) (.var 1)))
  .nil)))))
def ix__law_reach_k01 : FnI := ⟨2, 4, 0, tb__law_reach_k01⟩
def C__law_reach_k01 (FT : List FnI) (g : Nat) : Prop := FT[g]? = some (ix__law_reach_k01)
def tb__law_pairs_k01 : T :=
  (.cons (.asg (.tnm 1) (.lst true .nil))
  (.cons (.for_ (.tnm 2) (.rng1 (.var 0)) (.cons (.exp (.mtd .extend (.var 1) (.cons (.cmp1 false (.rng2 (.o2 .add (.var 2) (.con (.int 1))) (.var 0)) (.tnm 3) .nil (.tup (.cons (.var 2) (.cons (.var 3) .nil))) [3]) .nil)))
    .nil))
  (.cons (.frz 1)
  (.cons (.ret (.var 1))
  .nil))))
def ix__law_pairs_k01 : FnI := ⟨1, 4, 0, tb__law_pairs_k01⟩
def C__law_pairs_k01 (FT : List FnI) (g : Nat) : Prop := FT[g]? = some (ix__law_pairs_k01)
def tb__law_mesh_k01 (f__law_reach : Nat) (f__law_pairs : Nat) : T :=
  (.cons (.asg (.tnm 2) (.call f__law_reach (.cons (.var 0) (.cons (.con (.int 8)) .nil))))
  (.cons (.asg (.tnm 3) (.o2 .add (.con (.int 1)) (.call f__law_reach (.cons (.var 0) (.cons (.con (.int 4)) .nil)))))
  (.cons (.asg (.tnm 4) (.lst true .nil))
  (.cons (.for_ (.ttp (.cons (.tnm 5) (.cons (.tnm 6) .nil))) (.itv (.call f__law_pairs (.cons (.var 1) .nil))) (.cons (.asg (.tnm 7) (.o2 .lt (.call f__law_reach (.cons (.var 0) (.cons (.con (.int 5)) .nil))) (.var 3)))
    (.cons (.asg (.tnm 8) (.o2 .eq (.var 6) (.o2 .add (.var 5) (.con (.int 1)))))
    (.cons (.ifs (.o2 .idx (.lst false (.cons (.con (.bool true)) (.cons (.or (.var 8) (.o2 .eq (.var 6) (.o2 .sub (.o2 .add (.var 5) (.var 1)) (.con (.int 1))))) (.cons (.var 8) (.cons (.o2 .eq (.var 5) (.con (.int 0))) (.cons (.var 7) .nil)))))) (.o2 .min2 (.var 2) (.con (.int 4)))) (.cons (.exp (.mtd .append (.var 4) (.cons (.tup (.cons (.var 5) (.cons (.var 6) .nil))) .nil)))
      .nil) .nil)
    .nil))))
  (.cons (.ret (.tup (.cons (.var 1) (.cons (.o1 .tuple (.var 4)) .nil))))
  .nil)))))
def ix__law_mesh_k01 (f__law_reach : Nat) (f__law_pairs : Nat) : FnI := ⟨2, 9, 0, tb__law_mesh_k01 f__law_reach f__law_pairs⟩
def C__law_mesh_k01 (FT : List FnI) (g : Nat) : Prop := ∃ f__law_reach f__law_pairs : Nat, FT[g]? = some (ix__law_mesh_k01 f__law_reach f__law_pairs) ∧ C__law_reach_k01 FT f__law_reach ∧ C__law_pairs_k01 FT f__law_pairs
def tb_may_go : T :=
  (.cons (.ifs (.o2 .in_ (.var 3) (.var 2)) (.cons (.ret (.con (.bool false)))
    .nil) .nil)
  (.cons (.for_ (.ttp (.cons (.tnm 5) (.cons (.tnm 6) .nil))) (.enm 0 (.var 2)) (.cons (.asg (.tnm 7) (.o2 .in_ (.tup (.cons (.var 5) (.cons (.o1 .len (.var 2)) .nil))) (.o2 .idx (.var 0) (.con (.int 1)))))
    (.cons (.asg (.tnm 8) (.o2 .in_ (.tup (.cons (.o2 .min2 (.var 6) (.var 3)) (.cons (.o2 .max2 (.var 6) (.var 3)) .nil))) (.o2 .idx (.var 1) (.con (.int 1)))))
    (.cons (.ifs (.or (.and (.var 7) (.not (.var 8))) (.and (.var 4) (.and (.var 8) (.not (.var 7))))) (.cons (.ret (.con (.bool false)))
      .nil) .nil)
    .nil))))
  (.cons (.ret (.con (.bool true)))
  .nil)))
def ix_may_go : FnI := ⟨5, 9, 0, tb_may_go⟩
def C_may_go (FT : List FnI) (g : Nat) : Prop := FT[g]? = some (ix_may_go)
def tb_longer_ways (f_may_go : Nat) : T :=
  (.cons (.ret (.cmp1 false (.rng1 (.o2 .idx (.var 1) (.con (.int 0)))) (.tnm 4) (.cons (.call f_may_go (.cons (.var 0) (.cons (.var 1) (.cons (.var 2) (.cons (.var 4) (.cons (.var 3) .nil)))))) .nil) (.o2 .add (.var 2) (.tup (.cons (.var 4) .nil))) [4]))
  .nil)
def ix_longer_ways (f_may_go : Nat) : FnI := ⟨4, 5, 0, tb_longer_ways f_may_go⟩
def C_longer_ways (FT : List FnI) (g : Nat) : Prop := ∃ f_may_go : Nat, FT[g]? = some (ix_longer_ways f_may_go) ∧ C_may_go FT f_may_go
def tb_first_way (f_longer_ways : Nat) : T :=
  (.cons (.asg (.tnm 3) (.lst true (.cons (.tup .nil) .nil)))
  (.cons (.whl (.o2 .ne (.var 3) (.lst false .nil)) (.cons (.asg (.tnm 4) (.mtd .pop (.var 3) .nil))
    (.cons (.ifs (.o2 .eq (.o1 .len (.var 4)) (.o2 .idx (.var 0) (.con (.int 0)))) (.cons (.ret (.var 4))
      .nil) .nil)
    (.cons (.exp (.mtd .extend (.var 3) (.cons (.o1 .rev (.call f_longer_ways (.cons (.var 0) (.cons (.var 1) (.cons (.var 4) (.cons (.var 2) .nil)))))) .nil)))
    .nil))))
  (.cons (.ret (.con .none))
  .nil)))
def ix_first_way (f_longer_ways : Nat) : FnI := ⟨3, 5, 0, tb_first_way f_longer_ways⟩
def C_first_way (FT : List FnI) (g : Nat) : Prop := ∃ f_longer_ways : Nat, FT[g]? = some (ix_first_way f_longer_ways) ∧ C_longer_ways FT f_longer_ways
def tb_like_way (f_first_way : Nat) : T :=
  (.cons (.ifs (.o2 .ne (.o2 .idx (.var 0) (.con (.int 0))) (.o2 .idx (.var 1) (.con (.int 0)))) (.cons (.ret (.con .none))
    .nil) .nil)
  (.cons (.ret (.call f_first_way (.cons (.var 0) (.cons (.var 1) (.cons (.con (.bool true)) .nil)))))
  .nil))
def ix_like_way (f_first_way : Nat) : FnI := ⟨2, 2, 0, tb_like_way f_first_way⟩
def C_like_way (FT : List FnI) (g : Nat) : Prop := ∃ f_first_way : Nat, FT[g]? = some (ix_like_way f_first_way) ∧ C_first_way FT f_first_way
def tb_own_ways (f_longer_ways : Nat) : T :=
  (.cons (.asg (.tnm 1) (.lst false (.cons (.tup .nil) .nil)))
  (.cons (.for_ (.tnm 2) (.rng1 (.o2 .idx (.var 0) (.con (.int 0)))) (.cons (.asg (.tnm 1) (.cmp2 false (.itv (.var 1)) (.tnm 3) .nil (.itv (.call f_longer_ways (.cons (.var 0) (.cons (.var 0) (.cons (.var 3) (.cons (.con (.bool true)) .nil)))))) (.tnm 4) .nil (.var 4) [3, 4] [4]))
    .nil))
  (.cons (.ret (.o1 .len (.var 1)))
  .nil)))
def ix_own_ways (f_longer_ways : Nat) : FnI := ⟨1, 5, 0, tb_own_ways f_longer_ways⟩
def C_own_ways (FT : List FnI) (g : Nat) : Prop := ∃ f_longer_ways : Nat, FT[g]? = some (ix_own_ways f_longer_ways) ∧ C_longer_ways FT f_longer_ways
def tb__law_numbered_k02 (f__law_reach : Nat) : T :=
  (.cons (.asg (.tnm 2) (.own (.o1 .lrange (.o2 .idx (.var 1) (.con (.int 0))))))
  (.cons (.asg (.tnm 3) (.cmp1 false (.rng1 (.o2 .idx (.var 1) (.con (.int 0)))) (.tnm 5) .nil (.mtd .popat (.var 2) (.cons (.call f__law_reach (.cons (.var 0) (.cons (.o1 .len (.var 2)) .nil))) .nil)) [5]))
  (.cons (.asg (.tnm 4) (.cmp1 false (.itv (.o2 .idx (.var 1) (.con (.int 1)))) (.ttp (.cons (.tnm 6) (.cons (.tnm 7) .nil))) .nil (.o1 .sorted (.lst false (.cons (.o2 .idx (.var 3) (.var 6)) (.cons (.o2 .idx (.var 3) (.var 7)) .nil)))) [6, 7]))
  (.cons (.ret (.tup (.cons (.o2 .idx (.var 1) (.con (.int 0))) (.cons (.o1 .tuple (.o1 .sorted (.cmp1 false (.itv (.var 4)) (.tnm 8) .nil (.tup (.cons (.o2 .idx (.var 8) (.con (.int 0))) (.cons (.o2 .idx (.var 8) (.con (.int 1))) .nil))) [8]))) .nil))))
  .nil))))
def ix__law_numbered_k02 (f__law_reach : Nat) : FnI := ⟨2, 9, 0, tb__law_numbered_k02 f__law_reach⟩
def C__law_numbered_k02 (FT : List FnI) (g : Nat) : Prop := ∃ f__law_reach : Nat, FT[g]? = some (ix__law_numbered_k02 f__law_reach) ∧ C__law_reach_k01 FT f__law_reach
def tb__law_bent_k02 (f__law_pairs : Nat) (f__law_reach : Nat) : T :=
  (.cons (.asg (.tnm 2) (.call f__law_pairs (.cons (.o2 .idx (.var 1) (.con (.int 0))) .nil)))
  (.cons (.ifs (.o2 .eq (.var 2) (.lst false .nil)) (.cons (.ret (.var 1))
    .nil) .nil)
  (.cons (.asg (.tnm 3) (.o2 .idx (.var 2) (.call f__law_reach (.cons (.var 0) (.cons (.o1 .len (.var 2)) .nil)))))
  (.cons (.asg (.tnm 4) (.cmp1 true (.itv (.o2 .idx (.var 1) (.con (.int 1)))) (.tnm 5) (.cons (.o2 .ne (.var 5) (.var 3)) .nil) (.var 5) [5]))
  (.cons (.ifs (.o2 .eq (.o1 .len (.var 4)) (.o1 .len (.o2 .idx (.var 1) (.con (.int 1))))) (.cons (.exp (.mtd .append (.var 4) (.cons (.var 3) .nil)))
    .nil) .nil)
  (.cons (.ret (.tup (.cons (.o2 .idx (.var 1) (.con (.int 0))) (.cons (.o1 .tuple (.o1 .sorted (.var 4))) .nil))))
  .nil))))))
def ix__law_bent_k02 (f__law_pairs : Nat) (f__law_reach : Nat) : FnI := ⟨2, 6, 0, tb__law_bent_k02 f__law_pairs f__law_reach⟩
def C__law_bent_k02 (FT : List FnI) (g : Nat) : Prop := ∃ f__law_pairs f__law_reach : Nat, FT[g]? = some (ix__law_bent_k02 f__law_pairs f__law_reach) ∧ C__law_pairs_k01 FT f__law_pairs ∧ C__law_reach_k01 FT f__law_reach
def tb__law_whole_k02 : T :=
  (.cons (.ret (.and (.isi (.var 0) [.int]) (.not (.isi (.var 0) [.bool]))))
  .nil)
def ix__law_whole_k02 : FnI := ⟨1, 1, 0, tb__law_whole_k02⟩
def C__law_whole_k02 (FT : List FnI) (g : Nat) : Prop := FT[g]? = some (ix__law_whole_k02)
def tb__law_orders_k02 : T :=
  (.cons (.asg (.tnm 1) (.lst false (.cons (.tup .nil) .nil)))
  (.cons (.for_ (.tnm 2) (.rng1 (.var 0)) (.cons (.asg (.tnm 3) (.lst true .nil))
    (.cons (.for_ (.tnm 4) (.itv (.var 1)) (.cons (.exp (.mtd .extend (.var 3) (.cons (.cmp1 false (.rng1 (.var 0)) (.tnm 5) (.cons (.o2 .notin (.var 5) (.var 4)) .nil) (.o2 .add (.var 4) (.tup (.cons (.var 5) .nil))) [5]) .nil)))
      .nil))
    (.cons (.frz 3)
    (.cons (.asg (.tnm 1) (.var 3))
    .nil)))))
  (.cons (.ret (.var 1))
  .nil)))
def ix__law_orders_k02 : FnI := ⟨1, 6, 0, tb__law_orders_k02⟩
def C__law_orders_k02 (FT : List FnI) (g : Nat) : Prop := FT[g]? = some (ix__law_orders_k02)
def tb__law_alike_k02 (f__law_whole : Nat) : T :=
  (.cons (.ifs (.o2 .is (.var 1) (.con .none)) (.cons (.ret (.o2 .is (.var 0) (.con .none)))
    .nil) .nil)
  (.cons (.ret (.and (.isi (.var 0) [.tuple]) (.and (.o1 .all (.cmp1 false (.itv (.var 0)) (.tnm 2) .nil (.call f__law_whole (.cons (.var 2) .nil)) [2])) (.o2 .eq (.var 0) (.var 1)))))
  .nil))
def ix__law_alike_k02 (f__law_whole : Nat) : FnI := ⟨2, 3, 0, tb__law_alike_k02 f__law_whole⟩
def C__law_alike_k02 (FT : List FnI) (g : Nat) : Prop := ∃ f__law_whole : Nat, FT[g]? = some (ix__law_alike_k02 f__law_whole) ∧ C__law_whole_k02 FT f__law_whole
def tb_lies_way (f_first_way : Nat) : T :=
  (.cons (.ret (.call f_first_way (.cons (.var 0) (.cons (.var 1) (.cons (.con (.bool false)) .nil)))))
  .nil)
def ix_lies_way (f_first_way : Nat) : FnI := ⟨2, 2, 0, tb_lies_way f_first_way⟩
def C_lies_way (FT : List FnI) (g : Nat) : Prop := ∃ f_first_way : Nat, FT[g]? = some (ix_lies_way f_first_way) ∧ C_first_way FT f_first_way
def tb_number_read : T :=
  (.cons (.ifs (.or (.not (.chn .le .le (.con (.int 1)) (.o1 .len (.var 0)) (.gco 0 (.int 9)))) (.not (.o1 .all (.cmp1 false (.itv (.var 0)) (.tnm 3) .nil (.o2 .in_ (.var 3) (.gco 0 (.str "0123456789"))) [3])))) (.cons (.ret (.con .none))
    .nil) .nil)
  (.cons (.ifs (.or (.and (.o2 .eq (.o2 .idx (.var 0) (.con (.int 0))) (.con (.str "0"))) (.o2 .ne (.var 0) (.con (.str "0")))) (.not (.chn .le .le (.var 1) (.o1 .int (.var 0)) (.var 2)))) (.cons (.ret (.con .none))
    .nil) .nil)
  (.cons (.ret (.o1 .int (.var 0)))
  .nil)))
def ix_number_read : FnI := ⟨3, 4, 0, tb_number_read⟩
def C_number_read (FT : List FnI) (g : Nat) : Prop := FT[g]? = some (ix_number_read)
def tb__law_alike_k07 (f__law_alike : Nat) : T :=
  (.cons (.ifs (.isi (.var 1) [.list, .tuple]) (.cons (.ifs (.or (.o2 .ne (.isi (.var 0) [.list]) (.isi (.var 1) [.list])) (.not (.isi (.var 0) [.list, .tuple]))) (.cons (.ret (.con (.bool false)))
      .nil) .nil)
    (.cons (.ret (.and (.o2 .eq (.o1 .len (.var 0)) (.o1 .len (.var 1))) (.o1 .all (.cmp1 false (.zip2 (.var 0) (.var 1)) (.ttp (.cons (.tnm 2) (.cons (.tnm 3) .nil))) .nil (.call f__law_alike (.cons (.var 2) (.cons (.var 3) .nil))) [2, 3]))))
    .nil)) .nil)
  (.cons (.ret (.and (.o2 .eq (.isi (.var 0) [.bool]) (.isi (.var 1) [.bool])) (.o2 .eq (.var 0) (.var 1))))
  .nil))
def ix__law_alike_k07 (f__law_alike : Nat) : FnI := ⟨2, 4, 0, tb__law_alike_k07 f__law_alike⟩
def C__law_alike_k07 (FT : List FnI) (g : Nat) : Prop := FT[g]? = some (ix__law_alike_k07 g)
def tb_points_told (f_number_read : Nat) : T :=
  (.cons (.asg (.tst 1 (.cons (.tnm 1) (.cons (.tnm 2) .nil))) (.smt .split (.o2 .idx (.var 0) (.con (.int 0))) (.con (.str " "))))
  (.cons (.ifs (.or (.o2 .ne (.var 1) (.con (.str "hues"))) (.o2 .ne (.o1 .len (.var 2)) (.con (.int 1)))) (.cons (.ret (.con .none))
    .nil) .nil)
  (.cons (.ret (.call f_number_read (.cons (.o2 .idx (.var 2) (.con (.int 0))) (.cons (.con (.int 1)) (.cons (.gco 0 (.int 12)) .nil)))))
  .nil)))
def ix_points_told (f_number_read : Nat) : FnI := ⟨1, 3, 0, tb_points_told f_number_read⟩
def C_points_told (FT : List FnI) (g : Nat) : Prop := ∃ f_number_read : Nat, FT[g]? = some (ix_points_told f_number_read) ∧ C_number_read FT f_number_read
def tb_is_hues_row (f_points_told : Nat) : T :=
  (.cons (.ifs (.o2 .eq (.var 0) (.lst false .nil)) (.cons (.ret (.o2 .isnot (.call f_points_told (.cons (.lst false (.cons (.var 1) .nil)) .nil)) (.con .none)))
    .nil) .nil)
  (.cons (.asg (.tnm 2) (.o2 .sub (.call f_points_told (.cons (.var 0) .nil)) (.o1 .len (.var 0))))
  (.cons (.ret (.and (.o2 .gt (.var 2) (.con (.int 0))) (.and (.o2 .eq (.o1 .len (.var 1)) (.var 2)) (.o1 .all (.cmp1 false (.itv (.var 1)) (.tnm 3) .nil (.o2 .in_ (.var 3) (.gco 0 (.str "0123"))) [3])))))
  .nil)))
def ix_is_hues_row (f_points_told : Nat) : FnI := ⟨2, 4, 0, tb_is_hues_row f_points_told⟩
def C_is_hues_row (FT : List FnI) (g : Nat) : Prop := ∃ f_points_told : Nat, FT[g]? = some (ix_is_hues_row f_points_told) ∧ C_points_told FT f_points_told
def tb_are_all (f_points_told : Nat) : T :=
  (.cons (.ret (.and (.o2 .ne (.var 0) (.lst false .nil)) (.o2 .eq (.o1 .len (.var 0)) (.call f_points_told (.cons (.var 0) .nil)))))
  .nil)
def ix_are_all (f_points_told : Nat) : FnI := ⟨1, 1, 0, tb_are_all f_points_told⟩
def C_are_all (FT : List FnI) (g : Nat) : Prop := ∃ f_points_told : Nat, FT[g]? = some (ix_are_all f_points_told) ∧ C_points_told FT f_points_told
def tb_rows_read_k09 (f_is_hues_row : Nat) (f_are_all : Nat) : T :=
  (.cons (.asg (.tst 0 (.cons (.tnm 5) (.cons (.tnm 4) .nil))) (.smt .split (.var 0) (.con (.str "\n"))))
  (.cons (.for_ (.tnm 3) (.rng1 (.o1 .len (.var 5))) (.cons (.ifs (.not (.callf 1 [f_is_hues_row] (.cons (.o2 .cuthi (.var 5) (.var 3)) (.cons (.o2 .idx (.var 5) (.var 3)) .nil)))) (.cons .nil
      .nil) .nil)
    .nil))
  (.cons (.ifs (.o2 .ne (.var 4) (.con (.str ""))) (.cons .nil
    .nil) .nil)
  (.cons (.ifs (.not (.callf 2 [f_are_all] (.cons (.var 5) .nil))) (.cons .nil
    .nil) .nil)
  (.cons (.ret (.var 5))
  .nil)))))
def ix_rows_read_k09 (f_is_hues_row : Nat) (f_are_all : Nat) : FnI := ⟨3, 6, 0, tb_rows_read_k09 f_is_hues_row f_are_all⟩
def C_rows_read_k09 (FT : List FnI) (g : Nat) : Prop := ∃ f_is_hues_row f_are_all : Nat, FT[g]? = some (ix_rows_read_k09 f_is_hues_row f_are_all) ∧ C_is_hues_row FT f_is_hues_row ∧ C_are_all FT f_are_all
def tb_show_colouring : T :=
  (.cons (.asg (.ttp (.cons (.tnm 4) (.cons (.tnm 5) .nil))) (.var 0))
  (.cons (.asg (.tnm 1) (.lst true (.cons (.o2 .add (.con (.str "hues ")) (.o1 .fmt (.var 4))) .nil)))
  (.cons (.asg (.tnm 2) (.con (.int 0)))
  (.cons (.for_ (.tnm 3) (.rngd (.o2 .sub (.var 4) (.con (.int 1))) (.con (.int 0))) (.cons (.exp (.mtd .append (.var 1) (.cons (.smt .join (.con (.str "")) (.cmp1 false (.itv (.o3 .cut (.var 5) (.var 2) (.o2 .add (.var 2) (.var 3)))) (.tnm 7) .nil (.o1 .str (.var 7)) [7])) .nil)))
    (.cons (.augn .add 2 (.var 3))
    .nil)))
  (.cons (.ret (.smt .join (.con (.str "")) (.cmp1 false (.itv (.var 1)) (.tnm 6) .nil (.o2 .add (.var 6) (.con (.str "\n"))) [6])))
  .nil)))))
def ix_show_colouring : FnI := ⟨1, 8, 0, tb_show_colouring⟩
def C_show_colouring (FT : List FnI) (g : Nat) : Prop := FT[g]? = some (ix_show_colouring)
def tb_read_colouring (f_rows_read : Nat) (f_is_hues_row : Nat) (f_are_all : Nat) (f_points_told : Nat) : T :=
  (.cons (.asg (.tnm 1) (.call f_rows_read (.cons (.var 0) (.cons (.fnv f_is_hues_row) (.cons (.fnv f_are_all) .nil)))))
  (.cons (.ret (.tup (.cons (.call f_points_told (.cons (.var 1) .nil)) (.cons (.o1 .tuple (.cmp2 false (.itv (.o2 .cutlo (.var 1) (.con (.int 1)))) (.tnm 2) .nil (.itv (.var 2)) (.tnm 3) .nil (.o1 .int (.var 3)) [2, 3] [3])) .nil))))
  .nil))
def ix_read_colouring (f_rows_read : Nat) (f_is_hues_row : Nat) (f_are_all : Nat) (f_points_told : Nat) : FnI := ⟨1, 4, 0, tb_read_colouring f_rows_read f_is_hues_row f_are_all f_points_told⟩
def C_read_colouring (FT : List FnI) (g : Nat) : Prop := ∃ f_rows_read f_is_hues_row f_are_all f_points_told : Nat, FT[g]? = some (ix_read_colouring f_rows_read f_is_hues_row f_are_all f_points_told) ∧ C_rows_read_k09 FT f_rows_read ∧ C_is_hues_row FT f_is_hues_row ∧ C_are_all FT f_are_all ∧ C_points_told FT f_points_told
def tb__law_paint_k09 (f__law_reach : Nat) : T :=
  (.cons (.asg (.tnm 2) (.o2 .add (.con (.int 1)) (.call f__law_reach (.cons (.var 0) (.cons (.con (.int 4)) .nil)))))
  (.cons (.asg (.tnm 3) (.cmp1 false (.rng1 (.o2 .fdiv (.o2 .mul (.var 1) (.o2 .sub (.var 1) (.con (.int 1)))) (.con (.int 2)))) (.tnm 4) .nil (.call f__law_reach (.cons (.var 0) (.cons (.var 2) .nil))) [4]))
  (.cons (.ifs (.o2 .eq (.call f__law_reach (.cons (.var 0) (.cons (.con (.int 2)) .nil))) (.con (.int 0))) (.cons (.asg (.tnm 3) (.cmp1 false (.itv (.var 3)) (.tnm 5) .nil (.o2 .sub (.con (.int 3)) (.var 5)) [5]))
    .nil) .nil)
  (.cons (.ret (.tup (.cons (.var 1) (.cons (.o1 .tuple (.var 3)) .nil))))
  .nil))))
def ix__law_paint_k09 (f__law_reach : Nat) : FnI := ⟨2, 6, 0, tb__law_paint_k09 f__law_reach⟩
def C__law_paint_k09 (FT : List FnI) (g : Nat) : Prop := ∃ f__law_reach : Nat, FT[g]? = some (ix__law_paint_k09 f__law_reach) ∧ C__law_reach_k01 FT f__law_reach
def tb__law_painted_k09 : T :=
  (.cons (.asg (.ttp (.cons (.tnm 4) (.cons (.tnm 5) .nil))) (.var 0))
  (.cons (.asg (.tnm 1) (.o2 .add (.o2 .add (.con (.str "hues ")) (.o1 .str (.var 4))) (.con (.str "\n"))))
  (.cons (.asg (.tnm 2) (.con (.int 0)))
  (.cons (.for_ (.tnm 3) (.rng1 (.o2 .sub (.var 4) (.con (.int 1)))) (.cons (.for_ (.tnm 6) (.rng2 (.o2 .add (.var 3) (.con (.int 1))) (.var 4)) (.cons (.asg (.tnm 1) (.o2 .add (.var 1) (.o1 .str (.o2 .idx (.var 5) (.var 2)))))
      (.cons (.asg (.tnm 2) (.o2 .add (.var 2) (.con (.int 1))))
      .nil)))
    (.cons (.asg (.tnm 1) (.o2 .add (.var 1) (.con (.str "\n"))))
    .nil)))
  (.cons (.ret (.var 1))
  .nil)))))
def ix__law_painted_k09 : FnI := ⟨1, 7, 0, tb__law_painted_k09⟩
def C__law_painted_k09 (FT : List FnI) (g : Nat) : Prop := FT[g]? = some (ix__law_painted_k09)
def tb__law_right_k09 (f__law_paint : Nat) (f__law_reach : Nat) (f__law_painted : Nat) (f_show_colouring : Nat) (f__law_alike : Nat) (f_read_colouring : Nat) : T :=
  (.cons (.asg (.tnm 1) (.call f__law_paint (.cons (.var 0) (.cons (.o2 .add (.con (.int 1)) (.call f__law_reach (.cons (.var 0) (.cons (.con (.int 12)) .nil)))) .nil))))
  (.cons (.asg (.tnm 2) (.call f__law_painted (.cons (.var 1) .nil)))
  (.cons (.for_ (.tnm 3) (.itv (.lst false (.cons (.call f_show_colouring (.cons (.var 1) .nil)) (.cons (.callk f_show_colouring .nil (.cons (.var 1) .nil) [0]) .nil)))) (.cons (.ifs (.or (.not (.isi (.var 3) [.str])) (.o2 .ne (.var 3) (.var 2))) (.cons (.ret (.con (.bool false)))
      .nil) .nil)
    .nil))
  (.cons (.ret (.and (.call f__law_alike (.cons (.call f_read_colouring (.cons (.var 2) .nil)) (.cons (.var 1) .nil))) (.call f__law_alike (.cons (.callk f_read_colouring .nil (.cons (.var 2) .nil) [0]) (.cons (.var 1) .nil)))))
  .nil))))
def ix__law_right_k09 (f__law_paint : Nat) (f__law_reach : Nat) (f__law_painted : Nat) (f_show_colouring : Nat) (f__law_alike : Nat) (f_read_colouring : Nat) : FnI := ⟨1, 4, 0, tb__law_right_k09 f__law_paint f__law_reach f__law_painted f_show_colouring f__law_alike f_read_colouring⟩
def C__law_right_k09 (FT : List FnI) (g : Nat) : Prop := ∃ f__law_paint f__law_reach f__law_painted f_show_colouring f__law_alike f_read_colouring : Nat, FT[g]? = some (ix__law_right_k09 f__law_paint f__law_reach f__law_painted f_show_colouring f__law_alike f_read_colouring) ∧ C__law_paint_k09 FT f__law_paint ∧ C__law_reach_k01 FT f__law_reach ∧ C__law_painted_k09 FT f__law_painted ∧ C_show_colouring FT f_show_colouring ∧ C__law_alike_k07 FT f__law_alike ∧ C_read_colouring FT f_read_colouring
def tb_law_k09 (f__law_right : Nat) (f__law_pouch : Nat) : T :=
  (.cons (.for_ (.ttp (.cons (.tnm 1) (.cons (.tnm 2) .nil))) (.enm 0 (.o2 .cuthi (.o2 .add (.var 0) (.lst false (.cons (.con (.int 0)) .nil))) (.o2 .max2 (.con (.int 1)) (.o2 .min2 (.o1 .len (.var 0)) (.con (.int 16)))))) (.cons (.ifs (.not (.call f__law_right (.cons (.call f__law_pouch (.cons (.var 2) (.cons (.var 1) .nil))) .nil))) (.cons (.ret (.con (.bool false)))
      .nil) .nil)
    .nil))
  (.cons (.ret (.con (.bool true)))
  .nil))
def ix_law_k09 (f__law_right : Nat) (f__law_pouch : Nat) : FnI := ⟨1, 3, 0, tb_law_k09 f__law_right f__law_pouch⟩
def C_law_k09 (FT : List FnI) (g : Nat) : Prop := ∃ f__law_right f__law_pouch : Nat, FT[g]? = some (ix_law_k09 f__law_right f__law_pouch) ∧ C__law_right_k09 FT f__law_right ∧ C__law_pouch_k01 FT f__law_pouch
end Hb

namespace Lk09
open PySem
open Hb
set_option autoImplicit false
abbrev f_number_read : Nat := 0
abbrev f_rows_read : Nat := 1
abbrev f_show_colouring : Nat := 2
abbrev f_points_told : Nat := 3
abbrev f_is_hues_row : Nat := 4
abbrev f_are_all : Nat := 5
abbrev f_read_colouring : Nat := 6
abbrev f__law_pouch : Nat := 7
abbrev f__law_reach : Nat := 8
abbrev f__law_paint : Nat := 9
abbrev f__law_painted : Nat := 10
abbrev f__law_alike : Nat := 11
abbrev f__law_right : Nat := 12
abbrev f_law : Nat := 13
def FT : List FnI := [ix_number_read, ix_rows_read_k09 f_is_hues_row f_are_all, ix_show_colouring, ix_points_told f_number_read, ix_is_hues_row f_points_told, ix_are_all f_points_told, ix_read_colouring f_rows_read f_is_hues_row f_are_all f_points_told, ix__law_pouch_k01, ix__law_reach_k01, ix__law_paint_k09 f__law_reach, ix__law_painted_k09, ix__law_alike_k07 f__law_alike, ix__law_right_k09 f__law_paint f__law_reach f__law_painted f_show_colouring f__law_alike f_read_colouring, ix_law_k09 f__law_right f__law_pouch]
theorem c_number_read : C_number_read FT f_number_read := rfl
theorem c_points_told : C_points_told FT f_points_told := ⟨f_number_read, rfl, c_number_read⟩
theorem c_is_hues_row : C_is_hues_row FT f_is_hues_row := ⟨f_points_told, rfl, c_points_told⟩
theorem c_are_all : C_are_all FT f_are_all := ⟨f_points_told, rfl, c_points_told⟩
theorem c_rows_read : C_rows_read_k09 FT f_rows_read := ⟨f_is_hues_row, f_are_all, rfl, c_is_hues_row, c_are_all⟩
theorem c_show_colouring : C_show_colouring FT f_show_colouring := rfl
theorem c_read_colouring : C_read_colouring FT f_read_colouring := ⟨f_rows_read, f_is_hues_row, f_are_all, f_points_told, rfl, c_rows_read, c_is_hues_row, c_are_all, c_points_told⟩
theorem c__law_pouch : C__law_pouch_k01 FT f__law_pouch := rfl
theorem c__law_reach : C__law_reach_k01 FT f__law_reach := rfl
theorem c__law_paint : C__law_paint_k09 FT f__law_paint := ⟨f__law_reach, rfl, c__law_reach⟩
theorem c__law_painted : C__law_painted_k09 FT f__law_painted := rfl
theorem c__law_alike : C__law_alike_k07 FT f__law_alike := rfl
theorem c__law_right : C__law_right_k09 FT f__law_right := ⟨f__law_paint, f__law_reach, f__law_painted, f_show_colouring, f__law_alike, f_read_colouring, rfl, c__law_paint, c__law_reach, c__law_painted, c_show_colouring, c__law_alike, c_read_colouring⟩
theorem c_law : C_law_k09 FT f_law := ⟨f__law_right, f__law_pouch, rfl, c__law_right, c__law_pouch⟩
end Lk09

set_option maxHeartbeats 0
namespace Lk09
open PySem PySem.Spec PyProof.Rows
open L2 hiding V Hp St
open Hb
set_option autoImplicit false
def top (i : Nat) : Stmt := PySem.Challenge.pw_huebound_k09_colourings_written.main.body.getD i (.Pass ⟨0, 0, 0, 0⟩)
def r_number_read : Dr := ⟨"number_read", "number_read", "number_read", ["word", "least", "most"], ["word", "least", "most", "sign"], defArgs (top 6), defBody (top 6), defScope (top 6), []⟩
def r_rows_read : Dr := ⟨"rows_read", "rows_read", "rows_read", ["text", "is_right", "is_whole"], ["text", "is_right", "is_whole", "at", "rest", "rows"], defArgs (top 10), defBody (top 10), defScope (top 10), []⟩
def r_show_colouring : Dr := ⟨"show_colouring", "show_colouring", "show_colouring", ["colouring"], ["colouring", "rows", "first", "wide", "many", "hues", "row", "hue"], defArgs (top 11), defBody (top 11), defScope (top 11), [(0, ["colouring"], [0])]⟩
def r_points_told : Dr := ⟨"points_told", "points_told", "points_told", ["rows"], ["rows", "word", "others"], defArgs (top 12), defBody (top 12), defScope (top 12), []⟩
def r_is_hues_row : Dr := ⟨"is_hues_row", "is_hues_row", "is_hues_row", ["rows", "row"], ["rows", "row", "wide", "sign"], defArgs (top 13), defBody (top 13), defScope (top 13), []⟩
def r_are_all : Dr := ⟨"are_all", "are_all", "are_all", ["rows"], ["rows"], defArgs (top 14), defBody (top 14), defScope (top 14), []⟩
def r_read_colouring : Dr := ⟨"read_colouring", "read_colouring", "read_colouring", ["text"], ["text", "rows", "row", "sign"], defArgs (top 15), defBody (top 15), defScope (top 15), [(0, ["text"], [0])]⟩
def r__law_pouch : Dr := ⟨"_law_pouch", "_law_pouch", "_law_pouch", ["_law_cell", "_law_k"], ["_law_cell", "_law_k"], defArgs (top 17), defBody (top 17), defScope (top 17), []⟩
def r__law_reach : Dr := ⟨"_law_reach", "_law_reach", "_law_reach", ["_law_pouch_here", "_law_many"], ["_law_pouch_here", "_law_many", "_law_stirred", "_law_found"], defArgs (top 18), defBody (top 18), defScope (top 18), []⟩
def r__law_paint : Dr := ⟨"_law_paint", "_law_paint", "_law_paint", ["_law_pouch_here", "_law_many"], ["_law_pouch_here", "_law_many", "_law_wide", "_law_hues", "_law_k", "_law_hue"], defArgs (top 19), defBody (top 19), defScope (top 19), []⟩
def r__law_painted : Dr := ⟨"_law_painted", "_law_painted", "_law_painted", ["_law_paint_here"], ["_law_paint_here", "_law_line", "_law_at", "_law_a", "_law_many", "_law_hues", "_law_b"], defArgs (top 20), defBody (top 20), defScope (top 20), []⟩
def r__law_alike : Dr := ⟨"_law_alike", "_law_alike", "_law_alike", ["_law_found", "_law_due"], ["_law_found", "_law_due", "_law_mine", "_law_theirs"], defArgs (top 21), defBody (top 21), defScope (top 21), []⟩
def r__law_right : Dr := ⟨"_law_right", "_law_right", "_law_right", ["_law_pouch_here"], ["_law_pouch_here", "_law_paint_here", "_law_line", "_law_found"], defArgs (top 22), defBody (top 22), defScope (top 22), []⟩
def r_law : Dr := ⟨"law", "law", "law", ["_law_script"], ["_law_script", "_law_k", "_law_cell"], defArgs (top 23), defBody (top 23), defScope (top 23), []⟩
def rows : List Dr := [r_number_read, r_rows_read, r_show_colouring, r_points_told, r_is_hues_row, r_are_all, r_read_colouring, r__law_pouch, r__law_reach, r__law_paint, r__law_painted, r__law_alike, r__law_right, r_law]
def tb : Tb := ⟨fnsOf rows, [("MOST_FIGURES", (.int 9)), ("FIGURES", (.str "0123456789")), ("MOST_PLACES", (.int 12)), ("HUES", (.str "0123"))], ["len", "all", "int", "range", "str", "tuple", "max", "isinstance", "list", "zip", "bool", "enumerate", "min"], [], [], [], [], false⟩
theorem okB : rowsB tb 60 rows FT = true := by decide +kernel
def d_number_read : He.DefD := ⟨("number_read", none), "number_read", "number_read", defArgs (top 6), defBody (top 6), defScope (top 6), [], []⟩
def d_rows_read : He.DefD := ⟨("rows_read", none), "rows_read", "rows_read", defArgs (top 10), defBody (top 10), defScope (top 10), [], []⟩
def d_show_colouring : He.DefD := ⟨("show_colouring", none), "show_colouring", "show_colouring", defArgs (top 11), defBody (top 11), defScope (top 11), [], []⟩
def d_points_told : He.DefD := ⟨("points_told", none), "points_told", "points_told", defArgs (top 12), defBody (top 12), defScope (top 12), [], []⟩
def d_is_hues_row : He.DefD := ⟨("is_hues_row", none), "is_hues_row", "is_hues_row", defArgs (top 13), defBody (top 13), defScope (top 13), [], []⟩
def d_are_all : He.DefD := ⟨("are_all", none), "are_all", "are_all", defArgs (top 14), defBody (top 14), defScope (top 14), [], []⟩
def d_read_colouring : He.DefD := ⟨("read_colouring", none), "read_colouring", "read_colouring", defArgs (top 15), defBody (top 15), defScope (top 15), [], []⟩
def d__law_pouch : He.DefD := ⟨("_law_pouch", none), "_law_pouch", "_law_pouch", defArgs (top 17), defBody (top 17), defScope (top 17), [], []⟩
def d__law_reach : He.DefD := ⟨("_law_reach", none), "_law_reach", "_law_reach", defArgs (top 18), defBody (top 18), defScope (top 18), [], []⟩
def d__law_paint : He.DefD := ⟨("_law_paint", none), "_law_paint", "_law_paint", defArgs (top 19), defBody (top 19), defScope (top 19), [], []⟩
def d__law_painted : He.DefD := ⟨("_law_painted", none), "_law_painted", "_law_painted", defArgs (top 20), defBody (top 20), defScope (top 20), [], []⟩
def d__law_alike : He.DefD := ⟨("_law_alike", none), "_law_alike", "_law_alike", defArgs (top 21), defBody (top 21), defScope (top 21), [], []⟩
def d__law_right : He.DefD := ⟨("_law_right", none), "_law_right", "_law_right", defArgs (top 22), defBody (top 22), defScope (top 22), [], []⟩
def d_law : He.DefD := ⟨("law", none), "law", "law", defArgs (top 23), defBody (top 23), defScope (top 23), [], []⟩
def fn : List He.DefD := [d_number_read, d_rows_read, d_show_colouring, d_points_told, d_is_hues_row, d_are_all, d_read_colouring, d__law_pouch, d__law_reach, d__law_paint, d__law_painted, d__law_alike, d__law_right, d_law]
def fa : List He.Fa := [.glo "number_read", .glo "rows_read", .glo "show_colouring", .glo "points_told", .glo "is_hues_row", .glo "are_all", .glo "read_colouring", .glo "_law_pouch", .glo "_law_reach", .glo "_law_paint", .glo "_law_painted", .glo "_law_alike", .glo "_law_right", .glo "law", .free "len", .free "all", .free "int", .free "range", .free "str", .free "tuple", .free "max", .free "isinstance", .free "list", .free "zip", .free "bool", .free "enumerate", .free "min", .int "MOST_FIGURES" 9, .str "FIGURES" "0123456789", .int "MOST_PLACES" 12, .str "HUES" "0123"]
def xcs : List (Nat × Str) := []
abbrev R : PySem.W.OpenRow := PySem.W.OpenLaw.row PySem.Challenge.rw_huebound_k09_colourings_written
abbrev hk : PySem.W.Hook := He.hookD 4 fa fn
def ob (s : PySem.W.SharedT) : He.AlD := He.obsDG 4 fa fn (HandSHeadRun.getT s)
theorem ob_eq (s : PySem.W.SharedT) : ob s = hk.obs s.abs := He.obsDG_eq (HandSHeadRun.getT_eq s)
theorem run (w : World) : HandSHeadRun.RunEq R (PySem.W.view R.prog [23]) hk ob 4000 ["number_read", "rows_read", "show_colouring", "points_told", "is_hues_row", "are_all", "read_colouring", "_law_pouch", "_law_reach", "_law_paint", "_law_painted", "_law_alike", "_law_right", "MOST_FIGURES", "FIGURES", "MOST_PLACES", "HUES", "HueError", "NoText"] w := by
  intro os
  kernel_rfl
def places : List (Str × Option Str) := [("number_read", none), ("rows_read", none), ("show_colouring", none), ("points_told", none), ("is_hues_row", none), ("are_all", none), ("read_colouring", none), ("_law_pouch", none), ("_law_reach", none), ("_law_paint", none), ("_law_painted", none), ("_law_alike", none), ("_law_right", none), ("law", none)]
def klsN : List (Nat × Str) := []
def wo (K : PySem.W.Frag) : Wo := ⟨K, fun g => He.fAd K (places.getD g ("law", none)), fun c => He.ga K ((klsN.lookup c).getD ""), anF [], anF_inj (by decide +kernel) (by decide +kernel), xcs.map (·.1), He.ga K "HueError"⟩
section
variable {K : PySem.W.Frag} {h : Heap} {mg : Str → Option Value}
theorem ok_number_read (X : K.In h) (G : h.Ns mainGlobals mg) (c : He.SaysD fa fn K) : DrOk mg (wo K) 0 r_number_read := by
  obtain ⟨fd, F⟩ := c.def_ 0 (d := d_number_read) rfl
  refine ⟨fun _ => He.glo_ok X G (c.fact 0 (f := .glo "number_read") rfl), fd, F, FunD.bindsN (ps := ["word", "least", "most"]) F fun _ _ _ _ _ _ us hl => match us, hl with | [_, _, _], _ => rfl, ?_⟩
  obtain ⟨oc, od, dV, kV, doc, pm, an, cdv, ct, osl, rfl, lk, hcd, hD, hK⟩ := F.ex
  have e0 : dV = .none := by rcases hD with ⟨_, e⟩ | ⟨e, _⟩; exact e; exact absurd rfl e
  subst e0
  intro kw hkw
  exact absurd hkw (by simp [r_number_read])
theorem ok_rows_read (X : K.In h) (G : h.Ns mainGlobals mg) (c : He.SaysD fa fn K) : DrOk mg (wo K) 1 r_rows_read := by
  obtain ⟨fd, F⟩ := c.def_ 1 (d := d_rows_read) rfl
  refine ⟨fun _ => He.glo_ok X G (c.fact 1 (f := .glo "rows_read") rfl), fd, F, FunD.bindsN (ps := ["text", "is_right", "is_whole"]) F fun _ _ _ _ _ _ us hl => match us, hl with | [_, _, _], _ => rfl, ?_⟩
  obtain ⟨oc, od, dV, kV, doc, pm, an, cdv, ct, osl, rfl, lk, hcd, hD, hK⟩ := F.ex
  have e0 : dV = .none := by rcases hD with ⟨_, e⟩ | ⟨e, _⟩; exact e; exact absurd rfl e
  subst e0
  intro kw hkw
  exact absurd hkw (by simp [r_rows_read])
theorem ok_show_colouring (X : K.In h) (G : h.Ns mainGlobals mg) (c : He.SaysD fa fn K) : DrOk mg (wo K) 2 r_show_colouring := by
  obtain ⟨fd, F⟩ := c.def_ 2 (d := d_show_colouring) rfl
  refine ⟨fun _ => He.glo_ok X G (c.fact 2 (f := .glo "show_colouring") rfl), fd, F, FunD.bindsN (ps := ["colouring"]) F fun _ _ _ _ _ _ us hl => match us, hl with | [_], _ => rfl, ?_⟩
  obtain ⟨oc, od, dV, kV, doc, pm, an, cdv, ct, osl, rfl, lk, hcd, hD, hK⟩ := F.ex
  have e0 : dV = .none := by rcases hD with ⟨_, e⟩ | ⟨e, _⟩; exact e; exact absurd rfl e
  subst e0
  intro kw hkw
  rcases List.mem_cons.mp hkw with rfl | hkw
  · exact kbd_of (by decide) fun us ws hu hw => match us, ws, hu, hw with | [], [_], _, _ => rfl
  exact absurd hkw (by simp)
theorem ok_points_told (X : K.In h) (G : h.Ns mainGlobals mg) (c : He.SaysD fa fn K) : DrOk mg (wo K) 3 r_points_told := by
  obtain ⟨fd, F⟩ := c.def_ 3 (d := d_points_told) rfl
  refine ⟨fun _ => He.glo_ok X G (c.fact 3 (f := .glo "points_told") rfl), fd, F, FunD.bindsN (ps := ["rows"]) F fun _ _ _ _ _ _ us hl => match us, hl with | [_], _ => rfl, ?_⟩
  obtain ⟨oc, od, dV, kV, doc, pm, an, cdv, ct, osl, rfl, lk, hcd, hD, hK⟩ := F.ex
  have e0 : dV = .none := by rcases hD with ⟨_, e⟩ | ⟨e, _⟩; exact e; exact absurd rfl e
  subst e0
  intro kw hkw
  exact absurd hkw (by simp [r_points_told])
theorem ok_is_hues_row (X : K.In h) (G : h.Ns mainGlobals mg) (c : He.SaysD fa fn K) : DrOk mg (wo K) 4 r_is_hues_row := by
  obtain ⟨fd, F⟩ := c.def_ 4 (d := d_is_hues_row) rfl
  refine ⟨fun _ => He.glo_ok X G (c.fact 4 (f := .glo "is_hues_row") rfl), fd, F, FunD.bindsN (ps := ["rows", "row"]) F fun _ _ _ _ _ _ us hl => match us, hl with | [_, _], _ => rfl, ?_⟩
  obtain ⟨oc, od, dV, kV, doc, pm, an, cdv, ct, osl, rfl, lk, hcd, hD, hK⟩ := F.ex
  have e0 : dV = .none := by rcases hD with ⟨_, e⟩ | ⟨e, _⟩; exact e; exact absurd rfl e
  subst e0
  intro kw hkw
  exact absurd hkw (by simp [r_is_hues_row])
theorem ok_are_all (X : K.In h) (G : h.Ns mainGlobals mg) (c : He.SaysD fa fn K) : DrOk mg (wo K) 5 r_are_all := by
  obtain ⟨fd, F⟩ := c.def_ 5 (d := d_are_all) rfl
  refine ⟨fun _ => He.glo_ok X G (c.fact 5 (f := .glo "are_all") rfl), fd, F, FunD.bindsN (ps := ["rows"]) F fun _ _ _ _ _ _ us hl => match us, hl with | [_], _ => rfl, ?_⟩
  obtain ⟨oc, od, dV, kV, doc, pm, an, cdv, ct, osl, rfl, lk, hcd, hD, hK⟩ := F.ex
  have e0 : dV = .none := by rcases hD with ⟨_, e⟩ | ⟨e, _⟩; exact e; exact absurd rfl e
  subst e0
  intro kw hkw
  exact absurd hkw (by simp [r_are_all])
theorem ok_read_colouring (X : K.In h) (G : h.Ns mainGlobals mg) (c : He.SaysD fa fn K) : DrOk mg (wo K) 6 r_read_colouring := by
  obtain ⟨fd, F⟩ := c.def_ 6 (d := d_read_colouring) rfl
  refine ⟨fun _ => He.glo_ok X G (c.fact 6 (f := .glo "read_colouring") rfl), fd, F, FunD.bindsN (ps := ["text"]) F fun _ _ _ _ _ _ us hl => match us, hl with | [_], _ => rfl, ?_⟩
  obtain ⟨oc, od, dV, kV, doc, pm, an, cdv, ct, osl, rfl, lk, hcd, hD, hK⟩ := F.ex
  have e0 : dV = .none := by rcases hD with ⟨_, e⟩ | ⟨e, _⟩; exact e; exact absurd rfl e
  subst e0
  intro kw hkw
  rcases List.mem_cons.mp hkw with rfl | hkw
  · exact kbd_of (by decide) fun us ws hu hw => match us, ws, hu, hw with | [], [_], _, _ => rfl
  exact absurd hkw (by simp)
theorem ok__law_pouch (X : K.In h) (G : h.Ns mainGlobals mg) (c : He.SaysD fa fn K) : DrOk mg (wo K) 7 r__law_pouch := by
  obtain ⟨fd, F⟩ := c.def_ 7 (d := d__law_pouch) rfl
  refine ⟨fun _ => He.glo_ok X G (c.fact 7 (f := .glo "_law_pouch") rfl), fd, F, FunD.bindsN (ps := ["_law_cell", "_law_k"]) F fun _ _ _ _ _ _ us hl => match us, hl with | [_, _], _ => rfl, ?_⟩
  obtain ⟨oc, od, dV, kV, doc, pm, an, cdv, ct, osl, rfl, lk, hcd, hD, hK⟩ := F.ex
  have e0 : dV = .none := by rcases hD with ⟨_, e⟩ | ⟨e, _⟩; exact e; exact absurd rfl e
  subst e0
  intro kw hkw
  exact absurd hkw (by simp [r__law_pouch])
theorem ok__law_reach (X : K.In h) (G : h.Ns mainGlobals mg) (c : He.SaysD fa fn K) : DrOk mg (wo K) 8 r__law_reach := by
  obtain ⟨fd, F⟩ := c.def_ 8 (d := d__law_reach) rfl
  refine ⟨fun _ => He.glo_ok X G (c.fact 8 (f := .glo "_law_reach") rfl), fd, F, FunD.bindsN (ps := ["_law_pouch_here", "_law_many"]) F fun _ _ _ _ _ _ us hl => match us, hl with | [_, _], _ => rfl, ?_⟩
  obtain ⟨oc, od, dV, kV, doc, pm, an, cdv, ct, osl, rfl, lk, hcd, hD, hK⟩ := F.ex
  have e0 : dV = .none := by rcases hD with ⟨_, e⟩ | ⟨e, _⟩; exact e; exact absurd rfl e
  subst e0
  intro kw hkw
  exact absurd hkw (by simp [r__law_reach])
theorem ok__law_paint (X : K.In h) (G : h.Ns mainGlobals mg) (c : He.SaysD fa fn K) : DrOk mg (wo K) 9 r__law_paint := by
  obtain ⟨fd, F⟩ := c.def_ 9 (d := d__law_paint) rfl
  refine ⟨fun _ => He.glo_ok X G (c.fact 9 (f := .glo "_law_paint") rfl), fd, F, FunD.bindsN (ps := ["_law_pouch_here", "_law_many"]) F fun _ _ _ _ _ _ us hl => match us, hl with | [_, _], _ => rfl, ?_⟩
  obtain ⟨oc, od, dV, kV, doc, pm, an, cdv, ct, osl, rfl, lk, hcd, hD, hK⟩ := F.ex
  have e0 : dV = .none := by rcases hD with ⟨_, e⟩ | ⟨e, _⟩; exact e; exact absurd rfl e
  subst e0
  intro kw hkw
  exact absurd hkw (by simp [r__law_paint])
theorem ok__law_painted (X : K.In h) (G : h.Ns mainGlobals mg) (c : He.SaysD fa fn K) : DrOk mg (wo K) 10 r__law_painted := by
  obtain ⟨fd, F⟩ := c.def_ 10 (d := d__law_painted) rfl
  refine ⟨fun _ => He.glo_ok X G (c.fact 10 (f := .glo "_law_painted") rfl), fd, F, FunD.bindsN (ps := ["_law_paint_here"]) F fun _ _ _ _ _ _ us hl => match us, hl with | [_], _ => rfl, ?_⟩
  obtain ⟨oc, od, dV, kV, doc, pm, an, cdv, ct, osl, rfl, lk, hcd, hD, hK⟩ := F.ex
  have e0 : dV = .none := by rcases hD with ⟨_, e⟩ | ⟨e, _⟩; exact e; exact absurd rfl e
  subst e0
  intro kw hkw
  exact absurd hkw (by simp [r__law_painted])
theorem ok__law_alike (X : K.In h) (G : h.Ns mainGlobals mg) (c : He.SaysD fa fn K) : DrOk mg (wo K) 11 r__law_alike := by
  obtain ⟨fd, F⟩ := c.def_ 11 (d := d__law_alike) rfl
  refine ⟨fun _ => He.glo_ok X G (c.fact 11 (f := .glo "_law_alike") rfl), fd, F, FunD.bindsN (ps := ["_law_found", "_law_due"]) F fun _ _ _ _ _ _ us hl => match us, hl with | [_, _], _ => rfl, ?_⟩
  obtain ⟨oc, od, dV, kV, doc, pm, an, cdv, ct, osl, rfl, lk, hcd, hD, hK⟩ := F.ex
  have e0 : dV = .none := by rcases hD with ⟨_, e⟩ | ⟨e, _⟩; exact e; exact absurd rfl e
  subst e0
  intro kw hkw
  exact absurd hkw (by simp [r__law_alike])
theorem ok__law_right (X : K.In h) (G : h.Ns mainGlobals mg) (c : He.SaysD fa fn K) : DrOk mg (wo K) 12 r__law_right := by
  obtain ⟨fd, F⟩ := c.def_ 12 (d := d__law_right) rfl
  refine ⟨fun _ => He.glo_ok X G (c.fact 12 (f := .glo "_law_right") rfl), fd, F, FunD.bindsN (ps := ["_law_pouch_here"]) F fun _ _ _ _ _ _ us hl => match us, hl with | [_], _ => rfl, ?_⟩
  obtain ⟨oc, od, dV, kV, doc, pm, an, cdv, ct, osl, rfl, lk, hcd, hD, hK⟩ := F.ex
  have e0 : dV = .none := by rcases hD with ⟨_, e⟩ | ⟨e, _⟩; exact e; exact absurd rfl e
  subst e0
  intro kw hkw
  exact absurd hkw (by simp [r__law_right])
theorem ok_law (X : K.In h) (G : h.Ns mainGlobals mg) (c : He.SaysD fa fn K) : DrOk mg (wo K) 13 r_law := by
  obtain ⟨fd, F⟩ := c.def_ 13 (d := d_law) rfl
  refine ⟨fun _ => He.glo_ok X G (c.fact 13 (f := .glo "law") rfl), fd, F, FunD.bindsN (ps := ["_law_script"]) F fun _ _ _ _ _ _ us hl => match us, hl with | [_], _ => rfl, ?_⟩
  obtain ⟨oc, od, dV, kV, doc, pm, an, cdv, ct, osl, rfl, lk, hcd, hD, hK⟩ := F.ex
  have e0 : dV = .none := by rcases hD with ⟨_, e⟩ | ⟨e, _⟩; exact e; exact absurd rfl e
  subst e0
  intro kw hkw
  exact absurd hkw (by simp [r_law])
theorem xsOk : XsOk mg (wo K) tb := ⟨.inl rfl, fun x hx => absurd hx (by simp [tb]), fun q hq => absurd hq (by simp [tb])⟩
theorem modOk (X : K.In h) (G : h.Ns mainGlobals mg) (c : He.SaysD fa fn K) (xs : XsOk mg (wo K) tb) : ModOk mg (wo K) tb rows := by
  refine ⟨rfl, fun g r e => ?_, fun g x d e => ?_, fun x hx => ?_, fun k hk => ?_, fun i x e => anF_at e, xs, rfl⟩
  · match g, e with
    | 0, e => cases e; exact ok_number_read X G c
    | 1, e => cases e; exact ok_rows_read X G c
    | 2, e => cases e; exact ok_show_colouring X G c
    | 3, e => cases e; exact ok_points_told X G c
    | 4, e => cases e; exact ok_is_hues_row X G c
    | 5, e => cases e; exact ok_are_all X G c
    | 6, e => cases e; exact ok_read_colouring X G c
    | 7, e => cases e; exact ok__law_pouch X G c
    | 8, e => cases e; exact ok__law_reach X G c
    | 9, e => cases e; exact ok__law_paint X G c
    | 10, e => cases e; exact ok__law_painted X G c
    | 11, e => cases e; exact ok__law_alike X G c
    | 12, e => cases e; exact ok__law_right X G c
    | 13, e => cases e; exact ok_law X G c
    | n + 14, e => exact absurd e (by simp [rows])
  · match g, e with
    | 0, e => cases e; obtain ⟨t, m⟩ := He.int_ok X G (c.fact 27 rfl); exact ⟨_, .int 9, m, ⟨t, rfl⟩, fun _ => rfl⟩
    | 1, e => cases e; obtain ⟨t, m⟩ := He.str_ok X G (c.fact 28 rfl); exact ⟨_, .str "0123456789", m, ⟨t, rfl⟩, fun _ => rfl⟩
    | 2, e => cases e; obtain ⟨t, m⟩ := He.int_ok X G (c.fact 29 rfl); exact ⟨_, .int 12, m, ⟨t, rfl⟩, fun _ => rfl⟩
    | 3, e => cases e; obtain ⟨t, m⟩ := He.str_ok X G (c.fact 30 rfl); exact ⟨_, .str "0123", m, ⟨t, rfl⟩, fun _ => rfl⟩
    | n + 4, e => exact absurd e (by simp [tb])
  · have hx : x ∈ (["len", "all", "int", "range", "str", "tuple", "max", "isinstance", "list", "zip", "bool", "enumerate", "min"] : List Str) := hx
    simp only [List.mem_cons, List.mem_nil_iff, or_false] at hx
    rcases hx with rfl | rfl | rfl | rfl | rfl | rfl | rfl | rfl | rfl | rfl | rfl | rfl | rfl
    · exact He.free_ok X G (c.fact 14 rfl)
    · exact He.free_ok X G (c.fact 15 rfl)
    · exact He.free_ok X G (c.fact 16 rfl)
    · exact He.free_ok X G (c.fact 17 rfl)
    · exact He.free_ok X G (c.fact 18 rfl)
    · exact He.free_ok X G (c.fact 19 rfl)
    · exact He.free_ok X G (c.fact 20 rfl)
    · exact He.free_ok X G (c.fact 21 rfl)
    · exact He.free_ok X G (c.fact 22 rfl)
    · exact He.free_ok X G (c.fact 23 rfl)
    · exact He.free_ok X G (c.fact 24 rfl)
    · exact He.free_ok X G (c.fact 25 rfl)
    · exact He.free_ok X G (c.fact 26 rfl)
  · exact absurd hk (by simp [tb])
end
end Lk09

/-! USE: plain rules for the meaning of texts. -/
namespace Hb
open PySem
set_option autoImplicit false
section
variable {chk : Hp → Prop} {body : V → Env → Hp → Nx → Kk → Prop} {env : Env} {h : Hp} {n : Nx} {k : Kk}
theorem forW_nil (hc : chk h) (q : n env h) : forW chk body [] env h n k := by rw [forW_eq]; exact ⟨hc, q⟩
theorem forW_cons {x : V} {r : List V} (hc : chk h) (q : body x env h (fun e h' => forW chk body r e h' n k) ⟨k.rt, n, fun e h' => forW chk body r e h' n k, k.xe⟩) : forW chk body (x :: r) env h n k := by rw [forW_eq] at q ⊢; exact ⟨hc, q⟩
end
section
variable {chk : Hp → Prop} {turn : V → Hp → (Option V → Hp → Prop) → Prop} {acc : List V} {h : Hp} {Q : List V → Hp → Prop}
theorem cmpW_nil (hc : chk h) (q : Q acc h) : cmpW chk turn [] acc h Q := by rw [cmpW_eq]; exact ⟨hc, q⟩
theorem cmpW_cons {x : V} {r : List V} (hc : chk h) (q : turn x h fun o h' => (match o with
    | some v => acc.length < big ∧ cmpW chk turn r (acc ++ [v]) h' Q
    | none => cmpW chk turn r acc h' Q)) : cmpW chk turn (x :: r) acc h Q := by rw [cmpW_eq] at q ⊢; exact ⟨hc, q⟩
end
section
variable {chk : Hp → Prop} {turn : V → List V → Hp → (List V → Hp → Prop) → Prop} {acc : List V} {h : Hp} {Q : List V → Hp → Prop}
theorem cmpW2_nil (hc : chk h) (q : Q acc h) : cmpW2 chk turn [] acc h Q := by rw [cmpW2_eq]; exact ⟨hc, q⟩
theorem cmpW2_cons {x : V} {r : List V} (hc : chk h) (q : turn x acc h fun acc' h' => cmpW2 chk turn r acc' h' Q) : cmpW2 chk turn (x :: r) acc h Q := by rw [cmpW2_eq] at q ⊢; exact ⟨hc, q⟩
end
/-- a loop by its invariant -/
theorem forW_inv {chk : Hp → Prop} {body : V → Env → Hp → Nx → Kk → Prop} {n : Nx} {k : Kk} (I : Nat → Env → Hp → Prop) :
    ∀ (xs : List V) (j : Nat) (env : Env) (h : Hp), I j env h → (∀ i e h, I i e h → chk h) →
    (∀ i e h x (nx : Nx), I i e h → (i = j → True) → x ∈ xs → (∀ e' h', I (i + 1) e' h' → nx e' h') → body x e h nx ⟨k.rt, n, nx, k.xe⟩) →
    (∀ e h, I (j + xs.length) e h → n e h) → forW chk body xs env h n k
  | [], j, env, h, h0, hc, _, fin => forW_nil (hc _ _ _ h0) (fin env h h0)
  | x :: xs, j, env, h, h0, hc, st, fin => by
    refine forW_cons (hc _ _ _ h0) (st j env h x _ h0 (fun _ => trivial) (by simp) fun e' h' hi => ?_)
    exact forW_inv I xs (j + 1) e' h' hi hc (fun i e h y nx hi _ hy q => st i e h y nx hi (fun _ => trivial) (by simp [hy]) q) fun e h hi => fin e h (by
      have : j + (x :: xs).length = j + 1 + xs.length := by simp only [List.length_cons]; omega
      rw [this]; exact hi)
/-- the same, the item by its place -/
theorem forW_at {chk : Hp → Prop} {body : V → Env → Hp → Nx → Kk → Prop} {n : Nx} {k : Kk} (I : List V → Env → Hp → Prop) :
    ∀ (xs : List V) (env : Env) (h : Hp), I xs env h → (∀ l e h, I l e h → chk h) →
    (∀ e h x l (nx : Nx), I (x :: l) e h → (∀ e' h', I l e' h' → nx e' h') → body x e h nx ⟨k.rt, n, nx, k.xe⟩) →
    (∀ e h, I [] e h → n e h) → forW chk body xs env h n k
  | [], env, h, h0, hc, _, fin => forW_nil (hc _ _ _ h0) (fin env h h0)
  | x :: xs, env, h, h0, hc, st, fin => forW_cons (hc _ _ _ h0) (st env h x xs _ h0 fun e' h' hi => forW_at I xs e' h' hi hc st fin)
/-- a comprehension that leaves the heap: item by item -/
theorem cmpW_map {chk : Hp → Prop} {turn : V → Hp → (Option V → Hp → Prop) → Prop} {h : Hp} {Q : List V → Hp → Prop} (f : V → V) (hc : chk h) :
    ∀ (xs acc : List V), (∀ x ∈ xs, ∀ Q', Q' (some (f x)) h → turn x h Q') → acc.length + xs.length ≤ big → Q (acc ++ xs.map f) h → cmpW chk turn xs acc h Q
  | [], acc, _, _, q => cmpW_nil hc (by rw [List.map_nil, List.append_nil] at q; exact q)
  | x :: xs, acc, ht, hl, q => by
    refine cmpW_cons hc (ht x (by simp) _ ?_)
    simp only [List.length_cons] at hl
    refine ⟨by omega, cmpW_map f hc xs (acc ++ [f x]) (fun y hy => ht y (by simp [hy])) (by simp only [List.length_append, List.length_cons, List.length_nil]; omega) ?_⟩
    rw [List.append_assoc]
    exact q
/-- a comprehension by its invariant: what is left, what is made, the heap -/
theorem cmpW_at {chk : Hp → Prop} {turn : V → Hp → (Option V → Hp → Prop) → Prop} {Q : List V → Hp → Prop} (I : List V → List V → Hp → Prop) :
    ∀ (xs acc : List V) (h : Hp), I xs acc h → (∀ l acc h, I l acc h → chk h ∧ acc.length < big) →
    (∀ x l acc h (Q' : Option V → Hp → Prop), I (x :: l) acc h → (∀ v h', I l (acc ++ [v]) h' → Q' (some v) h') → (∀ h', I l acc h' → Q' none h') → turn x h Q') →
    (∀ acc h, I [] acc h → Q acc h) → cmpW chk turn xs acc h Q
  | [], acc, h, h0, hc, _, fin => cmpW_nil (hc _ _ _ h0).1 (fin acc h h0)
  | x :: xs, acc, h, h0, hc, st, fin => cmpW_cons (hc _ _ _ h0).1 (st x xs acc h _ h0 (fun v h' hi => ⟨(hc _ _ _ h0).2, cmpW_at I xs (acc ++ [v]) h' hi hc st fin⟩) fun h' hi => cmpW_at I xs acc h' hi hc st fin)
/-- .. with a test -/
theorem cmpW_fm {chk : Hp → Prop} {turn : V → Hp → (Option V → Hp → Prop) → Prop} {h : Hp} {Q : List V → Hp → Prop} (f : V → Option V) (hc : chk h) :
    ∀ (xs acc : List V), (∀ x ∈ xs, ∀ Q', Q' (f x) h → turn x h Q') → acc.length + xs.length ≤ big → Q (acc ++ xs.filterMap f) h → cmpW chk turn xs acc h Q
  | [], acc, _, _, q => cmpW_nil hc (by rw [List.filterMap_nil, List.append_nil] at q; exact q)
  | x :: xs, acc, ht, hl, q => by
    refine cmpW_cons hc (ht x (by simp) _ ?_)
    simp only [List.length_cons] at hl
    rw [List.filterMap_cons] at q
    cases e : f x with
    | none =>
      rw [e] at q
      exact cmpW_fm f hc xs acc (fun y hy => ht y (by simp [hy])) (by omega) q
    | some v =>
      rw [e] at q
      refine ⟨by omega, cmpW_fm f hc xs (acc ++ [v]) (fun y hy => ht y (by simp [hy])) (by simp only [List.length_append, List.length_cons, List.length_nil]; omega) ?_⟩
      rw [List.append_assoc]
      exact q
theorem cmpW_d {chk : Hp → Prop} {turn : V → Hp → (Option V → Hp → Prop) → Prop} {h : Hp} {Q : List V → Hp → Prop} (g : D → D) (hc : chk h) (ts : List D) (ht : ∀ x ∈ ts, ∀ Q', Q' (some (.d (g x))) h → turn (.d x) h Q') (hl : ts.length ≤ big) (q : Q ((ts.map g).map V.d) h) :
    cmpW chk turn (ts.map V.d) [] h Q := by
  refine cmpW_map (fun v => match v with | .d x => .d (g x) | v => v) hc _ _ (fun x hx => ?_) (by rw [List.length_map]; simpa using hl) ?_
  · obtain ⟨d, hd, rfl⟩ := List.mem_map.mp hx
    exact ht d hd
  · rw [List.nil_append, List.map_map]
    rw [List.map_map] at q
    exact q
theorem cmpW_fd {chk : Hp → Prop} {turn : V → Hp → (Option V → Hp → Prop) → Prop} {h : Hp} {Q : List V → Hp → Prop} (g : D → Option D) (hc : chk h) (ts : List D) (ht : ∀ x ∈ ts, ∀ Q', Q' ((g x).map V.d) h → turn (.d x) h Q') (hl : ts.length ≤ big) (q : Q ((ts.filterMap g).map V.d) h) :
    cmpW chk turn (ts.map V.d) [] h Q := by
  refine cmpW_fm (fun v => match v with | .d x => (g x).map V.d | v => none) hc _ _ (fun x hx => ?_) (by rw [List.length_map]; simpa using hl) ?_
  · obtain ⟨d, hd, rfl⟩ := List.mem_map.mp hx
    exact ht d hd
  · rw [List.nil_append, List.filterMap_map]
    rw [List.map_filterMap] at q
    exact q
theorem zipD_mem : ∀ {xs ys : List D} {v : V}, v ∈ zipD xs ys → ∃ a b, a ∈ xs ∧ b ∈ ys ∧ v = .d (.tuple [a, b])
  | [], _, v, h => by cases h
  | _ :: _, [], v, h => by cases h
  | x :: xs, y :: ys, v, h => by
    rcases List.mem_cons.mp h with rfl | h
    · exact ⟨x, y, by simp, by simp, rfl⟩
    · obtain ⟨a, b, h1, h2, e⟩ := zipD_mem h
      exact ⟨a, b, by simp [h1], by simp [h2], e⟩
theorem zipD_le : ∀ (xs ys : List D), (zipD xs ys).length ≤ xs.length
  | [], _ => Nat.le_refl _
  | _ :: _, [] => Nat.zero_le _
  | _ :: xs, _ :: ys => Nat.succ_le_succ (zipD_le xs ys)
theorem cut_lo {α : Type} (ts : List α) (k : Nat) : cutD ts (some (k : Int)) none = ts.drop k := by
  unfold cutD
  rw [HT.sIx_nat, HT.sIx_none]
  rcases Nat.le_total k ts.length with h | h
  · rw [Nat.min_eq_left h]
    exact List.take_of_length_le (by rw [List.length_drop]; exact Nat.le_refl _)
  · rw [Nat.min_eq_right h, List.drop_length, List.drop_of_length_le h]
    simp
theorem cut_hi {α : Type} (ts : List α) (k : Nat) : cutD ts none (some (k : Int)) = ts.take k := by
  unfold cutD
  rw [HT.sIx_nat, HT.sIx_none, List.drop_zero, Nat.sub_zero]
  rcases Nat.le_total k ts.length with h | h
  · rw [Nat.min_eq_left h]
  · rw [Nat.min_eq_right h, List.take_length, List.take_of_length_le h]
theorem allD_map' (ds : List D) : allD (ds.map V.d) = some ds := by
  induction ds with
  | nil => rfl
  | cons d ds ih => show (allD (ds.map V.d)).map (d :: ·) = _; rw [ih]; rfl
theorem mkTup_d (ds : List D) : mkTup (ds.map V.d) = .d (.tuple ds) := by unfold mkTup; rw [allD_map']
theorem mkL_d {ds : List D} {h : Hp} {P : Pv} (q : P (.d (.list ds)) h) : mkL false (ds.map V.d) h P := by
  show optP (allD (ds.map V.d)) _
  rw [allD_map']
  exact q
theorem asInts_of (ns : List Int) : asInts (ns.map PyData.int) = some ns := by
  induction ns with
  | nil => rfl
  | cons d ds ih => show (asInts (ds.map PyData.int)).map (d :: ·) = _; rw [ih]; rfl
theorem asBools_of (ns : List Bool) : asBools (ns.map PyData.bool) = some ns := by
  induction ns with
  | nil => rfl
  | cons d ds ih => show (asBools (ds.map PyData.bool)).map (d :: ·) = _; rw [ih]; rfl
/-! ### calls -/
section
variable {FT : List FnI} {n g : Nat} {fn : FnI} {h : Hp} {P : Pv} {X : Px}
theorem callN_iso {args : List V} {h0 : Hp} (e : FT[g]? = some fn) (hm : fn.md = 0) (hl : args.length = fn.np) (ha : args.all argOk = true) (hn : (cellsOf args).Nodup) (hi : isoIn h (cellsOf args) = some h0)
    (hb : runB (callN FT n) fn (renum 0 args) h0 (fun v h1 => isoOut h (cellsOf args) v h1 P) (fun v h1 => isoOut h (cellsOf args) v h1 X)) : callN FT (n + 1) g args h P X := by
  show optP FT[g]? _
  rw [e]
  refine ⟨hl, ?_⟩
  rw [hm]
  refine ⟨ha, hn, ?_⟩
  rw [hi]
  exact hb
/-- the arguments are data -/
theorem callN_d {ds : List D} (e : FT[g]? = some fn) (hm : fn.md = 0) (hl : ds.length = fn.np)
    (hb : runB (callN FT n) fn (ds.map V.d) [] (fun v h1 => isoOut h [] v h1 P) (fun v h1 => isoOut h [] v h1 X)) : callN FT (n + 1) g (ds.map V.d) h P X := by
  have c : cellsOf (ds.map V.d) = [] := by
    clear hl hb
    induction ds with
    | nil => rfl
    | cons d ds ih => exact ih
  have r : ∀ k, renum k (ds.map V.d) = ds.map V.d := by
    clear hl hb c
    induction ds with
    | nil => intro k; rfl
    | cons d ds ih => intro k; show V.d d :: renum k (ds.map V.d) = _; rw [ih]; rfl
  refine callN_iso e hm (by rw [List.length_map]; exact hl) ?_ (by rw [c]; exact List.nodup_nil) (by rw [c]; rfl) (by rw [c, r]; exact hb)
  rw [List.all_eq_true]
  intro v hv
  obtain ⟨d, _, rfl⟩ := List.mem_map.mp hv
  rfl
/-- the first argument is a cell with a list, the others are data -/
theorem callN_c {ds : List D} {k : Nat} {xs : List D} (e : FT[g]? = some fn) (hm : fn.md = 0) (hl : ds.length + 1 = fn.np) (hk : h[k]? = some (.lst xs))
    (hb : runB (callN FT n) fn (.cell 0 :: ds.map V.d) [.lst xs] (fun v h1 => isoOut h [k] v h1 P) (fun v h1 => isoOut h [k] v h1 X)) : callN FT (n + 1) g (.cell k :: ds.map V.d) h P X := by
  have c : cellsOf (ds.map V.d) = [] := by
    clear hl hb
    induction ds with
    | nil => rfl
    | cons d ds ih => exact ih
  have r : ∀ k, renum k (ds.map V.d) = ds.map V.d := by
    clear hl hb c
    induction ds with
    | nil => intro k; rfl
    | cons d ds ih => intro k; show V.d d :: renum k (ds.map V.d) = _; rw [ih]; rfl
  have c2 : cellsOf (V.cell k :: ds.map V.d) = [k] := by show k :: cellsOf (ds.map V.d) = _; rw [c]
  refine callN_iso e hm (by show (ds.map V.d).length + 1 = _; rw [List.length_map]; exact hl) ?_ (by rw [c2]; simp) (h0 := [.lst xs]) ?_ ?_
  · show (true && (ds.map V.d).all argOk) = true
    rw [Bool.true_and, List.all_eq_true]
    intro v hv
    obtain ⟨d, _, rfl⟩ := List.mem_map.mp hv
    rfl
  · rw [c2]
    unfold isoIn
    simp only [hk]
    rfl
  · rw [c2]
    show runB (callN FT n) fn (V.cell 0 :: renum 1 (ds.map V.d)) [.lst xs] _ _
    rw [r]
    exact hb
end
/-! ### items -/
theorem atI_nn {α : Type} {xs : List α} {v : Int} (h0 : 0 ≤ v) (h1 : v < xs.length) : ∃ x, xs[v.toNat]? = some x ∧ L2.atI xs v = some x := by
  have hl : v.toNat < xs.length := by omega
  refine ⟨xs[v.toNat], List.getElem?_eq_getElem hl, ?_⟩
  unfold L2.atI L2.ixN
  rw [if_pos h0, if_pos h1]
  exact List.getElem?_eq_getElem hl
theorem optP_at {α : Type} {xs : List α} {v : Int} {Q : α → Prop} (h0 : 0 ≤ v) (h1 : v < xs.length) (q : ∀ x ∈ xs, Q x) : optP (L2.atI xs v) Q := by
  obtain ⟨x, e1, e2⟩ := atI_nn h0 h1
  rw [e2]
  exact q x (List.mem_of_getElem? e1)
theorem optP_ix {α : Type} {xs : List α} {v : Int} {Q : α → Prop} (h0 : 0 ≤ v) (h1 : v < xs.length) (q : ∀ x, xs[v.toNat]? = some x → Q x) : optP (L2.atI xs v) Q := by
  obtain ⟨x, e1, e2⟩ := atI_nn h0 h1
  rw [e2]
  exact q x e1
theorem cut_len {α : Type} (xs : List α) (lo hi : Option Int) : (cutD xs lo hi).length ≤ xs.length := by
  unfold cutD
  rw [List.length_take, List.length_drop]
  omega
theorem cut_mem {α : Type} {xs : List α} {lo hi : Option Int} {x : α} (h : x ∈ cutD xs lo hi) : x ∈ xs := List.mem_of_mem_drop (List.mem_of_mem_take h)
theorem ranI_mem : ∀ {n : Nat} {lo : Int} {x : D}, x ∈ ranI lo n → ∃ i, x = .int i ∧ lo ≤ i ∧ i < lo + n
  | 0, lo, x, h => by cases h
  | n + 1, lo, x, h => by
    rcases List.mem_cons.mp h with rfl | h
    · exact ⟨lo, rfl, by omega, by omega⟩
    · obtain ⟨i, e, h1, h2⟩ := ranI_mem h
      exact ⟨i, e, by omega, by omega⟩
theorem ranI_length : ∀ (lo : Int) (n : Nat), (ranI lo n).length = n
  | _, 0 => rfl
  | lo, n + 1 => by show (ranI (lo + 1) n).length + 1 = n + 1; rw [ranI_length]
theorem enumD_mem : ∀ {xs : List D} {k : Int} {v : V}, v ∈ enumD k xs → ∃ i x, v = .d (.tuple [.int i, x]) ∧ x ∈ xs ∧ k ≤ i ∧ i < k + xs.length
  | [], k, v, h => by cases h
  | x :: xs, k, v, h => by
    rcases List.mem_cons.mp h with rfl | h
    · exact ⟨k, x, rfl, by simp, by omega, by simp only [List.length_cons]; omega⟩
    · obtain ⟨i, y, e, h1, h2, h3⟩ := enumD_mem h
      exact ⟨i, y, e, by simp [h1], by omega, by simp only [List.length_cons]; omega⟩
/-! ### numbers -/
theorem lt4000 {i : Int} (h : i.natAbs < 2 ^ 250) : i.natAbs < 2 ^ 4000 := Nat.lt_of_lt_of_le h (Nat.pow_le_pow_right (by omega) (by omega))
theorem ilt4000 {i : Int} (h : i < 2 ^ 250) : i < 2 ^ 4000 := by
  have e : ((2 : Int) ^ 4000) = ((2 ^ 4000 : Nat) : Int) := by norm_cast
  have e2 : ((2 : Int) ^ 250) = ((2 ^ 250 : Nat) : Int) := by norm_cast
  have : (2 : Nat) ^ 250 ≤ 2 ^ 4000 := Nat.pow_le_pow_right (by omega) (by omega)
  rw [e]
  rw [e2] at h
  omega
theorem and_mod {i j : Int} {Q : D → Prop} (hj : 0 < j) (h : ∀ s, 0 ≤ s → s < j → Q (.int s)) : 0 < j ∧ Q (.int (i % j)) := ⟨hj, h _ (Int.emod_nonneg _ (by omega)) (Int.emod_lt_of_pos _ hj)⟩
theorem and_div {i j : Int} {Q : D → Prop} (hj : 0 < j) (hj2 : j < 2 ^ 250) (h : ∀ s, s = i / j → Q (.int s)) : (0 < j ∧ j < 2 ^ 4000) ∧ Q (.int (i / j)) := ⟨⟨hj, ilt4000 hj2⟩, h _ rfl⟩
theorem and_int {C : Prop} {x : Int} {Q : D → Prop} (hc : C) (h : ∀ s, s = x → Q (.int s)) : C ∧ Q (.int x) := ⟨hc, h _ rfl⟩
theorem okMul_l {i j : Int} (h : i.natAbs < 2 ^ 64) : okMul i j := .inl h
theorem okMul_r {i j : Int} (h : j.natAbs < 2 ^ 64) : okMul i j := .inr (.inl h)
theorem okMul_b {i j : Int} (h : i.natAbs < 2 ^ 250) (h' : j.natAbs < 2 ^ 250) : okMul i j := .inr (.inr (.inl ⟨lt4000 h, lt4000 h'⟩))
theorem okMul_h {i j : Int} (h : hugeOk i) (h' : j.natAbs < 2 ^ 250) : okMul i j := .inr (.inr (.inr ⟨h, lt4000 h'⟩))
end Hb

/-! SHP: data that can be compared. -/
namespace Hb
open PySem
set_option autoImplicit false
def tupI (w : List Int) : D := .tuple (w.map PyData.int)
/-! ### data that can be compared -/
theorem canLay_ints : ∀ w : List Int, PyData.canLayAll0 (w.map PyData.int) = true
  | [] => rfl
  | _ :: w => by show (true && PyData.canLayAll0 (w.map PyData.int)) = true; rw [canLay_ints w]; rfl
theorem depth_ints : ∀ w : List Int, PyData.depthAll (w.map PyData.int) ≤ 1
  | [] => Nat.le_of_ble_eq_true rfl
  | a :: w => by
    have := depth_ints w
    show max (PyData.depth (.int a)) (PyData.depthAll (w.map PyData.int)) ≤ 1
    have e : PyData.depth (.int a) ≤ 1 := Nat.le_of_ble_eq_true rfl
    omega
theorem shp_tupI (w : List Int) : shp (tupI w) := by
  show (PyData.canLayAll0 (w.map PyData.int) && decide (PyData.depthAll (w.map PyData.int) + 1 ≤ 64)) = true
  rw [canLay_ints, decide_eq_true (by have := depth_ints w; omega)]
  rfl
theorem canLay_all {xs : List D} (h : ∀ x ∈ xs, PyData.canLay0 x = true) : PyData.canLayAll0 xs = true := by
  induction xs with
  | nil => rfl
  | cons x xs ih =>
    show (PyData.canLay0 x && PyData.canLayAll0 xs) = true
    rw [h x (by simp), ih fun y hy => h y (by simp [hy])]
    rfl
theorem depth_all {xs : List D} {k : Nat} (h : ∀ x ∈ xs, PyData.depth x ≤ k) : PyData.depthAll xs ≤ k := by
  induction xs with
  | nil => exact Nat.zero_le _
  | cons x xs ih =>
    show max (PyData.depth x) (PyData.depthAll xs) ≤ k
    exact Nat.max_le.mpr ⟨h x (by simp), ih fun y hy => h y (by simp [hy])⟩
/-- small depth -/
def shk (k : Nat) (x : D) : Prop := PyData.canLay0 x = true ∧ PyData.depth x ≤ k
theorem shk.shp {k : Nat} {x : D} (h : shk k x) (hk : k ≤ 64) : shp x := by
  show (PyData.canLay0 x && decide (PyData.depth x ≤ 64)) = true
  rw [h.1, decide_eq_true (Nat.le_trans h.2 hk)]
  rfl
theorem shk.mono {k k' : Nat} {x : D} (h : shk k x) (hk : k ≤ k') : shk k' x := ⟨h.1, Nat.le_trans h.2 hk⟩
theorem shk_int (i : Int) : shk 1 (.int i) := ⟨rfl, Nat.le_of_ble_eq_true rfl⟩
theorem shk_tup {k : Nat} {xs : List D} (h : ∀ x ∈ xs, shk k x) : shk (k + 1) (.tuple xs) := ⟨canLay_all fun x hx => (h x hx).1, by show PyData.depthAll xs + 1 ≤ k + 1; exact Nat.succ_le_succ (depth_all fun x hx => (h x hx).2)⟩
theorem shk_lst {k : Nat} {xs : List D} (h : ∀ x ∈ xs, shk k x) : shk (k + 1) (.list xs) := ⟨canLay_all fun x hx => (h x hx).1, by show PyData.depthAll xs + 1 ≤ k + 1; exact Nat.succ_le_succ (depth_all fun x hx => (h x hx).2)⟩
theorem shk_tupI (w : List Int) : shk 2 (tupI w) := shk_tup fun x hx => by
  obtain ⟨i, _, rfl⟩ := List.mem_map.mp hx
  exact shk_int i
theorem shk_prD (p : Int × Int) : shk 2 (prD p) := shk_tupI [p.1, p.2]
theorem shk_prs (T : List (Int × Int)) : shk 3 (.tuple (T.map prD)) := shk_tup fun x hx => by
  obtain ⟨p, _, rfl⟩ := List.mem_map.mp hx
  exact shk_prD p
theorem eqv_int (i j : Int) : PyData.eqv (.int i) (.int j) = decide (i = j) := by
  show (i == j) = decide (i = j)
  by_cases h : i = j
  · rw [decide_eq_true h]; exact beq_iff_eq.mpr h
  · rw [decide_eq_false h]; exact beq_eq_false_iff_ne.mpr h
theorem eqv_ints : ∀ u w : List Int, PyData.eqvAll (u.map PyData.int) (w.map PyData.int) = decide (u = w)
  | [], [] => rfl
  | [], _ :: _ => rfl
  | _ :: _, [] => rfl
  | a :: u, b :: w => by
    show (PyData.eqv (.int a) (.int b) && PyData.eqvAll (u.map PyData.int) (w.map PyData.int)) = _
    rw [eqv_int, eqv_ints u w]
    by_cases h1 : a = b
    · subst h1
      by_cases h2 : u = w
      · subst h2; simp
      · rw [decide_eq_false h2, decide_eq_false (fun z => h2 (List.cons.inj z).2)]; simp
    · rw [decide_eq_false h1, decide_eq_false (fun z => h1 (List.cons.inj z).1)]; rfl
theorem eqv_tupI (u w : List Int) : PyData.eqv (tupI u) (tupI w) = decide (u = w) := eqv_ints u w
theorem eqv_prD (p q : Int × Int) : PyData.eqv (prD p) (prD q) = decide (p = q) := by
  have := eqv_tupI [p.1, p.2] [q.1, q.2]
  show PyData.eqv (tupI [p.1, p.2]) (tupI [q.1, q.2]) = _
  rw [this]
  by_cases h : p = q
  · subst h; simp
  · rw [decide_eq_false h, decide_eq_false]
    intro z
    simp at z
    exact h (Prod.ext z.1 z.2)
theorem any_int (w : List Int) (p : Int) : (w.map PyData.int).any (fun z => PyData.eqv z (.int p)) = decide (p ∈ w) := by
  induction w with
  | nil => rfl
  | cons a w ih =>
    rw [List.map_cons, List.any_cons, ih, eqv_int]
    by_cases h1 : a = p
    · subst h1; simp
    · rw [decide_eq_false h1, Bool.false_or]
      by_cases h2 : p ∈ w
      · rw [decide_eq_true h2, decide_eq_true (by simp [h2])]
      · rw [decide_eq_false h2, decide_eq_false (by simp [h2]; exact fun z => h1 z.symm)]
theorem any_pr (T : List (Int × Int)) (p : Int × Int) : (T.map prD).any (fun z => PyData.eqv z (prD p)) = decide (p ∈ T) := by
  induction T with
  | nil => rfl
  | cons a w ih =>
    rw [List.map_cons, List.any_cons, ih, eqv_prD]
    by_cases h1 : a = p
    · subst h1; simp
    · rw [decide_eq_false h1, Bool.false_or]
      by_cases h2 : p ∈ w
      · rw [decide_eq_true h2, decide_eq_true (by simp [h2])]
      · rw [decide_eq_false h2, decide_eq_false (by simp [h2]; exact fun z => h1 z.symm)]
end Hb

/-! AUTO: steps. -/
namespace Hb
open PySem
section
variable {chk : Hp → Prop} {body : V → Env → Hp → Nx → Kk → Prop} {n : Nx} {k : Kk}
/-- a loop over what a list of things becomes -/
theorem forW_m {α : Type} (f : α → V) (I : List α → Env → Hp → Prop) : ∀ (xs : List α) (env : Env) (h : Hp), I xs env h → (∀ l e h, I l e h → chk h) →
    (∀ e h x l (nx : Nx), I (x :: l) e h → (∀ e' h', I l e' h' → nx e' h') → body (f x) e h nx ⟨k.rt, n, nx, k.xe⟩) →
    (∀ e h, I [] e h → n e h) → forW chk body (xs.map f) env h n k
  | [], env, h, h0, hc, _, fin => forW_nil (hc _ _ _ h0) (fin env h h0)
  | x :: xs, env, h, h0, hc, st, fin => forW_cons (hc _ _ _ h0) (st env h x xs _ h0 fun e' h' hi => forW_m f I xs e' h' hi hc st fin)
/-- a loop over numbers -/
theorem forW_ran (lo : Int) (I : Nat → Env → Hp → Prop) : ∀ (m j : Nat) (env : Env) (h : Hp), I j env h → (∀ i e h, I i e h → chk h) →
    (∀ i e h (nx : Nx), I i e h → j ≤ i → i < j + m → (∀ e' h', I (i + 1) e' h' → nx e' h') → body (.d (.int (lo + i))) e h nx ⟨k.rt, n, nx, k.xe⟩) →
    (∀ e h, I (j + m) e h → n e h) → forW chk body ((ranI (lo + j) m).map V.d) env h n k
  | 0, j, env, h, h0, hc, _, fin => forW_nil (hc _ _ _ h0) (fin env h h0)
  | m + 1, j, env, h, h0, hc, st, fin => by
    refine forW_cons (hc _ _ _ h0) (st j env h _ h0 (Nat.le_refl _) (by omega) fun e' h' hi => ?_)
    have e : lo + (j : Int) + 1 = lo + ((j + 1 : Nat) : Int) := by omega
    show forW chk body ((ranI (lo + j + 1) m).map V.d) e' h' n k
    rw [e]
    exact forW_ran lo I m (j + 1) e' h' hi hc (fun i e h nx hi h1 h2 q => st i e h nx hi (by omega) (by omega) q) fun e h hi => fin e h (by rw [show j + (m + 1) = j + 1 + m by omega]; exact hi)
theorem forW_r0 (I : Nat → Env → Hp → Prop) (m : Nat) (env : Env) (h : Hp) (h0 : I 0 env h) (hc : ∀ i e h, I i e h → chk h)
    (st : ∀ i e h (nx : Nx), I i e h → i < m → (∀ e' h', I (i + 1) e' h' → nx e' h') → body (.d (.int i)) e h nx ⟨k.rt, n, nx, k.xe⟩)
    (fin : ∀ e h, I m e h → n e h) : forW chk body ((ranI 0 m).map V.d) env h n k :=
  forW_ran 0 I m 0 env h h0 hc (fun i e h nx hi _ hm q => by
    have := st i e h nx hi (by omega) q
    rw [show (0 : Int) + (i : Int) = i by omega]
    exact this) fun e h hi => fin e h (by rw [Nat.zero_add] at hi; exact hi)
end
section
variable {chk : Hp → Prop} {turn : V → Hp → (Option V → Hp → Prop) → Prop} {h : Hp} {Q : List V → Hp → Prop}
theorem cmpW_fdA (g : D → Option D) (hc : chk h) (ts : List D) (acc : List V) (ht : ∀ x ∈ ts, ∀ Q', Q' ((g x).map V.d) h → turn (.d x) h Q') (hl : acc.length + ts.length ≤ big) (q : Q (acc ++ (ts.filterMap g).map V.d) h) :
    cmpW chk turn (ts.map V.d) acc h Q := by
  refine cmpW_fm (fun v => match v with | .d x => (g x).map V.d | v => none) hc _ _ (fun x hx => ?_) (by rw [List.length_map]; exact hl) ?_
  · obtain ⟨d, hd, rfl⟩ := List.mem_map.mp hx
    exact ht d hd
  · rw [List.filterMap_map]
    rw [List.map_filterMap] at q
    exact q
/-- the same over what a list of things becomes -/
theorem cmpW_mm {α β : Type} (f : α → D) (r : β → D) (g : α → Option β) (hc : chk h) (ts : List α) (ht : ∀ x ∈ ts, ∀ Q', Q' ((g x).map fun b => V.d (r b)) h → turn (.d (f x)) h Q') (hl : ts.length ≤ big) (q : Q (((ts.filterMap g).map r).map V.d) h) :
    cmpW chk turn ((ts.map f).map V.d) [] h Q := by
  rw [List.map_map] at q
  have key : ∀ (ts : List α) (acc : List V), (∀ x ∈ ts, ∀ Q', Q' ((g x).map fun b => V.d (r b)) h → turn (.d (f x)) h Q') → acc.length + ts.length ≤ big → Q (acc ++ (ts.filterMap g).map fun b => V.d (r b)) h → cmpW chk turn ((ts.map f).map V.d) acc h Q := by
    intro ts
    induction ts with
    | nil => intro acc _ _ q; exact cmpW_nil hc (by rw [List.filterMap_nil, List.map_nil, List.append_nil] at q; exact q)
    | cons x ts ih =>
      intro acc ht hl q
      simp only [List.length_cons] at hl
      refine cmpW_cons hc (ht x (by simp) _ ?_)
      rw [List.filterMap_cons] at q
      cases e : g x with
      | none =>
        rw [e] at q
        exact ih acc (fun y hy => ht y (by simp [hy])) (by omega) q
      | some v =>
        rw [e] at q
        refine ⟨by omega, ih (acc ++ [V.d (r v)]) (fun y hy => ht y (by simp [hy])) (by simp only [List.length_append, List.length_cons, List.length_nil]; omega) ?_⟩
        rw [List.append_assoc]
        exact q
  exact key ts [] ht (by simpa using hl) q
theorem cmpW_mp {α β : Type} (f : α → D) (r : β → D) (g : α → β) (hc : chk h) (ts : List α) (ht : ∀ x ∈ ts, ∀ Q', Q' (some (V.d (r (g x)))) h → turn (.d (f x)) h Q') (hl : ts.length ≤ big) (q : Q (((ts.map g).map r).map V.d) h) :
    cmpW chk turn ((ts.map f).map V.d) [] h Q := by
  refine cmpW_mm f r (fun x => some (g x)) hc ts ht hl ?_
  rw [show ts.filterMap (fun x => some (g x)) = ts.map g from by rw [← List.filterMap_eq_map]; rfl]
  exact q
end
theorem erase_perm {α : Type} : ∀ (l : List α) (i : Nat) (h : i < l.length), (l[i] :: l.eraseIdx i).Perm l
  | [], i, h => absurd h (Nat.not_lt_zero _)
  | a :: l, 0, _ => List.Perm.refl _
  | a :: l, i + 1, h => (List.Perm.swap _ _ _).trans ((erase_perm l i (Nat.lt_of_succ_lt_succ h)).cons a)
/-- two fors -/
theorem cmpW2_fm {α : Type} {chk : Hp → Prop} {turn : V → List V → Hp → (List V → Hp → Prop) → Prop} {h : Hp} {Q : List V → Hp → Prop} (f : α → V) (g : α → List V) (hc : chk h) : ∀ (ts : List α) (acc : List V),
    (∀ x ∈ ts, ∀ (acc : List V) Q', acc.length + (g x).length ≤ big → Q' (acc ++ g x) h → turn (f x) acc h Q') → acc.length + (ts.flatMap g).length ≤ big → Q (acc ++ ts.flatMap g) h → cmpW2 chk turn (ts.map f) acc h Q
  | [], acc, _, _, q => cmpW2_nil hc (by rw [List.flatMap_nil, List.append_nil] at q; exact q)
  | x :: ts, acc, ht, hl, q => by
    rw [List.flatMap_cons, List.length_append] at hl
    refine cmpW2_cons hc (ht x (by simp) acc _ (by omega) ?_)
    refine cmpW2_fm f g hc ts (acc ++ g x) (fun y hy => ht y (by simp [hy])) (by rw [List.length_append]; omega) ?_
    rw [List.append_assoc]
    rw [List.flatMap_cons] at q
    exact q
/-- the inner for as it stands: its items are what is made -/
theorem cmpW_id {chk : Hp → Prop} {turn : V → Hp → (Option V → Hp → Prop) → Prop} {h : Hp} {Q : List V → Hp → Prop} (hc : chk h) : ∀ (ts acc : List V), (∀ x ∈ ts, ∀ Q' : Option V → Hp → Prop, Q' (some x) h → turn x h Q') → acc.length + ts.length ≤ big → Q (acc ++ ts) h → cmpW chk turn ts acc h Q :=
  fun ts acc ht hl q => cmpW_map (fun v => v) hc ts acc ht hl (by rw [List.map_id']; exact q)
theorem mkL_c {ds : List D} {h : Hp} {P : Pv} (q : P (.cell h.length) (h ++ [.lst ds])) : mkL true (ds.map V.d) h P := by
  show P (.cell h.length) (h ++ [mkOb (ds.map V.d)])
  unfold mkOb
  rw [allD_map']
  exact q
theorem eqv_lnil (xs : List D) : PyData.eqv (.list xs) (.list []) = xs.isEmpty := by cases xs <;> rfl
theorem eqv_tnil (xs : List D) : PyData.eqv (.tuple xs) (.tuple []) = xs.isEmpty := by cases xs <;> rfl
end Hb

/-! MK: what the laws make their input by. -/
namespace Hb
open PySem
set_option autoImplicit false
/-- a pouch -/
def Pch (t : Nat) (xs : List D) : Prop := ∃ a b c : Int, xs = [.int a, .int b, .int c] ∧ 0 ≤ a ∧ 0 ≤ b ∧ b < 2 ^ 200 ∧ 0 ≤ c ∧ c ≤ t
theorem Pch.mono {t t' : Nat} {xs : List D} (h : Pch t xs) (ht : t ≤ t') : Pch t' xs := by
  obtain ⟨a, b, c, e, h1, h2, h3, h4, h5⟩ := h
  exact ⟨a, b, c, e, h1, h2, h3, h4, by omega⟩
theorem abs_lt {i : Int} {k : Nat} (h0 : 0 ≤ i) (h : i < ((2 ^ k : Nat) : Int)) : i.natAbs < 2 ^ k := by omega
theorem two_cast (k : Nat) : ((2 : Int) ^ k) = ((2 ^ k : Nat) : Int) := by norm_cast
theorem w_reach {FT : List FnI} {g : Nat} (c0 : C__law_reach_k01 FT g) {n : Nat} (hn : 1 ≤ n) {h : Hp} {k t : Nat} {m : Int} {xs : List D} {P : Pv} {X : Px} (hk : h[k]? = some (.lst xs)) (hp : Pch t xs) (ht : t < 2 ^ 60) (hm : 0 < m) (hm2 : m < 2 ^ 60)
    (q : ∀ v ys, 0 ≤ v → v < m → Pch (t + 1) ys → P (.d (.int v)) (h.set k (.lst ys))) : callN FT n g [.cell k, .d (.int m)] h P X := by
  obtain ⟨n, rfl⟩ : ∃ m, n = m + 1 := ⟨n - 1, by omega⟩
  obtain ⟨a, b, c, rfl, ha, hb, hb2, hc, hc2⟩ := hp
  refine callN_c (ds := [.int m]) (fn := ix__law_reach_k01) c0 rfl rfl hk ?_
  conv => whnf
  by_cases h0 : 0 < a
  · rw [decide_eq_true h0]
    conv => whnf
    refine ⟨hm, ?_⟩
    have e0 := Int.emod_nonneg a (show m ≠ 0 by omega)
    have e1 := Int.emod_lt_of_pos a hm
    generalize a % m = s at e0 e1 ⊢
    conv => whnf
    refine ⟨⟨hm, ilt4000 (by omega)⟩, ?_⟩
    conv => whnf
    exact q s _ e0 e1 ⟨a / m, b, c, rfl, Int.ediv_nonneg ha (by omega), hb, hb2, hc, by omega⟩
  · rw [decide_eq_false h0]
    conv => whnf
    refine ⟨okMul_l (by decide), ?_⟩
    conv => whnf
    refine ⟨⟨by decide, by decide, lt4000 (by omega)⟩, ?_⟩
    conv => whnf
    refine ⟨⟨by decide, by decide, lt4000 (by decide)⟩, ?_⟩
    conv => whnf
    have e2 : (0 : Int) < 10 ^ Int.toNat 39 + 3 := by decide
    refine ⟨e2, ?_⟩
    have e0 := Int.emod_nonneg ((b + 32452867 * (c + 1)) ^ Int.toNat 5) (Int.ne_of_gt e2)
    have e1 := Int.emod_lt_of_pos ((b + 32452867 * (c + 1)) ^ Int.toNat 5) e2
    generalize (b + 32452867 * (c + 1)) ^ Int.toNat 5 % (10 ^ Int.toNat 39 + 3) = s at e0 e1 ⊢
    have e3 : s < 2 ^ 200 := Int.lt_of_lt_of_le e1 (by decide)
    clear e1 e2
    conv => whnf
    refine ⟨okMul_l (by decide), ?_⟩
    conv => whnf
    refine ⟨okMul_b (by omega) (by omega), ?_⟩
    conv => whnf
    refine ⟨⟨by decide, by decide, lt4000 ?_⟩, ?_⟩
    · have h1 : 15485867 * (c + 1) * (c + 1) ≤ 15485867 * 2 ^ 61 * 2 ^ 61 := by
        have g1 : 15485867 * (c + 1) ≤ 15485867 * 2 ^ 61 := by omega
        exact Int.mul_le_mul g1 (by omega) (by omega) (by omega)
      have h2 : 0 ≤ 15485867 * (c + 1) * (c + 1) := Int.mul_nonneg (by omega) (by omega)
      omega
    conv => whnf
    refine ⟨⟨by decide, by decide, lt4000 (by decide)⟩, ?_⟩
    conv => whnf
    have e2 : (0 : Int) < 10 ^ Int.toNat 37 + 43 := by decide
    refine ⟨e2, ?_⟩
    have f0 := Int.emod_nonneg ((s + 15485867 * (c + 1) * (c + 1)) ^ Int.toNat 3) (Int.ne_of_gt e2)
    generalize (s + 15485867 * (c + 1) * (c + 1)) ^ Int.toNat 3 % (10 ^ Int.toNat 37 + 43) = r at f0 ⊢
    conv => whnf
    refine ⟨⟨by decide, ilt4000 (by decide)⟩, ?_⟩
    conv => whnf
    refine ⟨hm, ?_⟩
    have g0 := Int.emod_nonneg (r / 4096) (show m ≠ 0 by omega)
    have g1 := Int.emod_lt_of_pos (r / 4096) hm
    generalize r / 4096 % m = v at g0 g1 ⊢
    conv => whnf
    exact q v _ g0 g1 ⟨a, b, c + 1, rfl, ha, hb, hb2, by omega, by omega⟩
theorem w_pouch {FT : List FnI} {g : Nat} (c0 : C__law_pouch_k01 FT g) {n : Nat} (hn : 1 ≤ n) {h : Hp} {c k : Int} (hk : 0 ≤ k) (hk2 : k < 1000) {P : Pv} {X : Px} (q : ∀ xs, Pch 0 xs → P (.cell h.length) (h ++ [.lst xs])) : callN FT n g [.d (.int c), .d (.int k)] h P X := by
  obtain ⟨n, rfl⟩ : ∃ m, n = m + 1 := ⟨n - 1, by omega⟩
  refine callN_d (ds := [.int c, .int k]) (fn := ix__law_pouch_k01) c0 rfl rfl ?_
  conv => whnf
  refine ⟨⟨by decide, by decide, lt4000 (by decide)⟩, ?_⟩
  conv => whnf
  refine ⟨⟨by decide, by decide, lt4000 (by decide)⟩, ?_⟩
  conv => whnf
  have e2 : (0 : Int) < 10 ^ Int.toNat 41 + 49 := by decide
  refine ⟨e2, ?_⟩
  have e0 := Int.emod_nonneg c (Int.ne_of_gt e2)
  have e1 := Int.emod_lt_of_pos c e2
  generalize c % (10 ^ Int.toNat 41 + 49) = s at e0 e1 ⊢
  have e3 : s < 2 ^ 199 := Int.lt_of_lt_of_le e1 (by decide)
  conv => whnf
  refine ⟨okMul_l (by decide), ?_⟩
  conv => whnf
  refine ⟨Nat.le_of_ble_eq_true rfl, ?_⟩
  conv => whnf
  refine ⟨Nat.le_of_ble_eq_true rfl, ?_⟩
  conv => whnf
  refine ⟨rfl, ?_⟩
  refine q _ ⟨_, _, _, rfl, ?_, by omega, by omega, by omega, by omega⟩
  split <;> omega
/-! ### webs -/
/-- ties of a web of m points -/
def Ties (m : Int) (T : List (Int × Int)) : Prop := ∀ p ∈ T, 0 ≤ p.1 ∧ p.1 < p.2 ∧ p.2 < m
/-- all pairs, row by row -/
def rowP (m a : Int) : List (Int × Int) := (List.range (m - (a + 1)).toNat).map fun i => (a, a + 1 + (i : Nat))
def pairsP (m : Int) : Nat → Int → List (Int × Int)
  | 0, _ => []
  | k + 1, a => rowP m a ++ pairsP m k (a + 1)
def allP (m : Int) : List (Int × Int) := pairsP m m.toNat 0
theorem ranI_row (m a : Int) : ∀ (k : Nat) (lo : Int), (ranI lo k).map (fun b => PyData.tuple [.int a, b]) = ((List.range k).map fun i => (a, lo + (i : Nat))).map prD
  | 0, lo => rfl
  | k + 1, lo => by
    rw [List.range_succ_eq_map, List.map_cons, List.map_map, List.map_cons]
    show PyData.tuple [.int a, .int lo] :: (ranI (lo + 1) k).map (fun b => PyData.tuple [.int a, b]) = _
    rw [ranI_row m a k (lo + 1)]
    congr 1
    · show _ = PyData.tuple [.int a, .int (lo + ((0 : Nat) : Int))]
      rw [show lo + ((0 : Nat) : Int) = lo by omega]
    · rw [List.map_map, List.map_map]
      apply List.map_congr_left
      intro i _
      show prD (a, lo + 1 + (i : Nat)) = prD (a, lo + ((i + 1 : Nat) : Int))
      rw [show lo + 1 + (i : Nat) = lo + ((i + 1 : Nat) : Int) by omega]
theorem rowP_ok {m a : Int} (h0 : 0 ≤ a) {p : Int × Int} (h : p ∈ rowP m a) : p.1 = a ∧ a < p.2 ∧ p.2 < m := by
  unfold rowP at h
  obtain ⟨i, hi, rfl⟩ := List.mem_map.mp h
  have := List.mem_range.mp hi
  refine ⟨rfl, ?_, ?_⟩
  · show a < a + 1 + (i : Int); omega
  · show a + 1 + (i : Int) < m; omega
theorem pairsP_ok {m : Int} : ∀ {k : Nat} {a : Int}, 0 ≤ a → Ties m (pairsP m k a)
  | 0, _, _ => fun p hp => by cases hp
  | k + 1, a, h => fun p hp => by
    rcases List.mem_append.mp hp with hp | hp
    · obtain ⟨h1, h2, h3⟩ := rowP_ok h hp
      exact ⟨by omega, by omega, h3⟩
    · exact pairsP_ok (show 0 ≤ a + 1 by omega) p hp
theorem allP_ok (m : Int) : Ties m (allP m) := pairsP_ok (by omega)
theorem rowP_len (m a : Int) : (rowP m a).length = (m - (a + 1)).toNat := by unfold rowP; rw [List.length_map, List.length_range]
theorem pairsP_len {m : Int} (hm : m ≤ 30) : ∀ {k : Nat} {a : Int}, 0 ≤ a → (pairsP m k a).length ≤ 30 * k
  | 0, _, _ => Nat.le_refl _
  | k + 1, a, h => by
    show (rowP m a ++ pairsP m k (a + 1)).length ≤ _
    rw [List.length_append, rowP_len]
    have := pairsP_len hm (k := k) (show 0 ≤ a + 1 by omega)
    omega
/-- the law's pairs are all pairs -/
theorem w_pairs {FT : List FnI} {g : Nat} (c0 : C__law_pairs_k01 FT g) {n : Nat} (hn : 1 ≤ n) {h : Hp} {m : Int} (hm : 0 ≤ m) (hm2 : m ≤ 30) {P : Pv} {X : Px} (q : P (.d (.list ((allP m).map prD))) h) : callN FT n g [.d (.int m)] h P X := by
  obtain ⟨n, rfl⟩ : ∃ m, n = m + 1 := ⟨n - 1, by omega⟩
  refine callN_d (ds := [.int m]) (fn := ix__law_pairs_k01) c0 rfl rfl ?_
  conv => whnf
  refine ⟨by decide, ?_⟩
  conv => whnf
  refine ⟨by omega, ?_⟩
  conv => whnf
  refine forW_at (fun l e h' => ∃ (acc : List (Int × Int)) (k : Nat) (a : Int) (o2 o3 : Option V), l = (ranI a k).map V.d ∧ 0 ≤ a ∧ a + k = m ∧ acc ++ pairsP m k a = allP m ∧ h' = [.lst (acc.map prD)] ∧ e = [some (.d (.int m)), some (.cell 0), o2, o3]) _ _ _ ?_ (fun _ _ _ _ => trivial) ?_ ?_
  · exact ⟨[], m.toNat, 0, none, none, rfl, by omega, by omega, rfl, rfl, rfl⟩
  · rintro e h' x l nx ⟨acc, k, a, o2, o3, hl, a0, ak, ha, rfl, rfl⟩ hnx
    cases k with
    | zero => cases hl
    | succ k =>
      cases hl
      conv => whnf
      refine ⟨by omega, ?_⟩
      conv => whnf
      have hlen : acc.length + (rowP m a).length ≤ 900 := by
        have e1 := congrArg List.length ha
        rw [List.length_append] at e1
        have e2 : (allP m).length ≤ 900 := Nat.le_trans (pairsP_len hm2 (by omega)) (by omega)
        have e3 : (pairsP m (k + 1) a).length = (rowP m a).length + (pairsP m k (a + 1)).length := by show (rowP m a ++ _).length = _; rw [List.length_append]
        omega
      refine cmpW_d (fun b => .tuple [.int a, b]) trivial _ (fun b hb Q' qq => ?_) (by rw [ranI_length]; rw [rowP_len] at hlen; exact Nat.le_trans (show _ ≤ 900 by omega) (by decide)) ?_
      · conv => whnf
        refine ⟨Nat.le_of_ble_eq_true rfl, ?_⟩
        exact qq
      · rw [ranI_row m a]
        refine mkL_d ?_
        conv => whnf
        refine ⟨Nat.le_trans (show _ ≤ 900 by rw [List.length_map, List.length_map]; exact hlen) (by decide), ?_⟩
        refine hnx _ _ ⟨acc ++ rowP m a, k, a + 1, _, _, rfl, by omega, by omega, ?_, ?_, rfl⟩
        · rw [List.append_assoc]; exact ha
        · rw [List.map_append]; rfl
  · rintro e h' ⟨acc, k, a, o2, o3, hl, a0, ak, ha, rfl, rfl⟩
    cases k with
    | zero =>
      have ha : acc ++ [] = allP m := ha
      rw [List.append_nil] at ha
      subst ha
      exact q
    | succ k => cases hl
/-- a web as data -/
def webD (m : Int) (T : List (Int × Int)) : D := .tuple [.int m, .tuple (T.map prD)]
theorem w_mesh {FT : List FnI} {g : Nat} (c0 : C__law_mesh_k01 FT g) {n : Nat} (hn : 2 ≤ n) {h : Hp} {k t : Nat} {m : Int} {xs : List D} (hk : h[k]? = some (.lst xs)) (hp : Pch t xs) (ht : t + 2000 < 2 ^ 60) (hm : 0 ≤ m) (hm2 : m ≤ 30) {P : Pv} {X : Px}
    (q : ∀ T ys, Ties m T → T.length ≤ 900 → T.Sublist (allP m) → Pch (t + 1000) ys → P (.d (webD m T)) (h.set k (.lst ys))) : callN FT n g [.cell k, .d (.int m)] h P X := by
  obtain ⟨n, rfl⟩ : ∃ m, n = m + 1 := ⟨n - 1, by omega⟩
  obtain ⟨fr, fp, ef, er, ep⟩ := c0
  refine callN_c (ds := [.int m]) (fn := ix__law_mesh_k01 fr fp) ef rfl rfl hk ?_
  conv => whnf
  refine w_reach er (n := n) (by omega) (h := [.lst xs]) rfl hp (by omega) (by decide) (by decide) fun way ys w0 w1 hp => ?_
  conv => whnf
  refine w_reach er (n := n) (by omega) (h := [.lst ys]) rfl hp (by omega) (by decide) (by decide) fun odds ys o0 o1 hp => ?_
  conv => whnf
  refine ⟨by decide, ?_⟩
  conv => whnf
  refine w_pairs ep (n := n) (by omega) hm hm2 ?_
  have hL : (allP m).length ≤ 900 := Nat.le_trans (pairsP_len hm2 (by omega)) (by omega)
  conv => whnf
  refine forW_at (fun l e h' => ∃ (acc r : List (Int × Int)) (zs : List D) (a b c d : Option V), l = (r.map prD).map V.d ∧ h' = [.lst zs, .lst (acc.map prD)] ∧ Pch (t + 2 + (900 - r.length)) zs ∧ r.length ≤ 900 ∧ e = [some (.cell 0), some (.d (.int m)), some (.d (.int way)), some (.d (.int (1 + odds))), some (.cell 1), a, b, c, d] ∧ (acc ++ r).Sublist (allP m)) _ _ _ ?_ (fun _ _ _ _ => trivial) ?_ ?_
  · exact ⟨[], allP m, ys, none, none, none, none, rfl, rfl, hp.mono (by omega), hL, rfl, List.Sublist.refl _⟩
  · rintro e h' x l nx ⟨acc, r, zs, o1, o2, o3, o4, hl, rfl, hp, hl2, rfl, hs⟩ hnx
    cases r with
    | nil => cases hl
    | cons p r =>
      cases hl
      obtain ⟨a, b⟩ := p
      simp only [List.length_cons] at hl2 hp
      have hal : acc.length < big := by
        have := hs.length_le
        rw [List.length_append] at this
        exact Nat.lt_of_le_of_lt (show acc.length ≤ 900 by omega) (by decide)
      have hs1 : (acc ++ r).Sublist (allP m) := List.Sublist.trans (List.Sublist.append (List.Sublist.refl _) (List.sublist_cons_self _ _)) hs
      have hs2 : ((acc ++ [(a, b)]) ++ r).Sublist (allP m) := by rw [List.append_assoc]; exact hs
      conv => whnf
      refine ⟨rfl, ?_⟩
      conv => whnf
      refine ⟨rfl, ?_⟩
      conv => whnf
      refine w_reach er (n := n) (by omega) (h := [.lst zs, .lst (acc.map prD)]) rfl hp (by omega) (by decide) (by decide) fun dr ys d0 d1 hp => ?_
      have mn : 0 ≤ (if (4 : Int) < way then 4 else way) ∧ (if (4 : Int) < way then 4 else way) < 5 := by split <;> omega
      have hp2 : Pch (t + 2 + (900 - r.length)) ys := hp.mono (by omega)
      conv => whnf
      cases decide (b = a + 1) with
      | true =>
        conv => whnf
        refine ⟨Nat.le_of_ble_eq_true rfl, ?_⟩
        conv => whnf
        refine optP_at mn.1 mn.2 fun x hx => ?_
        have hb : ∃ c, x = .bool c := by
          simp only [List.mem_cons, List.not_mem_nil, or_false] at hx
          rcases hx with rfl | rfl | rfl | rfl | rfl <;> exact ⟨_, rfl⟩
        obtain ⟨c, rfl⟩ := hb
        cases c with
        | true =>
          conv => whnf
          refine ⟨Nat.le_of_ble_eq_true rfl, ?_⟩
          conv => whnf
          refine ⟨by rw [List.length_map]; exact hal, ?_⟩
          exact hnx _ _ ⟨acc ++ [(a, b)], r, ys, _, _, _, _, rfl, by rw [List.map_append]; rfl, hp2, by omega, rfl, hs2⟩
        | false => exact hnx _ _ ⟨acc, r, ys, _, _, _, _, rfl, rfl, hp2, by omega, rfl, hs1⟩
      | false =>
        conv => whnf
        refine ⟨Nat.le_of_ble_eq_true rfl, ?_⟩
        conv => whnf
        refine optP_at mn.1 mn.2 fun x hx => ?_
        have hb : ∃ c, x = .bool c := by
          simp only [List.mem_cons, List.not_mem_nil, or_false] at hx
          rcases hx with rfl | rfl | rfl | rfl | rfl <;> exact ⟨_, rfl⟩
        obtain ⟨c, rfl⟩ := hb
        cases c with
        | true =>
          conv => whnf
          refine ⟨Nat.le_of_ble_eq_true rfl, ?_⟩
          conv => whnf
          refine ⟨by rw [List.length_map]; exact hal, ?_⟩
          exact hnx _ _ ⟨acc ++ [(a, b)], r, ys, _, _, _, _, rfl, by rw [List.map_append]; rfl, hp2, by omega, rfl, hs2⟩
        | false => exact hnx _ _ ⟨acc, r, ys, _, _, _, _, rfl, rfl, hp2, by omega, rfl, hs1⟩
  · rintro e h' ⟨acc, r, zs, o1, o2, o3, o4, hl, rfl, hp, hl2, rfl, hs⟩
    cases r with
    | nil =>
      rw [List.append_nil] at hs
      conv => whnf
      refine ⟨Nat.le_of_ble_eq_true rfl, ?_⟩
      conv => whnf
      exact q acc zs (fun p hp => allP_ok m p (hs.subset hp)) (Nat.le_trans hs.length_le hL) hs (hp.mono (by simp only [List.length_nil]; omega))
    | cons _ _ => cases hl
end Hb

/-! WAYS: ways of webs, plainly. -/
namespace Hb
open PySem
set_option autoImplicit false
/-! ### may_go -/
def mn (a b : Int) : Int := if b < a then b else a
def mx (a b : Int) : Int := if a < b then b else a
def pairB (T1 T2 : List (Int × Int)) (just : Bool) (i j t p : Int) : Bool := !((decide ((i, j) ∈ T1) && !decide ((mn t p, mx t p) ∈ T2)) || (just && (decide ((mn t p, mx t p) ∈ T2) && !decide ((i, j) ∈ T1))))
def stepB (T1 T2 : List (Int × Int)) (just : Bool) (j p : Int) : Int → List Int → Bool
  | _, [] => true
  | i, t :: r => pairB T1 T2 just i j t p && stepB T1 T2 just j p (i + 1) r
def mayB (T1 T2 : List (Int × Int)) (just : Bool) (w : List Int) (p : Int) : Bool := !decide (p ∈ w) && stepB T1 T2 just w.length p 0 w
theorem w_may {FT : List FnI} {g : Nat} (c0 : C_may_go FT g) {n : Nat} (hn : 1 ≤ n) {h : Hp} {m1 m2 p : Int} {T1 T2 : List (Int × Int)} {w : List Int} {just : Bool} {P : Pv} {X : Px}
    (q : P (.d (.bool (mayB T1 T2 just w p))) h) : callN FT n g [.d (webD m1 T1), .d (webD m2 T2), .d (tupI w), .d (.int p), .d (.bool just)] h P X := by
  obtain ⟨n, rfl⟩ : ∃ m, n = m + 1 := ⟨n - 1, by omega⟩
  refine callN_d (ds := [webD m1 T1, webD m2 T2, tupI w, .int p, .bool just]) (fn := ix_may_go) c0 rfl rfl ?_
  conv => whnf
  refine ⟨rfl, shp_tupI w, ?_⟩
  rw [any_int]
  unfold mayB at q
  cases e1 : decide (p ∈ w) with
  | true =>
    rw [e1] at q
    exact q
  | false =>
    rw [e1] at q
    have q : P (.d (.bool (stepB T1 T2 just w.length p 0 w))) h := q
    conv => whnf
    refine forW_at (fun l e h' => ∃ (i : Int) (r : List Int) (a b c d : Option V), l = enumD i (r.map PyData.int) ∧ h' = [] ∧ e = [some (.d (webD m1 T1)), some (.d (webD m2 T2)), some (.d (tupI w)), some (.d (.int p)), some (.d (.bool just)), a, b, c, d] ∧ P (.d (.bool (stepB T1 T2 just w.length p i r))) h) _ _ _ ?_ (fun _ _ _ _ => trivial) ?_ ?_
    · exact ⟨0, w, none, none, none, none, rfl, rfl, rfl, q⟩
    · rintro e h' x l nx ⟨i, r, a, b, c, d, hl, rfl, rfl, q⟩ hnx
      cases r with
      | nil => cases hl
      | cons t r =>
        cases hl
        conv => whnf
        refine ⟨rfl, ?_⟩
        conv => whnf
        refine ⟨rfl, ?_⟩
        conv => whnf
        refine ⟨Nat.le_of_ble_eq_true rfl, ?_⟩
        conv => whnf
        refine ⟨(shk_prD (i, _)).shp (by omega), (shk_prs T1).shp (by omega), ?_⟩
        have a1 : (T1.map prD).any (fun z => PyData.eqv z (.tuple [.int i, .int ((w.map PyData.int).length : Int)])) = decide ((i, (w.length : Int)) ∈ T1) := by
          rw [List.length_map]
          exact any_pr T1 (i, (w.length : Int))
        rw [a1]
        conv => whnf
        refine ⟨Nat.le_of_ble_eq_true rfl, ?_⟩
        conv => whnf
        refine ⟨(shk_prD (mn t p, mx t p)).shp (by omega), (shk_prs T2).shp (by omega), ?_⟩
        have a2 : (T2.map prD).any (fun z => PyData.eqv z (.tuple [.int (if p < t then p else t), .int (if t < p then p else t)])) = decide ((mn t p, mx t p) ∈ T2) := any_pr T2 (mn t p, mx t p)
        rw [a2]
        have q : P (.d (.bool (pairB T1 T2 just i w.length t p && stepB T1 T2 just w.length p (i + 1) r))) h := q
        unfold pairB at q
        generalize decide ((i, (w.length : Int)) ∈ T1) = x1 at q ⊢
        generalize decide ((mn t p, mx t p) ∈ T2) = x2 at q ⊢
        have go : P (.d (.bool (stepB T1 T2 just w.length p (i + 1) r))) h → nx _ _ := fun q => hnx _ _ ⟨i + 1, r, some (.d (.int i)), some (.d (.int t)), some (.d (.bool x1)), some (.d (.bool x2)), rfl, rfl, rfl, q⟩
        cases x1 <;> cases x2 <;> cases just <;> first | exact go q | exact q
    · rintro e h' ⟨i, r, a, b, c, d, hl, rfl, rfl, q⟩
      cases r with
      | nil => exact q
      | cons t r => cases hl
/-! ### longer_ways -/
def rngI (m : Int) : List Int := (List.range m.toNat).map fun i => ((i : Nat) : Int)
theorem ranI_rng : ∀ (k : Nat) (lo : Int), ranI lo k = ((List.range k).map fun i => lo + (i : Nat)).map PyData.int
  | 0, _ => rfl
  | k + 1, lo => by
    rw [List.range_succ_eq_map, List.map_cons, List.map_cons, List.map_map]
    show PyData.int lo :: ranI (lo + 1) k = _
    rw [ranI_rng k (lo + 1)]
    congr 1
    · rw [show lo + ((0 : Nat) : Int) = lo by omega]
    · rw [List.map_map, List.map_map]
      apply List.map_congr_left
      intro i _
      show PyData.int _ = PyData.int _
      congr 1
      show lo + 1 + (i : Nat) = lo + ((i + 1 : Nat) : Int)
      omega
theorem ran0_rng (m : Int) : ranI 0 m.toNat = (rngI m).map PyData.int := by
  rw [ranI_rng]
  unfold rngI
  congr 1
  apply List.map_congr_left
  intro i _
  omega
theorem rngI_mem {m p : Int} (h : p ∈ rngI m) : 0 ≤ p ∧ p < m := by
  unfold rngI at h
  obtain ⟨i, hi, rfl⟩ := List.mem_map.mp h
  have := List.mem_range.mp hi
  omega
theorem mem_rngI {m p : Int} (h0 : 0 ≤ p) (h1 : p < m) : p ∈ rngI m := by
  unfold rngI
  exact List.mem_map.mpr ⟨p.toNat, List.mem_range.mpr (by omega), by omega⟩
theorem rngI_len (m : Int) : (rngI m).length = m.toNat := by unfold rngI; rw [List.length_map, List.length_range]
def kidsW (T1 T2 : List (Int × Int)) (just : Bool) (m : Int) (w : List Int) : List (List Int) := ((rngI m).filter (mayB T1 T2 just w)).map fun p => w ++ [p]
theorem filter_fm {α β : Type} (f : α → Bool) (g : α → β) : ∀ l : List α, (l.filter f).map g = l.filterMap fun x => if f x = true then some (g x) else none
  | [] => rfl
  | x :: l => by
    rw [List.filterMap_cons]
    by_cases h : f x = true
    · rw [List.filter_cons_of_pos h, List.map_cons, filter_fm f g l]
      simp [h]
    · rw [List.filter_cons_of_neg h, filter_fm f g l]
      simp [h]
def kidF (T1 T2 : List (Int × Int)) (just : Bool) (w : List Int) : D → Option D
  | .int p => if mayB T1 T2 just w p = true then some (tupI (w ++ [p])) else none
  | _ => none
theorem w_longer {FT : List FnI} {g : Nat} (c0 : C_longer_ways FT g) {n : Nat} (hn : 2 ≤ n) {h : Hp} {m1 m2 : Int} (h2 : 0 ≤ m2) (h3 : m2 ≤ 1000) {T1 T2 : List (Int × Int)} {w : List Int} (hw : w.length ≤ 1000) {just : Bool} {P : Pv} {X : Px}
    (q : P (.d (.list ((kidsW T1 T2 just m2 w).map tupI))) h) : callN FT n g [.d (webD m1 T1), .d (webD m2 T2), .d (tupI w), .d (.bool just)] h P X := by
  obtain ⟨n, rfl⟩ : ∃ m, n = m + 1 := ⟨n - 1, by omega⟩
  obtain ⟨fm, ef, em⟩ := c0
  refine callN_d (ds := [webD m1 T1, webD m2 T2, tupI w, .bool just]) (fn := ix_longer_ways fm) ef rfl rfl ?_
  conv => whnf
  refine ⟨by omega, ?_⟩
  conv => whnf
  rw [ran0_rng]
  refine cmpW_fd (kidF T1 T2 just w) trivial _ (fun x hx Q' qq => ?_) (by rw [List.length_map, rngI_len]; exact Nat.le_trans (show _ ≤ 1000 by omega) (by decide)) ?_
  · obtain ⟨p, _, rfl⟩ := List.mem_map.mp hx
    conv => whnf
    refine w_may em (n := n) (by omega) ?_
    cases e : mayB T1 T2 just w p with
    | false =>
      have qq : Q' (Option.map V.d (if mayB T1 T2 just w p = true then some (tupI (w ++ [p])) else none)) [] := qq
      rw [e] at qq
      exact qq
    | true =>
      have qq : Q' (Option.map V.d (if mayB T1 T2 just w p = true then some (tupI (w ++ [p])) else none)) [] := qq
      rw [e] at qq
      conv => whnf
      refine ⟨Nat.le_of_ble_eq_true rfl, ?_⟩
      conv => whnf
      refine ⟨Nat.le_trans (show _ ≤ 2000 by rw [List.length_map]; simp only [List.length_cons, List.length_nil]; omega) (by decide), ?_⟩
      have e2 : w.map PyData.int ++ [PyData.int p] = (w ++ [p]).map PyData.int := by rw [List.map_append]; rfl
      conv => whnf
      rw [e2]
      exact qq
  · refine mkL_d ?_
    have e : List.filterMap (kidF T1 T2 just w) ((rngI m2).map PyData.int) = (kidsW T1 T2 just m2 w).map tupI := by
      rw [List.filterMap_map]
      unfold kidsW
      rw [List.map_map, filter_fm]
      rfl
    rw [e]
    exact q
end Hb

/-! DFS: trees gone through by a stack, level by level. -/
namespace Hb
open PySem
set_option autoImplicit false
section
variable {α : Type} (kids : α → List α)
def extK : Nat → α → List α
  | 0, w => [w]
  | k + 1, w => (kids w).flatMap (extK k)
def szK : Nat → α → Nat
  | 0, _ => 1
  | k + 1, w => 1 + ((kids w).map (szK k)).sum
def lvlK (r : α) : Nat → List α
  | 0 => [r]
  | k + 1 => (lvlK r k).flatMap kids
theorem flatMap_flatMap {β γ : Type} (l : List α) (f : α → List β) (g : β → List γ) : (l.flatMap f).flatMap g = l.flatMap fun x => (f x).flatMap g := by
  induction l with
  | nil => rfl
  | cons x l ih => rw [List.flatMap_cons, List.flatMap_append, ih, List.flatMap_cons]
theorem extK_succ : ∀ (k : Nat) (w : α), extK kids (k + 1) w = (extK kids k w).flatMap kids
  | 0, w => by
    show (kids w).flatMap (fun w => [w]) = [w].flatMap kids
    rw [List.flatMap_cons, List.flatMap_nil, List.append_nil]
    generalize kids w = l
    induction l with
    | nil => rfl
    | cons x l ih => rw [List.flatMap_cons, ih]; rfl
  | k + 1, w => by
    show (kids w).flatMap (extK kids (k + 1)) = ((kids w).flatMap (extK kids k)).flatMap kids
    rw [flatMap_flatMap]
    congr 1
    funext x
    exact extK_succ k x
theorem extK_lvl (r : α) : ∀ k : Nat, extK kids k r = lvlK kids r k
  | 0 => rfl
  | k + 1 => by rw [extK_succ, extK_lvl r k]; rfl
theorem szK_pos : ∀ (k : Nat) (w : α), 1 ≤ szK kids k w
  | 0, _ => Nat.le_refl _
  | k + 1, w => Nat.le_add_right _ _
end
/-- a while by its measure -/
theorem whileN_lt {c : Env → Hp → (Bool → Hp → Prop) → Prop} {body : Env → Hp → Nx → Kk → Prop} {n : Nx} {k : Kk} (I : Nat → Env → Hp → Prop)
    (st : ∀ m e h (nx : Nx), I m e h → (∀ m' e' h', m' < m → I m' e' h' → nx e' h') → c e h fun t h1 => match t with
      | true => body e h1 nx ⟨k.rt, n, nx, k.xe⟩
      | false => n e h1) :
    ∀ (N m : Nat) (env : Env) (h : Hp), m < N → I m env h → whileN c body N env h n k
  | 0, m, env, h, hm, _ => absurd hm (Nat.not_lt_zero _)
  | N + 1, m, env, h, hm, hi => by
    have q := st m env h (fun e h' => whileN c body N e h' n k) hi fun m' e' h' hl hi' => whileN_lt I st N m' e' h' (by omega) hi'
    rw [whileN_eq] at q ⊢
    exact q
theorem whileN_by {c : Env → Hp → (Bool → Hp → Prop) → Prop} {body : Env → Hp → Nx → Kk → Prop} {n : Nx} {k : Kk} (I : Nat → Env → Hp → Prop) (m : Nat) (env : Env) (h : Hp) (h0 : I m env h)
    (st : ∀ m e h (nx : Nx), I m e h → (∀ m' e' h', m' < m → I m' e' h' → nx e' h') → c e h fun t h1 => match t with
      | true => body e h1 nx ⟨k.rt, n, nx, k.xe⟩
      | false => n e h1) : ∃ N, whileN c body N env h n k := ⟨m + 1, whileN_lt I st (m + 1) m env h (Nat.lt_succ_self m) h0⟩
/-- the stack: the first leaf -/
def firstK {α : Type} (kids : α → List α) (lv : α → Nat) (st : List α) : Option α := (st.flatMap fun w => extK kids (lv w) w).head?
def sumK {α : Type} (kids : α → List α) (lv : α → Nat) (st : List α) : Nat := (st.map fun w => szK kids (lv w) w).sum
theorem firstK_leaf {α : Type} {kids : α → List α} {lv : α → Nat} {w : α} {st : List α} (h : lv w = 0) : firstK kids lv (w :: st) = some w := by
  unfold firstK
  rw [List.flatMap_cons, h]
  rfl
theorem firstK_node {α : Type} {kids : α → List α} {lv : α → Nat} {w : α} {st : List α} {k : Nat} (h : lv w = k + 1) (hk : ∀ x ∈ kids w, lv x = k) : firstK kids lv (w :: st) = firstK kids lv (kids w ++ st) := by
  unfold firstK
  rw [List.flatMap_cons, List.flatMap_append, h]
  congr 2
  show (kids w).flatMap (extK kids k) = _
  generalize kids w = l at hk
  induction l with
  | nil => rfl
  | cons x l ih => rw [List.flatMap_cons, List.flatMap_cons, ih fun y hy => hk y (by simp [hy]), hk x (by simp)]
theorem sumK_node {α : Type} {kids : α → List α} {lv : α → Nat} {w : α} {st : List α} {k : Nat} (h : lv w = k + 1) (hk : ∀ x ∈ kids w, lv x = k) : sumK kids lv (w :: st) = 1 + sumK kids lv (kids w ++ st) := by
  unfold sumK
  rw [List.map_cons, List.sum_cons, List.map_append, List.sum_append, h]
  have e : (kids w).map (fun w => szK kids (lv w) w) = (kids w).map (szK kids k) := List.map_congr_left fun x hx => by rw [hk x hx]
  rw [e]
  show 1 + ((kids w).map (szK kids k)).sum + _ = _
  omega
theorem len_sumK {α : Type} (kids : α → List α) (lv : α → Nat) : ∀ st : List α, st.length ≤ sumK kids lv st
  | [] => Nat.le_refl _
  | w :: st => by
    have h1 := len_sumK kids lv st
    have h2 := szK_pos kids (lv w) w
    show st.length + 1 ≤ szK kids (lv w) w + sumK kids lv st
    omega
theorem szK_le {α : Type} {kids : α → List α} {m : Nat} (h : ∀ w, (kids w).length ≤ m) : ∀ (k : Nat) (w : α), szK kids k w ≤ (m + 1) ^ k
  | 0, _ => Nat.le_refl _
  | k + 1, w => by
    have ih := szK_le h k
    show 1 + ((kids w).map (szK kids k)).sum ≤ (m + 1) ^ k * (m + 1)
    have hs : ∀ l : List α, (l.map (szK kids k)).sum ≤ l.length * (m + 1) ^ k := by
      intro l
      induction l with
      | nil => simp
      | cons x l ihl =>
        rw [List.map_cons, List.sum_cons, List.length_cons, Nat.add_mul, Nat.one_mul]
        have := ih x
        omega
    have h1 := hs (kids w)
    have h2 : (kids w).length * (m + 1) ^ k ≤ m * (m + 1) ^ k := Nat.mul_le_mul_right _ (h w)
    have h3 : 1 ≤ (m + 1) ^ k := Nat.pow_pos (by omega)
    have h4 : (m + 1) ^ k * (m + 1) = m * (m + 1) ^ k + (m + 1) ^ k := by rw [Nat.mul_add, Nat.mul_one, Nat.mul_comm]
    omega
theorem lvlK_filter {α : Type} {big kids : α → List α} {ok : α → Bool} {r : α} (h0 : ok r = true) (hk : ∀ w, ok w = true → kids w = (big w).filter ok) (hn : ∀ w, ok w = false → (big w).filter ok = []) : ∀ k, lvlK kids r k = (lvlK big r k).filter ok
  | 0 => by show [r] = [r].filter ok; rw [List.filter_cons_of_pos h0]; rfl
  | k + 1 => by
    show (lvlK kids r k).flatMap kids = ((lvlK big r k).flatMap big).filter ok
    rw [lvlK_filter h0 hk hn k]
    generalize lvlK big r k = l
    induction l with
    | nil => rfl
    | cons x l ih =>
      rw [List.flatMap_cons, List.filter_append, ← ih]
      cases e : ok x with
      | true => rw [List.filter_cons_of_pos e, List.flatMap_cons, hk x e]
      | false => rw [List.filter_cons_of_neg (by rw [e]; exact Bool.false_ne_true), hn x e]; rfl
end Hb

/-! WAYS2: first_way, like_way, lies_way, own_ways. -/
namespace Hb
open PySem
set_option autoImplicit false
def optT : Option (List Int) → D
  | some w => tupI w
  | none => .none
def lvW (m : Int) (w : List Int) : Nat := m.toNat - w.length
/-- the first way -/
def firstW (m1 m2 : Int) (T1 T2 : List (Int × Int)) (just : Bool) : Option (List Int) := (lvlK (kidsW T1 T2 just m2) [] m1.toNat).head?
theorem kidsW_len {T1 T2 : List (Int × Int)} {just : Bool} {m : Int} {w x : List Int} (h : x ∈ kidsW T1 T2 just m w) : x.length = w.length + 1 := by
  unfold kidsW at h
  obtain ⟨p, _, rfl⟩ := List.mem_map.mp h
  simp
theorem kidsW_many (T1 T2 : List (Int × Int)) (just : Bool) (m : Int) (w : List Int) : (kidsW T1 T2 just m w).length ≤ m.toNat := by
  unfold kidsW
  rw [List.length_map, ← rngI_len m]
  exact List.length_filter_le _ _
theorem pow_small {a b : Int} (h1 : a ≤ 5) (h3 : b ≤ 5) : (b.toNat + 1) ^ a.toNat ≤ big := by
  have : (b.toNat + 1) ^ a.toNat ≤ 6 ^ 5 := Nat.le_trans (Nat.pow_le_pow_left (by omega) _) (Nat.pow_le_pow_right (by omega) (by omega))
  exact Nat.le_trans this (by decide)
theorem w_first {FT : List FnI} {g : Nat} (c0 : C_first_way FT g) {n : Nat} (hn : 3 ≤ n) {h : Hp} {m1 m2 : Int} (h0 : 0 ≤ m1) (h1 : m1 ≤ 1000) (h2 : 0 ≤ m2) (h3 : m2 ≤ 1000) {T1 T2 : List (Int × Int)} {just : Bool} (hb : (m2.toNat + 1) ^ m1.toNat ≤ big) {P : Pv} {X : Px}
    (q : P (.d (optT (firstW m1 m2 T1 T2 just))) h) : callN FT n g [.d (webD m1 T1), .d (webD m2 T2), .d (.bool just)] h P X := by
  obtain ⟨n, rfl⟩ : ∃ m, n = m + 1 := ⟨n - 1, by omega⟩
  obtain ⟨fl, ef, el⟩ := c0
  refine callN_d (ds := [webD m1 T1, webD m2 T2, .bool just]) (fn := ix_first_way fl) ef rfl rfl ?_
  (((conv => whnf); repeat (refine And.intro (by (first | exact trivial | exact Nat.le_of_ble_eq_true rfl | omega | decide | rfl | (unfold big; omega) | assumption | exact ⟨by decide, by decide, lt4000 (by decide)⟩ | exact okMul_l (by decide) | exact okMul_r (by decide) | (first | rfl | exact shp_tupI _ | exact (shk_prs _).shp (by decide) | exact (shk_prD _).shp (by decide) | assumption) | exact .inl ⟨by (first | rfl | exact shp_tupI _ | exact (shk_prs _).shp (by decide) | exact (shk_prD _).shp (by decide) | assumption), by (first | rfl | exact shp_tupI _ | exact (shk_prs _).shp (by decide) | exact (shk_prD _).shp (by decide) | assumption)⟩ | exact .inr (.inr ⟨_, rfl, rfl⟩) | exact .inr (.inl ⟨_, rfl, rfl⟩))) ?_; conv => whnf)))
  have hsz : szK (kidsW T1 T2 just m2) (lvW m1 []) [] ≤ big := by
    refine Nat.le_trans (szK_le (kidsW_many T1 T2 just m2) _ _) ?_
    exact hb
  refine whileN_by (fun m e h' => ∃ (st : List (List Int)) (o : Option V), h' = [.lst (st.reverse.map tupI)] ∧ (∀ w ∈ st, w.length ≤ m1.toNat) ∧ e = [some (.d (webD m1 T1)), some (.d (webD m2 T2)), some (.d (.bool just)), some (.cell 0), o] ∧ m = sumK (kidsW T1 T2 just m2) (lvW m1) st ∧ m ≤ big ∧ P (.d (optT (firstK (kidsW T1 T2 just m2) (lvW m1) st))) h) (sumK (kidsW T1 T2 just m2) (lvW m1) [[]]) _ _ ?_ ?_
  · refine ⟨[[]], none, rfl, ?_, rfl, rfl, ?_, ?_⟩
    · intro w hw
      simp at hw
      subst hw
      exact Nat.zero_le _
    · show szK _ _ [] + 0 ≤ big
      exact hsz
    · have e : firstK (kidsW T1 T2 just m2) (lvW m1) [[]] = firstW m1 m2 T1 T2 just := by
        unfold firstK firstW
        rw [List.flatMap_cons, List.flatMap_nil, List.append_nil, extK_lvl]
        rfl
      rw [e]
      exact q
  · rintro m e h' nx ⟨st, o, rfl, hl, rfl, hm, hmb, q⟩ hnx
    cases st with
    | nil =>
      (((conv => whnf); repeat (refine And.intro (by (first | exact trivial | exact Nat.le_of_ble_eq_true rfl | omega | decide | rfl | (unfold big; omega) | assumption | exact ⟨by decide, by decide, lt4000 (by decide)⟩ | exact okMul_l (by decide) | exact okMul_r (by decide) | (first | rfl | exact shp_tupI _ | exact (shk_prs _).shp (by decide) | exact (shk_prD _).shp (by decide) | assumption) | exact .inl ⟨by (first | rfl | exact shp_tupI _ | exact (shk_prs _).shp (by decide) | exact (shk_prD _).shp (by decide) | assumption), by (first | rfl | exact shp_tupI _ | exact (shk_prs _).shp (by decide) | exact (shk_prD _).shp (by decide) | assumption)⟩ | exact .inr (.inr ⟨_, rfl, rfl⟩) | exact .inr (.inl ⟨_, rfl, rfl⟩))) ?_; conv => whnf)))
      exact q
    | cons w st =>
      have hl0 := hl w (by simp)
      (((conv => whnf); repeat (refine And.intro (by (first | exact trivial | exact Nat.le_of_ble_eq_true rfl | omega | decide | rfl | (unfold big; omega) | assumption | exact ⟨by decide, by decide, lt4000 (by decide)⟩ | exact okMul_l (by decide) | exact okMul_r (by decide) | (first | rfl | exact shp_tupI _ | exact (shk_prs _).shp (by decide) | exact (shk_prD _).shp (by decide) | assumption) | exact .inl ⟨by (first | rfl | exact shp_tupI _ | exact (shk_prs _).shp (by decide) | exact (shk_prD _).shp (by decide) | assumption), by (first | rfl | exact shp_tupI _ | exact (shk_prs _).shp (by decide) | exact (shk_prD _).shp (by decide) | assumption)⟩ | exact .inr (.inr ⟨_, rfl, rfl⟩) | exact .inr (.inl ⟨_, rfl, rfl⟩))) ?_; conv => whnf)))
      rw [eqv_lnil, List.reverse_cons, List.map_append, show (List.map tupI st.reverse ++ List.map tupI [w]).isEmpty = false by simp]
      (((conv => whnf); repeat (refine And.intro (by (first | exact trivial | exact Nat.le_of_ble_eq_true rfl | omega | decide | rfl | (unfold big; omega) | assumption | exact ⟨by decide, by decide, lt4000 (by decide)⟩ | exact okMul_l (by decide) | exact okMul_r (by decide) | (first | rfl | exact shp_tupI _ | exact (shk_prs _).shp (by decide) | exact (shk_prD _).shp (by decide) | assumption) | exact .inl ⟨by (first | rfl | exact shp_tupI _ | exact (shk_prs _).shp (by decide) | exact (shk_prD _).shp (by decide) | assumption), by (first | rfl | exact shp_tupI _ | exact (shk_prs _).shp (by decide) | exact (shk_prD _).shp (by decide) | assumption)⟩ | exact .inr (.inr ⟨_, rfl, rfl⟩) | exact .inr (.inl ⟨_, rfl, rfl⟩))) ?_; conv => whnf)))
      rw [List.map_cons, List.map_nil, List.getLast?_concat]
      (((conv => whnf); repeat (refine And.intro (by (first | exact trivial | exact Nat.le_of_ble_eq_true rfl | omega | decide | rfl | (unfold big; omega) | assumption | exact ⟨by decide, by decide, lt4000 (by decide)⟩ | exact okMul_l (by decide) | exact okMul_r (by decide) | (first | rfl | exact shp_tupI _ | exact (shk_prs _).shp (by decide) | exact (shk_prD _).shp (by decide) | assumption) | exact .inl ⟨by (first | rfl | exact shp_tupI _ | exact (shk_prs _).shp (by decide) | exact (shk_prD _).shp (by decide) | assumption), by (first | rfl | exact shp_tupI _ | exact (shk_prs _).shp (by decide) | exact (shk_prD _).shp (by decide) | assumption)⟩ | exact .inr (.inr ⟨_, rfl, rfl⟩) | exact .inr (.inl ⟨_, rfl, rfl⟩))) ?_; conv => whnf)))
      rw [List.dropLast_concat, List.length_map]
      by_cases e : (w.length : Int) = m1
      · rw [decide_eq_true e]
        rw [firstK_leaf (show lvW m1 w = 0 by unfold lvW; omega)] at q
        exact q
      · rw [decide_eq_false e]
        have hk : lvW m1 w = (m1.toNat - w.length - 1) + 1 := by unfold lvW; omega
        have hkk : ∀ x ∈ kidsW T1 T2 just m2 w, lvW m1 x = m1.toNat - w.length - 1 := fun x hx => by unfold lvW; rw [kidsW_len hx]; omega
        rw [firstK_node hk hkk] at q
        rw [sumK_node hk hkk] at hm
        (((conv => whnf); repeat (refine And.intro (by (first | exact trivial | exact Nat.le_of_ble_eq_true rfl | omega | decide | rfl | (unfold big; omega) | assumption | exact ⟨by decide, by decide, lt4000 (by decide)⟩ | exact okMul_l (by decide) | exact okMul_r (by decide) | (first | rfl | exact shp_tupI _ | exact (shk_prs _).shp (by decide) | exact (shk_prD _).shp (by decide) | assumption) | exact .inl ⟨by (first | rfl | exact shp_tupI _ | exact (shk_prs _).shp (by decide) | exact (shk_prD _).shp (by decide) | assumption), by (first | rfl | exact shp_tupI _ | exact (shk_prs _).shp (by decide) | exact (shk_prD _).shp (by decide) | assumption)⟩ | exact .inr (.inr ⟨_, rfl, rfl⟩) | exact .inr (.inl ⟨_, rfl, rfl⟩))) ?_; conv => whnf)))
        refine w_longer el (n := n) (by omega) h2 h3 (by omega) ?_
        (((conv => whnf); repeat (refine And.intro (by (first | exact trivial | exact Nat.le_of_ble_eq_true rfl | omega | decide | rfl | (unfold big; omega) | assumption | exact ⟨by decide, by decide, lt4000 (by decide)⟩ | exact okMul_l (by decide) | exact okMul_r (by decide) | (first | rfl | exact shp_tupI _ | exact (shk_prs _).shp (by decide) | exact (shk_prD _).shp (by decide) | assumption) | exact .inl ⟨by (first | rfl | exact shp_tupI _ | exact (shk_prs _).shp (by decide) | exact (shk_prD _).shp (by decide) | assumption), by (first | rfl | exact shp_tupI _ | exact (shk_prs _).shp (by decide) | exact (shk_prD _).shp (by decide) | assumption)⟩ | exact .inr (.inr ⟨_, rfl, rfl⟩) | exact .inr (.inl ⟨_, rfl, rfl⟩))) ?_; conv => whnf)))
        have hlen : (kidsW T1 T2 just m2 w ++ st).length ≤ big := Nat.le_trans (len_sumK (kidsW T1 T2 just m2) (lvW m1) _) (by omega)
        rw [List.length_append] at hlen
        refine And.intro (by rw [List.length_reverse, List.length_map, List.length_map, List.length_reverse]; omega) ?_
        refine hnx (sumK (kidsW T1 T2 just m2) (lvW m1) (kidsW T1 T2 just m2 w ++ st)) _ _ (by omega) ⟨kidsW T1 T2 just m2 w ++ st, _, ?_, ?_, rfl, rfl, by omega, q⟩
        · simp only [List.reverse_append, List.map_append, List.map_reverse]
          rfl
        · intro x hx
          rcases List.mem_append.mp hx with hx | hx
          · rw [kidsW_len hx]; omega
          · exact hl x (by simp [hx])
/-! ### like_way, lies_way, own_ways -/
def likeW (m1 m2 : Int) (T1 T2 : List (Int × Int)) : Option (List Int) := if m1 = m2 then firstW m1 m2 T1 T2 true else none
theorem w_like {FT : List FnI} {g : Nat} (c0 : C_like_way FT g) {n : Nat} (hn : 4 ≤ n) {h : Hp} {m1 m2 : Int} (h0 : 0 ≤ m1) (h1 : m1 ≤ 5) (h2 : 0 ≤ m2) (h3 : m2 ≤ 5) {T1 T2 : List (Int × Int)} {P : Pv} {X : Px}
    (q : P (.d (optT (likeW m1 m2 T1 T2))) h) : callN FT n g [.d (webD m1 T1), .d (webD m2 T2)] h P X := by
  obtain ⟨n, rfl⟩ : ∃ m, n = m + 1 := ⟨n - 1, by omega⟩
  obtain ⟨ff, ek, ef⟩ := c0
  refine callN_d (ds := [webD m1 T1, webD m2 T2]) (fn := ix_like_way ff) ek rfl rfl ?_
  (((conv => whnf); repeat (refine And.intro (by (first | exact trivial | exact Nat.le_of_ble_eq_true rfl | omega | decide | rfl | (unfold big; omega) | assumption | exact ⟨by decide, by decide, lt4000 (by decide)⟩ | exact okMul_l (by decide) | exact okMul_r (by decide) | (first | rfl | exact shp_tupI _ | exact (shk_prs _).shp (by decide) | exact (shk_prD _).shp (by decide) | assumption) | exact .inl ⟨by (first | rfl | exact shp_tupI _ | exact (shk_prs _).shp (by decide) | exact (shk_prD _).shp (by decide) | assumption), by (first | rfl | exact shp_tupI _ | exact (shk_prs _).shp (by decide) | exact (shk_prD _).shp (by decide) | assumption)⟩ | exact .inr (.inr ⟨_, rfl, rfl⟩) | exact .inr (.inl ⟨_, rfl, rfl⟩))) ?_; conv => whnf)))
  unfold likeW at q
  by_cases e : m1 = m2
  · rw [decide_eq_true e]
    rw [if_pos e] at q
    (((conv => whnf); repeat (refine And.intro (by (first | exact trivial | exact Nat.le_of_ble_eq_true rfl | omega | decide | rfl | (unfold big; omega) | assumption | exact ⟨by decide, by decide, lt4000 (by decide)⟩ | exact okMul_l (by decide) | exact okMul_r (by decide) | (first | rfl | exact shp_tupI _ | exact (shk_prs _).shp (by decide) | exact (shk_prD _).shp (by decide) | assumption) | exact .inl ⟨by (first | rfl | exact shp_tupI _ | exact (shk_prs _).shp (by decide) | exact (shk_prD _).shp (by decide) | assumption), by (first | rfl | exact shp_tupI _ | exact (shk_prs _).shp (by decide) | exact (shk_prD _).shp (by decide) | assumption)⟩ | exact .inr (.inr ⟨_, rfl, rfl⟩) | exact .inr (.inl ⟨_, rfl, rfl⟩))) ?_; conv => whnf)))
    exact w_first ef (n := n) (by omega) h0 (by omega) h2 (by omega) (pow_small h1 h3) q
  · rw [decide_eq_false e]
    rw [if_neg e] at q
    exact q
theorem w_lies {FT : List FnI} {g : Nat} (c0 : C_lies_way FT g) {n : Nat} (hn : 4 ≤ n) {h : Hp} {m1 m2 : Int} (h0 : 0 ≤ m1) (h1 : m1 ≤ 5) (h2 : 0 ≤ m2) (h3 : m2 ≤ 5) {T1 T2 : List (Int × Int)} {P : Pv} {X : Px}
    (q : P (.d (optT (firstW m1 m2 T1 T2 false))) h) : callN FT n g [.d (webD m1 T1), .d (webD m2 T2)] h P X := by
  obtain ⟨n, rfl⟩ : ∃ m, n = m + 1 := ⟨n - 1, by omega⟩
  obtain ⟨ff, ek, ef⟩ := c0
  refine callN_d (ds := [webD m1 T1, webD m2 T2]) (fn := ix_lies_way ff) ek rfl rfl ?_
  (((conv => whnf); repeat (refine And.intro (by (first | exact trivial | exact Nat.le_of_ble_eq_true rfl | omega | decide | rfl | (unfold big; omega) | assumption | exact ⟨by decide, by decide, lt4000 (by decide)⟩ | exact okMul_l (by decide) | exact okMul_r (by decide) | (first | rfl | exact shp_tupI _ | exact (shk_prs _).shp (by decide) | exact (shk_prD _).shp (by decide) | assumption) | exact .inl ⟨by (first | rfl | exact shp_tupI _ | exact (shk_prs _).shp (by decide) | exact (shk_prD _).shp (by decide) | assumption), by (first | rfl | exact shp_tupI _ | exact (shk_prs _).shp (by decide) | exact (shk_prD _).shp (by decide) | assumption)⟩ | exact .inr (.inr ⟨_, rfl, rfl⟩) | exact .inr (.inl ⟨_, rfl, rfl⟩))) ?_; conv => whnf)))
  exact w_first ef (n := n) (by omega) h0 (by omega) h2 (by omega) (pow_small h1 h3) q
theorem lvlK_len {α : Type} {kids : α → List α} {m : Nat} (h : ∀ w, (kids w).length ≤ m) (r : α) : ∀ k, (lvlK kids r k).length ≤ m ^ k
  | 0 => Nat.le_refl _
  | k + 1 => by
    have ih := lvlK_len h r k
    show ((lvlK kids r k).flatMap kids).length ≤ m ^ k * m
    have hs : ∀ l : List α, (l.flatMap kids).length ≤ l.length * m := by
      intro l
      induction l with
      | nil => simp
      | cons x l ihl =>
        rw [List.flatMap_cons, List.length_append, List.length_cons, Nat.add_mul, Nat.one_mul]
        have := h x
        omega
    exact Nat.le_trans (hs _) (Nat.mul_le_mul_right _ ih)
theorem w_ownw {FT : List FnI} {g : Nat} (c0 : C_own_ways FT g) {n : Nat} (hn : 3 ≤ n) {h : Hp} {m : Int} (h0 : 0 ≤ m) (h1 : m ≤ 5) {T : List (Int × Int)} {P : Pv} {X : Px}
    (q : P (.d (.int (lvlK (kidsW T T true m) [] m.toNat).length)) h) : callN FT n g [.d (webD m T)] h P X := by
  obtain ⟨n, rfl⟩ : ∃ m, n = m + 1 := ⟨n - 1, by omega⟩
  obtain ⟨fl, ek, el⟩ := c0
  refine callN_d (ds := [webD m T]) (fn := ix_own_ways fl) ek rfl rfl ?_
  (((conv => whnf); repeat (refine And.intro (by (first | exact trivial | exact Nat.le_of_ble_eq_true rfl | omega | decide | rfl | (unfold big; omega) | assumption | exact ⟨by decide, by decide, lt4000 (by decide)⟩ | exact okMul_l (by decide) | exact okMul_r (by decide) | (first | rfl | exact shp_tupI _ | exact (shk_prs _).shp (by decide) | exact (shk_prD _).shp (by decide) | assumption) | exact .inl ⟨by (first | rfl | exact shp_tupI _ | exact (shk_prs _).shp (by decide) | exact (shk_prD _).shp (by decide) | assumption), by (first | rfl | exact shp_tupI _ | exact (shk_prs _).shp (by decide) | exact (shk_prD _).shp (by decide) | assumption)⟩ | exact .inr (.inr ⟨_, rfl, rfl⟩) | exact .inr (.inl ⟨_, rfl, rfl⟩))) ?_; conv => whnf)))
  have hL : ∀ k, k ≤ m.toNat → (lvlK (kidsW T T true m) [] k).length ≤ 3125 := fun k hk => by
    refine Nat.le_trans (lvlK_len (kidsW_many T T true m) _ _) ?_
    have : m.toNat ^ k ≤ 5 ^ 5 := by
      rcases Nat.eq_zero_or_pos k with z | z
      · subst z; rw [Nat.pow_zero]; decide
      · exact Nat.le_trans (Nat.pow_le_pow_left (show m.toNat ≤ 5 by omega) _) (Nat.pow_le_pow_right (by omega) (by omega))
    exact this
  refine forW_r0 (fun j e h' => ∃ a b c : Option V, h' = [] ∧ e = [some (.d (webD m T)), some (.d (.list ((lvlK (kidsW T T true m) [] j).map tupI))), a, b, c]) _ _ _ ⟨_, _, _, rfl, rfl⟩ (fun _ _ _ _ => trivial) ?_ ?_
  · rintro j e h' nx ⟨a, b, c, rfl, rfl⟩ hj hnx
    (((conv => whnf); repeat (refine And.intro (by (first | exact trivial | exact Nat.le_of_ble_eq_true rfl | omega | decide | rfl | (unfold big; omega) | assumption | exact ⟨by decide, by decide, lt4000 (by decide)⟩ | exact okMul_l (by decide) | exact okMul_r (by decide) | (first | rfl | exact shp_tupI _ | exact (shk_prs _).shp (by decide) | exact (shk_prD _).shp (by decide) | assumption) | exact .inl ⟨by (first | rfl | exact shp_tupI _ | exact (shk_prs _).shp (by decide) | exact (shk_prD _).shp (by decide) | assumption), by (first | rfl | exact shp_tupI _ | exact (shk_prs _).shp (by decide) | exact (shk_prD _).shp (by decide) | assumption)⟩ | exact .inr (.inr ⟨_, rfl, rfl⟩) | exact .inr (.inl ⟨_, rfl, rfl⟩))) ?_; conv => whnf)))
    rw [List.map_map]
    refine cmpW2_fm (V.d ∘ tupI) (fun w => (kidsW T T true m w).map (V.d ∘ tupI)) trivial _ [] ?_ ?_ ?_
    · intro w hw acc Q' hb qq
      (((conv => whnf); repeat (refine And.intro (by (first | exact trivial | exact Nat.le_of_ble_eq_true rfl | omega | decide | rfl | (unfold big; omega) | assumption | exact ⟨by decide, by decide, lt4000 (by decide)⟩ | exact okMul_l (by decide) | exact okMul_r (by decide) | (first | rfl | exact shp_tupI _ | exact (shk_prs _).shp (by decide) | exact (shk_prD _).shp (by decide) | assumption) | exact .inl ⟨by (first | rfl | exact shp_tupI _ | exact (shk_prs _).shp (by decide) | exact (shk_prD _).shp (by decide) | assumption), by (first | rfl | exact shp_tupI _ | exact (shk_prs _).shp (by decide) | exact (shk_prD _).shp (by decide) | assumption)⟩ | exact .inr (.inr ⟨_, rfl, rfl⟩) | exact .inr (.inl ⟨_, rfl, rfl⟩))) ?_; conv => whnf)))
      have hwl : w.length ≤ 1000 := by
        have : ∀ k w, w ∈ lvlK (kidsW T T true m) [] k → w.length = k := by
          intro k
          induction k with
          | zero => intro w hw; simp [lvlK] at hw; subst hw; rfl
          | succ k ih =>
            intro w hw
            obtain ⟨x, hx, hw⟩ := List.mem_flatMap.mp hw
            rw [kidsW_len hw, ih x hx]
        have := this _ w hw
        omega
      refine w_longer el (n := n) (by omega) h0 (by omega) hwl ?_
      (((conv => whnf); repeat (refine And.intro (by (first | exact trivial | exact Nat.le_of_ble_eq_true rfl | omega | decide | rfl | (unfold big; omega) | assumption | exact ⟨by decide, by decide, lt4000 (by decide)⟩ | exact okMul_l (by decide) | exact okMul_r (by decide) | (first | rfl | exact shp_tupI _ | exact (shk_prs _).shp (by decide) | exact (shk_prD _).shp (by decide) | assumption) | exact .inl ⟨by (first | rfl | exact shp_tupI _ | exact (shk_prs _).shp (by decide) | exact (shk_prD _).shp (by decide) | assumption), by (first | rfl | exact shp_tupI _ | exact (shk_prs _).shp (by decide) | exact (shk_prD _).shp (by decide) | assumption)⟩ | exact .inr (.inr ⟨_, rfl, rfl⟩) | exact .inr (.inl ⟨_, rfl, rfl⟩))) ?_; conv => whnf)))
      rw [List.map_map]
      refine cmpW_id trivial _ _ (fun x hx Q'' q2 => ?_) hb qq
      exact q2
    · have e : ((lvlK (kidsW T T true m) [] j).flatMap fun w => (kidsW T T true m w).map (V.d ∘ tupI)).length = (lvlK (kidsW T T true m) [] (j + 1)).length := by
        show _ = ((lvlK (kidsW T T true m) [] j).flatMap (kidsW T T true m)).length
        rw [List.length_flatMap, List.length_flatMap]
        simp
      rw [e]
      exact Nat.le_trans (show _ ≤ 3125 by have := hL (j + 1) (by omega); simpa using this) (by decide)
    · have e : ([] ++ (lvlK (kidsW T T true m) [] j).flatMap fun w => (kidsW T T true m w).map (V.d ∘ tupI)) = ((lvlK (kidsW T T true m) [] (j + 1)).map tupI).map V.d := by
        show _ = (((lvlK (kidsW T T true m) [] j).flatMap (kidsW T T true m)).map tupI).map V.d
        rw [List.nil_append, List.map_map, List.map_flatMap]
      rw [e]
      refine mkL_d ?_
      exact hnx _ _ ⟨_, _, _, rfl, rfl⟩
  · rintro e h' ⟨a, b, c, rfl, rfl⟩
    (((conv => whnf); repeat (refine And.intro (by (first | exact trivial | exact Nat.le_of_ble_eq_true rfl | omega | decide | rfl | (unfold big; omega) | assumption | exact ⟨by decide, by decide, lt4000 (by decide)⟩ | exact okMul_l (by decide) | exact okMul_r (by decide) | (first | rfl | exact shp_tupI _ | exact (shk_prs _).shp (by decide) | exact (shk_prD _).shp (by decide) | assumption) | exact .inl ⟨by (first | rfl | exact shp_tupI _ | exact (shk_prs _).shp (by decide) | exact (shk_prD _).shp (by decide) | assumption), by (first | rfl | exact shp_tupI _ | exact (shk_prs _).shp (by decide) | exact (shk_prD _).shp (by decide) | assumption)⟩ | exact .inr (.inr ⟨_, rfl, rfl⟩) | exact .inr (.inl ⟨_, rfl, rfl⟩))) ?_; conv => whnf)))
    rw [List.length_map]
    exact q
end Hb

/-! MK2: webs numbered otherwise, bent. -/
namespace Hb
open PySem
set_option autoImplicit false
/-- an item by a number -/
def gI (s : List Int) (i : Int) : Int := s.getD i.toNat 0
theorem atI_gI {s : List Int} {i : Int} {Q : D → Prop} (h0 : 0 ≤ i) (h1 : i < s.length) (q : Q (.int (gI s i))) : optP (L2.atI (s.map PyData.int) i) Q := by
  refine optP_ix h0 (by rw [List.length_map]; exact h1) fun x hx => ?_
  rw [List.getElem?_map] at hx
  unfold gI at q
  rw [List.getD_eq_getElem?_getD] at q
  cases e : s[i.toNat]? with
  | none => rw [e] at hx; cases hx
  | some y => rw [e] at hx q; cases hx; exact q
theorem gI_mem {s : List Int} {i : Int} (h0 : 0 ≤ i) (h1 : i < s.length) : gI s i ∈ s := by
  unfold gI
  rw [List.getD_eq_getElem?_getD, List.getElem?_eq_getElem (show i.toNat < s.length by omega)]
  exact List.getElem_mem _
theorem erase_map {α β : Type} (f : α → β) : ∀ (l : List α) (i : Nat), (l.eraseIdx i).map f = (l.map f).eraseIdx i
  | [], i => rfl
  | a :: l, 0 => rfl
  | a :: l, i + 1 => by show f a :: (l.eraseIdx i).map f = f a :: (l.map f).eraseIdx i; rw [erase_map f l i]
theorem ord2 (a b : Int) : sortI [a, b] = [mn a b, mx a b] := by
  show (if a ≤ b then [a, b] else [b, a]) = _
  unfold mn mx
  by_cases h : a ≤ b
  · rw [if_pos h, if_neg (by omega)]
    by_cases h2 : a < b
    · rw [if_pos h2]
    · rw [if_neg h2]; have : a = b := by omega
      rw [this]
  · rw [if_neg h, if_pos (by omega), if_neg (by omega)]
theorem insP_mem {x y : Int × Int} : ∀ {l : List (Int × Int)}, y ∈ insP x l ↔ y = x ∨ y ∈ l
  | [] => by simp [insP]
  | z :: l => by
    unfold insP
    split
    · rw [List.mem_cons, insP_mem, List.mem_cons]
      constructor
      · rintro (h | h | h)
        · exact .inr (.inl h)
        · exact .inl h
        · exact .inr (.inr h)
      · rintro (h | h | h)
        · exact .inr (.inl h)
        · exact .inl h
        · exact .inr (.inr h)
    · rw [List.mem_cons, List.mem_cons]
theorem sortP_mem {y : Int × Int} : ∀ {l : List (Int × Int)}, y ∈ sortP l ↔ y ∈ l
  | [] => Iff.rfl
  | z :: l => by
    show y ∈ insP z (sortP l) ↔ _
    rw [insP_mem, sortP_mem, List.mem_cons]
theorem insP_len {x : Int × Int} : ∀ l : List (Int × Int), (insP x l).length = l.length + 1
  | [] => rfl
  | z :: l => by
    unfold insP
    split
    · rw [List.length_cons, insP_len, List.length_cons]
    · rfl
theorem sortP_len : ∀ l : List (Int × Int), (sortP l).length = l.length
  | [] => rfl
  | z :: l => by show (insP z (sortP l)).length = _; rw [insP_len, sortP_len, List.length_cons]
theorem asPrs_of : ∀ l : List (Int × Int), asPrs (l.map prD) = some l
  | [] => rfl
  | p :: l => by
    show (match asPr (prD p) with | some p => (asPrs (l.map prD)).map (p :: ·) | none => none) = _
    rw [asPrs_of l]
    rfl
/-- sorted of pairs -/
theorem sorted_prs {l : List (Int × Int)} {Q : List D → Prop} (q : Q ((sortP l).map prD)) : optP (sortD (l.map prD)) Q := by
  have e : sortD (l.map prD) = some ((sortP l).map prD) := by
    unfold sortD
    cases l with
    | nil => rfl
    | cons p l =>
      have e : asInts ((p :: l).map prD) = none := rfl
      rw [e, asPrs_of]
  rw [e]
  exact q
/-- a web's pair by a row of spots -/
def putP (s : List Int) (p : Int × Int) : Int × Int := (mn (gI s p.1) (gI s p.2), mx (gI s p.1) (gI s p.2))
theorem mn_mx {a b : Int} (h : a ≠ b) : mn a b < mx a b := by unfold mn mx; split <;> split <;> omega
theorem mn_lo {a b c : Int} (h1 : c ≤ a) (h2 : c ≤ b) : c ≤ mn a b := by unfold mn; split <;> omega
theorem mx_hi {a b c : Int} (h1 : a < c) (h2 : b < c) : mx a b < c := by unfold mx; split <;> omega
theorem rngI_nodup (m : Int) : (rngI m).Nodup := by
  unfold rngI
  rw [List.nodup_iff_pairwise_ne, List.pairwise_map]
  exact List.Pairwise.imp (fun h => by omega) (List.nodup_iff_pairwise_ne.mp List.nodup_range)
theorem gI_inj {s : List Int} (hs : s.Nodup) {i j : Int} (h0 : 0 ≤ i) (h1 : i < s.length) (h2 : 0 ≤ j) (h3 : j < s.length) (e : gI s i = gI s j) : i = j := by
  unfold gI at e
  rw [List.getD_eq_getElem?_getD, List.getD_eq_getElem?_getD, List.getElem?_eq_getElem (show i.toNat < s.length by omega), List.getElem?_eq_getElem (show j.toNat < s.length by omega)] at e
  have := (List.getElem_inj hs).mp e
  omega
theorem putP_ties {m : Int} {s : List Int} (hs : s.Perm (rngI m)) {T : List (Int × Int)} (hT : Ties m T) : Ties m (sortP (T.map (putP s))) := by
  intro p hp
  rw [sortP_mem] at hp
  obtain ⟨x, hx, rfl⟩ := List.mem_map.mp hp
  obtain ⟨h1, h2, h3⟩ := hT x hx
  have hl : (s.length : Int) = m.toNat := by rw [hs.length_eq, rngI_len]
  have nd : s.Nodup := hs.nodup_iff.mpr (rngI_nodup m)
  have a := rngI_mem (hs.mem_iff.mp (gI_mem (s := s) (i := x.1) h1 (by omega)))
  have b := rngI_mem (hs.mem_iff.mp (gI_mem (s := s) (i := x.2) (by omega) (by omega)))
  have ne : gI s x.1 ≠ gI s x.2 := fun e => by
    have := gI_inj nd h1 (by omega) (by omega) (by omega) e
    omega
  exact ⟨mn_lo a.1 b.1, mn_mx ne, mx_hi a.2 b.2⟩
theorem w_numbered {FT : List FnI} {g : Nat} (c0 : C__law_numbered_k02 FT g) {n : Nat} (hn : 2 ≤ n) {h : Hp} {k t : Nat} {m : Int} {T : List (Int × Int)} {xs : List D} (hk : h[k]? = some (.lst xs)) (hp : Pch t xs) (ht : t + 2000 < 2 ^ 60) (hm : 0 ≤ m) (hm2 : m ≤ 30) (hT : Ties m T) (hl : T.length ≤ 900) {P : Pv} {X : Px}
    (q : ∀ s ys, s.Perm (rngI m) → Pch (t + 1000) ys → P (.d (webD m (sortP (T.map (putP s))))) (h.set k (.lst ys))) : callN FT n g [.cell k, .d (webD m T)] h P X := by
  obtain ⟨n, rfl⟩ : ∃ m, n = m + 1 := ⟨n - 1, by omega⟩
  obtain ⟨fr, ef, er⟩ := c0
  refine callN_c (ds := [webD m T]) (fn := ix__law_numbered_k02 fr) ef rfl rfl hk ?_
  (((conv => whnf); repeat (refine And.intro (by (first | exact trivial | exact Nat.le_of_ble_eq_true rfl | omega | decide | rfl | (unfold big; omega) | assumption | exact ⟨by decide, by decide, lt4000 (by decide)⟩ | exact okMul_l (by decide) | exact okMul_r (by decide) | (first | rfl | exact shp_tupI _ | exact (shk_prs _).shp (by decide) | exact (shk_prD _).shp (by decide) | assumption) | exact .inl ⟨by (first | rfl | exact shp_tupI _ | exact (shk_prs _).shp (by decide) | exact (shk_prD _).shp (by decide) | assumption), by (first | rfl | exact shp_tupI _ | exact (shk_prs _).shp (by decide) | exact (shk_prD _).shp (by decide) | assumption)⟩ | exact .inr (.inr ⟨_, rfl, rfl⟩) | exact .inr (.inl ⟨_, rfl, rfl⟩))) ?_; conv => whnf)))
  refine cmpW_at (fun l acc h' => ∃ (j : Nat) (a : Int) (L A : List Int) (zs : List D), l = (ranI a j).map V.d ∧ L.length = j ∧ acc = (A.map PyData.int).map V.d ∧ h' = [.lst zs, .lst (L.map PyData.int)] ∧ Pch (t + (30 - j)) zs ∧ j ≤ 30 ∧ A.length ≤ 30 ∧ (A ++ L).Perm (rngI m)) _ _ _ ?_ ?_ ?_ ?_
  · refine ⟨m.toNat, 0, rngI m, [], xs, rfl, rngI_len m, rfl, ?_, hp.mono (by omega), by omega, by decide, List.Perm.refl _⟩
    rw [← ran0_rng]
    rfl
  · rintro l acc h' ⟨j, a, L, A, zs, rfl, rfl, rfl, rfl, hp, hj, hA, hpm⟩
    exact ⟨trivial, Nat.lt_of_le_of_lt (show _ ≤ 30 by rw [List.length_map, List.length_map]; exact hA) (by decide)⟩
  · rintro x l acc h' Q' ⟨j, a, L, A, zs, hl, rfl, rfl, rfl, hp, hj, hA, hpm⟩ hs hn
    cases L with
    | nil => cases hl
    | cons b L =>
      cases hl
      (((conv => whnf); repeat (refine And.intro (by (first | exact trivial | exact Nat.le_of_ble_eq_true rfl | omega | decide | rfl | (unfold big; omega) | assumption | exact ⟨by decide, by decide, lt4000 (by decide)⟩ | exact okMul_l (by decide) | exact okMul_r (by decide) | (first | rfl | exact shp_tupI _ | exact (shk_prs _).shp (by decide) | exact (shk_prD _).shp (by decide) | assumption) | exact .inl ⟨by (first | rfl | exact shp_tupI _ | exact (shk_prs _).shp (by decide) | exact (shk_prD _).shp (by decide) | assumption), by (first | rfl | exact shp_tupI _ | exact (shk_prs _).shp (by decide) | exact (shk_prD _).shp (by decide) | assumption)⟩ | exact .inr (.inr ⟨_, rfl, rfl⟩) | exact .inr (.inl ⟨_, rfl, rfl⟩))) ?_; conv => whnf)))
      have hlen : ((b :: L).map PyData.int).length = L.length + 1 := by rw [List.length_map, List.length_cons]
      rw [hlen]
      refine w_reach er (n := n) (by omega) (h := [.lst zs, .lst ((b :: L).map PyData.int)]) rfl hp (by omega) (by omega) (by simp only [List.length_cons] at hj; omega) fun v ys v0 v1 hp => ?_
      (((conv => whnf); repeat (refine And.intro (by (first | exact trivial | exact Nat.le_of_ble_eq_true rfl | omega | decide | rfl | (unfold big; omega) | assumption | exact ⟨by decide, by decide, lt4000 (by decide)⟩ | exact okMul_l (by decide) | exact okMul_r (by decide) | (first | rfl | exact shp_tupI _ | exact (shk_prs _).shp (by decide) | exact (shk_prD _).shp (by decide) | assumption) | exact .inl ⟨by (first | rfl | exact shp_tupI _ | exact (shk_prs _).shp (by decide) | exact (shk_prD _).shp (by decide) | assumption), by (first | rfl | exact shp_tupI _ | exact (shk_prs _).shp (by decide) | exact (shk_prD _).shp (by decide) | assumption)⟩ | exact .inr (.inr ⟨_, rfl, rfl⟩) | exact .inr (.inl ⟨_, rfl, rfl⟩))) ?_; conv => whnf)))
      have hv : v.toNat < (b :: L).length := by simp only [List.length_cons]; omega
      have e1 : L2.ixN ((b :: L).map PyData.int).length v = some v.toNat := by
        unfold L2.ixN
        rw [if_pos v0, if_pos (by rw [hlen]; omega)]
      rw [e1]
      (((conv => whnf); repeat (refine And.intro (by (first | exact trivial | exact Nat.le_of_ble_eq_true rfl | omega | decide | rfl | (unfold big; omega) | assumption | exact ⟨by decide, by decide, lt4000 (by decide)⟩ | exact okMul_l (by decide) | exact okMul_r (by decide) | (first | rfl | exact shp_tupI _ | exact (shk_prs _).shp (by decide) | exact (shk_prD _).shp (by decide) | assumption) | exact .inl ⟨by (first | rfl | exact shp_tupI _ | exact (shk_prs _).shp (by decide) | exact (shk_prD _).shp (by decide) | assumption), by (first | rfl | exact shp_tupI _ | exact (shk_prs _).shp (by decide) | exact (shk_prD _).shp (by decide) | assumption)⟩ | exact .inr (.inr ⟨_, rfl, rfl⟩) | exact .inr (.inl ⟨_, rfl, rfl⟩))) ?_; conv => whnf)))
      rw [List.getElem?_map, List.getElem?_eq_getElem hv]
      (((conv => whnf); repeat (refine And.intro (by (first | exact trivial | exact Nat.le_of_ble_eq_true rfl | omega | decide | rfl | (unfold big; omega) | assumption | exact ⟨by decide, by decide, lt4000 (by decide)⟩ | exact okMul_l (by decide) | exact okMul_r (by decide) | (first | rfl | exact shp_tupI _ | exact (shk_prs _).shp (by decide) | exact (shk_prD _).shp (by decide) | assumption) | exact .inl ⟨by (first | rfl | exact shp_tupI _ | exact (shk_prs _).shp (by decide) | exact (shk_prD _).shp (by decide) | assumption), by (first | rfl | exact shp_tupI _ | exact (shk_prs _).shp (by decide) | exact (shk_prD _).shp (by decide) | assumption)⟩ | exact .inr (.inr ⟨_, rfl, rfl⟩) | exact .inr (.inl ⟨_, rfl, rfl⟩))) ?_; conv => whnf)))
      have pm := erase_perm _ _ hv
      refine hs _ _ ⟨L.length, a + 1, (b :: L).eraseIdx v.toNat, A ++ [(b :: L)[v.toNat]], ys, rfl, ?_, ?_, ?_, hp.mono (by simp only [List.length_cons] at hj ⊢; omega), by simp only [List.length_cons] at hj; omega, ?_, ?_⟩
      · rw [List.length_eraseIdx_of_lt hv]; rfl
      · rw [List.map_append, List.map_append]; rfl
      · rw [← erase_map]
        rfl
      · have := hpm.length_eq
        rw [List.length_append, rngI_len] at this
        simp only [List.length_append, List.length_cons, List.length_nil] at this ⊢
        omega
      · rw [List.append_assoc]
        refine List.Perm.trans (List.Perm.append_left A ?_) hpm
        exact pm
  · rintro acc h' ⟨j, a, L, A, zs, hl0, rfl, rfl, rfl, hp, hj, hA, hpm⟩
    cases L with
    | cons b L => cases hl0
    | nil =>
      rw [List.append_nil] at hpm
      have hAl : (A.length : Int) = m := by have := hpm.length_eq; rw [rngI_len] at this; omega
      refine mkL_d ?_
      (((conv => whnf); repeat (refine And.intro (by (first | exact trivial | exact Nat.le_of_ble_eq_true rfl | omega | decide | rfl | (unfold big; omega) | assumption | exact ⟨by decide, by decide, lt4000 (by decide)⟩ | exact okMul_l (by decide) | exact okMul_r (by decide) | (first | rfl | exact shp_tupI _ | exact (shk_prs _).shp (by decide) | exact (shk_prD _).shp (by decide) | assumption) | exact .inl ⟨by (first | rfl | exact shp_tupI _ | exact (shk_prs _).shp (by decide) | exact (shk_prD _).shp (by decide) | assumption), by (first | rfl | exact shp_tupI _ | exact (shk_prs _).shp (by decide) | exact (shk_prD _).shp (by decide) | assumption)⟩ | exact .inr (.inr ⟨_, rfl, rfl⟩) | exact .inr (.inl ⟨_, rfl, rfl⟩))) ?_; conv => whnf)))
      refine cmpW_mp prD (fun p : Int × Int => .list [.int p.1, .int p.2]) (putP A) trivial T (fun p hp0 Q' qq => ?_) (Nat.le_trans hl (by decide)) (mkL_d ?_)
      · obtain ⟨h1, h2, h3⟩ := hT p hp0
        (((conv => whnf); repeat (refine And.intro (by (first | exact trivial | exact Nat.le_of_ble_eq_true rfl | omega | decide | rfl | (unfold big; omega) | assumption | exact ⟨by decide, by decide, lt4000 (by decide)⟩ | exact okMul_l (by decide) | exact okMul_r (by decide) | (first | rfl | exact shp_tupI _ | exact (shk_prs _).shp (by decide) | exact (shk_prD _).shp (by decide) | assumption) | exact .inl ⟨by (first | rfl | exact shp_tupI _ | exact (shk_prs _).shp (by decide) | exact (shk_prD _).shp (by decide) | assumption), by (first | rfl | exact shp_tupI _ | exact (shk_prs _).shp (by decide) | exact (shk_prD _).shp (by decide) | assumption)⟩ | exact .inr (.inr ⟨_, rfl, rfl⟩) | exact .inr (.inl ⟨_, rfl, rfl⟩))) ?_; conv => whnf)))
        refine atI_gI h1 (by omega) ?_
        (((conv => whnf); repeat (refine And.intro (by (first | exact trivial | exact Nat.le_of_ble_eq_true rfl | omega | decide | rfl | (unfold big; omega) | assumption | exact ⟨by decide, by decide, lt4000 (by decide)⟩ | exact okMul_l (by decide) | exact okMul_r (by decide) | (first | rfl | exact shp_tupI _ | exact (shk_prs _).shp (by decide) | exact (shk_prD _).shp (by decide) | assumption) | exact .inl ⟨by (first | rfl | exact shp_tupI _ | exact (shk_prs _).shp (by decide) | exact (shk_prD _).shp (by decide) | assumption), by (first | rfl | exact shp_tupI _ | exact (shk_prs _).shp (by decide) | exact (shk_prD _).shp (by decide) | assumption)⟩ | exact .inr (.inr ⟨_, rfl, rfl⟩) | exact .inr (.inl ⟨_, rfl, rfl⟩))) ?_; conv => whnf)))
        refine atI_gI (by omega) (by omega) ?_
        (((conv => whnf); repeat (refine And.intro (by (first | exact trivial | exact Nat.le_of_ble_eq_true rfl | omega | decide | rfl | (unfold big; omega) | assumption | exact ⟨by decide, by decide, lt4000 (by decide)⟩ | exact okMul_l (by decide) | exact okMul_r (by decide) | (first | rfl | exact shp_tupI _ | exact (shk_prs _).shp (by decide) | exact (shk_prD _).shp (by decide) | assumption) | exact .inl ⟨by (first | rfl | exact shp_tupI _ | exact (shk_prs _).shp (by decide) | exact (shk_prD _).shp (by decide) | assumption), by (first | rfl | exact shp_tupI _ | exact (shk_prs _).shp (by decide) | exact (shk_prD _).shp (by decide) | assumption)⟩ | exact .inr (.inr ⟨_, rfl, rfl⟩) | exact .inr (.inl ⟨_, rfl, rfl⟩))) ?_; conv => whnf)))
        have e := ord2 (gI A p.1) (gI A p.2)
        show Q' (some (V.d (.list ((sortI [gI A p.1, gI A p.2]).map PyData.int)))) _
        rw [e]
        exact qq
      · (((conv => whnf); repeat (refine And.intro (by (first | exact trivial | exact Nat.le_of_ble_eq_true rfl | omega | decide | rfl | (unfold big; omega) | assumption | exact ⟨by decide, by decide, lt4000 (by decide)⟩ | exact okMul_l (by decide) | exact okMul_r (by decide) | (first | rfl | exact shp_tupI _ | exact (shk_prs _).shp (by decide) | exact (shk_prD _).shp (by decide) | assumption) | exact .inl ⟨by (first | rfl | exact shp_tupI _ | exact (shk_prs _).shp (by decide) | exact (shk_prD _).shp (by decide) | assumption), by (first | rfl | exact shp_tupI _ | exact (shk_prs _).shp (by decide) | exact (shk_prD _).shp (by decide) | assumption)⟩ | exact .inr (.inr ⟨_, rfl, rfl⟩) | exact .inr (.inl ⟨_, rfl, rfl⟩))) ?_; conv => whnf)))
        refine cmpW_mp (fun p : Int × Int => PyData.list [.int p.1, .int p.2]) prD id trivial (T.map (putP A)) (fun p hp0 Q' qq => ?_) (by rw [List.length_map]; exact Nat.le_trans hl (by decide)) (mkL_d ?_)
        · (((conv => whnf); repeat (refine And.intro (by (first | exact trivial | exact Nat.le_of_ble_eq_true rfl | omega | decide | rfl | (unfold big; omega) | assumption | exact ⟨by decide, by decide, lt4000 (by decide)⟩ | exact okMul_l (by decide) | exact okMul_r (by decide) | (first | rfl | exact shp_tupI _ | exact (shk_prs _).shp (by decide) | exact (shk_prD _).shp (by decide) | assumption) | exact .inl ⟨by (first | rfl | exact shp_tupI _ | exact (shk_prs _).shp (by decide) | exact (shk_prD _).shp (by decide) | assumption), by (first | rfl | exact shp_tupI _ | exact (shk_prs _).shp (by decide) | exact (shk_prD _).shp (by decide) | assumption)⟩ | exact .inr (.inr ⟨_, rfl, rfl⟩) | exact .inr (.inl ⟨_, rfl, rfl⟩))) ?_; conv => whnf)))
          exact qq
        · rw [List.map_id]
          (((conv => whnf); repeat (refine And.intro (by (first | exact trivial | exact Nat.le_of_ble_eq_true rfl | omega | decide | rfl | (unfold big; omega) | assumption | exact ⟨by decide, by decide, lt4000 (by decide)⟩ | exact okMul_l (by decide) | exact okMul_r (by decide) | (first | rfl | exact shp_tupI _ | exact (shk_prs _).shp (by decide) | exact (shk_prD _).shp (by decide) | assumption) | exact .inl ⟨by (first | rfl | exact shp_tupI _ | exact (shk_prs _).shp (by decide) | exact (shk_prD _).shp (by decide) | assumption), by (first | rfl | exact shp_tupI _ | exact (shk_prs _).shp (by decide) | exact (shk_prD _).shp (by decide) | assumption)⟩ | exact .inr (.inr ⟨_, rfl, rfl⟩) | exact .inr (.inl ⟨_, rfl, rfl⟩))) ?_; conv => whnf)))
          refine sorted_prs ?_
          (((conv => whnf); repeat (refine And.intro (by (first | exact trivial | exact Nat.le_of_ble_eq_true rfl | omega | decide | rfl | (unfold big; omega) | assumption | exact ⟨by decide, by decide, lt4000 (by decide)⟩ | exact okMul_l (by decide) | exact okMul_r (by decide) | (first | rfl | exact shp_tupI _ | exact (shk_prs _).shp (by decide) | exact (shk_prD _).shp (by decide) | assumption) | exact .inl ⟨by (first | rfl | exact shp_tupI _ | exact (shk_prs _).shp (by decide) | exact (shk_prD _).shp (by decide) | assumption), by (first | rfl | exact shp_tupI _ | exact (shk_prs _).shp (by decide) | exact (shk_prD _).shp (by decide) | assumption)⟩ | exact .inr (.inr ⟨_, rfl, rfl⟩) | exact .inr (.inl ⟨_, rfl, rfl⟩))) ?_; conv => whnf)))
          exact q A zs hpm (hp.mono (by simp only [List.length_nil]; omega))
theorem w_bent {FT : List FnI} {g : Nat} (c0 : C__law_bent_k02 FT g) {n : Nat} (hn : 2 ≤ n) {h : Hp} {k t : Nat} {m : Int} {T : List (Int × Int)} {xs : List D} (hk : h[k]? = some (.lst xs)) (hp : Pch t xs) (ht : t + 2000 < 2 ^ 60) (hm : 0 ≤ m) (hm2 : m ≤ 30) (hT : Ties m T) (hl : T.length ≤ 900) {P : Pv} {X : Px}
    (q : ∀ T' ys, Ties m T' → T'.length ≤ T.length + 1 → Pch (t + 1) ys → P (.d (webD m T')) (h.set k (.lst ys))) : callN FT n g [.cell k, .d (webD m T)] h P X := by
  obtain ⟨n, rfl⟩ : ∃ m, n = m + 1 := ⟨n - 1, by omega⟩
  obtain ⟨fp, fr, ef, ep, er⟩ := c0
  refine callN_c (ds := [webD m T]) (fn := ix__law_bent_k02 fp fr) ef rfl rfl hk ?_
  (((conv => whnf); repeat (refine And.intro (by (first | exact trivial | exact Nat.le_of_ble_eq_true rfl | omega | decide | rfl | (unfold big; omega) | assumption | exact ⟨by decide, by decide, lt4000 (by decide)⟩ | exact okMul_l (by decide) | exact okMul_r (by decide) | (first | rfl | exact shp_tupI _ | exact (shk_prs _).shp (by decide) | exact (shk_prD _).shp (by decide) | assumption) | exact .inl ⟨by (first | rfl | exact shp_tupI _ | exact (shk_prs _).shp (by decide) | exact (shk_prD _).shp (by decide) | assumption), by (first | rfl | exact shp_tupI _ | exact (shk_prs _).shp (by decide) | exact (shk_prD _).shp (by decide) | assumption)⟩ | exact .inr (.inr ⟨_, rfl, rfl⟩) | exact .inr (.inl ⟨_, rfl, rfl⟩))) ?_; conv => whnf)))
  refine w_pairs ep (n := n) (by omega) hm hm2 ?_
  (((conv => whnf); repeat (refine And.intro (by (first | exact trivial | exact Nat.le_of_ble_eq_true rfl | omega | decide | rfl | (unfold big; omega) | assumption | exact ⟨by decide, by decide, lt4000 (by decide)⟩ | exact okMul_l (by decide) | exact okMul_r (by decide) | (first | rfl | exact shp_tupI _ | exact (shk_prs _).shp (by decide) | exact (shk_prD _).shp (by decide) | assumption) | exact .inl ⟨by (first | rfl | exact shp_tupI _ | exact (shk_prs _).shp (by decide) | exact (shk_prD _).shp (by decide) | assumption), by (first | rfl | exact shp_tupI _ | exact (shk_prs _).shp (by decide) | exact (shk_prD _).shp (by decide) | assumption)⟩ | exact .inr (.inr ⟨_, rfl, rfl⟩) | exact .inr (.inl ⟨_, rfl, rfl⟩))) ?_; conv => whnf)))
  rw [eqv_lnil]
  have hL : (allP m).length ≤ 900 := Nat.le_trans (pairsP_len hm2 (by omega)) (by omega)
  cases e : allP m with
  | nil =>
    exact q T xs hT (by omega) (hp.mono (by omega))
  | cons p0 ps =>
    rw [← e]
    have hlen : 0 < (allP m).length := by rw [e]; exact Nat.succ_pos _
    rw [show ((allP m).map prD).isEmpty = false by rw [e]; rfl]
    (((conv => whnf); repeat (refine And.intro (by (first | exact trivial | exact Nat.le_of_ble_eq_true rfl | omega | decide | rfl | (unfold big; omega) | assumption | exact ⟨by decide, by decide, lt4000 (by decide)⟩ | exact okMul_l (by decide) | exact okMul_r (by decide) | (first | rfl | exact shp_tupI _ | exact (shk_prs _).shp (by decide) | exact (shk_prD _).shp (by decide) | assumption) | exact .inl ⟨by (first | rfl | exact shp_tupI _ | exact (shk_prs _).shp (by decide) | exact (shk_prD _).shp (by decide) | assumption), by (first | rfl | exact shp_tupI _ | exact (shk_prs _).shp (by decide) | exact (shk_prD _).shp (by decide) | assumption)⟩ | exact .inr (.inr ⟨_, rfl, rfl⟩) | exact .inr (.inl ⟨_, rfl, rfl⟩))) ?_; conv => whnf)))
    refine w_reach er (n := n) (by omega) (h := [.lst xs]) rfl hp (by omega) (by rw [List.length_map]; omega) (by rw [List.length_map]; omega) fun v ys v0 v1 hp => ?_
    (((conv => whnf); repeat (refine And.intro (by (first | exact trivial | exact Nat.le_of_ble_eq_true rfl | omega | decide | rfl | (unfold big; omega) | assumption | exact ⟨by decide, by decide, lt4000 (by decide)⟩ | exact okMul_l (by decide) | exact okMul_r (by decide) | (first | rfl | exact shp_tupI _ | exact (shk_prs _).shp (by decide) | exact (shk_prD _).shp (by decide) | assumption) | exact .inl ⟨by (first | rfl | exact shp_tupI _ | exact (shk_prs _).shp (by decide) | exact (shk_prD _).shp (by decide) | assumption), by (first | rfl | exact shp_tupI _ | exact (shk_prs _).shp (by decide) | exact (shk_prD _).shp (by decide) | assumption)⟩ | exact .inr (.inr ⟨_, rfl, rfl⟩) | exact .inr (.inl ⟨_, rfl, rfl⟩))) ?_; conv => whnf)))
    refine optP_at v0 v1 fun x hx => ?_
    obtain ⟨p, hpm, rfl⟩ := List.mem_map.mp hx
    (((conv => whnf); repeat (refine And.intro (by (first | exact trivial | exact Nat.le_of_ble_eq_true rfl | omega | decide | rfl | (unfold big; omega) | assumption | exact ⟨by decide, by decide, lt4000 (by decide)⟩ | exact okMul_l (by decide) | exact okMul_r (by decide) | (first | rfl | exact shp_tupI _ | exact (shk_prs _).shp (by decide) | exact (shk_prD _).shp (by decide) | assumption) | exact .inl ⟨by (first | rfl | exact shp_tupI _ | exact (shk_prs _).shp (by decide) | exact (shk_prD _).shp (by decide) | assumption), by (first | rfl | exact shp_tupI _ | exact (shk_prs _).shp (by decide) | exact (shk_prD _).shp (by decide) | assumption)⟩ | exact .inr (.inr ⟨_, rfl, rfl⟩) | exact .inr (.inl ⟨_, rfl, rfl⟩))) ?_; conv => whnf)))
    refine cmpW_mm prD prD (fun y => if y = p then none else some y) trivial T (fun y hy Q' qq => ?_) (Nat.le_trans hl (by decide)) ?_
    · (((conv => whnf); repeat (refine And.intro (by (first | exact trivial | exact Nat.le_of_ble_eq_true rfl | omega | decide | rfl | (unfold big; omega) | assumption | exact ⟨by decide, by decide, lt4000 (by decide)⟩ | exact okMul_l (by decide) | exact okMul_r (by decide) | (first | rfl | exact shp_tupI _ | exact (shk_prs _).shp (by decide) | exact (shk_prD _).shp (by decide) | assumption) | exact .inl ⟨by (first | rfl | exact shp_tupI _ | exact (shk_prs _).shp (by decide) | exact (shk_prD _).shp (by decide) | assumption), by (first | rfl | exact shp_tupI _ | exact (shk_prs _).shp (by decide) | exact (shk_prD _).shp (by decide) | assumption)⟩ | exact .inr (.inr ⟨_, rfl, rfl⟩) | exact .inr (.inl ⟨_, rfl, rfl⟩))) ?_; conv => whnf)))
      rw [eqv_prD]
      by_cases h1 : y = p
      · rw [decide_eq_true h1]
        rw [if_pos h1] at qq
        exact qq
      · rw [decide_eq_false h1]
        rw [if_neg h1] at qq
        exact qq
    · have hsub : ∀ y ∈ T.filterMap (fun y => if y = p then none else some y), y ∈ T := by
        intro y hy
        obtain ⟨z, hz, ez⟩ := List.mem_filterMap.mp hy
        split at ez
        · cases ez
        · cases ez; exact hz
      have hle := List.length_filterMap_le (fun y => if y = p then none else some y) T
      generalize T.filterMap (fun y => if y = p then none else some y) = L at hsub hle ⊢
      have ok := allP_ok m p hpm
      refine mkL_c ?_
      (((conv => whnf); repeat (refine And.intro (by (first | exact trivial | exact Nat.le_of_ble_eq_true rfl | omega | decide | rfl | (unfold big; omega) | assumption | exact ⟨by decide, by decide, lt4000 (by decide)⟩ | exact okMul_l (by decide) | exact okMul_r (by decide) | (first | rfl | exact shp_tupI _ | exact (shk_prs _).shp (by decide) | exact (shk_prD _).shp (by decide) | assumption) | exact .inl ⟨by (first | rfl | exact shp_tupI _ | exact (shk_prs _).shp (by decide) | exact (shk_prD _).shp (by decide) | assumption), by (first | rfl | exact shp_tupI _ | exact (shk_prs _).shp (by decide) | exact (shk_prD _).shp (by decide) | assumption)⟩ | exact .inr (.inr ⟨_, rfl, rfl⟩) | exact .inr (.inl ⟨_, rfl, rfl⟩))) ?_; conv => whnf)))
      rw [List.length_map, List.length_map]
      cases decide ((L.length : Int) = T.length) with
      | true =>
        (((conv => whnf); repeat (refine And.intro (by (first | exact trivial | exact Nat.le_of_ble_eq_true rfl | omega | decide | rfl | (unfold big; omega) | assumption | exact ⟨by decide, by decide, lt4000 (by decide)⟩ | exact okMul_l (by decide) | exact okMul_r (by decide) | (first | rfl | exact shp_tupI _ | exact (shk_prs _).shp (by decide) | exact (shk_prD _).shp (by decide) | assumption) | exact .inl ⟨by (first | rfl | exact shp_tupI _ | exact (shk_prs _).shp (by decide) | exact (shk_prD _).shp (by decide) | assumption), by (first | rfl | exact shp_tupI _ | exact (shk_prs _).shp (by decide) | exact (shk_prD _).shp (by decide) | assumption)⟩ | exact .inr (.inr ⟨_, rfl, rfl⟩) | exact .inr (.inl ⟨_, rfl, rfl⟩))) ?_; conv => whnf)))
        refine And.intro (by rw [List.length_map]; exact Nat.lt_of_le_of_lt (show _ ≤ 900 by omega) (by decide)) ?_
        (((conv => whnf); repeat (refine And.intro (by (first | exact trivial | exact Nat.le_of_ble_eq_true rfl | omega | decide | rfl | (unfold big; omega) | assumption | exact ⟨by decide, by decide, lt4000 (by decide)⟩ | exact okMul_l (by decide) | exact okMul_r (by decide) | (first | rfl | exact shp_tupI _ | exact (shk_prs _).shp (by decide) | exact (shk_prD _).shp (by decide) | assumption) | exact .inl ⟨by (first | rfl | exact shp_tupI _ | exact (shk_prs _).shp (by decide) | exact (shk_prD _).shp (by decide) | assumption), by (first | rfl | exact shp_tupI _ | exact (shk_prs _).shp (by decide) | exact (shk_prD _).shp (by decide) | assumption)⟩ | exact .inr (.inr ⟨_, rfl, rfl⟩) | exact .inr (.inl ⟨_, rfl, rfl⟩))) ?_; conv => whnf)))
        rw [show L.map prD ++ [prD p] = (L ++ [p]).map prD by rw [List.map_append]; rfl]
        refine sorted_prs ?_
        (((conv => whnf); repeat (refine And.intro (by (first | exact trivial | exact Nat.le_of_ble_eq_true rfl | omega | decide | rfl | (unfold big; omega) | assumption | exact ⟨by decide, by decide, lt4000 (by decide)⟩ | exact okMul_l (by decide) | exact okMul_r (by decide) | (first | rfl | exact shp_tupI _ | exact (shk_prs _).shp (by decide) | exact (shk_prD _).shp (by decide) | assumption) | exact .inl ⟨by (first | rfl | exact shp_tupI _ | exact (shk_prs _).shp (by decide) | exact (shk_prD _).shp (by decide) | assumption), by (first | rfl | exact shp_tupI _ | exact (shk_prs _).shp (by decide) | exact (shk_prD _).shp (by decide) | assumption)⟩ | exact .inr (.inr ⟨_, rfl, rfl⟩) | exact .inr (.inl ⟨_, rfl, rfl⟩))) ?_; conv => whnf)))
        refine q _ ys (fun y hy => ?_) (by rw [sortP_len, List.length_append, List.length_singleton]; omega) hp
        rw [sortP_mem] at hy
        rcases List.mem_append.mp hy with hy | hy
        · exact hT y (hsub y hy)
        · simp at hy; subst hy; exact ok
      | false =>
        (((conv => whnf); repeat (refine And.intro (by (first | exact trivial | exact Nat.le_of_ble_eq_true rfl | omega | decide | rfl | (unfold big; omega) | assumption | exact ⟨by decide, by decide, lt4000 (by decide)⟩ | exact okMul_l (by decide) | exact okMul_r (by decide) | (first | rfl | exact shp_tupI _ | exact (shk_prs _).shp (by decide) | exact (shk_prD _).shp (by decide) | assumption) | exact .inl ⟨by (first | rfl | exact shp_tupI _ | exact (shk_prs _).shp (by decide) | exact (shk_prD _).shp (by decide) | assumption), by (first | rfl | exact shp_tupI _ | exact (shk_prs _).shp (by decide) | exact (shk_prD _).shp (by decide) | assumption)⟩ | exact .inr (.inr ⟨_, rfl, rfl⟩) | exact .inr (.inl ⟨_, rfl, rfl⟩))) ?_; conv => whnf)))
        refine sorted_prs ?_
        (((conv => whnf); repeat (refine And.intro (by (first | exact trivial | exact Nat.le_of_ble_eq_true rfl | omega | decide | rfl | (unfold big; omega) | assumption | exact ⟨by decide, by decide, lt4000 (by decide)⟩ | exact okMul_l (by decide) | exact okMul_r (by decide) | (first | rfl | exact shp_tupI _ | exact (shk_prs _).shp (by decide) | exact (shk_prD _).shp (by decide) | assumption) | exact .inl ⟨by (first | rfl | exact shp_tupI _ | exact (shk_prs _).shp (by decide) | exact (shk_prD _).shp (by decide) | assumption), by (first | rfl | exact shp_tupI _ | exact (shk_prs _).shp (by decide) | exact (shk_prD _).shp (by decide) | assumption)⟩ | exact .inr (.inr ⟨_, rfl, rfl⟩) | exact .inr (.inl ⟨_, rfl, rfl⟩))) ?_; conv => whnf)))
        refine q _ ys (fun y hy => ?_) (by rw [sortP_len]; omega) hp
        rw [sortP_mem] at hy
        exact hT y (hsub y hy)
/-! ### all orders -/
def bigK (m : Int) (w : List Int) : List (List Int) := ((rngI m).filter fun p => !decide (p ∈ w)).map fun p => w ++ [p]
theorem bigK_many (m : Int) (w : List Int) : (bigK m w).length ≤ m.toNat := by
  unfold bigK
  rw [List.length_map, ← rngI_len m]
  exact List.length_filter_le _ _
theorem lvl_len {kids : List Int → List (List Int)} (hk : ∀ w x, x ∈ kids w → x.length = w.length + 1) : ∀ (k : Nat) w, w ∈ lvlK kids [] k → w.length = k := by
  intro k
  induction k with
  | zero => intro w hw; simp [lvlK] at hw; subst hw; rfl
  | succ k ih =>
    intro w hw
    obtain ⟨x, hx, hw⟩ := List.mem_flatMap.mp hw
    rw [hk x w hw, ih x hx]
theorem bigK_len {m : Int} (w x : List Int) (h : x ∈ bigK m w) : x.length = w.length + 1 := by
  unfold bigK at h
  obtain ⟨p, _, rfl⟩ := List.mem_map.mp h
  simp
theorem pow5 {m : Int} (h : m ≤ 5) {k : Nat} (hk : k ≤ 5) : m.toNat ^ k ≤ 3125 := by
  rcases Nat.eq_zero_or_pos k with z | z
  · subst z; rw [Nat.pow_zero]; decide
  · exact Nat.le_trans (Nat.pow_le_pow_left (show m.toNat ≤ 5 by omega) _) (Nat.pow_le_pow_right (n := 5) (by omega) hk)
theorem w_whole {FT : List FnI} {g : Nat} (c0 : C__law_whole_k02 FT g) {n : Nat} (hn : 1 ≤ n) {h : Hp} {i : Int} {P : Pv} {X : Px} (q : P (.d (.bool true)) h) : callN FT n g [.d (.int i)] h P X := by
  obtain ⟨n, rfl⟩ : ∃ m, n = m + 1 := ⟨n - 1, by omega⟩
  refine callN_d (ds := [.int i]) (fn := ix__law_whole_k02) c0 rfl rfl ?_
  (((conv => whnf); repeat (refine And.intro (by (first | exact trivial | exact Nat.le_of_ble_eq_true rfl | omega | decide | rfl | (unfold big; omega) | assumption | exact ⟨by decide, by decide, lt4000 (by decide)⟩ | exact okMul_l (by decide) | exact okMul_r (by decide) | (first | rfl | exact shp_tupI _ | exact (shk_prs _).shp (by decide) | exact (shk_prD _).shp (by decide) | assumption) | exact .inl ⟨by (first | rfl | exact shp_tupI _ | exact (shk_prs _).shp (by decide) | exact (shk_prD _).shp (by decide) | assumption), by (first | rfl | exact shp_tupI _ | exact (shk_prs _).shp (by decide) | exact (shk_prD _).shp (by decide) | assumption)⟩ | exact .inr (.inr ⟨_, rfl, rfl⟩) | exact .inr (.inl ⟨_, rfl, rfl⟩))) ?_; conv => whnf)))
  exact q
theorem w_orders {FT : List FnI} {g : Nat} (c0 : C__law_orders_k02 FT g) {n : Nat} (hn : 1 ≤ n) {h : Hp} {m : Int} (h0 : 0 ≤ m) (h1 : m ≤ 5) {P : Pv} {X : Px} (q : P (.d (.list ((lvlK (bigK m) [] m.toNat).map tupI))) h) : callN FT n g [.d (.int m)] h P X := by
  obtain ⟨n, rfl⟩ : ∃ m, n = m + 1 := ⟨n - 1, by omega⟩
  refine callN_d (ds := [.int m]) (fn := ix__law_orders_k02) c0 rfl rfl ?_
  (((conv => whnf); repeat (refine And.intro (by (first | exact trivial | exact Nat.le_of_ble_eq_true rfl | omega | decide | rfl | (unfold big; omega) | assumption | exact ⟨by decide, by decide, lt4000 (by decide)⟩ | exact okMul_l (by decide) | exact okMul_r (by decide) | (first | rfl | exact shp_tupI _ | exact (shk_prs _).shp (by decide) | exact (shk_prD _).shp (by decide) | assumption) | exact .inl ⟨by (first | rfl | exact shp_tupI _ | exact (shk_prs _).shp (by decide) | exact (shk_prD _).shp (by decide) | assumption), by (first | rfl | exact shp_tupI _ | exact (shk_prs _).shp (by decide) | exact (shk_prD _).shp (by decide) | assumption)⟩ | exact .inr (.inr ⟨_, rfl, rfl⟩) | exact .inr (.inl ⟨_, rfl, rfl⟩))) ?_; conv => whnf)))
  refine forW_r0 (fun j e h' => j ≤ m.toNat ∧ ∃ (a b c d : Option V) (hh : Hp), h' = hh ∧ e = [some (.d (.int m)), some (.d (.list ((lvlK (bigK m) [] j).map tupI))), a, b, c, d]) _ _ _ ⟨by omega, _, _, _, _, _, rfl, rfl⟩ (fun _ _ _ _ => trivial) ?_ ?_
  · rintro j e h' nx ⟨_, a, b, c, d, hh, rfl, rfl⟩ hj hnx
    have hL : (lvlK (bigK m) [] (j + 1)).length ≤ 3125 := Nat.le_trans (lvlK_len (bigK_many m) _ _) (pow5 h1 (by omega))
    (((conv => whnf); repeat (refine And.intro (by (first | exact trivial | exact Nat.le_of_ble_eq_true rfl | omega | decide | rfl | (unfold big; omega) | assumption | exact ⟨by decide, by decide, lt4000 (by decide)⟩ | exact okMul_l (by decide) | exact okMul_r (by decide) | (first | rfl | exact shp_tupI _ | exact (shk_prs _).shp (by decide) | exact (shk_prD _).shp (by decide) | assumption) | exact .inl ⟨by (first | rfl | exact shp_tupI _ | exact (shk_prs _).shp (by decide) | exact (shk_prD _).shp (by decide) | assumption), by (first | rfl | exact shp_tupI _ | exact (shk_prs _).shp (by decide) | exact (shk_prD _).shp (by decide) | assumption)⟩ | exact .inr (.inr ⟨_, rfl, rfl⟩) | exact .inr (.inl ⟨_, rfl, rfl⟩))) ?_; conv => whnf)))
    rw [List.map_map]
    refine forW_m (V.d ∘ tupI) (fun l e h'' => ∃ (A : List (List Int)) (o1 o2 o3 : Option V), h'' = h' ++ [.lst (A.map tupI)] ∧ e = [some (.d (.int m)), some (.d (.list ((lvlK (bigK m) [] j).map tupI))), o1, some (.cell h'.length), o2, o3] ∧ A ++ l.flatMap (bigK m) = lvlK (bigK m) [] (j + 1) ∧ ∀ w ∈ l, w.length = j) _ _ _ ?_ (fun _ _ _ _ => trivial) ?_ ?_
    · exact ⟨[], _, _, _, rfl, rfl, rfl, lvl_len bigK_len j⟩
    · rintro e h'' w l nx2 ⟨A, o1, o2, o3, rfl, rfl, hA, hw⟩ hnx2
      have hwl := hw w (by simp)
      (((conv => whnf); repeat (refine And.intro (by (first | exact trivial | exact Nat.le_of_ble_eq_true rfl | omega | decide | rfl | (unfold big; omega) | assumption | exact ⟨by decide, by decide, lt4000 (by decide)⟩ | exact okMul_l (by decide) | exact okMul_r (by decide) | (first | rfl | exact shp_tupI _ | exact (shk_prs _).shp (by decide) | exact (shk_prD _).shp (by decide) | assumption) | exact .inl ⟨by (first | rfl | exact shp_tupI _ | exact (shk_prs _).shp (by decide) | exact (shk_prD _).shp (by decide) | assumption), by (first | rfl | exact shp_tupI _ | exact (shk_prs _).shp (by decide) | exact (shk_prD _).shp (by decide) | assumption)⟩ | exact .inr (.inr ⟨_, rfl, rfl⟩) | exact .inr (.inl ⟨_, rfl, rfl⟩))) ?_; conv => whnf)))
      rw [List.getElem?_append_right (Nat.le_refl _), Nat.sub_self]
      (((conv => whnf); repeat (refine And.intro (by (first | exact trivial | exact Nat.le_of_ble_eq_true rfl | omega | decide | rfl | (unfold big; omega) | assumption | exact ⟨by decide, by decide, lt4000 (by decide)⟩ | exact okMul_l (by decide) | exact okMul_r (by decide) | (first | rfl | exact shp_tupI _ | exact (shk_prs _).shp (by decide) | exact (shk_prD _).shp (by decide) | assumption) | exact .inl ⟨by (first | rfl | exact shp_tupI _ | exact (shk_prs _).shp (by decide) | exact (shk_prD _).shp (by decide) | assumption), by (first | rfl | exact shp_tupI _ | exact (shk_prs _).shp (by decide) | exact (shk_prD _).shp (by decide) | assumption)⟩ | exact .inr (.inr ⟨_, rfl, rfl⟩) | exact .inr (.inl ⟨_, rfl, rfl⟩))) ?_; conv => whnf)))
      rw [ran0_rng]
      refine cmpW_mm PyData.int tupI (fun p => if decide (p ∈ w) = true then none else some (w ++ [p])) trivial (rngI m) (fun p hp0 Q' qq => ?_) (by rw [rngI_len]; exact Nat.le_trans (show _ ≤ 5 by omega) (by decide)) (mkL_d ?_)
      · (conv => whnf)
        refine ⟨rfl, shp_tupI w, ?_⟩
        rw [any_int]
        cases e1 : decide (p ∈ w) with
        | true => rw [e1] at qq; exact qq
        | false =>
          rw [e1] at qq
          (((conv => whnf); repeat (refine And.intro (by (first | exact trivial | exact Nat.le_of_ble_eq_true rfl | omega | decide | rfl | (unfold big; omega) | assumption | exact ⟨by decide, by decide, lt4000 (by decide)⟩ | exact okMul_l (by decide) | exact okMul_r (by decide) | (first | rfl | exact shp_tupI _ | exact (shk_prs _).shp (by decide) | exact (shk_prD _).shp (by decide) | assumption) | exact .inl ⟨by (first | rfl | exact shp_tupI _ | exact (shk_prs _).shp (by decide) | exact (shk_prD _).shp (by decide) | assumption), by (first | rfl | exact shp_tupI _ | exact (shk_prs _).shp (by decide) | exact (shk_prD _).shp (by decide) | assumption)⟩ | exact .inr (.inr ⟨_, rfl, rfl⟩) | exact .inr (.inl ⟨_, rfl, rfl⟩))) ?_; conv => whnf)))
          refine And.intro (Nat.le_trans (show _ ≤ 1000 by rw [List.length_map]; simp only [List.length_cons, List.length_nil]; omega) (by decide)) ?_
          rw [show w.map PyData.int ++ [PyData.int p] = (w ++ [p]).map PyData.int by rw [List.map_append]; rfl]
          exact qq
      · have e : (rngI m).filterMap (fun p => if decide (p ∈ w) = true then none else some (w ++ [p])) = bigK m w := by
          unfold bigK
          rw [filter_fm]
          congr 1
          funext p
          cases decide (p ∈ w) <;> rfl
        rw [e]
        (((conv => whnf); repeat (refine And.intro (by (first | exact trivial | exact Nat.le_of_ble_eq_true rfl | omega | decide | rfl | (unfold big; omega) | assumption | exact ⟨by decide, by decide, lt4000 (by decide)⟩ | exact okMul_l (by decide) | exact okMul_r (by decide) | (first | rfl | exact shp_tupI _ | exact (shk_prs _).shp (by decide) | exact (shk_prD _).shp (by decide) | assumption) | exact .inl ⟨by (first | rfl | exact shp_tupI _ | exact (shk_prs _).shp (by decide) | exact (shk_prD _).shp (by decide) | assumption), by (first | rfl | exact shp_tupI _ | exact (shk_prs _).shp (by decide) | exact (shk_prD _).shp (by decide) | assumption)⟩ | exact .inr (.inr ⟨_, rfl, rfl⟩) | exact .inr (.inl ⟨_, rfl, rfl⟩))) ?_; conv => whnf)))
        rw [List.getElem?_append_right (Nat.le_refl _), Nat.sub_self]
        (((conv => whnf); repeat (refine And.intro (by (first | exact trivial | exact Nat.le_of_ble_eq_true rfl | omega | decide | rfl | (unfold big; omega) | assumption | exact ⟨by decide, by decide, lt4000 (by decide)⟩ | exact okMul_l (by decide) | exact okMul_r (by decide) | (first | rfl | exact shp_tupI _ | exact (shk_prs _).shp (by decide) | exact (shk_prD _).shp (by decide) | assumption) | exact .inl ⟨by (first | rfl | exact shp_tupI _ | exact (shk_prs _).shp (by decide) | exact (shk_prD _).shp (by decide) | assumption), by (first | rfl | exact shp_tupI _ | exact (shk_prs _).shp (by decide) | exact (shk_prD _).shp (by decide) | assumption)⟩ | exact .inr (.inr ⟨_, rfl, rfl⟩) | exact .inr (.inl ⟨_, rfl, rfl⟩))) ?_; conv => whnf)))
        rw [List.flatMap_cons, ← List.append_assoc] at hA
        have hAl := congrArg List.length hA
        rw [List.length_append, List.length_append] at hAl
        refine And.intro (by rw [List.length_map, List.length_map]; exact Nat.le_trans (show _ ≤ 3125 by omega) (by decide)) ?_
        refine hnx2 _ _ ⟨A ++ bigK m w, _, _, _, ?_, rfl, hA, fun x hx => hw x (by simp [hx])⟩
        rw [List.set_append_right _ _ (Nat.le_refl _), Nat.sub_self, List.map_append]
        rfl
    · rintro e h'' ⟨A, o1, o2, o3, rfl, rfl, hA, hw⟩
      rw [List.flatMap_nil, List.append_nil] at hA
      subst hA
      (conv => whnf)
      rw [List.getElem?_append_right (Nat.le_refl _), Nat.sub_self]
      exact hnx _ _ ⟨by omega, _, _, _, _, _, rfl, rfl⟩
  · rintro e h' ⟨_, a, b, c, d, hh, rfl, rfl⟩
    exact q
theorem w_alike {FT : List FnI} {g : Nat} (c0 : C__law_alike_k02 FT g) {n : Nat} (hn : 2 ≤ n) {h : Hp} {o : Option (List Int)} (ho : ∀ w, o = some w → w.length ≤ 1000) {P : Pv} {X : Px} (q : P (.d (.bool true)) h) : callN FT n g [.d (optT o), .d (optT o)] h P X := by
  obtain ⟨n, rfl⟩ : ∃ m, n = m + 1 := ⟨n - 1, by omega⟩
  obtain ⟨fw, ef, ew⟩ := c0
  refine callN_d (ds := [optT o, optT o]) (fn := ix__law_alike_k02 fw) ef rfl rfl ?_
  cases o with
  | none => exact q
  | some w =>
    have hw := ho w rfl
    (((conv => whnf); repeat (refine And.intro (by (first | exact trivial | exact Nat.le_of_ble_eq_true rfl | omega | decide | rfl | (unfold big; omega) | assumption | exact ⟨by decide, by decide, lt4000 (by decide)⟩ | exact okMul_l (by decide) | exact okMul_r (by decide) | (first | rfl | exact shp_tupI _ | exact (shk_prs _).shp (by decide) | exact (shk_prD _).shp (by decide) | assumption) | exact .inl ⟨by (first | rfl | exact shp_tupI _ | exact (shk_prs _).shp (by decide) | exact (shk_prD _).shp (by decide) | assumption), by (first | rfl | exact shp_tupI _ | exact (shk_prs _).shp (by decide) | exact (shk_prD _).shp (by decide) | assumption)⟩ | exact .inr (.inr ⟨_, rfl, rfl⟩) | exact .inr (.inl ⟨_, rfl, rfl⟩))) ?_; conv => whnf)))
    refine cmpW_mp PyData.int PyData.bool (fun _ => true) trivial w (fun p _ Q' qq => ?_) (Nat.le_trans hw (by decide)) (mkL_d ?_)
    · (((conv => whnf); repeat (refine And.intro (by (first | exact trivial | exact Nat.le_of_ble_eq_true rfl | omega | decide | rfl | (unfold big; omega) | assumption | exact ⟨by decide, by decide, lt4000 (by decide)⟩ | exact okMul_l (by decide) | exact okMul_r (by decide) | (first | rfl | exact shp_tupI _ | exact (shk_prs _).shp (by decide) | exact (shk_prD _).shp (by decide) | assumption) | exact .inl ⟨by (first | rfl | exact shp_tupI _ | exact (shk_prs _).shp (by decide) | exact (shk_prD _).shp (by decide) | assumption), by (first | rfl | exact shp_tupI _ | exact (shk_prs _).shp (by decide) | exact (shk_prD _).shp (by decide) | assumption)⟩ | exact .inr (.inr ⟨_, rfl, rfl⟩) | exact .inr (.inl ⟨_, rfl, rfl⟩))) ?_; conv => whnf)))
      exact w_whole ew (n := n) (by omega) qq
    · (((conv => whnf); repeat (refine And.intro (by (first | exact trivial | exact Nat.le_of_ble_eq_true rfl | omega | decide | rfl | (unfold big; omega) | assumption | exact ⟨by decide, by decide, lt4000 (by decide)⟩ | exact okMul_l (by decide) | exact okMul_r (by decide) | (first | rfl | exact shp_tupI _ | exact (shk_prs _).shp (by decide) | exact (shk_prD _).shp (by decide) | assumption) | exact .inl ⟨by (first | rfl | exact shp_tupI _ | exact (shk_prs _).shp (by decide) | exact (shk_prD _).shp (by decide) | assumption), by (first | rfl | exact shp_tupI _ | exact (shk_prs _).shp (by decide) | exact (shk_prD _).shp (by decide) | assumption)⟩ | exact .inr (.inr ⟨_, rfl, rfl⟩) | exact .inr (.inl ⟨_, rfl, rfl⟩))) ?_; conv => whnf)))
      rw [asBools_of]
      have ha : (w.map fun _ => true).all id = true := by rw [List.all_eq_true]; intro x hx; obtain ⟨_, _, rfl⟩ := List.mem_map.mp hx; rfl
      (((conv => whnf); repeat (refine And.intro (by (first | exact trivial | exact Nat.le_of_ble_eq_true rfl | omega | decide | rfl | (unfold big; omega) | assumption | exact ⟨by decide, by decide, lt4000 (by decide)⟩ | exact okMul_l (by decide) | exact okMul_r (by decide) | (first | rfl | exact shp_tupI _ | exact (shk_prs _).shp (by decide) | exact (shk_prD _).shp (by decide) | assumption) | exact .inl ⟨by (first | rfl | exact shp_tupI _ | exact (shk_prs _).shp (by decide) | exact (shk_prD _).shp (by decide) | assumption), by (first | rfl | exact shp_tupI _ | exact (shk_prs _).shp (by decide) | exact (shk_prD _).shp (by decide) | assumption)⟩ | exact .inr (.inr ⟨_, rfl, rfl⟩) | exact .inr (.inl ⟨_, rfl, rfl⟩))) ?_; conv => whnf)))
      rw [ha]
      (((conv => whnf); repeat (refine And.intro (by (first | exact trivial | exact Nat.le_of_ble_eq_true rfl | omega | decide | rfl | (unfold big; omega) | assumption | exact ⟨by decide, by decide, lt4000 (by decide)⟩ | exact okMul_l (by decide) | exact okMul_r (by decide) | (first | rfl | exact shp_tupI _ | exact (shk_prs _).shp (by decide) | exact (shk_prD _).shp (by decide) | assumption) | exact .inl ⟨by (first | rfl | exact shp_tupI _ | exact (shk_prs _).shp (by decide) | exact (shk_prD _).shp (by decide) | assumption), by (first | rfl | exact shp_tupI _ | exact (shk_prs _).shp (by decide) | exact (shk_prD _).shp (by decide) | assumption)⟩ | exact .inr (.inr ⟨_, rfl, rfl⟩) | exact .inr (.inl ⟨_, rfl, rfl⟩))) ?_; conv => whnf)))
      rw [show PyData.eqv (optT (some w)) (optT (some w)) = true by have := eqv_tupI w w; rw [decide_eq_true rfl] at this; exact this]
      exact q
/-! ### a law over the cells -/
def tbE (N : Int) (f__law_right f__law_pouch : Nat) : T :=
  (.cons (.for_ (.ttp (.cons (.tnm 1) (.cons (.tnm 2) .nil))) (.enm 0 (.o2 .cuthi (.o2 .add (.var 0) (.lst false (.cons (.con (.int 0)) .nil))) (.o2 .max2 (.con (.int 1)) (.o2 .min2 (.o1 .len (.var 0)) (.con (.int N)))))) (.cons (.ifs (.not (.call f__law_right (.cons (.call f__law_pouch (.cons (.var 2) (.cons (.var 1) .nil))) .nil))) (.cons (.ret (.con (.bool false)))
      .nil) .nil)
    .nil))
  (.cons (.ret (.con (.bool true)))
  .nil))
theorem w_lawE {FT : List FnI} {N : Int} {g fr fp n : Nat} (ef : FT[g]? = some ⟨1, 3, 0, tbE N fr fp⟩) (ep : C__law_pouch_k01 FT fp) (hn : 1 ≤ n)
    (hr : ∀ {h : Hp} {k : Nat} {xs : List D} {P : Pv} {X : Px}, h[k]? = some (.lst xs) → Pch 0 xs → (∀ ys, P (.d (.bool true)) (h.set k (.lst ys))) → callN FT n fr [.cell k] h P X)
    (ns : List Int) (hns : ns.length ≤ 63) : callN FT (n + 1) g [.d (.list (ns.map PyData.int))] [] (fun v _ => v = .d (.bool true)) (fun _ _ => False) := by
  refine callN_d (ds := [.list (ns.map PyData.int)]) (fn := ⟨1, 3, 0, tbE N fr fp⟩) ef rfl rfl ?_
  (((conv => whnf); repeat (refine And.intro (by (first | exact trivial | exact Nat.le_of_ble_eq_true rfl | omega | decide | rfl | (unfold big; omega) | assumption | exact ⟨by decide, by decide, lt4000 (by decide)⟩ | exact okMul_l (by decide) | exact okMul_r (by decide) | (first | rfl | exact shp_tupI _ | exact (shk_prs _).shp (by decide) | exact (shk_prD _).shp (by decide) | assumption) | exact .inl ⟨by (first | rfl | exact shp_tupI _ | exact (shk_prs _).shp (by decide) | exact (shk_prD _).shp (by decide) | assumption), by (first | rfl | exact shp_tupI _ | exact (shk_prs _).shp (by decide) | exact (shk_prD _).shp (by decide) | assumption)⟩ | exact .inr (.inr ⟨_, rfl, rfl⟩) | exact .inr (.inl ⟨_, rfl, rfl⟩))) ?_; conv => whnf)))
  refine And.intro (Nat.le_trans (show _ ≤ 1000 by rw [List.length_map]; simp only [List.length_cons, List.length_nil]; omega) (by decide)) ?_
  (((conv => whnf); repeat (refine And.intro (by (first | exact trivial | exact Nat.le_of_ble_eq_true rfl | omega | decide | rfl | (unfold big; omega) | assumption | exact ⟨by decide, by decide, lt4000 (by decide)⟩ | exact okMul_l (by decide) | exact okMul_r (by decide) | (first | rfl | exact shp_tupI _ | exact (shk_prs _).shp (by decide) | exact (shk_prD _).shp (by decide) | assumption) | exact .inl ⟨by (first | rfl | exact shp_tupI _ | exact (shk_prs _).shp (by decide) | exact (shk_prD _).shp (by decide) | assumption), by (first | rfl | exact shp_tupI _ | exact (shk_prs _).shp (by decide) | exact (shk_prD _).shp (by decide) | assumption)⟩ | exact .inr (.inr ⟨_, rfl, rfl⟩) | exact .inr (.inl ⟨_, rfl, rfl⟩))) ?_; conv => whnf)))
  generalize hcut : cutD (List.map PyData.int ns ++ _) none (some _) = xs
  have hx : ∀ x ∈ xs, ∃ i, x = .int i := by
    intro x hx
    rw [← hcut] at hx
    have hx := cut_mem hx
    rcases List.mem_append.mp hx with hx | hx
    · obtain ⟨i, _, rfl⟩ := List.mem_map.mp hx
      exact ⟨i, rfl⟩
    · simp only [List.mem_cons, List.not_mem_nil, or_false] at hx
      exact ⟨0, hx⟩
  have hxl : xs.length ≤ 64 := by
    rw [← hcut]
    refine Nat.le_trans (cut_len _ _ _) ?_
    rw [List.length_append, List.length_map]
    simp only [List.length_cons, List.length_nil]
    omega
  refine forW_at (fun l e h' => ∃ a b, (∀ v ∈ l, ∃ i c : Int, v = .d (.tuple [.int i, .int c]) ∧ 0 ≤ i ∧ i < 1000) ∧ e = [some (.d (.list (ns.map PyData.int))), a, b]) _ _ _ ⟨none, none, fun v hv => ?_, rfl⟩ (fun _ _ _ _ => trivial) ?_ ?_
  · obtain ⟨i, x, rfl, h1, h2, h3⟩ := enumD_mem hv
    obtain ⟨c, rfl⟩ := hx x h1
    exact ⟨i, c, rfl, h2, by omega⟩
  · rintro e h' x l nx ⟨a, b, hl, rfl⟩ hnx
    obtain ⟨i, c, rfl, i0, i1⟩ := hl x (by simp)
    (((conv => whnf); repeat (refine And.intro (by (first | exact trivial | exact Nat.le_of_ble_eq_true rfl | omega | decide | rfl | (unfold big; omega) | assumption | exact ⟨by decide, by decide, lt4000 (by decide)⟩ | exact okMul_l (by decide) | exact okMul_r (by decide) | (first | rfl | exact shp_tupI _ | exact (shk_prs _).shp (by decide) | exact (shk_prD _).shp (by decide) | assumption) | exact .inl ⟨by (first | rfl | exact shp_tupI _ | exact (shk_prs _).shp (by decide) | exact (shk_prD _).shp (by decide) | assumption), by (first | rfl | exact shp_tupI _ | exact (shk_prs _).shp (by decide) | exact (shk_prD _).shp (by decide) | assumption)⟩ | exact .inr (.inr ⟨_, rfl, rfl⟩) | exact .inr (.inl ⟨_, rfl, rfl⟩))) ?_; conv => whnf)))
    refine w_pouch ep (n := n) (by omega) i0 i1 fun xs hp => ?_
    (((conv => whnf); repeat (refine And.intro (by (first | exact trivial | exact Nat.le_of_ble_eq_true rfl | omega | decide | rfl | (unfold big; omega) | assumption | exact ⟨by decide, by decide, lt4000 (by decide)⟩ | exact okMul_l (by decide) | exact okMul_r (by decide) | (first | rfl | exact shp_tupI _ | exact (shk_prs _).shp (by decide) | exact (shk_prD _).shp (by decide) | assumption) | exact .inl ⟨by (first | rfl | exact shp_tupI _ | exact (shk_prs _).shp (by decide) | exact (shk_prD _).shp (by decide) | assumption), by (first | rfl | exact shp_tupI _ | exact (shk_prs _).shp (by decide) | exact (shk_prD _).shp (by decide) | assumption)⟩ | exact .inr (.inr ⟨_, rfl, rfl⟩) | exact .inr (.inl ⟨_, rfl, rfl⟩))) ?_; conv => whnf)))
    refine hr (k := h'.length) (xs := xs) (by simp) hp fun ys => ?_
    exact hnx _ _ ⟨_, _, fun v hv => hl v (by simp [hv]), rfl⟩
  · rintro e h' ⟨a, b, hl, rfl⟩
    rfl
end Hb

/-! TXL: texts as lists of signs; numbers read. -/
namespace Hb
open PySem
set_option autoImplicit false
/-- the text of these signs -/
abbrev S (l : List Nat) : Str := SX.S l
theorem sApp (a b : List Nat) : S a ++ S b = S (a ++ b) := SX.S_cat a b
theorem sLen (a : List Nat) : (S a).length = a.length := SX.S_len a
theorem sInt (n : Nat) : strInt (n : Int) = S (TL.numL n) := SX.num_S n
theorem sEq (a b : List Nat) : decide (S a = S b) = decide (a = b) := by
  by_cases h : a = b
  · rw [h, decide_eq_true rfl, decide_eq_true rfl]
  · rw [decide_eq_false h, decide_eq_false fun z => h (SX.S_inj z)]
theorem sSigns (a : List Nat) : signs (S a) = a.map fun c => PyData.str (S [c]) := rfl
theorem sList (z : Str) : ∃ l, z = S l := ⟨z.cps.toList, (SX.S_tl z).symm⟩
def isDig (c : Nat) : Bool := decide (48 ≤ c) && decide (c ≤ 57)
/-- what number_read tells -/
def numR (l : List Nat) (lo hi : Int) : Option Int :=
  if 1 ≤ l.length ∧ l.length ≤ 9 ∧ l.all isDig = true then
    if (l.head? = some 48 ∧ l ≠ [48]) ∨ ¬(lo ≤ (NumText.digitsVal l : Nat) ∧ ((NumText.digitsVal l : Nat) : Int) ≤ hi) then none else some (NumText.digitsVal l : Nat)
  else none
def optI : Option Int → D
  | some i => .int i
  | none => .none
theorem dig_mem (c : Nat) : decide (c ∈ (("0123456789" : Str)).cps.toList) = isDig c := by
  have e : (("0123456789" : Str)).cps.toList = [48, 49, 50, 51, 52, 53, 54, 55, 56, 57] := by decide
  rw [e]
  unfold isDig
  rw [← Bool.decide_and]
  apply decide_eq_decide.mpr
  simp only [List.mem_cons, List.not_mem_nil, or_false]
  omega
theorem w_numread {FT : List FnI} {g : Nat} (c0 : C_number_read FT g) {n : Nat} (hn : 1 ≤ n) {h : Hp} {l : List Nat} {lo hi : Int} (hl : l.length ≤ 100000) {P : Pv} {X : Px} (q : P (.d (optI (numR l lo hi))) h) : callN FT n g [.d (.str (S l)), .d (.int lo), .d (.int hi)] h P X := by
  obtain ⟨n, rfl⟩ : ∃ m, n = m + 1 := ⟨n - 1, by omega⟩
  refine callN_d (ds := [.str (S l), .int lo, .int hi]) (fn := ix_number_read) c0 rfl rfl ?_
  (conv => whnf)
  refine And.intro (by rw [sLen]; exact Nat.le_trans hl (by decide)) ?_
  (conv => whnf)
  rw [sLen]
  have none_of : ¬ (1 ≤ l.length ∧ l.length ≤ 9 ∧ l.all isDig = true) → P (.d .none) h := fun z => by
    unfold numR at q
    rw [if_neg z] at q
    exact q
  cases e1 : decide ((1 : Int) ≤ (l.length : Int)) with
  | false =>
    have e1 := of_decide_eq_false e1
    (conv => whnf)
    exact none_of fun z => e1 (by omega)
  | true =>
    have e1 := of_decide_eq_true e1
    (conv => whnf)
    cases e2 : decide ((l.length : Int) ≤ 9) with
    | false =>
      have e2 := of_decide_eq_false e2
      (conv => whnf)
      exact none_of fun z => e2 (by omega)
    | true =>
      have e2 := of_decide_eq_true e2
      (conv => whnf)
      rw [sSigns, List.map_map]
      refine cmpW_mp (fun c : Nat => PyData.str (S [c])) PyData.bool isDig trivial l (fun c _ Q' qq => ?_) (Nat.le_trans hl (by decide)) (mkL_d ?_)
      · (conv => whnf)
        rw [dig_mem]
        exact qq
      · (conv => whnf)
        rw [asBools_of]
        (conv => whnf)
        rw [show (l.map isDig).all id = l.all isDig by rw [List.all_map]; rfl]
        cases e3 : l.all isDig with
        | false =>
          (conv => whnf)
          exact none_of fun z => by rw [e3] at z; cases z.2.2
        | true =>
          have q2 : P (.d (optI (if (l.head? = some 48 ∧ l ≠ [48]) ∨ ¬(lo ≤ (NumText.digitsVal l : Nat) ∧ ((NumText.digitsVal l : Nat) : Int) ≤ hi) then none else some (NumText.digitsVal l : Nat)))) h := by
            unfold numR at q
            rw [if_pos ⟨by omega, by omega, e3⟩] at q
            exact q
          have iv : intText? (S l) = some ((NumText.digitsVal l : Nat) : Int) := SX.int_S e3 (by intro z; subst z; simp at e1) (by omega)
          have ll : (S l).length ≤ 640 := by rw [sLen]; omega
          clear q none_of
          obtain ⟨c, r, rfl⟩ : ∃ c r, l = c :: r := by
            cases l with
            | nil => simp at e1
            | cons c r => exact ⟨c, r, rfl⟩
          (conv => whnf)
          refine And.intro (by rw [sLen]; exact Nat.le_trans hl (by decide)) ?_
          (conv => whnf)
          rw [show L2.atI (S (c :: r)).cps.toList 0 = some c by
            unfold L2.atI L2.ixN
            rw [if_pos (by decide), if_pos (by show (0 : Int) < (((c :: r).length : Nat) : Int); simp only [List.length_cons]; omega)]
            rfl]
          (conv => whnf)
          have eh : (Str.ofString "0") = S [48] := by decide
          rw [eh, show (⟨#[c]⟩ : Str) = S [c] from rfl, sEq]
          cases e4 : decide ([c] = [48]) with
          | true =>
            have e4 := of_decide_eq_true e4
            (conv => whnf)
            rw [sEq]
            cases e5 : decide (c :: r = [48]) with
            | true =>
              have e5 := of_decide_eq_true e5
              (conv => whnf)
              refine And.intro ll ?_
              rw [iv]
              (conv => whnf)
              cases e6 : decide (lo ≤ ((NumText.digitsVal (c :: r) : Nat) : Int)) with
              | false =>
                have e6 := of_decide_eq_false e6
                (conv => whnf)
                rw [if_pos (.inr fun z => e6 z.1)] at q2
                exact q2
              | true =>
                have e6 := of_decide_eq_true e6
                (conv => whnf)
                cases e7 : decide (((NumText.digitsVal (c :: r) : Nat) : Int) ≤ hi) with
                | false =>
                  have e7 := of_decide_eq_false e7
                  (conv => whnf)
                  rw [if_pos (.inr fun z => e7 z.2)] at q2
                  exact q2
                | true =>
                  have e7 := of_decide_eq_true e7
                  (conv => whnf)
                  refine And.intro ll ?_
                  rw [iv]
                  (conv => whnf)
                  rw [if_neg (by
                    rintro (z | z)
                    · exact z.2 e5
                    · exact z ⟨e6, e7⟩)] at q2
                  exact q2
            | false =>
              have e5 := of_decide_eq_false e5
              (conv => whnf)
              rw [if_pos (.inl ⟨by show some c = some 48; injection e4 with e4; rw [e4], e5⟩)] at q2
              exact q2
          | false =>
            have e4 := of_decide_eq_false e4
            (conv => whnf)
            refine And.intro ll ?_
            rw [iv]
            (conv => whnf)
            cases e6 : decide (lo ≤ ((NumText.digitsVal (c :: r) : Nat) : Int)) with
            | false =>
              have e6 := of_decide_eq_false e6
              (conv => whnf)
              rw [if_pos (.inr fun z => e6 z.1)] at q2
              exact q2
            | true =>
              have e6 := of_decide_eq_true e6
              (conv => whnf)
              cases e7 : decide (((NumText.digitsVal (c :: r) : Nat) : Int) ≤ hi) with
              | false =>
                have e7 := of_decide_eq_false e7
                (conv => whnf)
                rw [if_pos (.inr fun z => e7 z.2)] at q2
                exact q2
              | true =>
                have e7 := of_decide_eq_true e7
                (conv => whnf)
                refine And.intro ll ?_
                rw [iv]
                (conv => whnf)
                rw [if_neg (by
                  rintro (z | z)
                  · exact e4 (by have z1 : some c = some 48 := z.1; injection z1 with z1; rw [z1])
                  · exact z ⟨e6, e7⟩)] at q2
                exact q2
theorem numL_head : ∀ {n : Nat}, 1 ≤ n → (TL.numL n).head? ≠ some 48 := by
  intro n
  induction n using Nat.strongRecOn with
  | _ n ih =>
    intro h
    by_cases h10 : n < 10
    · rw [TL.numL_lt h10]
      intro z
      have z : 48 + n = 48 := by simpa using z
      omega
    · rw [TL.numL_step (by omega), List.head?_append]
      have e := ih (n / 10) (by omega) (by omega)
      have ne := TL.numL_ne (n / 10)
      cases hl : TL.numL (n / 10) with
      | nil => exact absurd hl ne
      | cons c r =>
        rw [hl] at e
        exact e
theorem numL_all (n : Nat) : (TL.numL n).all isDig = true := by
  rw [List.all_eq_true]
  intro c hc
  have := TL.numL_digits n c hc
  unfold isDig
  rw [Bool.and_eq_true, decide_eq_true_eq, decide_eq_true_eq]
  exact this
theorem numR_num {n : Nat} (h9 : n < 10 ^ 9) {lo hi : Int} (h1 : lo ≤ n) (h2 : (n : Int) ≤ hi) : numR (TL.numL n) lo hi = some (n : Int) := by
  unfold numR
  have e1 : 1 ≤ (TL.numL n).length := List.length_pos_iff.mpr (TL.numL_ne n)
  rw [if_pos ⟨e1, TL.numL_len (by decide) h9, numL_all n⟩, TL.numL_val, if_neg]
  rintro (⟨z1, z2⟩ | z)
  · by_cases h0 : n = 0
    · subst h0
      exact z2 (TL.numL_lt (by decide))
    · exact numL_head (by omega) z1
  · exact z ⟨h1, h2⟩
end Hb

/-! TXL2: rows of texts; colourings' texts. -/
namespace Hb
open PySem
set_option autoImplicit false
/-- a text cut at each sign c -/
def cutL (c : Nat) (l : List Nat) : List (List Nat) := TL.spl [c] 0 [] l
theorem spl_one (c : Nat) : ∀ (l acc : List Nat), ∃ p ps, TL.spl [c] 0 acc l = p :: ps ∧ (p :: ps).length ≤ l.length + 1 ∧ (∀ q ∈ p :: ps, q.length ≤ acc.length + l.length)
  | [], acc => ⟨acc, [], TL.spl_nil _ _ _, by simp, by simp⟩
  | d :: l, acc => by
    by_cases h : TL.pre [c] (d :: l) = true
    · rw [TL.spl_hit h]
      obtain ⟨p, ps, e, e2, e3⟩ := spl_one c l []
      refine ⟨acc, p :: ps, by rw [← e]; rfl, by simp only [List.length_cons] at e2 ⊢; omega, fun q hq => ?_⟩
      rcases List.mem_cons.mp hq with rfl | hq
      · omega
      · have := e3 q hq; simp only [List.length_cons, List.length_nil] at this ⊢; omega
    · rw [TL.spl_miss (by simpa using h)]
      obtain ⟨p, ps, e, e2, e3⟩ := spl_one c l (acc ++ [d])
      refine ⟨p, ps, e, by simp only [List.length_cons] at e2 ⊢; omega, fun q hq => ?_⟩
      have := e3 q hq
      simp only [List.length_append, List.length_cons, List.length_nil] at this ⊢
      omega
theorem cutL_ne (c : Nat) (l : List Nat) : ∃ p ps, cutL c l = p :: ps ∧ (p :: ps).length ≤ l.length + 1 ∧ ∀ q ∈ p :: ps, q.length ≤ l.length := by
  obtain ⟨p, ps, e, e2, e3⟩ := spl_one c l []
  exact ⟨p, ps, e, e2, fun q hq => by have := e3 q hq; simpa using this⟩
theorem split_cut {c : Nat} (hc : c < 256) (l : List Nat) : Txt.split (S l) (S [c]) = (cutL c l).map S := SX.split_S (by simp) (by simp [hc])
theorem dStr (ls : List (List Nat)) : (ls.map S).map PyData.str = ls.map fun l => PyData.str (S l) := by rw [List.map_map]; rfl
theorem atI_head {α : Type} (x : α) (xs : List α) : L2.atI (x :: xs) 0 = some x := by
  unfold L2.atI L2.ixN
  rw [if_pos (by decide), if_pos (by show (0 : Int) < (((x :: xs).length : Nat) : Int); simp only [List.length_cons]; omega)]
  rfl
theorem wa_tst1 {F : Phi} {i j : Nat} {x : D} {xs : List D} {env : Env} {h : Hp} {Q : Env → Hp → Prop} (q : Q ((env.set i (some (.d x))).set j (some (.d (.list xs)))) h) : WA F (.tst 1 (.cons (.tnm i) (.cons (.tnm j) .nil))) (.d (.list (x :: xs))) env h Q := by
  refine And.intro ⟨by show 1 < 2; decide, by show 2 ≤ (x :: xs).length + 1; simp⟩ ?_
  have e1 : (((x :: xs).drop 1).take ((x :: xs).length - 1 - (2 - 1 - 1))) = xs := by simp
  have e2 : (((x :: xs).drop 1).drop ((x :: xs).length - 1 - (2 - 1 - 1))) = [] := by simp
  show WAs F (.cons (.tnm i) (.cons (.tnm j) .nil)) (((x :: xs).take 1).map V.d ++ [.d (.list (((x :: xs).drop 1).take ((x :: xs).length - 1 - (2 - 1 - 1))))] ++ (((x :: xs).drop 1).drop ((x :: xs).length - 1 - (2 - 1 - 1))).map V.d) env h Q
  rw [e1, e2]
  exact ⟨rfl, q⟩
theorem wa_tst0 {F : Phi} {i j : Nat} {x : D} {xs : List D} {env : Env} {h : Hp} {Q : Env → Hp → Prop} (q : Q ((env.set i (some (.d (.list xs)))).set j (some (.d x))) h) : WA F (.tst 0 (.cons (.tnm i) (.cons (.tnm j) .nil))) (.d (.list (xs ++ [x]))) env h Q := by
  refine And.intro ⟨by show 0 < 2; decide, by show 2 ≤ (xs ++ [x]).length + 1; simp⟩ ?_
  have e1 : (((xs ++ [x]).drop 0).take ((xs ++ [x]).length - 0 - (2 - 1 - 0))) = xs := by simp
  have e2 : (((xs ++ [x]).drop 0).drop ((xs ++ [x]).length - 0 - (2 - 1 - 0))) = [x] := by simp
  show WAs F (.cons (.tnm i) (.cons (.tnm j) .nil)) (((xs ++ [x]).take 0).map V.d ++ [.d (.list (((xs ++ [x]).drop 0).take ((xs ++ [x]).length - 0 - (2 - 1 - 0))))] ++ (((xs ++ [x]).drop 0).drop ((xs ++ [x]).length - 0 - (2 - 1 - 0))).map V.d) env h Q
  rw [e1, e2]
  exact ⟨rfl, q⟩
def hues : List Nat := [104, 117, 101, 115]
/-- how many points the first row tells -/
def ptoldF (l : List Nat) : Option Int := match cutL 32 l with
  | [w, o] => if w = hues then numR o 1 12 else none
  | _ => none
theorem w_ptold {FT : List FnI} {g : Nat} (c0 : C_points_told FT g) {n : Nat} (hn : 2 ≤ n) {h : Hp} {l : List Nat} {rs : List D} (hl : l.length ≤ 100000) {P : Pv} {X : Px} (q : P (.d (optI (ptoldF l))) h) : callN FT n g [.d (.list (.str (S l) :: rs))] h P X := by
  obtain ⟨n, rfl⟩ : ∃ m, n = m + 1 := ⟨n - 1, by omega⟩
  obtain ⟨fn, ef, en⟩ := c0
  refine callN_d (ds := [.list (.str (S l) :: rs)]) (fn := ix_points_told fn) ef rfl rfl ?_
  (conv => whnf)
  rw [atI_head]
  (conv => whnf)
  refine And.intro ⟨by decide, by rw [sLen]; exact hl⟩ ?_
  rw [show (Str.ofString " ") = S [32] by decide, split_cut (by decide), dStr]
  obtain ⟨w, os, ec, e2, e3⟩ := cutL_ne 32 l
  have q2 : P (.d (optI (match w :: os with
    | [w, o] => if w = hues then numR o 1 12 else none
    | _ => none))) h := by
    unfold ptoldF at q
    rw [ec] at q
    exact q
  rw [ec]
  refine wa_tst1 ?_
  (conv => whnf)
  rw [show (Str.ofString "hues") = S hues by decide, sEq]
  cases e1 : decide (w = hues) with
  | false =>
    have e1 := of_decide_eq_false e1
    (conv => whnf)
    cases os with
    | nil => exact q2
    | cons o os =>
      cases os with
      | nil => exact (show P (.d (optI (if w = hues then numR o 1 12 else none))) h from q2)|> fun z => by rw [if_neg e1] at z; exact z
      | cons _ _ => exact q2
  | true =>
    have e1 := of_decide_eq_true e1
    (conv => whnf)
    rw [List.length_map]
    cases os with
    | nil => (conv => whnf); exact q2
    | cons o os =>
      cases os with
      | nil =>
        have q3 : P (.d (optI (if w = hues then numR o 1 12 else none))) h := q2
        rw [if_pos e1] at q3
        (conv => whnf)
        have ho : o.length ≤ l.length := e3 o (by simp)
        refine w_numread en (n := n) (by omega) (by omega) ?_
        exact q3
      | cons o2 os =>
        have e4 : decide ((((o :: o2 :: os).length : Nat) : Int) = 1) = false := decide_eq_false (by simp only [List.length_cons]; omega)
        rw [e4]
        (conv => whnf)
        exact q2
/-- whether a row may stand behind others -/
def isHR (rows : List (List Nat)) (row : List Nat) : Bool := match rows with
  | [] => (ptoldF row).isSome
  | r :: _ => match ptoldF r with
    | some m => decide (0 < m - (rows.length : Int)) && (decide ((row.length : Int) = m - (rows.length : Int)) && row.all fun c => decide (48 ≤ c) && decide (c ≤ 51))
    | none => false
theorem hue_mem (c : Nat) : decide (c ∈ (("0123" : Str)).cps.toList) = (decide (48 ≤ c) && decide (c ≤ 51)) := by
  have e : (("0123" : Str)).cps.toList = [48, 49, 50, 51] := by decide
  rw [e]
  rw [← Bool.decide_and]
  apply decide_eq_decide.mpr
  simp only [List.mem_cons, List.not_mem_nil, or_false]
  omega
theorem w_ishr {FT : List FnI} {g : Nat} (c0 : C_is_hues_row FT g) {n : Nat} (hn : 3 ≤ n) {h : Hp} {rows : List (List Nat)} {row : List Nat} (hl : row.length ≤ 100000) (hr : ∀ r rs, rows = r :: rs → r.length ≤ 100000 ∧ (ptoldF r).isSome = true) {P : Pv} {X : Px} (q : P (.d (.bool (isHR rows row))) h) :
    callN FT n g [.d (.list (rows.map fun l => PyData.str (S l))), .d (.str (S row))] h P X := by
  obtain ⟨n, rfl⟩ : ∃ m, n = m + 1 := ⟨n - 1, by omega⟩
  obtain ⟨fp, ef, ep⟩ := c0
  refine callN_d (ds := [.list (rows.map fun l => PyData.str (S l)), .str (S row)]) (fn := ix_is_hues_row fp) ef rfl rfl ?_
  (conv => whnf)
  refine And.intro (by decide) ?_
  (conv => whnf)
  refine And.intro (.inr (.inr ⟨_, rfl, rfl⟩)) ?_
  rw [eqv_lnil]
  cases rows with
  | nil =>
    (conv => whnf)
    refine And.intro (by show 1 ≤ big; decide) ?_
    (conv => whnf)
    refine w_ptold ep (n := n) (by omega) hl ?_
    have q : P (.d (.bool (ptoldF row).isSome)) h := q
    cases e : ptoldF row with
    | none => rw [e] at q; exact q
    | some m => rw [e] at q; exact q
  | cons r rs =>
    obtain ⟨h1, h2⟩ := hr r rs rfl
    obtain ⟨m, em⟩ := Option.isSome_iff_exists.mp h2
    have q : P (.d (.bool (match ptoldF r with
      | some m => decide (0 < m - (((r :: rs).length : Nat) : Int)) && (decide ((row.length : Int) = m - (((r :: rs).length : Nat) : Int)) && row.all fun c => decide (48 ≤ c) && decide (c ≤ 51))
      | none => false))) h := q
    rw [em] at q
    replace q : P (.d (.bool (decide (0 < m - (((r :: rs).length : Nat) : Int)) && (decide ((row.length : Int) = m - (((r :: rs).length : Nat) : Int)) && row.all fun c => decide (48 ≤ c) && decide (c ≤ 51))))) h := q
    (conv => whnf)
    refine w_ptold ep (n := n) (by omega) h1 ?_
    rw [em]
    (conv => whnf)
    rw [List.length_map]
    cases e1 : decide (0 < m - (((r :: rs).length : Nat) : Int)) with
    | false => rw [e1] at q; (conv => whnf); exact q
    | true =>
      rw [e1] at q
      have q : P (.d (.bool (decide ((row.length : Int) = m - (((r :: rs).length : Nat) : Int)) && row.all fun c => decide (48 ≤ c) && decide (c ≤ 51)))) h := q
      (conv => whnf)
      refine And.intro (by rw [sLen]; exact Nat.le_trans hl (by decide)) ?_
      rw [sLen]
      (conv => whnf)
      cases e2 : decide ((row.length : Int) = m - (((r :: rs).length : Nat) : Int)) with
      | false =>
        rw [e2] at q
        (conv => whnf)
        exact q
      | true =>
        rw [e2] at q
        (conv => whnf)
        rw [sSigns]
        refine cmpW_mp (fun c : Nat => PyData.str (S [c])) PyData.bool (fun c => decide (48 ≤ c) && decide (c ≤ 51)) trivial row (fun c _ Q' qq => ?_) (Nat.le_trans hl (by decide)) (mkL_d ?_)
        · (conv => whnf)
          rw [hue_mem]
          exact qq
        · (conv => whnf)
          rw [asBools_of]
          (conv => whnf)
          rw [show (row.map fun c => decide (48 ≤ c) && decide (c ≤ 51)).all id = row.all fun c => decide (48 ≤ c) && decide (c ≤ 51) by rw [List.all_map]; rfl]
          exact q
/-- whether a colouring's text has all its rows -/
def isAllR (rows : List (List Nat)) : Bool := match rows with
  | [] => false
  | r :: _ => decide (ptoldF r = some (rows.length : Int))
theorem w_areall {FT : List FnI} {g : Nat} (c0 : C_are_all FT g) {n : Nat} (hn : 3 ≤ n) {h : Hp} {rows : List (List Nat)} (hr : ∀ r rs, rows = r :: rs → r.length ≤ 100000) {P : Pv} {X : Px} (q : P (.d (.bool (isAllR rows))) h) :
    callN FT n g [.d (.list (rows.map fun l => PyData.str (S l)))] h P X := by
  obtain ⟨n, rfl⟩ : ∃ m, n = m + 1 := ⟨n - 1, by omega⟩
  obtain ⟨fp, ef, ep⟩ := c0
  refine callN_d (ds := [.list (rows.map fun l => PyData.str (S l))]) (fn := ix_are_all fp) ef rfl rfl ?_
  (conv => whnf)
  refine And.intro (by decide) ?_
  (conv => whnf)
  refine And.intro (.inr (.inr ⟨_, rfl, rfl⟩)) ?_
  rw [eqv_lnil]
  cases rows with
  | nil => (conv => whnf); exact q
  | cons r rs =>
    (conv => whnf)
    refine w_ptold ep (n := n) (by omega) (hr r rs rfl) ?_
    have q : P (.d (.bool (decide (ptoldF r = some (((r :: rs).length : Nat) : Int))))) h := q
    cases e : ptoldF r with
    | none =>
      rw [e] at q
      rw [decide_eq_false (by intro z; cases z)] at q
      (conv => whnf)
      refine And.intro (.inl ⟨rfl, rfl⟩) ?_
      exact q
    | some m =>
      rw [e] at q
      (conv => whnf)
      rw [List.length_map]
      rw [show decide ((((r :: rs).length : Nat) : Int) = m) = decide (some m = some (((r :: rs).length : Nat) : Int)) by
        apply decide_eq_decide.mpr
        rw [Option.some.injEq]
        exact eq_comm]
      exact q
/-- the rows of a text, each right behind those ahead of it -/
def tbRR (fr fw : List Nat) : T :=
  (.cons (.asg (.tst 0 (.cons (.tnm 5) (.cons (.tnm 4) .nil))) (.smt .split (.var 0) (.con (.str "\n"))))
  (.cons (.for_ (.tnm 3) (.rng1 (.o1 .len (.var 5))) (.cons (.ifs (.not (.callf 1 fr (.cons (.o2 .cuthi (.var 5) (.var 3)) (.cons (.o2 .idx (.var 5) (.var 3)) .nil)))) (.cons .nil
      .nil) .nil)
    .nil))
  (.cons (.ifs (.o2 .ne (.var 4) (.con (.str ""))) (.cons .nil
    .nil) .nil)
  (.cons (.ifs (.not (.callf 2 fw (.cons (.var 5) .nil))) (.cons .nil
    .nil) .nil)
  (.cons (.ret (.var 5))
  .nil)))))
theorem w_rows {FT : List FnI} {g gr gw : Nat} {fr fw : List Nat} (c0 : FT[g]? = some ⟨3, 6, 0, tbRR fr fw⟩) (mr : gr ∈ fr) (mw : gw ∈ fw) {n : Nat} {h : Hp} {l : List Nat} {rs : List (List Nat)} (hl : l.length ≤ 100000) (hs : cutL 10 l = rs ++ [[]])
    (hr : ∀ (j : Nat) r, rs[j]? = some r → ∀ {h : Hp} {P : Pv} {X : Px}, P (.d (.bool true)) h → callN FT n gr [.d (.list ((rs.take j).map fun l => PyData.str (S l))), .d (.str (S r))] h P X)
    (hw : ∀ {h : Hp} {P : Pv} {X : Px}, P (.d (.bool true)) h → callN FT n gw [.d (.list (rs.map fun l => PyData.str (S l)))] h P X)
    {P : Pv} {X : Px} (q : P (.d (.list (rs.map fun l => PyData.str (S l)))) h) : callN FT (n + 1) g [.d (.str (S l)), .fn gr, .fn gw] h P X := by
  refine callN_iso (h0 := []) (args := [.d (.str (S l)), .fn gr, .fn gw]) c0 rfl rfl rfl List.nodup_nil rfl ?_
  (conv => whnf)
  refine And.intro ⟨by decide, by rw [sLen]; exact hl⟩ ?_
  rw [show (Str.ofString "\n") = S [10] by decide, split_cut (by decide), dStr, hs, List.map_append]
  refine wa_tst0 ?_
  (conv => whnf)
  have rl : rs.length ≤ 100001 := by
    obtain ⟨p, ps, e1, e2, _⟩ := cutL_ne 10 l
    rw [← e1, hs, List.length_append] at e2
    omega
  refine And.intro (by rw [List.length_map]; omega) ?_
  rw [List.length_map, Int.toNat_natCast]
  refine forW_r0 (fun j e h' => h' = [] ∧ ∃ o3, e = [some (.d (.str (S l))), some (.fn gr), some (.fn gw), o3, some (.d (.str (S []))), some (.d (.list (rs.map fun l => PyData.str (S l))))]) _ _ _ ⟨rfl, _, rfl⟩ (fun _ _ _ _ => trivial) ?_ ?_
  · rintro j e h2 nx' ⟨rfl, o3, rfl⟩ hj hnx'
    (conv => whnf)
    refine And.intro mr ?_
    (conv => whnf)
    rw [cut_hi]
    obtain ⟨x, e1, e2⟩ := atI_nn (xs := rs.map fun l => PyData.str (S l)) (v := (j : Int)) (by omega) (by rw [List.length_map]; omega)
    rw [e2]
    rw [Int.toNat_natCast, List.getElem?_map] at e1
    obtain ⟨r, er, rfl⟩ := Option.map_eq_some_iff.mp e1
    (conv => whnf)
    rw [← List.map_take]
    refine hr j r er ?_
    (conv => whnf)
    exact hnx' _ _ ⟨rfl, _, rfl⟩
  · rintro e h2 ⟨rfl, o3, rfl⟩
    (conv => whnf)
    refine And.intro mw ?_
    (conv => whnf)
    refine hw ?_
    (conv => whnf)
    exact q
theorem w_rowsN {FT : List FnI} {g gr gw : Nat} {fr fw : List Nat} (c0 : FT[g]? = some ⟨3, 6, 0, tbRR fr fw⟩) (mr : gr ∈ fr) (mw : gw ∈ fw) {N : Nat} (hN : 1 ≤ N) {h : Hp} {l : List Nat} {rs : List (List Nat)} (hl : l.length ≤ 100000) (hs : cutL 10 l = rs ++ [[]])
    (hr : ∀ (j : Nat) r, rs[j]? = some r → ∀ {h : Hp} {P : Pv} {X : Px}, P (.d (.bool true)) h → callN FT (N - 1) gr [.d (.list ((rs.take j).map fun l => PyData.str (S l))), .d (.str (S r))] h P X)
    (hw : ∀ {h : Hp} {P : Pv} {X : Px}, P (.d (.bool true)) h → callN FT (N - 1) gw [.d (.list (rs.map fun l => PyData.str (S l)))] h P X)
    {P : Pv} {X : Px} (q : P (.d (.list (rs.map fun l => PyData.str (S l)))) h) : callN FT N g [.d (.str (S l)), .fn gr, .fn gw] h P X := by
  obtain ⟨n, rfl⟩ : ∃ m, N = m + 1 := ⟨N - 1, by omega⟩
  exact w_rows c0 mr mw hl hs hr hw q
/-- a comprehension behind what is made already -/
theorem cmpW_accA {α : Type} {chk : Hp → Prop} {turn : V → Hp → (Option V → Hp → Prop) → Prop} {h : Hp} {Q : List V → Hp → Prop} (f r : α → D) (hc : chk h) : ∀ (ts : List α) (acc : List V), (∀ x ∈ ts, ∀ Q' : Option V → Hp → Prop, Q' (some (V.d (r x))) h → turn (.d (f x)) h Q') →
    acc.length + ts.length ≤ big → Q (acc ++ ts.map fun x => V.d (r x)) h → cmpW chk turn ((ts.map f).map V.d) acc h Q
  | [], acc, _, _, q => cmpW_nil hc (by rw [List.map_nil, List.append_nil] at q; exact q)
  | x :: ts, acc, ht, hl, q => by
    rw [List.length_cons] at hl
    refine cmpW_cons hc (ht x (by simp) _ (And.intro (by omega) ?_))
    refine cmpW_accA f r hc ts (acc ++ [V.d (r x)]) (fun y hy => ht y (by simp [hy])) (by rw [List.length_append, List.length_cons, List.length_nil]; omega) ?_
    rw [List.append_assoc]
    exact q
theorem int_dig {x : Nat} (h : x < 10) : intText? (S [48 + x]) = some (x : Int) := by
  have e := SX.int_S (a := [48 + x]) (by simp; omega) (by simp) (by simp)
  rw [e]
  have : NumText.digitsVal [48 + x] = x := by show 0 * 10 + (48 + x - 48) = x; omega
  rw [this]
/-- whole numbers, and tuples of such -/
inductive ItD : Nat → D → Prop
  | num {k : Nat} (i : Int) : ItD k (.int i)
  | tup {k : Nat} {xs : List D} (h : ∀ x ∈ xs, ItD k x) (hl : xs.length ≤ 100000) : ItD (k + 1) (.tuple xs)
theorem zip_same : ∀ xs : List D, zipD xs xs = (xs.map fun x => PyData.tuple [x, x]).map V.d
  | [] => rfl
  | x :: xs => by show V.d _ :: zipD xs xs = _; rw [zip_same xs]; rfl
theorem w_lalike {FT : List FnI} {g : Nat} (c0 : C__law_alike_k07 FT g) : ∀ {k : Nat} {x : D}, ItD k x → ∀ {n : Nat}, k + 1 ≤ n → ∀ {h : Hp} {P : Pv} {X : Px}, P (.d (.bool true)) h → callN FT n g [.d x, .d x] h P X := by
  intro k x hx
  induction hx with
  | @num k i =>
    intro n hn h P X q
    obtain ⟨n, rfl⟩ : ∃ m, n = m + 1 := ⟨n - 1, by omega⟩
    refine callN_d (ds := [.int i, .int i]) (fn := ix__law_alike_k07 g) c0 rfl rfl ?_
    (conv => whnf)
    rw [decide_eq_true rfl]
    exact q
  | @tup k xs hs hl ih =>
    intro n hn h P X q
    obtain ⟨n, rfl⟩ : ∃ m, n = m + 1 := ⟨n - 1, by omega⟩
    refine callN_d (ds := [.tuple xs, .tuple xs]) (fn := ix__law_alike_k07 g) c0 rfl rfl ?_
    (conv => whnf)
    rw [decide_eq_true rfl]
    (conv => whnf)
    rw [zip_same]
    refine cmpW_mp (fun x => PyData.tuple [x, x]) PyData.bool (fun _ => true) (by exact ⟨trivial, trivial⟩) xs (fun x hx Q' qq => ?_) (Nat.le_trans hl (by decide)) ?_
    · (conv => whnf)
      refine And.intro rfl ?_
      (conv => whnf)
      refine And.intro rfl ?_
      (conv => whnf)
      refine ih x hx (n := n) (by omega) ?_
      exact qq
    · refine mkL_d ?_
      (conv => whnf)
      rw [asBools_of]
      (conv => whnf)
      rw [show ((xs.map fun _ => true).all id) = true by rw [List.all_map]; exact List.all_eq_true.mpr fun _ _ => rfl]
      exact q
/-- a loop over numbers from lo on -/
theorem forW_lo {chk : Hp → Prop} {body : V → Hb.Env → Hp → Nx → Kk → Prop} {n : Nx} {k : Kk} (lo : Int) (I : Nat → Hb.Env → Hp → Prop) (m : Nat) (env : Hb.Env) (h : Hp) (h0 : I 0 env h) (hc : ∀ i e h, I i e h → chk h)
    (st : ∀ i e h (nx : Nx), I i e h → i < m → (∀ e' h', I (i + 1) e' h' → nx e' h') → body (.d (.int (lo + i))) e h nx ⟨k.rt, n, nx, k.xe⟩)
    (fin : ∀ e h, I m e h → n e h) : forW chk body ((ranI lo m).map V.d) env h n k := by
  have := forW_ran lo I m 0 env h h0 hc (fun i e h nx hi _ hm q => st i e h nx hi (by omega) q) fun e h hi => fin e h (by rw [Nat.zero_add] at hi; exact hi)
  rw [show lo + ((0 : Nat) : Int) = lo by omega] at this
  exact this
theorem forW_rdj {chk : Hp → Prop} {body : V → Hb.Env → Hp → Nx → Kk → Prop} {n : Nx} {k : Kk} (hi : Int) (I : Nat → Hb.Env → Hp → Prop) : ∀ (m j : Nat) (env : Hb.Env) (h : Hp), I j env h → (∀ i e h, I i e h → chk h) →
    (∀ i e h (nx : Nx), I i e h → i < j + m → (∀ e' h', I (i + 1) e' h' → nx e' h') → body (.d (.int (hi - i))) e h nx ⟨k.rt, n, nx, k.xe⟩) →
    (∀ e h, I (j + m) e h → n e h) → forW chk body ((ranD (hi - j) m).map V.d) env h n k
  | 0, j, env, h, h0, hc, _, fin => forW_nil (hc _ _ _ h0) (fin env h h0)
  | m + 1, j, env, h, h0, hc, st, fin => by
    refine forW_cons (hc _ _ _ h0) (st j env h _ h0 (by omega) fun e' h' hi' => ?_)
    have e : hi - (j : Int) - 1 = hi - ((j + 1 : Nat) : Int) := by omega
    show forW chk body ((ranD (hi - j - 1) m).map V.d) e' h' n k
    rw [e]
    exact forW_rdj hi I m (j + 1) e' h' hi' hc (fun i e h nx a b c => st i e h nx a (by omega) c) fun e h a => fin e h (by rw [show j + (m + 1) = j + 1 + m by omega]; exact a)
/-- a loop over numbers from hi downwards -/
theorem forW_rd {chk : Hp → Prop} {body : V → Hb.Env → Hp → Nx → Kk → Prop} {n : Nx} {k : Kk} (hi : Int) (I : Nat → Hb.Env → Hp → Prop) (m : Nat) (env : Hb.Env) (h : Hp) (h0 : I 0 env h) (hc : ∀ i e h, I i e h → chk h)
    (st : ∀ i e h (nx : Nx), I i e h → i < m → (∀ e' h', I (i + 1) e' h' → nx e' h') → body (.d (.int (hi - i))) e h nx ⟨k.rt, n, nx, k.xe⟩)
    (fin : ∀ e h, I m e h → n e h) : forW chk body ((ranD hi m).map V.d) env h n k := by
  have := forW_rdj hi I m 0 env h h0 hc (fun i e h nx a b c => st i e h nx a (by omega) c) fun e h a => fin e h (by rw [Nat.zero_add] at a; exact a)
  rw [show hi - ((0 : Nat) : Int) = hi by omega] at this
  exact this
theorem strsD_of : ∀ ls : List (List Nat), strsD (ls.map fun l => PyData.str (S l)) = some (ls.map S)
  | [] => rfl
  | l :: ls => by show (strsD (ls.map fun l => PyData.str (S l))).map (S l :: ·) = _; rw [strsD_of ls]; rfl
theorem joinL_nil : ∀ ls : List (List Nat), TL.joinL [] ls = ls.flatten
  | [] => rfl
  | [p] => by show p = p ++ []; rw [List.append_nil]
  | p :: q :: r => by show p ++ ([] ++ TL.joinL [] (q :: r)) = p ++ (q :: r).flatten; rw [joinL_nil (q :: r), List.nil_append]
theorem sum_len (ls : List (List Nat)) : ((ls.map S).map (·.length)).sum = ls.flatten.length := by
  rw [SX.lens, List.length_flatten]
/-- "".join(xs) -/
theorem join_nil {ls : List (List Nat)} {Q : D → Prop} (hl : ls.flatten.length ≤ 100000) (q : Q (.str (S ls.flatten))) : joinP (.str (S [])) (.list (ls.map fun l => PyData.str (S l))) Q := by
  show optP (strsD (ls.map fun l => PyData.str (S l))) _
  rw [strsD_of]
  refine And.intro ?_ ?_
  · rw [sum_len, List.length_map, sLen]
    simpa using hl
  · rw [SX.join_S, joinL_nil]
    exact q
theorem join_rd {ls : List (List Nat)} {h : Hp} {Q : D → Prop} (hl : ls.flatten.length ≤ 100000) (q : Q (.str (S ls.flatten))) : optP (rdV h (.d (.str (S [])))) fun x => optP (rdV h (.d (.list (ls.map fun l => PyData.str (S l))))) fun z => smP .join x z Q :=
  join_nil (Q := Q) hl q
theorem cut_lh {α : Type} (xs : List α) (k w : Nat) (h : k + w ≤ xs.length) : cutD xs (some (k : Int)) (some ((k + w : Nat) : Int)) = (xs.drop k).take w := by
  unfold cutD
  rw [HT.sIx_nat, HT.sIx_nat, Nat.min_eq_left h, Nat.min_eq_left (by omega), Nat.add_sub_cancel_left]
end Hb

namespace Lk09
open PySem
open Hb
set_option autoImplicit false
/-- a colouring's rows: so many hues, then one fewer, .. -/
def hrows : Nat → List Nat → List (List Nat)
  | 0, _ => []
  | w + 1, hs => hs.take (w + 1) :: hrows w (hs.drop (w + 1))
def tri : Nat → Nat
  | 0 => 0
  | w + 1 => w + 1 + tri w
/-- its text: the first row, then the hues -/
def first (m : Nat) : List Nat := [104, 117, 101, 115, 32] ++ TL.numL m
def body (w : Nat) (hs : List Nat) : List Nat := ((hrows w hs).map fun r => r.map (48 + ·) ++ [10]).flatten
def ctext (m : Nat) (hs : List Nat) : List Nat := first m ++ [10] ++ body (m - 1) hs
def colD (m : Nat) (hs : List Nat) : D := .tuple [.int m, .tuple (hs.map fun h => PyData.int (h : Nat))]
theorem body_cons (w : Nat) (hs : List Nat) : body (w + 1) hs = (hs.take (w + 1)).map (48 + ·) ++ [10] ++ body w (hs.drop (w + 1)) := rfl
theorem body_len : ∀ (w : Nat) (hs : List Nat), (body w hs).length ≤ hs.length + w
  | 0, hs => by show 0 ≤ _; omega
  | w + 1, hs => by
    have := body_len w (hs.drop (w + 1))
    rw [body_cons]
    simp only [List.length_append, List.length_map, List.length_take, List.length_drop, List.length_cons, List.length_nil] at this ⊢
    omega
theorem tri_le : ∀ w : Nat, w ≤ 11 → tri w ≤ 66 := by decide
theorem numL_12 {m : Nat} (h : m ≤ 12) : (TL.numL m).length ≤ 2 := TL.numL_len (by decide) (by omega)
theorem ctext_len {m : Nat} {hs : List Nat} (h12 : m ≤ 12) (hl : hs.length = tri (m - 1)) : (ctext m hs).length ≤ 200 := by
  have a := body_len (m - 1) hs
  have b := tri_le (m - 1) (by omega)
  have c := numL_12 h12
  unfold ctext first
  simp only [List.length_append, List.length_cons, List.length_nil]
  omega
theorem str_dig {c : Nat} (h : c < 10) : strInt (c : Int) = S [48 + c] := by rw [sInt, TL.numL_lt h]
/-- the law's writing -/
theorem w_painted {FT : List FnI} {g : Nat} (c0 : C__law_painted_k09 FT g) {n : Nat} (hn : 1 ≤ n) {h : Hp} {m : Nat} {hs : List Nat} (h1 : 1 ≤ m) (h12 : m ≤ 12) (hl : hs.length = tri (m - 1)) (h4 : ∀ x ∈ hs, x < 4) {P : Pv} {X : Px} (q : P (.d (.str (S (ctext m hs)))) h) : callN FT n g [.d (colD m hs)] h P X := by
  obtain ⟨n, rfl⟩ : ∃ m, n = m + 1 := ⟨n - 1, by omega⟩
  refine callN_d (ds := [colD m hs]) (fn := ix__law_painted_k09) c0 rfl rfl ?_
  (conv => whnf)
  refine And.intro rfl ?_
  (conv => whnf)
  refine And.intro rfl ?_
  (conv => whnf)
  refine And.intro (by show (m : Int).natAbs < 2 ^ 1000; exact Nat.lt_of_le_of_lt (show (m : Int).natAbs ≤ 12 by omega) (by decide)) ?_
  rw [sInt, show (Str.ofString "hues ") = S [104, 117, 101, 115, 32] by decide, show (Str.ofString "\n") = S [10] by decide]
  (conv => whnf)
  have big1 : ∀ {a b : List Nat}, a.length + b.length ≤ 1000 → (S a).length + (S b).length ≤ big := fun {a b} z => by rw [sLen, sLen]; exact Nat.le_trans z (by decide)
  have c12 := numL_12 h12
  refine And.intro (big1 (by simp only [List.length_cons, List.length_nil]; omega)) ?_
  rw [sApp]
  (conv => whnf)
  refine And.intro (big1 (by simp only [List.length_append, List.length_cons, List.length_nil]; omega)) ?_
  rw [sApp]
  (conv => whnf)
  refine And.intro (by omega) ?_
  have cl := ctext_len h12 hl
  rw [show ((m : Int) - 1).toNat = m - 1 by omega]
  refine forW_r0 (fun j e h' => h' = [] ∧ ∃ (k : Nat) (txt : List Nat) (o3 o6 : Option V), e = [some (.d (colD m hs)), some (.d (.str (S txt))), some (.d (.int (k : Nat))), o3, some (.d (.int (m : Nat))), some (.d (.tuple (hs.map fun h => PyData.int (h : Nat)))), o6] ∧
    txt ++ body (m - 1 - j) (hs.drop k) = ctext m hs ∧ k + tri (m - 1 - j) = hs.length) _ _ _ ⟨rfl, 0, _, _, _, rfl, rfl, by rw [hl, Nat.zero_add]; rfl⟩ (fun _ _ _ _ => trivial) ?_ ?_
  · rintro j e h2 nx' ⟨rfl, k, txt, o3, o6, rfl, et, ek⟩ hj hnx'
    (conv => whnf)
    refine And.intro (by omega) ?_
    obtain ⟨w, ew⟩ : ∃ w, m - 1 - j = w + 1 := ⟨m - 1 - j - 1, by omega⟩
    rw [ew] at et ek
    rw [body_cons] at et
    have ek : k + (w + 1 + tri w) = hs.length := ek
    rw [show ((m : Int) - (j + 1)).toNat = w + 1 by omega]
    have el : (hs.drop k).length = hs.length - k := List.length_drop
    refine forW_lo _ (fun i e h' => h' = [] ∧ ∃ (o6 : Option V), e = [some (.d (colD m hs)), some (.d (.str (S (txt ++ ((hs.drop k).take i).map (48 + ·))))), some (.d (.int ((k + i : Nat) : Int))), some (.d (.int (j : Nat))), some (.d (.int (m : Nat))), some (.d (.tuple (hs.map fun h => PyData.int (h : Nat)))), o6]) _ _ _ ⟨rfl, o6, by simp⟩ (fun _ _ _ _ => trivial) ?_ ?_
    · rintro i e h2 nx2 ⟨rfl, o6, rfl⟩ hi hnx2
      (conv => whnf)
      have hki : k + i < hs.length := by omega
      obtain ⟨x, e1, e2⟩ := atI_nn (xs := hs.map fun h => PyData.int (h : Nat)) (v := ((k + i : Nat) : Int)) (by omega) (by rw [List.length_map]; omega)
      rw [e2]
      rw [Int.toNat_natCast, List.getElem?_map, List.getElem?_eq_getElem hki] at e1
      cases e1
      have x4 : hs[k + i] < 4 := h4 _ (List.getElem_mem hki)
      (conv => whnf)
      refine And.intro (Nat.lt_of_le_of_lt (show ((hs[k + i] : Nat) : Int).natAbs ≤ 4 by omega) (by decide)) ?_
      rw [str_dig (by omega)]
      (conv => whnf)
      have tl : (txt ++ ((hs.drop k).take i).map (48 + ·)).length ≤ 400 := by
        have := congrArg List.length et
        simp only [List.length_append, List.length_map, List.length_take] at this ⊢
        omega
      refine And.intro (big1 (by simp only [List.length_cons, List.length_nil]; omega)) ?_
      rw [sApp]
      (conv => whnf)
      have step : txt ++ ((hs.drop k).take i).map (48 + ·) ++ [48 + hs[k + i]] = txt ++ ((hs.drop k).take (i + 1)).map (48 + ·) := by
        rw [List.append_assoc, List.take_add_one, List.map_append, List.getElem?_drop, List.getElem?_eq_getElem hki]
        rfl
      rw [step]
      exact hnx2 _ _ ⟨rfl, _, rfl⟩
    · rintro e h2 ⟨rfl, o6, rfl⟩
      (conv => whnf)
      have tl : (txt ++ ((hs.drop k).take (w + 1)).map (48 + ·)).length ≤ 400 := by
        have := congrArg List.length et
        simp only [List.length_append, List.length_map, List.length_take] at this ⊢
        omega
      refine And.intro (big1 (by simp only [List.length_cons, List.length_nil]; omega)) ?_
      rw [sApp]
      (conv => whnf)
      refine hnx' _ _ ⟨rfl, k + (w + 1), _, _, _, rfl, ?_, ?_⟩
      · rw [show m - 1 - (j + 1) = w by omega, ← et, List.drop_drop]
        simp only [List.append_assoc]
      · rw [show m - 1 - (j + 1) = w by omega]
        omega
  · rintro e h2 ⟨rfl, k, txt, o3, o6, rfl, et, ek⟩
    rw [show m - 1 - (m - 1) = 0 by omega] at et
    have et : txt ++ [] = ctext m hs := et
    rw [List.append_nil] at et
    subst et
    (conv => whnf)
    exact q
def digs (r : List Nat) : List Nat := r.map (48 + ·)
theorem body_eq : ∀ (w : Nat) (hs : List Nat), body w hs = (((hrows w hs).map digs).map (· ++ [10])).flatten := fun w hs => by
  unfold body
  rw [List.map_map]
  rfl
theorem flat_dig : ∀ r : List Nat, ((digs r).map fun c => [c]).flatten = digs r := fun r => by
  induction digs r with
  | nil => rfl
  | cons c l ih => rw [List.map_cons, List.flatten_cons, ih]; rfl
theorem hrows_flat : ∀ (w : Nat) (hs : List Nat), hs.length = tri w → (hrows w hs).flatten = hs
  | 0, hs, h => by
    have : hs = [] := List.length_eq_zero_iff.mp h
    subst this
    rfl
  | w + 1, hs, h => by
    have h : hs.length = w + 1 + tri w := h
    show (hs.take (w + 1) ++ (hrows w (hs.drop (w + 1))).flatten) = hs
    rw [hrows_flat w _ (by rw [List.length_drop]; omega), List.take_append_drop]
theorem mem_flat {α : Type} {r : List α} : ∀ {ls : List (List α)}, r ∈ ls → r.length ≤ ls.flatten.length
  | [], h => by cases h
  | l :: ls, h => by
    rw [List.flatten_cons, List.length_append]
    rcases List.mem_cons.mp h with rfl | h
    · omega
    · have := mem_flat h
      omega
/-- the program's writing -/
theorem w_show {FT : List FnI} {g : Nat} (c0 : C_show_colouring FT g) {n : Nat} (hn : 1 ≤ n) {h : Hp} {m : Nat} {hs : List Nat} (h1 : 1 ≤ m) (h12 : m ≤ 12) (hl : hs.length = tri (m - 1)) (h4 : ∀ x ∈ hs, x < 4) {P : Pv} {X : Px} (q : P (.d (.str (S (ctext m hs)))) h) : callN FT n g [.d (colD m hs)] h P X := by
  obtain ⟨n, rfl⟩ : ∃ m, n = m + 1 := ⟨n - 1, by omega⟩
  refine callN_d (ds := [colD m hs]) (fn := ix_show_colouring) c0 rfl rfl ?_
  (conv => whnf)
  refine And.intro rfl ?_
  (conv => whnf)
  refine And.intro rfl ?_
  (conv => whnf)
  have c12 := numL_12 h12
  have big1 : ∀ {a b : List Nat}, a.length + b.length ≤ 1000 → (S a).length + (S b).length ≤ big := fun {a b} z => by rw [sLen, sLen]; exact Nat.le_trans z (by decide)
  refine And.intro ⟨by omega, Int.lt_of_le_of_lt (show (m : Int) ≤ 12 by omega) (by decide)⟩ ?_
  rw [sInt, show (Str.ofString "hues ") = S [104, 117, 101, 115, 32] by decide]
  (conv => whnf)
  refine And.intro (big1 (by simp only [List.length_cons, List.length_nil]; omega)) ?_
  rw [sApp]
  (conv => whnf)
  refine And.intro (Nat.le_of_ble_eq_true rfl) ?_
  (conv => whnf)
  refine And.intro ⟨by omega, by omega, by decide, by decide⟩ ?_
  rw [show ((m : Int) - 1 - 0).toNat = m - 1 by omega]
  have hl66 := tri_le (m - 1) (by omega)
  refine forW_rd _ (fun j e h' => ∃ (k : Nat) (rs : List (List Nat)) (o3 o6 o7 : Option V), h' = [.lst ((first m :: rs).map fun l => PyData.str (S l))] ∧ e = [some (.d (colD m hs)), some (.cell 0), some (.d (.int (k : Nat))), o3, some (.d (.int (m : Nat))), some (.d (.tuple (hs.map fun h => PyData.int (h : Nat)))), o6, o7] ∧
    rs ++ (hrows (m - 1 - j) (hs.drop k)).map digs = (hrows (m - 1) hs).map digs ∧ k + tri (m - 1 - j) = hs.length ∧ rs.length ≤ j) _ _ _ ⟨0, [], _, _, _, rfl, rfl, rfl, by rw [hl, Nat.zero_add]; rfl, Nat.le_refl _⟩ (fun _ _ _ _ => trivial) ?_ ?_
  · rintro j e h2 nx' ⟨k, rs, o3, o6, o7, rfl, rfl, et, ek, er⟩ hj hnx'
    obtain ⟨w, ew⟩ : ∃ w, m - 1 - j = w + 1 := ⟨m - 1 - j - 1, by omega⟩
    rw [ew] at et ek
    have ek : k + (w + 1 + tri w) = hs.length := ek
    rw [show ((m : Int) - 1 - (j : Nat)) = ((w + 1 : Nat) : Int) by omega]
    (conv => whnf)
    rw [show ((k : Int) + ((w + 1 : Nat) : Int)) = ((k + (w + 1) : Nat) : Int) by omega, cut_lh _ _ _ (by rw [List.length_map]; omega), ← List.map_drop, ← List.map_take]
    have hm : ∀ x ∈ (hs.drop k).take (w + 1), x < 4 := fun x hx => h4 x (List.mem_of_mem_drop (List.mem_of_mem_take hx))
    refine cmpW_mp (fun h : Nat => PyData.int (h : Nat)) (fun l => PyData.str (S l)) (fun h => [48 + h]) trivial _ (fun x hx Q' qq => ?_) (Nat.le_trans (List.length_take_le _ _) (Nat.le_trans (show w + 1 ≤ 66 by omega) (by decide))) (mkL_d ?_)
    · (conv => whnf)
      have := hm x hx
      refine And.intro (Nat.lt_of_le_of_lt (show ((x : Nat) : Int).natAbs ≤ 4 by omega) (by decide)) ?_
      rw [str_dig (by omega)]
      exact qq
    · have fl : (((hs.drop k).take (w + 1)).map fun h => [48 + h]).flatten = digs ((hs.drop k).take (w + 1)) := by
        generalize (hs.drop k).take (w + 1) = r
        induction r with
        | nil => rfl
        | cons c l ih => rw [List.map_cons, List.flatten_cons, ih]; rfl
      rw [show (Str.ofString "") = S [] by decide]
      refine join_rd (ls := ((hs.drop k).take (w + 1)).map fun h => [48 + h]) ?_ ?_
      · rw [fl]
        unfold digs
        rw [List.length_map]
        exact Nat.le_trans (List.length_take_le _ _) (by omega)
      rw [fl]
      (conv => whnf)
      refine And.intro (by rw [List.length_map, List.length_cons]; exact Nat.lt_of_le_of_lt (show rs.length + 1 ≤ 12 by omega) (by decide)) ?_
      (conv => whnf)
      refine hnx' _ _ ⟨k + (w + 1), rs ++ [digs ((hs.drop k).take (w + 1))], _, _, _, ?_, rfl, ?_, ?_, ?_⟩
      · rw [← List.cons_append, List.map_append]
        rfl
      · rw [show m - 1 - (j + 1) = w by omega, ← et]
        show _ = rs ++ ((hs.drop k).take (w + 1) :: hrows w ((hs.drop k).drop (w + 1))).map digs
        rw [List.drop_drop, List.map_cons, List.append_assoc]
        rfl
      · rw [show m - 1 - (j + 1) = w by omega]
        omega
      · rw [List.length_append, List.length_cons, List.length_nil]
        omega
  · rintro e h2 ⟨k, rs, o3, o6, o7, rfl, rfl, et, ek, er⟩
    rw [show m - 1 - (m - 1) = 0 by omega] at et
    have et : rs ++ [] = (hrows (m - 1) hs).map digs := et
    rw [List.append_nil] at et
    subst et
    (conv => whnf)
    refine cmpW_mp (fun l => PyData.str (S l)) (fun l => PyData.str (S l)) (fun l => l ++ [10]) ?_ (first m :: (hrows (m - 1) hs).map digs) (fun l hl' Q' qq => ?_) ?_ (mkL_d ?_)
    · rfl
    · (conv => whnf)
      have hle : l.length ≤ 100 := by
        rcases List.mem_cons.mp hl' with rfl | hl'
        · unfold first
          simp only [List.length_append, List.length_cons, List.length_nil]
          omega
        · obtain ⟨r, hr, rfl⟩ := List.mem_map.mp hl'
          unfold digs
          rw [List.length_map]
          have := hrows_flat (m - 1) hs hl
          have hb : r.length ≤ (hrows (m - 1) hs).flatten.length := by
            exact mem_flat hr
          rw [this] at hb
          omega
      rw [show (Str.ofString "\n") = S [10] by decide]
      refine And.intro (big1 (by simp only [List.length_cons, List.length_nil]; omega)) ?_
      rw [sApp]
      exact qq
    · rw [List.length_cons]
      exact Nat.le_trans (show _ ≤ 13 by omega) (by decide)
    · have ef : ((first m :: (hrows (m - 1) hs).map digs).map fun l => l ++ [10]).flatten = ctext m hs := by
        rw [List.map_cons, List.flatten_cons, ← body_eq]
        unfold ctext
        rfl
      rw [show (Str.ofString "") = S [] by decide]
      refine join_rd (ls := (first m :: (hrows (m - 1) hs).map digs).map fun l => l ++ [10]) ?_ ?_
      · rw [ef]
        exact Nat.le_trans (ctext_len h12 hl) (by decide)
      · rw [ef]
        exact q
/-! ### reading back -/
def crows (m : Nat) (hs : List Nat) : List (List Nat) := first m :: (hrows (m - 1) hs).map digs
theorem joinL_rows : ∀ rows : List (List Nat), TL.joinL [10] (rows ++ [[]]) = (rows.map (· ++ [10])).flatten
  | [] => rfl
  | [p] => by show p ++ ([10] ++ []) = (p ++ [10]) ++ []; simp
  | p :: q :: r => by
    show p ++ ([10] ++ TL.joinL [10] (q :: r ++ [[]])) = (p ++ [10]) ++ ((q :: r).map (· ++ [10])).flatten
    rw [joinL_rows (q :: r), List.append_assoc]
theorem first_free (m : Nat) : 10 ∉ first m := by
  unfold first
  intro h
  rcases List.mem_append.mp h with h | h
  · revert h; decide
  · exact TL.numL_free (.inl (by decide)) h
theorem hrows_get : ∀ (w : Nat) (hs : List Nat), hs.length = tri w → (∀ x ∈ hs, x < 4) → ∀ (i : Nat) r, (hrows w hs)[i]? = some r → r.length + i = w ∧ ∀ x ∈ r, x < 4
  | 0, hs, _, _, i, r, e => by cases e
  | w + 1, hs, h, h4, i, r, e => by
    have h : hs.length = w + 1 + tri w := h
    cases i with
    | zero =>
      have e : some (hs.take (w + 1)) = some r := e
      cases e
      exact ⟨by rw [List.length_take]; omega, fun x hx => h4 x (List.mem_of_mem_take hx)⟩
    | succ i =>
      obtain ⟨a, b⟩ := hrows_get w (hs.drop (w + 1)) (by rw [List.length_drop]; omega) (fun x hx => h4 x (List.mem_of_mem_drop hx)) i r e
      exact ⟨by omega, b⟩
theorem hrows_length : ∀ (w : Nat) (hs : List Nat), (hrows w hs).length = w
  | 0, _ => rfl
  | w + 1, hs => by show (hrows w _).length + 1 = w + 1; rw [hrows_length]
theorem cut_ctext {m : Nat} {hs : List Nat} (hl : hs.length = tri (m - 1)) (h4 : ∀ x ∈ hs, x < 4) : cutL 10 (ctext m hs) = crows m hs ++ [[]] := by
  have e : ctext m hs = TL.joinL [10] (crows m hs ++ [[]]) := by
    rw [joinL_rows]
    unfold crows ctext
    rw [List.map_cons, List.flatten_cons, ← body_eq]
  unfold cutL
  rw [e]
  refine SX.spl_join (by simp) fun p hp => ?_
  rcases List.mem_append.mp hp with hp | hp
  · rcases List.mem_cons.mp hp with rfl | hp
    · exact first_free m
    · obtain ⟨r, hr, rfl⟩ := List.mem_map.mp hp
      obtain ⟨i, ei⟩ := List.getElem?_of_mem hr
      have := (hrows_get _ _ hl h4 i r ei).2
      intro z
      obtain ⟨x, hx, e⟩ := List.mem_map.mp z
      have := this x hx
      omega
  · rw [List.mem_singleton.mp hp]
    simp
theorem ptold_first {m : Nat} (h1 : 1 ≤ m) (h12 : m ≤ 12) : ptoldF (first m) = some (m : Int) := by
  have e : cutL 32 (first m) = [hues, TL.numL m] := by
    unfold cutL
    rw [show first m = TL.joinL [32] [hues, TL.numL m] from rfl]
    refine SX.spl_join (by simp) fun p hp => ?_
    simp only [List.mem_cons, List.not_mem_nil, or_false] at hp
    rcases hp with rfl | rfl
    · decide
    · exact TL.numL_free (.inl (by decide))
  unfold ptoldF
  rw [e]
  show (if hues = hues then numR (TL.numL m) 1 12 else none) = _
  rw [if_pos rfl]
  exact numR_num (by omega) (by omega) (by omega)
theorem crows_get {m : Nat} {hs : List Nat} (h1 : 1 ≤ m) (hl : hs.length = tri (m - 1)) (h4 : ∀ x ∈ hs, x < 4) {j : Nat} {r : List Nat} (e : (crows m hs)[j + 1]? = some r) : r.length + j + 1 = m ∧ (r.all fun c => decide (48 ≤ c) && decide (c ≤ 51)) = true := by
  have e : ((hrows (m - 1) hs).map digs)[j]? = some r := e
  rw [List.getElem?_map] at e
  obtain ⟨y, ey, rfl⟩ := Option.map_eq_some_iff.mp e
  obtain ⟨a, b⟩ := hrows_get _ _ hl h4 j y ey
  refine ⟨by unfold digs; rw [List.length_map]; omega, ?_⟩
  rw [List.all_eq_true]
  intro c hc
  obtain ⟨x, hx, rfl⟩ := List.mem_map.mp hc
  have := b x hx
  rw [Bool.and_eq_true, decide_eq_true_eq, decide_eq_true_eq]
  omega
theorem first_len {m : Nat} (h12 : m ≤ 12) : (first m).length ≤ 7 := by
  have := numL_12 h12
  unfold first
  simp only [List.length_append, List.length_cons, List.length_nil]
  omega
theorem crows_is {m : Nat} {hs : List Nat} (h1 : 1 ≤ m) (h12 : m ≤ 12) (hl : hs.length = tri (m - 1)) (h4 : ∀ x ∈ hs, x < 4) {j : Nat} {r : List Nat} (e : (crows m hs)[j]? = some r) :
    isHR ((crows m hs).take j) r = true ∧ r.length ≤ 12 := by
  cases j with
  | zero =>
    have e : some (first m) = some r := e
    cases e
    refine ⟨?_, Nat.le_trans (first_len h12) (by decide)⟩
    show (ptoldF (first m)).isSome = true
    rw [ptold_first h1 h12]
    rfl
  | succ j =>
    obtain ⟨a, b⟩ := crows_get h1 hl h4 e
    refine ⟨?_, by omega⟩
    have hj : j + 1 < (crows m hs).length := (List.getElem?_eq_some_iff.mp e).1
    have ln : ((crows m hs).take (j + 1)).length = j + 1 := by rw [List.length_take]; omega
    have e2 : (crows m hs).take (j + 1) = first m :: ((hrows (m - 1) hs).map digs).take j := rfl
    rw [e2] at ln ⊢
    show (match ptoldF (first m) with
      | some k => decide (0 < k - (((first m :: ((hrows (m - 1) hs).map digs).take j).length : Nat) : Int)) && (decide ((r.length : Int) = k - (((first m :: ((hrows (m - 1) hs).map digs).take j).length : Nat) : Int)) && r.all fun c => decide (48 ≤ c) && decide (c ≤ 51))
      | none => false) = true
    rw [ptold_first h1 h12, ln]
    show (decide (0 < (m : Int) - ((j + 1 : Nat) : Int)) && (decide ((r.length : Int) = (m : Int) - ((j + 1 : Nat) : Int)) && r.all fun c => decide (48 ≤ c) && decide (c ≤ 51))) = true
    have hr0 : j + 1 < m := by
      have : (crows m hs).length = m := by
        unfold crows
        rw [List.length_cons, List.length_map, hrows_length]
        omega
      omega
    rw [b, decide_eq_true (by omega), decide_eq_true (by omega)]
    rfl
theorem w_read {FT : List FnI} {g fr fi fa fp : Nat} (ef : FT[g]? = some (ix_read_colouring fr fi fa fp)) (er : FT[fr]? = some (ix_rows_read_k09 fi fa)) (ei : C_is_hues_row FT fi) (ea : C_are_all FT fa) (ep : C_points_told FT fp) {n : Nat} (hn : 6 ≤ n) {h : Hp} {m : Nat} {hs : List Nat} (h1 : 1 ≤ m) (h12 : m ≤ 12) (hl : hs.length = tri (m - 1)) (h4 : ∀ x ∈ hs, x < 4) {P : Pv} {X : Px} (q : P (.d (colD m hs)) h) : callN FT n g [.d (.str (S (ctext m hs)))] h P X := by
  obtain ⟨n, rfl⟩ : ∃ m, n = m + 1 := ⟨n - 1, by omega⟩
  refine callN_d (ds := [.str (S (ctext m hs))]) (fn := ix_read_colouring fr fi fa fp) ef rfl rfl ?_
  (conv => whnf)
  refine w_rowsN (fr := [fi]) (fw := [fa]) (gr := fi) (gw := fa) (rs := crows m hs) er (List.mem_singleton.mpr rfl) (List.mem_singleton.mpr rfl) (N := n) (by omega) (Nat.le_trans (ctext_len h12 hl) (by decide)) (cut_ctext hl h4) (fun j r e h P X q => ?_) (fun {h P X} q => ?_) ?_
  · obtain ⟨a, b⟩ := crows_is h1 h12 hl h4 e
    refine w_ishr ei (n := n - 1) (by omega) (by omega) (fun r' rs' e' => ?_) ?_
    · cases j with
      | zero => cases e'
      | succ j =>
        have e2 : (crows m hs).take (j + 1) = first m :: ((hrows (m - 1) hs).map digs).take j := rfl
        rw [e2] at e'
        cases e'
        exact ⟨Nat.le_trans (first_len h12) (by decide), by rw [ptold_first h1 h12]; rfl⟩
    · rw [a]
      exact q
  · refine w_areall ea (n := n - 1) (by omega) (fun r rs e => ?_) ?_
    · unfold crows at e
      cases e
      exact Nat.le_trans (first_len h12) (by decide)
    · have : isAllR (crows m hs) = true := by
        show decide (ptoldF (first m) = some (((first m :: (hrows (m - 1) hs).map digs).length : Nat) : Int)) = true
        rw [ptold_first h1 h12, List.length_cons, List.length_map, hrows_length, decide_eq_true]
        congr 1
        omega
      rw [this]
      exact q
  (conv => whnf)
  refine w_ptold ep (n := n) (by omega) (l := first m) (Nat.le_trans (first_len h12) (by decide)) ?_
  rw [ptold_first h1 h12]
  (conv => whnf)
  rw [show (some (1 : Int)) = some ((1 : Nat) : Int) from rfl, cut_lo]
  have e0 : (((crows m hs).map fun l => PyData.str (S l)).drop 1).map V.d = (hrows (m - 1) hs).map fun r => V.d (.str (S (digs r))) := by
    show (((hrows (m - 1) hs).map digs).map (fun l => PyData.str (S l))).map V.d = _
    rw [List.map_map, List.map_map]
    rfl
  rw [e0]
  have hl66 := tri_le (m - 1) (by omega)
  have fm : (hrows (m - 1) hs).flatMap (fun r => r.map fun x : Nat => V.d (.int (x : Nat))) = (hs.map fun x : Nat => PyData.int (x : Nat)).map V.d := by
    rw [List.flatMap_def, show (hrows (m - 1) hs).map (fun r => r.map fun x : Nat => V.d (.int (x : Nat))) = (hrows (m - 1) hs).map (List.map fun x : Nat => V.d (.int (x : Nat))) from rfl, ← List.map_flatten, hrows_flat _ _ hl, List.map_map]
    rfl
  refine cmpW2_fm (chk := fun _ => True) (h := []) (fun r : List Nat => V.d (.str (S (digs r)))) (fun r => r.map fun x : Nat => V.d (.int (x : Nat))) (by exact trivial) (hrows (m - 1) hs) [] (fun r hr acc Q' ha qq => ?_) ?_ ?_
  · (conv => whnf)
    rw [sSigns, show ((digs r).map fun c => PyData.str (S [c])) = r.map fun x => PyData.str (S [48 + x]) by unfold digs; rw [List.map_map]; rfl]
    refine cmpW_accA (chk := fun _ => True) (h := []) (fun x : Nat => PyData.str (S [48 + x])) (fun x : Nat => PyData.int (x : Nat)) (by exact trivial) r acc (fun x hx Q2 qq2 => ?_) (by rw [List.length_map] at ha; exact ha) ?_
    · (conv => whnf)
      refine And.intro (by show 1 ≤ 640; decide) ?_
      have hx4 : x < 4 := by
        have := hrows_flat _ _ hl
        exact h4 x (by rw [← this]; exact List.mem_flatten.mpr ⟨r, hr, hx⟩)
      rw [int_dig (by omega)]
      exact qq2
    · exact qq
  · rw [fm]
    simp only [List.length_map, List.length_nil, Nat.zero_add]
    exact Nat.le_trans (show hs.length ≤ 66 by omega) (by decide)
  · rw [fm, List.nil_append]
    refine mkL_d ?_
    (conv => whnf)
    refine And.intro (Nat.le_of_ble_eq_true rfl) ?_
    exact q
/-- a colouring is drawn -/
theorem tri_two : ∀ w : Nat, w ≤ 11 → ((w + 1) * w) / 2 = tri w := by decide
theorem w_paint {FT : List FnI} {g : Nat} (c0 : C__law_paint_k09 FT g) {n : Nat} (hn : 2 ≤ n) {h : Hp} {k t : Nat} {m : Nat} {xs : List D} (hk : h[k]? = some (.lst xs)) (hp : Pch t xs) (ht : t + 1000 < 2 ^ 60) (h1 : 1 ≤ m) (h12 : m ≤ 12) {P : Pv} {X : Px}
    (q : ∀ hs ys, hs.length = tri (m - 1) → (∀ x ∈ hs, x < 4) → Pch (t + 100) ys → P (.d (colD m hs)) (h.set k (.lst ys))) : callN FT n g [.cell k, .d (.int (m : Nat))] h P X := by
  obtain ⟨n, rfl⟩ : ∃ m, n = m + 1 := ⟨n - 1, by omega⟩
  obtain ⟨fr, ef, er⟩ := c0
  refine callN_c (ds := [.int (m : Nat)]) (fn := ix__law_paint_k09 fr) ef rfl rfl hk ?_
  (conv => whnf)
  refine w_reach er (n := n) (by omega) rfl hp (by omega) (by decide) (by decide) fun v ys v0 v4 hp1 => ?_
  (conv => whnf)
  have mm : ((m : Int) * ((m : Int) - 1)) / 2 = (tri (m - 1) : Nat) := by
    obtain ⟨w, rfl⟩ : ∃ w, m = w + 1 := ⟨m - 1, by omega⟩
    rw [show w + 1 - 1 = w from rfl, ← tri_two w (by omega), show ((w + 1 : Nat) : Int) - 1 = (w : Nat) by omega]
    norm_cast
  have h66 := tri_le (m - 1) (by omega)
  refine And.intro (.inl (Nat.lt_of_le_of_lt (show ((m : Nat) : Int).natAbs ≤ 12 by omega) (by decide))) ?_
  (conv => whnf)
  refine And.intro ⟨by decide, by decide⟩ ?_
  rw [mm]
  (conv => whnf)
  refine And.intro ⟨by omega, by omega⟩ ?_
  rw [Int.toNat_natCast]
  generalize hT : tri (m - 1) = T at h66
  refine cmpW_at (fun l acc h' => ∃ (j : Nat) (a : Int) (A : List Nat) (zs : List D), l = (ranI a j).map V.d ∧ acc = (A.map fun x : Nat => PyData.int (x : Nat)).map V.d ∧ h' = [.lst zs] ∧ Pch (t + 1 + (T - j)) zs ∧ A.length + j = T ∧ ∀ x ∈ A, (x : Int) < 1 + v) _ _ _ ⟨T, 0, [], _, rfl, rfl, rfl, hp1.mono (by omega), by simp, by simp⟩ ?_ ?_ ?_
  · rintro l acc h' ⟨j, a, A, zs, rfl, rfl, rfl, hp, hj, hA⟩
    exact ⟨trivial, Nat.lt_of_le_of_lt (show _ ≤ 66 by rw [List.length_map, List.length_map]; omega) (by decide)⟩
  · rintro x l acc h' Q' ⟨j, a, A, zs, hl, rfl, rfl, hp, hj, hA⟩ hs hn
    cases j with
    | zero => cases hl
    | succ j =>
      cases hl
      (conv => whnf)
      refine w_reach er (n := n) (by omega) (h := [.lst zs]) rfl hp (by omega) (by omega) (by omega) fun u ys2 u0 u1 hp2 => ?_
      refine hs _ _ ⟨j, a + 1, A ++ [u.toNat], ys2, rfl, ?_, rfl, hp2.mono (by omega), by rw [List.length_append, List.length_cons, List.length_nil]; omega, fun x hx => ?_⟩
      · rw [List.map_append, List.map_append]
        show _ = _ ++ [V.d (.int (u.toNat : Nat))]
        rw [Int.toNat_of_nonneg u0]
      · rcases List.mem_append.mp hx with hx | hx
        · exact hA x hx
        · rw [List.mem_singleton.mp hx, Int.toNat_of_nonneg u0]
          exact u1
  · rintro acc h' ⟨j, a, A, zs, hl, rfl, rfl, hp, hj, hA⟩
    have hj0 : j = 0 := by
      cases j with
      | zero => rfl
      | succ j => cases hl
    subst hj0
    refine mkL_d ?_
    (conv => whnf)
    refine w_reach er (n := n) (by omega) (h := [.lst zs]) rfl hp (by omega) (by decide) (by decide) fun u ys2 u0 u1 hp2 => ?_
    (conv => whnf)
    have A4 : ∀ x ∈ A, x < 4 := fun x hx => by have := hA x hx; omega
    cases e : decide (u = 0) with
    | false =>
      (conv => whnf)
      refine And.intro (Nat.le_of_ble_eq_true rfl) ?_
      exact q A ys2 (by rw [hT]; omega) A4 (hp2.mono (by omega))
    | true =>
      (conv => whnf)
      refine cmpW_mp (fun x : Nat => PyData.int (x : Nat)) (fun x : Nat => PyData.int (x : Nat)) (fun x => 3 - x) trivial A (fun x hx Q' qq => ?_) (Nat.le_trans (show A.length ≤ 66 by omega) (by decide)) (mkL_d ?_)
      · (conv => whnf)
        have := A4 x hx
        rw [show ((3 : Int) - (x : Nat)) = ((3 - x : Nat) : Int) by omega]
        exact qq
      · (conv => whnf)
        refine And.intro (Nat.le_of_ble_eq_true rfl) ?_
        exact q (A.map fun x => 3 - x) ys2 (by rw [List.length_map, hT]; omega) (fun x hx => by
          obtain ⟨y, _, rfl⟩ := List.mem_map.mp hx
          omega) (hp2.mono (by omega))
theorem colD_it {m : Nat} {hs : List Nat} (hl : hs.length ≤ 66) : ItD 2 (colD m hs) := by
  refine .tup (fun x hx => ?_) (by show 2 ≤ 100000; decide)
  simp only [List.mem_cons, List.not_mem_nil, or_false] at hx
  rcases hx with rfl | rfl
  · exact .num _
  · refine .tup (fun y hy => ?_) (by rw [List.length_map]; omega)
    obtain ⟨z, _, rfl⟩ := List.mem_map.mp hy
    exact .num _
theorem w_right {n : Nat} (hn : 8 ≤ n) {h : Hp} {k : Nat} {xs : List D} (hk : h[k]? = some (.lst xs)) (hp : Pch 0 xs) {P : Pv} {X : Px} (q : ∀ ys, P (.d (.bool true)) (h.set k (.lst ys))) : callN FT n f__law_right [.cell k] h P X := by
  obtain ⟨n, rfl⟩ : ∃ m, n = m + 1 := ⟨n - 1, by omega⟩
  refine callN_c (ds := []) (fn := ix__law_right_k09 f__law_paint f__law_reach f__law_painted f_show_colouring f__law_alike f_read_colouring) rfl rfl rfl hk ?_
  (conv => whnf)
  refine w_reach c__law_reach (n := n) (by omega) rfl hp (by omega) (by decide) (by decide) fun v ys v0 v1 hp => ?_
  (conv => whnf)
  obtain ⟨m, hm⟩ : ∃ m : Nat, 1 + v = (m : Int) := ⟨(1 + v).toNat, by omega⟩
  rw [hm]
  refine w_paint c__law_paint (n := n) (by omega) (h := [.lst ys]) rfl hp (by omega) (by omega) (by omega) fun hs ys2 hl h4 hp => ?_
  (conv => whnf)
  have h1 : 1 ≤ m := by omega
  have h12 : m ≤ 12 := by omega
  have h66 := tri_le (m - 1) (by omega)
  refine w_painted c__law_painted (n := n) (by omega) h1 h12 hl h4 ?_
  (conv => whnf)
  refine w_show c_show_colouring (n := n) (by omega) h1 h12 hl h4 ?_
  (conv => whnf)
  refine w_show c_show_colouring (n := n) (by omega) h1 h12 hl h4 ?_
  (conv => whnf)
  refine And.intro (Nat.le_of_ble_eq_true rfl) ?_
  refine mkL_d (ds := [.str (S (ctext m hs)), .str (S (ctext m hs))]) ?_
  (conv => whnf)
  have it := colD_it (m := m) (hs := hs) (by omega)
  refine forW_m (fun z : Str => V.d (.str z)) (fun l e h' => h' = [.lst ys2] ∧ (∀ z ∈ l, z = S (ctext m hs)) ∧ ∃ o3 : Option V, e = [some (.cell 0), some (.d (colD m hs)), some (.d (.str (S (ctext m hs)))), o3]) [S (ctext m hs), S (ctext m hs)] _ _ ⟨rfl, by simp, _, rfl⟩ (fun _ _ _ _ => trivial) ?_ ?_
  · rintro e h2 z l nx' ⟨rfl, hz, o3, rfl⟩ hnx'
    have ez := hz z (by simp)
    subst ez
    (conv => whnf)
    rw [decide_eq_true rfl]
    (conv => whnf)
    exact hnx' _ _ ⟨rfl, fun z h => hz z (by simp [h]), _, rfl⟩
  · rintro e h2 ⟨rfl, _, o3, rfl⟩
    (conv => whnf)
    refine w_read (fr := f_rows_read) (fi := f_is_hues_row) (fa := f_are_all) (fp := f_points_told) rfl rfl c_is_hues_row c_are_all c_points_told (n := n) (by omega) h1 h12 hl h4 ?_
    (conv => whnf)
    refine w_lalike c__law_alike it (n := n) (by omega) ?_
    (conv => whnf)
    refine w_read (fr := f_rows_read) (fi := f_is_hues_row) (fa := f_are_all) (fp := f_points_told) rfl rfl c_is_hues_row c_are_all c_points_told (n := n) (by omega) h1 h12 hl h4 ?_
    (conv => whnf)
    refine w_lalike c__law_alike it (n := n) (by omega) ?_
    exact q _
theorem law_main : ∀ ns : List Int, ns.length ≤ 63 → callN FT 14 f_law [.d (.list (ns.map PyData.int))] [] (fun v _ => v = .d (.bool true)) (fun _ _ => False) := fun ns h =>
  w_lawE (N := 16) (fr := f__law_right) (fp := f__law_pouch) rfl c__law_pouch (by omega) (fun hk hp q => w_right (by omega) hk hp q) ns h
end Lk09

set_option maxHeartbeats 0
open PySem PySem.W PySem.Calls PyProof.Rows
theorem PySem.Challenge.cw_huebound_k09_colourings_written_holds : PySem.Challenge.rw_huebound_k09_colourings_written.Holds := by
  w_on; o_law
  refine HandSHeadRun.head_any (r := OpenLaw.row PySem.Challenge.rw_huebound_k09_colourings_written) (q := view (OpenLaw.row PySem.Challenge.rw_huebound_k09_colourings_written).prog [23]) (H := Lk09.hk) (ob := Lk09.ob) (M := 4000) (loose := ["number_read", "rows_read", "show_colouring", "points_told", "is_hues_row", "are_all", "read_colouring", "_law_pouch", "_law_reach", "_law_paint", "_law_painted", "_law_alike", "_law_right", "MOST_FIGURES", "FIGURES", "MOST_PLACES", "HUES", "HueError", "NoText"]) (d := HandSHeadRun.topDef (OpenLaw.row PySem.Challenge.rw_huebound_k09_colourings_written).prog 23) (kwd := []) Lk09.ob_eq
    (by kernel_rfl) (fun s => by kernel_rfl) Lk09.run (by kernel_rfl) (by kernel_rfl) (by kernel_rfl) (by rfl) (by first | assumption | decide +kernel) (by decide +kernel) ⟨rfl, rfl, rfl, rfl, rfl, by decide +kernel⟩ ?hw ?hc
  case hw => w_witness2
  case hc =>
    refine Hb.walk_hb (l := PySem.Challenge.rw_huebound_k09_colourings_written) (n := 63) (k := 14) (x := "_law_script") (FT := Lk09.FT) (g := Lk09.f_law) rfl (by decide) (by kernel_rfl) ⟨rfl, by decide, by decide⟩ ?F Lk09.law_main
    intro w mg fa h Y G hmg0
    obtain ⟨K, KX, c⟩ := Y
    have xs := Lk09.xsOk (K := K) (mg := mg)
    have hmg : mg ("law" : PySem.Str) = some (.ref fa) := by
      have e : (HandSHeadRun.topDef (OpenLaw.row PySem.Challenge.rw_huebound_k09_colourings_written).prog 23).name = ("law" : PySem.Str) := by kernel_rfl
      rw [← e]
      exact hmg0
    have ro := Lk09.ok_law KX G c
    have e := hmg.symm.trans (ro.at_ (by decide))
    cases e
    obtain ⟨fd, F⟩ := c.def_ 13 (d := Lk09.d_law) rfl
    have b := L2.FunD.bindsA (ps := ["_law_script"]) F fun _ _ _ _ _ _ us hl => match us, hl with | [_], _ => rfl
    refine ⟨Lk09.wo K, fd, KX, fun s v => b s [v] rfl, fun base X2 G2 => ?_⟩
    exact Hb.fn_step (Lk09.modOk KX G c xs) Lk09.okB 13 (Hb.all_ok (Lk09.modOk KX G c xs) Lk09.okB 13) (r := Lk09.r_law) rfl F
