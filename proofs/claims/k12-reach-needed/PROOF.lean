import PyProof.Rows.All
import Wide.All
import OpenK.AllK
import Wide.FinOn
import HandS.ForSpec
import HandS.Iter
import HandS.Text
import HandS.Comp
import HandS.Dict
import HandS.More
import HandS.Deep
import HandS.StrMore
import HandS.Style
import HandS.TupAny
import HandS.TupMul
import KE.SortData
import KE.DataAny
import KE.DataCmp
import KE.DataEq
import KE.DataIsa
import KE.DataFind
import KE.DataMinMax
import KE.KTupSum
import HandS.TupLe
import HandS.RaiseMore
import PyProof.Rows.StrFin3
import HandS.WordsExc
import HandS.Zip
import KE.GoesEnum
import HandS.SetFor
import HandS.Strs
import HandS.Conv
import HandS.Sort
import PySem.Challenge.RW_orchardrows_k12_whole_reach_that_is_need
set_option Elab.async false
set_option linter.all false
set_option maxRecDepth 100000
set_option maxHeartbeats 4000000

/-! the core language: its syntax and its meaning as plain functions over data -/
namespace OR
open PySem

abbrev D := PyData
abbrev Cu := Option (Int × Int)
/-- how a piece of code ends: a value, an exception (the number of its class), or out of what is told -/
inductive R (α : Type) where
  | ok (a : α) (c : Cu) | ex (x : Nat) (c : Cu) | no
def M (α : Type) := Cu → R α
def ret {α : Type} (a : α) : M α := fun c => .ok a c
def bnd {α β : Type} (m : M α) (f : α → M β) : M β := fun c => match m c with
  | .ok a c' => f a c'
  | .ex x c' => .ex x c'
  | .no => .no
def stk {α : Type} : M α := fun _ => .no
def rse {α : Type} (x : Nat) : M α := fun c => .ex x c
def lft {α : Type} : Option α → M α
  | some a => ret a
  | none => stk
/-- no exception may leave -/
def nox {α : Type} (m : M α) : M α := fun c => match m c with
  | .ok a c' => .ok a c'
  | _ => .no

/-- things that are told by themselves: a range, a dict of keys that are ints and texts -/
inductive Ob where
  | rng (lo hi : Int) | dic (kvs : List (Sum Int Str × D))
inductive Slot where
  | no | val (d : D) | own (d : D) | cup | scr (is : List Int) | obj (o : Ob)
abbrev Env := List Slot
abbrev Den := List Slot → M D

inductive Ty where
  | int | bool | str | tuple | list
inductive BI where
  | len | tuple | list | all | any | sum | min | max | sorted | int | abs | isa (t : Ty) | str | dict | sset | lset | lrng
inductive MI where
  | join | count | get | index | replace | split | find | upper | startswith | rfind | lcount

/-- what is asked of a dict: d.get(k, x), d[k], sorted(d) -/
inductive DOp where
  | get2 | sub | srt
/-- expressions; lists of them (nil, cons); what a loop walks (rng, enm, zip, or an expression) -/
inductive CE where
  | var (i : Nat) | cst (d : D) | glb (d : D) (x : Str)
  | nil | cons (h t : CE)
  | tup (es : CE) | lst (es : CE)
  | bin (op : Operator) (a b : CE) | neg (a : CE) | not (a : CE)
  | cmp (op : CmpOp) (a b : CE) | chn (o p : CmpOp) (a b c : CE)
  | and (es : CE) | or (es : CE) | ite (c a b : CE)
  | sub (a i : CE) | slc (a lo hi : CE) | rev (a : CE)
  | call (j : Nat) (es : CE) | bi (f : BI) (es : CE) | mth (m : MI) (o es : CE)
  | rng (es : CE) | enm (a : CE) | zip (a b : CE)
  | lscr (i : Nat)
  | lc (tg it ifs elt : CE)
  | lc2 (tg it ifs tg2 it2 ifs2 elt : CE)
  | nev
  | cupR (i k : Nat)
  | dop (o : DOp) (i : Nat) (k x : CE) | rgv (i : Nat)
inductive CS where
  | nil | cons (h t : CS)
  | ret (e : CE) | retN | ex (e : CE) | asg (i : Nat) (e : CE) | asgT (tg e : CE) | par (i j : Nat) (a b : CE) | par3 (i j l : Nat) (a b c : CE) | parE (i j l : Nat) (a b : CE) | parO (i j : Nat) (a b : CE) | sto (i : Nat) (ix e : CE) | dnew (i : Nat) | dput (i : Nat) (k e : CE) | rnew (i : Nat) (a b : CE) | cupI (i : Nat) (e : CE)
  | aug (i : Nat) (op : Operator) (e : CE) | app (i : Nat) (e : CE) | setc (i : Nat) (k : Nat) (e : CE)
  | ite (c : CE) (a b : CS) | for_ (tg it : CE) (body : CS) | whl (c : CE) (body : CS)
  | pass | brk | cnt | rse (x : Nat) (nm : Str) (msg : Str) | nev
inductive Out where
  | nx (σ : Env) | rt (d : D) | bk (σ : Env) | ct (σ : Env)

/-! ### values -/
mutual
/-- nothing that changes lies within -/
def imm : D → Bool
  | .none | .bool _ | .int _ | .str _ => true
  | .tuple xs => immL xs
  | .list _ | .dict _ => false
def immL : List D → Bool
  | [] => true
  | x :: xs => imm x && immL xs
end
def notNone : D → Bool
  | .none => false
  | _ => true
def isMut : D → Bool
  | .list _ | .dict _ => true
  | _ => false

def chr1 (c : Nat) : D := .str ⟨#[c]⟩
def signs (s : Str) : List D := s.cps.toList.map chr1
/-- what a value gives when it is walked -/
def itemsD : D → Option (List D)
  | .list xs => some xs
  | .tuple xs => some xs
  | .str s => some (signs s)
  | _ => none
def cutL {α : Type} (xs : List α) (lo hi : Option Int) : List α := (xs.drop (HT.sIx xs.length 0 lo)).take (HT.sIx xs.length xs.length hi - HT.sIx xs.length 0 lo)
def eqD (x y : D) : Option Bool :=
  match x, y with
  | .int i, .int j => some (decide (i = j))
  | .str a, .str b => some (decide (a = b))
  | _, _ => if x.plain && y.plain && decide (min x.depth y.depth ≤ 60) then some (PyData.eqv x y) else none
def ltD (x y : D) : Option Bool :=
  match x, y with
  | .int i, .int j => some (decide (i < j))
  | .str a, .str b => some (decide (a.cps.toList < b.cps.toList))
  | .none, _ => none
  | _, _ => if PySem.W.alike x y && decide (min x.depth y.depth ≤ 60) then some (PySem.W.dataLt x y) else none
def inD (x y : D) : Option Bool :=
  match x, y with
  | .str ⟨⟨[c]⟩⟩, .str z => some (decide (c ∈ z.cps.toList))
  | .str a, .str z => some (!(Builtin.Str.occurrences z a 0 z.length 1).isEmpty)
  | x, .list ys => if x.plain && PyData.plainAll ys && decide (min (PyData.depthAll ys) x.depth ≤ 60) then some (ys.any fun y => PyData.eqv y x) else none
  | x, .tuple ys => if x.plain && PyData.plainAll ys && decide (min (PyData.depthAll ys) x.depth ≤ 60) then some (ys.any fun y => PyData.eqv y x) else none
  | _, _ => none
def isD (x y : D) : Option Bool :=
  match y, x with
  | .none, .none => some true
  | .none, _ => some false
  | .bool b, .bool a => some (a == b)
  | _, _ => none
def cmpD (op : CmpOp) (x y : D) : Option D :=
  match op with
  | .Eq => (eqD x y).map .bool
  | .NotEq => (eqD x y).map fun b => .bool (!b)
  | .Lt => (ltD x y).map .bool
  | .Gt => (ltD y x).map .bool
  | .LtE => (ltD y x).map fun b => .bool (!b)
  | .GtE => (ltD x y).map fun b => .bool (!b)
  | .In => (inD x y).map .bool
  | .NotIn => (inD x y).map fun b => .bool (!b)
  | .Is => (isD x y).map .bool
  | .IsNot => (isD x y).map fun b => .bool (!b)
def small (i : Int) : Bool := decide (-(2 ^ 64) < i) && decide (i < 2 ^ 64)
def repL {α : Type} (xs : List α) (k : Int) : List α := (List.replicate k.toNat xs).flatten
def repS (a : Str) (k : Int) : Str := ⟨(repL a.cps.toList k).toArray⟩
def binD (op : Operator) (x y : D) : Option D :=
  match op, x, y with
  | .Add, .int i, .int j => some (.int (i + j))
  | .Add, .str a, .str b => if a.length + b.length ≤ sizeLine then some (.str (a ++ b)) else none
  | .Add, .tuple a, .tuple b => if a.length + b.length ≤ sizeLine then some (.tuple (a ++ b)) else none
  | .Add, .list a, .list b => if a.length + b.length ≤ sizeLine then some (.list (a ++ b)) else none
  | .Sub, .int i, .int j => some (.int (i - j))
  | .Mult, .int i, .int j => if small i || small j then some (.int (i * j)) else none
  | .Mult, .str a, .int k => if decide (-(2 ^ 63) ≤ k) && decide (k < 2 ^ 63) && decide (a.length * k.toNat ≤ sizeLine) then some (.str (repS a k)) else none
  | .Mult, .tuple a, .int k => if !a.isEmpty && decide (1 ≤ k) && decide (k ≤ 1000) && decide (a.length ≤ 1000) then some (.tuple (repL a k)) else none
  | .Mult, .list a, .int k => if decide (-(2 ^ 63) ≤ k) && decide (k < 2 ^ 63) && decide (a.length * k.toNat ≤ sizeLine) then some (.list (repL a k)) else none
  | .FloorDiv, .int i, .int j => if 0 < j ∧ j < 1073741824 then some (.int (i / j)) else none
  | .Mod, .int i, .int j => if 0 < j then some (.int (i % j)) else none
  | .Pow, .int i, .int j => if 0 ≤ j ∧ j ≤ 1000 ∧ i.natAbs < 2 ^ 64 then some (.int (i ^ j.toNat)) else none
  | _, _, _ => none
def subD (x y : D) : Option D :=
  match x, y with
  | .list xs, .int i => L2.atI xs i
  | .tuple xs, .int i => L2.atI xs i
  | .str s, .int i => (L2.atI s.cps.toList i).map chr1
  | _, _ => none
def slcD (x : D) (lo hi : Option Int) : Option D :=
  match x with
  | .list xs => some (.list (cutL xs lo hi))
  | .tuple xs => some (.tuple (cutL xs lo hi))
  | .str s => some (.str (L2.cutS s lo hi))
  | _ => none
def revD (x : D) : Option D :=
  match x with
  | .list xs => some (.list xs.reverse)
  | .tuple xs => some (.tuple xs.reverse)
  | .str s => some (.str ⟨s.cps.toList.reverse.toArray⟩)
  | _ => none
def boolsD : List D → Option (List Bool)
  | [] => some []
  | .bool b :: r => (boolsD r).map (b :: ·)
  | _ => none
def intsD : List D → Option (List Int)
  | [] => some []
  | .int b :: r => (intsD r).map (b :: ·)
  | _ => none
def textsD : List D → Option (List Str)
  | [] => some []
  | .str b :: r => (textsD r).map (b :: ·)
  | _ => none
def allAlike (x : D) (xs : List D) : Bool := xs.all fun y => PySem.W.alike x y
def likeAll (xs : List D) : Bool := xs.all fun y => allAlike y xs
def tup1 : D → Bool
  | .tuple (_ :: _) => true
  | _ => false
def noTup : D → Bool
  | .none => false
  | .tuple _ => false
  | _ => true
def sortOk (xs : List D) : Bool := likeAll xs && decide (PyData.depthAll xs ≤ 60) && (xs.all tup1 || xs.all noTup)
def sortD (xs : List D) : List D := xs.mergeSort (PySem.W.dataLe false id)
def minOk (xs : List D) : Bool := likeAll xs && PyData.plainAll xs && decide (PyData.depthAll xs ≤ 60) && xs.all notNone
def isaD (t : Ty) (d : D) : Bool :=
  match t, d with
  | .int, .int _ | .int, .bool _ | .bool, .bool _ | .str, .str _ | .tuple, .tuple _ | .list, .list _ => true
  | _, _ => false
def lenD : D → Option D
  | .list xs => some (.int (xs.length : Nat))
  | .tuple xs => some (.int (xs.length : Nat))
  | .str s => some (.int (s.length : Nat))
  | _ => none
/-- rising, none twice -/
def insU (k : Int) : List Int → List Int
  | [] => [k]
  | x :: r => if k < x then k :: x :: r else if k = x then x :: r else x :: insU k r
def ssI (ns : List Int) : List Int := ns.foldr insU []
def rngD (a b : Int) : List D := (List.range (b - a).toNat).map fun i => .int (a + (i : Nat))
def rngB (a b : Int) : Bool := decide (-1000000 ≤ a) && decide (a ≤ 1000000) && decide (-1000000 ≤ b) && decide (b ≤ 1000000)
/-- the functions that are told together with the one within: sorted(set(x)), len(set(x)), list(range(..)) -/
def inB : BI → Option Str
  | .sset => some "set"
  | .lset => some "set"
  | .lrng => some "range"
  | _ => none
/-- the built-in functions, by values -/
def biD (f : BI) (ds : List D) : Option D :=
  match f, ds with
  | .len, [d] => lenD d
  | .tuple, [.list xs] => some (.tuple xs)
  | .tuple, [.tuple xs] => some (.tuple xs)
  | .list, [.list xs] => some (.list xs)
  | .list, [.tuple xs] => some (.list xs)
  | .all, [.list xs] => (boolsD xs).map fun bs => .bool (bs.all id)
  | .any, [.list xs] => (boolsD xs).map fun bs => .bool (bs.any id)
  | .sum, [.list xs] => (intsD xs).map fun is => .int is.sum
  | .sum, [.tuple xs] => (intsD xs).map fun is => .int is.sum
  | .min, [.int i, .int j] => some (.int (if j < i then j else i))
  | .max, [.int i, .int j] => some (.int (if j > i then j else i))
  | .min, [.list (x :: xs)] => if minOk (x :: xs) then some (PySem.W.minD x xs) else none
  | .max, [.list (x :: xs)] => if minOk (x :: xs) then some (PySem.W.maxD x xs) else none
  | .min, [.tuple (x :: xs)] => if minOk (x :: xs) then some (PySem.W.minD x xs) else none
  | .max, [.tuple (x :: xs)] => if minOk (x :: xs) then some (PySem.W.maxD x xs) else none
  | .sorted, [.list xs] => if sortOk xs then some (.list (sortD xs)) else none
  | .int, [.int i] => some (.int i)
  | .abs, [.int i] => some (.int (if i < 0 then -i else i))
  | .isa t, [d] => some (.bool (isaD t d))
  | .str, [.str s] => some (.str s)
  | .sset, [.list xs] => (intsD xs).bind fun ns => if decide (xs.length ≤ 4000) && decide ((ssI ns).length < 64) then some (.list ((ssI ns).map .int)) else none
  | .lset, [.list xs] => (intsD xs).bind fun ns => if xs.length ≤ 4000 then some (.int ((ssI ns).length : Nat)) else none
  | .lset, [.tuple xs] => (intsD xs).bind fun ns => if xs.length ≤ 4000 then some (.int ((ssI ns).length : Nat)) else none
  | .lrng, [.int n] => if rngB 0 n then some (.list (rngD 0 n)) else none
  | .lrng, [.int a, .int b] => if rngB a b then some (.list (rngD a b)) else none
  | _, _ => none
def joinS (a : Str) (ys : List Str) : Str := ⟨(TL.joinL a.cps.toList (ys.map fun y => y.cps.toList)).toArray⟩
def mthD (m : MI) (o : D) (ds : List D) : Option D :=
  match m, o, ds with
  | .join, .str a, [.list xs] => (textsD xs).bind fun ys => if (ys.map (·.length)).sum + ys.length * a.length ≤ 16777216 then some (.str (joinS a ys)) else none
  | .join, .str a, [.tuple xs] => (textsD xs).bind fun ys => if (ys.map (·.length)).sum + ys.length * a.length ≤ 16777216 then some (.str (joinS a ys)) else none
  | .count, .str a, [.str b] => some (.int (Txt.count a b))
  | .lcount, .list xs, [x] => if PyData.plainAll xs && x.plain && decide (min (PyData.depthAll xs) x.depth ≤ 60) then some (.int (xs.countP fun y => PyData.eqv y x : Nat)) else none
  | _, _, _ => none
/-- of what type a method's object is -/
def recv (m : MI) (x : D) : Bool := match m, x with
  | .lcount, .list _ => true
  | .lcount, _ => false
  | _, .str _ => true
  | _, _ => false
def tru : D → M Bool
  | .bool b => ret b
  | _ => stk

/-! ### places -/
def getS (σ : Env) (i : Nat) : Slot := σ.getD i .no
def frz1 : Slot → Slot
  | .own d => .val d
  | .obj (.dic _) => .no
  | s => s
/-- the slots that give up what they own -/
def frz : List Nat → Env → Env
  | [], σ => σ
  | i :: r, σ => (frz r σ).set i (frz1 (getS σ i))
def wip : List Nat → Env → Env
  | [], σ => σ
  | i :: r, σ => (wip r σ).set i .no
/-- the slots of a target -/
def tgs : CE → List Nat
  | .var i => [i]
  | .tup es => tgs es
  | .cons h t => tgs h ++ tgs t
  | _ => []
mutual
/-- a value goes to a target -/
def bindT : CE → D → Env → Option Env
  | .var i, d, σ => some (σ.set i (.val d))
  | .tup es, d, σ => match d with
    | .tuple xs => bindTs es xs σ
    | _ => none
  | _, _, _ => none
def bindTs : CE → List D → Env → Option Env
  | .nil, xs, σ => match xs with
    | [] => some σ
    | _ => none
  | .cons h t, xs, σ => match xs with
    | x :: xs => (bindT h x σ).bind fun σ' => bindTs t xs σ'
    | _ => none
  | _, _, _ => none
end
/-- the slots whose own object may be part of a value that comes up on the way (true: the expression's own value may be the object itself) -/
def leak : Bool → CE → List Nat
  | tp, .var i => if tp then [] else [i]
  | _, .cons h t => leak false h ++ leak false t
  | _, .tup es => leak false es
  | _, .lst es => leak false es
  | _, .bin _ a b => leak true a ++ leak true b
  | _, .neg a => leak true a
  | _, .not a => leak true a
  | _, .cmp _ a b => leak true a ++ leak true b
  | _, .chn _ _ a b c => leak true a ++ (leak true b ++ leak true c)
  | _, .and es => leak false es
  | _, .or es => leak false es
  | _, .ite c a b => leak true c ++ (leak false a ++ leak false b)
  | _, .sub a i => leak true a ++ leak true i
  | _, .slc a l h => leak true a ++ (leak true l ++ leak true h)
  | _, .rev a => leak true a
  | _, .call _ es => leak false es
  | _, .bi _ es => match es with
    | .cons a .nil => leak true a
    | es => leak false es
  | _, .mth _ o es => leak true o ++ (match es with
    | .cons a .nil => leak true a
    | es => leak false es)
  | _, .rng es => leak false es
  | _, .dop _ _ k x => leak true k ++ leak false x
  | tp, .enm a => leak tp a
  | tp, .zip a b => leak tp a ++ leak tp b
  | _, .lc _ it ifs elt => leak true it ++ (leak false ifs ++ leak false elt)
  | _, .lc2 _ it ifs _ it2 ifs2 elt => leak true it ++ (leak false ifs ++ (leak false it2 ++ (leak false ifs2 ++ leak false elt)))
  | _, _ => []
/-- the value is a new list or dict, if it is one -/
def frs : CE → Bool
  | .lst _ => true
  | .lc _ _ _ _ => true
  | .lscr _ => true
  | .lc2 _ _ _ _ _ _ _ => true
  | .bin _ _ _ => true
  | .bi .list _ => true
  | .bi .sorted _ => true
  | .bi .sset _ => true
  | .bi .lrng _ => true
  | _ => false

/-! ### expressions -/
def lcM (f : D → M (Option D)) : List D → M (List D)
  | [] => ret []
  | d :: r => bnd (f d) fun o => bnd (lcM f r) fun ys => ret (match o with | some y => y :: ys | none => ys)
def lcM2 (f : D → M (List D)) : List D → M (List D)
  | [] => ret []
  | d :: r => bnd (f d) fun xs => bnd (lcM2 f r) fun ys => ret (xs ++ ys)
def enmL : Nat → List D → List D
  | _, [] => []
  | k, d :: r => .tuple [.int (k : Nat), d] :: enmL (k + 1) r
def enmD : D → Option (List D)
  | .tuple xs => some (enmL 0 xs)
  | _ => none
def zipL : List D → List D → List D
  | x :: xs, y :: ys => .tuple [x, y] :: zipL xs ys
  | _, _ => []
def zipD : D → D → Option (List D)
  | .list xs, .list ys => some (zipL xs ys)
  | .tuple xs, .tuple ys => some (zipL xs ys)
  | _, _ => none
def rngL (a b : Int) : List D := (List.range (b - a).toNat).map fun i => .int (a + (i : Nat))
def okR (i j : Int) : Bool := decide (-(2 ^ 62) ≤ i) && decide (i < 2 ^ 62) && decide (-(2 ^ 62) ≤ j) && decide (j < 2 ^ 62) && decide (j - i ≤ 16777216)
def isNil : CE → Bool
  | .nil => true
  | _ => false
def isIt : CE → Bool
  | .rng _ => true
  | .enm _ => true
  | .zip _ _ => true
  | .rgv _ => true
  | _ => false
def partM (x : D) : M (Option Int) := match x with
  | .int i => ret (some i)
  | _ => stk
def cupM (k : Nat) : Slot → M D
  | .cup => fun c => match k, c with
    | 0, some (a, b) => .ok (.int a) (some (a, b))
    | 1, some (a, b) => .ok (.int b) (some (a, b))
    | _, _ => .no
  | _ => stk
/-! dicts -/
def isFl : D → Bool
  | .none | .bool _ | .int _ | .str _ => true
  | _ => false
def keyD : D → Option (Sum Int Str)
  | .int i => some (.inl i)
  | .str s => some (.inr s)
  | _ => none
def valD (kvs : List (Sum Int Str × D)) (k : Sum Int Str) : Option D := (kvs.find? fun kv => decide (kv.1 = k)).map (·.2)
def putD (kvs : List (Sum Int Str × D)) (k : Sum Int Str) (v : D) : List (Sum Int Str × D) :=
  if (kvs.any fun kv => decide (kv.1 = k)) = true then kvs.map (fun kv => if kv.1 = k then (kv.1, v) else kv) else kvs ++ [(k, v)]
def txtK : List (Sum Int Str × D) → Option (List Str)
  | [] => some []
  | (.inr s, _) :: r => (txtK r).map (s :: ·)
  | _ => none
def leS (a b : Str) : Bool := !decide (b.cps.toList < a.cps.toList)
def srtD (kvs : List (Sum Int Str × D)) : Option D := (txtK kvs).bind fun ks => if ks.length < 64 then some (.list ((ks.mergeSort leS).map .str)) else none
def dicM : Slot → M (List (Sum Int Str × D))
  | .obj (.dic kvs) => ret kvs
  | _ => stk
def rgvM : Slot → M (List D)
  | .obj (.rng lo hi) => if okR lo hi then ret (rngL lo hi) else stk
  | _ => stk
def itsM (x : D) : M (List D) := lft (itemsD x)
variable (G : List Den)
mutual
def evE : CE → Env → M D
  | .var i, σ => match getS σ i with
    | .val d => ret d
    | .own d => ret d
    | _ => stk
  | .cst d, _ => ret d
  | .cupR i k, σ => cupM k (getS σ i)
  | .glb d _, _ => ret d
  | .tup es, σ => bnd (evL es σ) fun ds => ret (.tuple ds)
  | .lst es, σ => bnd (evL es σ) fun ds => ret (.list ds)
  | .bin op a b, σ => bnd (evE a σ) fun x => bnd (evE b σ) fun y => lft (binD op x y)
  | .neg a, σ => bnd (evE a σ) fun x => match x with
    | .int i => ret (.int (-i))
    | _ => stk
  | .not a, σ => bnd (evE a σ) fun x => bnd (tru x) fun b => ret (.bool (!b))
  | .cmp op a b, σ => bnd (evE a σ) fun x => bnd (evE b σ) fun y => lft (cmpD op x y)
  | .chn o p a b c, σ => bnd (evE a σ) fun x => bnd (evE b σ) fun y => bnd (lft (cmpD o x y)) fun z => bnd (tru z) fun k =>
      if k then bnd (evE c σ) fun u => lft (cmpD p y u) else ret (.bool false)
  | .and es, σ => evAnd es σ
  | .or es, σ => evOr es σ
  | .ite c a b, σ => bnd (evE c σ) fun x => bnd (tru x) fun k => if k then evE a σ else evE b σ
  | .sub a i, σ => bnd (evE a σ) fun x => bnd (evE i σ) fun y => lft (subD x y)
  | .slc a lo hi, σ => bnd (evE a σ) fun x => bnd (if isNil lo then ret none else bnd (evE lo σ) partM) fun l => bnd (if isNil hi then ret none else bnd (evE hi σ) partM) fun h => lft (slcD x l h)
  | .rev a, σ => bnd (evE a σ) fun x => lft (revD x)
  | .call j es, σ => bnd (evA es σ) fun as => (G.getD j fun _ => stk) as
  | .bi f es, σ => bnd (evL es σ) fun ds => lft (biD f ds)
  | .mth m o es, σ => bnd (evE o σ) fun x => if recv m x then bnd (evL es σ) fun ds => lft (mthD m x ds) else stk
  | .dop o i k x, σ => bnd (dicM (getS σ i)) fun kvs => match o with
    | .srt => lft (srtD kvs)
    | .sub => bnd (evE k σ) fun y => lft ((keyD y).bind fun q => valD kvs q)
    | .get2 => bnd (evE k σ) fun y => bnd (evE x σ) fun z => if isFl z then lft ((keyD y).map fun q => (valD kvs q).getD z) else stk
  | .lscr i, σ => match getS σ i with
    | .scr is => if is.length ≤ 1000 then ret (.list (is.map .int)) else stk
    | _ => stk
  | .lc tg it ifs elt, σ => bnd (if isIt it then evI it σ else bnd (evE it σ) itsM) fun items => bnd (nox (lcM (fun d =>
      bnd (lft (bindT tg d (wip (tgs tg) σ))) fun σ' => bnd (evT ifs σ') fun k => if k then bnd (evE elt σ') fun y => ret (some y) else ret none) items)) fun ys => ret (.list ys)
  | .lc2 tg it ifs tg2 it2 ifs2 elt, σ => bnd (if isIt it then evI it σ else bnd (evE it σ) itsM) fun items => bnd (nox (lcM2 (fun d =>
      bnd (lft (bindT tg d (wip (tgs tg ++ tgs tg2) σ))) fun σ' => bnd (evT ifs σ') fun k => if k then
        bnd (if isIt it2 then evI it2 σ' else bnd (evE it2 σ') itsM) fun items2 => lcM (fun d2 => bnd (lft (bindT tg2 d2 (wip (tgs tg2) σ'))) fun σ2 => bnd (evT ifs2 σ2) fun k2 => if k2 then bnd (evE elt σ2) fun y => ret (some y) else ret none) items2
      else ret []) items)) fun ys => if ys.length ≤ sizeLine then ret (.list ys) else stk
  | _, _ => stk
/-- a list of expressions, from the left -/
def evL : CE → Env → M (List D)
  | .nil, _ => ret []
  | .cons h t, σ => bnd (evE h σ) fun x => bnd (evL t σ) fun xs => ret (x :: xs)
  | _, _ => stk
/-- the arguments of a def: the cup goes on as it is -/
def evA : CE → Env → M (List Slot)
  | .nil, _ => ret []
  | .cons (.var i) t, σ => match getS σ i with
    | .cup => bnd (evA t σ) fun xs => ret (.cup :: xs)
    | .val d => bnd (evA t σ) fun xs => ret (.val d :: xs)
    | .own d => bnd (evA t σ) fun xs => ret (.val d :: xs)
    | .scr is => bnd (evA t σ) fun xs => ret (.scr is :: xs)
    | _ => stk
  | .cons h t, σ => bnd (evE h σ) fun x => bnd (evA t σ) fun xs => ret (.val x :: xs)
  | _, _ => stk
/-- tests, all of them -/
def evT : CE → Env → M Bool
  | .nil, _ => ret true
  | .cons h t, σ => bnd (evE h σ) fun x => bnd (tru x) fun k => if k then evT t σ else ret false
  | _, _ => stk
def evAnd : CE → Env → M D
  | .cons h .nil, σ => evE h σ
  | .cons h t, σ => bnd (evE h σ) fun x => bnd (tru x) fun k => if k then evAnd t σ else ret (.bool false)
  | _, _ => stk
def evOr : CE → Env → M D
  | .cons h .nil, σ => evE h σ
  | .cons h t, σ => bnd (evE h σ) fun x => bnd (tru x) fun k => if k then ret (.bool true) else evOr t σ
  | _, _ => stk
/-- what is walked -/
def evI : CE → Env → M (List D)
  | .rng (.cons a .nil), σ => bnd (evE a σ) fun x => match x with
    | .int n => if okR 0 n then ret (rngL 0 n) else stk
    | _ => stk
  | .rng (.cons a (.cons b .nil)), σ => bnd (evE a σ) fun x => bnd (evE b σ) fun y => match x, y with
    | .int m, .int n => if okR m n then ret (rngL m n) else stk
    | _, _ => stk
  | .rgv i, σ => rgvM (getS σ i)
  | .enm a, σ => bnd (evE a σ) fun x => lft (enmD x)
  | .zip a b, σ => bnd (evE a σ) fun x => bnd (evE b σ) fun y => lft (zipD x y)
  | _, _ => stk
end
/-- what a loop walks -/
def evW (it : CE) (σ : Env) : M (List D) := if isIt it then evI G it σ else bnd (evE G it σ) itsM

/-! ### statements -/
def forM (f : D → Env → M Out) : List D → Env → M Out
  | [], σ => ret (.nx σ)
  | d :: r, σ => bnd (f d σ) fun o => match o with
    | .nx σ' => forM f r σ'
    | .ct σ' => forM f r σ'
    | .bk σ' => ret (.nx σ')
    | .rt v => ret (.rt v)
def whlM (c : Env → M Bool) (f : Env → M Out) : Nat → Env → M Out
  | 0, _ => stk
  | n + 1, σ => bnd (c σ) fun k => if k then bnd (f σ) fun o => match o with
      | .nx σ' => whlM c f n σ'
      | .ct σ' => whlM c f n σ'
      | .bk σ' => ret (.nx σ')
      | .rt v => ret (.rt v)
    else ret (.nx σ)
def fuel : Nat := 100000000
/-- the leaks of a value that an expression has given -/
def lks (e : CE) (d : D) : List Nat := if imm d then [] else leak false e
/-- a value into a slot -/
def putG (i : Nat) (L : List Nat) (fr : Bool) (d : D) (σ : Env) : Env := (frz (if imm d then [] else L) σ).set i (if fr && isMut d then .own d else .val d)
def put (i : Nat) (e : CE) (d : D) (σ : Env) : Env := putG i (leak false e) (frs e) d σ
def augD (op : Operator) (x y : D) : Option D := match op, x, y with
  | .Add, .int a, .int b => some (.int (a + b))
  | .Sub, .int a, .int b => some (.int (a - b))
  | _, _, _ => none
def valM : Slot → M D
  | .val d => ret d
  | _ => stk
def parM (i j : Nat) (ds : List D) (σ : Env) : M Out := match ds with
  | [x, y] => ret (.nx ((σ.set i (.val x)).set j (.val y)))
  | _ => stk
def par3M (i j l : Nat) (ds : List D) (σ : Env) : M Out := match ds with
  | [x, y, z] => ret (.nx (((σ.set i (.val x)).set j (.val y)).set l (.val z)))
  | _ => stk
def ownM : Slot → M (List D)
  | .own (.list xs) => ret xs
  | _ => stk
def appM (i : Nat) (y : D) (σ : Env) : M Out := bnd (ownM (getS σ i)) fun xs => if xs.length < sizeLine then ret (.nx (σ.set i (.own (.list (xs ++ [y]))))) else stk
/-- an own list takes a thing at a place -/
def stoM (i : Nat) (k y : D) (σ : Env) : M Out := bnd (ownM (getS σ i)) fun xs => match k with
  | .int n => if decide (0 ≤ n) && decide (n < (xs.length : Nat)) then ret (.nx (σ.set i (.own (.list (xs.set n.toNat y))))) else if decide (-(xs.length : Nat) ≤ n) && decide (n < 0) then ret (.nx (σ.set i (.own (.list (xs.set (n + (xs.length : Nat)).toNat y))))) else stk
  | _ => stk
/-- a new list and a thing that does not change, side by side -/
def dputM (i : Nat) (q y : D) (σ : Env) : M Out := bnd (dicM (getS σ i)) fun kvs => match keyD q with
  | some k => if isFl y && decide (kvs.length < 1000000) then ret (.nx (σ.set i (.obj (.dic (putD kvs k y))))) else stk
  | none => stk
def rnewM (i : Nat) (x y : D) (σ : Env) : M Out := match x, y with
  | .int m, .int n => ret (.nx (σ.set i (.obj (.rng m n))))
  | _, _ => stk
def parOM (i j : Nat) (fa fb : Bool) (x y : D) (σ : Env) : M Out := if fa then (match x with
  | .list xs => if imm y then ret (.nx ((σ.set i (.own (.list xs))).set j (.val y))) else stk
  | _ => stk) else if fb then (match y with
  | .list [] => ret (.nx ((σ.set i (.val x)).set j (.own (.list []))))
  | _ => stk) else stk
def setc1 (k : Nat) (v : Int) (σ : Env) : M Out := fun c => match k, c with
  | 0, some (_, b) => .ok (.nx σ) (some (v, b))
  | 1, some (a, _) => .ok (.nx σ) (some (a, v))
  | _, _ => .no
def setcM (k : Nat) (s : Slot) (y : D) (σ : Env) : M Out := match s with
  | .cup => (match y with
    | .int v => setc1 k v σ
    | _ => stk)
  | _ => stk
def evS : CS → Env → M Out
  | .nil, σ => ret (.nx σ)
  | .cons h t, σ => bnd (evS h σ) fun o => match o with
    | .nx σ' => evS t σ'
    | o => ret o
  | .ret e, σ => bnd (evE G e σ) fun d => ret (.rt d)
  | .retN, _ => ret (.rt .none)
  | .ex e, σ => bnd (evE G e σ) fun _ => ret (.nx σ)
  | .asg i e, σ => bnd (evE G e σ) fun d => ret (.nx (put i e d σ))
  | .asgT tg e, σ => bnd (evE G e σ) fun d => bnd (lft (bindT tg d (frz (lks e d) σ))) fun σ' => ret (.nx σ')
  | .par i j a b, σ => bnd (evL G (.cons a (.cons b .nil)) σ) fun ds => parM i j ds (frz (leak false a ++ (leak false b ++ [])) σ)
  | .par3 i j l a b c, σ => bnd (evL G (.cons a (.cons b (.cons c .nil))) σ) fun ds => par3M i j l ds (frz (leak false a ++ (leak false b ++ (leak false c ++ []))) σ)
  | .parE i j l a b, σ => bnd (evE G a σ) fun x => bnd (evE G b σ) fun y => ret (.nx ((((frz (leak false a ++ leak false b) σ).set i (.val x)).set j (.val y)).set l (.own (.list []))))
  | .dnew i, σ => ret (.nx (σ.set i (.obj (.dic []))))
  | .dput i k e, σ => bnd (evE G e σ) fun y => bnd (dicM (getS σ i)) fun _ => bnd (evE G k σ) fun q => dputM i q y σ
  | .rnew i a b, σ => bnd (evE G a σ) fun x => bnd (evE G b σ) fun y => rnewM i x y σ
  | .parO i j a b, σ => bnd (evE G a σ) fun x => bnd (evE G b σ) fun y => parOM i j (frs a) (frs b) x y (frz (leak false a ++ leak false b) σ)
  | .sto i ix e, σ => bnd (evE G e σ) fun y => bnd (ownM (getS σ i)) fun _ => bnd (evE G ix σ) fun k => stoM i k y (frz (lks e y) σ)
  | .cupI i e, σ => fun c => match evE G e σ c with
    | .ok (.list [.int a, .int b]) none => .ok (.nx (σ.set i .cup)) (some (a, b))
    | _ => .no
  | .aug i op e, σ => bnd (valM (getS σ i)) fun x => bnd (evE G e σ) fun y => bnd (lft (augD op x y)) fun z => ret (.nx (σ.set i (.val z)))
  | .app i e, σ => bnd (ownM (getS σ i)) fun _ => bnd (evE G e σ) fun y => appM i y (frz (lks e y) σ)
  | .setc i k e, σ => bnd (evE G e σ) fun y => setcM k (getS σ i) y σ
  | .ite c a b, σ => bnd (evE G c σ) fun x => bnd (tru x) fun k => if k then evS a σ else evS b σ
  | .for_ tg it body, σ => bnd (evW G it σ) fun items => forM (fun d σ => bnd (lft (bindT tg d σ)) fun σ' => evS body σ') items (frz (leak false it) σ)
  | .whl c body, σ => whlM (fun σ => bnd (evE G c σ) tru) (fun σ => evS body σ) fuel σ
  | .pass, σ => ret (.nx σ)
  | .brk, σ => ret (.bk σ)
  | .cnt, σ => ret (.ct σ)
  | .rse x _ _, _ => rse x
  | .nev, _ => stk
/-- a def of n names: its arguments, then its body -/
def run (n : Nat) (body : CS) : Den := fun as => bnd (evS G body (as ++ List.replicate (n - as.length) .no)) fun o => match o with
  | .rt d => ret d
  | .nx _ => ret .none
  | _ => stk
end OR

/-! data and the abstract heap -/
namespace OR
open PySem PySem.Spec PyProof.Rows L2

section
variable (K : PySem.W.Frag) (O : Addr → Prop) (H : Hp)
mutual
/-- the value v stands for the data d; no list within lies at O -/
def Rep : D → V → Prop
  | .none, v => v = .non
  | .bool b, v => v = .bl b
  | .int i, v => v = .int i
  | .str s, v => v = .str s ∧ s.length ≤ sizeLine
  | .list ds, v => ds.length ≤ sizeLine ∧ ∃ a xs, v = .ref a ∧ ¬ O a ∧ H a = some (.lst xs) ∧ RepL ds xs
  | .tuple ds, v => ds.length ≤ sizeLine ∧ ∃ a xs, v = .ref a ∧ SqT K H a xs ∧ RepL ds xs
  | .dict _, _ => False
def RepL : List D → List V → Prop
  | [], [] => True
  | d :: ds, x :: xs => Rep d x ∧ RepL ds xs
  | _, _ => False
end
/-- the same, where the list itself may lie at O -/
def RepT : D → V → Prop
  | .list ds, v => ds.length ≤ sizeLine ∧ ∃ a xs, v = .ref a ∧ H a = some (.lst xs) ∧ RepL K O H ds xs
  | d, v => Rep K O H d v
end
section
variable {K : PySem.W.Frag} {O O' : Addr → Prop} {H H' : Hp} {d : D} {v : V} {ds : List D} {xs : List V}
theorem Rep.t (h : Rep K O H d v) : RepT K O H d v := by
  cases d with
  | list ds => obtain ⟨z, a, xs, e, _, r, q⟩ := h; exact ⟨z, a, xs, e, r, q⟩
  | _ => exact h
theorem RepL.length : ∀ {ds : List D} {xs : List V}, RepL K O H ds xs → ds.length = xs.length
  | [], [], _ => rfl
  | d :: ds, x :: xs, h => by
    have := RepL.length (ds := ds) (xs := xs) h.2
    simp [this]
  | [], _ :: _, h => h.elim
  | _ :: _, [], h => h.elim
/-- what O lets stand -/
def Ext (O : Addr → Prop) (H H' : Hp) : Prop := ∀ b x, ¬ O b → H b = some x → H' b = some x
def Mu : HO → Prop
  | .lst _ => True
  | .dK _ => True
  | .dT _ => True
  | _ => False
def ODom (O : Addr → Prop) (H : Hp) : Prop := ∀ b, O b → ∃ x, H b = some x ∧ Mu x
/-- what stands at O is a list, or a dict -/
def ODw (O : Addr → Prop) (H : Hp) : Prop := ∀ b x, O b → H b = some x → Mu x
theorem ODom.w (h : ODom O H) : ODw O H := fun b x hb e => by
  obtain ⟨y, q, m⟩ := h b hb
  rw [e] at q
  exact (Option.some.inj q) ▸ m
theorem SqT.extw (hd : ODw O H) (he : Ext O H H') {a : Addr} {ys : List V} (h : SqT K H a ys) : SqT K H' a ys := by
  rcases h with (h | ⟨o, h⟩) | h
  · refine .inl (.inl (he _ _ (fun z => ?_) h))
    exact (show False from hd _ _ z h).elim
  · refine .inl (.inr ⟨o, he _ _ (fun z => ?_) h⟩)
    exact (show False from hd _ _ z h).elim
  · exact .inr h
theorem SqT.ext (hd : ODom O H) (he : Ext O H H') {a : Addr} {ys : List V} (h : SqT K H a ys) : SqT K H' a ys := SqT.extw hd.w he h
theorem RdL.ext (he : Ext O H H') {a : Addr} {u : HO} (ha : ¬ O a) (h : Rd H a u) : Rd H' a u := by
  rcases h with h | ⟨o, h⟩
  · exact .inl (he _ _ ha h)
  · exact .inr ⟨o, he _ _ ha h⟩
mutual
theorem Rep.extw (hd : ODw O H) (he : Ext O H H') : ∀ {d : D} {v : V}, Rep K O H d v → Rep K O H' d v
  | .none, _, h => h
  | .bool _, _, h => h
  | .int _, _, h => h
  | .str _, _, h => h
  | .list ds, v, h => by
    obtain ⟨z, a, xs, e, na, r, q⟩ := h
    exact ⟨z, a, xs, e, na, he _ _ na r, RepL.extw hd he q⟩
  | .tuple ds, v, h => by
    obtain ⟨z, a, xs, e, r, q⟩ := h
    exact ⟨z, a, xs, e, SqT.extw hd he r, RepL.extw hd he q⟩
  | .dict _, _, h => h
theorem RepL.extw (hd : ODw O H) (he : Ext O H H') : ∀ {ds : List D} {xs : List V}, RepL K O H ds xs → RepL K O H' ds xs
  | [], [], h => h
  | d :: ds, x :: xs, h => ⟨Rep.extw hd he h.1, RepL.extw hd he h.2⟩
  | [], _ :: _, h => h.elim
  | _ :: _, [], h => h.elim
end
theorem Rep.ext (hd : ODom O H) (he : Ext O H H') {d : D} {v : V} (h : Rep K O H d v) : Rep K O H' d v := Rep.extw hd.w he h
theorem RepL.ext (hd : ODom O H) (he : Ext O H H') {ds : List D} {xs : List V} (h : RepL K O H ds xs) : RepL K O H' ds xs := RepL.extw hd.w he h
mutual
/-- fewer owned lists -/
theorem Rep.anti (ho : ∀ a, O' a → O a) : ∀ {d : D} {v : V}, Rep K O H d v → Rep K O' H d v
  | .none, _, h => h
  | .bool _, _, h => h
  | .int _, _, h => h
  | .str _, _, h => h
  | .list ds, v, h => by
    obtain ⟨z, a, xs, e, na, r, q⟩ := h
    exact ⟨z, a, xs, e, fun z2 => na (ho a z2), r, RepL.anti ho q⟩
  | .tuple ds, v, h => by
    obtain ⟨z, a, xs, e, r, q⟩ := h
    exact ⟨z, a, xs, e, r, RepL.anti ho q⟩
  | .dict _, _, h => h
theorem RepL.anti (ho : ∀ a, O' a → O a) : ∀ {ds : List D} {xs : List V}, RepL K O H ds xs → RepL K O' H ds xs
  | [], [], h => h
  | d :: ds, x :: xs, h => ⟨Rep.anti ho h.1, RepL.anti ho h.2⟩
  | [], _ :: _, h => h.elim
  | _ :: _, [], h => h.elim
end
mutual
/-- a list that does not stand yet may be owned -/
theorem Rep.more (ho : ∀ a, O' a → O a ∨ H a = none) : ∀ {d : D} {v : V}, Rep K O H d v → Rep K O' H d v
  | .none, _, h => h
  | .bool _, _, h => h
  | .int _, _, h => h
  | .str _, _, h => h
  | .list ds, v, h => by
    obtain ⟨z, a, xs, e, na, r, q⟩ := h
    refine ⟨z, a, xs, e, fun z2 => ?_, r, RepL.more ho q⟩
    rcases ho a z2 with y | y
    · exact na y
    · rw [y] at r; cases r
  | .tuple ds, v, h => by
    obtain ⟨z, a, xs, e, r, q⟩ := h
    exact ⟨z, a, xs, e, r, RepL.more ho q⟩
  | .dict _, _, h => h
theorem RepL.more (ho : ∀ a, O' a → O a ∨ H a = none) : ∀ {ds : List D} {xs : List V}, RepL K O H ds xs → RepL K O' H ds xs
  | [], [], h => h
  | d :: ds, x :: xs, h => ⟨Rep.more ho h.1, RepL.more ho h.2⟩
  | [], _ :: _, h => h.elim
  | _ :: _, [], h => h.elim
end
mutual
theorem Rep.imm : ∀ {d : D} {v : V}, OR.imm d = true → Rep K O H d v → Rep K O' H d v
  | .none, _, _, h => h
  | .bool _, _, _, h => h
  | .int _, _, _, h => h
  | .str _, _, _, h => h
  | .list ds, v, i, h => by cases i
  | .tuple ds, v, i, h => by
    obtain ⟨z, a, xs, e, r, q⟩ := h
    exact ⟨z, a, xs, e, r, RepL.imm (show immL ds = true from i) q⟩
  | .dict _, _, _, h => h
theorem RepL.imm : ∀ {ds : List D} {xs : List V}, OR.immL ds = true → RepL K O H ds xs → RepL K O' H ds xs
  | [], [], _, h => h
  | d :: ds, x :: xs, i, h => by
    have i' : (OR.imm d && OR.immL ds) = true := i
    rw [Bool.and_eq_true] at i'
    exact ⟨Rep.imm i'.1 h.1, RepL.imm i'.2 h.2⟩
  | [], _ :: _, _, h => h.elim
  | _ :: _, [], _, h => h.elim
end
/-- all stands -/
def Ext0 (H H' : Hp) : Prop := ∀ b x, H b = some x → H' b = some x
theorem Ext0.refl (H : Hp) : Ext0 H H := fun _ _ h => h
theorem Ext0.ext {O : Addr → Prop} {H H' : Hp} (h : Ext0 H H') : Ext O H H' := fun b x _ e => h b x e
theorem Ext0.trans {H1 H2 H3 : Hp} (h : Ext0 H1 H2) (g : Ext0 H2 H3) : Ext0 H1 H3 := fun b x e => g b x (h b x e)
theorem ext0_upd {H : Hp} {p : Addr} {o : HO} (hp : H p = none) : Ext0 H (upd H p o) := fun b x e => by rw [upd_ne (ne_of_none e hp)]; exact e
theorem Rd.ext0 (he : Ext0 H H') {a : Addr} {u : HO} (h : Rd H a u) : Rd H' a u := by
  rcases h with h | ⟨o, h⟩
  · exact .inl (he _ _ h)
  · exact .inr ⟨o, he _ _ h⟩
theorem SqT.ext0 (he : Ext0 H H') {a : Addr} {ys : List V} (h : SqT K H a ys) : SqT K H' a ys := h.imp (Rd.ext0 he) id
mutual
theorem Rep.ext0 (he : Ext0 H H') : ∀ {d : D} {v : V}, Rep K O H d v → Rep K O H' d v
  | .none, _, h => h
  | .bool _, _, h => h
  | .int _, _, h => h
  | .str _, _, h => h
  | .list ds, v, h => by
    obtain ⟨z, a, xs, e, na, r, q⟩ := h
    exact ⟨z, a, xs, e, na, he _ _ r, RepL.ext0 he q⟩
  | .tuple ds, v, h => by
    obtain ⟨z, a, xs, e, r, q⟩ := h
    exact ⟨z, a, xs, e, SqT.ext0 he r, RepL.ext0 he q⟩
  | .dict _, _, h => h
theorem RepL.ext0 (he : Ext0 H H') : ∀ {ds : List D} {xs : List V}, RepL K O H ds xs → RepL K O H' ds xs
  | [], [], h => h
  | d :: ds, x :: xs, h => ⟨Rep.ext0 he h.1, RepL.ext0 he h.2⟩
  | [], _ :: _, h => h.elim
  | _ :: _, [], h => h.elim
end
theorem RepT.ext0 (he : Ext0 H H') (h : RepT K O H d v) : RepT K O H' d v := by
  cases d with
  | list ds => obtain ⟨z, a, xs, e, r, q⟩ := h; exact ⟨z, a, xs, e, he _ _ r, RepL.ext0 he q⟩
  | none => exact h
  | bool b => exact h
  | int i => exact h
  | str s => exact h
  | tuple ds => exact Rep.ext0 (d := .tuple ds) he h
  | dict k => exact h
theorem RepT.ext (hd : ODom O H) (he : Ext O H H') (hk : ∀ a xs, v = .ref a → H a = some (.lst xs) → H' a = some (.lst xs)) (h : RepT K O H d v) : RepT K O H' d v := by
  cases d with
  | list ds => obtain ⟨z, a, xs, e, r, q⟩ := h; exact ⟨z, a, xs, e, hk a xs e r, RepL.ext hd he q⟩
  | none => exact h
  | bool b => exact h
  | int i => exact h
  | str s => exact h
  | tuple ds => exact Rep.ext (d := .tuple ds) hd he h
  | dict k => exact h
theorem RepL.get : ∀ {ds : List D} {xs : List V} {i : Nat} {x : V}, RepL K O H ds xs → xs[i]? = some x → ∃ d, ds[i]? = some d ∧ Rep K O H d x
  | d :: ds, y :: xs, 0, x, h, e => by
    simp at e; subst e; exact ⟨d, rfl, h.1⟩
  | d :: ds, y :: xs, i + 1, x, h, e => by
    obtain ⟨d', e', r⟩ := RepL.get (i := i) h.2 (by simpa using e)
    exact ⟨d', by simpa using e', r⟩
  | [], [], _, _, _, e => by simp at e
  | [], _ :: _, _, _, h, _ => h.elim
  | _ :: _, [], _, _, h, _ => h.elim
theorem RepL.get' : ∀ {ds : List D} {xs : List V} {i : Nat} {d : D}, RepL K O H ds xs → ds[i]? = some d → ∃ x, xs[i]? = some x ∧ Rep K O H d x
  | d :: ds, y :: xs, 0, x, h, e => by
    simp at e; subst e; exact ⟨y, rfl, h.1⟩
  | d :: ds, y :: xs, i + 1, x, h, e => by
    obtain ⟨d', e', r⟩ := RepL.get' (i := i) h.2 (by simpa using e)
    exact ⟨d', by simpa using e', r⟩
  | [], [], _, _, _, e => by simp at e
  | [], _ :: _, _, _, h, _ => h.elim
  | _ :: _, [], _, _, h, _ => h.elim
theorem RepL.append : ∀ {ds ds' : List D} {xs xs' : List V}, RepL K O H ds xs → RepL K O H ds' xs' → RepL K O H (ds ++ ds') (xs ++ xs')
  | [], _, [], _, _, q => q
  | d :: ds, _, x :: xs, _, h, q => ⟨h.1, RepL.append h.2 q⟩
  | [], _, _ :: _, _, h, _ => h.elim
  | _ :: _, _, [], _, h, _ => h.elim
theorem RepL.set : ∀ {ds : List D} {xs : List V} (n : Nat) {d : D} {v : V}, RepL K O H ds xs → Rep K O H d v → RepL K O H (ds.set n d) (xs.set n v)
  | [], [], _, _, _, _, _ => trivial
  | [], _ :: _, _, _, _, h, _ => h.elim
  | _ :: _, [], _, _, _, h, _ => h.elim
  | _ :: _, _ :: _, 0, _, _, h, r => ⟨r, h.2⟩
  | _ :: _, _ :: _, n + 1, _, _, h, r => ⟨h.1, RepL.set n h.2 r⟩
theorem RepL.take : ∀ {ds : List D} {xs : List V} (n : Nat), RepL K O H ds xs → RepL K O H (ds.take n) (xs.take n)
  | _, _, 0, _ => by simp; trivial
  | [], [], n + 1, h => by simp; trivial
  | d :: ds, x :: xs, n + 1, h => ⟨h.1, RepL.take n h.2⟩
  | [], _ :: _, _ + 1, h => h.elim
  | _ :: _, [], _ + 1, h => h.elim
theorem RepL.drop : ∀ {ds : List D} {xs : List V} (n : Nat), RepL K O H ds xs → RepL K O H (ds.drop n) (xs.drop n)
  | _, _, 0, h => h
  | [], [], n + 1, h => h
  | d :: ds, x :: xs, n + 1, h => RepL.drop n h.2
  | [], _ :: _, _ + 1, h => h.elim
  | _ :: _, [], _ + 1, h => h.elim
theorem RepL.reverse : ∀ {ds : List D} {xs : List V}, RepL K O H ds xs → RepL K O H ds.reverse xs.reverse
  | [], [], _ => trivial
  | d :: ds, x :: xs, h => by
    rw [List.reverse_cons, List.reverse_cons]
    exact (RepL.reverse h.2).append ⟨h.1, trivial⟩
  | [], _ :: _, h => h.elim
  | _ :: _, [], h => h.elim
theorem RepL.rep : ∀ (n : Nat) {ds : List D} {xs : List V}, RepL K O H ds xs → RepL K O H (List.replicate n ds).flatten (List.replicate n xs).flatten
  | 0, _, _, _ => trivial
  | n + 1, _, _, h => by
    rw [List.replicate_succ, List.replicate_succ, List.flatten_cons, List.flatten_cons]
    exact h.append (RepL.rep n h)
theorem RepL.strs : ∀ {ds : List D} {xs : List V} {as : List Str}, textsD ds = some as → RepL K O H ds xs → xs = as.map V.str
  | [], [], as, e, _ => by
    simp only [textsD, Option.some.injEq] at e; subst e; rfl
  | d :: ds, x :: xs, as, e, h => by
    cases d with
    | str s =>
      simp only [textsD] at e
      cases q : textsD ds with
      | none => rw [q] at e; cases e
      | some bs =>
        rw [q] at e
        simp only [Option.map_some, Option.some.injEq] at e
        subst e
        have e1 : x = V.str s := h.1.1
        rw [e1, RepL.strs (as := bs) (ds := ds) q h.2]; rfl
    | _ => simp [textsD] at e
  | [], _ :: _, _, _, h => h.elim
  | _ :: _, [], _, _, h => h.elim
theorem RepL.ints : ∀ {ds : List D} {xs : List V} {as : List Int}, intsD ds = some as → RepL K O H ds xs → xs = as.map V.int
  | [], [], as, e, _ => by
    simp only [intsD, Option.some.injEq] at e; subst e; rfl
  | d :: ds, x :: xs, as, e, h => by
    cases d with
    | int s =>
      simp only [intsD] at e
      cases q : intsD ds with
      | none => rw [q] at e; cases e
      | some bs =>
        rw [q] at e
        simp only [Option.map_some, Option.some.injEq] at e
        subst e
        have e1 : x = V.int s := h.1
        rw [e1, RepL.ints (ds := ds) q h.2]; rfl
    | _ => simp [intsD] at e
  | [], _ :: _, _, _, h => h.elim
  | _ :: _, [], _, _, h => h.elim
end
/-! ### data read off the state -/
section
variable {X : Cx} {pins : List (Addr × Obj)} {σ : L2.St} {H : Hp} {s : Shared} {O : Addr → Prop}
mutual
theorem Rep.reads (I : Inv X pins σ H s) : ∀ {d : D} {v : V} {u : Value}, Rep X.K O H d v → RelV v u → ∃ as, Reads s.heap u d as
  | .none, v, u, h, r => by
    have e : v = .non := h
    subst e; cases r; exact ⟨[], .none⟩
  | .bool b, v, u, h, r => by
    have e : v = .bl b := h
    subst e; cases r; exact ⟨[], .bool b⟩
  | .int i, v, u, h, r => by
    have e : v = .int i := h
    subst e; obtain ⟨t, rfl⟩ := r; exact ⟨[], .int i t⟩
  | .str i, v, u, h, r => by
    have e : v = .str i := h.1
    subst e; obtain ⟨t, rfl⟩ := r; exact ⟨[], .str i t⟩
  | .list ds, v, u, h, r => by
    obtain ⟨z, a, xs, rfl, _, rd, q⟩ := h
    cases r
    obtain ⟨its, rv, ⟨o, n, e, c, _, dd⟩, _⟩ := I.list (.inl (.inl rd))
    obtain ⟨as, ra⟩ := RepL.reads I q rv
    exact ⟨_, .list e c dd (by simpa using ra)⟩
  | .tuple ds, v, u, h, r => by
    obtain ⟨z, a, xs, rfl, rd, q⟩ := h
    cases r
    obtain ⟨its, rv, ⟨o, e, c, n, dd⟩, _⟩ := I.tuple rd
    obtain ⟨as, ra⟩ := RepL.reads I q rv
    exact ⟨_, .tuple e c dd (by simpa using ra)⟩
  | .dict _, _, _, h, _ => h.elim
theorem RepL.reads (I : Inv X pins σ H s) : ∀ {ds : List D} {xs : List V} {us : List Value}, RepL X.K O H ds xs → Vals xs us → ∃ as, ReadsAll s.heap us ds as
  | [], [], _, _, .nil => ⟨[], .nil⟩
  | d :: ds, x :: xs, _, h, .cons r t => by
    obtain ⟨as, ra⟩ := Rep.reads I h.1 r
    obtain ⟨bs, rb⟩ := RepL.reads I h.2 t
    exact ⟨as ++ bs, .cons ra rb⟩
  | [], _ :: _, _, h, _ => h.elim
  | _ :: _, [], _, h, _ => h.elim
end
theorem RepT.reads (I : Inv X pins σ H s) {d : D} {v : V} {u : Value} (h : RepT X.K O H d v) (r : RelV v u) : ∃ as, Reads s.heap u d as := by
  cases d with
  | list ds =>
    obtain ⟨z, a, xs, rfl, rd, q⟩ := h
    cases r
    obtain ⟨its, rv, ⟨o, n, e, c, _, dd⟩, _⟩ := I.list (.inl (.inl rd))
    obtain ⟨as, ra⟩ := RepL.reads I q rv
    exact ⟨_, .list e c dd (by simpa using ra)⟩
  | none => exact Rep.reads I (O := O) (d := .none) h r
  | bool b => exact Rep.reads I (O := O) (d := .bool b) h r
  | int b => exact Rep.reads I (O := O) (d := .int b) h r
  | str b => exact Rep.reads I (O := O) (d := .str b) h r
  | tuple b => exact Rep.reads I (O := O) (d := .tuple b) h r
  | dict b => exact Rep.reads I (O := O) (d := .dict b) h r
end
end OR

/-! the operations by values, over the hand layer's rules -/
namespace OR
open PySem PySem.Spec PyProof.Rows L2
theorem tuple_mul1W (l : Addr) (items : Array Value) (n : Nat) (dd : Option Addr) (sl : Array (Option Value)) (u : Tok) (c1 : (items.isEmpty || (1 : Int) == 1) = true) :
    Meets (Builtin.«tuple.__mul__» ⟨[.ref l, .int 1 u], []⟩) (fun _ R s => s.heap.get? l = some { cls := .type "tuple", dict := dd, data := .seq items n, slots := sl } ∧
      R (.ok (.ret (Value.ref l))) s) :=
  .of_wp fun prog w A R s h => by
    obtain ⟨hp, g, d, tk, os⟩ := s
    obtain ⟨hl, h⟩ := h
    have f1 := AutoSeq1.idx_int
    wp_walk using wpAny_loadPart' hl
    repeat (first
      | (refine wpAny_ite_true (decide_eq_true c1) ?_; wp_walk using wpAny_loadPart' hl))
    exact ⟨_, rfl, h⟩
theorem op_repT1 {X : Cx} : OpR X (binaryOp .Mult) (fun x y H Q => ∃ l xs, x = .ref l ∧ y = .int 1 ∧ SqT X.K H l xs ∧ xs ≠ [] ∧ Q (.ref l) H) := by
  intro pins s σ H x y v u Q I rx ry h
  obtain ⟨l, xs, rfl, rfl, hT, hne, q⟩ := h
  cases rx
  obtain ⟨t, rfl⟩ := ry
  obtain ⟨its, r, ⟨⟨cls, dd, data, sl⟩, ho, hc, n, hd⟩, hs⟩ := I.tuple hT
  simp only at hc hd
  subst hc hd
  have hle : its.length = xs.length := r.length.symm
  have hn : its ≠ [] := fun e => hne (by
    rw [e] at hle
    exact List.eq_nil_of_length_eq_zero hle.symm)
  have c1 : (its.toArray.isEmpty || (1 : Int) == 1) = true := by rw [show ((1 : Int) == 1) = true from rfl, Bool.or_true]
  refine wpAny_binaryOp_repeat_ref (T := "tuple") (U := "int") (by decide) ⟨_, ho, rfl⟩ (fun s' => typeIs_int s' 1 t) noFill_tuple_mul F.fills_int_mul F.slot_int_rmul repeat_tuple F.slot_int_index.lookup
    (call_meets F.slot_int_rmul (typeIs_int s 1 t) F.entry_int_rmul (F.args_int_rmul_2 _ _) (int_rmul_tuple 1 t l its.toArray n dd sl)
      ⟨ho, rfl, ⟨_, ho, rfl⟩, call_meets F.slot_tuple_mul ⟨_, ho, rfl⟩ F.entry_tuple_mul (F.args_tuple_mul_2 _ _) (tuple_mul1W l its.toArray n dd sl t c1) ⟨ho, ?_⟩⟩)
  exact ⟨.ref l, H, I, rfl, q⟩

/-- a new list at p -/
def FreshR (K : PySem.W.Frag) (O : Addr → Prop) (H H' : Hp) (d : D) (v : V) : Prop :=
  ∃ p ds xs, d = .list ds ∧ v = .ref p ∧ H p = none ∧ H' p = some (.lst xs) ∧ RepL K (fun a => O a ∨ a = p) H' ds xs
def ResF (fr : Bool) (K : PySem.W.Frag) (O : Addr → Prop) (H H' : Hp) (d : D) (v : V) : Prop :=
  Rep K O H' d v ∧ (fr = true → isMut d = true → FreshR K O H H' d v)
section
variable {K : PySem.W.Frag} {O : Addr → Prop} {H : Hp} {d : D} {ds : List D} {xs : List V} {v : V} {p : Addr}
theorem ResF.flat {H' : Hp} {fr : Bool} (h : Rep K O H' d v) (hm : isMut d = false) : ResF fr K O H H' d v := ⟨h, fun _ e => by rw [hm] at e; cases e⟩
theorem ResF.old {H' : Hp} (h : Rep K O H' d v) : ResF false K O H H' d v := ⟨h, fun e => by cases e⟩
theorem rep_newTup (hp : H p = none) (h : RepL K O H ds xs) (hz : ds.length ≤ sizeLine) : Rep K O (upd H p (.tup xs)) (.tuple ds) (.ref p) :=
  ⟨hz, p, xs, rfl, SqT.of upd_same, h.ext0 (ext0_upd hp)⟩
theorem res_newTup {fr : Bool} (hp : H p = none) (h : RepL K O H ds xs) (hz : ds.length ≤ sizeLine) : ResF fr K O H (upd H p (.tup xs)) (.tuple ds) (.ref p) := .flat (rep_newTup hp h hz) rfl
theorem res_newLst {fr : Bool} (hd : ODom O H) (hp : H p = none) (h : RepL K O H ds xs) (hz : ds.length ≤ sizeLine) : ResF fr K O H (upd H p (.lst xs)) (.list ds) (.ref p) := by
  refine ⟨⟨hz, p, xs, rfl, fun z => ?_, upd_same, h.ext0 (ext0_upd hp)⟩, fun _ _ => ⟨p, ds, xs, rfl, rfl, hp, upd_same, ?_⟩⟩
  · obtain ⟨ys, e, _⟩ := hd _ z
    rw [hp] at e; cases e
  · exact (h.more fun a z => z.elim .inl fun e => .inr (by rw [e]; exact hp)).ext0 (ext0_upd hp)
end
/-- a two-place operation by data -/
def rD2 (K : PySem.W.Frag) (g : D → D → Option D) (fr : Bool) : R2 := fun x y H Q => ∃ O a b d, ODom O H ∧ RepT K O H a x ∧ RepT K O H b y ∧ g a b = some d ∧
  ∀ v H', Ext0 H H' → ResF fr K O H H' d v → Q v H'
section
variable {X : Cx}
theorem mul_eq_rep (a : Str) (k : Int) (h : ¬ k < 1) : (if (k == 1 || a.length == 0) = true then a else ⟨(List.replicate k.toNat a.cps).foldl (· ++ ·) #[]⟩ : Str) = repS a k := by
  have f0 : ∀ (m : Nat) (acc : Array Nat), ((List.replicate m a.cps).foldl (· ++ ·) acc).toList = acc.toList ++ (List.replicate m a.cps.toList).flatten := by
    intro m
    induction m with
    | zero => intro acc; simp
    | succ m ih => intro acc; rw [List.replicate_succ, List.foldl_cons, ih, List.replicate_succ, List.flatten_cons]; simp
  unfold repS repL
  split
  · rename_i h1
    rw [Bool.or_eq_true, beq_iff_eq, beq_iff_eq] at h1
    rcases h1 with h1 | h1
    · subst h1
      show a = ⟨((List.replicate 1 a.cps.toList).flatten).toArray⟩
      cases a; simp
    · have e : a.cps = #[] := Array.eq_empty_of_size_eq_zero h1
      cases a
      simp only at e
      subst e
      have : ∀ n : Nat, (List.replicate n (#[] : Array Nat).toList).flatten = [] := by
        intro n; induction n with
        | zero => rfl
        | succ n ih => rw [List.replicate_succ, List.flatten_cons, ih]; rfl
      rw [this]
  · congr 1
    apply Array.toList_inj.mp
    rw [f0]; simp
theorem op_mulS : OpR X (binaryOp .Mult) (fun x y H Q => ∃ a k, x = .str a ∧ y = .int k ∧ -(2 ^ 63) ≤ k ∧ k < 2 ^ 63 ∧ a.length * k.toNat ≤ sizeLine ∧ Q (.str (repS a k)) H) := by
  intro pins s σ H x y v u Q I rx ry h
  obtain ⟨a, k, rfl, rfl, h1, h2, hz, q⟩ := h
  obtain ⟨t, rfl⟩ := rx
  obtain ⟨t', rfl⟩ := ry
  have hs : sizeLine = 16777216 := by decide
  have ok : MulOk a k := by
    refine ⟨by rw [decide_eq_false (by omega), decide_eq_false (by omega)]; rfl, fun h3 h4 => ?_, fun h3 h4 => ?_⟩
    · have hk : (0 : Int) < k := by omega
      intro hgt
      have : ((2 : Int) ^ 63 - 1) / k * k + k > 2 ^ 63 - 1 := by
        have := Int.lt_ediv_add_one_mul_self ((2 : Int) ^ 63 - 1) hk
        rw [Int.add_mul, Int.one_mul] at this
        omega
      have h5 : ((a.length : Int)) * k ≤ 16777216 := by
        have : a.length * k.toNat ≤ 16777216 := by rw [← hs]; exact hz
        have e : ((a.length * k.toNat : Nat) : Int) = (a.length : Int) * k := by rw [Int.natCast_mul, Int.toNat_of_nonneg (by omega)]
        omega
      have h6 : (((2 : Int) ^ 63 - 1) / k + 1) * k ≤ (a.length : Int) * k := Int.mul_le_mul_of_nonneg_right (by omega) (by omega)
      rw [Int.add_mul, Int.one_mul] at h6
      omega
    · unfold Builtin.Str.tooLong
      rw [hs]
      rw [hs] at hz
      exact decide_eq_false (by omega)
  refine SB.mul ok fun t2 k2 => ?_
  refine ⟨.str (repS a k), H, I.tok _, ⟨t2, ?_⟩, q⟩
  unfold Txt.mul
  by_cases h3 : k < 1
  · rw [if_pos h3]
    have e : k.toNat = 0 := by omega
    unfold repS repL
    rw [e]; rfl
  · rw [if_neg h3, mul_eq_rep a k h3]
theorem str_app_len (a b : Str) : (a ++ b).length = a.length + b.length := by
  show (a.cps ++ b.cps).size = _
  rw [Array.size_append]; rfl
theorem repL_len {α : Type} (xs : List α) (k : Int) : (repL xs k).length = k.toNat * xs.length := by
  unfold repL
  simp
theorem repS_len (a : Str) (k : Int) : (repS a k).length = k.toNat * a.length := by
  unfold repS
  show (List.toArray _).size = _
  rw [List.size_toArray, repL_len, Array.length_toList]; rfl
theorem op_binD (op : Operator) : OpR X (binaryOp op) (rD2 X.K (binD op) true) := by
  intro pins s σ H x y v u Q I rx ry ⟨O, a, b, d, hd, ra, rb, e, q⟩
  unfold binD at e
  split at e
  · obtain rfl := ra
    obtain rfl := rb
    cases e
    exact op_add pins s σ H _ _ v u Q I rx ry ⟨_, _, rfl, rfl, q _ _ (Ext0.refl H) (.flat rfl rfl)⟩
  · obtain ⟨rfl, _⟩ := ra
    obtain ⟨rfl, _⟩ := rb
    split at e
    · rename_i hz
      cases e
      exact op_add_str pins s σ H _ _ v u Q I rx ry ⟨_, _, rfl, rfl, hz, q _ _ (Ext0.refl H) (.flat ⟨rfl, by rw [str_app_len]; exact hz⟩ rfl)⟩
    · cases e
  · rename_i as bs
    obtain ⟨hza, p, xs, rfl, hp, la⟩ := ra
    obtain ⟨hzb, p2, ys, rfl, hp2, lb⟩ := rb
    split at e
    · rename_i hz
      cases e
      have e1 := la.length
      have e2 := lb.length
      refine op_catA pins s σ H _ _ v u Q I rx ry ⟨p, p2, xs, ys, rfl, rfl, hp, hp2, by omega, fun z => ?_, fun z z2 => ?_, fun z z2 w hw => ?_⟩
      · subst z
        have : as = [] := List.eq_nil_of_length_eq_zero e1
        subst this
        exact q _ _ (Ext0.refl H) (.flat ⟨by simpa using hzb, p2, ys, rfl, hp2, by simpa using lb⟩ rfl)
      · subst z2
        have : bs = [] := List.eq_nil_of_length_eq_zero e2
        subst this
        exact q _ _ (Ext0.refl H) (.flat ⟨by simpa using hza, p, xs, rfl, hp, by simpa using la⟩ rfl)
      · exact q _ _ (ext0_upd hw) (res_newTup hw (la.append lb) (by rw [List.length_append]; omega))
    · cases e
  · obtain ⟨hza, p, xs, rfl, hp, la⟩ := ra
    obtain ⟨hzb, p2, ys, rfl, hp2, lb⟩ := rb
    split at e
    · rename_i hz
      cases e
      have e1 := la.length
      have e2 := lb.length
      exact op_cat pins s σ H _ _ v u Q I rx ry ⟨p, p2, xs, ys, rfl, rfl, hp, hp2, by omega, fun w hw => q _ _ (ext0_upd hw) (res_newLst hd hw (la.append lb) (by rw [List.length_append]; omega))⟩
    · cases e
  · obtain rfl := ra
    obtain rfl := rb
    cases e
    exact op_sub pins s σ H _ _ v u Q I rx ry ⟨_, _, rfl, rfl, q _ _ (Ext0.refl H) (.flat rfl rfl)⟩
  · obtain rfl := ra
    obtain rfl := rb
    split at e
    · rename_i hz
      cases e
      refine op_mul pins s σ H _ _ v u Q I rx ry ⟨_, _, rfl, rfl, ?_, q _ _ (Ext0.refl H) (.flat rfl rfl)⟩
      unfold small at hz
      simp only [Bool.or_eq_true, Bool.and_eq_true, decide_eq_true_eq] at hz
      exact hz
    · cases e
  · obtain ⟨rfl, _⟩ := ra
    obtain rfl := rb
    split at e
    · rename_i hz
      cases e
      simp only [Bool.and_eq_true, decide_eq_true_eq] at hz
      exact op_mulS pins s σ H _ _ v u Q I rx ry ⟨_, _, rfl, rfl, hz.1.1, hz.1.2, hz.2, q _ _ (Ext0.refl H) (.flat ⟨rfl, by rw [repS_len, Nat.mul_comm]; exact hz.2⟩ rfl)⟩
    · cases e
  · rename_i as k
    obtain ⟨hza, p, xs, rfl, hp, la⟩ := ra
    obtain rfl := rb
    split at e
    · rename_i hz
      cases e
      simp only [Bool.and_eq_true, decide_eq_true_eq, Bool.not_eq_true', List.isEmpty_eq_false_iff] at hz
      obtain ⟨⟨⟨h1, h2⟩, h3⟩, h4⟩ := hz
      have e1 := la.length
      by_cases k1 : k = 1
      · subst k1
        have e0 : repL as 1 = as := by
          unfold repL
          simp
        exact op_repT1 pins s σ H _ _ v u Q I rx ry ⟨p, xs, rfl, rfl, hp, fun z => by subst z; exact h1 (List.eq_nil_of_length_eq_zero e1), q _ _ (Ext0.refl H) (.flat ⟨by rw [e0]; exact hza, p, xs, rfl, hp, by rw [e0]; exact la⟩ rfl)⟩
      exact op_repT pins s σ H _ _ v u Q I rx ry ⟨p, _, xs, rfl, rfl, hp, fun z => by subst z; exact h1 (List.eq_nil_of_length_eq_zero e1), by omega, h3, by omega, fun w hw => q _ _ (ext0_upd hw) (res_newTup hw (la.rep _) (by
        have e5 := repL_len as k
        refine Nat.le_trans (Nat.le_of_eq e5) ?_
        refine Nat.le_trans (Nat.mul_le_mul (show k.toNat ≤ 1000 from by omega) h4) ?_
        rw [sizeLine_eq]; decide))⟩
    · cases e
  · obtain ⟨hza, p, xs, rfl, hp, la⟩ := ra
    obtain rfl := rb
    split at e
    · rename_i hz
      cases e
      simp only [Bool.and_eq_true, decide_eq_true_eq] at hz
      have e1 := la.length
      exact op_rep pins s σ H _ _ v u Q I rx ry ⟨p, _, xs, rfl, rfl, hp, hz.1.1, hz.1.2, by rw [← e1]; exact hz.2, fun w hw => q _ _ (ext0_upd hw) (res_newLst hd hw (la.rep _) (by rw [show _ = _ from repL_len _ _, Nat.mul_comm]; exact hz.2))⟩
    · cases e
  · obtain rfl := ra
    obtain rfl := rb
    split at e
    · rename_i hz
      cases e
      exact op_fdiv pins s σ H _ _ v u Q I rx ry ⟨_, _, rfl, rfl, hz, q _ _ (Ext0.refl H) (.flat rfl rfl)⟩
    · cases e
  · obtain rfl := ra
    obtain rfl := rb
    split at e
    · rename_i hz
      cases e
      exact op_mod pins s σ H _ _ v u Q I rx ry ⟨_, _, rfl, rfl, hz, q _ _ (Ext0.refl H) (.flat rfl rfl)⟩
    · cases e
  · obtain rfl := ra
    obtain rfl := rb
    split at e
    · rename_i hz
      cases e
      exact op_pow pins s σ H _ _ v u Q I rx ry ⟨_, _, rfl, rfl, ⟨hz.1, by omega, hz.2.2⟩, q _ _ (Ext0.refl H) (.flat rfl rfl)⟩
    · cases e
  · cases e

theorem eqD_of {x y : D} {b : Bool} (e : eqD x y = some b) : x.plain = true ∧ y.plain = true ∧ min x.depth y.depth ≤ 60 ∧ PyData.eqv x y = b := by
  unfold eqD at e
  split at e
  · rename_i i j
    cases e
    refine ⟨rfl, rfl, by simp [PyData.depth], ?_⟩
    show (i == j) = decide (i = j)
    rw [Bool.beq_eq_decide_eq]
  · rename_i i j
    cases e
    refine ⟨rfl, rfl, by simp [PyData.depth], ?_⟩
    show (i == j) = decide (i = j)
    rw [Bool.beq_eq_decide_eq]
  · split at e
    · rename_i h
      simp only [Bool.and_eq_true, decide_eq_true_eq] at h
      cases e
      exact ⟨h.1.1, h.1.2, h.2, rfl⟩
    · cases e
theorem ltD_of {x y : D} {b : Bool} (e : ltD x y = some b) : PySem.W.alike x y = true ∧ x ≠ .none ∧ min x.depth y.depth ≤ 60 ∧ PySem.W.dataLt x y = b := by
  unfold ltD at e
  split at e
  · rename_i i j
    cases e
    exact ⟨by simp [PySem.W.alike], (fun z => by cases z), by simp [PyData.depth], PySem.W.dataLt_int i j⟩
  · rename_i i j
    cases e
    exact ⟨by simp [PySem.W.alike], (fun z => by cases z), by simp [PyData.depth], PySem.W.dataLt_str i j⟩
  · cases e
  · split at e
    · rename_i h
      simp only [Bool.and_eq_true, decide_eq_true_eq] at h
      cases e
      exact ⟨h.1, (fun z => by subst z; simp_all), h.2, rfl⟩
    · cases e
theorem op_cmpD (hu : X.A.units + 64 < cLine) (op : CmpOp) : OpR X (compareOp op) (rD2 X.K (cmpD op) false) := by
  intro pins s σ H x y v u Q I rx ry ⟨O, a, b, d, hd, ra, rb, e, q⟩
  have fin : ∀ {c : Bool}, d = .bool c → EP X pins σ Q (.bool c) s := fun {c} z => ⟨.bl c, H, I, rfl, q _ _ (Ext0.refl H) (.flat (by rw [z]; rfl) (by rw [z]; rfl))⟩
  obtain ⟨as, r1⟩ := RepT.reads I ra rx
  obtain ⟨bs, r2⟩ := RepT.reads I rb ry
  unfold cmpD at e
  split at e
  · obtain ⟨c, ec, ed⟩ := Option.map_eq_some_iff.mp e
    obtain ⟨h1, h2, h3, h4⟩ := eqD_of ec
    exact PySem.SeqAt.eq_plain r1 r2 h1 h2 (by omega) (by rw [h4]; exact fin ed.symm)
  · obtain ⟨c, ec, ed⟩ := Option.map_eq_some_iff.mp e
    obtain ⟨h1, h2, h3, h4⟩ := eqD_of ec
    exact PySem.SeqAt.ne_plain r1 r2 h1 h2 (by omega) (by rw [h4]; exact fin ed.symm)
  · obtain ⟨c, ec, ed⟩ := Option.map_eq_some_iff.mp e
    obtain ⟨h1, h2, h3, h4⟩ := ltD_of ec
    exact PySem.W.lt_data r1 r2 h1 h2 (by omega) (by rw [h4]; exact fin ed.symm)
  · obtain ⟨c, ec, ed⟩ := Option.map_eq_some_iff.mp e
    obtain ⟨h1, h2, h3, h4⟩ := ltD_of ec
    exact PySem.W.gt_data r1 r2 (by rw [PySem.W.alike_comm]; exact h1) (PySem.W.ne_none_both h1 h2) (by omega) (by rw [h4]; exact fin ed.symm)
  · obtain ⟨c, ec, ed⟩ := Option.map_eq_some_iff.mp e
    obtain ⟨h1, h2, h3, h4⟩ := ltD_of ec
    exact PySem.W.le_data r1 r2 (by rw [PySem.W.alike_comm]; exact h1) (PySem.W.ne_none_both h1 h2) (by omega) (by rw [h4]; exact fin ed.symm)
  · obtain ⟨c, ec, ed⟩ := Option.map_eq_some_iff.mp e
    obtain ⟨h1, h2, h3, h4⟩ := ltD_of ec
    exact PySem.W.ge_data r1 r2 h1 h2 (by omega) (by rw [h4]; exact fin ed.symm)
  · obtain ⟨c, ec, ed⟩ := Option.map_eq_some_iff.mp e
    unfold inD at ec
    split at ec
    · cases ec
      obtain ⟨rfl, _⟩ := ra
      obtain ⟨rfl, _⟩ := rb
      exact op_in_sign pins s σ H _ _ v u Q I rx ry ⟨_, _, rfl, rfl, q _ _ (Ext0.refl H) (.flat (by rw [← ed]; rfl) (by rw [← ed]; rfl))⟩
    · cases ec
      obtain ⟨rfl, _⟩ := ra
      obtain ⟨rfl, _⟩ := rb
      exact op_in_str pins s σ H _ _ v u Q I rx ry ⟨_, _, rfl, rfl, q _ _ (Ext0.refl H) (.flat (by rw [← ed]; rfl) (by rw [← ed]; rfl))⟩
    · split at ec
      · rename_i h
        simp only [Bool.and_eq_true, decide_eq_true_eq] at h
        cases ec
        exact PySem.SeqAt.in_list_data r2 r1 h.1.2 h.1.1 (by omega) (fin ed.symm)
      · cases ec
    · split at ec
      · rename_i h
        simp only [Bool.and_eq_true, decide_eq_true_eq] at h
        cases ec
        exact PySem.SeqAt.in_tuple_data r2 r1 h.1.2 h.1.1 (by omega) (fin ed.symm)
      · cases ec
    · cases ec
  · obtain ⟨c, ec, ed⟩ := Option.map_eq_some_iff.mp e
    unfold inD at ec
    split at ec
    · cases ec
      obtain ⟨rfl, _⟩ := ra
      obtain ⟨rfl, _⟩ := rb
      exact op_notIn_sign pins s σ H _ _ v u Q I rx ry ⟨_, _, rfl, rfl, q _ _ (Ext0.refl H) (.flat (by rw [← ed]; rfl) (by rw [← ed]; rfl))⟩
    · cases ec
      obtain ⟨rfl, _⟩ := ra
      obtain ⟨rfl, _⟩ := rb
      exact op_notIn_str pins s σ H _ _ v u Q I rx ry ⟨_, _, rfl, rfl, q _ _ (Ext0.refl H) (.flat (by rw [← ed]; rfl) (by rw [← ed]; rfl))⟩
    · split at ec
      · rename_i h
        simp only [Bool.and_eq_true, decide_eq_true_eq] at h
        cases ec
        exact PySem.SeqAt.notIn_list_data r2 r1 h.1.2 h.1.1 (by omega) (fin ed.symm)
      · cases ec
    · split at ec
      · rename_i h
        simp only [Bool.and_eq_true, decide_eq_true_eq] at h
        cases ec
        exact PySem.SeqAt.notIn_tuple_data r2 r1 h.1.2 h.1.1 (by omega) (fin ed.symm)
      · cases ec
    · cases ec
  · obtain ⟨c, ec, ed⟩ := Option.map_eq_some_iff.mp e
    unfold isD at ec
    split at ec
    · cases ec
      obtain rfl := ra
      obtain rfl := rb
      exact op_isN pins s σ H _ _ v u Q I rx ry ⟨rfl, q _ _ (Ext0.refl H) (.flat (by rw [← ed]; rfl) (by rw [← ed]; rfl))⟩
    · rename_i hne
      cases ec
      obtain rfl := rb
      have hx : x ≠ .non := fun z => by
        subst z
        cases a with
        | none => exact hne rfl
        | bool b => cases ra
        | int b => cases ra
        | str b => cases ra.1
        | list b => obtain ⟨_, _, _, e1, _⟩ := ra; cases e1
        | tuple b => obtain ⟨_, _, _, e1, _⟩ := ra; cases e1
        | dict b => exact ra.elim
      refine op_isN pins s σ H _ _ v u Q I rx ry ⟨rfl, q _ _ (Ext0.refl H) (.flat ?_ (by rw [← ed]; rfl))⟩
      rw [← ed, decide_eq_false hx]; rfl
    · rename_i b' a'
      cases ec
      obtain rfl := ra
      obtain rfl := rb
      refine op_is_bl pins s σ H _ _ v u Q I rx ry ⟨_, _, rfl, rfl, q _ _ (Ext0.refl H) (.flat ?_ (by rw [← ed]; rfl))⟩
      rw [← ed]
      show V.bl (decide (a' = b')) = V.bl (a' == b')
      rw [Bool.beq_eq_decide_eq]
    · cases ec
  · obtain ⟨c, ec, ed⟩ := Option.map_eq_some_iff.mp e
    unfold isD at ec
    split at ec
    · cases ec
      obtain rfl := ra
      obtain rfl := rb
      exact op_notN pins s σ H _ _ v u Q I rx ry ⟨rfl, q _ _ (Ext0.refl H) (.flat (by rw [← ed]; rfl) (by rw [← ed]; rfl))⟩
    · rename_i hne
      cases ec
      obtain rfl := rb
      have hx : x ≠ .non := fun z => by
        subst z
        cases a with
        | none => exact hne rfl
        | bool b => cases ra
        | int b => cases ra
        | str b => cases ra.1
        | list b => obtain ⟨_, _, _, e1, _⟩ := ra; cases e1
        | tuple b => obtain ⟨_, _, _, e1, _⟩ := ra; cases e1
        | dict b => exact ra.elim
      refine op_notN pins s σ H _ _ v u Q I rx ry ⟨rfl, q _ _ (Ext0.refl H) (.flat ?_ (by rw [← ed]; rfl))⟩
      rw [← ed, decide_eq_false hx]; rfl
    · rename_i b' a'
      cases ec
      obtain rfl := ra
      obtain rfl := rb
      refine op_isnot_bl pins s σ H _ _ v u Q I rx ry ⟨_, _, rfl, rfl, q _ _ (Ext0.refl H) (.flat ?_ (by rw [← ed]; rfl))⟩
      rw [← ed]
      show V.bl (!decide (a' = b')) = V.bl (!(a' == b'))
      rw [Bool.beq_eq_decide_eq]
    · cases ec
end
end OR

/-! subscripts, slices, calls of built-ins by data -/
namespace OR
open PySem PySem.Spec PyProof.Rows L2

/-- values for data, each list itself anywhere -/
def RepTL (K : PySem.W.Frag) (O : Addr → Prop) (H : Hp) : List D → List V → Prop
  | [], [] => True
  | d :: ds, x :: xs => RepT K O H d x ∧ RepTL K O H ds xs
  | _, _ => False
theorem RepTL.of {K : PySem.W.Frag} {O : Addr → Prop} {H : Hp} : ∀ {ds : List D} {xs : List V}, RepL K O H ds xs → RepTL K O H ds xs
  | [], [], h => h
  | d :: ds, x :: xs, h => ⟨h.1.t, RepTL.of h.2⟩
  | [], _ :: _, h => h.elim
  | _ :: _, [], h => h.elim
def rDn (K : PySem.W.Frag) (g : List D → Option D) (fr : Bool) : List V → Hp → VK → Prop := fun xs H Q => ∃ O ds d, ODom O H ∧ RepTL K O H ds xs ∧ g ds = some d ∧
  ∀ v H', Ext0 H H' → ResF fr K O H H' d v → Q v H'
def rD1 (K : PySem.W.Frag) (g : D → Option D) (fr : Bool) : V → Hp → VK → Prop := fun x H Q => ∃ O a d, ODom O H ∧ RepT K O H a x ∧ g a = some d ∧
  ∀ v H', Ext0 H H' → ResF fr K O H H' d v → Q v H'
section
variable {K : PySem.W.Frag} {O : Addr → Prop} {H : Hp}
theorem RepTL.one {d : D} {xs : List V} (h : RepTL K O H [d] xs) : ∃ x, xs = [x] ∧ RepT K O H d x := by
  match xs, h with
  | [x], h => exact ⟨x, rfl, h.1⟩
theorem RepTL.two {d e : D} {xs : List V} (h : RepTL K O H [d, e] xs) : ∃ x y, xs = [x, y] ∧ RepT K O H d x ∧ RepT K O H e y := by
  match xs, h with
  | [x, y], h => exact ⟨x, y, rfl, h.1, h.2.1⟩
theorem RepT.lst {ds : List D} {v : V} (h : RepT K O H (.list ds) v) : ∃ p xs, v = .ref p ∧ H p = some (.lst xs) ∧ RepL K O H ds xs := h.2
theorem RepT.tup {ds : List D} {v : V} (h : RepT K O H (.tuple ds) v) : ∃ p xs, v = .ref p ∧ SqT K H p xs ∧ RepL K O H ds xs := h.2
theorem RepT.txt {s : Str} {v : V} (h : RepT K O H (.str s) v) : v = .str s ∧ s.length ≤ sizeLine := h
theorem RepT.num {s : Int} {v : V} (h : RepT K O H (.int s) v) : v = .int s := h
theorem RepT.bool {s : Bool} {v : V} (h : RepT K O H (.bool s) v) : v = .bl s := h
theorem RepT.none {v : V} (h : RepT K O H .none v) : v = .non := h
theorem at_rep {ds : List D} {xs : List V} {i : Int} {d : D} (h : RepL K O H ds xs) (e : atI ds i = some d) : ∃ x, atI xs i = some x ∧ Rep K O H d x := by
  unfold atI at e ⊢
  rw [h.length] at e
  cases q : ixN xs.length i with
  | none => rw [q] at e; cases e
  | some j =>
    rw [q] at e
    exact h.get' e
theorem cutL_len {α : Type} (xs : List α) (lo hi : Option Int) : (cutL xs lo hi).length ≤ xs.length := by
  unfold cutL
  rw [List.length_take, List.length_drop]
  omega
theorem cut_rep {ds : List D} {xs : List V} {lo hi : Option Int} (h : RepL K O H ds xs) : RepL K O H (cutL ds lo hi) (cutV xs lo hi) := by
  unfold cutL cutV
  rw [h.length]
  exact (h.drop _).take _
end
section
variable {X : Cx}
theorem ix_D : IxR X (rD2 X.K subD false) := by
  intro value slice pins s σ H x y v u Q I rx ry ⟨O, a, b, d, hd, ra, rb, e, q⟩ hs
  unfold subD at e
  split at e
  · obtain ⟨hza, p, xs, rfl, hp, la⟩ := ra
    obtain rfl := rb
    obtain ⟨z, ez, rz⟩ := at_rep la e
    exact ix_list value slice pins s σ H _ _ v u Q I rx ry ⟨p, xs, _, z, rfl, rfl, SqL.of hp, ez, q _ _ (Ext0.refl H) (.old rz)⟩ hs
  · obtain ⟨hza, p, xs, rfl, hp, la⟩ := ra
    obtain rfl := rb
    obtain ⟨z, ez, rz⟩ := at_rep la e
    exact ix_tup value slice pins s σ H _ _ v u Q I rx ry ⟨p, xs, _, z, rfl, rfl, hp, ez, q _ _ (Ext0.refl H) (.old rz)⟩ hs
  · obtain ⟨rfl, hz⟩ := ra
    obtain rfl := rb
    obtain ⟨c, ec, ed⟩ := Option.map_eq_some_iff.mp e
    exact ix_str value slice pins s σ H _ _ v u Q I rx ry ⟨_, _, c, rfl, rfl, hz, ec, q _ _ (Ext0.refl H) (.flat (by rw [← ed]; exact ⟨rfl, by show 1 ≤ sizeLine; decide⟩) (by rw [← ed]; rfl))⟩ hs
  · cases e
/-- a slice by data -/
def rDsl (K : PySem.W.Frag) : V → Option Int → Option Int → Hp → VK → Prop := fun x lo hi H Q => ∃ O a d, ODom O H ∧ RepT K O H a x ∧ slcD a lo hi = some d ∧
  ∀ v H', Ext0 H H' → ResF true K O H H' d v → Q v H'
theorem cutS_len (z : Str) (lo hi : Option Int) : (cutS z lo hi).length ≤ z.length := by
  show (List.toArray _).size ≤ z.cps.size
  rw [List.size_toArray, List.length_take, List.length_drop, Array.length_toList]
  omega
theorem sl_D : SlR X (rDsl X.K) := by
  intro pins s σ H x v vl vu lo hi sl Q I rx hs pl pu ⟨O, a, d, hd, ra, e, q⟩
  unfold slcD at e
  split at e
  · cases e
    obtain ⟨hza, p, xs, rfl, hp, la⟩ := ra
    exact sl_list pins s σ H _ v vl vu lo hi sl Q I rx hs pl pu ⟨p, xs, rfl, SqL.of hp, fun w hw => q _ _ (ext0_upd hw) (res_newLst hd hw (cut_rep la) (Nat.le_trans (cutL_len _ _ _) hza))⟩
  · cases e
    obtain ⟨hza, p, xs, rfl, hp, la⟩ := ra
    refine sl_tupA pins s σ H _ v vl vu lo hi sl Q I rx hs pl pu ⟨p, xs, rfl, hp, fun hw => ?_, fun _ w hw => q _ _ (ext0_upd hw) (res_newTup hw (cut_rep la) (Nat.le_trans (cutL_len _ _ _) hza))⟩
    refine q _ _ (Ext0.refl H) (.flat ⟨Nat.le_trans (cutL_len _ _ _) hza, p, xs, rfl, hp, ?_⟩ rfl)
    have h1 := cut_rep (lo := lo) (hi := hi) la
    unfold cutV at h1
    rw [hw.1, hw.2, List.drop_zero, Nat.sub_zero, List.take_length] at h1
    exact h1
  · cases e
    obtain ⟨rfl, hz⟩ := ra
    exact sl_str pins s σ H _ v vl vu lo hi sl Q I rx hs pl pu ⟨_, rfl, hz, q _ _ (Ext0.refl H) (.flat ⟨rfl, Nat.le_trans (cutS_len _ _ _) hz⟩ rfl)⟩
  · cases e
theorem bools_plain : ∀ {xs : List D} {bs : List Bool}, boolsD xs = some bs → PyData.plainAll xs = true ∧ (∀ x ∈ xs, x.fits63) ∧ (xs.all PyData.truthy = bs.all id) ∧ (xs.any PyData.truthy = bs.any id)
  | [], bs, e => by cases e; exact ⟨rfl, (fun x h => by cases h), rfl, rfl⟩
  | d :: xs, bs, e => by
    cases d with
    | bool b =>
      simp only [boolsD] at e
      obtain ⟨cs, ec, ed⟩ := Option.map_eq_some_iff.mp e
      obtain ⟨h1, h2, h3, h4⟩ := bools_plain ec
      subst ed
      refine ⟨?_, fun x hx => ?_, ?_, ?_⟩
      · simp only [PyData.plainAll, PyData.plain, h1, Bool.and_self]
      · rcases List.mem_cons.mp hx with rfl | hx
        · trivial
        · exact h2 x hx
      · rw [List.all_cons, List.all_cons, h3]; rfl
      · rw [List.any_cons, List.any_cons, h4]; rfl
    | _ => simp [boolsD] at e
theorem like_of {xs : List D} (h : likeAll xs = true) : ∀ x ∈ xs, ∀ y ∈ xs, PySem.W.alike x y = true := by
  unfold likeAll allAlike at h
  simp only [List.all_eq_true] at h
  exact fun x hx y hy => h x hx y hy
theorem plain_at : ∀ {xs : List D} {i : Nat} {d : D}, PyData.plainAll xs = true → xs[i]? = some d → d.plain = true
  | x :: xs, 0, d, h, e => by
    simp only [PyData.plainAll, Bool.and_eq_true] at h
    simp at e; subst e; exact h.1
  | x :: xs, i + 1, d, h, e => by
    simp only [PyData.plainAll, Bool.and_eq_true] at h
    exact plain_at (i := i) h.2 (by simpa using e)
  | [], _, _, _, e => by simp at e
/-- the item of a list that reads as a datum stands for it -/
theorem item_rep {pins : List (Addr × Obj)} {σ : L2.St} {H : Hp} {s : Shared} {O : Addr → Prop} (I : L2.Inv X pins σ H s) {ds : List D} {xs : List V} {its : List Value} {i : Nat} {v : Value} {h' : Heap} {m : D} {bs : List Addr}
    (la : RepL X.K O H ds xs) (rv : Vals xs its) (hp : PyData.plainAll ds = true) (hi : its.toArray[i]? = some v) (hk : ∀ b o, s.heap.get? b = some o → h'.get? b = some o) (hm : Reads h' v m bs) : ∃ y, RelV y v ∧ Rep X.K O H m y := by
  have hi' : its[i]? = some v := by simpa using hi
  cases q : xs[i]? with
  | none => rw [rv.none_of q] at hi'; cases hi'
  | some y =>
    obtain ⟨u, hu, ru⟩ := rv.get q
    rw [hi'] at hu; cases hu
    obtain ⟨d, ed, rd⟩ := la.get q
    obtain ⟨as, r0⟩ := Rep.reads I rd ru
    have e : d = m := PySem.SeqAt.plain_unique d m v as bs (plain_at hp ed) (PyProof.Rows.Reads.keeps hk r0) hm
    subst e
    exact ⟨y, ru, rd⟩
theorem reads_list {pins : List (Addr × Obj)} {σ : L2.St} {H : Hp} {s : Shared} {O : Addr → Prop} (I : L2.Inv X pins σ H s) {ds : List D} {xs : List V} {p : Addr} (hp : H p = some (.lst xs)) (la : RepL X.K O H ds xs) :
    ∃ its as, Vals xs its ∧ s.heap.IsList p its.toArray ∧ ReadsAll s.heap its ds as ∧ xs.length ≤ sizeLine := by
  obtain ⟨its, rv, pl, hz⟩ := I.list (SqL.of hp)
  obtain ⟨as, ra⟩ := RepL.reads I la rv
  exact ⟨its, as, rv, pl.isList, ra, hz⟩
theorem reads_tuple {pins : List (Addr × Obj)} {σ : L2.St} {H : Hp} {s : Shared} {O : Addr → Prop} (I : L2.Inv X pins σ H s) {ds : List D} {xs : List V} {p : Addr} (hp : SqT X.K H p xs) (la : RepL X.K O H ds xs) :
    ∃ its as, Vals xs its ∧ s.heap.IsTuple p its.toArray ∧ ReadsAll s.heap its ds as ∧ xs.length ≤ sizeLine := by
  obtain ⟨its, rv, pl, hz⟩ := I.tuple hp
  obtain ⟨as, ra⟩ := RepL.reads I la rv
  exact ⟨its, as, rv, pl, ra, hz⟩
theorem each_rep {pins : List (Addr × Obj)} {σ : L2.St} {H : Hp} {s : Shared} {O : Addr → Prop} : ∀ {ds : List D} {xs : List V} {us : List Value}, RepL X.K O H ds xs → Vals xs us → PySem.W.EachIs (fun v d => ∃ y, RelV y v ∧ Rep X.K O H d y) us ds
  | [], [], _, _, .nil => .nil
  | d :: ds, x :: xs, _, h, .cons r t => .cons ⟨x, r, h.1⟩ (each_rep (pins := pins) (σ := σ) (s := s) h.2 t)
  | [], _ :: _, _, h, _ => h.elim
  | _ :: _, [], _, h, _ => h.elim
theorem rep_each {H : Hp} {O : Addr → Prop} : ∀ {ds : List D} {us : List Value}, PySem.W.EachIs (fun v d => ∃ y, RelV y v ∧ Rep X.K O H d y) us ds → ∃ xs, Vals xs us ∧ RepL X.K O H ds xs
  | [], _, .nil => ⟨[], .nil, trivial⟩
  | _ :: _, _, .cons ⟨x, r, h⟩ t => by
    obtain ⟨xs, rv, rl⟩ := rep_each t
    exact ⟨x :: xs, .cons r rv, h, rl⟩
end
end OR

namespace OR
open PySem PySem.Spec PyProof.Rows L2 TL
theorem joinL_len (S : List Nat) : ∀ l : List (List Nat), (joinL S l).length ≤ (l.map (·.length)).sum + l.length * S.length
  | [] => by simp [joinL]
  | [p] => by simp [joinL]
  | p :: q :: r => by
    have h := joinL_len S (q :: r)
    have e : joinL S (p :: q :: r) = p ++ (S ++ joinL S (q :: r)) := rfl
    rw [e, List.length_append, List.length_append, List.map_cons, List.sum_cons, List.length_cons, Nat.add_mul, Nat.one_mul]
    omega
theorem joinS_len (a : Str) (ys : List Str) : (joinS a ys).length ≤ (ys.map (·.length)).sum + ys.length * a.length := by
  have h := joinL_len a.cps.toList (ys.map fun y => y.cps.toList)
  have e : (joinS a ys).length = (joinL a.cps.toList (ys.map fun y => y.cps.toList)).length := by
    show (List.toArray _).size = _
    rw [List.size_toArray]
  rw [e]
  refine Nat.le_trans h ?_
  rw [List.length_map, List.map_map]
  have e2 : (List.map ((fun x => x.length) ∘ fun y : Str => y.cps.toList) ys) = ys.map (·.length) := by
    apply List.map_congr_left
    intro y _
    show y.cps.toList.length = y.cps.size
    rw [Array.length_toList]
  rw [e2, Array.length_toList]
  exact Nat.le_refl _
theorem joinS_eq (a : Str) (ys : List Str) : Txt.join a ys = joinS a ys := by
  have h := eq_of_beq (join_plain_closes a ys)
  rw [h]
  have h2 := tl_join a ys
  unfold joinS
  have e : (Str.join a ys).cps.toList = joinL a.cps.toList (ys.map fun y => y.cps.toList) := h2
  cases q : Str.join a ys with
  | mk c =>
    rw [q] at e
    simp only at e
    rw [← e]
section
variable {X : Cx}
theorem cr_min_D (hc : X.A.handled = none) (hu : X.A.units + 64 < cLine) {pins : List (Addr × Obj)} {s : Shared} {σ : L2.St} {H : Hp} {Q : VK} (I : L2.Inv X pins σ H s) {O : Addr → Prop} {ds : List D} {x : D} {xs : List D} {ys : List V} {p : Addr}
    (hp : H p = some (.lst ys)) (la : RepL X.K O H (x :: xs) ys) (h : minOk (x :: xs) = true) (q : ∀ v, Rep X.K O H (PySem.W.minD x xs) v → Q v H) :
    wpAny (model X.prog X.w) X.A (call (.builtin "min") [.ref p]) (EP X pins σ Q) X.xe s := by
  obtain ⟨its, as, rv, hl, ra, hz⟩ := reads_list I hp la
  unfold minOk at h
  simp only [Bool.and_eq_true, decide_eq_true_eq] at h
  obtain ⟨⟨⟨h1, h2⟩, h3⟩, h4⟩ := h
  refine PySem.W.min_list_data hc hl (by simpa using ra) ⟨like_of h1, fun y hy z => ?_⟩ (by omega) fun i v h' tk bs hi r hk => ?_
  · subst z
    have := List.all_eq_true.mp h4 _ hy
    cases this
  · obtain ⟨y, ry, rp⟩ := item_rep I la rv h2 hi hk r
    exact ⟨y, H, I.kept hk, ry, q y rp⟩
theorem cr_max_D (hc : X.A.handled = none) (hu : X.A.units + 64 < cLine) {pins : List (Addr × Obj)} {s : Shared} {σ : L2.St} {H : Hp} {Q : VK} (I : L2.Inv X pins σ H s) {O : Addr → Prop} {ds : List D} {x : D} {xs : List D} {ys : List V} {p : Addr}
    (hp : H p = some (.lst ys)) (la : RepL X.K O H (x :: xs) ys) (h : minOk (x :: xs) = true) (q : ∀ v, Rep X.K O H (PySem.W.maxD x xs) v → Q v H) :
    wpAny (model X.prog X.w) X.A (call (.builtin "max") [.ref p]) (EP X pins σ Q) X.xe s := by
  obtain ⟨its, as, rv, hl, ra, hz⟩ := reads_list I hp la
  unfold minOk at h
  simp only [Bool.and_eq_true, decide_eq_true_eq] at h
  obtain ⟨⟨⟨h1, h2⟩, h3⟩, h4⟩ := h
  refine PySem.W.max_list_data hc hl (by simpa using ra) ⟨like_of h1, fun y hy z => ?_⟩ (by omega) fun i v h' tk bs hi r hk => ?_
  · subst z
    have := List.all_eq_true.mp h4 _ hy
    cases this
  · obtain ⟨y, ry, rp⟩ := item_rep I la rv h2 hi hk r
    exact ⟨y, H, I.kept hk, ry, q y rp⟩
theorem cr_min_DT (hc : X.A.handled = none) (hu : X.A.units + 64 < cLine) {pins : List (Addr × Obj)} {s : Shared} {σ : L2.St} {H : Hp} {Q : VK} (I : L2.Inv X pins σ H s) {O : Addr → Prop} {ds : List D} {x : D} {xs : List D} {ys : List V} {p : Addr}
    (hp : SqT X.K H p ys) (la : RepL X.K O H (x :: xs) ys) (h : minOk (x :: xs) = true) (q : ∀ v, Rep X.K O H (PySem.W.minD x xs) v → Q v H) :
    wpAny (model X.prog X.w) X.A (call (.builtin "min") [.ref p]) (EP X pins σ Q) X.xe s := by
  obtain ⟨its, as, rv, hl, ra, hz⟩ := reads_tuple I hp la
  unfold minOk at h
  simp only [Bool.and_eq_true, decide_eq_true_eq] at h
  obtain ⟨⟨⟨h1, h2⟩, h3⟩, h4⟩ := h
  refine PySem.W.min_tuple_data hc hl (by simpa using ra) ⟨like_of h1, fun y hy z => ?_⟩ (by omega) fun i v h' tk bs hi r hk => ?_
  · subst z
    have := List.all_eq_true.mp h4 _ hy
    cases this
  · obtain ⟨y, ry, rp⟩ := item_rep I la rv h2 hi hk r
    exact ⟨y, H, I.kept hk, ry, q y rp⟩
theorem cr_max_DT (hc : X.A.handled = none) (hu : X.A.units + 64 < cLine) {pins : List (Addr × Obj)} {s : Shared} {σ : L2.St} {H : Hp} {Q : VK} (I : L2.Inv X pins σ H s) {O : Addr → Prop} {ds : List D} {x : D} {xs : List D} {ys : List V} {p : Addr}
    (hp : SqT X.K H p ys) (la : RepL X.K O H (x :: xs) ys) (h : minOk (x :: xs) = true) (q : ∀ v, Rep X.K O H (PySem.W.maxD x xs) v → Q v H) :
    wpAny (model X.prog X.w) X.A (call (.builtin "max") [.ref p]) (EP X pins σ Q) X.xe s := by
  obtain ⟨its, as, rv, hl, ra, hz⟩ := reads_tuple I hp la
  unfold minOk at h
  simp only [Bool.and_eq_true, decide_eq_true_eq] at h
  obtain ⟨⟨⟨h1, h2⟩, h3⟩, h4⟩ := h
  refine PySem.W.max_tuple_data hc hl (by simpa using ra) ⟨like_of h1, fun y hy z => ?_⟩ (by omega) fun i v h' tk bs hi r hk => ?_
  · subst z
    have := List.all_eq_true.mp h4 _ hy
    cases this
  · obtain ⟨y, ry, rp⟩ := item_rep I la rv h2 hi hk r
    exact ⟨y, H, I.kept hk, ry, q y rp⟩
theorem mem_depth : ∀ {xs : List D} {d : D}, d ∈ xs → d.depth ≤ PyData.depthAll xs
  | x :: xs, d, h => by
    simp only [PyData.depthAll]
    rcases List.mem_cons.mp h with rfl | h
    · exact Nat.le_max_left _ _
    · exact Nat.le_trans (mem_depth h) (Nat.le_max_right _ _)
theorem cr_sort_D (hu : X.A.units + 64 < cLine) {pins : List (Addr × Obj)} {s : Shared} {σ : L2.St} {H : Hp} {Q : VK} (I : L2.Inv X pins σ H s) {O : Addr → Prop} (hd : ODom O H) {xs : List D} {ys : List V} {p : Addr}
    (hp : H p = some (.lst ys)) (la : RepL X.K O H xs ys) (h : sortOk xs = true) (q : ∀ v H', Ext0 H H' → ResF true X.K O H H' (.list (sortD xs)) v → Q v H') :
    wpAny (model X.prog X.w) X.A (call (.builtin "sorted") [.ref p]) (EP X pins σ Q) X.xe s := by
  obtain ⟨its, as, rv, hl, ra, hz⟩ := reads_list I hp la
  have e := each_rep (pins := pins) (σ := σ) (s := s) la rv
  unfold sortOk at h
  simp only [Bool.and_eq_true, decide_eq_true_eq, Bool.or_eq_true] at h
  obtain ⟨⟨h1, h2⟩, h3⟩ := h
  have er : PySem.W.EachIs (fun v b => ∃ as, Reads s.heap v (id b) as) its xs := e.mono fun v b ⟨y, ry, rb⟩ => Rep.reads I rb ry
  refine PySem.W.sorted_data (enc := id) hl e er (fun d hd d' hd' => ?_) ?_ (by rw [la.length]; exact hz) (fun b hb => ?_) fun out ho hout => ?_
  · rw [List.map_id] at hd hd'
    exact like_of h1 d hd d' hd'
  · rw [List.map_id]
    rcases h3 with h3 | h3
    · refine .inl fun d hd => ?_
      have := List.all_eq_true.mp h3 d hd
      unfold tup1 at this
      split at this
      · exact ⟨_, _, rfl⟩
      · cases this
    · refine .inr fun d hd => ?_
      have := List.all_eq_true.mp h3 d hd
      exact ⟨(fun z => by subst z; cases this), (fun ws z => by subst z; cases this)⟩
  · have := mem_depth hb
    show X.A.units + 2 + b.depth < cLine
    omega
  · obtain ⟨zs, rz, lz⟩ := rep_each hout
    obtain ⟨ep, he'⟩ := PyProof.Rows.sortedAll_at s.heap its out.toArray
    have hlen : zs.length ≤ sizeLine := by
      rw [rz.length, ho, la.length]; exact hz
    have hn : H (s.heap.objs.size + 1) = none := I.hok.fresh (Nat.le_succ _)
    exact ⟨.ref _, upd H (s.heap.objs.size + 1) (.lst zs), I.laid (t' := s.toks) (fun _ _ => PyProof.Rows.sortedAll_old) (Nat.le_succ _) ⟨hlen, out, ep, rz, he'⟩, rfl, q _ _ (ext0_upd hn) (res_newLst hd hn lz (by unfold sortD; rw [lz.length]; exact hlen))⟩
def biId : BI → Value
  | .len => .builtin "len" | .tuple => .type "tuple" | .list => .type "list" | .all => .builtin "all" | .any => .builtin "any" | .sum => .builtin "sum" | .min => .builtin "min"
  | .max => .builtin "max" | .sorted => .builtin "sorted" | .int => .type "int" | .abs => .builtin "abs" | .isa _ => .builtin "isinstance" | .str => .type "str" | .dict => .type "dict" | .sset => .builtin "sorted" | .lset => .builtin "len" | .lrng => .type "list"
theorem sum_rawT {prog : Program} {w : World} {A : Around} {E : Value → Shared → Prop} {s : Shared} {l : Addr} {its : List Value} {ns : List Int} {Q : Value → Shared → Prop} (hh : A.handled = none) (hl : s.heap.IsTuple l its.toArray) (hi : IntsAre its ns)
    (h : ∀ h' tk t', (∀ b o, s.heap.get? b = some o → h'.get? b = some o) → Q (.int ns.sum t') { s with heap := h', toks := tk }) : wpAny (model prog w) A (call (.builtin "sum") [.ref l]) Q E s := by
  obtain ⟨xs, e⟩ := hi.allInts.items
  have hn : numsOf (intItems xs).toList = ns := by rw [← e]; exact hi.numsOf
  rw [nums_intItems] at hn
  rw [e] at hl
  refine PySem.W.ktm_sumG hh hl fun h' tk t' hk => ?_
  have := h h' tk t' hk
  rw [preSum_eq, List.take_of_length_le (by simp), hn]; exact this
theorem op_biD (hc : X.calm = true) (hh : X.A.handled = none) (hu : X.A.units + 64 < cLine) (f : BI) (hf : ∀ t, f ≠ .isa t) (hi : inB f = none) : CallR X (biId f) (rDn X.K (biD f) (frs (.bi f .nil))) := by
  intro pins s σ H xs us Q I r ⟨O, ds, d, hd, ra, e, q⟩
  unfold biD at e
  split at e
  · -- len
    obtain ⟨x, rfl, ra1⟩ := ra.one
    unfold lenD at e
    split at e
    · cases e
      obtain ⟨p, xs, rfl, hp, la⟩ := ra1.lst
      exact call_len pins s σ H _ us Q I r ⟨_, _, rfl, .inl ⟨xs, SqL.of hp, rfl⟩, q _ _ (Ext0.refl H) (.flat (by rw [la.length]; rfl) rfl)⟩
    · cases e
      obtain ⟨p, xs, rfl, hp, la⟩ := ra1.tup
      exact call_len pins s σ H _ us Q I r ⟨_, _, rfl, .inr ⟨xs, hp, rfl⟩, q _ _ (Ext0.refl H) (.flat (by rw [la.length]; rfl) rfl)⟩
    · cases e
      obtain ⟨rfl, hz⟩ := ra1.txt
      exact call_len pins s σ H _ us Q I r ⟨_, _, rfl, ⟨hz, rfl⟩, q _ _ (Ext0.refl H) (.flat rfl rfl)⟩
    · cases e
  · cases e
    obtain ⟨x, rfl, ra1⟩ := ra.one
    obtain ⟨p, xs, rfl, hp, la⟩ := ra1.lst
    exact call_tuple_of pins s σ H _ us Q I r ⟨p, xs, rfl, .inl ⟨SqL.of hp, fun w hw => q _ _ (ext0_upd hw) (res_newTup hw la ra1.1)⟩⟩
  · cases e
    obtain ⟨x, rfl, ra1⟩ := ra.one
    obtain ⟨p, xs, rfl, hp, la⟩ := ra1.tup
    exact call_tuple_of pins s σ H _ us Q I r ⟨p, xs, rfl, .inr ⟨hp, q _ _ (Ext0.refl H) (.flat ⟨ra1.1, p, xs, rfl, hp, la⟩ rfl)⟩⟩
  · cases e
    obtain ⟨x, rfl, ra1⟩ := ra.one
    obtain ⟨p, xs, rfl, hp, la⟩ := ra1.lst
    exact call_list_of pins s σ H _ us Q I r ⟨p, xs, rfl, .inl (SqL.of hp), fun w hw => q _ _ (ext0_upd hw) (res_newLst hd hw la ra1.1)⟩
  · cases e
    obtain ⟨x, rfl, ra1⟩ := ra.one
    obtain ⟨p, xs, rfl, hp, la⟩ := ra1.tup
    exact call_list_of pins s σ H _ us Q I r ⟨p, xs, rfl, .inr hp, fun w hw => q _ _ (ext0_upd hw) (res_newLst hd hw la ra1.1)⟩
  · obtain ⟨x, rfl, ra1⟩ := ra.one
    obtain ⟨p, ys, rfl, hp, la⟩ := ra1.lst
    obtain ⟨bs, eb, ed⟩ := Option.map_eq_some_iff.mp e
    obtain ⟨h1, h2, h3, h4⟩ := bools_plain eb
    obtain ⟨its, as, rv, hl, rs, hz⟩ := reads_list I hp la
    obtain ⟨u, rfl, ru⟩ := vals1 r
    cases ru
    exact PySem.W.all_list_data hh hl (by simpa using rs) h1 h2 fun h' tk hk => ⟨.bl _, H, I.kept hk, rfl, q _ _ (Ext0.refl H) (.flat (by rw [← ed, h3]; rfl) (by rw [← ed]; rfl))⟩
  · obtain ⟨x, rfl, ra1⟩ := ra.one
    obtain ⟨p, ys, rfl, hp, la⟩ := ra1.lst
    obtain ⟨bs, eb, ed⟩ := Option.map_eq_some_iff.mp e
    obtain ⟨h1, h2, h3, h4⟩ := bools_plain eb
    obtain ⟨its, as, rv, hl, rs, hz⟩ := reads_list I hp la
    obtain ⟨u, rfl, ru⟩ := vals1 r
    cases ru
    exact PySem.W.any_list_data hh hl (by simpa using rs) h1 h2 fun h' tk hk => ⟨.bl _, H, I.kept hk, rfl, q _ _ (Ext0.refl H) (.flat (by rw [← ed, h4]; rfl) (by rw [← ed]; rfl))⟩
  · obtain ⟨x, rfl, ra1⟩ := ra.one
    obtain ⟨p, ys, rfl, hp, la⟩ := ra1.lst
    obtain ⟨bs, eb, ed⟩ := Option.map_eq_some_iff.mp e
    have ey := RepL.ints eb la
    subst ey
    exact cr_sum hc pins s σ H _ us Q I r ⟨p, bs, rfl, SqL.of hp, q _ _ (Ext0.refl H) (.flat (by rw [← ed]; rfl) (by rw [← ed]; rfl))⟩
  · obtain ⟨x, rfl, ra1⟩ := ra.one
    obtain ⟨p, ys, rfl, hp, la⟩ := ra1.tup
    obtain ⟨bs, eb, ed⟩ := Option.map_eq_some_iff.mp e
    have ey := RepL.ints eb la
    subst ey
    obtain ⟨its, rv, hl, _⟩ := I.tuple hp
    rw [Vals.ref1 r]
    exact sum_rawT (I.ok.hd hc) (show s.heap.IsTuple p its.toArray from hl) rv.ints fun h' tk t' hk => ⟨.int _, H, I.kept hk, ⟨_, rfl⟩, q _ _ (Ext0.refl H) (.flat (by rw [← ed]; rfl) (by rw [← ed]; rfl))⟩
  · obtain ⟨x, y, rfl, ra1, rb1⟩ := ra.two
    obtain rfl := ra1.num
    obtain rfl := rb1.num
    cases e
    exact call_min2 hc pins s σ H _ us Q I r ⟨_, _, rfl, q _ _ (Ext0.refl H) (.flat rfl rfl)⟩
  · obtain ⟨x, y, rfl, ra1, rb1⟩ := ra.two
    obtain rfl := ra1.num
    obtain rfl := rb1.num
    cases e
    exact call_max2 hc pins s σ H _ us Q I r ⟨_, _, rfl, q _ _ (Ext0.refl H) (.flat rfl rfl)⟩
  · split at e
    · rename_i hm
      cases e
      obtain ⟨x, rfl, ra1⟩ := ra.one
      obtain ⟨p, ys, rfl, hp, la⟩ := ra1.lst
      obtain ⟨u, rfl, ru⟩ := vals1 r
      cases ru
      exact cr_min_D hh hu I (ds := []) hp la hm fun v rv => q _ _ (Ext0.refl H) (.old rv)
    · cases e
  · split at e
    · rename_i hm
      cases e
      obtain ⟨x, rfl, ra1⟩ := ra.one
      obtain ⟨p, ys, rfl, hp, la⟩ := ra1.lst
      obtain ⟨u, rfl, ru⟩ := vals1 r
      cases ru
      exact cr_max_D hh hu I (ds := []) hp la hm fun v rv => q _ _ (Ext0.refl H) (.old rv)
    · cases e
  · split at e
    · rename_i hm
      cases e
      obtain ⟨x, rfl, ra1⟩ := ra.one
      obtain ⟨p, ys, rfl, hp, la⟩ := ra1.tup
      obtain ⟨u, rfl, ru⟩ := vals1 r
      cases ru
      exact cr_min_DT hh hu I (ds := []) hp la hm fun v rv => q _ _ (Ext0.refl H) (.old rv)
    · cases e
  · split at e
    · rename_i hm
      cases e
      obtain ⟨x, rfl, ra1⟩ := ra.one
      obtain ⟨p, ys, rfl, hp, la⟩ := ra1.tup
      obtain ⟨u, rfl, ru⟩ := vals1 r
      cases ru
      exact cr_max_DT hh hu I (ds := []) hp la hm fun v rv => q _ _ (Ext0.refl H) (.old rv)
    · cases e
  · split at e
    · rename_i hm
      cases e
      obtain ⟨x, rfl, ra1⟩ := ra.one
      obtain ⟨p, ys, rfl, hp, la⟩ := ra1.lst
      obtain ⟨u, rfl, ru⟩ := vals1 r
      cases ru
      exact cr_sort_D hu I hd hp la hm q
    · cases e
  · cases e
    obtain ⟨x, rfl, ra1⟩ := ra.one
    obtain rfl := ra1.num
    exact call_int1 pins s σ H _ us Q I r (.inl ⟨_, rfl, q _ _ (Ext0.refl H) (.flat rfl rfl)⟩)
  · cases e
    obtain ⟨x, rfl, ra1⟩ := ra.one
    obtain rfl := ra1.num
    exact call_abs pins s σ H _ us Q I r ⟨_, rfl, q _ _ (Ext0.refl H) (.flat rfl rfl)⟩
  · exact absurd rfl (hf _)
  · cases e
    obtain ⟨x, rfl, ra1⟩ := ra.one
    obtain ⟨rfl, hz⟩ := ra1.txt
    exact SkE.call_str_str pins s σ H _ us Q I r ⟨_, rfl, q _ _ (Ext0.refl H) (.flat ⟨rfl, hz⟩ rfl)⟩
  · cases hi
  · cases hi
  · cases hi
  · cases hi
  · cases hi
  · cases e
def tyName : Ty → String
  | .int => "int" | .bool => "bool" | .str => "str" | .tuple => "tuple" | .list => "list"
/-- isinstance(x, T) -/
def rIsa (K : PySem.W.Frag) (t : Ty) : List V → Hp → VK → Prop := fun xs H Q => ∃ O a x, ODom O H ∧ xs = [x, .ty (tyName t)] ∧ RepT K O H a x ∧
  ∀ v H', Ext0 H H' → ResF false K O H H' (.bool (isaD t a)) v → Q v H'
theorem op_isa (t : Ty) : CallR X (.builtin "isinstance") (rIsa X.K t) := by
  intro pins s σ H xs us Q I r ⟨O, a, x, hd, ex, ra, q⟩
  subst ex
  obtain ⟨u, w', rfl, ru, rw'⟩ := vals2 r
  cases rw'
  obtain ⟨as, rr⟩ := RepT.reads I ra ru
  have fin : ∀ (b : Bool) (tk : Nat), b = isaD t a → EP X pins σ Q (.bool b) { s with toks := tk } := fun b tk z => ⟨.bl b, H, I.tok _, rfl, q _ _ (Ext0.refl H) (.flat (by rw [z]; rfl) rfl)⟩
  cases t with
  | int => exact PySem.W.isinstance_int_data rr fun tk _ => fin _ tk (by cases a <;> rfl)
  | bool => exact PySem.W.isinstance_bool_data rr fun tk _ => fin _ tk (by cases a <;> rfl)
  | str => exact PySem.W.isinstance_str_data rr fun tk _ => fin _ tk (by cases a <;> rfl)
  | tuple => exact PySem.W.isinstance_tuple_data rr fun tk _ => fin _ tk (by cases a <;> rfl)
  | list => exact PySem.W.isinstance_list_data rr fun tk _ => fin _ tk (by cases a <;> rfl)
/-- the methods of built-in types, by data -/
def rMt (K : PySem.W.Frag) (m : MI) : V → List V → Hp → VK → Prop := fun x xs H Q => ∃ O a ds d, ODom O H ∧ RepT K O H a x ∧ RepTL K O H ds xs ∧ mthD m a ds = some d ∧
  ∀ v H', Ext0 H H' → ResF false K O H H' d v → Q v H'
theorem mt_joinD : MtR X "str.join" (rMt X.K .join) := by
  intro pins s σ H x xs v us Q I rx rs ⟨O, a, ds, d, hd, ra, rl, e, q⟩
  unfold mthD at e
  split at e
  · obtain ⟨rfl, hz⟩ := ra.txt
    obtain ⟨y, rfl, ry⟩ := rl.one
    obtain ⟨p, ys, rfl, hp, la⟩ := ry.lst
    obtain ⟨ts, et, e⟩ := Option.bind_eq_some_iff.mp e
    split at e
    · rename_i hl
      cases e
      have ey := RepL.strs et la
      subst ey
      refine mt_join pins s σ H _ _ v us Q I rx rs ⟨_, p, ts, rfl, rfl, .inl (SqL.of hp), hl, ?_⟩
      rw [joinS_eq]
      exact q _ _ (Ext0.refl H) (.flat ⟨rfl, Nat.le_trans (joinS_len _ _) (by rw [sizeLine_eq]; exact hl)⟩ rfl)
    · cases e
  · obtain ⟨rfl, hz⟩ := ra.txt
    obtain ⟨y, rfl, ry⟩ := rl.one
    obtain ⟨p, ys, rfl, hp, la⟩ := ry.tup
    obtain ⟨ts, et, e⟩ := Option.bind_eq_some_iff.mp e
    split at e
    · rename_i hl
      cases e
      have ey := RepL.strs et la
      subst ey
      refine mt_join pins s σ H _ _ v us Q I rx rs ⟨_, p, ts, rfl, rfl, .inr hp, hl, ?_⟩
      rw [joinS_eq]
      exact q _ _ (Ext0.refl H) (.flat ⟨rfl, Nat.le_trans (joinS_len _ _) (by rw [sizeLine_eq]; exact hl)⟩ rfl)
    · cases e
  · rename_i h; cases h
  · rename_i h; cases h
  · cases e
theorem mt_countD : MtR X "str.count" (rMt X.K .count) := by
  intro pins s σ H x xs v us Q I rx rs ⟨O, a, ds, d, hd, ra, rl, e, q⟩
  unfold mthD at e
  split at e
  · rename_i h; cases h
  · rename_i h; cases h
  · cases e
    obtain ⟨rfl, hz⟩ := ra.txt
    obtain ⟨y, rfl, ry⟩ := rl.one
    obtain ⟨rfl, _⟩ := ry.txt
    exact mt_count pins s σ H _ _ v us Q I rx rs ⟨_, _, rfl, rfl, q _ _ (Ext0.refl H) (.flat rfl rfl)⟩
  · rename_i h; cases h
  · cases e
theorem mt_lcountD (hu : X.A.units + 64 < cLine) : MtR X "list.count" (rMt X.K .lcount) := by
  intro pins s σ H x xs v us Q I rx rs ⟨O, a, ds, d, hd, ra, rl, e, q⟩
  unfold mthD at e
  split at e
  · rename_i h; cases h
  · rename_i h; cases h
  · rename_i h; cases h
  · split at e
    · rename_i hm
      cases e
      simp only [Bool.and_eq_true, decide_eq_true_eq] at hm
      obtain ⟨⟨h1, h2⟩, h3⟩ := hm
      obtain ⟨y, rfl, ry⟩ := rl.one
      obtain ⟨p, ys, rfl, hp, la⟩ := ra.lst
      obtain ⟨its, as, rv, hl, rr, hz⟩ := reads_list I hp la
      obtain ⟨u, rfl, ru⟩ := vals1 rs
      cases rx
      obtain ⟨bs, rb⟩ := RepT.reads I ry ru
      exact PySem.SeqAt.count_list_data hl (by simpa using rr) rb h1 h2 (by omega) ⟨.int _, H, I.tok _, ⟨_, rfl⟩, q _ _ (Ext0.refl H) (.flat rfl rfl)⟩
    · cases e
  · cases e
end
end OR

/-! x[::-1] -/
namespace OR
open PySem PySem.Spec PyProof.Rows L2 TL
theorem rev_idx (n : Nat) : (List.range n).map (fun k => n - 1 - k) = (List.range n).reverse := PySem.W.krv_range n
theorem places_rev (n : Nat) : Builtin.Slice.slicePlaces ((n : Int) - 1) (-1) (-1) = n := by
  unfold Builtin.Slice.slicePlaces
  have h1 : ¬ ((-1 : Int) > 0) := by decide
  rw [if_neg h1]
  by_cases h : (n : Int) - 1 > -1
  · rw [if_pos h]
    have e : ((n : Int) - 1 - -1 - 1) / (- -1) + 1 = (n : Int) := by
      rw [show (- -1 : Int) = 1 by decide, Int.ediv_one]
      omega
    rw [e]; exact Int.toNat_natCast n
  · rw [if_neg h]
    have : n = 0 := by omega
    subst this; rfl
theorem pick_rev (xs : Array Value) : ((List.range xs.size).filterMap fun (m : Nat) => xs[(((xs.size : Nat) : Int) - 1 + (m : Int) * (-1)).toNat]?).toArray = xs.toList.reverse.toArray := by
  have e : ((List.range xs.size).filterMap fun (m : Nat) => xs[(((xs.size : Nat) : Int) - 1 + (m : Int) * (-1)).toNat]?) = ((List.range xs.size).map fun k => xs.size - 1 - k).filterMap (xs[·]?) := by
    rw [List.filterMap_map]
    have gen : ∀ l : List Nat, (∀ m ∈ l, m < xs.size) → (l.filterMap fun (m : Nat) => xs[(((xs.size : Nat) : Int) - 1 + (m : Int) * (-1)).toNat]?) = l.filterMap ((fun x => xs[x]?) ∘ fun k => xs.size - 1 - k) := by
      intro l
      induction l with
      | nil => intro _; rfl
      | cons m r ih =>
        intro h
        have q : (((xs.size : Nat) : Int) - 1 + (m : Int) * (-1)).toNat = xs.size - 1 - m := by
          have := h m (List.mem_cons_self ..)
          omega
        rw [List.filterMap_cons, List.filterMap_cons, ih fun k hk => h k (List.mem_cons_of_mem _ hk), q]; rfl
    exact gen _ fun m hm => List.mem_range.mp hm
  rw [e, rev_idx, List.filterMap_reverse, PySem.W.krv_all]
section
variable {prog : Program} {w : World} {A : Around} {E : Value → Shared → Prop} {s : Shared}
theorem sliceApplied_rev {sl : Addr} {vl vu vs : Value} {n : Nat} {Q : Int × Int × Nat → Shared → Prop} (hs : s.heap.IsSliceOf sl vl vu vs) (pl : IsPart vl none) (pu : IsPart vu none) (ps : IsPart vs (some (-1)))
    (h : Q ((n : Int) - 1, -1, n) s) : wpAny (model prog w) A (Builtin.Slice.sliceApplied (.ref sl) (pure (n : Int))) Q E s := by
  obtain ⟨os, hos, hcs, hds⟩ := id hs
  unfold Builtin.Slice.sliceApplied Builtin.Slice.sliceFields
  refine wpAny_bind (wpAny_bind (wpAny_field hos hds (x := vl) rfl (wpAny_bind (wpAny_field hos hds (x := vu) rfl (wpAny_bind (wpAny_field hos hds (x := vs) rfl (wpAny_pure ?_)))))))
  refine wpAny_bind (HT.slicePart_ ps ?_)
  show wpAny _ _ (if ((-1 : Int) == 0) = true then _ else _) _ _ s
  rw [if_neg (by decide)]
  refine wpAny_bind (HT.slicePart_ pl (wpAny_bind (HT.slicePart_ pu (wpAny_bind (wpAny_pure ?_)))))
  show wpAny _ _ (pure ((n : Int) - 1, (-1 : Int), Builtin.Slice.slicePlaces ((n : Int) - 1) (-1) (-1))) _ _ s
  rw [places_rev]
  exact wpAny_pure h
theorem getItem_tuple_rev {t sl : Addr} {items : Array Value} {vl vu vs : Value} {Q : Value → Shared → Prop} (ht : IsTup s.heap t items) (hs : s.heap.IsSliceOf sl vl vu vs) (pl : IsPart vl none) (pu : IsPart vu none) (ps : IsPart vs (some (-1)))
    (h : Q (.ref s.heap.objs.size) { s with heap := s.heap.push { cls := .type "tuple", data := .seq items.toList.reverse.toArray } })
    (hsz : items.size ≤ sizeLine) : wpAny (model prog w) A (getItem (.ref t) (.ref sl)) Q E s := by
  have htake : sizeOk (.seq items.toList.reverse.toArray) := by
    show items.toList.reverse.toArray.size ≤ sizeLine
    rw [List.size_toArray, List.length_reverse, Array.length_toList]
    exact hsz
  obtain ⟨os, hos, hcs, hds⟩ := id hs
  have hTs : s.TypeIs (.ref sl) "slice" := ⟨os, hos, hcs⟩
  unfold getItem
  try with_reducible refine wpAny_holding ?_
  first | refine wpAny_bind (wpAny_pure ?_) | skip
  refine wpAny_bind (wpAny_sequenceKey ht.typeIs (by decide) ?_)
  refine wpAny_bind (wpAny_callSpecial?_slot (name := Str.ofString "__getitem__") ht.typeIs PyProof.Rows.slot_tuple_getitem
    (wpAny_call_entry PyProof.Rows.slot_tuple_getitem ht.typeIs entry_tuple_getitem ?_ (args_tuple_getitem _ _)))
  show wpAny _ _ (Builtin.Tuple.tupleItemsOf (.ref t) >>= _) _ _ s
  refine wpAny_bind (tupleItemsOf_ ht ?_)
  refine wpAny_bind (wpAny_typeOf hTs ?_)
  rw [if_pos (by decide)]
  refine wpAny_bind (sliceApplied_rev hs pl pu ps ?_)
  have hno : ¬ (((items.size : Int) - 1 == 0 && (-1 : Int) == 1 && items.size == items.size) = true) := by
    intro q
    rw [Bool.and_eq_true, Bool.and_eq_true] at q
    exact absurd q.1.2 (by decide)
  show wpAny _ _ (if ((items.size : Int) - 1 == 0 && (-1 : Int) == 1 && items.size == items.size) = true then _ else _) _ _ s
  rw [if_neg hno, pick_rev]
  first
    | exact wpAny_bind (m := Builtin.Tuple.tupleExact _) (wpAny_newObj_type (wpAny_pure ⟨_, rfl, wpAny_pure h⟩) htake)
    | exact wpAny_bind (m := Builtin.Tuple.tupleExact _) (wpAny_newObj_type (wpAny_bind (wpAny_pure (wpAny_pure ⟨_, rfl, wpAny_pure h⟩))) htake)
    | exact wpAny_bind (wpAny_bind (m := Builtin.Tuple.tupleExact _) (wpAny_newObj_type (wpAny_pure (wpAny_pure ⟨_, rfl, wpAny_pure h⟩)) htake))
    | exact wpAny_bind (wpAny_bind (m := Builtin.Tuple.tupleExact _) (wpAny_newObj_type (wpAny_pure ⟨_, rfl, wpAny_pure h⟩) htake))
end
theorem strRev (n : Nat) : Builtin.Str.strSliceIndices none none (-1) n = (List.range n).map fun k => n - 1 - k := by
  show sliceRange ((n : Int) - 1) (-1) (-1) = _
  exact PySem.W.krv_sliceRange n
section
variable {X : Cx}
/-- by data -/
def rRev (K : PySem.W.Frag) : V → Hp → VK → Prop := fun x H Q => ∃ O d d', ODom O H ∧ RepT K O H d x ∧ revD d = some d' ∧ ∀ v H', Ext0 H H' → Rep K O H' d' v → Q v H'
def tRev (K : PySem.W.Frag) (te : TE) : TE := fun σ H Q => te σ H fun x H1 => rRev K x H1 Q
theorem pe_rev {e : Expr} {te : TE} {k : Nat} {p1 p2 p3 pos : Pos} (he : PE X e te) : PE X (.Subscript e (.Slice none none (some (.UnaryOp .USub (.Constant (.int 1) k p1) p2)) p3) pos) (tRev X.K te) := by
  refine ⟨fun pins s σ H Q I h => ?_⟩
  refine Subscript_ (thn (he.run pins s σ H _ I h) fun v s1 ⟨x, H1, I1, r1, q1⟩ => ?_)
  have hst : PO X (some (.UnaryOp .USub (.Constant (.int 1) k p1) p2)) (tPart (tUn (rU fun i => .int (-i)) (tC (.int 1)))) := po_some (pe_un un_neg pe_int)
  refine wpAny_Slice (thn (po_none.run pins s1 σ H1 (fun o H2 => o = none ∧ H2 = H1) I1 ⟨rfl, rfl⟩) fun vl s2 ⟨l, H2, I2, pl, el, e2⟩ => ?_)
  subst el e2
  refine thn (po_none.run pins s2 σ H2 (fun o H3 => o = none ∧ H3 = H2) I2 ⟨rfl, rfl⟩) fun vu s3 ⟨u, H3, I3, pu, eu, e3⟩ => ?_
  subst eu e3
  refine thn (hst.run pins s3 σ H3 (fun o H4 => o = some (-1) ∧ H4 = H3) I3 ⟨1, rfl, -1, rfl, rfl, rfl⟩) fun vs s4 ⟨o, H4, I4, ps, eo, e4⟩ => ?_
  subst eo e4
  have I5 : Inv X pins σ H4 { s4 with heap := s4.heap.push { cls := .type "slice", data := .fields #[vl, vu, vs] } } := I4.kept (t' := s4.toks) fun b ob q => Heap.get?_push_of_some _ q
  show wpAny (model X.prog X.w) X.A (subscriptTail e (.Slice none none (some (.UnaryOp .USub (.Constant (.int 1) k p1) p2)) p3) v (.ref s4.heap.objs.size)) (EP X pins σ Q) X.xe { s4 with heap := s4.heap.push { cls := .type "slice", data := .fields #[vl, vu, vs] } }
  obtain ⟨O, d, d', hd, r, er, q⟩ := q1
  cases d with
  | list ds =>
    have er : d' = .list ds.reverse := (Option.some.inj er).symm
    subst er
    obtain ⟨hz0, a, xs, ex, hx0, rl⟩ := r
    subst ex
    have hx : SqL X.K H4 a xs := SqL.of hx0
    cases r1
    obtain ⟨its, r, ht, hz⟩ := I5.list hx
    have hlen := r.length
    refine tail_any (ops := [.ref a, .ref s4.heap.objs.size]) ht.isList.typeIs (PySem.slot_list_getitem.lookup) ?_ (by with_unfolding_all rfl)
    refine wpAny_getItem_list_slice ht.isList (Heap.IsSliceOf.new _ vl vu vs) pl pu ps (by decide) ?_ (by rw [List.size_toArray]; omega)
    rw [PySem.W.krv_pick]
    have fr := I5.hok.fresh (Nat.le_refl _)
    refine ⟨.ref _, _, I5.laid (t' := s4.toks) (o := .lst xs.reverse) (fun b ob q => Heap.get?_push_of_some _ q) (Nat.le_refl _) ?_, rfl, q _ _ (ext0_upd fr) (res_newLst (fr := true) hd fr rl.reverse (by rw [List.length_reverse]; exact hz0)).1⟩
    exact ⟨by rw [List.length_reverse]; exact hz, _, 0, r.reverse, Heap.get?_push_size _ rfl⟩
  | tuple ds =>
    have er : d' = .tuple ds.reverse := (Option.some.inj er).symm
    subst er
    obtain ⟨hz0, a, xs, ex, hx, rl⟩ := r
    subst ex
    cases r1
    obtain ⟨its, r, ht, hz⟩ := I5.tuple hx
    have hlen := r.length
    refine tail_any (ops := [.ref a, .ref s4.heap.objs.size]) ht.typeIs (PyProof.Rows.slot_tuple_getitem.lookup) ?_ (by with_unfolding_all rfl)
    refine getItem_tuple_rev ht (Heap.IsSliceOf.new _ vl vu vs) pl pu ps ?_ (by rw [List.size_toArray]; omega)
    have fr := I5.hok.fresh (Nat.le_refl _)
    refine ⟨.ref _, _, I5.laid (t' := s4.toks) (o := .tup xs.reverse) (fun b ob q => Heap.get?_push_of_some _ q) (Nat.le_refl _) ?_, rfl, q _ _ (ext0_upd fr) (res_newTup (fr := true) fr rl.reverse (by rw [List.length_reverse]; exact hz0)).1⟩
    exact ⟨by rw [List.length_reverse]; exact hz, _, r.reverse, IsTup.new _ _⟩
  | str z =>
    have er : d' = .str ⟨z.cps.toList.reverse.toArray⟩ := (Option.some.inj er).symm
    subst er
    obtain ⟨ex, hz⟩ := r
    subst ex
    obtain ⟨t, rfl⟩ := r1
    obtain ⟨os, hos, hcs, hds⟩ := Heap.IsSliceOf.new s4.heap vl vu vs
    obtain ⟨l, rfl, el⟩ := IsPart.raw pl
    obtain ⟨u, rfl, eu⟩ := IsPart.raw pu
    obtain ⟨w, rfl, ew⟩ := IsPart.raw ps
    refine tail_any (ops := [.str z t, .ref s4.heap.objs.size]) (typeIs_str _ _ _) F.slot_str_getitem.lookup ?_ (by with_unfolding_all rfl)
    refine wpAny_getItem_str_slice (l := l) (u := u) (st := w) ⟨os, hos, hcs, hds⟩ (by rw [ew]; rfl) ?_
    unfold sliceMade slicePicked
    rw [el, eu, ew]
    show Made.post (if ((-1 : Int) == 1 && (Builtin.Str.strSliceIndices none none (-1) z.length).length == z.length) = true then Made.val (.str z t)
      else Made.str ⟨((Builtin.Str.strSliceIndices none none (-1) z.length).filterMap (z.cps[·]?)).toArray⟩) (EP X pins σ Q) _
    rw [if_neg (by simp), strRev, rev_idx, List.filterMap_reverse, show z.length = z.cps.size from rfl, PySem.W.krv_all]
    have hl : (⟨z.cps.toList.reverse.toArray⟩ : Str).length ≤ sizeLine := by
      show z.cps.toList.reverse.toArray.size ≤ _
      rw [List.size_toArray, List.length_reverse, Array.length_toList]
      exact hz
    exact ⟨hl, .str _, _, I5.tok _, ⟨_, rfl⟩, q _ _ (Ext0.refl _) ⟨rfl, hl⟩⟩
  | _ => cases er
end
end OR

/-! readings: what a meaning asks of the state -/
namespace OR
open PySem PySem.Spec PyProof.Rows L2

def wpM {α : Type} (r : R α) (P : α → Cu → Prop) (E : Nat → Cu → Prop) : Prop := match r with
  | .ok a c => P a c
  | .ex x c => E x c
  | .no => False
theorem wpM_mono {α : Type} {r : R α} {P P' : α → Cu → Prop} {E E' : Nat → Cu → Prop} (h : wpM r P E) (hp : ∀ a c, P a c → P' a c) (he : ∀ x c, E x c → E' x c) : wpM r P' E' := by
  cases r with
  | ok a c => exact hp a c h
  | ex x c => exact he x c h
  | no => exact h
theorem wpM_bnd {α β : Type} {m : M α} {f : α → M β} {c : Cu} {P : β → Cu → Prop} {E : Nat → Cu → Prop} (h : wpM (bnd m f c) P E) : wpM (m c) (fun a c' => wpM (f a c') P E) E := by
  unfold bnd at h
  cases q : m c with
  | ok a c' => rw [q] at h; exact h
  | ex x c' => rw [q] at h; exact h
  | no => rw [q] at h; exact h
theorem wpM_lft {α : Type} {o : Option α} {c : Cu} {P : α → Cu → Prop} {E : Nat → Cu → Prop} (h : wpM (lft o c) P E) : ∃ a, o = some a ∧ P a c := by
  cases o with
  | none => exact False.elim h
  | some a => exact ⟨a, rfl, h⟩
theorem wpM_tru {d : D} {c : Cu} {P : Bool → Cu → Prop} {E : Nat → Cu → Prop} (h : wpM (tru d c) P E) : ∃ b, d = .bool b ∧ P b c := by
  cases d with
  | bool b => exact ⟨b, rfl, h⟩
  | _ => exact False.elim h
theorem wpM_nox {α : Type} {m : M α} {c : Cu} {P : α → Cu → Prop} {E : Nat → Cu → Prop} (h : wpM (nox m c) P E) : wpM (m c) P fun _ _ => False := by
  unfold nox at h
  cases q : m c with
  | ok a c' => rw [q] at h; exact h
  | ex x c' => rw [q] at h; exact False.elim h
  | no => rw [q] at h; exact False.elim h

/-- the cup lies at ac, with its two ints -/
def CuOk (ac : Option Addr) (H : Hp) (cu : Cu) : Prop := match ac, cu with
  | none, none => True
  | some a, some (i, j) => H a = some (.lst [.int i, .int j])
  | _, _ => False
/-- all but the cup stands -/
def Ext1 (ac : Option Addr) (H H' : Hp) : Prop := ∀ b x, some b ≠ ac → H b = some x → H' b = some x
theorem Ext1.refl {ac : Option Addr} (H : Hp) : Ext1 ac H H := fun _ _ _ h => h
theorem Ext1.trans {ac : Option Addr} {H1 H2 H3 : Hp} (h : Ext1 ac H1 H2) (g : Ext1 ac H2 H3) : Ext1 ac H1 H3 := fun b x n e => g b x n (h b x n e)
theorem Ext0.e1 {ac : Option Addr} {H H' : Hp} (h : Ext0 H H') : Ext1 ac H H' := fun b x _ e => h b x e
theorem CuOk.e0 {ac : Option Addr} {H H' : Hp} {cu : Cu} (h : CuOk ac H cu) (e : Ext0 H H') : CuOk ac H' cu := by
  unfold CuOk at h ⊢
  split at h
  · trivial
  · exact e _ _ h
  · exact h.elim
theorem CuOk.at {a : Addr} {H : Hp} {cu : Cu} (h : CuOk (some a) H cu) : ∃ i j, cu = some (i, j) ∧ H a = some (.lst [.int i, .int j]) := by
  cases cu with
  | none => exact False.elim h
  | some p => obtain ⟨i, j⟩ := p; exact ⟨i, j, rfl, h⟩
theorem Ext1.there {ac : Option Addr} {H H' : Hp} {cu : Cu} (e : Ext1 ac H H') (c : CuOk ac H' cu) {p : Addr} (h : H' p = none) : H p = none := by
  cases q : H p with
  | none => rfl
  | some x =>
    by_cases hp : some p = ac
    · subst hp
      obtain ⟨i, j, _, e2⟩ := c.at
      rw [h] at e2; cases e2
    · rw [e p x hp q] at h; cases h

structure Pm where
  ac : Option Addr
  W : WX
  cls : Nat → Value

/-- values that hold no address -/
def FlD : D → Prop
  | .none => True
  | .bool _ => True
  | .int _ => True
  | .str s => s.length ≤ sizeLine
  | _ => False
def toV : D → V
  | .bool b => .bl b
  | .int i => .int i
  | .str s => .str s
  | _ => .non
def FlK : Sum Int Str → Prop
  | .inl _ => True
  | .inr s => s.length ≤ sizeLine
/-- how a range or a dict lies in the heap -/
def ObR (H : Hp) : Ob → Addr → Prop
  | .rng lo hi, a => H a = some (.rng lo hi)
  | .dic kvs, a => kvs.length ≤ sizeLine ∧ (∀ p ∈ kvs, FlK p.1 ∧ FlD p.2) ∧ H a = some (.dK (kvs.map fun p => (p.1, toV p.2)))
theorem ObR.e {H H' : Hp} {o : Ob} {a : Addr} (h : ObR H o a) (e : ∀ x, H a = some x → H' a = some x) : ObR H' o a := by
  cases o with
  | rng lo hi => exact e _ h
  | dic kvs => exact ⟨h.1, h.2.1, e _ h.2.2⟩
theorem ObR.there {H : Hp} {o : Ob} {a : Addr} (h : ObR H o a) (e : H a = none) : False := by
  cases o with
  | rng lo hi => rw [show H a = some _ from h] at e; cases e
  | dic kvs => rw [h.2.2] at e; cases e
structure EOk (K : PySem.W.Frag) (O : Addr → Prop) (ac : Option Addr) (L : List Nat) (H : Hp) (δ : Env) (σ : L2.St) : Prop where
  len : δ.length = σ.length
  dom : ODom O H
  aco : ∀ a, ac = some a → O a
  val : ∀ (i : Nat) (d : D), δ[i]? = some (Slot.val d) → ∃ v, σ[i]? = some (some v) ∧ Rep K O H d v
  own : ∀ (i : Nat) (d : D), δ[i]? = some (Slot.own d) → ∃ v, σ[i]? = some (some v) ∧ RepT K O H d v ∧ (∀ ds, d = .list ds → ∀ a, v = .ref a → some a ≠ ac) ∧ (i ∈ L → Rep K O H d v)
  cup : ∀ i : Nat, δ[i]? = some Slot.cup → ∃ a, ac = some a ∧ σ[i]? = some (some (.ref a))
  scr : ∀ (i : Nat) (is : List Int), δ[i]? = some (Slot.scr is) → ∃ a, σ[i]? = some (some (.ref a)) ∧ some a ≠ ac ∧ SqL K H a (is.map V.int)
  obj : ∀ (i : Nat) (o : Ob), δ[i]? = some (Slot.obj o) → ∃ a, σ[i]? = some (some (.ref a)) ∧ some a ≠ ac ∧ ObR H o a
theorem EOk.sub {K : PySem.W.Frag} {O : Addr → Prop} {ac : Option Addr} {L L' : List Nat} {H : Hp} {δ : Env} {σ : L2.St} (h : EOk K O ac L H δ σ) (hs : ∀ i ∈ L', i ∈ L) : EOk K O ac L' H δ σ :=
  ⟨h.len, h.dom, h.aco, h.val, fun i d e => let ⟨v, a, b, c, f⟩ := h.own i d e; ⟨v, a, b, c, fun z => f (hs i z)⟩, h.cup, h.scr, h.obj⟩
theorem odom_step {O : Addr → Prop} {ac : Option Addr} {H H' : Hp} {cu : Cu} (h : ODom O H) (e : Ext1 ac H H') (c : CuOk ac H' cu) : ODom O H' := fun b hb => by
  obtain ⟨xs, q, m⟩ := h b hb
  by_cases hp : some b = ac
  · subst hp
    obtain ⟨i, j, _, e2⟩ := c.at
    exact ⟨_, e2, trivial⟩
  · exact ⟨xs, e b _ hp q, m⟩
theorem Ext1.ext {O : Addr → Prop} {ac : Option Addr} {H H' : Hp} (e : Ext1 ac H H') (ho : ∀ a, ac = some a → O a) : Ext O H H' := fun b x nb q => e b x (fun z => nb (ho b z.symm)) q
theorem sqL_e1 {K : PySem.W.Frag} {ac : Option Addr} {H H' : Hp} {a : Addr} {xs : List V} (e : Ext1 ac H H') (na : some a ≠ ac) (h : SqL K H a xs) : SqL K H' a xs := by
  rcases h with (h | ⟨o, h⟩) | h
  · exact .inl (.inl (e _ _ na h))
  · exact .inl (.inr ⟨o, e _ _ na h⟩)
  · exact .inr h
theorem EOk.step {K : PySem.W.Frag} {O : Addr → Prop} {ac : Option Addr} {L : List Nat} {H H' : Hp} {δ : Env} {σ : L2.St} {cu : Cu} (h : EOk K O ac L H δ σ) (e : Ext1 ac H H') (c : CuOk ac H' cu) : EOk K O ac L H' δ σ := by
  have ex := e.ext h.aco
  refine ⟨h.len, odom_step h.dom e c, h.aco, fun i d q => ?_, fun i d q => ?_, h.cup, fun i is q => ?_, fun i o q => ?_⟩
  · obtain ⟨v, a, b⟩ := h.val i d q
    exact ⟨v, a, b.ext h.dom ex⟩
  · obtain ⟨v, a, b, c2, f⟩ := h.own i d q
    refine ⟨v, a, ?_, c2, fun z => (f z).ext h.dom ex⟩
    cases d with
    | list ds => exact b.ext h.dom ex fun a' xs e1 e2 => e _ _ (c2 ds rfl a' e1) e2
    | none => exact b
    | bool _ => exact b
    | int _ => exact b
    | str _ => exact b
    | tuple ds => exact Rep.ext (d := .tuple ds) h.dom ex b
    | dict _ => exact b
  · obtain ⟨a, b, na, f⟩ := h.scr i is q
    exact ⟨a, b, na, sqL_e1 e na f⟩
  · obtain ⟨a, b, na, f⟩ := h.obj i o q
    exact ⟨a, b, na, f.e fun x z => e _ _ na z⟩

def Res (tp fr : Bool) (K : PySem.W.Frag) (O : Addr → Prop) (ac : Option Addr) (H H' : Hp) (d : D) (v : V) : Prop :=
  (if tp = true then RepT K O H' d v ∧ (∀ ds, d = .list ds → ∀ a, v = .ref a → some a ≠ ac) else Rep K O H' d v) ∧ (fr = true → isMut d = true → FreshR K O H H' d v)
theorem Rep.notac {K : PySem.W.Frag} {O : Addr → Prop} {ac : Option Addr} {H : Hp} {d : D} {v : V} (ho : ∀ a, ac = some a → O a) (h : Rep K O H d v) : ∀ ds, d = .list ds → ∀ a, v = .ref a → some a ≠ ac := fun ds e a ev z => by
  subst e
  obtain ⟨_, a', xs, e1, na, _⟩ := h
  rw [ev] at e1; cases e1
  exact na (ho _ z.symm)
theorem Res.of {tp fr : Bool} {K : PySem.W.Frag} {O : Addr → Prop} {ac : Option Addr} {H H' : Hp} {d : D} {v : V} (ho : ∀ a, ac = some a → O a) (h : Rep K O H' d v) (hf : fr = true → isMut d = true → FreshR K O H H' d v) : Res tp fr K O ac H H' d v := by
  refine ⟨?_, hf⟩
  split
  · exact ⟨h.t, h.notac ho⟩
  · exact h
theorem Res.t {tp fr : Bool} {K : PySem.W.Frag} {O : Addr → Prop} {ac : Option Addr} {H H' : Hp} {d : D} {v : V} (h : Res tp fr K O ac H H' d v) : RepT K O H' d v := by
  obtain ⟨h, _⟩ := h
  split at h
  · exact h.1
  · exact h.t
theorem Res.r {fr : Bool} {K : PySem.W.Frag} {O : Addr → Prop} {ac : Option Addr} {H H' : Hp} {d : D} {v : V} (h : Res false fr K O ac H H' d v) : Rep K O H' d v := h.1
theorem Res.na {tp fr : Bool} {K : PySem.W.Frag} {O : Addr → Prop} {ac : Option Addr} {H H' : Hp} {d : D} {v : V} (ho : ∀ a, ac = some a → O a) (h : Res tp fr K O ac H H' d v) : ∀ ds, d = .list ds → ∀ a, v = .ref a → some a ≠ ac := by
  obtain ⟨h, _⟩ := h
  split at h
  · exact h.2
  · exact h.notac ho
theorem Res.up {tp fr : Bool} {K : PySem.W.Frag} {O : Addr → Prop} {ac : Option Addr} {H H' : Hp} {d : D} {v : V} (ho : ∀ a, ac = some a → O a) (h : Res false fr K O ac H H' d v) : Res tp fr K O ac H H' d v := .of ho h.1 h.2
/-- the end of an operation, seen from where the expression began -/
theorem Res.fin {tp fr : Bool} {K : PySem.W.Frag} {O : Addr → Prop} {ac : Option Addr} {H H2 H' : Hp} {cu : Cu} {d : D} {v : V} (ho : ∀ a, ac = some a → O a) (e : Ext1 ac H H2) (c : CuOk ac H2 cu) (h : ResF fr K O H2 H' d v) : Res tp fr K O ac H H' d v := by
  refine .of ho h.1 fun a b => ?_
  obtain ⟨p, ds, xs, e1, e2, e3, e4, e5⟩ := h.2 a b
  exact ⟨p, ds, xs, e1, e2, e.there c e3, e4, e5⟩
theorem RepT.step {K : PySem.W.Frag} {O : Addr → Prop} {ac : Option Addr} {H H' : Hp} {d : D} {v : V} (hd : ODom O H) (ho : ∀ a, ac = some a → O a) (e : Ext1 ac H H') (h : RepT K O H d v) (na : ∀ ds, d = .list ds → ∀ a, v = .ref a → some a ≠ ac) : RepT K O H' d v := by
  have ex := e.ext ho
  cases d with
  | list ds => exact h.ext hd ex fun a' xs e1 e2 => e _ _ (na ds rfl a' e1) e2
  | none => exact h
  | bool _ => exact h
  | int _ => exact h
  | str _ => exact h
  | tuple ds => exact Rep.ext (d := .tuple ds) hd ex h
  | dict _ => exact h

/-- an expression's reading -/
def rdE (K : PySem.W.Frag) (P : Pm) (tp fr : Bool) (L : List Nat) (m : Env → M D) : TE := fun σ H Q => ∃ O δ cu, EOk K O P.ac L H δ σ ∧ CuOk P.ac H cu ∧
  wpM (m δ cu) (fun d cu' => ∀ v H', Ext1 P.ac H H' → CuOk P.ac H' cu' → Res tp fr K O P.ac H H' d v → Q v H')
    (fun x cu' => ∀ H', Ext1 P.ac H H' → CuOk P.ac H' cu' → P.W (P.cls x) none σ H')
/-- a list of expressions -/
def ResL (tp : Bool) (K : PySem.W.Frag) (O : Addr → Prop) (H : Hp) (ds : List D) (vs : List V) : Prop := if tp = true then RepTL K O H ds vs else RepL K O H ds vs
def rdL (K : PySem.W.Frag) (P : Pm) (tp : Bool) (L : List Nat) (m : Env → M (List D)) : TA := fun σ H Q => ∃ O δ cu, EOk K O P.ac L H δ σ ∧ CuOk P.ac H cu ∧
  wpM (m δ cu) (fun ds cu' => ∀ vs H', Ext1 P.ac H H' → CuOk P.ac H' cu' → ResL tp K O H' ds vs → Q vs H')
    (fun x cu' => ∀ H', Ext1 P.ac H H' → CuOk P.ac H' cu' → P.W (P.cls x) none σ H')
/-- a test -/
def rdB (K : PySem.W.Frag) (P : Pm) (L : List Nat) (m : Env → M Bool) : TT := fun σ H Q => ∃ O δ cu, EOk K O P.ac L H δ σ ∧ CuOk P.ac H cu ∧
  wpM (m δ cu) (fun b cu' => ∀ H', Ext1 P.ac H H' → CuOk P.ac H' cu' → Q b H')
    (fun x cu' => ∀ H', Ext1 P.ac H H' → CuOk P.ac H' cu' → P.W (P.cls x) none σ H')
section
variable {K : PySem.W.Frag} {P : Pm} {O : Addr → Prop} {L La : List Nat} {H : Hp} {δ : Env} {σ : L2.St} {cu : Cu}
/-- a part of an expression is read first -/
theorem rd_bind {β : Type} {tp fr : Bool} {ma : Env → M D} {k : D → M β} {P1 : β → Cu → Prop} {E1 : Nat → Cu → Prop} {R : VK} (hE : EOk K O P.ac L H δ σ) (hc : CuOk P.ac H cu) (hL : ∀ i ∈ La, i ∈ L) (hw : wpM (bnd (ma δ) k cu) P1 E1)
    (hk : ∀ d cu1 v H1, Ext1 P.ac H H1 → CuOk P.ac H1 cu1 → Res tp fr K O P.ac H H1 d v → wpM (k d cu1) P1 E1 → R v H1)
    (he : ∀ x cu1, E1 x cu1 → ∀ H', Ext1 P.ac H H' → CuOk P.ac H' cu1 → P.W (P.cls x) none σ H') : rdE K P tp fr La ma σ H R :=
  ⟨O, δ, cu, hE.sub hL, hc, wpM_mono (wpM_bnd hw) (fun d cu1 h v H1 e1 c1 r1 => hk d cu1 v H1 e1 c1 r1 h) fun x cu1 h => he x cu1 h⟩
theorem rdL_bind {β : Type} {tp : Bool} {ma : Env → M (List D)} {k : List D → M β} {P1 : β → Cu → Prop} {E1 : Nat → Cu → Prop} {R : List V → Hp → Prop} (hE : EOk K O P.ac L H δ σ) (hc : CuOk P.ac H cu) (hL : ∀ i ∈ La, i ∈ L) (hw : wpM (bnd (ma δ) k cu) P1 E1)
    (hk : ∀ d cu1 v H1, Ext1 P.ac H H1 → CuOk P.ac H1 cu1 → ResL tp K O H1 d v → wpM (k d cu1) P1 E1 → R v H1)
    (he : ∀ x cu1, E1 x cu1 → ∀ H', Ext1 P.ac H H' → CuOk P.ac H' cu1 → P.W (P.cls x) none σ H') : rdL K P tp La ma σ H R :=
  ⟨O, δ, cu, hE.sub hL, hc, wpM_mono (wpM_bnd hw) (fun d cu1 h v H1 e1 c1 r1 => hk d cu1 v H1 e1 c1 r1 h) fun x cu1 h => he x cu1 h⟩
theorem rdB_bind {β : Type} {ma : Env → M Bool} {k : Bool → M β} {P1 : β → Cu → Prop} {E1 : Nat → Cu → Prop} {R : Bool → Hp → Prop} (hE : EOk K O P.ac L H δ σ) (hc : CuOk P.ac H cu) (hL : ∀ i ∈ La, i ∈ L) (hw : wpM (bnd (ma δ) k cu) P1 E1)
    (hk : ∀ b cu1 H1, Ext1 P.ac H H1 → CuOk P.ac H1 cu1 → wpM (k b cu1) P1 E1 → R b H1)
    (he : ∀ x cu1, E1 x cu1 → ∀ H', Ext1 P.ac H H' → CuOk P.ac H' cu1 → P.W (P.cls x) none σ H') : rdB K P La ma σ H R :=
  ⟨O, δ, cu, hE.sub hL, hc, wpM_mono (wpM_bnd hw) (fun d cu1 h H1 e1 c1 => hk d cu1 H1 e1 c1 h) fun x cu1 h => he x cu1 h⟩
/-- the last part -/
theorem rd_last {tp fr : Bool} {ma : Env → M D} {P1 : D → Cu → Prop} {E1 : Nat → Cu → Prop} {R : VK} (hE : EOk K O P.ac L H δ σ) (hc : CuOk P.ac H cu) (hL : ∀ i ∈ La, i ∈ L) (hw : wpM (ma δ cu) P1 E1)
    (hk : ∀ d cu1 v H1, Ext1 P.ac H H1 → CuOk P.ac H1 cu1 → Res tp fr K O P.ac H H1 d v → P1 d cu1 → R v H1)
    (he : ∀ x cu1, E1 x cu1 → ∀ H', Ext1 P.ac H H' → CuOk P.ac H' cu1 → P.W (P.cls x) none σ H') : rdE K P tp fr La ma σ H R :=
  ⟨O, δ, cu, hE.sub hL, hc, wpM_mono hw (fun d cu1 h v H1 e1 c1 r1 => hk d cu1 v H1 e1 c1 r1 h) fun x cu1 h => he x cu1 h⟩
end
section
variable {X : Cx}
theorem PE.weak {e : Expr} {t t' : TE} (h : PE X e t) (w : ∀ σ H Q, t' σ H Q → t σ H Q) : PE X e t' := ⟨fun pins s σ H Q I q => h.run pins s σ H Q I (w σ H Q q)⟩
theorem PT.weak {e : Expr} {t t' : TT} (h : PT X e t) (w : ∀ σ H Q, t' σ H Q → t σ H Q) : PT X e t' := ⟨fun pins s σ H Q I q => h.run pins s σ H Q I (w σ H Q q)⟩
theorem PW.weak {e : Expr} {t t' : TT} (h : PW X e t) (w : ∀ σ H Q, t' σ H Q → t σ H Q) : PW X e t' := ⟨fun wh pins s σ H Q I q => h.run wh pins s σ H Q I (w σ H Q q)⟩
theorem PTs.weak {e : List Expr} {t t' : TT} (h : PTs X e t) (w : ∀ σ H Q, t' σ H Q → t σ H Q) : PTs X e t' := ⟨fun pins s σ H Q I q => h.run pins s σ H Q I (w σ H Q q)⟩
theorem PA.weak {e : List Expr} {t t' : TA} (h : PA X e t) (w : ∀ σ H Q, t' σ H Q → t σ H Q) : PA X e t' := ⟨fun pos pins s σ H Q I q => h.run pos pins s σ H Q I (w σ H Q q)⟩
theorem PI.weak {tg e : Expr} {t t' : TI} (h : PI X tg e t) (w : ∀ σ H Q, t' σ H Q → t σ H Q) : PI X tg e t' := ⟨fun pins s σ H Q I q => h.run pins s σ H Q I (w σ H Q q)⟩
theorem PS.weak {e : Stmt} {t t' : TS} (h : PS X e t) (w : ∀ D σ H, t' D σ H → t D σ H) : PS X e t' := ⟨fun pins s σ H D I q => h.run pins s σ H D I (w D σ H q)⟩
theorem PSs.weak {e : List Stmt} {t t' : TS} (h : PSs X e t) (w : ∀ D σ H, t' D σ H → t D σ H) : PSs X e t' := ⟨fun pins s σ H D I q => h.run pins s σ H D I (w D σ H q)⟩
end
end OR

/-! one construct after another -/
namespace OR
open PySem PySem.Spec PyProof.Rows L2 TL

section
variable {X : Cx} {P : Pm} {pos : Pos}
theorem exc_tr {P : Pm} {σ : L2.St} {H H1 : Hp} {E1 : Nat → Cu → Prop} (e1 : Ext1 P.ac H H1) (he : ∀ x cu1, E1 x cu1 → ∀ H', Ext1 P.ac H H' → CuOk P.ac H' cu1 → P.W (P.cls x) none σ H') :
    ∀ x cu1, E1 x cu1 → ∀ H', Ext1 P.ac H1 H' → CuOk P.ac H' cu1 → P.W (P.cls x) none σ H' := fun x cu1 h H' e c => he x cu1 h H' (e1.trans e) c
theorem getS_some {δ : Env} {i : Nat} {s : Slot} (h : getS δ i = s) (hs : s ≠ .no) : δ[i]? = some s := by
  unfold getS at h
  rw [List.getD_eq_getElem?_getD] at h
  cases q : δ[i]? with
  | none => rw [q] at h; exact absurd h.symm hs
  | some t => rw [q] at h; rw [← h]; rfl
theorem snd_var {i : Nat} {x : Str} {tp : Bool} (hN : X.N[i]? = some x) (hv : Vis X.env.scope x) (h1 : (x == ("__debug__" : Str)) = false) (h2 : (x == ("__classdict__" : Str)) = false) (G : List Den) :
    PE X (.Name x pos) (rdE X.K P tp false (leak tp (.var i)) (evE G (.var i))) := by
  refine PE.weak (pe_var hN hv h1 h2) ?_
  intro σ H Q ⟨O, δ, cu, hE, hc, hw⟩
  simp only [evE] at hw
  cases q : getS δ i with
  | val d =>
    rw [q] at hw
    obtain ⟨v, a, b⟩ := hE.val i d (getS_some q (fun z => by cases z))
    exact ⟨v, a, hw v H (Ext1.refl H) hc (.of hE.aco b fun z => by cases z)⟩
  | own d =>
    rw [q] at hw
    obtain ⟨v, a, b, c, f⟩ := hE.own i d (getS_some q (fun z => by cases z))
    refine ⟨v, a, hw v H (Ext1.refl H) hc ⟨?_, fun z => by cases z⟩⟩
    cases tp with
    | true => exact ⟨b, c⟩
    | false => exact f (by simp [leak])
  | no => rw [q] at hw; exact hw.elim
  | cup => rw [q] at hw; exact hw.elim
  | scr is => rw [q] at hw; exact hw.elim
  | obj o => rw [q] at hw; exact hw.elim
theorem snd_const {e : Expr} {d : D} {v : V} {tp : Bool} {L : List Nat} {m : Env → M D} (hm : ∀ δ, m δ = ret d) (h : PE X e (tC v)) (hr : ∀ O H, Rep X.K O H d v) : PE X e (rdE X.K P tp false L m) := by
  refine PE.weak h ?_
  intro σ H Q ⟨O, δ, cu, hE, hc, hw⟩
  rw [hm] at hw
  exact hw v H (Ext1.refl H) hc (.of hE.aco (hr O H) fun z => by cases z)

variable {a b c : Expr} {ma mb mc : Env → M D} {fa fb fc tp : Bool} {La Lb Lc L : List Nat}
theorem mem_l {i : Nat} {A B : List Nat} : i ∈ A → i ∈ A ++ B := fun h => List.mem_append_left _ h
theorem mem_r {i : Nat} {A B : List Nat} : i ∈ B → i ∈ A ++ B := fun h => List.mem_append_right _ h
theorem snd_bin {op : Operator} (ha : PE X a (rdE X.K P true fa La ma)) (hb : PE X b (rdE X.K P true fb Lb mb)) :
    PE X (.BinOp a op b pos) (rdE X.K P tp true (La ++ Lb) fun σ => bnd (ma σ) fun x => bnd (mb σ) fun y => lft (binD op x y)) := by
  refine PE.weak (pe_op (op_binD op) ha hb) ?_
  intro σ H Q ⟨O, δ, cu, hE, hc, hw⟩
  refine rd_bind hE hc (fun _ => mem_l) hw (fun x cu1 v1 H1 e1 c1 r1 hw1 => ?_) fun x cu1 h => h
  refine rd_bind (hE.step e1 c1) c1 (fun _ => mem_r) hw1 (fun y cu2 v2 H2 e2 c2 r2 hw2 => ?_) (exc_tr e1 fun x cu1 h => h)
  obtain ⟨d, ed, q⟩ := wpM_lft hw2
  have hE2 := (hE.step e1 c1).step e2 c2
  refine ⟨O, x, y, d, hE2.dom, r1.t.step (hE.step e1 c1).dom hE.aco e2 (r1.na hE.aco), r2.t, ed, fun v H' e3 r3 => ?_⟩
  exact q v H' ((e1.trans e2).trans e3.e1) (c2.e0 e3) (.fin hE.aco (e1.trans e2) c2 r3)
theorem snd_neg (ha : PE X a (rdE X.K P true fa La ma)) : PE X (.UnaryOp .USub a pos) (rdE X.K P tp false La fun σ => bnd (ma σ) fun x => match x with | .int i => ret (.int (-i)) | _ => stk) := by
  refine PE.weak (pe_un un_neg ha) ?_
  intro σ H Q ⟨O, δ, cu, hE, hc, hw⟩
  refine rd_bind hE hc (fun _ h => h) hw (fun x cu1 v1 H1 e1 c1 r1 hw1 => ?_) fun x cu1 h => h
  cases x with
  | int i => exact ⟨i, r1.t, hw1 _ H1 e1 c1 (.of hE.aco rfl fun z => by cases z)⟩
  | _ => exact hw1.elim
theorem rd_bool {m : Env → M D} {d : Bool} {O : Addr → Prop} {ac : Option Addr} {H H1 : Hp} {v : V} {tp fr : Bool} (r : Res tp fr X.K O ac H H1 (.bool d) v) : v = .bl d := r.t
/-- a test off an expression -/
theorem snd_tst (ha : PE X a (rdE X.K P true fa La ma)) (he : ∀ whole, isTrue a X.env whole = (do let v ← whole; standAt a.pos; holding [v] (truthy v))) : PT X a (rdB X.K P La fun σ => bnd (ma σ) tru) := by
  refine PT.weak (pt_val ha he) ?_
  intro σ H Q ⟨O, δ, cu, hE, hc, hw⟩
  refine rd_bind hE hc (fun _ h => h) hw (fun x cu1 v1 H1 e1 c1 r1 hw1 => ?_) fun x cu1 h => h
  obtain ⟨k, rfl, q⟩ := wpM_tru hw1
  exact ⟨k, r1.t, q H1 e1 c1⟩
theorem snd_not (ha : PE X a (rdE X.K P true fa La ma)) : PE X (.UnaryOp .Not a pos) (rdE X.K P tp false La fun σ => bnd (ma σ) fun x => bnd (tru x) fun k => ret (.bool (!k))) := by
  refine PE.weak (pe_not ha) ?_
  intro σ H Q ⟨O, δ, cu, hE, hc, hw⟩
  refine rd_bind hE hc (fun _ h => h) hw (fun x cu1 v1 H1 e1 c1 r1 hw1 => ?_) fun x cu1 h => h
  have h2 := wpM_bnd hw1
  obtain ⟨k, rfl, q⟩ := wpM_tru h2
  exact ⟨k, r1.t, q _ H1 e1 c1 (.of hE.aco rfl fun z => by cases z)⟩
theorem snd_notT {ma : Env → M Bool} (ha : PT X a (rdB X.K P La ma)) : PT X (.UnaryOp .Not a pos) (rdB X.K P La fun σ => bnd (ma σ) fun k => ret (!k)) := by
  refine PT.weak (pt_not ha) ?_
  intro σ H Q ⟨O, δ, cu, hE, hc, hw⟩
  exact rdB_bind hE hc (fun _ h => h) hw (fun x cu1 H1 e1 c1 hw1 => hw1 H1 e1 c1) fun x cu1 h => h
theorem units {A : Around} {k : Nat} (r : Room k A) : A.units + 64 < cLine := by have := r.un; omega
theorem snd_cmp {op : CmpOp} (hu : X.A.units + 64 < cLine) (ha : PE X a (rdE X.K P true fa La ma)) (hb : PE X b (rdE X.K P true fb Lb mb)) (hm : behindInMarks op b = false) :
    PE X (.Compare a [op] [b] pos) (rdE X.K P tp false (La ++ Lb) fun σ => bnd (ma σ) fun x => bnd (mb σ) fun y => lft (cmpD op x y)) := by
  refine PE.weak (pe_cmpR (op_cmpD hu op) ha hb hm) ?_
  intro σ H Q ⟨O, δ, cu, hE, hc, hw⟩
  refine rd_bind hE hc (fun _ => mem_l) hw (fun x cu1 v1 H1 e1 c1 r1 hw1 => ?_) fun x cu1 h => h
  refine rd_bind (hE.step e1 c1) c1 (fun _ => mem_r) hw1 (fun y cu2 v2 H2 e2 c2 r2 hw2 => ?_) (exc_tr e1 fun x cu1 h => h)
  obtain ⟨d, ed, q⟩ := wpM_lft hw2
  have hE2 := (hE.step e1 c1).step e2 c2
  refine ⟨O, x, y, d, hE2.dom, r1.t.step (hE.step e1 c1).dom hE.aco e2 (r1.na hE.aco), r2.t, ed, fun v H' e3 r3 => ?_⟩
  exact q v H' ((e1.trans e2).trans e3.e1) (c2.e0 e3) (.fin hE.aco (e1.trans e2) c2 r3)
theorem snd_cmpT {op : CmpOp} (hu : X.A.units + 64 < cLine) (ha : PE X a (rdE X.K P true fa La ma)) (hb : PE X b (rdE X.K P true fb Lb mb)) (hm : behindInMarks op b = false) :
    PT X (.Compare a [op] [b] pos) (rdB X.K P (La ++ Lb) fun σ => bnd (bnd (ma σ) fun x => bnd (mb σ) fun y => lft (cmpD op x y)) tru) := by
  refine PT.weak (pt_cmpR (op_cmpD hu op) ha hb hm) ?_
  intro σ H Q ⟨O, δ, cu, hE, hc, hw⟩
  have hw := wpM_bnd hw
  refine rd_bind hE hc (fun _ => mem_l) hw (fun x cu1 v1 H1 e1 c1 r1 hw1 => ?_) fun x cu1 h => h
  refine rd_bind (hE.step e1 c1) c1 (fun _ => mem_r) hw1 (fun y cu2 v2 H2 e2 c2 r2 hw2 => ?_) (exc_tr e1 fun x cu1 h => h)
  obtain ⟨d, ed, q⟩ := wpM_lft hw2
  have hE2 := (hE.step e1 c1).step e2 c2
  refine ⟨O, x, y, d, hE2.dom, r1.t.step (hE.step e1 c1).dom hE.aco e2 (r1.na hE.aco), r2.t, ed, fun v H' e3 r3 => ?_⟩
  obtain ⟨k, rfl, q⟩ := wpM_tru q
  exact ⟨k, r3.1, q H' ((e1.trans e2).trans e3.e1) (c2.e0 e3)⟩
theorem rep_step {O : Addr → Prop} {L' : List Nat} {δ : Env} {σ : L2.St} {H H1 : Hp} {d : D} {v : V} {tp fr : Bool} {H0 : Hp} (hE : EOk X.K O P.ac L' H δ σ) (e : Ext1 P.ac H H1) (r : Res tp fr X.K O P.ac H0 H d v) : RepT X.K O H1 d v :=
  r.t.step hE.dom hE.aco e (r.na hE.aco)
theorem snd_chn {o p : CmpOp} (hu : X.A.units + 64 < cLine) (ha : PE X a (rdE X.K P true fa La ma)) (hb : PE X b (rdE X.K P true fb Lb mb)) (hcc : PE X c (rdE X.K P true fc Lc mc)) (hm : lastMarks [o, p] [b, c] = false) :
    PE X (.Compare a [o, p] [b, c] pos) (rdE X.K P tp false (La ++ (Lb ++ Lc)) fun σ => bnd (ma σ) fun x => bnd (mb σ) fun y => bnd (lft (cmpD o x y)) fun z => bnd (tru z) fun k =>
      if k then bnd (mc σ) fun u => lft (cmpD p y u) else ret (.bool false)) := by
  refine PE.weak (pe_chain (op_cmpD hu o) (op_cmpD hu p) ha hb hcc hm) ?_
  intro σ H Q ⟨O, δ, cu, hE, hc, hw⟩
  refine rd_bind hE hc (fun _ => mem_l) hw (fun x cu1 v1 H1 e1 c1 r1 hw1 => ?_) fun x cu1 h => h
  have hE1 := hE.step e1 c1
  refine rd_bind hE1 c1 (fun _ z => mem_r (mem_l z)) hw1 (fun y cu2 v2 H2 e2 c2 r2 hw2 => ?_) (exc_tr e1 fun x cu1 h => h)
  have hE2 := hE1.step e2 c2
  have hw2 := wpM_bnd hw2
  obtain ⟨d, ed, q⟩ := wpM_lft hw2
  refine ⟨O, x, y, d, hE2.dom, rep_step hE1 e2 r1, r2.t, ed, fun v H3 e3 r3 => ?_⟩
  have q := wpM_bnd q
  obtain ⟨k, rfl, q⟩ := wpM_tru q
  have c3 := c2.e0 e3
  have hE3 := hE2.step e3.e1 c3
  refine ⟨k, r3.1, ?_⟩
  cases k with
  | false => exact q _ H3 ((e1.trans e2).trans e3.e1) c3 (.of hE.aco rfl fun z => by cases z)
  | true =>
    refine rd_bind hE3 c3 (fun _ z => mem_r (mem_r z)) q (fun u cu4 v4 H4 e4 c4 r4 hw4 => ?_) (exc_tr ((e1.trans e2).trans e3.e1) fun x cu1 h => h)
    obtain ⟨d5, ed5, q5⟩ := wpM_lft hw4
    refine ⟨O, y, u, d5, (hE3.step e4 c4).dom, (rep_step hE2 e3.e1 r2).step hE3.dom hE.aco e4 (r2.na hE.aco), r4.t, ed5, fun v H' e5 r5 => ?_⟩
    exact q5 v H' ((((e1.trans e2).trans e3.e1).trans e4).trans e5.e1) (c4.e0 e5) (.fin hE.aco (((e1.trans e2).trans e3.e1).trans e4) c4 r5)
theorem snd_chnT {o p : CmpOp} (hu : X.A.units + 64 < cLine) (ha : PE X a (rdE X.K P true fa La ma)) (hb : PE X b (rdE X.K P true fb Lb mb)) (hcc : PE X c (rdE X.K P true fc Lc mc)) (hm : lastMarks [o, p] [b, c] = false) :
    PT X (.Compare a [o, p] [b, c] pos) (rdB X.K P (La ++ (Lb ++ Lc)) fun σ => bnd (bnd (ma σ) fun x => bnd (mb σ) fun y => bnd (lft (cmpD o x y)) fun z => bnd (tru z) fun k =>
      if k then bnd (mc σ) fun u => lft (cmpD p y u) else ret (.bool false)) tru) := by
  refine PT.weak (pt_chain (op_cmpD hu o) (op_cmpD hu p) ha hb hcc hm) ?_
  intro σ H Q ⟨O, δ, cu, hE, hc, hw⟩
  have hw := wpM_bnd hw
  refine rd_bind hE hc (fun _ => mem_l) hw (fun x cu1 v1 H1 e1 c1 r1 hw1 => ?_) fun x cu1 h => h
  have hE1 := hE.step e1 c1
  refine rd_bind hE1 c1 (fun _ z => mem_r (mem_l z)) hw1 (fun y cu2 v2 H2 e2 c2 r2 hw2 => ?_) (exc_tr e1 fun x cu1 h => h)
  have hE2 := hE1.step e2 c2
  have hw2 := wpM_bnd hw2
  obtain ⟨d, ed, q⟩ := wpM_lft hw2
  refine ⟨O, x, y, d, hE2.dom, rep_step hE1 e2 r1, r2.t, ed, fun v H3 e3 r3 => ?_⟩
  have q := wpM_bnd q
  obtain ⟨k, rfl, q⟩ := wpM_tru q
  have c3 := c2.e0 e3
  have hE3 := hE2.step e3.e1 c3
  refine ⟨k, r3.1, ?_⟩
  cases k with
  | false => exact ⟨false, rfl, q H3 ((e1.trans e2).trans e3.e1) c3⟩
  | true =>
    refine rd_bind hE3 c3 (fun _ z => mem_r (mem_r z)) q (fun u cu4 v4 H4 e4 c4 r4 hw4 => ?_) (exc_tr ((e1.trans e2).trans e3.e1) fun x cu1 h => h)
    obtain ⟨d5, ed5, q5⟩ := wpM_lft hw4
    refine ⟨O, y, u, d5, (hE3.step e4 c4).dom, (rep_step hE2 e3.e1 r2).step hE3.dom hE.aco e4 (r2.na hE.aco), r4.t, ed5, fun v H' e5 r5 => ?_⟩
    obtain ⟨k, rfl, q6⟩ := wpM_tru q5
    exact ⟨k, r5.1, q6 H' ((((e1.trans e2).trans e3.e1).trans e4).trans e5.e1) (c4.e0 e5)⟩
theorem snd_ite {mt : Env → M Bool} (ht : PT X c (rdB X.K P Lc mt)) (ha : PE X a (rdE X.K P false fa La ma)) (hb : PE X b (rdE X.K P false fb Lb mb)) :
    PE X (.IfExp c a b pos) (rdE X.K P tp false (Lc ++ (La ++ Lb)) fun σ => bnd (mt σ) fun k => if k then ma σ else mb σ) := by
  refine PE.weak (pe_ifExp ht ha hb) ?_
  intro σ H Q ⟨O, δ, cu, hE, hc, hw⟩
  refine rdB_bind hE hc (fun _ => mem_l) hw (fun k cu1 H1 e1 c1 hw1 => ?_) fun x cu1 h => h
  have hE1 := hE.step e1 c1
  cases k with
  | true => exact rd_last hE1 c1 (fun _ z => mem_r (mem_l z)) hw1 (fun d cu2 v2 H2 e2 c2 r2 q => q v2 H2 (e1.trans e2) c2 (.of hE.aco r2.r fun z => by cases z)) (exc_tr e1 fun x cu1 h => h)
  | false => exact rd_last hE1 c1 (fun _ z => mem_r (mem_r z)) hw1 (fun d cu2 v2 H2 e2 c2 r2 q => q v2 H2 (e1.trans e2) c2 (.of hE.aco r2.r fun z => by cases z)) (exc_tr e1 fun x cu1 h => h)
theorem snd_sub {i : Expr} {mi : Env → M D} (ha : PE X a (rdE X.K P true fa La ma)) (hb : PE X i (rdE X.K P true fb Lb mi)) (hs : PlainIx i) :
    PE X (.Subscript a i pos) (rdE X.K P tp false (La ++ Lb) fun σ => bnd (ma σ) fun x => bnd (mi σ) fun y => lft (subD x y)) := by
  refine PE.weak (pe_ix ix_D ha hb hs) ?_
  intro σ H Q ⟨O, δ, cu, hE, hc, hw⟩
  refine rd_bind hE hc (fun _ => mem_l) hw (fun x cu1 v1 H1 e1 c1 r1 hw1 => ?_) fun x cu1 h => h
  refine rd_bind (hE.step e1 c1) c1 (fun _ => mem_r) hw1 (fun y cu2 v2 H2 e2 c2 r2 hw2 => ?_) (exc_tr e1 fun x cu1 h => h)
  obtain ⟨d, ed, q⟩ := wpM_lft hw2
  have hE2 := (hE.step e1 c1).step e2 c2
  refine ⟨O, x, y, d, hE2.dom, rep_step (hE.step e1 c1) e2 r1, r2.t, ed, fun v H' e3 r3 => ?_⟩
  exact q v H' ((e1.trans e2).trans e3.e1) (c2.e0 e3) (.fin hE.aco (e1.trans e2) c2 r3)
/-- a bound of a slice -/
def rdO (K : PySem.W.Frag) (P : Pm) (L : List Nat) (m : Env → M (Option Int)) : TO := fun σ H Q => ∃ O δ cu, EOk K O P.ac L H δ σ ∧ CuOk P.ac H cu ∧
  wpM (m δ cu) (fun b cu' => ∀ H', Ext1 P.ac H H' → CuOk P.ac H' cu' → Q b H')
    (fun x cu' => ∀ H', Ext1 P.ac H H' → CuOk P.ac H' cu' → P.W (P.cls x) none σ H')
theorem snd_b0 : PO X none (rdO X.K P L fun _ => ret none) := ⟨fun pins s σ H Q I ⟨O, δ, cu, hE, hc, hw⟩ => po_none.run pins s σ H Q I (hw H (Ext1.refl H) hc)⟩
theorem snd_b1 (ha : PE X a (rdE X.K P true fa La ma)) : PO X (some a) (rdO X.K P La fun σ => bnd (ma σ) partM) := by
  refine ⟨fun pins s σ H Q I ⟨O, δ, cu, hE, hc, hw⟩ => (po_some ha).run pins s σ H Q I ?_⟩
  refine rd_bind hE hc (fun _ h => h) hw (fun x cu1 v1 H1 e1 c1 r1 hw1 => ?_) fun x cu1 h => h
  cases x with
  | int i => exact ⟨i, r1.t, hw1 H1 e1 c1⟩
  | _ => exact hw1.elim
theorem snd_slc {lo hi : Option Expr} {ml mh : Env → M (Option Int)} {p2 : Pos} (ha : PE X a (rdE X.K P true fa La ma)) (hl : PO X lo (rdO X.K P Lb ml)) (hh : PO X hi (rdO X.K P Lc mh)) :
    PE X (.Subscript a (.Slice lo hi none p2) pos) (rdE X.K P tp false (La ++ (Lb ++ Lc)) fun σ => bnd (ma σ) fun x => bnd (ml σ) fun l => bnd (mh σ) fun h => lft (slcD x l h)) := by
  refine PE.weak (pe_slice sl_D ha hl hh) ?_
  intro σ H Q ⟨O, δ, cu, hE, hc, hw⟩
  refine rd_bind hE hc (fun _ => mem_l) hw (fun x cu1 v1 H1 e1 c1 r1 hw1 => ?_) fun x cu1 h => h
  have hE1 := hE.step e1 c1
  refine ⟨O, δ, cu1, hE1.sub fun _ z => mem_r (mem_l z), c1, wpM_mono (wpM_bnd hw1) (fun l cu2 hw2 H2 e2 c2 => ?_) (exc_tr e1 fun x cu1 h => h)⟩
  have hE2 := hE1.step e2 c2
  refine ⟨O, δ, cu2, hE2.sub fun _ z => mem_r (mem_r z), c2, wpM_mono (wpM_bnd hw2) (fun h cu3 hw3 H3 e3 c3 => ?_) (exc_tr (e1.trans e2) fun x cu1 h => h)⟩
  obtain ⟨d, ed, q⟩ := wpM_lft hw3
  refine ⟨O, x, d, (hE2.step e3 c3).dom, (rep_step hE1 e2 r1).step hE2.dom hE.aco e3 (r1.na hE.aco), ed, fun v H' e4 r4 => ?_⟩
  exact q v H' (((e1.trans e2).trans e3).trans e4.e1) (c3.e0 e4) (.of hE.aco r4.1 fun z => by cases z)

/-! lists of expressions -/
variable {es : List Expr} {ml : Env → M (List D)}
theorem snd_nil : PA X [] (rdL X.K P false L fun _ => ret []) := by
  refine PA.weak pa_nil ?_
  intro σ H Q ⟨O, δ, cu, hE, hc, hw⟩
  exact hw [] H (Ext1.refl H) hc trivial
theorem snd_cons (ha : PE X a (rdE X.K P false fa La ma)) (hs : PA X es (rdL X.K P false Lb ml)) (hst : starEach (a :: es) X.env = (false, eval a X.env) :: starEach es X.env) :
    PA X (a :: es) (rdL X.K P false (La ++ Lb) fun σ => bnd (ma σ) fun x => bnd (ml σ) fun xs => ret (x :: xs)) := by
  refine PA.weak (pa_cons ha hs hst) ?_
  intro σ H Q ⟨O, δ, cu, hE, hc, hw⟩
  refine rd_bind hE hc (fun _ => mem_l) hw (fun x cu1 v1 H1 e1 c1 r1 hw1 => ?_) fun x cu1 h => h
  have hE1 := hE.step e1 c1
  refine rdL_bind hE1 c1 (fun _ => mem_r) hw1 (fun xs cu2 vs H2 e2 c2 r2 hw2 => ?_) (exc_tr e1 fun x cu1 h => h)
  exact hw2 _ H2 (e1.trans e2) c2 ⟨r1.r.ext hE1.dom (e2.ext hE.aco), r2⟩
/-- one argument, whose object may be one's own -/
theorem snd_one (ha : PE X a (rdE X.K P true fa La ma)) (hst : starEach [a] X.env = (false, eval a X.env) :: starEach [] X.env) :
    PA X [a] (rdL X.K P true La fun σ => bnd (ma σ) fun x => bnd (ret []) fun xs => ret (x :: xs)) := by
  refine PA.weak (pa_cons ha pa_nil hst) ?_
  intro σ H Q ⟨O, δ, cu, hE, hc, hw⟩
  refine rd_bind hE hc (fun _ h => h) hw (fun x cu1 v1 H1 e1 c1 r1 hw1 => ?_) fun x cu1 h => h
  exact hw1 _ H1 e1 c1 ⟨r1.t, trivial⟩
theorem ResL.len {tp : Bool} {O : Addr → Prop} {H : Hp} {ds : List D} {vs : List V} (h : ResL tp X.K O H ds vs) : ds.length = vs.length := by
  unfold ResL at h
  split at h
  · revert vs
    induction ds with
    | nil => intro vs h; cases vs with
      | nil => rfl
      | cons _ _ => exact h.elim
    | cons d ds ih => intro vs h; cases vs with
      | nil => exact h.elim
      | cons v vs => rw [List.length_cons, List.length_cons, ih h.2]
  · exact h.length
theorem ResL.t {tp : Bool} {O : Addr → Prop} {H : Hp} {ds : List D} {vs : List V} (h : ResL tp X.K O H ds vs) : RepTL X.K O H ds vs := by
  unfold ResL at h
  split at h
  · exact h
  · exact .of h
theorem snd_tup {k : Nat} {n : Nat} (hs : PA X es (rdL X.K P false L ml)) (hn : n ≤ sizeLine) (hm : ∀ δ cu ds cu', ml δ cu = .ok ds cu' → ds.length = n) : PE X (.Tuple es k pos) (rdE X.K P tp false L fun σ => bnd (ml σ) fun ds => ret (.tuple ds)) := by
  refine PE.weak (pe_tup hs) ?_
  intro σ H Q ⟨O, δ, cu, hE, hc, hw⟩
  refine ⟨O, δ, cu, hE, hc, ?_⟩
  have hw := wpM_bnd hw
  cases q : ml δ cu with
  | no => rw [q] at hw; exact hw.elim
  | ex x c' => rw [q] at hw; exact hw
  | ok ds c' =>
    rw [q] at hw
    intro vs H1 e1 c1 r1
    have hl := hm _ _ _ _ q
    refine ⟨by rw [← r1.len, hl]; exact hn, fun p hp => ?_⟩
    exact hw _ _ (e1.trans (ext0_upd hp).e1) (c1.e0 (ext0_upd hp)) (.of hE.aco (rep_newTup hp r1 (by rw [hl]; exact hn)) fun z => by cases z)
theorem snd_lst {n : Nat} (hs : PA X es (rdL X.K P false L ml)) (hn : n ≤ sizeLine) (hm : ∀ δ cu ds cu', ml δ cu = .ok ds cu' → ds.length = n) : PE X (.List es pos) (rdE X.K P tp true L fun σ => bnd (ml σ) fun ds => ret (.list ds)) := by
  refine PE.weak (pe_lst hs) ?_
  intro σ H Q ⟨O, δ, cu, hE, hc, hw⟩
  refine ⟨O, δ, cu, hE, hc, ?_⟩
  have hw := wpM_bnd hw
  cases q : ml δ cu with
  | no => rw [q] at hw; exact hw.elim
  | ex x c' => rw [q] at hw; exact hw
  | ok ds c' =>
    rw [q] at hw
    intro vs H1 e1 c1 r1
    have hl := hm _ _ _ _ q
    refine ⟨by rw [← r1.len, hl]; exact hn, fun p hp => ?_⟩
    exact hw _ _ (e1.trans (ext0_upd hp).e1) (c1.e0 (ext0_upd hp)) (.fin hE.aco e1 c1 (res_newLst (hE.step e1 c1).dom hp r1 (by rw [hl]; exact hn)))
end
end OR

/-! calls; what is walked; comprehensions -/
namespace OR
open PySem PySem.Spec PyProof.Rows L2 TL

/-- an argument of a def -/
def ArgR (K : PySem.W.Frag) (O : Addr → Prop) (ac : Option Addr) (H : Hp) : Slot → V → Prop
  | .val d, v => Rep K O H d v
  | .cup, v => ∃ a, ac = some a ∧ v = .ref a
  | .scr is, v => ∃ a, v = .ref a ∧ some a ≠ ac ∧ SqL K H a (is.map V.int)
  | _, _ => False
def ArgsR (K : PySem.W.Frag) (O : Addr → Prop) (ac : Option Addr) (H : Hp) : List Slot → List V → Prop
  | [], [] => True
  | s :: r, v :: vs => ArgR K O ac H s v ∧ ArgsR K O ac H r vs
  | _, _ => False
theorem ArgsR.len {K : PySem.W.Frag} {O : Addr → Prop} {ac : Option Addr} {H : Hp} : ∀ {as : List Slot} {vs : List V}, ArgsR K O ac H as vs → as.length = vs.length
  | [], [], _ => rfl
  | s :: r, v :: vs, h => by rw [List.length_cons, List.length_cons, ArgsR.len h.2]
  | [], _ :: _, h => h.elim
  | _ :: _, [], h => h.elim
theorem ArgR.step {K : PySem.W.Frag} {O : Addr → Prop} {ac : Option Addr} {H H' : Hp} {s : Slot} {v : V} (hd : ODom O H) (ho : ∀ a, ac = some a → O a) (e : Ext1 ac H H') (h : ArgR K O ac H s v) : ArgR K O ac H' s v := by
  cases s with
  | val d => exact Rep.ext hd (e.ext ho) h
  | cup => exact h
  | scr is => obtain ⟨a, b, c, f⟩ := h; exact ⟨a, b, c, sqL_e1 e c f⟩
  | no => exact h
  | own d => exact h
  | obj o => exact h
/-- what a def promises: it hands back what its meaning says -/
def spD (K : PySem.W.Frag) (cls : Nat → Value) (den : Den) (n : Nat) : Sp := fun vs H Q E => ∃ O ac as cu, ArgsR K O ac H as vs ∧ as.length = n ∧ ODom O H ∧ (∀ a, ac = some a → O a) ∧ CuOk ac H cu ∧
  wpM (den as cu) (fun d cu' => ∀ v H', Ext1 ac H H' → CuOk ac H' cu' → Rep K O H' d v → Q v H') (fun x cu' => ∀ H', Ext1 ac H H' → CuOk ac H' cu' → E (cls x) none H')
def rdA (K : PySem.W.Frag) (P : Pm) (L : List Nat) (m : Env → M (List Slot)) : TA := fun σ H Q => ∃ O δ cu, EOk K O P.ac L H δ σ ∧ CuOk P.ac H cu ∧
  wpM (m δ cu) (fun as cu' => ∀ vs H', Ext1 P.ac H H' → CuOk P.ac H' cu' → ArgsR K O P.ac H' as vs → Q vs H')
    (fun x cu' => ∀ H', Ext1 P.ac H H' → CuOk P.ac H' cu' → P.W (P.cls x) none σ H')
theorem repL_ints {K : PySem.W.Frag} {O : Addr → Prop} {H : Hp} : ∀ is : List Int, RepL K O H (is.map .int) (is.map V.int)
  | [] => trivial
  | i :: is => ⟨rfl, repL_ints is⟩
section
variable {X : Cx} {P : Pm} {pos : Pos} {a b c : Expr} {ma mb mc : Env → M D} {fa fb fc tp : Bool} {La Lb Lc L : List Nat} {es : List Expr} {mA : Env → M (List Slot)} {ml : Env → M (List D)}
theorem snd_anil : PA X [] (rdA X.K P L fun _ => ret []) := by
  refine PA.weak pa_nil ?_
  intro σ H Q ⟨O, δ, cu, hE, hc, hw⟩
  exact hw [] H (Ext1.refl H) hc trivial
theorem snd_acons (ha : PE X a (rdE X.K P false fa La ma)) (hs : PA X es (rdA X.K P Lb mA)) (hst : starEach (a :: es) X.env = (false, eval a X.env) :: starEach es X.env) :
    PA X (a :: es) (rdA X.K P (La ++ Lb) fun σ => bnd (ma σ) fun x => bnd (mA σ) fun xs => ret (.val x :: xs)) := by
  refine PA.weak (pa_cons ha hs hst) ?_
  intro σ H Q ⟨O, δ, cu, hE, hc, hw⟩
  refine rd_bind hE hc (fun _ => mem_l) hw (fun x cu1 v1 H1 e1 c1 r1 hw1 => ?_) fun x cu1 h => h
  have hE1 := hE.step e1 c1
  refine ⟨O, δ, cu1, hE1.sub fun _ => mem_r, c1, wpM_mono (wpM_bnd hw1) (fun as cu2 hw2 vs H2 e2 c2 r2 => ?_) (exc_tr e1 fun x cu1 h => h)⟩
  exact hw2 _ H2 (e1.trans e2) c2 ⟨r1.r.ext hE1.dom (e2.ext hE.aco), r2⟩
theorem snd_avar {i : Nat} {x : Str} {p : Pos} (hN : X.N[i]? = some x) (hv : Vis X.env.scope x) (h1 : (x == ("__debug__" : Str)) = false) (h2 : (x == ("__classdict__" : Str)) = false) (hs : PA X es (rdA X.K P Lb mA)) :
    PA X (.Name x p :: es) (rdA X.K P ([i] ++ Lb) fun σ => match getS σ i with
      | .cup => bnd (mA σ) fun xs => ret (.cup :: xs)
      | .val d => bnd (mA σ) fun xs => ret (.val d :: xs)
      | .own d => bnd (mA σ) fun xs => ret (.val d :: xs)
      | .scr is => bnd (mA σ) fun xs => ret (.scr is :: xs)
      | _ => stk) := by
  refine PA.weak (pa_cons (pe_var hN hv h1 h2) hs (by rfl)) ?_
  intro σ H Q ⟨O, δ, cu, hE, hc, hw⟩
  dsimp only at hw
  have fin : ∀ (s : Slot) (v : V), ArgR X.K O P.ac H s v → wpM (bnd (mA δ) (fun xs => ret (s :: xs)) cu) (fun as cu' => ∀ vs H', Ext1 P.ac H H' → CuOk P.ac H' cu' → ArgsR X.K O P.ac H' as vs → Q vs H') (fun x cu' => ∀ H', Ext1 P.ac H H' → CuOk P.ac H' cu' → P.W (P.cls x) none σ H') →
      rdA X.K P Lb mA σ H fun xs H2 => Q (v :: xs) H2 := fun s v hr hw => by
    refine ⟨O, δ, cu, hE.sub fun _ => mem_r, hc, wpM_mono (wpM_bnd hw) (fun as cu2 hw2 vs H2 e2 c2 r2 => ?_) fun x cu1 h => h⟩
    exact hw2 _ H2 e2 c2 ⟨hr.step hE.dom hE.aco e2, r2⟩
  cases q : getS δ i with
  | val d =>
    rw [q] at hw
    obtain ⟨v, e1, r1⟩ := hE.val i d (getS_some q (fun z => by cases z))
    exact ⟨v, e1, fin (.val d) v r1 hw⟩
  | own d =>
    rw [q] at hw
    obtain ⟨v, e1, r1, _, f⟩ := hE.own i d (getS_some q (fun z => by cases z))
    exact ⟨v, e1, fin (.val d) v (f (by simp)) hw⟩
  | cup =>
    rw [q] at hw
    obtain ⟨a, e0, e1⟩ := hE.cup i (getS_some q (fun z => by cases z))
    exact ⟨_, e1, fin .cup _ ⟨a, e0, rfl⟩ hw⟩
  | scr is =>
    rw [q] at hw
    obtain ⟨a, e0, e1, e2⟩ := hE.scr i is (getS_some q (fun z => by cases z))
    exact ⟨_, e0, fin (.scr is) _ ⟨a, rfl, e1, e2⟩ hw⟩
  | no => rw [q] at hw; exact hw.elim
  | obj o => rw [q] at hw; exact hw.elim
theorem snd_call {k : Nat} {f : Addr} {fd : FuncData} {ps : List Str} {den : Den} {x : Str} {p : Pos} (F : FnOk X.prog X.w X.K X.mg X.base (L2.CX X.prog X.w) k f fd ps (spD X.K P.cls den ps.length)) (hr : Room k X.A) (hg : Gl X x) (hm : X.mg x = some (.ref f))
    (hk : PySem.W.keepIn X.K (.ref f) = true) (hb : Binds X.K fd ps []) (tk : Takes X P.W) (ha : PA X (a :: es) (rdA X.K P L mA)) (hn : ∀ δ cu as cu', mA δ cu = .ok as cu' → as.length = ps.length) (hdb : (x == ("__debug__" : Str)) = false)
    (he : starEach (a :: es) X.env = (false, eval a X.env) :: starEach es X.env) (hpl : (backTo pos (starEach es X.env)).any (·.1) = false) :
    PE X (.Call (.Name x p) (a :: es) [] pos) (rdE X.K P tp false L fun σ => bnd (mA σ) den) := by
  refine PE.weak (pe_callS (E := WE P.W) F hr hg hm hk hb (fun σ => passAt tk σ) ha hdb he hpl) ?_
  intro σ H Q ⟨O, δ, cu, hE, hc, hw⟩
  refine ⟨O, δ, cu, hE, hc, ?_⟩
  have hw := wpM_bnd hw
  cases q : mA δ cu with
  | no => rw [q] at hw; exact hw.elim
  | ex x c' => rw [q] at hw; exact hw
  | ok as c1 =>
    rw [q] at hw
    intro vs H1 e1 c1' r1
    have hE1 := hE.step e1 c1'
    refine ⟨O, P.ac, as, c1, r1, hn _ _ _ _ q, hE1.dom, hE.aco, c1', wpM_mono hw (fun d cu2 h v H2 e2 c2 r2 => h v H2 (e1.trans e2) c2 (.of hE.aco r2 fun z => by cases z)) fun x cu2 h H2 e2 c2 => h H2 (e1.trans e2) c2⟩

/-- a built-in function -/
theorem snd_biB {id : String} {g : List D → Option D} {fr : Bool} {ta : Bool} {x : Str} {p : Pos} (hcr : CallR X (.builtin id) (rDn X.K g fr)) (hg : Gl X x) (hm : X.mg x = none) (hv : bootBuiltins x = some (.builtin id)) (ha : PA X (a :: es) (rdL X.K P ta L ml)) (hn : x ≠ "__name__") (hdb : (x == ("__debug__" : Str)) = false)
    (he : starEach (a :: es) X.env = (false, eval a X.env) :: starEach es X.env) (hpl : (backTo pos (starEach es X.env)).any (·.1) = false) :
    PE X (.Call (.Name x p) (a :: es) [] pos) (rdE X.K P tp fr L fun σ => bnd (ml σ) fun ds => lft (g ds)) := by
  refine PE.weak (pe_callB hcr hg hm hv ha hn hdb he hpl) ?_
  intro σ H Q ⟨O, δ, cu, hE, hc, hw⟩
  refine rdL_bind hE hc (fun _ h => h) hw (fun ds cu1 vs H1 e1 c1 r1 hw1 => ?_) fun x cu1 h => h
  obtain ⟨d, ed, q⟩ := wpM_lft hw1
  exact ⟨O, ds, d, (hE.step e1 c1).dom, r1.t, ed, fun v H' e3 r3 => q v H' (e1.trans e3.e1) (c1.e0 e3) (.fin hE.aco e1 c1 r3)⟩
theorem snd_biT {T : String} {g : List D → Option D} {fr : Bool} {ta : Bool} {x : Str} {p : Pos} (hcr : CallR X (.type T) (rDn X.K g fr)) (hg : Gl X x) (hm : X.mg x = none) (hv : bootBuiltins x = some (.type T)) (ha : PA X (a :: es) (rdL X.K P ta L ml)) (hn : x ≠ "__name__") (hdb : (x == ("__debug__" : Str)) = false)
    (he : starEach (a :: es) X.env = (false, eval a X.env) :: starEach es X.env) (hpl : (backTo pos (starEach es X.env)).any (·.1) = false) :
    PE X (.Call (.Name x p) (a :: es) [] pos) (rdE X.K P tp fr L fun σ => bnd (ml σ) fun ds => lft (g ds)) := by
  refine PE.weak (pe_callTy hcr hg hm hv ha hn hdb he hpl) ?_
  intro σ H Q ⟨O, δ, cu, hE, hc, hw⟩
  refine rdL_bind hE hc (fun _ h => h) hw (fun ds cu1 vs H1 e1 c1 r1 hw1 => ?_) fun x cu1 h => h
  obtain ⟨d, ed, q⟩ := wpM_lft hw1
  exact ⟨O, ds, d, (hE.step e1 c1).dom, r1.t, ed, fun v H' e3 r3 => q v H' (e1.trans e3.e1) (c1.e0 e3) (.fin hE.aco e1 c1 r3)⟩
/-- isinstance(e, T) -/
theorem snd_isa {t : Ty} {T x : Str} {p p2 : Pos} (hg : Gl X x) (hm : X.mg x = none) (hv : bootBuiltins x = some (.builtin "isinstance")) (hgT : Gl X T) (hmT : X.mg T = none) (hvT : bootBuiltins T = some (.type (tyName t))) (ha : PE X a (rdE X.K P true fa La ma))
    (hn : x ≠ "__name__") (hdb : (x == ("__debug__" : Str)) = false) (hnT : T ≠ "__name__") (hdT : (T == ("__debug__" : Str)) = false) (he : starEach [a, .Name T p2] X.env = (false, eval a X.env) :: starEach [.Name T p2] X.env) :
    PE X (.Call (.Name x p) [a, .Name T p2] [] pos) (rdE X.K P tp false La fun σ => bnd (bnd (ma σ) fun x => bnd (ret []) fun xs => ret (x :: xs)) fun ds => lft (biD (.isa t) ds)) := by
  refine PE.weak (pe_callB (op_isa t) hg hm hv (pa_cons ha (pa_cons (pe_bltn (v := .ty (tyName t)) hgT hmT hvT rfl hnT hdT) pa_nil) he) hn hdb he (by rfl)) ?_
  intro σ H Q ⟨O, δ, cu, hE, hc, hw⟩
  have hw := wpM_bnd hw
  refine rd_bind hE hc (fun _ h => h) hw (fun x cu1 v1 H1 e1 c1 r1 hw1 => ?_) fun x cu1 h => h
  obtain ⟨d, ed, q⟩ := wpM_lft (o := biD (.isa t) [x]) (c := cu1) (P := fun d cu' => ∀ v H', Ext1 P.ac H H' → CuOk P.ac H' cu' → Res tp false X.K O P.ac H H' d v → Q v H') (E := fun x cu' => ∀ H', Ext1 P.ac H H' → CuOk P.ac H' cu' → P.W (P.cls x) none σ H') hw1
  have ed2 : d = .bool (isaD t x) := by
    unfold biD at ed
    exact (Option.some.inj ed).symm
  subst ed2
  exact ⟨O, x, v1, (hE.step e1 c1).dom, rfl, r1.t, fun v H' e3 r3 => q v H' (e1.trans e3.e1) (c1.e0 e3) (.fin hE.aco e1 c1 r3)⟩
/-- list(script) -/
theorem snd_lscr {i : Nat} {x nm : Str} {p p2 : Pos} (hN : X.N[i]? = some x) (hv : Vis X.env.scope x) (h1 : (x == ("__debug__" : Str)) = false) (h2 : (x == ("__classdict__" : Str)) = false) (hg : Gl X nm) (hm : X.mg nm = none) (hvL : bootBuiltins nm = some (.type "list"))
    (hn : nm ≠ "__name__") (hdb : (nm == ("__debug__" : Str)) = false) (G : List Den) : PE X (.Call (.Name nm p) [.Name x p2] [] pos) (rdE X.K P tp true L (evE G (.lscr i))) := by
  refine PE.weak (pe_callTy call_list_of hg hm hvL (pa_cons (pe_var hN hv h1 h2) pa_nil) hn hdb (by rfl) (by rfl)) ?_
  intro σ H Q ⟨O, δ, cu, hE, hc, hw⟩
  simp only [evE] at hw
  cases q : getS δ i with
  | scr is =>
    rw [q] at hw
    obtain ⟨a, e0, e1, e2⟩ := hE.scr i is (getS_some q (fun z => by cases z))
    refine ⟨_, e0, a, _, rfl, .inl e2, fun p hp => ?_⟩
    dsimp only at hw
    split at hw
    · rename_i hz
      exact hw _ _ (ext0_upd hp).e1 (hc.e0 (ext0_upd hp)) (.fin hE.aco (Ext1.refl H) hc (res_newLst hE.dom hp (repL_ints is) (by rw [List.length_map, sizeLine_eq]; omega)))
    · exact hw.elim
  | val d => rw [q] at hw; exact hw.elim
  | own d => rw [q] at hw; exact hw.elim
  | cup => rw [q] at hw; exact hw.elim
  | no => rw [q] at hw; exact hw.elim
  | obj o => rw [q] at hw; exact hw.elim
/-- a method of a text -/
theorem snd_mth {id : String} {m : MI} {name : Str} {o : Expr} {mo : Env → M D} {fo ta : Bool} {apos cpos : Pos} (pa : PlainAttrs "str") (slot : PySem.Slot "str" name id) (hty : typeOf (.builtin id) = pure (.type "method_descriptor")) (hm : MtR X id (rMt X.K m)) (ho : PE X o (rdE X.K P true fo La mo)) (ha : PA X (a :: es) (rdL X.K P ta Lb ml))
    (hT : ∀ x, recv m x = true → ∃ s, x = .str s)
    (hbase : attributeBase o name X.env (eval o X.env) = eval o X.env)
    (hfew : ((backTo cpos (starEach (a :: es) X.env)).all (fun x => !x.1) && (backToKw cpos (keywordEach [] X.env)).all (fun x => x.1.isSome)
      && decide ((a :: es).length + ([] : List Keyword).length + (if ([] : List Keyword).isEmpty then 0 else 1) < 30)) = true)
    (hline : (apos.endLine == cpos.line) = true) (hs : starEach (a :: es) X.env = (false, eval a X.env) :: starEach es X.env) (hplain : (backTo cpos (starEach es X.env)).any (·.1) = false) :
    PE X (.Call (.Attribute o name apos) (a :: es) [] cpos) (rdE X.K P tp false (La ++ Lb) fun σ => bnd (mo σ) fun x => if recv m x then bnd (ml σ) fun ds => lft (mthD m x ds) else stk) := by
  refine PE.weak (pe_bm pa slot hty hm ho ha hbase hfew hline hs hplain) ?_
  intro σ H Q ⟨O, δ, cu, hE, hc, hw⟩
  refine rd_bind hE hc (fun _ => mem_l) hw (fun x cu1 v1 H1 e1 c1 r1 hw1 => ?_) fun x cu1 h => h
  have hE1 := hE.step e1 c1
  split at hw1
  · rename_i hr
    obtain ⟨s, rfl⟩ := hT x hr
    obtain ⟨rfl, hz⟩ := r1.t.txt
    refine ⟨rfl, ?_⟩
    refine rdL_bind hE1 c1 (fun _ => mem_r) hw1 (fun ds cu2 vs H2 e2 c2 r2 hw2 => ?_) (exc_tr e1 fun x cu1 h => h)
    obtain ⟨d, ed, q⟩ := wpM_lft hw2
    refine ⟨O, .str s, ds, d, (hE1.step e2 c2).dom, ⟨rfl, hz⟩, r2.t, ed, fun v H' e3 r3 => ?_⟩
    exact q v H' ((e1.trans e2).trans e3.e1) (c2.e0 e3) (.fin hE.aco (e1.trans e2) c2 r3)
  · exact hw1.elim
theorem snd_mthL {id : String} {m : MI} {name : Str} {o : Expr} {mo : Env → M D} {fo ta : Bool} {apos cpos : Pos} (pa : PlainAttrs "list") (slot : PySem.Slot "list" name id) (hty : typeOf (.builtin id) = pure (.type "method_descriptor")) (hm : MtR X id (rMt X.K m)) (ho : PE X o (rdE X.K P true fo La mo)) (ha : PA X (a :: es) (rdL X.K P ta Lb ml))
    (hT : ∀ x, recv m x = true → ∃ s, x = .list s)
    (hbase : attributeBase o name X.env (eval o X.env) = eval o X.env)
    (hfew : ((backTo cpos (starEach (a :: es) X.env)).all (fun x => !x.1) && (backToKw cpos (keywordEach [] X.env)).all (fun x => x.1.isSome)
      && decide ((a :: es).length + ([] : List Keyword).length + (if ([] : List Keyword).isEmpty then 0 else 1) < 30)) = true)
    (hline : (apos.endLine == cpos.line) = true) (hs : starEach (a :: es) X.env = (false, eval a X.env) :: starEach es X.env) (hplain : (backTo cpos (starEach es X.env)).any (·.1) = false) :
    PE X (.Call (.Attribute o name apos) (a :: es) [] cpos) (rdE X.K P tp false (La ++ Lb) fun σ => bnd (mo σ) fun x => if recv m x then bnd (ml σ) fun ds => lft (mthD m x ds) else stk) := by
  refine PE.weak (pe_bm pa slot hty hm ho ha hbase hfew hline hs hplain) ?_
  intro σ H Q ⟨O, δ, cu, hE, hc, hw⟩
  refine rd_bind hE hc (fun _ => mem_l) hw (fun x cu1 v1 H1 e1 c1 r1 hw1 => ?_) fun x cu1 h => h
  have hE1 := hE.step e1 c1
  split at hw1
  · rename_i hr
    obtain ⟨s, rfl⟩ := hT x hr
    obtain ⟨p, ys, rfl, hp, la⟩ := r1.t.lst
    refine ⟨.inl ⟨rfl, ys, SqL.of hp⟩, ?_⟩
    refine rdL_bind hE1 c1 (fun _ => mem_r) hw1 (fun ds cu2 vs H2 e2 c2 r2 hw2 => ?_) (exc_tr e1 fun x cu1 h => h)
    obtain ⟨d, ed, q⟩ := wpM_lft hw2
    refine ⟨O, .list s, ds, d, (hE1.step e2 c2).dom, r1.t.step hE1.dom hE.aco e2 (r1.na hE.aco), r2.t, ed, fun v H' e3 r3 => ?_⟩
    exact q v H' ((e1.trans e2).trans e3.e1) (c2.e0 e3) (.fin hE.aco (e1.trans e2) c2 r3)
  · exact hw1.elim
end
end OR

/-! what is walked; comprehensions -/
namespace OR
open PySem PySem.Spec PyProof.Rows L2 TL

/-- the iterator J gives these items, as long as no more than C changes -/
def WalkD (K : PySem.W.Frag) (O C : Addr → Prop) (J : It) (items : List D) (H0 : Hp) : Prop := ∀ i H, Ext C H0 H →
  (i < items.length → J.go i H ∧ ∀ x H', J.yld i H x H' → Ext0 H H' ∧ ∃ d, items[i]? = some d ∧ Rep K O H' d x) ∧ (items.length ≤ i → J.stop i H)
section
variable {K : PySem.W.Frag} {O C : Addr → Prop} {H0 : Hp}
theorem ext_of_C {H : Hp} (hC : ∀ b, C b → O b ∨ H0 b = none) (e : Ext C H0 H) : Ext O H0 H := fun b x nb q => e b x (fun c => (hC b c).elim nb fun z => by rw [z] at q; cases q) q
theorem walk_list {a : Addr} {xs : List V} {ds : List D} (hC : ∀ b, C b → O b ∨ H0 b = none) (hd : ODw O H0) (na : ¬ C a) (h : H0 a = some (.lst xs)) (r : RepL K O H0 ds xs) : WalkD K O C (Itl K a) ds H0 := fun i H e => by
  have h1 : H a = some (.lst xs) := e _ _ na h
  have r1 := r.extw hd (ext_of_C hC e)
  refine ⟨fun hi => ?_, fun hi => ⟨xs, SqL.of h1, by rw [← r.length]; exact hi⟩⟩
  obtain ⟨x, ex, rx⟩ := r1.get' (List.getElem?_eq_getElem hi)
  refine ⟨⟨xs, x, SqL.of h1, ex⟩, fun y H' hy => ?_⟩
  obtain ⟨rfl, hy⟩ := hy
  have := hy xs (SqL.of h1)
  rw [ex] at this; cases this
  exact ⟨Ext0.refl _, _, List.getElem?_eq_getElem hi, rx⟩
theorem walk_tup {a : Addr} {xs : List V} {ds : List D} (hC : ∀ b, C b → O b ∨ H0 b = none) (hd : ODw O H0) (h : SqT K H0 a xs) (r : RepL K O H0 ds xs) : WalkD K O C (Itt K a) ds H0 := fun i H e => by
  have h1 : SqT K H a xs := SqT.extw hd (ext_of_C hC e) h
  have r1 := r.extw hd (ext_of_C hC e)
  refine ⟨fun hi => ?_, fun hi => ⟨xs, h1, by rw [← r.length]; exact hi⟩⟩
  obtain ⟨x, ex, rx⟩ := r1.get' (List.getElem?_eq_getElem hi)
  refine ⟨⟨xs, x, h1, ex⟩, fun y H' hy => ?_⟩
  obtain ⟨rfl, hy⟩ := hy
  have := hy xs h1
  rw [ex] at this; cases this
  exact ⟨Ext0.refl _, _, List.getElem?_eq_getElem hi, rx⟩
theorem signs_len (s : Str) : (signs s).length = s.cps.size := by unfold signs; rw [List.length_map, Array.length_toList]
theorem walk_str (s : Str) : WalkD K O C (Its s) (signs s) H0 := fun i H e => by
  rw [signs_len]
  refine ⟨fun hi => ⟨hi, fun y H' hy => ?_⟩, fun hi => hi⟩
  obtain ⟨rfl, c, hc, rfl⟩ := hy
  refine ⟨Ext0.refl _, chr1 c, ?_, rfl, by show 1 ≤ sizeLine; decide⟩
  unfold signs
  rw [List.getElem?_map, Array.getElem?_toList, hc]; rfl
theorem walk_rng (m n : Int) : WalkD K O C (Itr m (n - m).toNat) (rngL m n) H0 := fun i H e => by
  have hl : (rngL m n).length = (n - m).toNat := by unfold rngL; rw [List.length_map, List.length_range]
  rw [hl]
  refine ⟨fun hi => ⟨hi, fun y H' hy => ?_⟩, fun hi => hi⟩
  obtain ⟨rfl, rfl⟩ := hy
  refine ⟨Ext0.refl _, .int (m + (i : Nat)), ?_, rfl⟩
  unfold rngL
  rw [List.getElem?_map, List.getElem?_range hi]; rfl
theorem zipL_get : ∀ (xs ys : List D) (i : Nat), (zipL xs ys)[i]? = (match xs[i]?, ys[i]? with | some x, some y => some (.tuple [x, y]) | _, _ => none)
  | [], _, _ => by simp [zipL]
  | _ :: _, [], i => by simp only [zipL]; cases h : (_ :: _ : List D)[i]? <;> simp
  | x :: xs, y :: ys, 0 => by simp [zipL]
  | x :: xs, y :: ys, i + 1 => by simpa [zipL] using zipL_get xs ys i
theorem zipL_len : ∀ (xs ys : List D), (zipL xs ys).length = min xs.length ys.length
  | [], ys => by simp [zipL]
  | _ :: _, [] => by simp [zipL]
  | x :: xs, y :: ys => by simp only [zipL, List.length_cons, zipL_len xs ys]; omega
theorem walk_zipL {a b : Addr} {xs ys : List V} {ds es : List D} (hC : ∀ b, C b → O b ∨ H0 b = none) (hd : ODw O H0) (na : ¬ C a) (nb : ¬ C b) (h : H0 a = some (.lst xs)) (h' : H0 b = some (.lst ys)) (r : RepL K O H0 ds xs) (r' : RepL K O H0 es ys) :
    WalkD K O C (Itz K a b) (zipL ds es) H0 := fun i H e => by
  have h1 : SqL K H a xs := SqL.of (e _ _ na h)
  have h2 : SqL K H b ys := SqL.of (e _ _ nb h')
  have r1 := r.extw hd (ext_of_C hC e)
  have r2 := r'.extw hd (ext_of_C hC e)
  have l1 := r.length
  have l2 := r'.length
  rw [zipL_len]
  refine ⟨fun hi => ?_, fun hi => ⟨xs, ys, h1, h2, by omega⟩⟩
  obtain ⟨x, ex, rx⟩ := r1.get' (List.getElem?_eq_getElem (show i < ds.length by omega))
  obtain ⟨y, ey, ry⟩ := r2.get' (List.getElem?_eq_getElem (show i < es.length by omega))
  refine ⟨⟨xs, ys, x, y, h1, h2, ex, ey⟩, fun z H' hz => ?_⟩
  obtain ⟨T, x', y', rfl, hT, rfl, f1, f2⟩ := hz
  have g1 := f1 xs h1
  have g2 := f2 ys h2
  rw [ex] at g1; cases g1
  rw [ey] at g2; cases g2
  refine ⟨ext0_upd hT, .tuple [ds[i], es[i]], ?_, rep_newTup hT ⟨rx, ry, trivial⟩ (by show 2 ≤ sizeLine; decide)⟩
  rw [zipL_get, List.getElem?_eq_getElem (show i < ds.length by omega), List.getElem?_eq_getElem (show i < es.length by omega)]
theorem walk_zipT {a b : Addr} {xs ys : List V} {ds es : List D} (hC : ∀ b, C b → O b ∨ H0 b = none) (hd : ODw O H0) (h : SqT K H0 a xs) (h' : SqT K H0 b ys) (r : RepL K O H0 ds xs) (r' : RepL K O H0 es ys) :
    WalkD K O C (RZ.ItzT K a b) (zipL ds es) H0 := fun i H e => by
  have h1 : SqT K H a xs := SqT.extw hd (ext_of_C hC e) h
  have h2 : SqT K H b ys := SqT.extw hd (ext_of_C hC e) h'
  have r1 := r.extw hd (ext_of_C hC e)
  have r2 := r'.extw hd (ext_of_C hC e)
  have l1 := r.length
  have l2 := r'.length
  rw [zipL_len]
  refine ⟨fun hi => ?_, fun hi => ⟨xs, ys, h1, h2, by omega⟩⟩
  obtain ⟨x, ex, rx⟩ := r1.get' (List.getElem?_eq_getElem (show i < ds.length by omega))
  obtain ⟨y, ey, ry⟩ := r2.get' (List.getElem?_eq_getElem (show i < es.length by omega))
  refine ⟨⟨xs, ys, x, y, h1, h2, ex, ey⟩, fun z H' hz => ?_⟩
  obtain ⟨T, x', y', rfl, hT, rfl, f1, f2⟩ := hz
  have g1 := f1 xs h1
  have g2 := f2 ys h2
  rw [ex] at g1; cases g1
  rw [ey] at g2; cases g2
  refine ⟨ext0_upd hT, .tuple [ds[i], es[i]], ?_, rep_newTup hT ⟨rx, ry, trivial⟩ (by show 2 ≤ sizeLine; decide)⟩
  rw [zipL_get, List.getElem?_eq_getElem (show i < ds.length by omega), List.getElem?_eq_getElem (show i < es.length by omega)]
end
theorem odw {O O' : Addr → Prop} {H : Hp} (h : ∀ b, O' b → O b ∨ H b = none) (hd : ODom O H) : ODw O' H := fun b x hb e => by
  rcases h b hb with z | z
  · exact hd.w b x z e
  · rw [z] at e; cases e
/-- what is walked, read -/
def rdI (K : PySem.W.Frag) (P : Pm) (tp : Bool) (L : List Nat) (m : Env → M (List D)) : TI := fun σ H R => ∃ O δ cu, EOk K O P.ac L H δ σ ∧ CuOk P.ac H cu ∧
  wpM (m δ cu) (fun items cu' => ∀ J H', Ext1 P.ac H H' → CuOk P.ac H' cu' → items.length ≤ sizeLine → (∀ O' C : Addr → Prop, (∀ b, O b → O' b) → (∀ b, O' b → O b ∨ H' b = none) → (∀ b, C b → (if tp = true then some b = P.ac else O b) ∨ H' b = none) → WalkD K O' C J items H') → R J H')
    (fun x cu' => ∀ H', Ext1 P.ac H H' → CuOk P.ac H' cu' → P.W (P.cls x) none σ H')
section
variable {X : Cx} {P : Pm} {pos : Pos} {a b c : Expr} {ma mb mc : Env → M D} {fa fb fc tp : Bool} {La Lb Lc L : List Nat} {pins : List (Addr × Obj)} {s : Shared} {σ : L2.St} {H : Hp} {tg : Expr} {R : It → Hp → Prop}
theorem it_list {a : Addr} {xs : List V} (I : L2.Inv X pins σ H s) (h : SqL X.K H a xs) (q : R (Itl X.K a) H) : wpAny (model X.prog X.w) X.A (pyIter (.ref a)) (PIE X pins σ tg R) X.xe s := by
  obtain ⟨its, rv, p, hz⟩ := I.list h
  exact wpAny_pyIter_list p.isList (pi_one (tk := s.toks) I _ (turn_list a _) ⟨_, Heap.get?_push_size _ rfl, rfl, rfl⟩ q)
theorem it_tup {a : Addr} {xs : List V} (I : L2.Inv X pins σ H s) (h : SqT X.K H a xs) (q : R (Itt X.K a) H) : wpAny (model X.prog X.w) X.A (pyIter (.ref a)) (PIE X pins σ tg R) X.xe s := by
  obtain ⟨its, rv, p, hz⟩ := I.tuple h
  exact wpAny_pyIter_tuple (show s.heap.IsTuple a its.toArray from p) (pi_one (tk := s.toks) I _ (turn_tuple a _) ⟨_, Heap.get?_push_size _ rfl, rfl, rfl⟩ q)
theorem it_str {x : Str} {t : Tok} (I : L2.Inv X pins σ H s) (q : R (Its x) H) : wpAny (model X.prog X.w) X.A (pyIter (.str x t)) (PIE X pins σ tg R) X.xe s := by
  cases ha : x.cps.all (· < 128) with
  | false => exact wpAny_pyIter_wide ha (pi_one (tk := s.toks) I _ (turn_str _ x t "str_iterator" (.inr rfl)) ⟨_, Heap.get?_push_size _ rfl, rfl, rfl⟩ q)
  | true => exact wpAny_pyIter_ascii ha (pi_one (tk := s.toks) I _ (turn_str _ x t "str_ascii_iterator" (.inl rfl)) ⟨_, Heap.get?_push_size _ rfl, rfl, rfl⟩ q)
theorem c_ok {O O' C : Addr → Prop} {ac : Option Addr} {H' : Hp} (ho : ∀ a, ac = some a → O a) (h1 : ∀ b, O b → O' b) (hC : ∀ b, C b → (if tp = true then some b = ac else O b) ∨ H' b = none) : ∀ b, C b → O' b ∨ H' b = none := fun b hb => by
  rcases hC b hb with z | z
  · split at z
    · exact .inl (h1 b (ho b z.symm))
    · exact .inl (h1 b z)
  · exact .inr z
/-- a value that is walked -/
theorem snd_it (ha : PE X a (rdE X.K P tp fa La ma)) : PI X tg a (rdI X.K P tp La fun σ => bnd (ma σ) itsM) := by
  refine ⟨fun pins s σ H R I h => ?_⟩
  obtain ⟨O, δ, cu, hE, hc, hw⟩ := h
  have h1 : rdE X.K P tp fa La ma σ H fun v H1 => ∃ d xs cu1, Ext1 P.ac H H1 ∧ CuOk P.ac H1 cu1 ∧ Res tp fa X.K O P.ac H H1 d v ∧ itemsD d = some xs ∧
      ∀ J H', Ext1 P.ac H H' → CuOk P.ac H' cu1 → xs.length ≤ sizeLine → (∀ O' C : Addr → Prop, (∀ b, O b → O' b) → (∀ b, O' b → O b ∨ H' b = none) → (∀ b, C b → (if tp = true then some b = P.ac else O b) ∨ H' b = none) → WalkD X.K O' C J xs H') → R J H' := by
    refine rd_bind hE hc (fun _ h => h) hw (fun d cu1 v H1 e1 c1 r1 hw1 => ?_) fun x cu1 h => h
    obtain ⟨xs, ed, q⟩ := wpM_lft hw1
    exact ⟨d, xs, cu1, e1, c1, r1, ed, q⟩
  refine thn (ha.run pins s σ H _ I h1) fun v s1 ⟨x, H1, I1, rv, d, xs, cu1, e1, c1, r1, ed, q⟩ => ?_
  have hE1 := hE.step e1 c1
  have na := r1.na hE.aco
  unfold itemsD at ed
  split at ed
  · cases ed
    obtain ⟨r0, _⟩ := id r1
    obtain ⟨hz, p, ys, rfl, hp, la⟩ := r1.t
    cases rv
    refine it_list I1 (SqL.of hp) (q _ H1 e1 c1 hz fun O' C h1 h2 hC => walk_list (c_ok hE.aco h1 hC) (odw h2 hE1.dom) (fun z => ?_) hp (la.more h2))
    rcases hC p z with y | y
    · split at y
      · exact na _ rfl p rfl y
      · rename_i ht
        rw [if_neg ht] at r0
        obtain ⟨_, p', _, e2, np, _⟩ := r0
        cases e2
        exact np y
    · rw [hp] at y; cases y
  · cases ed
    obtain ⟨hz, p, ys, rfl, hp, la⟩ := r1.t
    cases rv
    exact it_tup I1 hp (q _ H1 e1 c1 hz fun O' C h1 h2 hC => walk_tup (c_ok hE.aco h1 hC) (odw h2 hE1.dom) hp (la.more h2))
  · cases ed
    obtain ⟨rfl, hz⟩ := r1.t
    obtain ⟨t, rfl⟩ := rv
    exact it_str I1 (q _ H1 e1 c1 (by rw [signs_len]; exact hz) fun O' C h1 h2 hC => walk_str _)
  · cases ed
theorem snd_rng1 {p : Pos} (hg : Gl X "range") (hm : X.mg "range" = none) (ha : PE X a (rdE X.K P true fa La ma)) (hs : starEach [a] X.env = (false, eval a X.env) :: starEach [] X.env) :
    PI X tg (.Call (.Name "range" p) [a] [] pos) (rdI X.K P tp La fun σ => bnd (ma σ) fun x => match x with | .int n => if okR 0 n then ret (rngL 0 n) else stk | _ => stk) := by
  refine PI.weak (pi_range1 hg hm (pa_cons ha pa_nil hs) hs) ?_
  intro σ H Q ⟨O, δ, cu, hE, hc, hw⟩
  refine rd_bind hE hc (fun _ h => h) hw (fun x cu1 v1 H1 e1 c1 r1 hw1 => ?_) fun x cu1 h => h
  cases x with
  | int n =>
    dsimp only at hw1
    split at hw1
    · rename_i hk
      unfold okR at hk
      simp only [Bool.and_eq_true, decide_eq_true_eq] at hk
      refine ⟨n, by rw [show v1 = V.int n from r1.t], by omega, by omega, ?_⟩
      have hw2 := hw1 (Itr 0 (n - 0).toNat) H1 e1 c1 (by unfold rngL; rw [List.length_map, List.length_range, sizeLine_eq]; omega) fun O' C h1 h2 hC => walk_rng 0 n
      rw [Int.sub_zero] at hw2
      exact hw2
    · exact hw1.elim
  | _ => exact hw1.elim
theorem snd_rng2 {p : Pos} (hg : Gl X "range") (hm : X.mg "range" = none) (ha : PE X a (rdE X.K P false fa La ma)) (hb : PE X b (rdE X.K P false fb Lb mb)) (hs : starEach [a, b] X.env = (false, eval a X.env) :: starEach [b] X.env) (hs2 : starEach [b] X.env = (false, eval b X.env) :: starEach [] X.env) :
    PI X tg (.Call (.Name "range" p) [a, b] [] pos) (rdI X.K P tp (La ++ Lb) fun σ => bnd (ma σ) fun x => bnd (mb σ) fun y => match x, y with | .int m, .int n => if okR m n then ret (rngL m n) else stk | _, _ => stk) := by
  refine PI.weak (pi_range2 hg hm (pa_cons ha (pa_cons hb pa_nil hs2) hs) (by rw [hs, hs2]; rfl) hs2) ?_
  intro σ H Q ⟨O, δ, cu, hE, hc, hw⟩
  refine rd_bind hE hc (fun _ => mem_l) hw (fun x cu1 v1 H1 e1 c1 r1 hw1 => ?_) fun x cu1 h => h
  refine rd_bind (hE.step e1 c1) c1 (fun _ => mem_r) hw1 (fun y cu2 v2 H2 e2 c2 r2 hw2 => ?_) (exc_tr e1 fun x cu1 h => h)
  split at hw2
  · rename_i m n
    split at hw2
    · rename_i hk
      unfold okR at hk
      simp only [Bool.and_eq_true, decide_eq_true_eq] at hk
      refine ⟨m, n, by rw [show v1 = V.int m from r1.t, show v2 = V.int n from r2.t], by omega, ?_⟩
      exact hw2 (Itr m (n - m).toNat) H2 (e1.trans e2) c2 (by unfold rngL; rw [List.length_map, List.length_range, sizeLine_eq]; omega) fun O' C h1 h2 hC => walk_rng m n
    · exact hw2.elim
  · exact hw2.elim
theorem snd_zip {p tpos : Pos} {elts : List Expr} {kk : Nat} (hg : Gl X "zip") (hm : X.mg "zip" = none) (ha : PE X a (rdE X.K P tp fa La ma)) (hb : PE X b (rdE X.K P tp fb Lb mb)) (hs : starEach [a, b] X.env = (false, eval a X.env) :: starEach [b] X.env) (hs2 : starEach [b] X.env = (false, eval b X.env) :: starEach [] X.env) :
    PI X (.Tuple elts kk tpos) (.Call (.Name "zip" p) [a, b] [] pos) (rdI X.K P tp (La ++ Lb) fun σ => bnd (ma σ) fun x => bnd (mb σ) fun y => lft (zipD x y)) := by
  refine PI.weak (RZ.pi_zipA hg hm (pa_cons ha (pa_cons hb pa_nil hs2) hs) hs (by rw [hs2]; rfl)) ?_
  intro σ H Q ⟨O, δ, cu, hE, hc, hw⟩
  refine rd_bind hE hc (fun _ => mem_l) hw (fun x cu1 v1 H1 e1 c1 r1 hw1 => ?_) fun x cu1 h => h
  refine rd_bind (hE.step e1 c1) c1 (fun _ => mem_r) hw1 (fun y cu2 v2 H2 e2 c2 r2 hw2 => ?_) (exc_tr e1 fun x cu1 h => h)
  have hE1 := hE.step e1 c1
  have hE2 := hE1.step e2 c2
  obtain ⟨d, ed, q⟩ := wpM_lft hw2
  have na := r1.na hE.aco
  have nb := r2.na hE.aco
  have t1 := rep_step hE1 e2 r1
  unfold zipD at ed
  have nc : ∀ {C : Addr → Prop} {p : Addr} {v : V} {ds : List D} {H3 : Hp}, Res tp fa X.K O P.ac H H3 (.list ds) v ∨ Res tp fb X.K O P.ac H H3 (.list ds) v ∨ Res tp fb X.K O P.ac H1 H3 (.list ds) v → (∀ b, C b → (if tp = true then some b = P.ac else O b) ∨ H2 b = none) → v = .ref p → (∃ xs, H2 p = some (.lst xs)) → ¬ C p := by
    intro C p v ds H3 r hC ev ⟨xs, hp⟩ z
    rcases hC p z with y | y
    · split at y
      · rename_i ht
        rcases r with r | r | r
        · exact r.na hE.aco _ rfl p ev y
        · exact r.na hE.aco _ rfl p ev y
        · exact r.na hE.aco _ rfl p ev y
      · rename_i ht
        have : Rep X.K O H3 (.list ds) v := by
          rcases r with r | r | r
          · have := r.1; rw [if_neg ht] at this; exact this
          · have := r.1; rw [if_neg ht] at this; exact this
          · have := r.1; rw [if_neg ht] at this; exact this
        obtain ⟨_, p', _, e2', np, _⟩ := this
        rw [ev] at e2'; cases e2'
        exact np y
    · rw [hp] at y; cases y
  split at ed
  · cases ed
    obtain ⟨hz, p1, xs, ev, hp, la⟩ := t1
    obtain ⟨hz2, p2, ys, ev2, hp2, la2⟩ := r2.t
    refine ⟨p1, p2, xs, ys, by rw [ev, ev2], .inl ⟨SqL.of hp, SqL.of hp2, q _ H2 (e1.trans e2) c2 (by rw [zipL_len]; omega) fun O' C h1 h2 hC => walk_zipL (c_ok hE.aco h1 hC) (odw h2 hE2.dom) (nc (.inl r1) hC ev ⟨_, hp⟩) (nc (.inr (.inr r2)) hC ev2 ⟨_, hp2⟩) hp hp2 (la.more h2) (la2.more h2)⟩⟩
  · cases ed
    obtain ⟨hz, p1, xs, ev, hp, la⟩ := t1
    obtain ⟨hz2, p2, ys, ev2, hp2, la2⟩ := r2.t
    refine ⟨p1, p2, xs, ys, by rw [ev, ev2], .inr ⟨hp, hp2, q _ H2 (e1.trans e2) c2 (by rw [zipL_len]; omega) fun O' C h1 h2 hC => walk_zipT (c_ok hE.aco h1 hC) (odw h2 hE2.dom) hp hp2 (la.more h2) (la2.more h2)⟩⟩
  · cases ed
end
end OR

/-! enumerate of a tuple -/
namespace OR
open PySem PySem.Spec PyProof.Rows L2 TL

theorem enum0_meets {v : Value} {ob : Obj} {HH : Heap → Prop} (B : Begins v ob HH) : Meets (Builtin.«enumerate.__new__» ⟨[.type "enumerate", v], []⟩)
    (fun _ R s => HH s.heap ∧ R (.ok (.ret (.ref (s.heap.push ob).objs.size))) { s with heap := (s.heap.push ob).push { cls := .type "enumerate", data := .fields #[.none, .bool false, .ref s.heap.objs.size, rawInt 0, .none, .none] } }) :=
  .of_wp fun prog w A R s hq => by
    obtain ⟨hp, gg, dd, tt, oo⟩ := s
    obtain ⟨hb, hr⟩ := hq
    have se := sub_enumerate
    have it0 : ∀ {A' : Around} {E' : Value → Shared → Prop} {Q' : Value → Shared → Prop}, Q' (.ref hp.objs.size) ⟨hp.push ob, gg, dd, tt, oo⟩ → wpAny (model prog w) A' (pyIter v) Q' E' ⟨hp, gg, dd, tt, oo⟩ := fun z => B.iter prog w _ _ ⟨hp, gg, dd, tt, oo⟩ _ hb z
    wp_walk using it0
    refine wpAny_stack_any fun sk => wpAny_pure ?_
    split
    · rename_i cc _ _ _ _ _
      cases (cc == Value.type "enumerate") <;> (wp_walk using it0; exact ⟨_, rfl, hr⟩)
    · wp_walk using it0; exact ⟨_, rfl, hr⟩
section
variable {prog : Program} {w : World} {A : Around} {E : Value → Shared → Prop} {s : Shared}
theorem enum0_call {v : Value} {ob : Obj} {HH : Heap → Prop} {Q : Value → Shared → Prop} (B : Begins v ob HH) (hb : HH s.heap)
    (hq : ∀ h', IsEnum h' (s.heap.objs.size + 1) s.heap.objs.size 0 .none → h'.get? s.heap.objs.size = some ob → h'.objs.size = s.heap.objs.size + 2 → (∀ b o, s.heap.get? b = some o → h'.get? b = some o) → Q (.ref (s.heap.objs.size + 1)) { s with heap := h' }) :
    wpAny (model prog w) A (call (.type "enumerate") [v]) Q E s := by
  have sz : (s.heap.push ob).objs.size = s.heap.objs.size + 1 := Heap.size_push ..
  refine callType_new F.called_enumerate (by decide) (F.typeCall_enumerate_1 _) (F.newCall_enumerate_1 _) (fun x => F.args_object_init_2 x _) F.entry_enumerate_new (enum0_meets B) ⟨hb, ?_⟩
  have en : IsEnum ((s.heap.push ob).push { cls := .type "enumerate", data := .fields #[.none, .bool false, .ref s.heap.objs.size, rawInt 0, .none, .none] }) (s.heap.objs.size + 1) s.heap.objs.size 0 .none := by
    rw [← sz]; exact Heap.get?_push_size (s.heap.push ob) rfl
  rw [sz]
  refine ⟨⟨_, en, rfl⟩, hq _ en (Heap.get?_push_of_some _ (Heap.get?_push_size _ B.free)) (by rw [Heap.size_push, sz]) fun b o z => Heap.get?_push_of_some _ (Heap.get?_push_of_some _ z)⟩
end
/-- the tuple at a, each item in a new pair with its number -/
def IteT (K : PySem.W.Frag) (a : Addr) : It where
  go := fun i H => ∃ (xs : List V) (x : V), SqT K H a xs ∧ xs[i]? = some x
  yld := fun i H v H' => ∃ T x, v = .ref T ∧ H T = none ∧ H' = upd H T (.tup [.int (i : Nat), x]) ∧ ∀ xs, SqT K H a xs → xs[i]? = some x
  stop := fun i H => ∃ xs : List V, SqT K H a xs ∧ xs.length ≤ i
theorem turn_enmT {P : Program} {w : World} {K : PySem.W.Frag} {elts : List Expr} {kk : Nat} {tpos : Pos} (a e it : Addr) :
    Turn P w K (.Tuple elts kk tpos) (IteT K a) [e, it] e (fun i h => (∃ old, IsEnum h e it ((i : Nat) : Int) old) ∧ h.IsTupleIter it a i ∧ (e ≠ it ∧ a ≠ it ∧ e ≠ a)) where
  mem := List.mem_cons_self ..
  obj := fun i h ⟨⟨old, hen⟩, ⟨o, ho, _, hd⟩, _⟩ b hb => by
    rcases List.mem_cons.mp hb with z | z
    · subst z; exact ⟨_, hen, fun v q => nomatch q⟩
    · rw [List.mem_singleton.mp z]; exact ⟨o, ho, fun v q => by rw [hd] at q; cases q⟩
  keep := fun i h h' ⟨⟨old, hen⟩, hti, ne⟩ k => ⟨⟨old, k e (List.mem_cons_self ..) _ hen⟩, hti.at fun o q => k it (by simp) o q, ne⟩
  item := by
    intro X hP hw hK hcm i pins s σ H E I hf st hgo
    subst hP hw hK
    obtain ⟨⟨old, hen⟩, hti, n1, n2, n3⟩ := st
    obtain ⟨xs, x, hsq, hx⟩ := hgo
    obtain ⟨its, rv, p, hz⟩ := I.tuple hsq
    obtain ⟨u, hu, ru⟩ := rv.get hx
    have pt : s.heap.IsTuple a its.toArray := p
    have D := Draws.tuple (prog := X.prog) (w := X.w) (A := X.A.in1) (I.ok.hd hcm) it a n2 its.toArray
    have le : e < s.heap.objs.size := Heap.lt_size hen
    have li : it < s.heap.objs.size := by obtain ⟨_, q, _⟩ := hti; exact Heap.lt_size q
    have hlt : i < its.toArray.size := by
      rw [List.size_toArray]
      exact (List.getElem?_eq_some_iff.mp hu).1
    refine wpAny_pyNext_enum_itemD (D := D) hen ⟨hti, pt⟩ hlt n1 (by simp [n1, n3]) fun y h' tk hy hout hst hT hsz hk => ?_
    have ey : y = u := by
      have hy : its.toArray[i]? = some y := hy
      rw [List.getElem?_toArray, hu] at hy
      exact (Option.some.inj hy).symm
    subst ey
    refine ⟨_, rfl, wpAny_letOwnedTupleGo_enum (s := { s with heap := h', toks := tk + 1 }) hout fun h2 hen2 sb => ?_⟩
    have hT2 : h2.get? s.heap.objs.size = some { cls := .type "tuple", data := .seq #[.int i tk, y] } := (sb.2 _ (Nat.ne_of_gt le)).trans hT
    have ok2 : ObjOk X.prog X.w (upd H s.heap.objs.size (.tup [.int (i : Nat), x])) h2 s.heap.objs.size (.tup [.int (i : Nat), x]) := ⟨by show 2 ≤ sizeLine; decide, [.int i tk, y], .cons ⟨_, rfl⟩ (.cons ru .nil), ⟨_, hT2, rfl, _, rfl⟩⟩
    have I2 : Inv X pins σ (upd H s.heap.objs.size (.tup [.int (i : Nat), x])) { s with heap := h2, toks := tk + 1 } := by
      refine I.turnedNew (ch := [e, it]) (fun b ob hb q => ?_) hf (Nat.le_refl _) ok2
      have b1 : b ≠ e := fun z => hb (by simp [z])
      have b2 : b ≠ it := fun z => hb (by simp [z])
      exact (sb.2 b b1).trans (hk b ob b1 b2 q)
    refine ⟨.ref s.heap.objs.size, _, I2, rfl, ⟨_, x, rfl, I.hok.fresh (Nat.le_refl _), rfl, fun ys hys => by rw [I.tuple_inj hys hsq]; exact hx⟩, ⟨⟨y, ?_⟩, hst.1.at fun o q => (sb.2 it (Ne.symm n1)).trans q, n1, n2, n3⟩, fun b hb => ?_⟩
    · rw [show ((i + 1 : Nat) : Int) = (i : Int) + 1 by omega]; exact hen2
    · have hlb : b < s.heap.objs.size := by
        rcases List.mem_cons.mp hb with z | z
        · rw [z]; exact le
        · rw [List.mem_singleton.mp z]; exact li
      rw [upd_ne (Nat.ne_of_lt hlb)]; exact (hf b hb).1
  done := by
    intro X hP hw hK hcm i pins s σ H E I hf st hgo
    subst hP hw hK
    obtain ⟨⟨old, hen⟩, hti, n1, n2, n3⟩ := st
    obtain ⟨xs, hsq, hx⟩ := hgo
    obtain ⟨its, rv, p, hz⟩ := I.tuple hsq
    obtain ⟨f0, f1, f2, f3, f4, f5⟩ := hf it (by simp)
    have pt : s.heap.IsTuple a its.toArray := p
    have hl := rv.length
    have hT : s.TypeIs (.ref e) "enumerate" := ⟨_, hen, rfl⟩
    unfold pyNext
    refine wpAny_bind (wpAny_attempt (wpAny_callSpecial?_slot (name := Str.ofString "__next__") hT F.slot_enumerate_next (wpAny_call_entry F.slot_enumerate_next hT F.entry_enumerate_next ?_ (F.args_enumerate_next_1 _))))
    show wpAny _ _ (field (.ref e) 2 >>= _) _ _ _
    refine wpAny_bind (wpAny_field hen rfl (x := .ref it) rfl ?_)
    refine wpAny_bind (wpAny_nextOf_tuple_end (I.ok.hd hcm) hti pt (by rw [List.getElem?_toArray]; exact List.getElem?_eq_none (by omega)) fun h' ex hext hcl => ?_)
    obtain ⟨o, ho, hc⟩ := hcl
    refine wpAny_bind (wpAny_isInstance (T := "StopIteration") (b := true) ⟨o, ho, hc⟩ isSubtype_stop ?_)
    exact wpAny_pure ⟨rfl, I.turned (t' := s.toks) (fun b o hb q => hext b o hb q) f0 f1 f3 f4 f5⟩
  self := fun A i s Q E ⟨⟨_, hen⟩, _⟩ hq => wpAny_pyIter_enum hen hq
section
variable {K : PySem.W.Frag} {O C : Addr → Prop} {H0 : Hp}
theorem enmL_get : ∀ (xs : List D) (k i : Nat), (enmL k xs)[i]? = xs[i]?.map fun d => .tuple [.int (k + i : Nat), d]
  | [], _, _ => by simp [enmL]
  | x :: xs, k, 0 => rfl
  | x :: xs, k, i + 1 => by
    show (enmL (k + 1) xs)[i]? = (xs[i]?).map _
    rw [enmL_get xs (k + 1) i, show k + 1 + i = k + (i + 1) by omega]
theorem enmL_len : ∀ (xs : List D) (k : Nat), (enmL k xs).length = xs.length
  | [], _ => rfl
  | x :: xs, k => by
    show (enmL (k + 1) xs).length + 1 = _
    rw [enmL_len xs]; rfl
theorem walk_enmT {a : Addr} {xs : List V} {ds : List D} (hC : ∀ b, C b → O b ∨ H0 b = none) (hd : ODw O H0) (h : SqT K H0 a xs) (r : RepL K O H0 ds xs) : WalkD K O C (IteT K a) (enmL 0 ds) H0 := fun i H e => by
  have h1 : SqT K H a xs := SqT.extw hd (ext_of_C hC e) h
  have r1 := r.extw hd (ext_of_C hC e)
  have ln := r.length
  rw [enmL_len]
  refine ⟨fun hi => ?_, fun hi => ⟨xs, h1, by rw [← ln]; exact hi⟩⟩
  obtain ⟨x, ex, rx⟩ := r1.get' (List.getElem?_eq_getElem hi)
  refine ⟨⟨xs, x, h1, ex⟩, fun z H' hz => ?_⟩
  obtain ⟨T, x', rfl, hT, rfl, f1⟩ := hz
  have q1 := f1 xs h1
  rw [ex] at q1; cases q1
  refine ⟨ext0_upd hT, .tuple [.int (i : Nat), ds[i]], ?_, rep_newTup hT ⟨rfl, rx, trivial⟩ (by show 2 ≤ sizeLine; decide)⟩
  rw [enmL_get, List.getElem?_eq_getElem hi, Nat.zero_add]; rfl
end
section
variable {X : Cx} {P : Pm} {pos : Pos} {a : Expr} {ma : Env → M D} {fa tp : Bool} {La : List Nat}
theorem pi_enmT {elts : List Expr} {kk : Nat} {tpos : Pos} {te : TE} {p : Pos} (hg : Gl X "enumerate") (hm : X.mg "enumerate" = none) (ha : PE X a te) (hs : starEach [a] X.env = (false, eval a X.env) :: starEach [] X.env) :
    PI X (.Tuple elts kk tpos) (.Call (.Name "enumerate" p) [a] [] pos) (fun σ H R => te σ H fun x H1 => ∃ y ad xs, [x] = [y] ∧ y = .ref ad ∧ SqT X.K H1 ad xs ∧ R (IteT X.K ad) H1) := by
  refine ⟨fun pins s σ H R I h => ?_⟩
  refine Call_ (ld_blt I hg hm boot_enumerate (PyProof.Rows.callWith_type1 (thn ((pa_cons ha pa_nil hs).run pos pins s σ H (fun vs H1 => ∃ y ad xs, vs = [y] ∧ y = .ref ad ∧ SqT X.K H1 ad xs ∧ R (IteT X.K ad) H1) I ?_) fun us s1 ⟨vs, H1, I1, r1, q1⟩ => ?_) hs rfl))
  · exact h
  · obtain ⟨x, ad, xs, ev, ex, hq, q⟩ := q1
    subst ev; subst ex
    obtain ⟨u, rfl, ru⟩ : ∃ u, us = [u] ∧ RelV (.ref ad) u := by
      cases r1 with
      | cons r rr => cases rr; exact ⟨_, rfl, r⟩
    cases ru
    obtain ⟨its, rv, p', hz⟩ := I1.tuple hq
    have pt : s1.heap.IsTuple ad its.toArray := p'
    refine enum0_call (begins_tuple ad its.toArray) pt fun h' hen hit hsz hk => wpAny_pyIter_enum hen ?_
    have I2 : Inv X pins σ H1 { s1 with heap := h' } := I1.kept (t' := s1.toks) hk
    have lta : ad < s1.heap.objs.size := by
      obtain ⟨o, ho, _⟩ := pt
      exact Heap.lt_size ho
    have big : ∀ b ∈ [s1.heap.objs.size + 1, s1.heap.objs.size], s1.heap.objs.size ≤ b := fun b hb => by
      rcases List.mem_cons.mp hb with z | z
      · rw [z]; exact Nat.le_succ _
      · rw [List.mem_singleton.mp z]; exact Nat.le_refl _
    refine ⟨s1.heap.objs.size + 1, [s1.heap.objs.size + 1, s1.heap.objs.size], _, _, H1, rfl, I2, turn_enmT ad (s1.heap.objs.size + 1) s1.heap.objs.size, ⟨⟨.none, hen⟩, ⟨_, hit, rfl, rfl⟩, Nat.succ_ne_self _, Nat.ne_of_lt lta, ?_⟩, fun b hb => I1.fpOk (big b hb) (I1.hok.fresh (big b hb)), q⟩
    exact Nat.ne_of_gt (Nat.lt_succ_of_lt lta)
theorem snd_enm {elts : List Expr} {kk : Nat} {tpos p : Pos} (hg : Gl X "enumerate") (hm : X.mg "enumerate" = none) (ha : PE X a (rdE X.K P tp fa La ma)) (hs : starEach [a] X.env = (false, eval a X.env) :: starEach [] X.env) :
    PI X (.Tuple elts kk tpos) (.Call (.Name "enumerate" p) [a] [] pos) (rdI X.K P tp La fun σ => bnd (ma σ) fun x => lft (enmD x)) := by
  refine PI.weak (pi_enmT hg hm ha hs) ?_
  intro σ H Q ⟨O, δ, cu, hE, hc, hw⟩
  refine rd_bind hE hc (fun _ h => h) hw (fun x cu1 v1 H1 e1 c1 r1 hw1 => ?_) fun x cu1 h => h
  have hE1 := hE.step e1 c1
  obtain ⟨d, ed, q⟩ := wpM_lft hw1
  cases x with
  | tuple ds =>
    cases ed
    obtain ⟨hz, p1, xs, ev, hp, la⟩ := r1.t
    exact ⟨v1, p1, xs, rfl, ev, hp, q _ H1 e1 c1 (by rw [enmL_len]; exact hz) fun O' C h1 h2 hC => walk_enmT (c_ok hE.aco h1 hC) (odw h2 hE1.dom) hp (la.more h2)⟩
  | _ => cases ed
end
end OR

/-! targets; comprehensions -/
namespace OR
open PySem PySem.Spec PyProof.Rows L2 TL

def clen : CE → Nat
  | .cons _ t => clen t + 1
  | _ => 0
mutual
def gT (K : PySem.W.Frag) : CE → TG
  | .var i => gName i
  | .tup es => gTup K (clen es) (gTs K es)
  | _ => fun _ _ _ _ => False
def gTs (K : PySem.W.Frag) : CE → TGs
  | .nil => gNil
  | .cons h t => gCons (gT K h) (gTs K t)
  | _ => fun _ _ _ _ => False
end
section
variable {K : PySem.W.Frag} {O : Addr → Prop} {ac : Option Addr} {L : List Nat} {H : Hp}
theorem set_get {α : Type} {l : List α} {i j : Nat} {x y : α} (h : (l.set i x)[j]? = some y) : (j = i ∧ y = x ∧ i < l.length) ∨ (j ≠ i ∧ l[j]? = some y) := by
  by_cases hj : j = i
  · subst hj
    by_cases hl : j < l.length
    · rw [List.getElem?_set_self hl] at h
      exact .inl ⟨rfl, (Option.some.inj h).symm, hl⟩
    · rw [List.getElem?_eq_none (by simpa using hl)] at h
      cases h
  · rw [List.getElem?_set_ne (fun z => hj z.symm)] at h
    exact .inr ⟨hj, h⟩
theorem EOk.setv {δ : Env} {σ : L2.St} {i : Nat} {d : D} {v : V} (h : EOk K O ac L H δ σ) (r : Rep K O H d v) : EOk K O ac L H (δ.set i (.val d)) (σ.set i (some v)) := by
  have old : ∀ {j : Nat} {y : Option V}, j ≠ i → σ[j]? = some y → (σ.set i (some v))[j]? = some y := fun {j y} hj e => by rw [List.getElem?_set_ne (fun z => hj z.symm)]; exact e
  refine ⟨by simp [h.len], h.dom, h.aco, fun j e q => ?_, fun j e q => ?_, fun j q => ?_, fun j is q => ?_, fun j o q => ?_⟩
  · rcases set_get q with ⟨rfl, e1, hl⟩ | ⟨hj, q⟩
    · cases e1
      exact ⟨v, by rw [List.getElem?_set_self (by rw [← h.len]; exact hl)], r⟩
    · obtain ⟨w, a, b⟩ := h.val j e q
      exact ⟨w, old hj a, b⟩
  · rcases set_get q with ⟨rfl, e1, hl⟩ | ⟨hj, q⟩
    · cases e1
    · obtain ⟨w, a, b⟩ := h.own j e q
      exact ⟨w, old hj a, b⟩
  · rcases set_get q with ⟨rfl, e1, hl⟩ | ⟨hj, q⟩
    · cases e1
    · obtain ⟨w, a, b⟩ := h.cup j q
      exact ⟨w, a, old hj b⟩
  · rcases set_get q with ⟨rfl, e1, hl⟩ | ⟨hj, q⟩
    · cases e1
    · obtain ⟨w, a, b⟩ := h.scr j is q
      exact ⟨w, old hj a, b⟩
  · rcases set_get q with ⟨rfl, e1, hl⟩ | ⟨hj, q⟩
    · cases e1
    · obtain ⟨w, a, b⟩ := h.obj j o q
      exact ⟨w, old hj a, b⟩
theorem wipe_set {i : Nat} {x : Option V} : ∀ {vs : List Nat} {σ : L2.St}, i ∈ vs → wipe (σ.set i x) vs = wipe σ vs
  | [], _, h => by cases h
  | v :: vs, σ, h => by
    unfold wipe
    by_cases hv : i ∈ vs
    · rw [wipe_set hv]
    · have e : i = v := by
        rcases List.mem_cons.mp h with e | e
        · exact e
        · exact absurd e hv
      subst e
      have gen : ∀ {vs : List Nat} {σ : L2.St}, i ∉ vs → wipe (σ.set i x) vs = (wipe σ vs).set i x := by
        intro vs
        induction vs with
        | nil => intro σ _; rfl
        | cons w ws ih =>
          intro σ hn
          simp only [List.mem_cons, not_or] at hn
          unfold wipe
          rw [ih hn.2, List.set_comm _ _ hn.1]
      rw [gen hv, List.set_set]
mutual
theorem gT_mono : ∀ (tg : CE) {v : V} {σ : L2.St} {H : Hp} {Q Q' : L2.St → Hp → Prop}, gT K tg v σ H Q → (∀ σ H, Q σ H → Q' σ H) → gT K tg v σ H Q'
  | .var i, v, σ, H, Q, Q', h, f => f _ _ h
  | .tup es, v, σ, H, Q, Q', h, f => by
    obtain ⟨a, xs, e1, e2, e3, h⟩ := h
    exact ⟨a, xs, e1, e2, e3, gTs_mono es h f⟩
  | .cst _, _, _, _, _, _, h, _ => h.elim
  | .glb _ _, _, _, _, _, _, h, _ => h.elim
  | .lst _, _, _, _, _, _, h, _ => h.elim
  | .bin _ _ _, _, _, _, _, _, h, _ => h.elim
  | .neg _, _, _, _, _, _, h, _ => h.elim
  | .not _, _, _, _, _, _, h, _ => h.elim
  | .cmp _ _ _, _, _, _, _, _, h, _ => h.elim
  | .chn _ _ _ _ _, _, _, _, _, _, h, _ => h.elim
  | .and _, _, _, _, _, _, h, _ => h.elim
  | .or _, _, _, _, _, _, h, _ => h.elim
  | .ite _ _ _, _, _, _, _, _, h, _ => h.elim
  | .sub _ _, _, _, _, _, _, h, _ => h.elim
  | .slc _ _ _, _, _, _, _, _, h, _ => h.elim
  | .rev _, _, _, _, _, _, h, _ => h.elim
  | .call _ _, _, _, _, _, _, h, _ => h.elim
  | .bi _ _, _, _, _, _, _, h, _ => h.elim
  | .mth _ _ _, _, _, _, _, _, h, _ => h.elim
  | .rng _, _, _, _, _, _, h, _ => h.elim
  | .enm _, _, _, _, _, _, h, _ => h.elim
  | .zip _ _, _, _, _, _, _, h, _ => h.elim
  | .lscr _, _, _, _, _, _, h, _ => h.elim
  | .lc _ _ _ _, _, _, _, _, _, h, _ => h.elim
  | .lc2 _ _ _ _ _ _ _, _, _, _, _, _, h, _ => h.elim
  | .cupR _ _, _, _, _, _, _, h, _ => h.elim
  | .nev, _, _, _, _, _, h, _ => h.elim
  | .nil, _, _, _, _, _, h, _ => h.elim
  | .cons _ _, _, _, _, _, _, h, _ => h.elim
theorem gTs_mono : ∀ (tg : CE) {vs : List V} {σ : L2.St} {H : Hp} {Q Q' : L2.St → Hp → Prop}, gTs K tg vs σ H Q → (∀ σ H, Q σ H → Q' σ H) → gTs K tg vs σ H Q'
  | .nil, vs, σ, H, Q, Q', h, f => ⟨h.1, f _ _ h.2⟩
  | .cons a t, vs, σ, H, Q, Q', h, f => by
    obtain ⟨v, r, e, h⟩ := h
    exact ⟨v, r, e, gT_mono a h fun σ' H' h' => gTs_mono t h' f⟩
  | .cst _, _, _, _, _, _, h, _ => h.elim
  | .glb _ _, _, _, _, _, _, h, _ => h.elim
  | .lst _, _, _, _, _, _, h, _ => h.elim
  | .bin _ _ _, _, _, _, _, _, h, _ => h.elim
  | .neg _, _, _, _, _, _, h, _ => h.elim
  | .not _, _, _, _, _, _, h, _ => h.elim
  | .cmp _ _ _, _, _, _, _, _, h, _ => h.elim
  | .chn _ _ _ _ _, _, _, _, _, _, h, _ => h.elim
  | .and _, _, _, _, _, _, h, _ => h.elim
  | .or _, _, _, _, _, _, h, _ => h.elim
  | .ite _ _ _, _, _, _, _, _, h, _ => h.elim
  | .sub _ _, _, _, _, _, _, h, _ => h.elim
  | .slc _ _ _, _, _, _, _, _, h, _ => h.elim
  | .rev _, _, _, _, _, _, h, _ => h.elim
  | .call _ _, _, _, _, _, _, h, _ => h.elim
  | .bi _ _, _, _, _, _, _, h, _ => h.elim
  | .mth _ _ _, _, _, _, _, _, h, _ => h.elim
  | .rng _, _, _, _, _, _, h, _ => h.elim
  | .enm _, _, _, _, _, _, h, _ => h.elim
  | .zip _ _, _, _, _, _, _, h, _ => h.elim
  | .lscr _, _, _, _, _, _, h, _ => h.elim
  | .lc _ _ _ _, _, _, _, _, _, h, _ => h.elim
  | .lc2 _ _ _ _ _ _ _, _, _, _, _, _, h, _ => h.elim
  | .cupR _ _, _, _, _, _, _, h, _ => h.elim
  | .nev, _, _, _, _, _, h, _ => h.elim
  | .var _, _, _, _, _, _, h, _ => h.elim
  | .tup _, _, _, _, _, _, h, _ => h.elim
end
mutual
theorem gT_out {p : Prop} : ∀ (tg : CE) {v : V} {σ : L2.St} {H : Hp}, (gT K tg v σ H fun _ _ => p) → p
  | .var i, v, σ, H, h => h
  | .tup es, v, σ, H, h => by
    obtain ⟨a, xs, _, _, _, h⟩ := h
    exact gTs_out es h
  | .cst _, _, _, _, h => h.elim
  | .glb _ _, _, _, _, h => h.elim
  | .lst _, _, _, _, h => h.elim
  | .bin _ _ _, _, _, _, h => h.elim
  | .neg _, _, _, _, h => h.elim
  | .not _, _, _, _, h => h.elim
  | .cmp _ _ _, _, _, _, h => h.elim
  | .chn _ _ _ _ _, _, _, _, h => h.elim
  | .and _, _, _, _, h => h.elim
  | .or _, _, _, _, h => h.elim
  | .ite _ _ _, _, _, _, h => h.elim
  | .sub _ _, _, _, _, h => h.elim
  | .slc _ _ _, _, _, _, h => h.elim
  | .rev _, _, _, _, h => h.elim
  | .call _ _, _, _, _, h => h.elim
  | .bi _ _, _, _, _, h => h.elim
  | .mth _ _ _, _, _, _, h => h.elim
  | .rng _, _, _, _, h => h.elim
  | .enm _, _, _, _, h => h.elim
  | .zip _ _, _, _, _, h => h.elim
  | .lscr _, _, _, _, h => h.elim
  | .lc _ _ _ _, _, _, _, h => h.elim
  | .lc2 _ _ _ _ _ _ _, _, _, _, h => h.elim
  | .cupR _ _, _, _, _, h => h.elim
  | .nev, _, _, _, h => h.elim
  | .nil, _, _, _, h => h.elim
  | .cons _ _, _, _, _, h => h.elim
theorem gTs_out {p : Prop} : ∀ (tg : CE) {vs : List V} {σ : L2.St} {H : Hp}, (gTs K tg vs σ H fun _ _ => p) → p
  | .nil, vs, σ, H, h => h.2
  | .cons a t, vs, σ, H, h => by
    obtain ⟨v, r, _, h⟩ := h
    have h2 : gT K a v σ H fun _ _ => p := gT_mono a h fun σ' H' h' => gTs_out t h'
    exact gT_out a h2
  | .cst _, _, _, _, h => h.elim
  | .glb _ _, _, _, _, h => h.elim
  | .lst _, _, _, _, h => h.elim
  | .bin _ _ _, _, _, _, h => h.elim
  | .neg _, _, _, _, h => h.elim
  | .not _, _, _, _, h => h.elim
  | .cmp _ _ _, _, _, _, h => h.elim
  | .chn _ _ _ _ _, _, _, _, h => h.elim
  | .and _, _, _, _, h => h.elim
  | .or _, _, _, _, h => h.elim
  | .ite _ _ _, _, _, _, h => h.elim
  | .sub _ _, _, _, _, h => h.elim
  | .slc _ _ _, _, _, _, h => h.elim
  | .rev _, _, _, _, h => h.elim
  | .call _ _, _, _, _, h => h.elim
  | .bi _ _, _, _, _, h => h.elim
  | .mth _ _ _, _, _, _, h => h.elim
  | .rng _, _, _, _, h => h.elim
  | .enm _, _, _, _, h => h.elim
  | .zip _ _, _, _, _, h => h.elim
  | .lscr _, _, _, _, h => h.elim
  | .lc _ _ _ _, _, _, _, h => h.elim
  | .lc2 _ _ _ _ _ _ _, _, _, _, h => h.elim
  | .cupR _ _, _, _, _, h => h.elim
  | .nev, _, _, _, h => h.elim
  | .var _, _, _, _, h => h.elim
  | .tup _, _, _, _, h => h.elim
end
mutual
theorem gT_gen {I : Env → L2.St → Prop} (hI : ∀ {δ : Env} {σ : L2.St} {i : Nat} {d : D} {v : V}, I δ σ → Rep K O H d v → I (δ.set i (.val d)) (σ.set i (some v))) : ∀ {tg : CE} {d : D} {v : V} {δ δ' : Env} {σ : L2.St} {Q : L2.St → Hp → Prop}, I δ σ → bindT tg d δ = some δ' → Rep K O H d v →
    (∀ σ', I δ' σ' → (∀ vs, (∀ i ∈ tgs tg, i ∈ vs) → wipe σ' vs = wipe σ vs) → Q σ' H) → gT K tg v σ H Q
  | .var i, d, v, δ, δ', σ, Q, hE, hb, hr, hQ => by
    have e : δ' = δ.set i (.val d) := (Option.some.inj hb).symm
    subst e
    exact hQ _ (hI hE hr) fun vs hv => wipe_set (hv i (by simp [tgs]))
  | .tup es, d, v, δ, δ', σ, Q, hE, hb, hr, hQ => by
    cases d with
    | tuple xs =>
      obtain ⟨hz, a, ys, e, hs, hl⟩ := hr
      have hb' : bindTs es xs δ = some δ' := hb
      have hQ' : ∀ σ', I δ' σ' → (∀ vs, (∀ i ∈ tgs es, i ∈ vs) → wipe σ' vs = wipe σ vs) → Q σ' H := hQ
      obtain ⟨h1, h2⟩ := gTs_gen hI hE hb' hl hQ'
      exact ⟨a, ys, e, hs, h1, h2⟩
    | _ => cases hb
  | .cst _, _, _, _, _, _, _, _, hb, _, _ => by cases hb
  | .glb _ _, _, _, _, _, _, _, _, hb, _, _ => by cases hb
  | .lst _, _, _, _, _, _, _, _, hb, _, _ => by cases hb
  | .bin _ _ _, _, _, _, _, _, _, _, hb, _, _ => by cases hb
  | .neg _, _, _, _, _, _, _, _, hb, _, _ => by cases hb
  | .not _, _, _, _, _, _, _, _, hb, _, _ => by cases hb
  | .cmp _ _ _, _, _, _, _, _, _, _, hb, _, _ => by cases hb
  | .chn _ _ _ _ _, _, _, _, _, _, _, _, hb, _, _ => by cases hb
  | .and _, _, _, _, _, _, _, _, hb, _, _ => by cases hb
  | .or _, _, _, _, _, _, _, _, hb, _, _ => by cases hb
  | .ite _ _ _, _, _, _, _, _, _, _, hb, _, _ => by cases hb
  | .sub _ _, _, _, _, _, _, _, _, hb, _, _ => by cases hb
  | .slc _ _ _, _, _, _, _, _, _, _, hb, _, _ => by cases hb
  | .rev _, _, _, _, _, _, _, _, hb, _, _ => by cases hb
  | .call _ _, _, _, _, _, _, _, _, hb, _, _ => by cases hb
  | .bi _ _, _, _, _, _, _, _, _, hb, _, _ => by cases hb
  | .mth _ _ _, _, _, _, _, _, _, _, hb, _, _ => by cases hb
  | .rng _, _, _, _, _, _, _, _, hb, _, _ => by cases hb
  | .enm _, _, _, _, _, _, _, _, hb, _, _ => by cases hb
  | .zip _ _, _, _, _, _, _, _, _, hb, _, _ => by cases hb
  | .lscr _, _, _, _, _, _, _, _, hb, _, _ => by cases hb
  | .lc _ _ _ _, _, _, _, _, _, _, _, hb, _, _ => by cases hb
  | .lc2 _ _ _ _ _ _ _, _, _, _, _, _, _, _, hb, _, _ => by cases hb
  | .cupR _ _, _, _, _, _, _, _, _, hb, _, _ => by cases hb
  | .nev, _, _, _, _, _, _, _, hb, _, _ => by cases hb
  | .nil, _, _, _, _, _, _, _, hb, _, _ => by cases hb
  | .cons _ _, _, _, _, _, _, _, _, hb, _, _ => by cases hb
theorem gTs_gen {I : Env → L2.St → Prop} (hI : ∀ {δ : Env} {σ : L2.St} {i : Nat} {d : D} {v : V}, I δ σ → Rep K O H d v → I (δ.set i (.val d)) (σ.set i (some v))) : ∀ {tg : CE} {ds : List D} {vs : List V} {δ δ' : Env} {σ : L2.St} {Q : L2.St → Hp → Prop}, I δ σ → bindTs tg ds δ = some δ' → RepL K O H ds vs →
    (∀ σ', I δ' σ' → (∀ vs, (∀ i ∈ tgs tg, i ∈ vs) → wipe σ' vs = wipe σ vs) → Q σ' H) → vs.length = clen tg ∧ gTs K tg vs σ H Q
  | .nil, ds, vs, δ, δ', σ, Q, hE, hb, hr, hQ => by
    cases ds with
    | nil =>
      cases vs with
      | nil =>
        have e : δ' = δ := (Option.some.inj hb).symm
        subst e
        exact ⟨rfl, rfl, hQ σ hE fun _ _ => rfl⟩
      | cons _ _ => exact hr.elim
    | cons _ _ => cases hb
  | .cons h t, ds, vs, δ, δ', σ, Q, hE, hb, hr, hQ => by
    cases ds with
    | nil => cases hb
    | cons d ds =>
      cases vs with
      | nil => exact hr.elim
      | cons v vs =>
        have hb' : (bindT h d δ).bind (fun σ' => bindTs t ds σ') = some δ' := hb
        obtain ⟨δ1, e1, e2⟩ := Option.bind_eq_some_iff.mp hb'
        have key : ∀ σ1, I δ1 σ1 → (∀ vs, (∀ i ∈ tgs h, i ∈ vs) → wipe σ1 vs = wipe σ vs) → vs.length = clen t ∧ gTs K t vs σ1 H Q := fun σ1 hE1 w1 =>
          gTs_gen hI hE1 e2 hr.2 fun σ2 hE2 w2 => hQ σ2 hE2 fun us hu => (w2 us fun i hi => hu i (List.mem_append_right _ hi)).trans (w1 us fun i hi => hu i (List.mem_append_left _ hi))
        have hlen : vs.length = clen t := by
          have hg : gT K h v σ H fun σ1 _ => vs.length = clen t := gT_gen hI hE e1 hr.1 fun σ1 hE1 w1 => (key σ1 hE1 w1).1
          exact gT_out h hg
        refine ⟨by rw [List.length_cons, hlen]; rfl, v, vs, rfl, gT_gen hI hE e1 hr.1 fun σ1 hE1 w1 => (key σ1 hE1 w1).2⟩
  | .cst _, _, _, _, _, _, _, _, hb, _, _ => by cases hb
  | .glb _ _, _, _, _, _, _, _, _, hb, _, _ => by cases hb
  | .lst _, _, _, _, _, _, _, _, hb, _, _ => by cases hb
  | .bin _ _ _, _, _, _, _, _, _, _, hb, _, _ => by cases hb
  | .neg _, _, _, _, _, _, _, _, hb, _, _ => by cases hb
  | .not _, _, _, _, _, _, _, _, hb, _, _ => by cases hb
  | .cmp _ _ _, _, _, _, _, _, _, _, hb, _, _ => by cases hb
  | .chn _ _ _ _ _, _, _, _, _, _, _, _, hb, _, _ => by cases hb
  | .and _, _, _, _, _, _, _, _, hb, _, _ => by cases hb
  | .or _, _, _, _, _, _, _, _, hb, _, _ => by cases hb
  | .ite _ _ _, _, _, _, _, _, _, _, hb, _, _ => by cases hb
  | .sub _ _, _, _, _, _, _, _, _, hb, _, _ => by cases hb
  | .slc _ _ _, _, _, _, _, _, _, _, hb, _, _ => by cases hb
  | .rev _, _, _, _, _, _, _, _, hb, _, _ => by cases hb
  | .call _ _, _, _, _, _, _, _, _, hb, _, _ => by cases hb
  | .bi _ _, _, _, _, _, _, _, _, hb, _, _ => by cases hb
  | .mth _ _ _, _, _, _, _, _, _, _, hb, _, _ => by cases hb
  | .rng _, _, _, _, _, _, _, _, hb, _, _ => by cases hb
  | .enm _, _, _, _, _, _, _, _, hb, _, _ => by cases hb
  | .zip _ _, _, _, _, _, _, _, _, hb, _, _ => by cases hb
  | .lscr _, _, _, _, _, _, _, _, hb, _, _ => by cases hb
  | .lc _ _ _ _, _, _, _, _, _, _, _, hb, _, _ => by cases hb
  | .lc2 _ _ _ _ _ _ _, _, _, _, _, _, _, _, hb, _, _ => by cases hb
  | .cupR _ _, _, _, _, _, _, _, _, hb, _, _ => by cases hb
  | .nev, _, _, _, _, _, _, _, hb, _, _ => by cases hb
  | .var _, _, _, _, _, _, _, _, hb, _, _ => by cases hb
  | .tup _, _, _, _, _, _, _, _, hb, _, _ => by cases hb
end
theorem gT_ok {tg : CE} {d : D} {v : V} {δ δ' : Env} {σ : L2.St} {Q : L2.St → Hp → Prop} (h : EOk K O ac L H δ σ) (hb : bindT tg d δ = some δ') (hr : Rep K O H d v)
    (hQ : ∀ σ', EOk K O ac L H δ' σ' → (∀ vs, (∀ i ∈ tgs tg, i ∈ vs) → wipe σ' vs = wipe σ vs) → Q σ' H) : gT K tg v σ H Q := gT_gen (I := fun δ σ => EOk K O ac L H δ σ) (fun h r => h.setv r) h hb hr hQ
end
end OR

/-! comprehensions -/
namespace OR
open PySem PySem.Spec PyProof.Rows L2 TL

theorem EOk.blk {K : PySem.W.Frag} {O : Addr → Prop} {ac : Option Addr} {L : List Nat} {H1 H2 : Hp} {δ : Env} {σ : L2.St} {cu : Cu} {D : Addr} {xs : List V} (h : EOk K O ac L H1 δ σ) (hD : H1 D = none) (h2 : H2 D = some (.lst xs))
    (e : Ext (fun b => some b = ac ∨ b = D) H1 H2) (c : CuOk ac H2 cu) : EOk K (fun b => O b ∨ b = D) ac L H2 δ σ := by
  have mo : ∀ a, (O a ∨ a = D) → O a ∨ H1 a = none := fun a z => z.imp id fun q => by rw [q]; exact hD
  have ow : ODw (fun b => O b ∨ b = D) H1 := odw mo h.dom
  have ex : Ext (fun b => O b ∨ b = D) H1 H2 := fun b x nb q => e b x (fun z => nb (z.imp (fun y => h.aco b y.symm) id)) q
  have r : ∀ {d : OR.D} {v : V}, Rep K O H1 d v → Rep K (fun b => O b ∨ b = D) H2 d v := fun q => (q.more mo).extw ow ex
  refine ⟨h.len, fun b hb => ?_, fun a z => .inl (h.aco a z), fun i d q => ?_, fun i d q => ?_, h.cup, fun i is q => ?_, fun i o q => ?_⟩
  · rcases hb with hb | hb
    · obtain ⟨ys, q, m⟩ := h.dom b hb
      by_cases hp : some b = ac
      · subst hp
        obtain ⟨i, j, _, e2⟩ := c.at
        exact ⟨_, e2, trivial⟩
      · refine ⟨ys, e b _ (fun z => z.elim hp fun y => ?_) q, m⟩
        rw [y, hD] at q; cases q
    · rw [hb]; exact ⟨_, h2, trivial⟩
  · obtain ⟨v, a, b⟩ := h.val i d q
    exact ⟨v, a, r b⟩
  · obtain ⟨v, a, b, c2, f⟩ := h.own i d q
    refine ⟨v, a, ?_, c2, fun z => r (f z)⟩
    cases d with
    | list ds =>
      obtain ⟨hz, p, ys, ev, hp, la⟩ := b
      refine ⟨hz, p, ys, ev, e p _ (fun z => z.elim (c2 ds rfl p ev) fun y => ?_) hp, (la.more mo).extw ow ex⟩
      rw [y, hD] at hp; cases hp
    | none => exact b
    | bool _ => exact b
    | int _ => exact b
    | str _ => exact b
    | tuple ds => exact r (d := .tuple ds) b
    | dict _ => exact b
  · obtain ⟨a, b, na, f⟩ := h.scr i is q
    refine ⟨a, b, na, ?_⟩
    rcases f with (f | ⟨o, f⟩) | f
    · exact .inl (.inl (e _ _ (fun z => z.elim na fun y => by rw [y, hD] at f; cases f) f))
    · exact .inl (.inr ⟨o, e _ _ (fun z => z.elim na fun y => by rw [y, hD] at f; cases f) f⟩)
    · exact .inr f
  · obtain ⟨a, b, na, f⟩ := h.obj i o q
    exact ⟨a, b, na, f.e fun x z => e _ _ (fun w => w.elim na fun y => f.there (by rw [y]; exact hD)) z⟩
theorem CuOk.upd {ac : Option Addr} {H : Hp} {cu : Cu} {D : Addr} {x : HO} (h : CuOk ac H cu) (n : some D ≠ ac) : CuOk ac (upd H D x) cu := by
  cases ac with
  | none => cases cu with
    | none => trivial
    | some _ => exact h.elim
  | some a =>
    obtain ⟨i, j, e, q⟩ := h.at
    subst e
    have hn : a ≠ D := fun z => n (by rw [z])
    show L2.upd H D x a = _
    rw [upd_ne hn]; exact q
theorem wipe_wipe (σ : L2.St) (vs : List Nat) : wipe (wipe σ vs) vs = wipe σ vs := by
  have key : ∀ (us : List Nat) (τ : L2.St), (∀ i ∈ us, τ[i]? = none ∨ τ[i]? = some none) → wipe τ us = τ := by
    intro us
    induction us with
    | nil => intro τ _; rfl
    | cons u us ih =>
      intro τ h
      have e : wipe τ (u :: us) = (wipe τ us).set u none := rfl
      rw [e, ih τ fun i hi => h i (List.mem_cons_of_mem _ hi)]
      apply List.ext_getElem?
      intro j
      by_cases hj : j = u
      · subst hj
        rcases h j (List.mem_cons_self ..) with q | q
        · rw [List.getElem?_eq_none (by rw [List.length_set]; exact List.getElem?_eq_none_iff.mp q), q]
        · obtain ⟨hl, _⟩ := List.getElem?_eq_some_iff.mp q
          rw [List.getElem?_set_self hl, q]
      · rw [List.getElem?_set_ne (fun z => hj z.symm)]
  refine key vs _ fun i hi => ?_
  clear key
  induction vs with
  | nil => cases hi
  | cons u us ih =>
    have e : wipe σ (u :: us) = (wipe σ us).set u none := rfl
    rw [e]
    by_cases hj : i = u
    · subst hj
      by_cases hl : i < (wipe σ us).length
      · exact .inr (List.getElem?_set_self hl)
      · exact .inl (List.getElem?_eq_none (by rw [List.length_set]; omega))
    · rw [List.getElem?_set_ne (fun z => hj z.symm)]
      exact ih ((List.mem_cons.mp hi).resolve_left hj)
theorem EOk.wip {K : PySem.W.Frag} {O : Addr → Prop} {ac : Option Addr} {L : List Nat} {H : Hp} {σ : L2.St} : ∀ {vs : List Nat} {δ : Env}, EOk K O ac L H δ σ → EOk K O ac L H (OR.wip vs δ) (wipe σ vs)
  | [], δ, h => h
  | v :: vs, δ, h => by
    have ih := EOk.wip (vs := vs) h
    have e1 : OR.wip (v :: vs) δ = (OR.wip vs δ).set v .no := rfl
    have e2 : wipe σ (v :: vs) = (wipe σ vs).set v none := rfl
    rw [e1, e2]
    have old : ∀ {j : Nat} {y : Option V}, j ≠ v → (wipe σ vs)[j]? = some y → ((wipe σ vs).set v none)[j]? = some y := fun {j y} hj e => by rw [List.getElem?_set_ne (fun z => hj z.symm)]; exact e
    refine ⟨by simp [ih.len], ih.dom, ih.aco, fun j e q => ?_, fun j e q => ?_, fun j q => ?_, fun j is q => ?_, fun j o q => ?_⟩
    · rcases set_get q with ⟨rfl, e1, hl⟩ | ⟨hj, q⟩
      · cases e1
      · obtain ⟨w, a, b⟩ := ih.val j e q
        exact ⟨w, old hj a, b⟩
    · rcases set_get q with ⟨rfl, e1, hl⟩ | ⟨hj, q⟩
      · cases e1
      · obtain ⟨w, a, b⟩ := ih.own j e q
        exact ⟨w, old hj a, b⟩
    · rcases set_get q with ⟨rfl, e1, hl⟩ | ⟨hj, q⟩
      · cases e1
      · obtain ⟨w, a, b⟩ := ih.cup j q
        exact ⟨w, a, old hj b⟩
    · rcases set_get q with ⟨rfl, e1, hl⟩ | ⟨hj, q⟩
      · cases e1
      · obtain ⟨w, a, b⟩ := ih.scr j is q
        exact ⟨w, old hj a, b⟩
    · rcases set_get q with ⟨rfl, e1, hl⟩ | ⟨hj, q⟩
      · cases e1
      · obtain ⟨w, a, b⟩ := ih.obj j o q
        exact ⟨w, old hj a, b⟩
/-- within a block no exception may leave -/
def Pm.quiet (P : Pm) : Pm := { P with W := fun _ _ _ _ => False }
section
variable {X : Cx} {P : Pm} {pos : Pos}
theorem lc_rd {t : CE} {own : List (Str × Nat)} {mi : Env → M (List D)} {mt : Env → M Bool} {me : Env → M D} {tp fe : Bool} {Li Lt Le : List Nat} {σ : L2.St} {H : Hp} {Q : VK} (hown : own.map (·.2) = tgs t)
    (h : rdE X.K P tp true (Li ++ (Lt ++ Le)) (fun σ => bnd (mi σ) fun items => bnd (nox (lcM (fun d =>
      bnd (lft (bindT t d (wip (tgs t) σ))) fun σ' => bnd (mt σ') fun k => if k then bnd (me σ') fun y => ret (some y) else ret none) items)) fun ys => ret (.list ys)) σ H Q) :
    tLc (rdI X.K P true Li mi) (gT X.K t) (rdB X.K P.quiet Lt mt) (rdE X.K P.quiet false fe Le me) (own.map (·.2)) σ H Q := by
  obtain ⟨O, δ, cu, hE, hcu, hw⟩ := h
  rw [hown]
  refine ⟨O, δ, cu, hE.sub (fun _ => mem_l), hcu, wpM_mono (wpM_bnd hw) (fun items cu1 hw1 J H1 e1 c1 hz wk D hD => ?_) fun x cu1 h => h⟩
  have hE1 := hE.step e1 c1
  have hw2 := wpM_nox (wpM_bnd hw1)
  have WK := wk (fun b => O b ∨ b = D) (fun b => some b = P.ac ∨ b = D) (fun b h => .inl h) (fun b h => h.imp id fun z => by rw [z]; exact hD) (fun b h => h.imp (fun z => by rw [if_pos rfl]; exact z) fun z => by rw [z]; exact hD)
  have dac : ∀ {x : Addr}, some x = P.ac → x ≠ D := fun {x} z y => by
    obtain ⟨ys, q, _⟩ := hE1.dom x (hE1.aco x z.symm)
    rw [y, hD] at q; cases q
  have c10 : CuOk P.ac (upd H1 D (.lst [])) cu1 := c1.e0 (ext0_upd hD)
  refine ⟨fun i m H2 => m = items.length - i ∧ i ≤ items.length ∧ ∃ acc accV cu2, H2 D = some (.lst accV) ∧ RepL X.K (fun b => O b ∨ b = D) H2 acc accV ∧ acc.length ≤ i ∧ CuOk P.ac H2 cu2 ∧ Ext (fun b => some b = P.ac ∨ b = D) H1 H2 ∧
    wpM (lcM (fun d => bnd (lft (bindT t d (OR.wip (tgs t) δ))) fun σ' => bnd (mt σ') fun k => if k then bnd (me σ') fun y => ret (some y) else ret none) (items.drop i) cu2)
      (fun ys cu3 => ∀ v H', Ext1 P.ac H H' → CuOk P.ac H' cu3 → Res tp true X.K O P.ac H H' (.list (acc ++ ys)) v → Q v H') (fun _ _ => False),
    ⟨items.length, by simp, Nat.zero_le _, [], [], cu1, upd_same, trivial, Nat.le_refl _, c10, fun b x nb q => by rw [upd_ne (fun z => nb (.inr z))]; exact q, by rw [List.drop_zero]; exact wpM_mono hw2 (fun _ _ h => h) fun _ _ h => h⟩, ?_⟩
  rintro i m H2 ⟨rfl, hi2, acc, accV, cu2, h2D, ra, hal, c2, ex2, hw3⟩
  have wki := WK i H2 ex2
  have hE2 := hE1.blk hD h2D ex2 c2
  by_cases hlt : i < items.length
  · refine .inr ⟨(wki.1 hlt).1, fun H' => ∃ acc' accV' cu', H' D = some (.lst accV') ∧ RepL X.K (fun b => O b ∨ b = D) H' acc' accV' ∧ acc'.length ≤ i + 1 ∧ CuOk P.ac H' cu' ∧ Ext (fun b => some b = P.ac ∨ b = D) H1 H' ∧
      wpM (lcM (fun d => bnd (lft (bindT t d (OR.wip (tgs t) δ))) fun σ' => bnd (mt σ') fun k => if k then bnd (me σ') fun y => ret (some y) else ret none) (items.drop (i + 1)) cu')
        (fun ys cu3 => ∀ v H', Ext1 P.ac H H' → CuOk P.ac H' cu3 → Res tp true X.K O P.ac H H' (.list (acc' ++ ys)) v → Q v H') (fun _ _ => False), fun H' ⟨a', v', cu', q⟩ => ⟨items.length - (i + 1), by omega, rfl, hlt, a', v', cu', q⟩, fun x H3 hy => ?_⟩
    obtain ⟨e3, d, ed, rd⟩ := (wki.1 hlt).2 x H3 hy
    have ed' : items[i] = d := by rw [List.getElem?_eq_getElem hlt] at ed; exact Option.some.inj ed
    rw [List.drop_eq_getElem_cons hlt, ed'] at hw3
    have c3 := c2.e0 e3
    have hE3 : EOk X.K (fun b => O b ∨ b = D) P.ac (Li ++ (Lt ++ Le)) H3 δ σ := hE2.step e3.e1 c3
    have hw4 := wpM_bnd hw3
    have hw5 := wpM_bnd hw4
    obtain ⟨δ', eb, hw6⟩ := wpM_lft hw5
    refine gT_ok hE3.wip eb rd fun σ2 hE4 w2 => ⟨?_, ?_⟩
    · have := w2 (tgs t) fun i hi => hi
      rw [this]
      exact wipe_wipe _ _
    · refine ⟨(fun b => O b ∨ b = D), δ', cu2, hE4.sub fun _ z => mem_r (mem_l z), c3, wpM_mono (wpM_bnd hw6) (fun k cu4 hw7 H4 e4 c4 => ?_) fun x cu1 h => h.elim⟩
      have h4D : H4 D = some (.lst accV) := e4 D _ (fun z => dac z rfl) (e3 D _ h2D)
      have ex4 : Ext (fun b => some b = P.ac ∨ b = D) H1 H4 := fun b x nb q => e4 b x (fun z => nb (.inl z)) (e3 b x (ex2 b x nb q))
      have hE5 := hE4.step e4 c4
      have ra4 : RepL X.K (fun b => O b ∨ b = D) H4 acc accV := (ra.ext0 e3).ext hE3.dom (e4.ext hE3.aco)
      cases k with
      | false =>
        exact ⟨acc, accV, cu4, h4D, ra4, by omega, c4, ex4, wpM_mono (wpM_bnd (show wpM (bnd (lcM _ (items.drop (i + 1))) _ cu4) _ _ from hw7)) (fun _ _ h => h) fun _ _ h => h⟩
      | true =>
        refine ⟨(fun b => O b ∨ b = D), δ', cu4, hE5.sub fun _ z => mem_r (mem_r z), c4, wpM_mono (wpM_bnd hw7) (fun y cu5 hw8 yv H5 e5 c5 r5 => ?_) fun x cu1 h => h.elim⟩
        have h5D : H5 D = some (.lst accV) := e5 D _ (fun z => dac z rfl) h4D
        have ra5 : RepL X.K (fun b => O b ∨ b = D) H5 acc accV := ra4.ext hE5.dom (e5.ext hE3.aco)
        have al := ra5.length
        refine ⟨accV, h5D, by rw [sizeLine_eq] at hz ⊢; omega, acc ++ [y], accV ++ [yv], cu5, upd_same, ?_, by rw [List.length_append]; simp; omega, ?_, ?_, ?_⟩
        · have hE6 := hE5.step e5 c5
          have exD : Ext (fun b => O b ∨ b = D) H5 (upd H5 D (.lst (accV ++ [yv]))) := fun b x nb q => by rw [upd_ne (fun z => nb (.inr z))]; exact q
          exact (ra5.append (show RepL X.K (fun b => O b ∨ b = D) H5 [y] [yv] from ⟨r5.r, trivial⟩)).ext hE6.dom exD
        · exact CuOk.upd c5 fun z => dac z rfl
        · intro b x nb q
          rw [upd_ne (fun z => nb (.inr z))]
          exact e5 b x (fun z => nb (.inl z)) (ex4 b x nb q)
        · refine wpM_mono (wpM_bnd (show wpM (bnd (lcM _ (items.drop (i + 1))) _ cu5) _ _ from hw8)) (fun ys cu6 h v H' => ?_) fun x cu1 h => h
          rw [List.append_assoc]
          exact h v H'
  · have e : i = items.length := by omega
    subst e
    refine .inl ⟨wki.2 (Nat.le_refl _), ?_⟩
    rw [List.drop_length] at hw3
    have hq := hw3 (.ref D) H2 (e1.trans fun b x nb q => ex2 b x (fun z => z.elim nb fun y => by rw [y, hD] at q; cases q) q) c2
    rw [List.append_nil] at hq
    have nOD : ¬ O D := fun z => by
      obtain ⟨ys, q, _⟩ := hE1.dom D z
      rw [hD] at q; cases q
    refine hq (.of hE.aco ⟨by omega, D, accV, rfl, nOD, h2D, ra.anti fun a z => .inl z⟩ fun _ _ => ⟨D, acc, accV, rfl, rfl, e1.there c1 hD, h2D, ra⟩)
theorem snd_lc {elt tg iter : Expr} {ifs : List Expr} {scope : Scope} {own : List (Str × Nat)} {t : CE} {mi : Env → M (List D)} {mt : Env → M Bool} {me : Env → M D} {tp fe : Bool} {Li Lt Le : List Nat} (hc : X.calm = true) (hN : X.N.Nodup)
    (hi : PI X tg iter (rdI X.K P true Li mi)) (ok : BlkOk X.N X.env.scope scope own) (hown : own.map (·.2) = tgs t)
    (hg : ∀ (s : Shared) (H : Hp) (C : Addr) (cl : List (Str × Addr)) (fp : List Addr), PG (X.blk s H scope (compEnvC scope cl C X.env) fp) tg (gT X.K t))
    (ht : ∀ (s : Shared) (H : Hp) (C : Addr) (cl : List (Str × Addr)) (fp : List Addr), PTs (X.blk s H scope (compEnvC scope cl C X.env) fp) ifs (rdB X.K P.quiet Lt mt))
    (he : ∀ (s : Shared) (H : Hp) (C : Addr) (cl : List (Str × Addr)) (fp : List Addr), PE (X.blk s H scope (compEnvC scope cl C X.env) fp) elt (rdE X.K P.quiet false fe Le me))
    (hs : ∀ x, foldedSetIterable iter X.env x = pure x) :
    PE X (.ListComp elt [⟨tg, iter, ifs, 0⟩] scope pos) (rdE X.K P tp true (Li ++ (Lt ++ Le)) fun σ => bnd (mi σ) fun items => bnd (nox (lcM (fun d =>
      bnd (lft (bindT t d (wip (tgs t) σ))) fun σ' => bnd (mt σ') fun k => if k then bnd (me σ') fun y => ret (some y) else ret none) items)) fun ys => ret (.list ys)) :=
  PE.weak (pe_lc hc hN hi ok hg ht he hs) fun σ H Q h => lc_rd hown h
end
end OR

/-! comprehensions with two sources -/
namespace OR
open PySem PySem.Spec PyProof.Rows L2 TL

/-- no own list lies at D -/
structure ND (K : PySem.W.Frag) (D : Addr) (δ : Env) (σ : L2.St) : Prop where
  own : ∀ (i : Nat) (a : Addr) (ds : List OR.D), δ[i]? = some (Slot.own (.list ds)) → σ[i]? = some (some (.ref a)) → a ≠ D
  scr : ∀ (i : Nat) (a : Addr) (is : List Int), δ[i]? = some (Slot.scr is) → σ[i]? = some (some (.ref a)) → a ≠ D ∨ ∀ H, SqL K H a (is.map V.int)
  obj : ∀ (i : Nat) (a : Addr) (o : Ob), δ[i]? = some (Slot.obj o) → σ[i]? = some (some (.ref a)) → a ≠ D
section
variable {K : PySem.W.Frag} {O : Addr → Prop} {ac : Option Addr} {L : List Nat} {H H1 H2 : Hp} {δ : Env} {σ : L2.St} {D : Addr}
theorem EOk.nd (h : EOk K O ac L H δ σ) (hD : H D = none) : ND K D δ σ := by
  refine ⟨fun i a ds q e z => ?_, fun i a is q e => ?_, fun i a o q e z => ?_⟩
  · subst z
    obtain ⟨v, a1, b, _, _⟩ := h.own i _ q
    obtain ⟨_, p, ys, ev, hp, _⟩ := b
    rw [a1, ev] at e
    cases e
    rw [hD] at hp; cases hp
  · obtain ⟨a1, b, _, f⟩ := h.scr i is q
    rw [b] at e
    cases e
    rcases f with f | f
    · refine .inl fun z => ?_
      subst z
      rcases f with f | ⟨o, f⟩
      · rw [hD] at f; cases f
      · rw [hD] at f; cases f
    · exact .inr fun _ => .inr f
  · subst z
    obtain ⟨a1, b, _, f⟩ := h.obj i o q
    rw [b] at e
    cases e
    exact f.there hD
theorem ND.wip : ∀ {vs : List Nat}, ND K D δ σ → ND K D (OR.wip vs δ) (wipe σ vs)
  | [], h => h
  | v :: vs, h => by
    have ih := ND.wip (vs := vs) h
    have e1 : OR.wip (v :: vs) δ = (OR.wip vs δ).set v .no := rfl
    have e2 : wipe σ (v :: vs) = (wipe σ vs).set v none := rfl
    rw [e1, e2]
    refine ⟨fun i a ds q e => ?_, fun i a is q e => ?_, fun i a o q e => ?_⟩
    · rcases set_get q with ⟨_, z, _⟩ | ⟨hj, q⟩
      · cases z
      · rw [List.getElem?_set_ne (fun z => hj z.symm)] at e
        exact ih.own i a ds q e
    · rcases set_get q with ⟨_, z, _⟩ | ⟨hj, q⟩
      · cases z
      · rw [List.getElem?_set_ne (fun z => hj z.symm)] at e
        exact ih.scr i a is q e
    · rcases set_get q with ⟨_, z, _⟩ | ⟨hj, q⟩
      · cases z
      · rw [List.getElem?_set_ne (fun z => hj z.symm)] at e
        exact ih.obj i a o q e
theorem ND.setv {j : Nat} {d : OR.D} {v : V} (h : ND K D δ σ) : ND K D (δ.set j (.val d)) (σ.set j (some v)) := by
  refine ⟨fun i a ds q e => ?_, fun i a is q e => ?_, fun i a o q e => ?_⟩
  · rcases set_get q with ⟨_, z, _⟩ | ⟨hj, q⟩
    · cases z
    · rw [List.getElem?_set_ne (fun z => hj z.symm)] at e
      exact h.own i a ds q e
  · rcases set_get q with ⟨_, z, _⟩ | ⟨hj, q⟩
    · cases z
    · rw [List.getElem?_set_ne (fun z => hj z.symm)] at e
      exact h.scr i a is q e
  · rcases set_get q with ⟨_, z, _⟩ | ⟨hj, q⟩
    · cases z
    · rw [List.getElem?_set_ne (fun z => hj z.symm)] at e
      exact h.obj i a o q e
/-- the list at D goes on -/
theorem EOk.mv {cu : Cu} {xs : List V} (h : EOk K O ac L H1 δ σ) (hO : O D) (nd : ND K D δ σ) (h2 : H2 D = some (.lst xs)) (e : Ext (fun b => some b = ac ∨ b = D) H1 H2) (c : CuOk ac H2 cu) : EOk K O ac L H2 δ σ := by
  have ex : Ext O H1 H2 := fun b x nb q => e b x (fun z => nb (z.elim (fun y => h.aco b y.symm) fun y => by rw [y]; exact hO)) q
  have r : ∀ {d : OR.D} {v : V}, Rep K O H1 d v → Rep K O H2 d v := fun q => q.ext h.dom ex
  refine ⟨h.len, fun b hb => ?_, h.aco, fun i d q => ?_, fun i d q => ?_, h.cup, fun i is q => ?_, fun i o q => ?_⟩
  · by_cases hbD : b = D
    · rw [hbD]; exact ⟨_, h2, trivial⟩
    · obtain ⟨ys, q, m⟩ := h.dom b hb
      by_cases hp : some b = ac
      · subst hp
        obtain ⟨i, j, _, e2⟩ := c.at
        exact ⟨_, e2, trivial⟩
      · exact ⟨ys, e b _ (fun z => z.elim hp hbD) q, m⟩
  · obtain ⟨v, a, b⟩ := h.val i d q
    exact ⟨v, a, r b⟩
  · obtain ⟨v, a, b, c2, f⟩ := h.own i d q
    refine ⟨v, a, ?_, c2, fun z => r (f z)⟩
    cases d with
    | list ds =>
      obtain ⟨hz, p, ys, ev, hp, la⟩ := b
      exact ⟨hz, p, ys, ev, e p _ (fun z => z.elim (c2 ds rfl p ev) fun y => nd.own i p ds q (by rw [a, ev]) y) hp, la.ext h.dom ex⟩
    | none => exact b
    | bool _ => exact b
    | int _ => exact b
    | str _ => exact b
    | tuple ds => exact r (d := .tuple ds) b
    | dict _ => exact b
  · obtain ⟨a, b, na, f⟩ := h.scr i is q
    refine ⟨a, b, na, ?_⟩
    rcases nd.scr i a is q b with y | y
    · rcases f with (f | ⟨o, f⟩) | f
      · exact .inl (.inl (e _ _ (fun z => z.elim na y) f))
      · exact .inl (.inr ⟨o, e _ _ (fun z => z.elim na y) f⟩)
      · exact .inr f
    · exact y H2
  · obtain ⟨a, b, na, f⟩ := h.obj i o q
    exact ⟨a, b, na, f.e fun x z => e _ _ (fun w => w.elim na (nd.obj i a o q b)) z⟩
theorem wpM_ex {α : Type} {r : R α} {P : α → Cu → Prop} (h : wpM r P fun _ _ => False) : ∃ a c, P a c := by
  cases r with
  | ok a c => exact ⟨a, c, h⟩
  | ex x c => exact False.elim h
  | no => exact False.elim h
end
def lcIn (t2 : CE) (mt2 : Env → M Bool) (me : Env → M OR.D) (σ' : Env) : OR.D → M (Option OR.D) := fun d2 => bnd (lft (bindT t2 d2 (wip (tgs t2) σ'))) fun σ2 => bnd (mt2 σ2) fun k2 => if k2 then bnd (me σ2) fun y => ret (some y) else ret none
def lcOut (t t2 : CE) (mt : Env → M Bool) (mi2 : Env → M (List OR.D)) (mt2 : Env → M Bool) (me : Env → M OR.D) (δ : Env) : OR.D → M (List OR.D) := fun d => bnd (lft (bindT t d (wip (tgs t ++ tgs t2) δ))) fun σ' => bnd (mt σ') fun k => if k then bnd (mi2 σ') fun items2 => lcM (lcIn t2 mt2 me σ') items2 else ret []
section
variable {X : Cx} {P : Pm} {pos : Pos}
theorem lc2_rd {t t2 : CE} {own : List (Str × Nat)} {mi mi2 : Env → M (List OR.D)} {mt mt2 : Env → M Bool} {me : Env → M OR.D} {tp fe : Bool} {Li Lt Li2 Lt2 Le : List Nat} {σ : L2.St} {H : Hp} {Q : VK} (hown : own.map (·.2) = tgs t ++ tgs t2)
    (h : rdE X.K P tp true (Li ++ (Lt ++ (Li2 ++ (Lt2 ++ Le)))) (fun σ => bnd (mi σ) fun items => bnd (nox (lcM2 (lcOut t t2 mt mi2 mt2 me σ) items)) fun ys => if ys.length ≤ sizeLine then ret (.list ys) else stk) σ H Q) :
    tLc2 (rdI X.K P true Li mi) (gT X.K t) (rdB X.K P.quiet Lt mt) (rdI X.K P.quiet false Li2 mi2) (gT X.K t2) (rdB X.K P.quiet Lt2 mt2) (rdE X.K P.quiet false fe Le me) (own.map (·.2)) (tgs t2) σ H Q := by
  obtain ⟨O, δ, cu, hE, hcu, hw⟩ := h
  rw [hown]
  refine ⟨O, δ, cu, hE.sub (fun _ => mem_l), hcu, wpM_mono (wpM_bnd hw) (fun items cu1 hw1 J H1 e1 c1 hz wk D hD => ?_) fun x cu1 h => h⟩
  have hE1 := hE.step e1 c1
  have hw2 := wpM_nox (wpM_bnd hw1)
  have WK := wk (fun b => O b ∨ b = D) (fun b => some b = P.ac ∨ b = D) (fun b h => .inl h) (fun b h => h.imp id fun z => by rw [z]; exact hD) (fun b h => h.imp (fun z => by rw [if_pos rfl]; exact z) fun z => by rw [z]; exact hD)
  have dac : ∀ {x : Addr}, some x = P.ac → x ≠ D := fun {x} z y => by
    obtain ⟨ys, q, _⟩ := hE1.dom x (hE1.aco x z.symm)
    rw [y, hD] at q; cases q
  have nOD : ¬ O D := fun z => by
    obtain ⟨ys, q, _⟩ := hE1.dom D z
    rw [hD] at q; cases q
  have c10 : CuOk P.ac (upd H1 D (.lst [])) cu1 := c1.e0 (ext0_upd hD)
  let Fin : List OR.D → Cu → Prop := fun ys cu3 => ys.length ≤ sizeLine ∧ ∀ v H', Ext1 P.ac H H' → CuOk P.ac H' cu3 → Res tp true X.K O P.ac H H' (.list ys) v → Q v H'
  have hw3 : wpM (lcM2 (lcOut t t2 mt mi2 mt2 me δ) items cu1) (fun ys cu3 => Fin ([] ++ ys) cu3) fun _ _ => False := wpM_mono hw2 (fun ys cu3 h => by
    by_cases hl : ys.length ≤ sizeLine
    · rw [if_pos hl] at h
      exact ⟨hl, h⟩
    · rw [if_neg hl] at h
      exact False.elim h) fun _ _ h => h
  let Out : Nat → Hp → Prop := fun i H2 => ∃ acc accV cu2, H2 D = some (.lst accV) ∧ RepL X.K (fun b => O b ∨ b = D) H2 acc accV ∧ CuOk P.ac H2 cu2 ∧ Ext (fun b => some b = P.ac ∨ b = D) H1 H2 ∧
    wpM (lcM2 (lcOut t t2 mt mi2 mt2 me δ) (items.drop i) cu2) (fun ys cu3 => Fin (acc ++ ys) cu3) fun _ _ => False
  refine ⟨fun i m H2 => m = items.length - i ∧ i ≤ items.length ∧ Out i H2,
    ⟨items.length, by simp, Nat.zero_le _, [], [], cu1, upd_same, trivial, c10, fun b x nb q => by rw [upd_ne (fun z => nb (.inr z))]; exact q, by rw [List.drop_zero]; exact hw3⟩, ?_⟩
  rintro i m H2 ⟨rfl, hi2, acc, accV, cu2, h2D, ra, c2, ex2, hw3⟩
  have wki := WK i H2 ex2
  have hE2 := hE1.blk hD h2D ex2 c2
  have nd : ND X.K D δ σ := hE1.nd hD
  by_cases hlt : i < items.length
  · refine .inr ⟨(wki.1 hlt).1, Out (i + 1), fun H' q => ⟨items.length - (i + 1), by omega, rfl, hlt, q⟩, fun x H3 hy => ?_⟩
    obtain ⟨e3, d, ed, rd⟩ := (wki.1 hlt).2 x H3 hy
    have ed' : items[i] = d := by rw [List.getElem?_eq_getElem hlt] at ed; exact Option.some.inj ed
    rw [List.drop_eq_getElem_cons hlt, ed'] at hw3
    have c3 := c2.e0 e3
    have hE3 : EOk X.K (fun b => O b ∨ b = D) P.ac (Li ++ (Lt ++ (Li2 ++ (Lt2 ++ Le)))) H3 δ σ := hE2.step e3.e1 c3
    have hw4 := wpM_bnd (show wpM (bnd (lcOut t t2 mt mi2 mt2 me δ d) (fun xs => bnd (lcM2 (lcOut t t2 mt mi2 mt2 me δ) (items.drop (i + 1))) fun ys => ret (xs ++ ys)) cu2) _ _ from hw3)
    have hw5 := wpM_bnd (show wpM (bnd (lft (bindT t d (wip (tgs t ++ tgs t2) δ))) _ cu2) _ _ from hw4)
    obtain ⟨δ', eb, hw6⟩ := wpM_lft hw5
    refine gT_gen (I := fun δ σ => EOk X.K (fun b => O b ∨ b = D) P.ac (Li ++ (Lt ++ (Li2 ++ (Lt2 ++ Le)))) H3 δ σ ∧ ND X.K D δ σ) (fun {δ σ i d v} h r => ⟨h.1.setv r, h.2.setv⟩) ⟨hE3.wip, nd.wip⟩ eb rd fun σ2 ⟨hE4, nd4⟩ w2 => ⟨?_, ?_⟩
    · have := w2 (tgs t ++ tgs t2) fun i hi => List.mem_append_left _ hi
      rw [this]
      exact wipe_wipe _ _
    · refine ⟨(fun b => O b ∨ b = D), δ', cu2, hE4.sub fun _ z => mem_r (mem_l z), c3, wpM_mono (wpM_bnd hw6) (fun k cu4 hw7 H4 e4 c4 => ?_) fun x cu1 h => h.elim⟩
      have h4D : H4 D = some (.lst accV) := e4 D _ (fun z => dac z rfl) (e3 D _ h2D)
      have ex4 : Ext (fun b => some b = P.ac ∨ b = D) H1 H4 := fun b x nb q => e4 b x (fun z => nb (.inl z)) (e3 b x (ex2 b x nb q))
      have hE5 := hE4.step e4 c4
      have ra4 : RepL X.K (fun b => O b ∨ b = D) H4 acc accV := (ra.ext0 e3).ext hE3.dom (e4.ext hE3.aco)
      cases k with
      | false =>
        refine ⟨acc, accV, cu4, h4D, ra4, c4, ex4, wpM_mono (wpM_bnd (show wpM (bnd (lcM2 (lcOut t t2 mt mi2 mt2 me δ) (items.drop (i + 1))) (fun ys => ret ([] ++ ys)) cu4) _ _ from hw7)) (fun ys cu5 h => ?_) fun _ _ h => h⟩
        exact h
      | true =>
        refine ⟨(fun b => O b ∨ b = D), δ', cu4, hE5.sub fun _ z => mem_r (mem_r (mem_l z)), c4, wpM_mono (wpM_bnd (show wpM (bnd (mi2 δ') (fun items2 => lcM (lcIn t2 mt2 me δ') items2) cu4) _ _ from hw7)) (fun items2 cu5 hw8 J1 H5 e5 c5 hz1 wk1 => ?_) fun x cu1 h => h.elim⟩
        have h5D : H5 D = some (.lst accV) := e5 D _ (fun z => dac z rfl) h4D
        have ex5 : Ext (fun b => some b = P.ac ∨ b = D) H1 H5 := fun b x nb q => e5 b x (fun z => nb (.inl z)) (ex4 b x nb q)
        have hE6 := hE5.step e5 c5
        have ra5 : RepL X.K (fun b => O b ∨ b = D) H5 acc accV := ra4.ext hE5.dom (e5.ext hE5.aco)
        have WK1 := wk1 (fun b => O b ∨ b = D) (fun b => some b = P.ac ∨ b = D) (fun b h => h) (fun b h => .inl h) (fun b h => .inl (by
          rw [if_neg (by decide)]
          exact h.imp (fun z => hE1.aco b z.symm) id))
        let KK : List OR.D → List OR.D → Cu → Prop := fun acc xs cu' => wpM (lcM2 (lcOut t t2 mt mi2 mt2 me δ) (items.drop (i + 1)) cu') (fun ys cu3 => Fin (acc ++ xs ++ ys) cu3) fun _ _ => False
        have hw9 : wpM (lcM (lcIn t2 mt2 me δ') items2 cu5) (fun xs cu' => KK acc xs cu') fun _ _ => False := wpM_mono hw8 (fun xs cu' h => wpM_mono (wpM_bnd h) (fun ys cu3 h => by
          have h : Fin (acc ++ (xs ++ ys)) cu3 := h
          rw [← List.append_assoc] at h
          exact h) fun _ _ h => h) fun _ _ h => h
        let Inn : Nat → Hp → Prop := fun j H6 => ∃ acc accV cu6, H6 D = some (.lst accV) ∧ RepL X.K (fun b => O b ∨ b = D) H6 acc accV ∧ CuOk P.ac H6 cu6 ∧ Ext (fun b => some b = P.ac ∨ b = D) H5 H6 ∧
          wpM (lcM (lcIn t2 mt2 me δ') (items2.drop j) cu6) (fun xs cu' => KK acc xs cu') fun _ _ => False
        refine ⟨fun j k H6 => k = items2.length - j ∧ j ≤ items2.length ∧ Inn j H6, ⟨items2.length, by simp, Nat.zero_le _, acc, accV, cu5, h5D, ra5, c5, fun b x _ q => q, by rw [List.drop_zero]; exact hw9⟩, ?_⟩
        rintro j k H6 ⟨rfl, hj2, acc1, accV1, cu6, h6D, ra6, c6, ex6, hwa⟩
        have wkj := WK1 j H6 ex6
        have hE7 : EOk X.K (fun b => O b ∨ b = D) P.ac (Li ++ (Lt ++ (Li2 ++ (Lt2 ++ Le)))) H6 δ' σ2 := hE6.mv (.inr rfl) nd4 h6D ex6 c6
        by_cases hlj : j < items2.length
        · refine .inr ⟨(wkj.1 hlj).1, Inn (j + 1), fun H' q => ⟨items2.length - (j + 1), by omega, rfl, hlj, q⟩, fun x1 H7 hy1 => ?_⟩
          obtain ⟨e7, d1, ed1, rd1⟩ := (wkj.1 hlj).2 x1 H7 hy1
          have ed1' : items2[j] = d1 := by rw [List.getElem?_eq_getElem hlj] at ed1; exact Option.some.inj ed1
          rw [List.drop_eq_getElem_cons hlj, ed1'] at hwa
          have c7 := c6.e0 e7
          have hE8 := hE7.step e7.e1 c7
          have hwb := wpM_bnd hwa
          have hwc := wpM_bnd (show wpM (bnd (lft (bindT t2 d1 (wip (tgs t2) δ'))) _ cu6) _ _ from hwb)
          obtain ⟨δ2, eb2, hwd⟩ := wpM_lft hwc
          refine gT_ok hE8.wip eb2 rd1 fun σ3 hE9 w3 => ⟨?_, ?_⟩
          · have := w3 (tgs t2) fun i hi => hi
            rw [this]
            exact wipe_wipe _ _
          · refine ⟨(fun b => O b ∨ b = D), δ2, cu6, hE9.sub fun _ z => mem_r (mem_r (mem_r (mem_l z))), c7, wpM_mono (wpM_bnd hwd) (fun k2 cu8 hwe H8 e8 c8 => ?_) fun x cu1 h => h.elim⟩
            have h8D : H8 D = some (.lst accV1) := e8 D _ (fun z => dac z rfl) (e7 D _ h6D)
            have ex8 : Ext (fun b => some b = P.ac ∨ b = D) H5 H8 := fun b x nb q => e8 b x (fun z => nb (.inl z)) (e7 b x (ex6 b x nb q))
            have hE10 := hE9.step e8 c8
            have ra8 : RepL X.K (fun b => O b ∨ b = D) H8 acc1 accV1 := (ra6.ext0 e7).ext hE8.dom (e8.ext hE8.aco)
            cases k2 with
            | false =>
              exact ⟨acc1, accV1, cu8, h8D, ra8, c8, ex8, wpM_mono (wpM_bnd (show wpM (bnd (lcM (lcIn t2 mt2 me δ') (items2.drop (j + 1))) (fun ys => ret ys) cu8) _ _ from hwe)) (fun _ _ h => h) fun _ _ h => h⟩
            | true =>
              refine ⟨(fun b => O b ∨ b = D), δ2, cu8, hE10.sub fun _ z => mem_r (mem_r (mem_r (mem_r z))), c8, wpM_mono (wpM_bnd (show wpM (bnd (me δ2) (fun y => ret (some y)) cu8) _ _ from hwe)) (fun y cu9 hwf yv H9 e9 c9 r9 => ?_) fun x cu1 h => h.elim⟩
              have h9D : H9 D = some (.lst accV1) := e9 D _ (fun z => dac z rfl) h8D
              have ra9 : RepL X.K (fun b => O b ∨ b = D) H9 acc1 accV1 := ra8.ext hE10.dom (e9.ext hE10.aco)
              have hwg : wpM (lcM (lcIn t2 mt2 me δ') (items2.drop (j + 1)) cu9) (fun xs cu' => KK (acc1 ++ [y]) xs cu') fun _ _ => False := wpM_mono (wpM_bnd (show wpM (bnd (lcM (lcIn t2 mt2 me δ') (items2.drop (j + 1))) (fun ys => ret (y :: ys)) cu9) _ _ from hwf)) (fun xs cu' h => by
                have h : KK acc1 (y :: xs) cu' := h
                have e : acc1 ++ y :: xs = acc1 ++ [y] ++ xs := by rw [List.append_assoc]; rfl
                show wpM _ (fun ys cu3 => Fin (acc1 ++ [y] ++ xs ++ ys) cu3) _
                rw [← e]
                exact h) fun _ _ h => h
              have len : accV1.length < sizeLine := by
                obtain ⟨xs, cu', h⟩ := wpM_ex hwg
                obtain ⟨ys, cu3, h, _⟩ := wpM_ex h
                rw [List.length_append, List.length_append, List.length_append, List.length_cons] at h
                have := ra9.length
                omega
              refine ⟨accV1, h9D, len, acc1 ++ [y], accV1 ++ [yv], cu9, upd_same, ?_, ?_, ?_, hwg⟩
              · have hE11 := hE10.step e9 c9
                have exD : Ext (fun b => O b ∨ b = D) H9 (upd H9 D (.lst (accV1 ++ [yv]))) := fun b x nb q => by rw [upd_ne (fun z => nb (.inr z))]; exact q
                exact (ra9.append (show RepL X.K (fun b => O b ∨ b = D) H9 [y] [yv] from ⟨r9.r, trivial⟩)).ext hE11.dom exD
              · exact CuOk.upd c9 fun z => dac z rfl
              · intro b x nb q
                rw [upd_ne (fun z => nb (.inr z))]
                exact e9 b x (fun z => nb (.inl z)) (ex8 b x nb q)
        · have e : j = items2.length := by omega
          subst e
          refine .inl ⟨wkj.2 (Nat.le_refl _), acc1, accV1, cu6, h6D, ra6, c6, fun b x nb q => ex6 b x nb (ex5 b x nb q), ?_⟩
          rw [List.drop_length] at hwa
          have hwa : KK acc1 [] cu6 := hwa
          have hwa : wpM _ (fun ys cu3 => Fin (acc1 ++ [] ++ ys) cu3) _ := hwa
          rw [List.append_nil] at hwa
          exact hwa
  · have e : i = items.length := by omega
    subst e
    refine .inl ⟨wki.2 (Nat.le_refl _), ?_⟩
    rw [List.drop_length] at hw3
    have hw3 : Fin (acc ++ []) cu2 := hw3
    rw [List.append_nil] at hw3
    refine hw3.2 (.ref D) H2 (e1.trans fun b x nb q => ex2 b x (fun z => z.elim nb fun y => by rw [y, hD] at q; cases q) q) c2 ?_
    exact .of hE.aco ⟨hw3.1, D, accV, rfl, nOD, h2D, ra.anti fun a z => .inl z⟩ fun _ _ => ⟨D, acc, accV, rfl, rfl, e1.there c1 hD, h2D, ra⟩
theorem snd_lc2 {elt tg iter tg1 iter1 : Expr} {ifs ifs1 : List Expr} {scope : Scope} {own : List (Str × Nat)} {t t2 : CE} {mi mi2 : Env → M (List OR.D)} {mt mt2 : Env → M Bool} {me : Env → M OR.D} {tp fe : Bool} {Li Lt Li2 Lt2 Le : List Nat} (hc : X.calm = true) (hN : X.N.Nodup)
    (hi : PI X tg iter (rdI X.K P true Li mi)) (ok : BlkOk X.N X.env.scope scope own) (hown : own.map (·.2) = tgs t ++ tgs t2)
    (hg : ∀ (s : Shared) (H : Hp) (C : Addr) (cl : List (Str × Addr)) (fp : List Addr), PG (X.blk s H scope (compEnvC scope cl C X.env) fp) tg (gT X.K t))
    (ht : ∀ (s : Shared) (H : Hp) (C : Addr) (cl : List (Str × Addr)) (fp : List Addr), PTs (X.blk s H scope (compEnvC scope cl C X.env) fp) ifs (rdB X.K P.quiet Lt mt))
    (hi1 : ∀ (s : Shared) (H : Hp) (C : Addr) (cl : List (Str × Addr)) (fp : List Addr), PI (X.blk s H scope (compEnvC scope cl C X.env) fp) tg1 iter1 (rdI X.K P.quiet false Li2 mi2))
    (hg1 : ∀ (s : Shared) (H : Hp) (C : Addr) (cl : List (Str × Addr)) (fp : List Addr), PG (X.blk s H scope (compEnvC scope cl C X.env) fp) tg1 (gT X.K t2))
    (ht1 : ∀ (s : Shared) (H : Hp) (C : Addr) (cl : List (Str × Addr)) (fp : List Addr), PTs (X.blk s H scope (compEnvC scope cl C X.env) fp) ifs1 (rdB X.K P.quiet Lt2 mt2))
    (he : ∀ (s : Shared) (H : Hp) (C : Addr) (cl : List (Str × Addr)) (fp : List Addr), PE (X.blk s H scope (compEnvC scope cl C X.env) fp) elt (rdE X.K P.quiet false fe Le me))
    (hs : ∀ x, foldedSetIterable iter X.env x = pure x) (hs1 : ∀ env x, foldedSetIterable iter1 env x = pure x) :
    PE X (.ListComp elt [⟨tg, iter, ifs, 0⟩, ⟨tg1, iter1, ifs1, 0⟩] scope pos) (rdE X.K P tp true (Li ++ (Lt ++ (Li2 ++ (Lt2 ++ Le)))) fun σ => bnd (mi σ) fun items => bnd (nox (lcM2 (lcOut t t2 mt mi2 mt2 me σ) items)) fun ys => if ys.length ≤ sizeLine then ret (.list ys) else stk) :=
  PE.weak (pe_lc2 hc hN hi ok (fun i hi => by rw [hown]; exact List.mem_append_right _ hi) hg ht hi1 hg1 ht1 he hs hs1) fun σ H Q h => lc2_rd hown h
end
end OR

namespace OR
open PySem PySem.Spec PyProof.Rows L2
/-! sorted(set(x)), len(set(x)), list(range(..)) -/
section
variable {P : Program} {w : World} {A : Around} {E : Value → Shared → Prop} {s : Shared}
set_option maxHeartbeats 3200000 in
theorem call_set_lstI {l : Addr} {items : Array Value} (ns : List Int) {Q : Value → Shared → Prop} (hh : A.handled = none) (hl : s.heap.IsList l items) (hit : IntsAre items.toList ns) (hb : ns.length + 1 < scanBound)
    (h : ∀ (h' : Heap) (tk c : Nat), SetR w h' s.heap.objs.size (fun j => decide (j ∈ ns)) c → c ≤ ns.length → (∀ b o, s.heap.get? b = some o → h'.get? b = some o) → Q (.ref s.heap.objs.size) { s with heap := h', toks := tk }) :
    wpAny (model P w) A (call (.type "set") [.ref l]) Q E s := by
  have hisz : items.size = ns.length := by
    have q := IntsAre.length hit
    rw [Array.length_toList] at q
    exact q
  obtain ⟨c, tl, hmro⟩ := F.called_set.mro
  have hmade := F.called_set.made
  have hsub := F.called_set.sub
  refine wpAny_call (codeAny_of_tree ?_)
  show wpAny _ _ (callAny (.type "set") _) _ _ _
  refine wpAny_pure ⟨Code.quiet_builtin _ (by decide +kernel), codeAny_builtin F.entry_type_call ?_⟩
  rw [Around.under_plain (weight_type_call_type "set" [.ref l] []) rfl]
  have h1 := F.called_set.notType
  have h2 := F.called_set.canCreate
  have hct := F.typeCall_set_1 (.ref l)
  repeat (any_goals (first | assumption | wp_step))

  refine codeAny_mono (code_set_led1 (.ref l) (E := E) (Q₁ := fun obj s₁ => obj = .ref s.heap.objs.size ∧ s₁ = { s with heap := s.heap.push { cls := .type "set", dict := none, data := .set #[] 0 (.fresh 0 0 (!w.params.followText "set-order")) } }) ⟨rfl, rfl⟩) fun r s₁ hr => ?_
  cases r with
  | error e => exact hr
  | ok fl =>
    cases fl with
    | ret obj =>
      obtain ⟨rfl, rfl⟩ := hr
      have hS : (s.heap.push { cls := .type "set", dict := none, data := .set #[] 0 (.fresh 0 0 (!w.params.followText "set-order")) }).get? s.heap.objs.size = some { cls := .type "set", dict := none, data := .set #[] 0 (.fresh 0 0 (!w.params.followText "set-order")) } := Heap.get?_push_size _ rfl
      have hT : Shared.TypeIs { s with heap := s.heap.push { cls := .type "set", dict := none, data := .set #[] 0 (.fresh 0 0 (!w.params.followText "set-order")) } } (.ref s.heap.objs.size) "set" := ⟨_, hS, rfl⟩
      have hli := F.called_set.init.lookup
      have hbi := F.called_set.init.bind (.ref s.heap.objs.size)
      repeat (any_goals (first | assumption | wp_step))

      refine codeAny_mono (codeAny_call_builtin (R := wants (fun r s₂ => r = .none ∧ ∃ h' tk c, s₂ = { s with heap := h', toks := tk } ∧ SetR w h' s.heap.objs.size (fun j => decide (j ∈ ns)) c ∧ c ≤ ns.length ∧
          (∀ b o, s.heap.get? b = some o → h'.get? b = some o)) E) F.called_set.init.plain F.entry_set_init (check_set_init_1 hT ?_)) fun r₂ s₂ hr₂ => ?_
      · obtain ⟨ol, hol, hcl, nl, hdl⟩ := hl
        obtain ⟨ocls, odict, odata, oslots⟩ := ol
        simp only at hcl hdl
        subst hcl; subst hdl
        have hol' : (s.heap.push { cls := .type "set", dict := none, data := .set #[] 0 (.fresh 0 0 (!w.params.followText "set-order")) }).get? l = some { cls := .type "list", dict := odict, data := .seq items nl, slots := oslots } := Heap.get?_push_of_some _ hol
        have hsls := F.sub_list_set
        have hslf := F.sub_list_frozenset
        have hne : (Value.type "list" == Value.type "dict") = false := by decide
        have hl1 : (s.heap.push { cls := .type "set", dict := none, data := .set #[] 0 (.fresh 0 0 (!w.params.followText "set-order")) }).IsList l items := ⟨_, hol', rfl, nl, rfl⟩
        unfold Builtin.«set.__init__» noKeywords Builtin.Frozenset.updateFrom
        generalize hPI : pyIter = PI
        wp_walk
        subst hPI

        refine wpAny_pyIter_list hl1 ?_
        refine wpAny_bind (wpAny_runValue ?_)
        have hlS : l < s.heap.objs.size := Heap.lt_size hol
        have hh3 : A.in1.in1.in1.handled = none := by simp [hh]
        have hz1 : (s.heap.push { cls := .type "set", dict := none, data := .set #[] 0 (.fresh 0 0 (!w.params.followText "set-order")) }).objs.size = s.heap.objs.size + 1 := Heap.size_push ..
        have hneI : l ≠ (s.heap.push { cls := .type "set", dict := none, data := .set #[] 0 (.fresh 0 0 (!w.params.followText "set-order")) }).objs.size := by
          rw [Heap.size_push]; exact Nat.ne_of_lt (Nat.lt_succ_of_lt hlS)
        have hSf : s.heap.objs.size ∉ [(s.heap.push { cls := .type "set", dict := none, data := .set #[] 0 (.fresh 0 0 (!w.params.followText "set-order")) }).objs.size, l] := by
          rw [Heap.size_push]; simp only [List.mem_cons, List.mem_singleton, List.not_mem_nil, or_false, not_or]
          exact ⟨Nat.ne_of_lt (Nat.lt_succ_self _), Nat.ne_of_gt hlS⟩
        have hval : ∀ (i : Nat) (v : Value), items[i]? = some v → ∃ k t, ns[i]? = some k ∧ v = .int k t := fun i v hv => by
          have hi : i < ns.length := by rw [← hisz]; exact (Array.getElem?_eq_some_iff.mp hv).1
          obtain ⟨t, e⟩ := PyProof.Rows.IntsAre.int_at hit i v (by rw [Array.getElem?_toList]; exact hv)
          refine ⟨ns[i], t, List.getElem?_eq_getElem hi, ?_⟩
          rw [e, List.getD_eq_getElem?_getD, List.getElem?_eq_getElem hi] <;> rfl
        refine set_update_ints ((Walks.list hh3 _ l hneI items).toS) s.heap.objs.size
          hSf ns hisz hb hval (items.size - 0) 0 _ (by omega) (Nat.zero_le _)
          ⟨⟨_, Heap.get?_push_size _ rfl, rfl, rfl⟩, (hl1.push _)⟩ ?hS0 ?hR
        case hS0 =>
          have hget : ((s.heap.push { cls := .type "set", dict := none, data := .set #[] 0 (.fresh 0 0 (!w.params.followText "set-order")) }).push { cls := .type "list_iterator", data := .fields #[.ref l, .int 0 0] }).get? s.heap.objs.size
              = some { cls := .type "set", dict := none, data := .set #[] 0 (.fresh 0 0 (!w.params.followText "set-order")) } := Heap.get?_push_of_some _ hS
          exact ⟨0, Nat.le_refl 0, setR_new_at hget⟩
        case hR =>
          intro s' c' hm hc' hS'
          obtain ⟨h', g2, d', tk', os'⟩ := s'
          have eg : g2 = s.gens := hm.gens
          have ed : d' = s.drawn := hm.drawn
          have eo : os' = s.os := hm.os
          subst eg; subst ed; subst eo
          show wpAny _ _ _ _ _ _
          refine wpAny_pure ?_
          show wpAny _ _ (PySem.ret Value.none) _ _ _
          rw [hisz] at hc'
          refine wpAny_pure ⟨rfl, h', tk', c', rfl, hS', hc', fun b o e => ?_⟩
          have hb0 : b < s.heap.objs.size := Heap.lt_size e
          have hb1 : b ≠ s.heap.objs.size := Nat.ne_of_lt hb0
          have hb2 : b ≠ (s.heap.push { cls := .type "set", dict := none, data := .set #[] 0 (.fresh 0 0 (!w.params.followText "set-order")) }).objs.size := by
            rw [Heap.size_push]; exact Nat.ne_of_lt (Nat.lt_succ_of_lt hb0)
          exact hm.heap b o (by simp only [List.mem_cons, List.mem_singleton, List.not_mem_nil, or_false, not_or]; exact ⟨hb1, hb2⟩) (Heap.get?_push_of_some _ (Heap.get?_push_of_some _ e))

      · cases r₂ with
        | error e => exact hr₂
        | ok fl₂ =>
          cases fl₂ with
          | ret r =>
            obtain ⟨rfl, h', tk, c', rfl, hS', hc', hk'⟩ := hr₂
            repeat (any_goals (first | assumption | wp_step))
            exact h _ _ _ hS' hc' hk'
          | _ => exact hr₂.elim
    | _ => exact hr.elim

end
/-! ssI -/
theorem insU_mem (k x : Int) : ∀ l : List Int, x ∈ insU k l ↔ x = k ∨ x ∈ l
  | [] => by simp [insU]
  | y :: r => by
    unfold insU
    by_cases h1 : k < y
    · rw [if_pos h1]; simp
    · rw [if_neg h1]
      by_cases h2 : k = y
      · rw [if_pos h2]; subst h2; simp
      · rw [if_neg h2, List.mem_cons, insU_mem k x r, List.mem_cons]
        constructor
        · rintro (a | a | a)
          · exact .inr (.inl a)
          · exact .inl a
          · exact .inr (.inr a)
        · rintro (a | a | a)
          · exact .inr (.inl a)
          · exact .inl a
          · exact .inr (.inr a)
theorem insU_ris (k : Int) : ∀ l : List Int, l.Pairwise (· < ·) → (insU k l).Pairwise (· < ·)
  | [], _ => by unfold insU; exact List.pairwise_cons.mpr ⟨(fun _ h => by cases h), List.Pairwise.nil⟩
  | y :: r, h => by
    obtain ⟨h1, h2⟩ := List.pairwise_cons.mp h
    unfold insU
    by_cases c1 : k < y
    · rw [if_pos c1]
      refine List.pairwise_cons.mpr ⟨fun z hz => ?_, h⟩
      rcases List.mem_cons.mp hz with e | e
      · rw [e]; exact c1
      · have := h1 z e; omega
    · rw [if_neg c1]
      by_cases c2 : k = y
      · rw [if_pos c2]; exact h
      · rw [if_neg c2]
        refine List.pairwise_cons.mpr ⟨fun z hz => ?_, insU_ris k r h2⟩
        rcases (insU_mem k z r).mp hz with e | e
        · omega
        · exact h1 z e
theorem ssI_mem (x : Int) : ∀ l : List Int, x ∈ ssI l ↔ x ∈ l
  | [] => by simp [ssI]
  | k :: r => by
    show x ∈ insU k (ssI r) ↔ _
    rw [insU_mem, ssI_mem x r, List.mem_cons]
theorem ssI_ris : ∀ l : List Int, (ssI l).Pairwise (· < ·)
  | [] => List.Pairwise.nil
  | k :: r => insU_ris k _ (ssI_ris r)
theorem ris_uniq : ∀ {a b : List Int}, a.Pairwise (· < ·) → b.Pairwise (· < ·) → (∀ x, x ∈ a ↔ x ∈ b) → a = b
  | [], [], _, _, _ => rfl
  | [], y :: b, _, _, h => by have := (h y).mpr (List.mem_cons_self ..); cases this
  | x :: a, [], _, _, h => by have := (h x).mp (List.mem_cons_self ..); cases this
  | x :: a, y :: b, ha, hb, h => by
    obtain ⟨a1, a2⟩ := List.pairwise_cons.mp ha
    obtain ⟨b1, b2⟩ := List.pairwise_cons.mp hb
    have e : x = y := by
      rcases List.mem_cons.mp ((h x).mp (List.mem_cons_self ..)) with e | e
      · exact e
      · rcases List.mem_cons.mp ((h y).mpr (List.mem_cons_self ..)) with e2 | e2
        · exact e2.symm
        · have := a1 y e2; have := b1 x e; omega
    subst e
    rw [ris_uniq a2 b2 fun z => ?_]
    constructor
    · intro hz
      rcases List.mem_cons.mp ((h z).mp (List.mem_cons_of_mem _ hz)) with e | e
      · have := a1 z hz; omega
      · exact e
    · intro hz
      rcases List.mem_cons.mp ((h z).mpr (List.mem_cons_of_mem _ hz)) with e | e
      · have := b1 z hz; omega
      · exact e
theorem ris_nodup {l : List Int} (h : l.Pairwise (· < ·)) : l.Nodup := List.Pairwise.imp (fun {a b} (z : a < b) => by intro e; omega) h
theorem setR_size {w : World} {h : Heap} {a : Addr} {ns : List Int} {c : Nat} (R : SetR w h a (fun j => decide (j ∈ ns)) c) : c = (ssI ns).length := by
  obtain ⟨o, es, ep, t, ho, hex, hd, g, nd, hm, hb, hf, hn, hr, hl⟩ := R
  have p : (es.toList.map keyOf).Perm (ssI ns) := (List.perm_ext_iff_of_nodup nd (ris_nodup (ssI_ris ns))).mpr fun x => by
    rw [ssI_mem, ← hm x, decide_eq_true_eq]
  have := p.length_eq
  rw [List.length_map, Array.length_toList, hn] at this
  exact this
section
variable {X : Cx}
def rSetI (K : PySem.W.Frag) (w : World) : List V → Hp → VK → Prop := fun vs H Q => ∃ (l : Addr) (ns : List Int), vs = [V.ref l] ∧ (SqL K H l (ns.map V.int) ∨ SqT K H l (ns.map V.int)) ∧ ns.length ≤ 4000 ∧
  ∀ p, H p = none → Q (.ref p) (upd H p (SetO w p (fun j => decide (j ∈ ns)) (ssI ns).length))
theorem cr_setI (hc : X.A.handled = none) : CallR X (.type "set") (rSetI X.K X.w) := by
  intro pins s σ H vs us Q I r ⟨l, ns, e, hq, hl, q⟩
  subst e
  rw [Vals.ref1 r]
  have fin : ∀ (h' : Heap) (tk c : Nat), SetR X.w h' s.heap.objs.size (fun j => decide (j ∈ ns)) c → c ≤ ns.length → (∀ b o, s.heap.get? b = some o → h'.get? b = some o) → EP X pins σ Q (.ref s.heap.objs.size) { s with heap := h', toks := tk } := fun h' tk c R _ hk => by
    have ec := setR_size R
    subst ec
    exact ⟨.ref _, upd H s.heap.objs.size (SetO X.w s.heap.objs.size (fun j => decide (j ∈ ns)) (ssI ns).length), I.laid (t' := tk) (fun b u e => hk b u e) (Nat.le_refl _) (setO_new R), rfl, q _ (I.hok.fresh (Nat.le_refl _))⟩
  have hb : ns.length + 1 < scanBound := by unfold scanBound; omega
  rcases hq with hq | hq
  · obtain ⟨its, rv, pl, hz⟩ := I.list hq
    exact call_set_lstI ns hc pl.isList (by simpa using RZ.intsAre_vals rv) hb fin
  · obtain ⟨its, rv, pl, hz⟩ := I.tuple hq
    exact call_set_tupI ns hc pl (by simpa using RZ.intsAre_vals rv) hb fin
def rLenSetO (w : World) : List V → Hp → VK → Prop := fun vs H Q => ∃ (a : Addr) (S : Int → Bool) (n : Nat), vs = [V.ref a] ∧ H a = some (SetO w a S n) ∧ n ≤ 4000 ∧ Q (.int (n : Nat)) H
theorem cr_lenSetO : CallR X (.builtin "len") (rLenSetO X.w) := by
  intro pins s σ H vs us Q I r ⟨a, S, n, e, ha, hn4, q⟩
  subst e
  rw [Vals.ref1 r]
  obtain ⟨o, es, ep, t, ho, hex, hd, g, nd, hm, hb, hf, hn, hr, hl⟩ := setO_get I ha
  exact call_len_set ho hex hd hf (by rw [hn] <;> omega) ⟨.int (n : Nat), H, I.tok _, ⟨_, by rw [hn]⟩, q⟩
end
end OR

/-! the check of a term against the text -/
namespace OR
open PySem PySem.Spec PyProof.Rows L2 TL

structure Sc where
  N : List Str
  sc : Scope
  fn : Str → Bool
  funs : List (Str × Nat)
  glb : List (Str × D)
  blt : List Str
  exs : List Str
def Sc.blk (S : Sc) (scope : Scope) : Sc := { S with sc := relS scope S.sc, fn := fun x => scope.names.lookup x == some .cell }
def okName (x : Str) : Bool := !(x == ("__debug__" : Str)) && (!(x == ("__classdict__" : Str)) && !(x == ("__name__" : Str)))
def visB (S : Sc) (x : Str) : Bool := (match S.sc.names.lookup x with
  | some .local => true
  | some .cell => true
  | some .free => true
  | _ => false) && okName x
def glB (S : Sc) (x : Str) : Bool := decide (S.sc.names.lookup x = some .globalImplicit) && okName x
def locB (S : Sc) (x : Str) : Bool := decide (S.sc.names.lookup x = some .local) || (decide (S.sc.names.lookup x = some .cell) && S.fn x)
mutual
def beqD : D → D → Bool
  | .none, .none => true
  | .bool a, .bool b => decide (a = b)
  | .int a, .int b => decide (a = b)
  | .str a, .str b => decide (a = b)
  | .list xs, .list ys => beqL xs ys
  | .tuple xs, .tuple ys => beqL xs ys
  | _, _ => false
def beqL : List D → List D → Bool
  | [], [] => true
  | x :: xs, y :: ys => beqD x y && beqL xs ys
  | _, _ => false
end
theorem and_t {a b : Bool} (h : (a && b) = true) : a = true ∧ b = true := by cases a <;> cases b <;> first | exact ⟨rfl, rfl⟩ | cases h
theorem or_t {a b : Bool} (h : (a || b) = true) : a = true ∨ b = true := by cases a <;> cases b <;> first | exact .inl rfl | exact .inr rfl | cases h
theorem not_t {a : Bool} (h : (!a) = true) : a = false := by cases a <;> first | rfl | cases h
theorem dec_t {p : Prop} [Decidable p] (h : decide p = true) : p := of_decide_eq_true h
mutual
theorem beqD_eq : ∀ {a b : D}, beqD a b = true → a = b
  | .none, b, h => by cases b <;> first | rfl | cases h
  | .bool a, b, h => by
    cases b with
    | bool b => rw [dec_t (p := a = b) h]
    | _ => cases h
  | .int a, b, h => by
    cases b with
    | int b => rw [dec_t (p := a = b) h]
    | _ => cases h
  | .str a, b, h => by
    cases b with
    | str b => rw [dec_t (p := a = b) h]
    | _ => cases h
  | .list a, b, h => by
    cases b with
    | list b => rw [beqL_eq (a := a) (b := b) h]
    | _ => cases h
  | .tuple a, b, h => by
    cases b with
    | tuple b => rw [beqL_eq (a := a) (b := b) h]
    | _ => cases h
  | .dict a, b, h => by cases b <;> cases h
theorem beqL_eq : ∀ {a b : List D}, beqL a b = true → a = b
  | [], b, h => by cases b <;> first | rfl | cases h
  | x :: xs, b, h => by
    cases b with
    | nil => cases h
    | cons y ys =>
      obtain ⟨h1, h2⟩ := and_t (a := beqD x y) (b := beqL xs ys) h
      rw [beqD_eq h1, beqL_eq h2]
end
def cstC : Const → Option D
  | .none => some .none
  | .bool b => some (.bool b)
  | .int i => some (.int i)
  | .str s => if s.length ≤ 1000 then some (.str s) else none
  | _ => none
def biNm : BI → Str
  | .len => "len" | .tuple => "tuple" | .list => "list" | .all => "all" | .any => "any" | .sum => "sum" | .min => "min" | .max => "max" | .sorted => "sorted" | .int => "int" | .abs => "abs" | .isa _ => "isinstance" | .str => "str" | .dict => "dict" | .sset => "sorted" | .lset => "len" | .lrng => "list"
def inN : BI → Nat
  | .lrng => 1
  | _ => 0
def tyStr : Ty → Str
  | .int => "int" | .bool => "bool" | .str => "str" | .tuple => "tuple" | .list => "list"
def isRev : Expr → Bool
  | .Slice none none (some (.UnaryOp .USub (.Constant (.int 1) _ _) _)) _ => true
  | _ => false
theorem isRev_eq {e : Expr} (h : isRev e = true) : ∃ k p1 p2 p3, e = .Slice none none (some (.UnaryOp .USub (.Constant (.int 1) k p1) p2)) p3 := by
  unfold isRev at h
  split at h
  · exact ⟨_, _, _, _, rfl⟩
  · cases h
def isaT : BI → Option Ty
  | .isa t => some t
  | _ => none
def miNm : MI → Option Str
  | .join => some "join" | .count => some "count" | .lcount => some "count" | _ => none
def notSlice : Expr → Bool
  | .Slice .. => false
  | _ => true
def notStar : Expr → Bool
  | .Starred .. => false
  | _ => true
def notSet : Expr → Bool
  | .Set .. => false
  | _ => true
def noBase : Expr → Bool
  | .Call (.Name _ _) [] [] _ => false
  | _ => true
def bltB (S : Sc) (x : Str) : Bool := glB S x && decide (x ∈ S.blt)
def ownOf2 (S : Sc) (tg tg2 : CE) : List (Str × Nat) := (tgs tg ++ tgs tg2).map fun i => (S.N.getD i "", i)
def ownOf (S : Sc) (tg : CE) : List (Str × Nat) := (tgs tg).map fun i => (S.N.getD i "", i)
mutual
def chkG : CE → Sc → Expr → Bool
  | .var i, S, .Name x _ => decide (S.N[i]? = some x) && locB S x
  | .tup es, S, .Tuple xs _ _ => chkGs es S xs
  | _, _, _ => false
def chkGs : CE → Sc → List Expr → Bool
  | .nil, _, [] => true
  | .cons h t, S, x :: xs => notStar x && (chkG h S x && chkGs t S xs)
  | _, _, _ => false
end
mutual
def chkE : CE → Sc → Expr → Bool
  | .nev, _, _ => true
  | .cupR i k, S, .Subscript (.Name x _) (.Constant (.int n) _ _) _ => decide (S.N[i]? = some x) && (visB S x && (decide (n = (k : Nat)) && (decide (k = 0) || decide (k = 1))))
  | .dop o i k x, S, e => match o, e with
    | .get2, .Call (.Attribute (.Name d _) nm ap) [y, z] [] cp => decide (nm = "get") && (decide (S.N[i]? = some d) && (visB S d && (decide (ap.endLine = cp.line) && (notStar y && (notStar z && (chkE k S y && chkE x S z))))))
    | .sub, .Subscript (.Name d _) y _ => decide (S.N[i]? = some d) && (visB S d && (notSlice y && chkE k S y))
    | .srt, .Call (.Name nm _) [.Name d _] [] _ => decide (nm = "sorted") && (bltB S nm && (decide (S.N[i]? = some d) && visB S d))
    | _, _ => false
  | .var i, S, .Name x _ => decide (S.N[i]? = some x) && visB S x
  | .cst d, _, .Constant c _ _ => match cstC c with
    | some d' => beqD d d'
    | none => false
  | .glb d x, S, .Name y _ => decide (x = y) && (glB S x && S.glb.any fun p => decide (p.1 = x) && beqD p.2 d)
  | .tup es, S, .Tuple xs _ _ => chkL es S xs && decide (clen es ≤ 1000)
  | .lst es, S, .List xs _ => chkL es S xs && decide (clen es ≤ 1000)
  | .bin op a b, S, .BinOp x o y _ => decide (op = o) && (chkE a S x && chkE b S y)
  | .neg a, S, .UnaryOp .USub x _ => chkE a S x
  | .not a, S, .UnaryOp .Not x _ => chkE a S x
  | .cmp op a b, S, .Compare x [o] [y] _ => decide (op = o) && (!behindInMarks o y && (chkE a S x && chkE b S y))
  | .chn o p a b c, S, .Compare x [o', p'] [y, z] _ => decide (o = o') && (decide (p = p') && (!lastMarks [o', p'] [y, z] && (chkE a S x && (chkE b S y && chkE c S z))))
  | .and es, S, .BoolOp .And (x :: xs) _ => chkL es S (x :: xs)
  | .or es, S, .BoolOp .Or (x :: xs) _ => chkL es S (x :: xs)
  | .ite c a b, S, .IfExp x y z _ => chkE c S x && (chkE a S y && chkE b S z)
  | .sub a i, S, .Subscript x y _ => notSlice y && (chkE a S x && chkE i S y)
  | .slc a lo hi, S, .Subscript x (.Slice l h none _) _ => chkE a S x && ((match l with
      | none => isNil lo
      | some l => chkE lo S l) && (match h with
      | none => isNil hi
      | some h => chkE hi S h))
  | .rev a, S, .Subscript x sl _ => isRev sl && chkE a S x
  | .call j es, S, .Call (.Name x _) (y :: ys) [] _ => decide (S.funs[j]? = some (x, clen es)) && (glB S x && chkL es S (y :: ys))
  | .bi f es, S, .Call (.Name x _) (y :: ys) [] _ => decide (x = biNm f) && (bltB S x && (match isaT f with
    | some t => (match ys with
      | [.Name T _] => decide (T = tyStr t) && (bltB S T && chkL es S [y])
      | _ => false)
    | none => (match inB f with
      | some z => (match y, ys with
        | .Call (.Name u _) (v :: vs) [] _, [] => decide (u = z) && (bltB S u && (decide (vs.length ≤ inN f) && chkL es S (v :: vs)))
        | _, _ => false)
      | none => chkL es S (y :: ys))))
  | .mth m o es, S, .Call (.Attribute x name apos) (y :: ys) [] cpos => decide (miNm m = some name) && (noBase x && (decide (apos.endLine = cpos.line) && (decide (ys.length < 28) && (chkE o S x && chkL es S (y :: ys)))))
  | .lscr i, S, .Call (.Name nm _) [.Name x _] [] _ => decide (nm = biNm .list) && (bltB S nm && (decide (S.N[i]? = some x) && visB S x))
  | .lc tg it ifs elt, S, .ListComp e [⟨tgx, itx, ifsx, asy⟩] scope _ => decide (asy = 0) && (blkC S.N S.sc scope (ownOf S tg) && (notSet itx && (chkG tg (S.blk scope) tgx && ((chkE it S itx || chkI it S tgx itx) && (decide (ifsx.length ≤ 1) && (chkL ifs (S.blk scope) ifsx && chkE elt (S.blk scope) e))))))
  | .lc2 tg it ifs tg2 it2 ifs2 elt, S, .ListComp e [⟨tgx, itx, ifsx, asy⟩, ⟨tgy, ity, ifsy, asz⟩] scope _ => decide (asy = 0) && (decide (asz = 0) && (blkC S.N S.sc scope (ownOf2 S tg tg2) && (notSet itx && (notSet ity && (chkG tg (S.blk scope) tgx && ((chkE it S itx || chkI it S tgx itx) && (decide (ifsx.length ≤ 1) && (chkL ifs (S.blk scope) ifsx && (chkG tg2 (S.blk scope) tgy && ((chkE it2 (S.blk scope) ity || chkI it2 (S.blk scope) tgy ity) && (decide (ifsy.length ≤ 1) && (chkL ifs2 (S.blk scope) ifsy && chkE elt (S.blk scope) e))))))))))))
  | _, _, _ => false
def chkL : CE → Sc → List Expr → Bool
  | .nil, _, [] => true
  | .cons h t, S, x :: xs => notStar x && (chkE h S x && chkL t S xs)
  | _, _, _ => false
def chkI : CE → Sc → Expr → Expr → Bool
  | .rng (.cons a .nil), S, _, .Call (.Name x _) [y] [] _ => decide (x = "range") && (bltB S x && (notStar y && chkE a S y))
  | .rng (.cons a (.cons b .nil)), S, _, .Call (.Name x _) [y, z] [] _ => decide (x = "range") && (bltB S x && (notStar y && (notStar z && (chkE a S y && chkE b S z))))
  | .enm a, S, .Tuple _ _ _, .Call (.Name x _) [y] [] _ => decide (x = "enumerate") && (bltB S x && (notStar y && chkE a S y))
  | .rgv i, S, _, .Name x _ => decide (S.N[i]? = some x) && visB S x
  | .zip a b, S, .Tuple _ _ _, .Call (.Name x _) [y, z] [] _ => decide (x = "zip") && (bltB S x && (notStar y && (notStar z && (chkE a S y && chkE b S z))))
  | _, _, _, _ => false
end

/-- what a term's soundness asks of where it runs -/
structure Good (G : List Den) (k : Nat) (X : Cx) (P : Pm) (S : Sc) : Prop where
  N : X.N = S.N
  nd : X.N.Nodup
  sc : X.env.scope = S.sc
  fn : ∀ x, S.fn x = true → X.fn x = true
  calm : X.calm = true
  room : Room k X.A
  tk : Takes X P.W
  glb : ∀ x d, (x, d) ∈ S.glb → ∃ v u, X.mg x = some u ∧ RelV v u ∧ ∀ O H, Rep X.K O H d v
  fun_ : ∀ j x n, S.funs[j]? = some (x, n) → ∃ f fd ps, ps.length = n ∧ X.mg x = some (.ref f) ∧ PySem.W.keepIn X.K (.ref f) = true ∧ FnOk X.prog X.w X.K X.mg X.base (L2.CX X.prog X.w) k f fd ps (spD X.K P.cls (G.getD j fun _ => stk) n) ∧ Binds X.K fd ps []
  blt : ∀ x, x ∈ S.blt → X.mg x = none
section
variable {G : List Den} {k : Nat} {X : Cx} {P : Pm} {S : Sc}
theorem okName_t {x : Str} (h : okName x = true) : (x == ("__debug__" : Str)) = false ∧ (x == ("__classdict__" : Str)) = false ∧ x ≠ "__name__" := by
  obtain ⟨h1, h2⟩ := and_t h
  obtain ⟨h2, h3⟩ := and_t h2
  exact ⟨not_t h1, not_t h2, fun z => by rw [z] at h3; simp at h3⟩
theorem Good.vis (g : Good G k X P S) {x : Str} (h : visB S x = true) : Vis X.env.scope x ∧ (x == ("__debug__" : Str)) = false ∧ (x == ("__classdict__" : Str)) = false := by
  obtain ⟨h1, h2⟩ := and_t h
  obtain ⟨a, b, c⟩ := okName_t h2
  refine ⟨?_, a, b⟩
  unfold Vis
  rw [g.sc]
  split at h1
  · exact .inl (by assumption)
  · exact .inr (.inl (by assumption))
  · exact .inr (.inr (by assumption))
  · cases h1
theorem Good.gl (g : Good G k X P S) {x : Str} (h : glB S x = true) : Gl X x ∧ (x == ("__debug__" : Str)) = false ∧ x ≠ "__name__" := by
  obtain ⟨h1, h2⟩ := and_t h
  obtain ⟨a, b, c⟩ := okName_t h2
  refine ⟨?_, a, c⟩
  show X.env.scope.names.lookup x = _
  rw [g.sc]; exact dec_t h1
theorem Good.bl (g : Good G k X P S) {x : Str} (h : bltB S x = true) : Gl X x ∧ (x == ("__debug__" : Str)) = false ∧ x ≠ "__name__" ∧ X.mg x = none := by
  obtain ⟨h1, h2⟩ := and_t h
  obtain ⟨a, b, c⟩ := g.gl h1
  exact ⟨a, b, c, g.blt x (dec_t h2)⟩
theorem Good.loc (g : Good G k X P S) {x : Str} (h : locB S x = true) : L2.Loc X.env.scope x ∧ (X.fn x = true ∨ X.env.scope.names.lookup x = some .local) := by
  unfold L2.Loc
  rw [g.sc]
  rcases or_t h with h | h
  · exact ⟨.inl (dec_t h), .inr (dec_t h)⟩
  · obtain ⟨h1, h2⟩ := and_t h
    exact ⟨.inr (dec_t h1), .inl (g.fn x h2)⟩
theorem Good.ix (g : Good G k X P S) {i : Nat} {x : Str} (h : decide (S.N[i]? = some x) = true) : X.N[i]? = some x := by rw [g.N]; exact dec_t h
theorem Good.block (g : Good G k X P S) {s : Shared} {H : Hp} {scope : Scope} {C : Addr} {cl : List (Str × Addr)} {fp : List Addr} : Good G k (X.blk s H scope (compEnvC scope cl C X.env) fp) P.quiet (S.blk scope) where
  N := g.N
  nd := g.nd
  sc := by show relS scope X.env.scope = relS scope S.sc; rw [g.sc]
  fn := fun x h => h
  calm := g.calm
  room := g.room
  tk := fun u s' ⟨a, B, sI, pins, σ, H, cls, d, e, I, nb, up, sky, na, os, ag, w⟩ => w.elim
  glb := g.glb
  fun_ := g.fun_
  blt := g.blt
theorem star1 {e : Expr} {es : List Expr} {env : PySem.Env} (h : notStar e = true) : starEach (e :: es) env = (false, eval e env) :: starEach es env := by
  cases e <;> first | rfl | cases h
theorem chkL_stars : ∀ {c : CE} {S : Sc} {es : List Expr}, chkL c S es = true → es.all notStar = true
  | .nil, S, [], h => rfl
  | .cons c t, S, x :: xs, h => by
    obtain ⟨h1, h2⟩ := and_t (a := notStar x) h
    obtain ⟨h2, h3⟩ := and_t h2
    rw [List.all_cons, h1, chkL_stars h3]; rfl
  | .nil, S, x :: xs, h => by cases h
  | .cons c t, S, [], h => by cases h
  | .var _, S, es, h => by cases h
  | .cst _, S, es, h => by cases h
  | .glb _ _, S, es, h => by cases h
  | .tup _, S, es, h => by cases h
  | .lst _, S, es, h => by cases h
  | .bin _ _ _, S, es, h => by cases h
  | .neg _, S, es, h => by cases h
  | .not _, S, es, h => by cases h
  | .cmp _ _ _, S, es, h => by cases h
  | .chn _ _ _ _ _, S, es, h => by cases h
  | .and _, S, es, h => by cases h
  | .or _, S, es, h => by cases h
  | .ite _ _ _, S, es, h => by cases h
  | .sub _ _, S, es, h => by cases h
  | .slc _ _ _, S, es, h => by cases h
  | .rev _, S, es, h => by cases h
  | .call _ _, S, es, h => by cases h
  | .bi _ _, S, es, h => by cases h
  | .mth _ _ _, S, es, h => by cases h
  | .rng _, S, es, h => by cases h
  | .enm _, S, es, h => by cases h
  | .zip _ _, S, es, h => by cases h
  | .lscr _, S, es, h => by cases h
  | .lc _ _ _ _, S, es, h => by cases h
  | .lc2 _ _ _ _ _ _ _, S, es, h => by cases h
  | .cupR _ _, S, es, h => by cases h
  | .dop _ _ _ _, S, es, h => by cases h
  | .rgv _, S, es, h => by cases h
  | .nev, S, es, h => by cases h
theorem chkL_cons {c : CE} {S : Sc} {e : Expr} {es : List Expr} (h : chkL c S (e :: es) = true) : ∃ a t, c = .cons a t ∧ notStar e = true ∧ chkE a S e = true ∧ chkL t S es = true := by
  cases c with
  | cons a t =>
    obtain ⟨h1, h2⟩ := and_t (a := notStar e) h
    obtain ⟨h2, h3⟩ := and_t h2
    exact ⟨a, t, rfl, h1, h2, h3⟩
  | _ => cases h
theorem chkL_nil {c : CE} {S : Sc} (h : chkL c S [] = true) : c = .nil := by
  cases c with
  | nil => rfl
  | _ => cases h
theorem stars_plain {pos : Pos} {env : PySem.Env} : ∀ {es : List Expr}, es.all notStar = true → (backTo pos (starEach es env)).any (·.1) = false
  | [], _ => rfl
  | e :: es, h => by
    rw [List.all_cons] at h
    obtain ⟨h1, h2⟩ := and_t h
    have ih := stars_plain (pos := pos) (env := env) h2
    rw [star1 h1]
    exact ih
theorem stars_all {pos : Pos} {env : PySem.Env} : ∀ {es : List Expr}, es.all notStar = true → (backTo pos (starEach es env)).all (fun x => !x.1) = true
  | [], _ => rfl
  | e :: es, h => by
    rw [List.all_cons] at h
    obtain ⟨h1, h2⟩ := and_t h
    have ih := stars_all (pos := pos) (env := env) h2
    rw [star1 h1]
    exact ih
theorem ixPlain {e : Expr} (h : notSlice e = true) : PlainIx e := by
  intro o i
  cases e <;> first | rfl | cases h
theorem base_of {o : Expr} {name : Str} {env : PySem.Env} (h : noBase o = true) : attributeBase o name env (eval o env) = eval o env := by
  unfold attributeBase
  split
  · cases h
  · rfl
theorem folded_of {e : Expr} {env : PySem.Env} (h : notSet e = true) : ∀ x, foldedSetIterable e env x = pure x := by
  intro x
  cases e <;> first | rfl | cases h
end
end OR

/-! a checked term tells what the text does -/
namespace OR
open PySem PySem.Spec PyProof.Rows L2 TL

theorem bnd_assoc {α β γ : Type} (m : M α) (f : α → M β) (g : β → M γ) : bnd (bnd m f) g = bnd m fun x => bnd (f x) g := by
  funext c
  unfold bnd
  cases m c <;> rfl
theorem bnd_ok {α β : Type} {m : M α} {f : α → M β} {c c' : Cu} {b : β} (h : bnd m f c = .ok b c') : ∃ a c1, m c = .ok a c1 ∧ f a c1 = .ok b c' := by
  unfold bnd at h
  cases q : m c with
  | ok a c1 => rw [q] at h; exact ⟨a, c1, rfl, h⟩
  | ex x c1 => rw [q] at h; cases h
  | no => rw [q] at h; cases h
section
variable {G : List Den}
theorem evL_len : ∀ {es : CE} {δ : Env} {cu cu' : Cu} {ds : List D}, evL G es δ cu = .ok ds cu' → ds.length = clen es
  | .nil, δ, cu, cu', ds, h => by
    have h : R.ok [] cu = .ok ds cu' := h
    cases h; rfl
  | .cons a t, δ, cu, cu', ds, h => by
    obtain ⟨x, c1, _, h1⟩ := bnd_ok (m := evE G a δ) h
    obtain ⟨xs, c2, h2, h3⟩ := bnd_ok h1
    have h3 : R.ok (x :: xs) c2 = .ok ds cu' := h3
    cases h3
    rw [List.length_cons, evL_len h2]; rfl
  | .var _, δ, cu, cu', ds, h => by cases h
  | .cst _, δ, cu, cu', ds, h => by cases h
  | .glb _ _, δ, cu, cu', ds, h => by cases h
  | .tup _, δ, cu, cu', ds, h => by cases h
  | .lst _, δ, cu, cu', ds, h => by cases h
  | .bin _ _ _, δ, cu, cu', ds, h => by cases h
  | .neg _, δ, cu, cu', ds, h => by cases h
  | .not _, δ, cu, cu', ds, h => by cases h
  | .cmp _ _ _, δ, cu, cu', ds, h => by cases h
  | .chn _ _ _ _ _, δ, cu, cu', ds, h => by cases h
  | .and _, δ, cu, cu', ds, h => by cases h
  | .or _, δ, cu, cu', ds, h => by cases h
  | .ite _ _ _, δ, cu, cu', ds, h => by cases h
  | .sub _ _, δ, cu, cu', ds, h => by cases h
  | .slc _ _ _, δ, cu, cu', ds, h => by cases h
  | .rev _, δ, cu, cu', ds, h => by cases h
  | .call _ _, δ, cu, cu', ds, h => by cases h
  | .bi _ _, δ, cu, cu', ds, h => by cases h
  | .mth _ _ _, δ, cu, cu', ds, h => by cases h
  | .rng _, δ, cu, cu', ds, h => by cases h
  | .enm _, δ, cu, cu', ds, h => by cases h
  | .zip _ _, δ, cu, cu', ds, h => by cases h
  | .lscr _, δ, cu, cu', ds, h => by cases h
  | .lc _ _ _ _, δ, cu, cu', ds, h => by cases h
  | .lc2 _ _ _ _ _ _ _, δ, cu, cu', ds, h => by cases h
  | .cupR _ _, δ, cu, cu', ds, h => by cases h
  | .dop _ _ _ _, δ, cu, cu', ds, h => by cases h
  | .rgv _, δ, cu, cu', ds, h => by cases h
  | .nev, δ, cu, cu', ds, h => by cases h
/-- an argument, and the rest -/
theorem evA_step {a t : CE} {δ : Env} {cu cu' : Cu} {as : List Slot} (h : evA G (.cons a t) δ cu = .ok as cu') : ∃ s ss c1 c2, as = s :: ss ∧ evA G t δ c1 = .ok ss c2 := by
  have gen : ∀ {m : M D}, bnd m (fun x => bnd (evA G t δ) fun xs => ret (.val x :: xs)) cu = .ok as cu' → ∃ s ss c1 c2, as = s :: ss ∧ evA G t δ c1 = .ok ss c2 := fun {m} h => by
    obtain ⟨x, c1, _, h1⟩ := bnd_ok (m := m) h
    obtain ⟨xs, c2, h2, h3⟩ := bnd_ok h1
    have h3 : R.ok (Slot.val x :: xs) c2 = .ok as cu' := h3
    cases h3
    exact ⟨_, _, _, _, rfl, h2⟩
  have one : ∀ {s : Slot}, bnd (evA G t δ) (fun xs => ret (s :: xs)) cu = .ok as cu' → ∃ s ss c1 c2, as = s :: ss ∧ evA G t δ c1 = .ok ss c2 := fun {s} h => by
    obtain ⟨xs, c2, h2, h3⟩ := bnd_ok h
    have h3 : R.ok (s :: xs) c2 = .ok as cu' := h3
    cases h3
    exact ⟨_, _, _, _, rfl, h2⟩
  cases a with
  | var i =>
    simp only [evA] at h
    cases q : getS δ i with
    | val d => rw [q] at h; exact one h
    | own d => rw [q] at h; exact one h
    | cup => rw [q] at h; exact one h
    | scr is => rw [q] at h; exact one h
    | no => rw [q] at h; cases h
    | obj o => rw [q] at h; cases h
  | _ => exact gen h
theorem evA_len : ∀ {es : CE} {δ : Env} {cu cu' : Cu} {ds : List Slot}, evA G es δ cu = .ok ds cu' → ds.length = clen es
  | .nil, δ, cu, cu', ds, h => by
    have h : R.ok [] cu = .ok ds cu' := h
    cases h; rfl
  | .cons a t, δ, cu, cu', ds, h => by
    obtain ⟨s, ss, c1, c2, rfl, h2⟩ := evA_step h
    rw [List.length_cons, evA_len h2]; rfl
  | .var _, δ, cu, cu', ds, h => by cases h
  | .cst _, δ, cu, cu', ds, h => by cases h
  | .glb _ _, δ, cu, cu', ds, h => by cases h
  | .tup _, δ, cu, cu', ds, h => by cases h
  | .lst _, δ, cu, cu', ds, h => by cases h
  | .bin _ _ _, δ, cu, cu', ds, h => by cases h
  | .neg _, δ, cu, cu', ds, h => by cases h
  | .not _, δ, cu, cu', ds, h => by cases h
  | .cmp _ _ _, δ, cu, cu', ds, h => by cases h
  | .chn _ _ _ _ _, δ, cu, cu', ds, h => by cases h
  | .and _, δ, cu, cu', ds, h => by cases h
  | .or _, δ, cu, cu', ds, h => by cases h
  | .ite _ _ _, δ, cu, cu', ds, h => by cases h
  | .sub _ _, δ, cu, cu', ds, h => by cases h
  | .slc _ _ _, δ, cu, cu', ds, h => by cases h
  | .rev _, δ, cu, cu', ds, h => by cases h
  | .call _ _, δ, cu, cu', ds, h => by cases h
  | .bi _ _, δ, cu, cu', ds, h => by cases h
  | .mth _ _ _, δ, cu, cu', ds, h => by cases h
  | .rng _, δ, cu, cu', ds, h => by cases h
  | .enm _, δ, cu, cu', ds, h => by cases h
  | .zip _ _, δ, cu, cu', ds, h => by cases h
  | .lscr _, δ, cu, cu', ds, h => by cases h
  | .lc _ _ _ _, δ, cu, cu', ds, h => by cases h
  | .lc2 _ _ _ _ _ _ _, δ, cu, cu', ds, h => by cases h
  | .cupR _ _, δ, cu, cu', ds, h => by cases h
  | .dop _ _ _ _, δ, cu, cu', ds, h => by cases h
  | .rgv _, δ, cu, cu', ds, h => by cases h
  | .nev, δ, cu, cu', ds, h => by cases h
end
section
variable {G : List Den} {k : Nat} {X : Cx} {P : Pm} {S : Sc}
theorem bi_boot (f : BI) : bootBuiltins (biNm f) = some (biId f) := by
  cases f <;> first | decide +kernel | exact (by decide +kernel : bootBuiltins "isinstance" = some (.builtin "isinstance"))
theorem ty_boot (t : Ty) : bootBuiltins (tyStr t) = some (.type (tyName t)) := by cases t <;> decide +kernel
mutual
theorem sndG : ∀ {tg : CE} {X : Cx} {P : Pm} {S : Sc} {e : Expr}, Good G k X P S → chkG tg S e = true → PG X e (gT X.K tg)
  | .var i, X, P, S, e, g, h => by
    cases e with
    | Name x p =>
      obtain ⟨h1, h2⟩ := and_t (a := decide (S.N[i]? = some x)) h
      exact pg_name g.nd (g.ix h1) (g.loc h2).1 (g.loc h2).2
    | _ => cases h
  | .tup es, X, P, S, e, g, h => by
    cases e with
    | Tuple xs j p =>
      obtain ⟨h1, h2, h3⟩ := sndGs (tg := es) (es := xs) g h
      exact pg_tup g.calm h1 h2 h3
    | _ => cases h
  | .cst _, X, P, S, e, g, h => by cases h
  | .glb _ _, X, P, S, e, g, h => by cases h
  | .lst _, X, P, S, e, g, h => by cases h
  | .bin _ _ _, X, P, S, e, g, h => by cases h
  | .neg _, X, P, S, e, g, h => by cases h
  | .not _, X, P, S, e, g, h => by cases h
  | .cmp _ _ _, X, P, S, e, g, h => by cases h
  | .chn _ _ _ _ _, X, P, S, e, g, h => by cases h
  | .and _, X, P, S, e, g, h => by cases h
  | .or _, X, P, S, e, g, h => by cases h
  | .ite _ _ _, X, P, S, e, g, h => by cases h
  | .sub _ _, X, P, S, e, g, h => by cases h
  | .slc _ _ _, X, P, S, e, g, h => by cases h
  | .rev _, X, P, S, e, g, h => by cases h
  | .call _ _, X, P, S, e, g, h => by cases h
  | .bi _ _, X, P, S, e, g, h => by cases h
  | .mth _ _ _, X, P, S, e, g, h => by cases h
  | .rng _, X, P, S, e, g, h => by cases h
  | .enm _, X, P, S, e, g, h => by cases h
  | .zip _ _, X, P, S, e, g, h => by cases h
  | .lscr _, X, P, S, e, g, h => by cases h
  | .lc _ _ _ _, X, P, S, e, g, h => by cases h
  | .lc2 _ _ _ _ _ _ _, X, P, S, e, g, h => by cases h
  | .cupR _ _, X, P, S, e, g, h => by cases h
  | .dop _ _ _ _, X, P, S, e, g, h => by cases h
  | .rgv _, X, P, S, e, g, h => by cases h
  | .nev, X, P, S, e, g, h => by cases h
  | .nil, X, P, S, e, g, h => by cases h
  | .cons _ _, X, P, S, e, g, h => by cases h
theorem sndGs : ∀ {tg : CE} {X : Cx} {P : Pm} {S : Sc} {es : List Expr}, Good G k X P S → chkGs tg S es = true → PGs X es (gTs X.K tg) ∧ (assignEach es X.env).length = clen tg ∧ (assignEach es X.env).findIdx? (·.1) = none
  | .nil, X, P, S, es, g, h => by
    cases es with
    | nil => exact ⟨pgs_nil, rfl, rfl⟩
    | cons _ _ => cases h
  | .cons c t, X, P, S, es, g, h => by
    cases es with
    | nil => cases h
    | cons x xs =>
      obtain ⟨h1, h2⟩ := and_t (a := notStar x) h
      obtain ⟨h2, h3⟩ := and_t h2
      have e1 : assignEach (x :: xs) X.env = (false, assign x X.env) :: assignEach xs X.env := by cases x <;> first | rfl | cases h1
      obtain ⟨q1, q2, q3⟩ := sndGs (tg := t) g h3
      refine ⟨pgs_cons (sndG g h2) q1 (by rw [e1]; rfl), by rw [e1, List.length_cons, q2]; rfl, ?_⟩
      rw [e1, List.findIdx?_cons, q3]; rfl
  | .var _, X, P, S, e, g, h => by cases h
  | .tup _, X, P, S, e, g, h => by cases h
  | .cst _, X, P, S, e, g, h => by cases h
  | .glb _ _, X, P, S, e, g, h => by cases h
  | .lst _, X, P, S, e, g, h => by cases h
  | .bin _ _ _, X, P, S, e, g, h => by cases h
  | .neg _, X, P, S, e, g, h => by cases h
  | .not _, X, P, S, e, g, h => by cases h
  | .cmp _ _ _, X, P, S, e, g, h => by cases h
  | .chn _ _ _ _ _, X, P, S, e, g, h => by cases h
  | .and _, X, P, S, e, g, h => by cases h
  | .or _, X, P, S, e, g, h => by cases h
  | .ite _ _ _, X, P, S, e, g, h => by cases h
  | .sub _ _, X, P, S, e, g, h => by cases h
  | .slc _ _ _, X, P, S, e, g, h => by cases h
  | .rev _, X, P, S, e, g, h => by cases h
  | .call _ _, X, P, S, e, g, h => by cases h
  | .bi _ _, X, P, S, e, g, h => by cases h
  | .mth _ _ _, X, P, S, e, g, h => by cases h
  | .rng _, X, P, S, e, g, h => by cases h
  | .enm _, X, P, S, e, g, h => by cases h
  | .zip _ _, X, P, S, e, g, h => by cases h
  | .lscr _, X, P, S, e, g, h => by cases h
  | .lc _ _ _ _, X, P, S, e, g, h => by cases h
  | .lc2 _ _ _ _ _ _ _, X, P, S, e, g, h => by cases h
  | .cupR _ _, X, P, S, e, g, h => by cases h
  | .dop _ _ _ _, X, P, S, e, g, h => by cases h
  | .rgv _, X, P, S, e, g, h => by cases h
  | .nev, X, P, S, e, g, h => by cases h
end
end
end OR

namespace OR
open PySem PySem.Spec PyProof.Rows L2 TL
theorem leak_tf (c : CE) : ∀ i ∈ leak true c, i ∈ leak false c := by
  induction c with
  | var i => intro j h; cases h
  | enm a ih => exact ih
  | zip a b iha ihb => intro j h; exact (List.mem_append.mp h).elim (fun z => mem_l (iha j z)) fun z => mem_r (ihb j z)
  | bi f es ih =>
    intro j h
    cases es with
    | cons a t => cases t <;> exact h
    | _ => exact h
  | mth m o es iho ih =>
    intro j h
    cases es with
    | cons a t => cases t <;> exact h
    | _ => exact h
  | _ => intro j h; exact h
section
variable {K : PySem.W.Frag} {P : Pm} {σ : L2.St} {H : Hp}
theorem rdE.sub {tp fr : Bool} {L L' : List Nat} {m : Env → M D} {Q : VK} (hs : ∀ i ∈ L, i ∈ L') (h : rdE K P tp fr L' m σ H Q) : rdE K P tp fr L m σ H Q := let ⟨O, δ, cu, a, b, c⟩ := h; ⟨O, δ, cu, a.sub hs, b, c⟩
theorem rdB.sub {L L' : List Nat} {m : Env → M Bool} {Q : Bool → Hp → Prop} (hs : ∀ i ∈ L, i ∈ L') (h : rdB K P L' m σ H Q) : rdB K P L m σ H Q := let ⟨O, δ, cu, a, b, c⟩ := h; ⟨O, δ, cu, a.sub hs, b, c⟩
end
section
variable {X : Cx} {P : Pm} {a : Expr}
theorem PE.lk {tp fr : Bool} {L L' : List Nat} {m : Env → M D} (hs : ∀ i ∈ L, i ∈ L') (h : PE X a (rdE X.K P tp fr L m)) : PE X a (rdE X.K P tp fr L' m) := PE.weak h fun _ _ _ q => rdE.sub hs q
theorem PT.lk {L L' : List Nat} {m : Env → M Bool} (hs : ∀ i ∈ L, i ∈ L') (h : PT X a (rdB X.K P L m)) : PT X a (rdB X.K P L' m) := PT.weak h fun _ _ _ q => rdB.sub hs q
theorem PE.eqm {tp fr : Bool} {L : List Nat} {m m' : Env → M D} (e : m = m') (h : PE X a (rdE X.K P tp fr L m)) : PE X a (rdE X.K P tp fr L m') := e ▸ h
theorem PT.eqm {L : List Nat} {m m' : Env → M Bool} (e : m = m') (h : PT X a (rdB X.K P L m)) : PT X a (rdB X.K P L m') := e ▸ h
theorem PW.eqm {L : List Nat} {m m' : Env → M Bool} (e : m = m') (h : PW X a (rdB X.K P L m)) : PW X a (rdB X.K P L m') := e ▸ h
variable {b c : Expr} {rest : List Expr} {pos : Pos} {La Lb Lc L : List Nat} {fa fb : Bool} {ma mb : Env → M D} {mt mu mv : Env → M Bool} {tp : Bool}
theorem res_bool {tp fr fr' : Bool} {K : PySem.W.Frag} {O : Addr → Prop} {ac : Option Addr} {H H' : Hp} {b : Bool} (ho : ∀ a, ac = some a → O a) : Res tp fr K O ac H H' (.bool b) (.bl b) := .of ho rfl fun _ z => by cases z
theorem snd_and (ha : PE X a (rdE X.K P true fa La ma)) (hb : PE X (.BoolOp .And (b :: rest) pos) (rdE X.K P tp false Lb mb)) :
    PE X (.BoolOp .And (a :: b :: rest) pos) (rdE X.K P tp false (La ++ Lb) fun σ => bnd (ma σ) fun x => bnd (tru x) fun k => if k then mb σ else ret (.bool false)) := by
  refine PE.weak (pe_and ha hb) ?_
  intro σ H Q ⟨O, δ, cu, hE, hc, hw⟩
  refine rd_bind hE hc (fun _ => mem_l) hw (fun x cu1 v1 H1 e1 c1 r1 hw1 => ?_) fun x cu1 h => h
  have h2 := wpM_bnd hw1
  obtain ⟨k, rfl, q⟩ := wpM_tru h2
  refine ⟨k, r1.t, ?_⟩
  cases k with
  | true => exact rd_last (hE.step e1 c1) c1 (fun _ => mem_r) q (fun d cu2 v2 H2 e2 c2 r2 h => h v2 H2 (e1.trans e2) c2 ⟨r2.1, fun z => by cases z⟩) (exc_tr e1 fun x cu1 h => h)
  | false => exact q _ H1 e1 c1 (res_bool (fr' := true) hE.aco)
theorem snd_or (ha : PE X a (rdE X.K P true fa La ma)) (hb : PE X (.BoolOp .Or (b :: rest) pos) (rdE X.K P tp false Lb mb)) :
    PE X (.BoolOp .Or (a :: b :: rest) pos) (rdE X.K P tp false (La ++ Lb) fun σ => bnd (ma σ) fun x => bnd (tru x) fun k => if k then ret (.bool true) else mb σ) := by
  refine PE.weak (pe_or ha hb) ?_
  intro σ H Q ⟨O, δ, cu, hE, hc, hw⟩
  refine rd_bind hE hc (fun _ => mem_l) hw (fun x cu1 v1 H1 e1 c1 r1 hw1 => ?_) fun x cu1 h => h
  have h2 := wpM_bnd hw1
  obtain ⟨k, rfl, q⟩ := wpM_tru h2
  refine ⟨k, r1.t, ?_⟩
  cases k with
  | false => exact rd_last (hE.step e1 c1) c1 (fun _ => mem_r) q (fun d cu2 v2 H2 e2 c2 r2 h => h v2 H2 (e1.trans e2) c2 ⟨r2.1, fun z => by cases z⟩) (exc_tr e1 fun x cu1 h => h)
  | true => exact q _ H1 e1 c1 (res_bool (fr' := true) hE.aco)
theorem snd_one1 {op : BoolOp} (ha : PE X a (rdE X.K P tp fa La ma)) : PE X (.BoolOp op [a] pos) (rdE X.K P tp false La ma) :=
  PE.weak (pe_one ha) fun σ H Q ⟨O, δ, cu, hE, hc, hw⟩ => ⟨O, δ, cu, hE, hc, wpM_mono hw (fun d cu1 h v H1 e1 c1 r1 => h v H1 e1 c1 ⟨r1.1, fun z => by cases z⟩) fun _ _ h => h⟩
theorem snd_andT (ha : PT X a (rdB X.K P La mt)) (hb : PW X (.BoolOp .And (b :: rest) pos) (rdB X.K P Lb mu)) :
    PW X (.BoolOp .And (a :: b :: rest) pos) (rdB X.K P (La ++ Lb) fun σ => bnd (mt σ) fun k => if k then mu σ else ret false) := by
  refine PW.weak (pw_and ha hb) ?_
  intro σ H Q ⟨O, δ, cu, hE, hc, hw⟩
  refine rdB_bind hE hc (fun _ => mem_l) hw (fun x cu1 H1 e1 c1 hw1 => ?_) fun x cu1 h => h
  cases x with
  | true => exact ⟨O, δ, cu1, (hE.step e1 c1).sub (fun _ => mem_r), c1, wpM_mono hw1 (fun b cu2 h H2 e2 c2 => h H2 (e1.trans e2) c2) (exc_tr e1 fun x cu1 h => h)⟩
  | false => exact hw1 H1 e1 c1
theorem snd_orT (ha : PT X a (rdB X.K P La mt)) (hb : PW X (.BoolOp .Or (b :: rest) pos) (rdB X.K P Lb mu)) :
    PW X (.BoolOp .Or (a :: b :: rest) pos) (rdB X.K P (La ++ Lb) fun σ => bnd (mt σ) fun k => if k then ret true else mu σ) := by
  refine PW.weak (pw_or ha hb) ?_
  intro σ H Q ⟨O, δ, cu, hE, hc, hw⟩
  refine rdB_bind hE hc (fun _ => mem_l) hw (fun x cu1 H1 e1 c1 hw1 => ?_) fun x cu1 h => h
  cases x with
  | false => exact ⟨O, δ, cu1, (hE.step e1 c1).sub (fun _ => mem_r), c1, wpM_mono hw1 (fun b cu2 h H2 e2 c2 => h H2 (e1.trans e2) c2) (exc_tr e1 fun x cu1 h => h)⟩
  | true => exact hw1 H1 e1 c1
def tIfT (t ta tb : TT) : TT := fun σ H Q => t σ H fun c H1 => if c = true then ta σ H1 Q else tb σ H1 Q
theorem isTrue_ite {x y z : Expr} {pos : Pos} {env : PySem.Env} {M : Model} {A : Around} {E : Value → Shared → Prop} {s : Shared} {whole : Sem Value} {Q : Bool → Shared → Prop}
    (h : wpAny M A (isTrue x env (eval x env)) (fun c s' => if c = true then wpAny M A (isTrue y env (eval y env)) Q E s' else wpAny M A (isTrue z env (eval z env)) Q E s') E s) :
    wpAny M A (isTrue (.IfExp x y z pos) env whole) Q E s := by
  show wpAny M A (do if ← isTrue x env (eval x env) then isTrue y env (eval y env) else isTrue z env (eval z env)) Q E s
  refine wpAny_bind (wpAny_mono h (fun c s' h' => ?_) fun _ _ x => x)
  cases c with
  | true => exact h'
  | false => exact h'
theorem pt_ite {ta tb tc : TT} (hc : PT X c tc) (ha : PT X a ta) (hb : PT X b tb) : PT X (.IfExp c a b pos) (tIfT tc ta tb) := by
  refine ⟨fun pins s σ H Q I h => ?_⟩
  refine isTrue_ite (thn (hc.run pins s σ H _ I h) fun d s1 ⟨H1, I1, q1⟩ => ?_)
  cases d with
  | true => exact ha.run pins s1 σ H1 Q I1 q1
  | false => exact hb.run pins s1 σ H1 Q I1 q1
theorem snd_iteT (hc : PT X c (rdB X.K P Lc mt)) (ha : PT X a (rdB X.K P La mu)) (hb : PT X b (rdB X.K P Lb mv)) :
    PT X (.IfExp c a b pos) (rdB X.K P (Lc ++ (La ++ Lb)) fun σ => bnd (mt σ) fun k => if k then mu σ else mv σ) := by
  refine PT.weak (pt_ite hc ha hb) ?_
  intro σ H Q ⟨O, δ, cu, hE, hc, hw⟩
  refine rdB_bind hE hc (fun _ => mem_l) hw (fun x cu1 H1 e1 c1 hw1 => ?_) fun x cu1 h => h
  cases x with
  | true => exact ⟨O, δ, cu1, (hE.step e1 c1).sub (fun _ z => mem_r (mem_l z)), c1, wpM_mono hw1 (fun b cu2 h H2 e2 c2 => h H2 (e1.trans e2) c2) (exc_tr e1 fun x cu1 h => h)⟩
  | false => exact ⟨O, δ, cu1, (hE.step e1 c1).sub (fun _ z => mem_r (mem_r z)), c1, wpM_mono hw1 (fun b cu2 h H2 e2 c2 => h H2 (e1.trans e2) c2) (exc_tr e1 fun x cu1 h => h)⟩
theorem pts_no {m : Env → M Bool} (hm : ∀ δ, m δ = ret true) : PTs X [] (rdB X.K P L m) := by
  refine PTs.weak pts_nil ?_
  intro σ H Q ⟨O, δ, cu, hE, hc, hw⟩
  rw [hm] at hw
  exact hw H (Ext1.refl H) hc
end
end OR

namespace OR
open PySem PySem.Spec PyProof.Rows L2 TL
theorem biD_sset {ds : List D} {d : D} (h : biD .sset ds = some d) : ∃ xs ns, ds = [.list xs] ∧ intsD xs = some ns ∧ xs.length ≤ 4000 ∧ (ssI ns).length < 64 ∧ d = .list ((ssI ns).map .int) := by
  unfold biD at h
  split at h <;> first | (rename_i q; cases q) | skip
  all_goals first | (cases h; done) | skip
  obtain ⟨ns, e, h⟩ := Option.bind_eq_some_iff.mp h
  split at h
  · rename_i hm
    cases h
    obtain ⟨h1, h2⟩ := and_t hm
    exact ⟨_, ns, rfl, e, dec_t h1, dec_t h2, rfl⟩
  · cases h
theorem biD_lset {ds : List D} {d : D} (h : biD .lset ds = some d) : ∃ xs ns, (ds = [.list xs] ∨ ds = [.tuple xs]) ∧ intsD xs = some ns ∧ xs.length ≤ 4000 ∧ d = .int ((ssI ns).length : Nat) := by
  unfold biD at h
  split at h <;> first | (rename_i q; cases q) | skip
  all_goals first | (cases h; done) | skip
  · obtain ⟨ns, e, h⟩ := Option.bind_eq_some_iff.mp h
    split at h
    · rename_i hm
      cases h
      exact ⟨_, ns, .inl rfl, e, hm, rfl⟩
    · cases h
  · obtain ⟨ns, e, h⟩ := Option.bind_eq_some_iff.mp h
    split at h
    · rename_i hm
      cases h
      exact ⟨_, ns, .inr rfl, e, hm, rfl⟩
    · cases h
theorem biD_lrng1 {x d : D} (h : biD .lrng [x] = some d) : ∃ n, x = .int n ∧ rngB 0 n = true ∧ d = .list (rngD 0 n) := by
  cases x with
  | int n =>
    have h : (if rngB 0 n then some (PyData.list (rngD 0 n)) else none) = some d := h
    split at h
    · rename_i hm; cases h; exact ⟨n, rfl, hm, rfl⟩
    · cases h
  | _ => cases h
theorem biD_lrng2 {x y d : D} (h : biD .lrng [x, y] = some d) : ∃ m n, x = .int m ∧ y = .int n ∧ rngB m n = true ∧ d = .list (rngD m n) := by
  cases x with
  | int m => cases y with
    | int n =>
      have h : (if rngB m n then some (PyData.list (rngD m n)) else none) = some d := h
      split at h
      · rename_i hm; cases h; exact ⟨m, n, rfl, rfl, hm, rfl⟩
      · cases h
    | _ => cases h
  | _ => cases h
theorem rngD_ints (a b : Int) : rngD a b = ((List.range (b - a).toNat).map fun i : Nat => a + (i : Nat)).map PyData.int := by
  unfold rngD
  rw [List.map_map]; rfl
theorem rgV_ints (a b : Int) : rgV a b = ((List.range (b - a).toNat).map fun i : Nat => a + (i : Nat)).map V.int := by
  unfold rgV
  rw [List.map_map]; rfl
theorem rep_rng {K : PySem.W.Frag} {O : Addr → Prop} {H : Hp} (a b : Int) : RepL K O H (rngD a b) (rgV a b) := by
  rw [rngD_ints, rgV_ints]; exact repL_ints _
theorem rngB_ok {a b : Int} (h : rngB a b = true) : RgOk a b ∧ (rngD a b).length ≤ sizeLine := by
  unfold rngB at h
  simp only [Bool.and_eq_true, decide_eq_true_eq] at h
  obtain ⟨⟨⟨h1, h2⟩, h3⟩, h4⟩ := h
  refine ⟨⟨by omega, by omega, by omega, by omega, by omega⟩, ?_⟩
  unfold rngD
  rw [List.length_map, List.length_range, sizeLine_eq]
  omega
section
variable {X : Cx} {P : Pm} {a : Expr} {ml : Env → M (List D)} {L : List Nat} {p p2 q pos : Pos} {tp ta : Bool}
theorem snd_sset (hcm : X.calm = true) (hh : X.A.handled = none) (hg : Gl X "sorted") (hm : X.mg "sorted" = none) (hg2 : Gl X "set") (hm2 : X.mg "set" = none) (ha : PA X [a] (rdL X.K P ta L ml))
    (he : starEach [a] X.env = (false, eval a X.env) :: starEach [] X.env) :
    PE X (.Call (.Name "sorted" p) [.Call (.Name "set" p2) [a] [] q] [] pos) (rdE X.K P tp true L fun σ => bnd (ml σ) fun ds => lft (biD .sset ds)) := by
  refine PE.weak (pe_callB (cr_sortedSet hcm) hg hm (by decide +kernel) (pa_cons (pe_callTy (cr_setI hh) hg2 hm2 (by decide +kernel) ha (by decide) (by decide) he rfl) pa_nil rfl) (by decide) (by decide) rfl rfl) ?_
  intro σ H Q ⟨O, δ, cu, hE, hc, hw⟩
  refine rdL_bind hE hc (fun _ h => h) hw (fun ds cu1 vs H1 e1 c1 r1 hw1 => ?_) fun x cu1 h => h
  obtain ⟨d, ed, q⟩ := wpM_lft hw1
  obtain ⟨xs, ns, rfl, en, hl, h64, rfl⟩ := biD_sset ed
  obtain ⟨x, rfl, ra1⟩ := r1.t.one
  obtain ⟨l, ys, rfl, hp, la⟩ := ra1.lst
  have ey := RepL.ints en la
  subst ey
  have len : xs.length = ns.length := by have := la.length; rw [List.length_map] at this; omega
  refine ⟨l, ns, rfl, .inl (SqL.of hp), by omega, fun a2 ha2 => ?_⟩
  refine ⟨a2, _, _, rfl, upd_same, h64, fun ks a3 hr hk hkl ha3 => ?_⟩
  have ek : ks = ssI ns := ris_uniq hr (ssI_ris ns) fun z => by rw [hk z, decide_eq_true_eq, ssI_mem]
  subst ek
  have x2 : Ext0 H1 (upd H1 a2 (SetO X.w a2 (fun j => decide (j ∈ ns)) (ssI ns).length)) := ext0_upd ha2
  have d2 : ODom O (upd H1 a2 (SetO X.w a2 (fun j => decide (j ∈ ns)) (ssI ns).length)) := fun b hb => by
    obtain ⟨ys, e, m⟩ := (hE.step e1 c1).dom b hb
    exact ⟨ys, x2 _ _ e, m⟩
  refine q _ _ ((e1.trans x2.e1).trans (ext0_upd ha3).e1) ((c1.e0 x2).e0 (ext0_upd ha3)) (.fin hE.aco (e1.trans x2.e1) (c1.e0 x2) (res_newLst d2 ha3 (repL_ints (ssI ns)) ?_))
  rw [List.length_map, sizeLine_eq]
  omega
theorem snd_lset (hcm : X.calm = true) (hh : X.A.handled = none) (hg : Gl X "len") (hm : X.mg "len" = none) (hg2 : Gl X "set") (hm2 : X.mg "set" = none) (ha : PA X [a] (rdL X.K P ta L ml))
    (he : starEach [a] X.env = (false, eval a X.env) :: starEach [] X.env) :
    PE X (.Call (.Name "len" p) [.Call (.Name "set" p2) [a] [] q] [] pos) (rdE X.K P tp false L fun σ => bnd (ml σ) fun ds => lft (biD .lset ds)) := by
  refine PE.weak (pe_callB cr_lenSetO hg hm (by decide +kernel) (pa_cons (pe_callTy (cr_setI hh) hg2 hm2 (by decide +kernel) ha (by decide) (by decide) he rfl) pa_nil rfl) (by decide) (by decide) rfl rfl) ?_
  intro σ H Q ⟨O, δ, cu, hE, hc, hw⟩
  refine rdL_bind hE hc (fun _ h => h) hw (fun ds cu1 vs H1 e1 c1 r1 hw1 => ?_) fun x cu1 h => h
  obtain ⟨d, ed, q⟩ := wpM_lft hw1
  obtain ⟨xs, ns, eds, en, hl, rfl⟩ := biD_lset ed
  have key : ∀ (l : Addr) (ys : List V), (SqL X.K H1 l ys ∨ SqT X.K H1 l ys) → RepL X.K O H1 xs ys → rSetI X.K X.w [V.ref l] H1 (fun v H2 => rLenSetO X.w [v] H2 Q) := fun l ys hp la => by
    have ey := RepL.ints en la
    subst ey
    have len : xs.length = ns.length := by have := la.length; rw [List.length_map] at this; omega
    have sl : (ssI ns).length ≤ ns.length := by
      have : ∀ l : List Int, (ssI l).length ≤ l.length := by
        intro l
        induction l with
        | nil => exact Nat.le_refl 0
        | cons k r ih =>
          have ins : ∀ l : List Int, (insU k l).length ≤ l.length + 1 := by
            intro l
            induction l with
            | nil => exact Nat.le_refl 1
            | cons y t ih2 =>
              unfold insU
              split
              · exact Nat.le_refl _
              · split
                · exact Nat.le_succ _
                · rw [List.length_cons, List.length_cons]; omega
          have := ins (ssI r)
          show (insU k (ssI r)).length ≤ r.length + 1
          omega
      exact this ns
    refine ⟨l, ns, rfl, hp, by omega, fun a2 ha2 => ?_⟩
    have x2 : Ext0 H1 (upd H1 a2 (SetO X.w a2 (fun j => decide (j ∈ ns)) (ssI ns).length)) := ext0_upd ha2
    exact ⟨a2, _, _, rfl, upd_same, by omega, q _ _ (e1.trans x2.e1) (c1.e0 x2) (.fin hE.aco (e1.trans x2.e1) (c1.e0 x2) (.flat rfl rfl))⟩
  rcases eds with e | e
  · subst e
    obtain ⟨x, rfl, ra1⟩ := r1.t.one
    obtain ⟨l, ys, rfl, hp, la⟩ := ra1.lst
    exact key l ys (.inl (SqL.of hp)) la
  · subst e
    obtain ⟨x, rfl, ra1⟩ := r1.t.one
    obtain ⟨l, ys, rfl, hp, la⟩ := ra1.tup
    exact key l ys (.inr hp) la
theorem snd_lrng1 {fa : Bool} {ma : Env → M D} (hcm : X.calm = true) (hg : Gl X "list") (hm : X.mg "list" = none) (hg2 : Gl X "range") (hm2 : X.mg "range" = none) (ha : PE X a (rdE X.K P true fa L ma)) (he : starEach [a] X.env = (false, eval a X.env) :: starEach [] X.env) :
    PE X (.Call (.Name "list" p) [.Call (.Name "range" p2) [a] [] q] [] pos) (rdE X.K P tp true L fun σ => bnd (bnd (ma σ) fun x => bnd (ret []) fun xs => ret (x :: xs)) fun ds => lft (biD .lrng ds)) := by
  refine PE.weak (pe_listRg hcm hg hm (prg_1 hg2 hm2 ha he)) ?_
  intro σ H Q ⟨O, δ, cu, hE, hc, hw⟩
  have eq : (bnd (bnd (ma δ) fun x => bnd (ret []) fun xs => ret (x :: xs)) fun ds => lft (biD .lrng ds)) = bnd (ma δ) fun x => lft (biD .lrng [x]) := by
    rw [bnd_assoc]; rfl
  have hw : wpM ((bnd (bnd (ma δ) fun x => bnd (ret []) fun xs => ret (x :: xs)) fun ds => lft (biD .lrng ds)) cu) _ _ := hw
  rw [eq] at hw
  refine rd_bind hE hc (fun _ h => h) hw (fun x cu1 v1 H1 e1 c1 r1 hw1 => ?_) fun x cu1 h => h
  obtain ⟨d, ed, q⟩ := wpM_lft hw1
  obtain ⟨n, rfl, hb, rfl⟩ := biD_lrng1 ed
  obtain ⟨k1, k2⟩ := rngB_ok hb
  have ev : v1 = .int n := r1.t
  subst ev
  exact ⟨n, rfl, k1, fun a2 ha2 => q _ _ (e1.trans (ext0_upd ha2).e1) (c1.e0 (ext0_upd ha2)) (.fin hE.aco e1 c1 (res_newLst (hE.step e1 c1).dom ha2 (rep_rng 0 n) k2))⟩
theorem snd_lrng2 {b : Expr} {fa fb : Bool} {Lb : List Nat} {ma mb : Env → M D} (hcm : X.calm = true) (hg : Gl X "list") (hm : X.mg "list" = none) (hg2 : Gl X "range") (hm2 : X.mg "range" = none) (ha : PE X a (rdE X.K P true fa L ma)) (hb : PE X b (rdE X.K P true fb Lb mb))
    (he : starEach [a, b] X.env = (false, eval a X.env) :: starEach [b] X.env) (he2 : starEach [b] X.env = (false, eval b X.env) :: starEach [] X.env) :
    PE X (.Call (.Name "list" p) [.Call (.Name "range" p2) [a, b] [] q] [] pos) (rdE X.K P tp true (L ++ Lb) fun σ => bnd (bnd (ma σ) fun x => bnd (bnd (mb σ) fun y => bnd (ret []) fun ys => ret (y :: ys)) fun xs => ret (x :: xs)) fun ds => lft (biD .lrng ds)) := by
  refine PE.weak (pe_listRg hcm hg hm (prg_2 hg2 hm2 ha hb he he2 (by rw [he2]; rfl)) (by rfl)) ?_
  intro σ H Q ⟨O, δ, cu, hE, hc, hw⟩
  have eq : (bnd (bnd (ma δ) fun x => bnd (bnd (mb δ) fun y => bnd (ret []) fun ys => ret (y :: ys)) fun xs => ret (x :: xs)) fun ds => lft (biD .lrng ds)) = bnd (ma δ) fun x => bnd (mb δ) fun y => lft (biD .lrng [x, y]) := by
    rw [bnd_assoc]
    congr 1
    funext x
    rw [bnd_assoc, bnd_assoc]; rfl
  have hw : wpM ((bnd (bnd (ma δ) fun x => bnd (bnd (mb δ) fun y => bnd (ret []) fun ys => ret (y :: ys)) fun xs => ret (x :: xs)) fun ds => lft (biD .lrng ds)) cu) _ _ := hw
  rw [eq] at hw
  refine rd_bind hE hc (fun _ => mem_l) hw (fun x cu1 v1 H1 e1 c1 r1 hw1 => ?_) fun x cu1 h => h
  refine rd_bind (hE.step e1 c1) c1 (fun _ => mem_r) hw1 (fun y cu2 v2 H2 e2 c2 r2 hw2 => ?_) (exc_tr e1 fun x cu1 h => h)
  obtain ⟨d, ed, q⟩ := wpM_lft hw2
  obtain ⟨m, n, rfl, rfl, hb, rfl⟩ := biD_lrng2 ed
  obtain ⟨k1, k2⟩ := rngB_ok hb
  have ev : v1 = .int m := r1.t
  have ev2 : v2 = .int n := r2.t
  subst ev; subst ev2
  exact ⟨m, n, rfl, rfl, k1, fun a2 ha2 => q _ _ ((e1.trans e2).trans (ext0_upd ha2).e1) (c2.e0 (ext0_upd ha2)) (.fin hE.aco (e1.trans e2) c2 (res_newLst ((hE.step e1 c1).step e2 c2).dom ha2 (rep_rng m n) k2))⟩
end
end OR

/-! dicts and ranges in slots -/
namespace OR
open PySem PySem.Spec PyProof.Rows L2 TL
section
variable {K : PySem.W.Frag} {O : Addr → Prop} {H : Hp}
theorem rep_fl {d : D} (h : FlD d) : Rep K O H d (toV d) := by
  cases d with
  | none => rfl
  | bool _ => rfl
  | int _ => rfl
  | str _ => exact ⟨rfl, h⟩
  | _ => exact h.elim
theorem fl_rep {d : D} {v : V} (hf : isFl d = true) (h : Rep K O H d v) : v = toV d ∧ FlD d := by
  cases d with
  | none => exact ⟨h, trivial⟩
  | bool _ => exact ⟨h, trivial⟩
  | int _ => exact ⟨h, trivial⟩
  | str _ => exact ⟨h.1, h.2⟩
  | _ => cases hf
theorem fl_mut {d : D} (h : FlD d) : isMut d = false := by
  cases d <;> first | rfl | exact h.elim
theorem key_rep {d : D} {v : V} {k : Sum Int Str} (hk : keyD d = some k) (h : RepT K O H d v) : v = kV k ∧ FlK k := by
  cases d with
  | int i => cases hk; exact ⟨h, trivial⟩
  | str s => cases hk; exact ⟨h.1, h.2⟩
  | _ => cases hk
end
theorem valV_toV (k : Sum Int Str) : ∀ kvs : List (Sum Int Str × D), valV (kvs.map fun p => (p.1, toV p.2)) k = (valD kvs k).map toV
  | [] => rfl
  | p :: r => by
    have ih := valV_toV k r
    unfold valD at ih ⊢
    rw [List.map_cons]
    by_cases h : p.1 = k
    · rw [valV_pos h, List.find?_cons_of_pos (by simpa using h)]; rfl
    · rw [valV_neg h, List.find?_cons_of_neg (by simpa using h), ih]
theorem valD_mem {k : Sum Int Str} {kvs : List (Sum Int Str × D)} {d : D} (h : valD kvs k = some d) : ∃ p ∈ kvs, p.2 = d := by
  unfold valD at h
  cases q : kvs.find? (fun kv => decide (kv.1 = k)) with
  | none => rw [q] at h; cases h
  | some p =>
    rw [q] at h
    cases h
    exact ⟨p, List.mem_of_find?_eq_some q, rfl⟩
theorem putV_toV (k : Sum Int Str) (v : D) (kvs : List (Sum Int Str × D)) : putK (kvs.map fun p => (p.1, toV p.2)) k (toV v) = (putD kvs k v).map fun p => (p.1, toV p.2) := by
  unfold putK putD
  rw [List.any_map]
  have e : ((fun kv : Sum Int Str × V => decide (kv.1 = k)) ∘ fun p : Sum Int Str × D => (p.1, toV p.2)) = fun kv => decide (kv.1 = k) := rfl
  rw [e]
  split
  · rw [List.map_map, List.map_map]
    refine List.map_congr_left fun p _ => ?_
    show (if p.1 = k then (p.1, toV v) else (p.1, toV p.2)) = _
    show _ = ((if p.1 = k then (p.1, v) else p).1, toV (if p.1 = k then (p.1, v) else p).2)
    split <;> rfl
  · rw [List.map_append]; rfl
theorem putD_len (kvs : List (Sum Int Str × D)) (k : Sum Int Str) (v : D) : (putD kvs k v).length ≤ kvs.length + 1 := by
  unfold putD
  split
  · rw [List.length_map]; omega
  · rw [List.length_append]; exact Nat.le_refl _
theorem putD_mem {kvs : List (Sum Int Str × D)} {k : Sum Int Str} {v : D} {p : Sum Int Str × D} (h : p ∈ putD kvs k v) : (p.1 = k ∧ p.2 = v) ∨ p ∈ kvs := by
  unfold putD at h
  split at h
  · obtain ⟨q, hq, rfl⟩ := List.mem_map.mp h
    split
    · rename_i e; exact .inl ⟨e, rfl⟩
    · exact .inr hq
  · rcases List.mem_append.mp h with h | h
    · exact .inr h
    · rw [List.mem_singleton.mp h]; exact .inl ⟨rfl, rfl⟩
theorem txtK_eq : ∀ {kvs : List (Sum Int Str × D)} {ks : List Str}, txtK kvs = some ks → (kvs.map fun p => (p.1, toV p.2)).map (·.1) = ks.map Sum.inr
  | [], ks, h => by cases h; rfl
  | (.inr s, d) :: r, ks, h => by
    have h : (txtK r).map (s :: ·) = some ks := h
    cases q : txtK r with
    | none => rw [q] at h; cases h
    | some t =>
      rw [q] at h
      cases h
      rw [List.map_cons, List.map_cons, List.map_cons, txtK_eq q]
  | (.inl i, d) :: r, ks, h => by cases h
theorem txtK_fl {P : Sum Int Str × D → Prop} : ∀ {kvs : List (Sum Int Str × D)} {ks : List Str}, txtK kvs = some ks → (∀ p ∈ kvs, FlK p.1 ∧ P p) → ∀ s ∈ ks, s.length ≤ sizeLine
  | [], ks, h, _, s, hs => by cases h; cases hs
  | (.inr t, d) :: r, ks, h, hf, s, hs => by
    have h : (txtK r).map (t :: ·) = some ks := h
    cases q : txtK r with
    | none => rw [q] at h; cases h
    | some u =>
      rw [q] at h
      cases h
      rcases List.mem_cons.mp hs with e | e
      · rw [e]; exact (hf _ (List.mem_cons_self ..)).1
      · exact txtK_fl q (fun p hp => hf p (List.mem_cons_of_mem _ hp)) s e
  | (.inl i, d) :: r, ks, h, _, _, _ => by cases h
theorem leS_trans (a b c : Str) (h1 : leS a b = true) (h2 : leS b c = true) : leS a c = true := by
  unfold leS at *
  simp only [Bool.not_eq_true', decide_eq_false_iff_not] at *
  exact List.le_trans (show a.cps.toList ≤ b.cps.toList from h1) h2
theorem leS_total (a b : Str) : (leS a b || leS b a) = true := by
  unfold leS
  simp only [Bool.or_eq_true, Bool.not_eq_true', decide_eq_false_iff_not]
  exact List.le_total a.cps.toList b.cps.toList
theorem leS_anti (a b : Str) (h1 : leS a b = true) (h2 : leS b a = true) : a = b := by
  unfold leS at *
  simp only [Bool.not_eq_true', decide_eq_false_iff_not] at *
  exact PySem.W.str_of_cps (List.le_antisymm (show a.cps.toList ≤ b.cps.toList from h1) h2)
theorem risS_pair : ∀ (p : Str) (l : List Str), risingS p l = true → (p :: l).Pairwise (fun a b => leS a b = true)
  | p, [], _ => List.pairwise_singleton ..
  | p, x :: r, h => by
    obtain ⟨h1, h2⟩ := and_t (a := !ltCps x.cps.toList p.cps.toList) h
    have ih := risS_pair x r h2
    have le : leS p x = true := by unfold leS; rw [← ltCps_eq]; exact h1
    refine List.pairwise_cons.mpr ⟨fun z hz => ?_, ih⟩
    rcases List.mem_cons.mp hz with e | e
    · rw [e]; exact le
    · exact leS_trans p x z le ((List.pairwise_cons.mp ih).1 z e)
theorem sortS_uniq {ys ks : List Str} (hp : ys.Perm ks) (hs : sortedS ys = true) : ys = ks.mergeSort leS := by
  refine List.Perm.eq_of_pairwise (le := fun a b => leS a b = true) (fun a b _ _ => leS_anti a b) ?_ (List.pairwise_mergeSort leS_trans leS_total ks) (hp.trans (List.mergeSort_perm ks leS).symm)
  cases ys with
  | nil => exact List.Pairwise.nil
  | cons x r => exact risS_pair x r hs
section
variable {X : Cx} {P : Pm} {pos : Pos}
theorem dicM_t {s : Slot} {cu : Cu} {P1 : List (Sum Int Str × D) → Cu → Prop} {E1 : Nat → Cu → Prop} (h : wpM (dicM s cu) P1 E1) : ∃ kvs, s = .obj (.dic kvs) ∧ P1 kvs cu := by
  cases s with
  | obj o => cases o with
    | dic kvs => exact ⟨kvs, rfl, h⟩
    | rng _ _ => exact h.elim
  | _ => exact h.elim
theorem snd_dsub {i : Nat} {x : Str} {p : Pos} {y : Expr} {mk : Env → M D} {tk tp fk : Bool} {Lk L : List Nat} (hu : X.A.units + 1 < cLine) (hN : X.N[i]? = some x) (hv : Vis X.env.scope x) (h1 : (x == ("__debug__" : Str)) = false) (h2 : (x == ("__classdict__" : Str)) = false) (hk : PE X y (rdE X.K P true fk Lk mk)) (hs : NoSl y) (hL : ∀ i ∈ Lk, i ∈ L) :
    PE X (.Subscript (.Name x p) y pos) (rdE X.K P tp false L fun σ => bnd (dicM (getS σ i)) fun kvs => bnd (mk σ) fun y => lft ((keyD y).bind fun q => valD kvs q)) := by
  refine PE.weak (pe_dget hu (pe_var hN hv h1 h2) hk hs) ?_
  intro σ H Q ⟨O, δ, cu, hE, hc, hw⟩
  obtain ⟨kvs, eg, hw1⟩ := dicM_t (wpM_bnd hw)
  obtain ⟨a, ea, na, ob⟩ := hE.obj i _ (getS_some eg (fun z => by cases z))
  refine ⟨.ref a, ea, ?_⟩
  refine rd_bind hE hc hL hw1 (fun y cu1 v1 H1 e1 c1 r1 hw2 => ?_) fun x cu1 h => h
  obtain ⟨d, ed, q⟩ := wpM_lft hw2
  obtain ⟨k, ek, ev⟩ := Option.bind_eq_some_iff.mp ed
  obtain ⟨rfl, fk⟩ := key_rep ek r1.t
  have ob1 := ob.e (H' := H1) fun z q => e1 _ _ na q
  obtain ⟨pr, hp, rfl⟩ := valD_mem ev
  have fl := (ob1.2.1 pr hp).2
  refine ⟨a, toV pr.2, rfl, ?_, q _ _ e1 c1 (.of hE.aco (rep_fl fl) fun z => by cases z)⟩
  have g := DGet.k (k := k) ob1.2.2
  rw [valV_toV, ev] at g
  exact g
theorem snd_dget2 {i : Nat} {x : Str} {p ap cp : Pos} {y z : Expr} {mk mx : Env → M D} {tk tp fk fx : Bool} {Lk Lx : List Nat} (hu : X.A.units + 1 < cLine) (hN : X.N[i]? = some x) (hv : Vis X.env.scope x) (h1 : (x == ("__debug__" : Str)) = false) (h2 : (x == ("__classdict__" : Str)) = false) (hk : PE X y (rdE X.K P true fk Lk mk)) (hx : PE X z (rdE X.K P false fx Lx mx))
    (s1 : notStar y = true) (s2 : notStar z = true) (hl : ap.endLine = cp.line) :
    PE X (.Call (.Attribute (.Name x p) "get" ap) [y, z] [] cp) (rdE X.K P tp false (Lk ++ Lx) fun σ => bnd (dicM (getS σ i)) fun kvs => bnd (mk σ) fun y => bnd (mx σ) fun z => if isFl z then lft ((keyD y).map fun q => (valD kvs q).getD z) else stk) := by
  have st : starEach [y, z] X.env = [(false, eval y X.env), (false, eval z X.env)] := by rw [star1 s1, star1 s2]; rfl
  refine PE.weak (pe_dget2 hu (pe_var hN hv h1 h2) hk hx ⟨base_of rfl, ?_, by rw [hl]; exact beq_self_eq_true _, ?_⟩) ?_
  · rw [st]; rfl
  · rw [st]; rfl
  intro σ H Q ⟨O, δ, cu, hE, hc, hw⟩
  obtain ⟨kvs, eg, hw1⟩ := dicM_t (wpM_bnd hw)
  obtain ⟨a, ea, na, ob⟩ := hE.obj i _ (getS_some eg (fun z => by cases z))
  refine ⟨.ref a, ea, a, rfl, .inl ⟨_, .inl ob.2.2⟩, ?_⟩
  refine rd_bind hE hc (fun _ => mem_l) hw1 (fun y cu1 v1 H1 e1 c1 r1 hw2 => ?_) fun x cu1 h => h
  have hE1 := hE.step e1 c1
  have t1 := r1.t
  refine rd_bind hE1 c1 (fun _ => mem_r) hw2 (fun z cu2 v2 H2 e2 c2 r2 hw3 => ?_) (exc_tr e1 fun x cu1 h => h)
  split at hw3
  · rename_i hf
    obtain ⟨d, ed, q⟩ := wpM_lft hw3
    obtain ⟨k, ek, ev⟩ := Option.map_eq_some_iff.mp ed
    obtain ⟨rfl, fk⟩ := key_rep ek t1
    obtain ⟨rfl, fz⟩ := fl_rep hf r2.r
    have ob2 := ob.e (H' := H2) fun z q => (e1.trans e2) _ _ na q
    have g := DGet.k (k := k) ob2.2.2
    refine ⟨_, g, ?_⟩
    rw [valV_toV]
    have fl : FlD d := by
      rw [← ev]
      cases qv : valD kvs k with
      | none => exact fz
      | some d' =>
        obtain ⟨pr, hp, rfl⟩ := valD_mem qv
        exact (ob2.2.1 pr hp).2
    have ed : ((valD kvs k).map toV).getD (toV z) = toV d := by
      rw [← ev]
      cases valD kvs k <;> rfl
    rw [ed]
    exact q _ _ (e1.trans e2) c2 (.of hE.aco (rep_fl fl) fun z => by cases z)
  · exact hw3.elim
theorem snd_dsrt {i : Nat} {x : Str} {p p2 : Pos} {tp : Bool} {L : List Nat} (hcm : X.calm = true) (hg : Gl X "sorted") (hm : X.mg "sorted" = none) (hN : X.N[i]? = some x) (hv : Vis X.env.scope x) (h1 : (x == ("__debug__" : Str)) = false) (h2 : (x == ("__classdict__" : Str)) = false) :
    PE X (.Call (.Name "sorted" p) [.Name x p2] [] pos) (rdE X.K P tp false L fun σ => bnd (dicM (getS σ i)) fun kvs => lft (srtD kvs)) := by
  refine PE.weak (pe_callB (call_sortedD hcm) hg hm (by decide +kernel) (pa_cons (pe_var hN hv h1 h2) pa_nil rfl) (by decide) (by decide) rfl rfl) ?_
  intro σ H Q ⟨O, δ, cu, hE, hc, hw⟩
  obtain ⟨kvs, eg, hw1⟩ := dicM_t (wpM_bnd hw)
  obtain ⟨a, ea, na, ob⟩ := hE.obj i _ (getS_some eg (fun z => by cases z))
  obtain ⟨d, ed, q⟩ := wpM_lft hw1
  obtain ⟨ks, ek, ev⟩ := Option.bind_eq_some_iff.mp ed
  split at ev
  · rename_i h64
    cases ev
    refine ⟨.ref a, ea, a, _, ks, rfl, .inl ob.2.2, txtK_eq ek, h64, fun ys p hp hs hn => ?_⟩
    have e := sortS_uniq hp hs
    subst e
    have lt := txtK_fl ek ob.2.1
    refine q _ _ (ext0_upd hn).e1 (hc.e0 (ext0_upd hn)) (.fin hE.aco (Ext1.refl H) hc (.old (res_newLst (fr := true) hE.dom hn ?_ ?_).1))
    · have gen : ∀ l : List Str, (∀ s ∈ l, s.length ≤ sizeLine) → RepL X.K O H (l.map PyData.str) (l.map V.str) := by
        intro l
        induction l with
        | nil => intro _; trivial
        | cons s l ih => intro hl; exact ⟨⟨rfl, hl s (List.mem_cons_self ..)⟩, ih fun t ht => hl t (List.mem_cons_of_mem _ ht)⟩
      exact gen _ fun s hs2 => lt s (((List.mergeSort_perm ks leS).mem_iff).mp hs2)
    · rw [List.length_map, (List.mergeSort_perm ks leS).length_eq, sizeLine_eq]; omega
  · cases ev
theorem pi_rgv {tg : Expr} {i : Nat} {x : Str} {p : Pos} (hN : X.N[i]? = some x) (hv : Vis X.env.scope x) (h1 : (x == ("__debug__" : Str)) = false) (h2 : (x == ("__classdict__" : Str)) = false) :
    PI X tg (.Name x p) (fun σ H R => ∃ a lo hi, σ[i]? = some (some (.ref a)) ∧ H a = some (.rng lo hi) ∧ (-(2 ^ 62) ≤ lo ∧ lo < 2 ^ 62 ∧ -(2 ^ 62) ≤ hi ∧ hi < 2 ^ 62) ∧ R (Itr lo (hi - lo).toNat) H) := by
  refine ⟨fun pins s σ H R I h => ?_⟩
  obtain ⟨a, lo, hi, hs, ha, ⟨q1, q2, q3, q4⟩, q⟩ := h
  refine thn ((pe_var (pos := p) (i := i) hN hv h1 h2).run pins s σ H (fun v H1 => v = .ref a ∧ H1 = H) I ⟨.ref a, hs, rfl, rfl⟩) fun u s1 ⟨v, H1, I1, r1, ev, eH⟩ => ?_
  subst ev
  rw [eH] at I1
  cases r1
  obtain ⟨t, u, w, ho⟩ := I1.hok a _ ha
  refine wpAny_pyIter_range ho (small_one q1 q2 q3 q4) ?_
  refine ⟨s1.heap.objs.size, [s1.heap.objs.size], _, _, H, rfl, I1.kept (t' := s1.toks) fun b o e => Heap.get?_push_of_some _ e, turn_range _ lo (hi - lo).toNat, ?_, fun b hb => ?_, q⟩
  · have e1 : lo + ((0 : Nat) : Int) * 1 = lo := by simp
    have e2 : (((hi - lo).toNat : Nat) : Int) - ((0 : Nat) : Int) = Builtin.Range.rangeSize lo hi 1 := by rw [rangeSize_one]; split <;> omega
    show IsRangeIter _ _ (lo + ((0 : Nat) : Int) * 1) ((((hi - lo).toNat : Nat) : Int) - ((0 : Nat) : Int)) 1
    rw [e1, e2]
    exact Heap.get?_push_size _ rfl
  · have e : b = s1.heap.objs.size := by simpa using hb
    subst e
    exact I1.fpOk (Nat.le_refl _) (I1.hok.fresh (Nat.le_refl _))
theorem snd_rgv {tg : Expr} {i : Nat} {x : Str} {p : Pos} {tp : Bool} {L : List Nat} (hN : X.N[i]? = some x) (hv : Vis X.env.scope x) (h1 : (x == ("__debug__" : Str)) = false) (h2 : (x == ("__classdict__" : Str)) = false) :
    PI X tg (.Name x p) (rdI X.K P tp L fun σ => rgvM (getS σ i)) := by
  refine PI.weak (pi_rgv hN hv h1 h2) ?_
  intro σ H Q ⟨O, δ, cu, hE, hc, hw⟩
  have hw : wpM (rgvM (getS δ i) cu) _ _ := hw
  cases eg : getS δ i with
  | obj o => cases o with
    | rng lo hi =>
      rw [eg] at hw
      have hw : wpM ((if okR lo hi = true then ret (rngL lo hi) else stk) cu) _ _ := hw
      split at hw
      · rename_i hk
        unfold okR at hk
        simp only [Bool.and_eq_true, decide_eq_true_eq] at hk
        obtain ⟨a, ea, na, ob⟩ := hE.obj i _ (getS_some eg (fun z => by cases z))
        refine ⟨a, lo, hi, ea, ob, by omega, ?_⟩
        exact hw (Itr lo (hi - lo).toNat) H (Ext1.refl H) hc (by unfold rngL; rw [List.length_map, List.length_range, sizeLine_eq]; omega) fun O' C h1 h2 hC => walk_rng lo hi
      · exact hw.elim
    | dic _ => rw [eg] at hw; exact hw.elim
  | _ => rw [eg] at hw; exact hw.elim
end
end OR

namespace OR
open PySem PySem.Spec PyProof.Rows L2 TL
section
variable {G : List Den} {k : Nat}
theorem PI.lk {X : Cx} {P : Pm} {t a : Expr} {tp : Bool} {L L' : List Nat} {m : Env → M (List D)} (hs : ∀ i ∈ L, i ∈ L') (h : PI X t a (rdI X.K P tp L m)) : PI X t a (rdI X.K P tp L' m) := PI.weak h fun _ _ _ ⟨O, δ, cu, a, b, c⟩ => ⟨O, δ, cu, a.sub hs, b, c⟩
theorem snd_bi {X : Cx} {P : Pm} {f : BI} {x : Str} {a : Expr} {es : List Expr} {tp ta : Bool} {L : List Nat} {p pos : Pos} {ml : Env → M (List D)} {S : Sc} (g : Good G k X P S) (hf : ∀ t, f ≠ .isa t) (hi : inB f = none) (hx : x = biNm f) (hb : bltB S x = true) (ha : PA X (a :: es) (rdL X.K P ta L ml)) (hs : (a :: es).all notStar = true) :
    PE X (.Call (.Name x p) (a :: es) [] pos) (rdE X.K P tp (frs (.bi f .nil)) L fun σ => bnd (ml σ) fun ds => lft (biD f ds)) := by
  obtain ⟨h1, h2, h3, h4⟩ := g.bl hb
  rw [List.all_cons] at hs
  obtain ⟨s1, s2⟩ := and_t hs
  have hv : bootBuiltins x = some (biId f) := by rw [hx]; exact bi_boot f
  have cr := op_biD (X := X) g.calm g.room.hd g.room.units f hf hi
  cases f with
  | isa t => exact absurd rfl (hf t)
  | tuple => exact snd_biT cr h1 h4 hv ha h3 h2 (star1 s1) (stars_plain s2)
  | list => exact snd_biT cr h1 h4 hv ha h3 h2 (star1 s1) (stars_plain s2)
  | int => exact snd_biT cr h1 h4 hv ha h3 h2 (star1 s1) (stars_plain s2)
  | str => exact snd_biT cr h1 h4 hv ha h3 h2 (star1 s1) (stars_plain s2)
  | dict => exact snd_biT cr h1 h4 hv ha h3 h2 (star1 s1) (stars_plain s2)
  | len => exact snd_biB cr h1 h4 hv ha h3 h2 (star1 s1) (stars_plain s2)
  | all => exact snd_biB cr h1 h4 hv ha h3 h2 (star1 s1) (stars_plain s2)
  | any => exact snd_biB cr h1 h4 hv ha h3 h2 (star1 s1) (stars_plain s2)
  | sum => exact snd_biB cr h1 h4 hv ha h3 h2 (star1 s1) (stars_plain s2)
  | min => exact snd_biB cr h1 h4 hv ha h3 h2 (star1 s1) (stars_plain s2)
  | max => exact snd_biB cr h1 h4 hv ha h3 h2 (star1 s1) (stars_plain s2)
  | sorted => exact snd_biB cr h1 h4 hv ha h3 h2 (star1 s1) (stars_plain s2)
  | abs => exact snd_biB cr h1 h4 hv ha h3 h2 (star1 s1) (stars_plain s2)
  | sset => cases hi
  | lset => cases hi
  | lrng => cases hi
theorem in_shape {S : Sc} {es : CE} {y : Expr} {ys : List Expr} {z : Str} {n : Nat} (h : (match y, ys with
      | .Call (.Name u _) (v :: vs) [] _, [] => decide (u = z) && (bltB S u && (decide (vs.length ≤ n) && chkL es S (v :: vs)))
      | _, _ => false) = true) : ∃ p2 v vs q, y = .Call (.Name z p2) (v :: vs) [] q ∧ ys = [] ∧ bltB S z = true ∧ vs.length ≤ n ∧ chkL es S (v :: vs) = true := by
  split at h
  · rename_i u p2 v vs q
    obtain ⟨h1, w2⟩ := and_t h
    obtain ⟨h2, w3⟩ := and_t w2
    obtain ⟨h3, h4⟩ := and_t w3
    have e := dec_t h1
    subst e
    exact ⟨p2, v, vs, q, rfl, rfl, h2, dec_t h3, h4⟩
  · cases h
theorem frs_bi {f : BI} {es : CE} : frs (.bi f es) = frs (.bi f .nil) := by cases f <;> rfl
theorem snd_mt {X : Cx} {P : Pm} (hu : X.A.units + 64 < cLine) {m : MI} {name : Str} {a o : Expr} {es : List Expr} {tp ta fo : Bool} {La Lb : List Nat} {apos cpos : Pos} {mo : Env → M D} {ml : Env → M (List D)} (hn : miNm m = some name) (hb : noBase o = true) (hl : apos.endLine = cpos.line) (hc : es.length < 28)
    (ho : PE X o (rdE X.K P true fo La mo)) (ha : PA X (a :: es) (rdL X.K P ta Lb ml)) (hs : (a :: es).all notStar = true) :
    PE X (.Call (.Attribute o name apos) (a :: es) [] cpos) (rdE X.K P tp false (La ++ Lb) fun σ => bnd (mo σ) fun x => if recv m x then bnd (ml σ) fun ds => lft (mthD m x ds) else stk) := by
  have hs' := hs
  rw [List.all_cons] at hs'
  obtain ⟨s1, s2⟩ := and_t hs'
  have few : ((backTo cpos (starEach (a :: es) X.env)).all (fun x => !x.1) && (backToKw cpos (keywordEach [] X.env)).all (fun x => x.1.isSome)
      && decide ((a :: es).length + ([] : List Keyword).length + (if ([] : List Keyword).isEmpty then 0 else 1) < 30)) = true := by
    rw [stars_all hs]
    have : decide ((a :: es).length + ([] : List Keyword).length + (if ([] : List Keyword).isEmpty then 0 else 1) < 30) = true := by
      simp only [List.length_cons, List.length_nil, List.isEmpty_nil, if_true, decide_eq_true_eq]
      omega
    rw [this]; rfl
  have hle : (apos.endLine == cpos.line) = true := by rw [hl]; exact beq_self_eq_true _
  cases m with
  | join => cases hn; exact snd_mth PySem.F.plainAttrs_str PySem.F.slot_str_join PySem.F.type_str_join mt_joinD ho ha (fun x h => by cases x <;> first | exact ⟨_, rfl⟩ | cases h) (base_of hb) few hle (star1 s1) (stars_plain s2)
  | count => cases hn; exact snd_mth PySem.F.plainAttrs_str PySem.F.slot_str_count PySem.F.type_str_count mt_countD ho ha (fun x h => by cases x <;> first | exact ⟨_, rfl⟩ | cases h) (base_of hb) few hle (star1 s1) (stars_plain s2)
  | lcount => cases hn; exact snd_mthL PySem.F.plainAttrs_list PySem.F.slot_list_count PySem.F.type_list_count (mt_lcountD hu) ho ha (fun x h => by cases x <;> first | exact ⟨_, rfl⟩ | cases h) (base_of hb) few hle (star1 s1) (stars_plain s2)
  | _ => cases hn
theorem snd_rev {X : Cx} {P : Pm} {a : Expr} {ma : Env → M D} {tp fa : Bool} {La : List Nat} {k : Nat} {p1 p2 p3 pos : Pos} (ha : PE X a (rdE X.K P true fa La ma)) :
    PE X (.Subscript a (.Slice none none (some (.UnaryOp .USub (.Constant (.int 1) k p1) p2)) p3) pos) (rdE X.K P tp false La fun σ => bnd (ma σ) fun x => lft (revD x)) := by
  refine PE.weak (pe_rev ha) ?_
  intro σ H Q ⟨O, δ, cu, hE, hc, hw⟩
  refine rd_bind hE hc (fun _ h => h) hw (fun x cu1 v1 H1 e1 c1 r1 hw1 => ?_) fun x cu1 h => h
  obtain ⟨d, ed, q⟩ := wpM_lft hw1
  exact ⟨O, x, d, (hE.step e1 c1).dom, r1.t, ed, fun v H2 e2 r2 => q v H2 (e1.trans e2.e1) (c1.e0 e2) (.of hE.aco r2 fun z => by cases z)⟩
theorem snd_cupR {X : Cx} {P : Pm} {i n : Nat} {x : Str} {tp : Bool} {L : List Nat} {p p2 p3 : Pos} {j : Nat} (hN : X.N[i]? = some x) (hv : Vis X.env.scope x) (h1 : (x == ("__debug__" : Str)) = false) (h2 : (x == ("__classdict__" : Str)) = false) (hn : n = 0 ∨ n = 1) :
    PE X (.Subscript (.Name x p) (.Constant (.int (n : Nat)) j p2) p3) (rdE X.K P tp false L (evE G (.cupR i n))) := by
  refine PE.weak (pe_ix ix_list (pe_var hN hv h1 h2) pe_int fun _ _ => rfl) ?_
  intro σ H Q ⟨O, δ, cu, hE, hc, hw⟩
  have hw : wpM (cupM n (getS δ i) cu) _ _ := hw
  cases q : getS δ i with
  | cup =>
    rw [q] at hw
    obtain ⟨a, ea, eσ⟩ := hE.cup i (getS_some q (by intro z; cases z))
    have hc0 := hc
    rw [ea] at hc
    obtain ⟨m, k, ec, hm⟩ := hc.at
    subst ec
    refine ⟨.ref a, eσ, ?_⟩
    rcases hn with rfl | rfl
    · exact ⟨a, _, 0, .int m, rfl, rfl, .inl (.inl hm), rfl, hw _ H (Ext1.refl H) hc0 (.of hE.aco rfl fun z => by cases z)⟩
    · exact ⟨a, _, 1, .int k, rfl, rfl, .inl (.inl hm), rfl, hw _ H (Ext1.refl H) hc0 (.of hE.aco rfl fun z => by cases z)⟩
  | val d => rw [q] at hw; exact hw.elim
  | own d => rw [q] at hw; exact hw.elim
  | scr d => rw [q] at hw; exact hw.elim
  | obj d => rw [q] at hw; exact hw.elim
  | no => rw [q] at hw; exact hw.elim
theorem chkE_it {c : CE} {S : Sc} {e : Expr} (h : chkE c S e = true) : isIt c = false := by
  cases c with
  | rng _ => cases h
  | enm _ => cases h
  | zip _ _ => cases h
  | rgv _ => cases h
  | _ => rfl
theorem chkI_it {c : CE} {S : Sc} {t e : Expr} (h : chkI c S t e = true) : isIt c = true := by
  cases c with
  | rng _ => rfl
  | enm _ => rfl
  | zip _ _ => rfl
  | rgv _ => rfl
  | _ => cases h
theorem chkI_cases {c : CE} {S : Sc} {t e : Expr} (h : chkI c S t e = true) : (∃ a, c = .rng (.cons a .nil)) ∨ (∃ a b, c = .rng (.cons a (.cons b .nil))) ∨ (∃ a b, c = .zip a b) ∨ (∃ i, c = .rgv i) ∨ ∃ a, c = .enm a := by
  cases c with
  | rng es => cases es with
    | cons a t => cases t with
      | nil => exact .inl ⟨a, rfl⟩
      | cons b t2 => cases t2 with
        | nil => exact .inr (.inl ⟨a, b, rfl⟩)
        | _ => cases h
      | _ => cases h
    | _ => cases h
  | zip a b => exact .inr (.inr (.inl ⟨a, b, rfl⟩))
  | rgv i => exact .inr (.inr (.inr (.inl ⟨i, rfl⟩)))
  | enm a => exact .inr (.inr (.inr (.inr ⟨a, rfl⟩)))
  | _ => cases h
theorem chkE_nil {c : CE} {S : Sc} {e : Expr} (h : chkE c S e = true) : isNil c = false := by
  cases c with
  | nil => cases h
  | _ => rfl
theorem isNil_t {c : CE} (h : isNil c = true) : c = .nil := by
  cases c with
  | nil => rfl
  | _ => cases h
mutual
theorem sndE : ∀ (c : CE) {X : Cx} {P : Pm} {S : Sc} {e : Expr} {tp : Bool}, Good G k X P S → chkE c S e = true → PE X e (rdE X.K P tp (frs c) (leak tp c) (evE G c))
  | .var i, X, P, S, e, tp, g, h => by
    cases e with
    | Name x p =>
      obtain ⟨h1, h2⟩ := and_t (a := decide (S.N[i]? = some x)) h
      obtain ⟨a, b, c⟩ := g.vis h2
      exact snd_var (g.ix h1) a b c G
    | _ => cases h
  | .cst d, X, P, S, e, tp, g, h => by
    cases e with
    | Constant cc j p =>
      cases cc with
      | none => have e := beqD_eq (b := PyData.none) h; subst e; exact snd_const (fun _ => rfl) pe_non fun _ _ => rfl
      | bool b => have e := beqD_eq (b := PyData.bool b) h; subst e; exact snd_const (fun _ => rfl) pe_bl fun _ _ => rfl
      | int i => have e := beqD_eq (b := PyData.int i) h; subst e; exact snd_const (fun _ => rfl) pe_int fun _ _ => rfl
      | str s =>
        have h : (match (if s.length ≤ 1000 then some (PyData.str s) else none) with | some d' => beqD d d' | none => false) = true := h
        split at h
        · rename_i q
          split at q
          · rename_i hl
            cases q
            have e := beqD_eq h
            subst e
            exact snd_const (fun _ => rfl) pe_str fun _ _ => ⟨rfl, by rw [sizeLine_eq]; omega⟩
          · cases q
        · cases h
      | _ => cases h
    | _ => cases h
  | .glb d x, X, P, S, e, tp, g, h => by
    cases e with
    | Name y p =>
      obtain ⟨h1, h4⟩ := and_t (a := decide (x = y)) h
      obtain ⟨h2, h3⟩ := and_t h4
      clear h4 h
      have e := dec_t h1
      subst e
      obtain ⟨⟨z, d'⟩, hm, hp⟩ := List.any_eq_true.mp h3
      obtain ⟨p1, p2⟩ := and_t hp
      have e1 : z = x := dec_t p1
      have e2 : d' = d := beqD_eq p2
      subst e1; subst e2
      obtain ⟨v, u, q1, q2, q3⟩ := g.glb _ _ hm
      exact snd_const (fun _ => rfl) (pe_glob (g.gl h2).1 q1 q2 (g.gl h2).2.1) q3
    | _ => cases h
  | .tup es, X, P, S, e, tp, g, h => by
    cases e with
    | Tuple xs j p =>
      obtain ⟨h1, h2⟩ := and_t (a := chkL es S xs) h
      have h2 := dec_t h2
      exact snd_tup (sndL es g h1) (n := clen es) (by rw [sizeLine_eq]; omega) fun δ cu ds cu' q => evL_len q
    | _ => cases h
  | .lst es, X, P, S, e, tp, g, h => by
    cases e with
    | List xs p =>
      obtain ⟨h1, h2⟩ := and_t (a := chkL es S xs) h
      have h2 := dec_t h2
      exact snd_lst (sndL es g h1) (n := clen es) (by rw [sizeLine_eq]; omega) fun δ cu ds cu' q => evL_len q
    | _ => cases h
  | .bin op a b, X, P, S, e, tp, g, h => by
    cases e with
    | BinOp x o y p =>
      obtain ⟨h1, h2⟩ := and_t (a := decide (op = o)) h
      obtain ⟨h2, h3⟩ := and_t h2
      have e := dec_t h1
      subst e
      exact snd_bin (sndE a g h2) (sndE b g h3)
    | _ => cases h
  | .neg a, X, P, S, e, tp, g, h => by
    cases e with
    | UnaryOp o x p =>
      cases o with
      | USub => exact snd_neg (sndE a (e := x) g h)
      | _ => cases h
    | _ => cases h
  | .not a, X, P, S, e, tp, g, h => by
    cases e with
    | UnaryOp o x p =>
      cases o with
      | Not => exact snd_not (sndE a (e := x) g h)
      | _ => cases h
    | _ => cases h
  | .cmp op a b, X, P, S, e, tp, g, h => by
    cases e with
    | Compare x ops ys p =>
      cases ops with
      | nil => cases h
      | cons o r => cases r with
        | cons o2 r2 => cases r2 <;> (cases ys with
          | nil => cases h
          | cons y1 q => cases q with
            | nil => cases h
            | cons y2 q2 => cases q2 <;> cases h)
        | nil => cases ys with
          | nil => cases h
          | cons y q => cases q with
            | cons _ _ => cases h
            | nil =>
              obtain ⟨h1, h2⟩ := and_t (a := decide (op = o)) h
              obtain ⟨h2, h3⟩ := and_t h2
              obtain ⟨h3, h4⟩ := and_t h3
              have e := dec_t h1
              subst e
              exact snd_cmp g.room.units (sndE a g h3) (sndE b g h4) (not_t h2)
    | _ => cases h
  | .chn o p a b c, X, P, S, e, tp, g, h => by
    cases e with
    | Compare x ops ys ps =>
      cases ops with
      | nil => cases h
      | cons o1 r => cases r with
        | nil => cases ys with
          | nil => cases h
          | cons y q => cases q <;> cases h
        | cons o2 r2 => cases r2 with
          | cons _ _ => cases ys with
            | nil => cases h
            | cons y1 q => cases q with
              | nil => cases h
              | cons y2 q2 => cases q2 <;> cases h
          | nil => cases ys with
            | nil => cases h
            | cons y q => cases q with
              | nil => cases h
              | cons z q2 => cases q2 with
                | cons _ _ => cases h
                | nil =>
                  obtain ⟨h1, h2⟩ := and_t (a := decide (o = o1)) h
                  obtain ⟨h2, h3⟩ := and_t h2
                  obtain ⟨h3, h4⟩ := and_t h3
                  obtain ⟨h4, h5⟩ := and_t h4
                  obtain ⟨h5, h6⟩ := and_t h5
                  have e1 := dec_t h1
                  have e2 := dec_t h2
                  subst e1; subst e2
                  exact snd_chn g.room.units (sndE a g h4) (sndE b g h5) (sndE c g h6) (not_t h3)
    | _ => cases h
  | .and es, X, P, S, e, tp, g, h => by
    cases e with
    | BoolOp o xs p =>
      cases o with
      | And => cases xs with
        | nil => cases h
        | cons x xs => exact sndAnd es (x := x) (xs := xs) g h
      | Or => cases h
    | _ => cases h
  | .or es, X, P, S, e, tp, g, h => by
    cases e with
    | BoolOp o xs p =>
      cases o with
      | Or => cases xs with
        | nil => cases h
        | cons x xs => exact sndOr es (x := x) (xs := xs) g h
      | And => cases h
    | _ => cases h
  | .ite c a b, X, P, S, e, tp, g, h => by
    cases e with
    | IfExp x y z p =>
      obtain ⟨h1, h2⟩ := and_t (a := chkE c S x) h
      obtain ⟨h2, h3⟩ := and_t h2
      refine PE.eqm ?_ (snd_ite (sndT c g h1) (sndE a g h2) (sndE b g h3))
      funext σ
      exact bnd_assoc _ _ _
    | _ => cases h
  | .sub a i, X, P, S, e, tp, g, h => by
    cases e with
    | Subscript x y p =>
      have h' : notSlice y = true → (notSlice y && (chkE a S x && chkE i S y)) = true := fun q => by cases y <;> first | exact h | cases q
      have hn : notSlice y = true := by
        cases y with
        | Slice l u s p => cases s <;> cases h
        | _ => rfl
      obtain ⟨h1, h2⟩ := and_t (h' hn)
      obtain ⟨h2, h3⟩ := and_t h2
      exact snd_sub (sndE a g h2) (sndE i g h3) (ixPlain h1)
    | _ => cases h
  | .slc a lo hi, X, P, S, e, tp, g, h => by
    cases e with
    | Subscript x y p =>
      cases y with
      | Slice l u s p2 => cases s with
        | some _ => cases h
        | none =>
          obtain ⟨h1, h2⟩ := and_t (a := chkE a S x) h
          obtain ⟨h2, h3⟩ := and_t h2
          have q1 : PO X l (rdO X.K P (leak true lo) fun σ => if isNil lo then ret none else bnd (evE G lo σ) partM) := by
            cases l with
            | none => have e := isNil_t h2; subst e; exact snd_b0
            | some l => rw [chkE_nil h2]; exact snd_b1 (sndE lo g h2)
          have q2 : PO X u (rdO X.K P (leak true hi) fun σ => if isNil hi then ret none else bnd (evE G hi σ) partM) := by
            cases u with
            | none => have e := isNil_t h3; subst e; exact snd_b0
            | some u => rw [chkE_nil h3]; exact snd_b1 (sndE hi g h3)
          exact snd_slc (sndE a g h1) q1 q2
      | _ => cases h
    | _ => cases h
  | .call j es, X, P, S, e, tp, g, h => by
    cases e with
    | Call f args kws p =>
      cases f with
      | Name x p2 =>
        cases args with
        | nil => cases h
        | cons y ys => cases kws with
          | cons _ _ => cases h
          | nil =>
            obtain ⟨h1, h2⟩ := and_t (a := decide (S.funs[j]? = some (x, clen es))) h
            obtain ⟨h2, h3⟩ := and_t h2
            obtain ⟨f, fd, ps, hl, hm, kp, F, hb⟩ := g.fun_ _ _ _ (dec_t h1)
            rw [← hl] at F
            have hs := chkL_stars h3
            rw [List.all_cons] at hs
            obtain ⟨s1, s2⟩ := and_t hs
            exact snd_call F g.room (g.gl h2).1 hm kp hb g.tk (sndA es g h3) (fun δ cu as cu' q => (evA_len q).trans hl.symm) (g.gl h2).2.1 (star1 s1) (stars_plain s2)
      | _ => cases h
    | _ => cases h
  | .bi f es, X, P, S, e, tp, g, h => by
    cases e with
    | Call fn args kws p =>
      cases fn with
      | Name x p2 =>
        cases args with
        | nil => cases h
        | cons y ys => cases kws with
          | cons _ _ => cases h
          | nil =>
            obtain ⟨h1, w2⟩ := and_t (a := decide (x = biNm f)) h
            obtain ⟨h2, h3⟩ := and_t w2
            have h1 := dec_t h1
            by_cases hf : ∃ t, f = .isa t
            · obtain ⟨t, rfl⟩ := hf
              cases ys with
              | nil => cases h3
              | cons z zs => cases zs with
                | cons _ _ => cases z <;> cases h3
                | nil => cases z with
                  | Name T p3 =>
                    obtain ⟨q1, w4⟩ := and_t (a := decide (T = tyStr t)) h3
                    obtain ⟨q2, q3⟩ := and_t w4
                    have q1 := dec_t q1
                    obtain ⟨a, t2, rfl, r1, r2, r3⟩ := chkL_cons q3
                    have e := chkL_nil r3
                    subst e
                    obtain ⟨b1, b2, b3, b4⟩ := g.bl h2
                    obtain ⟨c1, c2, c3, c4⟩ := g.bl q2
                    exact snd_isa b1 b4 (by rw [h1]; exact bi_boot (.isa t)) c1 c4 (by rw [q1]; exact ty_boot t) (sndE a g r2) b3 b2 c3 c2 (star1 r1)
                  | _ => cases h3
            · have hf' : ∀ t, f ≠ .isa t := fun t z => hf ⟨t, z⟩
              by_cases e1 : f = .sset
              · subst e1
                obtain ⟨p3, v, vs, q, rfl, rfl, k2, k3, k4⟩ := in_shape h3
                obtain ⟨a, t, rfl, r1, r2, r3⟩ := chkL_cons k4
                cases vs with
                | cons _ _ => simp [inN] at k3
                | nil =>
                  have e := chkL_nil r3
                  subst e
                  obtain ⟨b1, b2, b3, b4⟩ := g.bl h2
                  obtain ⟨c1, c2, c3, c4⟩ := g.bl k2
                  subst h1
                  exact snd_sset g.calm g.room.hd b1 b4 c1 c4 (snd_one (sndE a g r2) (star1 r1)) (star1 r1)
              · by_cases e2 : f = .lset
                · subst e2
                  obtain ⟨p3, v, vs, q, rfl, rfl, k2, k3, k4⟩ := in_shape h3
                  obtain ⟨a, t, rfl, r1, r2, r3⟩ := chkL_cons k4
                  cases vs with
                  | cons _ _ => simp [inN] at k3
                  | nil =>
                    have e := chkL_nil r3
                    subst e
                    obtain ⟨b1, b2, b3, b4⟩ := g.bl h2
                    obtain ⟨c1, c2, c3, c4⟩ := g.bl k2
                    subst h1
                    exact snd_lset g.calm g.room.hd b1 b4 c1 c4 (snd_one (sndE a g r2) (star1 r1)) (star1 r1)
                · by_cases e3 : f = .lrng
                  · subst e3
                    obtain ⟨p3, v, vs, q, rfl, rfl, k2, k3, k4⟩ := in_shape h3
                    obtain ⟨a, t, rfl, r1, r2, r3⟩ := chkL_cons k4
                    obtain ⟨b1, b2, b3, b4⟩ := g.bl h2
                    obtain ⟨c1, c2, c3, c4⟩ := g.bl k2
                    subst h1
                    cases vs with
                    | nil =>
                      have e := chkL_nil r3
                      subst e
                      exact snd_lrng1 g.calm b1 b4 c1 c4 (sndE a g r2) (star1 r1)
                    | cons v2 vs => cases vs with
                      | cons _ _ => simp [inN] at k3
                      | nil =>
                        obtain ⟨b, t', rfl, r4, r5, r6⟩ := chkL_cons r3
                        have e := chkL_nil r6
                        subst e
                        exact PE.lk (L' := leak false a ++ (leak false b ++ [])) (fun i hi => (List.mem_append.mp hi).elim (fun z => mem_l (leak_tf a i z)) fun z => mem_r (mem_l (leak_tf b i z))) (snd_lrng2 g.calm b1 b4 c1 c4 (sndE a g r2) (sndE b g r5) (star1 r1) (star1 r4))
                  · have hi : inB f = none := by cases f <;> first | rfl | exact absurd rfl e1 | exact absurd rfl e2 | exact absurd rfl e3
                    have h3' : chkL es S (y :: ys) = true := by cases f <;> first | exact h3 | exact absurd rfl (hf' _) | cases hi
                    have hst := chkL_stars h3'
                    rw [frs_bi]
                    obtain ⟨a, t, rfl, r1, r2, r3⟩ := chkL_cons h3'
                    cases ys with
                    | nil =>
                      have e := chkL_nil r3
                      subst e
                      exact snd_bi g hf' hi h1 h2 (snd_one (sndE a g r2) (star1 r1)) hst
                    | cons z zs =>
                      obtain ⟨b, t', rfl, _⟩ := chkL_cons r3
                      exact snd_bi g hf' hi h1 h2 (sndL (.cons a (.cons b t')) g h3') hst
      | _ => cases h
    | _ => cases h
  | .mth m o es, X, P, S, e, tp, g, h => by
    cases e with
    | Call fn args kws p =>
      cases fn with
      | Attribute x name ap =>
        cases args with
        | nil => cases h
        | cons y ys => cases kws with
          | cons _ _ => cases h
          | nil =>
            obtain ⟨h1, w2⟩ := and_t (a := decide (miNm m = some name)) h
            obtain ⟨h2, w3⟩ := and_t w2
            obtain ⟨h3, w4⟩ := and_t w3
            obtain ⟨h4, w5⟩ := and_t w4
            obtain ⟨h5, h6⟩ := and_t w5
            have hst := chkL_stars h6
            obtain ⟨a, t, rfl, r1, r2, r3⟩ := chkL_cons h6
            cases ys with
            | nil =>
              have e := chkL_nil r3
              subst e
              exact snd_mt g.room.units (dec_t h1) h2 (dec_t h3) (dec_t h4) (sndE o g h5) (snd_one (sndE a g r2) (star1 r1)) hst
            | cons z zs =>
              obtain ⟨b, t', rfl, _⟩ := chkL_cons r3
              exact snd_mt g.room.units (dec_t h1) h2 (dec_t h3) (dec_t h4) (sndE o g h5) (sndL (.cons a (.cons b t')) g h6) hst
      | _ => cases h
    | _ => cases h
  | .lscr i, X, P, S, e, tp, g, h => by
    cases e with
    | Call fn args kws p =>
      cases fn with
      | Name nm p2 => cases args with
        | nil => cases h
        | cons y ys => cases y with
          | Name x p3 => cases ys with
            | cons _ _ => cases h
            | nil => cases kws with
              | cons _ _ => cases h
              | nil =>
                obtain ⟨h1, h2⟩ := and_t (a := decide (nm = biNm .list)) h
                obtain ⟨h2, h3⟩ := and_t h2
                obtain ⟨h3, h4⟩ := and_t h3
                obtain ⟨a, b, c⟩ := g.vis h4
                obtain ⟨b1, b2, b3, b4⟩ := g.bl h2
                exact snd_lscr (g.ix h3) a b c b1 b4 (by rw [dec_t h1]; exact bi_boot .list) b3 b2 G
          | _ => cases h
      | _ => cases h
    | _ => cases h
  | .lc tg it ifs elt, X, P, S, e, tp, g, h => by
    cases e with
    | ListComp el gens scope p =>
      cases gens with
      | nil => cases h
      | cons c1 cr =>
        obtain ⟨tgx, itx, ifsx, asy⟩ := c1
        cases cr with
        | cons _ _ => cases h
        | nil =>
            obtain ⟨h0, w1⟩ := and_t (a := decide (asy = 0)) h
            obtain ⟨h1, w2⟩ := and_t w1
            obtain ⟨h2, w3⟩ := and_t w2
            obtain ⟨h3, w4⟩ := and_t w3
            obtain ⟨h4, w5⟩ := and_t w4
            obtain ⟨h5, w6⟩ := and_t w5
            obtain ⟨h6, h7⟩ := and_t w6
            have ea := dec_t h0
            subst ea
            have hi : PI X tgx itx (rdI X.K P true (leak true it) fun σ => if isIt it then evI G it σ else bnd (evE G it σ) itsM) := by
              rcases or_t h4 with q | q
              · rw [chkE_it q]; exact snd_it (sndE it g q)
              · rw [chkI_it q]; exact sndI it g q
            have ho : (ownOf S tg).map (·.2) = tgs tg := by
              unfold ownOf
              rw [List.map_map]
              exact List.map_id _
            exact snd_lc g.calm g.nd hi (blkOk_by (by rw [g.N, g.sc]; exact h1)) ho (fun s H C cl fp => sndG g.block h3) (fun s H C cl fp => sndTs ifs g.block h6 (dec_t h5)) (fun s H C cl fp => sndE elt g.block h7) (folded_of h2)
    | _ => cases h
  | .nil, X, P, S, e, tp, g, h => by cases h
  | .cons _ _, X, P, S, e, tp, g, h => by cases h
  | .rev a, X, P, S, e, tp, g, h => by
    cases e with
    | Subscript x sl p =>
      obtain ⟨h1, h2⟩ := and_t (a := isRev sl) h
      obtain ⟨k, p1, p2, p3, e1⟩ := isRev_eq h1
      subst e1
      exact snd_rev (sndE a g h2)
    | _ => cases h
  | .rng _, X, P, S, e, tp, g, h => by cases h
  | .enm _, X, P, S, e, tp, g, h => by cases h
  | .zip _ _, X, P, S, e, tp, g, h => by cases h
  | .lc2 tg it ifs tg2 it2 ifs2 elt, X, P, S, e, tp, g, h => by
    cases e with
    | ListComp el gens scope p =>
      cases gens with
      | nil => cases h
      | cons c1 cr =>
        obtain ⟨tgx, itx, ifsx, asy⟩ := c1
        cases cr with
        | nil => cases h
        | cons c2 cr =>
          obtain ⟨tgy, ity, ifsy, asz⟩ := c2
          cases cr with
          | cons _ _ => cases h
          | nil =>
            obtain ⟨h0, w1⟩ := and_t (a := decide (asy = 0)) h
            obtain ⟨h0', w1⟩ := and_t w1
            obtain ⟨h1, w2⟩ := and_t w1
            obtain ⟨h2, w3⟩ := and_t w2
            obtain ⟨h2', w3⟩ := and_t w3
            obtain ⟨h3, w4⟩ := and_t w3
            obtain ⟨h4, w5⟩ := and_t w4
            obtain ⟨h5, w6⟩ := and_t w5
            obtain ⟨h6, w7⟩ := and_t w6
            obtain ⟨k3, w7⟩ := and_t w7
            obtain ⟨k4, w7⟩ := and_t w7
            obtain ⟨k5, w7⟩ := and_t w7
            obtain ⟨k6, h7⟩ := and_t w7
            have ea := dec_t h0
            subst ea
            have ez := dec_t h0'
            subst ez
            have hi : PI X tgx itx (rdI X.K P true (leak true it) fun σ => if isIt it then evI G it σ else bnd (evE G it σ) itsM) := by
              rcases or_t h4 with q | q
              · rw [chkE_it q]; exact snd_it (sndE it g q)
              · rw [chkI_it q]; exact sndI it g q
            have hi1 : ∀ (s : Shared) (H : Hp) (C : Addr) (cl : List (Str × Addr)) (fp : List Addr), PI (X.blk s H scope (compEnvC scope cl C X.env) fp) tgy ity (rdI X.K P.quiet false (leak false it2) fun σ => if isIt it2 then evI G it2 σ else bnd (evE G it2 σ) itsM) := fun s H C cl fp => by
              rcases or_t k4 with q | q
              · rw [chkE_it q]; exact snd_it (sndE it2 g.block q)
              · rw [chkI_it q]; exact sndI it2 g.block q
            have ho : (ownOf2 S tg tg2).map (·.2) = tgs tg ++ tgs tg2 := by
              unfold ownOf2
              rw [List.map_map]
              exact List.map_id _
            exact snd_lc2 g.calm g.nd hi (blkOk_by (by rw [g.N, g.sc]; exact h1)) ho (fun s H C cl fp => sndG g.block h3) (fun s H C cl fp => sndTs ifs g.block h6 (dec_t h5)) hi1 (fun s H C cl fp => sndG g.block k3) (fun s H C cl fp => sndTs ifs2 g.block k6 (dec_t k5)) (fun s H C cl fp => sndE elt g.block h7) (folded_of h2) fun env x => folded_of h2' x
    | _ => cases h
  | .cupR i n, X, P, S, e, tp, g, h => by
    cases e with
    | Subscript o x p => cases o with
      | Name y p2 => cases x with
        | Constant c j p3 => cases c with
          | int m =>
            obtain ⟨h1, w2⟩ := and_t (a := decide (S.N[i]? = some y)) h
            obtain ⟨h2, w3⟩ := and_t w2
            obtain ⟨h3, h4⟩ := and_t w3
            have em := dec_t h3
            subst em
            obtain ⟨a, b, c⟩ := g.vis h2
            exact snd_cupR (g.ix h1) a b c ((or_t h4).imp dec_t dec_t)
          | _ => cases h
        | _ => cases h
      | _ => cases h
    | _ => cases h
  | .rgv i, X, P, S, e, tp, g, h => by cases h
  | .dop o i k x, X, P, S, e, tp, g, h => by
    cases o with
    | sub => cases e with
      | Subscript d y p => cases d with
        | Name nm p2 =>
          obtain ⟨h1, w2⟩ := and_t (a := decide (S.N[i]? = some nm)) h
          obtain ⟨h2, w3⟩ := and_t w2
          obtain ⟨h3, h4⟩ := and_t w3
          obtain ⟨a, b, c⟩ := g.vis h2
          exact snd_dsub (tk := true) (by have := g.room.units; omega) (g.ix h1) a b c (sndE k (tp := true) g h4) (fun ov iv => by cases y <;> first | rfl | cases h3) (fun _ => mem_l)
        | _ => cases h
      | _ => cases h
    | srt => cases e with
      | Call fn args kws p => cases fn with
        | Name nm p2 => cases args with
          | nil => cases h
          | cons y ys => cases y with
            | Name d p3 => cases ys with
              | cons _ _ => cases h
              | nil => cases kws with
                | cons _ _ => cases h
                | nil =>
                  obtain ⟨h1, w2⟩ := and_t (a := decide (nm = "sorted")) h
                  obtain ⟨h2, w3⟩ := and_t w2
                  obtain ⟨h3, h4⟩ := and_t w3
                  obtain ⟨a, b, c⟩ := g.vis h4
                  obtain ⟨b1, b2, b3, b4⟩ := g.bl h2
                  have e1 := dec_t h1
                  subst e1
                  exact snd_dsrt g.calm b1 b4 (g.ix h3) a b c
            | _ => cases h
        | _ => cases h
      | _ => cases h
    | get2 => cases e with
      | Call fn args kws p => cases fn with
        | Attribute d nm ap => cases d with
          | Name x0 p2 => cases args with
            | nil => cases h
            | cons y ys => cases ys with
              | nil => cases h
              | cons z zs => cases zs with
                | cons _ _ => cases h
                | nil => cases kws with
                  | cons _ _ => cases h
                  | nil =>
                    obtain ⟨h1, w2⟩ := and_t (a := decide (nm = "get")) h
                    obtain ⟨h2, w3⟩ := and_t w2
                    obtain ⟨h3, w4⟩ := and_t w3
                    obtain ⟨h4, w5⟩ := and_t w4
                    obtain ⟨h5, w6⟩ := and_t w5
                    obtain ⟨h6, w7⟩ := and_t w6
                    obtain ⟨h7, h8⟩ := and_t w7
                    obtain ⟨a, b, c⟩ := g.vis h3
                    have e1 := dec_t h1
                    subst e1
                    exact snd_dget2 (tk := true) (by have := g.room.units; omega) (g.ix h2) a b c (sndE k (tp := true) g h7) (sndE x (tp := false) g h8) h5 h6 (dec_t h4)
          | _ => cases h
        | _ => cases h
      | _ => cases h
  | .nev, X, P, S, e, tp, g, h => ⟨fun _ _ _ _ _ _ ⟨_, _, _, _, _, w⟩ => w.elim⟩
termination_by c => (sizeOf c, 0)
theorem sndL : ∀ (c : CE) {X : Cx} {P : Pm} {S : Sc} {es : List Expr}, Good G k X P S → chkL c S es = true → PA X es (rdL X.K P false (leak false c) (evL G c)) := fun c {X P S es} g h => by
  cases es with
  | nil =>
    have e := chkL_nil h
    subst e
    exact snd_nil
  | cons x xs =>
    obtain ⟨a, t, e, r1, r2, r3⟩ := chkL_cons h
    have : sizeOf a < sizeOf c ∧ sizeOf t < sizeOf c := by subst e; simp; omega
    have q1 := sndE a (tp := false) g r2
    have q2 := sndL t g r3
    subst e
    exact snd_cons q1 q2 (star1 r1)
termination_by c => (sizeOf c, 0)
theorem sndA : ∀ (c : CE) {X : Cx} {P : Pm} {S : Sc} {es : List Expr}, Good G k X P S → chkL c S es = true → PA X es (rdA X.K P (leak false c) (evA G c)) := fun c {X P S es} g h => by
  cases es with
  | nil =>
    have e := chkL_nil h
    subst e
    exact snd_anil
  | cons x xs =>
    obtain ⟨a, t, e, r1, r2, r3⟩ := chkL_cons h
    have : sizeOf a < sizeOf c ∧ sizeOf t < sizeOf c := by subst e; simp; omega
    have q1 := sndE a (tp := false) g r2
    have q2 := sndA t g r3
    subst e
    cases a with
    | var i =>
      cases x with
      | Name y p =>
        obtain ⟨z1, z2⟩ := and_t (a := decide (S.N[i]? = some y)) r2
        obtain ⟨v1, v2, v3⟩ := g.vis z2
        exact snd_avar (g.ix z1) v1 v2 v3 q2
      | _ => cases r2
    | _ => exact snd_acons q1 q2 (star1 r1)
termination_by c => (sizeOf c, 0)
theorem sndT : ∀ (c : CE) {X : Cx} {P : Pm} {S : Sc} {e : Expr}, Good G k X P S → chkE c S e = true → PT X e (rdB X.K P (leak true c) fun σ => bnd (evE G c σ) tru)
  | .not a, X, P, S, e, g, h => by
    cases e with
    | UnaryOp o x p =>
      cases o with
      | Not =>
        refine PT.eqm ?_ (snd_notT (sndT a (e := x) g h))
        funext σ
        show bnd (bnd (evE G a σ) tru) (fun k => ret (!k)) = bnd (bnd (evE G a σ) fun x => bnd (tru x) fun b => ret (.bool (!b))) tru
        rw [bnd_assoc, bnd_assoc]
        congr 1
        funext x
        cases x <;> rfl
      | _ => cases h
    | _ => cases h
  | .cmp op a b, X, P, S, e, g, h => by
    cases e with
    | Compare x ops ys p =>
      cases ops with
      | nil => cases h
      | cons o r => cases r with
        | cons o2 r2 => cases r2 <;> (cases ys with
          | nil => cases h
          | cons y1 q => cases q with
            | nil => cases h
            | cons y2 q2 => cases q2 <;> cases h)
        | nil => cases ys with
          | nil => cases h
          | cons y q => cases q with
            | cons _ _ => cases h
            | nil =>
              obtain ⟨h1, w2⟩ := and_t (a := decide (op = o)) h
              obtain ⟨h2, w3⟩ := and_t w2
              obtain ⟨h3, h4⟩ := and_t w3
              have e := dec_t h1
              subst e
              exact snd_cmpT g.room.units (sndE a g h3) (sndE b g h4) (not_t h2)
    | _ => cases h
  | .chn o p a b c, X, P, S, e, g, h => by
    cases e with
    | Compare x ops ys ps =>
      cases ops with
      | nil => cases h
      | cons o1 r => cases r with
        | nil => cases ys with
          | nil => cases h
          | cons y q => cases q <;> cases h
        | cons o2 r2 => cases r2 with
          | cons _ _ => cases ys with
            | nil => cases h
            | cons y1 q => cases q with
              | nil => cases h
              | cons y2 q2 => cases q2 <;> cases h
          | nil => cases ys with
            | nil => cases h
            | cons y q => cases q with
              | nil => cases h
              | cons z q2 => cases q2 with
                | cons _ _ => cases h
                | nil =>
                  obtain ⟨h1, w2⟩ := and_t (a := decide (o = o1)) h
                  obtain ⟨h2, w3⟩ := and_t w2
                  obtain ⟨h3, w4⟩ := and_t w3
                  obtain ⟨h4, w5⟩ := and_t w4
                  obtain ⟨h5, h6⟩ := and_t w5
                  have e1 := dec_t h1
                  have e2 := dec_t h2
                  subst e1; subst e2
                  exact snd_chnT g.room.units (sndE a g h4) (sndE b g h5) (sndE c g h6) (not_t h3)
    | _ => cases h
  | .and es, X, P, S, e, g, h => by
    cases e with
    | BoolOp o xs p =>
      cases o with
      | And => cases xs with
        | nil => cases h
        | cons x xs => exact (sndAndT es (x := x) (xs := xs) g h).pt
      | Or => cases h
    | _ => cases h
  | .or es, X, P, S, e, g, h => by
    cases e with
    | BoolOp o xs p =>
      cases o with
      | Or => cases xs with
        | nil => cases h
        | cons x xs => exact (sndOrT es (x := x) (xs := xs) g h).pt
      | And => cases h
    | _ => cases h
  | .ite c a b, X, P, S, e, g, h => by
    cases e with
    | IfExp x y z p =>
      obtain ⟨h1, w2⟩ := and_t (a := chkE c S x) h
      obtain ⟨h2, h3⟩ := and_t w2
      refine PT.eqm ?_ (snd_iteT (sndT c g h1) (PT.lk (leak_tf a) (sndT a g h2)) (PT.lk (leak_tf b) (sndT b g h3)))
      funext σ
      show bnd (bnd (evE G c σ) tru) (fun k => if k = true then bnd (evE G a σ) tru else bnd (evE G b σ) tru) = bnd (bnd (evE G c σ) fun x => bnd (tru x) fun k => if k = true then evE G a σ else evE G b σ) tru
      rw [bnd_assoc, bnd_assoc]
      congr 1
      funext x
      rw [bnd_assoc]
      congr 1
      funext k
      cases k <;> rfl
    | _ => cases h
  | .var v1, X, P, S, e, g, h => by
    cases e with
    | Name _ _ => exact snd_tst (sndE (.var v1) g h) fun _ => rfl
    | _ => cases h
  | .cst v1, X, P, S, e, g, h => by
    cases e with
    | Constant _ _ _ => exact snd_tst (sndE (.cst v1) g h) fun _ => rfl
    | _ => cases h
  | .glb v1 v2, X, P, S, e, g, h => by
    cases e with
    | Name _ _ => exact snd_tst (sndE (.glb v1 v2) g h) fun _ => rfl
    | _ => cases h
  | .tup v1, X, P, S, e, g, h => by
    cases e with
    | Tuple _ _ _ => exact snd_tst (sndE (.tup v1) g h) fun _ => rfl
    | _ => cases h
  | .lst v1, X, P, S, e, g, h => by
    cases e with
    | List _ _ => exact snd_tst (sndE (.lst v1) g h) fun _ => rfl
    | _ => cases h
  | .bin v1 v2 v3, X, P, S, e, g, h => by
    cases e with
    | BinOp _ _ _ _ => exact snd_tst (sndE (.bin v1 v2 v3) g h) fun _ => rfl
    | _ => cases h
  | .sub v1 v2, X, P, S, e, g, h => by
    cases e with
    | Subscript _ _ _ => exact snd_tst (sndE (.sub v1 v2) g h) fun _ => rfl
    | _ => cases h
  | .slc v1 v2 v3, X, P, S, e, g, h => by
    cases e with
    | Subscript _ _ _ => exact snd_tst (sndE (.slc v1 v2 v3) g h) fun _ => rfl
    | _ => cases h
  | .rev v1, X, P, S, e, g, h => by
    cases e with
    | Subscript _ _ _ => exact snd_tst (sndE (.rev v1) g h) fun _ => rfl
    | _ => cases h
  | .call v1 v2, X, P, S, e, g, h => by
    cases e with
    | Call _ _ _ _ => exact snd_tst (sndE (.call v1 v2) g h) fun _ => rfl
    | _ => cases h
  | .bi v1 v2, X, P, S, e, g, h => by
    cases e with
    | Call _ _ _ _ => exact snd_tst (sndE (.bi v1 v2) g h) fun _ => rfl
    | _ => cases h
  | .mth v1 v2 v3, X, P, S, e, g, h => by
    cases e with
    | Call _ _ _ _ => exact snd_tst (sndE (.mth v1 v2 v3) g h) fun _ => rfl
    | _ => cases h
  | .lscr v1, X, P, S, e, g, h => by
    cases e with
    | Call _ _ _ _ => exact snd_tst (sndE (.lscr v1) g h) fun _ => rfl
    | _ => cases h
  | .lc v1 v2 v3 v4, X, P, S, e, g, h => by
    cases e with
    | ListComp _ _ _ _ => exact snd_tst (sndE (.lc v1 v2 v3 v4) g h) fun _ => rfl
    | _ => cases h
  | .nil, X, P, S, e, g, h => by cases h
  | .cons v1 v2, X, P, S, e, g, h => by cases h
  | .rng v1, X, P, S, e, g, h => by cases h
  | .enm v1, X, P, S, e, g, h => by cases h
  | .zip v1 v2, X, P, S, e, g, h => by cases h
  | .lc2 v1 v2 v3 v4 v5 v6 v7, X, P, S, e, g, h => by
    cases e with
    | ListComp _ _ _ _ => exact snd_tst (sndE (.lc2 v1 v2 v3 v4 v5 v6 v7) g h) fun _ => rfl
    | _ => cases h
  | .rgv i, X, P, S, e, g, h => by cases h
  | .dop o i k x, X, P, S, e, g, h => by
    cases e with
    | Subscript _ _ _ => exact snd_tst (sndE (.dop o i k x) g h) fun _ => rfl
    | Call _ _ _ _ => exact snd_tst (sndE (.dop o i k x) g h) fun _ => rfl
    | _ => cases o <;> cases h
  | .cupR i n, X, P, S, e, g, h => by
    cases e with
    | Subscript _ _ _ => exact snd_tst (sndE (.cupR i n) g h) fun _ => rfl
    | _ => cases h
  | .nev, X, P, S, e, g, h => ⟨fun _ _ _ _ _ _ ⟨_, _, _, _, _, w⟩ => w.elim⟩
  | .neg a, X, P, S, e, g, h => by
    cases e with
    | UnaryOp o x p =>
      cases o with
      | USub => exact snd_tst (sndE (.neg a) (e := .UnaryOp .USub x p) g h) fun _ => rfl
      | _ => cases h
    | _ => cases h
termination_by c => (sizeOf c, 1)
theorem sndTs : ∀ (c : CE) {X : Cx} {P : Pm} {S : Sc} {es : List Expr}, Good G k X P S → chkL c S es = true → es.length ≤ 1 → PTs X es (rdB X.K P (leak false c) (evT G c)) := fun c {X P S es} g h hl => by
  cases es with
  | nil =>
    have e := chkL_nil h
    subst e
    exact pts_no fun _ => rfl
  | cons x xs =>
    cases xs with
    | cons _ _ => simp at hl
    | nil =>
      obtain ⟨a, t, e, r1, r2, r3⟩ := chkL_cons h
      have : sizeOf a < sizeOf c := by subst e; simp; omega
      have e2 := chkL_nil r3
      have q1 := sndT a g r2
      subst e; subst e2
      refine pts_one (PT.eqm ?_ (PT.lk (L' := leak false a ++ []) (fun i hi => mem_l (leak_tf a i hi)) q1))
      funext σ
      funext cu
      show bnd (evE G a σ) tru cu = bnd (evE G a σ) (fun x => bnd (tru x) fun k => if k = true then ret true else ret false) cu
      congr 2
      funext x
      cases x with
      | bool b => cases b <;> rfl
      | _ => rfl
termination_by c => (sizeOf c, 0)
theorem sndAnd : ∀ (c : CE) {X : Cx} {P : Pm} {S : Sc} {x : Expr} {xs : List Expr} {p : Pos} {tp : Bool}, Good G k X P S → chkL c S (x :: xs) = true → PE X (.BoolOp .And (x :: xs) p) (rdE X.K P tp false (leak false c) (evAnd G c)) := fun c {X P S x xs p tp} g h => by
  obtain ⟨a, t, e, r1, r2, r3⟩ := chkL_cons h
  have : sizeOf a < sizeOf c ∧ sizeOf t < sizeOf c := by subst e; simp; omega
  cases xs with
  | nil =>
    have e2 := chkL_nil r3
    have q1 := sndE a (tp := tp) g r2
    subst e; subst e2
    exact PE.lk (fun i hi => mem_l (by cases tp <;> first | exact hi | exact leak_tf a i hi)) (snd_one1 q1)
  | cons y ys =>
    obtain ⟨b, t', e2, s1, s2, s3⟩ := chkL_cons r3
    have q1 := sndE a (tp := true) g r2
    have q2 := sndAnd t (p := p) (tp := tp) g r3
    subst e; subst e2
    exact PE.lk (fun i hi => (List.mem_append.mp hi).elim (fun z => mem_l (leak_tf a i z)) mem_r) (snd_and q1 q2)
termination_by c => (sizeOf c, 0)
theorem sndOr : ∀ (c : CE) {X : Cx} {P : Pm} {S : Sc} {x : Expr} {xs : List Expr} {p : Pos} {tp : Bool}, Good G k X P S → chkL c S (x :: xs) = true → PE X (.BoolOp .Or (x :: xs) p) (rdE X.K P tp false (leak false c) (evOr G c)) := fun c {X P S x xs p tp} g h => by
  obtain ⟨a, t, e, r1, r2, r3⟩ := chkL_cons h
  have : sizeOf a < sizeOf c ∧ sizeOf t < sizeOf c := by subst e; simp; omega
  cases xs with
  | nil =>
    have e2 := chkL_nil r3
    have q1 := sndE a (tp := tp) g r2
    subst e; subst e2
    exact PE.lk (fun i hi => mem_l (by cases tp <;> first | exact hi | exact leak_tf a i hi)) (snd_one1 q1)
  | cons y ys =>
    obtain ⟨b, t', e2, s1, s2, s3⟩ := chkL_cons r3
    have q1 := sndE a (tp := true) g r2
    have q2 := sndOr t (p := p) (tp := tp) g r3
    subst e; subst e2
    exact PE.lk (fun i hi => (List.mem_append.mp hi).elim (fun z => mem_l (leak_tf a i z)) mem_r) (snd_or q1 q2)
termination_by c => (sizeOf c, 0)
theorem sndAndT : ∀ (c : CE) {X : Cx} {P : Pm} {S : Sc} {x : Expr} {xs : List Expr} {p : Pos}, Good G k X P S → chkL c S (x :: xs) = true → PW X (.BoolOp .And (x :: xs) p) (rdB X.K P (leak false c) fun σ => bnd (evAnd G c σ) tru) := fun c {X P S x xs p} g h => by
  obtain ⟨a, t, e, r1, r2, r3⟩ := chkL_cons h
  have : sizeOf a < sizeOf c ∧ sizeOf t < sizeOf c := by subst e; simp; omega
  have q1 := sndT a g r2
  cases xs with
  | nil =>
    have e2 := chkL_nil r3
    subst e; subst e2
    exact pw_and1 (PT.lk (fun i hi => mem_l (leak_tf a i hi)) q1)
  | cons y ys =>
    obtain ⟨b, t', e2, s1, s2, s3⟩ := chkL_cons r3
    have q2 := sndAndT t (p := p) g r3
    subst e; subst e2
    refine PW.eqm ?_ (snd_andT (PT.lk (leak_tf a) q1) q2)
    funext σ
    show bnd (bnd (evE G a σ) tru) (fun k => if k = true then bnd (evAnd G (.cons b t') σ) tru else ret false) = bnd (bnd (evE G a σ) fun x => bnd (tru x) fun k => if k = true then evAnd G (.cons b t') σ else ret (.bool false)) tru
    rw [bnd_assoc, bnd_assoc]
    congr 1
    funext x
    rw [bnd_assoc]
    congr 1
    funext k
    cases k <;> rfl
termination_by c => (sizeOf c, 0)
theorem sndOrT : ∀ (c : CE) {X : Cx} {P : Pm} {S : Sc} {x : Expr} {xs : List Expr} {p : Pos}, Good G k X P S → chkL c S (x :: xs) = true → PW X (.BoolOp .Or (x :: xs) p) (rdB X.K P (leak false c) fun σ => bnd (evOr G c σ) tru) := fun c {X P S x xs p} g h => by
  obtain ⟨a, t, e, r1, r2, r3⟩ := chkL_cons h
  have : sizeOf a < sizeOf c ∧ sizeOf t < sizeOf c := by subst e; simp; omega
  have q1 := sndT a g r2
  cases xs with
  | nil =>
    have e2 := chkL_nil r3
    subst e; subst e2
    exact pw_or1 (PT.lk (fun i hi => mem_l (leak_tf a i hi)) q1)
  | cons y ys =>
    obtain ⟨b, t', e2, s1, s2, s3⟩ := chkL_cons r3
    have q2 := sndOrT t (p := p) g r3
    subst e; subst e2
    refine PW.eqm ?_ (snd_orT (PT.lk (leak_tf a) q1) q2)
    funext σ
    show bnd (bnd (evE G a σ) tru) (fun k => if k = true then ret true else bnd (evOr G (.cons b t') σ) tru) = bnd (bnd (evE G a σ) fun x => bnd (tru x) fun k => if k = true then ret (.bool true) else evOr G (.cons b t') σ) tru
    rw [bnd_assoc, bnd_assoc]
    congr 1
    funext x
    rw [bnd_assoc]
    congr 1
    funext k
    cases k <;> rfl
termination_by c => (sizeOf c, 0)
theorem sndI : ∀ (c : CE) {X : Cx} {P : Pm} {S : Sc} {t e : Expr} {tp : Bool}, Good G k X P S → chkI c S t e = true → PI X t e (rdI X.K P tp (leak tp c) (evI G c)) := fun c {X P S t e tp} g h => by
  rcases chkI_cases h with ⟨a, ec⟩ | ⟨a, b, ec⟩ | ⟨a, b, ec⟩ | ⟨i, ec⟩ | ⟨a, ec⟩
  · have sz : sizeOf a < sizeOf c := by subst ec; simp; omega
    rw [ec] at h
    cases e with
    | Call f args kws p =>
      cases f with
      | Name x p2 => cases args with
        | nil => cases h
        | cons y ys => cases ys with
          | cons _ _ => cases h
          | nil => cases kws with
            | cons _ _ => cases h
            | nil =>
              obtain ⟨h1, w2⟩ := and_t (a := decide (x = "range")) h
              obtain ⟨h2, w3⟩ := and_t w2
              obtain ⟨h3, h4⟩ := and_t w3
              obtain ⟨b1, b2, b3, b4⟩ := g.bl h2
              have e := dec_t h1
              have q := sndE a (tp := true) g h4
              subst e
              subst ec
              exact PI.lk (fun i hi => mem_l (leak_tf a i hi)) (snd_rng1 b1 b4 q (star1 h3))
      | _ => cases h
    | _ => cases h
  · have sz : sizeOf a < sizeOf c ∧ sizeOf b < sizeOf c := by subst ec; simp; omega
    rw [ec] at h
    cases e with
    | Call f args kws p =>
      cases f with
      | Name x p2 => cases args with
        | nil => cases h
        | cons y ys => cases ys with
          | nil => cases h
          | cons z zs => cases zs with
            | cons _ _ => cases h
            | nil => cases kws with
              | cons _ _ => cases h
              | nil =>
                obtain ⟨h1, w2⟩ := and_t (a := decide (x = "range")) h
                obtain ⟨h2, w3⟩ := and_t w2
                obtain ⟨h3, w4⟩ := and_t w3
                obtain ⟨h4, w5⟩ := and_t w4
                obtain ⟨h5, h6⟩ := and_t w5
                obtain ⟨b1, b2, b3, b4⟩ := g.bl h2
                have e := dec_t h1
                have q1 := sndE a (tp := false) g h5
                have q2 := sndE b (tp := false) g h6
                subst e
                subst ec
                exact PI.lk (fun i hi => (List.mem_append.mp hi).elim mem_l fun z => mem_r (mem_l z)) (snd_rng2 b1 b4 q1 q2 (star1 h3) (star1 h4))
      | _ => cases h
    | _ => cases h
  · have sz : sizeOf a < sizeOf c ∧ sizeOf b < sizeOf c := by subst ec; simp; omega
    rw [ec] at h
    cases t with
    | Tuple elts kk tp2 =>
      cases e with
      | Call f args kws p =>
        cases f with
        | Name x p2 => cases args with
          | nil => cases h
          | cons y ys => cases ys with
            | nil => cases h
            | cons z zs => cases zs with
              | cons _ _ => cases h
              | nil => cases kws with
                | cons _ _ => cases h
                | nil =>
                  obtain ⟨h1, w2⟩ := and_t (a := decide (x = "zip")) h
                  obtain ⟨h2, w3⟩ := and_t w2
                  obtain ⟨h3, w4⟩ := and_t w3
                  obtain ⟨h4, w5⟩ := and_t w4
                  obtain ⟨h5, h6⟩ := and_t w5
                  obtain ⟨b1, b2, b3, b4⟩ := g.bl h2
                  have e := dec_t h1
                  have q1 := sndE a (tp := tp) g h5
                  have q2 := sndE b (tp := tp) g h6
                  subst e
                  subst ec
                  exact snd_zip b1 b4 q1 q2 (star1 h3) (star1 h4)
        | _ => cases h
      | _ => cases h
    | _ => cases h
  · subst ec
    cases e with
    | Name x p =>
      obtain ⟨h1, h2⟩ := and_t (a := decide (S.N[i]? = some x)) h
      obtain ⟨a, b, c⟩ := g.vis h2
      exact snd_rgv (g.ix h1) a b c
    | _ => cases h
  · have sz : sizeOf a < sizeOf c := by subst ec; simp
    rw [ec] at h
    cases t with
    | Tuple elts kk tp2 =>
      cases e with
      | Call f args kws p =>
        cases f with
        | Name x p2 => cases args with
          | nil => cases h
          | cons y ys => cases ys with
            | cons _ _ => cases h
            | nil => cases kws with
              | cons _ _ => cases h
              | nil =>
                obtain ⟨h1, w2⟩ := and_t (a := decide (x = "enumerate")) h
                obtain ⟨h2, w3⟩ := and_t w2
                obtain ⟨h3, h4⟩ := and_t w3
                obtain ⟨b1, b2, b3, b4⟩ := g.bl h2
                have e := dec_t h1
                have q1 := sndE a (tp := tp) g h4
                subst e
                subst ec
                exact snd_enm b1 b4 q1 (star1 h3)
        | _ => cases h
      | _ => cases h
    | _ => cases h
termination_by c => (sizeOf c, 0)
end
/-- what a loop walks -/
theorem sndW {c : CE} {X : Cx} {P : Pm} {S : Sc} {t e : Expr} {tp : Bool} (g : Good G k X P S) (h : (chkE c S e || chkI c S t e) = true) : PI X t e (rdI X.K P tp (leak tp c) (evW G c)) := by
  have eq : evW G c = fun σ => if isIt c then evI G c σ else bnd (evE G c σ) itsM := rfl
  rw [eq]
  rcases or_t h with q | q
  · rw [chkE_it q]; exact snd_it (sndE c g q)
  · rw [chkI_it q]; exact sndI c g q
end
end OR

/-! the state between statements -/
namespace OR
open PySem PySem.Spec PyProof.Rows L2 TL

structure Bs where
  He : Hp
  O0 : Addr → Prop
  ac : Option Addr
  Hb : Hp
  Ob : Addr → Prop
def isOw : Slot → Bool
  | .own _ => true
  | .obj (.dic _) => true
  | _ => false
def isDc : Ob → Bool
  | .dic _ => true
  | _ => false
def ownAt (δ : Env) (σ : L2.St) (i : Nat) (a : Addr) : Prop := (∃ s, δ[i]? = some s ∧ isOw s = true) ∧ σ[i]? = some (some (.ref a))
def OA (B : Bs) (δ : Env) (σ : L2.St) (b : Addr) : Prop := B.O0 b ∨ ∃ i, ownAt δ σ i b
def OL (B : Bs) (L : List Nat) (δ : Env) (σ : L2.St) (b : Addr) : Prop := B.O0 b ∨ ∃ i, i ∉ L ∧ ownAt δ σ i b
structure SOk (K : PySem.W.Frag) (B : Bs) (H : Hp) (δ : Env) (σ : L2.St) : Prop where
  len : δ.length = σ.length
  dom : ODom B.O0 H
  aco : ∀ a, B.ac = some a → B.O0 a
  val : ∀ (i : Nat) (d : D), δ[i]? = some (Slot.val d) → ∃ v, σ[i]? = some (some v) ∧ Rep K (OA B δ σ) H d v
  own : ∀ (i : Nat) (d : D), δ[i]? = some (Slot.own d) → ∃ ds a xs, d = .list ds ∧ σ[i]? = some (some (.ref a)) ∧ H a = some (.lst xs) ∧ B.He a = none ∧ ¬ B.O0 a ∧ RepL K (OA B δ σ) H ds xs ∧ ds.length ≤ sizeLine
  dist : ∀ (i j : Nat) (a : Addr), ownAt δ σ i a → ownAt δ σ j a → i = j
  cup : ∀ i : Nat, δ[i]? = some Slot.cup → ∃ a, B.ac = some a ∧ σ[i]? = some (some (.ref a))
  scr : ∀ (i : Nat) (is : List Int), δ[i]? = some (Slot.scr is) → ∃ a, σ[i]? = some (some (.ref a)) ∧ some a ≠ B.ac ∧ SqL K B.He a (is.map V.int)
  obj : ∀ (i : Nat) (o : Ob), δ[i]? = some (Slot.obj o) → ∃ a, σ[i]? = some (some (.ref a)) ∧ some a ≠ B.ac ∧ ObR H o a ∧ (isDc o = true → B.He a = none ∧ ¬ B.O0 a)
  ext1 : Ext1 B.ac B.He H
  exb : Ext B.Ob B.Hb H
  sub : ∀ b, OA B δ σ b → B.Ob b ∨ B.Hb b = none
section
variable {K : PySem.W.Frag} {B : Bs} {H H1 : Hp} {δ δ' : Env} {σ σ' : L2.St} {L : List Nat} {cu : Cu}
theorem OL.oa {b : Addr} (h : OL B L δ σ b) : OA B δ σ b := h.imp id fun ⟨i, _, z⟩ => ⟨i, z⟩
theorem SOk.na (h : SOk K B H δ σ) {i : Nat} {a : Addr} (o : ownAt δ σ i a) : some a ≠ B.ac := fun z => by
  obtain ⟨⟨s, e1, w⟩, e2⟩ := o
  cases s with
  | own d =>
    obtain ⟨ds, a', xs, _, q1, _, _, q2, _⟩ := h.own i d e1
    rw [e2] at q1; cases q1
    exact q2 (h.aco a z.symm)
  | obj o =>
    obtain ⟨a', q1, q2, _⟩ := h.obj i o e1
    rw [e2] at q1; cases q1
    exact q2 z
  | _ => cases w
theorem SOk.oad (h : SOk K B H δ σ) : ODom (OA B δ σ) H := fun b hb => by
  rcases hb with hb | ⟨i, ⟨s, e1, w⟩, e2⟩
  · exact h.dom b hb
  · cases s with
    | own d =>
      obtain ⟨ds, a, xs, _, q1, q2, _⟩ := h.own i d e1
      rw [e2] at q1; cases q1
      exact ⟨_, q2, trivial⟩
    | obj o =>
      obtain ⟨a', q1, _, q2, _⟩ := h.obj i o e1
      rw [e2] at q1; cases q1
      cases o with
      | rng _ _ => cases w
      | dic kvs => exact ⟨_, q2.2.2, trivial⟩
    | _ => cases w
theorem SOk.eok (h : SOk K B H δ σ) (L : List Nat) : EOk K (OL B L δ σ) B.ac L H δ σ := by
  refine ⟨h.len, fun b hb => h.oad b hb.oa, fun a e => .inl (h.aco a e), fun i d e => ?_, fun i d e => ?_, h.cup, fun i is e => ?_, fun i o e => ?_⟩
  · obtain ⟨v, a, r⟩ := h.val i d e
    exact ⟨v, a, r.anti fun b z => z.oa⟩
  · obtain ⟨ds, a, xs, rfl, q1, q2, q3, q4, q5, q6⟩ := h.own i d e
    have rl : RepL K (OL B L δ σ) H ds xs := q5.anti fun b z => z.oa
    refine ⟨.ref a, q1, ⟨q6, a, xs, rfl, q2, rl⟩, fun _ _ b eb => by cases eb; exact h.na ⟨⟨_, e, rfl⟩, q1⟩, fun hi => ⟨q6, a, xs, rfl, fun z => ?_, q2, rl⟩⟩
    rcases z with z | ⟨j, hj, z⟩
    · exact q4 z
    · exact hj (h.dist i j a ⟨⟨_, e, rfl⟩, q1⟩ z ▸ hi)
  · obtain ⟨a, q1, q2, q3⟩ := h.scr i is e
    exact ⟨a, q1, q2, sqL_e1 h.ext1 q2 q3⟩
  · obtain ⟨a, q1, q2, q3, _⟩ := h.obj i o e
    exact ⟨a, q1, q2, q3⟩
/-- an expression has run -/
theorem SOk.step (h : SOk K B H δ σ) (e : Ext1 B.ac H H1) (c : CuOk B.ac H1 cu) : SOk K B H1 δ σ := by
  have oao : ∀ a, B.ac = some a → OA B δ σ a := fun a z => .inl (h.aco a z)
  have ex : Ext (OA B δ σ) H H1 := e.ext oao
  refine ⟨h.len, odom_step h.dom e c, h.aco, fun i d q => ?_, fun i d q => ?_, h.dist, h.cup, h.scr, fun i o q => ?_, h.ext1.trans e, ?_, h.sub⟩
  · obtain ⟨v, a, r⟩ := h.val i d q
    exact ⟨v, a, r.ext h.oad ex⟩
  · obtain ⟨ds, a, xs, q0, q1, q2, q3, q4, q5, q6⟩ := h.own i d q
    exact ⟨ds, a, xs, q0, q1, e _ _ (h.na ⟨⟨_, q, rfl⟩, q1⟩) q2, q3, q4, q5.ext h.oad ex, q6⟩
  · obtain ⟨a, q1, q2, q3, q4⟩ := h.obj i o q
    exact ⟨a, q1, q2, q3.e fun x z => e _ _ q2 z, q4⟩
  · intro b x nb q
    by_cases hp : some b = B.ac
    · rcases h.sub b (oao b hp.symm) with z | z
      · exact absurd z nb
      · rw [z] at q; cases q
    · exact e b x hp (h.exb b x nb q)

theorem getS_get {σ : Env} {i : Nat} {s : Slot} (h : σ[i]? = some s) : getS σ i = s := by
  unfold getS
  rw [List.getD_eq_getElem?_getD, h]; rfl
theorem frz_len : ∀ {L : List Nat} {δ : Env}, (frz L δ).length = δ.length
  | [], _ => rfl
  | i :: r, δ => by
    show ((frz r δ).set i _).length = _
    rw [List.length_set, frz_len]
theorem frz1_ow {s : Slot} : isOw (frz1 s) = false := by
  cases s with
  | obj o => cases o <;> rfl
  | _ => rfl
theorem frz_get : ∀ {L : List Nat} {δ : Env} {j : Nat} {s : Slot}, (frz L δ)[j]? = some s → ∃ t, δ[j]? = some t ∧ ((j ∈ L ∧ s = frz1 t) ∨ (j ∉ L ∧ s = t))
  | [], δ, j, s, h => ⟨s, h, .inr ⟨by simp, rfl⟩⟩
  | i :: r, δ, j, s, h => by
    have h : ((frz r δ).set i (frz1 (getS δ i)))[j]? = some s := h
    rcases set_get h with ⟨rfl, e, hl⟩ | ⟨hj, h⟩
    · rw [frz_len] at hl
      have q : δ[j]? = some δ[j] := List.getElem?_eq_getElem hl
      exact ⟨δ[j], q, .inl ⟨List.mem_cons_self .., by rw [e, getS_get q]⟩⟩
    · obtain ⟨t, q, z⟩ := frz_get h
      exact ⟨t, q, z.imp (fun ⟨a, b⟩ => ⟨List.mem_cons_of_mem _ a, b⟩) fun ⟨a, b⟩ => ⟨fun y => (List.mem_cons.mp y).elim hj a, b⟩⟩
theorem frz_own {L : List Nat} {δ : Env} {σ : L2.St} {i : Nat} {a : Addr} (h : ownAt (frz L δ) σ i a) : i ∉ L ∧ ownAt δ σ i a := by
  obtain ⟨⟨s, e1, w⟩, e2⟩ := h
  obtain ⟨t, q, ⟨z, e⟩ | ⟨z, e⟩⟩ := frz_get e1
  · rw [e, frz1_ow] at w; cases w
  · subst e; exact ⟨z, ⟨_, q, w⟩, e2⟩
theorem OA.frz {b : Addr} (h : OA B (frz L δ) σ b) : OL B L δ σ b := h.imp id fun ⟨i, z⟩ => ⟨i, (frz_own z).1, (frz_own z).2⟩
theorem SOk.frz (h : SOk K B H δ σ) (L : List Nat) : SOk K B H (frz L δ) σ := by
  have lt : ∀ b, OA B (OR.frz L δ) σ b → OA B δ σ b := fun b z => z.frz.oa
  refine ⟨by rw [frz_len]; exact h.len, h.dom, h.aco, fun i d q => ?_, fun i d q => ?_, fun i j a x y => h.dist i j a (frz_own x).2 (frz_own y).2, fun i q => ?_, fun i is q => ?_, fun i o q => ?_, h.ext1, h.exb, fun b z => h.sub b (lt b z)⟩
  · obtain ⟨t, q1, z⟩ := frz_get q
    rcases z with ⟨z, e⟩ | ⟨z, e⟩
    · cases t with
      | own d' =>
        cases e
        obtain ⟨ds, a, xs, rfl, w1, w2, w3, w4, w5, w6⟩ := h.own i d q1
        refine ⟨.ref a, w1, w6, a, xs, rfl, fun y => ?_, w2, w5.anti lt⟩
        rcases y.frz with y | ⟨j, hj, y⟩
        · exact w4 y
        · exact hj (h.dist i j a ⟨⟨_, q1, rfl⟩, w1⟩ y ▸ z)
      | val d' =>
        cases e
        obtain ⟨v, a, r⟩ := h.val i d q1
        exact ⟨v, a, r.anti lt⟩
      | obj o => cases o <;> cases e
      | _ => cases e
    · subst e
      obtain ⟨v, a, r⟩ := h.val i d q1
      exact ⟨v, a, r.anti lt⟩
  · obtain ⟨t, q1, ⟨z, e⟩ | ⟨z, e⟩⟩ := frz_get q
    · cases t with
      | obj o => cases o <;> cases e
      | _ => cases e
    · subst e
      obtain ⟨ds, a, xs, w0, w1, w2, w3, w4, w5, w6⟩ := h.own i d q1
      exact ⟨ds, a, xs, w0, w1, w2, w3, w4, w5.anti lt, w6⟩
  · obtain ⟨t, q1, ⟨z, e⟩ | ⟨z, e⟩⟩ := frz_get q
    · cases t with
      | cup => exact h.cup i q1
      | obj o => cases o <;> cases e
      | _ => cases e
    · subst e; exact h.cup i q1
  · obtain ⟨t, q1, ⟨z, e⟩ | ⟨z, e⟩⟩ := frz_get q
    · cases t with
      | scr is' => cases e; exact h.scr i is q1
      | obj o => cases o <;> cases e
      | _ => cases e
    · subst e; exact h.scr i is q1
  · obtain ⟨t, q1, ⟨z, e⟩ | ⟨z, e⟩⟩ := frz_get q
    · cases t with
      | obj o2 => cases o2 with
        | rng _ _ => cases e; exact h.obj i _ q1
        | dic _ => cases e
      | _ => cases e
    · subst e; exact h.obj i o q1
/-- a slot takes another thing -/
theorem own_set {s : Slot} {y : Option V} {i j : Nat} {a : Addr} (hl : δ.length = σ.length) (h : ownAt (δ.set i s) (σ.set i y) j a) : (j = i ∧ isOw s = true ∧ y = some (.ref a)) ∨ (j ≠ i ∧ ownAt δ σ j a) := by
  obtain ⟨⟨d, e1, w⟩, e2⟩ := h
  rcases set_get e1 with ⟨rfl, e, h1⟩ | ⟨hj, e1⟩
  · rcases set_get e2 with ⟨_, e3, _⟩ | ⟨hj, _⟩
    · exact .inl ⟨rfl, e ▸ w, e3.symm⟩
    · exact absurd rfl hj
  · rcases set_get e2 with ⟨hj2, _⟩ | ⟨_, e2⟩
    · exact absurd hj2 hj
    · exact .inr ⟨hj, ⟨d, e1, w⟩, e2⟩
theorem set_old {i j : Nat} {y z : Option V} (hj : j ≠ i) (e : σ[j]? = some z) : (σ.set i y)[j]? = some z := by rw [List.getElem?_set_ne (fun z => hj z.symm)]; exact e
theorem SOk.put_val (h : SOk K B H δ σ) {i : Nat} {d : D} {v : V} (r : Rep K (OA B δ σ) H d v) : SOk K B H (δ.set i (.val d)) (σ.set i (some v)) := by
  have lt : ∀ b, OA B (δ.set i (.val d)) (σ.set i (some v)) b → OA B δ σ b := fun b z => z.imp id fun ⟨j, z⟩ => by
    rcases own_set h.len z with ⟨_, e, _⟩ | ⟨_, z⟩
    · cases e
    · exact ⟨j, z⟩
  have od : ∀ {j : Nat} {a : Addr}, ownAt (δ.set i (.val d)) (σ.set i (some v)) j a → ownAt δ σ j a := fun z => by
    rcases own_set h.len z with ⟨_, e, _⟩ | ⟨_, z⟩
    · cases e
    · exact z
  refine ⟨by rw [List.length_set, List.length_set, h.len], h.dom, h.aco, fun j e q => ?_, fun j e q => ?_, fun j k a x y => h.dist j k a (od x) (od y), fun j q => ?_, fun j is q => ?_, fun j o q => ?_, h.ext1, h.exb, fun b z => h.sub b (lt b z)⟩
  · rcases set_get q with ⟨rfl, e1, hl⟩ | ⟨hj, q⟩
    · cases e1
      exact ⟨v, List.getElem?_set_self (by rw [← h.len]; exact hl), r.anti lt⟩
    · obtain ⟨w, a, b⟩ := h.val j e q
      exact ⟨w, set_old hj a, b.anti lt⟩
  · rcases set_get q with ⟨rfl, e1, hl⟩ | ⟨hj, q⟩
    · cases e1
    · obtain ⟨ds, a, xs, w0, w1, w2, w3, w4, w5, w6⟩ := h.own j e q
      exact ⟨ds, a, xs, w0, set_old hj w1, w2, w3, w4, w5.anti lt, w6⟩
  · rcases set_get q with ⟨rfl, e1, hl⟩ | ⟨hj, q⟩
    · cases e1
    · obtain ⟨a, w1, w2⟩ := h.cup j q
      exact ⟨a, w1, set_old hj w2⟩
  · rcases set_get q with ⟨rfl, e1, hl⟩ | ⟨hj, q⟩
    · cases e1
    · obtain ⟨a, w1, w2⟩ := h.scr j is q
      exact ⟨a, set_old hj w1, w2⟩
  · rcases set_get q with ⟨rfl, e1, hl⟩ | ⟨hj, q⟩
    · cases e1
    · obtain ⟨a, w1, w2⟩ := h.obj j o q
      exact ⟨a, set_old hj w1, w2⟩
/-- a list that an expression has made goes to a slot -/
theorem SOk.put_own (h : SOk K B H δ σ) (e : Ext1 B.ac H H1) (c0 : CuOk B.ac H cu) {cu1 : Cu} (c : CuOk B.ac H1 cu1) {i : Nat} {ds : List D} {p : Addr} {xs : List V} (hp : H p = none) (h1 : H1 p = some (.lst xs)) (r : RepL K (fun b => OA B δ σ b ∨ b = p) H1 ds xs) (hz : ds.length ≤ sizeLine) :
    SOk K B H1 (δ.set i (.own (.list ds))) (σ.set i (some (.ref p))) := by
  have hs := h.step e c
  have nOA : ¬ OA B δ σ p := fun z => by
    obtain ⟨ys, q, _⟩ := h.oad p z
    rw [hp] at q; cases q
  have up : ∀ {d : D} {v : V}, Rep K (OA B δ σ) H d v → Rep K (fun b => OA B δ σ b ∨ b = p) H1 d v := fun {d v} q => by
    have mo : ∀ a, (OA B δ σ a ∨ a = p) → OA B δ σ a ∨ H a = none := fun a z => z.imp id fun y => by rw [y]; exact hp
    exact (q.more mo).extw (odw mo h.oad) (e.ext fun a z => .inl (.inl (h.aco a z)))
  have upL : ∀ {d : List D} {v : List V}, RepL K (OA B δ σ) H d v → RepL K (fun b => OA B δ σ b ∨ b = p) H1 d v := fun {d v} q => by
    have mo : ∀ a, (OA B δ σ a ∨ a = p) → OA B δ σ a ∨ H a = none := fun a z => z.imp id fun y => by rw [y]; exact hp
    exact (q.more mo).extw (odw mo h.oad) (e.ext fun a z => .inl (.inl (h.aco a z)))
  have lt : ∀ b, OA B (δ.set i (.own (.list ds))) (σ.set i (some (.ref p))) b → OA B δ σ b ∨ b = p := fun b z => by
    rcases z with z | ⟨j, z⟩
    · exact .inl (.inl z)
    · rcases own_set h.len z with ⟨_, _, e⟩ | ⟨_, z⟩
      · cases e; exact .inr rfl
      · exact .inl (.inr ⟨j, z⟩)
  refine ⟨by rw [List.length_set, List.length_set, h.len], hs.dom, h.aco, fun j x q => ?_, fun j x q => ?_, fun j k a x y => ?_, fun j q => ?_, fun j is q => ?_, fun j o q => ?_, hs.ext1, hs.exb, fun b z => ?_⟩
  · rcases set_get q with ⟨rfl, e1, hl⟩ | ⟨hj, q⟩
    · cases e1
    · obtain ⟨w, a, b⟩ := h.val j x q
      exact ⟨w, set_old hj a, (up b).anti lt⟩
  · rcases set_get q with ⟨rfl, e1, hl⟩ | ⟨hj, q⟩
    · cases e1
      exact ⟨ds, p, xs, rfl, List.getElem?_set_self (by rw [← h.len]; exact hl), h1, (h.ext1.there c0 hp), fun z => nOA (.inl z), r.anti lt, hz⟩
    · obtain ⟨ds', a, xs', w0, w1, w2, w3, w4, w5, w6⟩ := h.own j x q
      exact ⟨ds', a, xs', w0, set_old hj w1, e _ _ (h.na ⟨⟨_, q, rfl⟩, w1⟩) w2, w3, w4, (upL w5).anti lt, w6⟩
  · rcases own_set h.len x with ⟨ej, _, e1⟩ | ⟨hj, x'⟩
    · rcases own_set h.len y with ⟨ek, _, e2⟩ | ⟨hk, y'⟩
      · rw [ej, ek]
      · cases e1; exact absurd (.inr ⟨k, y'⟩) nOA
    · rcases own_set h.len y with ⟨ek, _, e2⟩ | ⟨hk, y'⟩
      · cases e2; exact absurd (.inr ⟨j, x'⟩) nOA
      · exact h.dist j k a x' y'
  · rcases set_get q with ⟨rfl, e1, hl⟩ | ⟨hj, q⟩
    · cases e1
    · obtain ⟨a, w1, w2⟩ := h.cup j q
      exact ⟨a, w1, set_old hj w2⟩
  · rcases set_get q with ⟨rfl, e1, hl⟩ | ⟨hj, q⟩
    · cases e1
    · obtain ⟨a, w1, w2⟩ := h.scr j is q
      exact ⟨a, set_old hj w1, w2⟩
  · rcases set_get q with ⟨rfl, e1, hl⟩ | ⟨hj, q⟩
    · cases e1
    · obtain ⟨a, w1, w2⟩ := hs.obj j o q
      exact ⟨a, set_old hj w1, w2⟩
  · rcases lt b z with z | z
    · exact h.sub b z
    · subst z
      by_cases hb : B.Ob b
      · exact .inl hb
      · refine .inr ?_
        cases q : B.Hb b with
        | none => rfl
        | some x => rw [h.exb b x hb q] at hp; cases hp
/-- a range, or a dict, goes to a slot -/
theorem SOk.put_obj (h : SOk K B H δ σ) (e : Ext1 B.ac H H1) (c0 : CuOk B.ac H cu) {cu1 : Cu} (c : CuOk B.ac H1 cu1) {i : Nat} {o : Ob} {p : Addr} (hp : H p = none) (h1 : ObR H1 o p) :
    SOk K B H1 (δ.set i (.obj o)) (σ.set i (some (.ref p))) := by
  have hs := h.step e c
  have nOA : ¬ OA B δ σ p := fun z => by
    obtain ⟨ys, q, _⟩ := h.oad p z
    rw [hp] at q; cases q
  have nac : some p ≠ B.ac := fun z => nOA (.inl (h.aco p z.symm))
  have mo : ∀ a, (OA B δ σ a ∨ a = p) → OA B δ σ a ∨ H a = none := fun a z => z.imp id fun y => by rw [y]; exact hp
  have up : ∀ {d : D} {v : V}, Rep K (OA B δ σ) H d v → Rep K (fun b => OA B δ σ b ∨ b = p) H1 d v := fun {d v} q => (q.more mo).extw (odw mo h.oad) (e.ext fun a z => .inl (.inl (h.aco a z)))
  have upL : ∀ {d : List D} {v : List V}, RepL K (OA B δ σ) H d v → RepL K (fun b => OA B δ σ b ∨ b = p) H1 d v := fun {d v} q => (q.more mo).extw (odw mo h.oad) (e.ext fun a z => .inl (.inl (h.aco a z)))
  have lt : ∀ b, OA B (δ.set i (.obj o)) (σ.set i (some (.ref p))) b → OA B δ σ b ∨ b = p := fun b z => by
    rcases z with z | ⟨j, z⟩
    · exact .inl (.inl z)
    · rcases own_set h.len z with ⟨_, _, e⟩ | ⟨_, z⟩
      · cases e; exact .inr rfl
      · exact .inl (.inr ⟨j, z⟩)
  refine ⟨by rw [List.length_set, List.length_set, h.len], hs.dom, h.aco, fun j x q => ?_, fun j x q => ?_, fun j k a x y => ?_, fun j q => ?_, fun j is q => ?_, fun j o2 q => ?_, hs.ext1, hs.exb, fun b z => ?_⟩
  · rcases set_get q with ⟨rfl, e1, hl⟩ | ⟨hj, q⟩
    · cases e1
    · obtain ⟨w, a, b⟩ := h.val j x q
      exact ⟨w, set_old hj a, (up b).anti lt⟩
  · rcases set_get q with ⟨rfl, e1, hl⟩ | ⟨hj, q⟩
    · cases e1
    · obtain ⟨ds', a, xs', w0, w1, w2, w3, w4, w5, w6⟩ := h.own j x q
      exact ⟨ds', a, xs', w0, set_old hj w1, e _ _ (h.na ⟨⟨_, q, rfl⟩, w1⟩) w2, w3, w4, (upL w5).anti lt, w6⟩
  · rcases own_set h.len x with ⟨ej, _, e1⟩ | ⟨hj, x'⟩
    · rcases own_set h.len y with ⟨ek, _, e2⟩ | ⟨hk, y'⟩
      · rw [ej, ek]
      · cases e1; exact absurd (.inr ⟨k, y'⟩) nOA
    · rcases own_set h.len y with ⟨ek, _, e2⟩ | ⟨hk, y'⟩
      · cases e2; exact absurd (.inr ⟨j, x'⟩) nOA
      · exact h.dist j k a x' y'
  · rcases set_get q with ⟨rfl, e1, hl⟩ | ⟨hj, q⟩
    · cases e1
    · obtain ⟨a, w1, w2⟩ := h.cup j q
      exact ⟨a, w1, set_old hj w2⟩
  · rcases set_get q with ⟨rfl, e1, hl⟩ | ⟨hj, q⟩
    · cases e1
    · obtain ⟨a, w1, w2⟩ := h.scr j is q
      exact ⟨a, set_old hj w1, w2⟩
  · rcases set_get q with ⟨rfl, e1, hl⟩ | ⟨hj, q⟩
    · cases e1
      exact ⟨p, List.getElem?_set_self (by rw [← h.len]; exact hl), nac, h1, fun _ => ⟨h.ext1.there c0 hp, fun z => nOA (.inl z)⟩⟩
    · obtain ⟨a, w1, w2⟩ := hs.obj j o2 q
      exact ⟨a, set_old hj w1, w2⟩
  · rcases lt b z with z | z
    · exact h.sub b z
    · subst z
      by_cases hb : B.Ob b
      · exact .inl hb
      · refine .inr ?_
        cases q : B.Hb b with
        | none => rfl
        | some x => rw [h.exb b x hb q] at hp; cases hp
end
end OR

/-! statements -/
namespace OR
open PySem PySem.Spec PyProof.Rows L2 TL

structure Bq where
  He : Hp
  Hb : Hp
  O0 : Addr → Prop
  Ob : Addr → Prop
def Bq.bs (q : Bq) (ac : Option Addr) : Bs := ⟨q.He, q.O0, ac, q.Hb, q.Ob⟩
def postS (K : PySem.W.Frag) (P : Pm) (q : Bq) (Dn : Ends) : Out → Cu → Prop
  | .nx δ', cu' => ∀ σ' H', SOk K (q.bs P.ac) H' δ' σ' → CuOk P.ac H' cu' → Dn.nx σ' H'
  | .bk δ', cu' => ∀ σ' H', SOk K (q.bs P.ac) H' δ' σ' → CuOk P.ac H' cu' → Dn.bk σ' H'
  | .ct δ', cu' => ∀ σ' H', SOk K (q.bs P.ac) H' δ' σ' → CuOk P.ac H' cu' → Dn.ct σ' H'
  | .rt d, cu' => ∀ v H', Ext1 P.ac q.He H' → CuOk P.ac H' cu' → Rep K q.O0 H' d v → Dn.rt v H'
def excS (P : Pm) (q : Bq) : Nat → Cu → Prop := fun x cu' => ∀ σ' H', Ext1 P.ac q.He H' → CuOk P.ac H' cu' → P.W (P.cls x) none σ' H'
def rdS (K : PySem.W.Frag) (P : Pm) (m : Env → M Out) : TS := fun Dn σ H => ∃ (q : Bq) (δ : Env) (cu : Cu), SOk K (q.bs P.ac) H δ σ ∧ CuOk P.ac H cu ∧ wpM (m δ cu) (postS K P q Dn) (excS P q)
section
variable {K : PySem.W.Frag} {P : Pm} {q : Bq} {H H1 : Hp} {δ δ' : Env} {σ σ' : L2.St} {L : List Nat} {cu cu1 : Cu}
theorem rdS_E {tp fr : Bool} {me : Env → M D} {kont : D → M Out} {P1 : Out → Cu → Prop} {R : VK} (hS : SOk K (q.bs P.ac) H δ σ) (hc : CuOk P.ac H cu) (hw : wpM (bnd (me δ) kont cu) P1 (excS P q))
    (hk : ∀ d cu1 v H1, Ext1 P.ac H H1 → CuOk P.ac H1 cu1 → Res tp fr K (OL (q.bs P.ac) L δ σ) P.ac H H1 d v → wpM (kont d cu1) P1 (excS P q) → R v H1) : rdE K P tp fr L me σ H R :=
  rd_bind (hS.eok L) hc (fun _ h => h) hw hk fun x cu1 h H' e c => h σ H' (hS.ext1.trans e) c
theorem rdS_B {mt : Env → M Bool} {kont : Bool → M Out} {P1 : Out → Cu → Prop} {R : Bool → Hp → Prop} (hS : SOk K (q.bs P.ac) H δ σ) (hc : CuOk P.ac H cu) (hw : wpM (bnd (mt δ) kont cu) P1 (excS P q))
    (hk : ∀ b cu1 H1, Ext1 P.ac H H1 → CuOk P.ac H1 cu1 → wpM (kont b cu1) P1 (excS P q) → R b H1) : rdB K P L mt σ H R :=
  rdB_bind (hS.eok L) hc (fun _ h => h) hw hk fun x cu1 h H' e c => h σ H' (hS.ext1.trans e) c
theorem oa_val {B : Bs} {i : Nat} {d : D} {y : Option V} (hl : δ.length = σ.length) {b : Addr} (z : OA B (δ.set i (.val d)) (σ.set i y) b) : OA B δ σ b := z.imp id fun ⟨j, z⟩ => by
  rcases own_set hl z with ⟨_, e, _⟩ | ⟨_, z⟩
  · cases e
  · exact ⟨j, z⟩
theorem oa_frz_imm {B : Bs} {d : D} (hi : ¬ imm d = true) {b : Addr} (z : OA B (frz (if imm d = true then [] else L) δ) σ b) : OL B L δ σ b := by
  rw [if_neg hi] at z; exact z.frz
/-- a value goes to a slot -/
theorem SOk.put {fr : Bool} {B : Bs} {d : D} {v : V} {i : Nat} (h : SOk K B H δ σ) (c0 : CuOk B.ac H cu) (e : Ext1 B.ac H H1) (c : CuOk B.ac H1 cu1) (r : Res false fr K (OL B L δ σ) B.ac H H1 d v) : SOk K B H1 (putG i L fr d δ) (σ.set i (some v)) := by
  unfold putG
  cases hm : fr && isMut d with
  | true =>
    obtain ⟨h1, h2⟩ := and_t hm
    obtain ⟨p, ds, xs, rfl, rfl, hp, hp1, rl⟩ := r.2 h1 h2
    have hz : ds.length ≤ sizeLine := r.r.1
    exact (h.frz L).put_own e c0 c hp hp1 (rl.anti fun a z => z.imp (fun y => y.frz) id) hz
  | false =>
    refine SOk.put_val ((h.frz _).step e c) ?_
    by_cases hi : imm d = true
    · exact Rep.imm hi r.r
    · exact r.r.anti fun a z => oa_frz_imm hi z
theorem SOk.rebase {q' : Bq} {ac : Option Addr} (h : SOk K (q.bs ac) H δ σ) (e1 : q'.He = q.He) (e2 : q'.O0 = q.O0) (e3 : q'.Hb = H) (e4 : ∀ b, OA (q.bs ac) δ σ b → q'.Ob b) : SOk K (q'.bs ac) H δ σ := by
  obtain ⟨He, Hb, O0, Ob⟩ := q'
  have e1 : He = q.He := e1
  have e2 : O0 = q.O0 := e2
  have e3 : Hb = H := e3
  subst e1; subst e2; subst e3
  exact ⟨h.len, h.dom, h.aco, h.val, h.own, h.dist, h.cup, h.scr, h.obj, h.ext1, fun b x _ z => z, fun b z => .inl (e4 b z)⟩
theorem SOk.unbase {q' : Bq} {ac : Option Addr} {O : Addr → Prop} {H2 : Hp} (h : SOk K (q'.bs ac) H2 δ' σ') (e1 : q'.He = q.He) (e2 : q'.O0 = q.O0) (e3 : q'.Hb = H) (e4 : q'.Ob = O) (ex : Ext q.Ob q.Hb H) (hs : ∀ b, O b → q.Ob b ∨ q.Hb b = none) : SOk K (q.bs ac) H2 δ' σ' := by
  obtain ⟨He, Hb, O0, Ob⟩ := q'
  have e1 : He = q.He := e1
  have e2 : O0 = q.O0 := e2
  have e3 : Hb = H := e3
  have e4 : Ob = O := e4
  subst e1; subst e2; subst e3; subst e4
  refine ⟨h.len, h.dom, h.aco, h.val, h.own, h.dist, h.cup, h.scr, h.obj, h.ext1, fun b x nb z => ?_, fun b z => ?_⟩
  · refine h.exb b x (fun y => ?_) (ex b x nb z)
    rcases hs b y with w | w
    · exact nb w
    · rw [show q.Hb b = some x from z] at w; cases w
  · rcases h.sub b z with y | y
    · exact hs b y
    · by_cases hb : q.Ob b
      · exact .inl hb
      · refine .inr ?_
        show q.Hb b = none
        cases w : q.Hb b with
        | none => rfl
        | some x =>
          have w2 : Hb b = some x := ex b x hb w
          have y : Hb b = none := y
          exact absurd (w2.symm.trans y) (by simp)
end
section
variable {X : Cx} {P : Pm} {st : Stmt} {rest body : List Stmt} {m m' mb : Env → M Out} {me : Env → M D} {mt : Env → M Bool} {mi : Env → M (List D)} {e : Expr} {te : TE} {fr tp : Bool} {L : List Nat} {i : Nat} {pos : Pos}
theorem PS.eqm (e : m = m') (h : PS X st (rdS X.K P m)) : PS X st (rdS X.K P m') := e ▸ h
theorem snd_snil : PSs X [] (rdS X.K P fun σ => ret (.nx σ)) := PSs.weak pss_nil fun Dn σ H ⟨q, δ, cu, hS, hc, hw⟩ => hw σ H hS hc
theorem snd_scons (h1 : PS X st (rdS X.K P m)) (h2 : PSs X rest (rdS X.K P m')) : PSs X (st :: rest) (rdS X.K P fun σ => bnd (m σ) fun o => match o with
    | .nx σ' => m' σ'
    | o => ret o) := by
  refine PSs.weak (pss_cons h1 h2) ?_
  intro Dn σ H ⟨q, δ, cu, hS, hc, hw⟩
  refine ⟨q, δ, cu, hS, hc, wpM_mono (wpM_bnd hw) (fun o cu1 h => ?_) fun _ _ h => h⟩
  cases o with
  | nx δ' => exact fun σ' H' hS' hc' => ⟨q, δ', cu1, hS', hc', h⟩
  | rt d => exact h
  | bk δ' => exact h
  | ct δ' => exact h
theorem snd_asg (h : PS X st (tAsg te (gName i))) (w : ∀ σ H Q, rdE X.K P false fr L me σ H Q → te σ H Q) : PS X st (rdS X.K P fun σ => bnd (me σ) fun d => ret (.nx (putG i L fr d σ))) := by
  refine PS.weak h ?_
  intro Dn σ H ⟨q, δ, cu, hS, hc, hw⟩
  exact w _ _ _ (rdS_E hS hc hw fun d cu1 v H1 e1 c1 r1 hw1 => hw1 _ _ (hS.put hc e1 c1 r1) c1)
theorem snd_asgT {t : CE} {g : TG} (hg : g = gT X.K t) (h : PS X st (tAsg te g)) (w : ∀ σ H Q, rdE X.K P false fr L me σ H Q → te σ H Q) :
    PS X st (rdS X.K P fun σ => bnd (me σ) fun d => bnd (lft (bindT t d (frz (if imm d then [] else L) σ))) fun σ' => ret (.nx σ')) := by
  subst hg
  refine PS.weak h ?_
  intro Dn σ H ⟨q, δ, cu, hS, hc, hw⟩
  refine w _ _ _ (rdS_E hS hc hw fun d cu1 v H1 e1 c1 r1 hw1 => ?_)
  obtain ⟨δ', eb, hw2⟩ := wpM_lft (wpM_bnd hw1)
  have hf := (hS.frz (if imm d then [] else L)).step e1 c1
  have rr : Rep X.K (OA (q.bs P.ac) (frz (if imm d then [] else L) δ) σ) H1 d v := by
    by_cases hi : imm d = true
    · exact Rep.imm hi r1.r
    · exact r1.r.anti fun a z => oa_frz_imm hi z
  refine gT_gen (I := fun δ2 σ2 => SOk X.K (q.bs P.ac) H1 δ2 σ2 ∧ ∀ b, OA (q.bs P.ac) δ2 σ2 b → OA (q.bs P.ac) (frz (if imm d then [] else L) δ) σ b)
    (fun {δ2 σ2 j d2 v2} ⟨h1, h2⟩ r => ⟨h1.put_val (r.anti h2), fun b z => h2 b (oa_val h1.len z)⟩) ⟨hf, fun b z => z⟩ eb rr fun σ' ⟨h1, h2⟩ _ => hw2 _ _ h1 c1
theorem snd_expr (h : PS X st (tDrop te)) (w : ∀ σ H Q, rdE X.K P tp fr L me σ H Q → te σ H Q) : PS X st (rdS X.K P fun σ => bnd (me σ) fun _ => ret (.nx σ)) := by
  refine PS.weak h ?_
  intro Dn σ H ⟨q, δ, cu, hS, hc, hw⟩
  exact w _ _ _ (rdS_E hS hc hw fun d cu1 v H1 e1 c1 r1 hw1 => hw1 _ _ (hS.step e1 c1) c1)
theorem snd_ret (ha : PE X e (rdE X.K P false fr L me)) : PS X (.Return (some e) pos) (rdS X.K P fun σ => bnd (me σ) fun d => ret (.rt d)) := by
  refine PS.weak (ps_ret ha) ?_
  intro Dn σ H ⟨q, δ, cu, hS, hc, hw⟩
  exact rdS_E hS hc hw fun d cu1 v H1 e1 c1 r1 hw1 => hw1 _ _ (hS.ext1.trans e1) c1 (r1.r.anti fun a z => .inl z)
theorem snd_retN : PS X (.Return none pos) (rdS X.K P fun _ => ret (.rt .none)) :=
  PS.weak ps_retN fun Dn σ H ⟨q, δ, cu, hS, hc, hw⟩ => hw _ _ hS.ext1 hc rfl
theorem snd_pass : PS X (.Pass pos) (rdS X.K P fun σ => ret (.nx σ)) := PS.weak ps_pass fun Dn σ H ⟨q, δ, cu, hS, hc, hw⟩ => hw _ _ hS hc
theorem snd_brk : PS X (.Break pos) (rdS X.K P fun σ => ret (.bk σ)) := PS.weak ps_break fun Dn σ H ⟨q, δ, cu, hS, hc, hw⟩ => hw _ _ hS hc
theorem snd_cnt : PS X (.Continue pos) (rdS X.K P fun σ => ret (.ct σ)) := PS.weak ps_continue fun Dn σ H ⟨q, δ, cu, hS, hc, hw⟩ => hw _ _ hS hc
theorem snd_if {a b : List Stmt} (hc : PT X e (rdB X.K P L mt)) (ha : PSs X a (rdS X.K P m)) (hb : PSs X b (rdS X.K P m')) : PS X (.If e a b pos) (rdS X.K P fun σ => bnd (mt σ) fun k => if k then m σ else m' σ) := by
  refine PS.weak (ps_if hc ha hb) ?_
  intro Dn σ H ⟨q, δ, cu, hS, hcu, hw⟩
  refine rdS_B hS hcu hw fun k cu1 H1 e1 c1 hw1 => ?_
  cases k with
  | true => exact ⟨q, δ, cu1, hS.step e1 c1, c1, hw1⟩
  | false => exact ⟨q, δ, cu1, hS.step e1 c1, c1, hw1⟩
theorem snd_while (hp : PassesOwn (model X.prog X.w) X.A X.env X.xe) (hc : PT X e (rdB X.K P L mt)) (hb : PSs X body (rdS X.K P mb)) (n : Nat) : PS X (.While e body [] pos) (rdS X.K P fun σ => whlM mt mb n σ) := by
  refine PS.weak (ps_while hp hc hb) ?_
  intro Dn σ H ⟨q, δ, cu, hS, hcu, hw⟩
  refine ⟨fun j σ H => ∃ δ cu, SOk X.K (q.bs P.ac) H δ σ ∧ CuOk P.ac H cu ∧ wpM (whlM mt mb j δ cu) (postS X.K P q Dn) (excS P q), ⟨n, δ, cu, hS, hcu, hw⟩, ?_⟩
  rintro j σ H ⟨δ, cu, hS, hcu, hw⟩
  cases j with
  | zero => exact hw.elim
  | succ j =>
    refine rdS_B hS hcu hw fun k cu1 H1 e1 c1 hw1 => ?_
    cases k with
    | false => exact hw1 _ _ (hS.step e1 c1) c1
    | true =>
      refine ⟨fun σ' H' => ∃ δ cu, SOk X.K (q.bs P.ac) H' δ σ' ∧ CuOk P.ac H' cu ∧ wpM (whlM mt mb j δ cu) (postS X.K P q Dn) (excS P q), fun σ' H' h => ⟨j, Nat.lt_succ_self j, h⟩, q, δ, cu1, hS.step e1 c1, c1, ?_⟩
      refine wpM_mono (wpM_bnd hw1) (fun o cu2 h => ?_) fun _ _ h => h
      cases o with
      | nx δ' => exact fun σ' H' hS' hc' => ⟨δ', cu2, hS', hc', h⟩
      | ct δ' => exact fun σ' H' hS' hc' => ⟨δ', cu2, hS', hc', h⟩
      | bk δ' => exact h
      | rt d => exact h
theorem snd_for {t : CE} {tg iter : Expr} (hp : PassesOwn (model X.prog X.w) X.A X.env X.xe) (hcm : X.calm = true) (hi : PI X tg iter (rdI X.K P false L mi)) (hg : PG X tg (gT X.K t)) (hb : PSs X body (rdS X.K P mb)) (hs : ∀ x, foldedSetIterable iter X.env x = pure x) :
    PS X (.For tg iter body [] pos) (rdS X.K P fun σ => bnd (mi σ) fun items => forM (fun d σ => bnd (lft (bindT t d σ)) fun σ' => mb σ') items (frz L σ)) := by
  refine PS.weak (ps_for hp hcm hi hg hb hs) ?_
  intro Dn σ H ⟨q, δ, cu, hS, hcu, hw⟩
  refine ⟨OL (q.bs P.ac) L δ σ, δ, cu, hS.eok L, hcu, wpM_mono (wpM_bnd hw) (fun items cu1 hw1 J H1 e1 c1 hz wk => ?_) fun x cu1 h H' e c => h σ H' (hS.ext1.trans e) c⟩
  have hS1 := hS.step e1 c1
  have hSf := hS1.frz L
  have WK := wk (fun b => OL (q.bs P.ac) L δ σ b ∨ H1 b = none) (OL (q.bs P.ac) L δ σ) (fun b h => .inl h) (fun b h => h) (fun b h => .inl h)
  obtain ⟨q', hq'⟩ : ∃ q' : Bq, q' = ⟨q.He, H1, q.O0, OL (q.bs P.ac) L δ σ⟩ := ⟨_, rfl⟩
  have f1 : q'.He = q.He := by rw [hq']
  have f2 : q'.O0 = q.O0 := by rw [hq']
  have f3 : q'.Hb = H1 := by rw [hq']
  have f4 : q'.Ob = OL (q.bs P.ac) L δ σ := by rw [hq']
  have un : ∀ {δ' : Env} {σ' : L2.St} {H' : Hp}, SOk X.K (q'.bs P.ac) H' δ' σ' → SOk X.K (q.bs P.ac) H' δ' σ' := fun h => h.unbase f1 f2 f3 f4 hS1.exb fun b z => hS.sub b z.oa
  refine ⟨fun i k σ' H' => k = items.length - i ∧ i ≤ items.length ∧ ∃ δ' cu', SOk X.K (q'.bs P.ac) H' δ' σ' ∧ CuOk P.ac H' cu' ∧
      wpM (forM (fun d σ => bnd (lft (bindT t d σ)) fun σ' => mb σ') (items.drop i) δ' cu') (postS X.K P q Dn) (excS P q),
    ⟨items.length, by simp, Nat.zero_le _, frz L δ, cu1, hSf.rebase f1 f2 f3 (fun b z => by rw [f4]; exact z.frz), c1, by rw [List.drop_zero]; exact hw1⟩, ?_⟩
  rintro i k σ' H' ⟨rfl, hi2, δ', cu', hS', hc', hw'⟩
  have exO : Ext (OL (q.bs P.ac) L δ σ) H1 H' := by
    have z : Ext q'.Ob q'.Hb H' := hS'.exb
    rw [f3, f4] at z; exact z
  have wki := WK i H' exO
  by_cases hlt : i < items.length
  · refine .inr ⟨(wki.1 hlt).1, fun σ2 H2 => ∃ δ' cu', SOk X.K (q'.bs P.ac) H2 δ' σ2 ∧ CuOk P.ac H2 cu' ∧
      wpM (forM (fun d σ => bnd (lft (bindT t d σ)) fun σ' => mb σ') (items.drop (i + 1)) δ' cu') (postS X.K P q Dn) (excS P q), fun σ2 H2 h => ⟨items.length - (i + 1), by omega, rfl, hlt, h⟩, fun x H'' hy => ?_⟩
    obtain ⟨e3, d, ed, rd⟩ := (wki.1 hlt).2 x H'' hy
    have ed' : items[i] = d := by rw [List.getElem?_eq_getElem hlt] at ed; exact Option.some.inj ed
    rw [List.drop_eq_getElem_cons hlt, ed'] at hw'
    have c3 := hc'.e0 e3
    have hS3 := hS'.step (cu := cu') e3.e1 c3
    have hw4 := wpM_bnd (show wpM (bnd (bnd (lft (bindT t d δ')) fun σ' => mb σ') _ cu') _ _ from hw')
    obtain ⟨δ2, eb, hw5⟩ := wpM_lft (wpM_bnd hw4)
    have so : ∀ b, OA (q'.bs P.ac) δ' σ' b → (fun b => OL (q.bs P.ac) L δ σ b ∨ H1 b = none) b := fun b z => by
      have y : q'.Ob b ∨ q'.Hb b = none := hS'.sub b z
      rw [f3, f4] at y; exact y
    refine gT_gen (I := fun δ2 σ2 => SOk X.K (q'.bs P.ac) H'' δ2 σ2 ∧ ∀ b, OA (q'.bs P.ac) δ2 σ2 b → (fun b => OL (q.bs P.ac) L δ σ b ∨ H1 b = none) b)
      (fun {δ2 σ2 j d2 v2} ⟨h1, h2⟩ r => ⟨h1.put_val (r.anti h2), fun b z => h2 b (oa_val h1.len z)⟩) ⟨hS3, so⟩ eb rd fun σ2 ⟨h1, h2⟩ _ => ⟨q', δ2, cu', h1, c3, ?_⟩
    refine wpM_mono hw5 (fun o cu2 h => ?_) fun x cu2 h σ'' H4 e4 c4 => h σ'' H4 (by rw [← f1]; exact e4) c4
    cases o with
    | nx δ3 => exact fun σ3 H3 hS3 hc3 => ⟨δ3, cu2, hS3, hc3, h⟩
    | ct δ3 => exact fun σ3 H3 hS3 hc3 => ⟨δ3, cu2, hS3, hc3, h⟩
    | bk δ3 => exact fun σ3 H3 hS3 hc3 => h σ3 H3 (un hS3) hc3
    | rt v => exact fun u H3 e3 c3 r => h u H3 (by rw [← f1]; exact e3) c3 (by rw [← f2]; exact r)
  · have e : i = items.length := by omega
    subst e
    rw [List.drop_length] at hw'
    exact .inl ⟨wki.2 (Nat.le_refl _), hw' σ' H' (un hS') hc'⟩
theorem snd_raise {x : Nat} (hcm : X.calm = true) (tk : Takes X P.W) (he : PMk X e fun _ H Q => Q (P.cls x) none H) : PS X (.Raise (some e) none pos) (rdS X.K P fun _ => rse x) := by
  refine PS.weak (ps_raise hcm tk he) ?_
  intro Dn σ H ⟨q, δ, cu, hS, hcu, hw⟩
  exact hw σ H hS.ext1 hcu
end
end OR

/-! more statements; the check of statements -/
namespace OR
open PySem PySem.Spec PyProof.Rows L2 TL
section
variable {K : PySem.W.Frag} {P : Pm} {q : Bq} {H H1 : Hp} {δ δ' : Env} {σ σ' : L2.St} {L : List Nat} {cu cu1 : Cu} {B : Bs}
/-- a list of one's own grows -/
theorem SOk.grow (h : SOk K B H δ σ) {i : Nat} {ds ds' : List D} {a : Addr} {xs' : List V} (e1 : δ[i]? = some (.own (.list ds))) (e2 : σ[i]? = some (some (.ref a))) (r : RepL K (OA B δ σ) H ds' xs') (hz : ds'.length ≤ sizeLine) :
    SOk K B (upd H a (.lst xs')) (δ.set i (.own (.list ds'))) σ := by
  have oa : OA B δ σ a := .inr ⟨i, ⟨_, e1, rfl⟩, e2⟩
  have ex : Ext (OA B δ σ) H (upd H a (.lst xs')) := fun b x nb z => by rw [upd_ne (fun y => nb (by rw [y]; exact oa))]; exact z
  have nac : some a ≠ B.ac := h.na ⟨⟨_, e1, rfl⟩, e2⟩
  obtain ⟨ds0, a0, xs0, w0, w1, w2, w3, w4, w5, w6⟩ := h.own i _ e1
  rw [e2] at w1; cases w1
  have il : i < δ.length := (List.getElem?_eq_some_iff.mp e1).1
  have ow : ∀ {j : Nat} {b : Addr}, ownAt (δ.set i (.own (.list ds'))) σ j b → ownAt δ σ j b := fun {j b} ⟨⟨d, q1, w⟩, q2⟩ => by
    rcases set_get q1 with ⟨rfl, _, _⟩ | ⟨_, q1⟩
    · exact ⟨⟨_, e1, rfl⟩, q2⟩
    · exact ⟨⟨d, q1, w⟩, q2⟩
  have lt : ∀ b, OA B (δ.set i (.own (.list ds'))) σ b → OA B δ σ b := fun b z => z.imp id fun ⟨j, z⟩ => ⟨j, ow z⟩
  refine ⟨by rw [List.length_set]; exact h.len, fun b hb => ?_, h.aco, fun j d z => ?_, fun j d z => ?_, fun j k b x y => h.dist j k b (ow x) (ow y), fun j z => ?_, fun j is z => ?_, fun j o z => ?_, fun b x nb z => ?_, fun b x nb z => ?_, fun b z => h.sub b (lt b z)⟩
  · obtain ⟨ys, z, m⟩ := h.dom b hb
    by_cases hba : b = a
    · exact absurd (hba ▸ hb) w4
    · exact ⟨ys, by rw [upd_ne hba]; exact z, m⟩
  · rcases set_get z with ⟨rfl, z1, _⟩ | ⟨hj, z⟩
    · cases z1
    · obtain ⟨v, y1, y2⟩ := h.val j d z
      exact ⟨v, y1, (y2.ext h.oad ex).anti lt⟩
  · rcases set_get z with ⟨rfl, z1, _⟩ | ⟨hj, z⟩
    · cases z1
      exact ⟨ds', a, xs', rfl, e2, upd_same, w3, w4, (r.ext h.oad ex).anti lt, hz⟩
    · obtain ⟨ds1, b, xs1, y0, y1, y2, y3, y4, y5, y6⟩ := h.own j d z
      have nb : b ≠ a := fun y => hj (h.dist j i a ⟨⟨_, z, rfl⟩, y ▸ y1⟩ ⟨⟨_, e1, rfl⟩, e2⟩)
      exact ⟨ds1, b, xs1, y0, y1, by rw [upd_ne nb]; exact y2, y3, y4, (y5.ext h.oad ex).anti lt, y6⟩
  · rcases set_get z with ⟨rfl, z1, _⟩ | ⟨hj, z⟩
    · cases z1
    · exact h.cup j z
  · rcases set_get z with ⟨rfl, z1, _⟩ | ⟨hj, z⟩
    · cases z1
    · exact h.scr j is z
  · rcases set_get z with ⟨rfl, z1, _⟩ | ⟨hj, z⟩
    · cases z1
    · obtain ⟨b, y1, y2, y3, y4⟩ := h.obj j o z
      refine ⟨b, y1, y2, y3.e fun x q => ?_, y4⟩
      have nb : b ≠ a := fun y => by
        subst y
        cases o with
        | rng lo hi =>
          have y3 : H b = some (.rng lo hi) := y3
          rw [w2] at y3; cases y3
        | dic _ => exact hj (h.dist j i b ⟨⟨_, z, rfl⟩, y1⟩ ⟨⟨_, e1, rfl⟩, e2⟩)
      rw [upd_ne nb]; exact q
  · by_cases hba : b = a
    · subst hba
      rw [w3] at z; cases z
    · rw [upd_ne hba]; exact h.ext1 b x nb z
  · by_cases hba : b = a
    · subst hba
      rcases h.sub b oa with y | y
      · exact absurd y nb
      · rw [y] at z; cases z
    · rw [upd_ne hba]; exact h.exb b x nb z
/-- a dict takes a thing -/
theorem SOk.dput (h : SOk K B H δ σ) {i : Nat} {kvs kvs' : List (Sum Int Str × D)} {a : Addr} {vs : List (Sum Int Str × V)} (e1 : δ[i]? = some (.obj (.dic kvs))) (e2 : σ[i]? = some (some (.ref a))) (r : ObR (upd H a (.dK vs)) (.dic kvs') a) :
    SOk K B (upd H a (.dK vs)) (δ.set i (.obj (.dic kvs'))) σ := by
  have oa : OA B δ σ a := .inr ⟨i, ⟨_, e1, rfl⟩, e2⟩
  have ex : Ext (OA B δ σ) H (upd H a (.dK vs)) := fun b x nb z => by rw [upd_ne (fun y => nb (by rw [y]; exact oa))]; exact z
  obtain ⟨a0, w1, nac, w2, w3⟩ := h.obj i _ e1
  rw [e2] at w1; cases w1
  obtain ⟨w3, w4⟩ := w3 rfl
  have il : i < δ.length := (List.getElem?_eq_some_iff.mp e1).1
  have ow : ∀ {j : Nat} {b : Addr}, ownAt (δ.set i (.obj (.dic kvs'))) σ j b → ownAt δ σ j b := fun {j b} ⟨⟨d, q1, w⟩, q2⟩ => by
    rcases set_get q1 with ⟨rfl, _, _⟩ | ⟨_, q1⟩
    · exact ⟨⟨_, e1, rfl⟩, q2⟩
    · exact ⟨⟨d, q1, w⟩, q2⟩
  have lt : ∀ b, OA B (δ.set i (.obj (.dic kvs'))) σ b → OA B δ σ b := fun b z => z.imp id fun ⟨j, z⟩ => ⟨j, ow z⟩
  refine ⟨by rw [List.length_set]; exact h.len, fun b hb => ?_, h.aco, fun j d z => ?_, fun j d z => ?_, fun j k b x y => h.dist j k b (ow x) (ow y), fun j z => ?_, fun j is z => ?_, fun j o z => ?_, fun b x nb z => ?_, fun b x nb z => ?_, fun b z => h.sub b (lt b z)⟩
  · obtain ⟨ys, z, m⟩ := h.dom b hb
    by_cases hba : b = a
    · exact absurd (hba ▸ hb) w4
    · exact ⟨ys, by rw [upd_ne hba]; exact z, m⟩
  · rcases set_get z with ⟨rfl, z1, _⟩ | ⟨hj, z⟩
    · cases z1
    · obtain ⟨v, y1, y2⟩ := h.val j d z
      exact ⟨v, y1, (y2.ext h.oad ex).anti lt⟩
  · rcases set_get z with ⟨rfl, z1, _⟩ | ⟨hj, z⟩
    · cases z1
    · obtain ⟨ds1, b, xs1, y0, y1, y2, y3, y4, y5, y6⟩ := h.own j d z
      have nb : b ≠ a := fun y => hj (h.dist j i a ⟨⟨_, z, rfl⟩, y ▸ y1⟩ ⟨⟨_, e1, rfl⟩, e2⟩)
      exact ⟨ds1, b, xs1, y0, y1, by rw [upd_ne nb]; exact y2, y3, y4, (y5.ext h.oad ex).anti lt, y6⟩
  · rcases set_get z with ⟨rfl, z1, _⟩ | ⟨hj, z⟩
    · cases z1
    · exact h.cup j z
  · rcases set_get z with ⟨rfl, z1, _⟩ | ⟨hj, z⟩
    · cases z1
    · exact h.scr j is z
  · rcases set_get z with ⟨rfl, z1, _⟩ | ⟨hj, z⟩
    · cases z1
      exact ⟨a, e2, nac, r, fun _ => ⟨w3, w4⟩⟩
    · obtain ⟨b, y1, y2, y3, y4⟩ := h.obj j o z
      refine ⟨b, y1, y2, y3.e fun x q => ?_, y4⟩
      have nb : b ≠ a := fun y => by
        subst y
        cases o with
        | rng lo hi =>
          have y3 : H b = some (.rng lo hi) := y3
          rw [w2.2.2] at y3; cases y3
        | dic _ => exact hj (h.dist j i b ⟨⟨_, z, rfl⟩, y1⟩ ⟨⟨_, e1, rfl⟩, e2⟩)
      rw [upd_ne nb]; exact q
  · by_cases hba : b = a
    · subst hba
      rw [w3] at z; cases z
    · rw [upd_ne hba]; exact h.ext1 b x nb z
  · by_cases hba : b = a
    · subst hba
      rcases h.sub b oa with y | y
      · exact absurd y nb
      · rw [y] at z; cases z
    · rw [upd_ne hba]; exact h.exb b x nb z
theorem ownM_t {s : Slot} {P1 : List D → Cu → Prop} {E1 : Nat → Cu → Prop} (h : wpM (ownM s cu) P1 E1) : ∃ xs, s = .own (.list xs) ∧ P1 xs cu := by
  cases s with
  | own d => cases d with
    | list xs => exact ⟨xs, rfl, h⟩
    | _ => exact h.elim
  | _ => exact h.elim
theorem setcM_t {k : Nat} {s : Slot} {y : D} {δ : Env} {P1 : Out → Cu → Prop} {E1 : Nat → Cu → Prop} (h : wpM (setcM k s y δ cu) P1 E1) : ∃ v, s = .cup ∧ y = .int v ∧ wpM (setc1 k v δ cu) P1 E1 := by
  cases s with
  | cup => cases y with
    | int v => exact ⟨v, rfl, rfl, h⟩
    | _ => exact h.elim
  | _ => exact h.elim
theorem getS_own {i : Nat} {d : D} (h : getS δ i = .own d) : δ[i]? = some (.own d) := getS_some h (by intro z; cases z)
theorem own_frz_ne {i : Nat} {d : D} (h : (frz L δ)[i]? = some (Slot.own d)) : δ[i]? = some (.own d) := by
  obtain ⟨t, q1, ⟨z, e⟩ | ⟨z, e⟩⟩ := frz_get h
  · have w := frz1_ow (s := t)
    rw [← e] at w; cases w
  · subst e; exact q1
end
section
variable {X : Cx} {P : Pm} {me : Env → M D} {e : Expr} {i : Nat} {pos : Pos} {fr : Bool} {L : List Nat}
theorem snd_app {x : Str} {p ap cp : Pos} (hN : X.N[i]? = some x) (hv : Vis X.env.scope x) (h1 : (x == ("__debug__" : Str)) = false) (h2 : (x == ("__classdict__" : Str)) = false) (he : PE X e (rdE X.K P false fr L me)) (hs : notStar e = true) (hl : ap.endLine = cp.line) :
    PS X (.Expr (.Call (.Attribute (.Name x p) "append" ap) [e] [] cp) pos) (rdS X.K P fun σ => bnd (ownM (getS σ i)) fun _ => bnd (me σ) fun y => appM i y (frz (if imm y then [] else L) σ)) := by
  have st := star1 (es := []) (env := X.env) hs
  refine PS.weak (ps_expr (pe_bm PySem.F.plainAttrs_list PySem.F.slot_list_append PySem.F.type_list_append mt_append (pe_var hN hv h1 h2) (pa_cons he pa_nil st) rfl ?_ (by rw [hl]; exact beq_self_eq_true _) st rfl)) ?_
  · rw [st]; rfl
  intro Dn σ H ⟨q, δ, cu, hS, hc, hw⟩
  obtain ⟨zs, eg, hw⟩ := ownM_t (wpM_bnd hw)
  obtain ⟨ds0, a, ys0, _, ea, ha0, _⟩ := hS.own i _ (getS_own eg)
  refine ⟨.ref a, ea, .inl ⟨rfl, ys0, .inl (.inl ha0)⟩, ?_⟩
  refine rdS_E hS hc hw fun y cu1 v H1 e1 c1 r1 hw1 => ?_
  obtain ⟨xs, hg, hw2⟩ := ownM_t (wpM_bnd hw1)
  split at hw2
  · rename_i hz
    have z := getS_own hg
    have hf := (hS.frz (if imm y then [] else L)).step e1 c1
    obtain ⟨ds, a', ys, ed, w1, w2, w3, w4, w5, w6⟩ := hf.own i _ z
    rw [ea] at w1; cases w1
    cases ed
    have rr : Rep X.K (OA (q.bs P.ac) (frz (if imm y then [] else L) δ) σ) H1 y v := by
      by_cases hi : imm y = true
      · exact Rep.imm hi r1.r
      · exact r1.r.anti fun a z => oa_frz_imm hi z
    have len := w5.length
    have rl := w5.append (show RepL X.K (OA (q.bs P.ac) (frz (if imm y then [] else L) δ) σ) H1 [y] [v] from ⟨rr, trivial⟩)
    have hg2 := hf.grow z ea rl (by rw [List.length_append]; simp; omega)
    refine ⟨a, ys, v, rfl, rfl, w2, by omega, hw2 σ _ hg2 ?_⟩
    exact CuOk.upd c1 (hf.na ⟨⟨_, z, rfl⟩, ea⟩)
  · exact hw2.elim
theorem snd_setc {x : Str} {p sp kp : Pos} {k : Nat} {j : Nat} (hN : X.N[i]? = some x) (hv : Vis X.env.scope x) (h1 : (x == ("__debug__" : Str)) = false) (h2 : (x == ("__classdict__" : Str)) = false) (he : PE X e (rdE X.K P false fr L me))
    (hs : swapsWith e (some (.Subscript (.Name x p) (.Constant (.int (k : Nat)) j kp) sp)) pos.line X.env = pure false) :
    PS X (.Assign [.Subscript (.Name x p) (.Constant (.int (k : Nat)) j kp) sp] e pos) (rdS X.K P fun σ => bnd (me σ) fun y => setcM k (getS σ i) y σ) := by
  refine PS.weak (ps_asg he (pg_sub (pe_var hN hv h1 h2) pe_int set_list) hs (by rfl) (by rfl)) ?_
  intro Dn σ H ⟨q, δ, cu, hS, hc, hw⟩
  refine rdS_E hS hc hw fun y cu1 v H1 e1 c1 r1 hw1 => ?_
  obtain ⟨v', hg, hy, hw2⟩ := setcM_t hw1
  · subst hy
    obtain ⟨a, ea, eσ⟩ := hS.cup i (getS_some hg (by intro z; cases z))
    have ea : P.ac = some a := ea
    have ev : v = .int v' := r1.r
    subst ev
    rw [ea] at c1
    obtain ⟨m, n, ec, hm⟩ := c1.at
    subst ec
    refine ⟨.ref a, eσ, ?_⟩
    have fin : ∀ {w : List V} {c2 : Cu}, CuOk P.ac (upd H1 a (.lst w)) c2 → SOk X.K (q.bs P.ac) (upd H1 a (.lst w)) δ σ := fun {w c2} hc2 => by
      refine (hS.step e1 (cu := some (m, n)) (by rw [show (q.bs P.ac).ac = some a from ea]; exact hm)).step (cu := c2) (fun b z nb hb => ?_) hc2
      rw [upd_ne (fun y => nb (by rw [y]; exact ea.symm))]; exact hb
    match k with
    | 0 =>
      have c2 : CuOk P.ac (upd H1 a (.lst [.int v', .int n])) (some (v', n)) := by rw [ea]; exact upd_same
      exact ⟨a, _, 0, 0, rfl, rfl, hm, rfl, hw2 σ _ (fin c2) c2⟩
    | 1 =>
      have c2 : CuOk P.ac (upd H1 a (.lst [.int m, .int v'])) (some (m, v')) := by rw [ea]; exact upd_same
      exact ⟨a, _, 1, 1, rfl, rfl, hm, rfl, hw2 σ _ (fin c2) c2⟩
    | k + 2 => exact hw2.elim
theorem snd_aug {op : Operator} {x : Str} {p : Pos} (hnd : X.N.Nodup) (hN : X.N[i]? = some x) (hx : L2.Loc X.env.scope x) (hf : X.fn x = true ∨ X.env.scope.names.lookup x = some .local) (he : PE X e (rdE X.K P false fr L me)) (ho : op = .Add ∨ op = .Sub) :
    PS X (.AugAssign (.Name x p) op e pos) (rdS X.K P fun σ => bnd (valM (getS σ i)) fun x => bnd (me σ) fun y => bnd (lft (augD op x y)) fun z => ret (.nx (σ.set i (.val z)))) := by
  have main : ∀ {f : Int → Int → Int}, (∀ x y z, augD op x y = some z → ∃ a b, x = .int a ∧ y = .int b ∧ z = .int (f a b)) → PIp X op (ipI f) → PS X (.AugAssign (.Name x p) op e pos) (rdS X.K P fun σ => bnd (valM (getS σ i)) fun x => bnd (me σ) fun y => bnd (lft (augD op x y)) fun z => ret (.nx (σ.set i (.val z)))) := fun {f} hfa hip => by
    refine PS.weak (ps_aug hnd hN hx he hip hf) ?_
    intro Dn σ H ⟨q, δ, cu, hS, hc, hw⟩
    have hw1 := wpM_bnd hw
    cases qs : getS δ i with
    | val d =>
      rw [qs] at hw1
      obtain ⟨v, ev, r⟩ := hS.val i d (getS_some qs (by intro z; cases z))
      refine ⟨v, ev, ?_⟩
      refine rdS_E hS hc hw1 fun y cu1 u H1 e1 c1 r1 hw2 => ?_
      obtain ⟨z, ez, hw3⟩ := wpM_lft (wpM_bnd hw2)
      obtain ⟨a, b, ea, eb, ezz⟩ := hfa _ _ _ ez
      subst ea; subst eb; subst ezz
      have r : v = .int a := r
      have r1 : u = .int b := r1.r
      subst r; subst r1
      exact ⟨a, b, rfl, rfl, hw3 _ _ ((hS.step e1 c1).put_val rfl) c1⟩
    | _ => rw [qs] at hw1; exact hw1.elim
  rcases ho with rfl | rfl
  · refine main (f := fun a b => a + b) (fun x y z h => ?_) ip_add
    unfold augD at h
    split at h
    · cases h; exact ⟨_, _, rfl, rfl, rfl⟩
    · rename_i hh; cases hh
    · cases h
  · refine main (f := fun a b => a - b) (fun x y z h => ?_) ip_sub
    unfold augD at h
    split at h
    · rename_i hh; cases hh
    · cases h; exact ⟨_, _, rfl, rfl, rfl⟩
    · cases h
theorem snd_par {j : Nat} {x y : Str} {a b : Expr} {px py pt : Pos} {kt k2 : Nat} {pt2 : Pos} {ml : Env → M (List D)} (hc : X.calm = true) (hN : X.N.Nodup) (hi : X.N[i]? = some x) (hj : X.N[j]? = some y) (hij : i ≠ j)
    (hx : X.env.scope.names.lookup x = some .local) (hy : X.env.scope.names.lookup y = some .local) (ha : PA X [a, b] (rdL X.K P false L ml))
    (hw : swappedStores [.Tuple [.Name x px, .Name y py] kt pt] (.Tuple [a, b] k2 pt2) X.env = pure (some [x, y])) :
    PS X (.Assign [.Tuple [.Name x px, .Name y py] kt pt] (.Tuple [a, b] k2 pt2) pos) (rdS X.K P fun σ => bnd (ml σ) fun ds => parM i j ds (frz L σ)) := by
  refine PS.weak (ps_par hc hN hi hj hij hx hy ha hw (by rfl)) ?_
  intro Dn σ H ⟨q, δ, cu, hS, hcu, hw⟩
  refine ⟨OL (q.bs P.ac) L δ σ, δ, cu, hS.eok L, hcu, wpM_mono (wpM_bnd hw) (fun ds cu1 hw1 vs H1 e1 c1 r1 => ?_) fun x cu1 h H' e c => h σ H' (hS.ext1.trans e) c⟩
  match ds, hw1, r1 with
  | [d1, d2], hw1, r1 =>
    match vs, r1 with
    | [v1, v2], r1 =>
      obtain ⟨r1, r2, _⟩ := r1
      have hf := (hS.frz L).step e1 c1
      have g1 := hf.put_val (i := i) (r1.anti fun a z => z.frz)
      have g2 := g1.put_val (i := j) (r2.anti fun a z => (oa_val hf.len z).frz)
      exact ⟨v1, v2, rfl, hw1 _ _ g2 c1⟩
    | [], r1 => exact r1.elim
    | [_], r1 => exact r1.2.elim
    | _ :: _ :: _ :: _, r1 => exact r1.2.2.elim
  | [], hw1, _ => exact hw1.elim
  | [_], hw1, _ => exact hw1.elim
  | _ :: _ :: _ :: _, hw1, _ => exact hw1.elim
theorem snd_par3 {j l : Nat} {x y z : Str} {a b c : Expr} {px py pz pt : Pos} {kt k2 : Nat} {pt2 : Pos} {ml : Env → M (List D)} (hc : X.calm = true) (hN : X.N.Nodup) (hi : X.N[i]? = some x) (hj : X.N[j]? = some y) (hl : X.N[l]? = some z) (hij : i ≠ j) (hil : i ≠ l) (hjl : j ≠ l)
    (hx : X.env.scope.names.lookup x = some .local) (hy : X.env.scope.names.lookup y = some .local) (hz : X.env.scope.names.lookup z = some .local) (ha : PA X [a, b, c] (rdL X.K P false L ml))
    (hw : swappedStores [.Tuple [.Name x px, .Name y py, .Name z pz] kt pt] (.Tuple [a, b, c] k2 pt2) X.env = pure (some [x, y, z])) :
    PS X (.Assign [.Tuple [.Name x px, .Name y py, .Name z pz] kt pt] (.Tuple [a, b, c] k2 pt2) pos) (rdS X.K P fun σ => bnd (ml σ) fun ds => par3M i j l ds (frz L σ)) := by
  refine PS.weak (ps_par3 hc hN hi hj hl hij hil hjl hx hy hz ha hw (by rfl)) ?_
  intro Dn σ H ⟨q, δ, cu, hS, hcu, hw⟩
  refine ⟨OL (q.bs P.ac) L δ σ, δ, cu, hS.eok L, hcu, wpM_mono (wpM_bnd hw) (fun ds cu1 hw1 vs H1 e1 c1 r1 => ?_) fun x cu1 h H' e c => h σ H' (hS.ext1.trans e) c⟩
  match ds, hw1, r1 with
  | [d1, d2, d3], hw1, r1 =>
    match vs, r1 with
    | [v1, v2, v3], r1 =>
      obtain ⟨r1, r2, r3, _⟩ := r1
      have hf := (hS.frz L).step e1 c1
      have g1 := hf.put_val (i := i) (r1.anti fun a z => z.frz)
      have g2 := g1.put_val (i := j) (r2.anti fun a z => (oa_val hf.len z).frz)
      have g3 := g2.put_val (i := l) (r3.anti fun a z => (oa_val hf.len (oa_val g1.len z)).frz)
      exact ⟨v1, v2, v3, rfl, hw1 _ _ g3 c1⟩
    | [], r1 => exact r1.elim
    | [_], r1 => exact r1.2.elim
    | [_, _], r1 => exact r1.2.2.elim
    | _ :: _ :: _ :: _ :: _, r1 => exact r1.2.2.2.elim
  | [], hw1, _ => exact hw1.elim
  | [_], hw1, _ => exact hw1.elim
  | [_, _], hw1, _ => exact hw1.elim
  | _ :: _ :: _ :: _ :: _, hw1, _ => exact hw1.elim
/-- a, b, c = x, y, [] : the new list is one's own -/
theorem snd_parE {j l : Nat} {x y z : Str} {a b c : Expr} {px py pz pt : Pos} {kt k2 : Nat} {pt2 : Pos} {ma mb : Env → M D} {fa fb : Bool} {La Lb : List Nat} (hc : X.calm = true) (hN : X.N.Nodup) (hi : X.N[i]? = some x) (hj : X.N[j]? = some y) (hl : X.N[l]? = some z) (hij : i ≠ j) (hil : i ≠ l) (hjl : j ≠ l)
    (hx : X.env.scope.names.lookup x = some .local) (hy : X.env.scope.names.lookup y = some .local) (hz : X.env.scope.names.lookup z = some .local)
    (ha : PE X a (rdE X.K P false fa La ma)) (hb : PE X b (rdE X.K P false fb Lb mb)) (hcc : PE X c (rdE X.K P false true [] fun _ => ret (.list [])))
    (s1 : starEach [a, b, c] X.env = (false, eval a X.env) :: starEach [b, c] X.env) (s2 : starEach [b, c] X.env = (false, eval b X.env) :: starEach [c] X.env) (s3 : starEach [c] X.env = (false, eval c X.env) :: starEach [] X.env)
    (hw : swappedStores [.Tuple [.Name x px, .Name y py, .Name z pz] kt pt] (.Tuple [a, b, c] k2 pt2) X.env = pure (some [x, y, z])) :
    PS X (.Assign [.Tuple [.Name x px, .Name y py, .Name z pz] kt pt] (.Tuple [a, b, c] k2 pt2) pos) (rdS X.K P fun σ => bnd (ma σ) fun d1 => bnd (mb σ) fun d2 => ret (.nx ((((frz (La ++ Lb) σ).set i (.val d1)).set j (.val d2)).set l (.own (.list []))))) := by
  refine PS.weak (ps_par3 hc hN hi hj hl hij hil hjl hx hy hz (pa_cons ha (pa_cons hb (pa_cons hcc pa_nil s3) s2) s1) hw (by rfl)) ?_
  intro Dn σ H ⟨q, δ, cu, hS, hcu, hwp⟩
  have hE := hS.eok (La ++ Lb)
  refine rd_bind hE hcu (fun _ => mem_l) hwp (fun d1 cu1 v1 H1 e1 c1 r1 hw1 => ?_) fun x cu1 h H' e c => h σ H' (hS.ext1.trans e) c
  have hE1 := hE.step e1 c1
  refine rd_bind hE1 c1 (fun _ => mem_r) hw1 (fun d2 cu2 v2 H2 e2 c2 r2 hw2 => ?_) fun x cu1 h H' e c => h σ H' (hS.ext1.trans (e1.trans e)) c
  have hE2 := hE1.step e2 c2
  refine ⟨_, δ, cu2, hE2.sub (fun _ z => by cases z), c2, fun v3 H3 e3 c3 r3 => ?_⟩
  obtain ⟨p, ds, xs, ed, ev, hp, h3, rr⟩ := r3.2 rfl rfl
  cases ed; subst ev
  have hf := (hS.frz (La ++ Lb)).step (e1.trans e2) c2
  have R1 : Rep X.K (OL (q.bs P.ac) (La ++ Lb) δ σ) H2 d1 v1 := r1.r.ext hE1.dom (e2.ext hE1.aco)
  have g1 := hf.put_val (i := i) (R1.anti fun a z => z.frz)
  have g2 := g1.put_val (i := j) (r2.r.anti fun a z => (oa_val hf.len z).frz)
  have rl : RepL X.K (fun b => OA (q.bs P.ac) (((frz (La ++ Lb) δ).set i (.val d1)).set j (.val d2)) ((σ.set i (some v1)).set j (some v2)) b ∨ b = p) H3 [] xs := by
    cases xs with
    | nil => trivial
    | cons _ _ => exact rr.elim
  have g3 := g2.put_own (i := l) e3 c2 c3 hp h3 rl (Nat.zero_le _)
  exact ⟨v1, v2, .ref p, rfl, hw2 _ _ g3 c3⟩
/-- o[k] = .. : an own list takes a thing -/
theorem snd_sto {x : Str} {p sp : Pos} {ix : Expr} {mx : Env → M D} {fx : Bool} {Lx : List Nat} (hN : X.N[i]? = some x) (hv : Vis X.env.scope x) (h1 : (x == ("__debug__" : Str)) = false) (h2 : (x == ("__classdict__" : Str)) = false) (he : PE X e (rdE X.K P false fr L me)) (hix : PE X ix (rdE X.K P false fx Lx mx))
    (hg : PG X (.Subscript (.Name x p) ix sp) (gSub (tVar i) (rdE X.K P false fx Lx mx) rSetL)) :
    PS X (.Assign [.Subscript (.Name x p) ix sp] e pos) (rdS X.K P fun σ => bnd (me σ) fun y => bnd (ownM (getS σ i)) fun _ => bnd (mx σ) fun k => stoM i k y (frz (if imm y then [] else L) σ)) := by
  refine PS.weak (ps_asg he hg (by cases e <;> rfl) (by cases e <;> rfl) (by rfl)) ?_
  intro Dn σ H ⟨q, δ, cu, hS, hc, hw⟩
  refine rdS_E hS hc hw fun y cu1 v H1 e1 c1 r1 hw1 => ?_
  obtain ⟨zs, eg, hw1⟩ := ownM_t (wpM_bnd hw1)
  obtain ⟨ds0, a, ys0, _, ea, ha0, _⟩ := hS.own i _ (getS_own eg)
  refine ⟨.ref a, ea, ?_⟩
  refine rdS_E (hS.step e1 c1) c1 hw1 fun k cu2 u H2 e2 c2 r2 hw2 => ?_
  obtain ⟨xs, hg2, hw3⟩ := ownM_t (wpM_bnd hw2)
  cases k with
  | int n =>
    have hw3 : wpM ((if (decide (0 ≤ n) && decide (n < (xs.length : Nat))) = true then ret (.nx ((frz (if imm y = true then [] else L) δ).set i (.own (.list (xs.set n.toNat y))))) else if (decide (-(xs.length : Nat) ≤ n) && decide (n < 0)) = true then ret (.nx ((frz (if imm y = true then [] else L) δ).set i (.own (.list (xs.set (n + (xs.length : Nat)).toNat y))))) else stk) cu2) (postS X.K P q Dn) (excS P q) := hw3
    have z := getS_own hg2
    have hf := (hS.frz (if imm y = true then [] else L)).step (e1.trans e2) c2
    obtain ⟨ds, a', ys, ed, w1, w2, w3, w4, w5, w6⟩ := hf.own i _ z
    rw [ea] at w1; cases w1
    cases ed
    have rr : Rep X.K (OA (q.bs P.ac) (frz (if imm y = true then [] else L) δ) σ) H2 y v := by
      have hE1 := (hS.eok L).step e1 c1
      have r3 := r1.r.ext hE1.dom (e2.ext hE1.aco)
      by_cases hi : imm y = true
      · exact Rep.imm hi r3
      · exact r3.anti fun a z => oa_frz_imm hi z
    have ev : u = .int n := r2.r
    have len := w5.length
    suffices fin : ∃ j : Nat, ixN ys.length n = some j ∧ wpM ((ret (Out.nx ((frz (if imm y = true then [] else L) δ).set i (.own (.list (xs.set j y)))))) cu2) (postS X.K P q Dn) (excS P q) by
      obtain ⟨j, hj, hw⟩ := fin
      exact ⟨a, ys, n, j, rfl, ev, w2, hj, hw σ _ (hf.grow z ea (w5.set j rr) (by rw [List.length_set]; exact w6)) (CuOk.upd c2 (hf.na ⟨⟨_, z, rfl⟩, ea⟩))⟩
    by_cases hz : (decide (0 ≤ n) && decide (n < (xs.length : Nat))) = true
    · rw [if_pos hz] at hw3
      obtain ⟨n0, n1⟩ := and_t hz
      have n0 := of_decide_eq_true n0
      have n1 := of_decide_eq_true n1
      exact ⟨n.toNat, by
        unfold ixN
        rw [if_pos n0, if_pos (by rw [← len]; exact n1)], hw3⟩
    · rw [if_neg hz] at hw3
      by_cases hz2 : (decide (-(xs.length : Nat) ≤ n) && decide (n < 0)) = true
      · rw [if_pos hz2] at hw3
        obtain ⟨n0, n1⟩ := and_t hz2
        have n0 := of_decide_eq_true n0
        have n1 := of_decide_eq_true n1
        exact ⟨(n + (xs.length : Nat)).toNat, by
          unfold ixN
          rw [if_neg (by omega), if_pos (by rw [← len]; exact n0), len], hw3⟩
      · rw [if_neg hz2] at hw3; exact hw3.elim
  | _ => exact hw3.elim
/-- a, b = [..], y : the new list is one's own; a, b = x, [] -/
theorem parOM_sok {j : Nat} {fa fb : Bool} {La Lb : List Nat} {q : Bq} {Dn : Ends} {δ : Env} {σ : L2.St} {H H1 H2 : Hp} {cu cu1 cu2 : Cu} {d1 d2 : D} {v1 v2 : V} (hS : SOk X.K (q.bs P.ac) H δ σ) (hcu : CuOk P.ac H cu)
    (e1 : Ext1 P.ac H H1) (c1 : CuOk P.ac H1 cu1) (r1 : Res false fa X.K (OL (q.bs P.ac) (La ++ Lb) δ σ) P.ac H H1 d1 v1)
    (e2 : Ext1 P.ac H1 H2) (c2 : CuOk P.ac H2 cu2) (r2 : Res false fb X.K (OL (q.bs P.ac) (La ++ Lb) δ σ) P.ac H1 H2 d2 v2)
    (hw2 : wpM (parOM i j fa fb d1 d2 (frz (La ++ Lb) δ) cu2) (postS X.K P q Dn) (excS P q)) :
    ∃ δ', SOk X.K (q.bs P.ac) H2 δ' ((σ.set i (some v1)).set j (some v2)) ∧ wpM ((ret (Out.nx δ')) cu2) (postS X.K P q Dn) (excS P q) := by
  have hE := hS.eok (La ++ Lb)
  have hE1 := hE.step e1 c1
  cases fa with
  | true =>
    cases d1 with
    | list ds =>
      have hw2 : wpM ((if imm d2 = true then ret (.nx (((frz (La ++ Lb) δ).set i (.own (.list ds))).set j (.val d2))) else stk) cu2) (postS X.K P q Dn) (excS P q) := hw2
      by_cases him : imm d2 = true
      · rw [if_pos him] at hw2
        obtain ⟨p, ds', xs, ed, ev, hp, h3, rr⟩ := r1.2 rfl rfl
        cases ed; subst ev
        have hz : ds.length ≤ sizeLine := r1.r.1
        have hf := (hS.frz (La ++ Lb))
        have nac : some p ≠ P.ac := fun z => by
          obtain ⟨ys, w, _⟩ := hE.dom p (hE.aco p z.symm)
          rw [hp] at w; cases w
        have R1 : RepL X.K (fun b => OL (q.bs P.ac) (La ++ Lb) δ σ b ∨ b = p) H2 ds xs := by
          refine rr.ext (fun b hb => ?_) (e2.ext fun a z => .inl (hE1.aco a z))
          rcases hb with hb | hb
          · exact hE1.dom b hb
          · rw [hb]; exact ⟨_, h3, trivial⟩
        have g1 := hf.put_own (i := i) (cu1 := cu2) (e1.trans e2) hcu c2 hp (e2 _ _ nac h3) (R1.anti fun b z => z.imp (fun z => z.frz) id) hz
        have g2 := g1.put_val (i := j) (Rep.imm him r2.r)
        exact ⟨_, g2, hw2⟩
      · rw [if_neg him] at hw2; exact hw2.elim
    | _ => exact hw2.elim
  | false =>
    cases fb with
    | false => exact hw2.elim
    | true =>
      cases d2 with
      | list es =>
        cases es with
        | cons _ _ => exact hw2.elim
        | nil =>
          have hw2 : wpM ((ret (Out.nx (((frz (La ++ Lb) δ).set i (.val d1)).set j (.own (.list []))))) cu2) (postS X.K P q Dn) (excS P q) := hw2
          obtain ⟨p, ds, xs, ed, ev, hp, h3, rr⟩ := r2.2 rfl rfl
          cases ed; subst ev
          have hf := (hS.frz (La ++ Lb)).step e1 c1
          have g1 := hf.put_val (i := i) (r1.r.anti fun a z => z.frz)
          have rl : RepL X.K (fun b => OA (q.bs P.ac) ((frz (La ++ Lb) δ).set i (.val d1)) (σ.set i (some v1)) b ∨ b = p) H2 [] xs := by
            cases xs with
            | nil => trivial
            | cons _ _ => exact rr.elim
          have g2 := g1.put_own (i := j) e2 c1 c2 hp h3 rl (Nat.zero_le _)
          exact ⟨_, g2, hw2⟩
      | _ => exact hw2.elim
theorem snd_parO {j : Nat} {x y : Str} {a b : Expr} {px py pt : Pos} {kt k2 : Nat} {pt2 : Pos} {ma mb : Env → M D} {fa fb : Bool} {La Lb : List Nat} (hc : X.calm = true) (hN : X.N.Nodup) (hi : X.N[i]? = some x) (hj : X.N[j]? = some y) (hij : i ≠ j)
    (hx : X.env.scope.names.lookup x = some .local) (hy : X.env.scope.names.lookup y = some .local)
    (ha : PE X a (rdE X.K P false fa La ma)) (hb : PE X b (rdE X.K P false fb Lb mb))
    (s1 : starEach [a, b] X.env = (false, eval a X.env) :: starEach [b] X.env) (s2 : starEach [b] X.env = (false, eval b X.env) :: starEach [] X.env)
    (hw : swappedStores [.Tuple [.Name x px, .Name y py] kt pt] (.Tuple [a, b] k2 pt2) X.env = pure (some [x, y])) :
    PS X (.Assign [.Tuple [.Name x px, .Name y py] kt pt] (.Tuple [a, b] k2 pt2) pos) (rdS X.K P fun σ => bnd (ma σ) fun d1 => bnd (mb σ) fun d2 => parOM i j fa fb d1 d2 (frz (La ++ Lb) σ)) := by
  refine PS.weak (ps_par hc hN hi hj hij hx hy (pa_cons ha (pa_cons hb pa_nil s2) s1) hw (by rfl)) ?_
  intro Dn σ H ⟨q, δ, cu, hS, hcu, hwp⟩
  have hE := hS.eok (La ++ Lb)
  refine rd_bind hE hcu (fun _ => mem_l) hwp (fun d1 cu1 v1 H1 e1 c1 r1 hw1 => ?_) fun x cu1 h H' e c => h σ H' (hS.ext1.trans e) c
  have hE1 := hE.step e1 c1
  refine rd_bind hE1 c1 (fun _ => mem_r) hw1 (fun d2 cu2 v2 H2 e2 c2 r2 hw2 => ?_) fun x cu1 h H' e c => h σ H' (hS.ext1.trans (e1.trans e)) c
  obtain ⟨δ', g, hw3⟩ := parOM_sok hS hcu e1 c1 r1 e2 c2 r2 hw2
  exact ⟨v1, v2, rfl, hw3 _ _ g c2⟩
/-- the same where a block reads a name: by a tuple -/
theorem snd_parC {j : Nat} {x y : Str} {a b : Expr} {px py pt : Pos} {kt k2 : Nat} {pt2 : Pos} {ma mb : Env → M D} {fa fb : Bool} {La Lb : List Nat} (hc : X.calm = true) (hN : X.N.Nodup) (hi : X.N[i]? = some x) (hj : X.N[j]? = some y)
    (hx : L2.Loc X.env.scope x) (hy : L2.Loc X.env.scope y) (fx : X.fn x = true ∨ X.env.scope.names.lookup x = some .local) (fy : X.fn y = true ∨ X.env.scope.names.lookup y = some .local)
    (ha : PE X a (rdE X.K P false fa La ma)) (hb : PE X b (rdE X.K P false fb Lb mb))
    (s1 : starEach [a, b] X.env = (false, eval a X.env) :: starEach [b] X.env) (s2 : starEach [b] X.env = (false, eval b X.env) :: starEach [] X.env)
    (hw : swappedStores [.Tuple [.Name x px, .Name y py] kt pt] (.Tuple [a, b] k2 pt2) X.env = pure none) :
    PS X (.Assign [.Tuple [.Name x px, .Name y py] kt pt] (.Tuple [a, b] k2 pt2) pos) (rdS X.K P fun σ => bnd (ma σ) fun d1 => bnd (mb σ) fun d2 => parOM i j fa fb d1 d2 (frz (La ++ Lb) σ)) := by
  refine PS.weak (ps_asg (pe_tup (pa_cons ha (pa_cons hb pa_nil s2) s1)) (pg_tup hc (pgs_cons (pg_name hN hi hx fx) (pgs_cons (pg_name hN hj hy fy) pgs_nil))) (by rfl) hw) ?_
  intro Dn σ H ⟨q, δ, cu, hS, hcu, hwp⟩
  have hE := hS.eok (La ++ Lb)
  refine rd_bind hE hcu (fun _ => mem_l) hwp (fun d1 cu1 v1 H1 e1 c1 r1 hw1 => ?_) fun x cu1 h H' e c => h σ H' (hS.ext1.trans e) c
  have hE1 := hE.step e1 c1
  refine rd_bind hE1 c1 (fun _ => mem_r) hw1 (fun d2 cu2 v2 H2 e2 c2 r2 hw2 => ?_) fun x cu1 h H' e c => h σ H' (hS.ext1.trans (e1.trans e)) c
  obtain ⟨δ', g, hw3⟩ := parOM_sok hS hcu e1 c1 r1 e2 c2 r2 hw2
  refine ⟨by show 2 ≤ sizeLine; decide, fun T hT => ⟨T, [v1, v2], rfl, SqT.of upd_same, rfl, ?_⟩⟩
  have c3 := c2.e0 (ext0_upd (o := .tup [v1, v2]) hT)
  exact ⟨v1, [v2], rfl, v2, [], rfl, rfl, hw3 _ _ (g.step (ext0_upd hT).e1 c3) c3⟩
/-- d = {} -/
theorem snd_dnew {x : Str} {p px : Pos} (hnd : X.N.Nodup) (hN : X.N[i]? = some x) (hx : L2.Loc X.env.scope x) (hf : X.fn x = true ∨ X.env.scope.names.lookup x = some .local) :
    PS X (.Assign [.Name x px] (.Dict [] [] p) pos) (rdS X.K P fun σ => ret (.nx (σ.set i (.obj (.dic []))))) := by
  refine PS.weak (ps_set hnd hN hx pe_dnewK (by rfl) hf) ?_
  intro Dn σ H ⟨q, δ, cu, hS, hc, hw⟩
  intro a ha
  have c1 := hc.e0 (ext0_upd (o := .dK []) ha)
  exact hw _ _ (hS.put_obj (ext0_upd ha).e1 hc c1 ha ⟨Nat.zero_le _, (fun _ h => by cases h), upd_same⟩) c1
/-- d[k] = .. -/
theorem snd_dput {x : Str} {p sp : Pos} {kx : Expr} {mk : Env → M D} {fk : Bool} {Lk : List Nat} (hu : X.A.units + 1 < cLine) (hN : X.N[i]? = some x) (hv : Vis X.env.scope x) (h1 : (x == ("__debug__" : Str)) = false) (h2 : (x == ("__classdict__" : Str)) = false) (he : PE X e (rdE X.K P false fr L me)) (hk : PE X kx (rdE X.K P true fk Lk mk)) :
    PS X (.Assign [.Subscript (.Name x p) kx sp] e pos) (rdS X.K P fun σ => bnd (me σ) fun y => bnd (dicM (getS σ i)) fun _ => bnd (mk σ) fun q => dputM i q y σ) := by
  refine PS.weak (ps_dput hu (pe_var hN hv h1 h2) hk he (by cases e <;> rfl)) ?_
  intro Dn σ H ⟨q, δ, cu, hS, hc, hw⟩
  refine rdS_E hS hc hw fun y cu1 v H1 e1 c1 r1 hw1 => ?_
  obtain ⟨kvs, eg, hw1⟩ := dicM_t (wpM_bnd hw1)
  have hS1 := hS.step e1 c1
  have ei := getS_some eg (fun z => by cases z)
  obtain ⟨a, ea, na, ob, _⟩ := hS1.obj i _ ei
  refine ⟨.ref a, ea, ?_⟩
  refine rdS_E hS1 c1 hw1 fun kq cu2 u H2 e2 c2 r2 hw2 => ?_
  have hw2 : wpM (bnd (dicM (getS δ i)) (fun kvs => match keyD kq with
    | some k => if isFl y && decide (kvs.length < 1000000) then ret (Out.nx (δ.set i (.obj (.dic (putD kvs k y))))) else stk
    | none => stk) cu2) (postS X.K P q Dn) (excS P q) := hw2
  rw [eg] at hw2
  have hw2 : wpM ((match keyD kq with
    | some k => if isFl y && decide (kvs.length < 1000000) then ret (Out.nx (δ.set i (.obj (.dic (putD kvs k y))))) else stk
    | none => stk) cu2) (postS X.K P q Dn) (excS P q) := hw2
  cases ek : keyD kq with
  | none => rw [ek] at hw2; exact hw2.elim
  | some k =>
    rw [ek] at hw2
    have hw2 : wpM ((if (isFl y && decide (kvs.length < 1000000)) = true then ret (Out.nx (δ.set i (.obj (.dic (putD kvs k y))))) else stk) cu2) (postS X.K P q Dn) (excS P q) := hw2
    by_cases hz : (isFl y && decide (kvs.length < 1000000)) = true
    · rw [if_pos hz] at hw2
      obtain ⟨f1, l1⟩ := and_t hz
      have l1 := of_decide_eq_true l1
      obtain ⟨rfl, fy⟩ := fl_rep f1 r1.r
      obtain ⟨rfl, fk⟩ := key_rep ek r2.t
      have hS2 := hS1.step e2 c2
      obtain ⟨a', ea', na', ob2, _⟩ := hS2.obj i _ ei
      rw [ea] at ea'; cases ea'
      have nw : ObR (upd H2 a (.dK (putK (kvs.map fun p => (p.1, toV p.2)) k (toV y)))) (.dic (putD kvs k y)) a := by
        refine ⟨?_, fun pr hp => ?_, ?_⟩
        · have := putD_len kvs k y
          rw [sizeLine_eq]; omega
        · rcases putD_mem hp with ⟨z1, z2⟩ | z
          · rw [z1, z2]; exact ⟨fk, fy⟩
          · exact ob2.2.1 pr z
        · rw [putV_toV]; exact upd_same
      refine ⟨a, _, rfl, DPut.k ob2.2.2 (by rw [List.length_map, sizeLine_eq]; omega), hw2 σ _ (hS2.dput ei ea nw) ?_⟩
      exact CuOk.upd c2 na'
    · rw [if_neg hz] at hw2; exact hw2.elim
/-- r = range(a, b) -/
theorem snd_rnew {x : Str} {p px p2 : Pos} {a b : Expr} {ma mb : Env → M D} {fa fb : Bool} {La Lb : List Nat} (hnd : X.N.Nodup) (hN : X.N[i]? = some x) (hx : L2.Loc X.env.scope x) (hf : X.fn x = true ∨ X.env.scope.names.lookup x = some .local)
    (hg : Gl X "range") (hm : X.mg "range" = none) (ha : PE X a (rdE X.K P false fa La ma)) (hb : PE X b (rdE X.K P false fb Lb mb)) (s1 : notStar a = true) (s2 : notStar b = true) :
    PS X (.Assign [.Name x px] (.Call (.Name "range" p) [a, b] [] p2) pos) (rdS X.K P fun σ => bnd (ma σ) fun x => bnd (mb σ) fun y => rnewM i x y σ) := by
  have st1 := star1 (es := [b]) (env := X.env) s1
  have st2 := star1 (es := []) (env := X.env) s2
  refine PS.weak (ps_set hnd hN hx (pe_callTy cr_range2 hg hm (by decide +kernel) (pa_cons ha (pa_cons hb pa_nil st2) st1) (by decide) (by decide) st1 (by rw [st2]; rfl)) (by rfl) hf) ?_
  intro Dn σ H ⟨q, δ, cu, hS, hc, hw⟩
  refine rdS_E hS hc hw fun d1 cu1 v1 H1 e1 c1 r1 hw1 => ?_
  have hS1 := hS.step e1 c1
  refine rdS_E hS1 c1 hw1 fun d2 cu2 v2 H2 e2 c2 r2 hw2 => ?_
  have hS2 := hS1.step e2 c2
  cases d1 with
  | int m => cases d2 with
    | int n =>
      have hw2 : wpM (ret (Out.nx (δ.set i (.obj (.rng m n)))) cu2) (postS X.K P q Dn) (excS P q) := hw2
      have ev1 : v1 = .int m := r1.r
      have ev2 : v2 = .int n := r2.r
      subst ev1; subst ev2
      refine ⟨m, n, rfl, fun ad hd => ?_⟩
      have c3 := c2.e0 (ext0_upd (o := .rng m n) hd)
      exact hw2 _ _ (hS2.put_obj (ext0_upd hd).e1 c2 c3 hd upd_same) c3
    | _ => exact hw2.elim
  | _ => exact hw2.elim
end
end OR

/-! the check of statements -/
namespace OR
open PySem PySem.Spec PyProof.Rows L2 TL
def namesOf (sc : Scope) (line : Nat) (ts : List Expr) : List Str := ts.filterMap fun
  | .Name id pos => if sc.names.lookup id == some .local && pos.line == line then some id else none
  | _ => none
def swNone (sc : Scope) : Expr → Expr → Bool
  | .Tuple ts _ _, .Tuple vs _ _ => (!(ts.length == 2 || ts.length == 3) || vs.length != ts.length) || ((namesOf sc ((ts.head?.map (·.pos.line)).getD 0) ts).length != ts.length) || vs.all (foldedForSure 8)
  | _, .Tuple _ _ _ => false
  | _, _ => true
theorem sw_none {sc : Scope} {t v : Expr} {env : PySem.Env} (hs : env.scope = sc) (h : swNone sc t v = true) : swappedStores [t] v env = pure none := by
  subst hs
  unfold swappedStores
  cases v with
  | Tuple vs k2 p2 =>
    cases t with
    | Tuple ts k1 p1 =>
      have h : ((!(ts.length == 2 || ts.length == 3) || vs.length != ts.length) || ((namesOf env.scope ((ts.head?.map (·.pos.line)).getD 0) ts).length != ts.length) || vs.all (foldedForSure 8)) = true := h
      dsimp only
      split
      · rfl
      · rename_i hc
        split
        · rfl
        · split
          · rfl
          · rename_i hn
            split
            · rfl
            · rename_i hf
              exfalso
              simp only [Bool.or_eq_true] at h hc hn
              rcases h with (h | h) | h
              · exact hc (.inl (by simpa using h))
              · exact hn (.inl h)
              · exact hf h
    | _ => cases h
  | _ => cases t <;> rfl
theorem sw_two {x y : Str} {px py pt p2 : Pos} {k1 k2 : Nat} {a b : Expr} {env : PySem.Env} (hk : env.scope.kind = .function) (hx : env.scope.names.lookup x = some .local) (hy : env.scope.names.lookup y = some .local) (hxy : x ≠ y) (hl : py.line = px.line) (ha : notStar a = true) (hb : notStar b = true)
    (hf : [a, b].all (foldedForSure 8) = false) (hc : [a, b].all (constantsAlone 8) = false) : swappedStores [.Tuple [.Name x px, .Name y py] k1 pt] (.Tuple [a, b] k2 p2) env = pure (some [x, y]) := by
  unfold swappedStores
  have hb1 : env.blockKind = .function := by unfold Env.blockKind; rw [hk]; rfl
  have k1' : env.kindOf x = some .local := hx
  have k2' : env.kindOf y = some .local := hy
  have st : ([a, b].any fun | .Starred .. => true | _ => false) = false := by
    have one : ∀ {e : Expr}, notStar e = true → (match e with | .Starred .. => true | _ => false) = false := fun {e} h => by cases e <;> first | rfl | cases h
    rw [List.any_cons, List.any_cons, List.any_nil, one ha, one hb]; rfl
  have dd : ([x, y].eraseDups).length = 2 := by
    have : (y == x) = false := by simpa using fun z => hxy z.symm
    simp [List.eraseDups_cons, this]
  have e1 : (px.line == px.line) = true := beq_self_eq_true _
  have e2 : (some NameKind.local == some NameKind.local) = true := by decide
  dsimp only
  split
  · rename_i h; rw [hb1] at h; simp at h
  split
  · rename_i h1 h2; exact absurd (h2.symm.trans st) (by decide)
  simp only [List.filterMap_cons, List.filterMap_nil, k1', k2', List.head?_cons, Option.map_some, Option.getD_some, Expr.pos, hl, hf, hc, e1, e2, Bool.and_self, if_true, dd]
  rfl

theorem sw_three {x y z : Str} {px py pz pt p2 : Pos} {k1 k2 : Nat} {a b c : Expr} {env : PySem.Env} (hk : env.scope.kind = .function) (hx : env.scope.names.lookup x = some .local) (hy : env.scope.names.lookup y = some .local) (hz : env.scope.names.lookup z = some .local) (hxy : x ≠ y) (hxz : x ≠ z) (hyz : y ≠ z) (hl : py.line = px.line) (hl2 : pz.line = px.line) (ha : notStar a = true) (hb : notStar b = true) (hcs : notStar c = true)
    (hf : [a, b, c].all (foldedForSure 8) = false) (hc : [a, b, c].all (constantsAlone 8) = false) : swappedStores [.Tuple [.Name x px, .Name y py, .Name z pz] k1 pt] (.Tuple [a, b, c] k2 p2) env = pure (some [x, y, z]) := by
  unfold swappedStores
  have hb1 : env.blockKind = .function := by unfold Env.blockKind; rw [hk]; rfl
  have k1' : env.kindOf x = some .local := hx
  have k2' : env.kindOf y = some .local := hy
  have k3' : env.kindOf z = some .local := hz
  have st : ([a, b, c].any fun | .Starred .. => true | _ => false) = false := by
    have one : ∀ {e : Expr}, notStar e = true → (match e with | .Starred .. => true | _ => false) = false := fun {e} h => by cases e <;> first | rfl | cases h
    rw [List.any_cons, List.any_cons, List.any_cons, List.any_nil, one ha, one hb, one hcs]; rfl
  have dd : ([x, y, z].eraseDups).length = 3 := by
    have h1 : (y == x) = false := by simpa using fun w => hxy w.symm
    have h2 : (z == x) = false := by simpa using fun w => hxz w.symm
    have h3 : (z == y) = false := by simpa using fun w => hyz w.symm
    simp [List.eraseDups_cons, h1, h2, h3]
  have e1 : (px.line == px.line) = true := beq_self_eq_true _
  have e2 : (some NameKind.local == some NameKind.local) = true := by decide
  dsimp only
  split
  · rename_i h; rw [hb1] at h; simp at h
  split
  · rename_i h1 h2; exact absurd (h2.symm.trans st) (by decide)
  simp only [List.filterMap_cons, List.filterMap_nil, k1', k2', k3', List.head?_cons, Option.map_some, Option.getD_some, Expr.pos, hl, hl2, hf, hc, e1, e2, Bool.and_self, if_true, dd]
  rfl

def notComp : Expr → Bool
  | .ListComp .. => false
  | .SetComp .. => false
  | .DictComp .. => false
  | _ => true
def isLc : CE → Bool
  | .lc _ _ _ _ => true
  | .lc2 _ _ _ _ _ _ _ => true
  | _ => false
/-- a comprehension whose value goes straight to its name -/
def swapC (S : Sc) (x : Str) (px : Pos) : Expr → Bool
  | .ListComp _ _ sc p => decide (S.sc.names.lookup x = some .local) && (px.line == p.line) && !(sc.names.any fun (n, k) => n == x && (k == .local || k == .cell))
  | _ => false
def par2 : List Expr → Expr → Option (Str × Pos × Str × Pos × Expr × Expr)
  | [.Tuple [.Name x px, .Name y py] _ _], .Tuple [u, v] _ _ => some (x, px, y, py, u, v)
  | _, _ => none
theorem par2_eq {ts : List Expr} {v : Expr} {x y : Str} {px py : Pos} {u w : Expr} (h : par2 ts v = some (x, px, y, py, u, w)) : ∃ k1 pt k2 p2, ts = [.Tuple [.Name x px, .Name y py] k1 pt] ∧ v = .Tuple [u, w] k2 p2 := by
  unfold par2 at h
  split at h
  · cases h; exact ⟨_, _, _, _, rfl, rfl⟩
  · cases h
def par3P : List Expr → Expr → Option ((Str × Pos × Str × Pos × Str × Pos) × Expr × Expr × Expr)
  | [.Tuple [.Name x px, .Name y py, .Name z pz] _ _], .Tuple [u, v, w] _ _ => some ((x, px, y, py, z, pz), u, v, w)
  | _, _ => none
theorem par3_eq {ts : List Expr} {v : Expr} {r : (Str × Pos × Str × Pos × Str × Pos) × Expr × Expr × Expr} (h : par3P ts v = some r) : ∃ k1 pt k2 p2, ts = [.Tuple [.Name r.1.1 r.1.2.1, .Name r.1.2.2.1 r.1.2.2.2.1, .Name r.1.2.2.2.2.1 r.1.2.2.2.2.2] k1 pt] ∧ v = .Tuple [r.2.1, r.2.2.1, r.2.2.2] k2 p2 := by
  unfold par3P at h
  split at h
  · cases h; exact ⟨_, _, _, _, rfl, rfl⟩
  · cases h
/-- three names, stored side by side -/
def par3C (S : Sc) (i j l : Nat) (r : (Str × Pos × Str × Pos × Str × Pos) × Expr × Expr × Expr) : Bool :=
  decide (S.N[i]? = some r.1.1) && (decide (S.N[j]? = some r.1.2.2.1) && (decide (S.N[l]? = some r.1.2.2.2.2.1) && (decide (i ≠ j) && (decide (i ≠ l) && (decide (j ≠ l) &&
    (decide (S.sc.names.lookup r.1.1 = some .local) && (decide (S.sc.names.lookup r.1.2.2.1 = some .local) && (decide (S.sc.names.lookup r.1.2.2.2.2.1 = some .local) &&
    (decide (r.1.1 ≠ r.1.2.2.1) && (decide (r.1.1 ≠ r.1.2.2.2.2.1) && (decide (r.1.2.2.1 ≠ r.1.2.2.2.2.1) && (decide (r.1.2.2.2.1.line = r.1.2.1.line) && (decide (r.1.2.2.2.2.2.line = r.1.2.1.line) &&
    (!([r.2.1, r.2.2.1, r.2.2.2].all (foldedForSure 8)) && !([r.2.1, r.2.2.1, r.2.2.2].all (constantsAlone 8))))))))))))))))
structure Par3 (S : Sc) (i j l : Nat) (r : (Str × Pos × Str × Pos × Str × Pos) × Expr × Expr × Expr) : Prop where
  a1 : decide (S.N[i]? = some r.1.1) = true
  a2 : decide (S.N[j]? = some r.1.2.2.1) = true
  a3 : decide (S.N[l]? = some r.1.2.2.2.2.1) = true
  a4 : i ≠ j
  a5 : i ≠ l
  a6 : j ≠ l
  a7 : S.sc.names.lookup r.1.1 = some .local
  a8 : S.sc.names.lookup r.1.2.2.1 = some .local
  a9 : S.sc.names.lookup r.1.2.2.2.2.1 = some .local
  b1 : r.1.1 ≠ r.1.2.2.1
  b2 : r.1.1 ≠ r.1.2.2.2.2.1
  b3 : r.1.2.2.1 ≠ r.1.2.2.2.2.1
  b4 : r.1.2.2.2.1.line = r.1.2.1.line
  b5 : r.1.2.2.2.2.2.line = r.1.2.1.line
  b6 : ([r.2.1, r.2.2.1, r.2.2.2].all (foldedForSure 8)) = false
  b7 : ([r.2.1, r.2.2.1, r.2.2.2].all (constantsAlone 8)) = false
theorem par3C_t {S : Sc} {i j l : Nat} {r : (Str × Pos × Str × Pos × Str × Pos) × Expr × Expr × Expr} (h : par3C S i j l r = true) : Par3 S i j l r := by
  unfold par3C at h
  obtain ⟨h1, h⟩ := and_t h
  obtain ⟨h2, h⟩ := and_t h
  obtain ⟨h3, h⟩ := and_t h
  obtain ⟨h4, h⟩ := and_t h
  obtain ⟨h5, h⟩ := and_t h
  obtain ⟨h6, h⟩ := and_t h
  obtain ⟨h7, h⟩ := and_t h
  obtain ⟨h8, h⟩ := and_t h
  obtain ⟨h9, h⟩ := and_t h
  obtain ⟨g1, h⟩ := and_t h
  obtain ⟨g2, h⟩ := and_t h
  obtain ⟨g3, h⟩ := and_t h
  obtain ⟨g4, h⟩ := and_t h
  obtain ⟨g5, h⟩ := and_t h
  obtain ⟨g6, g7⟩ := and_t h
  exact ⟨h1, h2, h3, dec_t h4, dec_t h5, dec_t h6, dec_t h7, dec_t h8, dec_t h9, dec_t g1, dec_t g2, dec_t g3, dec_t g4, dec_t g5, not_t g6, not_t g7⟩
def isNilL : Expr → Bool
  | .List [] _ => true
  | _ => false
def appP : Expr → Option (Str × Str × Pos × Pos × Expr)
  | .Call (.Attribute (.Name x _) nm ap) [v] [] cp => some (x, nm, ap, cp, v)
  | _ => none
theorem appP_eq {e : Expr} {x nm : Str} {ap cp : Pos} {v : Expr} (h : appP e = some (x, nm, ap, cp, v)) : ∃ px, e = .Call (.Attribute (.Name x px) nm ap) [v] [] cp := by
  unfold appP at h
  split at h
  · cases h; exact ⟨_, rfl⟩
  · cases h
def setP : List Expr → Option (Str × Int)
  | [.Subscript (.Name x _) (.Constant (.int n) _ _) _] => some (x, n)
  | _ => none
theorem setP_eq {ts : List Expr} {x : Str} {n : Int} (h : setP ts = some (x, n)) : ∃ px j p4 p5, ts = [.Subscript (.Name x px) (.Constant (.int n) j p4) p5] := by
  unfold setP at h
  split at h
  · cases h; exact ⟨_, _, _, _, rfl⟩
  · cases h
def stoP : List Expr → Option (Str × Expr)
  | [.Subscript (.Name x _) e _] => some (x, e)
  | _ => none
theorem stoP_eq {ts : List Expr} {x : Str} {e : Expr} (h : stoP ts = some (x, e)) : ∃ px sp, ts = [.Subscript (.Name x px) e sp] := by
  unfold stoP at h
  split at h
  · cases h; exact ⟨_, _, rfl⟩
  · cases h
def raiseP : Option Expr → Option Expr → Option Str
  | some (.Call (.Name y _) [.Constant (.str _) _ _] [] _), none => some y
  | _, _ => none
theorem raiseP_eq {a b : Option Expr} {y : Str} (h : raiseP a b = some y) : ∃ py m jj p2 p3, a = some (.Call (.Name y py) [.Constant (.str m) jj p2] [] p3) ∧ b = none := by
  unfold raiseP at h
  split at h
  · cases h; exact ⟨_, _, _, _, _, rfl, rfl⟩
  · cases h
def parC1 (S : Sc) (i j : Nat) (r : Str × Pos × Str × Pos × Expr × Expr) : Bool := decide (S.N[i]? = some r.1) && (decide (S.N[j]? = some r.2.2.1) && (decide (i ≠ j) && (decide (S.sc.names.lookup r.1 = some .local) && (decide (S.sc.names.lookup r.2.2.1 = some .local) && (decide (r.1 ≠ r.2.2.1) && (decide (r.2.2.2.1.line = r.2.1.line)
      && (!([r.2.2.2.2.1, r.2.2.2.2.2].all (foldedForSure 8)) && !([r.2.2.2.2.1, r.2.2.2.2.2].all (constantsAlone 8)))))))))
def parC2 (S : Sc) (i j : Nat) (ts : List Expr) (tv : Expr) (r : Str × Pos × Str × Pos × Expr × Expr) : Bool := decide (S.N[i]? = some r.1) && (decide (S.N[j]? = some r.2.2.1) && (locB S r.1 && (locB S r.2.2.1 && ts.all fun t => swNone S.sc t tv)))
mutual
def chkS : CS → Sc → Stmt → Bool
  | .nev, _, _ => true
  | .ret e, S, .Return (some x) _ => chkE e S x
  | .retN, _, .Return none _ => true
  | .ex e, S, .Expr x _ => notComp x && chkE e S x
  | .asg i e, S, .Assign [.Name x px] v _ => decide (S.N[i]? = some x) && (locB S x && (chkE e S v && ((notComp v || !decide (S.sc.names.lookup x = some .local)) || (isLc e && swapC S x px v))))
  | .asgT tg e, S, .Assign [t] v _ => notStar t && (notComp v && (chkG tg S t && (swNone S.sc t v && chkE e S v)))
  | .par i j a b, S, .Assign ts tv _ => match par2 ts tv with
    | some (x, px, y, py, u, v) => decide (S.N[i]? = some x) && (decide (S.N[j]? = some y) && (decide (i ≠ j) && (decide (S.sc.names.lookup x = some .local) && (decide (S.sc.names.lookup y = some .local) && (decide (x ≠ y) && (decide (py.line = px.line)
      && (!([u, v].all (foldedForSure 8)) && (!([u, v].all (constantsAlone 8)) && chkL (.cons a (.cons b .nil)) S [u, v]))))))))
    | none => false
  | .par3 i j l a b c, S, .Assign ts tv _ => match par3P ts tv with
    | some r => par3C S i j l r && chkL (.cons a (.cons b (.cons c .nil))) S [r.2.1, r.2.2.1, r.2.2.2]
    | none => false
  | .parE i j l a b, S, .Assign ts tv _ => match par3P ts tv with
    | some r => par3C S i j l r && chkL (.cons a (.cons b (.cons (.lst .nil) .nil))) S [r.2.1, r.2.2.1, r.2.2.2]
    | none => false
  | .parO i j a b, S, .Assign ts tv _ => match par2 ts tv with
    | some r => (parC1 S i j r || parC2 S i j ts tv r) && ((frs a || frs b) && chkL (.cons a (.cons b .nil)) S [r.2.2.2.2.1, r.2.2.2.2.2])
    | none => false
  | .dnew i, S, .Assign [.Name x _] (.Dict [] [] _) _ => decide (S.N[i]? = some x) && locB S x
  | .dput i k e, S, .Assign ts v _ => match stoP ts with
    | some (x, ex) => decide (S.N[i]? = some x) && (visB S x && (chkE k S ex && chkE e S v))
    | none => false
  | .rnew i a b, S, .Assign [.Name x _] (.Call (.Name nm _) [y, z] [] _) _ => decide (S.N[i]? = some x) && (locB S x && (decide (nm = "range") && (bltB S nm && (notStar y && (notStar z && (chkE a S y && chkE b S z))))))
  | .sto i ix e, S, .Assign ts v _ => match stoP ts with
    | some (x, ex) => decide (S.N[i]? = some x) && (visB S x && (notSlice ex && (chkE ix S ex && chkE e S v)))
    | none => false
  | .aug i op e, S, .AugAssign (.Name x _) o v _ => decide (S.N[i]? = some x) && (locB S x && (decide (op = o) && ((decide (op = .Add) || decide (op = .Sub)) && chkE e S v)))
  | .app i e, S, .Expr ce _ => match appP ce with
    | some (x, nm, ap, cp, v) => decide (S.N[i]? = some x) && (visB S x && (decide (nm = "append") && (decide (ap.endLine = cp.line) && (notStar v && chkE e S v))))
    | none => false
  | .setc i k e, S, .Assign ts v _ => match setP ts with
    | some (x, n) => decide (S.N[i]? = some x) && (visB S x && (decide (n = (k : Nat)) && (notComp v && chkE e S v)))
    | none => false
  | .ite c a b, S, .If x ys zs _ => chkE c S x && (chkSs a S ys && chkSs b S zs)
  | .for_ tg it body, S, .For t x ys [] _ => notSet x && (chkG tg S t && ((chkE it S x || chkI it S t x) && chkSs body S ys))
  | .whl c body, S, .While x ys [] _ => chkE c S x && chkSs body S ys
  | .pass, _, .Pass _ => true
  | .brk, _, .Break _ => true
  | .cnt, _, .Continue _ => true
  | .rse x _ _, S, .Raise a b _ => match raiseP a b with
    | some y => decide (S.exs[x]? = some y)
    | none => false
  | _, _, _ => false
def chkSs : CS → Sc → List Stmt → Bool
  | .nil, _, [] => true
  | .cons h t, S, x :: xs => chkS h S x && chkSs t S xs
  | _, _, _ => false
end
structure GoodS (G : List Den) (k : Nat) (X : Cx) (P : Pm) (S : Sc) : Prop extends Good G k X P S where
  po : PassesOwn (model X.prog X.w) X.A X.env X.xe
  kind : X.env.scope.kind = .function
  exc : ∀ (j : Nat) (x : Str), S.exs[j]? = some x → ∀ (m : Str) (jj : Nat) (p p2 pos : Pos), PMk X (.Call (.Name x p) [.Constant (.str m) jj p2] [] pos) fun _ H Q => Q (P.cls j) none H
section
variable {G : List Den} {k : Nat} {X : Cx} {P : Pm} {S : Sc}
theorem notComp_t {v : Expr} {t : Option Expr} {l : Nat} {env : PySem.Env} (h : notComp v = true) : swapsWith v t l env = pure false := by
  cases v <;> first | rfl | cases h
theorem opt_t {α : Type} {o : Option α} {f : α → Bool} (h : (match o with | some r => f r | none => false) = true) : ∃ r, o = some r ∧ f r = true := by
  cases o with
  | none => cases h
  | some r => exact ⟨r, rfl, h⟩
theorem assignEach_one {t : Expr} {env : PySem.Env} (h : notStar t = true) : (assignEach [t] env).map (·.2) = [assign t env] := by
  cases t <;> first | rfl | cases h
theorem noSw_t {v : Expr} {x : Str} {px : Pos} {l : Nat} {env : PySem.Env} (h : ¬ env.scope.names.lookup x = some .local) : swapsWith v (some (.Name x px)) l env = pure false := by
  have e : (env.kindOf x == some NameKind.local) = false := by
    rw [beq_eq_false_iff_ne]
    exact h
  unfold swapsWith
  cases v <;> first | rfl | (simp only [e, Bool.and_false, Bool.false_and])
theorem snd_asgLc {tg it ifs elt : CE} {i : Nat} {x : Str} {px pos : Pos} {v : Expr} (g : GoodS G k X P S) (hN : X.N[i]? = some x) (h : chkE (.lc tg it ifs elt) S v = true) (hc : swapC S x px v = true) :
    PS X (.Assign [.Name x px] v pos) (rdS X.K P fun σ => bnd (evE G (.lc tg it ifs elt) σ) fun d => ret (.nx (putG i (leak false (.lc tg it ifs elt)) true d σ))) := by
  cases v with
  | ListComp el gens scope p =>
    cases gens with
    | nil => cases h
    | cons c1 cr =>
      obtain ⟨tgx, itx, ifsx, asy⟩ := c1
      cases cr with
      | cons _ _ => cases h
      | nil =>
        obtain ⟨h0, w1⟩ := and_t (a := decide (asy = 0)) h
        obtain ⟨h1, w2⟩ := and_t w1
        obtain ⟨h2, w3⟩ := and_t w2
        obtain ⟨h3, w4⟩ := and_t w3
        obtain ⟨h4, w5⟩ := and_t w4
        obtain ⟨h5, w6⟩ := and_t w5
        obtain ⟨h6, h7⟩ := and_t w6
        have ea := dec_t h0
        subst ea
        obtain ⟨q12, q3⟩ := and_t (a := decide (S.sc.names.lookup x = some .local) && (px.line == p.line)) hc
        obtain ⟨q1, q2⟩ := and_t q12
        have ho : (ownOf S tg).map (·.2) = tgs tg := by
          unfold ownOf
          rw [List.map_map]
          exact List.map_id _
        have lx : X.env.scope.names.lookup x = some .local := by rw [g.sc]; exact dec_t q1
        exact snd_asg (ps_setLc g.calm g.nd hN lx (sw_true g.kind lx q2 (not_t q3)) (sndW g.toGood h4) (blkOk_by (by rw [g.N, g.sc]; exact h1)) (fun s H C cl fp => sndG g.toGood.block h3) (fun s H C cl fp => sndTs ifs g.toGood.block h6 (dec_t h5)) (fun s H C cl fp => sndE elt g.toGood.block h7) (folded_of h2))
          fun σ H Q hh => lc_rd ho hh
  | _ => cases h
theorem snd_asgLc2 {tg it ifs tg2 it2 ifs2 elt : CE} {i : Nat} {x : Str} {px pos : Pos} {v : Expr} (g : GoodS G k X P S) (hN : X.N[i]? = some x) (h : chkE (.lc2 tg it ifs tg2 it2 ifs2 elt) S v = true) (hc : swapC S x px v = true) :
    PS X (.Assign [.Name x px] v pos) (rdS X.K P fun σ => bnd (evE G (.lc2 tg it ifs tg2 it2 ifs2 elt) σ) fun d => ret (.nx (putG i (leak false (.lc2 tg it ifs tg2 it2 ifs2 elt)) true d σ))) := by
  cases v with
  | ListComp el gens scope p =>
    cases gens with
    | nil => cases h
    | cons c1 cr =>
      obtain ⟨tgx, itx, ifsx, asy⟩ := c1
      cases cr with
      | nil => cases h
      | cons c2 cr =>
        obtain ⟨tgy, ity, ifsy, asz⟩ := c2
        cases cr with
        | cons _ _ => cases h
        | nil =>
          obtain ⟨h0, w1⟩ := and_t (a := decide (asy = 0)) h
          obtain ⟨h0', w1⟩ := and_t w1
          obtain ⟨h1, w2⟩ := and_t w1
          obtain ⟨h2, w3⟩ := and_t w2
          obtain ⟨h2', w3⟩ := and_t w3
          obtain ⟨h3, w4⟩ := and_t w3
          obtain ⟨h4, w5⟩ := and_t w4
          obtain ⟨h5, w6⟩ := and_t w5
          obtain ⟨h6, w7⟩ := and_t w6
          obtain ⟨k3, w7⟩ := and_t w7
          obtain ⟨k4, w7⟩ := and_t w7
          obtain ⟨k5, w7⟩ := and_t w7
          obtain ⟨k6, h7⟩ := and_t w7
          have ea := dec_t h0
          subst ea
          have ez := dec_t h0'
          subst ez
          have g' := g.toGood
          have hi : PI X tgx itx (rdI X.K P true (leak true it) fun σ => if isIt it then evI G it σ else bnd (evE G it σ) itsM) := by
            rcases or_t h4 with q | q
            · rw [chkE_it q]; exact snd_it (sndE it g' q)
            · rw [chkI_it q]; exact sndI it g' q
          have hi1 : ∀ (s : Shared) (H : Hp) (C : Addr) (cl : List (Str × Addr)) (fp : List Addr), PI (X.blk s H scope (compEnvC scope cl C X.env) fp) tgy ity (rdI X.K P.quiet false (leak false it2) fun σ => if isIt it2 then evI G it2 σ else bnd (evE G it2 σ) itsM) := fun s H C cl fp => by
            rcases or_t k4 with q | q
            · rw [chkE_it q]; exact snd_it (sndE it2 g'.block q)
            · rw [chkI_it q]; exact sndI it2 g'.block q
          obtain ⟨q12, q3⟩ := and_t (a := decide (S.sc.names.lookup x = some .local) && (px.line == p.line)) hc
          obtain ⟨q1, q2⟩ := and_t q12
          have ho : (ownOf2 S tg tg2).map (·.2) = tgs tg ++ tgs tg2 := by
            unfold ownOf2
            rw [List.map_map]
            exact List.map_id _
          have lx : X.env.scope.names.lookup x = some .local := by rw [g.sc]; exact dec_t q1
          exact snd_asg (ps_setLc2 (vs1 := tgs tg2) g.calm g.nd hN lx (sw_true g.kind lx q2 (not_t q3)) hi (blkOk_by (by rw [g.N, g.sc]; exact h1)) (fun i hi => by rw [ho]; exact List.mem_append_right _ hi) (fun s H C cl fp => sndG g'.block h3) (fun s H C cl fp => sndTs ifs g'.block h6 (dec_t h5)) hi1 (fun s H C cl fp => sndG g'.block k3) (fun s H C cl fp => sndTs ifs2 g'.block k6 (dec_t k5)) (fun s H C cl fp => sndE elt g'.block h7) (folded_of h2) fun env x => folded_of h2' x)
            fun σ H Q hh => lc2_rd ho hh
  | _ => cases h
mutual
theorem sndS : ∀ (c : CS) {st : Stmt}, GoodS G k X P S → chkS c S st = true → PS X st (rdS X.K P (evS G c))
  | .nev, st, g, h => PS.weak ps_never fun _ _ _ ⟨_, _, _, _, _, w⟩ => w
  | .ret e, st, g, h => by
    cases st with
    | Return v p => cases v with
      | some x => exact snd_ret (sndE e g.toGood h)
      | none => cases h
    | _ => cases h
  | .retN, st, g, h => by
    cases st with
    | Return v p => cases v with
      | some x => cases h
      | none => exact snd_retN
    | _ => cases h
  | .ex e, st, g, h => by
    cases st with
    | Expr x p =>
      obtain ⟨h1, h2⟩ := and_t (a := notComp x) h
      exact snd_expr (tp := false) (ps_expr (sndE e g.toGood h2) (notComp_t h1)) fun _ _ _ q => q
    | _ => cases h
  | .asg i e, st, g, h => by
    cases st with
    | Assign ts v p => cases ts with
      | nil => cases h
      | cons t r => cases r with
        | cons _ _ => cases t <;> cases h
        | nil => cases t with
          | Name x px =>
            obtain ⟨h1, w2⟩ := and_t (a := decide (S.N[i]? = some x)) h
            obtain ⟨h2, w3⟩ := and_t w2
            obtain ⟨h3, h4⟩ := and_t w3
            rcases or_t h4 with q | q
            · have sw : swapsWith v (some (.Name x px)) p.line X.env = pure false := by
                rcases or_t q with q | q
                · exact notComp_t q
                · exact noSw_t (by rw [g.sc]; exact of_decide_eq_false (not_t q))
              exact snd_asg (ps_set g.nd (g.ix h1) (g.toGood.loc h2).1 (sndE e g.toGood h3) sw (g.toGood.loc h2).2) fun _ _ _ q => q
            · obtain ⟨q1, q2⟩ := and_t q
              cases e with
              | lc tg it ifs elt => exact snd_asgLc g (g.ix h1) h3 q2
              | lc2 tg it ifs tg2 it2 ifs2 elt => exact snd_asgLc2 g (g.ix h1) h3 q2
              | _ => cases q1
          | _ => cases h
    | _ => cases h
  | .asgT tg e, st, g, h => by
    cases st with
    | Assign ts v p => cases ts with
      | nil => cases h
      | cons t r => cases r with
        | cons _ _ => cases h
        | nil =>
          obtain ⟨h1, w2⟩ := and_t (a := notStar t) h
          obtain ⟨h2, w3⟩ := and_t w2
          obtain ⟨h3, w4⟩ := and_t w3
          obtain ⟨h4, h5⟩ := and_t w4
          exact snd_asgT rfl (ps_asg (sndE e g.toGood h5) (sndG g.toGood h3) (notComp_t h2) (sw_none g.sc h4) (assignEach_one h1)) fun _ _ _ q => q
    | _ => cases h
  | .par i j a b, st, g, h => by
    cases st with
    | Assign ts tv p3 => ?_
    | _ => cases h
    obtain ⟨⟨x, px, y, py, u, v⟩, hp, h⟩ := opt_t (o := par2 ts tv) (f := fun r => decide (S.N[i]? = some r.1) && (decide (S.N[j]? = some r.2.2.1) && (decide (i ≠ j) && (decide (S.sc.names.lookup r.1 = some .local) && (decide (S.sc.names.lookup r.2.2.1 = some .local) && (decide (r.1 ≠ r.2.2.1) && (decide (r.2.2.2.1.line = r.2.1.line)
      && (!([r.2.2.2.2.1, r.2.2.2.2.2].all (foldedForSure 8)) && (!([r.2.2.2.2.1, r.2.2.2.2.2].all (constantsAlone 8)) && chkL (.cons a (.cons b .nil)) S [r.2.2.2.2.1, r.2.2.2.2.2]))))))))) (by
        have h : (match par2 ts tv with
          | some (x, px, y, py, u, v) => _
          | none => false) = true := h
        cases q : par2 ts tv with
        | none => rw [q] at h; cases h
        | some r => rw [q] at h; exact h)
    obtain ⟨k1, pt, k2, p2, e1, e2⟩ := par2_eq hp
    subst e1; subst e2
    obtain ⟨h1, w2⟩ := and_t (a := decide (S.N[i]? = some x)) h
    obtain ⟨h2, w3⟩ := and_t w2
    obtain ⟨h3, w4⟩ := and_t w3
    obtain ⟨h4, w5⟩ := and_t w4
    obtain ⟨h5, w6⟩ := and_t w5
    obtain ⟨h6, w7⟩ := and_t w6
    obtain ⟨h7, w8⟩ := and_t w7
    obtain ⟨h8, w9⟩ := and_t w8
    obtain ⟨h9, h10⟩ := and_t w9
    have lx : X.env.scope.names.lookup x = some .local := by rw [g.sc]; exact dec_t h4
    have ly : X.env.scope.names.lookup y = some .local := by rw [g.sc]; exact dec_t h5
    have st := chkL_stars h10
    obtain ⟨s1, s2⟩ := and_t (show (notStar u && [v].all notStar) = true from st)
    obtain ⟨s2, _⟩ := and_t (show (notStar v && [].all notStar) = true from s2)
    exact snd_par g.calm g.nd (g.ix h1) (g.ix h2) (dec_t h3) lx ly (sndL _ g.toGood h10) (sw_two g.kind lx ly (dec_t h6) (dec_t h7) s1 s2 (not_t h8) (not_t h9))
  | .par3 i j l a b c, st, g, h => by
    cases st with
    | Assign ts tv p3 => ?_
    | _ => cases h
    obtain ⟨r, hp, h⟩ := opt_t (o := par3P ts tv) (f := fun r => par3C S i j l r && chkL (.cons a (.cons b (.cons c .nil))) S [r.2.1, r.2.2.1, r.2.2.2]) (by
        have h : (match par3P ts tv with
          | some r => _
          | none => false) = true := h
        cases q : par3P ts tv with
        | none => rw [q] at h; cases h
        | some r => rw [q] at h; exact h)
    obtain ⟨k1, pt, k2, p2, e1, e2⟩ := par3_eq hp
    subst e1; subst e2
    obtain ⟨h1, h2⟩ := and_t h
    have w := par3C_t h1
    have lx : X.env.scope.names.lookup r.1.1 = some .local := by rw [g.sc]; exact w.a7
    have ly : X.env.scope.names.lookup r.1.2.2.1 = some .local := by rw [g.sc]; exact w.a8
    have lz : X.env.scope.names.lookup r.1.2.2.2.2.1 = some .local := by rw [g.sc]; exact w.a9
    have st := chkL_stars h2
    obtain ⟨s1, s2⟩ := and_t (show (notStar r.2.1 && [r.2.2.1, r.2.2.2].all notStar) = true from st)
    obtain ⟨s2, s3⟩ := and_t (show (notStar r.2.2.1 && [r.2.2.2].all notStar) = true from s2)
    obtain ⟨s3, _⟩ := and_t (show (notStar r.2.2.2 && [].all notStar) = true from s3)
    exact snd_par3 g.calm g.nd (g.ix w.a1) (g.ix w.a2) (g.ix w.a3) w.a4 w.a5 w.a6 lx ly lz (sndL _ g.toGood h2) (sw_three g.kind lx ly lz w.b1 w.b2 w.b3 w.b4 w.b5 s1 s2 s3 w.b6 w.b7)
  | .parE i j l a b, st, g, h => by
    cases st with
    | Assign ts tv p3 => ?_
    | _ => cases h
    obtain ⟨r, hp, h⟩ := opt_t (o := par3P ts tv) (f := fun r => par3C S i j l r && chkL (.cons a (.cons b (.cons (.lst .nil) .nil))) S [r.2.1, r.2.2.1, r.2.2.2]) (by
        have h : (match par3P ts tv with
          | some r => _
          | none => false) = true := h
        cases q : par3P ts tv with
        | none => rw [q] at h; cases h
        | some r => rw [q] at h; exact h)
    obtain ⟨k1, pt, k2, p2, e1, e2⟩ := par3_eq hp
    subst e1; subst e2
    obtain ⟨h1, h2⟩ := and_t h
    have w := par3C_t h1
    have lx : X.env.scope.names.lookup r.1.1 = some .local := by rw [g.sc]; exact w.a7
    have ly : X.env.scope.names.lookup r.1.2.2.1 = some .local := by rw [g.sc]; exact w.a8
    have lz : X.env.scope.names.lookup r.1.2.2.2.2.1 = some .local := by rw [g.sc]; exact w.a9
    have st := chkL_stars h2
    obtain ⟨s1, s2⟩ := and_t (show (notStar r.2.1 && [r.2.2.1, r.2.2.2].all notStar) = true from st)
    obtain ⟨s2, s3⟩ := and_t (show (notStar r.2.2.1 && [r.2.2.2].all notStar) = true from s2)
    obtain ⟨s3, _⟩ := and_t (show (notStar r.2.2.2 && [].all notStar) = true from s3)
    obtain ⟨_, q1⟩ := and_t (a := notStar r.2.1) h2
    obtain ⟨q1, q2⟩ := and_t (a := chkE a S r.2.1) q1
    obtain ⟨_, q2⟩ := and_t (a := notStar r.2.2.1) q2
    obtain ⟨q2, q3⟩ := and_t (a := chkE b S r.2.2.1) q2
    obtain ⟨_, q3⟩ := and_t (a := notStar r.2.2.2) q3
    obtain ⟨q3, _⟩ := and_t (a := chkE (.lst .nil) S r.2.2.2) q3
    exact snd_parE g.calm g.nd (g.ix w.a1) (g.ix w.a2) (g.ix w.a3) w.a4 w.a5 w.a6 lx ly lz (sndE a (tp := false) g.toGood q1) (sndE b (tp := false) g.toGood q2) (sndE (.lst .nil) (tp := false) g.toGood q3) (star1 s1) (star1 s2) (star1 s3) (sw_three g.kind lx ly lz w.b1 w.b2 w.b3 w.b4 w.b5 s1 s2 s3 w.b6 w.b7)
  | .parO i j a b, st, g, h => by
    cases st with
    | Assign ts tv p3 => ?_
    | _ => cases h
    obtain ⟨⟨x, px, y, py, u, v⟩, hp, h⟩ := opt_t (o := par2 ts tv) (f := fun r => (parC1 S i j r || parC2 S i j ts tv r) && ((frs a || frs b) && chkL (.cons a (.cons b .nil)) S [r.2.2.2.2.1, r.2.2.2.2.2])) (by
        have h : (match par2 ts tv with
          | some r => _
          | none => false) = true := h
        cases q : par2 ts tv with
        | none => rw [q] at h; cases h
        | some r => rw [q] at h; exact h)
    obtain ⟨k1, pt, k2, p2, e1, e2⟩ := par2_eq hp
    subst e1; subst e2
    obtain ⟨hpar, h⟩ := and_t h
    obtain ⟨hf, h10⟩ := and_t h
    have st := chkL_stars h10
    obtain ⟨s1, s2⟩ := and_t (show (notStar u && [v].all notStar) = true from st)
    obtain ⟨s2, _⟩ := and_t (show (notStar v && [].all notStar) = true from s2)
    obtain ⟨_, q1⟩ := and_t (a := notStar u) h10
    obtain ⟨q1, q2⟩ := and_t (a := chkE a S u) q1
    obtain ⟨_, q2⟩ := and_t (a := notStar v) q2
    obtain ⟨q2, _⟩ := and_t (a := chkE b S v) q2
    have ha := sndE a (tp := false) g.toGood q1
    rcases or_t hpar with h | h
    · obtain ⟨h1, w2⟩ := and_t (a := decide (S.N[i]? = some x)) h
      obtain ⟨h2, w3⟩ := and_t w2
      obtain ⟨h3, w4⟩ := and_t w3
      obtain ⟨h4, w5⟩ := and_t w4
      obtain ⟨h5, w6⟩ := and_t w5
      obtain ⟨h6, w7⟩ := and_t w6
      obtain ⟨h7, w8⟩ := and_t w7
      obtain ⟨h8, h9⟩ := and_t w8
      have lx : X.env.scope.names.lookup x = some .local := by rw [g.sc]; exact dec_t h4
      have ly : X.env.scope.names.lookup y = some .local := by rw [g.sc]; exact dec_t h5
      exact snd_parO g.calm g.nd (g.ix h1) (g.ix h2) (dec_t h3) lx ly ha (sndE b (tp := false) g.toGood q2) (star1 s1) (star1 s2) (sw_two g.kind lx ly (dec_t h6) (dec_t h7) s1 s2 (not_t h8) (not_t h9))
    · obtain ⟨h1, w2⟩ := and_t (a := decide (S.N[i]? = some x)) h
      obtain ⟨h2, w3⟩ := and_t w2
      obtain ⟨h4, w5⟩ := and_t w3
      obtain ⟨h5, w6⟩ := and_t w5
      obtain ⟨w6, _⟩ := and_t (a := swNone S.sc (.Tuple [.Name x px, .Name y py] k1 pt) (.Tuple [u, v] k2 p2)) w6
      exact snd_parC g.calm g.nd (g.ix h1) (g.ix h2) (g.toGood.loc h4).1 (g.toGood.loc h5).1 (g.toGood.loc h4).2 (g.toGood.loc h5).2 ha (sndE b (tp := false) g.toGood q2) (star1 s1) (star1 s2) (sw_none g.sc w6)
  | .dnew i, st, g, h => by
    cases st with
    | Assign ts v p => cases ts with
      | nil => cases h
      | cons t r => cases r with
        | cons _ _ => cases t <;> cases h
        | nil => cases t with
          | Name x px => cases v with
            | Dict ks vs p2 => cases ks with
              | cons _ _ => cases h
              | nil => cases vs with
                | cons _ _ => cases h
                | nil =>
                  obtain ⟨h1, h2⟩ := and_t (a := decide (S.N[i]? = some x)) h
                  exact snd_dnew g.nd (g.ix h1) (g.toGood.loc h2).1 (g.toGood.loc h2).2
            | _ => cases h
          | _ => cases h
    | _ => cases h
  | .rnew i a b, st, g, h => by
    cases st with
    | Assign ts v p => cases ts with
      | nil => cases h
      | cons t r => cases r with
        | cons _ _ => cases t <;> cases h
        | nil => cases t with
          | Name x px => cases v with
            | Call fn args kws p2 => cases fn with
              | Name nm p3 => cases args with
                | nil => cases h
                | cons y ys => cases ys with
                  | nil => cases h
                  | cons z zs => cases zs with
                    | cons _ _ => cases h
                    | nil => cases kws with
                      | cons _ _ => cases h
                      | nil =>
                        obtain ⟨h1, w2⟩ := and_t (a := decide (S.N[i]? = some x)) h
                        obtain ⟨h2, w3⟩ := and_t w2
                        obtain ⟨h3, w4⟩ := and_t w3
                        obtain ⟨h4, w5⟩ := and_t w4
                        obtain ⟨h5, w6⟩ := and_t w5
                        obtain ⟨h6, w7⟩ := and_t w6
                        obtain ⟨h7, h8⟩ := and_t w7
                        obtain ⟨b1, b2, b3, b4⟩ := g.toGood.bl h4
                        have e1 := dec_t h3
                        subst e1
                        exact snd_rnew g.nd (g.ix h1) (g.toGood.loc h2).1 (g.toGood.loc h2).2 b1 b4 (sndE a (tp := false) g.toGood h7) (sndE b (tp := false) g.toGood h8) h5 h6
              | _ => cases h
            | _ => cases h
          | _ => cases h
    | _ => cases h
  | .dput i k e, st, g, h => by
    cases st with
    | Assign ts v p3 => ?_
    | _ => cases h
    obtain ⟨⟨x, ex⟩, hp, h⟩ := opt_t (o := stoP ts) (f := fun r => decide (S.N[i]? = some r.1) && (visB S r.1 && (chkE k S r.2 && chkE e S v))) (by
        have h : (match stoP ts with
          | some (x, ex) => _
          | none => false) = true := h
        cases q : stoP ts with
        | none => rw [q] at h; cases h
        | some r => rw [q] at h; exact h)
    obtain ⟨px, sp, e0⟩ := stoP_eq hp
    subst e0
    obtain ⟨h1, w2⟩ := and_t (a := decide (S.N[i]? = some x)) h
    obtain ⟨h2, w3⟩ := and_t w2
    obtain ⟨h3, h4⟩ := and_t w3
    obtain ⟨a, b, c⟩ := g.toGood.vis h2
    exact snd_dput (by have := g.room.units; omega) (g.ix h1) a b c (sndE e (tp := false) g.toGood h4) (sndE k (tp := true) g.toGood h3)
  | .sto i ix e, st, g, h => by
    cases st with
    | Assign ts v p3 => ?_
    | _ => cases h
    obtain ⟨⟨x, ex⟩, hp, h⟩ := opt_t (o := stoP ts) (f := fun r => decide (S.N[i]? = some r.1) && (visB S r.1 && (notSlice r.2 && (chkE ix S r.2 && chkE e S v)))) (by
        have h : (match stoP ts with
          | some (x, ex) => _
          | none => false) = true := h
        cases q : stoP ts with
        | none => rw [q] at h; cases h
        | some r => rw [q] at h; exact h)
    obtain ⟨px, sp, e0⟩ := stoP_eq hp
    subst e0
    obtain ⟨h1, w2⟩ := and_t (a := decide (S.N[i]? = some x)) h
    obtain ⟨h2, w3⟩ := and_t w2
    obtain ⟨ns, w4⟩ := and_t w3
    obtain ⟨h3, h4⟩ := and_t w4
    obtain ⟨a, b, c⟩ := g.toGood.vis h2
    have hix := sndE ix (tp := false) g.toGood h3
    exact snd_sto (g.ix h1) a b c (sndE e (tp := false) g.toGood h4) hix (pg_sub (pe_var (g.ix h1) a b c) hix set_list (by intro w; cases ex <;> first | rfl | cases ns))
  | .ite c a b, st, g, h => by
    cases st with
    | If x ys zs p =>
      obtain ⟨h1, w2⟩ := and_t (a := chkE c S x) h
      obtain ⟨h2, h3⟩ := and_t w2
      refine PS.eqm ?_ (snd_if (sndT c g.toGood h1) (sndSs a g h2) (sndSs b g h3))
      funext σ
      exact bnd_assoc _ _ _
    | _ => cases h
  | .whl c body, st, g, h => by
    cases st with
    | While x ys zs p => cases zs with
      | nil =>
        obtain ⟨h1, h2⟩ := and_t (a := chkE c S x) h
        exact snd_while g.po (sndT c g.toGood h1) (sndSs body g h2) fuel
      | cons _ _ => cases h
    | _ => cases h
  | .for_ tg it body, st, g, h => by
    cases st with
    | For t x ys zs p => cases zs with
      | nil =>
        obtain ⟨h1, w2⟩ := and_t (a := notSet x) h
        obtain ⟨h2, w3⟩ := and_t w2
        obtain ⟨h3, h4⟩ := and_t w3
        exact snd_for g.po g.calm (sndW g.toGood h3) (sndG g.toGood h2) (sndSs body g h4) (folded_of h1)
      | cons _ _ => cases h
    | _ => cases h
  | .pass, st, g, h => by
    cases st with
    | Pass p => exact snd_pass
    | _ => cases h
  | .brk, st, g, h => by
    cases st with
    | Break p => exact snd_brk
    | _ => cases h
  | .cnt, st, g, h => by
    cases st with
    | Continue p => exact snd_cnt
    | _ => cases h
  | .nil, st, g, h => by cases h
  | .cons _ _, st, g, h => by cases h
  | .cupI _ _, st, g, h => by cases h
  | .aug i op e, st, g, h => by
    cases st with
    | AugAssign t o v p => cases t with
      | Name x px =>
        obtain ⟨h1, w2⟩ := and_t (a := decide (S.N[i]? = some x)) h
        obtain ⟨h2, w3⟩ := and_t w2
        obtain ⟨h3, w4⟩ := and_t w3
        obtain ⟨h4, h5⟩ := and_t w4
        have e1 := dec_t h3
        subst e1
        exact snd_aug g.nd (g.ix h1) (g.toGood.loc h2).1 (g.toGood.loc h2).2 (sndE e g.toGood h5) ((or_t h4).imp dec_t dec_t)
      | _ => cases h
    | _ => cases h
  | .app i e, st, g, h => by
    cases st with
    | Expr ce p3 => ?_
    | _ => cases h
    obtain ⟨⟨x, nm, ap, cp, v⟩, hp, h⟩ := opt_t (o := appP ce) (f := fun r => decide (S.N[i]? = some r.1) && (visB S r.1 && (decide (r.2.1 = "append") && (decide (r.2.2.1.endLine = r.2.2.2.1.line) && (notStar r.2.2.2.2 && chkE e S r.2.2.2.2))))) (by
        have h : (match appP ce with
          | some (x, nm, ap, cp, v) => _
          | none => false) = true := h
        cases q : appP ce with
        | none => rw [q] at h; cases h
        | some r => rw [q] at h; exact h)
    obtain ⟨px, e0⟩ := appP_eq hp
    subst e0
    obtain ⟨h1, w2⟩ := and_t (a := decide (S.N[i]? = some x)) h
    obtain ⟨h2, w3⟩ := and_t w2
    obtain ⟨h3, w4⟩ := and_t w3
    obtain ⟨h4, w5⟩ := and_t w4
    obtain ⟨h5, h6⟩ := and_t w5
    have e1 := dec_t h3
    subst e1
    obtain ⟨a, b, c⟩ := g.toGood.vis h2
    exact snd_app (g.ix h1) a b c (sndE e g.toGood h6) h5 (dec_t h4)
  | .setc i n e, st, g, h => by
    cases st with
    | Assign ts v p3 => ?_
    | _ => cases h
    obtain ⟨⟨x, m⟩, hp, h⟩ := opt_t (o := setP ts) (f := fun r => decide (S.N[i]? = some r.1) && (visB S r.1 && (decide (r.2 = (n : Nat)) && (notComp v && chkE e S v)))) (by
        have h : (match setP ts with
          | some (x, m) => _
          | none => false) = true := h
        cases q : setP ts with
        | none => rw [q] at h; cases h
        | some r => rw [q] at h; exact h)
    obtain ⟨px, j, p4, p5, e0⟩ := setP_eq hp
    subst e0
    obtain ⟨h1, w2⟩ := and_t (a := decide (S.N[i]? = some x)) h
    obtain ⟨h2, w3⟩ := and_t w2
    obtain ⟨h3, w4⟩ := and_t w3
    obtain ⟨h4, h5⟩ := and_t w4
    have e1 := dec_t h3
    subst e1
    obtain ⟨a, b, c⟩ := g.toGood.vis h2
    exact snd_setc (g.ix h1) a b c (sndE e g.toGood h5) (notComp_t h4)
  | .rse j nm msg, st, g, h => by
    cases st with
    | Raise a b p4 => ?_
    | _ => cases h
    obtain ⟨y, hp, h⟩ := opt_t (o := raiseP a b) (f := fun r => decide (S.exs[j]? = some r)) (by
        have h : (match raiseP a b with
          | some y => _
          | none => false) = true := h
        cases q : raiseP a b with
        | none => rw [q] at h; cases h
        | some r => rw [q] at h; exact h)
    obtain ⟨py, m, jj, p2, p3, e0, e1⟩ := raiseP_eq hp
    subst e0; subst e1
    exact snd_raise g.calm g.tk (g.exc j y (dec_t h) m jj py p2 p3)
theorem sndSs : ∀ (c : CS) {sts : List Stmt}, GoodS G k X P S → chkSs c S sts = true → PSs X sts (rdS X.K P (evS G c))
  | .nil, sts, g, h => by
    cases sts with
    | nil => exact snd_snil
    | cons _ _ => cases h
  | .cons a t, sts, g, h => by
    cases sts with
    | nil => cases h
    | cons x xs =>
      obtain ⟨h1, h2⟩ := and_t (a := chkS a S x) h
      exact snd_scons (sndS a g h1) (sndSs t g h2)
  | .ret _, sts, g, h => by cases h
  | .retN, sts, g, h => by cases h
  | .ex _, sts, g, h => by cases h
  | .asg _ _, sts, g, h => by cases h
  | .asgT _ _, sts, g, h => by cases h
  | .par _ _ _ _, sts, g, h => by cases h
  | .par3 _ _ _ _ _ _, sts, g, h => by cases h
  | .parE _ _ _ _ _, sts, g, h => by cases h
  | .parO _ _ _ _, sts, g, h => by cases h
  | .sto _ _ _, sts, g, h => by cases h
  | .dnew _, sts, g, h => by cases h
  | .rnew _ _ _, sts, g, h => by cases h
  | .dput _ _ _, sts, g, h => by cases h
  | .cupI _ _, sts, g, h => by cases h
  | .aug _ _ _, sts, g, h => by cases h
  | .app _ _, sts, g, h => by cases h
  | .setc _ _ _, sts, g, h => by cases h
  | .ite _ _ _, sts, g, h => by cases h
  | .for_ _ _ _, sts, g, h => by cases h
  | .whl _ _, sts, g, h => by cases h
  | .pass, sts, g, h => by cases h
  | .nev, sts, g, h => by cases h
  | .brk, sts, g, h => by cases h
  | .cnt, sts, g, h => by cases h
  | .rse _ _ _, sts, g, h => by cases h
end
end
end OR

/-! defs; the law -/
namespace OR
open PySem PySem.Spec PyProof.Rows L2 TL

theorem ArgsR.get {K : PySem.W.Frag} {O : Addr → Prop} {ac : Option Addr} {H : Hp} : ∀ {as : List Slot} {vs : List V} {i : Nat} {s : Slot}, ArgsR K O ac H as vs → as[i]? = some s → ∃ v, vs[i]? = some v ∧ ArgR K O ac H s v
  | [], _, i, s, _, h => by simp at h
  | a :: as, [], i, s, h, _ => h.elim
  | a :: as, v :: vs, 0, s, h, e => by cases e; exact ⟨v, rfl, h.1⟩
  | a :: as, v :: vs, i + 1, s, h, e => ArgsR.get (as := as) (vs := vs) (i := i) h.2 e
theorem start_get {N : List Str} {vs : List V} {i : Nat} {v : V} (h : vs[i]? = some v) : (L2.start N vs)[i]? = some (some v) := by
  unfold L2.start
  have hl := (List.getElem?_eq_some_iff.mp h).1
  rw [List.getElem?_append_left (by rw [List.length_map]; exact hl), List.getElem?_map, h]; rfl
theorem pad_get {as : List Slot} {n i : Nat} {s : Slot} (h : (as ++ List.replicate n Slot.no)[i]? = some s) (hs : s ≠ .no) : as[i]? = some s := by
  by_cases hl : i < as.length
  · rw [List.getElem?_append_left hl] at h; exact h
  · rw [List.getElem?_append_right (by omega)] at h
    have := (List.getElem?_replicate (a := Slot.no) (n := n) (i := i - as.length)).symm.trans h
    split at this
    · cases this; exact absurd rfl hs
    · cases this
def q0 (H : Hp) (O : Addr → Prop) : Bq := ⟨H, H, O, O⟩
theorem sok_start {K : PySem.W.Frag} {O : Addr → Prop} {ac : Option Addr} {H : Hp} {as : List Slot} {vs : List V} {N : List Str} (h : ArgsR K O ac H as vs) (hd : ODom O H) (ho : ∀ a, ac = some a → O a) :
    SOk K ((q0 H O).bs ac) H (as ++ List.replicate (N.length - as.length) .no) (L2.start N vs) := by
  have hl := h.len
  have noO : ∀ {i : Nat} {a : Addr}, ¬ ownAt (as ++ List.replicate (N.length - as.length) .no) (L2.start N vs) i a := fun {i a} ⟨⟨d, e1, w⟩, e2⟩ => by
    obtain ⟨v, _, q⟩ := h.get (pad_get e1 (by intro z; subst z; cases w))
    cases d with
    | own _ => exact q.elim
    | obj _ => exact q.elim
    | _ => cases w
  have oa : ∀ b, OA ((q0 H O).bs ac) (as ++ List.replicate (N.length - as.length) .no) (L2.start N vs) b → O b := fun b z => z.elim id fun ⟨i, z⟩ => absurd z noO
  refine ⟨?_, hd, ho, fun i d e => ?_, fun i d e => ?_, fun i j a x => absurd x noO, fun i e => ?_, fun i is e => ?_, fun i o e => ?_, Ext1.refl H, fun b x _ z => z, fun b z => .inl (oa b z)⟩
  · unfold L2.start
    rw [List.length_append, List.length_append, List.length_map, List.length_replicate, List.length_replicate, hl]
  · obtain ⟨v, e1, r⟩ := h.get (pad_get e (by intro z; cases z))
    exact ⟨v, start_get e1, Rep.anti oa r⟩
  · obtain ⟨v, _, q⟩ := h.get (pad_get e (by intro z; cases z))
    exact q.elim
  · obtain ⟨v, e1, a, ea, ev⟩ := h.get (pad_get e (by intro z; cases z))
    subst ev
    exact ⟨a, ea, start_get e1⟩
  · obtain ⟨v, e1, a, ev, na, sq⟩ := h.get (pad_get e (by intro z; cases z))
    subst ev
    exact ⟨a, start_get e1, na, sq⟩
  · obtain ⟨v, _, q⟩ := h.get (pad_get e (by intro z; cases z))
    exact q.elim

/-- what is known of the program's names -/
structure Pre (P : Program) (w : World) (K : PySem.W.Frag) (mg : Str → Option Value) (base : Heap) (cls : Nat → Value) (k : Nat) (G : List Den) (S : Sc) : Prop where
  glb : ∀ x d, (x, d) ∈ S.glb → ∃ v u, mg x = some u ∧ RelV v u ∧ ∀ O H, Rep K O H d v
  fun_ : ∀ j x n, S.funs[j]? = some (x, n) → ∃ f fd ps, ps.length = n ∧ mg x = some (.ref f) ∧ PySem.W.keepIn K (.ref f) = true ∧ FnOk P w K mg base (L2.CX P w) k f fd ps (spD K cls (G.getD j fun _ => stk) n) ∧ Binds K fd ps []
  blt : ∀ x, x ∈ S.blt → mg x = none
  exc : ∀ j x, S.exs[j]? = some x → ∃ (C : Addr) (B newId initId : String) (bmB : List Value), cls j = .ref C ∧ mg x = some (.ref C) ∧ PySem.W.keepIn K (.ref C) = true ∧ PySem.W.subIn K (.ref C) (.type "BaseException") = some true ∧ PySem.W.typeIn K (.ref C) = some (.type "type")
    ∧ ExcBaseFacts B newId initId bmB ∧ PySem.W.excIn K C bmB newId = true
section
variable {P : Program} {w : World} {K : PySem.W.Frag} {mg : Str → Option Value} {base : Heap} {cls : Nat → Value} {k : Nat} {G : List Den} {S : Sc}
theorem Pre.mono {j : Nat} (h : Pre P w K mg base cls j G S) (hk : j ≤ k) : Pre P w K mg base cls k G S := ⟨h.glb, fun j x n e => let ⟨f, fd, ps, a, b, c, d, e⟩ := h.fun_ j x n e; ⟨f, fd, ps, a, b, c, d.mono hk, e⟩, h.blt, h.exc⟩
/-- where a def's body runs -/
theorem good_of {qual : Str} {scope : Scope} {f : Addr} {cdv : Value} {A : Around} {outer : List PySem.Env} {s : Shared} {H : Hp} {E : XK} {ps : List Str} {ac : Option Addr} (pre : Pre P w K mg base cls k G S) (sc : FnScope S.N ps scope) (h1 : S.sc = scope) (hx : (S.exs.all fun x => glB S x) = true) (hr : Room k (A.deeper (envOfC qual scope s.heap.objs.size f cdv))) :
    GoodS G k (cxOf (L2.CX P w) P w K mg base S.N qual scope f cdv A outer s H E) ⟨ac, fun c d _ H => E c d H, cls⟩ S := by
  have hsc : (cxOf (L2.CX P w) P w K mg base S.N qual scope f cdv A outer s H E).env.scope = S.sc := by rw [h1]; rfl
  refine ⟨⟨rfl, sc.nd, hsc, fun _ _ => rfl, rfl, hr, takes_of rfl rfl rfl rfl, pre.glb, pre.fun_, pre.blt⟩, passes_of rfl, sc.kind, fun j x e m jj p p2 pos => ?_⟩
  obtain ⟨C, B, newId, initId, bmB, e1, e2, e3, e4, e5, e6, e7⟩ := pre.exc j x e
  have hg : glB S x = true := List.all_eq_true.mp hx x (List.mem_of_getElem? e)
  obtain ⟨g1, g2⟩ := and_t hg
  have gl : Gl (cxOf (L2.CX P w) P w K mg base S.N qual scope f cdv A outer s H E) x := by
    show scope.names.lookup x = _
    rw [← h1]; exact dec_t g1
  have q := pmk_own (X := cxOf (L2.CX P w) P w K mg base S.N qual scope f cdv A outer s H E) (j := jj) (p := p) (p2 := p2) (pos := pos) (m := m) e6 e7 e2 e3 (raises_own e4 e5) gl (okName_t g2).1
  show PMk _ _ fun _ H Q => Q (cls j) none H
  rw [e1]
  exact q
/-- a def's promise off its checked term -/
theorem fn_ok {x qual : Str} {st : Stmt} {f : Addr} {fd : FuncData} {ps : List Str} {body : CS} (F : Fun K x qual st f fd) (sc : FnScope S.N ps (defScope st)) (h1 : S.sc = defScope st) (hx : (S.exs.all fun x => glB S x) = true) (h2 : chkSs body S (defBody st) = true) (pre : Pre P w K mg base cls k G S) :
    FnOk P w K mg base (L2.CX P w) (k + 1) f fd ps (spD K cls (run G S.N.length body) ps.length) := by
  refine F.okX sc (fun vs H Q E ⟨O, ac, as, cu, h, hl, _⟩ => by rw [← h.len]; exact hl) fun cdv A outer s H vs Q E hr ⟨O, ac, as, cu, h, hl, hd, ho, hc, hw⟩ => ?_
  have g := good_of (ac := ac) (qual := qual) (f := f) (cdv := cdv) (outer := outer) (s := s) (H := H) (E := E) pre sc h1 hx hr
  refine ⟨_, sndSs body g h2, q0 H O, _, cu, sok_start h hd ho, hc, wpM_mono (wpM_bnd hw) (fun o cu1 hw1 => ?_) fun x cu1 h σ' H' e c => h H' e c⟩
  cases o with
  | rt d => exact fun v H' e c r => hw1 v H' e c r
  | nx δ' => exact fun σ' H' hS hc' => hw1 .non H' hS.ext1 hc' rfl
  | bk _ => exact hw1.elim
  | ct _ => exact hw1.elim
/-- the law's promise, and what its term has to do -/
def spLaw (K : PySem.W.Frag) (n : Nat) : Sp := fun vs H Q _ => ∃ (a : Addr) (ns : List Int), vs = [.ref a] ∧ SqL K H a (ns.map V.int) ∧ ns.length ≤ n ∧ ∀ H', Q (.bl true) H'
def LawP (G : List Den) (nn : Nat) (e0 : CE) (rest : CS) (n : Nat) : Prop := ∀ ns : List Int, ns.length ≤ n → wpM (evE G e0 (.scr ns :: List.replicate (nn - 1) .no) none)
  (fun d cu => cu = none ∧ ∃ a b, d = .list [.int a, .int b] ∧ wpM (evS G rest (.no :: .cup :: List.replicate (nn - 2) .no) (some (a, b))) (fun o _ => o = .rt (.bool true)) fun _ _ => False) fun _ _ => False
theorem law_ok {x qual : Str} {st : Stmt} {f : Addr} {fd : FuncData} {e0 : CE} {rest : CS} {n : Nat} (F : Fun K x qual st f fd) (sc : FnScope S.N ["script"] (defScope st)) (h1 : S.sc = defScope st) (hx : (S.exs.all fun x => glB S x) = true)
    (h2 : chkSs (.cons (.asg 1 e0) rest) S (defBody st) = true) (hN : 2 ≤ S.N.length) (hf : frs e0 = false) (pre : Pre P w K mg base cls k G S) (hL : LawP G S.N.length e0 rest n) : FnOk P w K mg base (L2.CX P w) (k + 1) f fd ["script"] (spLaw K n) := by
  refine F.okX sc (fun vs H Q E ⟨a, ns, e, _⟩ => by rw [e]; rfl) fun cdv A outer s H vs Q E hr ⟨a, ns, e, hsq, hlen, hQ⟩ => ?_
  subst e
  have g := fun ac => good_of (ac := ac) (qual := qual) (f := f) (cdv := cdv) (outer := outer) (s := s) (H := H) (E := E) pre sc h1 hx hr
  obtain ⟨st0, sts, eb, c0, cr⟩ : ∃ st0 sts, defBody st = st0 :: sts ∧ chkS (.asg 1 e0) S st0 = true ∧ chkSs rest S sts = true := by
    cases q : defBody st with
    | nil => rw [q] at h2; cases h2
    | cons st0 sts =>
      rw [q] at h2
      obtain ⟨z1, z2⟩ := and_t (a := chkS (.asg 1 e0) S st0) h2
      exact ⟨st0, sts, rfl, z1, z2⟩
  rw [eb]
  have p1 := sndS (.asg 1 e0) (g none) c0
  have p2 : PSs (cxOf (L2.CX P w) P w K mg base S.N qual (defScope st) f cdv A outer s H E) sts (fun Dn σ H => ∃ p : Addr, rdS K ⟨some p, fun c d _ H => E c d H, cls⟩ (evS G rest) Dn σ H) :=
    ⟨fun pins s σ H D I ⟨p, h⟩ => (sndSs rest (g (some p)) cr).run pins s σ H D I h⟩
  refine ⟨_, pss_cons p1 p2, ?_⟩
  have args : ArgsR K (fun _ => False) none H [.scr ns] [.ref a] := ⟨⟨a, rfl, by simp, hsq⟩, trivial⟩
  have hS := sok_start (N := S.N) args (fun b hb => hb.elim) (fun a e => by cases e)
  refine ⟨q0 H fun _ => False, _, none, hS, trivial, ?_⟩
  have hw := hL ns hlen
  have ed : ([Slot.scr ns] ++ List.replicate (S.N.length - 1) Slot.no) = .scr ns :: List.replicate (S.N.length - 1) .no := rfl
  show wpM (bnd (evE G e0 ([Slot.scr ns] ++ List.replicate (S.N.length - 1) Slot.no)) (fun d => ret (Out.nx (put 1 e0 d ([Slot.scr ns] ++ List.replicate (S.N.length - 1) Slot.no)))) none) _ _
  rw [ed]
  unfold bnd
  cases q : evE G e0 (.scr ns :: List.replicate (S.N.length - 1) .no) none with
  | no => rw [q] at hw; exact hw.elim
  | ex z c => rw [q] at hw; exact hw.elim
  | ok d cu =>
    rw [q] at hw
    obtain ⟨ec, i, j, rfl, hw2⟩ := hw
    intro σ' H' hS' hc'
    have e1 : (put 1 e0 (.list [.int i, .int j]) (.scr ns :: List.replicate (S.N.length - 1) .no))[1]? = some (.val (.list [.int i, .int j])) := by
      unfold put putG
      rw [hf]
      exact List.getElem?_set_self (by rw [frz_len]; simp; omega)
    obtain ⟨v, ev, r⟩ := hS'.val 1 _ e1
    obtain ⟨hz, p, xs, rfl, np, hp, rl⟩ := r
    have exs := rl.ints (as := [i, j]) rfl
    subst exs
    refine ⟨p, q0 H' (fun b => b = p), .no :: .cup :: List.replicate (S.N.length - 2) .no, some (i, j), ?_, hp, wpM_mono hw2 (fun o c ho => ?_) fun _ _ h => h.elim⟩
    · have hlS : σ'.length = S.N.length := by
        have := hS'.len
        unfold put putG at this
        rw [List.length_set, frz_len] at this
        rw [← this]; simp; omega
      have sl : ∀ {m : Nat} {s : Slot}, (Slot.no :: Slot.cup :: List.replicate (S.N.length - 2) Slot.no)[m]? = some s → s ≠ .no → m = 1 ∧ s = .cup := fun {m s} hm hs => by
        match m with
        | 0 => cases hm; exact absurd rfl hs
        | 1 => cases hm; exact ⟨rfl, rfl⟩
        | m + 2 =>
          have hm : (List.replicate (S.N.length - 2) Slot.no)[m]? = some s := hm
          rw [List.getElem?_replicate] at hm
          split at hm
          · cases hm; exact absurd rfl hs
          · cases hm
      have noO : ∀ {m : Nat} {b : Addr}, ¬ ownAt (Slot.no :: Slot.cup :: List.replicate (S.N.length - 2) Slot.no) σ' m b := fun {m b} ⟨⟨d, z1, w⟩, _⟩ => by
        have := (sl z1 (by intro z; subst z; cases w)).2
        subst this
        cases w
      have oa : ∀ b, OA ((q0 H' (fun b => b = p)).bs (some p)) (Slot.no :: Slot.cup :: List.replicate (S.N.length - 2) Slot.no) σ' b → b = p := fun b z => z.elim id fun ⟨m, z⟩ => absurd z noO
      refine ⟨by rw [hlS]; simp; omega, fun b hb => ⟨.lst [V.int i, V.int j], by rw [show b = p from hb]; exact hp, trivial⟩, fun b e => by cases e; rfl, fun m d z => ?_, fun m d z => ?_, fun m m' b x => absurd x noO, fun m z => ?_, fun m is z => ?_, fun m o z => ?_, Ext1.refl H', fun b x _ z => z, fun b z => .inl (oa b z)⟩
      · have := (sl z (by intro z; cases z)).2; cases this
      · have := (sl z (by intro z; cases z)).2; cases this
      · have := (sl z (by intro z; cases z)).1
        subst this
        exact ⟨p, rfl, ev⟩
      · have := (sl z (by intro z; cases z)).2; cases this
      · have := (sl z (by intro z; cases z)).2; cases this
    · subst ho
      intro v H'' _ _ rv
      have rv : v = .bl true := rv
      subst rv
      exact hQ H''
end
end OR

/-! how a program's facts are put together -/
namespace OR
open PySem PySem.Spec PyProof.Rows L2 TL
section
variable (P : Program) (w : World) (K : PySem.W.Frag) (mg : Str → Option Value) (base : Heap) (cls : Nat → Value) (k : Nat)
def FunOk1 (x : Str) (n : Nat) (den : Den) : Prop := ∃ (f : Addr) (fd : FuncData) (ps : List Str), ps.length = n ∧ mg x = some (.ref f) ∧ PySem.W.keepIn K (.ref f) = true ∧ FnOk P w K mg base (L2.CX P w) k f fd ps (spD K cls den n) ∧ Binds K fd ps []
def GlbOk1 (x : Str) (d : D) : Prop := ∃ v u, mg x = some u ∧ RelV v u ∧ ∀ O H, Rep K O H d v
def FunsOk : List (Str × Nat) → List Den → Prop
  | [], _ => True
  | (x, n) :: r, [] => False
  | (x, n) :: r, d :: G => FunOk1 P w K mg base cls k x n d ∧ FunsOk r G
def GlbsOk : List (Str × D) → Prop
  | [] => True
  | (x, d) :: r => GlbOk1 K mg x d ∧ GlbsOk r
def BltsOk : List Str → Prop
  | [] => True
  | x :: r => mg x = none ∧ BltsOk r
end
section
variable {P : Program} {w : World} {K : PySem.W.Frag} {mg : Str → Option Value} {base : Heap} {cls : Nat → Value} {k : Nat}
theorem FunOk1.up {j : Nat} {x : Str} {n : Nat} {den : Den} (h : FunOk1 P w K mg base cls j x n den) (hk : j ≤ k) : FunOk1 P w K mg base cls k x n den :=
  let ⟨f, fd, ps, a, b, c, d, e⟩ := h; ⟨f, fd, ps, a, b, c, d.mono hk, e⟩
theorem FunsOk.get : ∀ {funs : List (Str × Nat)} {G : List Den}, FunsOk P w K mg base cls k funs G → ∀ j x n, funs[j]? = some (x, n) → FunOk1 P w K mg base cls k x n (G.getD j fun _ => stk)
  | [], _, _, j, x, n, e => by simp at e
  | (y, m) :: r, [], h, _, _, _, _ => h.elim
  | (y, m) :: r, d :: G, h, 0, x, n, e => by cases e; exact h.1
  | (y, m) :: r, d :: G, h, j + 1, x, n, e => by
    have := FunsOk.get (funs := r) (G := G) h.2 j x n e
    simpa using this
theorem GlbsOk.get : ∀ {l : List (Str × D)}, GlbsOk K mg l → ∀ x d, (x, d) ∈ l → GlbOk1 K mg x d
  | [], _, x, d, e => by cases e
  | (y, m) :: r, h, x, d, e => by
    rcases List.mem_cons.mp e with e | e
    · cases e; exact h.1
    · exact GlbsOk.get h.2 x d e
theorem BltsOk.get : ∀ {l : List Str}, BltsOk mg l → ∀ x, x ∈ l → mg x = none
  | [], _, x, e => by cases e
  | y :: r, h, x, e => by
    rcases List.mem_cons.mp e with e | e
    · cases e; exact h.1
    · exact BltsOk.get h.2 x e
theorem pre_of {G : List Den} {S : Sc} (h1 : GlbsOk K mg S.glb) (h2 : FunsOk P w K mg base cls k S.funs G) (h3 : BltsOk mg S.blt) (h4 : S.exs = [] := by rfl) : Pre P w K mg base cls k G S :=
  ⟨h1.get, h2.get, h3.get, fun j x e => by rw [h4] at e; simp at e⟩
/-- a datum that lies in the frozen part -/
def KD (K : PySem.W.Frag) (d : D) (u : Value) : Prop := ∃ v, RelV v u ∧ ∀ O H, Rep K O H d v
def KDs (K : PySem.W.Frag) : List D → List Value → Prop
  | [], [] => True
  | d :: ds, u :: us => KD K d u ∧ KDs K ds us
  | _, _ => False
theorem KD.glb {x : Str} {d : D} {u : Value} (h : KD K d u) (e : mg x = some u) : GlbOk1 K mg x d := let ⟨v, r, q⟩ := h; ⟨v, u, e, r, q⟩
theorem KD.int {i : Int} {t : Tok} : KD K (.int i) (.int i t) := ⟨.int i, ⟨t, rfl⟩, fun _ _ => rfl⟩
theorem KD.str {z : Str} {t : Tok} (h : z.length ≤ sizeLine) : KD K (.str z) (.str z t) := ⟨.str z, ⟨t, rfl⟩, fun _ _ => ⟨rfl, h⟩⟩
theorem KDs.get : ∀ {ds : List D} {us : List Value}, KDs K ds us → ∃ xs, Vals xs us ∧ ∀ O H, RepL K O H ds xs
  | [], [], _ => ⟨[], .nil, fun _ _ => trivial⟩
  | d :: ds, u :: us, h => by
    obtain ⟨v, r, q⟩ := h.1
    obtain ⟨xs, rs, qs⟩ := KDs.get h.2
    exact ⟨v :: xs, .cons r rs, fun O H => ⟨q O H, qs O H⟩⟩
  | [], _ :: _, h => h.elim
  | _ :: _, [], h => h.elim
theorem KD.sz {its : Array Value} {k : Nat} (h : its.size = k) (hk : k ≤ 1000000) : its.size ≤ sizeLine := by rw [h, sizeLine_eq]; omega
theorem KD.tup {a : Addr} {o : Obj} {its : Array Value} {n : Nat} {ds : List D} (h : K.lookup a = some o) (c : o.cls = .type "tuple") (e : o.data = .seq its n) (hz : its.size ≤ sizeLine) (hd : ds.length ≤ sizeLine) (q : KDs K ds its.toList) : KD K (.tuple ds) (.ref a) := by
  obtain ⟨xs, rs, qs⟩ := q.get
  exact ⟨.ref a, rfl, fun O H => ⟨hd, a, xs, rfl, .inr ⟨o, its, n, h, c, e, hz, rs⟩, qs O H⟩⟩
theorem fn_stk {f : Addr} {fd : FuncData} {ps : List Str} {n : Nat} (hn : ps.length = n := by rfl) : FnOk P w K mg base (L2.CX P w) k f fd ps (spD K cls (fun _ => stk) n) :=
  ⟨fun vs H Q E ⟨O, ac, as, cu, h, hl, _⟩ => by rw [hn, ← hl, h.len], fun A outer s H args us vs Q E hr he hb hv ⟨O, ac, as, cu, h, hl, _, _, _, hw⟩ => hw.elim⟩
theorem cx_no {P : Program} {w : World} {H : Hp} {s : Shared} {e : Value} {s' : Shared} (h : L2.CX P w [] H s (fun _ _ _ => False) e s') : False := by
  obtain ⟨_, _, _, _, _, _, _, _, _, _, _, _, z⟩ := h
  exact z
end
end OR

/-! how terms are run: equations -/
namespace OR
open PySem
/-- what a run gives (not opened by the elaborator: it would run the program) -/
@[irreducible] def wpX {α : Type} (r : R α) (P : α → Cu → Prop) (E : Nat → Cu → Prop) : Prop := wpM r P E
theorem wpX_eq {α : Type} {r : R α} {P : α → Cu → Prop} {E : Nat → Cu → Prop} : wpX r P E = wpM r P E := by with_unfolding_all rfl
theorem wpX_ok {α : Type} {a : α} {c : Cu} {P : α → Cu → Prop} {E : Nat → Cu → Prop} : wpX (.ok a c) P E = P a c := by rw [wpX_eq]; rfl
theorem wpX_ex {α : Type} {x : Nat} {c : Cu} {P : α → Cu → Prop} {E : Nat → Cu → Prop} : wpX (α := α) (.ex x c) P E = E x c := by rw [wpX_eq]; rfl
theorem wpX_no {α : Type} {P : α → Cu → Prop} {E : Nat → Cu → Prop} : wpX (α := α) .no P E = False := by rw [wpX_eq]; rfl
theorem wpX_mono {α : Type} {r : R α} {P P' : α → Cu → Prop} {E E' : Nat → Cu → Prop} (h : wpX r P E) (hp : ∀ a c, P a c → P' a c) (he : ∀ x c, E x c → E' x c) : wpX r P' E' := by
  rw [wpX_eq] at h ⊢
  exact wpM_mono h hp he
theorem lawP_of {G : List Den} {nn : Nat} {e0 : CE} {rest : CS} {n : Nat} (h : ∀ ns : List Int, ns.length ≤ n → wpX (evE G e0 (.scr ns :: List.replicate (nn - 1) .no) none)
    (fun d cu => cu = none ∧ ∃ a b, d = .list [.int a, .int b] ∧ wpX (evS G rest (.no :: .cup :: List.replicate (nn - 2) .no) (some (a, b))) (fun o _ => o = .rt (.bool true)) fun _ _ => False) fun _ _ => False) : LawP G nn e0 rest n := by
  intro ns hn
  have q := h ns hn
  rw [wpX_eq] at q
  exact wpM_mono q (fun d cu ⟨h1, a, b, h2, h3⟩ => ⟨h1, a, b, h2, by rw [wpX_eq] at h3; exact h3⟩) fun _ _ z => z
section
variable {α β : Type} {c : Cu} {P : α → Cu → Prop} {E : Nat → Cu → Prop}
theorem wp_bnd {m : M β} {f : β → M α} : wpX (bnd m f c) P E = wpX (m c) (fun a c' => wpX (f a c') P E) E := by
  unfold bnd
  cases m c with
  | ok a c' => rw [wpX_ok]
  | ex x c' => rw [wpX_ex, wpX_ex]
  | no => rw [wpX_no, wpX_no]
theorem wp_ret {a : α} : wpX (OR.ret a c) P E = P a c := wpX_ok
theorem wp_some {a : α} : wpX (lft (some a) c) P E = P a c := wpX_ok
theorem wp_tru {b : Bool} {P : Bool → Cu → Prop} : wpX (tru (.bool b) c) P E = P b c := wpX_ok
theorem wp_nox {m : M α} : wpX (nox m c) P E = wpX (m c) P fun _ _ => False := by
  unfold nox
  cases m c with
  | ok a c' => rw [wpX_ok, wpX_ok]
  | ex x c' => rw [wpX_no, wpX_ex]
  | no => rw [wpX_no, wpX_no]
theorem wp_if {b : Bool} {m n : M α} : wpX ((if b = true then m else n) c) P E = if b = true then wpX (m c) P E else wpX (n c) P E := by cases b <;> rfl
theorem wp_of {m : M α} {a : α} {c' : Cu} (h : m c = .ok a c') : wpX (m c) P E = P a c' := by rw [h, wpX_ok]
theorem ok_of {m : M α} {a : α} {c' : Cu} (h : wpX (m c) (fun x k => x = a ∧ k = c') fun _ _ => False) : m c = .ok a c' := by
  cases q : m c with
  | ok x k => rw [q, wpX_ok] at h; rw [h.1, h.2]
  | ex x k => rw [q, wpX_ex] at h; exact h.elim
  | no => rw [q, wpX_no] at h; exact h.elim
/-- a comprehension whose parts are plain -/
theorem lcM_eq {f : D → M (Option D)} {g : D → Option D} {c : Cu} : ∀ {xs : List D}, (∀ x ∈ xs, f x c = .ok (g x) c) → lcM f xs c = .ok (xs.filterMap g) c
  | [], _ => rfl
  | x :: xs, h => by
    show bnd (f x) (fun o => bnd (lcM f xs) fun ys => OR.ret (match o with | some y => y :: ys | none => ys)) c = _
    unfold bnd
    rw [h x (List.mem_cons_self ..)]
    dsimp only
    rw [lcM_eq (xs := xs) fun y hy => h y (List.mem_cons_of_mem _ hy)]
    dsimp only
    rw [List.filterMap_cons]
    cases g x <;> rfl
/-- a comprehension that draws: what each part gives -/
theorem lcM_wp {f : D → M (Option D)} {I : Cu → Prop} {R : D → Prop} : ∀ {xs : List D} {c : Cu} {P : List D → Cu → Prop}, I c → (∀ x ∈ xs, ∀ c, I c → wpX (f x c) (fun o c' => ∃ y, o = some y ∧ R y ∧ I c') fun _ _ => False) →
    (∀ ys c', I c' → ys.length = xs.length → (∀ y ∈ ys, R y) → P ys c') → wpX (lcM f xs c) P fun _ _ => False
  | [], c, P, hc, _, hP => Eq.mpr wpX_ok (hP [] c hc rfl fun y h => by cases h)
  | x :: xs, c, P, hc, h, hP => by
    show wpX (bnd (f x) (fun o => bnd (lcM f xs) fun ys => OR.ret (match o with | some y => y :: ys | none => ys)) c) P _
    rw [wp_bnd]
    refine wpX_mono (h x (List.mem_cons_self ..) c hc) (fun o c1 ⟨y, e, r, h1⟩ => ?_) fun _ _ z => z
    subst e
    rw [wp_bnd]
    refine lcM_wp h1 (fun z hz => h z (List.mem_cons_of_mem _ hz)) fun ys c2 h2 hl hr => ?_
    exact Eq.mpr wpX_ok <| hP (y :: ys) c2 h2 (by rw [List.length_cons, List.length_cons, hl]) fun z hz => (List.mem_cons.mp hz).elim (fun e => e ▸ r) (hr z)
/-- a loop whose turns all end well -/
theorem forM_wp {f : D → Env → M Out} {I : Env → Cu → Prop} {E : Nat → Cu → Prop} {P : Out → Cu → Prop} : ∀ {xs : List D} {σ : Env} {c : Cu}, I σ c → (∀ x ∈ xs, ∀ σ c, I σ c → wpX (f x σ c) (fun o c' => ∃ σ', (o = .nx σ' ∨ o = .ct σ') ∧ I σ' c') E) →
    (∀ σ' c', I σ' c' → P (.nx σ') c') → wpX (forM f xs σ c) P E
  | [], σ, c, hc, _, hP => Eq.mpr wpX_ok (hP σ c hc)
  | x :: xs, σ, c, hc, h, hP => by
    show wpX (bnd (f x σ) _ c) P E
    rw [wp_bnd]
    refine wpX_mono (h x (List.mem_cons_self ..) σ c hc) (fun o c1 ⟨σ', e, h1⟩ => ?_) fun _ _ z => z
    rcases e with e | e <;> subst e <;> exact forM_wp h1 (fun z hz => h z (List.mem_cons_of_mem _ hz)) hP
end
section
variable (G : List Den) (σ : Env)
theorem e_var (i : Nat) : evE G (.var i) σ = match getS σ i with
  | .val d => OR.ret d
  | .own d => OR.ret d
  | _ => stk := rfl
theorem e_cst (d : D) : evE G (.cst d) σ = OR.ret d := rfl
theorem e_cup (i k : Nat) : evE G (.cupR i k) σ = cupM k (getS σ i) := rfl
theorem e_glb (d : D) (x : Str) : evE G (.glb d x) σ = OR.ret d := rfl
theorem e_tup (es : CE) : evE G (.tup es) σ = bnd (evL G es σ) fun ds => OR.ret (.tuple ds) := rfl
theorem e_lst (es : CE) : evE G (.lst es) σ = bnd (evL G es σ) fun ds => OR.ret (.list ds) := rfl
theorem e_bin (op : Operator) (a b : CE) : evE G (.bin op a b) σ = bnd (evE G a σ) fun x => bnd (evE G b σ) fun y => lft (binD op x y) := rfl
theorem e_not (a : CE) : evE G (.not a) σ = bnd (evE G a σ) fun x => bnd (tru x) fun b => OR.ret (.bool (!b)) := rfl
theorem e_neg (a : CE) : evE G (.neg a) σ = bnd (evE G a σ) fun x => match x with
  | .int i => OR.ret (.int (-i))
  | _ => stk := rfl
theorem e_cmp (op : CmpOp) (a b : CE) : evE G (.cmp op a b) σ = bnd (evE G a σ) fun x => bnd (evE G b σ) fun y => lft (cmpD op x y) := rfl
theorem e_chn (o p : CmpOp) (a b c : CE) : evE G (.chn o p a b c) σ = bnd (evE G a σ) fun x => bnd (evE G b σ) fun y => bnd (lft (cmpD o x y)) fun z => bnd (tru z) fun k =>
      if k then bnd (evE G c σ) fun u => lft (cmpD p y u) else OR.ret (.bool false) := rfl
theorem e_and (es : CE) : evE G (.and es) σ = evAnd G es σ := rfl
theorem e_or (es : CE) : evE G (.or es) σ = evOr G es σ := rfl
theorem e_and1 (a : CE) : evAnd G (.cons a .nil) σ = evE G a σ := rfl
theorem e_and2 (a b r : CE) : evAnd G (.cons a (.cons b r)) σ = bnd (evE G a σ) fun x => bnd (tru x) fun k => if k then evAnd G (.cons b r) σ else OR.ret (.bool false) := rfl
theorem e_or1 (a : CE) : evOr G (.cons a .nil) σ = evE G a σ := rfl
theorem e_or2 (a b r : CE) : evOr G (.cons a (.cons b r)) σ = bnd (evE G a σ) fun x => bnd (tru x) fun k => if k then OR.ret (.bool true) else evOr G (.cons b r) σ := rfl
theorem e_ite (c a b : CE) : evE G (.ite c a b) σ = bnd (evE G c σ) fun x => bnd (tru x) fun k => if k then evE G a σ else evE G b σ := rfl
theorem e_sub (a i : CE) : evE G (.sub a i) σ = bnd (evE G a σ) fun x => bnd (evE G i σ) fun y => lft (subD x y) := rfl
theorem e_rev (a : CE) : evE G (.rev a) σ = bnd (evE G a σ) fun x => lft (revD x) := rfl
theorem e_call (j : Nat) (es : CE) : evE G (.call j es) σ = bnd (evA G es σ) fun as => (G.getD j fun _ => stk) as := rfl
theorem e_bi (f : BI) (es : CE) : evE G (.bi f es) σ = bnd (evL G es σ) fun ds => lft (biD f ds) := rfl
theorem e_mth (m : MI) (o es : CE) : evE G (.mth m o es) σ = bnd (evE G o σ) fun x => if recv m x then bnd (evL G es σ) fun ds => lft (mthD m x ds) else stk := rfl
theorem e_lc (tg it ifs elt : CE) : evE G (.lc tg it ifs elt) σ = bnd (if isIt it then evI G it σ else bnd (evE G it σ) itsM) fun items => bnd (nox (lcM (fun d =>
      bnd (lft (bindT tg d (wip (tgs tg) σ))) fun σ' => bnd (evT G ifs σ') fun k => if k then bnd (evE G elt σ') fun y => OR.ret (some y) else OR.ret none) items)) fun ys => OR.ret (.list ys) := rfl
theorem l_nil : evL G .nil σ = OR.ret [] := rfl
theorem l_cons (h t : CE) : evL G (.cons h t) σ = bnd (evE G h σ) fun x => bnd (evL G t σ) fun xs => OR.ret (x :: xs) := rfl
theorem t_nil : evT G .nil σ = OR.ret true := rfl
theorem t_cons (h t : CE) : evT G (.cons h t) σ = bnd (evE G h σ) fun x => bnd (tru x) fun k => if k then evT G t σ else OR.ret false := rfl
theorem s_nil : evS G .nil σ = OR.ret (.nx σ) := rfl
theorem s_cons (h t : CS) : evS G (.cons h t) σ = bnd (evS G h σ) fun o => match o with
    | .nx σ' => evS G t σ'
    | o => OR.ret o := rfl
theorem s_ret (e : CE) : evS G (.ret e) σ = bnd (evE G e σ) fun d => OR.ret (.rt d) := rfl
theorem s_asg (i : Nat) (e : CE) : evS G (.asg i e) σ = bnd (evE G e σ) fun d => OR.ret (.nx (put i e d σ)) := rfl
theorem s_ite (c : CE) (a b : CS) : evS G (.ite c a b) σ = bnd (evE G c σ) fun x => bnd (tru x) fun k => if k then evS G a σ else evS G b σ := rfl
theorem s_setc (i k : Nat) (e : CE) : evS G (.setc i k e) σ = bnd (evE G e σ) fun y => setcM k (getS σ i) y σ := rfl
theorem s_for (tg it : CE) (body : CS) : evS G (.for_ tg it body) σ = bnd (evW G it σ) fun items => forM (fun d σ => bnd (lft (bindT tg d σ)) fun σ' => evS G body σ') items (frz (leak false it) σ) := rfl
theorem s_par (i j : Nat) (a b : CE) : evS G (.par i j a b) σ = bnd (evL G (.cons a (.cons b .nil)) σ) fun ds => parM i j ds (frz (leak false a ++ (leak false b ++ [])) σ) := rfl
end
/-! values -/
theorem b_add (i j : Int) : binD .Add (.int i) (.int j) = some (.int (i + j)) := rfl
theorem b_sub (i j : Int) : binD .Sub (.int i) (.int j) = some (.int (i - j)) := rfl
theorem b_mul {i j : Int} (h : small i = true ∨ small j = true) : binD .Mult (.int i) (.int j) = some (.int (i * j)) := by
  show (if (small i || small j) = true then some (PyData.int (i * j)) else none) = _
  rw [if_pos (by rcases h with h | h <;> rw [h] <;> simp)]
theorem b_mod {i j : Int} (h : 0 < j) : binD .Mod (.int i) (.int j) = some (.int (i % j)) := if_pos h
theorem b_div {i j : Int} (h : 0 < j) (h2 : j < 1073741824) : binD .FloorDiv (.int i) (.int j) = some (.int (i / j)) := if_pos ⟨h, h2⟩
theorem c_gt (i j : Int) : cmpD .Gt (.int i) (.int j) = some (.bool (decide (j < i))) := rfl
theorem c_lt (i j : Int) : cmpD .Lt (.int i) (.int j) = some (.bool (decide (i < j))) := rfl
theorem c_ge (i j : Int) : cmpD .GtE (.int i) (.int j) = some (.bool (!decide (i < j))) := rfl
theorem c_le (i j : Int) : cmpD .LtE (.int i) (.int j) = some (.bool (!decide (j < i))) := rfl
theorem c_eq (i j : Int) : cmpD .Eq (.int i) (.int j) = some (.bool (decide (i = j))) := rfl
theorem f_int (i : Int) : biD .int [.int i] = some (.int i) := rfl
theorem small_of {i : Int} (h1 : 0 ≤ i) (h2 : i < 1000000000000) : small i = true := by
  unfold small
  rw [decide_eq_true (by omega : -(2 ^ 64) < i), decide_eq_true (by omega : i < 2 ^ 64)]; rfl
/-- the end of a def -/
def wpR (P : D → Cu → Prop) (E : Nat → Cu → Prop) : Out → Cu → Prop
  | .rt d, c => P d c
  | .nx _, c => P .none c
  | _, _ => False
theorem wp_run {G : List Den} {n : Nat} {body : CS} {as : List Slot} {c : Cu} {P : D → Cu → Prop} {E : Nat → Cu → Prop} : wpX (OR.run G n body as c) P E = wpX (evS G body (as ++ List.replicate (n - as.length) .no) c) (wpR P E) E := by
  unfold OR.run
  rw [wp_bnd]
  congr 1
  funext o c'
  cases o with
  | rt d => exact wpX_ok
  | nx σ => exact wpX_ok
  | bk σ => exact wpX_no
  | ct σ => exact wpX_no
section
variable {G : List Den} {σ : Env} {a b v : Int} {P : D → Cu → Prop} {PO : Out → Cu → Prop} {E : Nat → Cu → Prop} {c : Cu}
theorem wp_cup0 : wpX (cupM 0 .cup (some (a, b))) P E = P (.int a) (some (a, b)) := wpX_ok
theorem wp_cup1 : wpX (cupM 1 .cup (some (a, b))) P E = P (.int b) (some (a, b)) := wpX_ok
theorem wp_set0 : wpX (setcM 0 .cup (.int v) σ (some (a, b))) PO E = PO (.nx σ) (some (v, b)) := wpX_ok
theorem wp_set1 : wpX (setcM 1 .cup (.int v) σ (some (a, b))) PO E = PO (.nx σ) (some (a, v)) := wpX_ok
theorem put_imm {i : Nat} {e : CE} {d : D} (h : imm d = true) : put i e d σ = σ.set i (.val d) := by
  unfold put putG
  have hm : isMut d = false := by cases d <;> first | rfl | cases h
  rw [h, hm, Bool.and_false]; rfl
theorem put_int {i : Nat} {e : CE} {n : Int} : put i e (.int n) σ = σ.set i (.val (.int n)) := put_imm rfl
theorem g0 {x : Slot} {r : Env} : getS (x :: r) 0 = x := rfl
theorem gS {x : Slot} {r : Env} {i : Nat} : getS (x :: r) (i + 1) = getS r i := rfl
theorem g1 {x0 x : Slot} {r : Env} : getS (x0 :: x :: r) 1 = x := rfl
theorem g2 {x0 x1 x : Slot} {r : Env} : getS (x0 :: x1 :: x :: r) 2 = x := rfl
theorem g3 {x0 x1 x2 x : Slot} {r : Env} : getS (x0 :: x1 :: x2 :: x :: r) 3 = x := rfl
theorem g4 {x0 x1 x2 x3 x : Slot} {r : Env} : getS (x0 :: x1 :: x2 :: x3 :: x :: r) 4 = x := rfl
theorem wp_var {i : Nat} {d : D} (h : getS σ i = .val d) : wpX (evE G (.var i) σ c) P E = P d c := by rw [e_var, h]; exact wpX_ok
theorem wp_own {i : Nat} {d : D} (h : getS σ i = .own d) : wpX (evE G (.var i) σ c) P E = P d c := by rw [e_var, h]; exact wpX_ok
end
section
variable (G : List Den) (σ : Env)
theorem a_nil : evA G .nil σ = OR.ret [] := rfl
theorem a_bi (f : BI) (es t : CE) : evA G (.cons (.bi f es) t) σ = bnd (evE G (.bi f es) σ) fun x => bnd (evA G t σ) fun xs => OR.ret (.val x :: xs) := rfl
theorem a_cst (d : D) (t : CE) : evA G (.cons (.cst d) t) σ = bnd (evE G (.cst d) σ) fun x => bnd (evA G t σ) fun xs => OR.ret (.val x :: xs) := rfl
theorem a_glb (d : D) (x : Str) (t : CE) : evA G (.cons (.glb d x) t) σ = bnd (evE G (.glb d x) σ) fun x => bnd (evA G t σ) fun xs => OR.ret (.val x :: xs) := rfl
theorem a_sub (a i t : CE) : evA G (.cons (.sub a i) t) σ = bnd (evE G (.sub a i) σ) fun x => bnd (evA G t σ) fun xs => OR.ret (.val x :: xs) := rfl
theorem a_bin (op : Operator) (a i t : CE) : evA G (.cons (.bin op a i) t) σ = bnd (evE G (.bin op a i) σ) fun x => bnd (evA G t σ) fun xs => OR.ret (.val x :: xs) := rfl
theorem a_tup (a t : CE) : evA G (.cons (.tup a) t) σ = bnd (evE G (.tup a) σ) fun x => bnd (evA G t σ) fun xs => OR.ret (.val x :: xs) := rfl
theorem a_lst (a t : CE) : evA G (.cons (.lst a) t) σ = bnd (evE G (.lst a) σ) fun x => bnd (evA G t σ) fun xs => OR.ret (.val x :: xs) := rfl
theorem a_call (j : Nat) (a t : CE) : evA G (.cons (.call j a) t) σ = bnd (evE G (.call j a) σ) fun x => bnd (evA G t σ) fun xs => OR.ret (.val x :: xs) := rfl
theorem a_ite (c a b t : CE) : evA G (.cons (.ite c a b) t) σ = bnd (evE G (.ite c a b) σ) fun x => bnd (evA G t σ) fun xs => OR.ret (.val x :: xs) := rfl
theorem a_var (i : Nat) (t : CE) : evA G (.cons (.var i) t) σ = match getS σ i with
    | .cup => bnd (evA G t σ) fun xs => OR.ret (.cup :: xs)
    | .val d => bnd (evA G t σ) fun xs => OR.ret (.val d :: xs)
    | .own d => bnd (evA G t σ) fun xs => OR.ret (.val d :: xs)
    | .scr is => bnd (evA G t σ) fun xs => OR.ret (.scr is :: xs)
    | _ => stk := rfl
end
theorem atI_mem {α : Type} {xs : List α} {r : Int} (h0 : 0 ≤ r) (h1 : r < (xs.length : Nat)) : ∃ x, x ∈ xs ∧ L2.atI xs r = some x := by
  have hl : r.toNat < xs.length := by omega
  refine ⟨xs[r.toNat], List.getElem_mem _, ?_⟩
  unfold L2.atI L2.ixN
  rw [if_pos h0, if_pos h1]
  show xs[r.toNat]? = _
  exact List.getElem?_eq_getElem hl
theorem sub_list {xs : List D} {r : Int} (h0 : 0 ≤ r) (h1 : r < (xs.length : Nat)) : ∃ x, x ∈ xs ∧ subD (.list xs) (.int r) = some x := atI_mem h0 h1
theorem sub_tup {xs : List D} {r : Int} (h0 : 0 ≤ r) (h1 : r < (xs.length : Nat)) : ∃ x, x ∈ xs ∧ subD (.tuple xs) (.int r) = some x := atI_mem h0 h1
theorem sub_str {s : Str} {r : Int} (h0 : 0 ≤ r) (h1 : r < (s.length : Nat)) : ∃ x, x ∈ s.cps.toList ∧ subD (.str s) (.int r) = some (chr1 x) := by
  obtain ⟨x, hx, e⟩ := atI_mem (xs := s.cps.toList) h0 (by rw [Array.length_toList]; exact h1)
  refine ⟨x, hx, ?_⟩
  show (L2.atI s.cps.toList r).map chr1 = _
  rw [e]; rfl
theorem len_list (xs : List D) : biD .len [.list xs] = some (.int (xs.length : Nat)) := rfl
theorem len_tup (xs : List D) : biD .len [.tuple xs] = some (.int (xs.length : Nat)) := rfl
theorem len_str (s : Str) : biD .len [.str s] = some (.int (s.length : Nat)) := rfl
theorem lc_wp {f : D → M (Option D)} {g : D → Option D} {xs : List D} {c : Cu} {P : List D → Cu → Prop} {E : Nat → Cu → Prop} (h : ∀ x ∈ xs, f x c = .ok (g x) c) (hP : P (xs.filterMap g) c) : wpX (nox (lcM f xs) c) P E := by
  rw [wp_nox, wp_of (lcM_eq h)]; exact hP
theorem bind1 {i : Nat} {d : D} {σ : Env} : bindT (.var i) d σ = some (σ.set i (.val d)) := rfl
theorem wip1 {i : Nat} {σ : Env} : wip (tgs (.var i)) σ = σ.set i .no := rfl
theorem its_list {xs : List D} {c : Cu} {P : List D → Cu → Prop} {E : Nat → Cu → Prop} : wpX (itsM (.list xs) c) P E = P xs c := wpX_ok
theorem its_tup {xs : List D} {c : Cu} {P : List D → Cu → Prop} {E : Nat → Cu → Prop} : wpX (itsM (.tuple xs) c) P E = P xs c := wpX_ok
theorem its_str {s : Str} {c : Cu} {P : List D → Cu → Prop} {E : Nat → Cu → Prop} : wpX (itsM (.str s) c) P E = P (signs s) c := wpX_ok
theorem itv {i : Nat} : isIt (.var i) = false := rfl
theorem itm {m : MI} {a b : CE} : isIt (.mth m a b) = false := rfl
theorem boolsD_map : ∀ bs : List Bool, boolsD (bs.map PyData.bool) = some bs
  | [] => rfl
  | b :: bs => by
    show (boolsD (bs.map PyData.bool)).map (b :: ·) = _
    rw [boolsD_map bs]; rfl
theorem fm_some {p : D → D} : ∀ xs : List D, (xs.filterMap fun x => some (p x)) = xs.map p
  | [] => rfl
  | x :: xs => by rw [List.filterMap_cons, List.map_cons, fm_some xs]
theorem all_fm {p : D → Bool} (xs : List D) : biD .all [.list (xs.filterMap fun x => some (.bool (p x)))] = some (.bool (xs.all p)) := by
  rw [fm_some]
  show (boolsD (xs.map fun x => PyData.bool (p x))).map (fun bs => PyData.bool (bs.all id)) = _
  rw [show (xs.map fun x => PyData.bool (p x)) = (xs.map p).map PyData.bool by rw [List.map_map]; rfl, boolsD_map]
  show some (PyData.bool ((xs.map p).all id)) = _
  rw [List.all_map]; rfl
theorem isa_eq (t : Ty) (d : D) : biD (.isa t) [d] = some (.bool (isaD t d)) := rfl
/-- [..] != [] -/
theorem ne_nil {ys : List D} (h : PyData.plainAll ys = true) : cmpD .NotEq (.list ys) (.list []) = some (.bool (!ys.isEmpty)) := by
  show (eqD (.list ys) (.list [])).map (fun b => PyData.bool (!b)) = _
  have e : eqD (.list ys) (.list []) = some ys.isEmpty := by
    have hp : (PyData.list ys).plain = true := h
    show (if (((PyData.list ys).plain && (PyData.list []).plain && decide (min (PyData.list ys).depth (PyData.list []).depth ≤ 60)) = true) then some (PyData.eqv (.list ys) (.list [])) else none) = _
    have hd : (PyData.list []).depth ≤ 60 := by decide
    rw [hp, show (PyData.list []).plain = true from rfl, decide_eq_true (Nat.le_trans (Nat.min_le_right _ _) hd)]
    cases ys <;> rfl
  rw [e]; rfl
theorem eq_nil {ys : List D} (h : PyData.plainAll ys = true) : cmpD .Eq (.list ys) (.list []) = some (.bool ys.isEmpty) := by
  have := ne_nil h
  show (eqD (.list ys) (.list [])).map PyData.bool = _
  have e : (eqD (.list ys) (.list [])).map (fun b => PyData.bool (!b)) = some (.bool (!ys.isEmpty)) := this
  cases q : eqD (.list ys) (.list []) with
  | none => rw [q] at e; cases e
  | some b =>
    rw [q] at e
    have : (!b) = (!ys.isEmpty) := PyData.bool.inj (Option.some.inj e)
    have : b = ys.isEmpty := by cases b <;> cases ys <;> first | rfl | cases this
    rw [this]; rfl
theorem plainAll_of {ys : List D} : (∀ y ∈ ys, y.plain = true) → PyData.plainAll ys = true := by
  induction ys with
  | nil => intro _; rfl
  | cons y ys ih =>
    intro h
    show (y.plain && PyData.plainAll ys) = true
    rw [h y (List.mem_cons_self ..), ih fun z hz => h z (List.mem_cons_of_mem _ hz)]; rfl
theorem plainAll_mem {ys : List D} (h : PyData.plainAll ys = true) : ∀ y ∈ ys, y.plain = true := by
  induction ys with
  | nil => intro y hy; cases hy
  | cons x xs ih =>
    have h : (x.plain && PyData.plainAll xs) = true := h
    obtain ⟨h1, h2⟩ := and_t h
    intro y hy
    rcases List.mem_cons.mp hy with e | e
    · rw [e]; exact h1
    · exact ih h2 y e
theorem atI0 {α : Type} {x : α} {r : List α} : L2.atI (x :: r) 0 = some x := by
  unfold L2.atI L2.ixN
  rw [if_pos (by decide), if_pos (by simp only [List.length_cons]; omega)]; rfl
theorem sub0_tup {x : D} {r : List D} : subD (.tuple (x :: r)) (.int 0) = some x := atI0
theorem sub0_list {x : D} {r : List D} : subD (.list (x :: r)) (.int 0) = some x := atI0
theorem fm_filter {p : D → Bool} : ∀ xs : List D, (xs.filterMap fun x => if p x = true then some x else none) = xs.filter p
  | [] => rfl
  | x :: xs => by
    rw [List.filterMap_cons, List.filter_cons, fm_filter xs]
    cases p x <;> rfl
theorem plain_filter {p : D → Bool} {xs : List D} (h : PyData.plainAll xs = true) : PyData.plainAll (xs.filter p) = true :=
  plainAll_of fun y hy => plainAll_mem h y (List.mem_filter.mp hy).1
theorem filter_none {p : D → Bool} : ∀ xs : List D, (xs.filter p).isEmpty = xs.all fun x => !p x
  | [] => rfl
  | x :: xs => by
    rw [List.filter_cons, List.all_cons]
    cases p x with
    | true => rfl
    | false => rw [if_neg (by simp), filter_none xs]; rfl
theorem texts_map : ∀ ys : List Str, textsD (ys.map PyData.str) = some ys
  | [] => rfl
  | y :: ys => by
    show (textsD (ys.map PyData.str)).map (y :: ·) = _
    rw [texts_map ys]; rfl
theorem joinL_nil : ∀ xs : List (List Nat), TL.joinL [] xs = xs.flatten
  | [] => rfl
  | [x] => by simp [TL.joinL]
  | x :: y :: r => by
    show x ++ ([] ++ TL.joinL [] (y :: r)) = _
    rw [joinL_nil (y :: r), List.nil_append]; rfl
theorem join_tup {ys : List Str} (h : (ys.map (·.length)).sum ≤ 16777216) : mthD .join (.str "") [.tuple (ys.map PyData.str)] = some (.str (joinS "" ys)) := by
  show (textsD (ys.map PyData.str)).bind _ = _
  rw [texts_map]
  show (if (ys.map (·.length)).sum + ys.length * 0 ≤ 16777216 then some (PyData.str (joinS "" ys)) else none) = _
  rw [if_pos (by omega)]
theorem join_list {ys : List Str} (h : (ys.map (·.length)).sum ≤ 16777216) : mthD .join (.str "") [.list (ys.map PyData.str)] = some (.str (joinS "" ys)) := by
  show (textsD (ys.map PyData.str)).bind _ = _
  rw [texts_map]
  show (if (ys.map (·.length)).sum + ys.length * 0 ≤ 16777216 then some (PyData.str (joinS "" ys)) else none) = _
  rw [if_pos (by omega)]
theorem joinS_cps (ys : List Str) : (joinS "" ys).cps.toList = (ys.map fun y => y.cps.toList).flatten := by
  unfold joinS
  show TL.joinL [] _ = _
  exact joinL_nil _
theorem sum_le {ys : List Str} {k : Nat} (h : ∀ y ∈ ys, y.length ≤ k) : (ys.map (·.length)).sum ≤ ys.length * k := by
  induction ys with
  | nil => exact Nat.zero_le _
  | cons y ys ih =>
    rw [List.map_cons, List.sum_cons, List.length_cons, Nat.succ_mul]
    have := h y (List.mem_cons_self ..)
    have := ih fun z hz => h z (List.mem_cons_of_mem _ hz)
    omega
def isS : D → Bool
  | .str _ => true
  | _ => false
theorem strs_of : ∀ {xs : List D}, xs.all isS = true → ∃ ys : List Str, xs = ys.map PyData.str
  | [], _ => ⟨[], rfl⟩
  | x :: xs, h => by
    rw [List.all_cons] at h
    obtain ⟨h1, h2⟩ := and_t h
    obtain ⟨ys, e⟩ := strs_of h2
    cases x with
    | str s => exact ⟨s :: ys, by rw [e]; rfl⟩
    | _ => cases h1
theorem s_ex (G : List Den) (σ : Env) (e : CE) : evS G (.ex e) σ = bnd (evE G e σ) fun _ => OR.ret (.nx σ) := rfl
theorem atI1 {α : Type} {x y : α} {r : List α} : L2.atI (x :: y :: r) 1 = some y := by
  unfold L2.atI L2.ixN
  rw [if_pos (by decide), if_pos (by simp only [List.length_cons]; omega)]; rfl
theorem sub1_tup {x y : D} {r : List D} : subD (.tuple (x :: y :: r)) (.int 1) = some y := atI1
/-- a loop, turn by turn -/
theorem forM_ix {f : D → Env → M Out} {I : Nat → Env → Cu → Prop} {E : Nat → Cu → Prop} {P : Out → Cu → Prop} : ∀ {xs : List D} {k : Nat} {σ : Env} {c : Cu}, I k σ c → (∀ i x σ c, xs[i]? = some x → I (k + i) σ c → wpX (f x σ c) (fun o c' => ∃ σ', (o = .nx σ' ∨ o = .ct σ') ∧ I (k + i + 1) σ' c') E) →
    (∀ σ' c', I (k + xs.length) σ' c' → P (.nx σ') c') → wpX (forM f xs σ c) P E
  | [], k, σ, c, hc, _, hP => Eq.mpr wpX_ok (hP σ c hc)
  | x :: xs, k, σ, c, hc, h, hP => by
    show wpX (bnd (f x σ) _ c) P E
    rw [wp_bnd]
    refine wpX_mono (h 0 x σ c rfl hc) (fun o c1 ⟨σ', e, h1⟩ => ?_) fun _ _ z => z
    have nx : wpX (forM f xs σ' c1) P E := forM_ix (k := k + 1) h1 (fun i y σ c hy hI => by
      have := h (i + 1) y σ c hy (by rw [show k + (i + 1) = k + 1 + i by omega]; exact hI)
      rw [show k + (i + 1) + 1 = k + 1 + i + 1 by omega] at this
      exact this) fun σ' c' hI => hP σ' c' (by rw [List.length_cons, show k + (xs.length + 1) = k + 1 + xs.length by omega]; exact hI)
    rcases e with e | e <;> subst e <;> exact nx
theorem rng_get {n : Int} {i : Nat} {x : D} (h : (rngL 0 n)[i]? = some x) : x = .int (i : Nat) ∧ ((i : Nat) : Int) < n := by
  unfold rngL at h
  rw [List.getElem?_map] at h
  cases q : (List.range (n - 0).toNat)[i]? with
  | none => rw [q] at h; cases h
  | some j =>
    rw [q] at h
    obtain ⟨hl, e⟩ := List.getElem?_eq_some_iff.mp q
    rw [List.getElem_range] at e
    rw [List.length_range] at hl
    subst e
    have h : some (PyData.int (0 + (i : Nat))) = some x := h
    rw [Int.zero_add] at h
    exact ⟨(Option.some.inj h).symm, by omega⟩
theorem rng_len {n : Nat} : (rngL 0 (n : Nat)).length = n := by
  unfold rngL
  rw [List.length_map, List.length_range]; omega
theorem rng_mem {n : Int} {x : D} (h : x ∈ rngL 0 n) : ∃ i : Nat, x = .int (i : Nat) ∧ ((i : Nat) : Int) < n := by
  obtain ⟨i, hi⟩ := List.getElem?_of_mem h
  exact ⟨i, rng_get hi⟩
theorem okR_n {n : Nat} (h : n ≤ 1000000) : okR 0 (n : Nat) = true := by
  unfold okR
  rw [decide_eq_true (by decide : -(2 ^ 62) ≤ (0 : Int)), decide_eq_true (by decide : (0 : Int) < 2 ^ 62), decide_eq_true (by omega : -(2 ^ 62) ≤ ((n : Nat) : Int)), decide_eq_true (by omega : ((n : Nat) : Int) < 2 ^ 62), decide_eq_true (by omega : ((n : Nat) : Int) - 0 ≤ 16777216)]; rfl
theorem i_rng1 (G : List Den) (σ : Env) (a : CE) : evI G (.rng (.cons a .nil)) σ = bnd (evE G a σ) fun x => match x with
    | .int n => if okR 0 n then OR.ret (rngL 0 n) else stk
    | _ => stk := rfl
theorem itr {es : CE} : isIt (.rng es) = true := rfl
theorem w_it (G : List Den) (σ : Env) (it : CE) : evW G it σ = if isIt it then evI G it σ else bnd (evE G it σ) itsM := rfl
theorem put_new {i : Nat} {e : CE} {xs : List D} {σ : Env} {L : List Nat} (hf : frs e = true) (hl : leak false e = L) : put i e (.list xs) σ = (frz L σ).set i (.own (.list xs)) := by
  unfold put putG
  rw [hf, hl]; rfl
theorem frz_nil {σ : Env} : frz [] σ = σ := rfl
theorem frz_cons {σ : Env} {i : Nat} {r : List Nat} : frz (i :: r) σ = (frz r σ).set i (frz1 (getS σ i)) := rfl
/-- range(n): never let simp see okR (the kernel would count down from its bound) -/
theorem wp_rng1 {G : List Den} {σ : Env} {c : Cu} {a : CE} {P : List D → Cu → Prop} {E : Nat → Cu → Prop} (h : wpX (evE G a σ c) (fun d c' => ∃ n : Nat, d = .int (n : Nat) ∧ n ≤ 1000 ∧ P (rngL 0 (n : Nat)) c') E) : wpX (evI G (.rng (.cons a .nil)) σ c) P E := by
  have e : evI G (.rng (.cons a .nil)) σ = bnd (evE G a σ) fun x => match x with
    | .int n => if okR 0 n then OR.ret (rngL 0 n) else stk
    | _ => stk := rfl
  rw [e, wp_bnd]
  refine wpX_mono h (fun d c' ⟨n, e, hn, hp⟩ => ?_) fun _ _ z => z
  subst e
  have ok := okR_n (n := n) (by omega)
  have q : ∀ b : Bool, b = true → wpX ((if b = true then OR.ret (rngL 0 (n : Nat)) else stk) c') P E := fun b hb => by
    rw [hb, if_pos rfl, wp_ret]
    exact hp
  dsimp only
  generalize okR 0 (n : Nat) = b at ok ⊢
  exact q b ok
theorem b_addL {xs ys : List D} (h : xs.length + ys.length ≤ 1000000) : binD .Add (.list xs) (.list ys) = some (.list (xs ++ ys)) := by
  have q : ∀ n : Nat, n ≤ 1000000 → n ≤ sizeLine := fun n hn => by rw [sizeLine_eq]; omega
  exact if_pos (q _ h)
theorem frz1_val {d : D} : frz1 (.val d) = .val d := rfl
theorem frz1_no : frz1 .no = .no := rfl
theorem wp_lscr {G : List Den} {σ : Env} {i : Nat} {is : List Int} {c : Cu} {P : D → Cu → Prop} {E : Nat → Cu → Prop} (h : getS σ i = .scr is) (hl : is.length ≤ 1000) (hP : P (.list (is.map .int)) c) : wpX (evE G (.lscr i) σ c) P E := by
  have e : evE G (.lscr i) σ = match getS σ i with
    | .scr is => if is.length ≤ 1000 then OR.ret (.list (is.map .int)) else stk
    | _ => stk := rfl
  rw [e, h]
  dsimp only
  rw [if_pos hl, wp_ret]
  exact hP
theorem b_pow18 : binD .Pow (.int 10) (.int 18) = some (.int 1000000000000000000) := by
  have h : binD .Pow (.int 10) (.int 18) = if 0 ≤ (18 : Int) ∧ (18 : Int) ≤ 1000 ∧ (10 : Int).natAbs < 2 ^ 64 then some (.int ((10 : Int) ^ (18 : Int).toNat)) else none := rfl
  rw [h, if_pos (by decide)]
  rfl
theorem f_abs (i : Int) : biD .abs [.int i] = some (.int (if i < 0 then -i else i)) := rfl
theorem s_asgT (G : List Den) (σ : Env) (tg e : CE) : evS G (.asgT tg e) σ = bnd (evE G e σ) fun d => bnd (lft (bindT tg d (frz (lks e d) σ))) fun σ' => OR.ret (.nx σ') := rfl
theorem lks_imm {e : CE} {d : D} (h : imm d = true) : lks e d = [] := if_pos h
theorem bind2 {i j : Nat} {x y : D} {σ : Env} : bindT (.tup (.cons (.var i) (.cons (.var j) .nil))) (.tuple [x, y]) σ = some ((σ.set i (.val x)).set j (.val y)) := rfl
theorem b_addS {a b : Str} (h : a.length + b.length ≤ 1000000) : binD .Add (.str a) (.str b) = some (.str (a ++ b)) := by
  have q : ∀ n : Nat, n ≤ 1000000 → n ≤ sizeLine := fun n hn => by rw [sizeLine_eq]; omega
  exact if_pos (q _ h)
end OR

/-! more equations -/
namespace OR
open PySem
section
variable {x x0 x1 x2 x3 x4 x5 x6 x7 x8 x9 xa xb xc xd xe : Slot} {r : Env}
theorem g5 : getS (x0 :: x1 :: x2 :: x3 :: x4 :: x :: r) 5 = x := rfl
theorem g6 : getS (x0 :: x1 :: x2 :: x3 :: x4 :: x5 :: x :: r) 6 = x := rfl
theorem g7 : getS (x0 :: x1 :: x2 :: x3 :: x4 :: x5 :: x6 :: x :: r) 7 = x := rfl
theorem g8 : getS (x0 :: x1 :: x2 :: x3 :: x4 :: x5 :: x6 :: x7 :: x :: r) 8 = x := rfl
theorem g9 : getS (x0 :: x1 :: x2 :: x3 :: x4 :: x5 :: x6 :: x7 :: x8 :: x :: r) 9 = x := rfl
theorem g10 : getS (x0 :: x1 :: x2 :: x3 :: x4 :: x5 :: x6 :: x7 :: x8 :: x9 :: x :: r) 10 = x := rfl
theorem g11 : getS (x0 :: x1 :: x2 :: x3 :: x4 :: x5 :: x6 :: x7 :: x8 :: x9 :: xa :: x :: r) 11 = x := rfl
theorem g12 : getS (x0 :: x1 :: x2 :: x3 :: x4 :: x5 :: x6 :: x7 :: x8 :: x9 :: xa :: xb :: x :: r) 12 = x := rfl
theorem g13 : getS (x0 :: x1 :: x2 :: x3 :: x4 :: x5 :: x6 :: x7 :: x8 :: x9 :: xa :: xb :: xc :: x :: r) 13 = x := rfl
theorem g14 : getS (x0 :: x1 :: x2 :: x3 :: x4 :: x5 :: x6 :: x7 :: x8 :: x9 :: xa :: xb :: xc :: xd :: x :: r) 14 = x := rfl
theorem g15 : getS (x0 :: x1 :: x2 :: x3 :: x4 :: x5 :: x6 :: x7 :: x8 :: x9 :: xa :: xb :: xc :: xd :: xe :: x :: r) 15 = x := rfl
end
section
variable (G : List Den) (σ : Env)
theorem e_slc (a lo hi : CE) : evE G (.slc a lo hi) σ = bnd (evE G a σ) fun x => bnd (if isNil lo then OR.ret none else bnd (evE G lo σ) partM) fun l => bnd (if isNil hi then OR.ret none else bnd (evE G hi σ) partM) fun h => lft (slcD x l h) := rfl
theorem a_slc (a lo hi t : CE) : evA G (.cons (.slc a lo hi) t) σ = bnd (evE G (.slc a lo hi) σ) fun x => bnd (evA G t σ) fun xs => OR.ret (.val x :: xs) := rfl
theorem a_cmp (op : CmpOp) (a b t : CE) : evA G (.cons (.cmp op a b) t) σ = bnd (evE G (.cmp op a b) σ) fun x => bnd (evA G t σ) fun xs => OR.ret (.val x :: xs) := rfl
theorem a_neg (a t : CE) : evA G (.cons (.neg a) t) σ = bnd (evE G (.neg a) σ) fun x => bnd (evA G t σ) fun xs => OR.ret (.val x :: xs) := rfl
theorem s_retN : evS G .retN σ = OR.ret (.rt .none) := rfl
theorem s_app (i : Nat) (e : CE) : evS G (.app i e) σ = bnd (ownM (getS σ i)) fun _ => bnd (evE G e σ) fun y => appM i y (frz (lks e y) σ) := rfl
theorem s_par3 (i j l : Nat) (a b c : CE) : evS G (.par3 i j l a b c) σ = bnd (evL G (.cons a (.cons b (.cons c .nil))) σ) fun ds => par3M i j l ds (frz (leak false a ++ (leak false b ++ (leak false c ++ []))) σ) := rfl
theorem s_parE (i j l : Nat) (a b : CE) : evS G (.parE i j l a b) σ = bnd (evE G a σ) fun x => bnd (evE G b σ) fun y => OR.ret (.nx ((((frz (leak false a ++ leak false b) σ).set i (.val x)).set j (.val y)).set l (.own (.list [])))) := rfl
theorem s_parO (i j : Nat) (a b : CE) : evS G (.parO i j a b) σ = bnd (evE G a σ) fun x => bnd (evE G b σ) fun y => parOM i j (frs a) (frs b) x y (frz (leak false a ++ leak false b) σ) := rfl
theorem s_sto (i : Nat) (ix e : CE) : evS G (.sto i ix e) σ = bnd (evE G e σ) fun y => bnd (ownM (getS σ i)) fun _ => bnd (evE G ix σ) fun k => stoM i k y (frz (lks e y) σ) := rfl
theorem s_aug (i : Nat) (op : Operator) (e : CE) : evS G (.aug i op e) σ = bnd (valM (getS σ i)) fun x => bnd (evE G e σ) fun y => bnd (lft (augD op x y)) fun z => OR.ret (.nx (σ.set i (.val z))) := rfl
end
theorem nil_t : isNil .nil = true := rfl
theorem nil_c {d : D} : isNil (.cst d) = false := rfl
theorem nil_v {i : Nat} : isNil (.var i) = false := rfl
theorem nil_b {o : Operator} {a b : CE} : isNil (.bin o a b) = false := rfl
section
variable {α β : Type} {c : Cu} {E : Nat → Cu → Prop}
theorem wp_part {i : Int} {P : Option Int → Cu → Prop} : wpX (partM (.int i) c) P E = P (some i) c := wpX_ok
theorem wp_par {i j : Nat} {x y : D} {σ : Env} {P : Out → Cu → Prop} : wpX (parM i j [x, y] σ c) P E = P (.nx ((σ.set i (.val x)).set j (.val y))) c := wpX_ok
end
theorem slc_t (xs : List D) (lo hi : Option Int) : slcD (.tuple xs) lo hi = some (.tuple (cutL xs lo hi)) := rfl
theorem slc_l (xs : List D) (lo hi : Option Int) : slcD (.list xs) lo hi = some (.list (cutL xs lo hi)) := rfl
theorem slc_s (s : Str) (lo hi : Option Int) : slcD (.str s) lo hi = some (.str (L2.cutS s lo hi)) := rfl
theorem rev_t (xs : List D) : revD (.tuple xs) = some (.tuple xs.reverse) := rfl
theorem rev_l (xs : List D) : revD (.list xs) = some (.list xs.reverse) := rfl
theorem tup_l (xs : List D) : biD .tuple [.list xs] = some (.tuple xs) := rfl
theorem list_t (xs : List D) : biD .list [.tuple xs] = some (.list xs) := rfl
theorem list_l (xs : List D) : biD .list [.list xs] = some (.list xs) := rfl
theorem b_addT {xs ys : List D} (h : xs.length + ys.length ≤ 1000000) : binD .Add (.tuple xs) (.tuple ys) = some (.tuple (xs ++ ys)) := by
  have q : ∀ n : Nat, n ≤ 1000000 → n ≤ sizeLine := fun n hn => by rw [sizeLine_eq]; omega
  exact if_pos (q _ h)
theorem b_mulT {a : List D} {k : Int} (h0 : a ≠ []) (h1 : 1 ≤ k) (h2 : k ≤ 1000) (h3 : a.length ≤ 1000) : binD .Mult (.tuple a) (.int k) = some (.tuple (repL a k)) := by
  have e : binD .Mult (.tuple a) (.int k) = if (!a.isEmpty && decide (1 ≤ k) && decide (k ≤ 1000) && decide (a.length ≤ 1000)) = true then some (.tuple (repL a k)) else none := rfl
  rw [e, decide_eq_true h1, decide_eq_true h2, decide_eq_true h3]
  cases a with
  | nil => exact absurd rfl h0
  | cons x r => rfl
theorem b_mulS {a : Str} {k : Int} (h0 : 0 ≤ k) (h1 : k ≤ 1000) (h2 : a.length ≤ 1000) : binD .Mult (.str a) (.int k) = some (.str (repS a k)) := by
  have e : binD .Mult (.str a) (.int k) = if (decide (-(2 ^ 63) ≤ k) && decide (k < 2 ^ 63) && decide (a.length * k.toNat ≤ sizeLine)) = true then some (.str (repS a k)) else none := rfl
  have q : ∀ n : Nat, n ≤ 1000000 → decide (n ≤ sizeLine) = true := fun n hn => decide_eq_true (by rw [sizeLine_eq]; omega)
  have m : a.length * k.toNat ≤ 1000 * 1000 := Nat.mul_le_mul h2 (by omega)
  rw [e, q _ m, decide_eq_true (by omega : -(2 ^ 63) ≤ k), decide_eq_true (by omega : k < 2 ^ 63)]; rfl
theorem repL_mem {α : Type} {xs : List α} {k : Int} {y : α} (h : y ∈ repL xs k) : y ∈ xs := by
  unfold repL at h
  obtain ⟨l, hl, hy⟩ := List.mem_flatten.mp h
  rw [(List.mem_replicate.mp hl).2] at hy
  exact hy
theorem plainAll_app {xs ys : List D} (h1 : PyData.plainAll xs = true) (h2 : PyData.plainAll ys = true) : PyData.plainAll (xs ++ ys) = true :=
  plainAll_of fun y hy => (List.mem_append.mp hy).elim (plainAll_mem h1 y) (plainAll_mem h2 y)
theorem plainAll_rep {xs : List D} {k : Int} (h1 : PyData.plainAll xs = true) : PyData.plainAll (repL xs k) = true :=
  plainAll_of fun y hy => plainAll_mem h1 y (repL_mem hy)
theorem plainAll_rev {xs : List D} (h1 : PyData.plainAll xs = true) : PyData.plainAll xs.reverse = true :=
  plainAll_of fun y hy => plainAll_mem h1 y (List.mem_reverse.mp hy)
theorem plainAll_cut {xs : List D} {lo hi : Option Int} (h1 : PyData.plainAll xs = true) : PyData.plainAll (cutL xs lo hi) = true :=
  plainAll_of fun y hy => plainAll_mem h1 y (List.mem_of_mem_drop (List.mem_of_mem_take hy))
theorem plainAll_str (ys : List Str) : PyData.plainAll (ys.map PyData.str) = true :=
  plainAll_of fun y hy => by
    obtain ⟨n, _, rfl⟩ := List.mem_map.mp hy
    rfl
/-- one statement, then the others -/
def seqP (G : List Den) (t : CS) (P : Out → Cu → Prop) (E : Nat → Cu → Prop) : Out → Cu → Prop := fun o c' => wpX ((match o with
    | .nx σ' => evS G t σ'
    | o => OR.ret o) c') P E
theorem wp_seq {G : List Den} {h t : CS} {σ : Env} {c : Cu} {P : Out → Cu → Prop} {E : Nat → Cu → Prop} (H : wpX (evS G h σ c) (seqP G t P E) E) : wpX (evS G (.cons h t) σ c) P E := by
  rw [s_cons, wp_bnd]
  exact H
theorem seq_nx {G : List Den} {t : CS} {σ : Env} {c : Cu} {P : Out → Cu → Prop} {E : Nat → Cu → Prop} (H : wpX (evS G t σ c) P E) : seqP G t P E (.nx σ) c := H
/-- an environment's slots after a store -/
theorem gs_eq {σ : Env} {i : Nat} {x : Slot} (h : i < σ.length) : getS (σ.set i x) i = x := by
  unfold getS
  rw [List.getD_eq_getElem?_getD, List.getElem?_set_self h]; rfl
theorem gs_ne {σ : Env} {i j : Nat} {x : Slot} (h : i ≠ j) : getS (σ.set i x) j = getS σ j := by
  unfold getS
  rw [List.getD_eq_getElem?_getD, List.getElem?_set_ne h, ← List.getD_eq_getElem?_getD]
/-- a loop, by what has been walked -/
theorem forM_pre {α : Type} {e : α → D} {f : D → Env → M Out} {I : List α → Env → Cu → Prop} {E : Nat → Cu → Prop} {P : Out → Cu → Prop} {full : List α} : ∀ {xs pre : List α} {σ : Env} {c : Cu}, full = pre ++ xs → I pre σ c → (∀ pre x rest σ c, full = pre ++ x :: rest → I pre σ c → wpX (f (e x) σ c) (fun o c' => ∃ σ', (o = .nx σ' ∨ o = .ct σ') ∧ I (pre ++ [x]) σ' c') E) →
    (∀ σ' c', I full σ' c' → P (.nx σ') c') → wpX (forM f (xs.map e) σ c) P E
  | [], pre, σ, c, hf, hc, _, hP => Eq.mpr wpX_ok (hP σ c (by rw [hf, List.append_nil]; exact hc))
  | x :: xs, pre, σ, c, hf, hc, h, hP => by
    show wpX (bnd (f (e x) σ) _ c) P E
    rw [wp_bnd]
    refine wpX_mono (h pre x xs σ c hf hc) (fun o c1 ⟨σ', e1, h1⟩ => ?_) fun _ _ z => z
    have nx : wpX (forM f (xs.map e) σ' c1) P E := forM_pre (by rw [hf, List.append_assoc]; rfl) h1 h hP
    rcases e1 with e1 | e1 <;> subst e1 <;> exact nx
/-- while -/
theorem s_whl (G : List Den) (σ : Env) (t : CE) (body : CS) : evS G (.whl t body) σ = whlM (fun σ => bnd (evE G t σ) tru) (fun σ => evS G body σ) fuel σ := rfl
theorem whl_succ (t : Env → M Bool) (f : Env → M Out) (n : Nat) (σ : Env) : whlM t f (n + 1) σ = bnd (t σ) fun k => if k then bnd (f σ) fun o => match o with
      | .nx σ' => whlM t f n σ'
      | .ct σ' => whlM t f n σ'
      | .bk σ' => OR.ret (.nx σ')
      | .rt v => OR.ret (.rt v)
    else OR.ret (.nx σ) := rfl
theorem fuel_gt {n : Nat} (h : n < 100000000) : n < fuel := h
/-- range(m, n) -/
theorem okR_mn {m n : Int} (h0 : -1000000 ≤ m) (h1 : m ≤ 1000000) (h2 : -1000000 ≤ n) (h3 : n ≤ 1000000) : okR m n = true := by
  unfold okR
  rw [decide_eq_true (by omega : -(2 ^ 62) ≤ m), decide_eq_true (by omega : m < 2 ^ 62), decide_eq_true (by omega : -(2 ^ 62) ≤ n), decide_eq_true (by omega : n < 2 ^ 62), decide_eq_true (by omega : n - m ≤ 16777216)]; rfl
theorem wp_rng2 {G : List Den} {σ : Env} {c : Cu} {a b : CE} {P : List D → Cu → Prop} {E : Nat → Cu → Prop} {m n : Int} (ha : evE G a σ c = .ok (.int m) c) (hb : evE G b σ c = .ok (.int n) c) (h0 : -1000000 ≤ m) (h1 : m ≤ 1000000) (h2 : -1000000 ≤ n) (h3 : n ≤ 1000000) (hP : P (rngL m n) c) : wpX (evI G (.rng (.cons a (.cons b .nil))) σ c) P E := by
  have e : evI G (.rng (.cons a (.cons b .nil))) σ = bnd (evE G a σ) fun x => bnd (evE G b σ) fun y => match x, y with
    | .int m, .int n => if okR m n then OR.ret (rngL m n) else stk
    | _, _ => stk := rfl
  rw [e, wp_bnd, wp_of ha, wp_bnd, wp_of hb]
  have ok := okR_mn h0 h1 h2 h3
  have q : ∀ b : Bool, b = true → wpX ((if b = true then OR.ret (rngL m n) else stk) c) P E := fun b hb => by
    rw [hb, if_pos rfl, wp_ret]
    exact hP
  dsimp only
  generalize okR m n = b at ok ⊢
  exact q b ok
theorem c_ne (i j : Int) : cmpD .NotEq (.int i) (.int j) = some (.bool (!decide (i = j))) := rfl
theorem bind3 {i j k : Nat} {x y z : D} {σ : Env} : bindT (.tup (.cons (.var i) (.cons (.var j) (.cons (.var k) .nil)))) (.tuple [x, y, z]) σ = some (((σ.set i (.val x)).set j (.val y)).set k (.val z)) := rfl
theorem atI_at {α : Type} {xs : List α} {i : Nat} {x : α} (h : xs[i]? = some x) : L2.atI xs (i : Nat) = some x := by
  obtain ⟨hl, _⟩ := List.getElem?_eq_some_iff.mp h
  unfold L2.atI L2.ixN
  rw [if_pos (by omega), if_pos (by omega)]
  show xs[((i : Nat) : Int).toNat]? = _
  rw [Int.toNat_natCast]; exact h
theorem sub_at {xs : List D} {i : Nat} {x : D} (h : xs[i]? = some x) : subD (.tuple xs) (.int (i : Nat)) = some x := atI_at h
theorem sub_atS {s : Str} {i : Nat} {n : Nat} (h : s.cps.toList[i]? = some n) : subD (.str s) (.int (i : Nat)) = some (chr1 n) := by
  show (L2.atI s.cps.toList (i : Nat)).map chr1 = _
  rw [atI_at h]; rfl
theorem small_abs {i : Int} (h1 : -1000000000000 < i) (h2 : i < 1000000000000) : small i = true := by
  unfold small
  rw [decide_eq_true (by omega : -(2 ^ 64) < i), decide_eq_true (by omega : i < 2 ^ 64)]; rfl
theorem f_max (i j : Int) : biD .max [.int i, .int j] = some (.int (if j > i then j else i)) := rfl
theorem f_min (i j : Int) : biD .min [.int i, .int j] = some (.int (if j < i then j else i)) := rfl
theorem eqv_int (a b : Int) : PyData.eqv (.int a) (.int b) = decide (a = b) := by
  rw [PyData.eqv]
  exact Bool.beq_eq_decide_eq a b
theorem eqv_tup2 (a b c d : Int) : PyData.eqv (.tuple [.int a, .int b]) (.tuple [.int c, .int d]) = (decide (a = c) && decide (b = d)) := by
  rw [PyData.eqv, PyData.eqvAll, PyData.eqvAll, PyData.eqvAll, eqv_int, eqv_int, Bool.and_true]
theorem immB {b : Bool} : imm (.bool b) = true := rfl
theorem frz1_own {d : D} : frz1 (.own d) = .val d := rfl
theorem pa_cons' (x : D) (xs : List D) : PyData.plainAll (x :: xs) = (x.plain && PyData.plainAll xs) := rfl
theorem pa_nil' : PyData.plainAll [] = true := rfl
theorem pl_tup (xs : List D) : (PyData.tuple xs).plain = PyData.plainAll xs := rfl
theorem pl_list (xs : List D) : (PyData.list xs).plain = PyData.plainAll xs := rfl
theorem pl_str (s : Str) : (PyData.str s).plain = true := rfl
theorem pl_int (s : Int) : (PyData.int s).plain = true := rfl
theorem pl_none : (PyData.none).plain = true := rfl
theorem immL_str : ∀ ys : List Str, immL (ys.map PyData.str) = true
  | [] => rfl
  | y :: ys => by
    show (imm (PyData.str y) && immL (ys.map PyData.str)) = true
    rw [immL_str ys]; rfl
theorem immL_mem {ys : List D} (h : immL ys = true) : ∀ y ∈ ys, imm y = true := by
  induction ys with
  | nil => intro y hy; cases hy
  | cons x xs ih =>
    have h : (imm x && immL xs) = true := h
    obtain ⟨h1, h2⟩ := and_t h
    intro y hy
    rcases List.mem_cons.mp hy with e | e
    · rw [e]; exact h1
    · exact ih h2 y e
theorem immL_of {ys : List D} : (∀ y ∈ ys, imm y = true) → immL ys = true := by
  induction ys with
  | nil => intro _; rfl
  | cons y ys ih =>
    intro h
    show (imm y && immL ys) = true
    rw [h y (List.mem_cons_self ..), ih fun z hz => h z (List.mem_cons_of_mem _ hz)]; rfl
theorem rngL_map (a b : Int) : rngL a b = ((List.range (b - a).toNat).map fun i : Nat => a + (i : Nat)).map PyData.int := by
  unfold rngL
  rw [List.map_map]; rfl
theorem wp_own_is {xs : List D} {c : Cu} {P : List D → Cu → Prop} {E : Nat → Cu → Prop} : wpX (ownM (.own (.list xs)) c) P E = P xs c := wpX_ok
theorem wp_app {i : Nat} {y : D} {σ : Env} {xs : List D} {c : Cu} {P : Out → Cu → Prop} {E : Nat → Cu → Prop} (h : getS σ i = .own (.list xs)) (hl : xs.length ≤ 1000000) : wpX (appM i y σ c) P E = P (.nx (σ.set i (.own (.list (xs ++ [y]))))) c := by
  have e : appM i y σ = bnd (ownM (getS σ i)) fun xs => if xs.length < sizeLine then OR.ret (.nx (σ.set i (.own (.list (xs ++ [y]))))) else stk := rfl
  have q : xs.length < sizeLine := by rw [sizeLine_eq]; omega
  rw [e, wp_bnd, h, wp_own_is, if_pos q, wp_ret]
/-- two sources -/
theorem e_lc2 (G : List Den) (σ : Env) (tg it ifs tg2 it2 ifs2 elt : CE) : evE G (.lc2 tg it ifs tg2 it2 ifs2 elt) σ = bnd (if isIt it then evI G it σ else bnd (evE G it σ) itsM) fun items => bnd (nox (lcM2 (fun d =>
      bnd (lft (bindT tg d (wip (tgs tg ++ tgs tg2) σ))) fun σ' => bnd (evT G ifs σ') fun k => if k then
        bnd (if isIt it2 then evI G it2 σ' else bnd (evE G it2 σ') itsM) fun items2 => lcM (fun d2 => bnd (lft (bindT tg2 d2 (wip (tgs tg2) σ'))) fun σ2 => bnd (evT G ifs2 σ2) fun k2 => if k2 then bnd (evE G elt σ2) fun y => OR.ret (some y) else OR.ret none) items2
      else OR.ret []) items)) fun ys => if ys.length ≤ sizeLine then OR.ret (.list ys) else stk := rfl
theorem lcM2_eq {f : D → M (List D)} {g : D → List D} {c : Cu} : ∀ {xs : List D}, (∀ x ∈ xs, f x c = .ok (g x) c) → lcM2 f xs c = .ok (xs.flatMap g) c
  | [], _ => rfl
  | x :: xs, h => by
    show bnd (f x) (fun o => bnd (lcM2 f xs) fun ys => OR.ret (o ++ ys)) c = _
    unfold bnd
    rw [h x (List.mem_cons_self ..)]
    dsimp only
    rw [lcM2_eq (xs := xs) fun y hy => h y (List.mem_cons_of_mem _ hy)]
    rfl
theorem lc2_wp {f : D → M (List D)} {g : D → List D} {xs : List D} {c : Cu} {P : List D → Cu → Prop} {E : Nat → Cu → Prop} (h : ∀ x ∈ xs, f x c = .ok (g x) c) (hP : P (xs.flatMap g) c) : wpX (nox (lcM2 f xs) c) P E := by
  rw [wp_nox, wp_of (lcM2_eq h)]; exact hP
theorem lcM_wpX {f : D → M (Option D)} {g : D → Option D} {xs : List D} {c : Cu} {P : List D → Cu → Prop} {E : Nat → Cu → Prop} (h : ∀ x ∈ xs, f x c = .ok (g x) c) (hP : P (xs.filterMap g) c) : wpX (lcM f xs c) P E := by
  rw [wp_of (lcM_eq h)]; exact hP
theorem wp_size {ys : List D} {c : Cu} {P : D → Cu → Prop} {E : Nat → Cu → Prop} (h : ys.length ≤ 1000000) : wpX ((if ys.length ≤ sizeLine then OR.ret (PyData.list ys) else stk) c) P E = P (.list ys) c := by
  rw [if_pos (by rw [sizeLine_eq]; omega), wp_ret]
end OR

namespace OLaw
open PySem PySem.Spec PyProof.Rows L2 OR
def topS (i : Nat) : Stmt := PySem.Challenge.pw_orchardrows_k12_whole_reach_that_is_need.main.body.getD i (.Pass ⟨0, 0, 0, 0⟩)
abbrev s__law_cup : Stmt := topS 39
def S__law_cup : Sc := ⟨["script", "cell"], defScope s__law_cup, fun _ => true, [], [], ["int", "abs", "list"], []⟩
def b__law_cup : CS :=
  (.cons (.asg 1 (.bi .abs (.cons (.sub (.bin .Add (.lscr 0) (.lst (.cons (.cst (.int 0)) .nil))) (.cst (.int 0))) .nil)))
    (.cons (.ret (.lst (.cons (.ite (.cmp .GtE (.var 1) (.bin .Pow (.cst (.int 10)) (.cst (.int 18)))) (.bin .FloorDiv (.var 1) (.cst (.int 71))) (.cst (.int 0))) (.cons (.bin .Add (.bin .Mod (.bi .int (.cons (.bin .Add (.bin .Mult (.var 1) (.cst (.int 307))) (.cst (.int 4099))) .nil)) (.cst (.int 2077503149))) (.cst (.int 211))) .nil))))
    .nil))
theorem sc__law_cup : FnScope S__law_cup.N ["script"] (defScope s__law_cup) := ⟨rfl, rfl, rfl, by decide +kernel, rfl, by decide +kernel, by decide +kernel⟩
theorem ck__law_cup : chkSs b__law_cup S__law_cup (defBody s__law_cup) = true := by decide +kernel
def d__law_cup : Den := run [] 2 b__law_cup
abbrev s__law_roll : Stmt := topS 40
def S__law_roll : Sc := ⟨["cup", "many", "found", "deep"], defScope s__law_roll, fun _ => true, [], [], ["int"], []⟩
def b__law_roll : CS :=
  (.cons (.ite (.cmp .Gt (.cupR 0 0) (.cst (.int 0))) (.cons (.asg 2 (.bin .Mod (.bi .int (.cons (.cupR 0 0) .nil)) (.var 1)))
    (.cons (.setc 0 0 (.bin .FloorDiv (.cupR 0 0) (.var 1)))
    (.cons (.ret (.var 2))
    .nil))) .nil)
    (.cons (.setc 0 1 (.bin .Mod (.bi .int (.cons (.bin .Add (.bin .Mult (.cupR 0 1) (.cst (.int 30937))) (.cst (.int 7933))) .nil)) (.cst (.int 2147482949))))
    (.cons (.asg 3 (.bin .Mod (.bi .int (.cons (.bin .Mult (.cupR 0 1) (.bin .Add (.cupR 0 1) (.cst (.int 233)))) .nil)) (.cst (.int 2147482937))))
    (.cons (.ret (.bin .Mod (.bi .int (.cons (.bin .FloorDiv (.var 3) (.cst (.int 811))) .nil)) (.var 1)))
    .nil))))
theorem sc__law_roll : FnScope S__law_roll.N ["cup", "many"] (defScope s__law_roll) := ⟨rfl, rfl, rfl, by decide +kernel, rfl, by decide +kernel, by decide +kernel⟩
theorem ck__law_roll : chkSs b__law_roll S__law_roll (defBody s__law_roll) = true := by decide +kernel
def d__law_roll : Den := run [] 4 b__law_roll
abbrev s__law_some : Stmt := topS 41
def S__law_some : Sc := ⟨["cup", "things"], defScope s__law_some, fun _ => true, [("_law_roll", 2)], [], ["len"], []⟩
def b__law_some : CS :=
  (.cons (.ret (.sub (.var 1) (.call 0 (.cons (.var 0) (.cons (.bi .len (.cons (.var 1) .nil)) .nil)))))
    .nil)
theorem sc__law_some : FnScope S__law_some.N ["cup", "things"] (defScope s__law_some) := ⟨rfl, rfl, rfl, by decide +kernel, rfl, by decide +kernel, by decide +kernel⟩
theorem ck__law_some : chkSs b__law_some S__law_some (defBody s__law_some) = true := by decide +kernel
def d__law_some : Den := run [d__law_roll] 2 b__law_some
abbrev s__law_plot : Stmt := topS 43
def S__law_plot : Sc := ⟨["cup", "most", "kinds", "high", "wide", "signs", "row", "column"], defScope s__law_plot, fun _ => true, [("_law_some", 2), ("_law_roll", 2)], [], ["tuple", "range", "len"], []⟩
def b__law_plot : CS :=
  (.cons (.asgT (.tup (.cons (.var 3) (.cons (.var 4) .nil))) (.tup (.cons (.bin .Add (.cst (.int 1)) (.call 1 (.cons (.var 0) (.cons (.var 1) .nil)))) (.cons (.bin .Add (.cst (.int 1)) (.call 1 (.cons (.var 0) (.cons (.var 1) .nil)))) .nil))))
    (.cons (.asg 5 (.call 0 (.cons (.var 0) (.cons (.lst (.cons (.var 2) (.cons (.bin .Add (.var 2) (.cst (.str "."))) (.cons (.bin .Add (.var 2) (.cst (.str ".."))) (.cons (.bin .Add (.bin .Mult (.cst (.str ".")) (.bi .len (.cons (.var 2) .nil))) (.var 2)) .nil))))) .nil))))
    (.cons (.ret (.bi .tuple (.cons (.lc (.var 6) (.rng (.cons (.var 3) .nil)) .nil (.mth .join (.cst (.str "")) (.cons (.lc (.var 7) (.rng (.cons (.var 4) .nil)) .nil (.call 0 (.cons (.var 0) (.cons (.var 5) .nil)))) .nil))) .nil)))
    .nil)))
theorem sc__law_plot : FnScope S__law_plot.N ["cup", "most", "kinds"] (defScope s__law_plot) := ⟨rfl, rfl, rfl, by decide +kernel, rfl, by decide +kernel, by decide +kernel⟩
theorem ck__law_plot : chkSs b__law_plot S__law_plot (defBody s__law_plot) = true := by decide +kernel
def d__law_plot : Den := run [d__law_some, d__law_roll] 8 b__law_plot
abbrev s__law_table : Stmt := topS 47
def S__law_table : Sc := ⟨["cup", "found", "one", "other"], defScope s__law_table, fun _ => true, [("_law_roll", 2)], [], ["tuple"], []⟩
def q_law_table_0 : CS := (.asg 1 (.lst .nil))
def q_law_table_1b_0 : CS := (.asg 1 (.bin .Add (.var 1) (.lc (.var 3) (.cst (.str "abc")) (.cons (.cmp .Eq (.call 0 (.cons (.var 0) (.cons (.cst (.int 4)) .nil))) (.cst (.int 0))) .nil) (.bin .Add (.var 2) (.var 3)))))
def q_law_table_1b : CS := (.cons q_law_table_1b_0 .nil)
def q_law_table_1 : CS := (.for_ (.var 2) (.cst (.str "abc")) q_law_table_1b)
def q_law_table_2 : CS := (.ret (.bi .tuple (.cons (.var 1) .nil)))
def b__law_table : CS :=
  (.cons q_law_table_0 (.cons q_law_table_1 (.cons q_law_table_2 .nil)))
theorem sc__law_table : FnScope S__law_table.N ["cup"] (defScope s__law_table) := ⟨rfl, rfl, rfl, by decide +kernel, rfl, by decide +kernel, by decide +kernel⟩
theorem ck__law_table : chkSs b__law_table S__law_table (defBody s__law_table) = true := by decide +kernel
def d__law_table : Den := run [d__law_roll] 4 b__law_table
abbrev s__law_places : Stmt := topS 44
def S__law_places : Sc := ⟨["plot", "found", "row", "column"], defScope s__law_places, fun _ => true, [], [], ["range", "len"], []⟩
def b__law_places : CS :=
  (.cons (.asg 1 (.lst .nil))
    (.cons (.for_ (.var 2) (.rng (.cons (.bi .len (.cons (.var 0) .nil)) .nil)) (.cons (.asg 1 (.bin .Add (.var 1) (.lc (.var 3) (.rng (.cons (.bi .len (.cons (.sub (.var 0) (.cst (.int 0))) .nil)) .nil)) .nil (.tup (.cons (.var 2) (.cons (.var 3) .nil))))))
    .nil))
    (.cons (.ret (.var 1))
    .nil)))
theorem sc__law_places : FnScope S__law_places.N ["plot"] (defScope s__law_places) := ⟨rfl, rfl, rfl, by decide +kernel, rfl, by decide +kernel, by decide +kernel⟩
theorem ck__law_places : chkSs b__law_places S__law_places (defBody s__law_places) = true := by decide +kernel
def d__law_places : Den := run [] 4 b__law_places
abbrev s__law_trees : Stmt := topS 45
def S__law_trees : Sc := ⟨["plot", "row", "column"], defScope s__law_trees, fun _ => true, [("_law_places", 1)], [], [], []⟩
def q_law_trees_0 : CS := (.ret (.lc (.tup (.cons (.var 1) (.cons (.var 2) .nil))) (.call 0 (.cons (.var 0) .nil)) (.cons (.cmp .NotEq (.sub (.sub (.var 0) (.var 1)) (.var 2)) (.cst (.str "."))) .nil) (.tup (.cons (.var 1) (.cons (.var 2) .nil)))))
def b__law_trees : CS :=
  (.cons q_law_trees_0 .nil)
theorem sc__law_trees : FnScope S__law_trees.N ["plot"] (defScope s__law_trees) := ⟨rfl, rfl, rfl, by decide +kernel, rfl, by decide +kernel, by decide +kernel⟩
theorem ck__law_trees : chkSs b__law_trees S__law_trees (defBody s__law_trees) = true := by decide +kernel
def d__law_trees : Den := run [d__law_places] 3 b__law_trees
abbrev s__law_far : Stmt := topS 46
def S__law_far : Sc := ⟨["one", "other"], defScope s__law_far, fun _ => true, [], [], ["max"], []⟩
def q_law_far_0 : CS := (.ret (.bin .Add (.bi .max (.cons (.bin .Sub (.sub (.var 0) (.cst (.int 0))) (.sub (.var 1) (.cst (.int 0)))) (.cons (.bin .Sub (.sub (.var 1) (.cst (.int 0))) (.sub (.var 0) (.cst (.int 0)))) .nil))) (.bi .max (.cons (.bin .Sub (.sub (.var 0) (.cst (.int 1))) (.sub (.var 1) (.cst (.int 1)))) (.cons (.bin .Sub (.sub (.var 1) (.cst (.int 1))) (.sub (.var 0) (.cst (.int 1)))) .nil)))))
def b__law_far : CS :=
  (.cons q_law_far_0 .nil)
theorem sc__law_far : FnScope S__law_far.N ["one", "other"] (defScope s__law_far) := ⟨rfl, rfl, rfl, by decide +kernel, rfl, by decide +kernel, by decide +kernel⟩
theorem ck__law_far : chkSs b__law_far S__law_far (defBody s__law_far) = true := by decide +kernel
def d__law_far : Den := run [] 2 b__law_far
abbrev s__law_gives : Stmt := topS 48
def S__law_gives : Sc := ⟨["plot", "table", "reach", "giver", "place", "pair"], defScope s__law_gives, fun _ => true, [("_law_far", 2)], [], [], []⟩
def q_law_gives_0 : CS := (.asg 5 (.bin .Add (.sub (.sub (.var 0) (.sub (.var 4) (.cst (.int 0)))) (.sub (.var 4) (.cst (.int 1)))) (.sub (.sub (.var 0) (.sub (.var 3) (.cst (.int 0)))) (.sub (.var 3) (.cst (.int 1))))))
def q_law_gives_1 : CS := (.ret (.and (.cons (.cmp .In (.var 5) (.var 1)) (.cons (.cmp .LtE (.call 0 (.cons (.var 3) (.cons (.var 4) .nil))) (.var 2)) .nil))))
def b__law_gives : CS :=
  (.cons q_law_gives_0 (.cons q_law_gives_1 .nil))
theorem sc__law_gives : FnScope S__law_gives.N ["plot", "table", "reach", "giver", "place"] (defScope s__law_gives) := ⟨rfl, rfl, rfl, by decide +kernel, rfl, by decide +kernel, by decide +kernel⟩
theorem ck__law_gives : chkSs b__law_gives S__law_gives (defBody s__law_gives) = true := by decide +kernel
def d__law_gives : Den := run [d__law_far] 6 b__law_gives
abbrev s__law_givers : Stmt := topS 49
def S__law_givers : Sc := ⟨["plot", "table", "reach", "place", "own"], defScope s__law_givers, fun _ => true, [("_law_trees", 1), ("_law_gives", 5)], [], [], []⟩
def q_law_givers_0 : CS := (.ret (.lc (.var 4) (.call 0 (.cons (.var 0) .nil)) (.cons (.call 1 (.cons (.var 0) (.cons (.var 1) (.cons (.var 2) (.cons (.var 4) (.cons (.var 3) .nil)))))) .nil) (.var 4)))
def b__law_givers : CS :=
  (.cons q_law_givers_0 .nil)
theorem sc__law_givers : FnScope S__law_givers.N ["plot", "table", "reach", "place"] (defScope s__law_givers) := ⟨rfl, rfl, rfl, by decide +kernel, rfl, by decide +kernel, by decide +kernel⟩
theorem ck__law_givers : chkSs b__law_givers S__law_givers (defBody s__law_givers) = true := by decide +kernel
def d__law_givers : Den := run [d__law_trees, d__law_gives] 5 b__law_givers
abbrev s__law_lonely : Stmt := topS 50
def S__law_lonely : Sc := ⟨["plot", "table", "reach", "place"], defScope s__law_lonely, fun _ => true, [("_law_trees", 1), ("_law_givers", 4)], [], [], []⟩
def q_law_lonely_0 : CS := (.ret (.lc (.var 3) (.call 0 (.cons (.var 0) .nil)) (.cons (.cmp .Eq (.call 1 (.cons (.var 0) (.cons (.var 1) (.cons (.var 2) (.cons (.var 3) .nil))))) (.lst .nil)) .nil) (.var 3)))
def b__law_lonely : CS :=
  (.cons q_law_lonely_0 .nil)
theorem sc__law_lonely : FnScope S__law_lonely.N ["plot", "table", "reach"] (defScope s__law_lonely) := ⟨rfl, rfl, rfl, by decide +kernel, rfl, by decide +kernel, by decide +kernel⟩
theorem ck__law_lonely : chkSs b__law_lonely S__law_lonely (defBody s__law_lonely) = true := by decide +kernel
def d__law_lonely : Den := run [d__law_trees, d__law_givers] 4 b__law_lonely
abbrev s__law_same : Stmt := topS 42
def S__law_same : Sc := ⟨["told", "due", "at"], defScope s__law_same, fun _ => true, [("_law_same", 2)], [], ["str", "isinstance", "int", "bool", "tuple", "all", "range", "len"], []⟩
def b__law_same : CS :=
  (.cons (.ite (.bi (.isa .tuple) (.cons (.var 1) .nil)) (.cons (.ite (.or (.cons (.not (.bi (.isa .tuple) (.cons (.var 0) .nil))) (.cons (.cmp .NotEq (.bi .len (.cons (.var 0) .nil)) (.bi .len (.cons (.var 1) .nil))) .nil))) (.cons (.ret (.cst (.bool false)))
    .nil) .nil)
    (.cons (.ret (.bi .all (.cons (.lc (.var 2) (.rng (.cons (.bi .len (.cons (.var 1) .nil)) .nil)) .nil (.call 0 (.cons (.sub (.var 0) (.var 2)) (.cons (.sub (.var 1) (.var 2)) .nil)))) .nil)))
    .nil)) .nil)
    (.cons (.ite (.cmp .Is (.var 1) (.cst .none)) (.cons (.ret (.cmp .Is (.var 0) (.cst .none)))
    .nil) .nil)
    (.cons (.ite (.bi (.isa .bool) (.cons (.var 1) .nil)) (.cons (.ret (.ite (.var 1) (.cmp .Is (.var 0) (.cst (.bool true))) (.cmp .Is (.var 0) (.cst (.bool false)))))
    .nil) .nil)
    (.cons (.ite (.bi (.isa .int) (.cons (.var 1) .nil)) (.cons (.ret (.and (.cons (.bi (.isa .int) (.cons (.var 0) .nil)) (.cons (.not (.bi (.isa .bool) (.cons (.var 0) .nil))) (.cons (.cmp .Eq (.bi .int (.cons (.var 0) .nil)) (.var 1)) .nil)))))
    .nil) .nil)
    (.cons (.ret (.and (.cons (.bi (.isa .str) (.cons (.var 0) .nil)) (.cons (.cmp .Eq (.bi .str (.cons (.var 0) .nil)) (.var 1)) .nil))))
    .nil)))))
theorem sc__law_same : FnScope S__law_same.N ["told", "due"] (defScope s__law_same) := ⟨rfl, rfl, rfl, by decide +kernel, rfl, by decide +kernel, by decide +kernel⟩
theorem ck__law_same : chkSs b__law_same S__law_same (defBody s__law_same) = true := by decide +kernel
def d__law_same : Nat → Den
  | 0 => fun _ => stk
  | n + 1 => run [d__law_same n] 3 b__law_same
abbrev s_fits_row : Stmt := topS 15
def S_fits_row : Sc := ⟨["value", "sign"], defScope s_fits_row, fun _ => true, [], [("KINDS", (.str "abcdefgh")), ("BARE", (.str ".")), ("SIDE", (.int 12))], ["all", "len", "isinstance", "str"], []⟩
def b_fits_row : CS :=
  (.cons (.ret (.and (.cons (.bi (.isa .str) (.cons (.var 0) .nil)) (.cons (.chn .LtE .LtE (.cst (.int 1)) (.bi .len (.cons (.var 0) .nil)) (.glb (.int 12) "SIDE")) (.cons (.bi .all (.cons (.lc (.var 1) (.var 0) .nil (.or (.cons (.cmp .Eq (.var 1) (.glb (.str ".") "BARE")) (.cons (.cmp .In (.var 1) (.glb (.str "abcdefgh") "KINDS")) .nil)))) .nil)) .nil)))))
    .nil)
theorem sc_fits_row : FnScope S_fits_row.N ["value"] (defScope s_fits_row) := ⟨rfl, rfl, rfl, by decide +kernel, rfl, by decide +kernel, by decide +kernel⟩
theorem ck_fits_row : chkSs b_fits_row S_fits_row (defBody s_fits_row) = true := by decide +kernel
def d_fits_row : Den := run [] 2 b_fits_row
abbrev s_is_tuple_of : Stmt := topS 12
def S_is_tuple_of : Sc := ⟨["value", "least", "most"], defScope s_is_tuple_of, fun _ => true, [], [], ["len", "isinstance", "tuple"], []⟩
def b_is_tuple_of : CS :=
  (.cons (.ret (.and (.cons (.bi (.isa .tuple) (.cons (.var 0) .nil)) (.cons (.chn .LtE .LtE (.var 1) (.bi .len (.cons (.var 0) .nil)) (.var 2)) .nil))))
    .nil)
theorem sc_is_tuple_of : FnScope S_is_tuple_of.N ["value", "least", "most"] (defScope s_is_tuple_of) := ⟨rfl, rfl, rfl, by decide +kernel, rfl, by decide +kernel, by decide +kernel⟩
theorem ck_is_tuple_of : chkSs b_is_tuple_of S_is_tuple_of (defBody s_is_tuple_of) = true := by decide +kernel
def d_is_tuple_of : Den := run [] 3 b_is_tuple_of
abbrev s_fits_plot : Stmt := topS 16
def S_fits_plot : Sc := ⟨["value", "one"], defScope s_fits_plot, fun _ => true, [("fits_row", 1), ("is_tuple_of", 3)], [("SIDE", (.int 12))], ["all", "len"], []⟩
def b_fits_plot : CS :=
  (.cons (.ite (.or (.cons (.not (.call 1 (.cons (.var 0) (.cons (.cst (.int 1)) (.cons (.glb (.int 12) "SIDE") .nil))))) (.cons (.not (.bi .all (.cons (.lc (.var 1) (.var 0) .nil (.call 0 (.cons (.var 1) .nil))) .nil))) .nil))) (.cons (.ret (.cst (.bool false)))
    .nil) .nil)
    (.cons (.ret (.bi .all (.cons (.lc (.var 1) (.var 0) .nil (.cmp .Eq (.bi .len (.cons (.var 1) .nil)) (.bi .len (.cons (.sub (.var 0) (.cst (.int 0))) .nil)))) .nil)))
    .nil))
theorem sc_fits_plot : FnScope S_fits_plot.N ["value"] (defScope s_fits_plot) := ⟨rfl, rfl, rfl, by decide +kernel, rfl, by decide +kernel, by decide +kernel⟩
theorem ck_fits_plot : chkSs b_fits_plot S_fits_plot (defBody s_fits_plot) = true := by decide +kernel
def d_fits_plot : Den := run [d_fits_row, d_is_tuple_of] 2 b_fits_plot
abbrev s_need_plot : Stmt := topS 17
def S_need_plot : Sc := ⟨["value"], defScope s_need_plot, fun _ => true, [("fits_plot", 1)], [], [], []⟩
def b_need_plot : CS :=
  (.cons (.ite (.not (.call 0 (.cons (.var 0) .nil))) (.cons .nev
    .nil) .nil)
    .nil)
theorem sc_need_plot : FnScope S_need_plot.N ["value"] (defScope s_need_plot) := ⟨rfl, rfl, rfl, by decide +kernel, rfl, by decide +kernel, by decide +kernel⟩
theorem ck_need_plot : chkSs b_need_plot S_need_plot (defBody s_need_plot) = true := by decide +kernel
def d_need_plot : Den := run [d_fits_plot] 1 b_need_plot
abbrev s_is_rising : Stmt := topS 13
def S_is_rising : Sc := ⟨["values", "one", "other"], defScope s_is_rising, fun _ => true, [], [], ["all", "zip"], []⟩
def qis_rising_0 : CS := (.ret (.bi .all (.cons (.lc (.tup (.cons (.var 1) (.cons (.var 2) .nil))) (.zip (.var 0) (.slc (.var 0) (.cst (.int 1)) .nil)) .nil (.cmp .Lt (.var 1) (.var 2))) .nil)))
def b_is_rising : CS :=
  (.cons qis_rising_0 .nil)
theorem sc_is_rising : FnScope S_is_rising.N ["values"] (defScope s_is_rising) := ⟨rfl, rfl, rfl, by decide +kernel, rfl, by decide +kernel, by decide +kernel⟩
theorem ck_is_rising : chkSs b_is_rising S_is_rising (defBody s_is_rising) = true := by decide +kernel
def d_is_rising : Den := run [] 3 b_is_rising
abbrev s_fits_kind : Stmt := topS 14
def S_fits_kind : Sc := ⟨["value"], defScope s_fits_kind, fun _ => true, [], [("KINDS", (.str "abcdefgh"))], ["len", "isinstance", "str"], []⟩
def b_fits_kind : CS :=
  (.cons (.ret (.and (.cons (.bi (.isa .str) (.cons (.var 0) .nil)) (.cons (.cmp .Eq (.bi .len (.cons (.var 0) .nil)) (.cst (.int 1))) (.cons (.cmp .In (.var 0) (.glb (.str "abcdefgh") "KINDS")) .nil)))))
    .nil)
theorem sc_fits_kind : FnScope S_fits_kind.N ["value"] (defScope s_fits_kind) := ⟨rfl, rfl, rfl, by decide +kernel, rfl, by decide +kernel, by decide +kernel⟩
theorem ck_fits_kind : chkSs b_fits_kind S_fits_kind (defBody s_fits_kind) = true := by decide +kernel
def d_fits_kind : Den := run [] 1 b_fits_kind
abbrev s_fits_table : Stmt := topS 24
def S_fits_table : Sc := ⟨["value", "one"], defScope s_fits_table, fun _ => true, [("is_rising", 1), ("fits_kind", 1)], [], ["all", "len", "isinstance", "str", "tuple"], []⟩
def qfits_table_0 : CS := (.ite (.or (.cons (.not (.bi (.isa .tuple) (.cons (.var 0) .nil))) (.cons (.not (.bi .all (.cons (.lc (.var 1) (.var 0) .nil (.and (.cons (.bi (.isa .str) (.cons (.var 1) .nil)) (.cons (.cmp .Eq (.bi .len (.cons (.var 1) .nil)) (.cst (.int 2))) .nil)))) .nil))) .nil))) (.cons (.ret (.cst (.bool false)))
    .nil) .nil)
def qfits_table_1 : CS := (.ret (.and (.cons (.bi .all (.cons (.lc (.var 1) (.var 0) .nil (.and (.cons (.call 1 (.cons (.sub (.var 1) (.cst (.int 0))) .nil)) (.cons (.call 1 (.cons (.sub (.var 1) (.cst (.int 1))) .nil)) .nil)))) .nil)) (.cons (.call 0 (.cons (.var 0) .nil)) .nil))))
def b_fits_table : CS :=
  (.cons qfits_table_0 (.cons qfits_table_1 .nil))
theorem sc_fits_table : FnScope S_fits_table.N ["value"] (defScope s_fits_table) := ⟨rfl, rfl, rfl, by decide +kernel, rfl, by decide +kernel, by decide +kernel⟩
theorem ck_fits_table : chkSs b_fits_table S_fits_table (defBody s_fits_table) = true := by decide +kernel
def d_fits_table : Den := run [d_is_rising, d_fits_kind] 2 b_fits_table
abbrev s_need_table : Stmt := topS 25
def S_need_table : Sc := ⟨["value"], defScope s_need_table, fun _ => true, [("fits_table", 1)], [], [], []⟩
def qneed_table_0 : CS := (.ite (.not (.call 0 (.cons (.var 0) .nil))) (.cons .nev
    .nil) .nil)
def b_need_table : CS :=
  (.cons qneed_table_0 .nil)
theorem sc_need_table : FnScope S_need_table.N ["value"] (defScope s_need_table) := ⟨rfl, rfl, rfl, by decide +kernel, rfl, by decide +kernel, by decide +kernel⟩
theorem ck_need_table : chkSs b_need_table S_need_table (defBody s_need_table) = true := by decide +kernel
def d_need_table : Den := run [d_fits_table] 1 b_need_table
abbrev s_is_whole : Stmt := topS 10
def S_is_whole : Sc := ⟨["value"], defScope s_is_whole, fun _ => true, [], [], ["isinstance", "bool", "int"], []⟩
def b_is_whole : CS :=
  (.cons (.ret (.and (.cons (.bi (.isa .int) (.cons (.var 0) .nil)) (.cons (.not (.bi (.isa .bool) (.cons (.var 0) .nil))) .nil))))
    .nil)
theorem sc_is_whole : FnScope S_is_whole.N ["value"] (defScope s_is_whole) := ⟨rfl, rfl, rfl, by decide +kernel, rfl, by decide +kernel, by decide +kernel⟩
theorem ck_is_whole : chkSs b_is_whole S_is_whole (defBody s_is_whole) = true := by decide +kernel
def d_is_whole : Den := run [] 1 b_is_whole
abbrev s_fits_whole : Stmt := topS 11
def S_fits_whole : Sc := ⟨["value", "low", "high"], defScope s_fits_whole, fun _ => true, [("is_whole", 1)], [], [], []⟩
def b_fits_whole : CS :=
  (.cons (.ret (.and (.cons (.call 0 (.cons (.var 0) .nil)) (.cons (.chn .LtE .LtE (.var 1) (.var 0) (.var 2)) .nil))))
    .nil)
theorem sc_fits_whole : FnScope S_fits_whole.N ["value", "low", "high"] (defScope s_fits_whole) := ⟨rfl, rfl, rfl, by decide +kernel, rfl, by decide +kernel, by decide +kernel⟩
theorem ck_fits_whole : chkSs b_fits_whole S_fits_whole (defBody s_fits_whole) = true := by decide +kernel
def d_fits_whole : Den := run [d_is_whole] 3 b_fits_whole
abbrev s_fits_place : Stmt := topS 18
def S_fits_place : Sc := ⟨["plot", "value"], defScope s_fits_place, fun _ => true, [("fits_whole", 3), ("is_tuple_of", 3)], [], ["len"], []⟩
def b_fits_place : CS :=
  (.cons (.ite (.not (.call 1 (.cons (.var 1) (.cons (.cst (.int 2)) (.cons (.cst (.int 2)) .nil))))) (.cons (.ret (.cst (.bool false)))
    .nil) .nil)
    (.cons (.ret (.and (.cons (.call 0 (.cons (.sub (.var 1) (.cst (.int 0))) (.cons (.cst (.int 0)) (.cons (.bin .Sub (.bi .len (.cons (.var 0) .nil)) (.cst (.int 1))) .nil)))) (.cons (.call 0 (.cons (.sub (.var 1) (.cst (.int 1))) (.cons (.cst (.int 0)) (.cons (.bin .Sub (.bi .len (.cons (.sub (.var 0) (.cst (.int 0))) .nil)) (.cst (.int 1))) .nil)))) .nil))))
    .nil))
theorem sc_fits_place : FnScope S_fits_place.N ["plot", "value"] (defScope s_fits_place) := ⟨rfl, rfl, rfl, by decide +kernel, rfl, by decide +kernel, by decide +kernel⟩
theorem ck_fits_place : chkSs b_fits_place S_fits_place (defBody s_fits_place) = true := by decide +kernel
def d_fits_place : Den := run [d_fits_whole, d_is_tuple_of] 2 b_fits_place
abbrev s_need_place : Stmt := topS 19
def S_need_place : Sc := ⟨["plot", "value"], defScope s_need_place, fun _ => true, [("fits_place", 2)], [], [], []⟩
def b_need_place : CS :=
  (.cons (.ite (.not (.call 0 (.cons (.var 0) (.cons (.var 1) .nil)))) (.cons .nev
    .nil) .nil)
    .nil)
theorem sc_need_place : FnScope S_need_place.N ["plot", "value"] (defScope s_need_place) := ⟨rfl, rfl, rfl, by decide +kernel, rfl, by decide +kernel, by decide +kernel⟩
theorem ck_need_place : chkSs b_need_place S_need_place (defBody s_need_place) = true := by decide +kernel
def d_need_place : Den := run [d_fits_place] 2 b_need_place
abbrev s_need_tree : Stmt := topS 28
def S_need_tree : Sc := ⟨["plot", "place"], defScope s_need_tree, fun _ => true, [("need_place", 2)], [("BARE", (.str "."))], [], []⟩
def qneed_tree_0 : CS := (.ex (.call 0 (.cons (.var 0) (.cons (.var 1) .nil))))
def qneed_tree_1 : CS := (.ite (.cmp .Eq (.sub (.sub (.var 0) (.sub (.var 1) (.cst (.int 0)))) (.sub (.var 1) (.cst (.int 1)))) (.glb (.str ".") "BARE")) (.cons .nev
    .nil) .nil)
def b_need_tree : CS :=
  (.cons qneed_tree_0 (.cons qneed_tree_1 .nil))
theorem sc_need_tree : FnScope S_need_tree.N ["plot", "place"] (defScope s_need_tree) := ⟨rfl, rfl, rfl, by decide +kernel, rfl, by decide +kernel, by decide +kernel⟩
theorem ck_need_tree : chkSs b_need_tree S_need_tree (defBody s_need_tree) = true := by decide +kernel
def d_need_tree : Den := run [d_need_place] 2 b_need_tree
abbrev s_mates_in : Stmt := topS 29
def S_mates_in : Sc := ⟨["table", "kind", "one"], defScope s_mates_in, fun _ => true, [], [], [], []⟩
def qmates_in_0 : CS := (.ret (.lc (.var 2) (.var 0) (.cons (.cmp .Eq (.sub (.var 2) (.cst (.int 0))) (.var 1)) .nil) (.sub (.var 2) (.cst (.int 1)))))
def b_mates_in : CS :=
  (.cons qmates_in_0 .nil)
theorem sc_mates_in : FnScope S_mates_in.N ["table", "kind"] (defScope s_mates_in) := ⟨rfl, rfl, rfl, by decide +kernel, rfl, by decide +kernel, by decide +kernel⟩
theorem ck_mates_in : chkSs b_mates_in S_mates_in (defBody s_mates_in) = true := by decide +kernel
def d_mates_in : Den := run [] 3 b_mates_in
abbrev s_places_in : Stmt := topS 20
def S_places_in : Sc := ⟨["plot", "row", "column"], defScope s_places_in, fun _ => true, [], [], ["range", "len"], []⟩
def qplaces_in_0 : CS := (.ret (.lc2 (.var 1) (.rng (.cons (.bi .len (.cons (.var 0) .nil)) .nil)) .nil (.var 2) (.rng (.cons (.bi .len (.cons (.sub (.var 0) (.cst (.int 0))) .nil)) .nil)) .nil (.tup (.cons (.var 1) (.cons (.var 2) .nil)))))
def b_places_in : CS :=
  (.cons qplaces_in_0 .nil)
theorem sc_places_in : FnScope S_places_in.N ["plot"] (defScope s_places_in) := ⟨rfl, rfl, rfl, by decide +kernel, rfl, by decide +kernel, by decide +kernel⟩
theorem ck_places_in : chkSs b_places_in S_places_in (defBody s_places_in) = true := by decide +kernel
def d_places_in : Den := run [] 3 b_places_in
abbrev s_trees_in : Stmt := topS 21
def S_trees_in : Sc := ⟨["plot", "row", "column"], defScope s_trees_in, fun _ => true, [("places_in", 1)], [("BARE", (.str "."))], [], []⟩
def qtrees_in_0 : CS := (.ret (.lc (.tup (.cons (.var 1) (.cons (.var 2) .nil))) (.call 0 (.cons (.var 0) .nil)) (.cons (.cmp .NotEq (.sub (.sub (.var 0) (.var 1)) (.var 2)) (.glb (.str ".") "BARE")) .nil) (.tup (.cons (.var 1) (.cons (.var 2) .nil)))))
def b_trees_in : CS :=
  (.cons qtrees_in_0 .nil)
theorem sc_trees_in : FnScope S_trees_in.N ["plot"] (defScope s_trees_in) := ⟨rfl, rfl, rfl, by decide +kernel, rfl, by decide +kernel, by decide +kernel⟩
theorem ck_trees_in : chkSs b_trees_in S_trees_in (defBody s_trees_in) = true := by decide +kernel
def d_trees_in : Den := run [d_places_in] 3 b_trees_in
abbrev s_far_in : Stmt := topS 22
def S_far_in : Sc := ⟨["one", "other"], defScope s_far_in, fun _ => true, [], [], ["abs"], []⟩
def qfar_in_0 : CS := (.ret (.bin .Add (.bi .abs (.cons (.bin .Sub (.sub (.var 0) (.cst (.int 0))) (.sub (.var 1) (.cst (.int 0)))) .nil)) (.bi .abs (.cons (.bin .Sub (.sub (.var 0) (.cst (.int 1))) (.sub (.var 1) (.cst (.int 1)))) .nil))))
def b_far_in : CS :=
  (.cons qfar_in_0 .nil)
theorem sc_far_in : FnScope S_far_in.N ["one", "other"] (defScope s_far_in) := ⟨rfl, rfl, rfl, by decide +kernel, rfl, by decide +kernel, by decide +kernel⟩
theorem ck_far_in : chkSs b_far_in S_far_in (defBody s_far_in) = true := by decide +kernel
def d_far_in : Den := run [] 2 b_far_in
abbrev s_givers_in : Stmt := topS 30
def S_givers_in : Sc := ⟨["plot", "table", "reach", "place", "mates", "found", "own"], defScope s_givers_in, fun _ => true, [("mates_in", 2), ("trees_in", 1), ("far_in", 2)], [], [], []⟩
def qgivers_in_0 : CS := (.asg 4 (.call 0 (.cons (.var 1) (.cons (.sub (.sub (.var 0) (.sub (.var 3) (.cst (.int 0)))) (.sub (.var 3) (.cst (.int 1)))) .nil))))
def qgivers_in_1 : CS := (.asg 5 (.lc (.var 6) (.call 1 (.cons (.var 0) .nil)) (.cons (.cmp .In (.sub (.sub (.var 0) (.sub (.var 6) (.cst (.int 0)))) (.sub (.var 6) (.cst (.int 1)))) (.var 4)) .nil) (.var 6)))
def qgivers_in_2 : CS := (.ret (.lc (.var 6) (.var 5) (.cons (.or (.cons (.cmp .Eq (.var 6) (.var 3)) (.cons (.cmp .LtE (.call 2 (.cons (.var 6) (.cons (.var 3) .nil))) (.var 2)) .nil))) .nil) (.var 6)))
def b_givers_in : CS :=
  (.cons qgivers_in_0 (.cons qgivers_in_1 (.cons qgivers_in_2 .nil)))
theorem sc_givers_in : FnScope S_givers_in.N ["plot", "table", "reach", "place"] (defScope s_givers_in) := ⟨rfl, rfl, rfl, by decide +kernel, rfl, by decide +kernel, by decide +kernel⟩
theorem ck_givers_in : chkSs b_givers_in S_givers_in (defBody s_givers_in) = true := by decide +kernel
def d_givers_in : Den := run [d_mates_in, d_trees_in, d_far_in] 7 b_givers_in
abbrev s_reach_for : Stmt := topS 34
def S_reach_for : Sc := ⟨["plot", "table", "place", "fars", "own"], defScope s_reach_for, fun _ => true, [("need_plot", 1), ("need_table", 1), ("need_tree", 2), ("givers_in", 4), ("far_in", 2)], [("SIDE", (.int 12))], ["min"], []⟩
def qreach_for_0 : CS := (.ex (.call 0 (.cons (.var 0) .nil)))
def qreach_for_1 : CS := (.ex (.call 1 (.cons (.var 1) .nil)))
def qreach_for_2 : CS := (.ex (.call 2 (.cons (.var 0) (.cons (.var 2) .nil))))
def qreach_for_3 : CS := (.asg 3 (.lc (.var 4) (.call 3 (.cons (.var 0) (.cons (.var 1) (.cons (.bin .Mult (.cst (.int 2)) (.glb (.int 12) "SIDE")) (.cons (.var 2) .nil))))) .nil (.call 4 (.cons (.var 4) (.cons (.var 2) .nil)))))
def qreach_for_4 : CS := (.ret (.ite (.cmp .NotEq (.var 3) (.lst .nil)) (.bi .min (.cons (.var 3) .nil)) (.cst .none)))
def b_reach_for : CS :=
  (.cons qreach_for_0 (.cons qreach_for_1 (.cons qreach_for_2 (.cons qreach_for_3 (.cons qreach_for_4 .nil)))))
theorem sc_reach_for : FnScope S_reach_for.N ["plot", "table", "place"] (defScope s_reach_for) := ⟨rfl, rfl, rfl, by decide +kernel, rfl, by decide +kernel, by decide +kernel⟩
theorem ck_reach_for : chkSs b_reach_for S_reach_for (defBody s_reach_for) = true := by decide +kernel
def d_reach_for : Den := run [d_need_plot, d_need_table, d_need_tree, d_givers_in, d_far_in] 5 b_reach_for
abbrev s_does_set : Stmt := topS 31
def S_does_set : Sc := ⟨["plot", "table", "reach", "place"], defScope s_does_set, fun _ => true, [("givers_in", 4)], [], [], []⟩
def qdoes_set_0 : CS := (.ret (.cmp .NotEq (.call 0 (.cons (.var 0) (.cons (.var 1) (.cons (.var 2) (.cons (.var 3) .nil))))) (.lst .nil)))
def b_does_set : CS :=
  (.cons qdoes_set_0 .nil)
theorem sc_does_set : FnScope S_does_set.N ["plot", "table", "reach", "place"] (defScope s_does_set) := ⟨rfl, rfl, rfl, by decide +kernel, rfl, by decide +kernel, by decide +kernel⟩
theorem ck_does_set : chkSs b_does_set S_does_set (defBody s_does_set) = true := by decide +kernel
def d_does_set : Den := run [d_givers_in] 4 b_does_set
abbrev s_lonely_in : Stmt := topS 32
def S_lonely_in : Sc := ⟨["plot", "table", "reach", "place"], defScope s_lonely_in, fun _ => true, [("trees_in", 1), ("does_set", 4)], [], [], []⟩
def qlonely_in_0 : CS := (.ret (.lc (.var 3) (.call 0 (.cons (.var 0) .nil)) (.cons (.not (.call 1 (.cons (.var 0) (.cons (.var 1) (.cons (.var 2) (.cons (.var 3) .nil)))))) .nil) (.var 3)))
def b_lonely_in : CS :=
  (.cons qlonely_in_0 .nil)
theorem sc_lonely_in : FnScope S_lonely_in.N ["plot", "table", "reach"] (defScope s_lonely_in) := ⟨rfl, rfl, rfl, by decide +kernel, rfl, by decide +kernel, by decide +kernel⟩
theorem ck_lonely_in : chkSs b_lonely_in S_lonely_in (defBody s_lonely_in) = true := by decide +kernel
def d_lonely_in : Den := run [d_trees_in, d_does_set] 4 b_lonely_in
abbrev s_set_counts : Stmt := topS 37
def S_set_counts : Sc := ⟨["plot", "table", "many", "reach"], defScope s_set_counts, fun _ => true, [("need_plot", 1), ("need_table", 1), ("trees_in", 1), ("lonely_in", 3)], [("SIDE", (.int 12))], ["len", "tuple", "range"], []⟩
def qset_counts_0 : CS := (.ex (.call 0 (.cons (.var 0) .nil)))
def qset_counts_1 : CS := (.ex (.call 1 (.cons (.var 1) .nil)))
def qset_counts_2 : CS := (.asg 2 (.bi .len (.cons (.call 2 (.cons (.var 0) .nil)) .nil)))
def qset_counts_3 : CS := (.ret (.bi .tuple (.cons (.lc (.var 3) (.rng (.cons (.bin .Sub (.bin .Mult (.cst (.int 2)) (.glb (.int 12) "SIDE")) (.cst (.int 1))) .nil)) .nil (.bin .Sub (.var 2) (.bi .len (.cons (.call 3 (.cons (.var 0) (.cons (.var 1) (.cons (.var 3) .nil)))) .nil)))) .nil)))
def b_set_counts : CS :=
  (.cons qset_counts_0 (.cons qset_counts_1 (.cons qset_counts_2 (.cons qset_counts_3 .nil))))
theorem sc_set_counts : FnScope S_set_counts.N ["plot", "table"] (defScope s_set_counts) := ⟨rfl, rfl, rfl, by decide +kernel, rfl, by decide +kernel, by decide +kernel⟩
theorem ck_set_counts : chkSs b_set_counts S_set_counts (defBody s_set_counts) = true := by decide +kernel
def d_set_counts : Den := run [d_need_plot, d_need_table, d_trees_in, d_lonely_in] 4 b_set_counts
abbrev s_hermits : Stmt := topS 36
def S_hermits : Sc := ⟨["plot", "table"], defScope s_hermits, fun _ => true, [("need_plot", 1), ("need_table", 1), ("lonely_in", 3)], [("SIDE", (.int 12))], ["tuple"], []⟩
def qhermits_0 : CS := (.ex (.call 0 (.cons (.var 0) .nil)))
def qhermits_1 : CS := (.ex (.call 1 (.cons (.var 1) .nil)))
def qhermits_2 : CS := (.ret (.bi .tuple (.cons (.call 2 (.cons (.var 0) (.cons (.var 1) (.cons (.bin .Mult (.cst (.int 2)) (.glb (.int 12) "SIDE")) .nil)))) .nil)))
def b_hermits : CS :=
  (.cons qhermits_0 (.cons qhermits_1 (.cons qhermits_2 .nil)))
theorem sc_hermits : FnScope S_hermits.N ["plot", "table"] (defScope s_hermits) := ⟨rfl, rfl, rfl, by decide +kernel, rfl, by decide +kernel, by decide +kernel⟩
theorem ck_hermits : chkSs b_hermits S_hermits (defBody s_hermits) = true := by decide +kernel
def d_hermits : Den := run [d_need_plot, d_need_table, d_lonely_in] 2 b_hermits
abbrev s_reach_for_all : Stmt := topS 35
def S_reach_for_all : Sc := ⟨["plot", "table", "fars", "place"], defScope s_reach_for_all, fun _ => true, [("need_plot", 1), ("need_table", 1), ("trees_in", 1), ("reach_for", 3)], [], ["max"], []⟩
def qreach_for_all_0 : CS := (.ex (.call 0 (.cons (.var 0) .nil)))
def qreach_for_all_1 : CS := (.ex (.call 1 (.cons (.var 1) .nil)))
def qreach_for_all_2 : CS := (.asg 2 (.lc (.var 3) (.call 2 (.cons (.var 0) .nil)) .nil (.call 3 (.cons (.var 0) (.cons (.var 1) (.cons (.var 3) .nil))))))
def qreach_for_all_3 : CS := (.ret (.ite (.cmp .In (.cst .none) (.var 2)) (.cst .none) (.bi .max (.cons (.bin .Add (.lst (.cons (.cst (.int 0)) .nil)) (.var 2)) .nil))))
def b_reach_for_all : CS :=
  (.cons qreach_for_all_0 (.cons qreach_for_all_1 (.cons qreach_for_all_2 (.cons qreach_for_all_3 .nil))))
theorem sc_reach_for_all : FnScope S_reach_for_all.N ["plot", "table"] (defScope s_reach_for_all) := ⟨rfl, rfl, rfl, by decide +kernel, rfl, by decide +kernel, by decide +kernel⟩
theorem ck_reach_for_all : chkSs b_reach_for_all S_reach_for_all (defBody s_reach_for_all) = true := by decide +kernel
def d_reach_for_all : Den := run [d_need_plot, d_need_table, d_trees_in, d_reach_for] 4 b_reach_for_all
abbrev s__law_right : Stmt := topS 51
def S__law_right : Sc := ⟨["cup", "plot", "table", "trees", "lonely", "reach", "needs", "place", "some", "due", "told"], defScope s__law_right, fun _ => true, [("_law_plot", 3), ("_law_table", 1), ("_law_trees", 1), ("_law_lonely", 3), ("_law_same", 2), ("reach_for", 3), ("set_counts", 2), ("hermits", 2), ("reach_for_all", 2)], [], ["range", "max", "tuple", "len"], []⟩
def q_law_right_0 : CS := (.par 1 2 (.call 0 (.cons (.var 0) (.cons (.cst (.int 4)) (.cons (.cst (.str "abc")) .nil)))) (.call 1 (.cons (.var 0) .nil)))
def q_law_right_1 : CS := (.parO 3 4 (.call 2 (.cons (.var 1) .nil)) (.lst .nil))
def q_law_right_2b_0 : CS := (.app 4 (.call 3 (.cons (.var 1) (.cons (.var 2) (.cons (.var 5) .nil)))))
def q_law_right_2b : CS := (.cons q_law_right_2b_0 .nil)
def q_law_right_2 : CS := (.for_ (.var 5) (.rng (.cons (.cst (.int 25)) .nil)) q_law_right_2b)
def q_law_right_3 : CS := (.asg 6 (.lst .nil))
def q_law_right_4b_0 : CS := (.asg 8 (.lc (.var 5) (.rng (.cons (.cst (.int 25)) .nil)) (.cons (.cmp .NotIn (.var 7) (.sub (.var 4) (.var 5))) .nil) (.var 5)))
def q_law_right_4b_1 : CS := (.app 6 (.ite (.cmp .NotEq (.var 8) (.lst .nil)) (.sub (.var 8) (.cst (.int 0))) (.cst .none)))
def q_law_right_4b_2 : CS := (.ite (.not (.call 4 (.cons (.call 5 (.cons (.var 1) (.cons (.var 2) (.cons (.var 7) .nil)))) (.cons (.sub (.var 6) (.neg (.cst (.int 1)))) .nil)))) (.cons (.ret (.cst (.bool false)))
    .nil) .nil)
def q_law_right_4b : CS := (.cons q_law_right_4b_0 (.cons q_law_right_4b_1 (.cons q_law_right_4b_2 .nil)))
def q_law_right_4 : CS := (.for_ (.var 7) (.var 3) q_law_right_4b)
def q_law_right_5 : CS := (.asg 9 (.ite (.cmp .In (.cst .none) (.var 6)) (.cst .none) (.bi .max (.cons (.bin .Add (.lst (.cons (.cst (.int 0)) .nil)) (.var 6)) .nil))))
def q_law_right_6 : CS := (.asg 10 (.tup (.cons (.call 8 (.cons (.var 1) (.cons (.var 2) .nil))) (.cons (.call 7 (.cons (.var 1) (.cons (.var 2) .nil))) (.cons (.call 6 (.cons (.var 1) (.cons (.var 2) .nil))) .nil)))))
def q_law_right_7 : CS := (.ret (.call 4 (.cons (.var 10) (.cons (.tup (.cons (.var 9) (.cons (.bi .tuple (.cons (.sub (.var 4) (.cst (.int 24))) .nil)) (.cons (.bi .tuple (.cons (.lc (.var 5) (.rng (.cons (.cst (.int 23)) .nil)) .nil (.bin .Sub (.bi .len (.cons (.var 3) .nil)) (.bi .len (.cons (.sub (.var 4) (.var 5)) .nil)))) .nil)) .nil)))) .nil))))
def b__law_right : CS :=
  (.cons q_law_right_0 (.cons q_law_right_1 (.cons q_law_right_2 (.cons q_law_right_3 (.cons q_law_right_4 (.cons q_law_right_5 (.cons q_law_right_6 (.cons q_law_right_7 .nil))))))))
theorem sc__law_right : FnScope S__law_right.N ["cup"] (defScope s__law_right) := ⟨rfl, rfl, rfl, by decide +kernel, rfl, by decide +kernel, by decide +kernel⟩
theorem ck__law_right : chkSs b__law_right S__law_right (defBody s__law_right) = true := by decide +kernel
def d__law_right : Den := run [d__law_plot, d__law_table, d__law_trees, d__law_lonely, d__law_same 6, d_reach_for, d_set_counts, d_hermits, d_reach_for_all] 11 b__law_right
abbrev s_need_reach : Stmt := topS 26
def S_need_reach : Sc := ⟨["value"], defScope s_need_reach, fun _ => true, [("fits_whole", 3)], [("SIDE", (.int 12))], [], []⟩
def qneed_reach_0 : CS := (.ite (.not (.call 0 (.cons (.var 0) (.cons (.cst (.int 0)) (.cons (.bin .Mult (.cst (.int 2)) (.glb (.int 12) "SIDE")) .nil))))) (.cons .nev
    .nil) .nil)
def b_need_reach : CS :=
  (.cons qneed_reach_0 .nil)
theorem sc_need_reach : FnScope S_need_reach.N ["value"] (defScope s_need_reach) := ⟨rfl, rfl, rfl, by decide +kernel, rfl, by decide +kernel, by decide +kernel⟩
theorem ck_need_reach : chkSs b_need_reach S_need_reach (defBody s_need_reach) = true := by decide +kernel
def d_need_reach : Den := run [d_fits_whole] 1 b_need_reach
abbrev s_need_all : Stmt := topS 27
def S_need_all : Sc := ⟨["plot", "table", "reach"], defScope s_need_all, fun _ => true, [("need_plot", 1), ("need_table", 1), ("need_reach", 1)], [], [], []⟩
def qneed_all_0 : CS := (.ex (.call 0 (.cons (.var 0) .nil)))
def qneed_all_1 : CS := (.ex (.call 1 (.cons (.var 1) .nil)))
def qneed_all_2 : CS := (.ex (.call 2 (.cons (.var 2) .nil)))
def b_need_all : CS :=
  (.cons qneed_all_0 (.cons qneed_all_1 (.cons qneed_all_2 .nil)))
theorem sc_need_all : FnScope S_need_all.N ["plot", "table", "reach"] (defScope s_need_all) := ⟨rfl, rfl, rfl, by decide +kernel, rfl, by decide +kernel, by decide +kernel⟩
theorem ck_need_all : chkSs b_need_all S_need_all (defBody s_need_all) = true := by decide +kernel
def d_need_all : Den := run [d_need_plot, d_need_table, d_need_reach] 3 b_need_all
abbrev s_lonely_trees : Stmt := topS 33
def S_lonely_trees : Sc := ⟨["plot", "table", "reach"], defScope s_lonely_trees, fun _ => true, [("need_all", 3), ("lonely_in", 3)], [], ["tuple"], []⟩
def qlonely_trees_0 : CS := (.ex (.call 0 (.cons (.var 0) (.cons (.var 1) (.cons (.var 2) .nil)))))
def qlonely_trees_1 : CS := (.ret (.bi .tuple (.cons (.call 1 (.cons (.var 0) (.cons (.var 1) (.cons (.var 2) .nil)))) .nil)))
def b_lonely_trees : CS :=
  (.cons qlonely_trees_0 (.cons qlonely_trees_1 .nil))
theorem sc_lonely_trees : FnScope S_lonely_trees.N ["plot", "table", "reach"] (defScope s_lonely_trees) := ⟨rfl, rfl, rfl, by decide +kernel, rfl, by decide +kernel, by decide +kernel⟩
theorem ck_lonely_trees : chkSs b_lonely_trees S_lonely_trees (defBody s_lonely_trees) = true := by decide +kernel
def d_lonely_trees : Den := run [d_need_all, d_lonely_in] 3 b_lonely_trees
abbrev s_law : Stmt := topS 52
def S_law : Sc := ⟨["script", "cup", "turn", "high", "wide", "rows", "plot", "told", "far"], defScope s_law, fun _ => true, [("_law_cup", 1), ("_law_right", 1), ("_law_roll", 2), ("lonely_trees", 3), ("hermits", 2), ("reach_for_all", 2), ("reach_for", 3), ("_law_same", 2)], [], ["range", "tuple"], []⟩
def q_0b_0 : CS := (.ite (.not (.call 1 (.cons (.var 1) .nil))) (.cons (.ret (.cst (.bool false)))
    .nil) .nil)
def q_0b : CS := (.cons q_0b_0 .nil)
def q_0 : CS := (.for_ (.var 2) (.rng (.cons (.cst (.int 3)) .nil)) q_0b)
def q_1 : CS := (.par 3 4 (.bin .Add (.cst (.int 1)) (.call 2 (.cons (.var 1) (.cons (.cst (.int 12)) .nil)))) (.bin .Add (.cst (.int 2)) (.call 2 (.cons (.var 1) (.cons (.cst (.int 11)) .nil)))))
def q_2 : CS := (.asg 5 (.bin .Mult (.lst (.cons (.bin .Mult (.cst (.str ".")) (.var 4)) .nil)) (.var 3)))
def q_3 : CS := (.sto 5 (.cst (.int 0)) (.bin .Add (.cst (.str "a")) (.bin .Mult (.cst (.str ".")) (.bin .Sub (.var 4) (.cst (.int 1))))))
def q_4 : CS := (.sto 5 (.neg (.cst (.int 1))) (.bin .Add (.slc (.sub (.var 5) (.neg (.cst (.int 1)))) .nil (.neg (.cst (.int 1)))) (.cst (.str "b"))))
def q_5 : CS := (.asg 6 (.bi .tuple (.cons (.var 5) .nil)))
def q_6 : CS := (.asg 7 (.tup (.cons (.call 6 (.cons (.var 6) (.cons (.tup (.cons (.cst (.str "ab")) .nil)) (.cons (.tup (.cons (.cst (.int 0)) (.cons (.cst (.int 0)) .nil))) .nil)))) (.cons (.call 5 (.cons (.var 6) (.cons (.tup (.cons (.cst (.str "ab")) (.cons (.cst (.str "ba")) .nil))) .nil))) (.cons (.call 4 (.cons (.var 6) (.cons (.tup (.cons (.cst (.str "ab")) .nil)) .nil))) (.cons (.call 3 (.cons (.var 6) (.cons (.tup (.cons (.cst (.str "ab")) (.cons (.cst (.str "bb")) .nil))) (.cons (.cst (.int 0)) .nil)))) .nil))))))
def q_7 : CS := (.asg 8 (.bin .Sub (.bin .Add (.var 3) (.var 4)) (.cst (.int 2))))
def q_8 : CS := (.ret (.call 7 (.cons (.var 7) (.cons (.tup (.cons (.var 8) (.cons (.var 8) (.cons (.tup (.cons (.tup (.cons (.bin .Sub (.var 3) (.cst (.int 1))) (.cons (.bin .Sub (.var 4) (.cst (.int 1))) .nil))) .nil)) (.cons (.tup (.cons (.tup (.cons (.cst (.int 0)) (.cons (.cst (.int 0)) .nil))) .nil)) .nil))))) .nil))))
def e0_law : CE := (.call 0 (.cons (.var 0) .nil))
def r_law : CS :=
  (.cons q_0 (.cons q_1 (.cons q_2 (.cons q_3 (.cons q_4 (.cons q_5 (.cons q_6 (.cons q_7 (.cons q_8 .nil)))))))))
def b_law : CS := .cons (.asg 1 e0_law) r_law
theorem sc_law : FnScope S_law.N ["script"] (defScope s_law) := ⟨rfl, rfl, rfl, by decide +kernel, rfl, by decide +kernel, by decide +kernel⟩
theorem ck_law : chkSs b_law S_law (defBody s_law) = true := by decide +kernel
section
variable {P : Program} {w : World} {K : PySem.W.Frag} {mg : Str → Option Value} {base : Heap} {cls : Nat → Value}
theorem ok__law_cup {f : Addr} {fd : FuncData} (F : Fun K "_law_cup" "_law_cup" s__law_cup f fd) (hb : Binds K fd ["script"] []) (z_int : mg "int" = none) (z_abs : mg "abs" = none) (z_list : mg "list" = none) (hm : mg "_law_cup" = some (.ref f)) : FunOk1 P w K mg base cls 1 "_law_cup" 1 d__law_cup :=
  ⟨f, fd, _, rfl, hm, F.kp, fn_ok F sc__law_cup rfl (by decide +kernel) ck__law_cup (pre_of (G := []) trivial trivial ⟨z_int, z_abs, z_list, trivial⟩), hb⟩
theorem ok__law_roll {f : Addr} {fd : FuncData} (F : Fun K "_law_roll" "_law_roll" s__law_roll f fd) (hb : Binds K fd ["cup", "many"] []) (z_int : mg "int" = none) (hm : mg "_law_roll" = some (.ref f)) : FunOk1 P w K mg base cls 1 "_law_roll" 2 d__law_roll :=
  ⟨f, fd, _, rfl, hm, F.kp, fn_ok F sc__law_roll rfl (by decide +kernel) ck__law_roll (pre_of (G := []) trivial trivial ⟨z_int, trivial⟩), hb⟩
theorem ok__law_some {f : Addr} {fd : FuncData} (F : Fun K "_law_some" "_law_some" s__law_some f fd) (hb : Binds K fd ["cup", "things"] []) (h__law_roll : FunOk1 P w K mg base cls 1 "_law_roll" 2 d__law_roll) (z_len : mg "len" = none) (hm : mg "_law_some" = some (.ref f)) : FunOk1 P w K mg base cls 2 "_law_some" 2 d__law_some :=
  ⟨f, fd, _, rfl, hm, F.kp, fn_ok F sc__law_some rfl (by decide +kernel) ck__law_some (pre_of (G := [d__law_roll]) trivial ⟨h__law_roll.up (by decide), trivial⟩ ⟨z_len, trivial⟩), hb⟩
theorem ok__law_plot {f : Addr} {fd : FuncData} (F : Fun K "_law_plot" "_law_plot" s__law_plot f fd) (hb : Binds K fd ["cup", "most", "kinds"] []) (h__law_some : FunOk1 P w K mg base cls 2 "_law_some" 2 d__law_some) (h__law_roll : FunOk1 P w K mg base cls 1 "_law_roll" 2 d__law_roll) (z_tuple : mg "tuple" = none) (z_range : mg "range" = none) (z_len : mg "len" = none) (hm : mg "_law_plot" = some (.ref f)) : FunOk1 P w K mg base cls 3 "_law_plot" 3 d__law_plot :=
  ⟨f, fd, _, rfl, hm, F.kp, fn_ok F sc__law_plot rfl (by decide +kernel) ck__law_plot (pre_of (G := [d__law_some, d__law_roll]) trivial ⟨h__law_some.up (by decide), h__law_roll.up (by decide), trivial⟩ ⟨z_tuple, z_range, z_len, trivial⟩), hb⟩
theorem ok__law_table {f : Addr} {fd : FuncData} (F : Fun K "_law_table" "_law_table" s__law_table f fd) (hb : Binds K fd ["cup"] []) (h__law_roll : FunOk1 P w K mg base cls 1 "_law_roll" 2 d__law_roll) (z_tuple : mg "tuple" = none) (hm : mg "_law_table" = some (.ref f)) : FunOk1 P w K mg base cls 2 "_law_table" 1 d__law_table :=
  ⟨f, fd, _, rfl, hm, F.kp, fn_ok F sc__law_table rfl (by decide +kernel) ck__law_table (pre_of (G := [d__law_roll]) trivial ⟨h__law_roll.up (by decide), trivial⟩ ⟨z_tuple, trivial⟩), hb⟩
theorem ok__law_places {f : Addr} {fd : FuncData} (F : Fun K "_law_places" "_law_places" s__law_places f fd) (hb : Binds K fd ["plot"] []) (z_range : mg "range" = none) (z_len : mg "len" = none) (hm : mg "_law_places" = some (.ref f)) : FunOk1 P w K mg base cls 1 "_law_places" 1 d__law_places :=
  ⟨f, fd, _, rfl, hm, F.kp, fn_ok F sc__law_places rfl (by decide +kernel) ck__law_places (pre_of (G := []) trivial trivial ⟨z_range, z_len, trivial⟩), hb⟩
theorem ok__law_trees {f : Addr} {fd : FuncData} (F : Fun K "_law_trees" "_law_trees" s__law_trees f fd) (hb : Binds K fd ["plot"] []) (h__law_places : FunOk1 P w K mg base cls 1 "_law_places" 1 d__law_places) (hm : mg "_law_trees" = some (.ref f)) : FunOk1 P w K mg base cls 2 "_law_trees" 1 d__law_trees :=
  ⟨f, fd, _, rfl, hm, F.kp, fn_ok F sc__law_trees rfl (by decide +kernel) ck__law_trees (pre_of (G := [d__law_places]) trivial ⟨h__law_places.up (by decide), trivial⟩ trivial), hb⟩
theorem ok__law_far {f : Addr} {fd : FuncData} (F : Fun K "_law_far" "_law_far" s__law_far f fd) (hb : Binds K fd ["one", "other"] []) (z_max : mg "max" = none) (hm : mg "_law_far" = some (.ref f)) : FunOk1 P w K mg base cls 1 "_law_far" 2 d__law_far :=
  ⟨f, fd, _, rfl, hm, F.kp, fn_ok F sc__law_far rfl (by decide +kernel) ck__law_far (pre_of (G := []) trivial trivial ⟨z_max, trivial⟩), hb⟩
theorem ok__law_gives {f : Addr} {fd : FuncData} (F : Fun K "_law_gives" "_law_gives" s__law_gives f fd) (hb : Binds K fd ["plot", "table", "reach", "giver", "place"] []) (h__law_far : FunOk1 P w K mg base cls 1 "_law_far" 2 d__law_far) (hm : mg "_law_gives" = some (.ref f)) : FunOk1 P w K mg base cls 2 "_law_gives" 5 d__law_gives :=
  ⟨f, fd, _, rfl, hm, F.kp, fn_ok F sc__law_gives rfl (by decide +kernel) ck__law_gives (pre_of (G := [d__law_far]) trivial ⟨h__law_far.up (by decide), trivial⟩ trivial), hb⟩
theorem ok__law_givers {f : Addr} {fd : FuncData} (F : Fun K "_law_givers" "_law_givers" s__law_givers f fd) (hb : Binds K fd ["plot", "table", "reach", "place"] []) (h__law_trees : FunOk1 P w K mg base cls 2 "_law_trees" 1 d__law_trees) (h__law_gives : FunOk1 P w K mg base cls 2 "_law_gives" 5 d__law_gives) (hm : mg "_law_givers" = some (.ref f)) : FunOk1 P w K mg base cls 3 "_law_givers" 4 d__law_givers :=
  ⟨f, fd, _, rfl, hm, F.kp, fn_ok F sc__law_givers rfl (by decide +kernel) ck__law_givers (pre_of (G := [d__law_trees, d__law_gives]) trivial ⟨h__law_trees.up (by decide), h__law_gives.up (by decide), trivial⟩ trivial), hb⟩
theorem ok__law_lonely {f : Addr} {fd : FuncData} (F : Fun K "_law_lonely" "_law_lonely" s__law_lonely f fd) (hb : Binds K fd ["plot", "table", "reach"] []) (h__law_trees : FunOk1 P w K mg base cls 2 "_law_trees" 1 d__law_trees) (h__law_givers : FunOk1 P w K mg base cls 3 "_law_givers" 4 d__law_givers) (hm : mg "_law_lonely" = some (.ref f)) : FunOk1 P w K mg base cls 4 "_law_lonely" 3 d__law_lonely :=
  ⟨f, fd, _, rfl, hm, F.kp, fn_ok F sc__law_lonely rfl (by decide +kernel) ck__law_lonely (pre_of (G := [d__law_trees, d__law_givers]) trivial ⟨h__law_trees.up (by decide), h__law_givers.up (by decide), trivial⟩ trivial), hb⟩
theorem ok__law_same {f : Addr} {fd : FuncData} (F : Fun K "_law_same" "_law_same" s__law_same f fd) (hb : Binds K fd ["told", "due"] []) (z_str : mg "str" = none) (z_isinstance : mg "isinstance" = none) (z_int : mg "int" = none) (z_bool : mg "bool" = none) (z_tuple : mg "tuple" = none) (z_all : mg "all" = none) (z_range : mg "range" = none) (z_len : mg "len" = none) (hm : mg "_law_same" = some (.ref f)) : FunOk1 P w K mg base cls 7 "_law_same" 2 (d__law_same 6) := by
  have gen : ∀ n : Nat, FunOk1 P w K mg base cls (n + 0) "_law_same" 2 (d__law_same n) := fun n => by
    induction n with
    | zero => exact ⟨f, fd, _, rfl, hm, F.kp, fn_stk, hb⟩
    | succ n ih =>
      exact ⟨f, fd, _, rfl, hm, F.kp, fn_ok F sc__law_same rfl (by decide +kernel) ck__law_same (pre_of (G := [d__law_same n]) trivial ⟨ih, trivial⟩ ⟨z_str, z_isinstance, z_int, z_bool, z_tuple, z_all, z_range, z_len, trivial⟩), hb⟩
  exact (gen 6).up (by decide)
theorem ok_fits_row {f : Addr} {fd : FuncData} (F : Fun K "fits_row" "fits_row" s_fits_row f fd) (hb : Binds K fd ["value"] []) (c_KINDS : GlbOk1 K mg "KINDS" (.str "abcdefgh")) (c_BARE : GlbOk1 K mg "BARE" (.str ".")) (c_SIDE : GlbOk1 K mg "SIDE" (.int 12)) (z_all : mg "all" = none) (z_len : mg "len" = none) (z_isinstance : mg "isinstance" = none) (z_str : mg "str" = none) (hm : mg "fits_row" = some (.ref f)) : FunOk1 P w K mg base cls 1 "fits_row" 1 d_fits_row :=
  ⟨f, fd, _, rfl, hm, F.kp, fn_ok F sc_fits_row rfl (by decide +kernel) ck_fits_row (pre_of (G := []) ⟨c_KINDS, c_BARE, c_SIDE, trivial⟩ trivial ⟨z_all, z_len, z_isinstance, z_str, trivial⟩), hb⟩
theorem ok_is_tuple_of {f : Addr} {fd : FuncData} (F : Fun K "is_tuple_of" "is_tuple_of" s_is_tuple_of f fd) (hb : Binds K fd ["value", "least", "most"] []) (z_len : mg "len" = none) (z_isinstance : mg "isinstance" = none) (z_tuple : mg "tuple" = none) (hm : mg "is_tuple_of" = some (.ref f)) : FunOk1 P w K mg base cls 1 "is_tuple_of" 3 d_is_tuple_of :=
  ⟨f, fd, _, rfl, hm, F.kp, fn_ok F sc_is_tuple_of rfl (by decide +kernel) ck_is_tuple_of (pre_of (G := []) trivial trivial ⟨z_len, z_isinstance, z_tuple, trivial⟩), hb⟩
theorem ok_fits_plot {f : Addr} {fd : FuncData} (F : Fun K "fits_plot" "fits_plot" s_fits_plot f fd) (hb : Binds K fd ["value"] []) (h_fits_row : FunOk1 P w K mg base cls 1 "fits_row" 1 d_fits_row) (h_is_tuple_of : FunOk1 P w K mg base cls 1 "is_tuple_of" 3 d_is_tuple_of) (c_SIDE : GlbOk1 K mg "SIDE" (.int 12)) (z_all : mg "all" = none) (z_len : mg "len" = none) (hm : mg "fits_plot" = some (.ref f)) : FunOk1 P w K mg base cls 2 "fits_plot" 1 d_fits_plot :=
  ⟨f, fd, _, rfl, hm, F.kp, fn_ok F sc_fits_plot rfl (by decide +kernel) ck_fits_plot (pre_of (G := [d_fits_row, d_is_tuple_of]) ⟨c_SIDE, trivial⟩ ⟨h_fits_row.up (by decide), h_is_tuple_of.up (by decide), trivial⟩ ⟨z_all, z_len, trivial⟩), hb⟩
theorem ok_need_plot {f : Addr} {fd : FuncData} (F : Fun K "need_plot" "need_plot" s_need_plot f fd) (hb : Binds K fd ["value"] []) (h_fits_plot : FunOk1 P w K mg base cls 2 "fits_plot" 1 d_fits_plot) (hm : mg "need_plot" = some (.ref f)) : FunOk1 P w K mg base cls 3 "need_plot" 1 d_need_plot :=
  ⟨f, fd, _, rfl, hm, F.kp, fn_ok F sc_need_plot rfl (by decide +kernel) ck_need_plot (pre_of (G := [d_fits_plot]) trivial ⟨h_fits_plot.up (by decide), trivial⟩ trivial), hb⟩
theorem ok_is_rising {f : Addr} {fd : FuncData} (F : Fun K "is_rising" "is_rising" s_is_rising f fd) (hb : Binds K fd ["values"] []) (z_all : mg "all" = none) (z_zip : mg "zip" = none) (hm : mg "is_rising" = some (.ref f)) : FunOk1 P w K mg base cls 1 "is_rising" 1 d_is_rising :=
  ⟨f, fd, _, rfl, hm, F.kp, fn_ok F sc_is_rising rfl (by decide +kernel) ck_is_rising (pre_of (G := []) trivial trivial ⟨z_all, z_zip, trivial⟩), hb⟩
theorem ok_fits_kind {f : Addr} {fd : FuncData} (F : Fun K "fits_kind" "fits_kind" s_fits_kind f fd) (hb : Binds K fd ["value"] []) (c_KINDS : GlbOk1 K mg "KINDS" (.str "abcdefgh")) (z_len : mg "len" = none) (z_isinstance : mg "isinstance" = none) (z_str : mg "str" = none) (hm : mg "fits_kind" = some (.ref f)) : FunOk1 P w K mg base cls 1 "fits_kind" 1 d_fits_kind :=
  ⟨f, fd, _, rfl, hm, F.kp, fn_ok F sc_fits_kind rfl (by decide +kernel) ck_fits_kind (pre_of (G := []) ⟨c_KINDS, trivial⟩ trivial ⟨z_len, z_isinstance, z_str, trivial⟩), hb⟩
theorem ok_fits_table {f : Addr} {fd : FuncData} (F : Fun K "fits_table" "fits_table" s_fits_table f fd) (hb : Binds K fd ["value"] []) (h_is_rising : FunOk1 P w K mg base cls 1 "is_rising" 1 d_is_rising) (h_fits_kind : FunOk1 P w K mg base cls 1 "fits_kind" 1 d_fits_kind) (z_all : mg "all" = none) (z_len : mg "len" = none) (z_isinstance : mg "isinstance" = none) (z_str : mg "str" = none) (z_tuple : mg "tuple" = none) (hm : mg "fits_table" = some (.ref f)) : FunOk1 P w K mg base cls 2 "fits_table" 1 d_fits_table :=
  ⟨f, fd, _, rfl, hm, F.kp, fn_ok F sc_fits_table rfl (by decide +kernel) ck_fits_table (pre_of (G := [d_is_rising, d_fits_kind]) trivial ⟨h_is_rising.up (by decide), h_fits_kind.up (by decide), trivial⟩ ⟨z_all, z_len, z_isinstance, z_str, z_tuple, trivial⟩), hb⟩
theorem ok_need_table {f : Addr} {fd : FuncData} (F : Fun K "need_table" "need_table" s_need_table f fd) (hb : Binds K fd ["value"] []) (h_fits_table : FunOk1 P w K mg base cls 2 "fits_table" 1 d_fits_table) (hm : mg "need_table" = some (.ref f)) : FunOk1 P w K mg base cls 3 "need_table" 1 d_need_table :=
  ⟨f, fd, _, rfl, hm, F.kp, fn_ok F sc_need_table rfl (by decide +kernel) ck_need_table (pre_of (G := [d_fits_table]) trivial ⟨h_fits_table.up (by decide), trivial⟩ trivial), hb⟩
theorem ok_is_whole {f : Addr} {fd : FuncData} (F : Fun K "is_whole" "is_whole" s_is_whole f fd) (hb : Binds K fd ["value"] []) (z_isinstance : mg "isinstance" = none) (z_bool : mg "bool" = none) (z_int : mg "int" = none) (hm : mg "is_whole" = some (.ref f)) : FunOk1 P w K mg base cls 1 "is_whole" 1 d_is_whole :=
  ⟨f, fd, _, rfl, hm, F.kp, fn_ok F sc_is_whole rfl (by decide +kernel) ck_is_whole (pre_of (G := []) trivial trivial ⟨z_isinstance, z_bool, z_int, trivial⟩), hb⟩
theorem ok_fits_whole {f : Addr} {fd : FuncData} (F : Fun K "fits_whole" "fits_whole" s_fits_whole f fd) (hb : Binds K fd ["value", "low", "high"] []) (h_is_whole : FunOk1 P w K mg base cls 1 "is_whole" 1 d_is_whole) (hm : mg "fits_whole" = some (.ref f)) : FunOk1 P w K mg base cls 2 "fits_whole" 3 d_fits_whole :=
  ⟨f, fd, _, rfl, hm, F.kp, fn_ok F sc_fits_whole rfl (by decide +kernel) ck_fits_whole (pre_of (G := [d_is_whole]) trivial ⟨h_is_whole.up (by decide), trivial⟩ trivial), hb⟩
theorem ok_fits_place {f : Addr} {fd : FuncData} (F : Fun K "fits_place" "fits_place" s_fits_place f fd) (hb : Binds K fd ["plot", "value"] []) (h_fits_whole : FunOk1 P w K mg base cls 2 "fits_whole" 3 d_fits_whole) (h_is_tuple_of : FunOk1 P w K mg base cls 1 "is_tuple_of" 3 d_is_tuple_of) (z_len : mg "len" = none) (hm : mg "fits_place" = some (.ref f)) : FunOk1 P w K mg base cls 3 "fits_place" 2 d_fits_place :=
  ⟨f, fd, _, rfl, hm, F.kp, fn_ok F sc_fits_place rfl (by decide +kernel) ck_fits_place (pre_of (G := [d_fits_whole, d_is_tuple_of]) trivial ⟨h_fits_whole.up (by decide), h_is_tuple_of.up (by decide), trivial⟩ ⟨z_len, trivial⟩), hb⟩
theorem ok_need_place {f : Addr} {fd : FuncData} (F : Fun K "need_place" "need_place" s_need_place f fd) (hb : Binds K fd ["plot", "value"] []) (h_fits_place : FunOk1 P w K mg base cls 3 "fits_place" 2 d_fits_place) (hm : mg "need_place" = some (.ref f)) : FunOk1 P w K mg base cls 4 "need_place" 2 d_need_place :=
  ⟨f, fd, _, rfl, hm, F.kp, fn_ok F sc_need_place rfl (by decide +kernel) ck_need_place (pre_of (G := [d_fits_place]) trivial ⟨h_fits_place.up (by decide), trivial⟩ trivial), hb⟩
theorem ok_need_tree {f : Addr} {fd : FuncData} (F : Fun K "need_tree" "need_tree" s_need_tree f fd) (hb : Binds K fd ["plot", "place"] []) (h_need_place : FunOk1 P w K mg base cls 4 "need_place" 2 d_need_place) (c_BARE : GlbOk1 K mg "BARE" (.str ".")) (hm : mg "need_tree" = some (.ref f)) : FunOk1 P w K mg base cls 5 "need_tree" 2 d_need_tree :=
  ⟨f, fd, _, rfl, hm, F.kp, fn_ok F sc_need_tree rfl (by decide +kernel) ck_need_tree (pre_of (G := [d_need_place]) ⟨c_BARE, trivial⟩ ⟨h_need_place.up (by decide), trivial⟩ trivial), hb⟩
theorem ok_mates_in {f : Addr} {fd : FuncData} (F : Fun K "mates_in" "mates_in" s_mates_in f fd) (hb : Binds K fd ["table", "kind"] []) (hm : mg "mates_in" = some (.ref f)) : FunOk1 P w K mg base cls 1 "mates_in" 2 d_mates_in :=
  ⟨f, fd, _, rfl, hm, F.kp, fn_ok F sc_mates_in rfl (by decide +kernel) ck_mates_in (pre_of (G := []) trivial trivial trivial), hb⟩
theorem ok_places_in {f : Addr} {fd : FuncData} (F : Fun K "places_in" "places_in" s_places_in f fd) (hb : Binds K fd ["plot"] []) (z_range : mg "range" = none) (z_len : mg "len" = none) (hm : mg "places_in" = some (.ref f)) : FunOk1 P w K mg base cls 1 "places_in" 1 d_places_in :=
  ⟨f, fd, _, rfl, hm, F.kp, fn_ok F sc_places_in rfl (by decide +kernel) ck_places_in (pre_of (G := []) trivial trivial ⟨z_range, z_len, trivial⟩), hb⟩
theorem ok_trees_in {f : Addr} {fd : FuncData} (F : Fun K "trees_in" "trees_in" s_trees_in f fd) (hb : Binds K fd ["plot"] []) (h_places_in : FunOk1 P w K mg base cls 1 "places_in" 1 d_places_in) (c_BARE : GlbOk1 K mg "BARE" (.str ".")) (hm : mg "trees_in" = some (.ref f)) : FunOk1 P w K mg base cls 2 "trees_in" 1 d_trees_in :=
  ⟨f, fd, _, rfl, hm, F.kp, fn_ok F sc_trees_in rfl (by decide +kernel) ck_trees_in (pre_of (G := [d_places_in]) ⟨c_BARE, trivial⟩ ⟨h_places_in.up (by decide), trivial⟩ trivial), hb⟩
theorem ok_far_in {f : Addr} {fd : FuncData} (F : Fun K "far_in" "far_in" s_far_in f fd) (hb : Binds K fd ["one", "other"] []) (z_abs : mg "abs" = none) (hm : mg "far_in" = some (.ref f)) : FunOk1 P w K mg base cls 1 "far_in" 2 d_far_in :=
  ⟨f, fd, _, rfl, hm, F.kp, fn_ok F sc_far_in rfl (by decide +kernel) ck_far_in (pre_of (G := []) trivial trivial ⟨z_abs, trivial⟩), hb⟩
theorem ok_givers_in {f : Addr} {fd : FuncData} (F : Fun K "givers_in" "givers_in" s_givers_in f fd) (hb : Binds K fd ["plot", "table", "reach", "place"] []) (h_mates_in : FunOk1 P w K mg base cls 1 "mates_in" 2 d_mates_in) (h_trees_in : FunOk1 P w K mg base cls 2 "trees_in" 1 d_trees_in) (h_far_in : FunOk1 P w K mg base cls 1 "far_in" 2 d_far_in) (hm : mg "givers_in" = some (.ref f)) : FunOk1 P w K mg base cls 3 "givers_in" 4 d_givers_in :=
  ⟨f, fd, _, rfl, hm, F.kp, fn_ok F sc_givers_in rfl (by decide +kernel) ck_givers_in (pre_of (G := [d_mates_in, d_trees_in, d_far_in]) trivial ⟨h_mates_in.up (by decide), h_trees_in.up (by decide), h_far_in.up (by decide), trivial⟩ trivial), hb⟩
theorem ok_reach_for {f : Addr} {fd : FuncData} (F : Fun K "reach_for" "reach_for" s_reach_for f fd) (hb : Binds K fd ["plot", "table", "place"] []) (h_need_plot : FunOk1 P w K mg base cls 3 "need_plot" 1 d_need_plot) (h_need_table : FunOk1 P w K mg base cls 3 "need_table" 1 d_need_table) (h_need_tree : FunOk1 P w K mg base cls 5 "need_tree" 2 d_need_tree) (h_givers_in : FunOk1 P w K mg base cls 3 "givers_in" 4 d_givers_in) (h_far_in : FunOk1 P w K mg base cls 1 "far_in" 2 d_far_in) (c_SIDE : GlbOk1 K mg "SIDE" (.int 12)) (z_min : mg "min" = none) (hm : mg "reach_for" = some (.ref f)) : FunOk1 P w K mg base cls 6 "reach_for" 3 d_reach_for :=
  ⟨f, fd, _, rfl, hm, F.kp, fn_ok F sc_reach_for rfl (by decide +kernel) ck_reach_for (pre_of (G := [d_need_plot, d_need_table, d_need_tree, d_givers_in, d_far_in]) ⟨c_SIDE, trivial⟩ ⟨h_need_plot.up (by decide), h_need_table.up (by decide), h_need_tree.up (by decide), h_givers_in.up (by decide), h_far_in.up (by decide), trivial⟩ ⟨z_min, trivial⟩), hb⟩
theorem ok_does_set {f : Addr} {fd : FuncData} (F : Fun K "does_set" "does_set" s_does_set f fd) (hb : Binds K fd ["plot", "table", "reach", "place"] []) (h_givers_in : FunOk1 P w K mg base cls 3 "givers_in" 4 d_givers_in) (hm : mg "does_set" = some (.ref f)) : FunOk1 P w K mg base cls 4 "does_set" 4 d_does_set :=
  ⟨f, fd, _, rfl, hm, F.kp, fn_ok F sc_does_set rfl (by decide +kernel) ck_does_set (pre_of (G := [d_givers_in]) trivial ⟨h_givers_in.up (by decide), trivial⟩ trivial), hb⟩
theorem ok_lonely_in {f : Addr} {fd : FuncData} (F : Fun K "lonely_in" "lonely_in" s_lonely_in f fd) (hb : Binds K fd ["plot", "table", "reach"] []) (h_trees_in : FunOk1 P w K mg base cls 2 "trees_in" 1 d_trees_in) (h_does_set : FunOk1 P w K mg base cls 4 "does_set" 4 d_does_set) (hm : mg "lonely_in" = some (.ref f)) : FunOk1 P w K mg base cls 5 "lonely_in" 3 d_lonely_in :=
  ⟨f, fd, _, rfl, hm, F.kp, fn_ok F sc_lonely_in rfl (by decide +kernel) ck_lonely_in (pre_of (G := [d_trees_in, d_does_set]) trivial ⟨h_trees_in.up (by decide), h_does_set.up (by decide), trivial⟩ trivial), hb⟩
theorem ok_set_counts {f : Addr} {fd : FuncData} (F : Fun K "set_counts" "set_counts" s_set_counts f fd) (hb : Binds K fd ["plot", "table"] []) (h_need_plot : FunOk1 P w K mg base cls 3 "need_plot" 1 d_need_plot) (h_need_table : FunOk1 P w K mg base cls 3 "need_table" 1 d_need_table) (h_trees_in : FunOk1 P w K mg base cls 2 "trees_in" 1 d_trees_in) (h_lonely_in : FunOk1 P w K mg base cls 5 "lonely_in" 3 d_lonely_in) (c_SIDE : GlbOk1 K mg "SIDE" (.int 12)) (z_len : mg "len" = none) (z_tuple : mg "tuple" = none) (z_range : mg "range" = none) (hm : mg "set_counts" = some (.ref f)) : FunOk1 P w K mg base cls 6 "set_counts" 2 d_set_counts :=
  ⟨f, fd, _, rfl, hm, F.kp, fn_ok F sc_set_counts rfl (by decide +kernel) ck_set_counts (pre_of (G := [d_need_plot, d_need_table, d_trees_in, d_lonely_in]) ⟨c_SIDE, trivial⟩ ⟨h_need_plot.up (by decide), h_need_table.up (by decide), h_trees_in.up (by decide), h_lonely_in.up (by decide), trivial⟩ ⟨z_len, z_tuple, z_range, trivial⟩), hb⟩
theorem ok_hermits {f : Addr} {fd : FuncData} (F : Fun K "hermits" "hermits" s_hermits f fd) (hb : Binds K fd ["plot", "table"] []) (h_need_plot : FunOk1 P w K mg base cls 3 "need_plot" 1 d_need_plot) (h_need_table : FunOk1 P w K mg base cls 3 "need_table" 1 d_need_table) (h_lonely_in : FunOk1 P w K mg base cls 5 "lonely_in" 3 d_lonely_in) (c_SIDE : GlbOk1 K mg "SIDE" (.int 12)) (z_tuple : mg "tuple" = none) (hm : mg "hermits" = some (.ref f)) : FunOk1 P w K mg base cls 6 "hermits" 2 d_hermits :=
  ⟨f, fd, _, rfl, hm, F.kp, fn_ok F sc_hermits rfl (by decide +kernel) ck_hermits (pre_of (G := [d_need_plot, d_need_table, d_lonely_in]) ⟨c_SIDE, trivial⟩ ⟨h_need_plot.up (by decide), h_need_table.up (by decide), h_lonely_in.up (by decide), trivial⟩ ⟨z_tuple, trivial⟩), hb⟩
theorem ok_reach_for_all {f : Addr} {fd : FuncData} (F : Fun K "reach_for_all" "reach_for_all" s_reach_for_all f fd) (hb : Binds K fd ["plot", "table"] []) (h_need_plot : FunOk1 P w K mg base cls 3 "need_plot" 1 d_need_plot) (h_need_table : FunOk1 P w K mg base cls 3 "need_table" 1 d_need_table) (h_trees_in : FunOk1 P w K mg base cls 2 "trees_in" 1 d_trees_in) (h_reach_for : FunOk1 P w K mg base cls 6 "reach_for" 3 d_reach_for) (z_max : mg "max" = none) (hm : mg "reach_for_all" = some (.ref f)) : FunOk1 P w K mg base cls 7 "reach_for_all" 2 d_reach_for_all :=
  ⟨f, fd, _, rfl, hm, F.kp, fn_ok F sc_reach_for_all rfl (by decide +kernel) ck_reach_for_all (pre_of (G := [d_need_plot, d_need_table, d_trees_in, d_reach_for]) trivial ⟨h_need_plot.up (by decide), h_need_table.up (by decide), h_trees_in.up (by decide), h_reach_for.up (by decide), trivial⟩ ⟨z_max, trivial⟩), hb⟩
theorem ok__law_right {f : Addr} {fd : FuncData} (F : Fun K "_law_right" "_law_right" s__law_right f fd) (hb : Binds K fd ["cup"] []) (h__law_plot : FunOk1 P w K mg base cls 3 "_law_plot" 3 d__law_plot) (h__law_table : FunOk1 P w K mg base cls 2 "_law_table" 1 d__law_table) (h__law_trees : FunOk1 P w K mg base cls 2 "_law_trees" 1 d__law_trees) (h__law_lonely : FunOk1 P w K mg base cls 4 "_law_lonely" 3 d__law_lonely) (h__law_same : FunOk1 P w K mg base cls 7 "_law_same" 2 (d__law_same 6)) (h_reach_for : FunOk1 P w K mg base cls 6 "reach_for" 3 d_reach_for) (h_set_counts : FunOk1 P w K mg base cls 6 "set_counts" 2 d_set_counts) (h_hermits : FunOk1 P w K mg base cls 6 "hermits" 2 d_hermits) (h_reach_for_all : FunOk1 P w K mg base cls 7 "reach_for_all" 2 d_reach_for_all) (z_range : mg "range" = none) (z_max : mg "max" = none) (z_tuple : mg "tuple" = none) (z_len : mg "len" = none) (hm : mg "_law_right" = some (.ref f)) : FunOk1 P w K mg base cls 8 "_law_right" 1 d__law_right :=
  ⟨f, fd, _, rfl, hm, F.kp, fn_ok F sc__law_right rfl (by decide +kernel) ck__law_right (pre_of (G := [d__law_plot, d__law_table, d__law_trees, d__law_lonely, (d__law_same 6), d_reach_for, d_set_counts, d_hermits, d_reach_for_all]) trivial ⟨h__law_plot.up (by decide), h__law_table.up (by decide), h__law_trees.up (by decide), h__law_lonely.up (by decide), h__law_same.up (by decide), h_reach_for.up (by decide), h_set_counts.up (by decide), h_hermits.up (by decide), h_reach_for_all.up (by decide), trivial⟩ ⟨z_range, z_max, z_tuple, z_len, trivial⟩), hb⟩
theorem ok_need_reach {f : Addr} {fd : FuncData} (F : Fun K "need_reach" "need_reach" s_need_reach f fd) (hb : Binds K fd ["value"] []) (h_fits_whole : FunOk1 P w K mg base cls 2 "fits_whole" 3 d_fits_whole) (c_SIDE : GlbOk1 K mg "SIDE" (.int 12)) (hm : mg "need_reach" = some (.ref f)) : FunOk1 P w K mg base cls 3 "need_reach" 1 d_need_reach :=
  ⟨f, fd, _, rfl, hm, F.kp, fn_ok F sc_need_reach rfl (by decide +kernel) ck_need_reach (pre_of (G := [d_fits_whole]) ⟨c_SIDE, trivial⟩ ⟨h_fits_whole.up (by decide), trivial⟩ trivial), hb⟩
theorem ok_need_all {f : Addr} {fd : FuncData} (F : Fun K "need_all" "need_all" s_need_all f fd) (hb : Binds K fd ["plot", "table", "reach"] []) (h_need_plot : FunOk1 P w K mg base cls 3 "need_plot" 1 d_need_plot) (h_need_table : FunOk1 P w K mg base cls 3 "need_table" 1 d_need_table) (h_need_reach : FunOk1 P w K mg base cls 3 "need_reach" 1 d_need_reach) (hm : mg "need_all" = some (.ref f)) : FunOk1 P w K mg base cls 4 "need_all" 3 d_need_all :=
  ⟨f, fd, _, rfl, hm, F.kp, fn_ok F sc_need_all rfl (by decide +kernel) ck_need_all (pre_of (G := [d_need_plot, d_need_table, d_need_reach]) trivial ⟨h_need_plot.up (by decide), h_need_table.up (by decide), h_need_reach.up (by decide), trivial⟩ trivial), hb⟩
theorem ok_lonely_trees {f : Addr} {fd : FuncData} (F : Fun K "lonely_trees" "lonely_trees" s_lonely_trees f fd) (hb : Binds K fd ["plot", "table", "reach"] []) (h_need_all : FunOk1 P w K mg base cls 4 "need_all" 3 d_need_all) (h_lonely_in : FunOk1 P w K mg base cls 5 "lonely_in" 3 d_lonely_in) (z_tuple : mg "tuple" = none) (hm : mg "lonely_trees" = some (.ref f)) : FunOk1 P w K mg base cls 6 "lonely_trees" 3 d_lonely_trees :=
  ⟨f, fd, _, rfl, hm, F.kp, fn_ok F sc_lonely_trees rfl (by decide +kernel) ck_lonely_trees (pre_of (G := [d_need_all, d_lonely_in]) trivial ⟨h_need_all.up (by decide), h_lonely_in.up (by decide), trivial⟩ ⟨z_tuple, trivial⟩), hb⟩
theorem ok_law {f : Addr} {fd : FuncData} (F : Fun K "law" "law" s_law f fd) (h__law_cup : FunOk1 P w K mg base cls 1 "_law_cup" 1 d__law_cup) (h__law_right : FunOk1 P w K mg base cls 8 "_law_right" 1 d__law_right) (h__law_roll : FunOk1 P w K mg base cls 1 "_law_roll" 2 d__law_roll) (h_lonely_trees : FunOk1 P w K mg base cls 6 "lonely_trees" 3 d_lonely_trees) (h_hermits : FunOk1 P w K mg base cls 6 "hermits" 2 d_hermits) (h_reach_for_all : FunOk1 P w K mg base cls 7 "reach_for_all" 2 d_reach_for_all) (h_reach_for : FunOk1 P w K mg base cls 6 "reach_for" 3 d_reach_for) (h__law_same : FunOk1 P w K mg base cls 7 "_law_same" 2 (d__law_same 6)) (z_range : mg "range" = none) (z_tuple : mg "tuple" = none) (hL : LawP [d__law_cup, d__law_right, d__law_roll, d_lonely_trees, d_hermits, d_reach_for_all, d_reach_for, (d__law_same 6)] 9 e0_law r_law 63) : FnOk P w K mg base (L2.CX P w) 9 f fd ["script"] (spLaw K 63) :=
  law_ok F sc_law rfl (by decide +kernel) ck_law (by decide +kernel) rfl (pre_of (G := [d__law_cup, d__law_right, d__law_roll, d_lonely_trees, d_hermits, d_reach_for_all, d_reach_for, (d__law_same 6)]) trivial ⟨h__law_cup.up (by decide), h__law_right.up (by decide), h__law_roll.up (by decide), h_lonely_trees.up (by decide), h_hermits.up (by decide), h_reach_for_all.up (by decide), h_reach_for.up (by decide), h__law_same.up (by decide), trivial⟩ ⟨z_range, z_tuple, trivial⟩) hL
end
end OLaw

section
namespace OLaw
open PySem OR
theorem roll_ok (a b m : Int) (h0 : 0 < m) (h1 : m < 1073741824) {P : D → Cu → Prop} {E : Nat → Cu → Prop} (hP : ∀ r a' b', 0 ≤ r → r < m → P (.int r) (some (a', b'))) : wpX (d__law_roll [.cup, .val (.int m)] (some (a, b))) P E := by
  unfold d__law_roll
  rw [wp_run]
  unfold b__law_roll
  simp only [List.cons_append, List.nil_append, List.length_cons, List.length_nil, Nat.reduceAdd, Nat.reduceSub, List.replicate, s_cons, s_ite, wp_bnd, e_cmp, e_cup, g0, g1, g2, g3, wp_cup0, wp_cup1, e_cst, wp_ret, c_gt, wp_some, wp_tru, wp_if]
  have key : ∀ n : Int, 0 ≤ n % m ∧ n % m < m := fun n => ⟨Int.emod_nonneg _ (by omega), Int.emod_lt_of_pos _ h0⟩
  split
  · simp only [s_asg, s_setc, s_ret, s_nil, wp_bnd, e_bin, e_bi, l_cons, l_nil, e_cup, g0, g1, g2, g3, wp_cup0, wp_cup1, wp_ret, f_int, wp_some, e_var, b_mod h0, b_div h0 h1, put_int, List.set, wp_set0, wp_set1, wpR]
    exact hP _ _ _ (key _).1 (key _).2
  · simp only [s_asg, s_setc, s_ret, s_nil, wp_bnd, e_bin, e_bi, l_cons, l_nil, e_cup, e_cst, g0, g1, g2, g3, wp_cup0, wp_cup1, wp_ret, f_int, wp_some, e_var, b_mod h0, put_int, List.set, wp_set0, wp_set1, wpR, b_add, b_mul (.inr (small_of (by decide : (0:Int) ≤ 30937) (by decide))), b_mod (by decide : (0:Int) < 2147482949)]
    have q : ∀ n : Int, 0 ≤ n % 2147482949 ∧ n % 2147482949 < 2147482949 := fun n => ⟨Int.emod_nonneg _ (by decide), Int.emod_lt_of_pos _ (by decide)⟩
    have qb := q (b * 30937 + 7933)
    rw [b_mul (.inl (small_of qb.1 (by omega)))]
    simp only [wp_some, f_int, b_mod (by decide : (0:Int) < 2147482937), put_int, List.set, g0, g1, g2, g3, wp_ret, b_div (by decide : (0:Int) < 811) (by decide), b_mod h0]
    exact hP _ _ _ (key _).1 (key _).2
theorem some_ok {t : D} {n : Nat} (a b : Int) (ht : biD .len [t] = some (.int (n : Nat))) (h0 : 0 < n) (h1 : n < 1000000000) {P : D → Cu → Prop} {E : Nat → Cu → Prop}
    (hP : ∀ r : Int, 0 ≤ r → r < (n : Nat) → ∃ x, subD t (.int r) = some x ∧ ∀ a' b', P x (some (a', b'))) : wpX (d__law_some [.cup, .val t] (some (a, b))) P E := by
  unfold d__law_some
  rw [wp_run]
  unfold b__law_some
  simp only [List.cons_append, List.nil_append, List.length_cons, List.length_nil, Nat.reduceAdd, Nat.reduceSub, List.replicate, s_cons, s_ret, s_nil, wp_bnd, e_sub, e_call, e_var, a_var, a_bi, a_nil, e_bi, l_cons, l_nil, g0, g1, wp_ret, ht, wp_some, List.getD_cons_zero]
  refine roll_ok a b _ (by omega) (by omega) fun r a' b' r0 r1 => ?_
  obtain ⟨x, e, hx⟩ := hP r r0 r1
  rw [e]
  simp only [wp_some, wpR]
  exact hx a' b'

def kindsL : List Nat := [97, 98, 99, 100, 101, 102, 103, 104]
def signB (c : Nat) : Bool := decide (c = 46) || decide (c ∈ kindsL)
def between (l h n : Int) : Bool := if h < l then false else true
def lenB (n : Nat) : Bool := decide (1 ≤ n) && decide (n ≤ 12)
def rowB : D → Bool
  | .str s => lenB s.length && s.cps.toList.all signB
  | _ => false
theorem tuple_of (v : D) (l h : Int) (c : Cu) : d_is_tuple_of [.val v, .val (.int l), .val (.int h)] c = .ok (.bool (match v with
    | .tuple xs => decide (l ≤ (xs.length : Nat)) && decide (((xs.length : Nat) : Int) ≤ h)
    | _ => false)) c := by
  apply ok_of
  unfold d_is_tuple_of
  rw [wp_run]
  unfold b_is_tuple_of
  simp only [List.cons_append, List.nil_append, List.length_cons, List.length_nil, Nat.reduceAdd, Nat.reduceSub, List.replicate, s_cons, s_ret, s_nil, wp_bnd, e_and, e_and2, e_and1, e_bi, l_cons, l_nil, wp_ret, e_var, g0, g1, g2, isa_eq, wp_some, wp_tru]
  cases v with
  | tuple xs =>
    simp only [wp_if, show isaD Ty.tuple (PyData.tuple xs) = true from rfl, eq_self, if_true, wp_bnd, e_chn, e_var, g0, g1, g2, wp_ret, e_bi, l_cons, l_nil, len_tup, wp_some, c_le, wp_tru]
    by_cases h1 : ((xs.length : Nat) : Int) < l
    · rw [if_neg (by simp [h1])]
      exact ⟨by simp [show ¬ l ≤ ((xs.length : Nat) : Int) by omega], rfl⟩
    · rw [if_pos (by simp [h1])]
      refine ⟨?_, rfl⟩
      rw [decide_eq_true (show l ≤ ((xs.length : Nat) : Int) by omega), Bool.true_and]
      congr 1
      by_cases h2 : h < ((xs.length : Nat) : Int)
      · simp [h2]
      · simp [h2, show ((xs.length : Nat) : Int) ≤ h by omega]
  | _ => simp [wp_if, isaD, wp_ret, wpR]
theorem sign_ok (x : Nat) (c : Cu) {P : D → Cu → Prop} {E : Nat → Cu → Prop} {σ : OR.Env} (h : getS σ 1 = .val (chr1 x)) (hP : P (.bool (signB x)) c) : wpX (evE [] (.or (.cons (.cmp .Eq (.var 1) (.glb (.str ".") "BARE")) (.cons (.cmp .In (.var 1) (.glb (.str "abcdefgh") "KINDS")) .nil))) σ c) P E := by
  simp only [e_or, e_or2, e_or1, wp_bnd, e_cmp, wp_var h, e_glb, wp_ret]
  have e1 : cmpD .Eq (chr1 x) (.str ".") = some (.bool (decide (x = 46))) := by
    show some (PyData.bool (decide ((⟨#[x]⟩ : Str) = "."))) = _
    congr 2
    exact decide_eq_decide.mpr ⟨fun z => by have z : (⟨#[x]⟩ : Str) = ⟨#[46]⟩ := z; injection z with z; injection z with z; injection z, fun z => by rw [z]; rfl⟩
  have e2 : cmpD .In (chr1 x) (.str "abcdefgh") = some (.bool (decide (x ∈ kindsL))) := rfl
  rw [e1]
  simp only [wp_some, wp_tru]
  unfold signB at hP
  by_cases hx : x = 46
  · simp only [wp_if, hx, decide_true, eq_self, if_true, wp_ret, Bool.true_or] at hP ⊢
    exact hP
  · simp only [wp_if, Bool.false_eq_true, if_false, hx, decide_false, Bool.false_or, e_cmp, wp_bnd, wp_var h, e_glb, wp_ret, e2, wp_some] at hP ⊢
    exact hP
theorem fits_row (v : D) (c : Cu) : d_fits_row [.val v] c = .ok (.bool (rowB v)) c := by
  apply ok_of
  unfold d_fits_row
  rw [wp_run]
  unfold b_fits_row
  simp only [List.cons_append, List.nil_append, List.length_cons, List.length_nil, Nat.reduceAdd, Nat.reduceSub, List.replicate, s_cons, s_ret, s_nil, wp_bnd, e_and, e_and2, e_and1, e_bi, l_cons, l_nil, wp_ret, e_var, g0, g1, g2, isa_eq, wp_some, wp_tru]
  cases v with
  | str s =>
    have big : wpX (evE [] (.lc (.var 1) (.var 0) .nil (.or (.cons (.cmp .Eq (.var 1) (.glb (.str ".") "BARE")) (.cons (.cmp .In (.var 1) (.glb (.str "abcdefgh") "KINDS")) .nil)))) [.val (.str s), .no] c)
        (fun d c' => biD .all [d] = some (.bool (s.cps.toList.all signB)) ∧ c' = c) fun _ _ => False := by
      simp only [e_lc, itv, Bool.false_eq_true, if_false, wp_bnd, e_var, g0, wp_ret, its_str]
      refine lc_wp (g := fun d => some (.bool (match d with | .str z => z.cps.toList.all signB | _ => false))) (fun x hx => ok_of ?_) ?_
      · unfold signs at hx
        obtain ⟨n, hn, rfl⟩ := List.mem_map.mp hx
        simp only [wp_if, bind1, wip1, wp_bnd, wp_some, t_nil, wp_ret, eq_self, if_true, List.set]
        exact sign_ok n c rfl ⟨by simp [chr1], rfl⟩
      · rw [all_fm]
        refine ⟨?_, rfl⟩
        unfold signs
        rw [List.all_map]
        congr 3
        funext n
        simp [chr1]
    simp only [wp_if, show isaD Ty.str (PyData.str s) = true from rfl, eq_self, if_true, wp_bnd, e_chn, e_var, e_cst, e_glb, g0, g1, g2, wp_ret, e_bi, l_cons, l_nil, len_str, wp_some, c_le, wp_tru]
    unfold rowB lenB
    by_cases h1 : ((s.length : Nat) : Int) < 1
    · rw [if_neg (by simp [h1])]
      rw [if_neg (by simp)]
      exact ⟨by simp [show ¬ 1 ≤ s.length by omega], rfl⟩
    · rw [if_pos (by simp [h1])]
      by_cases h2 : 12 < ((s.length : Nat) : Int)
      · rw [if_neg (by simp [h2])]
        exact ⟨by simp [show ¬ s.length ≤ 12 by omega], rfl⟩
      · rw [if_pos (by simp [h2])]
        refine wpX_mono big (fun d c' ⟨e, ec⟩ => ?_) fun _ _ z => z
        rw [e, ec, wp_some]
        exact ⟨by simp [show 1 ≤ s.length by omega, show s.length ≤ 12 by omega], rfl⟩
  | _ => simp [wp_if, isaD, wp_ret, wpR, rowB]
def lenOf : D → Nat
  | .str s => s.length
  | _ => 0
def plotL (xs : List D) : Bool := lenB xs.length && (xs.all rowB && xs.all fun x => decide (lenOf x = lenOf (xs.headD .none)))
def plotB : D → Bool
  | .tuple xs => plotL xs
  | _ => false
theorem fits_plot (v : D) (c : Cu) : d_fits_plot [.val v] c = .ok (.bool (plotB v)) c := by
  apply ok_of
  unfold d_fits_plot
  rw [wp_run]
  unfold b_fits_plot
  simp only [List.cons_append, List.nil_append, List.length_cons, List.length_nil, Nat.reduceAdd, Nat.reduceSub, List.replicate, s_cons, s_ite, s_ret, s_nil, wp_bnd, e_or, e_or2, e_or1, e_not, e_call, a_var, a_cst, a_glb, a_nil, wp_ret, e_var, e_cst, e_glb, g0, g1, List.getD_cons_zero, List.getD_cons_succ, wp_of (tuple_of _ _ _ _), wp_tru, wp_if]
  cases v with
  | tuple xs =>
    unfold plotB plotL lenB
    by_cases h1 : xs.length < 1
    · have e : (decide ((1:Int) ≤ (xs.length : Nat)) && decide (((xs.length : Nat) : Int) ≤ 12)) = false := by simp [show ¬ 1 ≤ xs.length by omega]; omega
      have e2 : (decide (1 ≤ xs.length) && decide (xs.length ≤ 12)) = false := by simp [show ¬ 1 ≤ xs.length by omega]
      simp only [e, e2, Bool.not_false, eq_self, if_true, wp_ret, wp_tru, Bool.false_and, wp_if, wp_bnd, s_cons, s_ret, e_cst, wpR, and_self]
    · by_cases h2 : 12 < xs.length
      · have e : (decide ((1:Int) ≤ (xs.length : Nat)) && decide (((xs.length : Nat) : Int) ≤ 12)) = false := by simp [show ¬ xs.length ≤ 12 by omega]; omega
        have e2 : (decide (1 ≤ xs.length) && decide (xs.length ≤ 12)) = false := by simp [show ¬ xs.length ≤ 12 by omega]
        simp only [e, e2, Bool.not_false, eq_self, if_true, wp_ret, wp_tru, Bool.false_and, wp_if, wp_bnd, s_cons, s_ret, e_cst, wpR, and_self]
      · have e : (decide ((1:Int) ≤ (xs.length : Nat)) && decide (((xs.length : Nat) : Int) ≤ 12)) = true := by simp; omega
        have e2 : (decide (1 ≤ xs.length) && decide (xs.length ≤ 12)) = true := by simp; omega
        have rows : wpX (evE [d_fits_row, d_is_tuple_of] (.lc (.var 1) (.var 0) .nil (.call 0 (.cons (.var 1) .nil))) [.val (.tuple xs), .no] c)
            (fun d c' => biD .all [d] = some (.bool (xs.all rowB)) ∧ c' = c) fun _ _ => False := by
          simp only [e_lc, itv, Bool.false_eq_true, if_false, wp_bnd, e_var, g0, wp_ret, its_tup]
          refine lc_wp (g := fun d => some (.bool (rowB d))) (fun x hx => ok_of ?_) ?_
          · simp only [wp_if, bind1, wip1, wp_bnd, wp_some, t_nil, wp_ret, eq_self, if_true, List.set, e_call, a_var, a_nil, g1, List.getD_cons_zero, wp_of (fits_row _ _), and_self]
          · exact ⟨all_fm _, rfl⟩
        simp only [e, e2, Bool.not_true, Bool.false_eq_true, if_false, wp_ret, wp_tru, Bool.true_and, wp_if, wp_bnd, e_bi, l_cons, l_nil]
        refine wpX_mono rows (fun d c' ⟨ed, ec⟩ => ?_) fun _ _ z => z
        rw [ed, ec]
        simp only [wp_some, wp_tru, wp_ret]
        cases hr : xs.all rowB with
        | false => simp only [Bool.not_false, eq_self, if_true, wp_bnd, s_cons, s_ret, e_cst, wp_ret, wpR, Bool.false_and, and_self]
        | true =>
          cases xs with
          | nil => exact absurd (by decide) h1
          | cons x0 r =>
            have hall := List.all_eq_true.mp hr
            have lens : wpX (evE [d_fits_row, d_is_tuple_of] (.lc (.var 1) (.var 0) .nil (.cmp .Eq (.bi .len (.cons (.var 1) .nil)) (.bi .len (.cons (.sub (.var 0) (.cst (.int 0))) .nil)))) [.val (.tuple (x0 :: r)), .no] c)
                (fun d c' => biD .all [d] = some (.bool ((x0 :: r).all fun x => decide (lenOf x = lenOf x0))) ∧ c' = c) fun _ _ => False := by
              simp only [e_lc, itv, Bool.false_eq_true, if_false, wp_bnd, e_var, g0, wp_ret, its_tup]
              refine lc_wp (g := fun d => some (.bool (decide (lenOf d = lenOf x0)))) (fun x hx => ok_of ?_) ?_
              · have hx1 := hall x hx
                have hx0 := hall x0 (List.mem_cons_self ..)
                cases x with
                | str s =>
                  cases x0 with
                  | str s0 =>
                    simp only [wp_if, bind1, wip1, wp_bnd, wp_some, t_nil, wp_ret, eq_self, if_true, List.set, e_cmp, e_bi, l_cons, l_nil, e_var, e_sub, e_cst, g0, g1, len_str, sub0_tup, c_eq, lenOf, and_true]
                    congr 2
                    exact decide_eq_decide.mpr (by omega)
                  | _ => cases hx0
                | _ => cases hx1
              · exact ⟨all_fm _, rfl⟩
            simp only [Bool.not_true, Bool.false_eq_true, if_false, wp_bnd, s_cons, s_nil, s_ret, wp_ret, e_bi, l_cons, l_nil]
            refine wpX_mono lens (fun d c' ⟨ed, ec⟩ => ?_) fun _ _ z => z
            rw [ed, ec, wp_some]
            exact ⟨rfl, rfl⟩
  | _ =>
    simp only [Bool.not_false, eq_self, if_true, wp_ret, wp_tru, wp_if, wp_bnd, s_cons, s_ret, e_cst, wpR, plotB, and_self]
def flat : D → Bool
  | .bool _ => true
  | .none => true
  | .str _ => true
  | _ => false
theorem same_flat (n : Nat) (d : D) (hd : flat d = true) (c : Cu) : d__law_same (n + 1) [.val d, .val d] c = .ok (.bool true) c := by
  apply ok_of
  show wpX (OR.run [d__law_same n] 3 b__law_same [.val d, .val d] c) _ _
  rw [wp_run]
  unfold b__law_same
  simp only [List.cons_append, List.nil_append, List.length_cons, List.length_nil, Nat.reduceAdd, Nat.reduceSub, List.replicate, s_cons, s_ite, s_ret, s_nil, wp_bnd, e_bi, l_cons, l_nil, wp_ret, e_var, g0, g1, isa_eq, wp_some, wp_tru, wp_if]
  cases d with
  | bool b =>
    simp only [show isaD Ty.tuple (PyData.bool b) = false from rfl, Bool.false_eq_true, if_false, wp_ret, wp_bnd, e_cmp, e_var, e_cst, g0, g1, wp_some, wp_tru, wp_if, show cmpD .Is (PyData.bool b) .none = some (.bool false) from rfl, show isaD Ty.bool (PyData.bool b) = true from rfl, eq_self, if_true, e_bi, l_cons, l_nil, isa_eq, s_cons, s_ret, e_ite]
    cases b with
    | true => simp only [eq_self, if_true, e_cmp, wp_bnd, e_var, e_cst, g0, wp_ret, show cmpD .Is (PyData.bool true) (.bool true) = some (.bool true) from rfl, wp_some, wpR, and_self]
    | false => simp only [Bool.false_eq_true, if_false, e_cmp, wp_bnd, e_var, e_cst, g0, wp_ret, show cmpD .Is (PyData.bool false) (.bool false) = some (.bool true) from rfl, wp_some, wpR, and_self]
  | none =>
    simp only [show isaD Ty.tuple PyData.none = false from rfl, Bool.false_eq_true, if_false, wp_ret, wp_bnd, e_cmp, e_var, e_cst, g0, g1, wp_some, wp_tru, wp_if, show cmpD .Is PyData.none .none = some (.bool true) from rfl, eq_self, if_true, s_cons, s_ret, wpR, and_self]
  | str s =>
    have e : cmpD .Eq (PyData.str s) (.str s) = some (.bool true) := by
      show some (PyData.bool (decide (s = s))) = _
      rw [decide_eq_true rfl]
    simp only [show isaD Ty.tuple (PyData.str s) = false from rfl, show isaD Ty.bool (PyData.str s) = false from rfl, show isaD Ty.int (PyData.str s) = false from rfl, show isaD Ty.str (PyData.str s) = true from rfl, Bool.false_eq_true, if_false, wp_ret, wp_bnd, e_cmp, e_var, e_cst, g0, g1, wp_some, wp_tru, wp_if, show cmpD .Is (PyData.str s) .none = some (.bool false) from rfl, eq_self, if_true, e_bi, l_cons, l_nil, isa_eq, s_cons, s_ret, e_and, e_and2, e_and1, show biD .str [PyData.str s] = some (.str s) from rfl, e, wpR, and_self]
  | _ => cases hd
def wholeB : D → Bool
  | .int _ => true
  | _ => false
theorem is_whole_ok (v : D) (c : Cu) : d_is_whole [.val v] c = .ok (.bool (wholeB v)) c := by
  apply ok_of
  unfold d_is_whole
  rw [wp_run]
  unfold b_is_whole
  simp only [List.cons_append, List.nil_append, List.length_cons, List.length_nil, Nat.reduceAdd, Nat.reduceSub, List.replicate, s_cons, s_ret, s_nil, wp_bnd, e_and, e_and2, e_and1, e_not, e_bi, l_cons, l_nil, wp_ret, e_var, g0, isa_eq, wp_some, wp_tru, wp_if]
  cases v <;> simp [isaD, wholeB, wp_ret, wp_bnd, wp_tru, wpR, e_not, e_bi, l_cons, l_nil, e_var, g0, isa_eq, wp_some]
def inB (l h : Int) : D → Bool
  | .int i => decide (l ≤ i) && decide (i ≤ h)
  | _ => false
theorem fits_whole_ok (v : D) (l h : Int) (c : Cu) : d_fits_whole [.val v, .val (.int l), .val (.int h)] c = .ok (.bool (inB l h v)) c := by
  apply ok_of
  unfold d_fits_whole
  rw [wp_run]
  unfold b_fits_whole
  simp only [List.cons_append, List.nil_append, List.length_cons, List.length_nil, Nat.reduceAdd, Nat.reduceSub, List.replicate, s_cons, s_ret, s_nil, wp_bnd, e_and, e_and2, e_and1, e_call, a_var, a_nil, wp_ret, g0, List.getD_cons_zero, wp_of (is_whole_ok _ _), wp_tru, wp_if]
  cases v with
  | int i =>
    simp only [wholeB, eq_self, if_true, e_chn, wp_bnd, e_var, g0, g1, g2, wp_ret, c_le, wp_some, wp_tru, wp_if, inB]
    by_cases h1 : i < l
    · simp [h1, wp_ret, wpR, show ¬ l ≤ i by omega]
    · by_cases h2 : h < i
      · simp [h1, h2, wp_ret, wpR, wp_bnd, e_var, g2, wp_some, c_le, show ¬ i ≤ h by omega]
      · simp [h1, h2, wp_ret, wpR, wp_bnd, e_var, g2, wp_some, c_le, show l ≤ i by omega, show i ≤ h by omega]
  | _ => simp [wholeB, inB, wp_ret, wpR]
def placeB (h w : Int) : D → Bool
  | .tuple [a, b] => inB 0 (h - 1) a && inB 0 (w - 1) b
  | _ => false
theorem fits_place_ok (p0 : Str) (ps : List Str) (v : D) (c : Cu) : d_fits_place [.val (.tuple ((p0 :: ps).map PyData.str)), .val v] c = .ok (.bool (placeB ((p0 :: ps).length : Nat) (p0.length : Nat) v)) c := by
  apply ok_of
  unfold d_fits_place
  rw [wp_run]
  unfold b_fits_place
  simp only [List.cons_append, List.nil_append, List.length_cons, List.length_nil, Nat.reduceAdd, Nat.reduceSub, List.replicate, s_cons, s_ite, s_ret, s_nil, wp_bnd, e_not, e_call, a_var, a_cst, a_nil, wp_ret, e_cst, g0, g1, List.getD_cons_zero, List.getD_cons_succ, wp_of (tuple_of _ _ _ _), wp_tru, wp_if]
  have two : ∀ a b : D, v = .tuple [a, b] → wpX (evS [d_fits_whole, d_is_tuple_of] (.cons (.ret (.and (.cons (.call 0 (.cons (.sub (.var 1) (.cst (.int 0))) (.cons (.cst (.int 0)) (.cons (.bin .Sub (.bi .len (.cons (.var 0) .nil)) (.cst (.int 1))) .nil)))) (.cons (.call 0 (.cons (.sub (.var 1) (.cst (.int 1))) (.cons (.cst (.int 0)) (.cons (.bin .Sub (.bi .len (.cons (.sub (.var 0) (.cst (.int 0))) .nil)) (.cst (.int 1))) .nil)))) .nil)))) .nil) [.val (.tuple ((p0 :: ps).map PyData.str)), .val v] c)
      (wpR (fun x k => x = .bool (placeB ((p0 :: ps).length : Nat) (p0.length : Nat) v) ∧ k = c) fun _ _ => False) fun _ _ => False := by
    intro a b e
    subst e
    have e0 : subD (.tuple ((p0 :: ps).map PyData.str)) (.int 0) = some (PyData.str p0) := sub0_tup
    have el : biD .len [.tuple ((p0 :: ps).map PyData.str)] = some (.int ((p0 :: ps).length : Nat)) := by rw [len_tup, List.length_map]
    simp only [s_cons, s_ret, s_nil, wp_bnd, e_and, e_and2, e_and1, e_call, a_sub, a_cst, a_bin, a_nil, e_sub, e_cst, e_bin, e_bi, l_cons, l_nil, e_var, g0, g1, wp_ret, sub0_tup, sub1_tup, wp_some, el, b_sub, List.getD_cons_zero, wp_of (fits_whole_ok _ _ _ _), wp_tru, wp_if]
    cases h1 : inB 0 (((p0 :: ps).length : Nat) - 1) a with
    | false => simp [wp_ret, wpR, placeB]; simp at h1; rw [h1]; simp
    | true =>
      simp only [eq_self, if_true, e_call, wp_bnd, a_sub, a_cst, a_bin, a_nil, e_sub, e_cst, e_bin, e_bi, l_cons, l_nil, e_var, g0, g1, wp_ret, sub1_tup, e0, wp_some, len_str, b_sub, List.getD_cons_zero, wp_of (fits_whole_ok _ _ _ _), wpR]
      exact ⟨by show _ = PyData.bool (inB 0 (((p0 :: ps).length : Nat) - 1) a && _); rw [h1, Bool.true_and], trivial⟩
  cases v with
  | tuple xs =>
    match xs with
    | [a, b] =>
      simp only [List.length_cons, List.length_nil, Nat.reduceAdd, show (decide ((2:Int) ≤ ((2 : Nat) : Int)) && decide (((2 : Nat) : Int) ≤ 2)) = true from rfl, Bool.not_true, Bool.false_eq_true, if_false, wp_ret]
      have t := two a b rfl
      simp only [s_cons, s_ret, s_nil, wp_bnd, wp_ret, List.length_cons] at t
      exact t
    | [] => simp [wp_ret, wpR, placeB, wp_bnd, s_cons, s_ret, e_cst]
    | [_] => simp [wp_ret, wpR, placeB, wp_bnd, s_cons, s_ret, e_cst]
    | _ :: _ :: _ :: r =>
      have e : (decide ((2:Int) ≤ ((r.length + 1 + 1 + 1 : Nat) : Int)) && decide (((r.length + 1 + 1 + 1 : Nat) : Int) ≤ 2)) = false := by simp; omega
      simp only [List.length_cons, e, Bool.not_false, eq_self, if_true, wp_ret, wpR, placeB, wp_bnd, s_cons, s_ret, e_cst, and_self]
  | _ => simp [wp_ret, wpR, placeB, wp_bnd, s_cons, s_ret, e_cst]
theorem need_plot_ok (v : D) (hv : plotB v = true) (c : Cu) : d_need_plot [.val v] c = .ok .none c := by
  apply ok_of
  unfold d_need_plot
  rw [wp_run]
  unfold b_need_plot
  simp only [List.cons_append, List.nil_append, List.length_cons, List.length_nil, Nat.reduceAdd, Nat.reduceSub, List.replicate, s_cons, s_ite, s_ret, s_nil, wp_bnd, e_not, e_call, a_var, a_nil, wp_ret, g0, List.getD_cons_zero, wp_of (fits_plot _ _), hv, wp_tru, wp_if, Bool.not_true, Bool.false_eq_true, if_false, wpR, and_self]
theorem need_place_ok (p0 : Str) (ps : List Str) (v : D) (hv : placeB ((p0 :: ps).length : Nat) (p0.length : Nat) v = true) (c : Cu) : d_need_place [.val (.tuple ((p0 :: ps).map PyData.str)), .val v] c = .ok .none c := by
  apply ok_of
  unfold d_need_place
  rw [wp_run]
  unfold b_need_place
  simp only [List.cons_append, List.nil_append, List.length_cons, List.length_nil, Nat.reduceAdd, Nat.reduceSub, List.replicate, s_cons, s_ite, s_ret, s_nil, wp_bnd, e_not, e_call, a_var, a_nil, wp_ret, g0, g1, List.getD_cons_zero, wp_of (fits_place_ok _ _ _ _)]
  simp only [List.length_cons] at hv
  simp only [hv, wp_tru, wp_if, Bool.not_true, Bool.false_eq_true, if_false, wpR, wp_ret, and_self]
theorem pl1 (v : D) (c : Cu) {P : D → Cu → Prop} (h : wpX (evS [] b__law_places [.val v, .no, .no, .no] c) (wpR P fun _ _ => False) fun _ _ => False) : wpX (d__law_places [.val v] c) P fun _ _ => False := by
  unfold d__law_places
  rw [wp_run]
  exact h
def bodyP : CS := (.cons (.asg 1 (.bin .Add (.var 1) (.lc (.var 3) (.rng (.cons (.bi .len (.cons (.sub (.var 0) (.cst (.int 0))) .nil)) .nil)) .nil (.tup (.cons (.var 2) (.cons (.var 3) .nil)))))) .nil)
theorem pl2 : b__law_places = .cons (.asg 1 (.lst .nil)) (.cons (.for_ (.var 2) (.rng (.cons (.bi .len (.cons (.var 0) .nil)) .nil)) bodyP) (.cons (.ret (.var 1)) .nil)) := rfl
theorem pl3 (v : D) (n : Nat) (c : Cu) (hv : biD .len [v] = some (.int (n : Nat))) (hn : n ≤ 1000) {P : D → Cu → Prop} (h : wpX (forM (fun d σ => bnd (lft (bindT (.var 2) d σ)) fun σ' => evS [] bodyP σ') (rngL 0 (n : Nat)) [.val v, .own (.list []), .no, .no] c) (fun o c' => ∃ xs r, o = .nx [.val v, .own (.list xs), r, .no] ∧ P (.list xs) c') fun _ _ => False) :
    wpX (d__law_places [.val v] c) P fun _ _ => False := by
  refine pl1 v c ?_
  rw [pl2]
  simp only [s_cons, s_asg, wp_bnd, e_lst, l_nil, wp_ret, put_new (show frs (.lst .nil) = true from rfl) (show leak false (.lst .nil) = [] from rfl), frz_nil, List.set]
  simp only [s_for, w_it, itr, eq_self, if_true, wp_bnd]
  refine wp_rng1 ?_
  simp only [e_bi, wp_bnd, l_cons, l_nil, e_var, g0, wp_ret, hv, wp_some]
  refine ⟨n, rfl, hn, ?_⟩
  have hl : leak false (CE.rng (.cons (.bi .len (.cons (.var 0) .nil)) .nil)) = [] := rfl
  rw [hl]
  refine wpX_mono h (fun o c' ⟨xs, r, e, hp⟩ => ?_) fun _ _ z => z
  subst e
  simp only [wp_bnd, s_ret, e_var, g1, wp_ret, wpR]
  exact hp
def PlaceIn (h w : Nat) (x : D) : Prop := ∃ i j : Nat, x = .tuple [.int (i : Nat), .int (j : Nat)] ∧ i < h ∧ j < w
theorem pl4 (v : D) (i w : Nat) (xs : List D) (c : Cu) (p0 : Str) (h0 : subD v (.int 0) = some (.str p0)) (hw : p0.length = w) (h1 : w ≤ 1000) (hx : xs.length ≤ 1000) {P : Out → Cu → Prop}
    (hP : P (.nx [.val v, .own (.list (xs ++ (rngL 0 (w : Nat)).map fun j => .tuple [.int (i : Nat), j])), .val (.int (i : Nat)), .no]) c) :
    wpX (evS [] bodyP [.val v, .own (.list xs), .val (.int (i : Nat)), .no] c) P fun _ _ => False := by
  have lc : wpX (evE [] (.lc (.var 3) (.rng (.cons (.bi .len (.cons (.sub (.var 0) (.cst (.int 0))) .nil)) .nil)) .nil (.tup (.cons (.var 2) (.cons (.var 3) .nil)))) [.val v, .own (.list xs), .val (.int (i : Nat)), .no] c)
      (fun d c' => d = .list ((rngL 0 (w : Nat)).map fun j => .tuple [.int (i : Nat), j]) ∧ c' = c) fun _ _ => False := by
    simp only [e_lc, itr, eq_self, if_true, wp_bnd]
    refine wp_rng1 ?_
    simp only [e_bi, wp_bnd, l_cons, l_nil, e_sub, e_var, e_cst, g0, wp_ret, h0, wp_some, len_str]
    refine ⟨w, by rw [hw], h1, ?_⟩
    refine lc_wp (g := fun j => some (.tuple [.int (i : Nat), j])) (fun x hx => ok_of ?_) ?_
    · simp only [wp_if, bind1, wip1, wp_bnd, wp_some, t_nil, wp_ret, eq_self, if_true, List.set, e_tup, l_cons, l_nil, e_var, g2, g3, and_self]
    · rw [fm_some]; exact ⟨rfl, rfl⟩
  unfold bodyP
  simp only [s_cons, s_asg, s_nil, wp_bnd, e_bin, e_var, g1, wp_ret]
  refine wpX_mono lc (fun d c' ⟨ed, ec⟩ => ?_) fun _ _ z => z
  subst ed; subst ec
  have hl : (rngL 0 (w : Nat)).length = w := rng_len
  rw [b_addL (by rw [List.length_map, hl]; omega)]
  simp only [wp_some, wp_ret]
  rw [put_new (L := [2, 3]) rfl rfl]
  simp only [frz_cons, frz_nil, g2, g3, frz1_val, frz1_no, List.set]
  exact hP
theorem places_ok (p0 : Str) (ps : List Str) (h1 : p0.length ≤ 12) (h2 : ps.length ≤ 11) (c : Cu) {P : D → Cu → Prop}
    (hP : ∀ xs : List D, xs.length = (ps.length + 1) * p0.length → (∀ x ∈ xs, PlaceIn (ps.length + 1) p0.length x) → P (.list xs) c) : wpX (d__law_places [.val (.tuple ((p0 :: ps).map PyData.str))] c) P fun _ _ => False := by
  have e0 : subD (.tuple ((p0 :: ps).map PyData.str)) (.int 0) = some (PyData.str p0) := sub0_tup
  refine pl3 _ (ps.length + 1) c (by rw [len_tup, List.length_map, List.length_cons]) (by omega) ?_
  refine forM_ix (k := 0) (I := fun k σ c' => c' = c ∧ k ≤ 12 ∧ ∃ xs r, σ = [.val (.tuple ((p0 :: ps).map PyData.str)), .own (.list xs), r, .no] ∧ xs.length = k * p0.length ∧ ∀ x ∈ xs, PlaceIn k p0.length x)
    ⟨rfl, by omega, [], .no, rfl, by simp, fun x hx => by cases hx⟩ (fun i x σ c' hx ⟨ec, hk, xs, r, e, hl, hm⟩ => ?_) fun σ' c' ⟨ec, hk, xs, r, e, hl, hm⟩ => ?_
  · obtain ⟨ex, hi⟩ := rng_get hx
    subst ex; subst e; subst ec
    rw [Nat.zero_add] at hl hm hk ⊢
    have hxl : xs.length ≤ 1000 := by
      have : i * p0.length ≤ 12 * 12 := Nat.mul_le_mul hk h1
      omega
    simp only [wp_bnd, bind1, wp_some, List.set]
    refine pl4 _ i p0.length xs _ p0 e0 rfl (by omega) hxl ⟨_, .inl rfl, rfl, by omega, _, _, rfl, ?_, fun x hx => ?_⟩
    · rw [List.length_append, List.length_map, rng_len, hl, Nat.succ_mul]
    · rcases List.mem_append.mp hx with hx | hx
      · obtain ⟨a, b, e1, e2, e3⟩ := hm x hx
        exact ⟨a, b, e1, by omega, e3⟩
      · obtain ⟨y, hy, rfl⟩ := List.mem_map.mp hx
        obtain ⟨b, e1, e2⟩ := rng_mem hy
        subst e1
        exact ⟨i, b, rfl, by omega, by omega⟩
  · subst ec
    have hr : (rngL 0 ((ps.length + 1 : Nat) : Int)).length = ps.length + 1 := rng_len
    rw [Nat.zero_add, hr] at hl hm
    exact ⟨xs, r, by rw [e], hP xs hl hm⟩
theorem cup_ok (is : List Int) (hl : is.length ≤ 63) (c : Cu) {P : D → Cu → Prop} {E : Nat → Cu → Prop} (hP : ∀ a b : Int, P (.list [.int a, .int b]) c) : wpX (d__law_cup [.scr is] c) P E := by
  unfold d__law_cup
  rw [wp_run]
  unfold b__law_cup
  simp only [List.cons_append, List.nil_append, List.length_cons, List.length_nil, Nat.reduceAdd, Nat.reduceSub, List.replicate, s_cons, s_asg, s_ret, s_nil, wp_bnd, e_bi, l_cons, l_nil, e_sub, e_bin]
  refine wp_lscr (is := is) rfl (by omega) ?_
  obtain ⟨x, hx⟩ : ∃ x : Int, subD (.list (is.map PyData.int ++ [.int 0])) (.int 0) = some (.int x) := by
    cases is with
    | nil => exact ⟨0, sub0_list⟩
    | cons y r => exact ⟨y, sub0_list⟩
  have ha : binD .Add (.list (is.map PyData.int)) (.list [.int 0]) = some (.list (is.map PyData.int ++ [.int 0])) := b_addL (by rw [List.length_map]; simp only [List.length_cons, List.length_nil]; omega)
  simp only [e_lst, l_cons, l_nil, e_cst, wp_bnd, wp_ret, ha, wp_some, hx, f_abs, put_int, List.set, e_ite, e_cmp, e_var, g1, e_bin, b_pow18, c_ge, wp_tru, wp_if, b_div (by decide : (0:Int) < 71) (by decide), b_mul (.inr (small_of (by decide : (0:Int) ≤ 307) (by decide))), b_add, e_bi, f_int, b_mod (by decide : (0:Int) < 2077503149), wpR]
  split <;> split <;> exact hP _ _
theorem app_cps (a b : Str) : (a ++ b).cps.toList = a.cps.toList ++ b.cps.toList := by
  show (a.cps ++ b.cps).toList = _
  rw [Array.toList_append]
theorem app_len (a b : Str) : (a ++ b).length = a.length + b.length := by
  show (a.cps ++ b.cps).size = _
  rw [Array.size_append]; rfl
theorem repS_cps (a : Str) (k : Int) : (repS a k).cps.toList = repL a.cps.toList k := rfl
theorem repL_len {α : Type} (xs : List α) (k : Int) : (repL xs k).length = k.toNat * xs.length := by
  unfold repL
  rw [List.length_flatten, List.map_replicate, List.sum_replicate_nat]
theorem repS_len (a : Str) (k : Int) : (repS a k).length = k.toNat * a.length := by
  show (repS a k).cps.size = _
  rw [← Array.length_toList, repS_cps, repL_len, Array.length_toList]; rfl
def okSign (k : Str) (c : Nat) : Prop := c = 46 ∨ c ∈ k.cps.toList
def SignsOk (k s : Str) : Prop := 1 ≤ s.length ∧ s.length ≤ 100 ∧ ∀ c ∈ s.cps.toList, okSign k c
def RowOk (k : Str) (w : Nat) (s : Str) : Prop := s.length = w ∧ ∀ c ∈ s.cps.toList, okSign k c
theorem size_ok (m : Nat) (hm0 : 1 ≤ m) (hm : m ≤ 12) (a b : Int) (t : D) (c5 c6 c7 : Slot) {P : Out → Cu → Prop} (hP : ∀ h w : Nat, 1 ≤ h → h ≤ m → 1 ≤ w → w ≤ m → ∀ a' b', P (.nx [.cup, .val (.int (m : Nat)), .val t, .val (.int (h : Nat)), .val (.int (w : Nat)), c5, c6, c7]) (some (a', b'))) :
    wpX (evS [d__law_some, d__law_roll] (.asgT (.tup (.cons (.var 3) (.cons (.var 4) .nil))) (.tup (.cons (.bin .Add (.cst (.int 1)) (.call 1 (.cons (.var 0) (.cons (.var 1) .nil)))) (.cons (.bin .Add (.cst (.int 1)) (.call 1 (.cons (.var 0) (.cons (.var 1) .nil)))) .nil)))) [.cup, .val (.int (m : Nat)), .val t, .no, .no, c5, c6, c7] (some (a, b))) P fun _ _ => False := by
  simp only [s_asgT, wp_bnd, e_tup, l_cons, l_nil, e_bin, e_cst, wp_ret, e_call, a_var, a_nil, g0, g1, List.getD_cons_succ, List.getD_cons_zero]
  refine roll_ok a b m (by omega) (by omega) fun r1 a1 b1 h1 h2 => ?_
  simp only [b_add, wp_some]
  refine roll_ok a1 b1 m (by omega) (by omega) fun r2 a2 b2 h3 h4 => ?_
  simp only [b_add, wp_some, lks_imm (show imm (.tuple [.int (1 + r1), .int (1 + r2)]) = true from rfl), frz_nil, bind2, List.set, wp_ret]
  obtain ⟨n, hn⟩ : ∃ n : Nat, 1 + r1 = (n : Nat) := ⟨(1 + r1).toNat, by omega⟩
  obtain ⟨m2, hm2⟩ : ∃ m2 : Nat, 1 + r2 = (m2 : Nat) := ⟨(1 + r2).toNat, by omega⟩
  rw [hn, hm2]
  exact hP n m2 (by omega) (by omega) (by omega) (by omega) a2 b2
theorem signs_ok (k : Str) (hk1 : 1 ≤ k.length) (hk2 : k.length ≤ 8) (a b : Int) (m h w : Slot) (c5 c6 c7 : Slot) {P : Out → Cu → Prop} (hP : ∀ s : Str, SignsOk k s → ∀ a' b', P (.nx [.cup, m, .val (.str k), h, w, .val (.str s), c6, c7]) (some (a', b'))) :
    wpX (evS [d__law_some, d__law_roll] (.asg 5 (.call 0 (.cons (.var 0) (.cons (.lst (.cons (.var 2) (.cons (.bin .Add (.var 2) (.cst (.str "."))) (.cons (.bin .Add (.var 2) (.cst (.str ".."))) (.cons (.bin .Add (.bin .Mult (.cst (.str ".")) (.bi .len (.cons (.var 2) .nil))) (.var 2)) .nil))))) .nil)))) [.cup, m, .val (.str k), h, w, c5, c6, c7] (some (a, b))) P fun _ _ => False := by
  have l1 : ("." : Str).length = 1 := rfl
  have l2 : (".." : Str).length = 2 := rfl
  have kd1 : binD .Add (.str k) (.str ".") = some (.str (k ++ ".")) := b_addS (by omega)
  have kd2 : binD .Add (.str k) (.str "..") = some (.str (k ++ "..")) := b_addS (by omega)
  have kd3 : binD .Mult (.str ".") (.int (k.length : Nat)) = some (.str (repS "." (k.length : Nat))) := b_mulS (by omega) (by omega) (by omega)
  have l3 : (repS "." (k.length : Nat)).length = k.length := by rw [repS_len, l1]; omega
  have kd4 : binD .Add (.str (repS "." (k.length : Nat))) (.str k) = some (.str (repS "." (k.length : Nat) ++ k)) := b_addS (by omega)
  simp -implicitDefEqProofs only [s_asg, wp_bnd, e_call, a_var, a_lst, a_nil, g0, g1, g2, wp_ret, e_lst, l_cons, l_nil, e_var, e_bin, e_cst, e_bi, len_str, kd1, kd2, kd3, kd4, wp_some, List.getD_cons_zero]
  refine some_ok a b (n := 4) rfl (by decide) (by decide) fun r h0 h1 => ?_
  obtain ⟨x, hx, e⟩ := sub_list (xs := [.str k, .str (k ++ "."), .str (k ++ ".."), .str (repS "." (k.length : Nat) ++ k)]) h0 h1
  refine ⟨x, e, fun a' b' => ?_⟩
  have d1 : ("." : Str).cps.toList = [46] := rfl
  have d2 : (".." : Str).cps.toList = [46, 46] := rfl
  have key : ∃ s : Str, x = .str s ∧ SignsOk k s := by
    simp only [List.mem_cons, List.not_mem_nil, or_false] at hx
    rcases hx with rfl | rfl | rfl | rfl
    · exact ⟨_, rfl, hk1, by omega, fun c hc => .inr hc⟩
    · refine ⟨_, rfl, by rw [app_len]; omega, by rw [app_len]; omega, fun c hc => ?_⟩
      rw [app_cps, d1] at hc
      rcases List.mem_append.mp hc with z | z
      · exact .inr z
      · exact .inl (List.mem_singleton.mp z)
    · refine ⟨_, rfl, by rw [app_len]; omega, by rw [app_len]; omega, fun c hc => ?_⟩
      rw [app_cps, d2] at hc
      rcases List.mem_append.mp hc with z | z
      · exact .inr z
      · simp only [List.mem_cons, List.not_mem_nil, or_false, or_self] at z
        exact .inl z
    · refine ⟨_, rfl, by rw [app_len]; omega, by rw [app_len]; omega, fun c hc => ?_⟩
      rw [app_cps, repS_cps, d1] at hc
      rcases List.mem_append.mp hc with z | z
      · exact .inl (List.mem_singleton.mp (repL_mem z))
      · exact .inr z
  obtain ⟨s, rfl, hs⟩ := key
  rw [put_imm rfl]
  exact hP s hs a' b'
theorem one_row (k : Str) (w : Nat) (hw : w ≤ 12) (a b : Int) (s : Str) (hs : SignsOk k s) (σ : OR.Env) (g0' : getS σ 0 = .cup) (g4' : getS σ 4 = .val (.int (w : Nat))) (g5' : getS σ 5 = .val (.str s)) {P : D → Cu → Prop}
    (hP : ∀ r : Str, RowOk k w r → ∀ a' b', P (.str r) (some (a', b'))) :
    wpX (evE [d__law_some, d__law_roll] (.mth .join (.cst (.str "")) (.cons (.lc (.var 7) (.rng (.cons (.var 4) .nil)) .nil (.call 0 (.cons (.var 0) (.cons (.var 5) .nil)))) .nil)) σ (some (a, b))) P fun _ _ => False := by
  simp only [e_mth, wp_bnd, e_cst, wp_ret, show ∀ s, recv .join (.str s) = true from fun _ => rfl, wp_if, eq_self, if_true, l_cons, l_nil, e_lc, itr]
  refine wp_rng1 ?_
  rw [wp_var g4']
  refine ⟨w, rfl, by omega, ?_⟩
  rw [wp_nox]
  refine lcM_wp (I := fun c => ∃ a b, c = some (a, b)) (R := fun d => ∃ n : Nat, d = chr1 n ∧ okSign k n) ⟨a, b, rfl⟩ (fun x hx c ⟨a, b, e⟩ => ?_) fun ys c ⟨a, b, e⟩ hl hr => ?_
  · subst e
    have q0 : getS ((σ.set 7 .no).set 7 (.val x)) 0 = .cup := by rw [gs_ne (by decide), gs_ne (by decide)]; exact g0'
    have q5 : getS ((σ.set 7 .no).set 7 (.val x)) 5 = .val (.str s) := by rw [gs_ne (by decide), gs_ne (by decide)]; exact g5'
    simp only [wp_bnd, bind1, wip1, wp_some, t_nil, wp_ret, wp_if, eq_self, if_true, e_call, a_var, a_nil, q0, q5, List.getD_cons_zero]
    refine some_ok a b (n := s.length) rfl (by have := hs.1; omega) (by have := hs.2.1; omega) fun r h0 h1 => ?_
    obtain ⟨n, hn, e⟩ := sub_str h0 h1
    exact ⟨chr1 n, e, fun a' b' => ⟨chr1 n, rfl, ⟨n, rfl, hs.2.2 n hn⟩, a', b', rfl⟩⟩
  · subst e
    have hw2 : (rngL 0 ((w : Nat) : Int)).length = w := rng_len
    rw [hw2] at hl
    obtain ⟨ns, e, hns⟩ : ∃ ns : List Nat, ys = ns.map chr1 ∧ ∀ n ∈ ns, okSign k n := by
      clear hl
      induction ys with
      | nil => exact ⟨[], rfl, fun n h => by cases h⟩
      | cons y ys ih =>
        obtain ⟨n, e1, e2⟩ := hr y (List.mem_cons_self ..)
        obtain ⟨ns, e3, e4⟩ := ih fun z hz => hr z (List.mem_cons_of_mem _ hz)
        exact ⟨n :: ns, by rw [e1, e3]; rfl, fun m hm => (List.mem_cons.mp hm).elim (fun z => z ▸ e2) (e4 m)⟩
    have e2 : ys = (ns.map fun n => (⟨#[n]⟩ : Str)).map PyData.str := by rw [e, List.map_map]; rfl
    have hsum : ((ns.map fun n => (⟨#[n]⟩ : Str)).map (·.length)).sum ≤ 16777216 := by
      have := sum_le (ys := ns.map fun n => (⟨#[n]⟩ : Str)) (k := 1) fun y hy => by
        obtain ⟨n, _, rfl⟩ := List.mem_map.mp hy
        exact Nat.le_refl 1
      have hl2 : ns.length = w := by rw [e, List.length_map] at hl; exact hl
      rw [List.length_map] at this
      omega
    show wpX (lft (mthD .join (.str "") [.list ys]) (some (a, b))) P _
    rw [e2, join_list hsum, wp_some]
    refine hP _ ?_ a b
    have hc : (joinS "" (ns.map fun n => (⟨#[n]⟩ : Str))).cps.toList = ns := by
      rw [joinS_cps, List.map_map]
      clear hsum e2 e hl hr hns
      induction ns with
      | nil => rfl
      | cons n ns ih => rw [List.map_cons, List.flatten_cons, ih]; rfl
    refine ⟨?_, by rw [hc]; exact hns⟩
    have : (joinS "" (ns.map fun n => (⟨#[n]⟩ : Str))).length = ns.length := by
      show (joinS "" (ns.map fun n => (⟨#[n]⟩ : Str))).cps.size = _
      rw [← Array.length_toList, hc]
    rw [this]
    rw [e, List.length_map] at hl
    exact hl
def rowsE : CE := .lc (.var 6) (.rng (.cons (.var 3) .nil)) .nil (.mth .join (.cst (.str "")) (.cons (.lc (.var 7) (.rng (.cons (.var 4) .nil)) .nil (.call 0 (.cons (.var 0) (.cons (.var 5) .nil)))) .nil))
theorem rows_ok (k : Str) (h w : Nat) (hh : h ≤ 12) (hw : w ≤ 12) (a b : Int) (s : Str) (hs : SignsOk k s) (σ : OR.Env) (g0' : getS σ 0 = .cup) (g3' : getS σ 3 = .val (.int (h : Nat))) (g4' : getS σ 4 = .val (.int (w : Nat))) (g5' : getS σ 5 = .val (.str s)) {P : D → Cu → Prop}
    (hP : ∀ rows : List Str, rows.length = h → (∀ r ∈ rows, RowOk k w r) → ∀ a' b', P (.list (rows.map PyData.str)) (some (a', b'))) :
    wpX (evE [d__law_some, d__law_roll] rowsE σ (some (a, b))) P fun _ _ => False := by
  unfold rowsE
  simp only [e_lc, itr, wp_bnd, wp_if, eq_self, if_true]
  refine wp_rng1 ?_
  rw [wp_var g3']
  refine ⟨h, rfl, Nat.le_trans hh (by decide), ?_⟩
  rw [wp_nox]
  refine lcM_wp (I := fun c => ∃ a b, c = some (a, b)) (R := fun d => ∃ r : Str, d = .str r ∧ RowOk k w r) ⟨a, b, rfl⟩ (fun x hx c ⟨a, b, e⟩ => ?_) fun ys c ⟨a, b, e⟩ hl hr => ?_
  · subst e
    have q : ∀ j, j ≠ 6 → getS ((σ.set 6 .no).set 6 (.val x)) j = getS σ j := fun j hj => by rw [gs_ne (fun z => hj z.symm), gs_ne (fun z => hj z.symm)]
    simp only [wp_bnd, bind1, wip1, wp_some, t_nil, wp_ret, wp_if, eq_self, if_true]
    exact one_row k w hw a b s hs _ ((q 0 (by decide)).trans g0') ((q 4 (by decide)).trans g4') ((q 5 (by decide)).trans g5') fun r hr a' b' => ⟨.str r, rfl, ⟨r, rfl, hr⟩, a', b', rfl⟩
  · subst e
    have hh : (rngL 0 ((h : Nat) : Int)).length = h := rng_len
    rw [hh] at hl
    obtain ⟨rows, e, hrows⟩ : ∃ rows : List Str, ys = rows.map PyData.str ∧ ∀ r ∈ rows, RowOk k w r := by
      clear hl
      induction ys with
      | nil => exact ⟨[], rfl, fun n h => by cases h⟩
      | cons y ys ih =>
        obtain ⟨n, e1, e2⟩ := hr y (List.mem_cons_self ..)
        obtain ⟨ns, e3, e4⟩ := ih fun z hz => hr z (List.mem_cons_of_mem _ hz)
        exact ⟨n :: ns, by rw [e1, e3]; rfl, fun m hm => (List.mem_cons.mp hm).elim (fun z => z ▸ e2) (e4 m)⟩
    rw [e, List.length_map] at hl
    rw [e, wp_ret]
    exact hP rows hl hrows a b
theorem plot_ok (m : Nat) (hm0 : 1 ≤ m) (hm : m ≤ 12) (k : Str) (hk1 : 1 ≤ k.length) (hk2 : k.length ≤ 8) (a b : Int) {P : D → Cu → Prop} (hP : ∀ (rows : List Str) (w : Nat), 1 ≤ rows.length → rows.length ≤ m → 1 ≤ w → w ≤ m → (∀ r ∈ rows, RowOk k w r) → ∀ a' b', P (.tuple (rows.map PyData.str)) (some (a', b'))) :
    wpX (d__law_plot [.cup, .val (.int (m : Nat)), .val (.str k)] (some (a, b))) P fun _ _ => False := by
  unfold d__law_plot
  rw [wp_run]
  unfold b__law_plot
  simp only [List.cons_append, List.nil_append, List.length_cons, List.length_nil, Nat.reduceAdd, Nat.reduceSub, List.replicate]
  refine wp_seq (size_ok m hm0 hm a b _ _ _ _ fun h w h1 h2 h3 h4 a1 b1 => seq_nx ?_)
  refine wp_seq (signs_ok k hk1 hk2 a1 b1 _ _ _ _ _ _ fun s hs a2 b2 => seq_nx ?_)
  simp only [s_cons, s_ret, s_nil, wp_bnd, e_bi, l_cons, l_nil]
  refine rows_ok k h w (by omega) (by omega) a2 b2 s hs _ g0 g3 g4 g5 fun rows hl hr a' b' => ?_
  simp only [wp_ret, tup_l, wp_some, wpR]
  exact hP rows w (by omega) (by omega) h3 h4 hr a' b'
end OLaw
end

section
namespace OLaw
open PySem OR
def rngI (a b : Int) : List Int := (List.range (b - a).toNat).map fun i => a + (i : Nat)
def PL (r c : Int) : D := .tuple [.int r, .int c]
def PN (p : Nat × Nat) : D := PL (p.1 : Nat) (p.2 : Nat)
theorem sub0_PL (r c : Int) : subD (PL r c) (.int 0) = some (.int r) := sub0_tup
theorem sub1_PL (r c : Int) : subD (PL r c) (.int 1) = some (.int c) := sub1_tup
theorem plainPL (r c : Int) : (PL r c).plain = true := rfl
theorem depthPL (r c : Int) : (PL r c).depth = 1 := by
  unfold PL
  rw [PyData.depth, PyData.depthAll, PyData.depthAll, PyData.depth, PyData.depthAll, PyData.depth]; rfl
theorem eqv_PL (a b r c : Int) : PyData.eqv (PL a b) (PL r c) = (decide (a = r) && decide (b = c)) := eqv_tup2 a b r c
theorem rngI_mem {a b x : Int} (h : x ∈ rngI a b) : a ≤ x ∧ x < b := by
  obtain ⟨i, hi, rfl⟩ := List.mem_map.mp h
  have := List.mem_range.mp hi
  omega
theorem rngI_len (a b : Int) : (rngI a b).length = (b - a).toNat := by
  unfold rngI
  rw [List.length_map, List.length_range]
def TR (rows : List Str) : D := .tuple (rows.map PyData.str)
structure PF (w : Nat) (rows : List Str) : Prop where
  w1 : 1 ≤ w
  w2 : w ≤ 12
  h1 : 1 ≤ rows.length
  h2 : rows.length ≤ 12
  all : ∀ r ∈ rows, r.length = w ∧ ∀ c ∈ r.cps.toList, signB c = true
theorem PF.pl {w : Nat} {rows : List Str} (h : PF w rows) : plotB (TR rows) = true := by
  show plotL (rows.map PyData.str) = true
  unfold plotL
  have q1 : lenB (rows.map PyData.str).length = true := by
    rw [List.length_map]
    unfold lenB
    rw [decide_eq_true h.h1, decide_eq_true h.h2]; rfl
  have q2 : (rows.map PyData.str).all rowB = true := List.all_eq_true.mpr fun x hx => by
    obtain ⟨y, hy, rfl⟩ := List.mem_map.mp hx
    obtain ⟨a, b⟩ := h.all y hy
    show (lenB y.length && y.cps.toList.all signB) = true
    unfold lenB
    rw [a, decide_eq_true h.w1, decide_eq_true h.w2, List.all_eq_true.mpr b]; rfl
  have q3 : ((rows.map PyData.str).all fun x => decide (lenOf x = lenOf ((rows.map PyData.str).headD .none))) = true := List.all_eq_true.mpr fun x hx => by
    obtain ⟨y, hy, rfl⟩ := List.mem_map.mp hx
    cases rows with
    | nil => cases hy
    | cons p0 ps => exact decide_eq_true ((h.all y hy).1.trans (h.all p0 (List.mem_cons_self ..)).1.symm)
  rw [q1, q2, q3]; rfl
def In (w : Nat) (rows : List Str) (p : Nat × Nat) : Prop := p.1 < rows.length ∧ p.2 < w
def sg (rows : List Str) (r c : Nat) : Nat := ((rows.getD r "").cps.toList).getD c 46
theorem PF.row {w : Nat} {rows : List Str} (h : PF w rows) {r : Nat} (hr : r < rows.length) : rows[r]? = some (rows.getD r "") ∧ rows.getD r "" ∈ rows := by
  have e : rows[r]? = some rows[r] := List.getElem?_eq_getElem hr
  have e2 : rows.getD r "" = rows[r] := by rw [List.getD_eq_getElem?_getD, e]; rfl
  rw [e2]
  exact ⟨e, List.getElem_mem hr⟩
theorem PF.at {w : Nat} {rows : List Str} (h : PF w rows) {r c : Nat} (hp : In w rows (r, c)) : subD (TR rows) (.int (r : Nat)) = some (.str (rows.getD r "")) ∧ subD (.str (rows.getD r "")) (.int (c : Nat)) = some (chr1 (sg rows r c)) ∧ signB (sg rows r c) = true := by
  obtain ⟨e1, e2⟩ := h.row hp.1
  obtain ⟨a, b⟩ := h.all _ e2
  have hc : c < ((rows.getD r "").cps.toList).length := by
    rw [Array.length_toList]
    have : (rows.getD r "").cps.size = w := a
    have := hp.2
    dsimp only at this
    omega
  have e3 : ((rows.getD r "").cps.toList)[c]? = some (sg rows r c) := by
    show _ = some (((rows.getD r "").cps.toList).getD c 46)
    generalize (rows.getD r "").cps.toList = l at hc ⊢
    rw [List.getD_eq_getElem?_getD, List.getElem?_eq_getElem hc]; rfl
  refine ⟨sub_at ?_, sub_atS e3, b _ (List.mem_of_getElem? e3)⟩
  rw [List.getElem?_map, e1]; rfl
theorem PF.len0 {w : Nat} {rows : List Str} (h : PF w rows) : subD (TR rows) (.int 0) = some (.str (rows.getD 0 "")) ∧ (rows.getD 0 "").length = w := by
  have p : In w rows (0, 0) := ⟨h.h1, h.w1⟩
  exact ⟨(h.at p).1, (h.all _ (h.row h.h1).2).1⟩
theorem lenTR (rows : List Str) : biD .len [TR rows] = some (.int (rows.length : Nat)) := by
  unfold TR
  rw [len_tup, List.length_map]
theorem immTR (rows : List Str) : imm (TR rows) = true := immL_str rows
theorem immPN (p : Nat × Nat) : imm (PN p) = true := rfl
theorem place_ok {w : Nat} {rows : List Str} (h : PF w rows) {p : Nat × Nat} (hp : In w rows p) (cu : Cu) : d_need_place [.val (TR rows), .val (PN p)] cu = .ok .none cu := by
  have hw := (h.all _ (h.row h.h1).2).1
  have h1 := h.h1
  have pb : placeB (rows.length : Nat) (w : Nat) (PN p) = true := by
    obtain ⟨a, b⟩ := hp
    show ((decide ((0 : Int) ≤ (p.1 : Nat)) && decide (((p.1 : Nat) : Int) ≤ (rows.length : Nat) - 1)) && (decide ((0 : Int) ≤ (p.2 : Nat)) && decide (((p.2 : Nat) : Int) ≤ (w : Nat) - 1))) = true
    rw [decide_eq_true (by omega), decide_eq_true (by omega), decide_eq_true (by omega), decide_eq_true (by omega)]; rfl
  cases rows with
  | nil => cases h1
  | cons p0 ps =>
    have hw : p0.length = w := hw
    subst hw
    exact need_place_ok p0 ps _ pb cu
theorem eq_PL (a b r c : Int) : cmpD .Eq (PL a b) (PL r c) = some (.bool (decide (a = r) && decide (b = c))) := by
  have h : eqD (PL a b) (PL r c) = if ((PL a b).plain && (PL r c).plain && decide (min (PL a b).depth (PL r c).depth ≤ 60)) = true then some (PyData.eqv (PL a b) (PL r c)) else none := rfl
  have e : eqD (PL a b) (PL r c) = some (decide (a = r) && decide (b = c)) := by
    rw [h, depthPL, depthPL]
    refine (if_pos rfl).trans ?_
    rw [eqv_PL]
  show (eqD (PL a b) (PL r c)).map PyData.bool = _
  rw [e]; rfl
theorem ne_PL (a b r c : Int) : cmpD .NotEq (PL a b) (PL r c) = some (.bool (!(decide (a = r) && decide (b = c)))) := by
  have e := eq_PL a b r c
  show (eqD (PL a b) (PL r c)).map (fun z => PyData.bool (!z)) = _
  have e : (eqD (PL a b) (PL r c)).map PyData.bool = _ := e
  cases q : eqD (PL a b) (PL r c) with
  | none => rw [q] at e; cases e
  | some z =>
    rw [q] at e
    have : z = (decide (a = r) && decide (b = c)) := PyData.bool.inj (Option.some.inj e)
    rw [← this]; rfl
def treeB (rows : List Str) (p : Nat × Nat) : Bool := !decide (sg rows p.1 p.2 = 46)
theorem dot_ne (x : Nat) : cmpD .NotEq (chr1 x) (.str ".") = some (.bool (!decide (x = 46))) := by
  show some (PyData.bool (!decide ((⟨#[x]⟩ : Str) = "."))) = _
  congr 3
  exact decide_eq_decide.mpr ⟨fun z => by have z : (⟨#[x]⟩ : Str) = ⟨#[46]⟩ := z; injection z with z; injection z with z; injection z, fun z => by rw [z]; rfl⟩
theorem sub0_PN (p : Nat × Nat) : subD (PN p) (.int 0) = some (.int (p.1 : Nat)) := sub0_tup
theorem sub1_PN (p : Nat × Nat) : subD (PN p) (.int 1) = some (.int (p.2 : Nat)) := sub1_tup
theorem any_fm {p : D → Bool} (xs : List D) : biD .any [.list (xs.filterMap fun x => some (.bool (p x)))] = some (.bool (xs.any p)) := by
  rw [fm_some]
  show (boolsD (xs.map fun x => PyData.bool (p x))).map (fun bs => PyData.bool (bs.any id)) = _
  rw [show (xs.map fun x => PyData.bool (p x)) = (xs.map p).map PyData.bool by rw [List.map_map]; rfl, boolsD_map]
  show some (PyData.bool ((xs.map p).any id)) = _
  rw [List.any_map]; rfl
def trB (rows : List Str) : D → Bool
  | .tuple [.int a, .int b] => treeB rows (a.toNat, b.toNat)
  | _ => false
theorem trB_PN (rows : List Str) (p : Nat × Nat) : trB rows (PN p) = treeB rows p := by
  show treeB rows (((p.1 : Nat) : Int).toNat, ((p.2 : Nat) : Int).toNat) = _
  rw [Int.toNat_natCast, Int.toNat_natCast]
theorem lc_filter {α : Type} (e : α → D) (t : α → Bool) (xs : List α) {b : D → Bool} (h : ∀ x ∈ xs, b (e x) = t x) : ((xs.map e).filterMap fun x => if b x = true then some x else none) = (xs.filter t).map e := by
  rw [fm_filter, List.filter_map]
  congr 1
  exact List.filter_congr fun x hx => h x hx
theorem plainPN (l : List (Nat × Nat)) : PyData.plainAll (l.map PN) = true := plainAll_of fun y hy => by
  obtain ⟨p, _, rfl⟩ := List.mem_map.mp hy
  rfl
theorem str_ext {a b : Str} (h : a.cps.toList = b.cps.toList) : a = b := PySem.W.str_of_cps h
theorem cutS_cps (s : Str) (lo hi : Option Int) : (L2.cutS s lo hi).cps.toList = cutL s.cps.toList lo hi := by
  show (s.cps.toList.drop (HT.sIx s.length 0 lo)).take (HT.sIx s.length s.length hi - HT.sIx s.length 0 lo) = _
  unfold cutL
  rw [Array.length_toList]; rfl
theorem cut_to {α : Type} (xs : List α) (k : Nat) (h : k ≤ xs.length) : cutL xs none (some (k : Nat)) = xs.take k := by
  unfold cutL
  rw [HT.sIx_none, HT.sIx_nat, List.drop_zero, Nat.sub_zero, Nat.min_eq_left h]
theorem cut_from {α : Type} (xs : List α) (k : Nat) (h : k ≤ xs.length) : cutL xs (some (k : Nat)) none = xs.drop k := by
  unfold cutL
  rw [HT.sIx_none, HT.sIx_nat, Nat.min_eq_left h]
  exact List.take_of_length_le (by rw [List.length_drop]; exact Nat.le_refl _)
theorem cutS_len (s : Str) (lo hi : Option Int) : (L2.cutS s lo hi).length ≤ s.length := L2.cutS_length s lo hi
theorem rows_ext {w : Nat} {A B : List Str} (ha : PF w A) (hb : PF w B) (hl : A.length = B.length) (h : ∀ x, In w A x → sg A x.1 x.2 = sg B x.1 x.2) : A = B := by
  refine List.ext_getElem hl fun r h1 h2 => ?_
  refine str_ext ?_
  have la : (A[r].cps.toList).length = w := by rw [Array.length_toList]; exact (ha.all _ (List.getElem_mem h1)).1
  have lb : (B[r].cps.toList).length = w := by rw [Array.length_toList]; exact (hb.all _ (List.getElem_mem h2)).1
  refine List.ext_getElem (by rw [la, lb]) fun c c1 c2 => ?_
  have := h (r, c) ⟨h1, by rw [la] at c1; exact c1⟩
  unfold sg at this
  have ea : A.getD r "" = A[r] := by rw [List.getD_eq_getElem?_getD, List.getElem?_eq_getElem h1]; rfl
  have eb : B.getD r "" = B[r] := by rw [List.getD_eq_getElem?_getD, List.getElem?_eq_getElem h2]; rfl
  dsimp only at this
  rw [ea, eb] at this
  rw [List.getD_eq_getElem?_getD, List.getD_eq_getElem?_getD, List.getElem?_eq_getElem c1, List.getElem?_eq_getElem c2] at this
  exact this
theorem a_lc (G : List Den) (σ : OR.Env) (a b c d t : CE) : evA G (.cons (.lc a b c d) t) σ = bnd (evE G (.lc a b c d) σ) fun x => bnd (evA G t σ) fun xs => OR.ret (.val x :: xs) := rfl
theorem put_old {i : Nat} {e : CE} {xs : List D} {σ : OR.Env} {L : List Nat} (hf : frs e = false) (hl : leak false e = L) : put i e (.list xs) σ = (frz L σ).set i (.val (.list xs)) := by
  unfold put putG
  rw [hf, hl]; rfl
theorem rng0 (n : Nat) : rngL 0 (n : Nat) = (List.range n).map fun i : Nat => PyData.int (i : Nat) := by
  unfold rngL
  rw [show ((n : Int) - 0).toNat = n by omega]
  refine List.map_congr_left fun i _ => ?_
  show PyData.int (0 + (i : Nat)) = _
  rw [Int.zero_add]
def pl (h w : Nat) : List (Nat × Nat) := (List.range h).flatMap fun i => (List.range w).map fun j => (i, j)
theorem pl_mem {h w : Nat} {p : Nat × Nat} : p ∈ pl h w ↔ p.1 < h ∧ p.2 < w := by
  unfold pl
  rw [List.mem_flatMap]
  constructor
  · rintro ⟨i, hi, hp⟩
    obtain ⟨j, hj, rfl⟩ := List.mem_map.mp hp
    exact ⟨List.mem_range.mp hi, List.mem_range.mp hj⟩
  · rintro ⟨h1, h2⟩
    exact ⟨p.1, List.mem_range.mpr h1, List.mem_map.mpr ⟨p.2, List.mem_range.mpr h2, rfl⟩⟩
theorem flat_len (w : Nat) : ∀ l : List Nat, (l.flatMap fun i => (List.range w).map fun j => (i, j)).length = l.length * w
  | [] => by simp
  | a :: l => by rw [List.flatMap_cons, List.length_append, List.length_map, List.length_range, flat_len w l, List.length_cons, Nat.succ_mul, Nat.add_comm]
theorem pl_len (h w : Nat) : (pl h w).length = h * w := by
  unfold pl
  rw [flat_len, List.length_range]
theorem places_eq {w : Nat} {rows : List Str} (h : PF w rows) (cu : Cu) : d__law_places [.val (TR rows)] cu = .ok (.list ((pl rows.length w).map PN)) cu := by
  obtain ⟨e0, l0⟩ := h.len0
  have w2 := h.w2
  have h2 := h.h2
  apply ok_of
  refine pl3 (TR rows) rows.length cu (lenTR rows) (by omega) ?_
  rw [rng0]
  refine forM_pre (full := List.range rows.length) (pre := []) (I := fun pre σ c => c = cu ∧ ∃ r, σ = [.val (TR rows), .own (.list ((pre.flatMap fun i => (List.range w).map fun j => (i, j)).map PN)), r, .no]) rfl ⟨rfl, .no, rfl⟩ (fun pre x rest σ c hf ⟨ec, r, e⟩ => ?_) fun σ c ⟨ec, r, e⟩ => ?_
  · subst ec; subst e
    have hpre : pre.length < rows.length := by
      have := congrArg List.length hf
      rw [List.length_range, List.length_append, List.length_cons] at this
      omega
    have hl : ((pre.flatMap fun i => (List.range w).map fun j => (i, j)).map PN).length ≤ 1000 := by
      rw [List.length_map, flat_len]
      exact Nat.le_trans (Nat.mul_le_mul (by omega : pre.length ≤ 12) w2) (by decide)
    rw [wp_bnd, bind1, wp_some]
    refine pl4 (TR rows) x w _ c (rows.getD 0 "") e0 l0 (by omega) hl ⟨_, .inl rfl, rfl, .val (.int (x : Nat)), ?_⟩
    rw [List.flatMap_append, List.map_append, rng0, List.map_map]
    congr 3
    rw [List.flatMap_cons, List.flatMap_nil, List.append_nil, List.map_map]
    rfl
  · subst ec; subst e
    exact ⟨_, _, rfl, rfl, rfl⟩
def sameOk : Nat → D → Bool
  | 0, _ => false
  | n + 1, .tuple xs => decide (xs.length ≤ 1000) && xs.all (sameOk n)
  | _ + 1, .int _ => true
  | _ + 1, d => flat d
theorem same_int (n : Nat) (i : Int) (c : Cu) : d__law_same (n + 1) [.val (.int i), .val (.int i)] c = .ok (.bool true) c := by
  apply ok_of
  show wpX (OR.run [d__law_same n] 3 b__law_same [.val (.int i), .val (.int i)] c) _ _
  rw [wp_run]
  unfold b__law_same
  simp -implicitDefEqProofs only [List.cons_append, List.nil_append, List.length_cons, List.length_nil, Nat.reduceAdd, Nat.reduceSub, List.replicate, s_cons, s_ite, s_ret, s_nil, wp_bnd, e_bi, l_cons, l_nil, wp_ret, e_var, g0, g1, isa_eq, wp_some, wp_tru, wp_if, show isaD Ty.tuple (PyData.int i) = false from rfl, show isaD Ty.bool (PyData.int i) = false from rfl, show isaD Ty.int (PyData.int i) = true from rfl, Bool.false_eq_true, if_false, e_cmp, e_cst, show cmpD .Is (PyData.int i) .none = some (.bool false) from rfl, eq_self, if_true, e_and, e_and2, e_and1, e_not, Bool.not_false, f_int, c_eq, decide_true, wpR, and_self]
theorem same_tuple (n : Nat) (xs : List D) (hl : xs.length ≤ 1000) (c : Cu) (hx : ∀ x ∈ xs, d__law_same n [.val x, .val x] c = .ok (.bool true) c) : d__law_same (n + 1) [.val (.tuple xs), .val (.tuple xs)] c = .ok (.bool true) c := by
  apply ok_of
  show wpX (OR.run [d__law_same n] 3 b__law_same [.val (.tuple xs), .val (.tuple xs)] c) _ _
  rw [wp_run]
  unfold b__law_same
  simp -implicitDefEqProofs only [List.cons_append, List.nil_append, List.length_cons, List.length_nil, Nat.reduceAdd, Nat.reduceSub, List.replicate, s_cons, s_ite, s_ret, s_nil, wp_bnd, e_bi, l_cons, l_nil, wp_ret, e_var, g0, g1, isa_eq, wp_some, wp_tru, wp_if, show isaD Ty.tuple (PyData.tuple xs) = true from rfl, eq_self, if_true, e_or, e_or2, e_or1, e_not, Bool.not_true, Bool.false_eq_true, if_false, e_cmp, len_tup, c_ne, decide_true, e_lc, itr]
  refine wp_rng1 ?_
  simp -implicitDefEqProofs only [e_bi, wp_bnd, l_cons, l_nil, e_var, g1, wp_ret, len_tup, wp_some]
  refine ⟨xs.length, rfl, hl, ?_⟩
  refine lc_wp (g := fun d => some (.bool ((fun _ => true) d))) (fun x hxx => ok_of ?_) ?_
  · obtain ⟨i, e, hi⟩ := rng_mem hxx
    subst e
    have hi : i < xs.length := by omega
    have e1 : subD (.tuple xs) (.int (i : Nat)) = some xs[i] := sub_at (List.getElem?_eq_getElem hi)
    simp -implicitDefEqProofs only [wp_if, bind1, wip1, wp_bnd, wp_some, t_nil, wp_ret, eq_self, if_true, List.set, e_call, a_sub, a_nil, e_sub, e_var, g0, g1, g2, e1, List.getD_cons_zero, wp_of (hx _ (List.getElem_mem hi)), and_self]
  · have := all_fm (p := fun _ => true) (rngL 0 (xs.length : Nat))
    rw [this]
    have e2 : ((rngL 0 (xs.length : Nat)).all fun _ => true) = true := List.all_eq_true.mpr fun _ _ => rfl
    rw [e2, wp_some]
    exact ⟨rfl, rfl⟩
theorem same_ok : ∀ (n : Nat) (d : D) (c : Cu), sameOk n d = true → d__law_same n [.val d, .val d] c = .ok (.bool true) c
  | 0, d, c, h => by cases h
  | n + 1, .tuple xs, c, h => by
    obtain ⟨h1, h2⟩ := and_t (a := decide (xs.length ≤ 1000)) h
    exact same_tuple n xs (dec_t h1) c fun x hx => same_ok n x c (List.all_eq_true.mp h2 x hx)
  | n + 1, .int i, c, _ => same_int n i c
  | n + 1, .none, c, h => same_flat n _ h c
  | n + 1, .bool _, c, h => same_flat n _ h c
  | n + 1, .str _, c, h => same_flat n _ h c
  | n + 1, .list _, c, h => by cases h
  | n + 1, .dict _, c, h => by cases h
theorem sameOk_list {α : Type} (n : Nat) (e : α → D) (he : ∀ x, sameOk n (e x) = true) (xs : List α) (hl : xs.length ≤ 1000) : sameOk (n + 1) (.tuple (xs.map e)) = true := by
  show (decide ((xs.map e).length ≤ 1000) && (xs.map e).all (sameOk n)) = true
  rw [List.length_map, decide_eq_true hl, Bool.true_and]
  exact List.all_eq_true.mpr fun y hy => by
    obtain ⟨x, _, rfl⟩ := List.mem_map.mp hy
    exact he x
theorem same_PN (n : Nat) (p : Nat × Nat) : sameOk (n + 2) (PN p) = true := rfl
theorem same_TR (n : Nat) {w : Nat} {rows : List Str} (h : PF w rows) : sameOk (n + 2) (TR rows) = true := sameOk_list (n + 1) PyData.str (fun _ => rfl) rows (by have := h.h2; omega)
theorem g16 {x0 x1 x2 x3 x4 x5 x6 x7 x8 x9 xa xb xc xd xe xf x : Slot} {r : OR.Env} : getS (x0 :: x1 :: x2 :: x3 :: x4 :: x5 :: x6 :: x7 :: x8 :: x9 :: xa :: xb :: xc :: xd :: xe :: xf :: x :: r) 16 = x := rfl
theorem filter_any {α : Type} (t : α → Bool) : ∀ l : List α, l.any t = !(l.filter t).isEmpty
  | [] => rfl
  | a :: l => by
    rw [List.any_cons, List.filter_cons, filter_any t l]
    cases t a <;> rfl
theorem in_PN (p : Nat × Nat) (L : List (Nat × Nat)) : cmpD .In (PN p) (.list (L.map PN)) = some (.bool (decide (p ∈ L))) := by
  have h : inD (PN p) (.list (L.map PN)) = if ((PN p).plain && PyData.plainAll (L.map PN) && decide (min (PyData.depthAll (L.map PN)) (PN p).depth ≤ 60)) = true then some ((L.map PN).any fun y => PyData.eqv y (PN p)) else none := rfl
  have d : (PN p).depth = 1 := depthPL _ _
  have e : inD (PN p) (.list (L.map PN)) = some (decide (p ∈ L)) := by
    rw [h, plainPN, d, decide_eq_true (Nat.le_trans (Nat.min_le_right _ _) (by decide))]
    refine (if_pos rfl).trans ?_
    congr 1
    rw [List.any_map]
    have q : ∀ y : Nat × Nat, (fun y => PyData.eqv y (PN p)) (PN y) = decide (y = p) := fun y => by
      show PyData.eqv (PL _ _) (PL _ _) = _
      rw [eqv_PL]
      by_cases e : y = p
      · rw [e, decide_eq_true rfl, decide_eq_true rfl, decide_eq_true rfl]; rfl
      · rw [decide_eq_false e]
        cases z : (decide (((y.1 : Nat) : Int) = (p.1 : Nat)) && decide (((y.2 : Nat) : Int) = (p.2 : Nat))) with
        | false => rfl
        | true =>
          obtain ⟨z1, z2⟩ := and_t z
          have z1 := dec_t z1
          have z2 := dec_t z2
          exact absurd (Prod.ext (by omega) (by omega)) e
    rw [show ((fun y => PyData.eqv y (PN p)) ∘ PN) = fun y => decide (y = p) from funext q]
    rw [Bool.eq_iff_iff, List.any_eq_true, decide_eq_true_eq]
    constructor
    · rintro ⟨y, hy, e⟩
      rw [← dec_t e]; exact hy
    · intro hp
      exact ⟨p, hp, decide_eq_true rfl⟩
  show (inD (PN p) (.list (L.map PN))).map PyData.bool = _
  rw [e]; rfl
def rowOf (ns : List Nat) : Str := ⟨ns.toArray⟩
theorem join_signs (ns : List Nat) (h : ns.length ≤ 1000) : mthD .join (.str "") [.list (ns.map chr1)] = some (.str (rowOf ns)) := by
  have e2 : ns.map chr1 = (ns.map fun n => (⟨#[n]⟩ : Str)).map PyData.str := by rw [List.map_map]; rfl
  have hsum : ((ns.map fun n => (⟨#[n]⟩ : Str)).map (·.length)).sum ≤ 16777216 := by
    have := sum_le (ys := ns.map fun n => (⟨#[n]⟩ : Str)) (k := 1) fun y hy => by
      obtain ⟨n, _, rfl⟩ := List.mem_map.mp hy
      exact Nat.le_refl 1
    rw [List.length_map] at this
    omega
  rw [e2, join_list hsum]
  congr 2
  refine str_ext ?_
  rw [joinS_cps, List.map_map]
  show _ = ns
  clear hsum e2 h
  induction ns with
  | nil => rfl
  | cons n ns ih => rw [List.map_cons, List.flatten_cons, ih]; rfl
end OLaw
end

section
namespace OLaw
open PySem OR
theorem need_pl {w : Nat} {rows : List Str} (h : PF w rows) (cu : Cu) : d_need_plot [.val (TR rows)] cu = .ok .none cu := need_plot_ok _ h.pl cu
theorem pl_le {w : Nat} {rows : List Str} (h : PF w rows) : rows.length * w ≤ 144 := Nat.mul_le_mul h.h2 h.w2
theorem places_in_ok {w : Nat} {rows : List Str} (h : PF w rows) (cu : Cu) : d_places_in [.val (TR rows)] cu = .ok (.list ((pl rows.length w).map PN)) cu := by
  obtain ⟨e0, l0⟩ := h.len0
  have w2 := h.w2
  have h2 := h.h2
  have hl := pl_le h
  apply ok_of
  unfold d_places_in
  rw [wp_run]
  unfold b_places_in qplaces_in_0
  simp -implicitDefEqProofs only [List.cons_append, List.nil_append, List.length_cons, List.length_nil, Nat.reduceAdd, Nat.reduceSub, List.replicate, s_cons, s_ret, s_nil, wp_bnd, e_lc2, itr, eq_self, if_true]
  refine wp_rng1 ?_
  simp -implicitDefEqProofs only [e_bi, wp_bnd, l_cons, l_nil, e_var, g0, wp_ret, lenTR, wp_some]
  refine ⟨rows.length, rfl, by omega, ?_⟩
  refine lc2_wp (g := fun d => match d with | .int i => (List.range w).map fun j : Nat => .tuple [.int i, .int (j : Nat)] | _ => []) (fun x hx => ok_of ?_) ?_
  · obtain ⟨i, rfl, hi⟩ := rng_mem hx
    rw [wp_bnd, show bindT (.var 1) (.int (i : Nat)) (wip (tgs (.var 1) ++ tgs (.var 2)) [.val (TR rows), .no, .no]) = some [.val (TR rows), .val (.int (i : Nat)), .no] from rfl]
    simp -implicitDefEqProofs only [wp_some, t_nil, wp_bnd, wp_ret, wp_if, eq_self, if_true]
    refine wp_rng1 ?_
    simp -implicitDefEqProofs only [e_bi, wp_bnd, l_cons, l_nil, e_sub, e_var, e_cst, g0, wp_ret, e0, wp_some, len_str, l0]
    refine ⟨w, rfl, by omega, ?_⟩
    refine lcM_wpX (g := fun y => some (.tuple [.int (i : Nat), y])) (fun y hy => ok_of ?_) ?_
    · simp -implicitDefEqProofs only [bind1, wip1, wp_bnd, wp_some, t_nil, wp_ret, wp_if, eq_self, if_true, List.set, e_tup, l_cons, l_nil, e_var, g1, g2, and_self]
    · rw [fm_some, rng0, List.map_map]
      exact ⟨rfl, rfl⟩
  · have e : ((rngL 0 (rows.length : Nat)).flatMap fun d => match d with | .int i => (List.range w).map fun j : Nat => PyData.tuple [.int i, .int (j : Nat)] | _ => []) = (pl rows.length w).map PN := by
      rw [rng0, List.flatMap_map]
      unfold pl
      rw [List.map_flatMap]
      congr 1
      funext i
      rw [List.map_map]; rfl
    rw [e, wp_size (by rw [List.length_map, pl_len]; omega)]
    exact ⟨rfl, rfl⟩
def trs (rows : List Str) (w : Nat) : List (Nat × Nat) := (pl rows.length w).filter (treeB rows)
theorem tree_lc {w : Nat} {rows : List Str} (h : PF w rows) {G : List Den} {c : Cu} {e46 : CE} (he : ∀ σ, evE G e46 σ c = .ok (.str ".") c) {P : List D → Cu → Prop} {E : Nat → Cu → Prop} (hP : P ((trs rows w).map PN) c) :
    wpX (nox (lcM (fun d => bnd (lft (bindT (.tup (.cons (.var 1) (.cons (.var 2) .nil))) d (wip (tgs (.tup (.cons (.var 1) (.cons (.var 2) .nil)))) [.val (TR rows), .no, .no]))) fun σ' => bnd (evT G (.cons (.cmp .NotEq (.sub (.sub (.var 0) (.var 1)) (.var 2)) e46) .nil) σ') fun k => if k then bnd (evE G (.tup (.cons (.var 1) (.cons (.var 2) .nil))) σ') fun y => OR.ret (some y) else OR.ret none) ((pl rows.length w).map PN)) c) P E := by
  refine lc_wp (g := fun x => if trB rows x = true then some x else none) (fun x hx => ok_of ?_) ?_
  · obtain ⟨y, hy, rfl⟩ := List.mem_map.mp hx
    obtain ⟨e1, e2, _⟩ := h.at (r := y.1) (c := y.2) (pl_mem.mp hy)
    rw [wp_bnd, show bindT (.tup (.cons (.var 1) (.cons (.var 2) .nil))) (PN y) (wip (tgs (.tup (.cons (.var 1) (.cons (.var 2) .nil)))) [.val (TR rows), .no, .no]) = some [.val (TR rows), .val (.int (y.1 : Nat)), .val (.int (y.2 : Nat))] from rfl]
    simp -implicitDefEqProofs only [wp_some, t_nil, t_cons, wp_bnd, wp_ret, wp_if, e_cmp, e_sub, e_var, g0, g1, g2, e1, e2, wp_of (he _), dot_ne, wp_tru, e_tup, l_cons, l_nil, trB_PN]
    have ht : treeB rows y = !decide (sg rows y.1 y.2 = 46) := rfl
    rw [ht]
    cases (!decide (sg rows y.1 y.2 = 46)) with
    | true => exact ⟨rfl, trivial⟩
    | false => exact ⟨rfl, trivial⟩
  · rw [lc_filter PN (treeB rows) _ fun x _ => trB_PN rows x]
    exact hP
theorem trees_in_ok {w : Nat} {rows : List Str} (h : PF w rows) (cu : Cu) : d_trees_in [.val (TR rows)] cu = .ok (.list ((trs rows w).map PN)) cu := by
  apply ok_of
  unfold d_trees_in
  rw [wp_run]
  unfold b_trees_in qtrees_in_0
  simp -implicitDefEqProofs only [List.cons_append, List.nil_append, List.length_cons, List.length_nil, Nat.reduceAdd, Nat.reduceSub, List.replicate, s_cons, s_ret, s_nil, wp_bnd, e_lc, show ∀ f a, isIt (.call f a) = false from fun _ _ => rfl, Bool.false_eq_true, if_false, e_call, a_var, a_nil, g0, wp_ret, List.getD_cons_zero, wp_of (places_in_ok h _), its_list]
  refine tree_lc h (fun _ => rfl) ?_
  exact ⟨rfl, rfl⟩
theorem law_trees_ok {w : Nat} {rows : List Str} (h : PF w rows) (cu : Cu) : d__law_trees [.val (TR rows)] cu = .ok (.list ((trs rows w).map PN)) cu := by
  apply ok_of
  unfold d__law_trees
  rw [wp_run]
  unfold b__law_trees q_law_trees_0
  simp -implicitDefEqProofs only [List.cons_append, List.nil_append, List.length_cons, List.length_nil, Nat.reduceAdd, Nat.reduceSub, List.replicate, s_cons, s_ret, s_nil, wp_bnd, e_lc, show ∀ f a, isIt (.call f a) = false from fun _ _ => rfl, Bool.false_eq_true, if_false, e_call, a_var, a_nil, g0, wp_ret, List.getD_cons_zero, wp_of (places_eq h _), its_list]
  refine tree_lc h (fun _ => rfl) ?_
  exact ⟨rfl, rfl⟩
def dist (p q : Nat × Nat) : Nat := ((p.1 : Int) - q.1).natAbs + ((p.2 : Int) - q.2).natAbs
theorem dist_comm (p q : Nat × Nat) : dist p q = dist q p := by unfold dist; omega
theorem abs_nat (i : Int) : (if i < 0 then -i else i) = ((i.natAbs : Nat) : Int) := by split <;> omega
theorem far_ok (p q : Nat × Nat) (cu : Cu) : d_far_in [.val (PN p), .val (PN q)] cu = .ok (.int (dist p q : Nat)) cu := by
  apply ok_of
  unfold d_far_in
  rw [wp_run]
  unfold b_far_in qfar_in_0
  simp -implicitDefEqProofs only [List.cons_append, List.nil_append, List.length_cons, List.length_nil, Nat.reduceAdd, Nat.reduceSub, List.replicate, s_cons, s_ret, s_nil, wp_bnd, e_bin, e_bi, l_cons, l_nil, e_sub, e_var, e_cst, g0, g1, wp_ret, sub0_PN, sub1_PN, wp_some, b_sub, f_abs, abs_nat, b_add, wpR]
  exact ⟨rfl, trivial⟩
theorem law_far_ok (p q : Nat × Nat) (cu : Cu) : d__law_far [.val (PN p), .val (PN q)] cu = .ok (.int (dist p q : Nat)) cu := by
  have m : ∀ a b : Nat, (if (b : Int) - a > (a : Int) - b then (b : Int) - a else (a : Int) - b) = ((((a : Int) - b).natAbs : Nat) : Int) := fun a b => by split <;> omega
  apply ok_of
  unfold d__law_far
  rw [wp_run]
  unfold b__law_far q_law_far_0
  simp -implicitDefEqProofs only [List.cons_append, List.nil_append, List.length_cons, List.length_nil, Nat.reduceAdd, Nat.reduceSub, List.replicate, s_cons, s_ret, s_nil, wp_bnd, e_bin, e_bi, l_cons, l_nil, e_sub, e_var, e_cst, g0, g1, wp_ret, sub0_PN, sub1_PN, wp_some, b_sub, f_max, m, b_add, wpR]
  exact ⟨rfl, trivial⟩
def NI (n : Nat) : D := .int (n : Nat)
theorem lcM_on {α : Type} {e : α → D} {f : D → M (Option D)} {h : α → Option D} {c : Cu} : ∀ {xs : List α}, (∀ x ∈ xs, f (e x) c = .ok (h x) c) → lcM f (xs.map e) c = .ok (xs.filterMap h) c
  | [], _ => rfl
  | x :: xs, H => by
    show bnd (f (e x)) (fun o => bnd (lcM f (xs.map e)) fun ys => OR.ret (match o with | some y => y :: ys | none => ys)) c = _
    have h1 := H x (List.mem_cons_self ..)
    have h2 := lcM_on (xs := xs) fun y hy => H y (List.mem_cons_of_mem _ hy)
    simp only [bnd, h1, h2, List.filterMap_cons]
    cases h x <;> rfl
theorem lc_on {α : Type} {e : α → D} {f : D → M (Option D)} {h : α → Option D} {xs : List α} {c : Cu} {P : List D → Cu → Prop} {E : Nat → Cu → Prop} (H : ∀ x ∈ xs, f (e x) c = .ok (h x) c) (hP : P (xs.filterMap h) c) : wpX (nox (lcM f (xs.map e)) c) P E := by
  rw [wp_nox, wp_of (lcM_on H)]; exact hP
theorem fm_if {α : Type} (t : α → Bool) (g : α → D) : ∀ xs : List α, (xs.filterMap fun x => if t x = true then some (g x) else none) = (xs.filter t).map g
  | [] => rfl
  | x :: xs => by
    rw [List.filterMap_cons, List.filter_cons, fm_if t g xs]
    cases t x <;> rfl
theorem fm_all {α : Type} (g : α → D) : ∀ xs : List α, (xs.filterMap fun x => some (g x)) = xs.map g
  | [] => rfl
  | x :: xs => by rw [List.filterMap_cons, fm_all g xs]; rfl
theorem eqNI (a b : Nat) : cmpD .Eq (NI a) (NI b) = some (.bool (decide (a = b))) := by
  show cmpD .Eq (.int (a : Nat)) (.int (b : Nat)) = _
  rw [c_eq, show decide (((a : Nat) : Int) = (b : Nat)) = decide (a = b) from decide_eq_decide.mpr (by omega)]
theorem rngNI (n : Nat) : rngL 0 (n : Nat) = (List.range n).map NI := rng0 n
theorem some2 (x y : Nat) (a b : Int) {P : D → Cu → Prop} {E : Nat → Cu → Prop} (hP : ∀ m, m = x ∨ m = y → ∀ a b, P (NI m) (some (a, b))) : wpX (d__law_some [.cup, .val (.list [.int (x : Nat), .int (y : Nat)])] (some (a, b))) P E := by
  refine some_ok a b (n := 2) rfl (by decide) (by decide) fun r h0 h1 => ?_
  obtain ⟨n, rfl⟩ : ∃ n : Nat, r = (n : Nat) := ⟨r.toNat, by omega⟩
  have h2 : n = 0 ∨ n = 1 := by omega
  rcases h2 with rfl | rfl
  · exact ⟨NI x, rfl, fun a b => hP x (.inl rfl) a b⟩
  · exact ⟨NI y, rfl, fun a b => hP y (.inr rfl) a b⟩
theorem chr_eqC (x y : Nat) : cmpD .Eq (chr1 x) (chr1 y) = some (.bool (decide (x = y))) := by
  show some (PyData.bool (decide ((⟨#[x]⟩ : Str) = ⟨#[y]⟩))) = _
  congr 2
  exact decide_eq_decide.mpr ⟨fun z => by injection z with z; injection z with z; injection z, fun z => by rw [z]⟩
theorem notin_PN (p : Nat × Nat) (L : List (Nat × Nat)) : cmpD .NotIn (PN p) (.list (L.map PN)) = some (.bool (!decide (p ∈ L))) := by
  have h := in_PN p L
  show (inD (PN p) (.list (L.map PN))).map (fun b => PyData.bool (!b)) = _
  have h : (inD (PN p) (.list (L.map PN))).map PyData.bool = some (.bool (decide (p ∈ L))) := h
  cases q : inD (PN p) (.list (L.map PN)) with
  | none => rw [q] at h; cases h
  | some b =>
    rw [q] at h
    have : b = decide (p ∈ L) := PyData.bool.inj (Option.some.inj h)
    rw [this]; rfl
theorem immP (l : List (Nat × Nat)) : imm (.tuple (l.map PN)) = true := immL_of fun y hy => by
  obtain ⟨p, _, rfl⟩ := List.mem_map.mp hy
  rfl
theorem samePs (n : Nat) (l : List (Nat × Nat)) (h : l.length ≤ 1000) : sameOk (n + 3) (.tuple (l.map PN)) = true := sameOk_list (n + 2) PN (fun p => same_PN n p) l h
theorem all_of {α : Type} (p : α → Bool) (x : α) (xs : List α) (h1 : p x = true) (h2 : xs.all p = true) : (x :: xs).all p = true := by rw [List.all_cons, h1, h2]; rfl


theorem first_of (q : Nat → Bool) {k : Nat} (hk : q k = true) (hn : ∀ i, i < k → q i = false) : ∀ n, k < n → ∃ r, (List.range n).filter q = k :: r
  | 0, h => by omega
  | n + 1, h => by
    rw [List.range_succ, List.filter_append]
    by_cases e : k < n
    · obtain ⟨r, er⟩ := first_of q hk hn n e
      exact ⟨r ++ [n].filter q, by rw [er]; rfl⟩
    · have : k = n := by omega
      subst this
      refine ⟨[], ?_⟩
      rw [List.filter_eq_nil_iff.mpr fun i hi => by rw [hn i (List.mem_range.mp hi)]; decide, List.filter_cons, if_pos hk]; rfl
theorem ints_min (l : List Int) : minOk (l.map PyData.int) = true := by
  unfold minOk
  have a : likeAll (l.map PyData.int) = true := by
    unfold likeAll
    refine List.all_eq_true.mpr fun y hy => ?_
    unfold allAlike
    refine List.all_eq_true.mpr fun z hz => ?_
    obtain ⟨i, _, rfl⟩ := List.mem_map.mp hy
    obtain ⟨j, _, rfl⟩ := List.mem_map.mp hz
    rfl
  have b : PyData.plainAll (l.map PyData.int) = true := plainAll_of fun y hy => by
    obtain ⟨i, _, rfl⟩ := List.mem_map.mp hy
    rfl
  have c : PyData.depthAll (l.map PyData.int) = 0 := by
    induction l with
    | nil => rfl
    | cons i l ih =>
      show max (PyData.depth (.int i)) (PyData.depthAll (l.map PyData.int)) = 0
      rw [ih (by
        unfold likeAll at a ⊢
        refine List.all_eq_true.mpr fun y hy => ?_
        unfold allAlike
        refine List.all_eq_true.mpr fun z hz => ?_
        obtain ⟨i, _, rfl⟩ := List.mem_map.mp hy
        obtain ⟨j, _, rfl⟩ := List.mem_map.mp hz
        rfl) (plainAll_of fun y hy => by
        obtain ⟨i, _, rfl⟩ := List.mem_map.mp hy
        rfl)]
      rw [PyData.depth]
      rfl
  have d : (l.map PyData.int).all notNone = true := List.all_eq_true.mpr fun y hy => by
    obtain ⟨i, _, rfl⟩ := List.mem_map.mp hy
    rfl
  rw [a, b, c, d]; rfl
theorem all_map {α : Type} (t : α → Bool) (xs : List α) : biD .all [.list (xs.map fun x => PyData.bool (t x))] = some (.bool (xs.all t)) := by
  show (boolsD (xs.map fun x => PyData.bool (t x))).map (fun bs => PyData.bool (bs.all id)) = _
  rw [show (xs.map fun x => PyData.bool (t x)) = (xs.map t).map PyData.bool by rw [List.map_map]; rfl, boolsD_map]
  show some (PyData.bool ((xs.map t).all id)) = _
  rw [List.all_map]; rfl
theorem rng1N (n : Nat) : rngL 1 (1 + (n : Nat)) = (List.range n).map fun i : Nat => PyData.int (1 + (i : Nat)) := by
  unfold rngL
  rw [show ((1 : Int) + (n : Nat) - 1).toNat = n by omega]
theorem mul_small (a b : Nat) (h : a ≤ 1000) : binD .Mult (NI a) (NI b) = some (NI (a * b)) := by
  show binD .Mult (.int _) (.int _) = _
  rw [b_mul (.inl (small_of (by omega) (by omega)))]
  show some (PyData.int _) = some (PyData.int _)
  rw [Int.natCast_mul]

theorem sub_last (x : D) (xs : List D) : subD (.list (xs ++ [x])) (.int (-1)) = some x := by
  show L2.atI (xs ++ [x]) (-1) = some x
  unfold L2.atI L2.ixN
  rw [if_neg (by decide), if_pos (by rw [List.length_append, List.length_singleton]; omega)]
  show (xs ++ [x])[(-1 + (((xs ++ [x]).length : Nat) : Int)).toNat]? = some x
  rw [show (-1 + (((xs ++ [x]).length : Nat) : Int)).toNat = xs.length by rw [List.length_append, List.length_singleton]; omega, List.getElem?_append_right (Nat.le_refl _), Nat.sub_self]; rfl
theorem itsTR (B : List Str) {c : Cu} {P : List D → Cu → Prop} {E : Nat → Cu → Prop} : wpX (itsM (TR B) c) P E = P (B.map PyData.str) c := its_tup
end OLaw
end

section
namespace OLaw
open PySem OR
/-! tables of mates -/
def tx (p : Nat × Nat) : Str := ⟨#[p.1, p.2]⟩
def TT (T : List (Nat × Nat)) : D := .tuple (T.map fun p => PyData.str (tx p))
def P9 : List (Nat × Nat) := [(97, 97), (97, 98), (97, 99), (98, 97), (98, 98), (98, 99), (99, 97), (99, 98), (99, 99)]
def Tab (T : List (Nat × Nat)) : Prop := T.Sublist P9
theorem tx_0 (p : Nat × Nat) : subD (.str (tx p)) (.int 0) = some (chr1 p.1) := by
  show (L2.atI [p.1, p.2] 0).map chr1 = _
  rw [atI0]; rfl
theorem tx_1 (p : Nat × Nat) : subD (.str (tx p)) (.int 1) = some (chr1 p.2) := by
  show (L2.atI [p.1, p.2] 1).map chr1 = _
  rfl
theorem tx_inj {p q : Nat × Nat} : tx p = tx q ↔ p = q := by
  constructor
  · intro h
    have : (tx p).cps.toList = (tx q).cps.toList := by rw [h]
    have : [p.1, p.2] = [q.1, q.2] := this
    injection this with a b
    injection b with b _
    exact Prod.ext a b
  · rintro rfl; rfl
theorem immTT (T : List (Nat × Nat)) : imm (TT T) = true := immL_of fun y hy => by
  obtain ⟨p, _, rfl⟩ := List.mem_map.mp hy
  rfl
theorem itsTT (T : List (Nat × Nat)) {c : Cu} {P : List D → Cu → Prop} {E : Nat → Cu → Prop} : wpX (itsM (TT T) c) P E = P (T.map fun p => PyData.str (tx p)) c := its_tup
theorem eqv_st (a b : Str) : PyData.eqv (.str a) (.str b) = decide (a = b) := by rw [PyData.eqv]; rfl
theorem in_TT (p : Nat × Nat) (T : List (Nat × Nat)) : cmpD .In (.str (tx p)) (TT T) = some (.bool (decide (p ∈ T))) := by
  have h : inD (.str (tx p)) (TT T) = if ((PyData.str (tx p)).plain && PyData.plainAll (T.map fun p => PyData.str (tx p)) && decide (min (PyData.depthAll (T.map fun p => PyData.str (tx p))) (PyData.str (tx p)).depth ≤ 60)) = true then some ((T.map fun p => PyData.str (tx p)).any fun y => PyData.eqv y (.str (tx p))) else none := rfl
  have pl : PyData.plainAll (T.map fun p => PyData.str (tx p)) = true := plainAll_of fun y hy => by
    obtain ⟨p, _, rfl⟩ := List.mem_map.mp hy
    rfl
  have d0 : (PyData.str (tx p)).depth = 0 := by rw [PyData.depth]
  show (inD (.str (tx p)) (TT T)).map PyData.bool = _
  rw [h, pl, d0, decide_eq_true (Nat.le_trans (Nat.min_le_right _ _) (by decide)), show ((PyData.str (tx p)).plain && true && true) = true from rfl, if_pos rfl, List.any_map]
  have q : ((fun y => PyData.eqv y (.str (tx p))) ∘ fun p => PyData.str (tx p)) = fun y => decide (y = p) := by
    funext y
    show PyData.eqv (.str (tx y)) (.str (tx p)) = _
    rw [eqv_st, decide_eq_decide]
    exact tx_inj
  rw [q]
  show some (PyData.bool (T.any _)) = _
  congr 2
  rw [Bool.eq_iff_iff, List.any_eq_true, decide_eq_true_eq]
  exact ⟨fun ⟨y, h1, h2⟩ => by rw [← of_decide_eq_true h2]; exact h1, fun h => ⟨p, h, decide_eq_true rfl⟩⟩
theorem in_chrs (c : Nat) (L : List Nat) : cmpD .In (chr1 c) (.list (L.map chr1)) = some (.bool (decide (c ∈ L))) := by
  have h : inD (chr1 c) (.list (L.map chr1)) = if ((chr1 c).plain && PyData.plainAll (L.map chr1) && decide (min (PyData.depthAll (L.map chr1)) (chr1 c).depth ≤ 60)) = true then some ((L.map chr1).any fun y => PyData.eqv y (chr1 c)) else none := rfl
  have pl : PyData.plainAll (L.map chr1) = true := plainAll_of fun y hy => by
    obtain ⟨p, _, rfl⟩ := List.mem_map.mp hy
    rfl
  have d0 : (chr1 c).depth = 0 := by unfold chr1; rw [PyData.depth]
  show (inD (chr1 c) (.list (L.map chr1))).map PyData.bool = _
  rw [h, pl, d0, decide_eq_true (Nat.le_trans (Nat.min_le_right _ _) (by decide)), show ((chr1 c).plain && true && true) = true from rfl, if_pos rfl, List.any_map]
  have q : ((fun y => PyData.eqv y (chr1 c)) ∘ chr1) = fun y => decide (y = c) := by
    funext y
    show PyData.eqv (.str ⟨#[y]⟩) (.str ⟨#[c]⟩) = _
    rw [eqv_st, decide_eq_decide]
    constructor
    · intro h
      have : (⟨#[y]⟩ : Str).cps.toList = (⟨#[c]⟩ : Str).cps.toList := by rw [h]
      have : [y] = [c] := this
      injection this
    · rintro rfl; rfl
  rw [q]
  show some (PyData.bool (L.any _)) = _
  congr 2
  rw [Bool.eq_iff_iff, List.any_eq_true, decide_eq_true_eq]
  exact ⟨fun ⟨y, h1, h2⟩ => by rw [← of_decide_eq_true h2]; exact h1, fun h => ⟨c, h, decide_eq_true rfl⟩⟩
def ltP (p q : Nat × Nat) : Prop := (tx p).cps.toList < (tx q).cps.toList
instance (p q : Nat × Nat) : Decidable (ltP p q) := by unfold ltP; infer_instance
theorem P9_rise : P9.Pairwise ltP := by decide +kernel
theorem P9_kinds : ∀ p ∈ P9, p.1 ∈ kindsL ∧ p.2 ∈ kindsL := by decide
theorem adj_all {α : Type} {R : α → α → Prop} : ∀ {l : List α}, l.Pairwise R → ∀ q ∈ l.zip l.tail, R q.1 q.2
  | [], _, q, h => by cases h
  | [x], _, q, h => by cases h
  | x :: y :: r, h, q, hq => by
    have hq : q ∈ (x, y) :: (y :: r).zip r := hq
    obtain ⟨h1, h2⟩ := List.pairwise_cons.mp h
    rcases List.mem_cons.mp hq with e | e
    · rw [e]; exact h1 y List.mem_cons_self
    · exact adj_all h2 q e
theorem zip_map (e : Nat × Nat → D) : ∀ (a b : List (Nat × Nat)), zipL (a.map e) (b.map e) = (a.zip b).map fun q => .tuple [e q.1, e q.2]
  | [], _ => rfl
  | _ :: _, [] => rfl
  | x :: xs, y :: ys => by
    show PyData.tuple [e x, e y] :: zipL (xs.map e) (ys.map e) = _
    rw [zip_map e xs ys]; rfl
theorem slc_TT (T : List (Nat × Nat)) : slcD (TT T) (some 1) none = some (TT T.tail) := by
  show some (PyData.tuple (cutL (T.map fun p => PyData.str (tx p)) (some 1) none)) = _
  cases T with
  | nil => rfl
  | cons x xs =>
    have := cut_from (((x :: xs) : List (Nat × Nat)).map fun p => PyData.str (tx p)) 1 (by simp)
    rw [show ((1 : Nat) : Int) = 1 from rfl] at this
    rw [this]; rfl
theorem i_zip (G : List Den) (σ : OR.Env) (a b : CE) : evI G (.zip a b) σ = bnd (evE G a σ) fun x => bnd (evE G b σ) fun y => lft (zipD x y) := rfl
theorem a_mth' (G : List Den) (σ : OR.Env) (m : MI) (o es t : CE) : evA G (.cons (.mth m o es) t) σ = bnd (evE G (.mth m o es) σ) fun x => bnd (evA G t σ) fun xs => OR.ret (.val x :: xs) := rfl
theorem all_tt {α : Type} (xs : List α) : xs.all (fun _ => true) = true := List.all_eq_true.mpr fun _ _ => rfl

theorem is_rising_ok {T : List (Nat × Nat)} (h : Tab T) (cu : Cu) : d_is_rising [.val (TT T)] cu = .ok (.bool true) cu := by
  have hr := adj_all (P9_rise.sublist h)
  apply ok_of
  unfold d_is_rising
  rw [wp_run]
  unfold b_is_rising qis_rising_0
  simp only [List.cons_append, List.nil_append, List.length_cons, List.length_nil, Nat.reduceAdd, Nat.reduceSub, List.replicate]
  simp -implicitDefEqProofs only [s_cons, s_ret, wp_bnd, e_bi, l_cons, l_nil, e_lc, show ∀ a b, isIt (.zip a b) = true from fun _ _ => rfl, eq_self, if_true, i_zip, e_slc, nil_c, nil_t, Bool.false_eq_true, if_false, e_cst, e_var, g0, wp_ret, wp_part, slc_TT, wp_some]
  rw [show zipD (TT T) (TT T.tail) = some ((T.zip T.tail).map fun q => PyData.tuple [.str (tx q.1), .str (tx q.2)]) from congrArg some (zip_map (fun p => PyData.str (tx p)) T T.tail), wp_some]
  refine lc_on (h := fun _ => some (.bool true)) (fun q hq => ok_of ?_) ?_
  · have lt : cmpD .Lt (.str (tx q.1)) (.str (tx q.2)) = some (.bool true) := by
      show some (PyData.bool (decide ((tx q.1).cps.toList < (tx q.2).cps.toList))) = _
      rw [decide_eq_true (show (tx q.1).cps.toList < (tx q.2).cps.toList from hr q hq)]
    rw [wp_bnd, show bindT (.tup (.cons (.var 1) (.cons (.var 2) .nil))) (.tuple [.str (tx q.1), .str (tx q.2)]) (wip (tgs (.tup (.cons (.var 1) (.cons (.var 2) .nil)))) [.val (TT T), .no, .no]) = some [.val (TT T), .val (.str (tx q.1)), .val (.str (tx q.2))] from rfl]
    simp -implicitDefEqProofs only [wp_some, t_nil, wp_bnd, wp_ret, wp_if, eq_self, if_true, e_cmp, e_var, g1, g2, lt]
    first | exact ⟨rfl, trivial⟩ | exact ⟨rfl, rfl⟩ | exact ⟨trivial, trivial⟩ | trivial
  · rw [fm_all]
    simp -implicitDefEqProofs only [wp_ret, wp_bnd, all_map (fun _ => true), all_tt, wp_some, wpR]
    first | exact ⟨rfl, trivial⟩ | exact ⟨rfl, rfl⟩ | exact ⟨trivial, trivial⟩ | trivial
theorem fits_kind_ok {c : Nat} (hc : c ∈ kindsL) (cu : Cu) : d_fits_kind [.val (chr1 c)] cu = .ok (.bool true) cu := by
  apply ok_of
  unfold d_fits_kind
  rw [wp_run]
  unfold b_fits_kind
  simp only [List.cons_append, List.nil_append, List.length_cons, List.length_nil, Nat.reduceAdd, Nat.reduceSub, List.replicate]
  have i1 : biD (.isa .str) [chr1 c] = some (.bool true) := rfl
  have i2 : biD .len [chr1 c] = some (.int 1) := rfl
  have i3 : cmpD .Eq (.int 1) (.int 1) = some (.bool true) := rfl
  have i4 : cmpD .In (chr1 c) (.str "abcdefgh") = some (.bool true) := by
    show some (PyData.bool (decide (c ∈ ("abcdefgh" : Str).cps.toList))) = _
    rw [show ("abcdefgh" : Str).cps.toList = kindsL from rfl, decide_eq_true hc]
  simp -implicitDefEqProofs only [s_cons, s_ret, wp_bnd, e_and, e_and2, e_and1, e_bi, l_cons, l_nil, e_cmp, e_cst, e_glb, e_var, g0, wp_ret, i1, i2, i3, i4, wp_some, wp_tru, wp_if, eq_self, if_true, wpR]
  first | exact ⟨rfl, trivial⟩ | exact ⟨rfl, rfl⟩ | exact ⟨trivial, trivial⟩ | trivial
theorem fits_table_ok {T : List (Nat × Nat)} (h : Tab T) (cu : Cu) : d_fits_table [.val (TT T)] cu = .ok (.bool true) cu := by
  have hk : ∀ p ∈ T, p.1 ∈ kindsL ∧ p.2 ∈ kindsL := fun p hp => P9_kinds p (h.subset hp)
  have i1 : biD (.isa .tuple) [TT T] = some (.bool true) := rfl
  apply ok_of
  unfold d_fits_table
  rw [wp_run]
  unfold b_fits_table
  simp only [List.cons_append, List.nil_append, List.length_cons, List.length_nil, Nat.reduceAdd, Nat.reduceSub, List.replicate]
  refine wp_seq ?_
  unfold qfits_table_0
  simp -implicitDefEqProofs only [s_ite, s_nil, wp_bnd, e_or, e_or2, e_or1, e_not, e_bi, l_cons, l_nil, e_var, g0, wp_ret, i1, wp_some, wp_tru, Bool.not_true, Bool.false_eq_true, if_false, e_lc, itv, itsTT]
  refine lc_on (h := fun _ => some (.bool true)) (fun p hp => ok_of ?_) ?_
  · have j1 : biD (.isa .str) [.str (tx p)] = some (.bool true) := rfl
    have j2 : biD .len [.str (tx p)] = some (.int 2) := rfl
    have j3 : cmpD .Eq (.int 2) (.int 2) = some (.bool true) := rfl
    simp -implicitDefEqProofs only [wp_bnd, bind1, wip1, wp_some, t_nil, wp_ret, wp_if, eq_self, if_true, List.set, e_and, e_and2, e_and1, e_bi, l_cons, l_nil, e_cmp, e_cst, e_var, g1, j1, j2, j3, wp_tru]
    first | exact ⟨rfl, trivial⟩ | exact ⟨rfl, rfl⟩ | exact ⟨trivial, trivial⟩ | trivial
  · rw [fm_all]
    simp -implicitDefEqProofs only [wp_ret, wp_bnd, all_map (fun _ => true), all_tt, wp_some, wp_tru, Bool.not_true, wp_if, Bool.false_eq_true, if_false]
    refine seq_nx ?_
    unfold qfits_table_1
    simp -implicitDefEqProofs only [s_cons, s_ret, wp_bnd, e_and, e_and2, e_and1, e_bi, l_cons, l_nil, e_lc, itv, Bool.false_eq_true, if_false, e_var, g0, wp_ret, itsTT]
    refine lc_on (h := fun _ => some (.bool true)) (fun p hp => ok_of ?_) ?_
    · simp -implicitDefEqProofs only [wp_bnd, bind1, wip1, wp_some, t_nil, wp_ret, wp_if, eq_self, if_true, List.set, e_and, e_and2, e_and1, e_call, a_sub, a_nil, e_sub, e_cst, e_var, g1, tx_0, tx_1, List.getD_cons_zero, List.getD_cons_succ, wp_of (fits_kind_ok (hk p hp).1 _), wp_of (fits_kind_ok (hk p hp).2 _), wp_tru]
      first | exact ⟨rfl, trivial⟩ | exact ⟨rfl, rfl⟩ | exact ⟨trivial, trivial⟩ | trivial
    · rw [fm_all]
      simp -implicitDefEqProofs only [wp_ret, wp_bnd, all_map (fun _ => true), all_tt, wp_some, wp_tru, wp_if, eq_self, if_true, e_call, a_var, a_nil, g0, List.getD_cons_zero, wp_of (is_rising_ok h _), wpR]
      first | exact ⟨rfl, trivial⟩ | exact ⟨rfl, rfl⟩ | exact ⟨trivial, trivial⟩ | trivial
theorem need_table_ok {T : List (Nat × Nat)} (h : Tab T) (cu : Cu) : d_need_table [.val (TT T)] cu = .ok .none cu := by
  apply ok_of
  unfold d_need_table
  rw [wp_run]
  unfold b_need_table qneed_table_0
  simp only [List.cons_append, List.nil_append, List.length_cons, List.length_nil, Nat.reduceAdd, Nat.reduceSub, List.replicate]
  simp -implicitDefEqProofs only [s_cons, s_ite, s_nil, wp_bnd, e_not, e_call, a_var, a_nil, g0, wp_ret, List.getD_cons_zero, wp_of (fits_table_ok h _), wp_tru, Bool.not_true, wp_if, Bool.false_eq_true, if_false, wpR]
  first | exact ⟨rfl, trivial⟩ | exact ⟨rfl, rfl⟩ | exact ⟨trivial, trivial⟩ | trivial
def mtes (T : List (Nat × Nat)) (k : Nat) : List Nat := (T.filter fun p => decide (p.1 = k)).map (·.2)
theorem mtes_mem {T : List (Nat × Nat)} {k c : Nat} : c ∈ mtes T k ↔ (k, c) ∈ T := by
  unfold mtes
  rw [List.mem_map]
  constructor
  · rintro ⟨p, hp, rfl⟩
    obtain ⟨h1, h2⟩ := List.mem_filter.mp hp
    rw [← of_decide_eq_true h2]; exact h1
  · intro h
    exact ⟨(k, c), List.mem_filter.mpr ⟨h, decide_eq_true rfl⟩, rfl⟩
theorem mates_in_ok (T : List (Nat × Nat)) (k : Nat) (cu : Cu) : d_mates_in [.val (TT T), .val (chr1 k)] cu = .ok (.list ((mtes T k).map chr1)) cu := by
  apply ok_of
  unfold d_mates_in
  rw [wp_run]
  unfold b_mates_in qmates_in_0
  simp only [List.cons_append, List.nil_append, List.length_cons, List.length_nil, Nat.reduceAdd, Nat.reduceSub, List.replicate]
  simp -implicitDefEqProofs only [s_cons, s_ret, wp_bnd, e_lc, itv, Bool.false_eq_true, if_false, e_var, g0, wp_ret, itsTT]
  refine lc_on (h := fun p => if decide (p.1 = k) = true then some (chr1 p.2) else none) (fun p hp => ok_of ?_) ?_
  · simp -implicitDefEqProofs only [wp_bnd, bind1, wip1, wp_some, t_nil, t_cons, wp_ret, wp_if, List.set, e_cmp, e_sub, e_cst, e_var, g1, g2, tx_0, tx_1, chr_eqC, wp_tru]
    cases decide (p.1 = k) <;> first | exact ⟨rfl, trivial⟩ | exact ⟨rfl, rfl⟩ | exact ⟨trivial, trivial⟩ | trivial
  · rw [fm_if]
    unfold mtes
    rw [List.map_map]
    exact ⟨rfl, rfl⟩
/-! givers -/
def gvB (rows : List Str) (T : List (Nat × Nat)) (n : Nat) (x y : Nat × Nat) : Bool := decide ((sg rows x.1 x.2, sg rows y.1 y.2) ∈ T) && decide (dist y x ≤ n)
def gvL (rows : List Str) (w : Nat) (T : List (Nat × Nat)) (n : Nat) (x : Nat × Nat) : List (Nat × Nat) := (trs rows w).filter fun y => gvB rows T n x y
def loL (rows : List Str) (w : Nat) (T : List (Nat × Nat)) (n : Nat) : List (Nat × Nat) := (trs rows w).filter fun x => (gvL rows w T n x).isEmpty
theorem dist_self (x : Nat × Nat) : dist x x = 0 := by unfold dist; omega
theorem leNI (a b : Nat) : cmpD .LtE (.int (a : Nat)) (NI b) = some (.bool (decide (a ≤ b))) := by
  show some (PyData.bool (!decide (((b : Nat) : Int) < (a : Nat)))) = _
  congr 2
  rw [Bool.eq_iff_iff, Bool.not_eq_true', decide_eq_false_iff_not, decide_eq_true_eq]
  omega
theorem eq_PN (x y : Nat × Nat) : cmpD .Eq (PN x) (PN y) = some (.bool (decide (x = y))) := by
  unfold PN
  rw [eq_PL]
  congr 2
  rw [Bool.eq_iff_iff, Bool.and_eq_true, decide_eq_true_eq, decide_eq_true_eq, decide_eq_true_eq]
  constructor
  · rintro ⟨a, b⟩
    exact Prod.ext (by omega) (by omega)
  · rintro rfl; exact ⟨rfl, rfl⟩
section
variable {w : Nat} {rows : List Str} (h : PF w rows)
include h
theorem tr_in {x : Nat × Nat} (hx : x ∈ trs rows w) : In w rows x := pl_mem.mp (List.mem_filter.mp hx).1
theorem sg_at {x : Nat × Nat} (hx : In w rows x) : ∃ z, subD (TR rows) (.int (x.1 : Nat)) = some z ∧ subD z (.int (x.2 : Nat)) = some (chr1 (sg rows x.1 x.2)) := by
  obtain ⟨e1, e2, _⟩ := h.at (r := x.1) (c := x.2) hx
  exact ⟨_, e1, e2⟩

theorem givers_in_ok (T : List (Nat × Nat)) (n : Nat) {x : Nat × Nat} (hx : In w rows x) (cu : Cu) : d_givers_in [.val (TR rows), .val (TT T), .val (NI n), .val (PN x)] cu = .ok (.list ((gvL rows w T n x).map PN)) cu := by
  obtain ⟨z, z1, z2⟩ := sg_at h hx
  apply ok_of
  unfold d_givers_in
  rw [wp_run]
  unfold b_givers_in
  simp only [List.cons_append, List.nil_append, List.length_cons, List.length_nil, Nat.reduceAdd, Nat.reduceSub, List.replicate]
  refine wp_seq ?_
  unfold qgivers_in_0
  simp -implicitDefEqProofs only [s_asg, wp_bnd, e_call, a_var, a_sub, a_nil, e_sub, e_cst, e_var, g0, g1, g3, wp_ret, sub0_PN, sub1_PN, z1, z2, wp_some, List.getD_cons_zero, wp_of (mates_in_ok T _ _)]
  rw [put_old (L := [1]) rfl rfl]
  simp only [frz_cons, frz_nil, g1, frz1_val, List.set]
  refine seq_nx (wp_seq ?_)
  unfold qgivers_in_1
  simp -implicitDefEqProofs only [s_asg, wp_bnd, e_lc, show ∀ f a, isIt (.call f a) = false from fun _ _ => rfl, Bool.false_eq_true, if_false, e_call, a_var, a_nil, g0, wp_ret, List.getD_cons_succ, List.getD_cons_zero, wp_of (trees_in_ok h _), its_list]
  refine lc_on (h := fun y => if decide (sg rows y.1 y.2 ∈ mtes T (sg rows x.1 x.2)) = true then some (PN y) else none) (fun y hy => ok_of ?_) ?_
  · obtain ⟨v, v1, v2⟩ := sg_at h (tr_in h hy)
    simp -implicitDefEqProofs only [wp_bnd, bind1, wip1, wp_some, t_nil, t_cons, wp_ret, wp_if, List.set, e_cmp, e_sub, e_cst, e_var, g0, g4, g6, sub0_PN, sub1_PN, v1, v2, in_chrs, wp_tru]
    cases decide (sg rows y.1 y.2 ∈ mtes T (sg rows x.1 x.2)) <;> first | exact ⟨rfl, trivial⟩ | exact ⟨rfl, rfl⟩ | exact ⟨trivial, trivial⟩ | trivial
  · rw [fm_if]
    try simp -implicitDefEqProofs only [wp_ret]
    rw [put_new (L := [0, 6]) rfl rfl]
    simp only [frz_cons, frz_nil, g0, g6, frz1_val, frz1_no, List.set]
    refine seq_nx ?_
    unfold qgivers_in_2
    simp -implicitDefEqProofs only [s_cons, s_ret, wp_bnd, e_lc, itv, Bool.false_eq_true, if_false, e_var, g5, wp_ret, its_list]
    refine lc_on (h := fun y => if decide (dist y x ≤ n) = true then some (PN y) else none) (fun y hy => ok_of ?_) ?_
    · simp -implicitDefEqProofs only [wp_bnd, bind1, wip1, wp_some, t_nil, t_cons, wp_ret, wp_if, List.set, e_or, e_or2, e_or1, e_cmp, e_call, a_var, a_nil, e_var, g2, g3, g6, eq_PN, wp_tru]
      by_cases q : y = x
      · subst q
        rw [decide_eq_true rfl, dist_self, decide_eq_true (Nat.zero_le n)]
        simp -implicitDefEqProofs only [eq_self, if_true, wp_ret, wp_tru, wp_bnd]
        first | exact ⟨rfl, trivial⟩ | exact ⟨rfl, rfl⟩ | exact ⟨trivial, trivial⟩ | trivial
      · rw [decide_eq_false q]
        simp -implicitDefEqProofs only [Bool.false_eq_true, if_false, wp_bnd, wp_ret, List.getD_cons_succ, List.getD_cons_zero, wp_of (far_ok _ _ _), leNI, wp_some, wp_tru, e_cmp, e_call, a_var, a_nil, e_var, g2, g3, g6]
        cases decide (dist y x ≤ n) <;> first | exact ⟨rfl, trivial⟩ | exact ⟨rfl, rfl⟩ | exact ⟨trivial, trivial⟩ | trivial
    · rw [fm_if]
      have e : ((trs rows w).filter fun y => decide (sg rows y.1 y.2 ∈ mtes T (sg rows x.1 x.2))).filter (fun y => decide (dist y x ≤ n)) = gvL rows w T n x := by
        unfold gvL
        rw [List.filter_filter]
        refine List.filter_congr fun y _ => ?_
        unfold gvB
        rw [Bool.and_comm, decide_eq_decide.mpr mtes_mem]
      rw [e]
      exact ⟨rfl, rfl⟩
theorem plainP (l : List (Nat × Nat)) : PyData.plainAll (l.map PN) = true := plainPN l
theorem does_set_ok (T : List (Nat × Nat)) (n : Nat) {x : Nat × Nat} (hx : In w rows x) (cu : Cu) : d_does_set [.val (TR rows), .val (TT T), .val (NI n), .val (PN x)] cu = .ok (.bool (!(gvL rows w T n x).isEmpty)) cu := by
  apply ok_of
  unfold d_does_set
  rw [wp_run]
  unfold b_does_set qdoes_set_0
  simp only [List.cons_append, List.nil_append, List.length_cons, List.length_nil, Nat.reduceAdd, Nat.reduceSub, List.replicate]
  simp -implicitDefEqProofs only [s_cons, s_ret, wp_bnd, e_cmp, e_call, a_var, a_nil, e_lst, l_nil, g0, g1, g2, g3, wp_ret, List.getD_cons_zero, wp_of (givers_in_ok h T n hx _), ne_nil (plainPN _), wp_some, List.isEmpty_map, wpR]
  first | exact ⟨rfl, trivial⟩ | exact ⟨rfl, rfl⟩ | exact ⟨trivial, trivial⟩ | trivial
theorem lonely_in_ok (T : List (Nat × Nat)) (n : Nat) (cu : Cu) : d_lonely_in [.val (TR rows), .val (TT T), .val (NI n)] cu = .ok (.list ((loL rows w T n).map PN)) cu := by
  apply ok_of
  unfold d_lonely_in
  rw [wp_run]
  unfold b_lonely_in qlonely_in_0
  simp only [List.cons_append, List.nil_append, List.length_cons, List.length_nil, Nat.reduceAdd, Nat.reduceSub, List.replicate]
  simp -implicitDefEqProofs only [s_cons, s_ret, wp_bnd, e_lc, show ∀ f a, isIt (.call f a) = false from fun _ _ => rfl, Bool.false_eq_true, if_false, e_call, a_var, a_nil, g0, wp_ret, List.getD_cons_zero, wp_of (trees_in_ok h _), its_list]
  refine lc_on (h := fun x => if (gvL rows w T n x).isEmpty = true then some (PN x) else none) (fun x hx => ok_of ?_) ?_
  · simp -implicitDefEqProofs only [wp_bnd, bind1, wip1, wp_some, t_nil, t_cons, wp_ret, wp_if, List.set, e_not, e_call, a_var, a_nil, e_var, g0, g1, g2, g3, List.getD_cons_succ, List.getD_cons_zero, wp_of (does_set_ok h T n (tr_in h hx) _), wp_tru, Bool.not_not]
    cases (gvL rows w T n x).isEmpty <;> first | exact ⟨rfl, trivial⟩ | exact ⟨rfl, rfl⟩ | exact ⟨trivial, trivial⟩ | trivial
  · rw [fm_if]
    exact ⟨rfl, rfl⟩
/-! the law's givers -/
omit h in
theorem pair_add (a b : Nat) : binD .Add (chr1 a) (chr1 b) = some (.str (tx (a, b))) := by
  show binD .Add (.str ⟨#[a]⟩) (.str ⟨#[b]⟩) = _
  rw [b_addS (a := (⟨#[a]⟩ : Str)) (b := (⟨#[b]⟩ : Str)) (by show (1 : Nat) + 1 ≤ 1000000; decide)]; rfl

theorem law_gives_ok (T : List (Nat × Nat)) (n : Nat) {x y : Nat × Nat} (hx : In w rows x) (hy : In w rows y) (cu : Cu) : d__law_gives [.val (TR rows), .val (TT T), .val (NI n), .val (PN y), .val (PN x)] cu = .ok (.bool (gvB rows T n x y)) cu := by
  obtain ⟨z, z1, z2⟩ := sg_at h hx
  obtain ⟨v, v1, v2⟩ := sg_at h hy
  apply ok_of
  unfold d__law_gives
  rw [wp_run]
  unfold b__law_gives
  simp only [List.cons_append, List.nil_append, List.length_cons, List.length_nil, Nat.reduceAdd, Nat.reduceSub, List.replicate]
  refine wp_seq ?_
  unfold q_law_gives_0
  simp -implicitDefEqProofs only [s_asg, wp_bnd, e_bin, e_sub, e_cst, e_var, g0, g3, g4, wp_ret, sub0_PN, sub1_PN, z1, z2, v1, v2, wp_some, pair_add]
  rw [put_imm rfl]
  refine seq_nx ?_
  unfold q_law_gives_1
  simp -implicitDefEqProofs only [s_cons, s_ret, wp_bnd, e_and, e_and2, e_and1, e_cmp, e_var, List.set, g1, g5, wp_ret, in_TT, wp_some, wp_tru]
  unfold gvB
  cases decide ((sg rows x.1 x.2, sg rows y.1 y.2) ∈ T) with
  | false =>
    simp -implicitDefEqProofs only [Bool.false_eq_true, if_false, wp_ret, Bool.false_and, wpR]
    first | exact ⟨rfl, trivial⟩ | exact ⟨rfl, rfl⟩ | exact ⟨trivial, trivial⟩ | trivial
  | true =>
    simp -implicitDefEqProofs only [eq_self, if_true, wp_bnd, e_cmp, e_call, a_var, a_nil, e_var, g2, g3, g4, wp_ret, List.getD_cons_zero, wp_of (law_far_ok _ _ _), leNI, wp_some, Bool.true_and, wpR]
    first | exact ⟨rfl, trivial⟩ | exact ⟨rfl, rfl⟩ | exact ⟨trivial, trivial⟩ | trivial
theorem law_givers_ok (T : List (Nat × Nat)) (n : Nat) {x : Nat × Nat} (hx : In w rows x) (cu : Cu) : d__law_givers [.val (TR rows), .val (TT T), .val (NI n), .val (PN x)] cu = .ok (.list ((gvL rows w T n x).map PN)) cu := by
  apply ok_of
  unfold d__law_givers
  rw [wp_run]
  unfold b__law_givers q_law_givers_0
  simp only [List.cons_append, List.nil_append, List.length_cons, List.length_nil, Nat.reduceAdd, Nat.reduceSub, List.replicate]
  simp -implicitDefEqProofs only [s_cons, s_ret, wp_bnd, e_lc, show ∀ f a, isIt (.call f a) = false from fun _ _ => rfl, Bool.false_eq_true, if_false, e_call, a_var, a_nil, g0, wp_ret, List.getD_cons_zero, wp_of (law_trees_ok h _), its_list]
  refine lc_on (h := fun y => if gvB rows T n x y = true then some (PN y) else none) (fun y hy => ok_of ?_) ?_
  · simp -implicitDefEqProofs only [wp_bnd, bind1, wip1, wp_some, t_nil, t_cons, wp_ret, wp_if, List.set, e_call, a_var, a_nil, e_var, g0, g1, g2, g3, g4, List.getD_cons_succ, List.getD_cons_zero, wp_of (law_gives_ok h T n hx (tr_in h hy) _), wp_tru]
    cases gvB rows T n x y <;> first | exact ⟨rfl, trivial⟩ | exact ⟨rfl, rfl⟩ | exact ⟨trivial, trivial⟩ | trivial
  · rw [fm_if]
    exact ⟨rfl, rfl⟩
theorem law_lonely_ok (T : List (Nat × Nat)) (n : Nat) (cu : Cu) : d__law_lonely [.val (TR rows), .val (TT T), .val (NI n)] cu = .ok (.list ((loL rows w T n).map PN)) cu := by
  apply ok_of
  unfold d__law_lonely
  rw [wp_run]
  unfold b__law_lonely q_law_lonely_0
  simp only [List.cons_append, List.nil_append, List.length_cons, List.length_nil, Nat.reduceAdd, Nat.reduceSub, List.replicate]
  simp -implicitDefEqProofs only [s_cons, s_ret, wp_bnd, e_lc, show ∀ f a, isIt (.call f a) = false from fun _ _ => rfl, Bool.false_eq_true, if_false, e_call, a_var, a_nil, g0, wp_ret, List.getD_cons_zero, wp_of (law_trees_ok h _), its_list]
  refine lc_on (h := fun x => if (gvL rows w T n x).isEmpty = true then some (PN x) else none) (fun x hx => ok_of ?_) ?_
  · simp -implicitDefEqProofs only [wp_bnd, bind1, wip1, wp_some, t_nil, t_cons, wp_ret, wp_if, List.set, e_cmp, e_lst, l_nil, e_call, a_var, a_nil, e_var, g0, g1, g2, g3, List.getD_cons_succ, List.getD_cons_zero, wp_of (law_givers_ok h T n (tr_in h hx) _), eq_nil (plainPN _), List.isEmpty_map, wp_tru]
    cases (gvL rows w T n x).isEmpty <;> first | exact ⟨rfl, trivial⟩ | exact ⟨rfl, rfl⟩ | exact ⟨trivial, trivial⟩ | trivial
  · rw [fm_if]
    exact ⟨rfl, rfl⟩
end
end OLaw
end

section
namespace OLaw
open PySem OR
theorem max_l (k : Int) (ks : List Int) : biD .max [.list ((k :: ks).map PyData.int)] = some (.int (ks.foldl max k)) := by
  show (if minOk ((k :: ks).map PyData.int) then some (PySem.W.maxD (.int k) (ks.map PyData.int)) else none) = _
  rw [if_pos (ints_min (k :: ks)), PySem.W.maxD_ints]
theorem foldmax_cast : ∀ (l : List Nat) (a : Nat), (l.map fun n : Nat => (n : Int)).foldl max (a : Int) = ((l.foldl max a : Nat) : Int)
  | [], a => rfl
  | x :: l, a => by
    rw [List.map_cons, List.foldl_cons, List.foldl_cons, ← foldmax_cast l, show max (a : Int) (x : Nat) = ((max a x : Nat) : Int) by omega]
theorem ints_NI (l : List Nat) : l.map NI = (l.map fun n : Nat => (n : Int)).map PyData.int := by
  rw [List.map_map]; rfl
theorem frz1_cup : frz1 .cup = .cup := rfl

theorem min_l (k : Int) (ks : List Int) : biD .min [.list ((k :: ks).map PyData.int)] = some (.int (ks.foldl min k)) := by
  show (if minOk ((k :: ks).map PyData.int) then some (PySem.W.minD (.int k) (ks.map PyData.int)) else none) = _
  rw [if_pos (ints_min (k :: ks)), PySem.W.minD_ints]
theorem foldmin_cast : ∀ (l : List Nat) (a : Nat), (l.map fun n : Nat => (n : Int)).foldl min (a : Int) = ((l.foldl min a : Nat) : Int)
  | [], a => rfl
  | x :: l, a => by
    rw [List.map_cons, List.foldl_cons, List.foldl_cons, ← foldmin_cast l, show min (a : Int) (x : Nat) = ((min a x : Nat) : Int) by omega]
theorem min_NI (k : Nat) (ks : List Nat) : biD .min [.list ((k :: ks).map NI)] = some (NI (ks.foldl min k)) := by
  rw [ints_NI, List.map_cons, min_l, foldmin_cast]; rfl
theorem max_NI (k : Nat) (ks : List Nat) : biD .max [.list ((k :: ks).map NI)] = some (NI (ks.foldl max k)) := by
  rw [ints_NI, List.map_cons, max_l, foldmax_cast]; rfl
theorem foldmin_le : ∀ (l : List Nat) (a n : Nat), l.foldl min a ≤ n ↔ a ≤ n ∨ ∃ x ∈ l, x ≤ n
  | [], a, n => by simp
  | x :: l, a, n => by
    rw [List.foldl_cons, foldmin_le l]
    constructor
    · rintro (h | ⟨y, h1, h2⟩)
      · by_cases q : a ≤ n
        · exact .inl q
        · exact .inr ⟨x, List.mem_cons_self, by omega⟩
      · exact .inr ⟨y, List.mem_cons_of_mem _ h1, h2⟩
    · rintro (h | ⟨y, h1, h2⟩)
      · exact .inl (by omega)
      · rcases List.mem_cons.mp h1 with rfl | h1
        · exact .inl (by omega)
        · exact .inr ⟨y, h1, h2⟩
theorem plainNI (l : List Nat) : PyData.plainAll (l.map NI) = true := plainAll_of fun y hy => by
  obtain ⟨p, _, rfl⟩ := List.mem_map.mp hy
  rfl
/-! needs -/
def ndO : List Nat → Option Nat
  | [] => none
  | f :: r => some (r.foldl min f)
def oD : Option Nat → D
  | none => .none
  | some n => NI n
def dueO (os : List (Option Nat)) : Option Nat := if os.any (·.isNone) then none else some ((os.filterMap id).foldl max 0)
theorem immO (o : Option Nat) : imm (oD o) = true := by cases o <;> rfl
theorem in_none (os : List (Option Nat)) : cmpD .In .none (.list (os.map oD)) = some (.bool (os.any (·.isNone))) := by
  have h : inD .none (.list (os.map oD)) = if (PyData.none.plain && PyData.plainAll (os.map oD) && decide (min (PyData.depthAll (os.map oD)) PyData.none.depth ≤ 60)) = true then some ((os.map oD).any fun y => PyData.eqv y .none) else none := rfl
  have pl : PyData.plainAll (os.map oD) = true := plainAll_of fun y hy => by
    obtain ⟨o, _, rfl⟩ := List.mem_map.mp hy
    cases o <;> rfl
  have d0 : PyData.none.depth = 0 := by rw [PyData.depth]
  show (inD .none (.list (os.map oD))).map PyData.bool = _
  rw [h, pl, d0, decide_eq_true (Nat.le_trans (Nat.min_le_right _ _) (by decide)), show (PyData.none.plain && true && true) = true from rfl, if_pos rfl, List.any_map]
  have q : ((fun y => PyData.eqv y .none) ∘ oD) = fun o : Option Nat => o.isNone := by
    funext o
    cases o with
    | none => show PyData.eqv .none .none = true; rw [PyData.eqv]
    | some n =>
      show PyData.eqv (.int (n : Nat)) .none = false
      rw [PyData.eqv] <;> first | rfl | intros; contradiction
  rw [q]; rfl
theorem some_all : ∀ os : List (Option Nat), os.any (·.isNone) = false → os.map oD = (os.filterMap id).map NI
  | [], _ => rfl
  | none :: os, h => by cases h
  | some n :: os, h => by
    have h : (false || os.any (·.isNone)) = false := h
    rw [Bool.false_or] at h
    rw [List.map_cons, some_all os h]; rfl
def dueE (i : Nat) : CE := .ite (.cmp .In (.cst .none) (.var i)) (.cst .none) (.bi .max (.cons (.bin .Add (.lst (.cons (.cst (.int 0)) .nil)) (.var i)) .nil))
theorem dueE_ok (G : List Den) (σ : OR.Env) (i : Nat) (os : List (Option Nat)) (hl : os.length ≤ 1000) (hg : getS σ i = .own (.list (os.map oD))) (cu : Cu) {P : D → Cu → Prop} {E : Nat → Cu → Prop} (hP : P (oD (dueO os)) cu) : wpX (evE G (dueE i) σ cu) P E := by
  unfold dueE
  simp -implicitDefEqProofs only [e_ite, wp_bnd, e_cmp, e_cst, e_var, hg, wp_ret, in_none, wp_some, wp_tru]
  unfold dueO at hP
  cases q : os.any (·.isNone) with
  | true =>
    rw [q] at hP
    simp -implicitDefEqProofs only [eq_self, if_true, wp_ret]
    exact hP
  | false =>
    rw [q] at hP
    have fl : (os.filterMap id).length ≤ os.length := List.length_filterMap_le _ _
    have ad : binD .Add (.list [.int 0]) (.list (os.map oD)) = some (.list ((0 :: os.filterMap id).map NI)) := by
      rw [some_all os q, b_addL (by rw [List.length_map]; show 1 + _ ≤ _; omega)]; rfl
    simp -implicitDefEqProofs only [Bool.false_eq_true, if_false, wp_bnd, e_bi, l_cons, l_nil, e_bin, e_lst, e_cst, e_var, hg, wp_ret, ad, max_NI, wp_some]
    exact hP
def fsL (rows : List Str) (w : Nat) (T : List (Nat × Nat)) (x : Nat × Nat) : List Nat := (gvL rows w T 24 x).map fun y => dist y x
def neO (rows : List Str) (w : Nat) (T : List (Nat × Nat)) (x : Nat × Nat) : Option Nat := ndO (fsL rows w T x)
def ctD (rows : List Str) (w : Nat) (T : List (Nat × Nat)) : D := .tuple ((List.range 23).map fun n : Nat => PyData.int (((trs rows w).length : Nat) - ((loL rows w T n).length : Nat)))
theorem dot_eq (x : Nat) : cmpD .Eq (chr1 x) (.str ".") = some (.bool (decide (x = 46))) := chr_eqC x 46
section
variable {w : Nat} {rows : List Str} (h : PF w rows)
include h
theorem trs_le : (trs rows w).length ≤ 144 := by
  refine Nat.le_trans (List.length_filter_le _ _) ?_
  rw [pl_len]
  exact pl_le h
omit h in
theorem lo_iff (T : List (Nat × Nat)) {n : Nat} (hn : n ≤ 24) (x : Nat × Nat) : (gvL rows w T n x).isEmpty = !(fsL rows w T x).any fun f => decide (f ≤ n) := by
  rw [Bool.eq_iff_iff, List.isEmpty_iff, Bool.not_eq_true', List.any_eq_false]
  unfold fsL gvL
  rw [List.filter_eq_nil_iff]
  constructor
  · intro q f hf z
    obtain ⟨y, hy, rfl⟩ := List.mem_map.mp hf
    obtain ⟨h1, h2⟩ := List.mem_filter.mp hy
    obtain ⟨h2, _⟩ := and_t h2
    refine q y h1 ?_
    unfold gvB
    rw [h2, z]; rfl
  · intro q y hy z
    obtain ⟨h1, h2⟩ := and_t z
    have h2 := of_decide_eq_true h2
    refine q (dist y x) (List.mem_map.mpr ⟨y, List.mem_filter.mpr ⟨hy, ?_⟩, rfl⟩) (decide_eq_true h2)
    unfold gvB
    rw [h1, decide_eq_true (by omega)]; rfl
omit h in
theorem fs_24 (T : List (Nat × Nat)) (x : Nat × Nat) : ∀ f ∈ fsL rows w T x, f ≤ 24 := fun f hf => by
  obtain ⟨y, hy, rfl⟩ := List.mem_map.mp hf
  obtain ⟨_, h2⟩ := List.mem_filter.mp hy
  exact of_decide_eq_true (and_t h2).2
omit h in
theorem some_need (T : List (Nat × Nat)) (x : Nat × Nat) : (match (List.range 25).filter fun n => (fsL rows w T x).any fun f => decide (f ≤ n) with | [] => (none : Option Nat) | m :: _ => some m) = neO rows w T x := by
  unfold neO
  have le := fs_24 (rows := rows) (w := w) T x
  cases q : fsL rows w T x with
  | nil =>
    rw [show ((List.range 25).filter fun n => ([] : List Nat).any fun f => decide (f ≤ n)) = [] from List.filter_eq_nil_iff.mpr fun _ _ z => by cases z]
    rfl
  | cons f r =>
    rw [q] at le
    have key : ∀ n : Nat, ((f :: r).any fun f => decide (f ≤ n)) = decide (r.foldl min f ≤ n) := fun n => by
      rw [Bool.eq_iff_iff, List.any_eq_true, decide_eq_true_eq, foldmin_le]
      constructor
      · rintro ⟨y, h1, h2⟩
        have h2 := of_decide_eq_true h2
        rcases List.mem_cons.mp h1 with rfl | h1
        · exact .inl h2
        · exact .inr ⟨y, h1, h2⟩
      · rintro (h | ⟨y, h1, h2⟩)
        · exact ⟨f, List.mem_cons_self, decide_eq_true h⟩
        · exact ⟨y, List.mem_cons_of_mem _ h1, decide_eq_true h2⟩
    have lt : r.foldl min f < 25 := by
      have := (foldmin_le r f f).mpr (.inl (Nat.le_refl _))
      have := le f List.mem_cons_self
      omega
    obtain ⟨t, ht⟩ := first_of (fun n => (f :: r).any fun f => decide (f ≤ n)) (k := r.foldl min f) (by rw [key]; exact decide_eq_true (Nat.le_refl _)) (fun i hi => by rw [key]; exact decide_eq_false (by omega)) 25 lt
    rw [ht]; rfl
theorem need_tree_ok {x : Nat × Nat} (hx : x ∈ trs rows w) (cu : Cu) : d_need_tree [.val (TR rows), .val (PN x)] cu = .ok .none cu := by
  have hi := tr_in h hx
  obtain ⟨z, z1, z2⟩ := sg_at h hi
  have ht := (List.mem_filter.mp hx).2
  have ne : decide (sg rows x.1 x.2 = 46) = false := by
    unfold treeB at ht
    rw [← Bool.not_eq_true'] ; exact ht
  apply ok_of
  unfold d_need_tree
  rw [wp_run]
  unfold b_need_tree qneed_tree_0 qneed_tree_1
  simp only [List.cons_append, List.nil_append, List.length_cons, List.length_nil, Nat.reduceAdd, Nat.reduceSub, List.replicate]
  simp -implicitDefEqProofs only [s_cons, s_ex, s_ite, s_nil, wp_bnd, e_call, a_var, a_nil, e_cmp, e_sub, e_cst, e_glb, e_var, g0, g1, wp_ret, List.getD_cons_zero, wp_of (place_ok h hi _), sub0_PN, sub1_PN, z1, z2, wp_some, dot_eq, ne, wp_tru, wp_if, Bool.false_eq_true, if_false, wpR]
  first | exact ⟨rfl, trivial⟩ | exact ⟨rfl, rfl⟩ | exact ⟨trivial, trivial⟩ | trivial
variable {T : List (Nat × Nat)} (hT : Tab T)
include hT
theorem reach_for_ok {x : Nat × Nat} (hx : x ∈ trs rows w) (cu : Cu) : d_reach_for [.val (TR rows), .val (TT T), .val (PN x)] cu = .ok (oD (neO rows w T x)) cu := by
  have gk : d_givers_in [.val (TR rows), .val (TT T), .val (.int 24), .val (PN x)] cu = .ok (.list ((gvL rows w T 24 x).map PN)) cu := givers_in_ok h T 24 (tr_in h hx) cu
  have m24 : binD .Mult (.int 2) (.int 12) = some (.int 24) := rfl
  apply ok_of
  unfold d_reach_for
  rw [wp_run]
  unfold b_reach_for qreach_for_0 qreach_for_1 qreach_for_2
  simp only [List.cons_append, List.nil_append, List.length_cons, List.length_nil, Nat.reduceAdd, Nat.reduceSub, List.replicate]
  simp -implicitDefEqProofs only [s_cons, s_ex, wp_bnd, e_call, a_var, a_nil, g0, g1, g2, wp_ret, List.getD_cons_zero, List.getD_cons_succ, wp_of (need_pl h _), wp_of (need_table_ok hT _), wp_of (need_tree_ok h hx _)]
  unfold qreach_for_3
  simp -implicitDefEqProofs only [s_asg, wp_bnd, e_lc, show ∀ f a, isIt (.call f a) = false from fun _ _ => rfl, Bool.false_eq_true, if_false, e_call, a_var, a_bin, a_nil, e_bin, e_cst, e_glb, g0, g1, g2, wp_ret, m24, wp_some, List.getD_cons_zero, List.getD_cons_succ, wp_of gk, its_list]
  refine lc_on (h := fun y => some (NI (dist y x))) (fun y hy => ok_of ?_) ?_
  · simp -implicitDefEqProofs only [wp_bnd, bind1, wip1, wp_some, t_nil, wp_ret, wp_if, eq_self, if_true, List.set, e_call, a_var, a_nil, g2, g4, List.getD_cons_zero, List.getD_cons_succ, wp_of (far_ok _ _ _)]
    first | exact ⟨rfl, trivial⟩ | exact ⟨rfl, rfl⟩ | exact ⟨trivial, trivial⟩ | trivial
  · rw [fm_all, show ((gvL rows w T 24 x).map fun y => NI (dist y x)) = (fsL rows w T x).map NI by unfold fsL; rw [List.map_map]; rfl]
    try simp -implicitDefEqProofs only [wp_ret]
    rw [put_new (L := [0, 1, 2, 4, 2]) rfl rfl]
    simp only [frz_cons, frz_nil, g0, g1, g2, g4, frz1_val, frz1_no, List.set]
    unfold qreach_for_4
    simp -implicitDefEqProofs only [s_ret, wp_bnd, e_ite, e_cmp, e_lst, l_nil, e_var, g3, wp_ret, ne_nil (plainNI _), List.isEmpty_map, wp_some, wp_tru]
    unfold neO
    cases fsL rows w T x with
    | nil =>
      simp -implicitDefEqProofs only [List.isEmpty_nil, Bool.not_true, Bool.false_eq_true, if_false, e_cst, wp_ret, wpR]
      first | exact ⟨rfl, trivial⟩ | exact ⟨rfl, rfl⟩ | exact ⟨trivial, trivial⟩ | trivial
    | cons f r =>
      simp -implicitDefEqProofs only [List.isEmpty_cons, Bool.not_false, eq_self, if_true, wp_bnd, e_bi, l_cons, l_nil, e_var, g3, wp_ret, min_NI, wp_some, wpR]
      first | exact ⟨rfl, trivial⟩ | exact ⟨rfl, rfl⟩ | exact ⟨trivial, trivial⟩ | trivial
theorem reach_for_all_ok (cu : Cu) : d_reach_for_all [.val (TR rows), .val (TT T)] cu = .ok (oD (dueO ((trs rows w).map (neO rows w T)))) cu := by
  have hl := trs_le h
  apply ok_of
  unfold d_reach_for_all
  rw [wp_run]
  unfold b_reach_for_all qreach_for_all_0 qreach_for_all_1
  simp only [List.cons_append, List.nil_append, List.length_cons, List.length_nil, Nat.reduceAdd, Nat.reduceSub, List.replicate]
  simp -implicitDefEqProofs only [s_cons, s_ex, wp_bnd, e_call, a_var, a_nil, g0, g1, wp_ret, List.getD_cons_zero, List.getD_cons_succ, wp_of (need_pl h _), wp_of (need_table_ok hT _)]
  unfold qreach_for_all_2
  simp -implicitDefEqProofs only [s_asg, wp_bnd, e_lc, show ∀ f a, isIt (.call f a) = false from fun _ _ => rfl, Bool.false_eq_true, if_false, e_call, a_var, a_nil, g0, wp_ret, List.getD_cons_zero, List.getD_cons_succ, wp_of (trees_in_ok h _), its_list]
  refine lc_on (h := fun x => some (oD (neO rows w T x))) (fun x hx => ok_of ?_) ?_
  · simp -implicitDefEqProofs only [wp_bnd, bind1, wip1, wp_some, t_nil, wp_ret, wp_if, eq_self, if_true, List.set, e_call, a_var, a_nil, g0, g1, g3, List.getD_cons_zero, List.getD_cons_succ, wp_of (reach_for_ok h hT hx _)]
    first | exact ⟨rfl, trivial⟩ | exact ⟨rfl, rfl⟩ | exact ⟨trivial, trivial⟩ | trivial
  · rw [fm_all, show ((trs rows w).map fun x => oD (neO rows w T x)) = ((trs rows w).map (neO rows w T)).map oD by rw [List.map_map]; rfl]
    try simp -implicitDefEqProofs only [wp_ret]
    rw [put_new (L := [0, 0, 1, 3]) rfl rfl]
    simp only [frz_cons, frz_nil, g0, g1, g3, frz1_val, frz1_no, List.set]
    unfold qreach_for_all_3
    rw [s_ret, wp_bnd]
    refine dueE_ok _ _ 2 ((trs rows w).map (neO rows w T)) (by rw [List.length_map]; omega) rfl _ ?_
    simp -implicitDefEqProofs only [wp_ret, wpR]
    first | exact ⟨rfl, trivial⟩ | exact ⟨rfl, rfl⟩ | exact ⟨trivial, trivial⟩ | trivial
theorem set_counts_ok (cu : Cu) : d_set_counts [.val (TR rows), .val (TT T)] cu = .ok (ctD rows w T) cu := by
  have ln : ∀ l : List (Nat × Nat), biD .len [.list (l.map PN)] = some (.int ((l.length : Nat) : Int)) := fun l => by
    show some (PyData.int _) = _
    rw [List.length_map]
  have m24 : binD .Mult (.int 2) (.int 12) = some (.int 24) := rfl
  have s23 : binD .Sub (.int 24) (.int 1) = some (.int 23) := rfl
  apply ok_of
  unfold d_set_counts
  rw [wp_run]
  unfold b_set_counts qset_counts_0 qset_counts_1 qset_counts_2
  simp only [List.cons_append, List.nil_append, List.length_cons, List.length_nil, Nat.reduceAdd, Nat.reduceSub, List.replicate]
  simp -implicitDefEqProofs only [s_cons, s_ex, s_asg, wp_bnd, e_call, a_var, a_nil, e_bi, l_cons, l_nil, g0, g1, wp_ret, List.getD_cons_zero, List.getD_cons_succ, wp_of (need_pl h _), wp_of (need_table_ok hT _), wp_of (trees_in_ok h _), ln, wp_some]
  rw [put_imm rfl]
  simp only [List.set]
  unfold qset_counts_3
  simp -implicitDefEqProofs only [s_ret, wp_bnd, e_bi, l_cons, l_nil, e_lc, itr, eq_self, if_true]
  refine wp_rng1 ?_
  simp -implicitDefEqProofs only [e_bin, wp_bnd, e_cst, e_glb, wp_ret, m24, s23, wp_some]
  refine ⟨23, rfl, by omega, ?_⟩
  rw [rngNI]
  refine lc_on (h := fun n : Nat => some (.int (((trs rows w).length : Nat) - ((loL rows w T n).length : Nat)))) (fun n hn => ok_of ?_) ?_
  · simp -implicitDefEqProofs only [wp_bnd, bind1, wip1, wp_some, t_nil, wp_ret, wp_if, eq_self, if_true, List.set, e_bin, e_bi, l_cons, l_nil, e_call, a_var, a_nil, e_var, g0, g1, g2, g3, List.getD_cons_zero, List.getD_cons_succ, wp_of (lonely_in_ok h T n _), ln, b_sub]
    first | exact ⟨rfl, trivial⟩ | exact ⟨rfl, rfl⟩ | exact ⟨trivial, trivial⟩ | trivial
  · rw [fm_all]
    simp -implicitDefEqProofs only [wp_ret, wp_bnd, tup_l, wp_some, wpR]
    first | exact ⟨rfl, trivial⟩ | exact ⟨rfl, rfl⟩ | exact ⟨trivial, trivial⟩ | trivial
theorem hermits_ok (cu : Cu) : d_hermits [.val (TR rows), .val (TT T)] cu = .ok (.tuple ((loL rows w T 24).map PN)) cu := by
  have lk : d_lonely_in [.val (TR rows), .val (TT T), .val (.int 24)] cu = .ok (.list ((loL rows w T 24).map PN)) cu := lonely_in_ok h T 24 cu
  have m24 : binD .Mult (.int 2) (.int 12) = some (.int 24) := rfl
  apply ok_of
  unfold d_hermits
  rw [wp_run]
  unfold b_hermits qhermits_0 qhermits_1 qhermits_2
  simp only [List.cons_append, List.nil_append, List.length_cons, List.length_nil, Nat.reduceAdd, Nat.reduceSub, List.replicate]
  simp -implicitDefEqProofs only [s_cons, s_ex, s_ret, wp_bnd, e_call, a_var, a_bin, a_nil, e_bi, l_cons, l_nil, e_bin, e_cst, e_glb, g0, g1, wp_ret, m24, wp_some, List.getD_cons_zero, List.getD_cons_succ, wp_of (need_pl h _), wp_of (need_table_ok hT _), wp_of lk, tup_l, wpR]
  first | exact ⟨rfl, trivial⟩ | exact ⟨rfl, rfl⟩ | exact ⟨trivial, trivial⟩ | trivial
theorem lonely_trees_ok {n : Nat} (hn : n ≤ 24) (cu : Cu) : d_lonely_trees [.val (TR rows), .val (TT T), .val (NI n)] cu = .ok (.tuple ((loL rows w T n).map PN)) cu := by
  have m24 : binD .Mult (.int 2) (.int 12) = some (.int 24) := rfl
  have fw : d_fits_whole [.val (NI n), .val (.int 0), .val (.int 24)] cu = .ok (.bool true) cu := by
    rw [fits_whole_ok]
    show _ = R.ok (PyData.bool true) cu
    congr 2
    show (true && (decide ((0 : Int) ≤ (n : Nat)) && decide (((n : Nat) : Int) ≤ 24))) = true
    rw [decide_eq_true (by omega), decide_eq_true (by omega)]; rfl
  have nr : d_need_reach [.val (NI n)] cu = .ok .none cu := by
    apply ok_of
    unfold d_need_reach
    rw [wp_run]
    unfold b_need_reach qneed_reach_0
    simp only [List.cons_append, List.nil_append, List.length_cons, List.length_nil, Nat.reduceAdd, Nat.reduceSub, List.replicate]
    simp -implicitDefEqProofs only [s_cons, s_ite, s_nil, wp_bnd, e_not, e_call, a_var, a_cst, a_bin, a_nil, e_cst, e_bin, e_glb, g0, wp_ret, m24, wp_some, List.getD_cons_zero, wp_of fw, wp_tru, Bool.not_true, wp_if, Bool.false_eq_true, if_false, wpR]
    first | exact ⟨rfl, trivial⟩ | exact ⟨rfl, rfl⟩ | exact ⟨trivial, trivial⟩ | trivial
  have na : d_need_all [.val (TR rows), .val (TT T), .val (NI n)] cu = .ok .none cu := by
    apply ok_of
    unfold d_need_all
    rw [wp_run]
    unfold b_need_all qneed_all_0 qneed_all_1 qneed_all_2
    simp only [List.cons_append, List.nil_append, List.length_cons, List.length_nil, Nat.reduceAdd, Nat.reduceSub, List.replicate]
    simp -implicitDefEqProofs only [s_cons, s_ex, s_nil, wp_bnd, e_call, a_var, a_nil, g0, g1, g2, wp_ret, List.getD_cons_zero, List.getD_cons_succ, wp_of (need_pl h _), wp_of (need_table_ok hT _), wp_of nr, wpR]
    first | exact ⟨rfl, trivial⟩ | exact ⟨rfl, rfl⟩ | exact ⟨trivial, trivial⟩ | trivial
  apply ok_of
  unfold d_lonely_trees
  rw [wp_run]
  unfold b_lonely_trees qlonely_trees_0 qlonely_trees_1
  simp only [List.cons_append, List.nil_append, List.length_cons, List.length_nil, Nat.reduceAdd, Nat.reduceSub, List.replicate]
  simp -implicitDefEqProofs only [s_cons, s_ex, s_ret, wp_bnd, e_call, a_var, a_nil, e_bi, l_cons, l_nil, g0, g1, g2, wp_ret, List.getD_cons_zero, List.getD_cons_succ, wp_of na, wp_of (lonely_in_ok h T n _), tup_l, wp_some, wpR]
  first | exact ⟨rfl, trivial⟩ | exact ⟨rfl, rfl⟩ | exact ⟨trivial, trivial⟩ | trivial
end
/-! a random table -/
theorem lc_sub {α : Type} {e g : α → D} {f : D → M (Option D)} : ∀ (xs : List α) {P : List D → Cu → Prop}, (∀ x ∈ xs, ∀ a b (Q : Option D → Cu → Prop), (∀ (k : Bool) a b, Q (if k then some (g x) else none) (some (a, b))) → wpX (f (e x) (some (a, b))) Q fun _ _ => False) → ∀ a b, (∀ ys : List α, ys.Sublist xs → ∀ a b, P (ys.map g) (some (a, b))) → wpX (lcM f (xs.map e) (some (a, b))) P fun _ _ => False
  | [], P, _, a, b, hP => by
    show wpX (OR.ret [] (some (a, b))) P _
    rw [wp_ret]
    exact hP [] (List.Sublist.refl _) a b
  | x :: xs, P, h, a, b, hP => by
    show wpX (bnd (f (e x)) (fun o => bnd (lcM f (xs.map e)) fun ys => OR.ret (match o with | some y => y :: ys | none => ys)) (some (a, b))) P _
    rw [wp_bnd]
    refine h x List.mem_cons_self a b _ fun k a b => ?_
    rw [wp_bnd]
    refine lc_sub xs (fun y hy => h y (List.mem_cons_of_mem _ hy)) a b fun ys hs a b => ?_
    rw [wp_ret]
    cases k with
    | true => exact hP (x :: ys) (hs.cons_cons x) a b
    | false => exact hP ys (hs.cons x) a b
theorem fm3_len : ∀ l : List Nat, (l.flatMap fun a => [(a, 97), (a, 98), (a, 99)]).length = 3 * l.length
  | [] => rfl
  | y :: ys => by
    rw [List.flatMap_cons, List.length_append, fm3_len ys]
    show 3 + 3 * ys.length = 3 * (ys.length + 1)
    omega
theorem tab_len {T : List (Nat × Nat)} (h : Tab T) : T.length ≤ 9 := h.length_le
theorem law_table_ok (a b : Int) {P : D → Cu → Prop} (hP : ∀ T, Tab T → ∀ a b, P (TT T) (some (a, b))) : wpX (d__law_table [.cup] (some (a, b))) P fun _ _ => False := by
  unfold d__law_table
  rw [wp_run]
  unfold b__law_table
  simp only [List.cons_append, List.nil_append, List.length_cons, List.length_nil, Nat.reduceAdd, Nat.reduceSub, List.replicate]
  refine wp_seq ?_
  unfold q_law_table_0
  simp -implicitDefEqProofs only [s_asg, wp_bnd, e_lst, l_nil, wp_ret, put_new (show frs (.lst .nil) = true from rfl) (show leak false (.lst .nil) = [] from rfl), frz_nil, List.set]
  refine seq_nx (wp_seq ?_)
  unfold q_law_table_1
  simp -implicitDefEqProofs only [s_for, w_it, show ∀ d, isIt (.cst d) = false from fun _ => rfl, Bool.false_eq_true, if_false, wp_bnd, e_cst, wp_ret, its_str]
  rw [show leak false (.cst (.str "abc")) = [] from rfl, frz_nil, show signs "abc" = [97, 98, 99].map chr1 from rfl]
  refine forM_pre (full := [97, 98, 99]) (pre := []) (I := fun pre σ k => ∃ (T : List (Nat × Nat)) (s2 s3 : Slot) (a b : Int), k = some (a, b) ∧ σ = [.cup, .own (.list (T.map fun p => PyData.str (tx p))), s2, s3] ∧ T.Sublist (pre.flatMap fun a => [(a, 97), (a, 98), (a, 99)])) rfl ⟨[], .no, .no, a, b, rfl, rfl, List.Sublist.refl _⟩ (fun pre x rest σ k hf ⟨T, s2, s3, a, b, ec, e, hs⟩ => ?_) fun σ k ⟨T, s2, s3, a, b, ec, e, hs⟩ => ?_
  · subst ec; subst e
    have tl : T.length ≤ 9 := by
      have l1 := hs.length_le
      rw [fm3_len] at l1
      have l3 : 3 = pre.length + (rest.length + 1) := by
        have := congrArg List.length hf
        rw [List.length_append, List.length_cons] at this
        exact this
      omega
    rw [wp_bnd, bind1, wp_some]
    simp only [List.set]
    unfold q_law_table_1b q_law_table_1b_0
    simp -implicitDefEqProofs only [s_cons, s_asg, wp_bnd, e_bin, e_var, g1, wp_ret, e_lc, show ∀ d, isIt (.cst d) = false from fun _ => rfl, Bool.false_eq_true, if_false, e_cst, its_str]
    rw [show signs "abc" = [97, 98, 99].map chr1 from rfl, wp_nox]
    refine lc_sub (g := fun c => PyData.str (tx (x, c))) [97, 98, 99] (fun c hc a b Q hQ => ?_) a b fun ys hy a b => ?_
    · simp -implicitDefEqProofs only [wp_bnd, bind1, wip1, wp_some, t_nil, t_cons, wp_ret, wp_if, List.set, e_cmp, e_call, a_var, a_cst, a_nil, e_cst, g0, List.getD_cons_zero]
      refine roll_ok a b 4 (by decide) (by decide) fun r a b h0 h1 => ?_
      have er : cmpD .Eq (.int r) (.int 0) = some (.bool (decide (r = 0))) := by
        show (eqD (.int r) (.int 0)).map PyData.bool = _
        rfl
      simp -implicitDefEqProofs only [er, wp_some, wp_tru]
      have := hQ (decide (r = 0)) a b
      cases q : decide (r = 0) with
      | true =>
        rw [q] at this
        simp -implicitDefEqProofs only [eq_self, if_true, wp_bnd, wp_ret, e_bin, e_var, g2, g3, pair_add, wp_some]
        exact this
      | false =>
        rw [q] at this
        simp -implicitDefEqProofs only [Bool.false_eq_true, if_false, wp_ret]
        exact this
    · have yl := hy.length_le
      have yl : ys.length ≤ 3 := yl
      rw [b_addL (by rw [List.length_map, List.length_map]; omega), wp_some]
      try simp -implicitDefEqProofs only [wp_ret]
      rw [put_new (L := [0]) rfl rfl]
      simp only [frz_cons, frz_nil, g0, frz1_cup, List.set]
      simp -implicitDefEqProofs only [s_nil, wp_ret]
      refine ⟨_, .inl rfl, T ++ ys.map (fun c => (x, c)), .val (chr1 x), s3, a, b, rfl, ?_, ?_⟩
      · rw [List.map_append, List.map_map]; rfl
      · rw [List.flatMap_append]
        refine List.Sublist.append hs ?_
        exact (hy.map fun c => (x, c))
  · subst ec; subst e
    refine seq_nx ?_
    unfold q_law_table_2
    simp -implicitDefEqProofs only [s_cons, s_ret, wp_bnd, e_bi, l_cons, l_nil, e_var, g1, wp_ret, tup_l, wp_some, wpR]
    exact hP T hs a b
end OLaw
end

section
namespace OLaw
open PySem OR
theorem immCons {d : D} {ds : List D} (h1 : imm d = true) (h2 : imm (.tuple ds) = true) : imm (.tuple (d :: ds)) = true := immL_of fun y hy => by
  rcases List.mem_cons.mp hy with e | e
  · rw [e]; exact h1
  · exact immL_mem h2 y e

def GR : List Den := [d__law_plot, d__law_table, d__law_trees, d__law_lonely, d__law_same 6, d_reach_for, d_set_counts, d_hermits, d_reach_for_all]
theorem gr0 : (GR.getD 0 fun _ => stk) = d__law_plot := rfl
theorem gr1 : (GR.getD 1 fun _ => stk) = d__law_table := rfl
theorem gr2 : (GR.getD 2 fun _ => stk) = d__law_trees := rfl
theorem gr3 : (GR.getD 3 fun _ => stk) = d__law_lonely := rfl
theorem gr4 : (GR.getD 4 fun _ => stk) = d__law_same 6 := rfl
theorem gr5 : (GR.getD 5 fun _ => stk) = d_reach_for := rfl
theorem gr6 : (GR.getD 6 fun _ => stk) = d_set_counts := rfl
theorem gr7 : (GR.getD 7 fun _ => stk) = d_hermits := rfl
theorem gr8 : (GR.getD 8 fun _ => stk) = d_reach_for_all := rfl
theorem wp_parO {i j : Nat} {x : D} {σ : OR.Env} {c : Cu} {P : Out → Cu → Prop} {E : Nat → Cu → Prop} : wpX (parOM i j false true x (.list []) σ c) P E = P (.nx ((σ.set i (.val x)).set j (.own (.list [])))) c := wpX_ok
def lonL (rows : List Str) (w : Nat) (T : List (Nat × Nat)) (l : List Nat) : D := .list (l.map fun n => PyData.list ((loL rows w T n).map PN))
theorem sub_lon (rows : List Str) (w : Nat) (T : List (Nat × Nat)) {n : Nat} (hn : n < 25) : subD (lonL rows w T (List.range 25)) (NI n) = some (.list ((loL rows w T n).map PN)) := by
  show L2.atI ((List.range 25).map fun n => PyData.list ((loL rows w T n).map PN)) ((n : Nat) : Int) = _
  unfold L2.atI L2.ixN
  rw [if_pos (by omega), if_pos (by rw [List.length_map, List.length_range]; omega)]
  show ((List.range 25).map fun n => PyData.list ((loL rows w T n).map PN))[((n : Nat) : Int).toNat]? = _
  rw [Int.toNat_natCast, List.getElem?_map, List.getElem?_range hn]; rfl
theorem lenPNs (l : List (Nat × Nat)) : biD .len [.list (l.map PN)] = some (.int ((l.length : Nat) : Int)) := by
  show some (PyData.int _) = _
  rw [List.length_map]
theorem same_oD (n : Nat) (o : Option Nat) : sameOk (n + 1) (oD o) = true := by cases o <;> rfl
theorem ctD_imm (rows : List Str) (w : Nat) (T : List (Nat × Nat)) : imm (ctD rows w T) = true := immL_of fun y hy => by
  obtain ⟨p, _, rfl⟩ := List.mem_map.mp hy
  rfl
theorem same_ct (n : Nat) (rows : List Str) (w : Nat) (T : List (Nat × Nat)) : sameOk (n + 2) (ctD rows w T) = true := sameOk_list (n + 1) (fun k : Nat => PyData.int (((trs rows w).length : Nat) - ((loL rows w T k).length : Nat))) (fun _ => rfl) _ (by rw [List.length_range]; omega)
def toldD (rows : List Str) (w : Nat) (T : List (Nat × Nat)) : D := .tuple [oD (dueO ((trs rows w).map (neO rows w T))), .tuple ((loL rows w T 24).map PN), ctD rows w T]
theorem toldD_imm (rows : List Str) (w : Nat) (T : List (Nat × Nat)) : imm (toldD rows w T) = true := immCons (immO _) (immCons (immP _) (immCons (ctD_imm _ _ _) rfl))
theorem lo_len {w : Nat} {rows : List Str} (h : PF w rows) (T : List (Nat × Nat)) (n : Nat) : (loL rows w T n).length ≤ 144 := Nat.le_trans (List.length_filter_le _ _) (trs_le h)
theorem toldD_same {w : Nat} {rows : List Str} (h : PF w rows) (T : List (Nat × Nat)) : sameOk 6 (toldD rows w T) = true := by
  have a1 : sameOk 5 (oD (dueO ((trs rows w).map (neO rows w T)))) = true := same_oD 4 _
  have a2 : sameOk 5 (.tuple ((loL rows w T 24).map PN)) = true := samePs 2 _ (by have := lo_len h T 24; omega)
  have a3 : sameOk 5 (ctD rows w T) = true := same_ct 3 _ _ _
  show (decide (3 ≤ 1000) && [oD (dueO ((trs rows w).map (neO rows w T))), .tuple ((loL rows w T 24).map PN), ctD rows w T].all (sameOk 5)) = true
  rw [all_of _ _ _ a1 (all_of _ _ _ a2 (all_of _ _ _ a3 rfl))]; rfl

section
variable {s0 s1 s2 s3 s4 s5 s6 s7 s8 s9 s10 : Slot} {P : Out → Cu → Prop}
theorem r0_ok (a b : Int) (hP : ∀ w rows T, PF w rows → Tab T → ∀ a b, P (.nx [.cup, .val (TR rows), .val (TT T), s3, s4, s5, s6, s7, s8, s9, s10]) (some (a, b))) : wpX (evS GR q_law_right_0 [.cup, s1, s2, s3, s4, s5, s6, s7, s8, s9, s10] (some (a, b))) P fun _ _ => False := by
  unfold q_law_right_0
  simp -implicitDefEqProofs only [s_par, wp_bnd, l_cons, l_nil, e_call, a_var, a_cst, a_nil, e_cst, g0, wp_ret, gr0, gr1]
  refine plot_ok 4 (by omega) (by omega) "abc" (by decide) (by decide) a b fun rows w h1 h2 h3 h4 hr a b => ?_
  have pf : PF w rows := ⟨h3, by omega, h1, by omega, fun r hr' => ⟨(hr r hr').1, fun c hc => by
    have q := (hr r hr').2 c hc
    rcases q with rfl | q
    · rfl
    · rw [show ("abc" : Str).cps.toList = [97, 98, 99] from rfl] at q
      simp only [List.mem_cons, List.not_mem_nil, or_false] at q
      rcases q with rfl | rfl | rfl <;> rfl⟩⟩
  try simp -implicitDefEqProofs only [wp_ret]
  refine law_table_ok a b fun T hT a b => ?_
  try simp -implicitDefEqProofs only [wp_ret, wp_bnd]
  rw [show leak false (.call 0 (.cons (.var 0) (.cons (.cst (.int 4)) (.cons (.cst (.str "abc")) .nil)))) ++ (leak false (.call 1 (.cons (.var 0) .nil)) ++ []) = [0, 0] from rfl]
  simp -implicitDefEqProofs only [frz_cons, frz_nil, g0, frz1_cup, List.set, wp_par]
  exact hP w rows T pf hT a b
section
variable {w : Nat} {rows : List Str} {T : List (Nat × Nat)} (h : PF w rows) (hT : Tab T) (cu : Cu)
include h
theorem r1_ok (hP : P (.nx [.cup, .val (TR rows), .val (TT T), .val (.list ((trs rows w).map PN)), .own (.list []), s5, s6, s7, s8, s9, s10]) cu) : wpX (evS GR q_law_right_1 [.cup, .val (TR rows), .val (TT T), s3, s4, s5, s6, s7, s8, s9, s10] cu) P fun _ _ => False := by
  unfold q_law_right_1
  simp -implicitDefEqProofs only [s_parO, wp_bnd, e_call, a_var, a_nil, e_lst, l_nil, g1, wp_ret, gr2, wp_of (law_trees_ok h cu)]
  rw [show leak false (.call 2 (.cons (.var 1) .nil)) ++ leak false (.lst .nil) = [1] from rfl, show frs (.call 2 (.cons (.var 1) .nil)) = false from rfl, show frs (.lst .nil) = true from rfl, wp_parO]
  simp only [frz_cons, frz_nil, g1, frz1_val, List.set]
  exact hP
theorem r2_ok (hP : ∀ s5, P (.nx [.cup, .val (TR rows), .val (TT T), .val (.list ((trs rows w).map PN)), .own (lonL rows w T (List.range 25)), s5, s6, s7, s8, s9, s10]) cu) : wpX (evS GR q_law_right_2 [.cup, .val (TR rows), .val (TT T), .val (.list ((trs rows w).map PN)), .own (.list []), s5, s6, s7, s8, s9, s10] cu) P fun _ _ => False := by
  unfold q_law_right_2
  simp -implicitDefEqProofs only [s_for, w_it, itr, eq_self, if_true, wp_bnd]
  refine wp_rng1 ?_
  simp -implicitDefEqProofs only [e_cst, wp_ret]
  refine ⟨25, rfl, by omega, ?_⟩
  rw [rngNI, show leak false (.rng (.cons (.cst (.int 25)) .nil)) = [] from rfl, frz_nil]
  refine forM_pre (full := List.range 25) (pre := []) (I := fun pre σ k => k = cu ∧ ∃ s5, σ = [.cup, .val (TR rows), .val (TT T), .val (.list ((trs rows w).map PN)), .own (lonL rows w T pre), s5, s6, s7, s8, s9, s10]) rfl ⟨rfl, s5, rfl⟩ (fun pre n rest σ k hf ⟨ec, t5, e⟩ => ?_) fun σ k ⟨ec, t5, e⟩ => ?_
  · subst ec; subst e
    have l3 : 25 = pre.length + (rest.length + 1) := by
      have := congrArg List.length hf
      rw [List.length_append, List.length_cons, List.length_range] at this
      exact this
    rw [wp_bnd, bind1, wp_some]
    simp only [List.set]
    unfold q_law_right_2b q_law_right_2b_0
    have ow : ∀ {c : Cu} {P : List D → Cu → Prop} {E : Nat → Cu → Prop}, wpX (ownM (.own (lonL rows w T pre)) c) P E = P (pre.map fun n => PyData.list ((loL rows w T n).map PN)) c := wp_own_is
    simp -implicitDefEqProofs only [s_cons, s_app, s_nil, wp_bnd, g4, ow, e_call, a_var, a_nil, g1, g2, g5, wp_ret, gr3, wp_of (law_lonely_ok h T n _)]
    rw [show ∀ (e : CE) (x : List D), lks e (.list x) = leak false e from fun _ _ => rfl, show leak false (.call 3 (.cons (.var 1) (.cons (.var 2) (.cons (.var 5) .nil)))) = [1, 2, 5] from rfl]
    simp only [frz_cons, frz_nil, g1, g2, g5, frz1_val, List.set]
    rw [wp_app (xs := pre.map fun n => PyData.list ((loL rows w T n).map PN)) rfl (by rw [List.length_map]; omega)]
    simp -implicitDefEqProofs only [wp_ret, List.set]
    refine ⟨_, .inl rfl, ?_, .val (NI n), ?_⟩
    · first | rfl | trivial
    · unfold lonL
      rw [List.map_append]; rfl
  · subst ec; subst e
    exact hP t5
omit h in
theorem r3_ok (hP : P (.nx [.cup, .val (TR rows), .val (TT T), .val (.list ((trs rows w).map PN)), .own (lonL rows w T (List.range 25)), s5, .own (.list []), s7, s8, s9, s10]) cu) : wpX (evS GR q_law_right_3 [.cup, .val (TR rows), .val (TT T), .val (.list ((trs rows w).map PN)), .own (lonL rows w T (List.range 25)), s5, s6, s7, s8, s9, s10] cu) P fun _ _ => False := by
  unfold q_law_right_3
  simp -implicitDefEqProofs only [s_asg, wp_bnd, e_lst, l_nil, wp_ret, put_new (show frs (.lst .nil) = true from rfl) (show leak false (.lst .nil) = [] from rfl), frz_nil, List.set]
  exact hP
include hT
theorem r4_ok (hP : ∀ s5 s7 s8, P (.nx [.cup, .val (TR rows), .val (TT T), .val (.list ((trs rows w).map PN)), .own (lonL rows w T (List.range 25)), s5, .own (.list (((trs rows w).map (neO rows w T)).map oD)), s7, s8, s9, s10]) cu) : wpX (evS GR q_law_right_4 [.cup, .val (TR rows), .val (TT T), .val (.list ((trs rows w).map PN)), .own (lonL rows w T (List.range 25)), s5, .own (.list []), s7, s8, s9, s10] cu) P fun _ _ => False := by
  have hl := trs_le h
  unfold q_law_right_4
  simp -implicitDefEqProofs only [s_for, w_it, itv, Bool.false_eq_true, if_false, wp_bnd, e_var, g3, wp_ret, its_list]
  rw [show leak false (.var 3) = [3] from rfl]
  simp only [frz_cons, frz_nil, g3, frz1_val, List.set]
  refine forM_pre (full := trs rows w) (pre := []) (I := fun pre σ k => k = cu ∧ ∃ s5 s7 s8, σ = [.cup, .val (TR rows), .val (TT T), .val (.list ((trs rows w).map PN)), .own (lonL rows w T (List.range 25)), s5, .own (.list ((pre.map (neO rows w T)).map oD)), s7, s8, s9, s10]) rfl ⟨rfl, s5, s7, s8, rfl⟩ (fun pre x rest σ k hf ⟨ec, t5, t7, t8, e⟩ => ?_) fun σ k ⟨ec, t5, t7, t8, e⟩ => ?_
  · subst ec; subst e
    have hx : x ∈ trs rows w := by rw [hf]; simp
    have l3 : (trs rows w).length = pre.length + (rest.length + 1) := by
      have := congrArg List.length hf
      rw [List.length_append, List.length_cons] at this
      exact this
    rw [wp_bnd, bind1, wp_some]
    simp only [List.set]
    unfold q_law_right_4b
    refine wp_seq ?_
    unfold q_law_right_4b_0
    simp -implicitDefEqProofs only [s_asg, wp_bnd, e_lc, itr, eq_self, if_true]
    refine wp_rng1 ?_
    simp -implicitDefEqProofs only [e_cst, wp_ret]
    refine ⟨25, rfl, by omega, ?_⟩
    rw [rngNI]
    refine lc_on (h := fun n : Nat => if ((fsL rows w T x).any fun f => decide (f ≤ n)) = true then some (NI n) else none) (fun n hn => ok_of ?_) ?_
    · have hn := List.mem_range.mp hn
      have nl : (!decide (x ∈ loL rows w T n)) = (fsL rows w T x).any fun f => decide (f ≤ n) := by
        have e1 : decide (x ∈ loL rows w T n) = (gvL rows w T n x).isEmpty := by
          rw [Bool.eq_iff_iff, decide_eq_true_eq]
          unfold loL
          rw [List.mem_filter]
          exact ⟨fun z => z.2, fun z => ⟨hx, z⟩⟩
        rw [e1, lo_iff T (by omega) x, Bool.not_not]
      simp -implicitDefEqProofs only [wp_bnd, bind1, wip1, wp_some, t_nil, t_cons, wp_ret, wp_if, List.set, e_cmp, e_sub, e_var, g4, g5, g7, sub_lon rows w T hn, notin_PN, nl, wp_tru]
      cases (fsL rows w T x).any fun f => decide (f ≤ n) <;> first | exact ⟨rfl, trivial⟩ | exact ⟨rfl, rfl⟩ | exact ⟨trivial, trivial⟩ | trivial
    · rw [fm_if]
      try simp -implicitDefEqProofs only [wp_ret]
      rw [put_new (L := [5]) rfl rfl]
      simp only [frz_cons, frz_nil, g5, List.set]
      refine seq_nx (wp_seq ?_)
      unfold q_law_right_4b_1
      have sn := some_need (rows := rows) (w := w) T x
      have ow : ∀ {c : Cu} {P : List D → Cu → Prop} {E : Nat → Cu → Prop}, wpX (ownM (.own (.list ((pre.map (neO rows w T)).map oD))) c) P E = P ((pre.map (neO rows w T)).map oD) c := wp_own_is
      simp -implicitDefEqProofs only [s_app, wp_bnd, g6, ow, e_ite, e_cmp, e_lst, l_nil, e_var, g8, wp_ret, ne_nil (plainNI _), List.isEmpty_map, wp_some, wp_tru]
      have fin : ∀ {P : Out → Cu → Prop} (e : CE) (t5 : Slot), P (.nx [.cup, .val (TR rows), .val (TT T), .val (.list ((trs rows w).map PN)), .own (lonL rows w T (List.range 25)), t5, .own (.list (((pre ++ [x]).map (neO rows w T)).map oD)), .val (PN x), .own (.list (((List.range 25).filter fun n => (fsL rows w T x).any fun f => decide (f ≤ n)).map NI)), s9, s10]) k → wpX (appM 6 (oD (neO rows w T x)) (frz (lks e (oD (neO rows w T x))) [.cup, .val (TR rows), .val (TT T), .val (.list ((trs rows w).map PN)), .own (lonL rows w T (List.range 25)), t5, .own (.list ((pre.map (neO rows w T)).map oD)), .val (PN x), .own (.list (((List.range 25).filter fun n => (fsL rows w T x).any fun f => decide (f ≤ n)).map NI)), s9, s10]) k) P fun _ _ => False := fun e t5 hq => by
        rw [lks_imm (immO _), frz_nil, wp_app (xs := (pre.map (neO rows w T)).map oD) rfl (by rw [List.length_map, List.length_map]; omega)]
        rw [List.map_append, List.map_append] at hq
        exact hq
      have last : ∀ t5, wpX (evS GR q_law_right_4b_2 [.cup, .val (TR rows), .val (TT T), .val (.list ((trs rows w).map PN)), .own (lonL rows w T (List.range 25)), t5, .own (.list (((pre ++ [x]).map (neO rows w T)).map oD)), .val (PN x), .own (.list (((List.range 25).filter fun n => (fsL rows w T x).any fun f => decide (f ≤ n)).map NI)), s9, s10] k) (seqP GR .nil (fun o c' => ∃ σ', (o = .nx σ' ∨ o = .ct σ') ∧ c' = k ∧ ∃ s5 s7 s8, σ' = [.cup, .val (TR rows), .val (TT T), .val (.list ((trs rows w).map PN)), .own (lonL rows w T (List.range 25)), s5, .own (.list (((pre ++ [x]).map (neO rows w T)).map oD)), s7, s8, s9, s10]) fun _ _ => False) fun _ _ => False := fun t5 => by
        have sl : subD (.list (((pre ++ [x]).map (neO rows w T)).map oD)) (.int (-1)) = some (oD (neO rows w T x)) := by
          rw [List.map_append, List.map_append]
          exact sub_last _ _
        unfold q_law_right_4b_2
        simp -implicitDefEqProofs only [s_ite, s_nil, wp_bnd, e_not, e_call, a_call, a_sub, a_var, a_nil, e_sub, e_neg, e_cst, e_var, g1, g2, g6, g7, wp_ret, gr4, gr5, wp_of (reach_for_ok h hT hx _), sl, wp_some, wp_of (same_ok 6 _ _ (same_oD 5 _)), wp_tru, Bool.not_true, wp_if, Bool.false_eq_true, if_false]
        refine seq_nx ?_
        rw [s_nil, wp_ret]
        exact ⟨_, .inl rfl, rfl, _, _, _, rfl⟩
      cases q : (List.range 25).filter fun n => (fsL rows w T x).any fun f => decide (f ≤ n) with
      | nil =>
        rw [q] at sn fin last
        have sn : none = neO rows w T x := sn
        rw [← sn] at fin
        simp -implicitDefEqProofs only [List.isEmpty_nil, Bool.not_true, Bool.false_eq_true, if_false, e_cst, wp_ret]
        refine fin _ _ (seq_nx (wp_seq ?_))
        exact last _
      | cons m r =>
        rw [q] at sn fin last
        have sn : some m = neO rows w T x := sn
        rw [← sn] at fin
        simp -implicitDefEqProofs only [List.isEmpty_cons, Bool.not_false, eq_self, if_true, wp_bnd, e_sub, e_cst, e_var, g8, List.map_cons, sub0_list, wp_ret, wp_some]
        refine fin _ _ (seq_nx (wp_seq ?_))
        exact last _
  · subst ec; subst e
    exact hP t5 t7 t8
omit hT in
theorem r5_ok (hP : P (.nx [.cup, .val (TR rows), .val (TT T), .val (.list ((trs rows w).map PN)), .own (lonL rows w T (List.range 25)), s5, .own (.list (((trs rows w).map (neO rows w T)).map oD)), s7, s8, .val (oD (dueO ((trs rows w).map (neO rows w T)))), s10]) cu) : wpX (evS GR q_law_right_5 [.cup, .val (TR rows), .val (TT T), .val (.list ((trs rows w).map PN)), .own (lonL rows w T (List.range 25)), s5, .own (.list (((trs rows w).map (neO rows w T)).map oD)), s7, s8, s9, s10] cu) P fun _ _ => False := by
  have hl := trs_le h
  unfold q_law_right_5
  rw [s_asg, wp_bnd]
  refine dueE_ok _ _ 6 ((trs rows w).map (neO rows w T)) (by rw [List.length_map]; omega) rfl _ ?_
  simp -implicitDefEqProofs only [wp_ret]
  rw [put_imm (immO _)]
  exact hP
theorem r6_ok (hP : P (.nx [.cup, .val (TR rows), .val (TT T), .val (.list ((trs rows w).map PN)), .own (lonL rows w T (List.range 25)), s5, .own (.list (((trs rows w).map (neO rows w T)).map oD)), s7, s8, .val (oD (dueO ((trs rows w).map (neO rows w T)))), .val (toldD rows w T)]) cu) : wpX (evS GR q_law_right_6 [.cup, .val (TR rows), .val (TT T), .val (.list ((trs rows w).map PN)), .own (lonL rows w T (List.range 25)), s5, .own (.list (((trs rows w).map (neO rows w T)).map oD)), s7, s8, .val (oD (dueO ((trs rows w).map (neO rows w T)))), s10] cu) P fun _ _ => False := by
  unfold q_law_right_6
  simp -implicitDefEqProofs only [s_asg, wp_bnd, e_tup, l_cons, l_nil, e_call, a_var, a_nil, g1, g2, wp_ret, gr6, gr7, gr8, wp_of (reach_for_all_ok h hT cu), wp_of (hermits_ok h hT cu), wp_of (set_counts_ok h hT cu)]
  rw [show PyData.tuple [oD (dueO ((trs rows w).map (neO rows w T))), .tuple ((loL rows w T 24).map PN), ctD rows w T] = toldD rows w T from rfl, put_imm (toldD_imm _ _ _)]
  exact hP
omit hT in
theorem r7_ok (hP : P (.rt (.bool true)) cu) : wpX (evS GR q_law_right_7 [.cup, .val (TR rows), .val (TT T), .val (.list ((trs rows w).map PN)), .own (lonL rows w T (List.range 25)), s5, .own (.list (((trs rows w).map (neO rows w T)).map oD)), s7, s8, .val (oD (dueO ((trs rows w).map (neO rows w T)))), .val (toldD rows w T)] cu) P fun _ _ => False := by
  have sk := same_ok 6 _ cu (toldD_same h T)
  have s24 : subD (lonL rows w T (List.range 25)) (.int 24) = some (.list ((loL rows w T 24).map PN)) := sub_lon rows w T (n := 24) (by decide)
  unfold q_law_right_7
  simp -implicitDefEqProofs only [s_ret, wp_bnd, e_call, a_var, a_tup, a_nil, e_tup, l_cons, l_nil, e_var, e_bi, e_sub, e_cst, g4, g9, g10, wp_ret, s24, tup_l, wp_some, e_lc, itr, eq_self, if_true]
  refine wp_rng1 ?_
  simp -implicitDefEqProofs only [e_cst, wp_ret]
  refine ⟨23, rfl, by omega, ?_⟩
  rw [rngNI]
  refine lc_on (h := fun n : Nat => some (.int (((trs rows w).length : Nat) - ((loL rows w T n).length : Nat)))) (fun n hn => ok_of ?_) ?_
  · have hn := List.mem_range.mp hn
    simp -implicitDefEqProofs only [wp_bnd, bind1, wip1, wp_some, t_nil, wp_ret, wp_if, eq_self, if_true, List.set, e_bin, e_bi, l_cons, l_nil, e_sub, e_var, g3, g4, g5, sub_lon rows w T (show n < 25 by omega), lenPNs, b_sub]
    first | exact ⟨rfl, trivial⟩ | exact ⟨rfl, rfl⟩ | exact ⟨trivial, trivial⟩ | trivial
  · rw [fm_all]
    simp -implicitDefEqProofs only [wp_ret, wp_bnd, tup_l, wp_some, gr4]
    rw [show d__law_same 6 [.val (toldD rows w T), .val (.tuple [oD (dueO ((trs rows w).map (neO rows w T))), .tuple ((loL rows w T 24).map PN), .tuple ((List.range 23).map fun n : Nat => PyData.int (((trs rows w).length : Nat) - ((loL rows w T n).length : Nat)))])] cu = _ from sk, wpX_ok]
    try simp -implicitDefEqProofs only [wp_ret]
    exact hP
end
end

theorem right_ok (a b : Int) {P : D → Cu → Prop} (hP : ∀ a b, P (.bool true) (some (a, b))) : wpX (d__law_right [.cup] (some (a, b))) P fun _ _ => False := by
  show wpX (OR.run GR 11 b__law_right [.cup] (some (a, b))) _ _
  rw [wp_run]
  unfold b__law_right
  simp only [List.cons_append, List.nil_append, List.length_cons, List.length_nil, Nat.reduceAdd, Nat.reduceSub, List.replicate]
  refine wp_seq (r0_ok a b fun w rows T h hT a b => seq_nx ?_)
  refine wp_seq (r1_ok h _ (seq_nx ?_))
  refine wp_seq (r2_ok h _ fun s5 => seq_nx ?_)
  refine wp_seq (r3_ok _ (seq_nx ?_))
  refine wp_seq (r4_ok h hT _ fun s5 s7 s8 => seq_nx ?_)
  refine wp_seq (r5_ok h _ (seq_nx ?_))
  refine wp_seq (r6_ok h hT _ (seq_nx ?_))
  rw [s_cons, wp_bnd]
  refine r7_ok h _ ?_
  show wpX (OR.ret (Out.rt (.bool true)) _) _ _
  rw [wp_ret]
  exact hP a b
end OLaw
end

section
namespace OLaw
open PySem OR
theorem b_mulL {a : List D} {k : Nat} (h1 : k ≤ 1000) (h2 : a.length ≤ 1000) : binD .Mult (.list a) (.int (k : Nat)) = some (.list (repL a (k : Nat))) := by
  have e : binD .Mult (.list a) (.int (k : Nat)) = if (decide (-(2 ^ 63) ≤ ((k : Nat) : Int)) && decide (((k : Nat) : Int) < 2 ^ 63) && decide (a.length * ((k : Nat) : Int).toNat ≤ sizeLine)) = true then some (.list (repL a (k : Nat))) else none := rfl
  have hm : a.length * k ≤ 1000 * 1000 := Nat.mul_le_mul h2 h1
  rw [e, decide_eq_true (by omega), decide_eq_true (by omega), Int.toNat_natCast, decide_eq_true (by rw [sizeLine_eq]; omega)]; rfl

def LG : List Den := [d__law_cup, d__law_right, d__law_roll, d_lonely_trees, d_hermits, d_reach_for_all, d_reach_for, d__law_same 6]
theorem lg0 : (LG.getD 0 fun _ => stk) = d__law_cup := rfl
theorem lg1 : (LG.getD 1 fun _ => stk) = d__law_right := rfl
theorem lg2 : (LG.getD 2 fun _ => stk) = d__law_roll := rfl
theorem lg3 : (LG.getD 3 fun _ => stk) = d_lonely_trees := rfl
theorem lg4 : (LG.getD 4 fun _ => stk) = d_hermits := rfl
theorem lg5 : (LG.getD 5 fun _ => stk) = d_reach_for_all := rfl
theorem lg6 : (LG.getD 6 fun _ => stk) = d_reach_for := rfl
theorem lg7 : (LG.getD 7 fun _ => stk) = d__law_same 6 := rfl
/-! two trees at both corners -/
def fin1 (h w : Nat) : List Str := (List.replicate h (repS "." (w : Nat))).set 0 ("a" ++ repS "." (w - 1 : Nat))
def fin (h w : Nat) : List Str := (fin1 h w).set (h - 1) (L2.cutS ((fin1 h w).getD (h - 1) "") none (some (-1)) ++ "b")
def chk (h w : Nat) : Bool := decide ((fin h w).length = h) && (fin h w).all (fun r => decide (r.length = w) && r.cps.toList.all signB) && decide (((fin1 h w).getD (h - 1) "").length ≤ 20) && decide (neO (fin h w) w [(97, 98)] (0, 0) = some (h + w - 2)) && decide (dueO ((trs (fin h w) w).map (neO (fin h w) w [(97, 98), (98, 97)])) = some (h + w - 2)) && decide (loL (fin h w) w [(97, 98)] 24 = [(h - 1, w - 1)]) && decide (loL (fin h w) w [(97, 98), (98, 98)] 0 = [(0, 0)]) && decide ((0, 0) ∈ trs (fin h w) w)
theorem fin_all : ((List.range 12).all fun h => (List.range 11).all fun w => chk (h + 1) (w + 2)) = true := by decide +kernel
structure Fin2 (h w : Nat) : Prop where
  pf : PF w (fin h w)
  ll : ((fin1 h w).getD (h - 1) "").length ≤ 20
  c1 : neO (fin h w) w [(97, 98)] (0, 0) = some (h + w - 2)
  c2 : dueO ((trs (fin h w) w).map (neO (fin h w) w [(97, 98), (98, 97)])) = some (h + w - 2)
  c3 : loL (fin h w) w [(97, 98)] 24 = [(h - 1, w - 1)]
  c4 : loL (fin h w) w [(97, 98), (98, 98)] 0 = [(0, 0)]
  c5 : (0, 0) ∈ trs (fin h w) w
theorem fin2_ok (h w : Nat) (h1 : 1 ≤ h) (h2 : h ≤ 12) (w1 : 2 ≤ w) (w2 : w ≤ 12) : Fin2 h w := by
  have z := List.all_eq_true.mp (List.all_eq_true.mp fin_all (h - 1) (List.mem_range.mpr (by omega))) (w - 2) (List.mem_range.mpr (by omega))
  rw [show h - 1 + 1 = h by omega, show w - 2 + 2 = w by omega] at z
  obtain ⟨z, z8⟩ := and_t z
  obtain ⟨z, z7⟩ := and_t z
  obtain ⟨z, z6⟩ := and_t z
  obtain ⟨z, z5⟩ := and_t z
  obtain ⟨z, z4⟩ := and_t z
  obtain ⟨z, z3⟩ := and_t z
  obtain ⟨z1, z2⟩ := and_t z
  have z1 := of_decide_eq_true z1
  refine ⟨⟨by omega, by omega, by omega, by omega, fun r hr => ?_⟩, of_decide_eq_true z3, of_decide_eq_true z4, of_decide_eq_true z5, of_decide_eq_true z6, of_decide_eq_true z7, of_decide_eq_true z8⟩
  obtain ⟨q1, q2⟩ := and_t (List.all_eq_true.mp z2 r hr)
  exact ⟨of_decide_eq_true q1, fun c hc => List.all_eq_true.mp q2 c hc⟩
theorem tab1 : Tab [(97, 98)] := by unfold Tab; decide
theorem tab2 : Tab [(97, 98), (98, 97)] := by unfold Tab; decide
theorem tab3 : Tab [(97, 98), (98, 98)] := by unfold Tab; decide
theorem stoM_nat {i : Nat} {n : Nat} {y : D} {σ : OR.Env} {xs : List D} {c : Cu} {P : Out → Cu → Prop} {E : Nat → Cu → Prop} (hg : getS σ i = .own (.list xs)) (hn : n < xs.length) (hP : P (.nx (σ.set i (.own (.list (xs.set n y))))) c) : wpX (stoM i (.int (n : Nat)) y σ c) P E := by
  unfold stoM
  rw [hg, wp_bnd, wp_own_is]
  show wpX ((if (decide ((0 : Int) ≤ (n : Nat)) && decide (((n : Nat) : Int) < (xs.length : Nat))) = true then OR.ret (Out.nx (σ.set i (.own (.list (xs.set ((n : Nat) : Int).toNat y))))) else _) c) P E
  rw [if_pos (by rw [decide_eq_true (by omega), decide_eq_true (by omega)]; rfl), wp_ret, Int.toNat_natCast]
  exact hP
theorem stoM_last {i : Nat} {y : D} {σ : OR.Env} {xs : List D} {c : Cu} {P : Out → Cu → Prop} {E : Nat → Cu → Prop} (hg : getS σ i = .own (.list xs)) (hn : 1 ≤ xs.length) (hP : P (.nx (σ.set i (.own (.list (xs.set (xs.length - 1) y))))) c) : wpX (stoM i (.int (-1)) y σ c) P E := by
  unfold stoM
  rw [hg, wp_bnd, wp_own_is]
  show wpX ((if (decide ((0 : Int) ≤ -1) && decide ((-1 : Int) < (xs.length : Nat))) = true then _ else if (decide (-((xs.length : Nat) : Int) ≤ -1) && decide ((-1 : Int) < 0)) = true then OR.ret (Out.nx (σ.set i (.own (.list (xs.set (-1 + ((xs.length : Nat) : Int)).toNat y))))) else _) c) P E
  rw [if_neg (show ¬((decide ((0 : Int) ≤ -1) && decide ((-1 : Int) < (xs.length : Nat))) = true) from Bool.false_ne_true), if_pos (by rw [decide_eq_true (by omega)]; rfl), wp_ret, show (-1 + ((xs.length : Nat) : Int)).toNat = xs.length - 1 by omega]
  exact hP
theorem sub_neg1 (xs : List Str) (h : 1 ≤ xs.length) : subD (.list (xs.map PyData.str)) (.int (-1)) = some (.str (xs.getD (xs.length - 1) "")) := by
  show L2.atI (xs.map PyData.str) (-1) = _
  unfold L2.atI L2.ixN
  rw [if_neg (by decide), if_pos (by rw [List.length_map]; omega)]
  show (xs.map PyData.str)[(-1 + (((xs.map PyData.str).length : Nat) : Int)).toNat]? = _
  rw [List.length_map, show (-1 + ((xs.length : Nat) : Int)).toNat = xs.length - 1 by omega, List.getElem?_map, List.getD_eq_getElem?_getD, List.getElem?_eq_getElem (by omega)]; rfl
theorem set_map (xs : List Str) (n : Nat) (y : Str) : (xs.map PyData.str).set n (.str y) = (xs.set n y).map PyData.str := List.map_set.symm
theorem repL_one (a : D) (n : Nat) : repL [a] (n : Nat) = List.replicate n a := by
  unfold repL
  rw [Int.toNat_natCast]
  induction n with
  | zero => rfl
  | succ n ih => rw [List.replicate_succ, List.flatten_cons, ih, List.replicate_succ]; rfl

section
variable {s0 s1 s2 s3 s4 s5 s6 s7 s8 : Slot} {P : Out → Cu → Prop}
theorem f1_ok (a b : Int) (hP : ∀ h w : Nat, 1 ≤ h → h ≤ 12 → 2 ≤ w → w ≤ 12 → ∀ a b, P (.nx [.no, .cup, s2, .val (NI h), .val (NI w), s5, s6, s7, s8]) (some (a, b))) : wpX (evS LG q_1 [.no, .cup, s2, s3, s4, s5, s6, s7, s8] (some (a, b))) P fun _ _ => False := by
  have en : ∀ (m n : Nat), binD .Add (.int (m : Nat)) (.int (n : Nat)) = some (NI (m + n)) := fun m n => rfl
  unfold q_1
  simp -implicitDefEqProofs only [s_par, wp_bnd, l_cons, l_nil, e_bin, e_call, a_var, a_cst, a_nil, g1, wp_ret, e_cst, lg2]
  refine roll_ok a b 12 (by decide) (by decide) fun k a b h1 h2 => ?_
  obtain ⟨m, rfl⟩ : ∃ n : Nat, k = (n : Nat) := ⟨k.toNat, by omega⟩
  rw [show binD .Add (.int 1) (.int (m : Nat)) = some (NI (1 + m)) from en 1 m, wp_some]
  try simp -implicitDefEqProofs only [wp_ret]
  refine roll_ok a b 11 (by decide) (by decide) fun k a b h3 h4 => ?_
  obtain ⟨n, rfl⟩ : ∃ n : Nat, k = (n : Nat) := ⟨k.toNat, by omega⟩
  rw [show binD .Add (.int 2) (.int (n : Nat)) = some (NI (2 + n)) from en 2 n, wp_some]
  try simp -implicitDefEqProofs only [wp_ret]
  rw [show leak false (.bin .Add (.cst (.int 1)) (.call 2 (.cons (.var 1) (.cons (.cst (.int 12)) .nil)))) ++ (leak false (.bin .Add (.cst (.int 2)) (.call 2 (.cons (.var 1) (.cons (.cst (.int 11)) .nil)))) ++ []) = [1, 1] from rfl]
  simp -implicitDefEqProofs only [frz_cons, frz_nil, g1, frz1_cup, List.set, wp_par]
  exact hP (1 + m) (2 + n) (by omega) (by omega) (by omega) (by omega) a b
section
variable {h w : Nat} (h1 : 1 ≤ h) (h2 : h ≤ 12) (w1 : 2 ≤ w) (w2 : w ≤ 12) (cu : Cu)
include h1 h2 w1 w2
omit h1 w1 in
theorem f2_ok (hP : P (.nx [.no, .cup, s2, .val (NI h), .val (NI w), .own (.list ((List.replicate h (repS "." (w : Nat))).map PyData.str)), s6, s7, s8]) cu) : wpX (evS LG q_2 [.no, .cup, s2, .val (NI h), .val (NI w), s5, s6, s7, s8] cu) P fun _ _ => False := by
  have ld : ("." : Str).length = 1 := rfl
  have m1 : binD .Mult (.str ".") (NI w) = some (.str (repS "." (w : Nat))) := b_mulS (by omega) (by omega) (by omega)
  have m2 : binD .Mult (.list [.str (repS "." (w : Nat))]) (NI h) = some (.list (repL [.str (repS "." (w : Nat))] (h : Nat))) := b_mulL (by omega) (by simp)
  unfold q_2
  simp -implicitDefEqProofs only [s_asg, wp_bnd, e_bin, e_lst, l_cons, l_nil, e_cst, e_var, g3, g4, wp_ret, m1, m2, wp_some]
  rw [put_new (L := []) rfl rfl, frz_nil, repL_one, show List.replicate h (PyData.str (repS "." (w : Nat))) = (List.replicate h (repS "." (w : Nat))).map PyData.str by rw [List.map_replicate]]
  exact hP
omit h2 in
theorem f3_ok (hP : P (.nx [.no, .cup, s2, .val (NI h), .val (NI w), .own (.list ((fin1 h w).map PyData.str)), s6, s7, s8]) cu) : wpX (evS LG q_3 [.no, .cup, s2, .val (NI h), .val (NI w), .own (.list ((List.replicate h (repS "." (w : Nat))).map PyData.str)), s6, s7, s8] cu) P fun _ _ => False := by
  have ld : ("." : Str).length = 1 := rfl
  have la : ("a" : Str).length = 1 := rfl
  have sb : binD .Sub (NI w) (.int 1) = some (NI (w - 1)) := by
    show some (PyData.int (((w : Nat) : Int) - 1)) = some (.int ((w - 1 : Nat) : Int))
    rw [show ((w : Nat) : Int) - 1 = ((w - 1 : Nat) : Int) by omega]
  have m1 : binD .Mult (.str ".") (NI (w - 1)) = some (.str (repS "." (w - 1 : Nat))) := b_mulS (by omega) (by omega) (by omega)
  have a1 : binD .Add (.str "a") (.str (repS "." (w - 1 : Nat))) = some (.str ("a" ++ repS "." (w - 1 : Nat))) := b_addS (by rw [repS_len, ld, la, Int.toNat_natCast]; omega)
  have ow : ∀ {c : Cu} {P : List D → Cu → Prop} {E : Nat → Cu → Prop}, wpX (ownM (.own (.list ((List.replicate h (repS "." (w : Nat))).map PyData.str))) c) P E = P ((List.replicate h (repS "." (w : Nat))).map PyData.str) c := wp_own_is
  unfold q_3
  simp -implicitDefEqProofs only [s_sto, wp_bnd, e_bin, e_cst, e_var, g4, g5, wp_ret, sb, m1, a1, wp_some, ow]
  rw [lks_imm rfl, frz_nil]
  refine stoM_nat (n := 0) (xs := (List.replicate h (repS "." (w : Nat))).map PyData.str) rfl (by rw [List.length_map, List.length_replicate]; omega) ?_
  rw [set_map]
  exact hP
omit h2 w1 w2 in
theorem fin1_len : (fin1 h w).length = h := by unfold fin1; rw [List.length_set, List.length_replicate]
theorem f4_ok (hP : P (.nx [.no, .cup, s2, .val (NI h), .val (NI w), .own (.list ((fin h w).map PyData.str)), s6, s7, s8]) cu) : wpX (evS LG q_4 [.no, .cup, s2, .val (NI h), .val (NI w), .own (.list ((fin1 h w).map PyData.str)), s6, s7, s8] cu) P fun _ _ => False := by
  have ll := (fin2_ok h w h1 h2 w1 w2).ll
  have lb : ("b" : Str).length = 1 := rfl
  have sl : subD (.list ((fin1 h w).map PyData.str)) (.int (-1)) = some (.str ((fin1 h w).getD (h - 1) "")) := by
    rw [sub_neg1 _ (by rw [fin1_len h1]; omega), fin1_len h1]
  have cl := cutS_len ((fin1 h w).getD (h - 1) "") none (some (-1))
  have a1 : binD .Add (.str (L2.cutS ((fin1 h w).getD (h - 1) "") none (some (-1)))) (.str "b") = some (.str (L2.cutS ((fin1 h w).getD (h - 1) "") none (some (-1)) ++ "b")) := b_addS (by rw [lb]; omega)
  have ow : ∀ {c : Cu} {P : List D → Cu → Prop} {E : Nat → Cu → Prop}, wpX (ownM (.own (.list ((fin1 h w).map PyData.str))) c) P E = P ((fin1 h w).map PyData.str) c := wp_own_is
  unfold q_4
  simp -implicitDefEqProofs only [s_sto, wp_bnd, e_bin, e_slc, nil_t, show ∀ a, isNil (.neg a) = false from fun _ => rfl, eq_self, if_true, Bool.false_eq_true, if_false, e_sub, e_neg, e_cst, e_var, g5, wp_ret, sl, wp_part, slc_s, a1, wp_some, ow]
  rw [lks_imm rfl, frz_nil]
  refine stoM_last (xs := (fin1 h w).map PyData.str) rfl (by rw [List.length_map, fin1_len h1]; omega) ?_
  rw [List.length_map, fin1_len h1, set_map]
  exact hP
omit h1 h2 w1 w2 in
theorem f5_ok (hP : ∀ s5, P (.nx [.no, .cup, s2, .val (NI h), .val (NI w), s5, .val (TR (fin h w)), s7, s8]) cu) : wpX (evS LG q_5 [.no, .cup, s2, .val (NI h), .val (NI w), .own (.list ((fin h w).map PyData.str)), s6, s7, s8] cu) P fun _ _ => False := by
  unfold q_5
  simp -implicitDefEqProofs only [s_asg, wp_bnd, e_bi, l_cons, l_nil, e_var, g5, wp_ret, tup_l, wp_some]
  rw [show PyData.tuple ((fin h w).map PyData.str) = TR (fin h w) from rfl, put_imm (immTR _)]
  exact hP _
theorem f6_ok (hP : P (.nx [.no, .cup, s2, .val (NI h), .val (NI w), s5, .val (TR (fin h w)), .val (.tuple [NI (h + w - 2), NI (h + w - 2), .tuple [PN (h - 1, w - 1)], .tuple [PN (0, 0)]]), s8]) cu) : wpX (evS LG q_6 [.no, .cup, s2, .val (NI h), .val (NI w), s5, .val (TR (fin h w)), s7, s8] cu) P fun _ _ => False := by
  have z := fin2_ok h w h1 h2 w1 w2
  have e1 : d_reach_for [.val (TR (fin h w)), .val (.tuple [.str "ab"]), .val (.tuple [.int 0, .int 0])] cu = .ok (NI (h + w - 2)) cu := by
    have := reach_for_ok z.pf tab1 z.c5 cu
    rw [z.c1] at this
    exact this
  have e2 : d_reach_for_all [.val (TR (fin h w)), .val (.tuple [.str "ab", .str "ba"])] cu = .ok (NI (h + w - 2)) cu := by
    have := reach_for_all_ok z.pf tab2 cu
    rw [z.c2] at this
    exact this
  have e3 : d_hermits [.val (TR (fin h w)), .val (.tuple [.str "ab"])] cu = .ok (.tuple [PN (h - 1, w - 1)]) cu := by
    have := hermits_ok z.pf tab1 cu
    rw [z.c3] at this
    exact this
  have e4 : d_lonely_trees [.val (TR (fin h w)), .val (.tuple [.str "ab", .str "bb"]), .val (.int 0)] cu = .ok (.tuple [PN (0, 0)]) cu := by
    have := lonely_trees_ok z.pf tab3 (n := 0) (by decide) cu
    rw [z.c4] at this
    exact this
  unfold q_6
  simp -implicitDefEqProofs only [s_asg, wp_bnd, e_tup, l_cons, l_nil, e_call, a_var, a_tup, a_cst, a_nil, e_cst, g6, wp_ret, lg3, lg4, lg5, lg6, wp_of e1, wp_of e2, wp_of e3, wp_of e4]
  rw [put_imm (show imm (.tuple [NI (h + w - 2), NI (h + w - 2), .tuple [PN (h - 1, w - 1)], .tuple [PN (0, 0)]]) = true from rfl)]
  exact hP
omit h2 w2 in
theorem f7_ok (hP : P (.nx [.no, .cup, s2, .val (NI h), .val (NI w), s5, .val (TR (fin h w)), .val (.tuple [NI (h + w - 2), NI (h + w - 2), .tuple [PN (h - 1, w - 1)], .tuple [PN (0, 0)]]), .val (NI (h + w - 2))]) cu) : wpX (evS LG q_7 [.no, .cup, s2, .val (NI h), .val (NI w), s5, .val (TR (fin h w)), .val (.tuple [NI (h + w - 2), NI (h + w - 2), .tuple [PN (h - 1, w - 1)], .tuple [PN (0, 0)]]), s8] cu) P fun _ _ => False := by
  have ad : binD .Add (NI h) (NI w) = some (NI (h + w)) := rfl
  have sb : binD .Sub (NI (h + w)) (.int 2) = some (NI (h + w - 2)) := by
    show some (PyData.int (((h + w : Nat) : Int) - 2)) = some (.int ((h + w - 2 : Nat) : Int))
    rw [show ((h + w : Nat) : Int) - 2 = ((h + w - 2 : Nat) : Int) by omega]
  unfold q_7
  simp -implicitDefEqProofs only [s_asg, wp_bnd, e_bin, e_cst, e_var, g3, g4, wp_ret, ad, sb, wp_some]
  rw [put_imm rfl]
  exact hP
omit h2 w2 in
theorem f8_ok : wpX (evS LG q_8 [.no, .cup, s2, .val (NI h), .val (NI w), s5, .val (TR (fin h w)), .val (.tuple [NI (h + w - 2), NI (h + w - 2), .tuple [PN (h - 1, w - 1)], .tuple [PN (0, 0)]]), .val (NI (h + w - 2))] cu) (fun o _ => o = .rt (.bool true)) fun _ _ => False := by
  have so : sameOk 6 (.tuple [NI (h + w - 2), NI (h + w - 2), .tuple [PN (h - 1, w - 1)], .tuple [PN (0, 0)]]) = true := rfl
  have sb : ∀ k : Nat, 1 ≤ k → binD .Sub (NI k) (.int 1) = some (NI (k - 1)) := fun k hk => by
    show some (PyData.int (((k : Nat) : Int) - 1)) = some (.int ((k - 1 : Nat) : Int))
    rw [show ((k : Nat) : Int) - 1 = ((k - 1 : Nat) : Int) by omega]
  have sk : d__law_same 6 [.val (.tuple [NI (h + w - 2), NI (h + w - 2), .tuple [PN (h - 1, w - 1)], .tuple [PN (0, 0)]]), .val (.tuple [NI (h + w - 2), NI (h + w - 2), .tuple [.tuple [NI (h - 1), NI (w - 1)]], .tuple [.tuple [.int 0, .int 0]]])] cu = .ok (.bool true) cu := same_ok 6 _ cu so
  unfold q_8
  simp -implicitDefEqProofs only [s_ret, wp_bnd, e_call, a_var, a_tup, a_nil, e_tup, l_cons, l_nil, e_bin, e_cst, e_var, g3, g4, g7, g8, wp_ret, sb h (by omega), sb w (by omega), wp_some, lg7, wp_of sk]
end
end
def Inv (σ : OR.Env) (c : Cu) : Prop := ∃ s2 s3 s4 s5 s6 s7 s8 a b, σ = [.no, .cup, s2, s3, s4, s5, s6, s7, s8] ∧ c = some (a, b)
theorem turn_ok (d : D) (σ : OR.Env) (c : Cu) (hI : Inv σ c) : wpX (bnd (lft (bindT (.var 2) d σ)) (fun σ' => evS LG q_0b σ') c) (fun o c' => ∃ σ', (o = .nx σ' ∨ o = .ct σ') ∧ Inv σ' c') fun _ _ => False := by
  obtain ⟨s2, s3, s4, s5, s6, s7, s8, a, b, e, e2⟩ := hI
  subst e; subst e2
  rw [wp_bnd, bind1, wp_some]
  simp only [List.set]
  unfold q_0b q_0b_0
  simp -implicitDefEqProofs only [s_cons, s_ite, wp_bnd, e_not, e_call, a_var, a_nil, g1, wp_ret, lg1]
  refine right_ok a b fun a b => ?_
  simp -implicitDefEqProofs only [wp_tru, Bool.not_true, wp_if, Bool.false_eq_true, if_false, s_nil, wp_ret, wp_bnd]
  exact ⟨_, .inl rfl, _, _, _, _, _, _, _, _, _, rfl, rfl⟩
theorem law_true : LawP [d__law_cup, d__law_right, d__law_roll, d_lonely_trees, d_hermits, d_reach_for_all, d_reach_for, (d__law_same 6)] 9 e0_law r_law 63 := by
  refine lawP_of fun ns hn => ?_
  show wpX (evE LG e0_law (.scr ns :: List.replicate 8 .no) none) (fun d cu => cu = none ∧ ∃ a b, d = .list [.int a, .int b] ∧ wpX (evS LG r_law (.no :: .cup :: List.replicate 7 .no) (some (a, b))) (fun o _ => o = .rt (.bool true)) fun _ _ => False) fun _ _ => False
  unfold e0_law
  simp -implicitDefEqProofs only [e_call, wp_bnd, a_var, a_nil, g0, wp_ret, lg0]
  refine cup_ok ns hn none fun a b => ⟨rfl, a, b, rfl, ?_⟩
  unfold r_law
  refine wp_seq ?_
  unfold q_0
  simp -implicitDefEqProofs only [s_for, w_it, itr, eq_self, if_true, wp_bnd]
  refine wp_rng1 ?_
  simp -implicitDefEqProofs only [e_cst, wp_ret]
  refine ⟨3, rfl, by decide, ?_⟩
  rw [show leak false (.rng (.cons (.cst (.int 3)) .nil)) = [] from rfl, frz_nil]
  refine forM_wp (I := Inv) ⟨.no, .no, .no, .no, .no, .no, .no, a, b, rfl, rfl⟩ (fun x _ σ c hI => turn_ok x σ c hI) fun σ c hI => seq_nx ?_
  obtain ⟨s2, s3, s4, s5, s6, s7, s8, a, b, e, e2⟩ := hI
  subst e; subst e2
  refine wp_seq (f1_ok a b fun h w h1 h2 w1 w2 a b => seq_nx ?_)
  refine wp_seq (f2_ok h2 w2 _ (seq_nx ?_))
  refine wp_seq (f3_ok h1 w1 w2 _ (seq_nx ?_))
  refine wp_seq (f4_ok h1 h2 w1 w2 _ (seq_nx ?_))
  refine wp_seq (f5_ok _ fun s5 => seq_nx ?_)
  refine wp_seq (f6_ok h1 h2 w1 w2 _ (seq_nx ?_))
  refine wp_seq (f7_ok h1 w1 _ (seq_nx ?_))
  rw [s_cons, wp_bnd]
  refine wpX_mono (f8_ok h1 w1 _) (fun o c' e => ?_) fun _ _ z => z
  subst e
  show wpX (OR.ret (Out.rt (.bool true)) c') _ _
  rw [wp_ret]
end OLaw
end

namespace OLaw
open PySem PySem.Spec PyProof.Rows L2 OR
theorem all_mk {l : PySem.W.OpenLaw} {w : World} {K : PySem.W.Frag} {h : Heap} {mg : Str → Option Value} {fa : Addr} (X : K.In h) (G : h.Ns mainGlobals mg) (hfa : mg "law" = some (.ref fa)) (hL : LawP [d__law_cup, d__law_right, d__law_roll, d_lonely_trees, d_hermits, d_reach_for_all, d_reach_for, (d__law_same 6)] 9 e0_law r_law 63)
    {f0 : Addr} {od0 an0 : Option Addr} {sl0 : Array (Option Value)} {oc0 kV0 dc0 pm0 cd0 ct0 : Value}
    (a0 : PySem.W.nsIn K mainGlobals "_law_cup" = some (some (.ref f0))) (l0 : K.lookup f0 = some ⟨oc0, od0, .func (PySem.W.fnOf "_law_cup" "_law_cup" (defArgs s__law_cup) (defBody s__law_cup) (defScope s__law_cup) .none kV0 dc0 pm0 an0 cd0 ct0), sl0⟩) (c0 : PySem.W.codeIn K cd0 "_law_cup" = true) (k0 : PySem.W.keepIn K (.ref f0) = true)
    {f1 : Addr} {od1 an1 : Option Addr} {sl1 : Array (Option Value)} {oc1 kV1 dc1 pm1 cd1 ct1 : Value}
    (a1 : PySem.W.nsIn K mainGlobals "_law_roll" = some (some (.ref f1))) (l1 : K.lookup f1 = some ⟨oc1, od1, .func (PySem.W.fnOf "_law_roll" "_law_roll" (defArgs s__law_roll) (defBody s__law_roll) (defScope s__law_roll) .none kV1 dc1 pm1 an1 cd1 ct1), sl1⟩) (c1 : PySem.W.codeIn K cd1 "_law_roll" = true) (k1 : PySem.W.keepIn K (.ref f1) = true)
    {f2 : Addr} {od2 an2 : Option Addr} {sl2 : Array (Option Value)} {oc2 kV2 dc2 pm2 cd2 ct2 : Value}
    (a2 : PySem.W.nsIn K mainGlobals "_law_some" = some (some (.ref f2))) (l2 : K.lookup f2 = some ⟨oc2, od2, .func (PySem.W.fnOf "_law_some" "_law_some" (defArgs s__law_some) (defBody s__law_some) (defScope s__law_some) .none kV2 dc2 pm2 an2 cd2 ct2), sl2⟩) (c2 : PySem.W.codeIn K cd2 "_law_some" = true) (k2 : PySem.W.keepIn K (.ref f2) = true)
    {f3 : Addr} {od3 an3 : Option Addr} {sl3 : Array (Option Value)} {oc3 kV3 dc3 pm3 cd3 ct3 : Value}
    (a3 : PySem.W.nsIn K mainGlobals "_law_plot" = some (some (.ref f3))) (l3 : K.lookup f3 = some ⟨oc3, od3, .func (PySem.W.fnOf "_law_plot" "_law_plot" (defArgs s__law_plot) (defBody s__law_plot) (defScope s__law_plot) .none kV3 dc3 pm3 an3 cd3 ct3), sl3⟩) (c3 : PySem.W.codeIn K cd3 "_law_plot" = true) (k3 : PySem.W.keepIn K (.ref f3) = true)
    {f4 : Addr} {od4 an4 : Option Addr} {sl4 : Array (Option Value)} {oc4 kV4 dc4 pm4 cd4 ct4 : Value}
    (a4 : PySem.W.nsIn K mainGlobals "_law_table" = some (some (.ref f4))) (l4 : K.lookup f4 = some ⟨oc4, od4, .func (PySem.W.fnOf "_law_table" "_law_table" (defArgs s__law_table) (defBody s__law_table) (defScope s__law_table) .none kV4 dc4 pm4 an4 cd4 ct4), sl4⟩) (c4 : PySem.W.codeIn K cd4 "_law_table" = true) (k4 : PySem.W.keepIn K (.ref f4) = true)
    {f5 : Addr} {od5 an5 : Option Addr} {sl5 : Array (Option Value)} {oc5 kV5 dc5 pm5 cd5 ct5 : Value}
    (a5 : PySem.W.nsIn K mainGlobals "_law_places" = some (some (.ref f5))) (l5 : K.lookup f5 = some ⟨oc5, od5, .func (PySem.W.fnOf "_law_places" "_law_places" (defArgs s__law_places) (defBody s__law_places) (defScope s__law_places) .none kV5 dc5 pm5 an5 cd5 ct5), sl5⟩) (c5 : PySem.W.codeIn K cd5 "_law_places" = true) (k5 : PySem.W.keepIn K (.ref f5) = true)
    {f6 : Addr} {od6 an6 : Option Addr} {sl6 : Array (Option Value)} {oc6 kV6 dc6 pm6 cd6 ct6 : Value}
    (a6 : PySem.W.nsIn K mainGlobals "_law_trees" = some (some (.ref f6))) (l6 : K.lookup f6 = some ⟨oc6, od6, .func (PySem.W.fnOf "_law_trees" "_law_trees" (defArgs s__law_trees) (defBody s__law_trees) (defScope s__law_trees) .none kV6 dc6 pm6 an6 cd6 ct6), sl6⟩) (c6 : PySem.W.codeIn K cd6 "_law_trees" = true) (k6 : PySem.W.keepIn K (.ref f6) = true)
    {f7 : Addr} {od7 an7 : Option Addr} {sl7 : Array (Option Value)} {oc7 kV7 dc7 pm7 cd7 ct7 : Value}
    (a7 : PySem.W.nsIn K mainGlobals "_law_far" = some (some (.ref f7))) (l7 : K.lookup f7 = some ⟨oc7, od7, .func (PySem.W.fnOf "_law_far" "_law_far" (defArgs s__law_far) (defBody s__law_far) (defScope s__law_far) .none kV7 dc7 pm7 an7 cd7 ct7), sl7⟩) (c7 : PySem.W.codeIn K cd7 "_law_far" = true) (k7 : PySem.W.keepIn K (.ref f7) = true)
    {f8 : Addr} {od8 an8 : Option Addr} {sl8 : Array (Option Value)} {oc8 kV8 dc8 pm8 cd8 ct8 : Value}
    (a8 : PySem.W.nsIn K mainGlobals "_law_gives" = some (some (.ref f8))) (l8 : K.lookup f8 = some ⟨oc8, od8, .func (PySem.W.fnOf "_law_gives" "_law_gives" (defArgs s__law_gives) (defBody s__law_gives) (defScope s__law_gives) .none kV8 dc8 pm8 an8 cd8 ct8), sl8⟩) (c8 : PySem.W.codeIn K cd8 "_law_gives" = true) (k8 : PySem.W.keepIn K (.ref f8) = true)
    {f9 : Addr} {od9 an9 : Option Addr} {sl9 : Array (Option Value)} {oc9 kV9 dc9 pm9 cd9 ct9 : Value}
    (a9 : PySem.W.nsIn K mainGlobals "_law_givers" = some (some (.ref f9))) (l9 : K.lookup f9 = some ⟨oc9, od9, .func (PySem.W.fnOf "_law_givers" "_law_givers" (defArgs s__law_givers) (defBody s__law_givers) (defScope s__law_givers) .none kV9 dc9 pm9 an9 cd9 ct9), sl9⟩) (c9 : PySem.W.codeIn K cd9 "_law_givers" = true) (k9 : PySem.W.keepIn K (.ref f9) = true)
    {f10 : Addr} {od10 an10 : Option Addr} {sl10 : Array (Option Value)} {oc10 kV10 dc10 pm10 cd10 ct10 : Value}
    (a10 : PySem.W.nsIn K mainGlobals "_law_lonely" = some (some (.ref f10))) (l10 : K.lookup f10 = some ⟨oc10, od10, .func (PySem.W.fnOf "_law_lonely" "_law_lonely" (defArgs s__law_lonely) (defBody s__law_lonely) (defScope s__law_lonely) .none kV10 dc10 pm10 an10 cd10 ct10), sl10⟩) (c10 : PySem.W.codeIn K cd10 "_law_lonely" = true) (k10 : PySem.W.keepIn K (.ref f10) = true)
    {f11 : Addr} {od11 an11 : Option Addr} {sl11 : Array (Option Value)} {oc11 kV11 dc11 pm11 cd11 ct11 : Value}
    (a11 : PySem.W.nsIn K mainGlobals "_law_same" = some (some (.ref f11))) (l11 : K.lookup f11 = some ⟨oc11, od11, .func (PySem.W.fnOf "_law_same" "_law_same" (defArgs s__law_same) (defBody s__law_same) (defScope s__law_same) .none kV11 dc11 pm11 an11 cd11 ct11), sl11⟩) (c11 : PySem.W.codeIn K cd11 "_law_same" = true) (k11 : PySem.W.keepIn K (.ref f11) = true)
    {f12 : Addr} {od12 an12 : Option Addr} {sl12 : Array (Option Value)} {oc12 kV12 dc12 pm12 cd12 ct12 : Value}
    (a12 : PySem.W.nsIn K mainGlobals "fits_row" = some (some (.ref f12))) (l12 : K.lookup f12 = some ⟨oc12, od12, .func (PySem.W.fnOf "fits_row" "fits_row" (defArgs s_fits_row) (defBody s_fits_row) (defScope s_fits_row) .none kV12 dc12 pm12 an12 cd12 ct12), sl12⟩) (c12 : PySem.W.codeIn K cd12 "fits_row" = true) (k12 : PySem.W.keepIn K (.ref f12) = true)
    {f13 : Addr} {od13 an13 : Option Addr} {sl13 : Array (Option Value)} {oc13 kV13 dc13 pm13 cd13 ct13 : Value}
    (a13 : PySem.W.nsIn K mainGlobals "is_tuple_of" = some (some (.ref f13))) (l13 : K.lookup f13 = some ⟨oc13, od13, .func (PySem.W.fnOf "is_tuple_of" "is_tuple_of" (defArgs s_is_tuple_of) (defBody s_is_tuple_of) (defScope s_is_tuple_of) .none kV13 dc13 pm13 an13 cd13 ct13), sl13⟩) (c13 : PySem.W.codeIn K cd13 "is_tuple_of" = true) (k13 : PySem.W.keepIn K (.ref f13) = true)
    {f14 : Addr} {od14 an14 : Option Addr} {sl14 : Array (Option Value)} {oc14 kV14 dc14 pm14 cd14 ct14 : Value}
    (a14 : PySem.W.nsIn K mainGlobals "fits_plot" = some (some (.ref f14))) (l14 : K.lookup f14 = some ⟨oc14, od14, .func (PySem.W.fnOf "fits_plot" "fits_plot" (defArgs s_fits_plot) (defBody s_fits_plot) (defScope s_fits_plot) .none kV14 dc14 pm14 an14 cd14 ct14), sl14⟩) (c14 : PySem.W.codeIn K cd14 "fits_plot" = true) (k14 : PySem.W.keepIn K (.ref f14) = true)
    {f15 : Addr} {od15 an15 : Option Addr} {sl15 : Array (Option Value)} {oc15 kV15 dc15 pm15 cd15 ct15 : Value}
    (a15 : PySem.W.nsIn K mainGlobals "need_plot" = some (some (.ref f15))) (l15 : K.lookup f15 = some ⟨oc15, od15, .func (PySem.W.fnOf "need_plot" "need_plot" (defArgs s_need_plot) (defBody s_need_plot) (defScope s_need_plot) .none kV15 dc15 pm15 an15 cd15 ct15), sl15⟩) (c15 : PySem.W.codeIn K cd15 "need_plot" = true) (k15 : PySem.W.keepIn K (.ref f15) = true)
    {f16 : Addr} {od16 an16 : Option Addr} {sl16 : Array (Option Value)} {oc16 kV16 dc16 pm16 cd16 ct16 : Value}
    (a16 : PySem.W.nsIn K mainGlobals "is_rising" = some (some (.ref f16))) (l16 : K.lookup f16 = some ⟨oc16, od16, .func (PySem.W.fnOf "is_rising" "is_rising" (defArgs s_is_rising) (defBody s_is_rising) (defScope s_is_rising) .none kV16 dc16 pm16 an16 cd16 ct16), sl16⟩) (c16 : PySem.W.codeIn K cd16 "is_rising" = true) (k16 : PySem.W.keepIn K (.ref f16) = true)
    {f17 : Addr} {od17 an17 : Option Addr} {sl17 : Array (Option Value)} {oc17 kV17 dc17 pm17 cd17 ct17 : Value}
    (a17 : PySem.W.nsIn K mainGlobals "fits_kind" = some (some (.ref f17))) (l17 : K.lookup f17 = some ⟨oc17, od17, .func (PySem.W.fnOf "fits_kind" "fits_kind" (defArgs s_fits_kind) (defBody s_fits_kind) (defScope s_fits_kind) .none kV17 dc17 pm17 an17 cd17 ct17), sl17⟩) (c17 : PySem.W.codeIn K cd17 "fits_kind" = true) (k17 : PySem.W.keepIn K (.ref f17) = true)
    {f18 : Addr} {od18 an18 : Option Addr} {sl18 : Array (Option Value)} {oc18 kV18 dc18 pm18 cd18 ct18 : Value}
    (a18 : PySem.W.nsIn K mainGlobals "fits_table" = some (some (.ref f18))) (l18 : K.lookup f18 = some ⟨oc18, od18, .func (PySem.W.fnOf "fits_table" "fits_table" (defArgs s_fits_table) (defBody s_fits_table) (defScope s_fits_table) .none kV18 dc18 pm18 an18 cd18 ct18), sl18⟩) (c18 : PySem.W.codeIn K cd18 "fits_table" = true) (k18 : PySem.W.keepIn K (.ref f18) = true)
    {f19 : Addr} {od19 an19 : Option Addr} {sl19 : Array (Option Value)} {oc19 kV19 dc19 pm19 cd19 ct19 : Value}
    (a19 : PySem.W.nsIn K mainGlobals "need_table" = some (some (.ref f19))) (l19 : K.lookup f19 = some ⟨oc19, od19, .func (PySem.W.fnOf "need_table" "need_table" (defArgs s_need_table) (defBody s_need_table) (defScope s_need_table) .none kV19 dc19 pm19 an19 cd19 ct19), sl19⟩) (c19 : PySem.W.codeIn K cd19 "need_table" = true) (k19 : PySem.W.keepIn K (.ref f19) = true)
    {f20 : Addr} {od20 an20 : Option Addr} {sl20 : Array (Option Value)} {oc20 kV20 dc20 pm20 cd20 ct20 : Value}
    (a20 : PySem.W.nsIn K mainGlobals "is_whole" = some (some (.ref f20))) (l20 : K.lookup f20 = some ⟨oc20, od20, .func (PySem.W.fnOf "is_whole" "is_whole" (defArgs s_is_whole) (defBody s_is_whole) (defScope s_is_whole) .none kV20 dc20 pm20 an20 cd20 ct20), sl20⟩) (c20 : PySem.W.codeIn K cd20 "is_whole" = true) (k20 : PySem.W.keepIn K (.ref f20) = true)
    {f21 : Addr} {od21 an21 : Option Addr} {sl21 : Array (Option Value)} {oc21 kV21 dc21 pm21 cd21 ct21 : Value}
    (a21 : PySem.W.nsIn K mainGlobals "fits_whole" = some (some (.ref f21))) (l21 : K.lookup f21 = some ⟨oc21, od21, .func (PySem.W.fnOf "fits_whole" "fits_whole" (defArgs s_fits_whole) (defBody s_fits_whole) (defScope s_fits_whole) .none kV21 dc21 pm21 an21 cd21 ct21), sl21⟩) (c21 : PySem.W.codeIn K cd21 "fits_whole" = true) (k21 : PySem.W.keepIn K (.ref f21) = true)
    {f22 : Addr} {od22 an22 : Option Addr} {sl22 : Array (Option Value)} {oc22 kV22 dc22 pm22 cd22 ct22 : Value}
    (a22 : PySem.W.nsIn K mainGlobals "fits_place" = some (some (.ref f22))) (l22 : K.lookup f22 = some ⟨oc22, od22, .func (PySem.W.fnOf "fits_place" "fits_place" (defArgs s_fits_place) (defBody s_fits_place) (defScope s_fits_place) .none kV22 dc22 pm22 an22 cd22 ct22), sl22⟩) (c22 : PySem.W.codeIn K cd22 "fits_place" = true) (k22 : PySem.W.keepIn K (.ref f22) = true)
    {f23 : Addr} {od23 an23 : Option Addr} {sl23 : Array (Option Value)} {oc23 kV23 dc23 pm23 cd23 ct23 : Value}
    (a23 : PySem.W.nsIn K mainGlobals "need_place" = some (some (.ref f23))) (l23 : K.lookup f23 = some ⟨oc23, od23, .func (PySem.W.fnOf "need_place" "need_place" (defArgs s_need_place) (defBody s_need_place) (defScope s_need_place) .none kV23 dc23 pm23 an23 cd23 ct23), sl23⟩) (c23 : PySem.W.codeIn K cd23 "need_place" = true) (k23 : PySem.W.keepIn K (.ref f23) = true)
    {f24 : Addr} {od24 an24 : Option Addr} {sl24 : Array (Option Value)} {oc24 kV24 dc24 pm24 cd24 ct24 : Value}
    (a24 : PySem.W.nsIn K mainGlobals "need_tree" = some (some (.ref f24))) (l24 : K.lookup f24 = some ⟨oc24, od24, .func (PySem.W.fnOf "need_tree" "need_tree" (defArgs s_need_tree) (defBody s_need_tree) (defScope s_need_tree) .none kV24 dc24 pm24 an24 cd24 ct24), sl24⟩) (c24 : PySem.W.codeIn K cd24 "need_tree" = true) (k24 : PySem.W.keepIn K (.ref f24) = true)
    {f25 : Addr} {od25 an25 : Option Addr} {sl25 : Array (Option Value)} {oc25 kV25 dc25 pm25 cd25 ct25 : Value}
    (a25 : PySem.W.nsIn K mainGlobals "mates_in" = some (some (.ref f25))) (l25 : K.lookup f25 = some ⟨oc25, od25, .func (PySem.W.fnOf "mates_in" "mates_in" (defArgs s_mates_in) (defBody s_mates_in) (defScope s_mates_in) .none kV25 dc25 pm25 an25 cd25 ct25), sl25⟩) (c25 : PySem.W.codeIn K cd25 "mates_in" = true) (k25 : PySem.W.keepIn K (.ref f25) = true)
    {f26 : Addr} {od26 an26 : Option Addr} {sl26 : Array (Option Value)} {oc26 kV26 dc26 pm26 cd26 ct26 : Value}
    (a26 : PySem.W.nsIn K mainGlobals "places_in" = some (some (.ref f26))) (l26 : K.lookup f26 = some ⟨oc26, od26, .func (PySem.W.fnOf "places_in" "places_in" (defArgs s_places_in) (defBody s_places_in) (defScope s_places_in) .none kV26 dc26 pm26 an26 cd26 ct26), sl26⟩) (c26 : PySem.W.codeIn K cd26 "places_in" = true) (k26 : PySem.W.keepIn K (.ref f26) = true)
    {f27 : Addr} {od27 an27 : Option Addr} {sl27 : Array (Option Value)} {oc27 kV27 dc27 pm27 cd27 ct27 : Value}
    (a27 : PySem.W.nsIn K mainGlobals "trees_in" = some (some (.ref f27))) (l27 : K.lookup f27 = some ⟨oc27, od27, .func (PySem.W.fnOf "trees_in" "trees_in" (defArgs s_trees_in) (defBody s_trees_in) (defScope s_trees_in) .none kV27 dc27 pm27 an27 cd27 ct27), sl27⟩) (c27 : PySem.W.codeIn K cd27 "trees_in" = true) (k27 : PySem.W.keepIn K (.ref f27) = true)
    {f28 : Addr} {od28 an28 : Option Addr} {sl28 : Array (Option Value)} {oc28 kV28 dc28 pm28 cd28 ct28 : Value}
    (a28 : PySem.W.nsIn K mainGlobals "far_in" = some (some (.ref f28))) (l28 : K.lookup f28 = some ⟨oc28, od28, .func (PySem.W.fnOf "far_in" "far_in" (defArgs s_far_in) (defBody s_far_in) (defScope s_far_in) .none kV28 dc28 pm28 an28 cd28 ct28), sl28⟩) (c28 : PySem.W.codeIn K cd28 "far_in" = true) (k28 : PySem.W.keepIn K (.ref f28) = true)
    {f29 : Addr} {od29 an29 : Option Addr} {sl29 : Array (Option Value)} {oc29 kV29 dc29 pm29 cd29 ct29 : Value}
    (a29 : PySem.W.nsIn K mainGlobals "givers_in" = some (some (.ref f29))) (l29 : K.lookup f29 = some ⟨oc29, od29, .func (PySem.W.fnOf "givers_in" "givers_in" (defArgs s_givers_in) (defBody s_givers_in) (defScope s_givers_in) .none kV29 dc29 pm29 an29 cd29 ct29), sl29⟩) (c29 : PySem.W.codeIn K cd29 "givers_in" = true) (k29 : PySem.W.keepIn K (.ref f29) = true)
    {f30 : Addr} {od30 an30 : Option Addr} {sl30 : Array (Option Value)} {oc30 kV30 dc30 pm30 cd30 ct30 : Value}
    (a30 : PySem.W.nsIn K mainGlobals "reach_for" = some (some (.ref f30))) (l30 : K.lookup f30 = some ⟨oc30, od30, .func (PySem.W.fnOf "reach_for" "reach_for" (defArgs s_reach_for) (defBody s_reach_for) (defScope s_reach_for) .none kV30 dc30 pm30 an30 cd30 ct30), sl30⟩) (c30 : PySem.W.codeIn K cd30 "reach_for" = true) (k30 : PySem.W.keepIn K (.ref f30) = true)
    {f31 : Addr} {od31 an31 : Option Addr} {sl31 : Array (Option Value)} {oc31 kV31 dc31 pm31 cd31 ct31 : Value}
    (a31 : PySem.W.nsIn K mainGlobals "does_set" = some (some (.ref f31))) (l31 : K.lookup f31 = some ⟨oc31, od31, .func (PySem.W.fnOf "does_set" "does_set" (defArgs s_does_set) (defBody s_does_set) (defScope s_does_set) .none kV31 dc31 pm31 an31 cd31 ct31), sl31⟩) (c31 : PySem.W.codeIn K cd31 "does_set" = true) (k31 : PySem.W.keepIn K (.ref f31) = true)
    {f32 : Addr} {od32 an32 : Option Addr} {sl32 : Array (Option Value)} {oc32 kV32 dc32 pm32 cd32 ct32 : Value}
    (a32 : PySem.W.nsIn K mainGlobals "lonely_in" = some (some (.ref f32))) (l32 : K.lookup f32 = some ⟨oc32, od32, .func (PySem.W.fnOf "lonely_in" "lonely_in" (defArgs s_lonely_in) (defBody s_lonely_in) (defScope s_lonely_in) .none kV32 dc32 pm32 an32 cd32 ct32), sl32⟩) (c32 : PySem.W.codeIn K cd32 "lonely_in" = true) (k32 : PySem.W.keepIn K (.ref f32) = true)
    {f33 : Addr} {od33 an33 : Option Addr} {sl33 : Array (Option Value)} {oc33 kV33 dc33 pm33 cd33 ct33 : Value}
    (a33 : PySem.W.nsIn K mainGlobals "set_counts" = some (some (.ref f33))) (l33 : K.lookup f33 = some ⟨oc33, od33, .func (PySem.W.fnOf "set_counts" "set_counts" (defArgs s_set_counts) (defBody s_set_counts) (defScope s_set_counts) .none kV33 dc33 pm33 an33 cd33 ct33), sl33⟩) (c33 : PySem.W.codeIn K cd33 "set_counts" = true) (k33 : PySem.W.keepIn K (.ref f33) = true)
    {f34 : Addr} {od34 an34 : Option Addr} {sl34 : Array (Option Value)} {oc34 kV34 dc34 pm34 cd34 ct34 : Value}
    (a34 : PySem.W.nsIn K mainGlobals "hermits" = some (some (.ref f34))) (l34 : K.lookup f34 = some ⟨oc34, od34, .func (PySem.W.fnOf "hermits" "hermits" (defArgs s_hermits) (defBody s_hermits) (defScope s_hermits) .none kV34 dc34 pm34 an34 cd34 ct34), sl34⟩) (c34 : PySem.W.codeIn K cd34 "hermits" = true) (k34 : PySem.W.keepIn K (.ref f34) = true)
    {f35 : Addr} {od35 an35 : Option Addr} {sl35 : Array (Option Value)} {oc35 kV35 dc35 pm35 cd35 ct35 : Value}
    (a35 : PySem.W.nsIn K mainGlobals "reach_for_all" = some (some (.ref f35))) (l35 : K.lookup f35 = some ⟨oc35, od35, .func (PySem.W.fnOf "reach_for_all" "reach_for_all" (defArgs s_reach_for_all) (defBody s_reach_for_all) (defScope s_reach_for_all) .none kV35 dc35 pm35 an35 cd35 ct35), sl35⟩) (c35 : PySem.W.codeIn K cd35 "reach_for_all" = true) (k35 : PySem.W.keepIn K (.ref f35) = true)
    {f36 : Addr} {od36 an36 : Option Addr} {sl36 : Array (Option Value)} {oc36 kV36 dc36 pm36 cd36 ct36 : Value}
    (a36 : PySem.W.nsIn K mainGlobals "_law_right" = some (some (.ref f36))) (l36 : K.lookup f36 = some ⟨oc36, od36, .func (PySem.W.fnOf "_law_right" "_law_right" (defArgs s__law_right) (defBody s__law_right) (defScope s__law_right) .none kV36 dc36 pm36 an36 cd36 ct36), sl36⟩) (c36 : PySem.W.codeIn K cd36 "_law_right" = true) (k36 : PySem.W.keepIn K (.ref f36) = true)
    {f37 : Addr} {od37 an37 : Option Addr} {sl37 : Array (Option Value)} {oc37 kV37 dc37 pm37 cd37 ct37 : Value}
    (a37 : PySem.W.nsIn K mainGlobals "need_reach" = some (some (.ref f37))) (l37 : K.lookup f37 = some ⟨oc37, od37, .func (PySem.W.fnOf "need_reach" "need_reach" (defArgs s_need_reach) (defBody s_need_reach) (defScope s_need_reach) .none kV37 dc37 pm37 an37 cd37 ct37), sl37⟩) (c37 : PySem.W.codeIn K cd37 "need_reach" = true) (k37 : PySem.W.keepIn K (.ref f37) = true)
    {f38 : Addr} {od38 an38 : Option Addr} {sl38 : Array (Option Value)} {oc38 kV38 dc38 pm38 cd38 ct38 : Value}
    (a38 : PySem.W.nsIn K mainGlobals "need_all" = some (some (.ref f38))) (l38 : K.lookup f38 = some ⟨oc38, od38, .func (PySem.W.fnOf "need_all" "need_all" (defArgs s_need_all) (defBody s_need_all) (defScope s_need_all) .none kV38 dc38 pm38 an38 cd38 ct38), sl38⟩) (c38 : PySem.W.codeIn K cd38 "need_all" = true) (k38 : PySem.W.keepIn K (.ref f38) = true)
    {f39 : Addr} {od39 an39 : Option Addr} {sl39 : Array (Option Value)} {oc39 kV39 dc39 pm39 cd39 ct39 : Value}
    (a39 : PySem.W.nsIn K mainGlobals "lonely_trees" = some (some (.ref f39))) (l39 : K.lookup f39 = some ⟨oc39, od39, .func (PySem.W.fnOf "lonely_trees" "lonely_trees" (defArgs s_lonely_trees) (defBody s_lonely_trees) (defScope s_lonely_trees) .none kV39 dc39 pm39 an39 cd39 ct39), sl39⟩) (c39 : PySem.W.codeIn K cd39 "lonely_trees" = true) (k39 : PySem.W.keepIn K (.ref f39) = true)
    {f40 : Addr} {od40 an40 : Option Addr} {sl40 : Array (Option Value)} {oc40 kV40 dc40 pm40 cd40 ct40 : Value}
    (a40 : PySem.W.nsIn K mainGlobals "law" = some (some (.ref f40))) (l40 : K.lookup f40 = some ⟨oc40, od40, .func (PySem.W.fnOf "law" "law" (defArgs s_law) (defBody s_law) (defScope s_law) .none kV40 dc40 pm40 an40 cd40 ct40), sl40⟩) (c40 : PySem.W.codeIn K cd40 "law" = true) (k40 : PySem.W.keepIn K (.ref f40) = true)
    (z0 : PySem.W.nsIn K mainGlobals "abs" = some none)
    (z1 : PySem.W.nsIn K mainGlobals "all" = some none)
    (z2 : PySem.W.nsIn K mainGlobals "bool" = some none)
    (z3 : PySem.W.nsIn K mainGlobals "int" = some none)
    (z4 : PySem.W.nsIn K mainGlobals "isinstance" = some none)
    (z5 : PySem.W.nsIn K mainGlobals "len" = some none)
    (z6 : PySem.W.nsIn K mainGlobals "list" = some none)
    (z7 : PySem.W.nsIn K mainGlobals "max" = some none)
    (z8 : PySem.W.nsIn K mainGlobals "min" = some none)
    (z9 : PySem.W.nsIn K mainGlobals "range" = some none)
    (z10 : PySem.W.nsIn K mainGlobals "str" = some none)
    (z11 : PySem.W.nsIn K mainGlobals "tuple" = some none)
    (z12 : PySem.W.nsIn K mainGlobals "zip" = some none)
    {t0 : Tok} (q0 : PySem.W.nsIn K mainGlobals "BARE" = some (some (.str "." t0)))
    {t1 : Tok} (q1 : PySem.W.nsIn K mainGlobals "KINDS" = some (some (.str "abcdefgh" t1)))
    {t2 : Tok} (q2 : PySem.W.nsIn K mainGlobals "SIDE" = some (some (.int 12 t2)))
    : ∃ fd : FuncData, (∀ (s : Shared) (v : Value), BindsTo s fd ⟨[v], []⟩ [("script", v)]) ∧ ∀ base : Heap, K.In base → base.Ns mainGlobals mg → FnOk l.prog w K mg base (L2.CX l.prog w) 9 fa fd ["script"] (spLaw K 63) := by
  have e := hfa.symm.trans (PySem.W.mg_of X G a40)
  cases e
  have F0 := fun_mk (st := s__law_cup) l0 c0 k0
  have b0 := F0.binds (ps := ["script"]) fun _ _ _ _ _ _ us hl => match us, hl with | [_], _ => rfl
  have F1 := fun_mk (st := s__law_roll) l1 c1 k1
  have b1 := F1.binds (ps := ["cup", "many"]) fun _ _ _ _ _ _ us hl => match us, hl with | [_, _], _ => rfl
  have F2 := fun_mk (st := s__law_some) l2 c2 k2
  have b2 := F2.binds (ps := ["cup", "things"]) fun _ _ _ _ _ _ us hl => match us, hl with | [_, _], _ => rfl
  have F3 := fun_mk (st := s__law_plot) l3 c3 k3
  have b3 := F3.binds (ps := ["cup", "most", "kinds"]) fun _ _ _ _ _ _ us hl => match us, hl with | [_, _, _], _ => rfl
  have F4 := fun_mk (st := s__law_table) l4 c4 k4
  have b4 := F4.binds (ps := ["cup"]) fun _ _ _ _ _ _ us hl => match us, hl with | [_], _ => rfl
  have F5 := fun_mk (st := s__law_places) l5 c5 k5
  have b5 := F5.binds (ps := ["plot"]) fun _ _ _ _ _ _ us hl => match us, hl with | [_], _ => rfl
  have F6 := fun_mk (st := s__law_trees) l6 c6 k6
  have b6 := F6.binds (ps := ["plot"]) fun _ _ _ _ _ _ us hl => match us, hl with | [_], _ => rfl
  have F7 := fun_mk (st := s__law_far) l7 c7 k7
  have b7 := F7.binds (ps := ["one", "other"]) fun _ _ _ _ _ _ us hl => match us, hl with | [_, _], _ => rfl
  have F8 := fun_mk (st := s__law_gives) l8 c8 k8
  have b8 := F8.binds (ps := ["plot", "table", "reach", "giver", "place"]) fun _ _ _ _ _ _ us hl => match us, hl with | [_, _, _, _, _], _ => rfl
  have F9 := fun_mk (st := s__law_givers) l9 c9 k9
  have b9 := F9.binds (ps := ["plot", "table", "reach", "place"]) fun _ _ _ _ _ _ us hl => match us, hl with | [_, _, _, _], _ => rfl
  have F10 := fun_mk (st := s__law_lonely) l10 c10 k10
  have b10 := F10.binds (ps := ["plot", "table", "reach"]) fun _ _ _ _ _ _ us hl => match us, hl with | [_, _, _], _ => rfl
  have F11 := fun_mk (st := s__law_same) l11 c11 k11
  have b11 := F11.binds (ps := ["told", "due"]) fun _ _ _ _ _ _ us hl => match us, hl with | [_, _], _ => rfl
  have F12 := fun_mk (st := s_fits_row) l12 c12 k12
  have b12 := F12.binds (ps := ["value"]) fun _ _ _ _ _ _ us hl => match us, hl with | [_], _ => rfl
  have F13 := fun_mk (st := s_is_tuple_of) l13 c13 k13
  have b13 := F13.binds (ps := ["value", "least", "most"]) fun _ _ _ _ _ _ us hl => match us, hl with | [_, _, _], _ => rfl
  have F14 := fun_mk (st := s_fits_plot) l14 c14 k14
  have b14 := F14.binds (ps := ["value"]) fun _ _ _ _ _ _ us hl => match us, hl with | [_], _ => rfl
  have F15 := fun_mk (st := s_need_plot) l15 c15 k15
  have b15 := F15.binds (ps := ["value"]) fun _ _ _ _ _ _ us hl => match us, hl with | [_], _ => rfl
  have F16 := fun_mk (st := s_is_rising) l16 c16 k16
  have b16 := F16.binds (ps := ["values"]) fun _ _ _ _ _ _ us hl => match us, hl with | [_], _ => rfl
  have F17 := fun_mk (st := s_fits_kind) l17 c17 k17
  have b17 := F17.binds (ps := ["value"]) fun _ _ _ _ _ _ us hl => match us, hl with | [_], _ => rfl
  have F18 := fun_mk (st := s_fits_table) l18 c18 k18
  have b18 := F18.binds (ps := ["value"]) fun _ _ _ _ _ _ us hl => match us, hl with | [_], _ => rfl
  have F19 := fun_mk (st := s_need_table) l19 c19 k19
  have b19 := F19.binds (ps := ["value"]) fun _ _ _ _ _ _ us hl => match us, hl with | [_], _ => rfl
  have F20 := fun_mk (st := s_is_whole) l20 c20 k20
  have b20 := F20.binds (ps := ["value"]) fun _ _ _ _ _ _ us hl => match us, hl with | [_], _ => rfl
  have F21 := fun_mk (st := s_fits_whole) l21 c21 k21
  have b21 := F21.binds (ps := ["value", "low", "high"]) fun _ _ _ _ _ _ us hl => match us, hl with | [_, _, _], _ => rfl
  have F22 := fun_mk (st := s_fits_place) l22 c22 k22
  have b22 := F22.binds (ps := ["plot", "value"]) fun _ _ _ _ _ _ us hl => match us, hl with | [_, _], _ => rfl
  have F23 := fun_mk (st := s_need_place) l23 c23 k23
  have b23 := F23.binds (ps := ["plot", "value"]) fun _ _ _ _ _ _ us hl => match us, hl with | [_, _], _ => rfl
  have F24 := fun_mk (st := s_need_tree) l24 c24 k24
  have b24 := F24.binds (ps := ["plot", "place"]) fun _ _ _ _ _ _ us hl => match us, hl with | [_, _], _ => rfl
  have F25 := fun_mk (st := s_mates_in) l25 c25 k25
  have b25 := F25.binds (ps := ["table", "kind"]) fun _ _ _ _ _ _ us hl => match us, hl with | [_, _], _ => rfl
  have F26 := fun_mk (st := s_places_in) l26 c26 k26
  have b26 := F26.binds (ps := ["plot"]) fun _ _ _ _ _ _ us hl => match us, hl with | [_], _ => rfl
  have F27 := fun_mk (st := s_trees_in) l27 c27 k27
  have b27 := F27.binds (ps := ["plot"]) fun _ _ _ _ _ _ us hl => match us, hl with | [_], _ => rfl
  have F28 := fun_mk (st := s_far_in) l28 c28 k28
  have b28 := F28.binds (ps := ["one", "other"]) fun _ _ _ _ _ _ us hl => match us, hl with | [_, _], _ => rfl
  have F29 := fun_mk (st := s_givers_in) l29 c29 k29
  have b29 := F29.binds (ps := ["plot", "table", "reach", "place"]) fun _ _ _ _ _ _ us hl => match us, hl with | [_, _, _, _], _ => rfl
  have F30 := fun_mk (st := s_reach_for) l30 c30 k30
  have b30 := F30.binds (ps := ["plot", "table", "place"]) fun _ _ _ _ _ _ us hl => match us, hl with | [_, _, _], _ => rfl
  have F31 := fun_mk (st := s_does_set) l31 c31 k31
  have b31 := F31.binds (ps := ["plot", "table", "reach", "place"]) fun _ _ _ _ _ _ us hl => match us, hl with | [_, _, _, _], _ => rfl
  have F32 := fun_mk (st := s_lonely_in) l32 c32 k32
  have b32 := F32.binds (ps := ["plot", "table", "reach"]) fun _ _ _ _ _ _ us hl => match us, hl with | [_, _, _], _ => rfl
  have F33 := fun_mk (st := s_set_counts) l33 c33 k33
  have b33 := F33.binds (ps := ["plot", "table"]) fun _ _ _ _ _ _ us hl => match us, hl with | [_, _], _ => rfl
  have F34 := fun_mk (st := s_hermits) l34 c34 k34
  have b34 := F34.binds (ps := ["plot", "table"]) fun _ _ _ _ _ _ us hl => match us, hl with | [_, _], _ => rfl
  have F35 := fun_mk (st := s_reach_for_all) l35 c35 k35
  have b35 := F35.binds (ps := ["plot", "table"]) fun _ _ _ _ _ _ us hl => match us, hl with | [_, _], _ => rfl
  have F36 := fun_mk (st := s__law_right) l36 c36 k36
  have b36 := F36.binds (ps := ["cup"]) fun _ _ _ _ _ _ us hl => match us, hl with | [_], _ => rfl
  have F37 := fun_mk (st := s_need_reach) l37 c37 k37
  have b37 := F37.binds (ps := ["value"]) fun _ _ _ _ _ _ us hl => match us, hl with | [_], _ => rfl
  have F38 := fun_mk (st := s_need_all) l38 c38 k38
  have b38 := F38.binds (ps := ["plot", "table", "reach"]) fun _ _ _ _ _ _ us hl => match us, hl with | [_, _, _], _ => rfl
  have F39 := fun_mk (st := s_lonely_trees) l39 c39 k39
  have b39 := F39.binds (ps := ["plot", "table", "reach"]) fun _ _ _ _ _ _ us hl => match us, hl with | [_, _, _], _ => rfl
  have F40 := fun_mk (st := s_law) l40 c40 k40
  have z_abs := PySem.W.mg_none_of X G z0
  have z_all := PySem.W.mg_none_of X G z1
  have z_bool := PySem.W.mg_none_of X G z2
  have z_int := PySem.W.mg_none_of X G z3
  have z_isinstance := PySem.W.mg_none_of X G z4
  have z_len := PySem.W.mg_none_of X G z5
  have z_list := PySem.W.mg_none_of X G z6
  have z_max := PySem.W.mg_none_of X G z7
  have z_min := PySem.W.mg_none_of X G z8
  have z_range := PySem.W.mg_none_of X G z9
  have z_str := PySem.W.mg_none_of X G z10
  have z_tuple := PySem.W.mg_none_of X G z11
  have z_zip := PySem.W.mg_none_of X G z12
  have c_BARE : GlbOk1 K mg "BARE" (.str ".") := ⟨.str ".", _, PySem.W.mg_of X G q0, ⟨_, rfl⟩, fun _ _ => ⟨rfl, by decide⟩⟩
  have c_KINDS : GlbOk1 K mg "KINDS" (.str "abcdefgh") := ⟨.str "abcdefgh", _, PySem.W.mg_of X G q1, ⟨_, rfl⟩, fun _ _ => ⟨rfl, by decide⟩⟩
  have c_SIDE : GlbOk1 K mg "SIDE" (.int 12) := ⟨.int (12), _, PySem.W.mg_of X G q2, ⟨_, rfl⟩, fun _ _ => rfl⟩
  refine ⟨PySem.W.fnOf "law" "law" (defArgs s_law) (defBody s_law) (defScope s_law) .none kV40 dc40 pm40 an40 cd40 ct40, fun s v => .of_eq rfl, fun base _ _ => ?_⟩
  have h__law_cup := ok__law_cup (P := l.prog) (w := w) (base := base) (cls := fun _ => .none) F0 b0 z_int z_abs z_list (PySem.W.mg_of X G a0)
  have h__law_roll := ok__law_roll (P := l.prog) (w := w) (base := base) (cls := fun _ => .none) F1 b1 z_int (PySem.W.mg_of X G a1)
  have h__law_some := ok__law_some (P := l.prog) (w := w) (base := base) (cls := fun _ => .none) F2 b2 h__law_roll z_len (PySem.W.mg_of X G a2)
  have h__law_plot := ok__law_plot (P := l.prog) (w := w) (base := base) (cls := fun _ => .none) F3 b3 h__law_some h__law_roll z_tuple z_range z_len (PySem.W.mg_of X G a3)
  have h__law_table := ok__law_table (P := l.prog) (w := w) (base := base) (cls := fun _ => .none) F4 b4 h__law_roll z_tuple (PySem.W.mg_of X G a4)
  have h__law_places := ok__law_places (P := l.prog) (w := w) (base := base) (cls := fun _ => .none) F5 b5 z_range z_len (PySem.W.mg_of X G a5)
  have h__law_trees := ok__law_trees (P := l.prog) (w := w) (base := base) (cls := fun _ => .none) F6 b6 h__law_places (PySem.W.mg_of X G a6)
  have h__law_far := ok__law_far (P := l.prog) (w := w) (base := base) (cls := fun _ => .none) F7 b7 z_max (PySem.W.mg_of X G a7)
  have h__law_gives := ok__law_gives (P := l.prog) (w := w) (base := base) (cls := fun _ => .none) F8 b8 h__law_far (PySem.W.mg_of X G a8)
  have h__law_givers := ok__law_givers (P := l.prog) (w := w) (base := base) (cls := fun _ => .none) F9 b9 h__law_trees h__law_gives (PySem.W.mg_of X G a9)
  have h__law_lonely := ok__law_lonely (P := l.prog) (w := w) (base := base) (cls := fun _ => .none) F10 b10 h__law_trees h__law_givers (PySem.W.mg_of X G a10)
  have h__law_same := ok__law_same (P := l.prog) (w := w) (base := base) (cls := fun _ => .none) F11 b11 z_str z_isinstance z_int z_bool z_tuple z_all z_range z_len (PySem.W.mg_of X G a11)
  have h_fits_row := ok_fits_row (P := l.prog) (w := w) (base := base) (cls := fun _ => .none) F12 b12 c_KINDS c_BARE c_SIDE z_all z_len z_isinstance z_str (PySem.W.mg_of X G a12)
  have h_is_tuple_of := ok_is_tuple_of (P := l.prog) (w := w) (base := base) (cls := fun _ => .none) F13 b13 z_len z_isinstance z_tuple (PySem.W.mg_of X G a13)
  have h_fits_plot := ok_fits_plot (P := l.prog) (w := w) (base := base) (cls := fun _ => .none) F14 b14 h_fits_row h_is_tuple_of c_SIDE z_all z_len (PySem.W.mg_of X G a14)
  have h_need_plot := ok_need_plot (P := l.prog) (w := w) (base := base) (cls := fun _ => .none) F15 b15 h_fits_plot (PySem.W.mg_of X G a15)
  have h_is_rising := ok_is_rising (P := l.prog) (w := w) (base := base) (cls := fun _ => .none) F16 b16 z_all z_zip (PySem.W.mg_of X G a16)
  have h_fits_kind := ok_fits_kind (P := l.prog) (w := w) (base := base) (cls := fun _ => .none) F17 b17 c_KINDS z_len z_isinstance z_str (PySem.W.mg_of X G a17)
  have h_fits_table := ok_fits_table (P := l.prog) (w := w) (base := base) (cls := fun _ => .none) F18 b18 h_is_rising h_fits_kind z_all z_len z_isinstance z_str z_tuple (PySem.W.mg_of X G a18)
  have h_need_table := ok_need_table (P := l.prog) (w := w) (base := base) (cls := fun _ => .none) F19 b19 h_fits_table (PySem.W.mg_of X G a19)
  have h_is_whole := ok_is_whole (P := l.prog) (w := w) (base := base) (cls := fun _ => .none) F20 b20 z_isinstance z_bool z_int (PySem.W.mg_of X G a20)
  have h_fits_whole := ok_fits_whole (P := l.prog) (w := w) (base := base) (cls := fun _ => .none) F21 b21 h_is_whole (PySem.W.mg_of X G a21)
  have h_fits_place := ok_fits_place (P := l.prog) (w := w) (base := base) (cls := fun _ => .none) F22 b22 h_fits_whole h_is_tuple_of z_len (PySem.W.mg_of X G a22)
  have h_need_place := ok_need_place (P := l.prog) (w := w) (base := base) (cls := fun _ => .none) F23 b23 h_fits_place (PySem.W.mg_of X G a23)
  have h_need_tree := ok_need_tree (P := l.prog) (w := w) (base := base) (cls := fun _ => .none) F24 b24 h_need_place c_BARE (PySem.W.mg_of X G a24)
  have h_mates_in := ok_mates_in (P := l.prog) (w := w) (base := base) (cls := fun _ => .none) F25 b25 (PySem.W.mg_of X G a25)
  have h_places_in := ok_places_in (P := l.prog) (w := w) (base := base) (cls := fun _ => .none) F26 b26 z_range z_len (PySem.W.mg_of X G a26)
  have h_trees_in := ok_trees_in (P := l.prog) (w := w) (base := base) (cls := fun _ => .none) F27 b27 h_places_in c_BARE (PySem.W.mg_of X G a27)
  have h_far_in := ok_far_in (P := l.prog) (w := w) (base := base) (cls := fun _ => .none) F28 b28 z_abs (PySem.W.mg_of X G a28)
  have h_givers_in := ok_givers_in (P := l.prog) (w := w) (base := base) (cls := fun _ => .none) F29 b29 h_mates_in h_trees_in h_far_in (PySem.W.mg_of X G a29)
  have h_reach_for := ok_reach_for (P := l.prog) (w := w) (base := base) (cls := fun _ => .none) F30 b30 h_need_plot h_need_table h_need_tree h_givers_in h_far_in c_SIDE z_min (PySem.W.mg_of X G a30)
  have h_does_set := ok_does_set (P := l.prog) (w := w) (base := base) (cls := fun _ => .none) F31 b31 h_givers_in (PySem.W.mg_of X G a31)
  have h_lonely_in := ok_lonely_in (P := l.prog) (w := w) (base := base) (cls := fun _ => .none) F32 b32 h_trees_in h_does_set (PySem.W.mg_of X G a32)
  have h_set_counts := ok_set_counts (P := l.prog) (w := w) (base := base) (cls := fun _ => .none) F33 b33 h_need_plot h_need_table h_trees_in h_lonely_in c_SIDE z_len z_tuple z_range (PySem.W.mg_of X G a33)
  have h_hermits := ok_hermits (P := l.prog) (w := w) (base := base) (cls := fun _ => .none) F34 b34 h_need_plot h_need_table h_lonely_in c_SIDE z_tuple (PySem.W.mg_of X G a34)
  have h_reach_for_all := ok_reach_for_all (P := l.prog) (w := w) (base := base) (cls := fun _ => .none) F35 b35 h_need_plot h_need_table h_trees_in h_reach_for z_max (PySem.W.mg_of X G a35)
  have h__law_right := ok__law_right (P := l.prog) (w := w) (base := base) (cls := fun _ => .none) F36 b36 h__law_plot h__law_table h__law_trees h__law_lonely h__law_same h_reach_for h_set_counts h_hermits h_reach_for_all z_range z_max z_tuple z_len (PySem.W.mg_of X G a36)
  have h_need_reach := ok_need_reach (P := l.prog) (w := w) (base := base) (cls := fun _ => .none) F37 b37 h_fits_whole c_SIDE (PySem.W.mg_of X G a37)
  have h_need_all := ok_need_all (P := l.prog) (w := w) (base := base) (cls := fun _ => .none) F38 b38 h_need_plot h_need_table h_need_reach (PySem.W.mg_of X G a38)
  have h_lonely_trees := ok_lonely_trees (P := l.prog) (w := w) (base := base) (cls := fun _ => .none) F39 b39 h_need_all h_lonely_in z_tuple (PySem.W.mg_of X G a39)
  exact ok_law (cls := fun _ => .none) F40 h__law_cup h__law_right h__law_roll h_lonely_trees h_hermits h_reach_for_all h_reach_for h__law_same z_range z_tuple hL
end OLaw
open PySem PySem.W PyProof.Rows
set_option maxHeartbeats 0 in
theorem PySem.Challenge.cw_orchardrows_k12_whole_reach_that_is_need_holds : PySem.Challenge.rw_orchardrows_k12_whole_reach_that_is_need.Holds := by
  w_on; o_law; k_head; (case hw => w_witness2)
  k_fill
  refine L2.walk_of (l := PySem.Challenge.rw_orchardrows_k12_whole_reach_that_is_need) (n := 63) (k := 9) (x := "script") (CX := fun w => L2.CX PySem.Challenge.rw_orchardrows_k12_whole_reach_that_is_need.prog w) (sp := fun w => OR.spLaw _ 63) rfl (by decide) rfl ⟨rfl, by decide, by decide⟩ (fun w h Y => PySem.W.kIn_of Y) ?F (fun _ _ a ns hl _ hS => ⟨a, ns, rfl, hS, hl, fun _ => rfl⟩) (fun _ _ _ _ _ h => OR.cx_no h)
  case F =>
    intro w mg fa h KX G hmg
    refine' OLaw.all_mk KX G hmg OLaw.law_true ?a0 ?l0 ?c0 ?k0 ?a1 ?l1 ?c1 ?k1 ?a2 ?l2 ?c2 ?k2 ?a3 ?l3 ?c3 ?k3 ?a4 ?l4 ?c4 ?k4 ?a5 ?l5 ?c5 ?k5 ?a6 ?l6 ?c6 ?k6 ?a7 ?l7 ?c7 ?k7 ?a8 ?l8 ?c8 ?k8 ?a9 ?l9 ?c9 ?k9 ?a10 ?l10 ?c10 ?k10 ?a11 ?l11 ?c11 ?k11 ?a12 ?l12 ?c12 ?k12 ?a13 ?l13 ?c13 ?k13 ?a14 ?l14 ?c14 ?k14 ?a15 ?l15 ?c15 ?k15 ?a16 ?l16 ?c16 ?k16 ?a17 ?l17 ?c17 ?k17 ?a18 ?l18 ?c18 ?k18 ?a19 ?l19 ?c19 ?k19 ?a20 ?l20 ?c20 ?k20 ?a21 ?l21 ?c21 ?k21 ?a22 ?l22 ?c22 ?k22 ?a23 ?l23 ?c23 ?k23 ?a24 ?l24 ?c24 ?k24 ?a25 ?l25 ?c25 ?k25 ?a26 ?l26 ?c26 ?k26 ?a27 ?l27 ?c27 ?k27 ?a28 ?l28 ?c28 ?k28 ?a29 ?l29 ?c29 ?k29 ?a30 ?l30 ?c30 ?k30 ?a31 ?l31 ?c31 ?k31 ?a32 ?l32 ?c32 ?k32 ?a33 ?l33 ?c33 ?k33 ?a34 ?l34 ?c34 ?k34 ?a35 ?l35 ?c35 ?k35 ?a36 ?l36 ?c36 ?k36 ?a37 ?l37 ?c37 ?k37 ?a38 ?l38 ?c38 ?k38 ?a39 ?l39 ?c39 ?k39 ?a40 ?l40 ?c40 ?k40 ?z0 ?z1 ?z2 ?z3 ?z4 ?z5 ?z6 ?z7 ?z8 ?z9 ?z10 ?z11 ?z12 ?q0 ?q1 ?q2
    (case a0 => k_is); (case l0 => k_is); (case c0 => k_is); (case k0 => k_is); (case a1 => k_is); (case l1 => k_is); (case c1 => k_is); (case k1 => k_is); (case a2 => k_is); (case l2 => k_is); (case c2 => k_is); (case k2 => k_is); (case a3 => k_is); (case l3 => k_is); (case c3 => k_is); (case k3 => k_is); (case a4 => k_is); (case l4 => k_is); (case c4 => k_is); (case k4 => k_is); (case a5 => k_is); (case l5 => k_is); (case c5 => k_is); (case k5 => k_is); (case a6 => k_is); (case l6 => k_is); (case c6 => k_is); (case k6 => k_is); (case a7 => k_is); (case l7 => k_is); (case c7 => k_is); (case k7 => k_is); (case a8 => k_is); (case l8 => k_is); (case c8 => k_is); (case k8 => k_is); (case a9 => k_is); (case l9 => k_is); (case c9 => k_is); (case k9 => k_is); (case a10 => k_is); (case l10 => k_is); (case c10 => k_is); (case k10 => k_is); (case a11 => k_is); (case l11 => k_is); (case c11 => k_is); (case k11 => k_is); (case a12 => k_is); (case l12 => k_is); (case c12 => k_is); (case k12 => k_is); (case a13 => k_is); (case l13 => k_is); (case c13 => k_is); (case k13 => k_is); (case a14 => k_is); (case l14 => k_is); (case c14 => k_is); (case k14 => k_is); (case a15 => k_is); (case l15 => k_is); (case c15 => k_is); (case k15 => k_is); (case a16 => k_is); (case l16 => k_is); (case c16 => k_is); (case k16 => k_is); (case a17 => k_is); (case l17 => k_is); (case c17 => k_is); (case k17 => k_is); (case a18 => k_is); (case l18 => k_is); (case c18 => k_is); (case k18 => k_is); (case a19 => k_is); (case l19 => k_is); (case c19 => k_is); (case k19 => k_is); (case a20 => k_is); (case l20 => k_is); (case c20 => k_is); (case k20 => k_is); (case a21 => k_is); (case l21 => k_is); (case c21 => k_is); (case k21 => k_is); (case a22 => k_is); (case l22 => k_is); (case c22 => k_is); (case k22 => k_is); (case a23 => k_is); (case l23 => k_is); (case c23 => k_is); (case k23 => k_is); (case a24 => k_is); (case l24 => k_is); (case c24 => k_is); (case k24 => k_is); (case a25 => k_is); (case l25 => k_is); (case c25 => k_is); (case k25 => k_is); (case a26 => k_is); (case l26 => k_is); (case c26 => k_is); (case k26 => k_is); (case a27 => k_is); (case l27 => k_is); (case c27 => k_is); (case k27 => k_is); (case a28 => k_is); (case l28 => k_is); (case c28 => k_is); (case k28 => k_is); (case a29 => k_is); (case l29 => k_is); (case c29 => k_is); (case k29 => k_is); (case a30 => k_is); (case l30 => k_is); (case c30 => k_is); (case k30 => k_is); (case a31 => k_is); (case l31 => k_is); (case c31 => k_is); (case k31 => k_is); (case a32 => k_is); (case l32 => k_is); (case c32 => k_is); (case k32 => k_is); (case a33 => k_is); (case l33 => k_is); (case c33 => k_is); (case k33 => k_is); (case a34 => k_is); (case l34 => k_is); (case c34 => k_is); (case k34 => k_is); (case a35 => k_is); (case l35 => k_is); (case c35 => k_is); (case k35 => k_is); (case a36 => k_is); (case l36 => k_is); (case c36 => k_is); (case k36 => k_is); (case a37 => k_is); (case l37 => k_is); (case c37 => k_is); (case k37 => k_is); (case a38 => k_is); (case l38 => k_is); (case c38 => k_is); (case k38 => k_is); (case a39 => k_is); (case l39 => k_is); (case c39 => k_is); (case k39 => k_is); (case a40 => k_is); (case l40 => k_is); (case c40 => k_is); (case k40 => k_is); (case z0 => k_is); (case z1 => k_is); (case z2 => k_is); (case z3 => k_is); (case z4 => k_is); (case z5 => k_is); (case z6 => k_is); (case z7 => k_is); (case z8 => k_is); (case z9 => k_is); (case z10 => k_is); (case z11 => k_is); (case z12 => k_is); (case q0 => k_is); (case q1 => k_is); (case q2 => k_is)
