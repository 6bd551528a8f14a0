import PyProof.Rows.All
import Wide.All
import OpenK.AllK
import Wide.FinOn
import KE.KStateDown
import Lean
import HandS.More
import HandS.Words
import HandS.WordsExc
import HandS.ForMost
import HandS.ForExc
import KE.KDictKeyed
import HandS.TupAny
import HandS.SortInts
import HandS.StrMore
import HandS.Conv
import HandS.Deep
import HandS.IsInst
import HandS.ReplaceLit
import KE.KDictCopyH
import KE.KDictDisplayH
import HandS.TupLen
import HandS.ReCall
import HandS.ExcOwn
import HandS.DictComp
import HandS.Iter
import HandS.TupLe
import HandS.Replace
import HandS.Head0
import HandS.Head1
import HandS.Head2
import HandS.HeadEnd
import HandS.HeadHook1
import HandS.HeadHook2
import HandS.Defaults
import HandS.Ends
import HandS.HeadHook3
import HandS.HeadHook4
import PySem.Challenge.RW_trueofwords_k00_texts_there_and_back
set_option Elab.async false
set_option linter.all false
set_option maxRecDepth 100000
set_option maxHeartbeats 0
/-! E1: the values D, the core text, its meaning as weakest preconditions. -/
namespace Pv
open PySem (PyData NestedKey)
abbrev Addr := PySem.Addr

/-- a value. slot i: the mutable object that slot i owns; ol, od: a list, a dict that nobody else holds -/
inductive D where
  | non | bl (b : Bool) | int (i : Int) | str (x : List Nat)
  | tup (xs : List D) | lst (xs : List D) | dct (kvs : List (D × D))
  | ref (a : Addr) | slot (i : Nat) | ol (xs : List D) | od (kvs : List (D × D))
  deriving Inhabited

/-- a boxed object -/
inductive MO where
  | l (xs : List D) | d (kvs : List (D × D)) | ins (C : Nat) (fs : List (Nat × D))
abbrev Mem := Addr → Option MO
def mset (M : Mem) (a : Addr) (o : MO) : Mem := fun b => if b = a then some o else M b
theorem mset_same {M : Mem} {a : Addr} {o : MO} : mset M a o a = some o := if_pos rfl
theorem mset_ne {M : Mem} {a b : Addr} {o : MO} (h : b ≠ a) : mset M a o b = M b := if_neg h
abbrev St := List (Option D)

/-! ### reading values -/
def strOf (x : List Nat) : PySem.Str := ⟨x.toArray⟩
mutual
def D.pd : D → PyData
  | .non => .none
  | .bl b => .bool b
  | .int i => .int i
  | .str x => .str (strOf x)
  | .tup xs => .tuple (pds xs)
  | .lst xs => .list (pds xs)
  | _ => .none
def pds : List D → List PyData
  | [] => []
  | x :: xs => x.pd :: pds xs
end
mutual
/-- data through and through: no dict, no object -/
def D.dat : D → Bool
  | .non => true
  | .bl _ => true
  | .int _ => true
  | .str _ => true
  | .tup xs => dats xs
  | .lst xs => dats xs
  | _ => false
def dats : List D → Bool
  | [] => true
  | x :: xs => x.dat && dats xs
end
mutual
def D.nk : D → NestedKey
  | .non => .none
  | .bl b => .num (if b then 1 else 0)
  | .int i => .num i
  | .str x => .text (strOf x)
  | .tup xs => .tup (nks xs)
  | _ => .none
def nks : List D → List NestedKey
  | [] => []
  | x :: xs => x.nk :: nks xs
end
mutual
def D.keyd : D → Bool
  | .non => true
  | .bl _ => true
  | .int _ => true
  | .str _ => true
  | .tup xs => keyds xs
  | _ => false
def keyds : List D → Bool
  | [] => true
  | x :: xs => x.keyd && keyds xs
end
def D.isTup : D → Bool
  | .tup _ => true
  | _ => false
/-- may be a key, to the depth 8 -/
def D.isKey (d : D) : Bool := d.keyd && decide (d.nk.depth ≤ 8)
def D.isNon : D → Bool
  | .non => true
  | _ => false
/-- no parts -/
def D.flat : D → Bool
  | .non => true
  | .bl _ => true
  | .int _ => true
  | .str _ => true
  | _ => false
def D.eqv (a b : D) : Bool := PyData.eqv a.pd b.pd
def D.shp (a : D) : Bool := a.dat && PySem.SeqAt.shaped a.pd

abbrev SZ : Nat := 16777216
/-! ### dicts -/
def dget (kvs : List (D × D)) (k : D) : Option D := (kvs.find? fun p => p.1.nk = k.nk).map (·.2)
def dput (kvs : List (D × D)) (k v : D) : List (D × D) :=
  if (dget kvs k).isSome then kvs.map fun p => if p.1.nk = k.nk then (p.1, v) else p else kvs ++ [(k, v)]
def ddel (kvs : List (D × D)) (k : D) : List (D × D) := kvs.filter fun p => !decide (p.1.nk = k.nk)
/-- a dict's keys and a new one are of one sort: tuples, or none of them a tuple -/
def kSort : D → Nat
  | .int _ => 0
  | .str _ => 0
  | .bl _ => 1
  | .tup _ => 2
  | _ => 3
def kOk (kvs : List (D × D)) (k : D) : Bool := (k.isKey && decide (kSort k < 3)) && kvs.all fun p => kSort p.1 == kSort k

/-! ### operators -/
inductive Bop where | add | sub | mul | mod | fdiv | pow | shl | shr | band | bor
inductive Cop where | eq | ne | lt | le | gt | ge | isIn | notIn
/-- built-ins -/
inductive Bf where
  | len | abs | int | str | sum | tuple | list | sorted | dict | max2 | min2 | maxL | minL | isBool | isInt | isStr | isList | isTuple | lrng1 | lrng2 | lrng3 | trng1
/-- methods of built-in types -/
inductive Bm where
  | index | join | replace | split | isascii | isalnum | get | get0 | items
/-- methods that change a list, a dict -/
inductive Mm where
  | append | pop | popAt | extend | reverse | insert | setdefault | update

def lim (x : List α) : Option (List α) := if x.length ≤ SZ then some x else none
def mulOk (i j : Int) : Bool := (decide (-(2 ^ 64) < i) && decide (i < 2 ^ 64)) || (decide (-(2 ^ 64) < j) && decide (j < 2 ^ 64))
def opBin : Bop → D → D → Option D
  | .add, .int i, .int j => some (.int (i + j))
  | .add, .str x, .str y => (lim (x ++ y)).map .str
  | .add, .tup x, .tup y => (lim (x ++ y)).map .tup
  | .add, .lst x, .lst y => (lim (x ++ y)).map .ol
  | .sub, .int i, .int j => some (.int (i - j))
  | .mul, .int i, .int j => if mulOk i j then some (.int (i * j)) else none
  | .mul, .str x, .int n => if 0 ≤ n ∧ n ≤ 1000 ∧ x.length ≤ 1000 then some (.str (List.replicate n.toNat x).flatten) else none
  | .mod, .int i, .int j => if 0 < j then some (.int (i % j)) else none
  | .fdiv, .int i, .int j => if 0 < j ∧ j < 1073741824 then some (.int (i / j)) else none
  | .pow, .int i, .int j => if 0 ≤ j ∧ j ≤ 1000 ∧ i.natAbs < 2 ^ 64 then some (.int (i ^ j.toNat)) else none
  | _, _, _ => none

def isSub (x y : List Nat) : Bool := x.isPrefixOf y || match y with
  | [] => false
  | _ :: r => isSub x r

def cmpI (f : Int → Int → Bool) : D → D → Option Bool
  | .int i, .int j => some (f i j)
  | _, _ => none
def inStr (a : D) (y : List Nat) : Option Bool := match a with
  | .str [c] => some (decide (c ∈ y))
  | .str x => some (!(PySem.Builtin.Str.occurrences (strOf y) (strOf x) 0 (strOf y).length 1).isEmpty)
  | _ => none
/-- a in b -/
def opIn (a : D) : D → Option Bool
  | .str y => inStr a y
  | .lst ys => if a.shp && (D.lst ys).shp then some (ys.any fun y => y.eqv a) else none
  | .tup ys => if a.flat && ys.all D.flat then some (ys.any fun y => y.eqv a) else none
  | .dct kvs => if kOk kvs a then some (dget kvs a).isSome else none
  | _ => none
def opEq (a b : D) : Option Bool := if a.shp && b.shp then some (a.eqv b) else none
def opCmp : Cop → D → D → Option Bool
  | .eq => opEq
  | .ne => fun a b => (opEq a b).map (!·)
  | .lt => cmpI fun i j => decide (i < j)
  | .le => cmpI fun i j => decide (i ≤ j)
  | .gt => cmpI fun i j => decide (j < i)
  | .ge => cmpI fun i j => decide (j ≤ i)
  | .isIn => opIn
  | .notIn => fun a b => (opIn a b).map (!·)
def opIdx : D → D → Option D
  | .tup xs, .int i => L2.atI xs i
  | .lst xs, .int i => L2.atI xs i
  | .str xs, .int i => (L2.atI xs i).map fun c => .str [c]
  | .dct kvs, k => if kOk kvs k then dget kvs k else none
  | _, _ => none
/-- x[lo:hi] -/
def cutL (lo hi : Option Int) (xs : List α) : List α := (xs.drop (HT.sIx xs.length 0 lo)).take (HT.sIx xs.length xs.length hi - HT.sIx xs.length 0 lo)
def opSlc (lo hi : Option Int) : D → Option D
  | .tup xs => some (.tup (cutL lo hi xs))
  | .lst xs => some (.ol (cutL lo hi xs))
  | .str xs => some (.str (cutL lo hi xs))
  | _ => none

/-- the items that a walk gives -/
def items : D → Option (List D)
  | .tup xs => some xs
  | .lst xs => some xs
  | .str xs => some (xs.map fun c => .str [c])
  | _ => none
/-- .. d is walked, which reads as v -/
def walk (d v : D) : Option (List D) := match d with
  | .dct kvs => if (kvs.all (fun p => kSort p.1 == 0) && decide (kvs.length ≤ SZ)) = true then some (kvs.map (·.1)) else none
  | _ => items v
def intOf : D → Option Int
  | .int i => some i
  | _ => none
def strOf? : D → Option (List Nat)
  | .str x => some x
  | _ => none
def truth : D → Option Bool
  | .non => some false
  | .bl b => some b
  | .int i => some (i != 0)
  | .str x => some (!x.isEmpty)
  | .tup xs => some (!xs.isEmpty)
  | .lst xs => some (!xs.isEmpty)
  | _ => none
def digits (i : Int) : List Nat := (toString i).toList.map (·.toNat)
def rng (a c : Int) (n : Nat) : List D := (List.range n).map fun (k : Nat) => D.int (a + (k : Int) * c)
def rngN (a b c : Int) : Nat := if 0 < c then ((b - a + c - 1) / c).toNat else ((a - b - c - 1) / (-c)).toNat
def pairsOf : List D → Option (List (D × D))
  | [] => some []
  | .tup [k, v] :: r => (pairsOf r).map fun l => (k, v) :: l
  | _ => none
def pairUp : List D → Option (List (D × D))
  | [] => some []
  | k :: v :: r => (pairUp r).map fun l => (k, v) :: l
  | _ => none
def dputAll : List (D × D) → List (D × D) → Option (List (D × D))
  | kvs, [] => some kvs
  | kvs, (k, v) :: r => if kOk kvs k then dputAll (dput kvs k v) r else none
def op1 (f : D → Option D) : List D → Option D
  | [x] => f x
  | _ => none
def op2 (f : D → D → Option D) : List D → Option D
  | [x, y] => f x y
  | _ => none
def bLen : D → Option D
  | .tup xs => some (.int xs.length)
  | .lst xs => some (.int xs.length)
  | .str xs => some (.int xs.length)
  | .dct kvs => some (.int kvs.length)
  | _ => none
def bAbs : D → Option D
  | .int i => some (.int i.natAbs)
  | _ => none
def bInt : D → Option D
  | .int i => some (.int i)
  | .bl b => some (.int (if b then 1 else 0))
  | .str x => if x.length ≤ 640 then (PySem.intText? (strOf x)).map .int else none
  | _ => none
def bStr : D → Option D
  | .int i => if i.natAbs.log2 < 1900 ∧ (digits i).length ≤ SZ then some (.str (digits i)) else none
  | _ => none
def bSum : D → Option D
  | .lst xs => (xs.mapM intOf).map fun ns => .int ns.sum
  | _ => none
def bTup : D → Option D
  | .lst xs => some (.tup xs)
  | .tup xs => some (.tup xs)
  | _ => none
def bLst : D → Option D
  | .lst xs => some (.ol xs)
  | .tup xs => some (.ol xs)
  | .dct kvs => if kvs.all (fun p => kSort p.1 == 0) then some (.ol (kvs.map (·.1))) else none
  | _ => none
def bSrt : D → Option D
  | .lst xs => (xs.mapM intOf).map fun ns => .ol ((ns.mergeSort fun a b => decide (a ≤ b)).map .int)
  | .tup xs => (xs.mapM intOf).map fun ns => .ol ((ns.mergeSort fun a b => decide (a ≤ b)).map .int)
  | _ => none
def bDct : D → Option D
  | .lst xs => (pairsOf xs).bind fun ps => if ps.all (fun p => kSort p.1 == 0) then (dputAll [] ps).map .od else none
  | _ => none
def bMax : D → D → Option D
  | .int i, .int j => some (.int (if j > i then j else i))
  | _, _ => none
def bMin : D → D → Option D
  | .int i, .int j => some (.int (if j < i then j else i))
  | _, _ => none
/-- isinstance, for the built-in classes -/
def isBool : D → Option D
  | .bl _ => some (.bl true)
  | .ref _ => none
  | .slot _ => none
  | .dct _ => none
  | .ol _ => none
  | .od _ => none
  | _ => some (.bl false)
def isInt : D → Option D
  | .bl _ => some (.bl true)
  | .int _ => some (.bl true)
  | .ref _ => none
  | .slot _ => none
  | .dct _ => none
  | .ol _ => none
  | .od _ => none
  | _ => some (.bl false)
def isStr : D → Option D
  | .str _ => some (.bl true)
  | .ref _ => none
  | .slot _ => none
  | .dct _ => none
  | .ol _ => none
  | .od _ => none
  | _ => some (.bl false)
def isList : D → Option D
  | .lst _ => some (.bl true)
  | .ref _ => none
  | .slot _ => none
  | .dct _ => none
  | .ol _ => none
  | .od _ => none
  | _ => some (.bl false)
def isTuple : D → Option D
  | .tup _ => some (.bl true)
  | .ref _ => none
  | .slot _ => none
  | .dct _ => none
  | .ol _ => none
  | .od _ => none
  | _ => some (.bl false)
def opB : Bf → List D → Option D
  | .len => op1 bLen
  | .abs => op1 bAbs
  | .int => op1 bInt
  | .str => op1 bStr
  | .sum => op1 bSum
  | .tuple => op1 bTup
  | .list => op1 bLst
  | .sorted => op1 bSrt
  | .dict => op1 bDct
  | .max2 => op2 bMax
  | .min2 => op2 bMin
  | .isBool => op1 isBool
  | .isInt => op1 isInt
  | .isStr => op1 isStr
  | .isList => op1 isList
  | .isTuple => op1 isTuple
  | .lrng1 => op1 fun d => match d with
    | .int b => if b ≤ SZ then some (.ol (rng 0 1 b.toNat)) else none
    | _ => none
  | .lrng2 => op2 fun d e => match d, e with
    | .int a, .int b => if b - a ≤ SZ ∧ a.natAbs < 2 ^ 60 ∧ b.natAbs < 2 ^ 60 then some (.ol (rng a 1 (b - a).toNat)) else none
    | _, _ => none
  | .trng1 => op1 fun d => match d with
    | .int b => if b ≤ SZ then some (.tup (rng 0 1 b.toNat)) else none
    | _ => none
  | _ => fun _ => none
def idxOf (x : List Nat) : List Nat → Nat → Option Nat
  | y, n => if x.isPrefixOf y then some n else match y with
    | [] => none
    | _ :: r => idxOf x r (n + 1)
def joinL (sep : List Nat) : List (List Nat) → List Nat
  | [] => []
  | [x] => x
  | x :: r => x ++ sep ++ joinL sep r
/-- text.replace(y, z) -/
def replL (x y z : List Nat) : List Nat := (PySem.Txt.replace (strOf x) (strOf y) (strOf z)).cps.toList
def opM : Bm → D → List D → Option D
  | .index, .str y, [.str x] => ((PySem.Builtin.Str.occurrences (strOf y) (strOf x) 0 y.length 1).head?).map fun n => .int (n : Nat)
  | .get, .dct kvs, [k, x] => if kOk kvs k then some ((dget kvs k).getD x) else none
  | .get0, .dct kvs, [k] => if kOk kvs k then some ((dget kvs k).getD .non) else none
  | .join, .str sep, [.lst xs] => (xs.mapM strOf?).bind fun ys => if (ys.map (·.length)).sum + ys.length * sep.length ≤ SZ then some (.str (joinL sep ys)) else none
  | .isascii, .str x, [] => some (.bl (PySem.Txt.isascii (strOf x)))
  | .isalnum, .str x, [] => some (.bl (PySem.Txt.isalnum (strOf x)))
  | _, _, _ => none
/-- the receiver of a method -/
def bmT : Bm → D → Bool
  | .get, .dct _ => true
  | .get0, .dct _ => true
  | .items, .dct _ => true
  | .get, _ => false
  | .get0, _ => false
  | .items, _ => false
  | _, .str _ => true
  | _, _ => false
/-- what a changing method leaves, and gives -/
def opX : Mm → MO → List D → Option (MO × D)
  | .append, .l xs, [x] => if xs.length < SZ then some (.l (xs ++ [x]), .non) else none
  | .pop, .l xs, [] => xs.getLast?.map fun x => (.l xs.dropLast, x)
  | .reverse, .l xs, [] => some (.l xs.reverse, .non)
  | .extend, .l xs, [.lst ys] => if (xs ++ ys).length ≤ SZ then some (.l (xs ++ ys), .non) else none
  | .extend, .l xs, [.tup ys] => if (xs ++ ys).length ≤ SZ then some (.l (xs ++ ys), .non) else none
  | .setdefault, .d kvs, [k, x] => if kOk kvs k ∧ kvs.length < SZ then some (match dget kvs k with
      | some v => (.d kvs, v)
      | none => (.d (dput kvs k x), x)) else none
  | _, _, _ => none
/-- the receiver x of a changing method, which reads as y -/
def mmT (m : Mm) (x y : D) : Bool := (match x with
  | .slot _ => true
  | .ref _ => true
  | _ => false) && match m, y with
  | .setdefault, .dct _ => true
  | .update, .dct _ => true
  | .setdefault, _ => false
  | .update, _ => false
  | _, .lst _ => true
  | _, _ => false
/-- a[i] = v -/
def opSet : MO → D → D → Option MO
  | .l xs, .int i, v => (L2.ixN xs.length i).map fun k => .l (xs.set k v)
  | .d kvs, k, v => if kOk kvs k ∧ kvs.length < SZ then some (.d (dput kvs k v)) else none
  | _, _, _ => none

/-! ### the core text -/
inductive Tg where | n (i : Nat) | t (is : List Nat)
inductive Arm where | keep | box

mutual
inductive CE where
  | var (i : Nat) | con (d : D) | glob (g : Nat)
  | bin (op : Bop) (a b : CE) | neg (a : CE) | notE (a : CE) | andE (a b : CE) | orE (a b : CE)
  | cmp (op : Cop) (a b : CE) | chain (o1 o2 : Cop) (a b c : CE) | isN (neg : Bool) (a : CE) | isB (neg : Bool) (a : CE) (b : Bool)
  | ife (c : CT) (a b : CE)
  | tup (es : List CE) | lst (es : List CE) | dsp (es : List CE)
  | idx (a b : CE) | slc (a : CE) (lo hi : Option CE)
  | call (f : Nat) (bx : List Bool) (es : List CE)
  | new (C : Nat) (bx : List Bool) (es : List CE)
  | mth (C : Nat) (m : Nat) (o : CE) (bx : List Bool) (es : List CE)
  | fld (a : CE) (x : Nat)
  | tin (neg : Bool) (a : CE) (g : Nat) | tix (g : Nat) (a : CE) | tget (g : Nat) (a b : CE)
  | replI (a : CE) (i : Int) (y z : List Nat)
  | dead
  | bc (b : Bf) (es : List CE) | bm (m : Bm) (o : CE) (es : List CE) | mm (m : Mm) (o : CE) (es : List CE)
  | lc (elt : CE) (tg : Tg) (it : CE) (ifs : List CT)
  | lcr (elt : CE) (tg : Tg) (lo : Option CE) (hi : CE) (ifs : List CT)
  | dc (k v : CE) (tg : Tg) (it : CE) (ifs : List CT)
  | dcr (k v : CE) (tg : Tg) (lo : Option CE) (hi : CE) (ifs : List CT)
/-- a test -/
inductive CT where
  | val (e : CE) | not (a : CT) | and (a b : CT) | or (a b : CT) | ife (c a b : CT)
  | jnr (s : List Nat) (e o : CE) (y z : List Nat)
end

inductive CS where
  | asg (i : Nat) (e : CE) | asgT (is : List Nat) (e : CE) | setI (a i e : CE) | setF (a : CE) (x : Nat) (e : CE)
  | ex (e : CE) | ret (e : CE) | retN
  | ifS (c : CT) (a b : List CS) | whl (c : CT) (b : List CS)
  | for_ (tg : Tg) (it : CE) (b : List CS) | forR (tg : Tg) (lo : Option CE) (hi : CE) (b : List CS)
  | brk | cnt | pass
  | raise (C : Nat) (es : List CE)
  | try_ (b : List CS) (C : Nat) (n : Option Nat) (h : List CS)
  | dead

structure CDef where
  np : Nat
  ns : Nat
  body : List CS
structure Exn where
  cls : Nat
  pay : List D
structure Tab where
  defs : List CDef
  globs : List D
  meths : List ((Nat × Nat) × Nat)
  inits : List (Nat × Nat)
  tabs : List (List (List Nat × D)) := []

/-- a field gets a value -/
def putN (x : Nat) (v : D) : List (Nat × D) → List (Nat × D)
  | [] => [(x, v)]
  | (g, y) :: r => if g = x then (g, v) :: r else (g, y) :: putN x v r

/-! ### the meaning -/
abbrev Kt := D → St → Mem → Prop
abbrev Kb := Bool → St → Mem → Prop
abbrev Kl := List D → St → Mem → Prop
abbrev Ks := St → Mem → Prop
abbrev Kx := Exn → St → Mem → Prop
abbrev FSem := Nat → List D → Mem → (D → Mem → Prop) → (Exn → Mem → Prop) → Prop

/-- a value as it is to be read -/
def vw (σ : St) (M : Mem) : D → D
  | .slot i => match σ[i]? with
    | some (some (.ol xs)) => .lst xs
    | some (some (.od kvs)) => .dct kvs
    | _ => .slot i
  | .ref a => match M a with
    | some (.l xs) => .lst xs
    | some (.d kvs) => .dct kvs
    | _ => .ref a
  | .ol xs => .lst xs
  | .od kvs => .dct kvs
  | d => d
/-- a temporary value nobody else holds is frozen -/
def pk : D → D
  | .ol xs => .lst xs
  | .od kvs => .dct kvs
  | d => d
/-- the value goes elsewhere: what a slot owns is frozen -/
def frz (d : D) (σ : St) (M : Mem) (Q : Kt) : Prop := match d with
  | .ol xs => Q (.lst xs) σ M
  | .od kvs => Q (.dct kvs) σ M
  | .slot i => (match σ[i]? with
    | some (some (.ol xs)) => Q (.lst xs) (σ.set i (some (.lst xs))) M
    | some (some (.od kvs)) => Q (.dct kvs) (σ.set i (some (.dct kvs))) M
    | _ => False)
  | d => Q d σ M
/-- the value goes elsewhere: what a slot owns becomes a boxed object -/
def boxd (d : D) (σ : St) (M : Mem) (Q : Kt) : Prop := match d with
  | .ol xs => ∀ p, M p = none → Q (.ref p) σ (mset M p (.l xs))
  | .od kvs => ∀ p, M p = none → Q (.ref p) σ (mset M p (.d kvs))
  | .slot i => (match σ[i]? with
    | some (some (.ol xs)) => ∀ p, M p = none → Q (.ref p) (σ.set i (some (.ref p))) (mset M p (.l xs))
    | some (some (.od kvs)) => ∀ p, M p = none → Q (.ref p) (σ.set i (some (.ref p))) (mset M p (.d kvs))
    | _ => False)
  | d => Q d σ M
/-- the value is handed back: what a slot owns goes along -/
def handed (d : D) (σ : St) (M : Mem) (Q : D → Mem → Prop) : Prop := match d with
  | .slot i => (match σ[i]? with
    | some (some (.ol xs)) => Q (.ol xs) M
    | some (some (.od kvs)) => Q (.od kvs) M
    | _ => False)
  | d => Q d M
def asMO : D → Option MO
  | .ol xs => some (.l xs)
  | .od kvs => some (.d kvs)
  | _ => none
def asOwn : MO → Option D
  | .l xs => some (.ol xs)
  | .d kvs => some (.od kvs)
  | _ => none
/-- a change at the object d -/
def change (d : D) (f : MO → Option (MO × D)) (σ : St) (M : Mem) (Q : Kt) : Prop := match d with
  | .slot i => (match σ[i]? with
    | some (some (.ol xs)) => ∃ ys r, f (.l xs) = some (.l ys, r) ∧ Q r (σ.set i (some (.ol ys))) M
    | some (some (.od kvs)) => ∃ ls r, f (.d kvs) = some (.d ls, r) ∧ Q r (σ.set i (some (.od ls))) M
    | _ => False)
  | .ref p => (match M p with
    | some (.l xs) => ∃ ys r, f (.l xs) = some (.l ys, r) ∧ Q r σ (mset M p (.l ys))
    | some (.d kvs) => ∃ ls r, f (.d kvs) = some (.d ls, r) ∧ Q r σ (mset M p (.d ls))
    | _ => False)
  | _ => False
/-- a target's store (of a value that nobody owns) -/
def store : Tg → D → St → Mem → Ks → Prop
  | .n i, d, σ, M, Q => Q (σ.set i (some d)) M
  | .t is, d, σ, M, Q => ∃ xs, d = .tup xs ∧ xs.length = is.length ∧ Q ((is.zip xs).foldl (fun τ p => τ.set p.1 (some p.2)) σ) M

/-- through the items, one by one; chk: what is walked stands still -/
def goEach (chk : Ks) (step : D → Ks → Ks) (fin : Ks) : List D → Ks
  | [], σ, M => chk σ M ∧ fin σ M
  | x :: xs, σ, M => chk σ M ∧ step x (goEach chk step fin xs) σ M
/-- a list comprehension's items -/
def lcEach (chk : Ks) (step : D → (Option D → Ks) → Ks) (fin : List D → Ks) : List D → List D → Ks
  | [], acc, σ, M => chk σ M ∧ fin acc σ M
  | x :: xs, acc, σ, M => chk σ M ∧ step x (fun r => lcEach chk step fin xs (match r with
      | some y => acc ++ [y]
      | none => acc)) σ M
def dcEach (chk : Ks) (step : D → (Option (D × D) → Ks) → Ks) (fin : List (D × D) → Ks) : List D → List (D × D) → Ks
  | [], acc, σ, M => chk σ M ∧ fin acc σ M
  | x :: xs, acc, σ, M => chk σ M ∧ step x (fun r σ M => match r with
      | some (k, v) => (kOk acc k = true ∧ kSort k = 0) ∧ dcEach chk step fin xs (dput acc k v) σ M
      | none => dcEach chk step fin xs acc σ M) σ M
def slotsOf : Tg → List Nat
  | .n i => [i]
  | .t is => is
def wipeS (σ : St) : List Nat → St
  | [] => σ
  | i :: is => (wipeS σ is).set i none

/-- a comprehension's own names are as they were -/
def backS (σ τ : St) : List Nat → St
  | [] => τ
  | i :: is => (backS σ τ is).set i (match σ[i]? with
    | some (some d) => (match asMO d with
      | none => some d
      | some _ => none)
    | _ => none)
/-- nothing is let out -/
abbrev E0 : Kx := fun _ _ _ => False
section
variable (T : Tab) (Γ : FSem)
mutual
def wpE : Kx → CE → St → Mem → Kt → Prop
  | E, .var i, σ, M, Q => (match σ[i]? with
    | some (some (.ol _)) => Q (.slot i) σ M
    | some (some (.od _)) => Q (.slot i) σ M
    | some (some d) => Q d σ M
    | _ => False)
  | E, .con d, σ, M, Q => Q d σ M
  | E, .glob g, σ, M, Q => (match T.globs[g]? with
    | some d => Q d σ M
    | none => False)
  | E, .bin op a b, σ, M, Q => wpE E a σ M fun x σ M => wpE E b σ M fun y σ M => ∃ r, opBin op (vw σ M (pk x)) (vw σ M (pk y)) = some r ∧ Q r σ M
  | E, .neg a, σ, M, Q => wpE E a σ M fun x σ M => ∃ i, x = .int i ∧ Q (.int (-i)) σ M
  | E, .notE a, σ, M, Q => wpE E a σ M fun x σ M => ∃ b, x = .bl b ∧ Q (.bl (!b)) σ M
  | E, .andE a b, σ, M, Q => wpE E a σ M fun x σ M => ∃ c, x = .bl c ∧ (if c = true then wpE E b σ M Q else Q (.bl false) σ M)
  | E, .orE a b, σ, M, Q => wpE E a σ M fun x σ M => ∃ c, x = .bl c ∧ (if c = true then Q (.bl true) σ M else wpE E b σ M Q)
  | E, .cmp op a b, σ, M, Q => wpE E a σ M fun x σ M => wpE E b σ M fun y σ M => ∃ r, opCmp op (vw σ M (pk x)) (vw σ M (pk y)) = some r ∧ Q (.bl r) σ M
  | E, .chain o1 o2 a b c, σ, M, Q => wpE E a σ M fun x σ M => wpE E b σ M fun y σ M => ∃ i j r, x = .int i ∧ y = .int j ∧ opCmp o1 x y = some r ∧
      (if r = true then wpE E c σ M fun z σ M => ∃ r, opCmp o2 y (vw σ M (pk z)) = some r ∧ Q (.bl r) σ M else Q (.bl false) σ M)
  | E, .isN n a, σ, M, Q => wpE E a σ M fun x σ M => Q (.bl (x.isNon != n)) σ M
  | E, .isB n a b, σ, M, Q => wpE E a σ M fun x σ M => ∃ c, x = .bl c ∧ Q (.bl ((c == b) != n)) σ M
  | E, .ife c a b, σ, M, Q => wpT E c σ M fun t σ M => if t = true then wpE E a σ M Q else wpE E b σ M Q
  | E, .tup es, σ, M, Q => wpL E es σ M fun xs σ M => xs.length ≤ SZ ∧ Q (.tup xs) σ M
  | E, .lst es, σ, M, Q => wpL E es σ M fun xs σ M => xs.length ≤ SZ ∧ Q (.ol xs) σ M
  | E, .dsp es, σ, M, Q => wpL E0 es σ M fun xs σ M => xs.length ≤ 30 ∧ ∃ ps kvs, pairUp xs = some ps ∧ ps.all (fun p => kSort p.1 == 0) = true ∧ dputAll [] ps = some kvs ∧ Q (.od kvs) σ M
  | E, .idx a b, σ, M, Q => wpE E a σ M fun x σ M => wpE E b σ M fun y σ M => ∃ r, opIdx (vw σ M (pk x)) (pk y) = some r ∧ Q r σ M
  | E, .slc a lo hi, σ, M, Q => wpE E a σ M fun x σ M => wpO E lo σ M fun l σ M => wpO E hi σ M fun h σ M => ∃ r, opSlc l h (vw σ M (pk x)) = some r ∧ Q r σ M
  | E, .call f bx es, σ, M, Q => wpA E bx es σ M fun ds σ M => Γ f ds M (fun d M' => Q d σ M') fun x M' => E x σ M'
  | E, .new C bx es, σ, M, Q => wpA E bx es σ M fun ds σ M => (match T.inits.lookup C with
    | some f => ∀ p, M p = none → Γ f (.ref p :: ds) (mset M p (.ins C [])) (fun d M' => d = .non ∧ Q (.ref p) σ M') fun x M' => E x σ M'
    | none => False)
  | E, .mth C m o bx es, σ, M, Q => wpE E o σ M fun x σ M => ∃ p fs f, x = .ref p ∧ M p = some (.ins C fs) ∧ fs.lookup m = none ∧ T.meths.lookup (C, m) = some f ∧
      wpA E bx es σ M fun ds σ M => Γ f (.ref p :: ds) M (fun d M' => Q d σ M') fun x M' => E x σ M'
  | E, .fld a x, σ, M, Q => wpE E a σ M fun o σ M => ∃ p C fs d, o = .ref p ∧ M p = some (.ins C fs) ∧ (T.inits.lookup C).isSome = true ∧ fs.lookup x = some d ∧ Q d σ M
  | E, .tin n a g, σ, M, Q => wpE E a σ M fun x σ M => ∃ s kvs, x = .str s ∧ T.tabs[g]? = some kvs ∧ Q (.bl ((kvs.lookup s).isSome != n)) σ M
  | E, .tix g a, σ, M, Q => wpE E a σ M fun x σ M => ∃ s kvs d, x = .str s ∧ T.tabs[g]? = some kvs ∧ kvs.lookup s = some d ∧ Q d σ M
  | E, .tget g a b, σ, M, Q => wpE E a σ M fun x σ M => frz x σ M fun x σ M => wpE E b σ M fun y σ M => frz y σ M fun y σ M => ∃ s kvs, x = .str s ∧ T.tabs[g]? = some kvs ∧ Q ((kvs.lookup s).getD y) σ M
  | E, .replI a i y z, σ, M, Q => wpE E a σ M fun x σ M => ∃ s, opIdx (vw σ M (pk x)) (.int i) = some (.str s) ∧ y ≠ z ∧ s.length + (s.length + 1) * z.length ≤ SZ ∧ Q (.str (replL s y z)) σ M
  | E, .dead, σ, M, Q => False
  | E, .bc b es, σ, M, Q => wpV E es σ M fun xs σ M => ∃ r, opB b (xs.map (vw σ M)) = some r ∧ Q r σ M
  | E, .bm m o es, σ, M, Q => wpE E o σ M fun x σ M => bmT m (vw σ M (pk x)) = true ∧ wpV E es σ M fun ys σ M => ∃ r, opM m (vw σ M (pk x)) (ys.map (vw σ M)) = some r ∧ Q r σ M
  | E, .mm m o es, σ, M, Q => wpE E o σ M fun x σ M => mmT m x (vw σ M x) = true ∧ wpL E es σ M fun ys σ M => change x (fun o => opX m o ys) σ M Q
  | E, .lc e tg it ifs, σ, M, Q => wpE E it σ M fun d σ M => ∃ xs, walk (pk d) (vw σ M (pk d)) = some xs ∧
      lcEach (fun τ N => vw τ N (pk d) = vw σ M (pk d)) (fun x k τ N => store tg x τ N fun τ N => wpIfs E0 ifs τ N fun t τ N =>
        if t = true then wpE E0 e τ N fun y τ N => frz y τ N fun y τ N => k (some y) (wipeS τ (slotsOf tg)) N else k none (wipeS τ (slotsOf tg)) N)
        (fun ys τ N => Q (.ol ys) (backS σ τ (slotsOf tg)) N) xs [] (wipeS σ (slotsOf tg)) M
  | E, .lcr e tg lo hi ifs, σ, M, Q => wpO E lo σ M fun l σ M => wpE E hi σ M fun h σ M => ∃ j, h = .int j ∧ (l.getD 0).natAbs < 2 ^ 60 ∧ j.natAbs < 2 ^ 60 ∧ j - l.getD 0 ≤ SZ ∧
      lcEach (fun _ _ => True) (fun x k τ N => store tg x τ N fun τ N => wpIfs E0 ifs τ N fun t τ N =>
        if t = true then wpE E0 e τ N fun y τ N => frz y τ N fun y τ N => k (some y) (wipeS τ (slotsOf tg)) N else k none (wipeS τ (slotsOf tg)) N)
        (fun ys τ N => Q (.ol ys) (backS σ τ (slotsOf tg)) N) (rng (l.getD 0) 1 (j - l.getD 0).toNat) [] (wipeS σ (slotsOf tg)) M
  | E, .dc a b tg it ifs, σ, M, Q => wpE E it σ M fun d σ M => ∃ xs, walk (pk d) (vw σ M (pk d)) = some xs ∧
      dcEach (fun τ N => vw τ N (pk d) = vw σ M (pk d)) (fun x k τ N => store tg x τ N fun τ N => wpIfs E0 ifs τ N fun t τ N =>
        if t = true then wpE E0 a τ N fun y τ N => frz y τ N fun y τ N => wpE E0 b τ N fun z τ N => frz z τ N fun z τ N => k (some (y, z)) (wipeS τ (slotsOf tg)) N else k none (wipeS τ (slotsOf tg)) N)
        (fun ys τ N => Q (.od ys) (backS σ τ (slotsOf tg)) N) xs [] (wipeS σ (slotsOf tg)) M
  | E, .dcr a b tg lo hi ifs, σ, M, Q => wpO E lo σ M fun l σ M => wpE E hi σ M fun h σ M => ∃ j, h = .int j ∧ (l.getD 0).natAbs < 2 ^ 60 ∧ j.natAbs < 2 ^ 60 ∧ j - l.getD 0 ≤ SZ ∧
      dcEach (fun _ _ => True) (fun x k τ N => store tg x τ N fun τ N => wpIfs E0 ifs τ N fun t τ N =>
        if t = true then wpE E0 a τ N fun y τ N => frz y τ N fun y τ N => wpE E0 b τ N fun z τ N => frz z τ N fun z τ N => k (some (y, z)) (wipeS τ (slotsOf tg)) N else k none (wipeS τ (slotsOf tg)) N)
        (fun ys τ N => Q (.od ys) (backS σ τ (slotsOf tg)) N) (rng (l.getD 0) 1 (j - l.getD 0).toNat) [] (wipeS σ (slotsOf tg)) M
/-- as a test -/
def wpT : Kx → CT → St → Mem → Kb → Prop
  | E, .not a, σ, M, Q => wpT E a σ M fun b σ M => Q (!b) σ M
  | E, .and a b, σ, M, Q => wpT E a σ M fun c σ M => if c = true then wpT E b σ M Q else Q false σ M
  | E, .or a b, σ, M, Q => wpT E a σ M fun c σ M => if c = true then Q true σ M else wpT E b σ M Q
  | E, .ife c a b, σ, M, Q => wpT E c σ M fun t σ M => if t = true then wpT E a σ M Q else wpT E b σ M Q
  | E, .jnr s e o y z, σ, M, Q => wpE E e σ M fun x σ M => ∃ xs ys, vw σ M (pk x) = .lst xs ∧ xs.mapM strOf? = some ys ∧ (ys.map (·.length)).sum + ys.length * s.length ≤ SZ ∧ wpE E o σ M fun w σ M => ∃ t, w = .str t ∧ y ≠ z ∧ t.length + (t.length + 1) * z.length ≤ SZ ∧
      Q (!decide (joinL s ys = replL t y z)) σ M
  | E, .val e, σ, M, Q => wpE E e σ M fun x σ M => ∃ b, truth (vw σ M (pk x)) = some b ∧ Q b σ M
/-- values one by one, each to go elsewhere -/
def wpL : Kx → List CE → St → Mem → Kl → Prop
  | E, [], σ, M, Q => Q [] σ M
  | E, e :: es, σ, M, Q => wpE E e σ M fun x σ M => frz x σ M fun x σ M => wpL E es σ M fun xs σ M => Q (x :: xs) σ M
/-- values one by one, to be read -/
def wpV : Kx → List CE → St → Mem → Kl → Prop
  | E, [], σ, M, Q => Q [] σ M
  | E, e :: es, σ, M, Q => wpE E e σ M fun x σ M => wpV E es σ M fun xs σ M => Q (pk x :: xs) σ M
/-- arguments: some boxed -/
def wpA : Kx → List Bool → List CE → St → Mem → Kl → Prop
  | E, _, [], σ, M, Q => Q [] σ M
  | E, bx, e :: es, σ, M, Q => wpE E e σ M fun x σ M => (if bx.headD false = true then boxd else frz) x σ M fun x σ M => wpA E bx.tail es σ M fun xs σ M => Q (x :: xs) σ M
def wpO : Kx → Option CE → St → Mem → (Option Int → St → Mem → Prop) → Prop
  | E, none, σ, M, Q => Q none σ M
  | E, some e, σ, M, Q => wpE E e σ M fun x σ M => ∃ i, x = .int i ∧ Q (some i) σ M
def wpIfs : Kx → List CT → St → Mem → Kb → Prop
  | E, [], σ, M, Q => Q true σ M
  | E, [e], σ, M, Q => wpT E e σ M Q
  | _, _, _, _, _ => False
end
end

structure EndsD where
  nx : Ks
  rt : D → Mem → Prop
  bk : Ks := fun _ _ => False
  ct : Ks := fun _ _ => False
  ex : Kx := fun _ _ _ => False
/-- what a def leaves may be less than what stands -/
def gc (Q : D → Mem → Prop) (d : D) (M' : Mem) : Prop := ∃ M2 : Mem, (∀ a o, M2 a = some o → M' a = some o) ∧ Q d M2
theorem gc.here {Q : D → Mem → Prop} {d : D} {M : Mem} (h : Q d M) : gc Q d M := ⟨M, fun _ _ q => q, h⟩
/-- a name gets a value -/
def kAsg (i : Nat) (De : EndsD) : Kt := fun d σ M => (match d with
  | .ol xs => De.nx (σ.set i (some (.ol xs))) M
  | .od kvs => De.nx (σ.set i (some (.od kvs))) M
  | d => frz d σ M fun d σ M => De.nx (σ.set i (some d)) M)
section
variable (T : Tab) (Γ : FSem)
mutual
def wpS : CS → EndsD → Ks
  | .asg i e, D, σ, M => wpE T Γ D.ex e σ M (kAsg i D)
  | .asgT is e, D, σ, M => wpE T Γ D.ex e σ M fun d σ M => frz d σ M fun d σ M => store (.t is) d σ M D.nx
  | .setI a i e, D, σ, M => wpE T Γ D.ex e σ M fun v σ M => frz v σ M fun v σ M => wpE T Γ D.ex a σ M fun o σ M => wpE T Γ D.ex i σ M fun k σ M =>
      change o (fun b => (opSet b (pk k) v).map fun c => (c, .non)) σ M fun _ σ M => D.nx σ M
  | .setF a x e, D, σ, M => wpE T Γ D.ex e σ M fun v σ M => boxd v σ M fun v σ M => wpE T Γ D.ex a σ M fun o σ M => ∃ p C fs, o = .ref p ∧ M p = some (.ins C fs) ∧ (T.inits.lookup C).isSome = true ∧ fs.length < 100 ∧
      D.nx σ (mset M p (.ins C (putN x v fs)))
  | .ex e, D, σ, M => wpE T Γ D.ex e σ M fun _ σ M => D.nx σ M
  | .ret e, D, σ, M => wpE T Γ D.ex e σ M fun d σ M => handed d σ M D.rt
  | .retN, D, _, M => D.rt .non M
  | .ifS c a b, D, σ, M => wpT T Γ D.ex c σ M fun t σ M => if t = true then wpSs a D σ M else wpSs b D σ M
  | .whl c b, D, σ, M => ∃ W : Nat → Ks, (∃ m, W m σ M) ∧ ∀ m σ M, W m σ M → wpT T Γ D.ex c σ M fun t σ M =>
      if t = true then wpSs b { D with nx := fun σ M => ∃ m', m' < m ∧ W m' σ M, ct := fun σ M => ∃ m', m' < m ∧ W m' σ M, bk := D.nx } σ M else D.nx σ M
  | .for_ tg it b, D, σ, M => wpE T Γ D.ex it σ M fun d σ M => frz d σ M fun d σ M => ∃ xs, walk d (vw σ M d) = some xs ∧
      goEach (fun τ N => vw τ N d = vw σ M d) (fun x k τ N => store tg x τ N fun τ N => wpSs b { D with nx := k, ct := k, bk := D.nx } τ N) D.nx xs σ M
  | .forR tg lo hi b, D, σ, M => wpO T Γ D.ex lo σ M fun l σ M => wpE T Γ D.ex hi σ M fun h σ M => ∃ j, h = .int j ∧ (l.getD 0).natAbs < 2 ^ 60 ∧ j.natAbs < 2 ^ 60 ∧ j - l.getD 0 ≤ SZ ∧
      goEach (fun _ _ => True) (fun x k τ N => store tg x τ N fun τ N => wpSs b { D with nx := k, ct := k, bk := D.nx } τ N) D.nx (rng (l.getD 0) 1 (j - l.getD 0).toNat) σ M
  | .brk, D, σ, M => D.bk σ M
  | .cnt, D, σ, M => D.ct σ M
  | .pass, D, σ, M => D.nx σ M
  | .raise C es, D, σ, M => wpL T Γ D.ex es σ M fun xs σ M => D.ex ⟨C, xs⟩ σ M
  | .try_ _ _ _ _, _, _, _ => False
  | .dead, _, _, _ => False
def wpSs : List CS → EndsD → Ks
  | [], D, σ, M => D.nx σ M
  | s :: r, D, σ, M => wpS s { D with nx := fun σ M => wpSs r D σ M } σ M
end
/-- a def's body -/
def wpF (d : CDef) (ds : List D) (M : Mem) (Q : D → Mem → Prop) (E : Exn → Mem → Prop) : Prop :=
  ds.length = d.np ∧ wpSs T Γ d.body { nx := fun _ M' => gc Q .non M', rt := gc Q, ex := fun x _ M' => E x M' } (ds.map some ++ List.replicate (d.ns - d.np) none) M
end
/-- the defs, calls in calls at most so deep -/
def Gam (T : Tab) : Nat → FSem
  | 0 => fun _ _ _ _ _ => False
  | k + 1 => fun f ds M Q E => ∃ d, T.defs[f]? = some d ∧ wpF T (Gam T k) d ds M Q E
theorem Gam.of {T : Tab} {k f : Nat} {d : CDef} {ds : List D} {M : Mem} {Q : D → Mem → Prop} {E : Exn → Mem → Prop} (h : T.defs[f]? = some d) (w : wpF T (Gam T k) d ds M Q E) : Gam T (k + 1) f ds M Q E := ⟨d, h, w⟩
end Pv

/-! E2: how values stand in the hand layer's heap. -/
namespace Pv
open PySem L2
open PySem.W (Frag)

/-- a list that is never written -/
def FzL (K : Frag) (H : Hp) (a : Addr) (xs : List V) : Prop := (∃ o, H a = some (.frz o (.lst xs))) ∨
  ∃ (o : Obj) (its : Array Value) (n : Nat), K.lookup a = some o ∧ o.cls = .type "list" ∧ o.dict = none ∧ o.data = .seq its n ∧ its.size ≤ sizeLine ∧ Vals xs its.toList
theorem FzL.sq {K : Frag} {H : Hp} {a : Addr} {xs : List V} (h : FzL K H a xs) : SqL K H a xs := h.elim (fun h => .inl (.inr h)) .inr
/-! ### a dict's object, told by its keys and values; keys: ints and texts; bools; tuples -/
def isI : D → Bool
  | .int _ => true
  | .str x => decide (x.length ≤ SZ)
  | _ => false
def isB : D → Bool
  | .bl _ => true
  | _ => false
def keyI : D → Key
  | .int i => .inl i
  | .str x => .inr (strOf x)
  | _ => .inl 0
def keyB : D → Leaf
  | .bl b => .num (if b then 1 else 0)
  | _ => .none
def dB (P : Program) (w : World) (a : Addr) (vs : List (Leaf × Value)) : HO := .ext fun h => ((a == sysModules) = false ∧ vs.length ≤ sizeLine) ∧ h.DictOf (leafKind P w) a vs
def dT (P : Program) (w : World) (a : Addr) (xs : List (NestedKey × Addr × Value)) : HO := .ext fun h => ((a == sysModules) = false ∧ xs.length ≤ sizeLine) ∧
  ∃ o es ep, h.get? a = some o ∧ o.ExactDict ∧ o.data = .dict es ep ∧ es.toList = xs.map (entryOfKey (nestedKind P w))
def zip3 : List (D × D) → List Addr → List Value → List (NestedKey × Addr × Value)
  | p :: ps, a :: as, v :: vs => (p.1.nk, a, v) :: zip3 ps as vs
  | _, _, _ => []

/-- what is fixed in a body's run: the written part, the world, the classes, the names, the entry -/
structure Cc where
  P : Program
  w : World
  K : Frag
  cA : Nat → Addr
  nm : Nat → Str
  H0 : Hp
  M0 : Mem

mutual
/-- a value that nobody changes any more -/
inductive RelP (c : Cc) (H : Hp) : D → V → Prop
  | non : RelP c H .non .non
  | bl (b : Bool) : RelP c H (.bl b) (.bl b)
  | int (i : Int) : RelP c H (.int i) (.int i)
  | str (x : List Nat) : x.length ≤ SZ → RelP c H (.str x) (.str (strOf x))
  | tup {a : Addr} {vs : List V} {ds : List D} : SqT c.K H a vs → ds.length ≤ SZ → RelPs c H ds vs → RelP c H (.tup ds) (.ref a)
  | lst {a : Addr} {vs : List V} {ds : List D} : FzL c.K H a vs → ds.length ≤ SZ → RelPs c H ds vs → RelP c H (.lst ds) (.ref a)
  | dctI {a : Addr} {o : Obj} {ys : List V} {kvs : List (D × D)} : H a = some (.frz o (.dK ((kvs.map fun p => keyI p.1).zip ys))) → (kvs.map fun p => p.1.nk).Nodup → kvs.all (fun p => isI p.1) = true → RelPs c H (kvs.map (·.2)) ys → RelP c H (.dct kvs) (.ref a)
  | dctB {a : Addr} {o : Obj} {vs : List Value} {kvs : List (D × D)} : H a = some (.frz o (dB c.P c.w a ((kvs.map fun p => keyB p.1).zip vs))) → (kvs.map fun p => p.1.nk).Nodup → kvs ≠ [] → kvs.all (fun p => isB p.1) = true → RelVs c H kvs vs → RelP c H (.dct kvs) (.ref a)
  | dctT {a : Addr} {o : Obj} {vs : List Value} {as : List Addr} {kvs : List (D × D)} : H a = some (.frz o (dT c.P c.w a (zip3 kvs as vs))) → (kvs.map fun p => p.1.nk).Nodup → kvs ≠ [] → kvs.all (fun p => p.1.isTup && p.1.isKey) = true →
      RelPs c H (kvs.map (·.1)) (as.map V.ref) → RelVs c H kvs vs → RelP c H (.dct kvs) (.ref a)
  | ref (a : Addr) : RelP c H (.ref a) (.ref a)
inductive RelPs (c : Cc) (H : Hp) : List D → List V → Prop
  | nil : RelPs c H [] []
  | cons {d : D} {v : V} {ds : List D} {vs : List V} : RelP c H d v → RelPs c H ds vs → RelPs c H (d :: ds) (v :: vs)
/-- a dict's values -/
inductive RelVs (c : Cc) (H : Hp) : List (D × D) → List Value → Prop
  | nil : RelVs c H [] []
  | cons {k d : D} {y : V} {u : Value} {kvs : List (D × D)} {vs : List Value} : RelP c H d y → RelV y u → RelVs c H kvs vs → RelVs c H ((k, d) :: kvs) (u :: vs)
end

/-- what never changes stands -/
def Stay : HO → Prop
  | .tup _ => True
  | .frz _ _ => True
  | _ => False
def Keeps (H H' : Hp) : Prop := ∀ a o, H a = some o → Stay o → H' a = some o
theorem Keeps.refl (H : Hp) : Keeps H H := fun _ _ h _ => h
theorem Keeps.trans {H H1 H2 : Hp} (a : Keeps H H1) (b : Keeps H1 H2) : Keeps H H2 := fun x o h m => b x o (a x o h m) m
theorem Keeps.sqT {K : Frag} {H H' : Hp} (k : Keeps H H') {a : Addr} {xs : List V} (h : SqT K H a xs) : SqT K H' a xs := by
  rcases h with (h | ⟨o, h⟩) | h
  · exact .inl (.inl (k _ _ h trivial))
  · exact .inl (.inr ⟨o, k _ _ h trivial⟩)
  · exact .inr h
theorem Keeps.fzL {K : Frag} {H H' : Hp} (k : Keeps H H') {a : Addr} {xs : List V} (h : FzL K H a xs) : FzL K H' a xs := by
  rcases h with ⟨o, h⟩ | h
  · exact .inl ⟨o, k _ _ h trivial⟩
  · exact .inr h
mutual
theorem RelP.keep {c : Cc} {H H' : Hp} (k : Keeps H H') : ∀ {d : D} {v : V}, RelP c H d v → RelP c H' d v
  | _, _, .non => .non
  | _, _, .bl b => .bl b
  | _, _, .int i => .int i
  | _, _, .str x h => .str x h
  | _, _, .tup h z r => .tup (k.sqT h) z (RelPs.keep k r)
  | _, _, .lst h z r => .lst (k.fzL h) z (RelPs.keep k r)
  | _, _, .dctI h n b r => .dctI (k _ _ h trivial) n b (RelPs.keep k r)
  | _, _, .dctB h n z b r => .dctB (k _ _ h trivial) n z b (RelVs.keep k r)
  | _, _, .dctT h n z b q r => .dctT (k _ _ h trivial) n z b (RelPs.keep k q) (RelVs.keep k r)
  | _, _, .ref a => .ref a
theorem RelPs.keep {c : Cc} {H H' : Hp} (k : Keeps H H') : ∀ {ds : List D} {vs : List V}, RelPs c H ds vs → RelPs c H' ds vs
  | _, _, .nil => .nil
  | _, _, .cons r t => .cons (RelP.keep k r) (RelPs.keep k t)
theorem RelVs.keep {c : Cc} {H H' : Hp} (k : Keeps H H') : ∀ {kvs : List (D × D)} {vs : List Value}, RelVs c H kvs vs → RelVs c H' kvs vs
  | _, _, .nil => .nil
  | _, _, .cons d e t => .cons (RelP.keep k d) e (RelVs.keep k t)
end
theorem RelPs.length {c : Cc} {H : Hp} : ∀ {ds : List D} {vs : List V}, RelPs c H ds vs → ds.length = vs.length
  | _, _, .nil => rfl
  | _, _, .cons _ t => congrArg (· + 1) t.length
theorem RelVs.length {c : Cc} {H : Hp} : ∀ {kvs : List (D × D)} {vs : List Value}, RelVs c H kvs vs → kvs.length = vs.length
  | _, _, .nil => rfl
  | _, _, .cons _ _ t => congrArg (· + 1) t.length
/-- a dict by its description -/
inductive DctR (c : Cc) (H : Hp) (kvs : List (D × D)) (a : Addr) : HO → Prop
  | I {ys : List V} : kvs.all (fun p => isI p.1) = true → RelPs c H (kvs.map (·.2)) ys → DctR c H kvs a (.dK ((kvs.map fun p => keyI p.1).zip ys))
  | B {vs : List Value} : kvs ≠ [] → kvs.all (fun p => isB p.1) = true → RelVs c H kvs vs → DctR c H kvs a (dB c.P c.w a ((kvs.map fun p => keyB p.1).zip vs))
  | T {vs : List Value} {as : List Addr} : kvs ≠ [] → kvs.all (fun p => p.1.isTup && p.1.isKey) = true → RelPs c H (kvs.map (·.1)) (as.map V.ref) → RelVs c H kvs vs → DctR c H kvs a (dT c.P c.w a (zip3 kvs as vs))
theorem DctR.keep {c : Cc} {H H' : Hp} (k : Keeps H H') {kvs : List (D × D)} {a : Addr} {u : HO} (h : DctR c H kvs a u) : DctR c H' kvs a u := by
  cases h with
  | I b r => exact .I b (r.keep k)
  | B z b r => exact .B z b (r.keep k)
  | T z b q r => exact .T z b (q.keep k) (r.keep k)
theorem RelP.dct {c : Cc} {H : Hp} {a : Addr} {o : Obj} {u : HO} {kvs : List (D × D)} (h : H a = some (.frz o u)) (n : (kvs.map fun p => p.1.nk).Nodup) (d : DctR c H kvs a u) : RelP c H (.dct kvs) (.ref a) := by
  cases d with
  | I b r => exact .dctI h n b r
  | B z b r => exact .dctB h n z b r
  | T z b q r => exact .dctT h n z b q r
theorem RelPs.get {c : Cc} {H : Hp} : ∀ {ds : List D} {vs : List V} {i : Nat} {d : D}, RelPs c H ds vs → ds[i]? = some d → ∃ v, vs[i]? = some v ∧ RelP c H d v
  | _, _, i, _, .nil, e => by simp at e
  | _, _, 0, d, .cons r _, e => by simp at e; subst e; exact ⟨_, rfl, r⟩
  | _, _, i + 1, d, .cons _ t, e => by
    obtain ⟨v, h1, h2⟩ := RelPs.get (i := i) (d := d) t (by simpa using e)
    exact ⟨v, by simpa using h1, h2⟩
theorem RelPs.get' {c : Cc} {H : Hp} : ∀ {ds : List D} {vs : List V} {i : Nat} {v : V}, RelPs c H ds vs → vs[i]? = some v → ∃ d, ds[i]? = some d ∧ RelP c H d v
  | _, _, i, _, .nil, e => by simp at e
  | _, _, 0, d, .cons r _, e => by simp at e; subst e; exact ⟨_, rfl, r⟩
  | _, _, i + 1, d, .cons _ t, e => by
    obtain ⟨v, h1, h2⟩ := RelPs.get' (i := i) (v := d) t (by simpa using e)
    exact ⟨v, by simpa using h1, h2⟩
theorem RelPs.append {c : Cc} {H : Hp} : ∀ {ds es : List D} {vs us : List V}, RelPs c H ds vs → RelPs c H es us → RelPs c H (ds ++ es) (vs ++ us)
  | _, _, _, _, .nil, s => s
  | _, _, _, _, .cons r t, s => .cons r (RelPs.append t s)
theorem RelPs.set {c : Cc} {H : Hp} {d : D} {v : V} (r : RelP c H d v) : ∀ {ds : List D} {vs : List V} (i : Nat), RelPs c H ds vs → RelPs c H (ds.set i d) (vs.set i v)
  | _, _, _, .nil => .nil
  | _, _, 0, .cons _ t => .cons r t
  | _, _, i + 1, .cons q t => .cons q (RelPs.set r i t)
theorem RelPs.take {c : Cc} {H : Hp} : ∀ {ds : List D} {vs : List V} (n : Nat), RelPs c H ds vs → RelPs c H (ds.take n) (vs.take n)
  | _, _, 0, _ => .nil
  | _, _, _ + 1, .nil => .nil
  | _, _, n + 1, .cons r t => .cons r (RelPs.take n t)
theorem RelPs.drop {c : Cc} {H : Hp} : ∀ {ds : List D} {vs : List V} (n : Nat), RelPs c H ds vs → RelPs c H (ds.drop n) (vs.drop n)
  | _, _, 0, r => r
  | _, _, _ + 1, .nil => .nil
  | _, _, n + 1, .cons _ t => RelPs.drop n t
theorem RelPs.reverse {c : Cc} {H : Hp} : ∀ {ds : List D} {vs : List V}, RelPs c H ds vs → RelPs c H ds.reverse vs.reverse
  | _, _, .nil => .nil
  | _, _, .cons r t => by
    rw [List.reverse_cons, List.reverse_cons]
    exact (RelPs.reverse t).append (.cons r .nil)

/-- a boxed object -/
def FldR (c : Cc) (H : Hp) : List (Nat × D) → List (Str × V) → Prop := Paired fun p q => q.1 = c.nm p.1 ∧ RelP c H p.2 q.2
def BoxR (c : Cc) (H : Hp) (a : Addr) : MO → Prop
  | .l ds => ds.length ≤ SZ ∧ ∃ vs, H a = some (.lst vs) ∧ RelPs c H ds vs
  | .d kvs => ∃ u, H a = some u ∧ (kvs.map fun p => p.1.nk).Nodup ∧ DctR c H kvs a u
  | .ins C fs => ∃ dx vfs, H a = some (.ins (c.cA C) dx vfs) ∧ FldR c H fs vfs ∧ H dx = some (.own a)
theorem BoxR.some {c : Cc} {H : Hp} {a : Addr} {o : MO} (h : BoxR c H a o) : ∃ u, H a = some u := by
  cases o with
  | l _ => obtain ⟨_, _, h, _⟩ := h; exact ⟨_, h⟩
  | d _ => obtain ⟨_, h, _⟩ := h; exact ⟨_, h⟩
  | ins _ _ => obtain ⟨_, _, h, _⟩ := h; exact ⟨_, h⟩
theorem FldR.keep {c : Cc} {H H' : Hp} (k : Keeps H H') {fs : List (Nat × D)} {vfs : List (Str × V)} (h : FldR c H fs vfs) : FldR c H' fs vfs := Paired.mapP h fun _ _ q => ⟨q.1, q.2.keep k⟩
/-- an object stands as it is -/
theorem BoxR.keep {c : Cc} {H H' : Hp} (k : Keeps H H') {a : Addr} {o : MO} (h : BoxR c H a o) (ha : H' a = H a) (ho : ∀ dx, H dx = .some (.own a) → H' dx = .some (.own a)) : BoxR c H' a o := by
  cases o with
  | l _ => obtain ⟨z, vs, h, r⟩ := h; exact ⟨z, vs, ha.trans h, r.keep k⟩
  | d _ => obtain ⟨u, h, n, r⟩ := h; exact ⟨u, ha.trans h, n, r.keep k⟩
  | ins _ _ => obtain ⟨dx, vfs, h, r, q⟩ := h; exact ⟨dx, vfs, ha.trans h, FldR.keep k r, ho dx q⟩

def D.own : D → Bool
  | .ol _ => true
  | .od _ => true
  | _ => false
/-- what a slot holds -/
def SlotR (c : Cc) (C M : Mem) (H : Hp) (d : D) (v : V) : Prop := match asMO d with
  | some o => ∃ a, v = .ref a ∧ C a = some o ∧ M a = none ∧ c.H0 a = none
  | none => RelP c H d v
structure RepC (c : Cc) (C : Mem) (σ : St) (M : Mem) (τ : L2.St) (H : Hp) : Prop where
  len : σ.length = τ.length
  sub : ∀ a o, M a = some o → C a = some o
  boxes : ∀ a o, C a = some o → BoxR c H a o
  slots : ∀ (i : Nat) (d : D), σ[i]? = some (some d) → ∃ v, τ[i]? = some (some v) ∧ SlotR c C M H d v
  sep : ∀ (i j : Nat) (d e : D) (v : V), σ[i]? = some (some d) → σ[j]? = some (some e) → d.own = true → e.own = true → τ[i]? = some (some v) → τ[j]? = some (some v) → i = j
  old : ∀ a o, c.H0 a = some o → c.M0 a = none → H a = some o
  there : ∀ a, c.H0 a ≠ none → H a ≠ none
  new : ∀ a, C a ≠ none → c.M0 a ≠ none ∨ c.H0 a = none
def Rep (c : Cc) (σ : St) (M : Mem) (τ : L2.St) (H : Hp) : Prop := ∃ C, RepC c C σ M τ H
/-- a value in hand: a slot's own object, an object that nobody else holds, or a value for ever -/
def TmpR (c : Cc) (C : Mem) (σ : St) (M : Mem) (τ : L2.St) (H : Hp) (d : D) (v : V) : Prop := match d with
  | .slot i => τ[i]? = some (some v) ∧ ∃ e, σ[i]? = some (some e) ∧ e.own = true
  | d => SlotR c C M H d v ∧ (d.own = true → ∀ (i : Nat) (e : D), σ[i]? = some (some e) → e.own = true → τ[i]? ≠ some (some v))
def RepT (c : Cc) (d : D) (v : V) (σ : St) (M : Mem) (τ : L2.St) (H : Hp) : Prop := ∃ C, RepC c C σ M τ H ∧ TmpR c C σ M τ H d v
theorem RepT.rep {c : Cc} {d : D} {v : V} {σ : St} {M : Mem} {τ : L2.St} {H : Hp} (h : RepT c d v σ M τ H) : Rep c σ M τ H := let ⟨C, h, _⟩ := h; ⟨C, h⟩

/-- a value for ever, as it is held in a temporary place: or another name of a slot -/
def PkR (c : Cc) (σ : St) (τ : L2.St) (H : Hp) (d : D) (v : V) : Prop := match d with
  | .slot i => τ[i]? = some (some v)
  | d => d.own = false ∧ RelP c H d v

/-! ### the frame of a call -/
structure FrameR (M M' : Mem) (H H' : Hp) : Prop where
  old : ∀ a o, H a = some o → M a = none → H' a = some o
  there : ∀ a, H a ≠ none → H' a ≠ none
  new : ∀ a, M' a ≠ none → M a ≠ none ∨ H a = none
/-- what a call hands back -/
def ResR (c : Cc) (M' : Mem) (H H' : Hp) (d : D) (v : V) : Prop := match asMO d with
  | some o => ∃ a, v = .ref a ∧ BoxR c H' a o ∧ M' a = none ∧ H a = none
  | none => (∀ i, d ≠ .slot i) ∧ RelP c H' d v
/-- an exception of one's own: its class, its fields in the exception's dict -/
def ExnR (c : Cc) (H : Hp) (x : Exn) (cls : Value) (dd : Option Addr) : Prop := cls = .ref (c.cA x.cls) ∧ (match x.pay with
  | [] => True
  | ds => ∃ da fs, dd = some da ∧ H da = some (.xd fs) ∧ Paired (fun (p : Str × V) d => RelP c H d p.2) fs ds)
/-- a call's promise -/
def spG (c : Cc) (G : List D → Mem → (D → Mem → Prop) → (Exn → Mem → Prop) → Prop) : Sp := fun vs H Q E => ∃ (ds : List D) (M : Mem) (Qd : D → Mem → Prop) (Ed : Exn → Mem → Prop),
  RelPs c H ds vs ∧ (∀ a o, M a = some o → BoxR c H a o) ∧ G ds M Qd Ed ∧
  (∀ d v M' H', ResR c M' H H' d v → (∀ a o, M' a = some o → BoxR c H' a o) → FrameR M M' H H' → Qd d M' → Q v H') ∧
  (∀ x cls dd M' H', ExnR c H' x cls dd → (∀ a o, M' a = some o → BoxR c H' a o) → FrameR M M' H H' → Ed x M' → E cls dd H')
end Pv

/-! E3: the lift of a meaning over D to the hand layer's readings; what a state keeps. -/
namespace Pv
open PySem L2
open PySem.W (Frag)

/-! ### the hand layer's judgements, weakened -/
theorem pe_imp {X : Cx} {e : Expr} {t t' : TE} (h : PE X e t) (w : ∀ σ H Q, t' σ H Q → t σ H Q) : PE X e t' := ⟨fun pins s σ H Q I q => h.run pins s σ H Q I (w σ H Q q)⟩
theorem pt_imp {X : Cx} {e : Expr} {t t' : TT} (h : PT X e t) (w : ∀ σ H Q, t' σ H Q → t σ H Q) : PT X e t' := ⟨fun pins s σ H Q I q => h.run pins s σ H Q I (w σ H Q q)⟩
theorem pw_imp {X : Cx} {e : Expr} {t t' : TT} (h : PW X e t) (w : ∀ σ H Q, t' σ H Q → t σ H Q) : PW X e t' := ⟨fun wh pins s σ H Q I q => h.run wh pins s σ H Q I (w σ H Q q)⟩
theorem pa_imp {X : Cx} {es : List Expr} {t t' : TA} (h : PA X es t) (w : ∀ σ H Q, t' σ H Q → t σ H Q) : PA X es t' := ⟨fun pos pins s σ H Q I q => h.run pos pins s σ H Q I (w σ H Q q)⟩
theorem ps_imp {X : Cx} {st : Stmt} {t t' : TS} (h : PS X st t) (w : ∀ D σ H, t' D σ H → t D σ H) : PS X st t' := ⟨fun pins s σ H D I q => h.run pins s σ H D I (w D σ H q)⟩
theorem pss_imp {X : Cx} {st : List Stmt} {t t' : TS} (h : PSs X st t) (w : ∀ D σ H, t' D σ H → t D σ H) : PSs X st t' := ⟨fun pins s σ H D I q => h.run pins s σ H D I (w D σ H q)⟩

/-! ### freezing an object: nothing happens but to what is known of it -/
inductive Frzb (a : Addr) : HO → Prop
  | l (xs : List V) : Frzb a (.lst xs)
  | i (vs : List (Key × V)) : Frzb a (.dK vs)
  | b (P : Program) (w : World) (vs : List (Leaf × Value)) : Frzb a (dB P w a vs)
  | t (P : Program) (w : World) (xs : List (NestedKey × Addr × Value)) : Frzb a (dT P w a xs)
theorem Frzb.plain {a : Addr} {u : HO} (f : Frzb a u) : ¬ Stay u := by
  cases f <;> exact fun z => z
theorem Frzb.notOwn {a b : Addr} {u : HO} (f : Frzb a u) : u ≠ .own b := by
  cases f <;> exact fun z => nomatch z
theorem DctR.frzb {c : Cc} {H : Hp} {kvs : List (D × D)} {a : Addr} {u : HO} (d : DctR c H kvs a u) : Frzb a u := by
  cases d with
  | I _ _ => exact .i ..
  | B _ _ _ => exact .b ..
  | T _ _ _ _ => exact .t ..
theorem inv_frz {X : Cx} {pins : List (Addr × Obj)} {τ : L2.St} {H : Hp} {s : Shared} {a : Addr} {u : HO} (I : Inv X pins τ H s) (h : H a = some u) (f : Frzb a u) : ∃ o, Inv X pins τ (upd H a (.frz o u)) s := by
  have ok := I.hok a u h
  have mu : Mut (H a) := by
    rw [h]
    cases f <;> trivial
  have ext : ∀ φ, u = .ext φ → ∃ o, s.heap.get? a = some o ∧ ∀ H', ObjOk X.prog X.w H' s.heap a u := fun φ e => by
    subst e
    obtain ⟨q, ⟨o, e⟩, st⟩ := ok
    exact ⟨o, e, fun _ => ⟨q, ⟨o, e⟩, st⟩⟩
  obtain ⟨o, ho, ok'⟩ : ∃ o, s.heap.get? a = some o ∧ ∀ H', ObjOk X.prog X.w H' s.heap a u := by
    cases f with
    | l xs =>
      obtain ⟨z, its, n, r, e⟩ := ok
      exact ⟨_, e, fun _ => ⟨z, its, n, r, e⟩⟩
    | i vs =>
      obtain ⟨z, y, ws, r, o, es, ep, g, q⟩ := ok
      exact ⟨o, g, fun _ => ⟨z, y, ws, r, o, es, ep, g, q⟩⟩
    | b _ _ _ => exact ext _ rfl
    | t _ _ _ => exact ext _ rfl
  refine ⟨o, ?_⟩
  exact I.write (t' := s.toks) (h' := s.heap) (o := .frz o u) mu (.inl rfl) (fun _ _ _ e => e) ⟨o, ho⟩ ⟨ho, ok' _⟩
/-- what an expression gives may be frozen -/
def tF (t : TE) : TE := fun σ H Q => t σ H fun v H1 => Q v H1 ∨ ∃ a u, v = .ref a ∧ H1 a = some u ∧ Frzb a u ∧ ∀ o, Q v (upd H1 a (.frz o u))
theorem pe_frz {X : Cx} {e : Expr} {t : TE} (h : PE X e t) : PE X e (tF t) := by
  refine ⟨fun pins s σ H Q I q => thn (h.run pins s σ H _ I q) fun u s1 ⟨v, H1, I1, r, q1⟩ => ?_⟩
  rcases q1 with q1 | ⟨a, w, rfl, hw, f, q1⟩
  · exact ⟨v, H1, I1, r, q1⟩
  · obtain ⟨o, J⟩ := inv_frz I1 hw f
    exact ⟨_, _, J, r, q1 o⟩

/-! ### the lift -/
/-- what exceptions go to -/
def XOk (c : Cc) (W : WX) (τ : L2.St) (E : Kx) : Prop := ∀ x cls dd σ M H, ExnR c H x cls dd → Rep c σ M τ H → E x σ M → W cls dd τ H
def LE (c : Cc) (W : WX) (t : Kx → St → Mem → Kt → Prop) : TE := fun τ H Q => ∃ σ M E Qd, Rep c σ M τ H ∧ t E σ M Qd ∧ XOk c W τ E ∧
  ∀ d v σ' M' H', RepT c d v σ' M' τ H' → Keeps H H' → Qd d σ' M' → Q v H'
/-- with what comes frozen where nobody holds it -/
def LP (c : Cc) (W : WX) (t : Kx → St → Mem → Kt → Prop) : TE := fun τ H Q => ∃ σ M E Qd, Rep c σ M τ H ∧ t E σ M Qd ∧ XOk c W τ E ∧
  ∀ d v σ' M' H', Rep c σ' M' τ H' → PkR c σ' τ H' (pk d) v → Keeps H H' → Qd d σ' M' → Q v H'
def LT (c : Cc) (W : WX) (t : Kx → St → Mem → Kb → Prop) : TT := fun τ H Q => ∃ σ M E Qd, Rep c σ M τ H ∧ t E σ M Qd ∧ XOk c W τ E ∧
  ∀ b σ' M' H', Rep c σ' M' τ H' → Keeps H H' → Qd b σ' M' → Q b H'
/-- a list of values for ever -/
def LL (c : Cc) (W : WX) (t : Kx → St → Mem → Kl → Prop) : TA := fun τ H Q => ∃ σ M E Qd, Rep c σ M τ H ∧ t E σ M Qd ∧ XOk c W τ E ∧
  ∀ ds vs σ' M' H', Rep c σ' M' τ H' → RelPs c H' ds vs → Keeps H H' → Qd ds σ' M' → Q vs H'
/-- a list of values to be read -/
def PkRs (c : Cc) (σ : St) (τ : L2.St) (H : Hp) : List D → List V → Prop := Paired (PkR c σ τ H)
def LV (c : Cc) (W : WX) (t : Kx → St → Mem → Kl → Prop) : TA := fun τ H Q => ∃ σ M E Qd, Rep c σ M τ H ∧ t E σ M Qd ∧ XOk c W τ E ∧
  ∀ ds vs σ' M' H', Rep c σ' M' τ H' → PkRs c σ' τ H' ds vs → Keeps H H' → Qd ds σ' M' → Q vs H'

/-! ### what a state keeps -/
section
variable {c : Cc} {C : Mem} {σ : St} {M : Mem} {τ : L2.St} {H H' : Hp}
theorem keeps_upd {H : Hp} {a : Addr} {o : HO} (h : ∀ u, H a = some u → ¬ Stay u) : Keeps H (upd H a o) := fun b u e m => by
  by_cases q : b = a
  · subst q; exact (h u e m).elim
  · rw [upd_ne q]; exact e
theorem keeps_new {H : Hp} {a : Addr} {o : HO} (h : H a = none) : Keeps H (upd H a o) := keeps_upd fun u e => by rw [h] at e; cases e
theorem SlotR.keep {d : D} {v : V} (k : Keeps H H') (h : SlotR c C M H d v) : SlotR c C M H' d v := by
  unfold SlotR at h ⊢
  split at h
  · exact h
  · exact RelP.keep k h
theorem SlotR.mono {C' M' : Mem} {d : D} {v : V} (hC : ∀ a o, C a = some o → M a = none → C' a = some o) (hM : ∀ a o, C a = some o → M a = none → M' a = none) (h : SlotR c C M H d v) : SlotR c C' M' H d v := by
  unfold SlotR at h ⊢
  split at h
  · obtain ⟨a, e, h1, h2, h3⟩ := h
    exact ⟨a, e, hC _ _ h1 h2, hM _ _ h1 h2, h3⟩
  · exact h
theorem boxes_some (h : ∀ a o, C a = some o → BoxR c H a o) {a : Addr} (n : H a = none) : C a = none := by
  cases e : C a with
  | none => rfl
  | some o =>
    obtain ⟨u, q⟩ := (h a o e).some
    rw [n] at q; cases q
/-- a new object that is no box -/
theorem RepC.alloc (R : RepC c C σ M τ H) {p : Addr} {o : HO} (hp : H p = none) : RepC c C σ M τ (upd H p o) := by
  have k : Keeps H (upd H p o) := keeps_new hp
  refine ⟨R.len, R.sub, fun a b e => ?_, fun i d e => ?_, R.sep, fun a b e m => ?_, fun a e => ?_, R.new⟩
  · have q := R.boxes a b e
    obtain ⟨u, hu⟩ := q.some
    refine q.keep k (upd_ne (ne_of_none hu hp)) fun dx hd => ?_
    rw [upd_ne (ne_of_none hd hp)]; exact hd
  · obtain ⟨v, h1, h2⟩ := R.slots i d e
    exact ⟨v, h1, h2.keep k⟩
  · have q := R.old a b e m
    rw [upd_ne (ne_of_none q hp)]; exact q
  · by_cases q : a = p
    · subst q; rw [upd_same]; exact fun z => nomatch z
    · rw [upd_ne q]; exact R.there a e
theorem RepC.h0 (R : RepC c C σ M τ H) {p : Addr} (hp : H p = none) : c.H0 p = none := by
  cases e : c.H0 p with
  | none => rfl
  | some o => exact absurd hp (R.there p (by rw [e]; exact fun z => nomatch z))
/-- one box more -/
theorem RepC.put (R : RepC c C σ M τ H) {p : Addr} {o : MO} (hC : C p = none) (hb : BoxR c H p o) (h0 : c.H0 p = none) : RepC c (mset C p o) σ M τ H := by
  refine ⟨R.len, fun a b e => ?_, fun a b e => ?_, fun i d e => ?_, R.sep, R.old, R.there, fun a e => ?_⟩
  · have q := R.sub a b e
    rw [mset_ne (fun z => by rw [z, hC] at q; cases q)]; exact q
  · by_cases q : a = p
    · subst q; rw [mset_same] at e; cases e; exact hb
    · rw [mset_ne q] at e; exact R.boxes a b e
  · obtain ⟨v, h1, h2⟩ := R.slots i d e
    refine ⟨v, h1, h2.mono (fun a b e _ => ?_) fun _ _ _ n => n⟩
    rw [mset_ne (fun z => by rw [z, hC] at e; cases e)]; exact e
  · by_cases q : a = p
    · subst q; exact .inr h0
    · rw [mset_ne q] at e; exact R.new a e
theorem RepC.noM (R : RepC c C σ M τ H) {p : Addr} (hp : H p = none) : M p = none := by
  cases e : M p with
  | none => rfl
  | some o =>
    have q := boxes_some R.boxes hp
    rw [R.sub p o e] at q; cases q

/-- what an operation gives: a value for ever; a new object -/
def NewR (c : Cc) (H : Hp) (r : D) (v : V) (H' : Hp) : Prop := match asMO r with
  | some o => ∃ p u, H p = none ∧ H' = upd H p u ∧ v = .ref p ∧ BoxR c H' p o
  | none => (∀ i, r ≠ .slot i) ∧ RelP c H' r v ∧ (H' = H ∨ ∃ p u, H p = none ∧ H' = upd H p u)
theorem own_asMO {d : D} : d.own = (asMO d).isSome := by cases d <;> rfl
theorem tmpR_of (R : RepC c C σ M τ H) {r : D} {v : V} (hs : ∀ i, r ≠ .slot i) (hn : asMO r = none) (h : RelP c H r v) : TmpR c C σ M τ H r v := by
  have ho : r.own = false := by rw [own_asMO, hn]; rfl
  have hS : SlotR c C M H r v := by unfold SlotR; rw [hn]; exact h
  unfold TmpR
  split
  · exact absurd rfl (hs _)
  · exact ⟨hS, fun q => by rw [ho] at q; cases q⟩
theorem RepC.newT (R : RepC c C σ M τ H) {r : D} {v : V} (n : NewR c H r v H') : RepT c r v σ M τ H' ∧ Keeps H H' := by
  unfold NewR at n
  split at n
  · rename_i o ho
    obtain ⟨p, u, hp, rfl, rfl, hb⟩ := n
    have hC := boxes_some R.boxes hp
    refine ⟨⟨mset C p o, (R.alloc hp).put hC hb (R.h0 hp), ?_⟩, keeps_new hp⟩
    have fin : SlotR c (mset C p o) M (upd H p u) r (.ref p) := by
      unfold SlotR; rw [ho]; exact ⟨p, rfl, mset_same, R.noM hp, R.h0 hp⟩
    have fin2 : ∀ (i : Nat) (e : D), σ[i]? = some (some e) → e.own = true → τ[i]? ≠ some (some (.ref p)) := fun i e hi he q => by
      obtain ⟨w, h1, h2⟩ := R.slots i e hi
      rw [q] at h1
      cases h1
      rw [own_asMO] at he
      obtain ⟨b, hb'⟩ := Option.isSome_iff_exists.mp he
      unfold SlotR at h2
      rw [hb'] at h2
      obtain ⟨a, e1, e2, _⟩ := h2
      cases e1
      rw [hC] at e2; cases e2
    unfold TmpR
    split
    · cases ho
    · exact ⟨fin, fun _ => fin2⟩
  · rename_i ho
    obtain ⟨hs, hr, q⟩ := n
    rcases q with rfl | ⟨p, u, hp, rfl⟩
    · exact ⟨⟨C, R, tmpR_of R hs ho hr⟩, Keeps.refl _⟩
    · exact ⟨⟨C, R.alloc hp, tmpR_of (R.alloc hp) hs ho hr⟩, keeps_new hp⟩
theorem Rep.newT (R : Rep c σ M τ H) {r : D} {v : V} (n : NewR c H r v H') : RepT c r v σ M τ H' ∧ Keeps H H' := let ⟨_, R⟩ := R; R.newT n

/-! ### freezing what is held -/
theorem box_frzb {a : Addr} {o : MO} {d : D} (ho : asOwn o = some d) (h : BoxR c H a o) : ∃ u, H a = some u ∧ Frzb a u := by
  cases o with
  | l ds => obtain ⟨_, vs, h, _⟩ := h; exact ⟨_, h, .l _⟩
  | d kvs => obtain ⟨u, h, _, r⟩ := h; exact ⟨_, h, r.frzb⟩
  | ins C fs => cases ho
/-- the frozen object's relation -/
theorem box_frz {a : Addr} {u : HO} {o : Obj} {d : D} {b : MO} (hd : asMO d = some b) (hu : H a = some u) (f : Frzb a u) (h : BoxR c H a b) : RelP c (upd H a (.frz o u)) (pk d) (.ref a) := by
  have k : Keeps H (upd H a (.frz o u)) := keeps_upd fun w e m => by
    rw [hu] at e; cases e
    exact f.plain m
  cases d with
  | ol ds =>
    cases hd
    obtain ⟨z, vs, h, r⟩ := h
    rw [hu] at h; cases h
    exact .lst (.inl ⟨o, upd_same⟩) z (r.keep k)
  | od kvs =>
    cases hd
    obtain ⟨es, h, n, r⟩ := h
    rw [hu] at h; cases h
    exact RelP.dct (o := o) upd_same n (r.keep k)
  | _ => cases hd
/-- an object that is no box any more is frozen -/
theorem RepC.frz (R : RepC c C σ M τ H) {a : Addr} {u : HO} {o : Obj} (hC : C a = none) (h0 : c.H0 a = none) (hu : H a = some u) (f : Frzb a u) : RepC c C σ M τ (upd H a (.frz o u)) := by
  have k : Keeps H (upd H a (.frz o u)) := keeps_upd fun w e m => by
    rw [hu] at e; cases e
    exact f.plain m
  refine ⟨R.len, R.sub, fun b q e => ?_, fun i d e => ?_, R.sep, fun b q e m => ?_, fun b e => ?_, R.new⟩
  · have z := R.boxes b q e
    have ne : b ≠ a := fun z => by rw [z, hC] at e; cases e
    refine z.keep k (upd_ne ne) fun dx hd => ?_
    have ne2 : dx ≠ a := fun z => by
      rw [z, hu] at hd
      exact f.notOwn (Option.some.inj hd)
    rw [upd_ne ne2]; exact hd
  · obtain ⟨v, h1, h2⟩ := R.slots i d e
    exact ⟨v, h1, h2.keep k⟩
  · have ne : b ≠ a := fun z => by rw [z, h0] at e; cases e
    rw [upd_ne ne]; exact R.old b q e m
  · by_cases q : b = a
    · subst q; rw [upd_same]; exact fun z => nomatch z
    · rw [upd_ne q]; exact R.there b e
/-- a box is forgotten that no slot owns -/
theorem RepC.drop (R : RepC c C σ M τ H) {a : Addr} (hM : M a = none) (hs : ∀ (i : Nat) (e : D), σ[i]? = some (some e) → e.own = true → τ[i]? ≠ some (some (.ref a))) : RepC c (fun b => if b = a then none else C b) σ M τ H := by
  refine ⟨R.len, fun b o e => ?_, fun b o e => ?_, fun i d e => ?_, R.sep, R.old, R.there, fun b e => ?_⟩
  · show (if b = a then none else C b) = some o
    rw [if_neg (fun z => by rw [z, hM] at e; cases e)]; exact R.sub b o e
  · have e' : (if b = a then none else C b) = some o := e
    by_cases q : b = a
    · rw [if_pos q] at e'; cases e'
    · rw [if_neg q] at e'; exact R.boxes b o e'
  · obtain ⟨v, h1, h2⟩ := R.slots i d e
    refine ⟨v, h1, ?_⟩
    cases ho : asMO d with
    | none => unfold SlotR at h2 ⊢; rw [ho] at h2 ⊢; exact h2
    | some o =>
      have hw : d.own = true := by rw [own_asMO, ho]; rfl
      unfold SlotR at h2 ⊢
      rw [ho] at h2 ⊢
      obtain ⟨p, e1, e2, e3, e4⟩ := h2
      refine ⟨p, e1, ?_, e3, e4⟩
      show (if p = a then none else C p) = some o
      rw [if_neg (fun z => hs i d e hw (by rw [h1, e1, z]))]; exact e2
  · have e' : (if b = a then none else C b) ≠ none := e
    by_cases q : b = a
    · rw [if_pos q] at e'; exact absurd rfl e'
    · rw [if_neg q] at e'; exact R.new b e'
/-- slots change: what they hold now -/
theorem RepC.slot {σ' : St} {τ' : L2.St} (R : RepC c C σ M τ H) (len : σ'.length = τ'.length)
    (slots : ∀ (i : Nat) (d : D), σ'[i]? = some (some d) → ∃ v, τ'[i]? = some (some v) ∧ SlotR c C M H d v)
    (sep : ∀ (i j : Nat) (d e : D) (v : V), σ'[i]? = some (some d) → σ'[j]? = some (some e) → d.own = true → e.own = true → τ'[i]? = some (some v) → τ'[j]? = some (some v) → i = j) : RepC c C σ' M τ' H :=
  ⟨len, R.sub, R.boxes, slots, sep, R.old, R.there, R.new⟩
theorem getElem?_set_of {α : Type} {l : List α} {i j : Nat} {x y : α} (h : (l.set i x)[j]? = some y) : (j = i ∧ y = x ∧ i < l.length) ∨ (j ≠ i ∧ l[j]? = some y) := by
  by_cases q : j = i
  · subst q
    by_cases hl : j < l.length
    · rw [List.getElem?_set_self hl] at h
      cases h; exact .inl ⟨rfl, rfl, hl⟩
    · rw [List.getElem?_eq_none (by simpa using hl)] at h; cases h
  · rw [List.getElem?_set_ne (Ne.symm q)] at h
    exact .inr ⟨q, h⟩
/-- slot i, whose V stays, holds another D that nobody owns -/
theorem RepC.slotD (R : RepC c C σ M τ H) {i : Nat} {d : D} {v : V} (hv : τ[i]? = some (some v)) (hd : d.own = false) (r : SlotR c C M H d v) : RepC c C (σ.set i (some d)) M τ H := by
  refine R.slot (by rw [List.length_set]; exact R.len) (fun j e q => ?_) fun j k e f w q1 q2 o1 o2 h1 h2 => ?_
  · rcases getElem?_set_of q with ⟨rfl, e1, _⟩ | ⟨_, q⟩
    · cases e1; exact ⟨v, hv, r⟩
    · exact R.slots j e q
  · rcases getElem?_set_of q1 with ⟨rfl, e1, _⟩ | ⟨_, q1⟩
    · cases e1; rw [hd] at o1; cases o1
    · rcases getElem?_set_of q2 with ⟨rfl, e2, _⟩ | ⟨_, q2⟩
      · cases e2; rw [hd] at o2; cases o2
      · exact R.sep j k e f w q1 q2 o1 o2 h1 h2
/-- slot i gets a value that nobody owns -/
theorem RepC.setP (R : RepC c C σ M τ H) {i : Nat} {d : D} {v : V} (hd : d.own = false) (r : SlotR c C M H d v) : RepC c C (σ.set i (some d)) M (τ.set i (some v)) H := by
  refine R.slot (by rw [List.length_set, List.length_set]; exact R.len) (fun j e q => ?_) fun j k e f w q1 q2 o1 o2 h1 h2 => ?_
  · rcases getElem?_set_of q with ⟨rfl, e1, hl⟩ | ⟨ne, q⟩
    · cases e1; exact ⟨v, List.getElem?_set_self (by rw [← R.len]; exact hl), r⟩
    · obtain ⟨w, h1, h2⟩ := R.slots j e q
      exact ⟨w, by rw [List.getElem?_set_ne (Ne.symm ne)]; exact h1, h2⟩
  · rcases getElem?_set_of q1 with ⟨rfl, e1, _⟩ | ⟨ne1, q1⟩
    · cases e1; rw [hd] at o1; cases o1
    · rcases getElem?_set_of q2 with ⟨rfl, e2, _⟩ | ⟨ne2, q2⟩
      · cases e2; rw [hd] at o2; cases o2
      · rw [List.getElem?_set_ne (Ne.symm ne1)] at h1
        rw [List.getElem?_set_ne (Ne.symm ne2)] at h2
        exact R.sep j k e f w q1 q2 o1 o2 h1 h2
/-- slot i gets an object of its own -/
theorem RepC.setO (R : RepC c C σ M τ H) {i : Nat} {d : D} {v : V} (hd : d.own = true) (r : SlotR c C M H d v) (hs : ∀ (j : Nat) (e : D), σ[j]? = some (some e) → e.own = true → τ[j]? ≠ some (some v)) : RepC c C (σ.set i (some d)) M (τ.set i (some v)) H := by
  refine R.slot (by rw [List.length_set, List.length_set]; exact R.len) (fun j e q => ?_) fun j k e f w q1 q2 o1 o2 h1 h2 => ?_
  · rcases getElem?_set_of q with ⟨rfl, e1, hl⟩ | ⟨ne, q⟩
    · cases e1; exact ⟨v, List.getElem?_set_self (by rw [← R.len]; exact hl), r⟩
    · obtain ⟨w, h1, h2⟩ := R.slots j e q
      exact ⟨w, by rw [List.getElem?_set_ne (Ne.symm ne)]; exact h1, h2⟩
  · rcases getElem?_set_of q1 with ⟨rfl, e1, hl⟩ | ⟨ne1, q1'⟩
    · rcases getElem?_set_of q2 with ⟨rfl, e2, _⟩ | ⟨ne2, q2'⟩
      · rfl
      · rw [List.getElem?_set_self (by rw [← R.len]; exact hl)] at h1
        cases h1
        rw [List.getElem?_set_ne (Ne.symm ne2)] at h2
        exact absurd h2 (hs k f q2' o2)
    · rcases getElem?_set_of q2 with ⟨rfl, e2, hl⟩ | ⟨ne2, q2'⟩
      · rw [List.getElem?_set_self (by rw [← R.len]; exact hl)] at h2
        cases h2
        rw [List.getElem?_set_ne (Ne.symm ne1)] at h1
        exact absurd h1 (hs j e q1' o1)
      · rw [List.getElem?_set_ne (Ne.symm ne1)] at h1
        rw [List.getElem?_set_ne (Ne.symm ne2)] at h2
        exact R.sep j k e f w q1' q2' o1 o2 h1 h2
/-- slots are forgotten -/
theorem RepC.clear (R : RepC c C σ M τ H) (i : Nat) : RepC c C (σ.set i none) M (τ.set i none) H := by
  refine R.slot (by rw [List.length_set, List.length_set]; exact R.len) (fun j e q => ?_) fun j k e f w q1 q2 o1 o2 h1 h2 => ?_
  · rcases getElem?_set_of q with ⟨rfl, e1, _⟩ | ⟨ne, q⟩
    · cases e1
    · obtain ⟨w, h1, h2⟩ := R.slots j e q
      exact ⟨w, by rw [List.getElem?_set_ne (Ne.symm ne)]; exact h1, h2⟩
  · rcases getElem?_set_of q1 with ⟨rfl, e1, _⟩ | ⟨ne1, q1⟩
    · cases e1
    · rcases getElem?_set_of q2 with ⟨rfl, e2, _⟩ | ⟨ne2, q2⟩
      · cases e2
      · rw [List.getElem?_set_ne (Ne.symm ne1)] at h1
        rw [List.getElem?_set_ne (Ne.symm ne2)] at h2
        exact R.sep j k e f w q1 q2 o1 o2 h1 h2
end
end Pv

/-! E4: what is in hand, frozen, boxed, handed back. -/
namespace Pv
open PySem L2
open PySem.W (Frag)
section
variable {c : Cc} {C : Mem} {σ : St} {M : Mem} {τ : L2.St} {H H' : Hp} {W : WX} {X : Cx}

theorem xok_E0 {τ : L2.St} : XOk c W τ E0 := fun _ _ _ _ _ _ _ _ z => z.elim
/-- slot i forgets what it holds -/
theorem RepC.lose (R : RepC c C σ M τ H) (i : Nat) : RepC c C (σ.set i none) M τ H := by
  refine R.slot (by rw [List.length_set]; exact R.len) (fun j e q => ?_) fun j k e f w q1 q2 o1 o2 h1 h2 => ?_
  · rcases getElem?_set_of q with ⟨rfl, e1, _⟩ | ⟨ne, q⟩
    · cases e1
    · exact R.slots j e q
  · rcases getElem?_set_of q1 with ⟨rfl, e1, _⟩ | ⟨ne1, q1⟩
    · cases e1
    · rcases getElem?_set_of q2 with ⟨rfl, e2, _⟩ | ⟨ne2, q2⟩
      · cases e2
      · exact R.sep j k e f w q1 q2 o1 o2 h1 h2
theorem RepC.own_at (R : RepC c C σ M τ H) {i : Nat} {d : D} (h : σ[i]? = some (some d)) {o : MO} (ho : asMO d = some o) : ∃ a, τ[i]? = some (some (.ref a)) ∧ C a = some o ∧ M a = none ∧ c.H0 a = none ∧ BoxR c H a o := by
  obtain ⟨v, h1, h2⟩ := R.slots i d h
  unfold SlotR at h2
  rw [ho] at h2
  obtain ⟨a, rfl, e2, e3, e4⟩ := h2
  exact ⟨a, h1, e2, e3, e4, R.boxes a o e2⟩
theorem own_of {d : D} {o : MO} (ho : asMO d = some o) : d.own = true := by rw [own_asMO, ho]; rfl
theorem asOwn_asMO {d : D} {o : MO} (ho : asMO d = some o) : asOwn o = some d := by
  cases d <;> first | (cases ho; rfl) | cases ho
/-- the object of slot i is frozen -/
theorem RepC.freeze (R : RepC c C σ M τ H) {i : Nat} {d : D} (h : σ[i]? = some (some d)) {b : MO} (ho : asMO d = some b) :
    ∃ a u, τ[i]? = some (some (.ref a)) ∧ H a = some u ∧ Frzb a u ∧ ∀ o, Rep c (σ.set i (some (pk d))) M τ (upd H a (.frz o u)) ∧ RelP c (upd H a (.frz o u)) (pk d) (.ref a) ∧ Keeps H (upd H a (.frz o u)) := by
  obtain ⟨a, h1, h2, h3, h4, hb⟩ := R.own_at h ho
  obtain ⟨u, hu, f⟩ := box_frzb (asOwn_asMO ho) hb
  refine ⟨a, u, h1, hu, f, fun o => ?_⟩
  have rel := box_frz (o := o) ho hu f hb
  have hl : ∀ (j : Nat) (e : D), (σ.set i none)[j]? = some (some e) → e.own = true → τ[j]? ≠ some (some (.ref a)) := fun j e q oe q2 => by
    rcases getElem?_set_of q with ⟨rfl, e1, _⟩ | ⟨ne, q⟩
    · cases e1
    · exact ne (R.sep j i e d _ q h oe (own_of ho) q2 h1)
  have R1 := ((R.lose i).drop h3 hl).frz (o := o) (show (if a = a then none else C a) = none from if_pos rfl) h4 hu f
  have no : (pk d).own = false := by cases d <;> first | rfl | cases ho
  have nM : asMO (pk d) = none := by cases d <;> first | rfl | cases ho
  have R2 := R1.slotD (i := i) (d := pk d) h1 no (by unfold SlotR; rw [nM]; exact rel)
  rw [List.set_set] at R2
  refine ⟨⟨_, R2⟩, rel, keeps_upd fun w e m => ?_⟩
  rw [hu] at e; cases e
  exact f.plain m
/-- a temporary object that nobody else holds is frozen -/
theorem RepC.freezeT {d : D} {v : V} (R : RepC c C σ M τ H) (t : TmpR c C σ M τ H d v) {b : MO} (ho : asMO d = some b) :
    ∃ a u, v = .ref a ∧ H a = some u ∧ Frzb a u ∧ ∀ o, Rep c σ M τ (upd H a (.frz o u)) ∧ RelP c (upd H a (.frz o u)) (pk d) (.ref a) ∧ Keeps H (upd H a (.frz o u)) := by
  unfold TmpR at t
  split at t
  · cases ho
  · obtain ⟨t1, t2⟩ := t
    unfold SlotR at t1
    rw [ho] at t1
    obtain ⟨a, rfl, e2, e3, e4⟩ := t1
    have hb := R.boxes a b e2
    obtain ⟨u, hu, f⟩ := box_frzb (asOwn_asMO ho) hb
    refine ⟨a, u, rfl, hu, f, fun o => ?_⟩
    have R1 := (R.drop e3 (t2 (own_of ho))).frz (o := o) (show (if a = a then none else C a) = none from if_pos rfl) e4 hu f
    refine ⟨⟨_, R1⟩, box_frz (o := o) ho hu f hb, keeps_upd fun w e m => ?_⟩
    rw [hu] at e; cases e
    exact f.plain m
theorem TmpR.rel {d : D} {v : V} (t : TmpR c C σ M τ H d v) (hs : ∀ i, d ≠ .slot i) (hn : asMO d = none) : RelP c H d v := by
  unfold TmpR at t
  split at t
  · exact absurd rfl (hs _)
  · have t1 := t.1
    unfold SlotR at t1
    rw [hn] at t1; exact t1
theorem pk_plain {d : D} (hn : asMO d = none) : pk d = d := by cases d <;> first | rfl | cases hn
/-- what is in hand, looked at -/
theorem RepT.peek {d : D} {v : V} (h : RepT c d v σ M τ H) : (Rep c σ M τ H ∧ PkR c σ τ H (pk d) v) ∨
    ∃ a u, v = .ref a ∧ H a = some u ∧ Frzb a u ∧ ∀ o, Rep c σ M τ (upd H a (.frz o u)) ∧ PkR c σ τ (upd H a (.frz o u)) (pk d) v ∧ Keeps H (upd H a (.frz o u)) := by
  obtain ⟨C, R, t⟩ := h
  cases ho : asMO d with
  | some b =>
    obtain ⟨a, u, rfl, hu, f, k⟩ := R.freezeT t ho
    refine .inr ⟨a, u, rfl, hu, f, fun o => ?_⟩
    obtain ⟨k1, k2, k3⟩ := k o
    refine ⟨k1, ?_, k3⟩
    cases d <;> first | exact ⟨rfl, k2⟩ | cases ho
  | none =>
    rw [pk_plain ho]
    refine .inl ⟨⟨C, R⟩, ?_⟩
    cases d with
    | slot i => exact t.1
    | ol _ => cases ho
    | od _ => cases ho
    | _ => exact ⟨rfl, t.rel (fun i z => by cases z) rfl⟩
theorem pe_LP {e : Expr} {t : Kx → St → Mem → Kt → Prop} (h : PE X e (LE c W t)) : PE X e (LP c W t) := by
  refine pe_imp (pe_frz h) fun τ H Q ⟨σ, M, E, Qd, R, ht, x, q⟩ => ⟨σ, M, E, Qd, R, ht, x, fun d v σ' M' H' r k hq => ?_⟩
  rcases r.peek with ⟨r1, r2⟩ | ⟨a, u, rfl, hu, f, w⟩
  · exact .inl (q d v σ' M' H' r1 r2 k hq)
  · refine .inr ⟨a, u, rfl, hu, f, fun o => ?_⟩
    obtain ⟨w1, w2, w3⟩ := w o
    exact q d _ σ' M' _ w1 w2 (k.trans w3) hq
/-- a value gone elsewhere: frozen -/
theorem RepT.frozen {d : D} {v : V} {Qd : Kt} (h : RepT c d v σ M τ H) (q : frz d σ M Qd) : (∃ d' σ', Rep c σ' M τ H ∧ RelP c H d' v ∧ Qd d' σ' M) ∨
    ∃ a u, v = .ref a ∧ H a = some u ∧ Frzb a u ∧ ∀ o, ∃ d' σ', Rep c σ' M τ (upd H a (.frz o u)) ∧ RelP c (upd H a (.frz o u)) d' v ∧ Keeps H (upd H a (.frz o u)) ∧ Qd d' σ' M := by
  obtain ⟨C, R, t⟩ := h
  cases d with
  | ol xs =>
    obtain ⟨a, u, rfl, hu, f, k⟩ := R.freezeT (b := .l xs) t rfl
    refine .inr ⟨a, u, rfl, hu, f, fun o => ?_⟩
    obtain ⟨k1, k2, k3⟩ := k o
    exact ⟨_, σ, k1, k2, k3, q⟩
  | od kvs =>
    obtain ⟨a, u, rfl, hu, f, k⟩ := R.freezeT (b := .d kvs) t rfl
    refine .inr ⟨a, u, rfl, hu, f, fun o => ?_⟩
    obtain ⟨k1, k2, k3⟩ := k o
    exact ⟨_, σ, k1, k2, k3, q⟩
  | slot i =>
    obtain ⟨t1, e, t2, t3⟩ := t
    cases e with
    | ol xs =>
      obtain ⟨a, u, h1, hu, f, k⟩ := R.freeze (b := .l xs) t2 rfl
      rw [t1] at h1; cases h1
      refine .inr ⟨a, u, rfl, hu, f, fun o => ?_⟩
      obtain ⟨k1, k2, k3⟩ := k o
      refine ⟨_, _, k1, k2, k3, ?_⟩
      simp only [frz, t2] at q; exact q
    | od kvs =>
      obtain ⟨a, u, h1, hu, f, k⟩ := R.freeze (b := .d kvs) t2 rfl
      rw [t1] at h1; cases h1
      refine .inr ⟨a, u, rfl, hu, f, fun o => ?_⟩
      obtain ⟨k1, k2, k3⟩ := k o
      refine ⟨_, _, k1, k2, k3, ?_⟩
      simp only [frz, t2] at q; exact q
    | _ => cases t3
  | _ => exact .inl ⟨_, σ, ⟨C, R⟩, t.rel (fun i z => by cases z) rfl, q⟩
def LFz (c : Cc) (W : WX) (t : Kx → St → Mem → Kt → Prop) : TE := fun τ H Q => ∃ σ M E Qd, Rep c σ M τ H ∧ t E σ M (fun d σ M => frz d σ M Qd) ∧ XOk c W τ E ∧
  ∀ d v σ' M' H', Rep c σ' M' τ H' → RelP c H' d v → Keeps H H' → Qd d σ' M' → Q v H'
theorem pe_LFz {e : Expr} {t : Kx → St → Mem → Kt → Prop} (h : PE X e (LE c W t)) : PE X e (LFz c W t) := by
  refine pe_imp (pe_frz h) fun τ H Q ⟨σ, M, E, Qd, R, ht, x, q⟩ => ⟨σ, M, E, _, R, ht, x, fun d v σ' M' H' r k hq => ?_⟩
  rcases r.frozen hq with ⟨d', σ2, r1, r2, r3⟩ | ⟨a, u, rfl, hu, f, w⟩
  · exact .inl (q d' v σ2 M' H' r1 r2 k r3)
  · refine .inr ⟨a, u, rfl, hu, f, fun o => ?_⟩
    obtain ⟨d', σ2, w1, w2, w3, w4⟩ := w o
    exact q d' _ σ2 M' _ w1 w2 (k.trans w3) w4
/-- a value gone elsewhere: boxed -/
theorem RepC.share (R : RepC c C σ M τ H) {a : Addr} {b : MO} (h : C a = some b) (hM : M a = none) (hs : ∀ (i : Nat) (e : D), σ[i]? = some (some e) → e.own = true → τ[i]? ≠ some (some (.ref a))) : RepC c C σ (mset M a b) τ H := by
  refine ⟨R.len, fun x o e => ?_, R.boxes, fun i d e => ?_, R.sep, R.old, R.there, R.new⟩
  · by_cases q : x = a
    · subst q; rw [mset_same] at e; cases e; exact h
    · rw [mset_ne q] at e; exact R.sub x o e
  · obtain ⟨v, h1, h2⟩ := R.slots i d e
    refine ⟨v, h1, ?_⟩
    cases ho : asMO d with
    | none => unfold SlotR at h2 ⊢; rw [ho] at h2 ⊢; exact h2
    | some o =>
      unfold SlotR at h2 ⊢
      rw [ho] at h2 ⊢
      obtain ⟨p, e1, e2, e3, e4⟩ := h2
      exact ⟨p, e1, e2, by rw [mset_ne fun z => hs i d e (own_of ho) (by rw [h1, e1, z])]; exact e3, e4⟩
theorem RepT.boxed {d : D} {v : V} {Qd : Kt} (h : RepT c d v σ M τ H) (q : boxd d σ M Qd) : ∃ d' σ' M', Rep c σ' M' τ H ∧ RelP c H d' v ∧ Qd d' σ' M' := by
  obtain ⟨C, R, t⟩ := h
  have tmp : ∀ (d : D) (b : MO), asMO d = some b → TmpR c C σ M τ H d v → ∃ a, v = .ref a ∧ M a = none ∧ RepC c C σ (mset M a b) τ H := fun d b ho t => by
    unfold TmpR at t
    split at t
    · cases ho
    · obtain ⟨t1, t2⟩ := t
      unfold SlotR at t1
      rw [ho] at t1
      obtain ⟨a, rfl, e2, e3, e4⟩ := t1
      exact ⟨a, rfl, e3, R.share e2 e3 (t2 (own_of ho))⟩
  have slt : ∀ (i : Nat) (e : D) (b : MO), asMO e = some b → σ[i]? = some (some e) → τ[i]? = some (some v) → ∃ a, v = .ref a ∧ M a = none ∧ RepC c C (σ.set i (some (.ref a))) (mset M a b) τ H := fun i e b ho he hv => by
    obtain ⟨a, h1, h2, h3, h4, hb⟩ := R.own_at he ho
    rw [hv] at h1; cases h1
    have hl : ∀ (j : Nat) (f : D), (σ.set i none)[j]? = some (some f) → f.own = true → τ[j]? ≠ some (some (.ref a)) := fun j f q oe q2 => by
      rcases getElem?_set_of q with ⟨rfl, e1, _⟩ | ⟨ne, q⟩
      · cases e1
      · exact ne (R.sep j i f e _ q he oe (own_of ho) q2 hv)
    have R1 := ((R.lose i).share h2 h3 hl).slotD (i := i) (d := .ref a) hv rfl (show RelP c H (.ref a) (.ref a) from .ref a)
    rw [List.set_set] at R1
    exact ⟨a, rfl, h3, R1⟩
  cases d with
  | ol xs =>
    obtain ⟨a, rfl, h1, R1⟩ := tmp _ (.l xs) rfl t
    exact ⟨_, σ, _, ⟨C, R1⟩, .ref a, q a h1⟩
  | od kvs =>
    obtain ⟨a, rfl, h1, R1⟩ := tmp _ (.d kvs) rfl t
    exact ⟨_, σ, _, ⟨C, R1⟩, .ref a, q a h1⟩
  | slot i =>
    obtain ⟨t1, e, t2, t3⟩ := t
    cases e with
    | ol xs =>
      obtain ⟨a, rfl, h1, R1⟩ := slt i _ (.l xs) rfl t2 t1
      simp only [boxd, t2] at q
      exact ⟨_, _, _, ⟨C, R1⟩, .ref a, q a h1⟩
    | od kvs =>
      obtain ⟨a, rfl, h1, R1⟩ := slt i _ (.d kvs) rfl t2 t1
      simp only [boxd, t2] at q
      exact ⟨_, _, _, ⟨C, R1⟩, .ref a, q a h1⟩
    | _ => cases t3
  | _ => exact ⟨_, σ, M, ⟨C, R⟩, t.rel (fun i z => by cases z) rfl, q⟩
def LBx (c : Cc) (W : WX) (t : Kx → St → Mem → Kt → Prop) : TE := fun τ H Q => ∃ σ M E Qd, Rep c σ M τ H ∧ t E σ M (fun d σ M => boxd d σ M Qd) ∧ XOk c W τ E ∧
  ∀ d v σ' M' H', Rep c σ' M' τ H' → RelP c H' d v → Keeps H H' → Qd d σ' M' → Q v H'
theorem pe_LBx {e : Expr} {t : Kx → St → Mem → Kt → Prop} (h : PE X e (LE c W t)) : PE X e (LBx c W t) := by
  refine pe_imp h fun τ H Q ⟨σ, M, E, Qd, R, ht, x, q⟩ => ⟨σ, M, E, _, R, ht, x, fun d v σ' M' H' r k hq => ?_⟩
  obtain ⟨d', σ2, M2, r1, r2, r3⟩ := r.boxed hq
  exact q d' v σ2 M2 H' r1 r2 k r3
/-- handed back -/
theorem RepT.handed {d : D} {v : V} {Qd : D → Mem → Prop} (h : RepT c d v σ M τ H) (q : handed d σ M Qd) : ∃ d', (∀ i, d' ≠ .slot i) ∧ RepT c d' v [] M [] H ∧ Qd d' M := by
  obtain ⟨C, R, t⟩ := h
  have R0 : RepC c C [] M [] H := R.slot rfl (fun i d e => by simp at e) fun i j d e v q => by simp at q
  have no : ∀ (e : D) (b : MO), asMO e = some b → SlotR c C M H e v → RepT c e v [] M [] H := fun e b ho r => ⟨C, R0, by
    unfold TmpR
    split
    · cases ho
    · exact ⟨r, fun _ i f z => by simp at z⟩⟩
  cases d with
  | slot i =>
    obtain ⟨t1, e, t2, t3⟩ := t
    obtain ⟨w, h1, h2⟩ := R.slots i e t2
    rw [t1] at h1; cases h1
    cases e with
    | ol xs =>
      simp only [Pv.handed, t2] at q
      exact ⟨_, (fun j z => by cases z), no _ _ rfl h2, q⟩
    | od kvs =>
      simp only [Pv.handed, t2] at q
      exact ⟨_, (fun j z => by cases z), no _ _ rfl h2, q⟩
    | _ => cases t3
  | ol xs => exact ⟨_, (fun j z => by cases z), no _ _ rfl t.1, q⟩
  | od kvs => exact ⟨_, (fun j z => by cases z), no _ _ rfl t.1, q⟩
  | _ => exact ⟨_, (fun j z => by cases z), ⟨C, R0, tmpR_of R0 (fun i z => by cases z) rfl (t.rel (fun i z => by cases z) rfl)⟩, q⟩

/-! ### reading -/
/-- a value as it is read -/
def VwR (c : Cc) (H : Hp) (d : D) (v : V) : Prop := match d with
  | .lst ds => ds.length ≤ SZ ∧ ∃ a vs, v = .ref a ∧ SqL c.K H a vs ∧ RelPs c H ds vs
  | .dct kvs => ∃ a u, v = .ref a ∧ Rd H a u ∧ (kvs.map fun p => p.1.nk).Nodup ∧ DctR c H kvs a u
  | .slot _ => True
  | .ol _ => False
  | .od _ => False
  | d => RelP c H d v
theorem VwR.ofP {d : D} {v : V} (h : RelP c H d v) (ho : d.own = false) : VwR c H d v := by
  cases h with
  | lst h z r => exact ⟨z, _, _, rfl, h.sq, r⟩
  | dctI h n b r => exact ⟨_, _, rfl, .inr ⟨_, h⟩, n, .I b r⟩
  | dctB h n z b r => exact ⟨_, _, rfl, .inr ⟨_, h⟩, n, .B z b r⟩
  | dctT h n z b q r => exact ⟨_, _, rfl, .inr ⟨_, h⟩, n, .T z b q r⟩
  | non => exact .non
  | bl b => exact .bl b
  | int i => exact .int i
  | str x z => exact .str x z
  | tup a b r => exact .tup a b r
  | ref a => exact .ref a
theorem VwR.ofBox {a : Addr} {b : MO} {d : D} (ho : asMO d = some b) (h : BoxR c H a b) : VwR c H (pk d) (.ref a) := by
  cases d with
  | ol ds =>
    cases ho
    obtain ⟨z, vs, h, r⟩ := h
    exact ⟨z, a, vs, rfl, .of h, r⟩
  | od kvs =>
    cases ho
    obtain ⟨u, h, n, r⟩ := h
    exact ⟨a, u, rfl, .inl h, n, r⟩
  | _ => cases ho
/-- what is looked at reads as vw tells -/
theorem Rep.view {d : D} {v : V} (R : Rep c σ M τ H) (h : PkR c σ τ H d v) : VwR c H (vw σ M d) v := by
  obtain ⟨C, R⟩ := R
  cases d with
  | slot i =>
    unfold vw
    dsimp only
    split
    · rename_i xs e
      obtain ⟨a, h1, _, _, _, hb⟩ := R.own_at (o := .l xs) e rfl
      rw [h] at h1; cases h1
      exact VwR.ofBox (d := .ol xs) rfl hb
    · rename_i kvs e
      obtain ⟨a, h1, _, _, _, hb⟩ := R.own_at (o := .d kvs) e rfl
      rw [h] at h1; cases h1
      exact VwR.ofBox (d := .od kvs) rfl hb
    · exact trivial
  | ref a =>
    obtain ⟨_, r⟩ := h
    cases r
    unfold vw
    dsimp only
    split
    · rename_i xs e
      exact VwR.ofBox (d := .ol xs) rfl (R.boxes a _ (R.sub a _ e))
    · rename_i kvs e
      exact VwR.ofBox (d := .od kvs) rfl (R.boxes a _ (R.sub a _ e))
    · exact RelP.ref a
  | ol _ => cases h.1
  | od _ => cases h.1
  | _ => exact VwR.ofP h.2 rfl
theorem PkR.keep {d : D} {v : V} {σ' : St} (k : Keeps H H') (h : PkR c σ τ H d v) : PkR c σ' τ H' d v := by
  cases d with
  | slot i => exact h
  | _ => exact ⟨h.1, h.2.keep k⟩
end
end Pv

/-! E5: operators, by values. -/
namespace Pv
open PySem L2
open PySem.W (Frag)
section
variable {c : Cc} {X : Cx} {H : Hp}

theorem strOf_append (x y : List Nat) : strOf x ++ strOf y = strOf (x ++ y) := by
  show (⟨x.toArray ++ y.toArray⟩ : Str) = ⟨(x ++ y).toArray⟩
  simp
theorem strOf_len (x : List Nat) : (strOf x).length = x.length := by simp [strOf, Str.length]
theorem strOf_cps (x : List Nat) : (strOf x).cps.toList = x := by simp [strOf]
theorem strOf_one (k : Nat) : strOf [k] = ⟨#[k]⟩ := rfl
theorem sizeLineE : sizeLine = SZ := rfl

/-- what an operation asks and gives, over D -/
def rD2 (c : Cc) (f : D → D → Option D) : R2 := fun x y H Q => ∃ dx dy r, VwR c H dx x ∧ VwR c H dy y ∧ f dx dy = some r ∧ ∀ v H', NewR c H r v H' → Q v H'
theorem NewR.int {i : Int} : NewR c H (.int i) (.int i) H := ⟨fun _ z => (nomatch z), .int i, .inl rfl⟩
theorem NewR.bl {b : Bool} : NewR c H (.bl b) (.bl b) H := ⟨fun _ z => (nomatch z), .bl b, .inl rfl⟩
theorem NewR.non : NewR c H .non .non H := ⟨fun _ z => (nomatch z), .non, .inl rfl⟩
theorem NewR.str {x : List Nat} (h : x.length ≤ SZ) : NewR c H (.str x) (.str (strOf x)) H := ⟨fun _ z => (nomatch z), .str x h, .inl rfl⟩
/-- a value for ever, as it is -/
theorem NewR.old {d : D} {v : V} (h : RelP c H d v) : NewR c H d v H := by
  cases h with
  | _ => first
    | exact ⟨fun _ z => (nomatch z), .non, .inl rfl⟩
    | exact ⟨fun _ z => (nomatch z), .bl _, .inl rfl⟩
    | exact ⟨fun _ z => (nomatch z), .int _, .inl rfl⟩
    | exact ⟨fun _ z => (nomatch z), .str _ (by assumption), .inl rfl⟩
    | exact ⟨fun _ z => (nomatch z), .tup (by assumption) (by assumption) (by assumption), .inl rfl⟩
    | exact ⟨fun _ z => (nomatch z), .lst (by assumption) (by assumption) (by assumption), .inl rfl⟩
    | exact ⟨fun _ z => (nomatch z), .dctI (by assumption) (by assumption) (by assumption) (by assumption), .inl rfl⟩
    | exact ⟨fun _ z => (nomatch z), .dctB (by assumption) (by assumption) (by assumption) (by assumption) (by assumption), .inl rfl⟩
    | exact ⟨fun _ z => (nomatch z), .dctT (by assumption) (by assumption) (by assumption) (by assumption) (by assumption) (by assumption), .inl rfl⟩
    | exact ⟨fun _ z => (nomatch z), .ref _, .inl rfl⟩
theorem NewR.tupN {p : Addr} {ds : List D} {vs : List V} (hp : H p = none) (hl : ds.length ≤ SZ) (r : RelPs c H ds vs) : NewR c H (.tup ds) (.ref p) (upd H p (.tup vs)) :=
  ⟨fun _ z => (nomatch z), .tup (.of upd_same) hl (r.keep (keeps_new hp)), .inr ⟨p, _, hp, rfl⟩⟩
theorem NewR.olN {p : Addr} {ds : List D} {vs : List V} (hp : H p = none) (hl : ds.length ≤ SZ) (r : RelPs c H ds vs) : NewR c H (.ol ds) (.ref p) (upd H p (.lst vs)) :=
  ⟨p, _, hp, rfl, rfl, hl, vs, upd_same, r.keep (keeps_new hp)⟩

/-- a lists' + -/
def rCatL (K : Frag) : R2 := fun x y H Q => ∃ a b xs ys, x = .ref a ∧ y = .ref b ∧ SqL K H a xs ∧ SqL K H b ys ∧ xs.length + ys.length ≤ sizeLine ∧ ∀ p, H p = none → Q (.ref p) (upd H p (.lst (xs ++ ys)))
theorem op_catL : OpR X (binaryOp .Add) (rCatL X.K) := by
  intro pins s σ H x y v u Q I rx ry h
  obtain ⟨a, b, xs, ys, rfl, rfl, ha, hb, hz, q⟩ := h
  cases rx
  cases ry
  obtain ⟨its, r1, p1, _⟩ := I.list ha
  obtain ⟨jts, r2, p2, _⟩ := I.list hb
  obtain ⟨⟨c1, d1, t1, s1⟩, n1, g1, e1, e2, e3⟩ := p1
  obtain ⟨⟨c2, d2, t2, s2⟩, n2, g2, f1, f2, f3⟩ := p2
  dsimp only at e1 e2 e3 f1 f2 f3
  subst e1 e2 e3 f1 f2 f3
  have hsz : its.toArray.size + jts.toArray.size ≤ sizeLine := by rw [List.size_toArray, List.size_toArray, ← r1.length, ← r2.length]; exact hz
  refine concat_meets ⟨_, g1, rfl⟩ ⟨_, g2, rfl⟩ noFill_list_add seq_list_add PySem.F.slot_list_add PySem.F.entry_list_add (PySem.F.args_list_add_2 _ _) (PyProof.Rows.list_addW a b its.toArray jts.toArray n1 n2 none none s1 s2 hsz) ⟨g1, g2, ?_⟩
  have ea : its.toArray ++ jts.toArray = (its ++ jts).toArray := by simp
  rw [ea]
  exact ⟨V.ref _, _, I.lnew (t' := s.toks) (r1.append r2) (by rw [List.length_append]; exact hz), rfl, q _ I.fresh⟩

def bopR : Bop → Operator
  | .add => .Add | .sub => .Sub | .mul => .Mult | .mod => .Mod | .fdiv => .FloorDiv | .pow => .Pow | .shl => .LShift | .shr => .RShift | .band => .BitAnd | .bor => .BitOr
theorem mulOk_ok {i j : Int} (h : mulOk i j = true) : CMul i j := by
  unfold mulOk at h
  rcases Bool.or_eq_true_iff.mp h with h | h
  · exact .inl ⟨of_decide_eq_true (Bool.and_eq_true_iff.mp h).1, of_decide_eq_true (Bool.and_eq_true_iff.mp h).2⟩
  · exact .inr ⟨of_decide_eq_true (Bool.and_eq_true_iff.mp h).1, of_decide_eq_true (Bool.and_eq_true_iff.mp h).2⟩
theorem lim_some {α : Type} {x y : List α} (h : lim x = some y) : y = x ∧ x.length ≤ SZ := by
  unfold lim at h
  split at h
  · rename_i z; cases h; exact ⟨rfl, z⟩
  · cases h
theorem VwR.int {i : Int} {v : V} (h : VwR c H (.int i) v) : v = .int i := by
  have h : RelP c H (.int i) v := h
  cases h; rfl
theorem VwR.str {x : List Nat} {v : V} (h : VwR c H (.str x) v) : v = .str (strOf x) ∧ x.length ≤ SZ := by
  have h : RelP c H (.str x) v := h
  cases h; exact ⟨rfl, by assumption⟩
theorem VwR.tup {x : List D} {v : V} (h : VwR c H (.tup x) v) : ∃ a vs, v = .ref a ∧ SqT c.K H a vs ∧ x.length ≤ SZ ∧ RelPs c H x vs := by
  have h : RelP c H (.tup x) v := h
  cases h with
  | tup a b r => exact ⟨_, _, rfl, a, b, r⟩
theorem op_mul_str : OpR X (binaryOp .Mult) (fun x y H Q => ∃ (a : List Nat) (n : Int), x = .str (strOf a) ∧ y = .int n ∧ 0 ≤ n ∧ n ≤ 1000 ∧ a.length ≤ 1000 ∧ Q (.str (strOf (List.replicate n.toNat a).flatten)) H) := by
  intro pins s σ H x y v u Q I rx ry h
  obtain ⟨a, n, rfl, rfl, h1, h2, h3, q⟩ := h
  obtain ⟨t, rfl⟩ := rx
  obtain ⟨t', rfl⟩ := ry
  have hle : a.length * n.toNat ≤ 1000 * 1000 := Nat.mul_le_mul h3 (by omega)
  refine PySem.P.mul_str (by rw [decide_eq_false (by omega), decide_eq_false (by omega)]; rfl) (fun h4 h5 => ?_) (fun h4 h5 => ?_) ?_
  · rw [strOf_len]
    have hm : 1000 ≤ (2 ^ 63 - 1) / n := (Int.le_ediv_iff_mul_le (by omega)).mpr (by omega)
    omega
  · rw [strOf_len]
    exact decide_eq_false (by
      have e : sizeLine = 16777216 := by decide
      rw [e]; omega)
  · by_cases h4 : n < 1
    · rw [if_pos h4]
      have e : n = 0 := by omega
      subst e
      exact ⟨by decide, ⟨.str (strOf []), H, I.tok _, ⟨_, rfl⟩, q⟩⟩
    · rw [if_neg h4]
      by_cases h5 : (n == 1 || (strOf a).length == 0) = true
      · rw [if_pos h5]
        have e : (List.replicate n.toNat a).flatten = a := by
          rcases Bool.or_eq_true_iff.mp h5 with h | h
          · have h := eq_of_beq h
            subst h
            simp
          · have h := eq_of_beq h
            rw [strOf_len] at h
            have : a = [] := List.eq_nil_of_length_eq_zero h
            subst this
            generalize n.toNat = k
            induction k with
            | zero => rfl
            | succ k ih => rw [List.replicate_succ, List.flatten_cons, ih]; rfl
        rw [e] at q
        exact ⟨.str (strOf a), H, I, ⟨_, rfl⟩, q⟩
      · rw [if_neg h5]
        have e : (⟨(List.replicate n.toNat (strOf a).cps).foldl (· ++ ·) #[]⟩ : Str) = strOf (List.replicate n.toNat a).flatten := by
          have go : ∀ (k : Nat) (acc : List Nat), (List.replicate k (strOf a).cps).foldl (· ++ ·) acc.toArray = (acc ++ (List.replicate k a).flatten).toArray := fun k => by
            induction k with
            | zero => intro acc; simp
            | succ k ih =>
              intro acc
              rw [List.replicate_succ, List.foldl_cons, List.replicate_succ, List.flatten_cons, ← List.append_assoc, ← ih]
              congr 1
              simp [strOf]
          have := go n.toNat []
          show (⟨_⟩ : Str) = ⟨_⟩
          rw [show (#[] : Array Nat) = ([] : List Nat).toArray from rfl, this]
          rfl
        refine ⟨?_, ⟨.str _, H, I.tok _, ⟨_, rfl⟩, by rw [e]; exact q⟩⟩
        rw [e, strOf_len]
        have hl : ((List.replicate n.toNat a).flatten).length ≤ 1000 * 1000 := by
          rw [List.length_flatten, List.map_replicate, List.sum_replicate_nat]
          rw [Nat.mul_comm]; exact hle
        show _ ≤ 16777216
        omega
theorem or_bin (hK : X.K = c.K) : ∀ op : Bop, OpR X (binaryOp (bopR op)) (rD2 c (opBin op)) := by
  intro op pins s σ H x y v u Q I rx ry h
  obtain ⟨dx, dy, r, hx, hy, hf, q⟩ := h
  cases op <;> cases dx <;> first | (cases hf) | skip
  all_goals cases dy <;> first | (cases hf) | skip
  -- add: ints, texts, tuples, lists
  · rename_i i j
    cases hx.int; cases hy.int
    exact op_add pins s σ H _ _ v u Q I rx ry ⟨i, j, rfl, rfl, q _ _ .int⟩
  · rename_i x1 y1
    obtain ⟨rfl, z1⟩ := hx.str
    obtain ⟨rfl, z2⟩ := hy.str
    obtain ⟨w, hw, rfl⟩ := Option.map_eq_some_iff.mp (show (lim (x1 ++ y1)).map D.str = some r from hf)
    obtain ⟨rfl, hz⟩ := lim_some hw
    refine op_add_str pins s σ H _ _ v u Q I rx ry ⟨_, _, rfl, rfl, ?_, ?_⟩
    · rw [strOf_len, strOf_len, ← List.length_append]; exact hz
    · rw [strOf_append]; exact q _ _ (.str hz)
  · rename_i x1 y1
    obtain ⟨a, vs, rfl, ha, za, ra⟩ := hx.tup
    obtain ⟨b, us, rfl, hb, zb, rb⟩ := hy.tup
    obtain ⟨w, hw, rfl⟩ := Option.map_eq_some_iff.mp (show (lim (x1 ++ y1)).map D.tup = some r from hf)
    obtain ⟨rfl, hz⟩ := lim_some hw
    refine op_catA pins s σ H _ _ v u Q I rx ry ⟨a, b, vs, us, rfl, rfl, hK ▸ ha, hK ▸ hb, ?_, fun e => ?_, fun _ e => ?_, fun _ _ p hp => ?_⟩
    · rw [← ra.length, ← rb.length, ← List.length_append]; exact hz
    · subst e
      have e2 : x1 = [] := List.eq_nil_of_length_eq_zero (by rw [ra.length]; rfl)
      subst e2
      exact q _ _ (.old (.tup hb zb rb))
    · subst e
      have e2 : y1 = [] := List.eq_nil_of_length_eq_zero (by rw [rb.length]; rfl)
      subst e2
      rw [List.append_nil] at q
      exact q _ _ (.old (.tup ha za ra))
    · exact q _ _ (.tupN hp hz (ra.append rb))
  · rename_i x1 y1
    obtain ⟨za, a, vs, rfl, ha, ra⟩ := hx
    obtain ⟨zb, b, us, rfl, hb, rb⟩ := hy
    obtain ⟨w, hw, rfl⟩ := Option.map_eq_some_iff.mp (show (lim (x1 ++ y1)).map D.ol = some r from hf)
    obtain ⟨rfl, hz⟩ := lim_some hw
    refine op_catL pins s σ H _ _ v u Q I rx ry ⟨a, b, vs, us, rfl, rfl, hK ▸ ha, hK ▸ hb, ?_, fun p hp => ?_⟩
    · rw [← ra.length, ← rb.length, ← List.length_append]; exact hz
    · exact q _ _ (.olN hp hz (ra.append rb))
  · rename_i i j
    cases hx.int; cases hy.int
    exact op_sub pins s σ H _ _ v u Q I rx ry ⟨i, j, rfl, rfl, q _ _ .int⟩
  · rename_i i j
    cases hx.int; cases hy.int
    have hf : (if mulOk i j = true then some (D.int (i * j)) else none) = some r := hf
    split at hf
    · rename_i hm
      cases hf
      exact op_mul pins s σ H _ _ v u Q I rx ry ⟨i, j, rfl, rfl, mulOk_ok hm, q _ _ .int⟩
    · cases hf
  · rename_i x1 n
    obtain ⟨rfl, z1⟩ := hx.str
    cases hy.int
    have hf : (if 0 ≤ n ∧ n ≤ 1000 ∧ x1.length ≤ 1000 then some (D.str (List.replicate n.toNat x1).flatten) else none) = some r := hf
    split at hf
    · rename_i hh
      cases hf
      refine op_mul_str pins s σ H _ _ v u Q I rx ry ⟨x1, n, rfl, rfl, hh.1, hh.2.1, hh.2.2, q _ _ (.str ?_)⟩
      rw [List.length_flatten, List.map_replicate, List.sum_replicate_nat, Nat.mul_comm]
      have : x1.length * n.toNat ≤ 1000 * 1000 := Nat.mul_le_mul hh.2.2 (by omega)
      show _ ≤ 16777216
      omega
    · cases hf
  · rename_i i j
    cases hx.int; cases hy.int
    have hf : (if 0 < j then some (D.int (i % j)) else none) = some r := hf
    split at hf
    · rename_i hm
      cases hf
      exact op_mod pins s σ H _ _ v u Q I rx ry ⟨i, j, rfl, rfl, hm, q _ _ .int⟩
    · cases hf
  · rename_i i j
    cases hx.int; cases hy.int
    have hf : (if 0 < j ∧ j < 1073741824 then some (D.int (i / j)) else none) = some r := hf
    split at hf
    · rename_i hm
      cases hf
      exact op_fdiv pins s σ H _ _ v u Q I rx ry ⟨i, j, rfl, rfl, hm, q _ _ .int⟩
    · cases hf
  · rename_i i j
    cases hx.int; cases hy.int
    have hf : (if 0 ≤ j ∧ j ≤ 1000 ∧ i.natAbs < 2 ^ 64 then some (D.int (i ^ j.toNat)) else none) = some r := hf
    split at hf
    · rename_i hm
      cases hf
      exact op_pow pins s σ H _ _ v u Q I rx ry ⟨i, j, rfl, rfl, ⟨hm.1, by omega, hm.2.2⟩, q _ _ .int⟩
    · cases hf

/-! ### comparisons -/
mutual
theorem dp_of {H : Hp} : ∀ {d : D} {v : V}, RelP c H d v → d.dat = true → Dp c.K H v d.pd
  | _, _, .non, _ => .non
  | _, _, .bl b, _ => .bl b
  | _, _, .int i, _ => .int i
  | _, _, .str x _, _ => .str _
  | _, _, .tup h z r, q => .tup h (dps_of r (by rw [D.dat] at q; exact q))
  | _, _, .lst h z r, q => .lst h.sq (dps_of r (by rw [D.dat] at q; exact q))
  | _, _, .dctI _ _ _ _, q => by rw [D.dat] at q <;> simp_all
  | _, _, .dctB _ _ _ _ _, q => by rw [D.dat] at q <;> simp_all
  | _, _, .dctT _ _ _ _ _ _, q => by rw [D.dat] at q <;> simp_all
  | _, _, .ref a, q => by rw [D.dat] at q <;> simp_all
theorem dps_of {H : Hp} : ∀ {ds : List D} {vs : List V}, RelPs c H ds vs → dats ds = true → DpAll c.K H vs (pds ds)
  | _, _, .nil, _ => .nil
  | _, _, .cons r t, q => by
    rw [dats, Bool.and_eq_true] at q
    exact .cons (dp_of r q.1) (dps_of t q.2)
end
theorem VwR.dp {d : D} {v : V} (h : VwR c H d v) (q : d.dat = true) : Dp c.K H v d.pd := by
  cases d with
  | lst ds =>
    obtain ⟨_, a, vs, rfl, hs, r⟩ := h
    exact .lst hs (dps_of r (by rw [D.dat] at q; exact q))
  | dct _ => rw [D.dat] at q <;> simp_all
  | slot _ => rw [D.dat] at q <;> simp_all
  | ol _ => cases h
  | od _ => cases h
  | _ => exact dp_of h q
theorem pds_map : ∀ ds : List D, pds ds = ds.map D.pd
  | [] => rfl
  | d :: ds => by rw [pds, pds_map ds]; rfl
theorem D.flat_dat {d : D} (h : d.flat = true) : d.dat = true := by cases d <;> first | rfl | (simp [D.flat] at h)
theorem flat_rel {d : D} {v : V} (h : RelP c H d v) (q : d.flat = true) : flatV v = true := by
  cases h <;> first | rfl | cases q
theorem flat_eqv {d e : D} {v u : V} (h : RelP c H d v) (k : RelP c H e u) (q : d.flat = true) (r : e.flat = true) : eqV v u = d.eqv e := by
  cases h <;> first | (simp [D.flat] at q; done) | skip
  all_goals cases k <;> first | (simp [D.flat] at r; done) | rfl
theorem flats_any {e : D} {u : V} (k : RelP c H e u) (r : e.flat = true) : ∀ {ds : List D} {vs : List V}, RelPs c H ds vs → ds.all D.flat = true → vs.all flatV = true ∧ inV u vs = ds.any fun y => y.eqv e
  | _, _, .nil, _ => ⟨rfl, rfl⟩
  | _, _, .cons h t, q => by
    rw [List.all_cons, Bool.and_eq_true] at q
    obtain ⟨h1, h2⟩ := flats_any k r t q.2
    refine ⟨by rw [List.all_cons, flat_rel h q.1, h1]; rfl, ?_⟩
    unfold inV at h2 ⊢
    rw [List.any_cons, List.any_cons, h2, flat_eqv h k q.1 r]
theorem VwR.relP {d : D} {v : V} (h : VwR c H d v) (q : d.flat = true) : RelP c H d v := by
  cases d <;> first | exact h | cases q
def copR : Cop → CmpOp
  | .eq => .Eq | .ne => .NotEq | .lt => .Lt | .le => .LtE | .gt => .Gt | .ge => .GtE | .isIn => .In | .notIn => .NotIn
/-- a comparison, over D -/
def rC2 (c : Cc) (f : D → D → Option Bool) : R2 := fun x y H Q => ∃ dx dy r, VwR c H dx x ∧ VwR c H dy y ∧ f dx dy = some r ∧ Q (.bl r) H
theorem shp_and {d : D} (h : d.shp = true) : d.dat = true ∧ SeqAt.shaped d.pd = true := Bool.and_eq_true_iff.mp h
theorem or_eq (hK : X.K = c.K) (hu : X.A.units + 65 < cLine) : OpR X (compareOp .Eq) (rC2 c opEq) := by
  intro pins s σ H x y v u Q I rx ry h
  obtain ⟨dx, dy, r, hx, hy, hf, q⟩ := h
  unfold opEq at hf
  split at hf
  · rename_i hs
    cases hf
    obtain ⟨h1, h2⟩ := Bool.and_eq_true_iff.mp hs
    exact op_eqD (by omega) pins s σ H _ _ v u Q I rx ry ⟨_, _, hK ▸ hx.dp (shp_and h1).1, hK ▸ hy.dp (shp_and h2).1, (shp_and h1).2, (shp_and h2).2, q⟩
  · cases hf
theorem or_ne (hK : X.K = c.K) (hu : X.A.units + 65 < cLine) : OpR X (compareOp .NotEq) (rC2 c fun a b => (opEq a b).map (!·)) := by
  intro pins s σ H x y v u Q I rx ry h
  obtain ⟨dx, dy, r, hx, hy, hf, q⟩ := h
  obtain ⟨t, ht, rfl⟩ := Option.map_eq_some_iff.mp hf
  unfold opEq at ht
  split at ht
  · rename_i hs
    cases ht
    obtain ⟨h1, h2⟩ := Bool.and_eq_true_iff.mp hs
    exact op_neD (by omega) pins s σ H _ _ v u Q I rx ry ⟨_, _, hK ▸ hx.dp (shp_and h1).1, hK ▸ hy.dp (shp_and h2).1, (shp_and h1).2, (shp_and h2).2, q⟩
  · cases ht
theorem cmpI_ok {f : Int → Int → Bool} {dx dy : D} {x y : V} {r : Bool} (hx : VwR c H dx x) (hy : VwR c H dy y) (h : cmpI f dx dy = some r) : ∃ i j, x = .int i ∧ y = .int j ∧ f i j = r := by
  unfold cmpI at h
  split at h
  · cases hx.int; cases hy.int
    exact ⟨_, _, rfl, rfl, Option.some.inj h⟩
  · cases h
theorem or_cmpI {op : CmpOp} {f : Int → Int → Bool} (ho : OpR X (compareOp op) (rI0 fun i j => .bl (f i j))) : OpR X (compareOp op) (rC2 c (cmpI f)) := by
  intro pins s σ H x y v u Q I rx ry h
  obtain ⟨dx, dy, r, hx, hy, hf, q⟩ := h
  obtain ⟨i, j, rfl, rfl, rfl⟩ := cmpI_ok hx hy hf
  exact ho pins s σ H _ _ v u Q I rx ry ⟨i, j, rfl, rfl, q⟩
/-- membership -/
theorem in_str {dx : D} {ys : List Nat} {x y : V} {r : Bool} (hx : VwR c H dx x) (hy : VwR c H (.str ys) y) (h : inStr dx ys = some r) : (∃ a, x = .str ⟨#[a]⟩ ∧ y = .str (strOf ys) ∧ decide (a ∈ ys) = r) ∨ ∃ xs : List Nat, x = .str (strOf xs) ∧ y = .str (strOf ys) ∧ (!(Builtin.Str.occurrences (strOf ys) (strOf xs) 0 (strOf ys).length 1).isEmpty) = r := by
  unfold inStr at h
  split at h
  · rename_i a
    obtain ⟨rfl, _⟩ := hx.str
    obtain ⟨rfl, _⟩ := hy.str
    exact .inl ⟨a, rfl, rfl, Option.some.inj h⟩
  · rename_i xs _
    obtain ⟨rfl, _⟩ := hx.str
    obtain ⟨rfl, _⟩ := hy.str
    exact .inr ⟨xs, rfl, rfl, Option.some.inj h⟩
  · cases h
theorem any_pds (a : D) (ys : List D) : (pds ys).any (fun z => PyData.eqv z a.pd) = ys.any fun y => y.eqv a := by
  rw [pds_map, List.any_map]; rfl
theorem in_lst {dx : D} {ys : List D} {x y : V} {r : Bool} (hx : VwR c H dx x) (hy : VwR c H (.lst ys) y) (h : (if dx.shp && (D.lst ys).shp then some (ys.any fun y => y.eqv dx) else none) = some r) :
    ∃ d ds, Dp c.K H x d ∧ Dp c.K H y (.list ds) ∧ SeqAt.shaped d = true ∧ SeqAt.shaped (.list ds) = true ∧ (ds.any fun z => PyData.eqv z d) = r := by
  split at h
  · rename_i hs
    obtain ⟨h1, h2⟩ := Bool.and_eq_true_iff.mp hs
    have k := hy.dp (shp_and h2).1
    have k2 := (shp_and h2).2
    rw [D.pd] at k k2
    refine ⟨_, _, hx.dp (shp_and h1).1, k, (shp_and h1).2, k2, ?_⟩
    rw [any_pds]; exact Option.some.inj h
  · cases h
theorem in_tup {dx : D} {ys : List D} {x y : V} {r : Bool} (hx : VwR c H dx x) (hy : VwR c H (.tup ys) y) (h : (if dx.flat && ys.all D.flat then some (ys.any fun y => y.eqv dx) else none) = some r) :
    ∃ p xs, y = .ref p ∧ SqT c.K H p xs ∧ flatV x = true ∧ xs.all flatV = true ∧ inV x xs = r := by
  split at h
  · rename_i hs
    obtain ⟨h1, h2⟩ := Bool.and_eq_true_iff.mp hs
    obtain ⟨a, vs, rfl, ha, _, ra⟩ := hy.tup
    have k := hx.relP h1
    obtain ⟨k1, k2⟩ := flats_any k h1 ra h2
    exact ⟨a, vs, rfl, ha, flat_rel k h1, k1, k2.trans (Option.some.inj h)⟩
  · cases h

/-! ### subscripts, slices -/
def ixSeq : D → D → Option D
  | .tup xs, .int i => L2.atI xs i
  | .lst xs, .int i => L2.atI xs i
  | .str xs, .int i => (L2.atI xs i).map fun c => .str [c]
  | _, _ => none
theorem atI_rel {ds : List D} {vs : List V} {i : Int} {d : D} (r : RelPs c H ds vs) (h : L2.atI ds i = some d) : ∃ v, L2.atI vs i = some v ∧ RelP c H d v := by
  unfold L2.atI at h ⊢
  rw [← r.length]
  obtain ⟨j, h1, h2⟩ := Option.bind_eq_some_iff.mp h
  obtain ⟨v, h3, h4⟩ := r.get h2
  exact ⟨v, by rw [h1]; exact h3, h4⟩
theorem or_ixSeq (hK : X.K = c.K) : IxR X (rD2 c ixSeq) := by
  intro value slice pins s σ H x y v u Q I rx ry h hs
  obtain ⟨dx, dy, r, hx, hy, hf, q⟩ := h
  unfold ixSeq at hf
  split at hf
  · rename_i xs i
    obtain ⟨a, vs, rfl, ha, _, ra⟩ := hx.tup
    cases hy.int
    obtain ⟨w, h1, h2⟩ := atI_rel ra hf
    exact ix_tup value slice pins s σ H _ _ v u Q I rx ry ⟨a, vs, i, w, rfl, rfl, hK ▸ ha, h1, q _ _ (.old h2)⟩ hs
  · rename_i xs i
    obtain ⟨_, a, vs, rfl, ha, ra⟩ := hx
    cases hy.int
    obtain ⟨w, h1, h2⟩ := atI_rel ra hf
    exact ix_list value slice pins s σ H _ _ v u Q I rx ry ⟨a, vs, i, w, rfl, rfl, hK ▸ ha, h1, q _ _ (.old h2)⟩ hs
  · rename_i xs i
    obtain ⟨rfl, hz⟩ := hx.str
    cases hy.int
    obtain ⟨k, h1, rfl⟩ := Option.map_eq_some_iff.mp hf
    exact ix_str value slice pins s σ H _ _ v u Q I rx ry ⟨_, i, k, rfl, rfl, by rw [strOf_len]; exact hz, by rw [strOf_cps]; exact h1, q _ _ (.str (x := [k]) (by show 1 ≤ 16777216; decide))⟩ hs
  · cases hf
theorem cutL_length {α : Type} (lo hi : Option Int) (xs : List α) : (cutL lo hi xs).length ≤ xs.length := by
  unfold cutL
  rw [List.length_take, List.length_drop]
  omega
theorem RelPs.cut {ds : List D} {vs : List V} (lo hi : Option Int) (r : RelPs c H ds vs) : RelPs c H (cutL lo hi ds) (cutV vs lo hi) := by
  unfold cutL cutV
  rw [r.length]
  exact (r.drop _).take _
/-- a slice, over D -/
def rSD (c : Cc) : V → Option Int → Option Int → Hp → VK → Prop := fun x lo hi H Q => ∃ dx r, VwR c H dx x ∧ opSlc lo hi dx = some r ∧ ∀ v H', NewR c H r v H' → Q v H'
theorem or_slc (hK : X.K = c.K) : SlR X (rSD c) := by
  intro pins s σ H x v vl vu lo hi sl Q I rx hs pl pu h
  obtain ⟨dx, r, hx, hf, q⟩ := h
  cases dx with
  | tup xs =>
    cases hf
    obtain ⟨a, vs, rfl, ha, z, ra⟩ := hx.tup
    refine sl_tupA pins s σ H _ v vl vu lo hi sl Q I rx hs pl pu ⟨a, vs, rfl, hK ▸ ha, fun e => ?_, fun _ p hp => ?_⟩
    · have e2 : cutL lo hi xs = xs := by
        unfold cutL
        rw [ra.length, e.1, e.2, Nat.sub_zero, List.drop_zero, ← ra.length, List.take_length]
      rw [e2] at q
      exact q _ _ (.old (.tup ha z ra))
    · exact q _ _ (.tupN hp (Nat.le_trans (cutL_length _ _ _) z) (ra.cut lo hi))
  | lst xs =>
    cases hf
    obtain ⟨z, a, vs, rfl, ha, ra⟩ := hx
    exact sl_list pins s σ H _ v vl vu lo hi sl Q I rx hs pl pu ⟨a, vs, rfl, hK ▸ ha, fun p hp => q _ _ (.olN hp (Nat.le_trans (cutL_length _ _ _) z) (ra.cut lo hi))⟩
  | str xs =>
    cases hf
    obtain ⟨rfl, z⟩ := hx.str
    refine sl_str pins s σ H _ v vl vu lo hi sl Q I rx hs pl pu ⟨_, rfl, by rw [strOf_len]; exact z, ?_⟩
    have e : cutS (strOf xs) lo hi = strOf (cutL lo hi xs) := by
      unfold cutS cutL
      rw [strOf_len, strOf_cps]
      rfl
    rw [e]
    exact q _ _ (.str (Nat.le_trans (cutL_length _ _ _) z))
  | _ => cases hf
end
end Pv

/-! E6: dicts. -/
namespace Pv
open PySem PySem.Spec PyProof.Rows L2
open PySem.W (Frag)
section
variable {c : Cc} {X : Cx} {H : Hp}

/-! ### keys -/
mutual
theorem nested_of {h : Heap} (ok : HOk X.prog X.w H h) (kin : c.K.In h) : ∀ {d : D} {x : V} {u : Value}, RelP c H d x → RelV x u → d.keyd = true → NestedIs h d.nk u
  | _, _, _, .non, r, _ => by cases r; exact .none
  | _, _, _, .bl b, r, _ => by cases r; exact .bool rfl
  | _, _, _, .int i, r, _ => by obtain ⟨t, rfl⟩ := r; exact .int i t
  | _, _, _, .str x _, r, _ => by obtain ⟨t, rfl⟩ := r; exact .text _ t
  | _, _, _, .tup (a := a) (vs := vs) hs z q, r, hk => by
    cases r
    rw [D.keyd] at hk
    have tp : ∃ its : List Value, Vals vs its ∧ IsTup h a its.toArray := by
      rcases hs with hs | ⟨o, its, n, hl, hc, hd, hz, r⟩
      · obtain ⟨_, its, r, p⟩ := (hs.ok ok : ObjOk X.prog X.w H h a (.tup vs))
        exact ⟨its, r, p⟩
      · exact ⟨its.toList, r, o, kin a o hl, hc, n, by simpa using hd⟩
    obtain ⟨its, rv, o, g, hc, n, hd⟩ := tp
    exact .tup g hc hd (by simpa using nesteds_of ok kin q rv hk)
  | _, _, _, .lst _ _ _, _, hk => by rw [D.keyd] at hk <;> simp_all
  | _, _, _, .dctI _ _ _ _, _, hk => by rw [D.keyd] at hk <;> simp_all
  | _, _, _, .dctB _ _ _ _ _, _, hk => by rw [D.keyd] at hk <;> simp_all
  | _, _, _, .dctT _ _ _ _ _ _, _, hk => by rw [D.keyd] at hk <;> simp_all
  | _, _, _, .ref _, _, hk => by rw [D.keyd] at hk <;> simp_all
theorem nesteds_of {h : Heap} (ok : HOk X.prog X.w H h) (kin : c.K.In h) : ∀ {ds : List D} {vs : List V} {us : List Value}, RelPs c H ds vs → Vals vs us → keyds ds = true → NestedAll h (nks ds) us
  | _, _, _, .nil, .nil, _ => .nil
  | _, _, _, .cons r t, .cons r' t', hk => by
    rw [keyds, Bool.and_eq_true] at hk
    exact .cons (nested_of ok kin r r' hk.1) (nesteds_of ok kin t t' hk.2)
end
theorem isKey_and {k : D} (h : k.isKey = true) : k.keyd = true ∧ k.nk.depth ≤ 8 := ⟨(Bool.and_eq_true_iff.mp h).1, of_decide_eq_true (Bool.and_eq_true_iff.mp h).2⟩
theorem keyT_of {h : Heap} (ok : HOk X.prog X.w H h) (kin : c.K.In h) {d : D} {b : Addr} (r : RelP c H d (.ref b)) (hk : d.isKey = true) : (nestedKind X.prog X.w).is h d.nk b :=
  ⟨nested_of ok kin r rfl (isKey_and hk).1, (isKey_and hk).2⟩
theorem keyI_of {d : D} {x : V} {u : Value} (r : RelP c H d x) (q : RelV x u) (hd : isI d = true) : (mixKind X.prog X.w).is (keyI d) u = true := by
  cases r <;> first | (simp [isI] at hd; done) | skip
  · obtain ⟨t, rfl⟩ := q; exact mixKind_int _ _ _ t
  · obtain ⟨t, rfl⟩ := q; exact mixKind_str _ _ _ t
theorem keyB_of {d : D} {x : V} {u : Value} (r : RelP c H d x) (q : RelV x u) (hd : isB d = true) : (leafKind X.prog X.w).is (keyB d) u = true := by
  cases r <;> first | (simp [isB] at hd; done) | skip
  cases q
  simp [leafKind, Leaf.isOf, keyB]
theorem strOf_inj {x y : List Nat} (h : strOf x = strOf y) : x = y := by
  have := congrArg (fun s : Str => s.cps.toList) h
  simpa [strOf] using this
theorem keyI_inj {d e : D} (hd : isI d = true) (he : isI e = true) : keyI d = keyI e ↔ d.nk = e.nk := by
  cases d <;> first | (simp [isI] at hd; done) | skip
  all_goals cases e <;> first | (simp [isI] at he; done) | skip
  all_goals simp [keyI, D.nk]
theorem keyB_inj {d e : D} (hd : isB d = true) (he : isB e = true) : keyB d = keyB e ↔ d.nk = e.nk := by
  cases d <;> first | (simp [isB] at hd; done) | skip
  cases e <;> first | (simp [isB] at he; done) | skip
  simp [keyB, D.nk]

/-! ### looking up, storing, whatever the keys' kind -/
section
variable {κ : Type} [DecidableEq κ]
theorem vals_at (f : D → κ) (k : D) : ∀ {kvs : List (D × D)} {vs : List Value}, RelVs c H kvs vs → (∀ p ∈ kvs, f p.1 = f k ↔ p.1.nk = k.nk) →
    (dget kvs k = none ∧ valueAt ((kvs.map fun p => f p.1).zip vs) (f k) = none) ∨ ∃ d y u, dget kvs k = some d ∧ valueAt ((kvs.map fun p => f p.1).zip vs) (f k) = some u ∧ RelP c H d y ∧ RelV y u
  | _, _, .nil, _ => .inl ⟨rfl, rfl⟩
  | (k0, d0) :: kvs, u :: vs, .cons r q t, hf => by
    have h0 := hf (k0, d0) List.mem_cons_self
    by_cases e : k0.nk = k.nk
    · have e' : f k0 = f k := h0.mpr e
      refine .inr ⟨d0, _, u, ?_, ?_, r, q⟩
      · simp [dget, e]
      · simp [valueAt, e']
    · have e' : ¬ f k0 = f k := fun z => e (h0.mp z)
      have ih := vals_at f k t fun p hp => hf p (List.mem_cons_of_mem _ hp)
      have h1 : dget ((k0, d0) :: kvs) k = dget kvs k := by simp [dget, e]
      have h2 : valueAt ((((k0, d0) :: kvs).map fun p => f p.1).zip (u :: vs)) (f k) = valueAt ((kvs.map fun p => f p.1).zip vs) (f k) := by simp [valueAt, e']
      rw [h1, h2]; exact ih
theorem dget_isSome (kvs : List (D × D)) (k : D) : (dget kvs k).isSome = kvs.any fun p => decide (p.1.nk = k.nk) := by
  induction kvs with
  | nil => rfl
  | cons p kvs ih =>
    by_cases e : p.1.nk = k.nk
    · simp [dget, e]
    · simp [dget, e] at ih ⊢; exact ih
theorem zip_any (f : D → κ) (k : D) : ∀ {kvs : List (D × D)} {vs : List Value}, kvs.length = vs.length → (∀ p ∈ kvs, f p.1 = f k ↔ p.1.nk = k.nk) →
    (((kvs.map fun p => f p.1).zip vs).any fun kv => decide (kv.1 = f k)) = kvs.any fun p => decide (p.1.nk = k.nk)
  | [], _, _, _ => by simp
  | p :: kvs, [], h, _ => by simp at h
  | p :: kvs, u :: vs, h, hf => by
    have ih := zip_any f k (kvs := kvs) (vs := vs) (by simpa using h) fun q hq => hf q (List.mem_cons_of_mem _ hq)
    have h0 := hf p List.mem_cons_self
    rw [List.map_cons, List.zip_cons_cons, List.any_cons, List.any_cons, ih]
    congr 1
    simp only [decide_eq_decide]; exact h0
theorem vals_map (f : D → κ) (k d : D) {y : V} {u : Value} (r : RelP c H d y) (q : RelV y u) : ∀ {kvs : List (D × D)} {vs : List Value}, RelVs c H kvs vs → (∀ p ∈ kvs, f p.1 = f k ↔ p.1.nk = k.nk) →
    ∃ ws, RelVs c H (kvs.map fun p => if p.1.nk = k.nk then (p.1, d) else p) ws ∧
      ((kvs.map fun p => f p.1).zip vs).map (fun kv => if kv.1 = f k then (kv.1, u) else kv) = ((kvs.map fun p => if p.1.nk = k.nk then (p.1, d) else p).map fun p => f p.1).zip ws
  | _, _, .nil, _ => ⟨[], .nil, rfl⟩
  | (k0, d0) :: kvs, u0 :: vs, .cons r0 q0 t, hf => by
    obtain ⟨ws, h1, h2⟩ := vals_map f k d r q t fun p hp => hf p (List.mem_cons_of_mem _ hp)
    have h0 := hf (k0, d0) List.mem_cons_self
    by_cases e : k0.nk = k.nk
    · have e' : f k0 = f k := h0.mpr e
      refine ⟨u :: ws, ?_, ?_⟩
      · rw [List.map_cons, if_pos e]; exact .cons r q h1
      · simp only [List.map_cons, List.zip_cons_cons, e, e', if_true, h2]
    · have e' : ¬ f k0 = f k := fun z => e (h0.mp z)
      refine ⟨u0 :: ws, ?_, ?_⟩
      · rw [List.map_cons, if_neg e]; exact .cons r0 q0 h1
      · simp only [List.map_cons, List.zip_cons_cons, e, e', if_false, h2]
theorem RelVs.snoc {k d : D} {y : V} {u : Value} (r : RelP c H d y) (q : RelV y u) : ∀ {kvs : List (D × D)} {vs : List Value}, RelVs c H kvs vs → RelVs c H (kvs ++ [(k, d)]) (vs ++ [u])
  | _, _, .nil => .cons r q .nil
  | _, _, .cons r0 q0 t => .cons r0 q0 (RelVs.snoc r q t)
theorem vals_put (f : D → κ) (k d : D) {y : V} {u : Value} (r : RelP c H d y) (q : RelV y u) {kvs : List (D × D)} {vs : List Value} (h : RelVs c H kvs vs) (hf : ∀ p ∈ kvs, f p.1 = f k ↔ p.1.nk = k.nk) :
    ∃ ws, RelVs c H (dput kvs k d) ws ∧ stored ((kvs.map fun p => f p.1).zip vs) (f k) u = ((dput kvs k d).map fun p => f p.1).zip ws := by
  unfold stored dput
  rw [zip_any f k h.length hf, dget_isSome]
  split
  · exact vals_map f k d r q h hf
  · refine ⟨vs ++ [u], h.snoc r q, ?_⟩
    rw [List.map_append, List.zip_append (by rw [List.length_map]; exact h.length)]
    rfl
end
theorem dput_keys (kvs : List (D × D)) (k d : D) : ((dput kvs k d).map fun p => p.1) = if (dget kvs k).isSome then kvs.map (fun p => p.1) else (kvs.map fun p => p.1) ++ [k] := by
  unfold dput
  split
  · rw [List.map_map]
    refine List.map_congr_left fun p _ => ?_
    show (if p.1.nk = k.nk then (p.1, d) else p).1 = p.1
    split <;> rfl
  · rw [List.map_append]; rfl
theorem dput_all {f : D → Bool} {kvs : List (D × D)} {k d : D} (h : kvs.all (fun p => f p.1) = true) (hk : f k = true) : (dput kvs k d).all (fun p => f p.1) = true := by
  have e : ∀ l : List (D × D), l.all (fun p => f p.1) = (l.map fun p => p.1).all f := fun l => by rw [List.all_map]; rfl
  rw [e] at h ⊢
  rw [dput_keys]
  split
  · exact h
  · rw [List.all_append, h]; simp [hk]
theorem nk_nodup (l : List (D × D)) : (l.map fun p => p.1.nk) = (l.map fun p => p.1).map D.nk := by rw [List.map_map]; rfl
theorem dput_nodup {kvs : List (D × D)} {k d : D} (h : (kvs.map fun p => p.1.nk).Nodup) : ((dput kvs k d).map fun p => p.1.nk).Nodup := by
  rw [nk_nodup] at h ⊢
  rw [dput_keys]
  split
  · exact h
  · rename_i q
    rw [dget_isSome] at q
    rw [List.map_append, List.nodup_append]
    refine ⟨h, by simp, fun x hx y hy e => q ?_⟩
    obtain ⟨k1, hk1, rfl⟩ := List.mem_map.mp hx
    obtain ⟨p, hp, rfl⟩ := List.mem_map.mp hk1
    rw [List.map_singleton, List.mem_singleton] at hy
    exact List.any_eq_true.mpr ⟨p, hp, decide_eq_true (e.trans hy)⟩
theorem dput_length (kvs : List (D × D)) (k d : D) : (dput kvs k d).length ≤ kvs.length + 1 := by
  unfold dput
  split
  · rw [List.length_map]; omega
  · rw [List.length_append]; simp

theorem dput_ne (kvs : List (D × D)) (k d : D) : dput kvs k d ≠ [] := fun z => by
  have e := dput_keys kvs k d
  rw [z] at e
  split at e
  · rename_i h
    cases kvs with
    | nil => cases h
    | cons _ _ => simp at e
  · simp at e
/-! ### tuples as keys -/
theorem zip3_keys : ∀ {kvs : List (D × D)} {as : List Addr} {vs : List Value}, kvs.length = as.length → kvs.length = vs.length → (zip3 kvs as vs).map (·.1) = kvs.map fun p => p.1.nk
  | [], _, _, _, _ => by simp [zip3]
  | p :: ps, a :: as, v :: vs, h1, h2 => by rw [zip3, List.map_cons, List.map_cons, zip3_keys (by simpa using h1) (by simpa using h2)]
  | _ :: _, [], _, h, _ => by simp at h
  | _ :: _, _ :: _, [], _, h => by simp at h
theorem zip3_len {kvs : List (D × D)} {as : List Addr} {vs : List Value} (h1 : kvs.length = as.length) (h2 : kvs.length = vs.length) : (zip3 kvs as vs).length = kvs.length := by
  have := congrArg List.length (zip3_keys h1 h2)
  simpa using this
theorem zip3_mem {h : Heap} (ok : HOk X.prog X.w H h) (kin : c.K.In h) : ∀ {kvs : List (D × D)} {as : List Addr} {vs : List Value}, RelPs c H (kvs.map (·.1)) (as.map V.ref) → kvs.all (fun p => p.1.isTup && p.1.isKey) = true →
    ∀ x ∈ zip3 kvs as vs, (nestedKind X.prog X.w).is h x.1 x.2.1
  | [], _, _, _, _, x, hx => by simp [zip3] at hx
  | p :: ps, [], _, _, _, x, hx => by simp [zip3] at hx
  | p :: ps, a :: as, [], _, _, x, hx => by simp [zip3] at hx
  | p :: ps, a :: as, v :: vs, r, hk, x, hx => by
    rw [List.all_cons, Bool.and_eq_true] at hk
    cases r with
    | cons r t =>
      rw [zip3, List.mem_cons] at hx
      rcases hx with rfl | hx
      · exact keyT_of ok kin r (Bool.and_eq_true_iff.mp hk.1).2
      · exact zip3_mem ok kin t hk.2 x hx
theorem at3 (k : D) : ∀ {kvs : List (D × D)} {as : List Addr} {vs : List Value}, kvs.length = as.length → RelVs c H kvs vs →
    (dget kvs k = none ∧ atKey (zip3 kvs as vs) k.nk = none) ∨ ∃ d y b u, dget kvs k = some d ∧ atKey (zip3 kvs as vs) k.nk = some (b, u) ∧ RelP c H d y ∧ RelV y u
  | _, _, _, _, .nil => .inl ⟨rfl, by simp [zip3, atKey]⟩
  | (k0, d0) :: kvs, [], u :: vs, h, _ => by simp at h
  | (k0, d0) :: kvs, a :: as, u :: vs, h, .cons r q t => by
    by_cases e : k0.nk = k.nk
    · refine .inr ⟨d0, _, a, u, ?_, ?_, r, q⟩
      · simp [dget, e]
      · simp [zip3, atKey, e]
    · have ih := at3 k (as := as) (by simpa using h) t
      have h1 : dget ((k0, d0) :: kvs) k = dget kvs k := by simp [dget, e]
      have h2 : atKey (zip3 ((k0, d0) :: kvs) (a :: as) (u :: vs)) k.nk = atKey (zip3 kvs as vs) k.nk := by simp [zip3, atKey, e]
      rw [h1, h2]; exact ih
theorem RelPs.snocP {ks : List D} {as : List Addr} {k : D} {b : Addr} (h : RelPs c H ks (as.map V.ref)) (r : RelP c H k (.ref b)) : RelPs c H (ks ++ [k]) ((as ++ [b]).map V.ref) := by
  rw [List.map_append]; exact h.append (.cons r .nil)
theorem put3 (k d : D) {y : V} {u : Value} {b : Addr} (r : RelP c H d y) (q : RelV y u) (rk : RelP c H k (.ref b)) {kvs : List (D × D)} {as : List Addr} {vs : List Value} (h : RelVs c H kvs vs) (hk : RelPs c H (kvs.map (·.1)) (as.map V.ref)) :
    ∃ bs ws, RelVs c H (dput kvs k d) ws ∧ RelPs c H ((dput kvs k d).map (·.1)) (bs.map V.ref) ∧ storedH (zip3 kvs as vs) k.nk b u = zip3 (dput kvs k d) bs ws := by
  have hl : kvs.length = as.length := by have := hk.length; simpa using this
  have hs : (atKey (zip3 kvs as vs) k.nk).isSome = (dget kvs k).isSome := by
    rcases at3 k hl h with ⟨h1, h2⟩ | ⟨_, _, _, _, h1, h2, _⟩ <;> rw [h1, h2] <;> rfl
  unfold storedH
  rw [hs]
  have mp : ∀ {kvs : List (D × D)} {as : List Addr} {vs : List Value}, kvs.length = as.length → RelVs c H kvs vs → ∃ ws, RelVs c H (kvs.map fun p => if p.1.nk = k.nk then (p.1, d) else p) ws ∧
      (zip3 kvs as vs).map (putAt k.nk u) = zip3 (kvs.map fun p => if p.1.nk = k.nk then (p.1, d) else p) as ws := by
    intro kvs
    induction kvs with
    | nil => intro as vs _ t; cases t; exact ⟨[], .nil, by simp [zip3]⟩
    | cons p kvs ih =>
      intro as vs hl t
      cases t with
      | @cons k0 d0 y0 u0 _ vs r0 q0 t =>
        cases as with
        | nil => simp at hl
        | cons a as =>
          obtain ⟨ws, h1, h2⟩ := ih (as := as) (by simpa using hl) t
          by_cases e : k0.nk = k.nk
          · refine ⟨u :: ws, ?_, ?_⟩
            · rw [List.map_cons, if_pos e]; exact .cons r q h1
            · rw [zip3, List.map_cons, List.map_cons, if_pos e, h2, zip3]
              simp [putAt, e]
          · refine ⟨u0 :: ws, ?_, ?_⟩
            · rw [List.map_cons, if_neg e]; exact .cons r0 q0 h1
            · rw [zip3, List.map_cons, List.map_cons, if_neg e, h2, zip3]
              simp [putAt, e]
  by_cases hd : (dget kvs k).isSome = true
  · obtain ⟨ws, h1, h2⟩ := mp hl h
    refine ⟨as, ws, ?_, ?_, ?_⟩
    · unfold dput; rw [if_pos hd]; exact h1
    · have e := dput_keys kvs k d
      rw [if_pos hd] at e
      have e2 : (dput kvs k d).map (·.1) = kvs.map (·.1) := e
      rw [e2]; exact hk
    · unfold dput; rw [if_pos hd, if_pos hd]; exact h2
  · refine ⟨as ++ [b], vs ++ [u], ?_, ?_, ?_⟩
    · unfold dput; rw [if_neg hd]; exact h.snoc r q
    · have e := dput_keys kvs k d
      rw [if_neg hd] at e
      have e2 : (dput kvs k d).map (·.1) = kvs.map (·.1) ++ [k] := e
      rw [e2]; exact hk.snocP rk
    · unfold dput; rw [if_neg hd, if_neg hd]
      have ap : ∀ {kvs : List (D × D)} {as : List Addr} {vs : List Value}, kvs.length = as.length → kvs.length = vs.length → zip3 (kvs ++ [(k, d)]) (as ++ [b]) (vs ++ [u]) = zip3 kvs as vs ++ [(k.nk, b, u)] := by
        intro kvs
        induction kvs with
        | nil => intro as vs h1 h2; cases as <;> cases vs <;> simp [zip3] at h1 h2 ⊢
        | cons p kvs ih =>
          intro as vs h1 h2
          cases as with
          | nil => simp at h1
          | cons a as =>
            cases vs with
            | nil => simp at h2
            | cons v vs =>
              show zip3 (p :: (kvs ++ [(k, d)])) (a :: (as ++ [b])) (v :: (vs ++ [u])) = _
              rw [zip3, zip3, ih (by simpa using h1) (by simpa using h2)]; rfl
      exact (ap hl h.length).symm

/-! ### a dict's values, with and without the tokens -/
theorem kv_split {κ : Type} (f : D → κ) : ∀ {kvs : List (D × D)} {ys : List V} {vs : List (κ × Value)}, RelPs c H (kvs.map (·.2)) ys → KV ((kvs.map fun p => f p.1).zip ys) vs → ∃ ws, vs = (kvs.map fun p => f p.1).zip ws ∧ RelVs c H kvs ws
  | [], _, _, _, .nil => ⟨[], rfl, .nil⟩
  | p :: kvs, y :: ys, _, .cons r t, k => by
    rw [List.map_cons, List.zip_cons_cons] at k
    cases k with
    | @cons _ q _ vs k0 kt =>
      obtain ⟨ws, e, h⟩ := kv_split f t kt
      obtain ⟨q1, q2⟩ := q
      obtain ⟨k1, k2⟩ := k0
      dsimp only at k1 k2
      subst k1
      exact ⟨q2 :: ws, by rw [List.map_cons, List.zip_cons_cons, e], .cons r k2 h⟩
theorem kv_join {κ : Type} (f : D → κ) : ∀ {kvs : List (D × D)} {ws : List Value}, RelVs c H kvs ws → ∃ ys, RelPs c H (kvs.map (·.2)) ys ∧ KV ((kvs.map fun p => f p.1).zip ys) ((kvs.map fun p => f p.1).zip ws)
  | _, _, .nil => ⟨[], .nil, .nil⟩
  | _, _, .cons r q t => by
    obtain ⟨ys, h1, h2⟩ := kv_join f t
    exact ⟨_ :: ys, .cons r h1, .cons ⟨rfl, q⟩ h2⟩
end
end Pv

/-! E6b: dicts' operations. -/
namespace Pv
open PySem PySem.Spec PyProof.Rows L2
open PySem.W (Frag)
section
variable {c : Cc} {X : Cx} {H : Hp} {pins : List (PySem.Addr × Obj)} {τ : L2.St} {s : Shared} {a : Addr} {u : HO} {kvs : List (D × D)} {k : D}

structure CX' (X : Cx) (c : Cc) : Prop where
  K : X.K = c.K
  P : X.prog = c.P
  w : X.w = c.w
def SzOk (a : Addr) (n : Nat) : Prop := (a == sysModules) = false ∧ n ≤ sizeLine
/-- an empty dict is one of any kind -/
theorem empty_es {es : Array DictEntry} (h : es.toList = []) : es = #[] := by
  cases es with
  | mk l => simp at h; subst h; rfl
theorem dOf_empty {P : Program} {w : World} {κ : Type} [DecidableEq κ] (knd : KeyKind P w κ) {h : Heap} {o : Obj} {ep : Nat} (g : h.get? a = some o) (x : o.ExactDict) (d : o.data = .dict #[] ep) : h.DictOf knd a [] :=
  ⟨o, #[], ep, g, x, d, fun e he => by simp at he, .nil, List.nodup_nil⟩
theorem of_dOf_empty {P : Program} {w : World} {κ : Type} [DecidableEq κ] {knd : KeyKind P w κ} {h : Heap} (x : h.DictOf knd a []) : ∃ o ep, h.get? a = some o ∧ o.ExactDict ∧ o.data = .dict #[] ep := by
  obtain ⟨o, es, ep, g, ex, d, _, p, _⟩ := x
  have : es.toList = [] := by
    generalize es.toList = l at p
    cases p; rfl
  rw [empty_es this] at d
  exact ⟨o, ep, g, ex, d⟩

/-- what is known of a dict, by its keys' kind -/
inductive DFact (c : Cc) (P : Program) (w : World) (H : Hp) (h : Heap) (a : Addr) (kvs : List (D × D)) : Nat → Prop
  | I {vs : List Value} : kvs.all (fun p => isI p.1) = true → RelVs c H kvs vs → h.DictOf (mixKind P w) a ((kvs.map fun p => keyI p.1).zip vs) → DFact c P w H h a kvs 0
  | B {vs : List Value} : kvs.all (fun p => isB p.1) = true → RelVs c H kvs vs → h.DictOf (leafKind P w) a ((kvs.map fun p => keyB p.1).zip vs) → DFact c P w H h a kvs 1
  | T {as : List Addr} {vs : List Value} : kvs.all (fun p => p.1.isTup && p.1.isKey) = true → RelPs c H (kvs.map (·.1)) (as.map V.ref) → RelVs c H kvs vs → h.DictOfH (nestedKind P w) a (zip3 kvs as vs) → DFact c P w H h a kvs 2
theorem objOk_ext {P : Program} {w : World} {h : Heap} {φ : Heap → Prop} (r : Rd H a (.ext φ)) (ok : HOk P w H h) : φ h := (r.ok ok).1
theorem sort_all {f : D → Bool} {n : Nat} (hf : ∀ d, kSort d = n → f d = true) (h : kvs.all (fun p => kSort p.1 == n) = true) : kvs.all (fun p => f p.1) = true := by
  rw [List.all_eq_true] at h ⊢
  intro p hp
  exact hf _ (eq_of_beq (h p hp))
theorem sort0 {d : D} {x : V} (r : RelP c H d x) (h : kSort d = 0) : isI d = true := by cases r <;> first | rfl | (simp [kSort] at h; done) | exact decide_eq_true (by assumption)
theorem sort1 {d : D} (h : kSort d = 1) : isB d = true := by cases d <;> first | rfl | (simp [kSort] at h)
theorem sort2 {d : D} (h : kSort d = 2) : d.isTup = true := by cases d <;> first | rfl | (simp [kSort] at h)
theorem isI_sort {d : D} (h : isI d = true) : kSort d = 0 := by cases d <;> first | rfl | (simp [isI] at h)
theorem isB_sort {d : D} (h : isB d = true) : kSort d = 1 := by cases d <;> first | rfl | (simp [isB] at h)
theorem isT_sort {d : D} (h : d.isTup = true) : kSort d = 2 := by cases d <;> first | rfl | (simp [D.isTup] at h)
theorem zip_len {κ : Type} (f : D → κ) {vs : List Value} (r : RelVs c H kvs vs) : ((kvs.map fun p => f p.1).zip vs).length = kvs.length := by
  rw [List.length_zip, List.length_map, ← r.length]; omega
/-- a dict as it stands, for a key of the sort n -/
theorem dfacts (e : CX' X c) (I : Inv X pins τ H s) (rd : Rd H a u) (nd : (kvs.map fun p => p.1.nk).Nodup) (d : DctR c H kvs a u) : SzOk a kvs.length ∧
    ∀ n, n < 3 → kvs.all (fun p => kSort p.1 == n) = true → DFact c X.prog X.w H s.heap a kvs n := by
  have ok := I.hok
  have hk := e.K
  have kin : c.K.In s.heap := hk ▸ I.kIn
  have emp : kvs = [] → (∃ o ep, s.heap.get? a = some o ∧ o.ExactDict ∧ o.data = .dict #[] ep) → ∀ n, n < 3 → DFact c X.prog X.w H s.heap a kvs n := fun z ⟨o, ep, g, x, dd⟩ n hn => by
    subst z
    have : n = 0 ∨ n = 1 ∨ n = 2 := by omega
    rcases this with rfl | rfl | rfl
    · exact .I (vs := []) rfl .nil (dOf_empty _ g x dd)
    · exact .B (vs := []) rfl .nil (dOf_empty _ g x dd)
    · exact .T (as := []) (vs := []) rfl .nil .nil ⟨o, #[], ep, g, x, dd, by simp [zip3], by simp [zip3], by simp [zip3]⟩
  have other : ∀ (m : Nat) (f : D → Bool), (∀ d, f d = true → kSort d = m) → kvs.all (fun p => f p.1) = true → ∀ n, kvs.all (fun p => kSort p.1 == n) = true → kvs = [] ∨ n = m := fun m f hf h1 n h2 => by
    cases kvs with
    | nil => exact .inl rfl
    | cons p l =>
      rw [List.all_cons, Bool.and_eq_true] at h1 h2
      have := hf _ h1.1
      have h3 := eq_of_beq h2.1
      omega
  cases d with
  | @I ys b r0 =>
    obtain ⟨q2, q1, vs0, kv, q3⟩ := rd.ok ok
    obtain ⟨vs, rfl, r⟩ := kv_split keyI r0 kv
    rw [kv.length, zip_len _ r] at q2
    refine ⟨⟨q1, q2⟩, fun n hn hs => ?_⟩
    rcases other 0 isI (fun _ => isI_sort) b n hs with z | rfl
    · refine emp z ?_ n hn
      subst z
      exact of_dOf_empty q3
    · exact .I b r q3
  | @B vs ne b r =>
    have q := objOk_ext rd ok
    rw [← e.P, ← e.w] at q
    obtain ⟨⟨q1, q2⟩, q3⟩ := q
    rw [zip_len _ r] at q2
    refine ⟨⟨q1, q2⟩, fun n hn hs => ?_⟩
    rcases other 1 isB (fun _ => isB_sort) b n hs with z | rfl
    · refine emp z ?_ n hn
      subst z
      exact of_dOf_empty q3
    · exact .B b r q3
  | @T vs as ne b rk r =>
    have q := objOk_ext rd ok
    rw [← e.P, ← e.w] at q
    obtain ⟨⟨q1, q2⟩, o, es, ep, g, x, dd, el⟩ := q
    have hl : kvs.length = as.length := by have := rk.length; simpa using this
    rw [zip3_len hl r.length] at q2
    refine ⟨⟨q1, q2⟩, fun n hn hs => ?_⟩
    rcases other 2 (fun d => d.isTup && d.isKey) (fun d h => isT_sort (Bool.and_eq_true_iff.mp h).1) b n hs with z | rfl
    · refine emp z ?_ n hn
      subst z
      have : es.toList = [] := by rw [el]; simp [zip3]
      rw [empty_es this] at dd
      exact ⟨o, ep, g, x, dd⟩
    · exact .T b rk r ⟨o, es, ep, g, x, dd, el, zip3_mem ok kin rk b, by rw [zip3_keys hl r.length]; exact nd⟩
theorem kOk_and (h : kOk kvs k = true) : k.isKey = true ∧ kSort k < 3 ∧ kvs.all (fun p => kSort p.1 == kSort k) = true :=
  ⟨(Bool.and_eq_true_iff.mp (Bool.and_eq_true_iff.mp h).1).1, of_decide_eq_true (Bool.and_eq_true_iff.mp (Bool.and_eq_true_iff.mp h).1).2, (Bool.and_eq_true_iff.mp h).2⟩
theorem all_inj {κ : Type} {f : D → κ} {g : D → Bool} (hi : ∀ {d e : D}, g d = true → g e = true → (f d = f e ↔ d.nk = e.nk)) (h : kvs.all (fun p => g p.1) = true) (hk : g k = true) : ∀ p ∈ kvs, f p.1 = f k ↔ p.1.nk = k.nk :=
  fun p hp => hi (List.all_eq_true.mp h p hp) hk
theorem tup_ref {d : D} {x : V} (r : RelP c H d x) (h : d.isTup = true) : ∃ b, x = .ref b := by
  cases r <;> first | exact ⟨_, rfl⟩ | (simp [D.isTup] at h)

section
variable {A : Around} {E : Value → Shared → Prop} {x : V} {key : Value}
/-- k in d -/
theorem dd_in (e : CX' X c) (I : Inv X pins τ H s) (hu : A.units + 9 < cLine) (rd : Rd H a u) (nd : (kvs.map fun p => p.1.nk).Nodup) (d : DctR c H kvs a u) (ko : kOk kvs k = true) (rk : RelP c H k x) (rv : RelV x key)
    {neg : Bool} {Q : Value → Shared → Prop} (q : ∀ t, Q (.bool ((dget kvs k).isSome != neg)) { s with toks := t }) : wpAny (model X.prog X.w) A (compareOp (if neg then .NotIn else .In) key (.ref a)) Q E s := by
  obtain ⟨k1, k2, k3⟩ := kOk_and ko
  obtain ⟨⟨z1, z2⟩, f⟩ := dfacts e I rd nd d
  have g := f _ k2 k3
  have kin : c.K.In s.heap := e.K ▸ I.kIn
  generalize hn : kSort k = n at g k2 k3
  cases g with
  | @I vs b r m =>
    have hv := vals_at keyI k r (all_inj keyI_inj b (sort0 rk hn))
    have hs : (valueAt ((kvs.map fun p => keyI p.1).zip vs) (keyI k)).isSome = (dget kvs k).isSome := by
      rcases hv with ⟨h1, h2⟩ | ⟨_, _, _, h1, h2, _⟩ <;> rw [h1, h2] <;> rfl
    cases neg with
    | false => exact wpAny_in_of (keyI_of rk rv (sort0 rk hn)) z1 m.mapOf (by rw [hs]; simpa using q _)
    | true => exact wpAny_notIn_of (keyI_of rk rv (sort0 rk hn)) z1 m.mapOf (by rw [hs]; simpa using q _)
  | @B vs b r m =>
    have hv := vals_at keyB k r (all_inj keyB_inj b (sort1 hn))
    have hs : (valueAt ((kvs.map fun p => keyB p.1).zip vs) (keyB k)).isSome = (dget kvs k).isSome := by
      rcases hv with ⟨h1, h2⟩ | ⟨_, _, _, h1, h2, _⟩ <;> rw [h1, h2] <;> rfl
    cases neg with
    | false => exact wpAny_in_of (keyB_of rk rv (sort1 hn)) z1 m.mapOf (by rw [hs]; simpa using q _)
    | true => exact wpAny_notIn_of (keyB_of rk rv (sort1 hn)) z1 m.mapOf (by rw [hs]; simpa using q _)
  | @T as vs b rks r m =>
    obtain ⟨b', rfl⟩ := tup_ref rk (sort2 hn)
    cases rv
    have hl : kvs.length = as.length := by have := rks.length; simpa using this
    have hs : (atKey (zip3 kvs as vs) k.nk).isSome = (dget kvs k).isSome := by
      rcases at3 k hl r with ⟨h1, h2⟩ | ⟨_, _, _, _, h1, h2, _⟩ <;> rw [h1, h2] <;> rfl
    have hkey := keyT_of (X := X) I.hok kin rk k1
    have hr : (nestedKind X.prog X.w).room A.in1 := by show A.units + 1 + 8 < cLine; omega
    cases neg with
    | false => exact wpAny_in_heap hr hkey z1 m (by rw [hs]; simpa using q _)
    | true => exact wpAny_notIn_heap hr hkey z1 m (by rw [hs]; simpa using q _)
/-- d[k] -/
theorem dd_get (e : CX' X c) (I : Inv X pins τ H s) (hu : A.units + 9 < cLine) (rd : Rd H a u) (nd : (kvs.map fun p => p.1.nk).Nodup) (d : DctR c H kvs a u) (ko : kOk kvs k = true) (rk : RelP c H k x) (rv : RelV x key)
    {w : D} (hw : dget kvs k = some w) {Q : Value → Shared → Prop} (q : ∀ y v t, RelP c H w y → RelV y v → Q v { s with toks := t }) : wpAny (model X.prog X.w) A (getItem (.ref a) key) Q E s := by
  obtain ⟨k1, k2, k3⟩ := kOk_and ko
  obtain ⟨⟨z1, z2⟩, f⟩ := dfacts e I rd nd d
  have g := f _ k2 k3
  have kin : c.K.In s.heap := e.K ▸ I.kIn
  generalize hn : kSort k = n at g k2 k3
  cases g with
  | @I vs b r m =>
    rcases vals_at keyI k r (all_inj keyI_inj b (sort0 rk hn)) with ⟨h1, h2⟩ | ⟨w', y, v, h1, h2, h3, h4⟩
    · rw [hw] at h1; cases h1
    · rw [hw] at h1; cases h1
      exact wpAny_getItem_of (keyI_of rk rv (sort0 rk hn)) m.mapOf h2 (q _ _ _ h3 h4)
  | @B vs b r m =>
    rcases vals_at keyB k r (all_inj keyB_inj b (sort1 hn)) with ⟨h1, h2⟩ | ⟨w', y, v, h1, h2, h3, h4⟩
    · rw [hw] at h1; cases h1
    · rw [hw] at h1; cases h1
      exact wpAny_getItem_of (keyB_of rk rv (sort1 hn)) m.mapOf h2 (q _ _ _ h3 h4)
  | @T as vs b rks r m =>
    obtain ⟨b', rfl⟩ := tup_ref rk (sort2 hn)
    cases rv
    have hl : kvs.length = as.length := by have := rks.length; simpa using this
    have hr : (nestedKind X.prog X.w).room A.in1 := by show A.units + 1 + 8 < cLine; omega
    rcases at3 k hl r with ⟨h1, h2⟩ | ⟨w', y, b2, v, h1, h2, h3, h4⟩
    · rw [hw] at h1; cases h1
    · rw [hw] at h1; cases h1
      exact wpAny_getItem_heap hr (keyT_of (X := X) I.hok kin rk k1) m h2 (q _ _ _ h3 h4)
theorem frzb_mut (h : H a = some u) (f : Frzb a u) : Mut (H a) := by
  rw [h]; cases f <;> trivial
theorem ext_new {P : Program} {w : World} {H' : Hp} {h' : Heap} {φ : Heap → Prop} (hφ : φ h') (ho : ∃ o, h'.get? a = some o) (st : ∀ h1 h2 : Heap, φ h1 → (∀ o, h1.get? a = some o → h2.get? a = some o) → φ h2) : ObjOk P w H' h' a (.ext φ) := ⟨hφ, ho, st⟩
theorem dOf_stay {P : Program} {w : World} {κ : Type} [DecidableEq κ] {knd : KeyKind P w κ} {vs : List (κ × Value)} {p : Prop} (h1 h2 : Heap) (h : p ∧ h1.DictOf knd a vs) (k : ∀ o, h1.get? a = some o → h2.get? a = some o) : p ∧ h2.DictOf knd a vs := by
  obtain ⟨hp, o, es, ep, g, r⟩ := h
  exact ⟨hp, o, es, ep, k o g, r⟩
theorem dB_new {P : Program} {w : World} {H' : Hp} {h' : Heap} {vs : List (Leaf × Value)} (z : SzOk a vs.length) (m : h'.DictOf (leafKind P w) a vs) : ObjOk P w H' h' a (dB P w a vs) :=
  ext_new ⟨z, m⟩ (let ⟨o, _, _, g, _⟩ := m; ⟨o, g⟩) fun h1 h2 q k => dOf_stay h1 h2 q k
theorem dT_new {P : Program} {w : World} {H' : Hp} {h' : Heap} {xs : List (NestedKey × Addr × Value)} (z : SzOk a xs.length) (m : h'.DictOfH (nestedKind P w) a xs) : ObjOk P w H' h' a (dT P w a xs) := by
  obtain ⟨o, es, ep, g, x, d, el, _, _⟩ := m
  exact ext_new ⟨z, o, es, ep, g, x, d, el⟩ ⟨o, g⟩ fun h1 h2 ⟨q, o, es, ep, g, r⟩ k => ⟨q, o, es, ep, k o g, r⟩
theorem keeps_frzb {u' : HO} (h : H a = some u) (f : Frzb a u) : Keeps H (upd H a u') := keeps_upd fun w e m => by
  rw [h] at e; cases e; exact f.plain m
theorem isKeyT {d : D} (h1 : d.isTup = true) (h2 : d.isKey = true) : (d.isTup && d.isKey) = true := by rw [h1, h2]; rfl
/-- d[k] = w -/
theorem dd_set (e : CX' X c) (I : Inv X pins τ H s) (hu : A.units + 9 < cLine) (rd : H a = some u) (nd : (kvs.map fun p => p.1.nk).Nodup) (d : DctR c H kvs a u) (ko : kOk kvs k = true) (hz : kvs.length < SZ) (rk : RelP c H k x) (rv : RelV x key)
    {w : D} {y : V} {v : Value} (rw1 : RelP c H w y) (rw2 : RelV y v) {Q : Unit → Shared → Prop} (q : ∀ u' s', Inv X pins τ (upd H a u') s' → DctR c (upd H a u') (dput kvs k w) a u' → Q () s') : wpAny (model X.prog X.w) A (setItem (.ref a) key v) Q E s := by
  obtain ⟨k1, k2, k3⟩ := kOk_and ko
  obtain ⟨⟨z1, z2⟩, f⟩ := dfacts e I (.inl rd) nd d
  have g := f _ k2 k3
  have kin : c.K.In s.heap := e.K ▸ I.kIn
  have mu := frzb_mut rd d.frzb
  have hl' : (dput kvs k w).length ≤ sizeLine := Nat.le_trans (dput_length _ _ _) hz
  generalize hn : kSort k = n at g k2 k3
  cases g with
  | @I vs b r m =>
    obtain ⟨ws, h1, h2⟩ := vals_put keyI k w rw1 rw2 r (all_inj keyI_inj b (sort0 rk hn))
    refine wpAny_setItem_pairs (hsz := by rw [zip_len _ r]; exact z2) (keyI_of rk rv (sort0 rk hn)) m fun h' m' hs => ?_
    rw [h2] at m'
    have ob : ∃ o, h'.get? a = some o := let ⟨o, _, _, g, _⟩ := m'; ⟨o, g⟩
    obtain ⟨zs, j1, j2⟩ := kv_join keyI h1
    exact q (.dK _) _ (d_write (t' := s.toks + 1) I mu hs ob (dk_new (by rw [j2.length, zip_len _ h1]; exact hl') z1 j2 m')) (.I (dput_all b (sort0 rk hn)) (j1.keep (keeps_frzb rd d.frzb)))
  | @B vs b r m =>
    obtain ⟨ws, h1, h2⟩ := vals_put keyB k w rw1 rw2 r (all_inj keyB_inj b (sort1 hn))
    refine wpAny_setItem_pairs (hsz := by rw [zip_len _ r]; exact z2) (keyB_of rk rv (sort1 hn)) m fun h' m' hs => ?_
    rw [h2] at m'
    have ob : ∃ o, h'.get? a = some o := let ⟨o, _, _, g, _⟩ := m'; ⟨o, g⟩
    refine q (dB c.P c.w a _) _ (d_write (t' := s.toks + 1) I mu hs ob ?_) (.B (dput_ne _ _ _) (dput_all b (sort1 hn)) (h1.keep (keeps_frzb rd d.frzb)))
    rw [← e.P, ← e.w]
    exact dB_new ⟨z1, by rw [zip_len _ h1]; exact hl'⟩ m'
  | @T as vs b rks r m =>
    obtain ⟨b', rfl⟩ := tup_ref rk (sort2 hn)
    cases rv
    have hl : kvs.length = as.length := by have := rks.length; simpa using this
    have hr : (nestedKind X.prog X.w).room A.in1 := by show A.units + 1 + 8 < cLine; omega
    obtain ⟨bs, ws, h1, h2, h3⟩ := put3 k w rw1 rw2 rk r rks
    refine wpAny_setItem_heap (hsz := by rw [zip3_len hl r.length]; exact z2) hr (keyT_of (X := X) I.hok kin rk k1) m fun h' m' hs => ?_
    rw [h3] at m'
    have ob : ∃ o, h'.get? a = some o := let ⟨o, _, _, g, _⟩ := m'; ⟨o, g⟩
    have hl2 : (dput kvs k w).length = bs.length := by have := h2.length; simpa using this
    have kp : ∀ u', Keeps H (upd H a u') := fun u' => keeps_frzb rd d.frzb
    refine q (dT c.P c.w a _) _ (d_write (t' := _) I mu hs ob ?_) (.T (dput_ne _ _ _) (dput_all (f := fun d => d.isTup && d.isKey) b (isKeyT (sort2 hn) k1)) (h2.keep (kp _)) (h1.keep (kp _)))
    rw [← e.P, ← e.w]
    exact dT_new ⟨z1, by rw [zip3_len hl2 h1.length]; exact hl'⟩ m'
/-- d.setdefault(k, w) -/
theorem dd_setd (e : CX' X c) (I : Inv X pins τ H s) (hu : A.units + 9 < cLine) (rd : H a = some u) (nd : (kvs.map fun p => p.1.nk).Nodup) (d : DctR c H kvs a u) (ko : kOk kvs k = true) (hz : kvs.length < SZ) (rk : RelP c H k x) (rv : RelV x key)
    {w : D} {y : V} {v : Value} (rw1 : RelP c H w y) (rw2 : RelV y v) {Q : Value → Shared → Prop}
    (q1 : ∀ w0 y0 v0 t, dget kvs k = some w0 → RelP c H w0 y0 → RelV y0 v0 → Q v0 { s with toks := t })
    (q2 : dget kvs k = none → ∀ u' s', Inv X pins τ (upd H a u') s' → DctR c (upd H a u') (dput kvs k w) a u' → Q v s') : wpAny (model X.prog X.w) A (call (.builtin "dict.setdefault") [.ref a, key, v]) Q E s := by
  obtain ⟨k1, k2, k3⟩ := kOk_and ko
  obtain ⟨⟨z1, z2⟩, f⟩ := dfacts e I (.inl rd) nd d
  have g := f _ k2 k3
  have kin : c.K.In s.heap := e.K ▸ I.kIn
  have mu := frzb_mut rd d.frzb
  have hl' : (dput kvs k w).length ≤ sizeLine := Nat.le_trans (dput_length _ _ _) hz
  generalize hn : kSort k = n at g k2 k3
  cases g with
  | @I vs b r m =>
    have hv := vals_at keyI k r (all_inj keyI_inj b (sort0 rk hn))
    obtain ⟨ws, h1, h2⟩ := vals_put keyI k w rw1 rw2 r (all_inj keyI_inj b (sort0 rk hn))
    refine call_meetsIn PySem.F.slot_dict_setdefault m.typeIs PySem.F.entry_dict_setdefault (PySem.F.args_dict_setdefault_3 _ _ _) (kt_meets_setdefault (mixKind X.prog X.w) a (keyI_of rk rv (sort0 rk hn)) z1 v) ⟨_, m, by rw [zip_len _ r]; exact z2, fun v0 hv0 => ?_, fun hn0 h' m' hs => ?_⟩
    · rcases hv with ⟨h3, h4⟩ | ⟨w0, y0, v1, h3, h4, h5, h6⟩
      · rw [h4] at hv0; cases hv0
      · rw [h4] at hv0; cases hv0
        exact q1 w0 y0 _ _ h3 h5 h6
    · rcases hv with ⟨h3, h4⟩ | ⟨w0, y0, v1, h3, h4, h5, h6⟩
      · rw [h2] at m'
        have ob : ∃ o, h'.get? a = some o := let ⟨o, _, _, g, _⟩ := m'; ⟨o, g⟩
        obtain ⟨zs, j1, j2⟩ := kv_join keyI h1
        exact q2 h3 (.dK _) _ (d_write (t' := s.toks + 1) I mu hs ob (dk_new (by rw [j2.length, zip_len _ h1]; exact hl') z1 j2 m')) (.I (dput_all b (sort0 rk hn)) (j1.keep (keeps_frzb rd d.frzb)))
      · rw [h4] at hn0; cases hn0
  | @B vs b r m =>
    have hv := vals_at keyB k r (all_inj keyB_inj b (sort1 hn))
    obtain ⟨ws, h1, h2⟩ := vals_put keyB k w rw1 rw2 r (all_inj keyB_inj b (sort1 hn))
    refine call_meetsIn PySem.F.slot_dict_setdefault m.typeIs PySem.F.entry_dict_setdefault (PySem.F.args_dict_setdefault_3 _ _ _) (kt_meets_setdefault (leafKind X.prog X.w) a (keyB_of rk rv (sort1 hn)) z1 v) ⟨_, m, by rw [zip_len _ r]; exact z2, fun v0 hv0 => ?_, fun hn0 h' m' hs => ?_⟩
    · rcases hv with ⟨h3, h4⟩ | ⟨w0, y0, v1, h3, h4, h5, h6⟩
      · rw [h4] at hv0; cases hv0
      · rw [h4] at hv0; cases hv0
        exact q1 w0 y0 _ _ h3 h5 h6
    · rcases hv with ⟨h3, h4⟩ | ⟨w0, y0, v1, h3, h4, h5, h6⟩
      · rw [h2] at m'
        have ob : ∃ o, h'.get? a = some o := let ⟨o, _, _, g, _⟩ := m'; ⟨o, g⟩
        refine q2 h3 (dB c.P c.w a _) _ (d_write (t' := s.toks + 1) I mu hs ob ?_) (.B (dput_ne _ _ _) (dput_all b (sort1 hn)) (h1.keep (keeps_frzb rd d.frzb)))
        rw [← e.P, ← e.w]
        exact dB_new ⟨z1, by rw [zip_len _ h1]; exact hl'⟩ m'
      · rw [h4] at hn0; cases hn0
  | @T as vs b rks r m =>
    obtain ⟨b', rfl⟩ := tup_ref rk (sort2 hn)
    cases rv
    have hl : kvs.length = as.length := by have := rks.length; simpa using this
    have hr : (nestedKind X.prog X.w).room A.in1 := by show A.units + 1 + 8 < cLine; omega
    have hv := at3 k hl r
    obtain ⟨bs, ws, h1, h2, h3⟩ := put3 k w rw1 rw2 rk r rks
    have hl2 : (dput kvs k w).length = bs.length := by have := h2.length; simpa using this
    have kp : ∀ u', Keeps H (upd H a u') := fun u' => keeps_frzb rd d.frzb
    refine call_setdefault_heap (hsz := by rw [zip3_len hl r.length]; exact z2) hr (keyT_of (X := X) I.hok kin rk k1) z1 m (fun p hp => ?_) fun hn0 h' m' hs => ?_
    · rcases hv with ⟨h4, h5⟩ | ⟨w0, y0, b0, v1, h4, h5, h6, h7⟩
      · rw [h5] at hp; cases hp
      · rw [h5] at hp; cases hp
        exact q1 w0 y0 _ _ h4 h6 h7
    · rcases hv with ⟨h4, h5⟩ | ⟨w0, y0, b0, v1, h4, h5, h6, h7⟩
      · rw [h3] at m'
        have ob : ∃ o, h'.get? a = some o := let ⟨o, _, _, g, _⟩ := m'; ⟨o, g⟩
        refine q2 h4 (dT c.P c.w a _) _ (d_write (t' := _) I mu hs ob ?_) (.T (dput_ne _ _ _) (dput_all (f := fun d => d.isTup && d.isKey) b (isKeyT (sort2 hn) k1)) (h2.keep (kp _)) (h1.keep (kp _)))
        rw [← e.P, ← e.w]
        exact dT_new ⟨z1, by rw [zip3_len hl2 h1.length]; exact hl'⟩ m'
      · rw [h5] at hn0; cases hn0
end
end
end Pv

/-! E7: subscripts, comparisons, built-ins, methods, by values. -/
namespace Pv
open PySem PySem.Spec PyProof.Rows L2
open PySem.W (Frag)
section
variable {c : Cc} {X : Cx} {H : Hp} {pins : List (PySem.Addr × Obj)} {τ : L2.St} {s : Shared} {a : Addr} {u : HO} {kvs : List (D × D)} {k : D}

theorem dict_typeIsD (e : CX' X c) (I : Inv X pins τ H s) (rd : Rd H a u) (d : DctR c H kvs a u) : s.TypeIs (.ref a) "dict" := by
  cases d with
  | I b r =>
    obtain ⟨_, _, vs, _, m⟩ := rd.ok I.hok
    exact m.typeIs
  | B _ b r =>
    obtain ⟨_, m⟩ := objOk_ext rd I.hok
    exact m.typeIs
  | T _ b q r =>
    obtain ⟨_, o, es, ep, g, x, _⟩ := objOk_ext rd I.hok
    exact ⟨o, g, x.1⟩
def ixDct : D → D → Option D
  | .dct kvs, k => if kOk kvs k then dget kvs k else none
  | _, _ => none
theorem isKey_flat {d : D} {x : V} (h : VwR c H d x) (hk : d.isKey = true) : RelP c H d x := by
  cases d <;> first | exact h | (simp [D.isKey, D.keyd] at hk; done)
theorem or_ixDct (e : CX' X c) (hu : X.A.units + 65 < cLine) : IxR X (rD2 c ixDct) := by
  intro value slice pins s σ H x y v w Q I rx ry h hs
  obtain ⟨dx, dy, r, hx, hy, hf, q⟩ := h
  unfold ixDct at hf
  split at hf
  · rename_i kvs k
    split at hf
    · rename_i ko
      obtain ⟨a, u, rfl, rd, nd, d⟩ := hx
      cases rx
      have rk := isKey_flat hy (kOk_and ko).1
      refine tail_any (dict_typeIsD e I rd d) PySem.F.slot_dict_getitem.lookup ?_ hs
      exact dd_get e I (by omega) rd nd d ko rk ry hf fun y v t h1 h2 => ⟨y, H, I.tok t, h2, q _ _ (.old h1)⟩
    · cases hf
  · cases hf
theorem or_ix (e : CX' X c) (hu : X.A.units + 65 < cLine) : IxR X (rD2 c opIdx) := by
  intro value slice pins s σ H x y v w Q I rx ry h hs
  obtain ⟨dx, dy, r, hx, hy, hf, q⟩ := h
  cases dx with
  | dct kvs => exact or_ixDct e hu value slice pins s σ H x y v w Q I rx ry ⟨_, dy, r, hx, hy, hf, q⟩ hs
  | tup xs =>
    cases dy <;> first | (cases hf; done) | exact or_ixSeq e.K value slice pins s σ H x y v w Q I rx ry ⟨_, _, r, hx, hy, hf, q⟩ hs
  | lst xs =>
    cases dy <;> first | (cases hf; done) | exact or_ixSeq e.K value slice pins s σ H x y v w Q I rx ry ⟨_, _, r, hx, hy, hf, q⟩ hs
  | str xs =>
    cases dy <;> first | (cases hf; done) | exact or_ixSeq e.K value slice pins s σ H x y v w Q I rx ry ⟨_, _, r, hx, hy, hf, q⟩ hs
  | _ => cases hf
theorem in_dct (e : CX' X c) (hu : X.A.units + 65 < cLine) {neg : Bool} {dx : D} {x y : V} {v w : Value} {r : Bool} (I : Inv X pins τ H s) (hx : VwR c H dx x) (hy : VwR c H (.dct kvs) y) (rx : RelV x v) (ry : RelV y w) (h : (if kOk kvs dx then some (dget kvs dx).isSome else none) = some r)
    {Q : VK} (q : Q (.bl (r != neg)) H) : wpAny (model X.prog X.w) X.A (compareOp (if neg then .NotIn else .In) v w) (EP X pins τ Q) X.xe s := by
  split at h
  · rename_i ko
    obtain ⟨a, u, rfl, rd, nd, d⟩ := hy
    cases ry
    have rk := isKey_flat hx (kOk_and ko).1
    exact dd_in e I (by omega) rd nd d ko rk rx fun t => ⟨.bl _, H, I.tok t, rfl, by rw [Option.some.inj h]; exact q⟩
  · cases h
theorem or_in (e : CX' X c) (hu : X.A.units + 65 < cLine) : OpR X (compareOp .In) (rC2 c opIn) := by
  intro pins s σ H x y v w Q I rx ry h
  obtain ⟨dx, dy, r, hx, hy, hf, q⟩ := h
  cases dy with
  | str ys =>
    rcases in_str hx hy hf with ⟨a, rfl, rfl, rfl⟩ | ⟨xs, rfl, rfl, rfl⟩
    · exact op_in_sign pins s σ H _ _ v w Q I rx ry ⟨a, _, rfl, rfl, by rw [strOf_cps]; exact q⟩
    · exact op_in_str pins s σ H _ _ v w Q I rx ry ⟨_, _, rfl, rfl, q⟩
  | lst ys =>
    obtain ⟨d, ds, h1, h2, h3, h4, rfl⟩ := in_lst hx hy hf
    exact op_inD hu pins s σ H _ _ v w Q I rx ry ⟨d, ds, e.K ▸ h1, e.K ▸ h2, h3, h4, q⟩
  | tup ys =>
    obtain ⟨p, xs, rfl, h1, h2, h3, rfl⟩ := in_tup hx hy hf
    exact op_in_seq pins s σ H _ _ v w Q I rx ry ⟨p, xs, rfl, .inr (e.K ▸ h1), h2, h3, q⟩
  | dct kvs => exact in_dct e hu (neg := false) I hx hy rx ry hf (by simpa using q)
  | _ => cases hf
theorem or_nin (e : CX' X c) (hu : X.A.units + 65 < cLine) : OpR X (compareOp .NotIn) (rC2 c fun a b => (opIn a b).map (!·)) := by
  intro pins s σ H x y v w Q I rx ry h
  obtain ⟨dx, dy, r, hx, hy, hf, q⟩ := h
  obtain ⟨t, ht, rfl⟩ := Option.map_eq_some_iff.mp hf
  clear hf
  cases dy with
  | str ys =>
    rcases in_str hx hy ht with ⟨a, rfl, rfl, rfl⟩ | ⟨xs, rfl, rfl, rfl⟩
    · exact op_notIn_sign pins s σ H _ _ v w Q I rx ry ⟨a, _, rfl, rfl, by rw [strOf_cps]; exact q⟩
    · exact op_notIn_str pins s σ H _ _ v w Q I rx ry ⟨_, _, rfl, rfl, q⟩
  | lst ys =>
    obtain ⟨d, ds, h1, h2, h3, h4, rfl⟩ := in_lst hx hy ht
    exact op_notInD hu pins s σ H _ _ v w Q I rx ry ⟨d, ds, e.K ▸ h1, e.K ▸ h2, h3, h4, q⟩
  | tup ys =>
    obtain ⟨p, xs, rfl, h1, h2, h3, rfl⟩ := in_tup hx hy ht
    exact op_notIn_seq pins s σ H _ _ v w Q I rx ry ⟨p, xs, rfl, .inr (e.K ▸ h1), h2, h3, q⟩
  | dct kvs => exact in_dct e hu (neg := true) I hx hy rx ry ht (by simpa using q)
  | _ => cases ht
theorem or_cmp (e : CX' X c) (hu : X.A.units + 65 < cLine) : ∀ op : Cop, OpR X (compareOp (copR op)) (rC2 c (opCmp op))
  | .isIn => or_in e hu
  | .notIn => or_nin e hu
  | .eq => or_eq e.K hu
  | .ne => or_ne e.K hu
  | .lt => or_cmpI op_lt
  | .le => or_cmpI op_le
  | .gt => or_cmpI op_gt
  | .ge => or_cmpI op_ge
end
end Pv

/-! E7b: built-ins, by values. -/
namespace Pv
open PySem PySem.Spec PyProof.Rows L2
open PySem.W (Frag)
section
variable {c : Cc} {X : Cx} {H : Hp} {pins : List (PySem.Addr × Obj)} {τ : L2.St} {s : Shared} {a : Addr} {u : HO} {kvs : List (D × D)} {k : D}

abbrev VwRs (c : Cc) (H : Hp) : List D → List V → Prop := Paired (VwR c H)
/-- a call of a built-in, over D -/
def rB (c : Cc) (f : List D → Option D) : List V → Hp → VK → Prop := fun xs H Q => ∃ ds r, VwRs c H ds xs ∧ f ds = some r ∧ ∀ v H', NewR c H r v H' → Q v H'
theorem rB1 {f : D → Option D} {xs : List V} {Q : VK} (h : rB c (op1 f) xs H Q) : ∃ d r x, xs = [x] ∧ VwR c H d x ∧ f d = some r ∧ ∀ v H', NewR c H r v H' → Q v H' := by
  obtain ⟨ds, r, hx, hf, q⟩ := h
  unfold op1 at hf
  split at hf
  · cases hx with
    | cons h t => cases t; exact ⟨_, r, _, rfl, h, hf, q⟩
  · cases hf
theorem rB2 {f : D → D → Option D} {xs : List V} {Q : VK} (h : rB c (op2 f) xs H Q) : ∃ d e r x y, xs = [x, y] ∧ VwR c H d x ∧ VwR c H e y ∧ f d e = some r ∧ ∀ v H', NewR c H r v H' → Q v H' := by
  obtain ⟨ds, r, hx, hf, q⟩ := h
  unfold op2 at hf
  split at hf
  · cases hx with
    | cons h t =>
      cases t with
      | cons h2 t => cases t; exact ⟨_, _, r, _, _, rfl, h, h2, hf, q⟩
  · cases hf
theorem dlen (e : CX' X c) (I : Inv X pins τ H s) (rd : Rd H a u) (nd : (kvs.map fun p => p.1.nk).Nodup) (d : DctR c H kvs a u) {A : Around} {E : Value → Shared → Prop} {Q : Value → Shared → Prop}
    (q : ∀ t t', Q (.int kvs.length t) { s with toks := t' }) : wpAny (model X.prog X.w) A (call (.builtin "len") [.ref a]) Q E s := by
  obtain ⟨⟨z1, z2⟩, f⟩ := dfacts e I rd nd d
  have hz : (kvs.length : Int) < 2 ^ 63 := by have z3 : kvs.length ≤ 16777216 := z2; omega
  cases d with
  | @I ys b r =>
    have g := f 0 (by decide) (by rw [List.all_eq_true] at b ⊢; exact fun p hp => by rw [isI_sort (b p hp)]; rfl)
    cases g with
    | @I vs _ r m =>
      have hl := zip_len keyI r
      refine call_len_dict z1 m (by rw [hl]; exact hz) ?_
      rw [hl]; exact q _ _
  | @B ys ne b r =>
    have g := f 1 (by decide) (by rw [List.all_eq_true] at b ⊢; exact fun p hp => by rw [isB_sort (b p hp)]; rfl)
    cases g with
    | @B vs _ r m =>
      have hl := zip_len keyB r
      refine call_len_dict z1 m (by rw [hl]; exact hz) ?_
      rw [hl]; exact q _ _
  | @T vs as ne b rk r =>
    have g := f 2 (by decide) (by rw [List.all_eq_true] at b ⊢; exact fun p hp => by rw [isT_sort (Bool.and_eq_true_iff.mp (b p hp)).1]; rfl)
    cases g with
    | @T as vs _ rk r m =>
      have hl : kvs.length = as.length := by have := rk.length; simpa using this
      have hl2 := zip3_len hl r.length
      refine call_len_dictH z1 m (by rw [hl2]; exact hz) ?_
      rw [hl2]; exact q _ _
theorem cr_len (e : CX' X c) : CallR X (.builtin "len") (rB c (op1 bLen)) := by
  intro pins s σ H xs us Q I r h
  obtain ⟨d, r', x, rfl, hx, hf, q⟩ := rB1 h
  cases d with
  | tup ds =>
    cases hf
    obtain ⟨a, vs, rfl, ha, z, ra⟩ := hx.tup
    exact call_len pins s σ H _ us Q I r ⟨_, _, rfl, .inr ⟨vs, e.K ▸ ha, ra.length⟩, q _ _ .int⟩
  | lst ds =>
    cases hf
    obtain ⟨z, a, vs, rfl, ha, ra⟩ := hx
    exact call_len pins s σ H _ us Q I r ⟨_, _, rfl, .inl ⟨vs, e.K ▸ ha, ra.length⟩, q _ _ .int⟩
  | str ds =>
    cases hf
    obtain ⟨rfl, z⟩ := hx.str
    exact call_len pins s σ H _ us Q I r ⟨_, _, rfl, ⟨by rw [strOf_len]; exact z, (strOf_len _).symm⟩, q _ _ .int⟩
  | dct kvs =>
    cases hf
    obtain ⟨a, u, rfl, rd, nd, d⟩ := hx
    obtain ⟨w, rfl, rw'⟩ := vals1 r
    cases rw'
    exact dlen e I rd nd d fun t t' => ⟨.int _, H, I.tok t', ⟨t, rfl⟩, q _ _ .int⟩
  | _ => cases hf
theorem cr_abs : CallR X (.builtin "abs") (rB c (op1 bAbs)) := by
  intro pins s σ H xs us Q I r h
  obtain ⟨d, r', x, rfl, hx, hf, q⟩ := rB1 h
  cases d <;> first | (cases hf; done) | skip
  rename_i i
  cases hf
  cases hx.int
  refine call_abs pins s σ H _ us Q I r ⟨i, rfl, ?_⟩
  have e : (if i < 0 then -i else i) = (i.natAbs : Int) := by split <;> omega
  rw [e]
  exact q _ _ .int
theorem cr_int : CallR X (.type "int") (rB c (op1 bInt)) := by
  intro pins s σ H xs us Q I r h
  obtain ⟨d, r', x, rfl, hx, hf, q⟩ := rB1 h
  cases d <;> first | (cases hf; done) | skip
  · cases hf
    have hx : RelP c H (.bl _) x := hx
    cases hx
    exact call_int1 pins s σ H _ us Q I r (.inr ⟨_, rfl, q _ _ .int⟩)
  · cases hf
    cases hx.int
    exact call_int1 pins s σ H _ us Q I r (.inl ⟨_, rfl, q _ _ .int⟩)
  · rename_i x
    have hf : (if x.length ≤ 640 then (PySem.intText? (strOf x)).map D.int else none) = some r' := hf
    split at hf
    · rename_i hl
      obtain ⟨n, hn, rfl⟩ := Option.map_eq_some_iff.mp hf
      obtain ⟨rfl, _⟩ := hx.str
      exact call_int_str pins s σ H _ us Q I r ⟨_, n, rfl, hn, by rw [strOf_len]; exact hl, q _ _ .int⟩
    · cases hf
theorem strOf_digits (i : Int) : Str.ofString (toString i) = strOf (digits i) := Str.ofString_eq_toList _
theorem cr_str : CallR X (.type "str") (rB c (op1 bStr)) := by
  intro pins s σ H xs us Q I r h
  obtain ⟨d, r', x, rfl, hx, hf, q⟩ := rB1 h
  cases d <;> first | (cases hf; done) | skip
  rename_i i
  have hf : (if i.natAbs.log2 < 1900 ∧ (digits i).length ≤ SZ then some (D.str (digits i)) else none) = some r' := hf
  split at hf
  · rename_i hz
    cases hf
    cases hx.int
    refine call_str_int pins s σ H _ us Q I r ⟨i, rfl, by have := hz.1; omega, ?_⟩
    rw [strOf_digits]
    exact q _ _ (.str hz.2)
  · cases hf
theorem ints_of : ∀ {ds : List D} {ns : List Int} {vs : List V}, ds.mapM intOf = some ns → RelPs c H ds vs → vs = ns.map V.int ∧ ds = ns.map D.int
  | [], ns, _, h, .nil => by
    rw [List.mapM_nil] at h
    cases h; exact ⟨rfl, rfl⟩
  | d :: ds, ns, _, h, .cons r t => by
    rw [List.mapM_cons] at h
    obtain ⟨i, h1, h2⟩ := Option.bind_eq_some_iff.mp h
    obtain ⟨is, h3, h4⟩ := Option.bind_eq_some_iff.mp h2
    cases h4
    obtain ⟨e1, e2⟩ := ints_of h3 t
    cases d <;> first | (cases h1; done) | skip
    cases h1
    cases r
    exact ⟨by rw [e1]; rfl, by rw [e2]; rfl⟩
theorem ints_rel : ∀ ns : List Int, RelPs c H (ns.map D.int) (ns.map V.int)
  | [] => .nil
  | n :: ns => .cons (.int n) (ints_rel ns)
theorem cr_sumD (e : CX' X c) (hc : X.calm = true) : CallR X (.builtin "sum") (rB c (op1 bSum)) := by
  intro pins s σ H xs us Q I r h
  obtain ⟨d, r', x, rfl, hx, hf, q⟩ := rB1 h
  cases d <;> first | (cases hf; done) | skip
  rename_i ds
  obtain ⟨ns, h1, rfl⟩ := Option.map_eq_some_iff.mp (show (ds.mapM intOf).map (fun ns => D.int ns.sum) = some r' from hf)
  obtain ⟨z, a, vs, rfl, ha, ra⟩ := hx
  obtain ⟨rfl, rfl⟩ := ints_of h1 ra
  exact cr_sum hc pins s σ H _ us Q I r ⟨a, ns, rfl, e.K ▸ ha, q _ _ .int⟩
theorem srt_eq {ns ms : List Int} (hm : ms.Perm ns) (hs : ms.Pairwise (· ≤ ·)) : ns.mergeSort (fun a b => decide (a ≤ b)) = ms := by
  have p1 := List.mergeSort_perm ns fun a b => decide (a ≤ b)
  have p2 := List.pairwise_mergeSort (le := fun (a b : Int) => decide (a ≤ b)) (fun a b c h1 h2 => by simp at *; omega) (fun a b => by simp; omega) ns
  exact PySem.W.ksm_same (p1.trans hm.symm) (p2.imp fun h => of_decide_eq_true h) hs
/-- sorted(xs) of a tuple of ints -/
theorem cr_sortedTI {pins : List (PySem.Addr × Obj)} {s : Shared} {σ : L2.St} {H : Hp} {a : PySem.Addr} {ns : List Int} {Q : VK} (I : Inv X pins σ H s) (hq : SqT X.K H a (ns.map V.int))
    (q : ∀ (ms : List Int) (p : PySem.Addr), ms.Perm ns → ms.Pairwise (· ≤ ·) → H p = none → Q (.ref p) (upd H p (.lst (ms.map V.int)))) : wpAny (model X.prog X.w) X.A (call (.builtin "sorted") [.ref a]) (EP X pins σ Q) X.xe s := by
  obtain ⟨its, rv, ⟨o, ho, hc, n, hd⟩, hz⟩ := I.tuple hq
  have hi := rv.ints
  have hl : its.length ≤ sizeLine := by rw [← rv.length]; exact hz
  refine Calls.call_function_entry kind_sorted plain_sorted entry_sorted (args_sorted1 _) ?_
  unfold Builtin.«sorted»
  refine wpAny_bind (m := checkCount "sorted" 1 1 _) (wpAny_pure ?_)
  refine wpAny_bind (wpAny_collect_seq a (.inr rfl) ho hc hd (fun h' hk => ?_) (by simpa using hl))
  refine wpAny_bind (wpAny_newList ?_ hl)
  have hoL : (h'.push (seqObj "list" its.toArray 0)).get? h'.objs.size = some (seqObj "list" its.toArray 0) := Heap.get?_push_size _ rfl
  refine wpAny_bind (wpAny_holding (wpAny_call_entry PySem.F.slot_list_sort ⟨_, hoL, rfl⟩ PySem.F.entry_list_sort (SrtO.list_sort_ord SrtO.swo_int hoL hl (fun h2 => SrtO.ints_sortable hi h2) fun out h1 h2 => ⟨_, rfl, ?_⟩) (args_list_sort _)))
  obtain ⟨k1, k2, k3⟩ := SrtO.ints_out hi h1 h2
  obtain ⟨ep, he⟩ := PyProof.Rows.sortedHeap_at (vs := its) (out := out.toArray) hoL
  have hln : ((out.map SrtO.iv).map V.int).length ≤ sizeLine := by
    rw [List.length_map, k2.length_eq, ← List.length_map (f := V.int)]
    exact hz
  have I1 : Inv X pins σ H { s with heap := h' } := I.kept (t' := s.toks) hk
  have I2 := I1.laid (a := h'.objs.size) (o := .lst ((out.map SrtO.iv).map V.int)) (h' := sortedHeap (h'.push (seqObj "list" its.toArray 0)) h'.objs.size its out.toArray) (t' := s.toks) (fun b u hu => by
    have hlt : b < h'.objs.size := Heap.lt_size hu
    rw [PyProof.Rows.sortedHeap_old (Nat.ne_of_lt hlt) (by rw [Heap.size_push]; exact Nat.lt_succ_of_lt hlt)]
    exact Heap.get?_push_of_some _ hu) (Nat.le_refl _) ⟨hln, out, ep, vals_of_ints k1, he⟩
  exact wpAny_pure ⟨_, rfl, .ref h'.objs.size, _, I2, rfl, q _ _ k2 k3 (I1.hok.fresh (Nat.le_refl _))⟩
theorem cr_sortedD (e : CX' X c) : CallR X (.builtin "sorted") (rB c (op1 bSrt)) := by
  intro pins s σ H xs us Q I r h
  obtain ⟨d, r', x, rfl, hx, hf, q⟩ := rB1 h
  cases d <;> first | (cases hf; done) | skip
  · rename_i ds
    obtain ⟨ns, h1, rfl⟩ := Option.map_eq_some_iff.mp (show (ds.mapM intOf).map (fun ns => D.ol ((ns.mergeSort fun a b => decide (a ≤ b)).map .int)) = some r' from hf)
    obtain ⟨a, vs, rfl, ha, z, ra⟩ := hx.tup
    obtain ⟨rfl, rfl⟩ := ints_of h1 ra
    cases r with
    | cons r1 t =>
      cases t
      cases r1
      refine cr_sortedTI I (by rw [e.K]; exact ha) fun ms p hm hs hp => ?_
      rw [srt_eq hm hs] at q
      exact q _ _ (.olN hp (by rw [List.length_map, hm.length_eq]; rw [List.length_map] at z; exact z) (ints_rel ms))
  · rename_i ds
    obtain ⟨ns, h1, rfl⟩ := Option.map_eq_some_iff.mp (show (ds.mapM intOf).map (fun ns => D.ol ((ns.mergeSort fun a b => decide (a ≤ b)).map .int)) = some r' from hf)
    obtain ⟨z, a, vs, rfl, ha, ra⟩ := hx
    obtain ⟨rfl, rfl⟩ := ints_of h1 ra
    refine cr_sortedI pins s σ H _ us Q I r ⟨a, ns, rfl, e.K ▸ ha, fun ms p hm hs hp => ?_⟩
    rw [srt_eq hm hs] at q
    exact q _ _ (.olN hp (by rw [List.length_map, hm.length_eq]; rw [List.length_map] at z; exact z) (ints_rel ms))
theorem cr_tup (e : CX' X c) : CallR X (.type "tuple") (rB c (op1 bTup)) := by
  intro pins s σ H xs us Q I r h
  obtain ⟨d, r', x, rfl, hx, hf, q⟩ := rB1 h
  cases d <;> first | (cases hf; done) | skip
  · cases hf
    obtain ⟨a, vs, rfl, ha, z, ra⟩ := hx.tup
    exact call_tuple_of pins s σ H _ us Q I r ⟨a, vs, rfl, .inr ⟨e.K ▸ ha, q _ _ (.old (.tup ha z ra))⟩⟩
  · cases hf
    obtain ⟨z, a, vs, rfl, ha, ra⟩ := hx
    exact call_tuple_of pins s σ H _ us Q I r ⟨a, vs, rfl, .inl ⟨e.K ▸ ha, fun p hp => q _ _ (.tupN hp z ra)⟩⟩
theorem keysI_rel : ∀ {kvs : List (D × D)} {ys : List V}, kvs.all (fun p => isI p.1) = true → RelPs c H (kvs.map (·.2)) ys → RelPs c H (kvs.map (·.1)) ((((kvs.map fun p => keyI p.1).zip ys)).map fun kv => kV kv.1)
  | [], _, _, _ => by simp; exact .nil
  | p :: kvs, _, b, .cons r t => by
    rw [List.all_cons, Bool.and_eq_true] at b
    have ih := keysI_rel b.2 t
    rw [List.map_cons, List.map_cons, List.zip_cons_cons, List.map_cons]
    refine .cons ?_ ih
    have b1 := b.1
    generalize p.1 = d at b1 ⊢
    cases d <;> first | (simp [isI] at b1; done) | skip
    · exact .int _
    · exact .str _ (of_decide_eq_true b1)
theorem rd_dK {ks : List (Key × V)} (h : Rd H a (.dK ks)) : Rd H a (.dK ks) := h
theorem cr_list (e : CX' X c) (hc : X.calm = true) : CallR X (.type "list") (rB c (op1 bLst)) := by
  intro pins s σ H xs us Q I r h
  obtain ⟨d, r', x, rfl, hx, hf, q⟩ := rB1 h
  cases d <;> first | (cases hf; done) | skip
  · cases hf
    obtain ⟨a, vs, rfl, ha, z, ra⟩ := hx.tup
    exact call_list_of pins s σ H _ us Q I r ⟨a, vs, rfl, .inr (e.K ▸ ha), fun p hp => q _ _ (.olN hp z ra)⟩
  · cases hf
    obtain ⟨z, a, vs, rfl, ha, ra⟩ := hx
    exact call_list_of pins s σ H _ us Q I r ⟨a, vs, rfl, .inl (e.K ▸ ha), fun p hp => q _ _ (.olN hp z ra)⟩
  · rename_i kvs
    have hf : (if kvs.all (fun p => kSort p.1 == 0) then some (D.ol (kvs.map (·.1))) else none) = some r' := hf
    split at hf
    · rename_i hs
      cases hf
      obtain ⟨a, u, rfl, rd, nd, d⟩ := hx
      obtain ⟨⟨z1, z2⟩, f⟩ := dfacts e I rd nd d
      cases d with
      | @I ys b rr =>
        refine call_listD hc pins s σ H _ us Q I r ⟨a, _, rfl, rd, fun p hp => q _ _ (.olN hp (by rw [List.length_map]; exact z2) (keysI_rel b rr))⟩
      | B ne b rr =>
        cases kvs with
        | nil => exact absurd rfl ne
        | cons p l =>
          rw [List.all_cons, Bool.and_eq_true] at b hs
          have := isB_sort b.1
          rw [this] at hs
          exact absurd hs.1 (by decide)
      | T ne b _ rr =>
        cases kvs with
        | nil => exact absurd rfl ne
        | cons p l =>
          rw [List.all_cons, Bool.and_eq_true] at b hs
          have := isT_sort (Bool.and_eq_true_iff.mp b.1).1
          rw [this] at hs
          exact absurd hs.1 (by decide)
    · cases hf
end
end Pv

/-! E7c: more built-ins, methods. -/
namespace Pv
open PySem PySem.Spec PyProof.Rows L2
open PySem.W (Frag)
section
variable {c : Cc} {X : Cx} {H : Hp} {pins : List (PySem.Addr × Obj)} {τ : L2.St} {s : Shared} {a : Addr} {u : HO} {kvs : List (D × D)} {k : D}
theorem cr_max2 (hc : X.calm = true) : CallR X (.builtin "max") (rB c (op2 bMax)) := by
  intro pins s σ H xs us Q I r h
  obtain ⟨d, e, r', x, y, rfl, hx, hy, hf, q⟩ := rB2 h
  cases d <;> first | (cases hf; done) | skip
  cases e <;> first | (cases hf; done) | skip
  cases hf
  cases hx.int; cases hy.int
  exact call_max2 hc pins s σ H _ us Q I r ⟨_, _, rfl, q _ _ .int⟩
theorem cr_min2 (hc : X.calm = true) : CallR X (.builtin "min") (rB c (op2 bMin)) := by
  intro pins s σ H xs us Q I r h
  obtain ⟨d, e, r', x, y, rfl, hx, hy, hf, q⟩ := rB2 h
  cases d <;> first | (cases hf; done) | skip
  cases e <;> first | (cases hf; done) | skip
  cases hf
  cases hx.int; cases hy.int
  exact call_min2 hc pins s σ H _ us Q I r ⟨_, _, rfl, q _ _ .int⟩

/-! isinstance -/
theorem tyx_of {d : D} {x : V} (h : VwR c H d x) : match d with
    | .non => TyX c.K H x (.type "NoneType")
    | .bl _ => TyX c.K H x (.type "bool")
    | .int _ => TyX c.K H x (.type "int")
    | .str _ => TyX c.K H x (.type "str")
    | .tup _ => TyX c.K H x (.type "tuple")
    | .lst _ => TyX c.K H x (.type "list")
    | _ => True := by
  cases d with
  | non => have h : RelP c H .non x := h; cases h; exact .base .non
  | bl b => have h : RelP c H (.bl b) x := h; cases h; exact .base (.bl _)
  | int i => cases h.int; exact .base (.int _)
  | str x => obtain ⟨rfl, _⟩ := h.str; exact .base (.str _)
  | tup ds =>
    obtain ⟨a, vs, rfl, ha, _, _⟩ := h.tup
    rcases ha with (ha | ⟨o, ha⟩) | ⟨o, its, n, hl, hc, _⟩
    · exact .base (.tup ha)
    · exact .fTuple ha
    · exact .kTuple hl hc
  | lst ds =>
    obtain ⟨_, a, vs, rfl, ha, _⟩ := h
    rcases ha with (ha | ⟨o, ha⟩) | ⟨o, its, n, hl, hc, _⟩
    · exact .base (.lst ha)
    · exact .base (.frz ha)
    · exact .kList hl hc
  | _ => trivial
/-- the class's name, what it tells of each kind -/
def isiT (n : String) (f : D → Option D) : Prop := ∀ d r, f d = some r → ∃ b, r = .bl b ∧ match d with
    | .non => kitB "NoneType" n = some b
    | .bl _ => kitB "bool" n = some b
    | .int _ => kitB "int" n = some b
    | .str _ => kitB "str" n = some b
    | .tup _ => kitB "tuple" n = some b
    | .lst _ => kitB "list" n = some b
    | _ => False
theorem isi_bool : isiT "bool" isBool := fun d r h => by
  cases d <;> first | (cases h; done) | (cases h; exact ⟨_, rfl, by kernel_rfl⟩)
theorem isi_int : isiT "int" isInt := fun d r h => by
  cases d <;> first | (cases h; done) | (cases h; exact ⟨_, rfl, by kernel_rfl⟩)
theorem isi_str : isiT "str" isStr := fun d r h => by
  cases d <;> first | (cases h; done) | (cases h; exact ⟨_, rfl, by kernel_rfl⟩)
theorem isi_list : isiT "list" isList := fun d r h => by
  cases d <;> first | (cases h; done) | (cases h; exact ⟨_, rfl, by kernel_rfl⟩)
theorem isi_tuple : isiT "tuple" isTuple := fun d r h => by
  cases d <;> first | (cases h; done) | (cases h; exact ⟨_, rfl, by kernel_rfl⟩)
def rIs (c : Cc) (n : String) (f : D → Option D) : List V → Hp → VK → Prop := fun xs H Q => ∃ d r x, xs = [x, .ty n] ∧ VwR c H d x ∧ f d = some r ∧ ∀ v H', NewR c H r v H' → Q v H'
theorem cr_isi (e : CX' X c) {n : String} {f : D → Option D} (hf : isiT n f) : CallR X (.builtin "isinstance") (rIs c n f) := by
  intro pins s σ H xs us Q I r h
  obtain ⟨d, r', x, rfl, hx, h1, q⟩ := h
  obtain ⟨b, rfl, hb⟩ := hf d r' h1
  have ht := tyx_of hx
  have fin : ∀ t, TyX c.K H x (.type t) → kitB t n = some b → wpAny (model X.prog X.w) X.A (call (.builtin "isinstance") us) (EP X pins σ Q) X.xe s := fun t h1 h2 =>
    call_isi pins s σ H _ us Q I r ⟨x, .ty n, .type t, .type n, b, rfl, .ty n, e.K ▸ h1, kit_ty h2, q _ _ .bl⟩
  cases d with
  | non => exact fin _ ht hb
  | bl _ => exact fin _ ht hb
  | int _ => exact fin _ ht hb
  | str _ => exact fin _ ht hb
  | tup _ => exact fin _ ht hb
  | lst _ => exact fin _ ht hb
  | _ => exact hb.elim

/-! dict(pairs) -/
theorem kV_keyI {d : D} {x : V} (r : RelP c H d x) (h : isI d = true) : kV (keyI d) = x := by
  cases r <;> first | (simp [isI] at h; done) | rfl
theorem putV {k d : D} {y : V} (hk : isI k = true) (r : RelP c H d y) : ∀ {kvs : List (D × D)} {ys : List V}, kvs.all (fun p => isI p.1) = true → RelPs c H (kvs.map (·.2)) ys →
    ∃ zs, RelPs c H ((dput kvs k d).map (·.2)) zs ∧ putK ((kvs.map fun p => keyI p.1).zip ys) (keyI k) y = ((dput kvs k d).map fun p => keyI p.1).zip zs := by
  intro kvs ys hb h
  have hl : kvs.length = ys.length := by have := h.length; simpa using this
  have hj : ∀ p ∈ kvs, keyI p.1 = keyI k ↔ p.1.nk = k.nk := fun p hp => keyI_inj (List.all_eq_true.mp hb p hp) hk
  have ha : ∀ {kvs : List (D × D)} {ys : List V}, kvs.length = ys.length → (∀ p ∈ kvs, keyI p.1 = keyI k ↔ p.1.nk = k.nk) →
      (((kvs.map fun p => keyI p.1).zip ys).any fun kv => decide (kv.1 = keyI k)) = kvs.any fun p => decide (p.1.nk = k.nk) := by
    intro kvs
    induction kvs with
    | nil => intro ys _ _; simp
    | cons p kvs ih =>
      intro ys hl hj
      cases ys with
      | nil => simp at hl
      | cons y ys =>
        rw [List.map_cons, List.zip_cons_cons, List.any_cons, List.any_cons, ih (by simpa using hl) fun q hq => hj q (List.mem_cons_of_mem _ hq)]
        congr 1
        simp only [decide_eq_decide]; exact hj p List.mem_cons_self
  have hm : ∀ {kvs : List (D × D)} {ys : List V}, RelPs c H (kvs.map (·.2)) ys → (∀ p ∈ kvs, keyI p.1 = keyI k ↔ p.1.nk = k.nk) → ∃ zs, RelPs c H ((kvs.map fun p => if p.1.nk = k.nk then (p.1, d) else p).map (·.2)) zs ∧
      ((kvs.map fun p => keyI p.1).zip ys).map (fun kv => if kv.1 = keyI k then (kv.1, y) else kv) = ((kvs.map fun p => if p.1.nk = k.nk then (p.1, d) else p).map fun p => keyI p.1).zip zs := by
    intro kvs
    induction kvs with
    | nil => intro ys h _; cases h; exact ⟨[], .nil, rfl⟩
    | cons p kvs ih =>
      intro ys h hj
      rw [List.map_cons] at h
      cases h with
      | @cons _ y0 _ ys r0 t =>
        obtain ⟨zs, h1, h2⟩ := ih t fun q hq => hj q (List.mem_cons_of_mem _ hq)
        have h0 := hj p List.mem_cons_self
        by_cases e : p.1.nk = k.nk
        · refine ⟨y :: zs, ?_, ?_⟩
          · rw [List.map_cons, if_pos e]; exact .cons r h1
          · simp only [List.map_cons, List.zip_cons_cons, e, h0.mpr e, if_true, h2]
        · have e' : ¬ keyI p.1 = keyI k := fun z => e (h0.mp z)
          refine ⟨y0 :: zs, ?_, ?_⟩
          · rw [List.map_cons, if_neg e]; exact .cons r0 h1
          · simp only [List.map_cons, List.zip_cons_cons, e, e', if_false, h2]
  unfold putK dput
  rw [ha hl hj, dget_isSome]
  split
  · exact hm h hj
  · refine ⟨ys ++ [y], ?_, ?_⟩
    · rw [List.map_append]; exact h.append (.cons r .nil)
    · rw [List.map_append, List.zip_append (by rw [List.length_map]; exact hl)]; rfl
theorem mergeV : ∀ {ps : List (D × D)} {kvs : List (D × D)} {ks : List (Key × V)} {ys : List V} {out : List (D × D)}, dputAll kvs ps = some out → kvs.all (fun p => isI p.1) = true → (kvs.map fun p => p.1.nk).Nodup → RelPs c H (kvs.map (·.2)) ys →
    Paired (fun (p : D × D) (kv : Key × V) => isI p.1 = true ∧ kv.1 = keyI p.1 ∧ RelP c H p.2 kv.2) ps ks →
    out.all (fun p => isI p.1) = true ∧ (out.map fun p => p.1.nk).Nodup ∧ ∃ zs, RelPs c H (out.map (·.2)) zs ∧ mergeK ((kvs.map fun p => keyI p.1).zip ys) ks = (out.map fun p => keyI p.1).zip zs
  | [], kvs, _, ys, out, h, hb, hn, hr, .nil => by
    cases h
    exact ⟨hb, hn, ys, hr, rfl⟩
  | (k, v) :: ps, kvs, _, ys, out, h, hb, hn, hr, .cons (b := kv) ⟨q1, q2, q3⟩ t => by
    unfold dputAll at h
    split at h
    · obtain ⟨zs, h1, h2⟩ := putV (H := H) q1 q3 hb hr
      obtain ⟨g1, g2, ws, g3, g4⟩ := mergeV h (dput_all hb q1) (dput_nodup hn) h1 t
      refine ⟨g1, g2, ws, g3, ?_⟩
      rw [← g4, ← h2, ← q2]
      rfl
    · cases h
theorem pairs_rel : ∀ {xs : List D} {ps : List (D × D)} {vs : List V}, pairsOf xs = some ps → ps.all (fun p => kSort p.1 == 0) = true → RelPs c H xs vs → ∃ as ks, vs = as.map V.ref ∧ Paired (fun p (kv : Key × V) => SqT c.K H p [kV kv.1, kv.2]) as ks ∧
      Paired (fun (p : D × D) (kv : Key × V) => isI p.1 = true ∧ kv.1 = keyI p.1 ∧ RelP c H p.2 kv.2) ps ks
  | [], ps, _, h, _, .nil => by
    cases h
    exact ⟨[], [], rfl, .nil, .nil⟩
  | x :: xs, ps, _, h, hs, .cons (vs := vs) r t => by
    cases x <;> first | (simp [pairsOf] at h; done) | skip
    rename_i ds
    match ds, h, r with
    | [k, v], h, r =>
      obtain ⟨l, h1, rfl⟩ := Option.map_eq_some_iff.mp (show (pairsOf xs).map (fun l => (k, v) :: l) = some ps from h)
      rw [List.all_cons, Bool.and_eq_true] at hs
      obtain ⟨as, ks, rfl, g1, g2⟩ := pairs_rel h1 hs.2 t
      cases r with
      | tup hq z rr =>
        cases rr with
        | cons rk rr =>
          cases rr with
          | cons rv rr =>
            cases rr
            have hk := sort0 rk (eq_of_beq hs.1)
            refine ⟨_ :: as, (keyI k, _) :: ks, rfl, .cons ?_ g1, .cons ⟨hk, rfl, rv⟩ g2⟩
            show SqT c.K H _ [kV (keyI k), _]
            rw [kV_keyI rk hk]; exact hq
    | [], h, _ => simp [pairsOf] at h
    | [_], h, _ => simp [pairsOf] at h
    | _ :: _ :: _ :: _, h, _ => simp [pairsOf] at h
theorem cr_dict (e : CX' X c) (hc : X.calm = true) : CallR X (.type "dict") (rB c (op1 bDct)) := by
  intro pins s σ H xs us Q I r h
  obtain ⟨d, r', x, rfl, hx, hf, q⟩ := rB1 h
  cases d <;> first | (cases hf; done) | skip
  rename_i ds
  obtain ⟨ps, h1, h2⟩ := Option.bind_eq_some_iff.mp (show ((pairsOf ds).bind fun ps => if ps.all (fun p => kSort p.1 == 0) then (dputAll [] ps).map .od else none) = some r' from hf)
  split at h2
  · rename_i hs
    obtain ⟨out, h3, rfl⟩ := Option.map_eq_some_iff.mp h2
    obtain ⟨z, a, vs, rfl, ha, ra⟩ := hx
    obtain ⟨as, ks, rfl, g1, g2⟩ := pairs_rel h1 hs ra
    obtain ⟨j1, j2, zs, j3, j4⟩ := mergeV (H := H) h3 (ys := []) rfl List.nodup_nil .nil g2
    refine call_dictP hc pins s σ H _ us Q I r ⟨a, as, ks, rfl, e.K ▸ ha, e.K ▸ g1, fun p hp => ?_⟩
    have j4 : mergeK [] ks = (out.map fun p => keyI p.1).zip zs := j4
    rw [j4]
    have k := keeps_new (o := .dK ((out.map fun p => keyI p.1).zip zs)) hp
    exact q _ _ ⟨p, _, hp, rfl, rfl, _, upd_same, j2, .I j1 (j3.keep k)⟩
  · cases h2
end
end Pv

/-! E7d: changes of lists and dicts, by values; what a state keeps behind them. -/
namespace Pv
open PySem PySem.Spec PyProof.Rows L2
open PySem.W (Frag)
section
variable {c : Cc} {C : Mem} {σ : St} {M : Mem} {X : Cx} {H : Hp} {pins : List (PySem.Addr × Obj)} {τ : L2.St} {s : Shared} {a : Addr} {u : HO} {kvs : List (D × D)} {k : D}

/-- the object at a is now o' -/
def ChgR (c : Cc) (H : Hp) (a : Addr) (o' : MO) (H' : Hp) : Prop := ∃ u u', H a = some u ∧ Frzb a u ∧ H' = upd H a u' ∧ BoxR c H' a o' ∧ ((∃ d, asOwn o' = some d) ∨ False)
theorem ChgR.keeps {o' : MO} {H' : Hp} (h : ChgR c H a o' H') : Keeps H H' := by
  obtain ⟨u, u', h1, f, rfl, _⟩ := h
  exact keeps_frzb h1 f
theorem RepC.write (R : RepC c C σ M τ H) {o o' : MO} {H' : Hp} (hC : C a = some o) (w : ChgR c H a o' H') {σ' : St} {M' : Mem} (hlen : σ'.length = τ.length) (hsub : ∀ b q, M' b = some q → mset C a o' b = some q)
    (hs : ∀ (i : Nat) (d : D), σ'[i]? = some (some d) → (σ[i]? = some (some d) ∧ ∃ v, τ[i]? = some (some v) ∧ SlotR c C M H d v ∧ (d.own = true → v ≠ .ref a)) ∨ (asMO d = some o' ∧ τ[i]? = some (some (.ref a)) ∧ M' a = none ∧ c.H0 a = none))
    (hM : ∀ b, b ≠ a → M b = none → M' b = none)
    (sep : ∀ (i j : Nat) (d e : D) (v : V), σ'[i]? = some (some d) → σ'[j]? = some (some e) → d.own = true → e.own = true → τ[i]? = some (some v) → τ[j]? = some (some v) → i = j) :
    RepC c (mset C a o') σ' M' τ H' := by
  have k := w.keeps
  obtain ⟨u, u', h1, f, rfl, hb, _⟩ := w
  refine ⟨hlen, hsub, fun b q e => ?_, fun i d e => ?_, sep, fun b q e m => ?_, fun b e => ?_, fun b e => ?_⟩
  · by_cases z : b = a
    · subst z; rw [mset_same] at e; cases e; exact hb
    · rw [mset_ne z] at e
      refine (R.boxes b q e).keep k (upd_ne z) fun dx hd => ?_
      have ne : dx ≠ a := fun y => by rw [y, h1] at hd; exact f.notOwn (Option.some.inj hd)
      rw [upd_ne ne]; exact hd
  · rcases hs i d e with ⟨h2, v, h3, h4, h5⟩ | ⟨h2, h3, h4, h5⟩
    · refine ⟨v, h3, ?_⟩
      cases ho : asMO d with
      | none =>
        unfold SlotR at h4 ⊢
        rw [ho] at h4 ⊢
        exact RelP.keep k h4
      | some q =>
        unfold SlotR at h4 ⊢
        rw [ho] at h4 ⊢
        obtain ⟨p, rfl, g1, g2, g3⟩ := h4
        have ne : p ≠ a := fun y => h5 (own_of ho) (by rw [y])
        exact ⟨p, rfl, by rw [mset_ne ne]; exact g1, hM p ne g2, g3⟩
    · refine ⟨_, h3, ?_⟩
      unfold SlotR
      rw [h2]
      exact ⟨a, rfl, mset_same, h4, h5⟩
  · by_cases z : b = a
    · subst z
      rcases R.new b (by rw [hC]; exact fun z => nomatch z) with z | z
      · exact absurd m z
      · rw [z] at e; cases e
    · rw [upd_ne z]; exact R.old b q e m
  · by_cases z : b = a
    · subst z; rw [upd_same]; exact fun z => nomatch z
    · rw [upd_ne z]; exact R.there b e
  · by_cases z : b = a
    · subst z; exact R.new b (by rw [hC]; exact fun z => nomatch z)
    · rw [mset_ne z] at e; exact R.new b e
theorem own_asMO' {d : D} (h : d.own = true) : ∃ o, asMO d = some o := by rw [own_asMO] at h; exact Option.isSome_iff_exists.mp h
/-- slot i's own object is changed -/
theorem RepC.writeS (R : RepC c C σ M τ H) {i : Nat} {d d' : D} {o o' : MO} {H' : Hp} (hi : σ[i]? = some (some d)) (ho : asMO d = some o) (hd : asMO d' = some o') (ha : τ[i]? = some (some (.ref a))) (w : ChgR c H a o' H') :
    RepC c (mset C a o') (σ.set i (some d')) M τ H' := by
  obtain ⟨p, h1, h2, h3, h4, hb⟩ := R.own_at hi ho
  rw [ha] at h1; cases h1
  refine R.write h2 w (by rw [List.length_set]; exact R.len) (fun b q e => ?_) (fun j e q => ?_) (fun _ _ n => n) fun j l e f v q1 q2 o1 o2 g1 g2 => ?_
  · rw [mset_ne fun z => by rw [z, h3] at e; cases e]; exact R.sub b q e
  · rcases getElem?_set_of q with ⟨rfl, e1, _⟩ | ⟨ne, q⟩
    · cases e1; exact .inr ⟨hd, ha, h3, h4⟩
    · obtain ⟨v, g1, g2⟩ := R.slots j e q
      exact .inl ⟨q, v, g1, g2, fun oe z => ne (R.sep j i e d _ q hi oe (own_of ho) (by rw [g1, z]) ha)⟩
  · rcases getElem?_set_of q1 with ⟨rfl, e1, _⟩ | ⟨ne1, q1'⟩
    · rcases getElem?_set_of q2 with ⟨rfl, e2, _⟩ | ⟨ne2, q2'⟩
      · rfl
      · exact R.sep _ l d f v hi q2' (own_of ho) o2 g1 g2
    · rcases getElem?_set_of q2 with ⟨rfl, e2, _⟩ | ⟨ne2, q2'⟩
      · exact R.sep j _ e d v q1' hi o1 (own_of ho) g1 g2
      · exact R.sep j l e f v q1' q2' o1 o2 g1 g2
/-- a boxed object is changed -/
theorem RepC.writeM (R : RepC c C σ M τ H) {o o' : MO} {H' : Hp} (hM : M a = some o) (w : ChgR c H a o' H') : RepC c (mset C a o') σ (mset M a o') τ H' := by
  refine R.write (R.sub a o hM) w R.len (fun b q e => ?_) (fun j e q => ?_) (fun b ne n => by rw [mset_ne ne]; exact n) R.sep
  · by_cases z : b = a
    · subst z; rw [mset_same] at e ⊢; exact e
    · rw [mset_ne z] at e ⊢; exact R.sub b q e
  · obtain ⟨v, g1, g2⟩ := R.slots j e q
    refine .inl ⟨q, v, g1, g2, fun oe z => ?_⟩
    obtain ⟨b, hb⟩ := own_asMO' oe
    unfold SlotR at g2
    rw [hb] at g2
    obtain ⟨p, rfl, _, g4, _⟩ := g2
    cases z
    rw [hM] at g4; cases g4
/-- an object that is none of ours is written -/
theorem RepC.junk (R : RepC c C σ M τ H) {u u' : HO} (hC : C a = none) (h0 : c.H0 a = none) (hu : H a = some u) (f : Frzb a u) : RepC c C σ M τ (upd H a u') := by
  have k : Keeps H (upd H a u') := keeps_frzb hu f
  refine ⟨R.len, R.sub, fun b q e => ?_, fun i d e => ?_, R.sep, fun b q e m => ?_, fun b e => ?_, R.new⟩
  · have ne : b ≠ a := fun z => by rw [z, hC] at e; cases e
    refine (R.boxes b q e).keep k (upd_ne ne) fun dx hd => ?_
    have ne2 : dx ≠ a := fun z => by rw [z, hu] at hd; exact f.notOwn (Option.some.inj hd)
    rw [upd_ne ne2]; exact hd
  · obtain ⟨v, h1, h2⟩ := R.slots i d e
    exact ⟨v, h1, h2.keep k⟩
  · have ne : b ≠ a := fun z => by rw [z, h0] at e; cases e
    rw [upd_ne ne]; exact R.old b q e m
  · by_cases q : b = a
    · subst q; rw [upd_same]; exact fun z => nomatch z
    · rw [upd_ne q]; exact R.there b e

/-- a change at what is in hand: the object behind it, what is behind the change -/
theorem Rep.change {d : D} {v : V} {f : MO → Option (MO × D)} {Q : Kt} (R : Rep c σ M τ H) (p : PkR c σ τ H d v) (h : change d f σ M Q) :
    ∃ a o o' r, v = .ref a ∧ BoxR c H a o ∧ asOwn o ≠ none ∧ f o = some (o', r) ∧ ∀ H', ChgR c H a o' H' → ∃ σ' M', Rep c σ' M' τ H' ∧ Q r σ' M' ∧ Keeps H H' := by
  obtain ⟨C, R⟩ := R
  cases d with
  | slot i =>
    unfold Pv.change at h
    dsimp only at h
    split at h
    · rename_i xs e
      obtain ⟨ys, r, h1, h2⟩ := h
      obtain ⟨a, g1, g2, g3, g4, hb⟩ := R.own_at (o := .l xs) e rfl
      rw [p] at g1; cases g1
      exact ⟨a, .l xs, .l ys, r, rfl, hb, (fun z => nomatch z), h1, fun H' w => ⟨_, M, ⟨_, R.writeS (d' := .ol ys) e rfl rfl p w⟩, h2, w.keeps⟩⟩
    · rename_i xs e
      obtain ⟨ys, r, h1, h2⟩ := h
      obtain ⟨a, g1, g2, g3, g4, hb⟩ := R.own_at (o := .d xs) e rfl
      rw [p] at g1; cases g1
      exact ⟨a, .d xs, .d ys, r, rfl, hb, (fun z => nomatch z), h1, fun H' w => ⟨_, M, ⟨_, R.writeS (d' := .od ys) e rfl rfl p w⟩, h2, w.keeps⟩⟩
    · exact h.elim
  | ref b =>
    obtain ⟨_, r⟩ := p
    cases r
    unfold Pv.change at h
    dsimp only at h
    split at h
    · rename_i xs e
      obtain ⟨ys, r, h1, h2⟩ := h
      exact ⟨b, .l xs, .l ys, r, rfl, R.boxes b _ (R.sub b _ e), (fun z => nomatch z), h1, fun H' w => ⟨σ, _, ⟨_, R.writeM e w⟩, h2, w.keeps⟩⟩
    · rename_i xs e
      obtain ⟨ys, r, h1, h2⟩ := h
      exact ⟨b, .d xs, .d ys, r, rfl, R.boxes b _ (R.sub b _ e), (fun z => nomatch z), h1, fun H' w => ⟨σ, _, ⟨_, R.writeM e w⟩, h2, w.keeps⟩⟩
    · exact h.elim
  | _ => exact h.elim
end
end Pv

/-! E7e: changing methods, stores, by values. -/
namespace Pv
open PySem PySem.Spec PyProof.Rows L2
open PySem.W (Frag)
section
variable {c : Cc} {C : Mem} {σ : St} {M : Mem} {X : Cx} {H : Hp} {pins : List (PySem.Addr × Obj)} {τ : L2.St} {s : Shared} {a : Addr} {u : HO} {kvs : List (D × D)} {k : D}
def rX (c : Cc) (m : Mm) : V → List V → Hp → VK → Prop := fun x xs H Q => ∃ a o ds o' r, x = .ref a ∧ BoxR c H a o ∧ RelPs c H ds xs ∧ opX m o ds = some (o', r) ∧ ∀ v H', ChgR c H a o' H' → RelP c H' r v → Q v H'
theorem ChgR.l {ds : List D} {vs ws : List V} (h : H a = some (.lst ws)) (z : ds.length ≤ SZ) (r : RelPs c H ds vs) : ChgR c H a (.l ds) (upd H a (.lst vs)) :=
  ⟨_, .lst vs, h, .l _, rfl, ⟨z, vs, upd_same, r.keep (keeps_frzb h (.l _))⟩, .inl ⟨_, rfl⟩⟩
theorem RelPs.one {ds : List D} {vs : List V} (r : RelPs c H ds vs) {d : D} (h : ds = [d]) : ∃ v, vs = [v] ∧ RelP c H d v := by
  subst h
  cases r with
  | cons r t => cases t; exact ⟨_, rfl, r⟩
theorem RelPs.nil' {vs : List V} (r : RelPs c H [] vs) : vs = [] := by cases r; rfl
theorem mx_append : MtR X "list.append" (rX c .append) := by
  intro pins s σ H x xs v us Q I rx rv h
  obtain ⟨a, o, ds, o', r, rfl, hb, hd, hf, q⟩ := h
  unfold opX at hf
  split at hf <;> first | (cases hf; done) | contradiction | skip
  · rename_i l d _
    split at hf
    · rename_i hz
      cases hf
      obtain ⟨z, vs, h1, h2⟩ := hb
      obtain ⟨y, rfl, hy⟩ := hd.one rfl
      refine mt_append pins s σ H _ _ v us Q I rx rv ⟨a, vs, y, rfl, rfl, h1, by rw [← h2.length]; exact hz, ?_⟩
      exact q _ _ (.l h1 (by rw [List.length_append]; exact hz) (h2.append (.cons hy .nil))) .non
    · cases hf
theorem mx_pop : MtR X "list.pop" (rX c .pop) := by
  intro pins s σ H x xs v us Q I rx rv h
  obtain ⟨a, o, ds, o', r, rfl, hb, hd, hf, q⟩ := h
  unfold opX at hf
  split at hf <;> first | (cases hf; done) | contradiction | skip
  · rename_i l _
    obtain ⟨d, h1, h2⟩ := Option.map_eq_some_iff.mp hf
    cases h2
    obtain ⟨z, vs, h3, h4⟩ := hb
    cases hd.nil'
    have hne : l ≠ [] := fun e => by rw [e] at h1; cases h1
    have hg : l[l.length - 1]? = some r := by rw [← h1, List.getLast?_eq_getElem?]
    obtain ⟨y, g1, g2⟩ := h4.get hg
    rw [h4.length] at g1
    refine mt_pop pins s σ H _ _ v us Q I rx rv ⟨a, vs, y, rfl, rfl, h3, g1, ?_⟩
    have e1 : RelPs c H l.dropLast vs.dropLast := by
      rw [List.dropLast_eq_take, List.dropLast_eq_take, h4.length]; exact h4.take _
    have w := ChgR.l (c := c) h3 (by rw [List.length_dropLast]; omega) e1
    exact q _ _ w (g2.keep w.keeps)
theorem mx_reverse : MtR X "list.reverse" (rX c .reverse) := by
  intro pins s σ H x xs v us Q I rx rv h
  obtain ⟨a, o, ds, o', r, rfl, hb, hd, hf, q⟩ := h
  unfold opX at hf
  split at hf <;> first | (cases hf; done) | contradiction | skip
  rename_i l _
  cases hf
  obtain ⟨z, vs, h3, h4⟩ := hb
  cases hd.nil'
  exact mt_reverse pins s σ H _ _ v us Q I rx rv ⟨a, vs, rfl, rfl, h3, q _ _ (.l h3 (by rw [List.length_reverse]; exact z) h4.reverse) .non⟩
theorem mx_setdefault (e : CX' X c) (hu : X.A.units + 65 < cLine) : MtR X "dict.setdefault" (rX c .setdefault) := by
  intro pins s σ H x xs v us Q I rx rv h
  obtain ⟨a, o, ds, o', r, rfl, hb, hd, hf, q⟩ := h
  unfold opX at hf
  split at hf <;> first | (cases hf; done) | contradiction | skip
  rename_i kvs k w _
  split at hf
  · rename_i hk
    obtain ⟨u, h1, nd, d⟩ := hb
    cases rx
    cases hd with
    | cons rk t =>
      cases t with
      | cons rw' t =>
        cases t
        cases rv with
        | cons v1 t =>
          cases t with
          | cons v2 t =>
            cases t
            have hf := Option.some.inj hf
            refine dd_setd e I (by omega) h1 nd d hk.1 hk.2 rk v1 rw' v2 (fun w0 y0 v0 t hg r1 r2 => ?_) fun hn u' s' I' d' => ?_
            · rw [hg] at hf
              cases hf
              have w : ChgR c H a (.d kvs) (upd H a u) := ⟨u, u, h1, d.frzb, rfl, ⟨u, upd_same, nd, d.keep (keeps_frzb h1 d.frzb)⟩, .inl ⟨_, rfl⟩⟩
              have e2 : upd H a u = H := by funext b; unfold upd; split <;> simp_all
              have q2 := q y0 _ w (r1.keep w.keeps)
              rw [e2] at q2
              exact ⟨y0, H, I.tok t, r2, q2⟩
            · rw [hn] at hf
              cases hf
              have w : ChgR c H a (.d (dput kvs k r)) (upd H a u') := ⟨u, u', h1, d.frzb, rfl, ⟨u', upd_same, dput_nodup nd, d'⟩, .inl ⟨_, rfl⟩⟩
              exact ⟨_, _, I', v2, q _ _ w (rw'.keep w.keeps)⟩
  · cases hf
/-- a[i] = v -/
def rS (c : Cc) : TSet := fun o i v H Q => ∃ a b di dv b', o = .ref a ∧ BoxR c H a b ∧ VwR c H di i ∧ RelP c H dv v ∧ opSet b di dv = some b' ∧ ∀ H', ChgR c H a b' H' → Q H'
theorem ps_store (e : CX' X c) (hu : X.A.units + 65 < cLine) : PSet X (rS c) := by
  intro pins s σ H o i v ov iv u Q I ro ri rv h
  obtain ⟨a, b, di, dv, b', rfl, hb, hi, hv, hf, q⟩ := h
  cases b with
  | l ds =>
    cases di <;> first | (cases hf; done) | skip
    rename_i i0
    cases hi.int
    obtain ⟨j, h1, rfl⟩ := Option.map_eq_some_iff.mp (show (L2.ixN ds.length i0).map (fun k => MO.l (ds.set k dv)) = some b' from hf)
    obtain ⟨z, vs, h3, h4⟩ := hb
    refine set_list pins s σ H _ _ _ ov iv u Q I ro ri rv ⟨a, vs, i0, j, rfl, rfl, h3, by rw [← h4.length]; exact h1, q _ (.l h3 (by rw [List.length_set]; exact z) (h4.set hv j))⟩
  | d kvs =>
    have hf : (if kOk kvs di = true ∧ kvs.length < SZ then some (MO.d (dput kvs di dv)) else none) = some b' := by cases di <;> exact hf
    split at hf
    · rename_i hk
      cases hf
      obtain ⟨u0, h1, nd, d⟩ := hb
      cases ro
      have rk := isKey_flat hi (kOk_and hk.1).1
      exact dd_set e I (by omega) h1 nd d hk.1 hk.2 rk ri hv rv fun u' s' I' d' => ⟨_, I', q _ ⟨u0, u', h1, d.frzb, rfl, ⟨u', upd_same, dput_nodup nd, d'⟩, .inl ⟨_, rfl⟩⟩⟩
    · cases hf
  | ins C fs => cases hf
end
end Pv

/-! E8a: what is looked at in the written text; what a context gives. -/
namespace Pv
open PySem PySem.Spec PyProof.Rows L2
open PySem.W (Frag)

/-! ### the written text -/
/-- the names of the text: functions, classes, attributes, globals -/
structure Tb where
  fn : List Str
  cl : List Str
  nm : List Str
  gl : List Str
  fd : List Nat := []
  ini : List (Nat × Nat) := []
  mts : List ((Nat × Nat) × Nat) := []
  tbn : List Str := []
/-- a block's names -/
structure Sx where
  N : List Str
  sc : Scope
  fn : Str → Bool
def visB (S : Sx) (x : Str) : Bool := match S.sc.names.lookup x with
  | some .local => true
  | some .cell => true
  | some .free => true
  | _ => false
def locB (S : Sx) (x : Str) : Bool := match S.sc.names.lookup x with
  | some .local => true
  | some .cell => S.fn x
  | _ => false
def gloB (S : Sx) (x : Str) : Bool := match S.sc.names.lookup x with
  | some .globalImplicit => true
  | _ => false
def okN (x : Str) : Bool := !(x == ("__debug__" : Str)) && (!(x == ("__classdict__" : Str)) && !(x == ("__name__" : Str)))
def ixB (l : List Str) (i : Nat) (x : Str) : Bool := match l[i]? with
  | some y => decide (y = x)
  | none => false
theorem ixB_ok {l : List Str} {i : Nat} {x : Str} (h : ixB l i x = true) : l[i]? = some x := by
  unfold ixB at h
  split at h
  · rename_i y e
    rw [e, of_decide_eq_true h]
  · cases h
theorem ands {a b : Bool} (h : (a && b) = true) : a = true ∧ b = true := Bool.and_eq_true_iff.mp h
theorem okN_ok {x : Str} (h : okN x = true) : (x == ("__debug__" : Str)) = false ∧ (x == ("__classdict__" : Str)) = false ∧ x ≠ "__name__" := by
  obtain ⟨h1, h2⟩ := ands h
  obtain ⟨h2, h3⟩ := ands h2
  refine ⟨by simpa using h1, by simpa using h2, ?_⟩
  simpa using h3
def plainE : Expr → Bool
  | .Starred _ _ => false
  | _ => true
theorem star_cons {e : Expr} {es : List Expr} {env : Env} (h : plainE e = true) : starEach (e :: es) env = (false, eval e env) :: starEach es env := by
  cases e <;> first | rfl | cases h
theorem star_all : ∀ {es : List Expr} {env : Env} {pos : Pos}, es.all plainE = true → (backTo pos (starEach es env)).any (·.1) = false
  | [], _, _, _ => rfl
  | e :: es, env, pos, h => by
    obtain ⟨h1, h2⟩ := ands (show (plainE e && es.all plainE) = true from h)
    rw [star_cons h1]
    show (false || (backTo pos (starEach es env)).any (·.1)) = false
    rw [star_all h2]; rfl
theorem star_every : ∀ {es : List Expr} {env : Env} {pos : Pos}, es.all plainE = true → (backTo pos (starEach es env)).all (fun x => !x.1) = true
  | [], _, _, _ => rfl
  | e :: es, env, pos, h => by
    obtain ⟨h1, h2⟩ := ands (show (plainE e && es.all plainE) = true from h)
    rw [star_cons h1]
    show (true && (backTo pos (starEach es env)).all (fun x => !x.1)) = true
    rw [star_every h2]; rfl
def noSlice : Expr → Bool
  | .Slice _ _ _ _ => false
  | _ => true
theorem plainIx {b : Expr} (h : noSlice b = true) : PlainIx b := by
  cases b <;> first | exact fun _ _ => rfl | cases h
/-- not super() -/
def plainO : Expr → Bool
  | .Call _ [] [] _ => false
  | _ => true
theorem attr_plain {o : Expr} {m : Str} {env : Env} (h : plainO o = true) : attributeBase o m env (eval o env) = eval o env := by
  cases o <;> first | rfl | skip
  rename_i f as ks p
  cases as with
  | cons a as => cases f <;> rfl
  | nil => cases ks with
    | nil => cases h
    | cons k ks => cases f <;> rfl
/-- a value's truth is its test -/
def plainT : Expr → Bool
  | .UnaryOp .Not _ _ => false
  | .BoolOp _ _ _ => false
  | .IfExp _ _ _ _ => false
  | .Compare _ _ _ _ => false
  | _ => true
theorem test_plain {e : Expr} {env : Env} (h : plainT e = true) (whole : Sem Value) : isTrue e env whole = (do let v ← whole; standAt e.pos; holding [v] (truthy v)) := by
  cases e <;> first | rfl | cases h | skip
  rename_i op a p
  cases op <;> first | rfl | cases h
def noSet : Expr → Bool
  | .Set _ _ _ => false
  | _ => true
theorem fold_plain {e : Expr} {env : Env} (h : noSet e = true) (x : Value) : foldedSetIterable e env x = pure x := by
  cases e <;> first | rfl | cases h
theorem mark_plain {e : Expr} {op : CmpOp} (h : noSet e = true) : behindInMarks op e = false := by
  cases e <;> first | rfl | cases h
theorem last_plain {b d : Expr} {o1 o2 : CmpOp} (h : noSet d = true) : lastMarks [o1, o2] [b, d] = false := by
  show lastMarks [o2] [d] = false
  show behindInMarks o2 d = false
  exact mark_plain h
def noComp : Expr → Bool
  | .ListComp _ _ _ _ => false
  | .SetComp _ _ _ _ => false
  | .DictComp _ _ _ _ _ => false
  | _ => true
theorem swap_plain {e : Expr} {tg : Option Expr} {l : Nat} {env : Env} (h : noComp e = true) : swapsWith e tg l env = pure false := by
  cases e <;> first | rfl | cases h

/-! ### the context -/
def Same (c c' : Cc) : Prop := ∃ h m, c' = { c with H0 := h, M0 := m }
mutual
theorem RelP.mv {c : Cc} {H : Hp} {h : Hp} {m : Mem} : ∀ {d : D} {v : V}, RelP c H d v → RelP { c with H0 := h, M0 := m } H d v
  | _, _, .non => .non
  | _, _, .bl b => .bl b
  | _, _, .int i => .int i
  | _, _, .str x z => .str x z
  | _, _, .tup a z r => .tup a z (RelPs.mv r)
  | _, _, .lst a z r => .lst a z (RelPs.mv r)
  | _, _, .dctI a n b r => .dctI a n b (RelPs.mv r)
  | _, _, .dctB a n z b r => .dctB a n z b (RelVs.mv r)
  | _, _, .dctT a n z b q r => .dctT a n z b (RelPs.mv q) (RelVs.mv r)
  | _, _, .ref a => .ref a
theorem RelPs.mv {c : Cc} {H : Hp} {h : Hp} {m : Mem} : ∀ {ds : List D} {vs : List V}, RelPs c H ds vs → RelPs { c with H0 := h, M0 := m } H ds vs
  | _, _, .nil => .nil
  | _, _, .cons r t => .cons (RelP.mv r) (RelPs.mv t)
theorem RelVs.mv {c : Cc} {H : Hp} {h : Hp} {m : Mem} : ∀ {kvs : List (D × D)} {vs : List Value}, RelVs c H kvs vs → RelVs { c with H0 := h, M0 := m } H kvs vs
  | _, _, .nil => .nil
  | _, _, .cons r q t => .cons (RelP.mv r) q (RelVs.mv t)
end
theorem Same.refl (c : Cc) : Same c c := ⟨c.H0, c.M0, rfl⟩
theorem Same.symm {c c' : Cc} (s : Same c c') : Same c' c := by
  obtain ⟨h, m, rfl⟩ := s
  exact ⟨c.H0, c.M0, rfl⟩
theorem Same.trans {c c' d : Cc} (s : Same c c') (t : Same c' d) : Same c d := by
  obtain ⟨h, m, rfl⟩ := s
  obtain ⟨h', m', rfl⟩ := t
  exact ⟨h', m', rfl⟩
section
variable {c c' : Cc} {H : Hp} (s : Same c c')
include s
theorem RelP.to {d : D} {v : V} (r : RelP c H d v) : RelP c' H d v := by
  obtain ⟨h, m, rfl⟩ := s
  exact r.mv
theorem RelPs.to {ds : List D} {vs : List V} (r : RelPs c H ds vs) : RelPs c' H ds vs := by
  obtain ⟨h, m, rfl⟩ := s
  exact r.mv
theorem BoxR.to {a : PySem.Addr} {o : MO} (r : BoxR c H a o) : BoxR c' H a o := by
  obtain ⟨h, m, rfl⟩ := s
  cases o with
  | l ds => obtain ⟨z, vs, e, q⟩ := r; exact ⟨z, vs, e, q.mv⟩
  | d kvs =>
    obtain ⟨u, e, n, q⟩ := r
    refine ⟨u, e, n, ?_⟩
    cases q with
    | I b q => exact .I b q.mv
    | B z b q => exact .B z b q.mv
    | T z b q w => exact .T z b q.mv w.mv
  | ins C fs =>
    obtain ⟨dx, vfs, e, q, w⟩ := r
    exact ⟨dx, vfs, e, Paired.mapP q fun _ _ z => ⟨z.1, z.2.mv⟩, w⟩
theorem ResR.to {M' : Mem} {H' : Hp} {d : D} {v : V} (r : ResR c M' H H' d v) : ResR c' M' H H' d v := by
  unfold ResR at r ⊢
  split at r
  · obtain ⟨a, e, b, q⟩ := r
    exact ⟨a, e, b.to s, q⟩
  · exact ⟨r.1, r.2.to s⟩
theorem ExnR.to {x : Exn} {cls : Value} {dd : Option PySem.Addr} (r : ExnR c H x cls dd) : ExnR c' H x cls dd := by
  obtain ⟨h, m, rfl⟩ := s
  unfold ExnR at r ⊢
  refine ⟨r.1, ?_⟩
  have r2 := r.2
  split
  · trivial
  · split at r2
    · contradiction
    · obtain ⟨da, fs, e1, e2, e3⟩ := r2
      exact ⟨da, fs, e1, e2, Paired.mapP e3 fun _ _ z => z.mv⟩
end
theorem CX'.to {X : Cx} {c c' : Cc} (e : CX' X c) (s : Same c c') : CX' X c' := by
  obtain ⟨h, m, rfl⟩ := s
  exact ⟨e.1, e.2, e.3⟩

/-- the built-ins' names that the core text knows -/
def bNames : List Str := ["len", "abs", "int", "str", "sum", "tuple", "list", "sorted", "dict", "max", "min", "isinstance", "range", "bool"]
/-- what a def of the text is, to its callers -/
structure FnG (P : Program) (w : World) (K : Frag) (mg : Str → Option Value) (base : Heap) (c : Cc) (k : Nat) (a : PySem.Addr) (G : List D → Mem → (D → Mem → Prop) → (Exn → Mem → Prop) → Prop) : Prop where
  kp : PySem.W.keepIn K (.ref a) = true
  ex : ∃ fd ps, FnOk P w K mg base (L2.CX P w) k a fd ps (spG c G) ∧ Binds K fd ps []
/-- a class of the text -/
structure ClG (K : Frag) (mg : Str → Option Value) (x : Str) (C : PySem.Addr) : Prop where
  mg : mg x = some (.ref C)
  cls : Cls K C
/-- a table of the module: text keys -/
def TabR (K : Frag) (a : PySem.Addr) (kvs : List (List Nat × D)) : Prop := ∀ s : List Nat, match kvs.lookup s with
  | some d => ∃ u v, PySem.W.nsIn K a (strOf s) = some (some u) ∧ RelV v u ∧ d.own = false ∧ (∀ i, d ≠ .slot i) ∧ ∀ (c : Cc) H, RelP c H d v
  | none => PySem.W.nsIn K a (strOf s) = some none
/-- what is fixed through a body: k the room that callees have -/
structure Fx (T : Tab) (Γ : FSem) (tb : Tb) (k : Nat) (S : Sx) (c : Cc) (X : Cx) (W : WX) : Prop where
  cx : CX' X c
  N : X.N = S.N
  nd : S.N.Nodup
  sc : X.env.scope = S.sc
  fn : X.fn = S.fn
  kind : S.sc.kind = .function
  calm : X.calm = true
  room : Room (k + 1) X.A
  pass : PassesOwn (model X.prog X.w) X.A X.env X.xe
  takes : Takes X W
  blt : ∀ x ∈ bNames, X.mg x = none
  fns : ∀ (f : Nat) (x : Str), tb.fn[f]? = some x → ∃ a, X.mg x = some (.ref a) ∧ FnG X.prog X.w X.K X.mg X.base c k a (Γ f)
  meths : ∀ (C m f : Nat) (x : Str), T.meths.lookup (C, m) = some f → tb.nm[m]? = some x → Cls X.K (c.cA C) ∧ c.nm m = x ∧ ∃ a, Meth X.K (c.cA C) x a ∧ FnG X.prog X.w X.K X.mg X.base c k a (Γ f)
  mks : ∀ (C f : Nat) (x : Str), T.inits.lookup C = some f → tb.cl[C]? = some x → X.mg x = some (.ref (c.cA C)) ∧ ∃ a, Mk X.K (c.cA C) a ∧ FnG X.prog X.w X.K X.mg X.base c k a (Γ f)
  flds : ∀ (x : Nat) (y : Str), tb.nm[x]? = some y → c.nm x = y
  inj : ∀ (x y : Nat), c.nm x = c.nm y → x < tb.nm.length → x = y
  ini : T.inits = tb.ini
  mts : T.meths = tb.mts
  tbs : ∀ (g : Nat) (x : Str) (kvs : List (List Nat × D)), tb.tbn[g]? = some x → T.tabs[g]? = some kvs → ∃ a es n, X.mg x = some (.ref a) ∧ KDict X.K X.w a es n ∧ TabR X.K a kvs
  tbl : tb.tbn.length ≤ T.tabs.length
  noa : ∀ (C x : Nat), (T.inits.lookup C).isSome = true → x ∈ tb.fd → Cls X.K (c.cA C) ∧ NoAttr X.K (c.cA C) (c.nm x)
  gls : ∀ (g : Nat) (x : Str) (d : D), tb.gl[g]? = some x → T.globs[g]? = some d → d.own = false ∧ (∀ i, d ≠ .slot i) ∧ ∃ v u, X.mg x = some u ∧ RelV v u ∧ ∀ H, RelP c H d v
section
variable {T : Tab} {Γ : FSem} {tb : Tb} {k : Nat} {S : Sx} {c : Cc} {X : Cx} {W : WX}
theorem Fx.units (F : Fx T Γ tb k S c X W) : X.A.units + 65 < cLine := by
  have := F.room.un
  omega
theorem Fx.gl (F : Fx T Γ tb k S c X W) {x : Str} (h : gloB S x = true) : Gl X x := by
  unfold gloB at h
  show X.env.scope.names.lookup x = _
  rw [F.sc]
  split at h
  · assumption
  · cases h
theorem Fx.vis (F : Fx T Γ tb k S c X W) {x : Str} (h : visB S x = true) : Vis X.env.scope x := by
  unfold visB at h
  show X.env.scope.names.lookup x = _ ∨ X.env.scope.names.lookup x = _ ∨ X.env.scope.names.lookup x = _
  rw [F.sc]
  split at h
  · exact .inl (by assumption)
  · exact .inr (.inl (by assumption))
  · exact .inr (.inr (by assumption))
  · cases h
theorem Fx.loc (F : Fx T Γ tb k S c X W) {x : Str} (h : locB S x = true) : Loc X.env.scope x ∧ (X.fn x = true ∨ X.env.scope.names.lookup x = some .local) := by
  unfold locB at h
  show (X.env.scope.names.lookup x = _ ∨ X.env.scope.names.lookup x = _) ∧ _
  rw [F.sc, F.fn]
  split at h
  · exact ⟨.inl (by assumption), .inr (by assumption)⟩
  · exact ⟨.inr (by assumption), .inl h⟩
  · cases h
theorem Fx.ix (F : Fx T Γ tb k S c X W) {i : Nat} {x : Str} (h : ixB S.N i x = true) : X.N[i]? = some x := by
  rw [F.N]; exact ixB_ok h
theorem Fx.ndX (F : Fx T Γ tb k S c X W) : X.N.Nodup := by
  rw [F.N]; exact F.nd
end
end Pv

/-! E8b: the rules of expressions, lifted. -/
namespace Pv
open PySem PySem.Spec PyProof.Rows L2
open PySem.W (Frag)
abbrev KE := Kx → St → Mem → Kt → Prop
abbrev KT := Kx → St → Mem → Kb → Prop
abbrev KL := Kx → St → Mem → Kl → Prop
section
variable {c : Cc} {X : Cx} {W : WX} {a b e : Expr} {tA tB tC : KE} {pos p : Pos}

/-! ### simple ones -/
theorem tmp_plain {C : Mem} {σ : St} {M : Mem} {τ : L2.St} {H : Hp} {d : D} {v : V} (R : RepC c C σ M τ H) (ho : d.own = false) (hs : ∀ i, d ≠ .slot i) (h : RelP c H d v) : RepT c d v σ M τ H :=
  ⟨C, R, tmpR_of R hs (by cases q : asMO d with
    | none => rfl
    | some o => rw [own_asMO, q] at ho; cases ho) h⟩
theorem le_const {d : D} {v : V} (h : PE X e (L2.tC v)) (ho : d.own = false) (hs : ∀ i, d ≠ .slot i) (r : ∀ H, RelP c H d v) : PE X e (LE c W fun _ σ M Q => Q d σ M) :=
  pe_imp h fun τ H Q ⟨σ, M, E, Qd, ⟨C, R⟩, ht, x, q⟩ => q _ _ σ M H (tmp_plain R ho hs (r H)) (.refl _) ht
def vVar (i : Nat) : KE := fun _ σ M Q => (match σ[i]? with
  | some (some (.ol _)) => Q (.slot i) σ M
  | some (some (.od _)) => Q (.slot i) σ M
  | some (some d) => Q d σ M
  | _ => False)
theorem le_var {i : Nat} (h : PE X e (tVar i)) : PE X e (LE c W (vVar i)) := by
  refine pe_imp h fun τ H Q ⟨σ, M, E, Qd, ⟨C, R⟩, ht, x, q⟩ => ?_
  unfold vVar at ht
  have own : ∀ d : D, σ[i]? = some (some d) → d.own = true → Qd (.slot i) σ M → tVar i τ H Q := fun d hd ho hq => by
    obtain ⟨v, h1, h2⟩ := R.slots i d hd
    exact ⟨v, h1, q (.slot i) v σ M H ⟨C, R, h1, d, hd, ho⟩ (.refl _) hq⟩
  have pl : ∀ d : D, σ[i]? = some (some d) → asMO d = none → (∀ j, d ≠ .slot j) → Qd d σ M → tVar i τ H Q := fun d hd ho hs hq => by
    obtain ⟨v, h1, h2⟩ := R.slots i d hd
    unfold SlotR at h2
    rw [ho] at h2
    exact ⟨v, h1, q _ _ σ M H (tmp_plain R (by rw [own_asMO, ho]; rfl) hs h2) (.refl _) hq⟩
  split at ht
  · exact own _ (by assumption) rfl ht
  · exact own _ (by assumption) rfl ht
  · rename_i d h1 h2 hd
    cases d with
    | ol xs => exact absurd rfl (h1 xs)
    | od xs => exact absurd rfl (h2 xs)
    | slot j =>
      obtain ⟨v, h1, h2⟩ := R.slots i _ hd
      exact nomatch (show RelP c H (.slot j) v from h2)
    | _ => exact pl _ hd rfl (fun j z => nomatch z) ht
  · exact ht.elim

/-! ### two values -/
def vB (f : D → D → Option D) (tA tB : KE) : KE := fun E σ M Q => tA E σ M fun x σ M => tB E σ M fun y σ M => ∃ r, f (vw σ M (pk x)) (vw σ M (pk y)) = some r ∧ Q r σ M
theorem lift2 {f : D → D → Option D} {e : Expr} (h : PE X e (tOp (rD2 c f) (LP c W tA) (LP c W tB))) : PE X e (LE c W (vB f tA tB)) :=
  pe_imp h fun τ H Q ⟨σ, M, E, Qd, R, ht, x, q⟩ => ⟨σ, M, E, _, R, ht, x, fun d v σ1 M1 H1 R1 p1 k1 h1 => ⟨σ1, M1, E, _, R1, h1, x, fun d2 v2 σ2 M2 H2 R2 p2 k2 ⟨r, hr, hq⟩ =>
    ⟨_, _, r, R2.view (p1.keep k2), R2.view p2, hr, fun v' H' n => let ⟨t, k⟩ := R2.newT n; q _ _ _ _ _ t (k1.trans (k2.trans k)) hq⟩⟩⟩
def vC (f : D → D → Option Bool) (tA tB : KE) : KE := fun E σ M Q => tA E σ M fun x σ M => tB E σ M fun y σ M => ∃ r, f (vw σ M (pk x)) (vw σ M (pk y)) = some r ∧ Q (.bl r) σ M
def asT (t : KE) : KT := fun E σ M Q => t E σ M fun x σ M => ∃ b, truth (vw σ M (pk x)) = some b ∧ Q b σ M
theorem tru_bl {σ : St} {M : Mem} {r : Bool} {Q : Kb} (h : ∃ b, truth (vw σ M (pk (.bl r))) = some b ∧ Q b σ M) : Q r σ M := by
  obtain ⟨b, e, h⟩ := h
  cases e
  exact h
theorem lift2c {f : D → D → Option Bool} {e : Expr} (h : PE X e (tOp (rC2 c f) (LP c W tA) (LP c W tB))) : PE X e (LE c W (vC f tA tB)) :=
  pe_imp h fun τ H Q ⟨σ, M, E, Qd, R, ht, x, q⟩ => ⟨σ, M, E, _, R, ht, x, fun d v σ1 M1 H1 R1 p1 k1 h1 => ⟨σ1, M1, E, _, R1, h1, x, fun d2 v2 σ2 M2 H2 R2 p2 k2 ⟨r, hr, hq⟩ =>
    ⟨_, _, r, R2.view (p1.keep k2), R2.view p2, hr, let ⟨t, k⟩ := R2.newT (NewR.bl (b := r)); q _ _ _ _ _ t (k1.trans (k2.trans k)) hq⟩⟩⟩
theorem lift2t {f : D → D → Option Bool} {e : Expr} (h : PT X e (tTest (tOp (rC2 c f) (LP c W tA) (LP c W tB)))) : PT X e (LT c W (asT (vC f tA tB))) :=
  pt_imp h fun τ H Q ⟨σ, M, E, Qd, R, ht, x, q⟩ => ⟨σ, M, E, _, R, ht, x, fun d v σ1 M1 H1 R1 p1 k1 h1 => ⟨σ1, M1, E, _, R1, h1, x, fun d2 v2 σ2 M2 H2 R2 p2 k2 ⟨r, hr, hq⟩ =>
    ⟨_, _, r, R2.view (p1.keep k2), R2.view p2, hr, r, rfl, q _ _ _ _ R2 (k1.trans k2) (tru_bl hq)⟩⟩⟩
/-- by values, the second one not looked through -/
def vIx (tA tB : KE) : KE := fun E σ M Q => tA E σ M fun x σ M => tB E σ M fun y σ M => ∃ r, opIdx (vw σ M (pk x)) (pk y) = some r ∧ Q r σ M
theorem pk_view {σ : St} {τ : L2.St} {H : Hp} {d : D} {v : V} (h : PkR c σ τ H (pk d) v) : VwR c H (pk d) v := by
  cases d with
  | slot i => exact trivial
  | _ => exact VwR.ofP h.2 rfl
theorem lift_ix {e : Expr} (h : PE X e (tOp (rD2 c opIdx) (LP c W tA) (LP c W tB))) : PE X e (LE c W (vIx tA tB)) :=
  pe_imp h fun τ H Q ⟨σ, M, E, Qd, R, ht, x, q⟩ => ⟨σ, M, E, _, R, ht, x, fun d v σ1 M1 H1 R1 p1 k1 h1 => ⟨σ1, M1, E, _, R1, h1, x, fun d2 v2 σ2 M2 H2 R2 p2 k2 ⟨r, hr, hq⟩ =>
    ⟨_, _, r, R2.view (p1.keep k2), pk_view p2, hr, fun v' H' n => let ⟨t, k⟩ := R2.newT n; q _ _ _ _ _ t (k1.trans (k2.trans k)) hq⟩⟩⟩
/-! ### one value -/
theorem relI {C : Mem} {σ : St} {M : Mem} {τ : L2.St} {H : Hp} {i : Int} {v : V} (h : RepT c (.int i) v σ M τ H) : v = .int i := by
  obtain ⟨C, R, t⟩ := h
  cases t.rel (fun i z => nomatch z) rfl
  rfl
theorem relB {σ : St} {M : Mem} {τ : L2.St} {H : Hp} {i : Bool} {v : V} (h : RepT c (.bl i) v σ M τ H) : v = .bl i := by
  obtain ⟨C, R, t⟩ := h
  cases t.rel (fun i z => nomatch z) rfl
  rfl
def vNeg (tA : KE) : KE := fun E σ M Q => tA E σ M fun x σ M => ∃ i, x = .int i ∧ Q (.int (-i)) σ M
theorem lift_neg {e : Expr} (h : PE X e (tUn (rU fun i => .int (-i)) (LE c W tA))) : PE X e (LE c W (vNeg tA)) :=
  pe_imp h fun τ H Q ⟨σ, M, E, Qd, R, ht, x, q⟩ => ⟨σ, M, E, _, R, ht, x, fun d v σ1 M1 H1 R1 k1 ⟨i, e, hq⟩ => by
    subst e
    exact ⟨i, relI (C := fun _ => none) R1, let ⟨t, k⟩ := R1.rep.newT (NewR.int (i := -i)); q _ _ _ _ _ t (k1.trans k) hq⟩⟩
def vNot (tA : KE) : KE := fun E σ M Q => tA E σ M fun x σ M => ∃ b, x = .bl b ∧ Q (.bl (!b)) σ M
theorem lift_not {e : Expr} (h : PE X e (tNotV (LE c W tA))) : PE X e (LE c W (vNot tA)) :=
  pe_imp h fun τ H Q ⟨σ, M, E, Qd, R, ht, x, q⟩ => ⟨σ, M, E, _, R, ht, x, fun d v σ1 M1 H1 R1 k1 ⟨i, e, hq⟩ => by
    subst e
    exact ⟨i, relB R1, let ⟨t, k⟩ := R1.rep.newT (NewR.bl (b := !i)); q _ _ _ _ _ t (k1.trans k) hq⟩⟩
def vAnd (tA tB : KE) : KE := fun E σ M Q => tA E σ M fun x σ M => ∃ c, x = .bl c ∧ (if c = true then tB E σ M Q else Q (.bl false) σ M)
def vOr (tA tB : KE) : KE := fun E σ M Q => tA E σ M fun x σ M => ∃ c, x = .bl c ∧ (if c = true then Q (.bl true) σ M else tB E σ M Q)
theorem lift_and {e : Expr} (h : PE X e (tAndV (LE c W tA) (LE c W tB))) : PE X e (LE c W (vAnd tA tB)) :=
  pe_imp h fun τ H Q ⟨σ, M, E, Qd, R, ht, x, q⟩ => ⟨σ, M, E, _, R, ht, x, fun d v σ1 M1 H1 R1 k1 ⟨i, e, hq⟩ => by
    subst e
    refine ⟨i, relB R1, ?_⟩
    cases i with
    | true => exact ⟨σ1, M1, E, Qd, R1.rep, hq, x, fun d v σ' M' H' r k z => q d v σ' M' H' r (k1.trans k) z⟩
    | false => exact let ⟨t, k⟩ := R1.rep.newT (NewR.bl (b := false)); q _ _ _ _ _ t (k1.trans k) hq⟩
theorem lift_or {e : Expr} (h : PE X e (tOrV (LE c W tA) (LE c W tB))) : PE X e (LE c W (vOr tA tB)) :=
  pe_imp h fun τ H Q ⟨σ, M, E, Qd, R, ht, x, q⟩ => ⟨σ, M, E, _, R, ht, x, fun d v σ1 M1 H1 R1 k1 ⟨i, e, hq⟩ => by
    subst e
    refine ⟨i, relB R1, ?_⟩
    cases i with
    | false => exact ⟨σ1, M1, E, Qd, R1.rep, hq, x, fun d v σ' M' H' r k z => q d v σ' M' H' r (k1.trans k) z⟩
    | true => exact let ⟨t, k⟩ := R1.rep.newT (NewR.bl (b := true)); q _ _ _ _ _ t (k1.trans k) hq⟩
/-! ### is None, is True -/
def vIsN (n : Bool) (tA : KE) : KE := fun E σ M Q => tA E σ M fun x σ M => Q (.bl (x.isNon != n)) σ M
theorem is_non {σ : St} {M : Mem} {τ : L2.St} {H : Hp} {d : D} {v : V} (h : RepT c d v σ M τ H) : decide (v = .non) = d.isNon := by
  obtain ⟨C, R, t⟩ := h
  have own : ∀ (e : D) (o : MO), asMO e = some o → SlotR c C M H e v → decide (v = .non) = false := fun e o ho r => by
    unfold SlotR at r
    rw [ho] at r
    obtain ⟨a, rfl, _⟩ := r
    rfl
  cases d with
  | slot i =>
    obtain ⟨t1, e, t2, t3⟩ := t
    obtain ⟨w, h1, h2⟩ := R.slots i e t2
    rw [t1] at h1
    cases h1
    obtain ⟨o, ho⟩ := own_asMO' t3
    exact own e o ho h2
  | ol xs => exact own _ _ rfl t.1
  | od xs => exact own _ _ rfl t.1
  | _ => cases t.rel (fun i z => nomatch z) rfl <;> rfl
theorem pos_bang {v : Bool} : (v != true) = !v := by cases v <;> rfl
theorem pos_same {v : Bool} : (v != false) = v := by cases v <;> rfl
theorem lift_isN {e : Expr} {n : Bool} (h : PE X e (if n = true then tNotN (LE c W tA) else tIsN (LE c W tA))) : PE X e (LE c W (vIsN n tA)) := by
  cases n with
  | true => exact pe_imp h fun τ H Q ⟨σ, M, E, Qd, R, ht, x, q⟩ => ⟨σ, M, E, _, R, ht, x, fun d v σ1 M1 H1 R1 k1 hq => by
      have e1 := is_non R1
      show Q (V.bl !decide (v = V.non)) H1
      rw [e1]
      rw [pos_bang] at hq
      exact let ⟨t, k⟩ := R1.rep.newT (NewR.bl (b := _)); q _ _ _ _ _ t (k1.trans k) hq⟩
  | false => exact pe_imp h fun τ H Q ⟨σ, M, E, Qd, R, ht, x, q⟩ => ⟨σ, M, E, _, R, ht, x, fun d v σ1 M1 H1 R1 k1 hq => by
      have e1 := is_non R1
      show Q (V.bl (decide (v = V.non))) H1
      rw [e1]
      rw [pos_same] at hq
      exact let ⟨t, k⟩ := R1.rep.newT (NewR.bl (b := _)); q _ _ _ _ _ t (k1.trans k) hq⟩
theorem lift_isNT {e : Expr} {n : Bool} (h : PT X e (L2.tB (if n = true then tNotN (LE c W tA) else tIsN (LE c W tA)))) : PT X e (LT c W (asT (vIsN n tA))) := by
  cases n with
  | true => exact pt_imp h fun τ H Q ⟨σ, M, E, Qd, R, ht, x, q⟩ => ⟨σ, M, E, _, R, ht, x, fun d v σ1 M1 H1 R1 k1 hq => by
      have hq := tru_bl hq
      have e1 := is_non R1
      rw [pos_bang] at hq
      exact ⟨_, rfl, by rw [e1]; exact q _ _ _ _ R1.rep k1 hq⟩⟩
  | false => exact pt_imp h fun τ H Q ⟨σ, M, E, Qd, R, ht, x, q⟩ => ⟨σ, M, E, _, R, ht, x, fun d v σ1 M1 H1 R1 k1 hq => by
      have hq := tru_bl hq
      have e1 := is_non R1
      rw [pos_same] at hq
      exact ⟨_, rfl, by rw [e1]; exact q _ _ _ _ R1.rep k1 hq⟩⟩
/-- x is True -/
def vIsB (n b : Bool) (tA : KE) : KE := fun E σ M Q => tA E σ M fun x σ M => ∃ c, x = .bl c ∧ Q (.bl ((c == b) != n)) σ M
def rIB (n : Bool) : R2 := fun x y H Q => ∃ a b, x = .bl a ∧ y = .bl b ∧ Q (.bl ((a == b) != n)) H
theorem or_isB {n : Bool} : OpR X (compareOp (if n = true then .IsNot else .Is)) (rIB n) := by
  cases n with
  | true =>
    intro pins s σ H x y v u Q I rx ry ⟨a, b, e1, e2, q⟩
    exact op_isnot_bl pins s σ H x y v u Q I rx ry ⟨a, b, e1, e2, by cases a <;> cases b <;> exact q⟩
  | false =>
    intro pins s σ H x y v u Q I rx ry ⟨a, b, e1, e2, q⟩
    exact op_is_bl pins s σ H x y v u Q I rx ry ⟨a, b, e1, e2, by cases a <;> cases b <;> exact q⟩
theorem lift_isB {e : Expr} {n b : Bool} (h : PE X e (tOp (rIB n) (LE c W tA) (L2.tC (.bl b)))) : PE X e (LE c W (vIsB n b tA)) :=
  pe_imp h fun τ H Q ⟨σ, M, E, Qd, R, ht, x, q⟩ => ⟨σ, M, E, _, R, ht, x, fun d v σ1 M1 H1 R1 k1 ⟨i, e, hq⟩ => by
    subst e
    exact ⟨i, b, relB R1, rfl, let ⟨t, k⟩ := R1.rep.newT (NewR.bl (b := _)); q _ _ _ _ _ t (k1.trans k) hq⟩⟩
theorem lift_isBT {e : Expr} {n b : Bool} (h : PT X e (tTest (tOp (rIB n) (LE c W tA) (L2.tC (.bl b))))) : PT X e (LT c W (asT (vIsB n b tA))) :=
  pt_imp h fun τ H Q ⟨σ, M, E, Qd, R, ht, x, q⟩ => ⟨σ, M, E, _, R, ht, x, fun d v σ1 M1 H1 R1 k1 ⟨i, e, hq⟩ => by
    subst e
    exact ⟨i, b, relB R1, rfl, _, rfl, q _ _ _ _ R1.rep k1 (tru_bl hq)⟩⟩
/-- a < b < c -/
def vChain (f g : D → D → Option Bool) (tA tB tC : KE) : KE := fun E σ M Q => tA E σ M fun x σ M => tB E σ M fun y σ M => ∃ i j r, x = .int i ∧ y = .int j ∧ f x y = some r ∧
  (if r = true then tC E σ M fun z σ M => ∃ r, g y (vw σ M (pk z)) = some r ∧ Q (.bl r) σ M else Q (.bl false) σ M)
theorem chain_imp {f g : D → D → Option Bool} {τ : L2.St} {H : Hp} {Q : VK} (h : LE c W (vChain f g tA tB tC) τ H Q) : L2.tChain (rC2 c f) (rC2 c g) (LE c W tA) (LE c W tB) (LP c W tC) τ H Q := by
  obtain ⟨σ, M, E, Qd, R, ht, x, q⟩ := h
  refine ⟨σ, M, E, _, R, ht, x, fun d v σ1 M1 H1 R1 k1 h1 => ⟨σ1, M1, E, _, R1.rep, h1, x, fun d2 v2 σ2 M2 H2 R2 k2 ⟨i, j, r, e1, e2, hr, hq⟩ => ?_⟩⟩
  subst e1 e2
  have e3 := relI (C := fun _ => none) R1
  have e4 := relI (C := fun _ => none) R2
  subst e3 e4
  refine ⟨.int i, .int j, r, RelP.int i, RelP.int j, hr, r, rfl, ?_⟩
  cases r with
  | false => exact let ⟨t, k⟩ := R2.rep.newT (NewR.bl (b := false)); q _ _ _ _ _ t (k1.trans (k2.trans k)) hq
  | true => exact ⟨σ2, M2, E, _, R2.rep, hq, x, fun d3 v3 σ3 M3 H3 R3 p3 k3 ⟨r, hr, hq⟩ => ⟨.int j, _, r, RelP.int j, R3.view p3, hr, let ⟨t, k⟩ := R3.newT (NewR.bl (b := r)); q _ _ _ _ _ t (k1.trans (k2.trans (k3.trans k))) hq⟩⟩
theorem chain_impT {f g : D → D → Option Bool} {τ : L2.St} {H : Hp} {Q : Bool → Hp → Prop} (h : LT c W (asT (vChain f g tA tB tC)) τ H Q) : tTest (L2.tChain (rC2 c f) (rC2 c g) (LE c W tA) (LE c W tB) (LP c W tC)) τ H Q := by
  obtain ⟨σ, M, E, Qd, R, ht, x, q⟩ := h
  refine ⟨σ, M, E, _, R, ht, x, fun d v σ1 M1 H1 R1 k1 h1 => ⟨σ1, M1, E, _, R1.rep, h1, x, fun d2 v2 σ2 M2 H2 R2 k2 ⟨i, j, r, e1, e2, hr, hq⟩ => ?_⟩⟩
  subst e1 e2
  have e3 := relI (C := fun _ => none) R1
  have e4 := relI (C := fun _ => none) R2
  subst e3 e4
  refine ⟨.int i, .int j, r, RelP.int i, RelP.int j, hr, r, rfl, ?_⟩
  cases r with
  | false => exact ⟨false, rfl, q _ _ _ _ R2.rep (k1.trans k2) (tru_bl hq)⟩
  | true => exact ⟨σ2, M2, E, _, R2.rep, hq, x, fun d3 v3 σ3 M3 H3 R3 p3 k3 ⟨r, hr, hq⟩ => ⟨.int j, _, r, RelP.int j, R3.view p3, hr, r, rfl, q _ _ _ _ R3 (k1.trans (k2.trans k3)) (tru_bl hq)⟩⟩
/-! ### if .. else -/
def vIf (tc : KT) (tA tB : KE) : KE := fun E σ M Q => tc E σ M fun t σ M => if t = true then tA E σ M Q else tB E σ M Q
theorem lift_if {e : Expr} {tc : KT} (h : PE X e (tIf (LT c W tc) (LE c W tA) (LE c W tB))) : PE X e (LE c W (vIf tc tA tB)) :=
  pe_imp h fun τ H Q ⟨σ, M, E, Qd, R, ht, x, q⟩ => ⟨σ, M, E, _, R, ht, x, fun t σ1 M1 H1 R1 k1 hq => by
    cases t with
    | true => exact ⟨σ1, M1, E, Qd, R1, hq, x, fun d v σ' M' H' r k z => q d v σ' M' H' r (k1.trans k) z⟩
    | false => exact ⟨σ1, M1, E, Qd, R1, hq, x, fun d v σ' M' H' r k z => q d v σ' M' H' r (k1.trans k) z⟩⟩
/-! ### tests -/
def vTNot (t : KT) : KT := fun E σ M Q => t E σ M fun b σ M => Q (!b) σ M
def vTAnd (t u : KT) : KT := fun E σ M Q => t E σ M fun c σ M => if c = true then u E σ M Q else Q false σ M
def vTOr (t u : KT) : KT := fun E σ M Q => t E σ M fun c σ M => if c = true then Q true σ M else u E σ M Q
def vTIf (t u w : KT) : KT := fun E σ M Q => t E σ M fun c σ M => if c = true then u E σ M Q else w E σ M Q
variable {t u w : KT}
theorem lift_tnot (h : PT X e (tNot (LT c W t))) : PT X e (LT c W (vTNot t)) :=
  pt_imp h fun τ H Q ⟨σ, M, E, Qd, R, ht, x, q⟩ => ⟨σ, M, E, _, R, ht, x, fun b σ1 M1 H1 R1 k1 hq => q _ _ _ _ R1 k1 hq⟩
theorem lt_and {τ : L2.St} {H : Hp} {Q : Bool → Hp → Prop} (h : LT c W (vTAnd t u) τ H Q) : tAnd (LT c W t) (LT c W u) τ H Q := by
  obtain ⟨σ, M, E, Qd, R, ht, x, q⟩ := h
  refine ⟨σ, M, E, _, R, ht, x, fun b σ1 M1 H1 R1 k1 hq => ?_⟩
  cases b with
  | true => exact ⟨σ1, M1, E, Qd, R1, hq, x, fun b σ' M' H' r k z => q b σ' M' H' r (k1.trans k) z⟩
  | false => exact q _ _ _ _ R1 k1 hq
theorem lt_or {τ : L2.St} {H : Hp} {Q : Bool → Hp → Prop} (h : LT c W (vTOr t u) τ H Q) : tOr (LT c W t) (LT c W u) τ H Q := by
  obtain ⟨σ, M, E, Qd, R, ht, x, q⟩ := h
  refine ⟨σ, M, E, _, R, ht, x, fun b σ1 M1 H1 R1 k1 hq => ?_⟩
  cases b with
  | false => exact ⟨σ1, M1, E, Qd, R1, hq, x, fun b σ' M' H' r k z => q b σ' M' H' r (k1.trans k) z⟩
  | true => exact q _ _ _ _ R1 k1 hq
theorem lift_tand (h : PW X e (tAnd (LT c W t) (LT c W u))) : PW X e (LT c W (vTAnd t u)) := pw_imp h fun τ H Q q => lt_and q
theorem lift_tor (h : PW X e (tOr (LT c W t) (LT c W u))) : PW X e (LT c W (vTOr t u)) := pw_imp h fun τ H Q q => lt_or q
/-- a value's truth -/
theorem tru_of (hK : X.K = c.K) {H : Hp} {d : D} {v : V} {b : Bool} (h : VwR c H d v) (ht : truth d = some b) : TruV X.K v H b := by
  cases d with
  | non => cases h; exact (Option.some.inj ht).symm
  | bl k => cases h; exact (Option.some.inj ht).symm
  | int i => cases h; exact (Option.some.inj ht).symm
  | str x =>
    obtain ⟨rfl, z⟩ := h.str
    refine ⟨by rw [strOf_len]; exact z, ?_⟩
    rw [strOf_len, ← Option.some.inj ht]
    cases x <;> rfl
  | tup xs =>
    obtain ⟨a, vs, rfl, hq, z, r⟩ := h.tup
    refine .inr (.inl ⟨vs, by rw [hK]; exact hq, ?_⟩)
    rw [← Option.some.inj ht]
    cases r <;> rfl
  | lst xs =>
    obtain ⟨z, a, vs, rfl, hq, r⟩ := h
    refine .inl ⟨vs, by rw [hK]; exact hq, ?_⟩
    rw [← Option.some.inj ht]
    cases r <;> rfl
  | _ => cases ht
theorem lift_val (hK : X.K = c.K) (h : PT X e (fun σ H Q => LP c W tA σ H fun x H' => ∃ k, TruV X.K x H' k ∧ Q k H')) : PT X e (LT c W (asT tA)) :=
  pt_imp h fun τ H Q ⟨σ, M, E, Qd, R, ht, x, q⟩ => ⟨σ, M, E, _, R, ht, x, fun d v σ1 M1 H1 R1 p1 k1 ⟨b, hb, hq⟩ => ⟨b, tru_of hK (R1.view p1) hb, q _ _ _ _ R1 k1 hq⟩⟩
end
end Pv

/-! E8c: lists of values; displays; calls. -/
namespace Pv
open PySem PySem.Spec PyProof.Rows L2
open PySem.W (Frag)
section
variable {c : Cc} {X : Cx} {W : WX} {a b e : Expr} {es : List Expr} {tA tB tC : KE} {tL : KL} {pos p : Pos}

/-! ### lists of values -/
def vNil : KL := fun _ σ M Q => Q [] σ M
def vCons (tA : KE) (tL : KL) : KL := fun E σ M Q => tA E σ M fun x σ M => frz x σ M fun x σ M => tL E σ M fun xs σ M => Q (x :: xs) σ M
def vConsB (tA : KE) (tL : KL) : KL := fun E σ M Q => tA E σ M fun x σ M => boxd x σ M fun x σ M => tL E σ M fun xs σ M => Q (x :: xs) σ M
def vConsV (tA : KE) (tL : KL) : KL := fun E σ M Q => tA E σ M fun x σ M => tL E σ M fun xs σ M => Q (pk x :: xs) σ M
theorem ll_nil : PA X [] (LL c W vNil) := pa_imp pa_nil fun τ H Q ⟨σ, M, E, Qd, R, ht, x, q⟩ => q [] [] σ M H R .nil (.refl _) ht
theorem lv_nil : PA X [] (LV c W vNil) := pa_imp pa_nil fun τ H Q ⟨σ, M, E, Qd, R, ht, x, q⟩ => q [] [] σ M H R .nil (.refl _) ht
theorem ll_cons (ha : PE X e (LE c W tA)) (hl : PA X es (LL c W tL)) (hp : plainE e = true) : PA X (e :: es) (LL c W (vCons tA tL)) :=
  pa_imp (pa_cons (pe_LFz ha) hl (star_cons hp)) fun τ H Q ⟨σ, M, E, Qd, R, ht, x, q⟩ => ⟨σ, M, E, _, R, ht, x, fun d v σ1 M1 H1 R1 r1 k1 h1 => ⟨σ1, M1, E, _, R1, h1, x, fun ds vs σ2 M2 H2 R2 r2 k2 hq =>
    q (d :: ds) (v :: vs) σ2 M2 H2 R2 (.cons (r1.keep k2) r2) (k1.trans k2) hq⟩⟩
theorem ll_consB (ha : PE X e (LE c W tA)) (hl : PA X es (LL c W tL)) (hp : plainE e = true) : PA X (e :: es) (LL c W (vConsB tA tL)) :=
  pa_imp (pa_cons (pe_LBx ha) hl (star_cons hp)) fun τ H Q ⟨σ, M, E, Qd, R, ht, x, q⟩ => ⟨σ, M, E, _, R, ht, x, fun d v σ1 M1 H1 R1 r1 k1 h1 => ⟨σ1, M1, E, _, R1, h1, x, fun ds vs σ2 M2 H2 R2 r2 k2 hq =>
    q (d :: ds) (v :: vs) σ2 M2 H2 R2 (.cons (r1.keep k2) r2) (k1.trans k2) hq⟩⟩
theorem lv_cons (ha : PE X e (LE c W tA)) (hl : PA X es (LV c W tL)) (hp : plainE e = true) : PA X (e :: es) (LV c W (vConsV tA tL)) :=
  pa_imp (pa_cons (pe_LP ha) hl (star_cons hp)) fun τ H Q ⟨σ, M, E, Qd, R, ht, x, q⟩ => ⟨σ, M, E, _, R, ht, x, fun d v σ1 M1 H1 R1 r1 k1 h1 => ⟨σ1, M1, E, _, R1, h1, x, fun ds vs σ2 M2 H2 R2 r2 k2 hq =>
    q (pk d :: ds) (v :: vs) σ2 M2 H2 R2 (.cons (r1.keep k2) r2) (k1.trans k2) hq⟩⟩

/-! ### displays -/
def vTup (tL : KL) : KE := fun E σ M Q => tL E σ M fun xs σ M => xs.length ≤ SZ ∧ Q (.tup xs) σ M
def vLst (tL : KL) : KE := fun E σ M Q => tL E σ M fun xs σ M => xs.length ≤ SZ ∧ Q (.ol xs) σ M
theorem lift_tup (h : PE X e (tTup (LL c W tL))) : PE X e (LE c W (vTup tL)) :=
  pe_imp h fun τ H Q ⟨σ, M, E, Qd, R, ht, x, q⟩ => ⟨σ, M, E, _, R, ht, x, fun ds vs σ1 M1 H1 R1 r1 k1 ⟨z, hq⟩ => ⟨by rw [← r1.length]; exact z, fun p hp =>
    let ⟨t, k⟩ := R1.newT (NewR.tupN hp z r1); q _ _ _ _ _ t (k1.trans k) hq⟩⟩
theorem lift_lst (h : PE X e (tLst (LL c W tL))) : PE X e (LE c W (vLst tL)) :=
  pe_imp h fun τ H Q ⟨σ, M, E, Qd, R, ht, x, q⟩ => ⟨σ, M, E, _, R, ht, x, fun ds vs σ1 M1 H1 R1 r1 k1 ⟨z, hq⟩ => ⟨by rw [← r1.length]; exact z, fun p hp =>
    let ⟨t, k⟩ := R1.newT (NewR.olN hp z r1); q _ _ _ _ _ t (k1.trans k) hq⟩⟩

/-! ### slices -/
abbrev KO := Kx → St → Mem → (Option Int → St → Mem → Prop) → Prop
def LO (c : Cc) (W : WX) (t : KO) : TO := fun τ H Q => ∃ σ M E Qd, Rep c σ M τ H ∧ t E σ M Qd ∧ XOk c W τ E ∧
  ∀ i σ' M' H', Rep c σ' M' τ H' → Keeps H H' → Qd i σ' M' → Q i H'
def vNo : KO := fun _ σ M Q => Q none σ M
def vSome (tA : KE) : KO := fun E σ M Q => tA E σ M fun x σ M => ∃ i, x = .int i ∧ Q (some i) σ M
theorem po_imp {o : Option Expr} {t t' : TO} (h : PO X o t) (w : ∀ σ H Q, t' σ H Q → t σ H Q) : PO X o t' := ⟨fun pins s σ H Q I q => h.run pins s σ H Q I (w σ H Q q)⟩
theorem lo_none : PO X none (LO c W vNo) := po_imp po_none fun τ H Q ⟨σ, M, E, Qd, R, ht, x, q⟩ => q none σ M H R (.refl _) ht
theorem lo_some (h : PE X e (LE c W tA)) : PO X (some e) (LO c W (vSome tA)) :=
  po_imp (po_some h) fun τ H Q ⟨σ, M, E, Qd, R, ht, x, q⟩ => ⟨σ, M, E, _, R, ht, x, fun d v σ1 M1 H1 R1 k1 ⟨i, e, hq⟩ => by
    subst e
    exact ⟨i, relI (C := fun _ => none) R1, q _ _ _ _ R1.rep k1 hq⟩⟩
def vSlc (tA : KE) (tl th : KO) : KE := fun E σ M Q => tA E σ M fun x σ M => tl E σ M fun l σ M => th E σ M fun h σ M => ∃ r, opSlc l h (vw σ M (pk x)) = some r ∧ Q r σ M
theorem lift_slc {tl th : KO} (h : PE X e (tSl (rSD c) (LP c W tA) (LO c W tl) (LO c W th))) : PE X e (LE c W (vSlc tA tl th)) :=
  pe_imp h fun τ H Q ⟨σ, M, E, Qd, R, ht, x, q⟩ => ⟨σ, M, E, _, R, ht, x, fun d v σ1 M1 H1 R1 p1 k1 h1 => ⟨σ1, M1, E, _, R1, h1, x, fun l σ2 M2 H2 R2 k2 h2 => ⟨σ2, M2, E, _, R2, h2, x, fun u σ3 M3 H3 R3 k3 ⟨r, hr, hq⟩ =>
    ⟨_, r, R3.view (p1.keep (k2.trans k3)), hr, fun v' H' n => let ⟨t, k⟩ := R3.newT n; q _ _ _ _ _ t (k1.trans (k2.trans (k3.trans k))) hq⟩⟩⟩⟩

/-! ### built-in functions -/
theorem views {σ : St} {M : Mem} {τ : L2.St} {H : Hp} (R : Rep c σ M τ H) : ∀ {ds : List D} {vs : List V}, PkRs c σ τ H ds vs → VwRs c H (ds.map (vw σ M)) vs
  | _, _, .nil => .nil
  | _, _, .cons r t => .cons (R.view r) (views R t)
def vBc (f : List D → Option D) (tL : KL) : KE := fun E σ M Q => tL E σ M fun xs σ M => ∃ r, f (xs.map (vw σ M)) = some r ∧ Q r σ M
theorem lift_bc {f : List D → Option D} (h : PE X e (tCB (rB c f) (LV c W tL))) : PE X e (LE c W (vBc f tL)) :=
  pe_imp h fun τ H Q ⟨σ, M, E, Qd, R, ht, x, q⟩ => ⟨σ, M, E, _, R, ht, x, fun ds vs σ1 M1 H1 R1 p1 k1 ⟨r, hr, hq⟩ => ⟨_, r, views R1 p1, hr, fun v' H' n => let ⟨t, k⟩ := R1.newT n; q _ _ _ _ _ t (k1.trans k) hq⟩⟩
/-- isinstance(x, T) -/
theorem lift_isi {n : String} {f : D → Option D} {tT : TE} (hT : ∀ τ H Q, Q (.ty n) H → tT τ H Q) (h : PE X e (tCB (rIs c n f) (tCons (LP c W tA) (tCons tT tNil)))) : PE X e (LE c W (vBc (op1 f) (vConsV tA vNil))) :=
  pe_imp h fun τ H Q ⟨σ, M, E, Qd, R, ht, x, q⟩ => ⟨σ, M, E, _, R, ht, x, fun d v σ1 M1 H1 R1 p1 k1 ⟨r, hr, hq⟩ => hT _ _ _ ⟨_, r, v, rfl, R1.view p1, hr, fun v' H' n => let ⟨t, k⟩ := R1.newT n; q _ _ _ _ _ t (k1.trans k) hq⟩⟩

/-! ### methods of built-in types -/
/-- what is read: a str, a dict, a list -/
def tyD (c : Cc) (T : String) (x : V) (H : Hp) : Prop := ∃ d, VwR c H d x ∧ match d with
  | .str _ => T = "str"
  | .lst _ => T = "list"
  | .dct _ => T = "dict"
  | _ => False
theorem dict_none (e : CX' X c) {pins : List (PySem.Addr × Obj)} {τ : L2.St} {H : Hp} {s : Shared} {a : PySem.Addr} {u : HO} {kvs : List (D × D)} (I : Inv X pins τ H s) (rd : Rd H a u) (d : DctR c H kvs a u) : ∃ ob, s.heap.get? a = some ob ∧ ob.dict = none := by
  cases d with
  | I b r =>
    obtain ⟨_, _, vs, _, m⟩ := rd.ok I.hok
    obtain ⟨o, es, ep, g, x, _⟩ := m
    exact ⟨o, g, x.2.1⟩
  | B _ b r =>
    obtain ⟨_, m⟩ := objOk_ext rd I.hok
    obtain ⟨o, es, ep, g, x, _⟩ := m
    exact ⟨o, g, x.2.1⟩
  | T _ b q r =>
    obtain ⟨_, o, es, ep, g, x, _⟩ := objOk_ext rd I.hok
    exact ⟨o, g, x.2.1⟩
theorem ty_D (e : CX' X c) {T : String} : TyOk X T (tyD c T) := by
  intro pins σ H s x v I r ⟨d, hd, ty⟩
  cases d with
  | str z =>
    obtain ⟨rfl, _⟩ := hd.str
    obtain ⟨t, rfl⟩ := r
    cases (show T = "str" from ty)
    exact ⟨typeIs_str s _ t, fun _ e => nomatch e⟩
  | lst xs =>
    obtain ⟨z, a, vs, rfl, hq, _⟩ := hd
    cases (show T = "list" from ty)
    exact tyV_is I r (.inl ⟨rfl, vs, by rw [e.K]; exact hq⟩)
  | dct kvs =>
    obtain ⟨a, u, rfl, rd, nd, d⟩ := hd
    cases (show T = "dict" from ty)
    cases r
    refine ⟨dict_typeIsD e I rd d, fun b eb => ?_⟩
    cases eb
    exact dict_none e I rd d
  | _ => exact ty.elim
def bmTy : Bm → String
  | .get => "dict"
  | .get0 => "dict"
  | .items => "dict"
  | _ => "str"
theorem bmT_ok {m : Bm} {d : D} {x : V} {H : Hp} (h : VwR c H d x) (t : bmT m d = true) : tyD c (bmTy m) x H := by
  refine ⟨d, h, ?_⟩
  cases d <;> cases m <;> first | rfl | cases t
/-- by values: the receiver, the arguments -/
def rM (c : Cc) (f : D → List D → Option D) : V → List V → Hp → VK → Prop := fun x xs H Q => ∃ d ds r, VwR c H d x ∧ VwRs c H ds xs ∧ f d ds = some r ∧ ∀ v H', NewR c H r v H' → Q v H'
def vBm (m : Bm) (tA : KE) (tL : KL) : KE := fun E σ M Q => tA E σ M fun x σ M => bmT m (vw σ M (pk x)) = true ∧ tL E σ M fun ys σ M => ∃ r, opM m (vw σ M (pk x)) (ys.map (vw σ M)) = some r ∧ Q r σ M
theorem lift_bm {m : Bm} (h : PE X e (tMG (tyD c (bmTy m)) (rM c (opM m)) (LP c W tA) (LV c W tL))) : PE X e (LE c W (vBm m tA tL)) :=
  pe_imp h fun τ H Q ⟨σ, M, E, Qd, R, ht, x, q⟩ => ⟨σ, M, E, _, R, ht, x, fun d v σ1 M1 H1 R1 p1 k1 ⟨hT, h1⟩ => ⟨bmT_ok (R1.view p1) hT, σ1, M1, E, _, R1, h1, x, fun ds vs σ2 M2 H2 R2 p2 k2 ⟨r, hr, hq⟩ =>
    ⟨_, _, r, R2.view (p1.keep k2), views R2 p2, hr, fun v' H' n => let ⟨t, k⟩ := R2.newT n; q _ _ _ _ _ t (k1.trans (k2.trans k)) hq⟩⟩⟩
theorem lift_bm0 {m : Bm} (h : PE X e (tMG0 (tyD c (bmTy m)) (rM c (opM m)) (LP c W tA))) : PE X e (LE c W (vBm m tA vNil)) :=
  pe_imp h fun τ H Q ⟨σ, M, E, Qd, R, ht, x, q⟩ => ⟨σ, M, E, _, R, ht, x, fun d v σ1 M1 H1 R1 p1 k1 ⟨hT, r, hr, hq⟩ => ⟨bmT_ok (R1.view p1) hT, _, [], r, R1.view p1, .nil, hr, fun v' H' n => let ⟨t, k⟩ := R1.newT n; q _ _ _ _ _ t (k1.trans k) hq⟩⟩
/-! ### methods that change -/
def mmTy : Mm → String
  | .setdefault => "dict"
  | .update => "dict"
  | _ => "list"
theorem mm_pk {σ : St} {M : Mem} {τ : L2.St} {H : Hp} {m : Mm} {d y : D} {v : V} (h : mmT m d y = true) (r : RepT c d v σ M τ H) : PkR c σ τ H d v ∧ (∀ R : Rep c σ M τ H, y = vw σ M d → tyD c (mmTy m) v H) := by
  obtain ⟨C, R, t⟩ := r
  obtain ⟨h1, h2⟩ := ands h
  have p : PkR c σ τ H d v := by
    cases d with
    | slot i => exact t.1
    | ref a => exact ⟨rfl, t.rel (fun i z => nomatch z) rfl⟩
    | _ => cases h1
  refine ⟨p, fun R e => ⟨y, by rw [e]; exact R.view p, ?_⟩⟩
  cases y <;> cases m <;> first | rfl | cases h2
def vMm (m : Mm) (tA : KE) (tL : KL) : KE := fun E σ M Q => tA E σ M fun x σ M => mmT m x (vw σ M x) = true ∧ tL E σ M fun ys σ M => change x (fun o => opX m o ys) σ M Q
theorem change_T {σ : St} {M : Mem} {τ : L2.St} {H : Hp} {r : D} {v : V} (R : Rep c σ M τ H) (ho : r.own = false) (hs : ∀ i, r ≠ .slot i) (h : RelP c H r v) : RepT c r v σ M τ H := let ⟨C, R⟩ := R; tmp_plain R ho hs h
theorem rel_plain {H : Hp} {d : D} {v : V} (h : RelP c H d v) : d.own = false ∧ ∀ i, d ≠ .slot i := by
  cases h <;> exact ⟨rfl, fun i z => nomatch z⟩
theorem lift_mm {m : Mm} (h : PE X e (tMG (tyD c (mmTy m)) (rX c m) (LE c W tA) (LL c W tL))) : PE X e (LE c W (vMm m tA tL)) :=
  pe_imp h fun τ H Q ⟨σ, M, E, Qd, R, ht, x, q⟩ => ⟨σ, M, E, _, R, ht, x, fun d v σ1 M1 H1 R1 k1 ⟨hT, h1⟩ => by
    obtain ⟨p1, ty⟩ := mm_pk hT R1
    refine ⟨ty R1.rep rfl, σ1, M1, E, _, R1.rep, h1, x, fun ds vs σ2 M2 H2 R2 r2 k2 h2 => ?_⟩
    obtain ⟨a, o, o', r, rfl, hb, _, hf, g⟩ := R2.change (p1.keep k2) h2
    refine ⟨a, o, ds, o', r, rfl, hb, r2, hf, fun v' H' w rr => ?_⟩
    obtain ⟨σ', M', R', hq, k3⟩ := g H' w
    obtain ⟨z1, z2⟩ := rel_plain rr
    exact q _ _ _ _ _ (change_T R' z1 z2 rr) (k1.trans (k2.trans k3)) hq⟩
theorem lift_mm0 {m : Mm} (h : PE X e (tMG0 (tyD c (mmTy m)) (rX c m) (LE c W tA))) : PE X e (LE c W (vMm m tA vNil)) :=
  pe_imp h fun τ H Q ⟨σ, M, E, Qd, R, ht, x, q⟩ => ⟨σ, M, E, _, R, ht, x, fun d v σ1 M1 H1 R1 k1 ⟨hT, h1⟩ => by
    obtain ⟨p1, ty⟩ := mm_pk hT R1
    refine ⟨ty R1.rep rfl, ?_⟩
    have h1 : change d (fun o => opX m o []) σ1 M1 Qd := h1
    obtain ⟨a, o, o', r, rfl, hb, _, hf, g⟩ := R1.rep.change p1 h1
    refine ⟨a, o, [], o', r, rfl, hb, .nil, hf, fun v' H' w rr => ?_⟩
    obtain ⟨σ', M', R', hq, k3⟩ := g H' w
    obtain ⟨z1, z2⟩ := rel_plain rr
    exact q _ _ _ _ _ (change_T R' z1 z2 rr) (k1.trans k3) hq⟩
end
end Pv

/-! E8d: calls of the text's defs. -/
namespace Pv
open PySem PySem.Spec PyProof.Rows L2
open PySem.W (Frag)
section
variable {c : Cc} {C : Mem} {σ : St} {M M' : Mem} {τ : L2.St} {H H' : Hp} {X : Cx} {W : WX}
theorem box_notStay {a : PySem.Addr} {o : MO} (h : BoxR c H a o) : ∀ u, H a = some u → ¬ Stay u := by
  cases o with
  | l ds =>
    obtain ⟨_, vs, e, _⟩ := h
    intro u hu
    rw [e] at hu; cases hu; exact fun z => z
  | d kvs =>
    obtain ⟨w, e, _, d⟩ := h
    intro u hu
    rw [e] at hu; cases hu
    exact d.frzb.plain
  | ins C fs =>
    obtain ⟨_, _, e, _⟩ := h
    intro u hu
    rw [e] at hu; cases hu; exact fun z => z
theorem box_notOwn {a b : PySem.Addr} {o : MO} (h : BoxR c H a o) : H a ≠ some (.own b) := by
  cases o with
  | l ds =>
    obtain ⟨_, vs, e, _⟩ := h
    rw [e]; exact fun z => nomatch z
  | d kvs =>
    obtain ⟨w, e, _, d⟩ := h
    rw [e]
    exact fun z => d.frzb.notOwn (Option.some.inj z)
  | ins C fs =>
    obtain ⟨_, _, e, _⟩ := h
    rw [e]; exact fun z => nomatch z
theorem RepC.m0 (R : RepC c C σ M τ H) {a : PySem.Addr} {o : HO} (h0 : c.H0 a = some o) (m0 : c.M0 a = none) : M a = none := by
  cases e : M a with
  | none => rfl
  | some o =>
    have q := R.sub a o e
    rcases R.new a (by rw [q]; exact fun z => nomatch z) with z | z
    · exact absurd m0 z
    · rw [h0] at z; cases z
theorem frame_keeps (bx : ∀ a o, M a = some o → BoxR c H a o) (F : FrameR M M' H H') : Keeps H H' := fun a o e st => by
  refine F.old a o e ?_
  cases q : M a with
  | none => rfl
  | some b => exact absurd st (box_notStay (bx a b q) o e)
/-- behind a call -/
def aft (C M M' : Mem) : Mem := fun a => match M' a with
  | some o => some o
  | none => match M a with
    | some _ => none
    | none => C a
theorem RepC.after (R : RepC c C σ M τ H) (bx : ∀ a o, M' a = some o → BoxR c H' a o) (F : FrameR M M' H H') : RepC c (aft C M M') σ M' τ H' ∧ Keeps H H' := by
  have k := frame_keeps (fun a o e => R.boxes a o (R.sub a o e)) F
  -- a private box is none of the callee's
  have priv : ∀ a o, C a = some o → M a = none → M' a = none := fun a o e m => by
    cases q : M' a with
    | none => rfl
    | some b =>
      rcases F.new a (by rw [q]; exact fun z => nomatch z) with z | z
      · exact absurd m z
      · obtain ⟨u, hu⟩ := (R.boxes a o e).some
        rw [hu] at z; cases z
  have keepC : ∀ a o, C a = some o → M a = none → aft C M M' a = some o := fun a o e m => by
    unfold aft
    rw [priv a o e m, m]; exact e
  have split : ∀ a o, aft C M M' a = some o → M' a = some o ∨ (M' a = none ∧ M a = none ∧ C a = some o) := fun a o e => by
    unfold aft at e
    split at e
    · exact .inl (by rename_i q; rw [q]; exact e)
    · split at e
      · cases e
      · exact .inr ⟨by assumption, by assumption, e⟩
  refine ⟨⟨R.len, fun a o e => ?_, fun a o e => ?_, fun i d e => ?_, R.sep, fun a o e m => ?_, fun a e => ?_, fun a e => ?_⟩, k⟩
  · unfold aft; rw [e]
  · rcases split a o e with q | ⟨q1, q2, q3⟩
    · exact bx a o q
    · have hb := R.boxes a o q3
      obtain ⟨u, hu⟩ := hb.some
      refine hb.keep k (by rw [hu]; exact F.old a u hu q2) fun dx hd => F.old dx _ hd ?_
      cases z : M dx with
      | none => rfl
      | some b => exact absurd hd (box_notOwn (R.boxes dx b (R.sub dx b z)))
  · obtain ⟨v, h1, h2⟩ := R.slots i d e
    exact ⟨v, h1, (h2.keep k).mono (fun a b => keepC a b) fun a b => priv a b⟩
  · exact F.old a o (R.old a o e m) (R.m0 e m)
  · exact F.there a (R.there a e)
  · obtain ⟨o, ho⟩ := Option.ne_none_iff_exists'.mp e
    rcases split a o ho with q | ⟨q1, q2, q3⟩
    · rcases F.new a (by rw [q]; exact fun z => nomatch z) with z | z
      · obtain ⟨b, hb⟩ := Option.ne_none_iff_exists'.mp z
        exact R.new a (by rw [R.sub a b hb]; exact fun z => nomatch z)
      · exact .inr (R.h0 z)
    · exact R.new a (by rw [q3]; exact fun z => nomatch z)
theorem RepC.afterV (R : RepC c C σ M τ H) {d : D} {v : V} (rs : ResR c M' H H' d v) (bx : ∀ a o, M' a = some o → BoxR c H' a o) (F : FrameR M M' H H') : RepT c d v σ M' τ H' ∧ Keeps H H' := by
  obtain ⟨R1, k⟩ := R.after bx F
  refine ⟨?_, k⟩
  unfold ResR at rs
  split at rs
  · rename_i o ho
    obtain ⟨a, rfl, hb, hm, hn⟩ := rs
    have hC : C a = none := boxes_some R.boxes hn
    have hA : aft C M M' a = none := by
      unfold aft
      rw [hm]
      show (match M a with
        | some _ => none
        | none => C a) = none
      cases M a <;> first | rfl | exact hC
    refine ⟨mset (aft C M M') a o, R1.put hA hb (R.h0 hn), ?_⟩
    have fin : SlotR c (mset (aft C M M') a o) M' H' d (.ref a) := by
      unfold SlotR; rw [ho]; exact ⟨a, rfl, mset_same, hm, R.h0 hn⟩
    have fin2 : ∀ (i : Nat) (e : D), σ[i]? = some (some e) → e.own = true → τ[i]? ≠ some (some (.ref a)) := fun i e hi he q => by
      obtain ⟨w, h1, h2⟩ := R.slots i e hi
      rw [q] at h1
      cases h1
      obtain ⟨b, hb'⟩ := own_asMO' he
      unfold SlotR at h2
      rw [hb'] at h2
      obtain ⟨a', e1, e2, _⟩ := h2
      cases e1
      rw [hC] at e2; cases e2
    unfold TmpR
    split
    · cases ho
    · exact ⟨fin, fun _ => fin2⟩
  · rename_i ho
    exact ⟨_, R1, tmpR_of R1 rs.1 ho rs.2⟩

/-- what a call of G gives, to the caller -/
theorem call_spG {c0 : Cc} (s : Same c0 c) {G : List D → Mem → (D → Mem → Prop) → (Exn → Mem → Prop) → Prop} {ds : List D} {vs : List V} {E : Kx} {Qd : Kt} {Q : VK} (R : Rep c σ M τ H) (r : RelPs c H ds vs)
    (h : G ds M (fun d M' => Qd d σ M') fun x M' => E x σ M') (hx : XOk c W τ E) (q : ∀ d v M' H', RepT c d v σ M' τ H' → Keeps H H' → Qd d σ M' → Q v H') : spG c0 G vs H Q (WE W τ) := by
  obtain ⟨C, R⟩ := R
  refine ⟨ds, M, _, _, r.to s.symm, fun a o e => (R.boxes a o (R.sub a o e)).to s.symm, h, fun d v M' H' rs bx F hq => ?_, fun x cls dd M' H' rx bx F he => ?_⟩
  · obtain ⟨t, k⟩ := R.afterV (rs.to s) (fun a o e => (bx a o e).to s) F
    exact q d v M' H' t k hq
  · obtain ⟨R1, k⟩ := R.after (fun a o e => (bx a o e).to s) F
    exact hx x cls dd σ M' H' (rx.to s) ⟨_, R1⟩ he
def vCall (G : List D → Mem → (D → Mem → Prop) → (Exn → Mem → Prop) → Prop) (tL : KL) : KE := fun E σ M Q => tL E σ M fun ds σ M => G ds M (fun d M' => Q d σ M') fun x M' => E x σ M'
theorem lift_call {c0 : Cc} (s : Same c0 c) {e : Expr} {tL : KL} {G : List D → Mem → (D → Mem → Prop) → (Exn → Mem → Prop) → Prop} (h : PE X e (tCallS (spG c0 G) (WE W) (LL c W tL))) : PE X e (LE c W (vCall G tL)) :=
  pe_imp h fun τ H Q ⟨σ, M, E, Qd, R, ht, x, q⟩ => ⟨σ, M, E, _, R, ht, x, fun ds vs σ1 M1 H1 R1 r1 k1 h1 => call_spG s R1 r1 h1 x fun d v M' H' t k hq => q d v σ1 M' H' t (k1.trans k) hq⟩
/-- f() -/
theorem pe_callS0 {CX : CXT} {k : Nat} {f : PySem.Addr} {fd : FuncData} {ps : List Str} {sp : Sp} {E : L2.St → XK} {x : Str} {p pos : Pos} (F : FnOk X.prog X.w X.K X.mg X.base CX k f fd ps sp) (hr : Room k X.A) (hg : Gl X x) (hm : X.mg x = some (.ref f))
    (hk : PySem.W.keepIn X.K (.ref f) = true) (hb : Binds X.K fd ps []) (hx : ∀ σ, PassesAt CX X σ (E σ)) (hdb : (x == ("__debug__" : Str)) = false) : PE X (.Call (.Name x p) [] [] pos) (tCallS sp E tNil) :=
  ⟨fun pins s σ H Q I h => wpAny_Call_Name_kw (ld_glob I hg hm (PySem.W.callWith_K0 I.kIn hk (run_fnS (us := []) F hr hb (hx σ) I .nil h)) hdb)⟩
theorem call_any {CX : CXT} {k : Nat} {f : PySem.Addr} {fd : FuncData} {ps : List Str} {sp : Sp} {E : L2.St → XK} {x : Str} {es : List Expr} {t : TA} {p pos : Pos} (F : FnOk X.prog X.w X.K X.mg X.base CX k f fd ps sp) (hr : Room k X.A) (hg : Gl X x) (hm : X.mg x = some (.ref f))
    (hk : PySem.W.keepIn X.K (.ref f) = true) (hb : Binds X.K fd ps []) (hx : ∀ σ, PassesAt CX X σ (E σ)) (hdb : (x == ("__debug__" : Str)) = false) (ha : PA X es t) (hp : es.all plainE = true) (h0 : es = [] → ∀ σ H Q, t σ H Q → Q [] H) : PE X (.Call (.Name x p) es [] pos) (tCallS sp E t) := by
  cases es with
  | nil => exact pe_imp (pe_callS0 F hr hg hm hk hb hx hdb) fun τ H Q h => h0 rfl τ H _ h
  | cons e es =>
    obtain ⟨h1, h2⟩ := ands (show (plainE e && es.all plainE) = true from hp)
    exact pe_callS F hr hg hm hk hb hx ha hdb (star_cons h1) (star_all h2)
end
end Pv

/-! E8m: classes of the text: fields, methods, new instances. -/
namespace Pv
open PySem PySem.Spec PyProof.Rows L2
open PySem.W (Frag)
theorem ht_any {o : Expr} {m : Str} {apos pos : Pos} {es : List Expr} {env : Env} (hb : attributeBase o m env (eval o env) = eval o env)
    (hf : ((backTo pos (starEach es env)).all (fun x => !x.1) && (backToKw pos (keywordEach [] env)).all (fun x => x.1.isSome)
      && decide (es.length + ([] : List Keyword).length + (if ([] : List Keyword).isEmpty then 0 else 1) < 30)) = true) (hl : (apos.endLine == pos.line) = true) :
    ∃ pl : Sem Bool, eval (.Call (.Attribute o m apos) es [] pos) env = (do
      let ov ← eval o env
      standAt apos.atName
      let (f, first) ← holding [ov] (getMethod ov m pl)
      callWith pos f first (backTo pos (starEach es env)) (backToKw pos (keywordEach [] env))) := by
  have hform : methodCallForm (es.length + ([] : List Keyword).length) (backTo pos (starEach es env)) (backToKw pos (keywordEach [] env)) = true := hf
  have hpos : methodCallPos true o env apos pos = pure pos := by unfold methodCallPos; simp [hl]
  refine ⟨(do return (← importBound o env).getD true), ?_⟩
  rw [arm_eval_Call, hb]
  unfold methodCall
  rw [hform, hpos]
  rfl
theorem few_okM {xs : List Expr} {env : Env} {p : Pos} (h : xs.all plainE = true) (hl : xs.length < 30) : ((backTo p (starEach xs env)).all (fun x => !x.1) && (backToKw p (keywordEach [] env)).all (fun x => x.1.isSome)
    && decide (xs.length + ([] : List Keyword).length + (if ([] : List Keyword).isEmpty then 0 else 1) < 30)) = true := by
  have e1 : (backTo p (starEach xs env)).all (fun x => !x.1) = true := star_every h
  rw [e1]
  show (true && true && decide (xs.length + 0 + 0 < 30)) = true
  rw [decide_eq_true (by omega)]; rfl
section
variable {c : Cc} {C : Mem} {σ : St} {M M' : Mem} {τ : L2.St} {H H' : Hp} {X : Cx} {W : WX} {CX : CXT} {k : Nat} {f Ca : PySem.Addr} {fd : FuncData} {ps : List Str} {sp : Sp} {E : L2.St → XK} {x m : Str} {p pos apos : Pos} {e o : Expr} {es : List Expr} {ta : TE} {t : TA} {tA tB : KE} {tL : KL}
/-! ### the hand layer's methods and classes, exceptions by the state -/
def tMethS (C : PySem.Addr) (m : Str) (sp : Sp) (E : L2.St → XK) (ta : TE) (t : TA) : TE := fun σ H Q => ta σ H fun x H1 => ∃ a dx fs, x = .ref a ∧ H1 a = some (.ins C dx fs) ∧ fs.lookup m = none ∧
  t σ H1 fun vs H2 => sp (x :: vs) H2 Q (E σ)
def tMakeS (C : PySem.Addr) (sp : Sp) (E : L2.St → XK) (t : TA) : TE := fun σ H Q => t σ H fun vs H1 => ∀ x dx, H1 x = none → H1 dx = none → dx ≠ x →
  sp (.ref x :: vs) (upd (upd H1 dx (.own x)) x (.ins C dx [])) (fun v H2 => v = .non ∧ Q (.ref x) H2) (E σ)
theorem pe_methS (he : PE X o ta) (cc : Cls X.K Ca) (hm : Meth X.K Ca m f) (F : FnOk X.prog X.w X.K X.mg X.base CX k f fd ps sp) (hr : Room k X.A) (hb : Binds X.K fd ps []) (hx : ∀ σ, PassesAt CX X σ (E σ)) (ha : PA X es t) (hp : es.all plainE = true) (h0 : es = [] → ∀ σ H Q, t σ H Q → Q [] H)
    (hl : es.length < 30) (hpl : plainO o = true) (hline : (apos.endLine == pos.line) = true) : PE X (.Call (.Attribute o m apos) es [] pos) (tMethS Ca m sp E ta t) := by
  cases es with
  | nil =>
    obtain ⟨pl, ht⟩ := ht_any (o := o) (m := m) (apos := apos) (pos := pos) (es := []) (env := X.env) (attr_plain hpl) rfl hline
    refine ⟨fun pins s σ H Q I h => ?_⟩
    refine PySem.W.methodCall_KW (pl := pl) (thn (he.run pins s σ H _ I h) fun u s1 ⟨x, H1, I1, rx, a, dx, fs, ex, ea, l, q⟩ => ?_) ht
    subst ex
    obtain rfl : u = Value.ref a := rx
    refine getmeth_ok I1 ea cc hm l ?_
    exact PySem.W.callWith_K0 (first := [.ref a]) I1.kIn hm.kp (run_fnS (us := [.ref a]) (vs := [.ref a]) F hr hb (hx σ) I1 (.cons rfl .nil) (h0 rfl _ _ _ q))
  | cons e es =>
    obtain ⟨h1, h2⟩ := ands (show (plainE e && es.all plainE) = true from hp)
    obtain ⟨pl, ht⟩ := ht_any (o := o) (m := m) (apos := apos) (pos := pos) (es := e :: es) (env := X.env) (attr_plain hpl) (few_okM hp hl) hline
    refine ⟨fun pins s σ H Q I h => ?_⟩
    refine PySem.W.methodCall_KW (pl := pl) (thn (he.run pins s σ H _ I h) fun u s1 ⟨x, H1, I1, rx, a, dx, fs, ex, ea, l, q⟩ => ?_) ht
    subst ex
    obtain rfl : u = Value.ref a := rx
    refine getmeth_ok I1 ea cc hm l ?_
    refine PySem.W.callWith_K (first := [.ref a]) (h₀ := X.base) I.ok.mod.kin hm.kp (thn (ha.run pos pins s1 σ H1 _ I1 q) fun us s2 ⟨vs, H2, I2, r, q2⟩ => ⟨I2.kIn, ?_⟩) (star_cons h1) (star_all h2)
    exact run_fnS (us := .ref a :: us) (vs := .ref a :: vs) F hr hb (hx σ) I2 (.cons rfl r) q2
theorem run_makeS {pins : List (PySem.Addr × Obj)} {σ : L2.St} {H : Hp} {s : Shared} {Q : VK} {us : List Value} {vs : List V} (M : Mk X.K Ca f) (F : FnOk X.prog X.w X.K X.mg X.base CX k f fd ps sp) (hr : Room (k + 1) X.A) (hb : Binds X.K fd ps [])
    (hx : PassesAt CX X σ (E σ)) (I : Inv X pins σ H s) (r : Vals vs us)
    (h : ∀ x dx, H x = none → H dx = none → dx ≠ x → sp (.ref x :: vs) (upd (upd H dx (.own x)) x (.ins Ca dx [])) (fun v H2 => v = .non ∧ Q (.ref x) H2) (E σ)) :
    wpAny (model X.prog X.w) X.A (call (.ref Ca) us) (EP X pins σ Q) X.xe s := by
  have hq := h (s.heap.objs.size + 1) s.heap.objs.size (I.hok.fresh (Nat.le_succ _)) (I.hok.fresh (Nat.le_refl _)) (Nat.ne_of_lt (Nat.lt_succ_self _))
  have I2 := Inv.made (C := Ca) I
  have r2 : Vals (V.ref (s.heap.objs.size + 1) :: vs) (Value.ref (s.heap.objs.size + 1) :: us) := .cons rfl r
  have hl : (Value.ref (s.heap.objs.size + 1) :: us).length = ps.length := by
    have e := r2.length
    rw [F.len _ _ _ _ hq] at e
    exact e.symm
  have b := hb (s := { s with heap := (s.heap.push PySem.W.emptyDict).push (PySem.W.instObj Ca s.heap.objs.size) }) (Value.ref (s.heap.objs.size + 1) :: us) I2.kIn (by rw [List.append_nil]; exact hl)
  rw [List.append_nil] at b
  refine wpAny_call (make_map (f := f) I.kIn M.makes M.init (beq_iff_eq.mp M.fn) (codeAny_mono (F.run _ X.stack _ _ ⟨Value.ref (s.heap.objs.size + 1) :: us, []⟩ (Value.ref (s.heap.objs.size + 1) :: us) _ _ (E σ) (hr.make Ca us [])
    (I2.env0.make Ca us []) b r2 hq) fun r s' hq' => ?_))
  cases r with
  | error e => exact hx pins _ _ e s' I2 hq'
  | ok fl =>
    cases fl with
    | ret u =>
      obtain ⟨v, H', I3, rv, ev, q3⟩ := I2.after hq'
      subst ev
      exact ⟨rv, ⟨V.ref (s.heap.objs.size + 1), H', I3, rfl, q3⟩⟩
    | next => exact False.elim hq'
    | brk => exact False.elim hq'
    | cont => exact False.elim hq'
theorem pe_makeS (M : Mk X.K Ca f) (F : FnOk X.prog X.w X.K X.mg X.base CX k f fd ps sp) (hr : Room (k + 1) X.A) (hg : Gl X x) (hm : X.mg x = some (.ref Ca)) (hb : Binds X.K fd ps []) (hx : ∀ σ, PassesAt CX X σ (E σ)) (hdb : (x == ("__debug__" : Str)) = false)
    (ha : PA X es t) (hp : es.all plainE = true) (h0 : es = [] → ∀ σ H Q, t σ H Q → Q [] H) : PE X (.Call (.Name x p) es [] pos) (tMakeS Ca sp E t) := by
  cases es with
  | nil => exact ⟨fun pins s σ H Q I h => wpAny_Call_Name_kw (ld_glob I hg hm (PySem.W.callWith_K0 I.kIn M.kp (run_makeS (us := []) M F hr hb (hx σ) I .nil (h0 rfl _ _ _ h))) hdb)⟩
  | cons e es =>
    obtain ⟨h1, h2⟩ := ands (show (plainE e && es.all plainE) = true from hp)
    refine ⟨fun pins s σ H Q I h => ?_⟩
    refine wpAny_Call_Name_kw (ld_glob I hg hm ?_ hdb)
    refine PySem.W.callWith_K (h₀ := X.base) I.ok.mod.kin M.kp (thn (ha.run pos pins s σ H _ I h) fun us s1 ⟨vs, H1, I1, r, q⟩ => ⟨I1.kIn, ?_⟩) (star_cons h1) (star_all h2)
    exact run_makeS M F hr hb (hx σ) I1 r q
/-! ### by values -/
/-- the names of fields and methods are different -/
def NmI (c : Cc) (n : Nat) : Prop := ∀ (x y : Nat), c.nm x = c.nm y → x < n → x = y
theorem fld_get {n : Nat} (hn : NmI c n) {x : Nat} (hx : x < n) : ∀ {fs : List (Nat × D)} {vfs : List (Str × V)}, FldR c H fs vfs → (∀ d, fs.lookup x = some d → ∃ v, vfs.lookup (c.nm x) = some v ∧ RelP c H d v) ∧ (fs.lookup x = none → vfs.lookup (c.nm x) = none)
  | _, _, .nil => ⟨fun d h => (by cases h), fun _ => rfl⟩
  | (y, e) :: fs, (z, v) :: vfs, .cons ⟨h1, h2⟩ t => by
    have h1 : z = c.nm y := h1
    subst h1
    have ih := fld_get hn hx t
    by_cases q : x = y
    · subst q
      have e1 : ((x, e) :: fs).lookup x = some e := by simp [List.lookup]
      have e2 : ((c.nm x, v) :: vfs).lookup (c.nm x) = some v := by simp [List.lookup]
      rw [e1, e2]
      exact ⟨fun d h => ⟨v, rfl, by cases h; exact h2⟩, fun h => by cases h⟩
    · have b1 : (x == y) = false := beq_eq_false_iff_ne.mpr q
      have b2 : (c.nm x == c.nm y) = false := beq_eq_false_iff_ne.mpr fun z => q (hn x y z hx)
      have e1 : ((y, e) :: fs).lookup x = fs.lookup x := by simp [List.lookup, b1]
      have e2 : ((c.nm y, v) :: vfs).lookup (c.nm x) = vfs.lookup (c.nm x) := by simp [List.lookup, b2]
      rw [e1, e2]
      exact ih
theorem fld_put {n : Nat} (hn : NmI c n) {x : Nat} (hx : x < n) {d : D} {v : V} (r : RelP c H d v) : ∀ {fs : List (Nat × D)} {vfs : List (Str × V)}, FldR c H fs vfs → FldR c H (putN x d fs) (putF (c.nm x) v vfs)
  | _, _, .nil => .cons ⟨rfl, r⟩ .nil
  | (y, e) :: fs, (z, u) :: vfs, .cons ⟨h1, h2⟩ t => by
    have h1 : z = c.nm y := h1
    subst h1
    show FldR c H (if y = x then (y, d) :: fs else (y, e) :: putN x d fs) (if c.nm y = c.nm x then (c.nm y, v) :: vfs else (c.nm y, u) :: putF (c.nm x) v vfs)
    by_cases q : y = x
    · subst q
      rw [if_pos rfl, if_pos rfl]
      exact .cons ⟨rfl, r⟩ t
    · rw [if_neg q, if_neg fun z => q (hn x y z.symm hx).symm]
      exact .cons ⟨rfl, h2⟩ (fld_put hn hx r t)
theorem fld_len : ∀ {fs : List (Nat × D)} {vfs : List (Str × V)}, FldR c H fs vfs → fs.length = vfs.length
  | _, _, .nil => rfl
  | _, _, .cons _ t => congrArg (· + 1) (fld_len t)
theorem ref_T {p : PySem.Addr} {v : V} (t : RepT c (.ref p) v σ M τ H) : v = .ref p := by
  obtain ⟨C, R, t⟩ := t
  have := t.rel (fun i z => nomatch z) rfl
  cases this
  rfl
theorem Rep.box (R : Rep c σ M τ H) {p : PySem.Addr} {o : MO} (h : M p = some o) : BoxR c H p o := let ⟨C, R⟩ := R; R.boxes p o (R.sub p o h)
/-- e.x -/
def vFld (ok : Nat → Bool) (tA : KE) (x : Nat) : KE := fun E σ M Q => tA E σ M fun o σ M => ∃ p C fs d, o = .ref p ∧ M p = some (.ins C fs) ∧ ok C = true ∧ fs.lookup x = some d ∧ Q d σ M
theorem lift_fld {ok : Nat → Bool} {n x : Nat} (hn : NmI c n) (hx : x < n) (hc : ∀ C, ok C = true → Cls X.K (c.cA C) ∧ NoAttr X.K (c.cA C) (c.nm x)) (h : PE X e (tFld X.K (LE c W tA) (c.nm x))) : PE X e (LE c W (vFld ok tA x)) :=
  pe_imp h fun τ H Q ⟨σ, M, E, Qd, R, ht, hx', q⟩ => ⟨σ, M, E, _, R, ht, hx', fun d v σ1 M1 H1 t1 k1 ⟨p, C, fs, dd, ed, em, eo, el, h1⟩ => by
    subst ed
    have ev := ref_T t1
    subst ev
    obtain ⟨dx, vfs, e1, r, e2⟩ := t1.rep.box em
    obtain ⟨v, e3, rv⟩ := (fld_get hn hx r).1 dd el
    obtain ⟨c1, c2⟩ := hc C eo
    refine ⟨p, _, dx, vfs, v, rfl, e1, c1, c2, e3, ?_⟩
    obtain ⟨C0, R1, _⟩ := t1
    obtain ⟨z1, z2⟩ := rel_plain rv
    exact q dd v σ1 M1 H1 (change_T ⟨C0, R1⟩ z1 z2 rv) k1 h1⟩
/-- o.m(..) -/
def vMth (lk : Option Nat) (G : FSem) (C m : Nat) (tA : KE) (tL : KL) : KE := fun E σ M Q => tA E σ M fun x σ M => ∃ p fs f, x = .ref p ∧ M p = some (.ins C fs) ∧ fs.lookup m = none ∧ lk = some f ∧
  tL E σ M fun ds σ M => G f (.ref p :: ds) M (fun d M' => Q d σ M') fun x M' => E x σ M'
theorem lift_mth {c0 : Cc} (s : Same c0 c) {lk : Option Nat} {f : Nat} {G : FSem} {Ci n mi : Nat} (hn : NmI c n) (hx : mi < n) (hf : lk = some f) (h : PE X e (tMethS (c.cA Ci) (c.nm mi) (spG c0 (G f)) (WE W) (LE c W tA) (LL c W tL))) : PE X e (LE c W (vMth lk G Ci mi tA tL)) :=
  pe_imp h fun τ H Q ⟨σ, M, E, Qd, R, ht, hx', q⟩ => ⟨σ, M, E, _, R, ht, hx', fun d v σ1 M1 H1 t1 k1 ⟨p, fs, f', ed, em, el, ef, h1⟩ => by
    subst ed
    rw [hf] at ef
    cases ef
    have ev := ref_T t1
    subst ev
    obtain ⟨dx, vfs, e1, r, e2⟩ := t1.rep.box em
    refine ⟨p, dx, vfs, rfl, e1, (fld_get hn hx r).2 el, σ1, M1, E, _, t1.rep, h1, hx', fun ds vs σ2 M2 H2 R2 r2 k2 h2 => ?_⟩
    exact call_spG s R2 (.cons (.ref p) r2) h2 hx' fun d v M' H' t k hq => q d v σ2 M' H' t (k1.trans (k2.trans k)) hq⟩
/-- a new instance -/
def vNew (G : List D → Mem → (D → Mem → Prop) → (Exn → Mem → Prop) → Prop) (C : Nat) (tL : KL) : KE := fun E σ M Q => tL E σ M fun ds σ M => ∀ p, M p = none → G (.ref p :: ds) (mset M p (.ins C [])) (fun d M' => d = .non ∧ Q (.ref p) σ M') fun x M' => E x σ M'
theorem RepC.made (R : RepC c C σ M τ H) {x dx : PySem.Addr} {Ci : Nat} (hx : H x = none) (hd : H dx = none) (ne : dx ≠ x) : Rep c σ (mset M x (.ins Ci [])) τ (upd (upd H dx (.own x)) x (.ins (c.cA Ci) dx [])) := by
  have hx1 : upd H dx (.own x) x = none := by rw [upd_ne (fun z => ne z.symm)]; exact hx
  have R1 := (R.alloc (o := .own x) hd).alloc (o := .ins (c.cA Ci) dx []) hx1
  have hC := boxes_some R.boxes hx
  have hb : BoxR c (upd (upd H dx (.own x)) x (.ins (c.cA Ci) dx [])) x (.ins Ci []) := ⟨dx, [], upd_same, .nil, by rw [upd_ne ne, upd_same]⟩
  have R2 := R1.put hC hb (R.h0 hx)
  refine ⟨_, R2.share mset_same (R.noM hx) fun i e hi oe z => ?_⟩
  obtain ⟨v, h1, h2⟩ := R.slots i e hi
  rw [z] at h1
  cases h1
  rw [own_asMO] at oe
  obtain ⟨b, hb'⟩ := Option.isSome_iff_exists.mp oe
  unfold SlotR at h2
  rw [hb'] at h2
  obtain ⟨a, e1, e2, _⟩ := h2
  cases e1
  rw [hC] at e2; cases e2
theorem lift_new {c0 : Cc} (s : Same c0 c) {G : List D → Mem → (D → Mem → Prop) → (Exn → Mem → Prop) → Prop} {Ci : Nat} (h : PE X e (tMakeS (c.cA Ci) (spG c0 G) (WE W) (LL c W tL))) : PE X e (LE c W (vNew G Ci tL)) :=
  pe_imp h fun τ H Q ⟨σ, M, E, Qd, R, ht, hx', q⟩ => ⟨σ, M, E, _, R, ht, hx', fun ds vs σ1 M1 H1 R1 r1 k1 h1 x dx hx hd ne => by
    obtain ⟨C, R1⟩ := R1
    have R2 := R1.made (Ci := Ci) hx hd ne
    have hx1 : upd H1 dx (.own x) x = none := by rw [upd_ne (fun z => ne z.symm)]; exact hx
    have k2 : Keeps H1 (upd (upd H1 dx (.own x)) x (.ins (c.cA Ci) dx [])) := (keeps_new hd).trans (keeps_new hx1)
    refine call_spG (Qd := fun d σ M => d = .non ∧ Qd (.ref x) σ M) s R2 (.cons (.ref x) (r1.keep k2)) (h1 x (R1.noM hx)) hx' fun d v M' H' t k hq => ?_
    obtain ⟨e1, hq⟩ := hq
    subst e1
    obtain ⟨C', R', t'⟩ := t
    have rv := t'.rel (fun i z => nomatch z) rfl
    cases rv
    exact ⟨rfl, q (.ref x) (.ref x) σ1 M' H' (change_T ⟨C', R'⟩ rfl (fun i z => nomatch z) (.ref x)) (k1.trans (k2.trans k)) hq⟩⟩
/-- a field is written -/
theorem RepC.writeI (R : RepC c C σ M τ H) {a dx : PySem.Addr} {Ci : Nat} {fs fs' : List (Nat × D)} {vfs vfs' : List (Str × V)} (hM : M a = some (.ins Ci fs)) (h1 : H a = some (.ins (c.cA Ci) dx vfs)) (ho : H dx = some (.own a)) (r : FldR c H fs' vfs') :
    RepC c (mset C a (.ins Ci fs')) σ (mset M a (.ins Ci fs')) τ (upd H a (.ins (c.cA Ci) dx vfs')) ∧ Keeps H (upd H a (.ins (c.cA Ci) dx vfs')) := by
  have k : Keeps H (upd H a (.ins (c.cA Ci) dx vfs')) := keeps_upd fun u e => by rw [h1] at e; cases e; exact fun z => z
  have hC := R.sub a _ hM
  have hne : dx ≠ a := fun z => by rw [z, h1] at ho; cases ho
  refine ⟨⟨R.len, fun b q e => ?_, fun b q e => ?_, fun i d e => ?_, R.sep, fun b q e m => ?_, fun b e => ?_, fun b e => ?_⟩, k⟩
  · by_cases z : b = a
    · subst z; rw [mset_same] at e ⊢; exact e
    · rw [mset_ne z] at e ⊢; exact R.sub b q e
  · by_cases z : b = a
    · subst z; rw [mset_same] at e; cases e
      exact ⟨dx, vfs', upd_same, FldR.keep k r, by rw [upd_ne hne]; exact ho⟩
    · rw [mset_ne z] at e
      refine (R.boxes b q e).keep k (upd_ne z) fun dy hd => ?_
      have ne : dy ≠ a := fun y => by rw [y, h1] at hd; cases hd
      rw [upd_ne ne]; exact hd
  · obtain ⟨v, g1, g2⟩ := R.slots i d e
    refine ⟨v, g1, ?_⟩
    cases hd : asMO d with
    | none =>
      unfold SlotR at g2 ⊢
      rw [hd] at g2 ⊢
      exact RelP.keep k g2
    | some q =>
      unfold SlotR at g2 ⊢
      rw [hd] at g2 ⊢
      obtain ⟨p, rfl, g3, g4, g5⟩ := g2
      have ne : p ≠ a := fun y => by rw [y, hM] at g4; cases g4
      exact ⟨p, rfl, by rw [mset_ne ne]; exact g3, by rw [mset_ne ne]; exact g4, g5⟩
  · by_cases z : b = a
    · subst z
      rcases R.new b (by rw [hC]; exact fun z => nomatch z) with z | z
      · exact absurd m z
      · rw [z] at e; cases e
    · rw [upd_ne z]; exact R.old b q e m
  · by_cases z : b = a
    · subst z; rw [upd_same]; exact fun z => nomatch z
    · rw [upd_ne z]; exact R.there b e
  · by_cases z : b = a
    · subst z; exact R.new b (by rw [hC]; exact fun z => nomatch z)
    · rw [mset_ne z] at e; exact R.new b e
/-- a.x = e -/
def vSetF (ok : Nat → Bool) (tA : KE) (x : Nat) (tC : KE) : EndsD → Ks := fun D σ M => tC D.ex σ M fun v σ M => boxd v σ M fun v σ M => tA D.ex σ M fun o σ M => ∃ p C fs, o = .ref p ∧ M p = some (.ins C fs) ∧ ok C = true ∧ fs.length < 100 ∧ D.nx σ (mset M p (.ins C (putN x v fs)))
end
end Pv

/-! E8n: tables of the module; replace. -/
namespace Pv
open PySem PySem.Spec PyProof.Rows L2
open PySem.W (Frag)
section
variable {c : Cc} {C : Mem} {σ : St} {M M' : Mem} {τ : L2.St} {H H' : Hp} {X : Cx} {W : WX} {a : PySem.Addr} {es : Array DictEntry} {n : Nat} {kvs : List (List Nat × D)} {tA tB : KE} {e : Expr}
theorem repTs {s : List Nat} {v : V} (h : RepT c (.str s) v σ M τ H) : v = .str (strOf s) := by
  obtain ⟨C, R, t⟩ := h
  have := t.rel (fun i z => nomatch z) rfl
  cases this
  rfl
def rKd (K : Frag) (a : PySem.Addr) (n : Bool) : R2 := fun x y H Q => ∃ z r, x = .str z ∧ y = .ref a ∧ PySem.W.nsIn K a z = some r ∧ Q (.bl (r.isSome != n)) H
theorem or_kd (D : KDict X.K X.w a es n) {b : Bool} : OpR X (compareOp (if b = true then .NotIn else .In)) (rKd X.K a b) := by
  cases b with
  | true =>
    intro pins s σ H x y v u Q I rx ry ⟨z, r, e1, e2, e3, q⟩
    exact op_notIn_kd D pins s σ H x y v u Q I rx ry ⟨z, r, e1, e2, e3, by rw [← pos_bang]; exact q⟩
  | false =>
    intro pins s σ H x y v u Q I rx ry ⟨z, r, e1, e2, e3, q⟩
    exact op_in_kd D pins s σ H x y v u Q I rx ry ⟨z, r, e1, e2, e3, by rw [← pos_same (v := r.isSome)]; exact q⟩
def vTin (n : Bool) (tab : Option (List (List Nat × D))) (tA : KE) : KE := fun E σ M Q => tA E σ M fun x σ M => ∃ s kvs, x = .str s ∧ tab = some kvs ∧ Q (.bl ((kvs.lookup s).isSome != n)) σ M
theorem tab_in (t : TabR X.K a kvs) (s : List Nat) : ∃ r, PySem.W.nsIn X.K a (strOf s) = some r ∧ r.isSome = (kvs.lookup s).isSome := by
  have := t s
  cases h : kvs.lookup s with
  | some d =>
    rw [h] at this
    obtain ⟨u, v, e, _⟩ := this
    exact ⟨_, e, rfl⟩
  | none =>
    rw [h] at this
    exact ⟨_, this, rfl⟩
theorem lift_tin {b : Bool} {tab : Option (List (List Nat × D))} (ht : tab = some kvs) (t : TabR X.K a kvs) (h : PE X e (tOp (rKd X.K a b) (LE c W tA) (L2.tC (.ref a)))) : PE X e (LE c W (vTin b tab tA)) :=
  pe_imp h fun τ H Q ⟨σ, M, E, Qd, R, hh, x, q⟩ => ⟨σ, M, E, _, R, hh, x, fun d v σ1 M1 H1 R1 k1 ⟨s, kvs', e1, e2, hq⟩ => by
    subst e1
    rw [ht] at e2
    cases e2
    obtain ⟨r, e3, e4⟩ := tab_in t s
    rw [← e4] at hq
    exact ⟨strOf s, r, repTs R1, rfl, e3, let ⟨t, k⟩ := R1.rep.newT (NewR.bl (b := _)); q _ _ _ _ _ t (k1.trans k) hq⟩⟩
theorem lift_tinT {b : Bool} {tab : Option (List (List Nat × D))} (ht : tab = some kvs) (t : TabR X.K a kvs) (h : PT X e (tTest (tOp (rKd X.K a b) (LE c W tA) (L2.tC (.ref a))))) : PT X e (LT c W (asT (vTin b tab tA))) :=
  pt_imp h fun τ H Q ⟨σ, M, E, Qd, R, hh, x, q⟩ => ⟨σ, M, E, _, R, hh, x, fun d v σ1 M1 H1 R1 k1 ⟨s, kvs', e1, e2, hq⟩ => by
    subst e1
    rw [ht] at e2
    cases e2
    obtain ⟨r, e3, e4⟩ := tab_in t s
    rw [← e4] at hq
    exact ⟨strOf s, r, repTs R1, rfl, e3, _, rfl, q _ _ _ _ R1.rep k1 (tru_bl hq)⟩⟩
/-- TABLE[a] -/
def rKi (K : Frag) (a : PySem.Addr) : R2 := fun x y H Q => ∃ z u0 v0, x = .ref a ∧ y = .str z ∧ PySem.W.nsIn K a z = some (some u0) ∧ RelV v0 u0 ∧ Q v0 H
theorem ix_kd (D : KDict X.K X.w a es n) : IxR X (rKi X.K a) := by
  intro value slice pins s σ H x y v w Q I rx ry h hs
  have h' := h
  obtain ⟨z, u0, v0, rfl, rfl, e, r, q⟩ := h
  cases rx
  exact tail_any (kd_type D I) PySem.F.slot_dict_getitem.lookup (op_item_kd D pins s σ H (.ref a) (.str z) (.ref a) w Q I (show RelV (V.ref a) (Value.ref a) from rfl) ry ⟨z, u0, v0, rfl, rfl, e, r, q⟩) hs
def vTix (tab : Option (List (List Nat × D))) (tA : KE) : KE := fun E σ M Q => tA E σ M fun x σ M => ∃ s kvs d, x = .str s ∧ tab = some kvs ∧ kvs.lookup s = some d ∧ Q d σ M
theorem lift_tix {tab : Option (List (List Nat × D))} (ht : tab = some kvs) (t : TabR X.K a kvs) (h : PE X e (tOp (rKi X.K a) (L2.tC (.ref a)) (LE c W tA))) : PE X e (LE c W (vTix tab tA)) :=
  pe_imp h fun τ H Q ⟨σ, M, E, Qd, R, hh, x, q⟩ => ⟨σ, M, E, _, R, hh, x, fun d v σ1 M1 H1 R1 k1 ⟨s, kvs', d', e1, e2, e3, hq⟩ => by
    subst e1
    rw [ht] at e2
    cases e2
    have := t s
    rw [e3] at this
    obtain ⟨u, v', f1, f2, f3, f4, f5⟩ := this
    exact ⟨strOf s, u, v', rfl, repTs R1, f1, f2, q _ _ _ _ _ (change_T R1.rep f3 f4 (f5 c H1)) k1 hq⟩⟩
/-- TABLE.get(a, b) -/
def rKg (K : Frag) (a : PySem.Addr) : V → List V → Hp → VK → Prop := fun x xs H Q => ∃ z d r v0, x = .ref a ∧ xs = [.str z, d] ∧ PySem.W.nsIn K a z = some r ∧ (match r with
  | some u => RelV v0 u
  | none => v0 = d) ∧ Q v0 H
theorem mt_kdget (D : KDict X.K X.w a es n) : MtR X "dict.get" (rKg X.K a) := by
  intro pins s σ H x xs v us Q I rx rs h
  obtain ⟨z, d, r, v0, rfl, rfl, e, hr, q⟩ := h
  cases rx
  match us, rs with
  | [w1, dd], .cons r1 (.cons r2 .nil) =>
    obtain ⟨t, rfl⟩ := r1
    have mp := PySem.W.mapOf_K (prog := X.prog) (w := X.w) I.kIn D.at_ D.lit
    refine call_meetsIn PySem.F.slot_dict_get (kd_type D I) PySem.F.entry_dict_get (PySem.F.args_dict_get_3 _ _ _) (meets_dict_get_default (PySem.strKind X.prog X.w) a (PySem.strKind_is X.prog X.w z t) D.low dd) ⟨_, mp, ?_⟩
    rw [PySem.W.find_K D.at_ e]
    cases r with
    | some u => exact ⟨v0, H, I.tok _, hr, q⟩
    | none =>
      have hr : v0 = d := hr
      subst hr
      exact ⟨v0, H, I.tok _, r2, q⟩
theorem ty_kd (D : KDict X.K X.w a es n) : TyOk X "dict" (fun x _ => x = .ref a) := by
  intro pins σ H s x v I r e
  subst e
  cases r
  refine ⟨kd_type D I, fun b eb => ?_⟩
  cases eb
  exact ⟨_, I.kIn _ _ D.at_, rfl⟩
def vTget (tab : Option (List (List Nat × D))) (tA tB : KE) : KE := fun E σ M Q => tA E σ M fun x σ M => frz x σ M fun x σ M => tB E σ M fun y σ M => frz y σ M fun y σ M => ∃ s kvs, x = .str s ∧ tab = some kvs ∧ Q ((kvs.lookup s).getD y) σ M
theorem lift_tget {tab : Option (List (List Nat × D))} (ht : tab = some kvs) (t : TabR X.K a kvs) (h : PE X e (tMG (fun x _ => x = .ref a) (rKg X.K a) (L2.tC (.ref a)) (LL c W (vCons tA (vCons tB vNil))))) : PE X e (LE c W (vTget tab tA tB)) :=
  pe_imp h fun τ H Q ⟨σ, M, E, Qd, R, hh, x, q⟩ => ⟨rfl, σ, M, E, (fun xs σ M => match xs with
    | [x, y] => ∃ s kvs, x = .str s ∧ tab = some kvs ∧ Qd ((kvs.lookup s).getD y) σ M
    | _ => False), R, hh, x, fun ds vs σ1 M1 H1 R1 r1 k1 h1 => by
    match ds, vs, r1, h1 with
    | [d1, d2], [w1, v2], .cons p1 (.cons p2 .nil), ⟨s, kvs', e1, e2, hq⟩ =>
      subst e1
      rw [ht] at e2
      cases e2
      cases p1
      have := t s
      cases hl : kvs.lookup s with
      | some d =>
        rw [hl] at this hq
        obtain ⟨u, v', f1, f2, f3, f4, f5⟩ := this
        exact ⟨strOf s, v2, some u, v', rfl, rfl, f1, f2, q _ _ _ _ _ (change_T R1 f3 f4 (f5 c H1)) k1 hq⟩
      | none =>
        rw [hl] at this hq
        obtain ⟨z1, z2⟩ := rel_plain p2
        exact ⟨strOf s, v2, none, v2, rfl, rfl, this, rfl, q _ _ _ _ _ (change_T R1 z1 z2 p2) k1 hq⟩⟩
/-! ### replace of written texts -/
theorem replL_eq (x y z : List Nat) : Txt.replace (strOf x) (strOf y) (strOf z) = strOf (replL x y z) := by
  unfold replL strOf
  simp
theorem replL_len (x y z : List Nat) : (replL x y z).length ≤ x.length + (x.length + 1) * z.length := by
  have := TK.replace_len (strOf x) (strOf y) (strOf z)
  rw [replL_eq, strOf_len, strOf_len, strOf_len] at this
  exact this
/-- a[i].replace(y, z): the number gives a token -/
def vRepl (i : Int) (y z : List Nat) (tA : KE) : KE := fun E σ M Q => tA E σ M fun x σ M => ∃ s, opIdx (vw σ M (pk x)) (.int i) = some (.str s) ∧ y ≠ z ∧ s.length + (s.length + 1) * z.length ≤ SZ ∧ Q (.str (replL s y z)) σ M
def tRepl (y z : Str) (ta : TE) : TE := fun σ H Q => ta σ H fun v H1 => ∃ x, v = .str x ∧ (y == z) = false ∧ x.length + (x.length + 1) * z.length ≤ 16777216 ∧ Q (.str (Txt.replace x y z)) H1
/-- an expression that gives out a token -/
def PE1 (X : Cx) (e : Expr) (t : TE) : Prop :=
  ∀ (pins : List (PySem.Addr × Obj)) (s : Shared) (σ : L2.St) (H : Hp) (Q : VK), Inv X pins σ H s → t σ H Q → wpAny (model X.prog X.w) X.A (eval e X.env) (fun v s1 => 1 ≤ s1.toks ∧ EP X pins σ Q v s1) X.xe s
theorem pe_repl1 {o : Expr} {y z : Str} {j k : Nat} {c0 c1 apos pos : Pos} {to : TE} (ho : PE1 X o to) (hpl : plainO o = true) (hline : (apos.endLine == pos.line) = true) :
    PE X (.Call (.Attribute o "replace" apos) [.Constant (.str y) j c0, .Constant (.str z) k c1] [] pos) (tRepl y z to) := by
  refine ⟨fun pins s σ H Q I h => ?_⟩
  refine PySem.Call_method2 (attr_plain hpl) rfl hline (wpAny_mono (ho pins s σ H _ I h) (fun v s1 q => ?_) fun _ _ z => z)
  obtain ⟨hk, v', H1, I1, r1, x, e1, hyz, hb, q⟩ := q
  subst e1
  obtain ⟨tx, e2⟩ := r1
  subst e2
  refine ⟨"str", _, PySem.F.plainAttrs_str, PySem.F.slot_str_replace, PySem.F.type_str_replace, typeIs_str _ _ _, (fun _ e => nomatch e), Calls.callWith_builtin rfl (Calls.evalArgs_plain (Calls.spliced_cons ?_))⟩
  refine Calls.Constant_str (Calls.spliced_cons (Calls.Constant_str (Calls.spliced_nil ?_)))
  exact PySem.SC.replace (by show s1.toks ≠ 0; omega) (by show s1.toks + 1 ≠ 0; omega) (by show s1.toks ≠ s1.toks + 1; omega) hyz hb fun t' k => ⟨.str (Txt.replace x y z), H1, I1.tok k, ⟨t', rfl⟩, q⟩
/-- a[i], the number gives a token -/
theorem pe1_ix {r : R2} {ea : Expr} {i : Int} {j : Nat} {p pos : Pos} {ta : TE} (hr : IxR X r) (ha : PE X ea ta) : PE1 X (.Subscript ea (.Constant (.int i) j p) pos) (tOp r ta (L2.tC (.int i))) := by
  intro pins s σ H Q I h
  refine Subscript_ (thn (ha.run pins s σ H _ I h) fun v s1 ⟨x, H1, I1, r1, q1⟩ => ?_)
  refine wpAny_Constant_int ?_
  exact wpAny_mono (wpAny_toks_of (n := 1) (by show 1 ≤ s1.toks + 1; omega) (hr ea _ pins _ σ H1 x (.int i) v _ Q (I1.tok _) r1 ⟨_, rfl⟩ q1 rfl)) (fun _ _ z => z) fun _ _ z => z.2
theorem lift_repl {i : Int} {y z : List Nat} (h : PE X e (tRepl (strOf y) (strOf z) (tOp (rD2 c opIdx) (LP c W tA) (L2.tC (.int i))))) : PE X e (LE c W (vRepl i y z tA)) :=
  pe_imp h fun τ H Q ⟨σ, M, E, Qd, R, hh, x, q⟩ => ⟨σ, M, E, _, R, hh, x, fun d v σ1 M1 H1 R1 p1 k1 ⟨s, e1, e2, e3, hq⟩ => by
    refine ⟨_, .int i, _, R1.view p1, VwR.ofP (.int i) rfl, e1, fun v' H' n => ?_⟩
    obtain ⟨t, k⟩ := R1.newT n
    have ev := repTs t
    subst ev
    have hz : (replL s y z).length ≤ SZ := Nat.le_trans (replL_len s y z) e3
    refine ⟨strOf s, rfl, ?_, by rw [strOf_len, strOf_len]; exact e3, ?_⟩
    · rw [beq_eq_false_iff_ne]
      exact fun z' => e2 (strOf_inj z')
    · rw [replL_eq]
      obtain ⟨t2, k2⟩ := t.rep.newT (NewR.str hz)
      exact q _ _ _ _ _ t2 (k1.trans (k.trans k2)) hq⟩
/-! ### "..".join(e) != o.replace(y, z) -/
def PA1 (X : Cx) (es : List Expr) (t : TA) : Prop :=
  ∀ (pos : Pos) (pins : List (PySem.Addr × Obj)) (s : Shared) (σ : L2.St) (H : Hp) (Q : List V → Hp → Prop), Inv X pins σ H s → t σ H Q → wpAny (model X.prog X.w) X.A (spliced (backTo pos (starEach es X.env))) (AP X pins σ Q) X.xe s
/-- the receiver is a written text: it gives a token -/
theorem pe1_mG {r : V → List V → Hp → VK → Prop} {sep : Str} {j : Nat} {cp apos cpos : Pos} {ea : Expr} {t : TA} (hm : MtR X "str.join" r) (ha : PA X [ea] t) (hp : plainE ea = true) (hline : (apos.endLine == cpos.line) = true) :
    PE1 X (.Call (.Attribute (.Constant (.str sep) j cp) "join" apos) [ea] [] cpos) (fun σ H Q => t σ H fun xs H2 => r (.str sep) xs H2 Q) := by
  intro pins s σ H Q I h
  have hs : starEach [ea] X.env = (false, eval ea X.env) :: starEach [] X.env := star_cons hp
  refine wpAny_Call_method_late (attr_plain rfl) (few_okM (by show (plainE ea && true) = true; rw [hp]; rfl) (by show 1 < 30; omega)) hline rfl (Calls.Constant_str ?_)
  refine ⟨"str", _, PySem.F.plainAttrs_str, PySem.F.slot_str_join, PySem.F.type_str_join, typeIs_str _ _ _, (fun _ e => nomatch e), ?_⟩
  have hA := ha.run cpos pins { s with toks := s.toks + 1 } σ H _ (I.tok _) h
  refine wpAny_mono (wpAny_toks_of (n := 1) (by show 1 ≤ s.toks + 1; omega) (?_ : wpAny (model X.prog X.w) X.A (callWith cpos (.builtin "str.join") [.str sep s.toks] (backTo cpos (starEach [ea] X.env)) (backToKw cpos (keywordEach [] X.env))) (EP X pins σ Q) X.xe { s with toks := s.toks + 1 })) (fun _ _ z => z) fun _ _ z => z.2
  rw [hs] at hA ⊢
  refine Calls.callWith_builtin (by show (false || (backTo cpos (starEach [] X.env)).any (·.1)) = false; rfl) (Calls.evalArgs_plain ?_)
  exact thn hA fun us s2 ⟨vs, H2, I2, r2, q2⟩ => hm pins s2 σ H2 (.str sep) vs _ us Q I2 ⟨_, rfl⟩ r2 q2
/-- the text, behind a token -/
def PET' (X : Cx) (e : Expr) (t : TE) : Prop :=
  ∀ (pins : List (PySem.Addr × Obj)) (s : Shared) (σ : L2.St) (H : Hp) (Q : VK), 1 ≤ s.toks → Inv X pins σ H s → t σ H Q → wpAny (model X.prog X.w) X.A (eval e X.env) (EP X pins σ Q) X.xe s
theorem pet_repl {o : Expr} {y z : Str} {j k : Nat} {c0 c1 apos pos : Pos} {to : TE} (ho : PE X o to) (hpl : plainO o = true) (hline : (apos.endLine == pos.line) = true) :
    PET' X (.Call (.Attribute o "replace" apos) [.Constant (.str y) j c0, .Constant (.str z) k c1] [] pos) (tRepl y z to) := by
  intro pins s σ H Q h0 I h
  refine PySem.Call_method2 (attr_plain hpl) rfl hline (wpAny_mono (PySem.wpAny_toks (ho.run pins s σ H _ I h)) (fun v s1 q => ?_) fun _ _ z => z.2)
  obtain ⟨hk, v', H1, I1, r1, x, e1, hyz, hb, q⟩ := q
  subst e1
  obtain ⟨tx, e2⟩ := r1
  subst e2
  refine ⟨"str", _, PySem.F.plainAttrs_str, PySem.F.slot_str_replace, PySem.F.type_str_replace, typeIs_str _ _ _, (fun _ e => nomatch e), Calls.callWith_builtin rfl (Calls.evalArgs_plain (Calls.spliced_cons ?_))⟩
  refine Calls.Constant_str (Calls.spliced_cons (Calls.Constant_str (Calls.spliced_nil ?_)))
  exact PySem.SC.replace (by show s1.toks ≠ 0; omega) (by show s1.toks + 1 ≠ 0; omega) (by show s1.toks ≠ s1.toks + 1; omega) hyz hb fun t' k => ⟨.str (Txt.replace x y z), H1, I1.tok k, ⟨t', rfl⟩, q⟩
theorem pt_cmp1 {op : CmpOp} {r : R2} {ea eb : Expr} {ta tb : TE} {pos : Pos} (ho : OpR X (compareOp op) r) (ha : PE1 X ea ta) (hb : PET' X eb tb) (hm : behindInMarks op eb = false) : PT X (.Compare ea [op] [eb] pos) (tTest (tOp r ta tb)) := by
  refine ⟨fun pins s σ H Q I h => ?_⟩
  refine wpAny_isTrue_Compare1 (wpAny_mono (ha pins s σ H _ I h) (fun v s1 ⟨hk, x, H1, I1, r1, q1⟩ => thn (hb pins s1 σ H1 _ hk I1 q1) fun u s2 ⟨y, H2, I2, r2, q2⟩ =>
    thn (ho pins s2 σ H2 x y v u _ I2 r1 r2 q2) fun c s3 ⟨z, H3, I3, r3, k, e, q3⟩ => ?_) fun _ _ z => z) hm
  subst e
  cases r3
  exact wpAny_truthy_bool ⟨H3, I3, q3⟩
def vJnr (s y z : List Nat) (tA tB : KE) : KT := fun E σ M Q => tA E σ M fun x σ M => ∃ xs ys, vw σ M (pk x) = .lst xs ∧ xs.mapM strOf? = some ys ∧ (ys.map (·.length)).sum + ys.length * s.length ≤ SZ ∧ tB E σ M fun w σ M => ∃ t, w = .str t ∧ y ≠ z ∧ t.length + (t.length + 1) * z.length ≤ SZ ∧
  Q (!decide (joinL s ys = replL t y z)) σ M
def rNeS : R2 := fun x y H Q => ∃ a b : List Nat, x = .str (strOf a) ∧ y = .str (strOf b) ∧ Q (.bl (!decide (a = b))) H
end
end Pv

/-! E8e: targets; what is walked. -/
namespace Pv
open PySem PySem.Spec PyProof.Rows L2
open PySem.W (Frag)
section
variable {c : Cc} {C : Mem} {σ : St} {M M' : Mem} {τ : L2.St} {H H' : Hp} {X : Cx} {W : WX}

/-! ### targets -/
theorem pg_imp {e : Expr} {t t' : TG} (h : PG X e t) (w : ∀ v σ H Q, t' v σ H Q → t v σ H Q) : PG X e t' := ⟨fun pins s σ H v u Q I r q => h.run pins s σ H v u Q I r (w v σ H Q q)⟩
def LG (c : Cc) (tg : Tg) : TG := fun v τ H Q => ∃ σ M d Qd, Rep c σ M τ H ∧ RelP c H d v ∧ store tg d σ M Qd ∧ ∀ σ' M' τ', Rep c σ' M' τ' H → wipe τ' (slotsOf tg) = wipe τ (slotsOf tg) → Qd σ' M' → Q τ' H
/-- what slots are wiped -/
theorem wipe_at : ∀ (is : List Nat) (τ : L2.St) (j : Nat), (wipe τ is)[j]? = if j ∈ is then τ[j]?.map (fun _ => none) else τ[j]?
  | [], τ, j => by simp [wipe]
  | i :: is, τ, j => by
    unfold wipe
    rw [List.getElem?_set, wipe_length]
    by_cases h : i = j
    · subst h
      rw [if_pos rfl, if_pos (List.mem_cons_self ..)]
      by_cases hl : i < τ.length
      · rw [if_pos hl, List.getElem?_eq_getElem hl]; rfl
      · rw [if_neg hl, List.getElem?_eq_none (by omega)]; rfl
    · rw [if_neg h, wipe_at is τ j]
      by_cases h2 : j ∈ is
      · rw [if_pos h2, if_pos (List.mem_cons_of_mem _ h2)]
      · rw [if_neg h2, if_neg (fun z => (List.mem_cons.mp z).elim (fun e => h e.symm) h2)]
theorem wipe_set {is : List Nat} {τ : L2.St} {i : Nat} {x : Option V} (h : i ∈ is) : wipe (τ.set i x) is = wipe τ is := by
  refine List.ext_getElem? fun j => ?_
  rw [wipe_at, wipe_at, List.getElem?_set]
  by_cases e : i = j
  · subst e
    rw [if_pos h, if_pos h, if_pos rfl]
    by_cases hl : i < τ.length
    · rw [if_pos hl, List.getElem?_eq_getElem hl]; rfl
    · rw [if_neg hl, List.getElem?_eq_none (by omega)]
  · rw [if_neg e]
theorem Rep.set1 (R : Rep c σ M τ H) {i : Nat} {d : D} {v : V} (r : RelP c H d v) : Rep c (σ.set i (some d)) M (τ.set i (some v)) H := by
  obtain ⟨C, R⟩ := R
  obtain ⟨z1, z2⟩ := rel_plain r
  refine ⟨C, R.setP z1 ?_⟩
  unfold SlotR
  cases q : asMO d with
  | none => exact r
  | some o => rw [own_asMO, q] at z1; cases z1
theorem lg_name {e : Expr} {i : Nat} (h : PG X e (gName i)) : PG X e (LG c (.n i)) :=
  pg_imp h fun v τ H Q ⟨σ, M, d, Qd, R, r, st, q⟩ => q _ _ _ (R.set1 r) (wipe_set (List.mem_cons_self ..)) st
def gsN : List Nat → TGs
  | [] => gNil
  | i :: is => gCons (gName i) (gsN is)
theorem gsN_ok {js : List Nat} : ∀ {is : List Nat} {ds : List D} {vs : List V} {σ : St} {τ : L2.St} {Q : L2.St → Hp → Prop}, (∀ i ∈ is, i ∈ js) → Rep c σ M τ H → RelPs c H ds vs → ds.length = is.length →
    (∀ τ', Rep c ((is.zip ds).foldl (fun τ p => τ.set p.1 (some p.2)) σ) M τ' H → wipe τ' js = wipe τ js → Q τ' H) → gsN is vs τ H Q
  | [], ds, vs, σ, τ, Q, hj, R, r, hl, q => by
    cases r with
    | nil => exact ⟨rfl, q τ R rfl⟩
    | cons _ _ => cases hl
  | i :: is, ds, vs, σ, τ, Q, hj, R, r, hl, q => by
    cases r with
    | nil => cases hl
    | cons r t => exact ⟨_, _, rfl, gsN_ok (fun j h => hj j (List.mem_cons_of_mem _ h)) (R.set1 r) t (by simpa using hl) fun τ' R' w => q τ' R' (w.trans (wipe_set (hj i (List.mem_cons_self ..))))⟩
theorem lg_tup (hK : X.K = c.K) {e : Expr} {is : List Nat} (h : PG X e (gTup X.K is.length (gsN is))) : PG X e (LG c (.t is)) :=
  pg_imp h fun v τ H Q ⟨σ, M, d, Qd, R, r, ⟨xs, e, hl, st⟩, q⟩ => by
    subst e
    cases r with
    | tup hs hz r => exact ⟨_, _, rfl, by rw [hK]; exact hs, by rw [← r.length]; exact hl, gsN_ok (fun i h => h) R r hl fun τ' R' w => q _ _ _ R' w st⟩

/-! ### what is walked -/
/-- the iterator that pyIter makes of x -/
inductive StartR (K : Frag) (H : Hp) : It → V → Prop
  | l {a : PySem.Addr} {xs : List V} : SqL K H a xs → StartR K H (Itl K a) (.ref a)
  | t {a : PySem.Addr} {xs : List V} : SqT K H a xs → StartR K H (Itt K a) (.ref a)
  | s (x : Str) : StartR K H (Its x) (.str x)
  | d {a : PySem.Addr} {o : Obj} {kvs : List (Key × V)} : H a = some (.frz o (.dK kvs)) → StartR K H (Itk a o kvs) (.ref a)
def iAny (K : Frag) (tl : TE) : TI := fun σ H R => tl σ H fun x H1 => ∃ J, StartR K H1 J x ∧ R J H1
theorem pi_any {tg l : Expr} {tl : TE} (hl : PE X l tl) : PI X tg l (iAny X.K tl) := by
  refine ⟨fun pins s σ H R I h => thn (hl.run pins s σ H _ I h) fun v s1 hx => ?_⟩
  obtain ⟨x, H1, I1, r1, J, st, q⟩ := hx
  cases st with
  | l hq =>
    cases r1
    obtain ⟨its, rv, p, hz⟩ := I1.list hq
    exact wpAny_pyIter_list p.isList (pi_one (tk := s1.toks) I1 _ (turn_list _ _) ⟨_, Heap.get?_push_size _ rfl, rfl, rfl⟩ q)
  | t hq =>
    cases r1
    obtain ⟨its, rv, p, hz⟩ := I1.tuple hq
    exact wpAny_pyIter_tuple p (pi_one (tk := s1.toks) I1 _ (turn_tuple _ _) ⟨_, Heap.get?_push_size _ rfl, rfl, rfl⟩ q)
  | s x =>
    obtain ⟨t, rfl⟩ := r1
    cases ha : x.cps.all (· < 128) with
    | false => exact wpAny_pyIter_wide ha (pi_one (tk := s1.toks) I1 _ (turn_str _ x t _ (.inr rfl)) ⟨_, Heap.get?_push_size _ rfl, rfl, rfl⟩ q)
    | true => exact wpAny_pyIter_ascii ha (pi_one (tk := s1.toks) I1 _ (turn_str _ x t _ (.inl rfl)) ⟨_, Heap.get?_push_size _ rfl, rfl, rfl⟩ q)
  | d hd =>
    cases r1
    obtain ⟨hs, hgd, hx, es, ep, vs, hdt, hsz, kv, hm⟩ := I1.frzK hd
    refine iter_keys hs hgd hx hdt (pi_one (tk := s1.toks) I1 _ (turn_keys _ hdt) ⟨_, Heap.get?_push_size _ rfl, rfl, ?_⟩ q)
    rw [hsz] <;> rfl
/-- another name of a slot still names the same object -/
def AlR (d : D) (v : V) (τ : L2.St) : Prop := match d with
  | .slot i => ∀ v', τ[i]? = some (some v') → v' = v
  | _ => True
def PwR (c : Cc) (H : Hp) (d : D) (v : V) : Prop := match d with
  | .slot _ => True
  | d => d.own = false ∧ RelP c H d v
theorem PwR.keep {d : D} {v : V} (k : Keeps H H') (h : PwR c H d v) : PwR c H' d v := by
  cases d with
  | slot i => trivial
  | _ => exact ⟨h.1, h.2.keep k⟩
theorem pw_of {d : D} {v : V} (h : PkR c σ τ H d v) : PwR c H d v := by
  cases d with
  | slot i => trivial
  | _ => exact h
theorem al_of {d : D} {v : V} (h : PkR c σ τ H d v) : AlR d v τ := by
  cases d with
  | slot i => exact fun v' e => by rw [h] at e; cases e; rfl
  | _ => trivial
theorem Rep.viewA (R : Rep c σ M τ H) {d y : D} {v : V} (h : PwR c H d v) (al : AlR d v τ) (e : vw σ M d = y) : VwR c H y v := by
  subst e
  cases d with
  | slot i =>
    obtain ⟨C, R'⟩ := id R
    cases hs : σ[i]? with
    | none => simp only [vw, hs]; trivial
    | some o =>
      cases o with
      | none => simp only [vw, hs]; trivial
      | some d =>
        obtain ⟨w, h1, _⟩ := R'.slots i d hs
        have e := al w h1
        subst e
        exact R.view h1
  | _ => exact R.view h
/-- what the walk gives, as long as ok stands -/
structure SrcR (c : Cc) (J : It) (ok : Ks) (al : L2.St → Prop) (H1 : Hp) (xs : List D) : Prop where
  len : xs.length ≤ SZ
  stop : ∀ c' i σ M τ H, Same c c' → Rep c' σ M τ H → Keeps H1 H → ok σ M → al τ → xs.length ≤ i → J.stop i H
  go : ∀ c' i σ M τ H, Same c c' → Rep c' σ M τ H → Keeps H1 H → ok σ M → al τ → i < xs.length → J.go i H
  yld : ∀ c' i σ M τ H x H', Same c c' → Rep c' σ M τ H → Keeps H1 H → ok σ M → al τ → i < xs.length → J.yld i H x H' → H' = H ∧ ∃ d, xs[i]? = some d ∧ RelP c H d x
theorem VwR.to {c' : Cc} (s : Same c c') {d : D} {v : V} (h : VwR c H d v) : VwR c' H d v := by
  cases d with
  | lst ds =>
    obtain ⟨z, a, vs, rfl, hs, r⟩ := h
    refine ⟨z, a, vs, rfl, ?_, r.to s⟩
    obtain ⟨h, m, rfl⟩ := s
    exact hs
  | dct kvs =>
    obtain ⟨a, u, rfl, rd, nd, d⟩ := h
    refine ⟨a, u, rfl, rd, nd, ?_⟩
    obtain ⟨h, m, rfl⟩ := s
    cases d with
    | I b q => exact .I b q.mv
    | B z b q => exact .B z b q.mv
    | T z b q w => exact .T z b q.mv w.mv
  | slot i => trivial
  | ol _ => exact h.elim
  | od _ => exact h.elim
  | _ => exact RelP.to s h
theorem PwR.to {c' : Cc} (s : Same c c') {d : D} {v : V} (h : PwR c H d v) : PwR c' H d v := by
  cases d with
  | slot i => trivial
  | _ => exact ⟨h.1, h.2.to s⟩
theorem src_seq {d : D} {v : V} {xs : List D} {y : D} {S : Hp → PySem.Addr → List V → Prop} {a : PySem.Addr} {J : It} (hz : xs.length ≤ SZ) (hd : PwR c H d v) (hv : v = .ref a)
    (hS : ∀ H, VwR c H y v → ∃ vs, S H a vs ∧ RelPs c H xs vs)
    (h1 : ∀ i H vs, S H a vs → vs.length ≤ i → J.stop i H) (h2 : ∀ i H vs x, S H a vs → vs[i]? = some x → J.go i H)
    (h3 : ∀ i H x H' vs, J.yld i H x H' → S H a vs → H' = H ∧ vs[i]? = some x) : SrcR c J (fun σ M => vw σ M d = y) (AlR d v) H xs := by
  refine ⟨hz, fun c' i σ M τ H2 sm R k ok al z => ?_, fun c' i σ M τ H2 sm R k ok al z => ?_, fun c' i σ M τ H2 x H' sm R k ok al z q => ?_⟩
  · obtain ⟨vs, s, r⟩ := hS H2 ((R.viewA ((hd.keep k).to sm) al ok).to sm.symm)
    exact h1 i H2 vs s (by rw [← r.length]; exact z)
  · obtain ⟨vs, s, r⟩ := hS H2 ((R.viewA ((hd.keep k).to sm) al ok).to sm.symm)
    have hl : i < vs.length := by rw [← r.length]; exact z
    exact h2 i H2 vs vs[i] s (List.getElem?_eq_getElem hl)
  · obtain ⟨vs, s, r⟩ := hS H2 ((R.viewA ((hd.keep k).to sm) al ok).to sm.symm)
    obtain ⟨e, g⟩ := h3 i H2 x H' vs q s
    obtain ⟨dx, e1, e2⟩ := r.get' g
    exact ⟨e, dx, e1, e2⟩
theorem its_size (x : List Nat) : (strOf x).cps.size = x.length := by simp [strOf]
theorem rel_str1 {x : List Nat} {i : Nat} {k : Nat} (h : (strOf x).cps[i]? = some k) : x[i]? = some k := by simpa [strOf] using h
theorem keys_len {kvs : List (D × D)} {ys : List V} (r : RelPs c H (kvs.map (·.2)) ys) : ((kvs.map fun p => keyI p.1).zip ys).length = kvs.length := by
  have e := r.length
  rw [List.length_map] at e
  rw [List.length_zip, List.length_map, ← e, Nat.min_self]
theorem src_of {d : D} {v : V} {xs : List D} {σ1 : St} {M1 : Mem} {τ1 : L2.St} (hK : X.K = c.K) (R : Rep c σ1 M1 τ1 H) (hd : PwR c H d v) (al : AlR d v τ1) (hw : walk d (vw σ1 M1 d) = some xs) :
    ∃ J, StartR X.K H J v ∧ SrcR c J (fun σ M => vw σ M d = vw σ1 M1 d) (AlR d v) H xs := by
  have hv := R.viewA hd al rfl
  generalize hy : vw σ1 M1 d = y at hv hw
  rw [hK]
  have seq : items y = some xs → ∃ J, StartR c.K H J v ∧ SrcR c J (fun σ M => vw σ M d = y) (AlR d v) H xs := fun e => by
    cases y with
    | tup ys =>
      cases e
      obtain ⟨a, vs, rfl, hs, z, r⟩ := hv.tup
      refine ⟨Itt c.K a, .t hs, src_seq (S := SqT c.K) z hd rfl (fun H2 w => ?_) (fun i H2 vs s z => ⟨vs, s, z⟩) (fun i H2 vs x s z => ⟨vs, x, s, z⟩) fun i H2 x H' vs q s => ⟨q.1, q.2 vs s⟩⟩
      obtain ⟨a', vs', e, hs', _, r'⟩ := w.tup
      cases e
      exact ⟨vs', hs', r'⟩
    | lst ys =>
      cases e
      obtain ⟨z, a, vs, rfl, hs, r⟩ := hv
      refine ⟨Itl c.K a, .l hs, src_seq (S := SqL c.K) z hd rfl (fun H2 w => ?_) (fun i H2 vs s z => ⟨vs, s, z⟩) (fun i H2 vs x s z => ⟨vs, x, s, z⟩) fun i H2 x H' vs q s => ⟨q.1, q.2 vs s⟩⟩
      obtain ⟨_, a', vs', e, hs', r'⟩ := w
      cases e
      exact ⟨vs', hs', r'⟩
    | str x =>
      cases e
      obtain ⟨rfl, z⟩ := hv.str
      refine ⟨Its (strOf x), .s _, ⟨by simpa using z, fun c' i σ M τ H2 sm R k ok al z => ?_, fun c' i σ M τ H2 sm R k ok al z => ?_, fun c' i σ M τ H2 y H' sm R k ok al z q => ?_⟩⟩
      · show (strOf x).cps.size ≤ i
        rw [its_size]; simpa using z
      · show i < (strOf x).cps.size
        rw [its_size]; simpa using z
      · obtain ⟨e, k, hk, rfl⟩ := q
        refine ⟨e, .str [k], by simp [rel_str1 hk], ?_⟩
        have := RelP.str (c := c) (H := H2) [k] (by show 1 ≤ SZ; decide)
        exact this
    | _ => cases e
  cases d with
  | dct kvs =>
    have hy' : y = .dct kvs := hy.symm
    subst hy'
    have hw : (if (kvs.all (fun p => kSort p.1 == 0) && decide (kvs.length ≤ SZ)) = true then some (kvs.map (·.1)) else none) = some xs := hw
    split at hw
    · rename_i h00
      obtain ⟨h0, hz0⟩ := ands h00
      cases hw
      have hall : ∀ {p : D × D}, p ∈ kvs → kSort p.1 = 0 := fun {p} hp => by simpa using List.all_eq_true.mp h0 p hp
      have no : ∀ {f : D → Bool} {n : Nat}, kvs ≠ [] → kvs.all (fun p => f p.1) = true → (∀ d, f d = true → kSort d = n) → n ≠ 0 → False := fun {f n} z b hf hn => by
        obtain ⟨p, ps, e⟩ := List.exists_cons_of_ne_nil z
        have hp : p ∈ kvs := by rw [e]; exact List.mem_cons_self ..
        exact hn ((hf p.1 (List.all_eq_true.mp b p hp)).symm.trans (hall hp))
      obtain ⟨_, hr⟩ := hd
      cases hr with
      | dctI hh nd b r =>
        rename_i a o ys
        refine ⟨Itk a o _, .d hh, ⟨by rw [List.length_map]; exact of_decide_eq_true hz0, fun c' i σ M τ H2 sm R k ok al z => ?_, fun c' i σ M τ H2 sm R k ok al z => ?_, fun c' i σ M τ H2 y H' sm R k ok al z q => ?_⟩⟩
        · exact ⟨k _ _ hh trivial, by rw [keys_len r]; simpa using z⟩
        · exact ⟨k _ _ hh trivial, by rw [keys_len r]; simpa using z⟩
        · obtain ⟨e, kk, w, hk, rfl⟩ := q
          refine ⟨e, ?_⟩
          obtain ⟨g1, g2⟩ := List.getElem?_zip_eq_some.mp hk
          obtain ⟨p, g3, g4⟩ := Option.map_eq_some_iff.mp ((List.getElem?_map ..).symm.trans g1)
          refine ⟨p.1, by rw [List.getElem?_map, g3]; rfl, ?_⟩
          have hp : p ∈ kvs := List.mem_of_getElem? g3
          have hi := List.all_eq_true.mp b p hp
          have g4 : keyI p.1 = kk := g4
          rw [← g4]
          obtain ⟨k1, w1⟩ := p
          cases k1 with
          | int i => exact .int i
          | str x => exact .str x (of_decide_eq_true hi)
          | _ => cases hi
      | dctB hh nd z b r => exact (no z b (fun d h => isB_sort h) (by decide)).elim
      | dctT hh nd z b q r => exact (no (f := fun d => d.isTup && d.isKey) z b (fun d h => isT_sort (ands h).1) (by decide)).elim
    · cases hw
  | _ => exact seq hw
/-- a range -/
theorem src_rng {lo : Int} {n : Nat} (hn : n ≤ SZ) : SrcR c (Itr lo n) (fun _ _ => True) (fun _ => True) H (rng lo 1 n) := by
  have hl : (rng lo 1 n).length = n := by simp [rng]
  refine ⟨by rw [hl]; exact hn, fun c' i σ M τ H2 sm R k ok al z => ?_, fun c' i σ M τ H2 sm R k ok al z => ?_, fun c' i σ M τ H2 y H' sm R k ok al z q => ?_⟩
  · rw [hl] at z; exact z
  · rw [hl] at z; exact z
  · obtain ⟨e, rfl⟩ := q
    rw [hl] at z
    refine ⟨e, .int (lo + i), ?_, .int _⟩
    simp [rng, z]
end
end Pv

/-! E8f: comprehensions. -/
namespace Pv
open PySem PySem.Spec PyProof.Rows L2
open PySem.W (Frag)
section
variable {c : Cc} {C : Mem} {σ : St} {M M' : Mem} {τ : L2.St} {H H' : Hp} {X : Cx} {W : WX}

/-! ### an object that a comprehension builds -/
def Cc.hold (c : Cc) (L : PySem.Addr) (u : HO) : Cc := { c with H0 := fun a => if a = L then some u else c.H0 a, M0 := fun a => if a = L then none else c.M0 a }
theorem same_hold {L : PySem.Addr} {u : HO} : Same c (c.hold L u) := ⟨_, _, rfl⟩
theorem hold_h0 {L a : PySem.Addr} {u : HO} (h : a ≠ L) : (c.hold L u).H0 a = c.H0 a := if_neg h
theorem hold_m0 {L a : PySem.Addr} {u : HO} (h : a ≠ L) : (c.hold L u).M0 a = c.M0 a := if_neg h
theorem SlotR.toH {L : PySem.Addr} {u : HO} {d : D} {v : V} (hC : C L = none) (h : SlotR c C M H d v) : SlotR (c.hold L u) C M H d v := by
  unfold SlotR at h ⊢
  split at h
  · obtain ⟨a, rfl, h1, h2, h3⟩ := h
    exact ⟨a, rfl, h1, h2, by rw [hold_h0 (fun z => by rw [z, hC] at h1; cases h1)]; exact h3⟩
  · exact h.to same_hold
theorem RepC.hold (R : RepC c C σ M τ H) {L : PySem.Addr} {u : HO} (hD : H L = none) : RepC (c.hold L u) C σ M τ (upd H L u) := by
  have hC := boxes_some R.boxes hD
  have R1 := R.alloc (o := u) hD
  refine ⟨R1.len, R1.sub, fun a o e => (R1.boxes a o e).to same_hold, fun i d e => ?_, R1.sep, fun a o e m => ?_, fun a e => ?_, fun a e => ?_⟩
  · obtain ⟨v, h1, h2⟩ := R1.slots i d e
    exact ⟨v, h1, h2.toH hC⟩
  · by_cases z : a = L
    · subst z
      have e : some u = some o := by simpa [Cc.hold] using e
      cases e
      exact upd_same
    · rw [hold_h0 z] at e
      rw [hold_m0 z] at m
      exact R1.old a o e m
  · by_cases z : a = L
    · subst z; rw [upd_same]; exact fun q => nomatch q
    · rw [hold_h0 z] at e
      exact R1.there a e
  · have z : a ≠ L := fun z => by rw [z, hC] at e; exact e rfl
    rw [hold_h0 z, hold_m0 z]
    exact R1.new a e
theorem RepC.holdC {L : PySem.Addr} {u : HO} (R : RepC (c.hold L u) C σ M τ H) : C L = none ∧ H L = some u := by
  have e0 : (c.hold L u).H0 L = some u := if_pos rfl
  have m0 : (c.hold L u).M0 L = none := if_pos rfl
  refine ⟨?_, R.old L u e0 m0⟩
  cases q : C L with
  | none => rfl
  | some o =>
    rcases R.new L (by rw [q]; exact fun z => nomatch z) with z | z
    · exact absurd m0 z
    · rw [e0] at z; cases z
/-- it is written -/
theorem RepC.rehold {L : PySem.Addr} {u u' : HO} (R : RepC (c.hold L u) C σ M τ H) (f : Frzb L u) : RepC (c.hold L u') C σ M τ (upd H L u') := by
  obtain ⟨hC, hD⟩ := R.holdC
  have k : Keeps H (upd H L u') := keeps_frzb hD f
  have sm : Same (c.hold L u) (c.hold L u') := same_hold.symm.trans same_hold
  refine ⟨R.len, R.sub, fun a o e => ?_, fun i d e => ?_, R.sep, fun a o e m => ?_, fun a e => ?_, fun a e => ?_⟩
  · have z : a ≠ L := fun z => by rw [z, hC] at e; cases e
    refine BoxR.to sm ((R.boxes a o e).keep k (upd_ne z) fun dx hd => ?_)
    have ne : dx ≠ L := fun z => by rw [z, hD] at hd; exact f.notOwn (Option.some.inj hd)
    rw [upd_ne ne]; exact hd
  · obtain ⟨v, h1, h2⟩ := R.slots i d e
    refine ⟨v, h1, ?_⟩
    have h2 := h2.keep k
    unfold SlotR at h2 ⊢
    split at h2
    · obtain ⟨a, rfl, g1, g2, g3⟩ := h2
      have z : a ≠ L := fun z => by rw [z, hC] at g1; cases g1
      refine ⟨a, rfl, g1, g2, ?_⟩
      rw [hold_h0 z] at g3 ⊢; exact g3
    · exact h2.to sm
  · by_cases z : a = L
    · subst z
      have e : some u' = some o := by simpa [Cc.hold] using e
      cases e
      exact upd_same
    · rw [upd_ne z]
      rw [hold_h0 z] at e
      rw [hold_m0 z] at m
      exact R.old a o (by rw [hold_h0 z]; exact e) (by rw [hold_m0 z]; exact m)
  · by_cases z : a = L
    · subst z; rw [upd_same]; exact fun q => nomatch q
    · rw [upd_ne z]
      rw [hold_h0 z] at e
      exact R.there a (by rw [hold_h0 z]; exact e)
  · have z : a ≠ L := fun z => by rw [z, hC] at e; exact e rfl
    have q := R.new a e
    rw [hold_h0 z, hold_m0 z] at q ⊢
    exact q
/-- it is done: it becomes the value in hand -/
theorem RepC.unhold {L : PySem.Addr} {u : HO} {d : D} {o : MO} (R : RepC (c.hold L u) C σ M τ H) (h0 : c.H0 L = none) (ho : asMO d = some o) (hb : BoxR c H L o) (hm : M L = none) : RepT c d (.ref L) σ M τ H := by
  obtain ⟨hC, hD⟩ := R.holdC
  have R1 : RepC c C σ M τ H := by
    refine ⟨R.len, R.sub, fun a o e => (R.boxes a o e).to same_hold.symm, fun i d e => ?_, R.sep, fun a o e m => ?_, fun a e => ?_, fun a e => ?_⟩
    · obtain ⟨v, h1, h2⟩ := R.slots i d e
      refine ⟨v, h1, ?_⟩
      unfold SlotR at h2 ⊢
      split at h2
      · obtain ⟨a, rfl, g1, g2, g3⟩ := h2
        have z : a ≠ L := fun z => by rw [z, hC] at g1; cases g1
        rw [hold_h0 z] at g3
        exact ⟨a, rfl, g1, g2, g3⟩
      · exact h2.to same_hold.symm
    · have z : a ≠ L := fun z => by rw [z, h0] at e; cases e
      exact R.old a o (by rw [hold_h0 z]; exact e) (by rw [hold_m0 z]; exact m)
    · have z : a ≠ L := fun z => by rw [z] at e; exact e h0
      exact R.there a (by rw [hold_h0 z]; exact e)
    · have z : a ≠ L := fun z => by rw [z, hC] at e; exact e rfl
      have q := R.new a e
      rw [hold_h0 z, hold_m0 z] at q
      exact q
  refine ⟨mset C L o, R1.put hC hb h0, ?_⟩
  have fin : SlotR c (mset C L o) M H d (.ref L) := by
    unfold SlotR; rw [ho]; exact ⟨L, rfl, mset_same, hm, h0⟩
  have fin2 : ∀ (i : Nat) (e : D), σ[i]? = some (some e) → e.own = true → τ[i]? ≠ some (some (.ref L)) := fun i e hi he q => by
    obtain ⟨w, h1, h2⟩ := R1.slots i e hi
    rw [q] at h1
    cases h1
    obtain ⟨b, hb'⟩ := own_asMO' he
    unfold SlotR at h2
    rw [hb'] at h2
    obtain ⟨a', e1, e2, _⟩ := h2
    cases e1
    rw [hC] at e2; cases e2
  unfold TmpR
  split
  · cases ho
  · exact ⟨fin, fun _ => fin2⟩
/-! ### the block's own slots -/
theorem RepC.wipe (R : RepC c C σ M τ H) : ∀ is : List Nat, RepC c C (wipeS σ is) M (L2.wipe τ is) H
  | [] => R
  | i :: is => (RepC.wipe R is).clear i
theorem Rep.wipe (R : Rep c σ M τ H) (is : List Nat) : Rep c (wipeS σ is) M (L2.wipe τ is) H := let ⟨C, R⟩ := R; ⟨C, R.wipe is⟩
theorem backS_at (σ0 σ : St) (j : Nat) : ∀ is : List Nat, (backS σ0 σ is)[j]? = (if j ∈ is then σ[j]?.map (fun _ => match σ0[j]? with
    | some (some d) => (match asMO d with
      | none => some d
      | some _ => none)
    | _ => none) else σ[j]?)
  | [] => by simp [backS]
  | i :: is => by
    have hlen : ∀ is : List Nat, (backS σ0 σ is).length = σ.length := fun is => by
      induction is with
      | nil => rfl
      | cons i is ih => unfold backS; rw [List.length_set, ih]
    unfold backS
    rw [List.getElem?_set, hlen]
    by_cases h : i = j
    · subst h
      rw [if_pos rfl, if_pos (List.mem_cons_self ..)]
      by_cases hl : i < σ.length
      · rw [if_pos hl, List.getElem?_eq_getElem hl]; rfl
      · rw [if_neg hl, List.getElem?_eq_none (l := σ) (by omega)]; rfl
    · rw [if_neg h, backS_at σ0 σ j is]
      by_cases h2 : j ∈ is
      · rw [if_pos h2, if_pos (List.mem_cons_of_mem _ h2)]
      · rw [if_neg h2, if_neg (fun z => (List.mem_cons.mp z).elim (fun e => h e.symm) h2)]
theorem backS_len (σ0 σ : St) : ∀ is : List Nat, (backS σ0 σ is).length = σ.length
  | [] => rfl
  | i :: is => by unfold backS; rw [List.length_set, backS_len σ0 σ is]
/-- behind the block: its own names are what they were -/
theorem RepC.back {c' : Cc} {C0 : Mem} {σ0 : St} {M0 : Mem} {H0 : Hp} (sm : Same c c') {is : List Nat} (R0 : RepC c C0 σ0 M0 τ H0) (R : RepC c' C σ M (L2.wipe τ is) H) (k : Keeps H0 H) : RepC c' C (backS σ0 σ is) M τ H := by
  have out : ∀ (i : Nat) (d : D), (backS σ0 σ is)[i]? = some (some d) → (i ∉ is ∧ σ[i]? = some (some d)) ∨ (i ∈ is ∧ σ0[i]? = some (some d) ∧ asMO d = none) := fun i d e => by
    rw [backS_at] at e
    split at e
    · rename_i hi
      refine .inr ⟨hi, ?_⟩
      obtain ⟨x, hx, e⟩ := Option.map_eq_some_iff.mp e
      split at e
      · rename_i d' e0
        split at e
        · rename_i hm
          cases e
          exact ⟨e0, hm⟩
        · cases e
      · cases e
    · exact .inl ⟨by assumption, e⟩
  have tau : ∀ (i : Nat) (v : V), i ∉ is → (L2.wipe τ is)[i]? = some (some v) → τ[i]? = some (some v) := fun i v h e => by
    rw [wipe_at, if_neg h] at e; exact e
  have hlen : σ.length = τ.length := by rw [R.len, wipe_length]
  refine R.slot (by rw [backS_len, hlen]) (fun i d e => ?_) fun i j d e v q1 q2 o1 o2 h1 h2 => ?_
  · rcases out i d e with ⟨hi, e⟩ | ⟨hi, e, hm⟩
    · obtain ⟨v, h1, h2⟩ := R.slots i d e
      exact ⟨v, tau i v hi h1, h2⟩
    · obtain ⟨v, h1, h2⟩ := R0.slots i d e
      refine ⟨v, h1, ?_⟩
      unfold SlotR at h2 ⊢
      rw [hm] at h2 ⊢
      exact (h2.keep k).to sm
  · have no : ∀ (i : Nat) (d : D), (backS σ0 σ is)[i]? = some (some d) → d.own = true → i ∉ is ∧ σ[i]? = some (some d) := fun i d e o => by
      rcases out i d e with q | ⟨_, _, hm⟩
      · exact q
      · rw [own_asMO, hm] at o; cases o
    obtain ⟨n1, e1⟩ := no i d q1 o1
    obtain ⟨n2, e2⟩ := no j e q2 o2
    refine R.sep i j d e v e1 e2 o1 o2 ?_ ?_
    · rw [wipe_at, if_neg n1]; exact h1
    · rw [wipe_at, if_neg n2]; exact h2
theorem al_wipe {d : D} {v : V} {is : List Nat} (h : AlR d v τ) : AlR d v (L2.wipe τ is) := by
  cases d with
  | slot i =>
    intro v' e
    rw [wipe_at] at e
    split at e
    · obtain ⟨x, _, z⟩ := Option.map_eq_some_iff.mp e
      cases z
    · exact h v' e
  | _ => trivial
end
end Pv

/-! E8g: comprehensions' rules. -/
namespace Pv
open PySem PySem.Spec PyProof.Rows L2
open PySem.W (Frag)
section
variable {c : Cc} {C : Mem} {σ : St} {M M' : Mem} {τ : L2.St} {H H' : Hp} {X : Cx} {W : WX}

/-! ### for any fixing of the entry -/
abbrev W0 : WX := fun _ _ _ _ => False
def exG (c : Cc) (f : Cc → TG) : TG := fun v τ H Q => ∃ c', Same c c' ∧ f c' v τ H Q
def exE (c : Cc) (f : Cc → TE) : TE := fun τ H Q => ∃ c', Same c c' ∧ f c' τ H Q
def exT (c : Cc) (f : Cc → TT) : TT := fun τ H Q => ∃ c', Same c c' ∧ f c' τ H Q
theorem pg_ex {e : Expr} {f : Cc → TG} (h : ∀ c', Same c c' → PG X e (f c')) : PG X e (exG c f) := ⟨fun pins s σ H v u Q I r ⟨c', sm, q⟩ => (h c' sm).run pins s σ H v u Q I r q⟩
theorem pe_ex {e : Expr} {f : Cc → TE} (h : ∀ c', Same c c' → PE X e (f c')) : PE X e (exE c f) := ⟨fun pins s σ H Q I ⟨c', sm, q⟩ => (h c' sm).run pins s σ H Q I q⟩
theorem pts_ex {es : List Expr} {f : Cc → TT} (h : ∀ c', Same c c' → PTs X es (f c')) : PTs X es (exT c f) := ⟨fun pins s σ H Q I ⟨c', sm, q⟩ => (h c' sm).run pins s σ H Q I q⟩
theorem pts_imp {es : List Expr} {t t' : TT} (h : PTs X es t) (w : ∀ σ H Q, t' σ H Q → t σ H Q) : PTs X es t' := ⟨fun pins s σ H Q I q => h.run pins s σ H Q I (w σ H Q q)⟩
def vYes : KT := fun _ σ M Q => Q true σ M
theorem lts_nil : PTs X [] (LT c W vYes) := pts_imp pts_nil fun τ H Q ⟨σ, M, E, Qd, R, ht, x, q⟩ => q true σ M H R (.refl _) ht
theorem lts_one {e : Expr} {t : KT} (h : PT X e (LT c W t)) : PTs X [e] (LT c W t) := pts_one h
theorem wipe_wipe (is : List Nat) : L2.wipe (L2.wipe τ is) is = L2.wipe τ is := by
  refine List.ext_getElem? fun j => ?_
  rw [wipe_at, wipe_at]
  by_cases h : j ∈ is
  · rw [if_pos h, if_pos h]
    cases τ[j]? <;> rfl
  · rw [if_neg h, if_neg h]

/-! ### a list comprehension -/
def lcStep (tg : Tg) (tt : KT) (te : KE) : D → (Option D → Ks) → Ks := fun x k τ N => store tg x τ N fun τ N => tt E0 τ N fun t τ N =>
  if t = true then te E0 τ N fun y τ N => frz y τ N fun y τ N => k (some y) (wipeS τ (slotsOf tg)) N else k none (wipeS τ (slotsOf tg)) N
theorem loop_lc {J : It} {ok : Ks} {al : L2.St → Prop} {xs : List D} {tg : Tg} {tt : KT} {te : KE} {fin : List D → Ks} {σ1 : St} {M1 : Mem} {Q : VK} (S : SrcR c J ok al H xs) (R0 : Rep c σ1 M1 τ H) (ha : al (L2.wipe τ (slotsOf tg)))
    (hw : lcEach ok (lcStep tg tt te) fin xs [] (wipeS σ1 (slotsOf tg)) M1)
    (q : ∀ L ys σ' M' H', RepT c (.ol ys) (.ref L) (backS σ1 σ' (slotsOf tg)) M' τ H' → Keeps H H' → fin ys σ' M' → Q (.ref L) H') :
    ∀ L, H L = none → ∃ Wf : Nat → Nat → Hp → Prop, (∃ m, Wf 0 m (upd H L (.lst []))) ∧ ∀ i m H, Wf i m H →
      (J.stop i H ∧ Q (.ref L) H) ∨ (J.go i H ∧ ∃ Nx : Hp → Prop, (∀ H', Nx H' → ∃ m', m' < m ∧ Wf (i + 1) m' H') ∧ ∀ x H', J.yld i H x H' → exG c (fun c' => LG c' tg) x (L2.wipe τ (slotsOf tg)) H' fun σ2 H2 => L2.wipe σ2 (slotsOf tg) = L2.wipe τ (slotsOf tg) ∧
        exT c (fun c' => LT c' W0 tt) σ2 H2 fun b H3 => if b = true then exE c (fun c' => LFz c' W0 te) σ2 H3 fun y H4 => ∃ acc, H4 L = some (.lst acc) ∧ acc.length < sizeLine ∧ Nx (upd H4 L (.lst (acc ++ [y]))) else Nx H3) := by
  intro L hL
  obtain ⟨C0, R0⟩ := R0
  have h0 := R0.h0 hL
  -- the invariant
  let V : Nat → Hp → Prop := fun i H' => ∃ σ M acc vs, Rep (c.hold L (.lst vs)) σ M (L2.wipe τ (slotsOf tg)) H' ∧ RelPs c H' acc vs ∧ acc.length ≤ i ∧ Keeps H H' ∧ lcEach ok (lcStep tg tt te) fin (xs.drop i) acc σ M
  refine ⟨fun i m H' => m = xs.length - i ∧ i ≤ xs.length ∧ V i H', ⟨xs.length, by simp, Nat.zero_le _, _, _, [], [], ⟨C0, (R0.wipe _).hold hL⟩, .nil, Nat.le_refl _, keeps_new hL, hw⟩, ?_⟩
  rintro i m H2 ⟨rfl, hi, σ, M, acc, vs, R, ra, hl, k, hw⟩
  have hvs : acc.length = vs.length := ra.length
  by_cases hlt : i < xs.length
  · rw [List.drop_eq_getElem_cons hlt] at hw
    obtain ⟨ck, hw⟩ := hw
    refine .inr ⟨S.go _ i σ M _ H2 same_hold R k ck ha hlt, V (i + 1), fun H' v => ⟨xs.length - (i + 1), by omega, rfl, hlt, v⟩, fun x H' y => ?_⟩
    obtain ⟨e, dx, e1, rx⟩ := S.yld _ i σ M _ H2 x H' same_hold R k ck ha hlt y
    subst e
    have e2 : dx = xs[i] := by rw [List.getElem?_eq_getElem hlt] at e1; exact (Option.some.inj e1).symm
    subst e2
    refine ⟨_, same_hold, σ, M, _, _, R, rx.to same_hold, hw, fun σ2 M2 τ2 R2 hwp h2 => ?_⟩
    rw [wipe_wipe] at hwp
    refine ⟨hwp, _, same_hold, σ2, M2, E0, _, R2, h2, xok_E0, fun b σ3 M3 H3 R3 k3 h3 => ?_⟩
    cases b with
    | false =>
      refine ⟨_, _, acc, vs, by rw [← hwp]; exact R3.wipe _, ra.keep k3, by omega, k.trans k3, h3⟩
    | true =>
      refine ⟨_, same_hold, σ3, M3, E0, _, R3, h3, xok_E0, fun d v σ4 M4 H4 R4 r4 k4 h4 => ?_⟩
      obtain ⟨C4, R4⟩ := R4
      have hD := R4.holdC.2
      have kD : Keeps H4 (upd H4 L (.lst (vs ++ [v]))) := keeps_frzb hD (.l _)
      refine ⟨vs, hD, ?_, _, _, acc ++ [d], vs ++ [v], by rw [← hwp]; exact ⟨C4, (R4.wipe _).rehold (.l _)⟩, ?_, ?_, ?_, h4⟩
      · have := S.len
        rw [sizeLineE]; omega
      · exact ((ra.keep (k3.trans k4)).keep kD).append (.cons ((r4.to same_hold.symm).keep kD) .nil)
      · rw [List.length_append]
        show acc.length + 1 ≤ i + 1
        omega
      · exact k.trans (k3.trans (k4.trans kD))
  · have e : i = xs.length := by omega
    subst e
    rw [List.drop_length] at hw
    obtain ⟨ck, hf⟩ := hw
    refine .inl ⟨S.stop _ _ σ M _ H2 same_hold R k ck ha (Nat.le_refl _), ?_⟩
    obtain ⟨C, R⟩ := R
    have hm : M L = none := by
      cases z : M L with
      | none => rfl
      | some b =>
        have := R.sub L b z
        rw [R.holdC.1] at this
        cases this
    refine q L acc σ M H2 ?_ k hf
    exact (RepC.back same_hold R0 R k).unhold h0 rfl ⟨by have := S.len; omega, vs, R.holdC.2, ra⟩ hm

/-! ### a dict comprehension; its keys are ints or texts -/
def dcStep (tg : Tg) (tt : KT) (ta tb : KE) : D → (Option (D × D) → Ks) → Ks := fun x k τ N => store tg x τ N fun τ N => tt E0 τ N fun t τ N =>
  if t = true then ta E0 τ N fun y τ N => frz y τ N fun y τ N => tb E0 τ N fun z τ N => frz z τ N fun z τ N => k (some (y, z)) (wipeS τ (slotsOf tg)) N else k none (wipeS τ (slotsOf tg)) N
theorem loop_dc {J : It} {ok : Ks} {al : L2.St → Prop} {xs : List D} {tg : Tg} {tt : KT} {ta tb : KE} {fin : List (D × D) → Ks} {σ1 : St} {M1 : Mem} {Q : VK} (S : SrcR c J ok al H xs) (R0 : Rep c σ1 M1 τ H) (ha : al (L2.wipe τ (slotsOf tg)))
    (hw : dcEach ok (dcStep tg tt ta tb) fin xs [] (wipeS σ1 (slotsOf tg)) M1)
    (q : ∀ L ys σ' M' H', RepT c (.od ys) (.ref L) (backS σ1 σ' (slotsOf tg)) M' τ H' → Keeps H H' → fin ys σ' M' → Q (.ref L) H') :
    ∀ L, H L = none → ∃ Wf : Nat → Nat → Hp → Prop, (∃ m, Wf 0 m (upd H L (.dK []))) ∧ ∀ i m H, Wf i m H →
      (J.stop i H ∧ Q (.ref L) H) ∨ (J.go i H ∧ ∃ Nx : Hp → Prop, (∀ H', Nx H' → ∃ m', m' < m ∧ Wf (i + 1) m' H') ∧ ∀ x H', J.yld i H x H' → exG c (fun c' => LG c' tg) x (L2.wipe τ (slotsOf tg)) H' fun σ2 H2 => L2.wipe σ2 (slotsOf tg) = L2.wipe τ (slotsOf tg) ∧
        exT c (fun c' => LT c' W0 tt) σ2 H2 fun b H3 => if b = true then exE c (fun c' => LFz c' W0 ta) σ2 H3 fun y H4 => exE c (fun c' => LFz c' W0 tb) σ2 H4 fun z H5 =>
          ∃ kvs k, y = kV k ∧ H5 L = some (.dK kvs) ∧ kvs.length < sizeLine ∧ Nx (upd H5 L (.dK (putK kvs k z))) else Nx H3) := by
  intro L hL
  obtain ⟨C0, R0⟩ := R0
  have h0 := R0.h0 hL
  let tx : List (D × D) → List V → HO := fun acc ys => .dK ((acc.map fun p => keyI p.1).zip ys)
  let V : Nat → Hp → Prop := fun i H' => ∃ σ M acc ys, Rep (c.hold L (tx acc ys)) σ M (L2.wipe τ (slotsOf tg)) H' ∧ (acc.all (fun p => isI p.1) = true ∧ (acc.map fun p => p.1.nk).Nodup) ∧ RelPs c H' (acc.map (·.2)) ys ∧ acc.length ≤ i ∧ Keeps H H' ∧
    dcEach ok (dcStep tg tt ta tb) fin (xs.drop i) acc σ M
  refine ⟨fun i m H' => m = xs.length - i ∧ i ≤ xs.length ∧ V i H', ⟨xs.length, by simp, Nat.zero_le _, _, _, [], [], ⟨C0, (R0.wipe _).hold hL⟩, ⟨rfl, .nil⟩, .nil, Nat.le_refl _, keeps_new hL, hw⟩, ?_⟩
  rintro i m H2 ⟨rfl, hi, σ, M, acc, ys, R, ⟨hI, nd⟩, ra, hl, k, hw⟩
  by_cases hlt : i < xs.length
  · rw [List.drop_eq_getElem_cons hlt] at hw
    obtain ⟨ck, hw⟩ := hw
    refine .inr ⟨S.go _ i σ M _ H2 same_hold R k ck ha hlt, V (i + 1), fun H' v => ⟨xs.length - (i + 1), by omega, rfl, hlt, v⟩, fun x H' y => ?_⟩
    obtain ⟨e, dx, e1, rx⟩ := S.yld _ i σ M _ H2 x H' same_hold R k ck ha hlt y
    subst e
    have e2 : dx = xs[i] := by rw [List.getElem?_eq_getElem hlt] at e1; exact (Option.some.inj e1).symm
    subst e2
    refine ⟨_, same_hold, σ, M, _, _, R, rx.to same_hold, hw, fun σ2 M2 τ2 R2 hwp h2 => ?_⟩
    rw [wipe_wipe] at hwp
    refine ⟨hwp, _, same_hold, σ2, M2, E0, _, R2, h2, xok_E0, fun b σ3 M3 H3 R3 k3 h3 => ?_⟩
    cases b with
    | false =>
      refine ⟨_, _, acc, ys, by rw [← hwp]; exact R3.wipe _, ⟨hI, nd⟩, ra.keep k3, by omega, k.trans k3, h3⟩
    | true =>
      refine ⟨_, same_hold, σ3, M3, E0, _, R3, h3, xok_E0, fun d v σ4 M4 H4 R4 r4 k4 h4 => ?_⟩
      refine ⟨_, same_hold, σ4, M4, E0, _, R4, h4, xok_E0, fun d5 v5 σ5 M5 H5 R5 r5 k5 h5 => ?_⟩
      obtain ⟨⟨ko, k0⟩, h5⟩ := h5
      obtain ⟨C5, R5⟩ := R5
      have hD := R5.holdC.2
      have rk := (r4.to same_hold.symm).keep k5
      have iI : isI d = true := sort0 rk k0
      have ra5 := ra.keep (k3.trans (k4.trans k5))
      obtain ⟨zs, rz, ez⟩ := putV iI (r5.to same_hold.symm) hI ra5
      have kD : Keeps H5 (upd H5 L (.dK (putK ((acc.map fun p => keyI p.1).zip ys) (keyI d) v5))) := keeps_frzb hD (.i _)
      refine ⟨_, keyI d, (kV_keyI rk iI).symm, hD, ?_, _, _, dput acc d d5, zs, ?_, ⟨dput_all hI iI, dput_nodup nd⟩, rz.keep kD, ?_, k.trans (k3.trans (k4.trans (k5.trans kD))), h5⟩
      · have := S.len
        rw [keys_len ra5, sizeLineE]; omega
      · rw [← hwp, ez]
        exact ⟨C5, (R5.wipe _).rehold (.i _)⟩
      · have := dput_length acc d d5
        omega
  · have e : i = xs.length := by omega
    subst e
    rw [List.drop_length] at hw
    obtain ⟨ck, hf⟩ := hw
    refine .inl ⟨S.stop _ _ σ M _ H2 same_hold R k ck ha (Nat.le_refl _), ?_⟩
    obtain ⟨C, R⟩ := R
    have hm : M L = none := by
      cases z : M L with
      | none => rfl
      | some b =>
        have := R.sub L b z
        rw [R.holdC.1] at this
        cases this
    refine q L acc σ M H2 ?_ k hf
    exact (RepC.back same_hold R0 R k).unhold h0 rfl ⟨_, R.holdC.2, nd, .I hI ra⟩ hm

/-! ### a dict's display; its keys are ints or texts -/
def pairV : List V → List (V × V)
  | x :: y :: r => (x, y) :: pairV r
  | _ => []
def dspT (c : Cc) : List KE → List (TE × TE)
  | a :: b :: r => (exE c fun c' => LFz c' W0 a, exE c fun c' => LFz c' W0 b) :: dspT c r
  | _ => []
def vList : List KE → KL
  | [] => vNil
  | a :: r => vCons a (vList r)
def evenL {α : Type} : List α → Bool
  | [] => true
  | [_] => false
  | _ :: _ :: r => evenL r
theorem dsp_run : ∀ {ts : List KE} {σ : St} {M : Mem} {H : Hp} {Qd : Kl} {Q : List (V × V) → Hp → Prop}, evenL ts = true → Rep c σ M τ H → vList ts E0 σ M Qd → (∀ ds vs σ' M' H', Rep c σ' M' τ H' → RelPs c H' ds vs → Keeps H H' → Qd ds σ' M' → Q (pairV vs) H') → tPairs (dspT c ts) τ H Q
  | [], σ, M, H, Qd, Q, _, R, h, q => q [] [] σ M H R .nil (.refl _) h
  | [_], σ, M, H, Qd, Q, he, R, h, q => by cases he
  | a :: b :: r, σ, M, H, Qd, Q, he, R, h, q => by
    refine ⟨c, .refl c, σ, M, E0, _, R, h, xok_E0, fun d v σ1 M1 H1 R1 r1 k1 h1 => ⟨c, .refl c, σ1, M1, E0, _, R1, h1, xok_E0, fun d2 v2 σ2 M2 H2 R2 r2 k2 h2 => ?_⟩⟩
    exact dsp_run (ts := r) he R2 h2 fun ds vs σ' M' H' R' rs k hq => q (d :: d2 :: ds) (v :: v2 :: vs) σ' M' H' R' (.cons ((r1.keep k2).keep k) (.cons (r2.keep k) rs)) (k1.trans (k2.trans k)) hq
theorem dspT_same {c' : Cc} (s : Same c c') {Q : List (V × V) → Hp → Prop} : ∀ {ts : List KE} {τ : L2.St} {H : Hp} {Q : List (V × V) → Hp → Prop}, tPairs (dspT c' ts) τ H Q → tPairs (dspT c ts) τ H Q
  | [], τ, H, Q, h => h
  | [_], τ, H, Q, h => h
  | a :: b :: r, τ, H, Q, h => by
    obtain ⟨c1, s1, σ, M, E, Qd, R, ht, x, q⟩ := h
    refine ⟨c1, s.trans s1, σ, M, E, Qd, R, ht, x, fun d v σ' M' H' R' r' k hq => ?_⟩
    obtain ⟨c2, s2, σ2, M2, E2, Qd2, R2, ht2, x2, q2⟩ := q d v σ' M' H' R' r' k hq
    exact ⟨c2, s.trans s2, σ2, M2, E2, Qd2, R2, ht2, x2, fun d v σ' M' H' R' r' k hq => dspT_same s (Q := Q) (q2 d v σ' M' H' R' r' k hq)⟩
theorem pair_keys : ∀ {ds : List D} {ps : List (D × D)} {vs : List V}, pairUp ds = some ps → ps.all (fun p => kSort p.1 == 0) = true → RelPs c H ds vs → ∃ ks : List (Key × V), pairV vs = ks.map (fun kv => (kV kv.1, kv.2)) ∧ ks.length = ps.length ∧
    Paired (fun (p : D × D) (kv : Key × V) => isI p.1 = true ∧ kv.1 = keyI p.1 ∧ RelP c H p.2 kv.2) ps ks
  | [], ps, vs, h, _, r => by
    cases r
    cases h
    exact ⟨[], rfl, rfl, .nil⟩
  | [_], ps, vs, h, _, r => by cases h
  | d :: e :: ds, ps, vs, h, ha, r => by
    obtain ⟨qs, h1, rfl⟩ := Option.map_eq_some_iff.mp (show (pairUp ds).map (fun l => (d, e) :: l) = some ps from h)
    obtain ⟨a1, a2⟩ := ands (show ((kSort d == 0) && qs.all (fun p => kSort p.1 == 0)) = true from ha)
    cases r with
    | cons r1 r =>
      cases r with
      | cons r2 r =>
        obtain ⟨ks, e1, e2, e3⟩ := pair_keys h1 a2 r
        have hI := sort0 r1 (beq_iff_eq.mp a1)
        refine ⟨(keyI d, _) :: ks, ?_, congrArg (· + 1) e2, .cons ⟨hI, rfl, r2⟩ e3⟩
        show (_, _) :: pairV _ = (kV (keyI d), _) :: ks.map _
        rw [kV_keyI r1 hI, e1]
theorem pairUp_len : ∀ {ds : List D} {ps : List (D × D)}, pairUp ds = some ps → ds.length = 2 * ps.length
  | [], ps, h => by cases h; rfl
  | [_], ps, h => by cases h
  | d :: e :: ds, ps, h => by
    obtain ⟨qs, h1, rfl⟩ := Option.map_eq_some_iff.mp (show (pairUp ds).map (fun l => (d, e) :: l) = some ps from h)
    have := pairUp_len h1
    simp only [List.length_cons]
    omega
def vDsp (ts : List KE) : KE := fun E σ M Q => vList ts E0 σ M fun xs σ M => xs.length ≤ 30 ∧ ∃ ps kvs, pairUp xs = some ps ∧ ps.all (fun p => kSort p.1 == 0) = true ∧ dputAll [] ps = some kvs ∧ Q (.od kvs) σ M
theorem lift_dsp {e : Expr} {ts : List KE} (he : evenL ts = true) (h : PE X e (tDisp (dspT c ts))) : PE X e (LE c W (vDsp ts)) :=
  pe_imp h fun τ H Q ⟨σ, M, E, Qd, R, ht, x, q⟩ p hp => by
    obtain ⟨C, R⟩ := R
    refine dspT_same (same_hold (L := p) (u := .dK [])) (Q := fun _ _ => True) (dsp_run he ⟨C, R.hold hp⟩ ht fun ds vs σ' M' H' R' rs k ⟨hl, ps, kvs, hu, ha, hd, hq⟩ => ?_)
    obtain ⟨C', R'⟩ := R'
    have hD := R'.holdC.2
    obtain ⟨ks, e1, e2, e3⟩ := pair_keys hu ha rs
    have hz := pairUp_len hu
    refine ⟨hD, ks, e1, by omega, ?_⟩
    obtain ⟨m1, m2, zs, m3, m4⟩ := mergeV (kvs := []) (ys := []) hd rfl .nil .nil e3
    have m4 : mergeK [] ks = (kvs.map fun p => keyI p.1).zip zs := m4
    rw [m4]
    have hm : M' p = none := by
      cases z : M' p with
      | none => rfl
      | some b =>
        have := R'.sub p b z
        rw [R'.holdC.1] at this
        cases this
    have kD : Keeps H' (upd H' p (.dK ((kvs.map fun p => keyI p.1).zip zs))) := keeps_frzb hD (.i _)
    exact q _ _ _ _ _ ((R'.rehold (.i _)).unhold (d := .od kvs) (o := .d kvs) (R.h0 hp) rfl ⟨_, upd_same, m2, .I m1 ((m3.keep kD).to same_hold.symm)⟩ hm) ((keeps_new hp).trans (k.trans kD)) hq
theorem lift_dsp0 {e : Expr} (h : PE X e tDNewK) : PE X e (LE c W (vDsp [])) :=
  pe_imp h fun τ H Q ⟨σ, M, E, Qd, R, ⟨_, ps, kvs, hu, _, hd, hq⟩, x, q⟩ p hp => by
    cases hu
    cases hd
    obtain ⟨t, k⟩ := R.newT (r := .od []) (v := .ref p) (H' := upd H p (.dK [])) ⟨p, _, hp, rfl, rfl, _, upd_same, .nil, .I rfl .nil⟩
    exact q _ _ _ _ _ t k hq

/-! ### as expressions -/
variable {tA : KE} {tt : KT} {te tb : KE} {tg : Tg} {e : Expr}
def vLc (ti : KE) (tg : Tg) (tt : KT) (te : KE) : KE := fun E σ M Q => ti E σ M fun d σ M => ∃ xs, walk (pk d) (vw σ M (pk d)) = some xs ∧
  lcEach (fun τ N => vw τ N (pk d) = vw σ M (pk d)) (lcStep tg tt te) (fun ys τ N => Q (.ol ys) (backS σ τ (slotsOf tg)) N) xs [] (wipeS σ (slotsOf tg)) M
def vDc (ti : KE) (tg : Tg) (tt : KT) (te tb : KE) : KE := fun E σ M Q => ti E σ M fun d σ M => ∃ xs, walk (pk d) (vw σ M (pk d)) = some xs ∧
  dcEach (fun τ N => vw τ N (pk d) = vw σ M (pk d)) (dcStep tg tt te tb) (fun ys τ N => Q (.od ys) (backS σ τ (slotsOf tg)) N) xs [] (wipeS σ (slotsOf tg)) M
theorem tlc_of (hK : X.K = c.K) {Q : VK} (h : LE c W (vLc tA tg tt te) τ H Q) : tLc (iAny X.K (LP c W tA)) (exG c fun c' => LG c' tg) (exT c fun c' => LT c' W0 tt) (exE c fun c' => LFz c' W0 te) (slotsOf tg) τ H Q := by
  obtain ⟨σ, M, E, Qd, R, ht, x, q⟩ := h
  refine ⟨σ, M, E, _, R, ht, x, fun d v σ1 M1 H1 R1 p1 k1 ⟨xs, hw, hl⟩ => ?_⟩
  obtain ⟨J, st, S⟩ := src_of hK R1 (pw_of p1) (al_of p1) hw
  exact ⟨J, st, loop_lc S R1 (al_wipe (al_of p1)) hl fun L ys σ' M' H' t k hq => q _ _ _ _ _ t (k1.trans k) hq⟩
theorem tdc_of (hK : X.K = c.K) {Q : VK} (h : LE c W (vDc tA tg tt te tb) τ H Q) : tDc (iAny X.K (LP c W tA)) (exG c fun c' => LG c' tg) (exT c fun c' => LT c' W0 tt) (exE c fun c' => LFz c' W0 te) (exE c fun c' => LFz c' W0 tb) (slotsOf tg) τ H Q := by
  obtain ⟨σ, M, E, Qd, R, ht, x, q⟩ := h
  refine ⟨σ, M, E, _, R, ht, x, fun d v σ1 M1 H1 R1 p1 k1 ⟨xs, hw, hl⟩ => ?_⟩
  obtain ⟨J, st, S⟩ := src_of hK R1 (pw_of p1) (al_of p1) hw
  exact ⟨J, st, loop_dc S R1 (al_wipe (al_of p1)) hl fun L ys σ' M' H' t k hq => q _ _ _ _ _ t (k1.trans k) hq⟩
/-- over a range -/
def vRg (lo : KO) (hi : KE) (f : Int → Int → Kx → St → Mem → Kt → Prop) : KE := fun E σ M Q => lo E σ M fun l σ M => hi E σ M fun h σ M => ∃ j, h = .int j ∧ f (l.getD 0) j E σ M Q
def vLcr (lo : KO) (hi : KE) (tg : Tg) (tt : KT) (te : KE) : KE := fun E σ M Q => lo E σ M fun l σ M => hi E σ M fun h σ M => ∃ j, h = .int j ∧ (l.getD 0).natAbs < 2 ^ 60 ∧ j.natAbs < 2 ^ 60 ∧ j - l.getD 0 ≤ SZ ∧
  lcEach (fun _ _ => True) (lcStep tg tt te) (fun ys τ N => Q (.ol ys) (backS σ τ (slotsOf tg)) N) (rng (l.getD 0) 1 (j - l.getD 0).toNat) [] (wipeS σ (slotsOf tg)) M
def vDcr (lo : KO) (hi : KE) (tg : Tg) (tt : KT) (te tb : KE) : KE := fun E σ M Q => lo E σ M fun l σ M => hi E σ M fun h σ M => ∃ j, h = .int j ∧ (l.getD 0).natAbs < 2 ^ 60 ∧ j.natAbs < 2 ^ 60 ∧ j - l.getD 0 ≤ SZ ∧
  dcEach (fun _ _ => True) (dcStep tg tt te tb) (fun ys τ N => Q (.od ys) (backS σ τ (slotsOf tg)) N) (rng (l.getD 0) 1 (j - l.getD 0).toNat) [] (wipeS σ (slotsOf tg)) M
theorem tlr1_of {Q : VK} {hi : KE} (h : LE c W (vLcr vNo hi tg tt te) τ H Q) : tLc (iRng1 (tCons (LE c W hi) tNil)) (exG c fun c' => LG c' tg) (exT c fun c' => LT c' W0 tt) (exE c fun c' => LFz c' W0 te) (slotsOf tg) τ H Q := by
  obtain ⟨σ, M, E, Qd, R, ht, x, q⟩ := h
  refine ⟨σ, M, E, _, R, ht, x, fun d v σ1 M1 H1 R1 k1 ⟨j, e, _, b1, b2, hl⟩ => ?_⟩
  subst e
  refine ⟨j, by rw [relI (C := fun _ => none) R1], by omega, by omega, ?_⟩
  have z : j.toNat ≤ SZ := by
    have : (none : Option Int).getD 0 = 0 := rfl
    omega
  have hl : lcEach (fun _ _ => True) (lcStep tg tt te) (fun ys τ N => Qd (.ol ys) (backS σ1 τ (slotsOf tg)) N) (rng 0 1 j.toNat) [] (wipeS σ1 (slotsOf tg)) M1 := by
    have e : (j - (none : Option Int).getD 0).toNat = j.toNat := by
      show (j - 0).toNat = j.toNat
      rw [Int.sub_zero]
    rw [e] at hl
    exact hl
  exact loop_lc (src_rng z) R1.rep trivial hl fun L ys σ' M' H' t k hq => q _ _ _ _ _ t (k1.trans k) hq
theorem tdr1_of {Q : VK} {hi : KE} (h : LE c W (vDcr vNo hi tg tt te tb) τ H Q) : tDc (iRng1 (tCons (LE c W hi) tNil)) (exG c fun c' => LG c' tg) (exT c fun c' => LT c' W0 tt) (exE c fun c' => LFz c' W0 te) (exE c fun c' => LFz c' W0 tb) (slotsOf tg) τ H Q := by
  obtain ⟨σ, M, E, Qd, R, ht, x, q⟩ := h
  refine ⟨σ, M, E, _, R, ht, x, fun d v σ1 M1 H1 R1 k1 ⟨j, e, _, b1, b2, hl⟩ => ?_⟩
  subst e
  refine ⟨j, by rw [relI (C := fun _ => none) R1], by omega, by omega, ?_⟩
  have z : j.toNat ≤ SZ := by
    have : (none : Option Int).getD 0 = 0 := rfl
    omega
  have hl : dcEach (fun _ _ => True) (dcStep tg tt te tb) (fun ys τ N => Qd (.od ys) (backS σ1 τ (slotsOf tg)) N) (rng 0 1 j.toNat) [] (wipeS σ1 (slotsOf tg)) M1 := by
    have e : (j - (none : Option Int).getD 0).toNat = j.toNat := by
      show (j - 0).toNat = j.toNat
      rw [Int.sub_zero]
    rw [e] at hl
    exact hl
  exact loop_dc (src_rng z) R1.rep trivial hl fun L ys σ' M' H' t k hq => q _ _ _ _ _ t (k1.trans k) hq
theorem tlr2_of {Q : VK} {lo hi : KE} (h : LE c W (vLcr (vSome lo) hi tg tt te) τ H Q) : tLc (iRng2 (tCons (LE c W lo) (tCons (LE c W hi) tNil))) (exG c fun c' => LG c' tg) (exT c fun c' => LT c' W0 tt) (exE c fun c' => LFz c' W0 te) (slotsOf tg) τ H Q := by
  obtain ⟨σ, M, E, Qd, R, ht, x, q⟩ := h
  refine ⟨σ, M, E, _, R, ht, x, fun d v σ1 M1 H1 R1 k1 ⟨i, ei, h1⟩ => ⟨σ1, M1, E, _, R1.rep, h1, x, fun d2 v2 σ2 M2 H2 R2 k2 ⟨j, e, b0, b1, b2, hl⟩ => ?_⟩⟩
  subst e ei
  have b0 : i.natAbs < 2 ^ 60 := b0
  have b2 : j - i ≤ SZ := b2
  refine ⟨i, j, by rw [relI (C := fun _ => none) R1, relI (C := fun _ => none) R2], ⟨by omega, by omega, by omega, by omega⟩, ?_⟩
  have z : (j - i).toNat ≤ SZ := by omega
  exact loop_lc (src_rng z) R2.rep trivial hl fun L ys σ' M' H' t k hq => q _ _ _ _ _ t (k1.trans (k2.trans k)) hq
theorem tdr2_of {Q : VK} {lo hi : KE} (h : LE c W (vDcr (vSome lo) hi tg tt te tb) τ H Q) : tDc (iRng2 (tCons (LE c W lo) (tCons (LE c W hi) tNil))) (exG c fun c' => LG c' tg) (exT c fun c' => LT c' W0 tt) (exE c fun c' => LFz c' W0 te) (exE c fun c' => LFz c' W0 tb) (slotsOf tg) τ H Q := by
  obtain ⟨σ, M, E, Qd, R, ht, x, q⟩ := h
  refine ⟨σ, M, E, _, R, ht, x, fun d v σ1 M1 H1 R1 k1 ⟨i, ei, h1⟩ => ⟨σ1, M1, E, _, R1.rep, h1, x, fun d2 v2 σ2 M2 H2 R2 k2 ⟨j, e, b0, b1, b2, hl⟩ => ?_⟩⟩
  subst e ei
  have b0 : i.natAbs < 2 ^ 60 := b0
  have b2 : j - i ≤ SZ := b2
  refine ⟨i, j, by rw [relI (C := fun _ => none) R1, relI (C := fun _ => none) R2], ⟨by omega, by omega, by omega, by omega⟩, ?_⟩
  have z : (j - i).toNat ≤ SZ := by omega
  exact loop_dc (src_rng z) R2.rep trivial hl fun L ys σ' M' H' t k hq => q _ _ _ _ _ t (k1.trans (k2.trans k)) hq
end
end Pv

/-! E8h: the core text against the written text: expressions. -/
namespace Pv
open PySem PySem.Spec PyProof.Rows L2
open PySem.W (Frag)

/-! ### the looks -/
def opB? : Bop → Operator → Bool
  | .add, .Add => true
  | .sub, .Sub => true
  | .mul, .Mult => true
  | .mod, .Mod => true
  | .fdiv, .FloorDiv => true
  | .pow, .Pow => true
  | _, _ => false
def opC? : Cop → CmpOp → Bool
  | .eq, .Eq => true
  | .ne, .NotEq => true
  | .lt, .Lt => true
  | .le, .LtE => true
  | .gt, .Gt => true
  | .ge, .GtE => true
  | .isIn, .In => true
  | .notIn, .NotIn => true
  | _, _ => false
theorem opB_ok {o : Bop} {q : Operator} (h : opB? o q = true) : q = bopR o := by
  cases o <;> cases q <;> first | rfl | cases h
theorem opC_ok {o : Cop} {q : CmpOp} (h : opC? o q = true) : q = copR o := by
  cases o <;> cases q <;> first | rfl | cases h
/-- built-ins: the name, and whether it is a type -/
def bfN : Bf → Option (String × Bool)
  | .len => some ("len", false)
  | .abs => some ("abs", false)
  | .int => some ("int", true)
  | .str => some ("str", true)
  | .sum => some ("sum", false)
  | .tuple => some ("tuple", true)
  | .list => some ("list", true)
  | .sorted => some ("sorted", false)
  | .dict => some ("dict", true)
  | .max2 => some ("max", false)
  | .min2 => some ("min", false)
  | _ => none
def isiN : Bf → Option String
  | .isBool => some "bool"
  | .isInt => some "int"
  | .isStr => some "str"
  | .isList => some "list"
  | .isTuple => some "tuple"
  | _ => none
def bmN : Bm → Option String
  | .index => some "index"
  | .join => some "join"
  | .isascii => some "isascii"
  | .isalnum => some "isalnum"
  | _ => none
def mmN : Mm → Option String
  | .append => some "append"
  | .pop => some "pop"
  | .reverse => some "reverse"
  | .setdefault => some "setdefault"
  | _ => none
/-- targets -/
def ckNs (S : Sx) : List Nat → List Expr → Bool
  | [], [] => true
  | i :: is, .Name n _ :: xs => (ixB S.N i n && locB S n) && ckNs S is xs
  | _, _ => false
def ckG (S : Sx) (tg : Tg) (x : Expr) : Bool := match tg, x with
  | .n i, .Name n _ => ixB S.N i n && locB S n
  | .t is, .Tuple xs _ _ => ckNs S is xs
  | _, _ => false
/-- a block's own names, with their slots -/
def ownOf (S : Sx) (tg : Tg) : List (Str × Nat) := (slotsOf tg).map fun i => (S.N.getD i Str.empty, i)
def Sx.blk (S : Sx) (sc : Scope) : Sx := ⟨S.N, relS sc S.sc, fun x => sc.names.lookup x == some .cell⟩
def ckCon : D → Expr → Bool
  | .non, .Constant .none _ _ => true
  | .bl b, .Constant (.bool b') _ _ => b == b'
  | .int i, .Constant (.int i') _ _ => decide (i = i')
  | .str x, .Constant (.str x') _ _ => decide (x'.cps.toList = x) && decide (x.length ≤ 1000000)
  | _, _ => false
mutual
def ckE (tb : Tb) : CE → Sx → Expr → Bool
  | .var i, S, x => (match x with
    | .Name n _ => ixB S.N i n && (visB S n && okN n)
    | _ => false)
  | .con d, S, x => ckCon d x
  | .glob g, S, x => (match x with
    | .Name n _ => ixB tb.gl g n && (gloB S n && okN n)
    | _ => false)
  | .bin op a b, S, x => (match x with
    | .BinOp l o r _ => opB? op o && (ckE tb a S l && ckE tb b S r)
    | _ => false)
  | .neg a, S, x => (match x with
    | .UnaryOp .USub l _ => ckE tb a S l
    | _ => false)
  | .notE a, S, x => (match x with
    | .UnaryOp .Not l _ => ckE tb a S l
    | _ => false)
  | .andE a b, S, x => (match x with
    | .BoolOp .And (l :: r :: []) _ => ckE tb a S l && ckE tb b S r
    | .BoolOp .And (l :: r :: z :: zs) p => ckE tb a S l && ckE tb b S (.BoolOp .And (r :: z :: zs) p)
    | _ => false)
  | .orE a b, S, x => (match x with
    | .BoolOp .Or (l :: r :: []) _ => ckE tb a S l && ckE tb b S r
    | .BoolOp .Or (l :: r :: z :: zs) p => ckE tb a S l && ckE tb b S (.BoolOp .Or (r :: z :: zs) p)
    | _ => false)
  | .cmp op a b, S, x => (match x with
    | .Compare l [o] [r] _ => (opC? op o && noSet r) && (ckE tb a S l && ckE tb b S r)
    | _ => false)
  | .chain o1 o2 a b d, S, x => (match x with
    | .Compare l [p1, p2] [m, r] _ => ((opC? o1 p1 && opC? o2 p2) && noSet r) && (ckE tb a S l && (ckE tb b S m && ckE tb d S r))
    | _ => false)
  | .isN n a, S, x => (match x with
    | .Compare l [o] [.Constant .none _ _] _ => (match o with
      | .Is => !n
      | .IsNot => n
      | _ => false) && ckE tb a S l
    | _ => false)
  | .isB n a b, S, x => (match x with
    | .Compare l [o] [.Constant (.bool b') _ _] _ => ((match o with
      | .Is => !n
      | .IsNot => n
      | _ => false) && b == b') && ckE tb a S l
    | _ => false)
  | .ife t a b, S, x => (match x with
    | .IfExp c l r _ => ckT tb t S c && (ckE tb a S l && ckE tb b S r)
    | _ => false)
  | .tup es, S, x => (match x with
    | .Tuple xs _ _ => ckL tb es S xs
    | _ => false)
  | .lst es, S, x => (match x with
    | .List xs _ => ckL tb es S xs
    | _ => false)
  | .dsp es, S, x => (match x with
    | .Dict ks vs _ => ckD tb es S ks vs && decide (ks.length ≤ 15)
    | _ => false)
  | .idx a b, S, x => (match x with
    | .Subscript l i _ => noSlice i && (ckE tb a S l && ckE tb b S i)
    | _ => false)
  | .slc a lo hi, S, x => (match x with
    | .Subscript l (.Slice p q none _) _ => ckE tb a S l && (ckO tb lo S p && ckO tb hi S q)
    | _ => false)
  | .call f bx es, S, x => (match x with
    | .Call (.Name n _) xs [] _ => (ixB tb.fn f n && (gloB S n && okN n)) && ckA tb es bx S xs
    | _ => false)
  | .new C bx es, S, x => (match x with
    | .Call (.Name n _) xs [] _ => ((ixB tb.cl C n && (gloB S n && okN n)) && (tb.ini.lookup C).isSome) && ckA tb es bx S xs
    | _ => false)
  | .mth C m o bx es, S, x => (match x with
    | .Call (.Attribute y n ap) xs [] p => ((ixB tb.nm m n && (tb.mts.lookup (C, m)).isSome) && (plainO y && (ap.endLine == p.line && decide (xs.length < 30)))) && (ckE tb o S y && ckA tb es bx S xs)
    | _ => false)
  | .fld a m, S, x => (match x with
    | .Attribute y n _ => (ixB tb.nm m n && tb.fd.contains m) && (plainO y && ckE tb a S y)
    | _ => false)
  | .tin n a g, S, x => (match x with
    | .Compare l [o] [.Name m _] _ => ((match o with
      | .In => !n
      | .NotIn => n
      | _ => false) && (ixB tb.tbn g m && (gloB S m && okN m))) && ckE tb a S l
    | _ => false)
  | .tix g a, S, x => (match x with
    | .Subscript (.Name m _) i _ => (noSlice i && (ixB tb.tbn g m && (gloB S m && okN m))) && ckE tb a S i
    | _ => false)
  | .tget g a b, S, x => (match x with
    | .Call (.Attribute (.Name m _) n ap) [u, v] [] p => ((decide (n = Str.ofString "get") && (ap.endLine == p.line)) && ((ixB tb.tbn g m && (gloB S m && okN m)) && (plainE u && plainE v))) && (ckE tb a S u && ckE tb b S v)
    | _ => false)
  | .replI a i y z, S, x => (match x with
    | .Call (.Attribute (.Subscript u (.Constant (.int i') _ _) _) n ap) [.Constant (.str y') _ _, .Constant (.str z') _ _] [] p =>
      (decide (n = Str.ofString "replace") && (ap.endLine == p.line)) && ((decide (i = i') && (decide (y' = strOf y) && decide (z' = strOf z))) && ckE tb a S u)
    | _ => false)
  | .dead, S, x => true
  | .bc b es, S, x => (match x with
    | .Call (.Name n _) xs [] _ => (match bfN b with
      | some (m, _) => decide (n = Str.ofString m) && (gloB S n && (!xs.isEmpty && ckL tb es S xs))
      | none => (match isiN b with
        | some t => (match xs with
          | [a, .Name tn _] => (decide (n = "isinstance") && (gloB S n && (decide (tn = Str.ofString t) && gloB S tn))) && ckL tb es S [a]
          | _ => false)
        | none => false))
    | _ => false)
  | .bm m o es, S, x => (match x with
    | .Call (.Attribute y n ap) xs [] p => (match bmN m with
      | some s => (decide (n = Str.ofString s) && (plainO y && (ap.endLine == p.line && decide (xs.length < 30)))) && (ckE tb o S y && ckL tb es S xs)
      | none => false)
    | _ => false)
  | .mm m o es, S, x => (match x with
    | .Call (.Attribute y n ap) xs [] p => (match mmN m with
      | some s => (decide (n = Str.ofString s) && (plainO y && (ap.endLine == p.line && decide (xs.length < 30)))) && (ckE tb o S y && ckL tb es S xs)
      | none => false)
    | _ => false)
  | .lc e tg it ifs, S, x => (match x with
    | .ListComp el [⟨t, i, fs, 0⟩] sc _ => (noSet i && (ckE tb it S i && (blkC S.N S.sc sc (ownOf S tg) && ckG (S.blk sc) tg t))) && (ckIfs tb ifs (S.blk sc) fs && ckE tb e (S.blk sc) el)
    | _ => false)
  | .lcr e tg lo hi ifs, S, x => (match x with
    | .ListComp el [⟨t, .Call (.Name n _) xs [] _, fs, 0⟩] sc _ => ((decide (n = "range") && gloB S n) && ((match lo, xs with
        | none, [b] => plainE b && ckE tb hi S b
        | some lo, [a, b] => (plainE a && plainE b) && (ckE tb lo S a && ckE tb hi S b)
        | _, _ => false) && (blkC S.N S.sc sc (ownOf S tg) && ckG (S.blk sc) tg t))) && (ckIfs tb ifs (S.blk sc) fs && ckE tb e (S.blk sc) el)
    | _ => false)
  | .dc a b tg it ifs, S, x => (match x with
    | .DictComp k v [⟨t, i, fs, 0⟩] sc _ => (noSet i && (ckE tb it S i && (blkC S.N S.sc sc (ownOf S tg) && ckG (S.blk sc) tg t))) && (ckIfs tb ifs (S.blk sc) fs && (ckE tb a (S.blk sc) k && ckE tb b (S.blk sc) v))
    | _ => false)
  | .dcr a b tg lo hi ifs, S, x => (match x with
    | .DictComp k v [⟨t, .Call (.Name n _) xs [] _, fs, 0⟩] sc _ => ((decide (n = "range") && gloB S n) && ((match lo, xs with
        | none, [b] => plainE b && ckE tb hi S b
        | some lo, [a, b] => (plainE a && plainE b) && (ckE tb lo S a && ckE tb hi S b)
        | _, _ => false) && (blkC S.N S.sc sc (ownOf S tg) && ckG (S.blk sc) tg t))) && (ckIfs tb ifs (S.blk sc) fs && (ckE tb a (S.blk sc) k && ckE tb b (S.blk sc) v))
    | _ => false)
def ckT (tb : Tb) : CT → Sx → Expr → Bool
  | .val e, S, x => (match x with
    | .Compare _ _ _ _ => (match e with
      | .cmp _ _ _ => true
      | .chain _ _ _ _ _ => true
      | .isN _ _ => true
      | .isB _ _ _ => true
      | .tin _ _ _ => true
      | _ => false)
    | x => plainT x) && ckE tb e S x
  | .jnr s a o y z, S, x => (match x with
    | .Compare (.Call (.Attribute (.Constant (.str s') _ _) n ap) [u] [] p) [.NotEq] [.Call (.Attribute w n2 ap2) [.Constant (.str y') _ _, .Constant (.str z') _ _] [] p2] _ =>
      ((decide (n = Str.ofString "join") && (ap.endLine == p.line)) && (decide (n2 = Str.ofString "replace") && (ap2.endLine == p2.line))) &&
        (((decide (s' = strOf s) && decide (s.length ≤ 1000000)) && ((decide (y' = strOf y) && decide (z' = strOf z)) && (plainE u && plainO w))) && (ckE tb a S u && ckE tb o S w))
    | _ => false)
  | .not a, S, x => (match x with
    | .UnaryOp .Not l _ => ckT tb a S l
    | _ => false)
  | .and a b, S, x => (match x with
    | .BoolOp .And (l :: r :: []) _ => ckT tb a S l && ckT tb b S r
    | .BoolOp .And (l :: r :: z :: zs) p => ckT tb a S l && ckT tb b S (.BoolOp .And (r :: z :: zs) p)
    | _ => false)
  | .or a b, S, x => (match x with
    | .BoolOp .Or (l :: r :: []) _ => ckT tb a S l && ckT tb b S r
    | .BoolOp .Or (l :: r :: z :: zs) p => ckT tb a S l && ckT tb b S (.BoolOp .Or (r :: z :: zs) p)
    | _ => false)
  | .ife _ _ _, S, x => false
def ckL (tb : Tb) : List CE → Sx → List Expr → Bool
  | [], S, xs => xs.isEmpty
  | e :: es, S, xs => (match xs with
    | x :: xs => plainE x && (ckE tb e S x && ckL tb es S xs)
    | [] => false)
def ckA (tb : Tb) : List CE → List Bool → Sx → List Expr → Bool
  | [], _, S, xs => xs.isEmpty
  | e :: es, bx, S, xs => (match xs with
    | x :: xs => plainE x && (ckE tb e S x && ckA tb es bx.tail S xs)
    | [] => false)
def ckD (tb : Tb) : List CE → Sx → List (Option Expr) → List Expr → Bool
  | [], S, ks, vs => ks.isEmpty && vs.isEmpty
  | [_], S, ks, vs => false
  | a :: b :: es, S, ks, vs => (match ks, vs with
    | some k :: ks, v :: vs => (ckE tb a S k && ckE tb b S v) && ckD tb es S ks vs
    | _, _ => false)
def ckO (tb : Tb) : Option CE → Sx → Option Expr → Bool
  | none, S, x => x.isNone
  | some e, S, x => (match x with
    | some x => ckE tb e S x
    | none => false)
def ckIfs (tb : Tb) : List CT → Sx → List Expr → Bool
  | [], S, xs => xs.isEmpty
  | t :: ts, S, xs => (match xs with
    | [x] => ts.isEmpty && ckT tb t S x
    | _ => false)
end
end Pv

/-! E8i: the looks are enough: expressions. -/
namespace Pv
open PySem PySem.Spec PyProof.Rows L2
open PySem.W (Frag)
section
variable {T : Tab} {Γ : FSem} {tb : Tb} {k : Nat} {S : Sx} {c : Cc} {X : Cx} {W : WX}

/-! ### a block's context -/
theorem spG_to {c c' : Cc} (s : Same c c') {G : List D → Mem → (D → Mem → Prop) → (Exn → Mem → Prop) → Prop} {vs : List V} {H : Hp} {Q : VK} {E : XK} (h : spG c' G vs H Q E) : spG c G vs H Q E := by
  obtain ⟨ds, M, Qd, Ed, r, bx, g, q, e⟩ := h
  exact ⟨ds, M, Qd, Ed, r.to s.symm, fun a o z => (bx a o z).to s.symm, g, fun d v M' H' rs bx' F hq => q d v M' H' (rs.to s) (fun a o z => (bx' a o z).to s) F hq,
    fun x cls dd M' H' rx bx' F hq => e x cls dd M' H' (rx.to s) (fun a o z => (bx' a o z).to s) F hq⟩
theorem FnG.to {P : Program} {w : World} {K : Frag} {mg : Str → Option Value} {base : Heap} {c c' : Cc} (s : Same c c') {k : Nat} {a : PySem.Addr} {G : List D → Mem → (D → Mem → Prop) → (Exn → Mem → Prop) → Prop}
    (F : FnG P w K mg base c k a G) : FnG P w K mg base c' k a G :=
  let ⟨fd, ps, f, b⟩ := F.ex
  ⟨F.kp, fd, ps, f.imp fun _ _ _ _ q => spG_to s q, b⟩
theorem Fx.to (F : Fx T Γ tb k S c X W) {c' : Cc} (s : Same c c') : Fx T Γ tb k S c' X W where
  cx := F.cx.to s
  N := F.N
  nd := F.nd
  sc := F.sc
  fn := F.fn
  kind := F.kind
  calm := F.calm
  room := F.room
  pass := F.pass
  takes := F.takes
  blt := F.blt
  fns := fun f x e => let ⟨a, h, g⟩ := F.fns f x e; ⟨a, h, g.to s⟩
  meths := fun C m f x e1 e2 => by
    obtain ⟨h1, h2, a, h3, g⟩ := F.meths C m f x e1 e2
    have g := g.to s
    obtain ⟨h, m, rfl⟩ := s
    exact ⟨h1, h2, a, h3, g⟩
  mks := fun C f x e1 e2 => by
    obtain ⟨h1, a, h3, g⟩ := F.mks C f x e1 e2
    have g := g.to s
    obtain ⟨h, m, rfl⟩ := s
    exact ⟨h1, a, h3, g⟩
  flds := by
    obtain ⟨h, m, rfl⟩ := s
    exact F.flds
  inj := by
    obtain ⟨h, m, rfl⟩ := s
    exact F.inj
  ini := F.ini
  mts := F.mts
  tbs := F.tbs
  tbl := F.tbl
  noa := by
    obtain ⟨h, m, rfl⟩ := s
    exact F.noa
  gls := fun g x d e1 e2 => let ⟨h1, h2, v, u, h3, h4, h5⟩ := F.gls g x d e1 e2; ⟨h1, h2, v, u, h3, h4, fun H => (h5 H).to s⟩
theorem takes0 {Y : Cx} : Takes Y W0 := fun u s' ⟨_, _, _, _, _, _, _, _, _, _, _, _, _, _, _, _, w⟩ => w.elim
theorem Fx.blk (F : Fx T Γ tb k S c X W) {sc : Scope} (hk : sc.kind = .function) (s : Shared) (H : Hp) (C : PySem.Addr) (cl : List (Str × PySem.Addr)) (fp : List PySem.Addr) : Fx T Γ tb k (S.blk sc) c (X.blk s H sc (compEnvC sc cl C X.env) fp) W0 where
  cx := ⟨F.cx.K, F.cx.P, F.cx.w⟩
  N := F.N
  nd := F.nd
  sc := by
    show relabel sc X.env = relS sc S.sc
    rw [← F.sc]; rfl
  fn := rfl
  kind := hk
  calm := F.calm
  room := F.room
  pass := PassesOwn.never
  takes := takes0
  blt := F.blt
  fns := F.fns
  meths := F.meths
  mks := F.mks
  flds := F.flds
  inj := F.inj
  ini := F.ini
  mts := F.mts
  tbs := F.tbs
  tbl := F.tbl
  noa := F.noa
  gls := F.gls

/-! ### small rules by the looks -/
theorem Fx.con (F : Fx T Γ tb k S c X W) {d : D} {x : Expr} (h : ckCon d x = true) : PE X x (LE c W fun _ σ M Q => Q d σ M) := by
  unfold ckCon at h
  split at h
  · exact le_const pe_non rfl (fun i z => nomatch z) fun H => .non
  · have e := eq_of_beq h
    subst e
    exact le_const pe_bl rfl (fun i z => nomatch z) fun H => .bl _
  · have e := of_decide_eq_true h
    subst e
    exact le_const pe_int rfl (fun i z => nomatch z) fun H => .int _
  · rename_i z y _ _
    obtain ⟨h1, h2⟩ := ands h
    have e : strOf z = y := by
      have := of_decide_eq_true h1
      subst this
      rfl
    have hz := of_decide_eq_true h2
    refine le_const (v := .str y) pe_str rfl (fun i z => nomatch z) fun H => ?_
    rw [← e]
    exact .str z (by show z.length ≤ 16777216; omega)
  · cases h
theorem Fx.var (F : Fx T Γ tb k S c X W) {i : Nat} {n : Str} {p : Pos} (h : (ixB S.N i n && (visB S n && okN n)) = true) : PE X (.Name n p) (LE c W (vVar i)) := by
  obtain ⟨h1, h2⟩ := ands h
  obtain ⟨h2, h3⟩ := ands h2
  obtain ⟨k1, k2, _⟩ := okN_ok h3
  exact le_var (pe_var (F.ix h1) (F.vis h2) k1 k2)
theorem gsN_pgs (F : Fx T Γ tb k S c X W) : ∀ {is : List Nat} {xs : List Expr}, ckNs S is xs = true → PGs X xs (gsN is) ∧ (assignEach xs X.env).length = is.length ∧ (assignEach xs X.env).findIdx? (·.1) = none
  | [], [], _ => ⟨pgs_nil, rfl, rfl⟩
  | i :: is, x :: xs, h => by
    cases x with
    | Name n p =>
      obtain ⟨h1, h2⟩ := ands (show ((ixB S.N i n && locB S n) && ckNs S is xs) = true from h)
      obtain ⟨h1, h3⟩ := ands h1
      obtain ⟨l1, l2⟩ := F.loc h3
      obtain ⟨g, e1, e2⟩ := gsN_pgs F h2
      refine ⟨pgs_cons (pg_name F.ndX (F.ix h1) l1 l2) g, congrArg (· + 1) e1, ?_⟩
      show List.findIdx? (·.1) ((false, assign (.Name n p) X.env) :: assignEach xs X.env) = none
      rw [List.findIdx?_cons, e2]
      rfl
    | _ => cases h
  | [], x :: xs, h => by cases h
  | i :: is, [], h => by cases h
theorem Fx.tg (F : Fx T Γ tb k S c X W) {tg : Tg} {x : Expr} (h : ckG S tg x = true) : PG X x (LG c tg) := by
  unfold ckG at h
  split at h
  · obtain ⟨h1, h2⟩ := ands h
    obtain ⟨l1, l2⟩ := F.loc h2
    exact lg_name (pg_name F.ndX (F.ix h1) l1 l2)
  · obtain ⟨g, e1, e2⟩ := gsN_pgs F h
    exact lg_tup F.cx.K (pg_tup F.calm g e1 e2)
  · cases h
theorem own_map (S : Sx) (tg : Tg) : (ownOf S tg).map (·.2) = slotsOf tg := by
  unfold ownOf
  rw [List.map_map]
  exact List.map_id _
theorem Fx.blkOk (F : Fx T Γ tb k S c X W) {sc : Scope} {tg : Tg} (h : blkC S.N S.sc sc (ownOf S tg) = true) : BlkOk X.N X.env.scope sc (ownOf S tg) := by
  rw [F.N, F.sc]
  exact blkOk_by h
theorem few_ok {xs : List Expr} {env : Env} {p : Pos} (h : xs.all plainE = true) (hl : xs.length < 30) : ((backTo p (starEach xs env)).all (fun x => !x.1) && (backToKw p (keywordEach [] env)).all (fun x => x.1.isSome)
      && decide (xs.length + ([] : List Keyword).length + (if ([] : List Keyword).isEmpty then 0 else 1) < 30)) = true := by
  rw [star_every h]
  show (true && decide (xs.length + 0 + 0 < 30)) = true
  rw [decide_eq_true (by omega)]; rfl
theorem rM_index : MtR X "str.index" (rM c (opM .index)) := by
  intro pins s σ H x xs v us Q I rx rs ⟨d, ds, r, hd, hs, hf, q⟩
  unfold opM at hf
  split at hf <;> first | (cases hf; done) | contradiction | skip
  rename_i y z _
  obtain ⟨rfl, _⟩ := hd.str
  cases hs with
  | cons h1 t =>
    cases t
    obtain ⟨rfl, _⟩ := h1.str
    obtain ⟨n, e1, e2⟩ := Option.map_eq_some_iff.mp hf
    obtain ⟨rest, e3⟩ : ∃ rest, Builtin.Str.occurrences (strOf y) (strOf z) 0 y.length 1 = n :: rest := by
      cases h : Builtin.Str.occurrences (strOf y) (strOf z) 0 y.length 1 with
      | nil => rw [h] at e1; cases e1
      | cons a l => rw [h] at e1; cases e1; exact ⟨l, rfl⟩
    rw [← e2] at q
    exact mt_sindex pins s σ H _ _ v us Q I rx rs ⟨_, _, n, rest, rfl, rfl, by rw [strOf_len]; exact e3, q _ _ NewR.int⟩

theorem strs_of {ds : List D} {vs : List V} {ys : List (List Nat)} (r : RelPs c H ds vs) (h : ds.mapM strOf? = some ys) : vs = (ys.map strOf).map V.str := by
  induction ds generalizing vs ys with
  | nil =>
    cases r
    cases h; rfl
  | cons d ds ih =>
    cases r with
    | cons r1 r2 =>
      rw [List.mapM_cons] at h
      obtain ⟨y, h1, h2⟩ := Option.bind_eq_some_iff.mp h
      obtain ⟨zs, h3, h4⟩ := Option.bind_eq_some_iff.mp h2
      cases h4
      rw [ih r2 h3]
      cases d <;> first | (cases h1; done) | skip
      cases h1
      cases r1
      rfl
theorem join_eq (sep : List Nat) : ∀ ys : List (List Nat), Txt.join (strOf sep) (ys.map strOf) = strOf (joinL sep ys)
  | [] => rfl
  | [x] => rfl
  | x :: y :: r => by
    have ih := join_eq sep (y :: r)
    have e : Txt.join (strOf sep) ((x :: y :: r).map strOf) = strOf x ++ strOf sep ++ Txt.join (strOf sep) ((y :: r).map strOf) := by
      show Builtin.Str.glued _ _ = _ ++ _ ++ Builtin.Str.glued _ _
      rw [StrLaws.glued_eq_join, StrLaws.glued_eq_join]
      rfl
    rw [e, ih, strOf_append, strOf_append]
    rfl
theorem join_sum (sep : List Nat) (ys : List (List Nat)) : ((ys.map strOf).map (·.length)).sum + (ys.map strOf).length * (strOf sep).length = (ys.map (·.length)).sum + ys.length * sep.length := by
  have e : (ys.map strOf).map (·.length) = ys.map (·.length) := by
    rw [List.map_map]
    exact List.map_congr_left fun x _ => strOf_len x
  rw [e, List.length_map, strOf_len]
theorem join_len (sep : List Nat) : ∀ ys : List (List Nat), (joinL sep ys).length ≤ (ys.map (·.length)).sum + ys.length * sep.length
  | [] => Nat.zero_le _
  | [x] => by simp [joinL]
  | x :: y :: r => by
    have ih := join_len sep (y :: r)
    show (x ++ sep ++ joinL sep (y :: r)).length ≤ _
    rw [List.length_append, List.length_append, List.map_cons, List.sum_cons, List.length_cons, Nat.add_mul, Nat.one_mul]
    omega
theorem rM_join (hK : X.K = c.K) : MtR X "str.join" (rM c (opM .join)) := by
  intro pins s σ H x xs v us Q I rx rs ⟨d, ds, r, hd, hs, hf, q⟩
  unfold opM at hf
  split at hf <;> first | (cases hf; done) | contradiction | skip
  rename_i sep zs _
  obtain ⟨rfl, _⟩ := hd.str
  cases hs with
  | cons h1 t =>
    cases t
    obtain ⟨ys, e1, e2⟩ := Option.bind_eq_some_iff.mp hf
    split at e2
    · rename_i hz
      cases e2
      obtain ⟨_, a, vs, rfl, ha, ra⟩ := h1
      have ev := strs_of ra e1
      subst ev
      have hz' : (ys.map (·.length)).sum + ys.length * sep.length ≤ 16777216 := hz
      refine mt_join pins s σ H _ _ v us Q I rx rs ⟨strOf sep, a, ys.map strOf, rfl, rfl, .inl (hK ▸ ha), by rw [join_sum]; exact hz', ?_⟩
      rw [join_eq]
      exact q _ _ (.str (Nat.le_trans (join_len sep ys) hz'))
    · cases e2
theorem or_neS : OpR X (compareOp .NotEq) rNeS := by
  intro pins s σ H x y v u Q I rx ry ⟨a, b, e1, e2, q⟩
  refine op_ne pins s σ H x y v u Q I rx ry ⟨by rw [e1, e2]; rfl, ?_⟩
  rw [e1, e2]
  have e : decide (V.str (strOf a) = V.str (strOf b)) = decide (a = b) := decide_eq_decide.mpr ⟨fun h => strOf_inj (V.str.inj h), fun h => by rw [h]⟩
  rw [e]; exact q
theorem lift_jnrT {e : Expr} {s y z : List Nat} {tA tB : KE}
    (h : PT X e (tTest (tOp rNeS (fun σ H Q => LV c W (vConsV tA vNil) σ H fun xs H2 => rM c (opM .join) (.str (strOf s)) xs H2 Q) (tRepl (strOf y) (strOf z) (LE c W tB))))) (hs : s.length ≤ SZ) : PT X e (LT c W (vJnr s y z tA tB)) :=
  pt_imp h fun τ H Q ⟨σ, M, E, Qd, R, hh, x, q⟩ => ⟨σ, M, E, (fun ds σ M => match ds with
    | [d] => ∃ xs ys, vw σ M d = .lst xs ∧ xs.mapM strOf? = some ys ∧ (ys.map (·.length)).sum + ys.length * s.length ≤ SZ ∧ tB E σ M fun w σ M => ∃ t, w = .str t ∧ y ≠ z ∧ t.length + (t.length + 1) * z.length ≤ SZ ∧
        Qd (!decide (joinL s ys = replL t y z)) σ M
    | _ => False), R, hh, x, fun ds vs σ1 M1 H1 R1 p1 k1 h1 => by
    match ds, vs, p1, h1 with
    | [d], [v], .cons p1 .nil, ⟨xs, ys, e1, e2, e3, h1⟩ =>
      have vv := R1.view p1
      rw [e1] at vv
      refine ⟨.str s, [.lst xs], .str (joinL s ys), VwR.ofP (.str s hs) rfl, .cons vv .nil, ?_, fun v' H' n => ?_⟩
      · show (xs.mapM strOf?).bind _ = _
        rw [e2]
        exact if_pos e3
      · obtain ⟨t, k⟩ := R1.newT n
        have ev := repTs t
        subst ev
        refine ⟨σ1, M1, E, _, t.rep, h1, x, fun d2 v2 σ2 M2 H2 t2 k2 ⟨tt, f1, f2, f3, hq⟩ => ?_⟩
        subst f1
        have ev := repTs t2
        subst ev
        refine ⟨strOf tt, rfl, ?_, by rw [strOf_len, strOf_len]; exact f3, ?_⟩
        · rw [beq_eq_false_iff_ne]
          exact fun z' => f2 (strOf_inj z')
        · rw [replL_eq]
          refine ⟨joinL s ys, replL tt y z, rfl, rfl, _, rfl, ?_⟩
          exact q _ _ _ _ t2.rep (k1.trans (k.trans k2)) hq⟩
theorem rM_isascii : MtR X "str.isascii" (rM c (opM .isascii)) := by
  intro pins s σ H x xs v us Q I rx rs ⟨d, ds, r, hd, hs, hf, q⟩
  unfold opM at hf
  split at hf <;> first | (cases hf; done) | contradiction | skip
  obtain ⟨rfl, _⟩ := hd.str
  cases hs
  cases hf
  exact mt_isascii pins s σ H _ _ v us Q I rx rs ⟨_, rfl, rfl, trivial, q _ _ NewR.bl⟩
theorem rM_isalnum : MtR X "str.isalnum" (rM c (opM .isalnum)) := by
  intro pins s σ H x xs v us Q I rx rs ⟨d, ds, r, hd, hs, hf, q⟩
  unfold opM at hf
  split at hf <;> first | (cases hf; done) | contradiction | skip
  obtain ⟨rfl, _⟩ := hd.str
  cases hs
  cases hf
  exact mt_isalnum pins s σ H _ _ v us Q I rx rs ⟨_, rfl, rfl, trivial, q _ _ NewR.bl⟩

/-! ### the theorem -/
theorem str_dec {n : Str} {s : String} (h : decide (n = Str.ofString s) = true) : n = Str.ofString s := of_decide_eq_true h
theorem Fx.free (F : Fx T Γ tb k S c X W) {x : Str} (h : x ∈ bNames) : X.mg x = none := F.blt x h
theorem Fx.bfn (F : Fx T Γ tb k S c X W) {b : Bf} {m : String} {ty : Bool} {p pos : Pos} {xs : List Expr} {tL : KL} (hb : bfN b = some (m, ty)) (hg : gloB S (Str.ofString m) = true) (ha : PA X xs (LV c W tL)) (hne : xs.isEmpty = false) (hp : xs.all plainE = true) :
    PE X (.Call (.Name (Str.ofString m) p) xs [] pos) (LE c W (vBc (opB b) tL)) := by
  cases xs with
  | nil => cases hne
  | cons e es =>
    obtain ⟨h1, h2⟩ := ands (show (plainE e && es.all plainE) = true from hp)
    have G := F.gl hg
    cases b <;> (first | (cases hb; done) | skip) <;> cases hb
    · exact lift_bc (pe_callB (cr_len F.cx) G (F.free (by decide)) (by decide +kernel) ha (by decide) (by decide) (star_cons h1) (star_all h2))
    · exact lift_bc (pe_callB cr_abs G (F.free (by decide)) (by decide +kernel) ha (by decide) (by decide) (star_cons h1) (star_all h2))
    · exact lift_bc (pe_callTy cr_int G (F.free (by decide)) (by decide +kernel) ha (by decide) (by decide) (star_cons h1) (star_all h2))
    · exact lift_bc (pe_callTy cr_str G (F.free (by decide)) (by decide +kernel) ha (by decide) (by decide) (star_cons h1) (star_all h2))
    · exact lift_bc (pe_callB (cr_sumD F.cx F.calm) G (F.free (by decide)) (by decide +kernel) ha (by decide) (by decide) (star_cons h1) (star_all h2))
    · exact lift_bc (pe_callTy (cr_tup F.cx) G (F.free (by decide)) (by decide +kernel) ha (by decide) (by decide) (star_cons h1) (star_all h2))
    · exact lift_bc (pe_callTy (cr_list F.cx F.calm) G (F.free (by decide)) (by decide +kernel) ha (by decide) (by decide) (star_cons h1) (star_all h2))
    · exact lift_bc (pe_callB (cr_sortedD F.cx) G (F.free (by decide)) (by decide +kernel) ha (by decide) (by decide) (star_cons h1) (star_all h2))
    · exact lift_bc (pe_callTy (cr_dict F.cx F.calm) G (F.free (by decide)) (by decide +kernel) ha (by decide) (by decide) (star_cons h1) (star_all h2))
    · exact lift_bc (pe_callB (cr_max2 F.calm) G (F.free (by decide)) (by decide +kernel) ha (by decide) (by decide) (star_cons h1) (star_all h2))
    · exact lift_bc (pe_callB (cr_min2 F.calm) G (F.free (by decide)) (by decide +kernel) ha (by decide) (by decide) (star_cons h1) (star_all h2))
theorem Fx.isi (F : Fx T Γ tb k S c X W) {b : Bf} {t : String} {p p2 pos : Pos} {a : Expr} {tA : KE} (hb : isiN b = some t) (hg : gloB S "isinstance" = true) (hg2 : gloB S (Str.ofString t) = true) (ha : PE X a (LE c W tA)) (hp : plainE a = true) :
    PE X (.Call (.Name "isinstance" p) [a, .Name (Str.ofString t) p2] [] pos) (LE c W (vBc (opB b) (vConsV tA vNil))) := by
  have G := F.gl hg
  have G2 := F.gl hg2
  have go : ∀ {n : String} {f : D → Option D}, isiT n f → PE X (.Name (Str.ofString n) p2) (L2.tC (.ty n)) → PE X (.Call (.Name "isinstance" p) [a, .Name (Str.ofString n) p2] [] pos) (LE c W (vBc (op1 f) (vConsV tA vNil))) := fun {n f} hi hn =>
    lift_isi (tT := L2.tC (.ty n)) (fun τ H Q q => q) (pe_callB (cr_isi F.cx hi) G (F.free (by decide)) (by decide +kernel) (pa_cons (pe_LP ha) (pa_cons hn pa_nil rfl) (star_cons hp)) (by decide) (by decide) (star_cons hp) rfl)
  cases b <;> (first | (cases hb; done) | skip) <;> cases hb
  · exact go isi_bool (pe_bltn G2 (F.free (by decide)) (by decide +kernel) rfl (by decide) (by decide))
  · exact go isi_int (pe_bltn G2 (F.free (by decide)) (by decide +kernel) rfl (by decide) (by decide))
  · exact go isi_str (pe_bltn G2 (F.free (by decide)) (by decide +kernel) rfl (by decide) (by decide))
  · exact go isi_list (pe_bltn G2 (F.free (by decide)) (by decide +kernel) rfl (by decide) (by decide))
  · exact go isi_tuple (pe_bltn G2 (F.free (by decide)) (by decide +kernel) rfl (by decide) (by decide))
theorem Fx.bmet (F : Fx T Γ tb k S c X W) {m : Bm} {n : String} {o : Expr} {xs : List Expr} {tA : KE} {tL : KL} {ap p : Pos} (hb : bmN m = some n) (ho : PE X o (LE c W tA)) (ha : PA X xs (LV c W tL)) (h0 : xs = [] → tL = vNil) (hp : xs.all plainE = true) (hl : xs.length < 30)
    (hpl : plainO o = true) (hline : (ap.endLine == p.line) = true) : PE X (.Call (.Attribute o (Str.ofString n) ap) xs [] p) (LE c W (vBm m tA tL)) := by
  have go : ∀ {id : String}, bmTy m = "str" → Slot "str" (Str.ofString n) id → typeOf (.builtin id) = pure (.type "method_descriptor") → MtR X id (rM c (opM m)) → PE X (.Call (.Attribute o (Str.ofString n) ap) xs [] p) (LE c W (vBm m tA tL)) := fun {id} hT sl ty hm => by
    cases xs with
    | nil =>
      cases h0 rfl
      exact lift_bm0 (pe_mG0 (hT ▸ ty_D F.cx) PySem.F.plainAttrs_str sl ty hm (pe_LP ho) (attr_plain hpl) hline)
    | cons e es =>
      obtain ⟨h1, h2⟩ := ands (show (plainE e && es.all plainE) = true from hp)
      exact lift_bm (pe_mG (hT ▸ ty_D F.cx) PySem.F.plainAttrs_str sl ty hm (pe_LP ho) ha (attr_plain hpl) (few_ok hp hl) hline (star_cons h1) (star_all h2))
  cases m <;> (first | (cases hb; done) | skip) <;> cases hb
  · exact go rfl PySem.F.slot_str_index PySem.F.type_str_index rM_index
  · exact go rfl PySem.F.slot_str_join PySem.F.type_str_join (rM_join F.cx.K)
  · exact go rfl PySem.F.slot_str_isascii PySem.F.type_str_isascii rM_isascii
  · exact go rfl PySem.F.slot_str_isalnum PySem.F.type_str_isalnum rM_isalnum
theorem Fx.mmet (F : Fx T Γ tb k S c X W) {m : Mm} {n : String} {o : Expr} {xs : List Expr} {tA : KE} {tL : KL} {ap p : Pos} (hb : mmN m = some n) (ho : PE X o (LE c W tA)) (ha : PA X xs (LL c W tL)) (h0 : xs = [] → tL = vNil) (hp : xs.all plainE = true) (hl : xs.length < 30)
    (hpl : plainO o = true) (hline : (ap.endLine == p.line) = true) : PE X (.Call (.Attribute o (Str.ofString n) ap) xs [] p) (LE c W (vMm m tA tL)) := by
  have go : ∀ {T id : String}, T = mmTy m → PlainAttrs T → Slot T (Str.ofString n) id → typeOf (.builtin id) = pure (.type "method_descriptor") → MtR X id (rX c m) → PE X (.Call (.Attribute o (Str.ofString n) ap) xs [] p) (LE c W (vMm m tA tL)) := fun {T id} hT pa sl ty hm => by
    subst hT
    cases xs with
    | nil =>
      cases h0 rfl
      exact lift_mm0 (pe_mG0 (ty_D F.cx) pa sl ty hm ho (attr_plain hpl) hline)
    | cons e es =>
      obtain ⟨h1, h2⟩ := ands (show (plainE e && es.all plainE) = true from hp)
      exact lift_mm (pe_mG (ty_D F.cx) pa sl ty hm ho ha (attr_plain hpl) (few_ok hp hl) hline (star_cons h1) (star_all h2))
  cases m <;> (first | (cases hb; done) | skip) <;> cases hb
  · exact go rfl PySem.F.plainAttrs_list PySem.F.slot_list_append PySem.F.type_list_append mx_append
  · exact go rfl PySem.F.plainAttrs_list PySem.F.slot_list_pop PySem.F.type_list_pop mx_pop
  · exact go rfl PySem.F.plainAttrs_list PySem.F.slot_list_reverse PySem.F.type_list_reverse mx_reverse
  · exact go rfl PySem.F.plainAttrs_dict PySem.F.slot_dict_setdefault PySem.F.type_dict_setdefault (mx_setdefault F.cx F.units)
end
end Pv

/-! E8j: expressions: the theorem. -/
namespace Pv
open PySem PySem.Spec PyProof.Rows L2
open PySem.W (Frag)
section
variable {T : Tab} {Γ : FSem} {tb : Tb} {k : Nat}
abbrev SoE (T : Tab) (Γ : FSem) (tb : Tb) (k : Nat) (e : CE) : Prop := ∀ {S : Sx} {c : Cc} {X : Cx} {W : WX} {x : Expr}, Fx T Γ tb k S c X W → ckE tb e S x = true → PE X x (LE c W fun E σ M Q => wpE T Γ E e σ M Q)
abbrev SoT (T : Tab) (Γ : FSem) (tb : Tb) (k : Nat) (e : CT) : Prop := ∀ {S : Sx} {c : Cc} {X : Cx} {W : WX} {x : Expr}, Fx T Γ tb k S c X W → ckT tb e S x = true →
  PT X x (LT c W fun E σ M Q => wpT T Γ E e σ M Q) ∧ ∀ o vs p, x = .BoolOp o vs p → PW X x (LT c W fun E σ M Q => wpT T Γ E e σ M Q)
theorem pt_pw {X : Cx} {x : Expr} {t : TT} (h : PW X x t) : PT X x t ∧ ∀ o vs p, x = .BoolOp o vs p → PW X x t := ⟨h.pt, fun _ _ _ _ => h⟩
theorem pt_only {X : Cx} {x : Expr} {t : TT} (h : PT X x t) (n : ∀ o vs p, x ≠ .BoolOp o vs p) : PT X x t ∧ ∀ o vs p, x = .BoolOp o vs p → PW X x t := ⟨h, fun o vs p e => absurd e (n o vs p)⟩
theorem ckL_plain : ∀ {es : List CE} {S : Sx} {xs : List Expr}, ckL tb es S xs = true → xs.all plainE = true ∧ (xs = [] → es = [])
  | [], S, xs, h => by
    cases xs with
    | nil => exact ⟨rfl, fun _ => rfl⟩
    | cons _ _ => cases h
  | e :: es, S, xs, h => by
    cases xs with
    | nil => cases h
    | cons x xs =>
      obtain ⟨h1, h2⟩ := ands (show (plainE x && (ckE tb e S x && ckL tb es S xs)) = true from h)
      obtain ⟨_, h3⟩ := ands h2
      refine ⟨?_, fun z => nomatch z⟩
      show (plainE x && xs.all plainE) = true
      rw [h1, (ckL_plain h3).1]; rfl
theorem ckA_plain : ∀ {es : List CE} {bx : List Bool} {S : Sx} {xs : List Expr}, ckA tb es bx S xs = true → xs.all plainE = true ∧ (xs = [] → es = [])
  | [], bx, S, xs, h => by
    cases xs with
    | nil => exact ⟨rfl, fun _ => rfl⟩
    | cons _ _ => cases h
  | e :: es, bx, S, xs, h => by
    cases xs with
    | nil => cases h
    | cons x xs =>
      obtain ⟨h1, h2⟩ := ands (show (plainE x && (ckE tb e S x && ckA tb es bx.tail S xs)) = true from h)
      obtain ⟨_, h3⟩ := ands h2
      refine ⟨?_, fun z => nomatch z⟩
      show (plainE x && xs.all plainE) = true
      rw [h1, (ckA_plain h3).1]; rfl
theorem le_W0 {c : Cc} {X : Cx} {W : WX} {x : Expr} {t : KE} (h : PE X x (LE c W t)) : PE X x (LE c W0 t) :=
  pe_imp h fun τ H Q ⟨σ, M, E, Qd, R, ht, x, q⟩ => ⟨σ, M, E, Qd, R, ht, fun a b d e f g r s z => (x a b d e f g r s z).elim, q⟩
theorem vList_eq : ∀ es : List CE, vList (es.map fun e => fun E σ M Q => wpE T Γ E e σ M Q) = fun E σ M Q => wpL T Γ E es σ M Q
  | [] => rfl
  | e :: es => by
    show vCons _ (vList (es.map _)) = _
    rw [vList_eq es]
    rfl
mutual
theorem soE : ∀ e : CE, SoE T Γ tb k e
  | .var i, S, c, X, W, x, F, h => by
    unfold ckE at h
    split at h
    · exact F.var h
    · cases h
  | .con d, S, c, X, W, x, F, h => F.con h
  | .glob g, S, c, X, W, x, F, h => by
    unfold ckE at h
    split at h
    · obtain ⟨h1, h2⟩ := ands h
      obtain ⟨h2, h3⟩ := ands h2
      cases hd : T.globs[g]? with
      | none =>
        refine ⟨fun pins s σ H Q I ⟨_, _, _, _, _, ht, _⟩ => ?_⟩
        unfold wpE at ht
        rw [hd] at ht
        exact ht.elim
      | some d =>
        obtain ⟨z1, z2, v, u, hm, r, rr⟩ := F.gls g _ d (ixB_ok h1) hd
        refine pe_imp (le_const (pe_glob (F.gl h2) hm r (okN_ok h3).1) z1 z2 rr) fun τ H Q ⟨σ, M, E, Qd, R, ht, x, q⟩ => ⟨σ, M, E, Qd, R, ?_, x, q⟩
        unfold wpE at ht
        rw [hd] at ht
        exact ht
    · cases h
  | .bin op a b, S, c, X, W, x, F, h => by
    unfold ckE at h
    split at h
    · obtain ⟨h1, h2⟩ := ands h
      obtain ⟨h2, h3⟩ := ands h2
      rw [opB_ok h1]
      exact lift2 (pe_op (or_bin F.cx.K op) (pe_LP (soE a F h2)) (pe_LP (soE b F h3)))
    · cases h
  | .neg a, S, c, X, W, x, F, h => by
    unfold ckE at h
    split at h
    · exact lift_neg (pe_un un_neg (soE a F h))
    · cases h
  | .notE a, S, c, X, W, x, F, h => by
    unfold ckE at h
    split at h
    · exact lift_not (pe_not (soE a F h))
    · cases h
  | .andE a b, S, c, X, W, x, F, h => by
    unfold ckE at h
    split at h
    · obtain ⟨h1, h2⟩ := ands h
      exact lift_and (pe_and (soE a F h1) (pe_one (soE b F h2)))
    · obtain ⟨h1, h2⟩ := ands h
      exact lift_and (pe_and (soE a F h1) (soE b F h2))
    · cases h
  | .orE a b, S, c, X, W, x, F, h => by
    unfold ckE at h
    split at h
    · obtain ⟨h1, h2⟩ := ands h
      exact lift_or (pe_or (soE a F h1) (pe_one (soE b F h2)))
    · obtain ⟨h1, h2⟩ := ands h
      exact lift_or (pe_or (soE a F h1) (soE b F h2))
    · cases h
  | .cmp op a b, S, c, X, W, x, F, h => by
    unfold ckE at h
    split at h
    · obtain ⟨h1, h2⟩ := ands h
      obtain ⟨h1, h0⟩ := ands h1
      obtain ⟨h2, h3⟩ := ands h2
      rw [opC_ok h1]
      exact lift2c (pe_cmpR (or_cmp F.cx F.units op) (pe_LP (soE a F h2)) (pe_LP (soE b F h3)) (mark_plain h0))
    · cases h
  | .chain o1 o2 a b d, S, c, X, W, x, F, h => by
    unfold ckE at h
    split at h
    · obtain ⟨h1, h2⟩ := ands h
      obtain ⟨h1, h0⟩ := ands h1
      obtain ⟨h1, h5⟩ := ands h1
      obtain ⟨h2, h3⟩ := ands h2
      obtain ⟨h3, h4⟩ := ands h3
      rw [opC_ok h1, opC_ok h5]
      exact pe_imp (pe_chain (or_cmp F.cx F.units o1) (or_cmp F.cx F.units o2) (soE a F h2) (soE b F h3) (pe_LP (soE d F h4)) (last_plain h0)) fun τ H Q q => chain_imp q
    · cases h
  | .isN n a, S, c, X, W, x, F, h => by
    unfold ckE at h
    split at h
    · rename_i l o j p q
      obtain ⟨h1, h2⟩ := ands h
      refine lift_isN ?_
      cases o <;> (first | (cases h1; done) | skip)
      · cases n with
        | true => cases h1
        | false => exact pe_cmp (pc_isN (soE a F h2))
      · cases n with
        | false => cases h1
        | true => exact pe_cmp (pc_notN (soE a F h2))
    · cases h
  | .isB n a b, S, c, X, W, x, F, h => by
    unfold ckE at h
    split at h
    · rename_i l o b' j p q
      obtain ⟨h1, h2⟩ := ands h
      obtain ⟨h1, h3⟩ := ands h1
      have e := eq_of_beq h3
      subst e
      refine lift_isB ?_
      have eo : o = if n = true then CmpOp.IsNot else CmpOp.Is := by
        cases o <;> (first | (cases h1; done) | skip) <;> cases n <;> first | rfl | cases h1
      rw [eo]
      exact pe_cmpR or_isB (soE a F h2) pe_bl (mark_plain rfl)
    · cases h
  | .ife t a b, S, c, X, W, x, F, h => by
    unfold ckE at h
    split at h
    · obtain ⟨h1, h2⟩ := ands h
      obtain ⟨h2, h3⟩ := ands h2
      exact lift_if (pe_ifExp (soT t F h1).1 (soE a F h2) (soE b F h3))
    · cases h
  | .tup es, S, c, X, W, x, F, h => by
    unfold ckE at h
    split at h
    · exact lift_tup (pe_tup (soL es F h))
    · cases h
  | .lst es, S, c, X, W, x, F, h => by
    unfold ckE at h
    split at h
    · exact lift_lst (pe_lst (soL es F h))
    · cases h
  | .dsp es, S, c, X, W, x, F, h => by
    unfold ckE at h
    split at h
    · rename_i ks vs p
      obtain ⟨h1, h2⟩ := ands h
      obtain ⟨g1, g2, g3, g4, g5⟩ := soD es (pos := p) F h1
      have go : PE X (.Dict ks vs p) (LE c W (vDsp (es.map fun e => fun E σ M Q => wpE T Γ E e σ M Q))) := by
        cases hk : ks with
        | nil =>
          subst hk
          obtain ⟨rfl, rfl⟩ := g5 rfl
          exact lift_dsp0 pe_dnewK
        | cons k ks' =>
          rw [← hk]
          exact lift_dsp g2 (pe_disp g1 g3 g4 (by rw [hk]; exact fun z => nomatch z) (of_decide_eq_true h2))
      refine pe_imp go fun τ H Q ⟨σ, M, E, Qd, R, ht, x, q⟩ => ⟨σ, M, E, Qd, R, ?_, x, q⟩
      unfold wpE at ht
      unfold vDsp
      rw [vList_eq]
      exact ht
    · cases h
  | .idx a b, S, c, X, W, x, F, h => by
    unfold ckE at h
    split at h
    · obtain ⟨h1, h2⟩ := ands h
      obtain ⟨h2, h3⟩ := ands h2
      exact lift_ix (pe_ix (or_ix F.cx F.units) (pe_LP (soE a F h2)) (pe_LP (soE b F h3)) (plainIx h1))
    · cases h
  | .slc a lo hi, S, c, X, W, x, F, h => by
    unfold ckE at h
    split at h
    · obtain ⟨h1, h2⟩ := ands h
      obtain ⟨h2, h3⟩ := ands h2
      exact lift_slc (pe_slice (or_slc F.cx.K) (pe_LP (soE a F h1)) (soO lo F h2) (soO hi F h3))
    · cases h
  | .call f bx es, S, c, X, W, x, F, h => by
    unfold ckE at h
    split at h
    · obtain ⟨h1, h2⟩ := ands h
      obtain ⟨h1, h3⟩ := ands h1
      obtain ⟨h3, h4⟩ := ands h3
      obtain ⟨a, hm, G⟩ := F.fns f _ (ixB_ok h1)
      obtain ⟨fd, ps, Fn, hb⟩ := G.ex
      obtain ⟨p1, p2⟩ := ckA_plain h2
      exact lift_call (.refl c) (call_any Fn (F.room.mono (Nat.le_succ _)) (F.gl h3) hm G.kp hb (passAt F.takes) (okN_ok h4).1 (soA es F h2) p1 fun e τ H Q q => by
        cases p2 e
        obtain ⟨σ, M, E, Qd, R, ht, x, q⟩ := q
        exact q [] [] σ M H R .nil (.refl _) ht)
    · cases h
  | .new C bx es, S, c, X, W, x, F, h => by
    unfold ckE at h
    split at h
    · obtain ⟨h1, h2⟩ := ands h
      obtain ⟨h1, h5⟩ := ands h1
      obtain ⟨h1, h3⟩ := ands h1
      obtain ⟨h3, h4⟩ := ands h3
      obtain ⟨f, hf⟩ := Option.isSome_iff_exists.mp h5
      rw [← F.ini] at hf
      obtain ⟨hm, a, Mk, G⟩ := F.mks C f _ hf (ixB_ok h1)
      obtain ⟨fd, ps, Fn, hb⟩ := G.ex
      obtain ⟨p1, p2⟩ := ckA_plain h2
      refine pe_imp (lift_new (.refl c) (pe_makeS Mk Fn F.room (F.gl h3) hm hb (passAt F.takes) (okN_ok h4).1 (soA es F h2) p1 fun e τ H Q q => by
        cases p2 e
        obtain ⟨σ, M, E, Qd, R, ht, x, q⟩ := q
        exact q [] [] σ M H R .nil (.refl _) ht)) fun τ H Q ⟨σ, M, E, Qd, R, ht, x, q⟩ => ⟨σ, M, E, Qd, R, ?_, x, q⟩
      unfold wpE at ht
      rw [hf] at ht
      exact ht
    · cases h
  | .mth C m o bx es, S, c, X, W, x, F, h => by
    unfold ckE at h
    split at h
    · obtain ⟨h1, h2⟩ := ands h
      obtain ⟨h1, h3⟩ := ands h1
      obtain ⟨h1, h5⟩ := ands h1
      obtain ⟨h3, h4⟩ := ands h3
      obtain ⟨h4, h6⟩ := ands h4
      obtain ⟨h2, h7⟩ := ands h2
      obtain ⟨f, hf⟩ := Option.isSome_iff_exists.mp h5
      rw [← F.mts] at hf
      obtain ⟨cc, hnm, a, hM, G⟩ := F.meths C m f _ hf (ixB_ok h1)
      obtain ⟨fd, ps, Fn, hb⟩ := G.ex
      obtain ⟨p1, p2⟩ := ckA_plain h7
      have hlt : m < tb.nm.length := (List.getElem?_eq_some_iff.mp (ixB_ok h1)).1
      subst hnm
      refine pe_imp (lift_mth (lk := T.meths.lookup (C, m)) (G := Γ) (.refl c) F.inj hlt hf (pe_methS (soE o F h2) cc hM Fn (F.room.mono (Nat.le_succ _)) hb (passAt F.takes) (soA es F h7) p1 (fun e τ H Q q => by
        cases p2 e
        obtain ⟨σ, M, E, Qd, R, ht, x, q⟩ := q
        exact q [] [] σ M H R .nil (.refl _) ht) (of_decide_eq_true h6) h3 h4)) fun τ H Q ⟨σ, M, E, Qd, R, ht, x, q⟩ => ⟨σ, M, E, Qd, R, ?_, x, q⟩
      unfold wpE at ht
      exact ht
    · cases h
  | .fld a m, S, c, X, W, x, F, h => by
    unfold ckE at h
    split at h
    · obtain ⟨h1, h2⟩ := ands h
      obtain ⟨h1, h3⟩ := ands h1
      obtain ⟨h2, h4⟩ := ands h2
      have hnm := F.flds m _ (ixB_ok h1)
      have hlt : m < tb.nm.length := (List.getElem?_eq_some_iff.mp (ixB_ok h1)).1
      have hin : m ∈ tb.fd := by simpa using h3
      subst hnm
      refine pe_imp (lift_fld (ok := fun C => (T.inits.lookup C).isSome) F.inj hlt (fun C hC => F.noa C m hC hin) (pe_fld (soE a F h4) (attr_plain h2))) fun τ H Q ⟨σ, M, E, Qd, R, ht, x, q⟩ => ⟨σ, M, E, Qd, R, ?_, x, q⟩
      unfold wpE at ht
      exact ht
    · cases h
  | .tin n a g, S, c, X, W, x, F, h => by
    unfold ckE at h
    split at h
    · rename_i l o m p q
      obtain ⟨h1, h2⟩ := ands h
      obtain ⟨h1, h3⟩ := ands h1
      obtain ⟨h3, h4⟩ := ands h3
      obtain ⟨h4, h5⟩ := ands h4
      cases hd : T.tabs[g]? with
      | none =>
        have := (List.getElem?_eq_some_iff.mp (ixB_ok h3)).1
        have := List.getElem?_eq_none_iff.mp hd
        have := F.tbl
        omega
      | some kvs =>
        obtain ⟨ad, es, nn, hm, D, TR⟩ := F.tbs g _ kvs (ixB_ok h3) hd
        have eo : o = if n = true then CmpOp.NotIn else CmpOp.In := by
          cases o <;> (first | (cases h1; done) | skip) <;> cases n <;> first | rfl | cases h1
        rw [eo]
        refine pe_imp (lift_tin hd TR (pe_cmpR (or_kd D) (soE a F h2) (pe_glob (F.gl h4) hm rfl (okN_ok h5).1) (mark_plain rfl))) fun τ H Q ⟨σ, M, E, Qd, R, ht, x, q⟩ => ⟨σ, M, E, Qd, R, ?_, x, q⟩
        unfold wpE at ht
        exact ht
    · cases h
  | .tix g a, S, c, X, W, x, F, h => by
    unfold ckE at h
    split at h
    · obtain ⟨h1, h2⟩ := ands h
      obtain ⟨h1, h3⟩ := ands h1
      obtain ⟨h3, h4⟩ := ands h3
      obtain ⟨h4, h5⟩ := ands h4
      cases hd : T.tabs[g]? with
      | none =>
        have := (List.getElem?_eq_some_iff.mp (ixB_ok h3)).1
        have := List.getElem?_eq_none_iff.mp hd
        have := F.tbl
        omega
      | some kvs =>
        obtain ⟨ad, es, nn, hm, D, TR⟩ := F.tbs g _ kvs (ixB_ok h3) hd
        refine pe_imp (lift_tix hd TR (pe_ix (ix_kd D) (pe_glob (F.gl h4) hm rfl (okN_ok h5).1) (soE a F h2) (plainIx h1))) fun τ H Q ⟨σ, M, E, Qd, R, ht, x, q⟩ => ⟨σ, M, E, Qd, R, ?_, x, q⟩
        unfold wpE at ht
        exact ht
    · cases h
  | .tget g a b, S, c, X, W, x, F, h => by
    unfold ckE at h
    split at h
    · obtain ⟨h1, h2⟩ := ands h
      obtain ⟨h1, h3⟩ := ands h1
      obtain ⟨h1, hline⟩ := ands h1
      obtain ⟨h3, hp⟩ := ands h3
      obtain ⟨hp1, hp2⟩ := ands hp
      obtain ⟨h3, h4⟩ := ands h3
      obtain ⟨h4, h5⟩ := ands h4
      obtain ⟨h2, h6⟩ := ands h2
      have en := of_decide_eq_true h1
      subst en
      cases hd : T.tabs[g]? with
      | none =>
        have := (List.getElem?_eq_some_iff.mp (ixB_ok h3)).1
        have := List.getElem?_eq_none_iff.mp hd
        have := F.tbl
        omega
      | some kvs =>
        obtain ⟨ad, es, nn, hm, D, TR⟩ := F.tbs g _ kvs (ixB_ok h3) hd
        have hall : ∀ {u v : Expr}, plainE u = true → plainE v = true → [u, v].all plainE = true := fun a b => by
          show (plainE _ && (plainE _ && true)) = true
          rw [a, b]; rfl
        refine pe_imp (lift_tget hd TR (pe_mG (ty_kd D) PySem.F.plainAttrs_dict PySem.F.slot_dict_get PySem.F.type_dict_get (mt_kdget D) (pe_glob (F.gl h4) hm rfl (okN_ok h5).1) (ll_cons (soE a F h2) (ll_cons (soE b F h6) ll_nil hp2) hp1) (attr_plain rfl) (few_ok (hall hp1 hp2) (by show 2 < 30; omega)) hline (star_cons hp1) (star_all (by show (plainE _ && true) = true; rw [hp2]; rfl)))) fun τ H Q ⟨σ, M, E, Qd, R, ht, x, q⟩ => ⟨σ, M, E, Qd, R, ?_, x, q⟩
        unfold wpE at ht
        exact ht
    · cases h
  | .replI a i y z, S, c, X, W, x, F, h => by
    unfold ckE at h
    split at h
    · obtain ⟨h1, h2⟩ := ands h
      obtain ⟨h1, hline⟩ := ands h1
      obtain ⟨h2, h3⟩ := ands h2
      obtain ⟨h2, h4⟩ := ands h2
      obtain ⟨h4, h5⟩ := ands h4
      have e1 := of_decide_eq_true h1
      have e2 := of_decide_eq_true h2
      have e3 := of_decide_eq_true h4
      have e4 := of_decide_eq_true h5
      subst e1 e2 e3 e4
      refine pe_imp (lift_repl (pe_repl1 (pe1_ix (or_ix F.cx F.units) (pe_LP (soE a F h3))) rfl hline)) fun τ H Q ⟨σ, M, E, Qd, R, ht, x, q⟩ => ⟨σ, M, E, Qd, R, ?_, x, q⟩
      unfold wpE at ht
      exact ht
    · cases h
  | .dead, S, c, X, W, x, F, h => ⟨fun pins s σ H Q I ⟨σ', M, E, Qd, R, ht, _⟩ => by unfold wpE at ht; exact ht.elim⟩
  | .bc b es, S, c, X, W, x, F, h => by
    unfold ckE at h
    split at h
    · split at h
      · rename_i m ty hb
        obtain ⟨h1, h2⟩ := ands h
        obtain ⟨h2, h3⟩ := ands h2
        obtain ⟨h3, h4⟩ := ands h3
        have e := str_dec h1
        subst e
        exact F.bfn hb h2 (soV es F h4) (by simpa using h3) (ckL_plain h4).1
      · rename_i hb
        split at h
        · rename_i t ht
          split at h
          · obtain ⟨a1, a2⟩ := ands h
            obtain ⟨a3, a4⟩ := ands a1
            obtain ⟨a5, a6⟩ := ands a4
            obtain ⟨a7, a8⟩ := ands a6
            have e1 := of_decide_eq_true a3
            have e2 := str_dec a7
            subst e1 e2
            cases es with
            | nil => cases a2
            | cons e es =>
              obtain ⟨q1, q2⟩ := ands (show (plainE _ && (ckE tb e S _ && ckL tb es S [])) = true from a2)
              obtain ⟨q3, q4⟩ := ands q2
              cases (ckL_plain q4).2 rfl
              exact F.isi ht a5 a8 (soE e F q3) q1
          · cases h
        · cases h
    · cases h
  | .bm m o es, S, c, X, W, x, F, h => by
    unfold ckE at h
    split at h
    · split at h
      · rename_i s hs
        obtain ⟨h1, h2⟩ := ands h
        obtain ⟨h1, h3⟩ := ands h1
        obtain ⟨h3, h4⟩ := ands h3
        obtain ⟨h4, h5⟩ := ands h4
        obtain ⟨h2, h6⟩ := ands h2
        have e := str_dec h1
        subst e
        obtain ⟨p1, p2⟩ := ckL_plain h6
        exact F.bmet hs (soE o F h2) (soV es F h6) (fun e => by cases p2 e; rfl) p1 (of_decide_eq_true h5) h3 h4
      · cases h
    · cases h
  | .mm m o es, S, c, X, W, x, F, h => by
    unfold ckE at h
    split at h
    · split at h
      · rename_i s hs
        obtain ⟨h1, h2⟩ := ands h
        obtain ⟨h1, h3⟩ := ands h1
        obtain ⟨h3, h4⟩ := ands h3
        obtain ⟨h4, h5⟩ := ands h4
        obtain ⟨h2, h6⟩ := ands h2
        have e := str_dec h1
        subst e
        obtain ⟨p1, p2⟩ := ckL_plain h6
        exact F.mmet hs (soE o F h2) (soL es F h6) (fun e => by cases p2 e; rfl) p1 (of_decide_eq_true h5) h3 h4
      · cases h
    · cases h
  | .lc e tg it ifs, S, c, X, W, x, F, h => by
    unfold ckE at h
    split at h
    · obtain ⟨h1, h2⟩ := ands h
      obtain ⟨h0, h1⟩ := ands h1
      obtain ⟨h1, h3⟩ := ands h1
      obtain ⟨h3, h4⟩ := ands h3
      obtain ⟨h2, h5⟩ := ands h2
      have ok := F.blkOk h3
      refine pe_imp (pe_lc F.calm F.ndX (pi_any (pe_LP (soE it F h1))) ok (fun s H C cl fp => pg_ex fun c' sm => ((F.blk ok.kind s H C cl fp).to sm).tg h4)
        (fun s H C cl fp => pts_ex fun c' sm => soIfs ifs ((F.blk ok.kind s H C cl fp).to sm) h2) (fun s H C cl fp => pe_ex fun c' sm => pe_LFz (soE e ((F.blk ok.kind s H C cl fp).to sm) h5)) (fold_plain h0)) fun τ H Q q => ?_
      rw [own_map]
      exact tlc_of F.cx.K q
    · cases h
  | .lcr e tg lo hi ifs, S, c, X, W, x, F, h => by
    unfold ckE at h
    split at h
    · obtain ⟨b1, b2⟩ := ands h
      obtain ⟨b3, b4⟩ := ands b1
      obtain ⟨b5, hg⟩ := ands b3
      have en := of_decide_eq_true b5
      subst en
      obtain ⟨b6, b7⟩ := ands b4
      obtain ⟨h3, h4⟩ := ands b7
      obtain ⟨h2, b8⟩ := ands b2
      have h5 := b8
      have ok := F.blkOk h3
      split at b6
      · obtain ⟨h1, h6⟩ := ands b6
        refine pe_imp (pe_lc F.calm F.ndX (pi_range1 (F.gl hg) (F.free (by decide)) (pa_cons (soE hi F h6) pa_nil (star_cons h1)) (star_cons h1)) ok (fun s H C cl fp => pg_ex fun c' sm => ((F.blk ok.kind s H C cl fp).to sm).tg h4)
          (fun s H C cl fp => pts_ex fun c' sm => soIfs ifs ((F.blk ok.kind s H C cl fp).to sm) h2) (fun s H C cl fp => pe_ex fun c' sm => pe_LFz (soE e ((F.blk ok.kind s H C cl fp).to sm) h5)) (fold_plain rfl)) fun τ H Q q => ?_
        rw [own_map]
        exact tlr1_of q
      · rename_i lo' _ _
        obtain ⟨b9, b10⟩ := ands b6
        obtain ⟨h1, h8⟩ := ands b9
        obtain ⟨h6, h7⟩ := ands b10
        refine pe_imp (pe_lc F.calm F.ndX (pi_range2 (F.gl hg) (F.free (by decide)) (pa_cons (soE lo' F h6) (pa_cons (soE hi F h7) pa_nil (star_cons h8)) (star_cons h1)) (by rw [star_cons h1, star_cons h8]; rfl) (star_cons h8)) ok (fun s H C cl fp => pg_ex fun c' sm => ((F.blk ok.kind s H C cl fp).to sm).tg h4)
          (fun s H C cl fp => pts_ex fun c' sm => soIfs ifs ((F.blk ok.kind s H C cl fp).to sm) h2) (fun s H C cl fp => pe_ex fun c' sm => pe_LFz (soE e ((F.blk ok.kind s H C cl fp).to sm) h5)) (fold_plain rfl)) fun τ H Q q => ?_
        rw [own_map]
        exact tlr2_of q
      · cases b6
    · cases h
  | .dc a b tg it ifs, S, c, X, W, x, F, h => by
    unfold ckE at h
    split at h
    · obtain ⟨h1, h2⟩ := ands h
      obtain ⟨h0, h1⟩ := ands h1
      obtain ⟨h1, h3⟩ := ands h1
      obtain ⟨h3, h4⟩ := ands h3
      obtain ⟨h2, h5⟩ := ands h2
      obtain ⟨h5, h6⟩ := ands h5
      have ok := F.blkOk h3
      refine pe_imp (pe_dc F.calm F.ndX (pi_any (pe_LP (soE it F h1))) ok (fun s H C cl fp => pg_ex fun c' sm => ((F.blk ok.kind s H C cl fp).to sm).tg h4)
        (fun s H C cl fp => pts_ex fun c' sm => soIfs ifs ((F.blk ok.kind s H C cl fp).to sm) h2) (fun s H C cl fp => pe_ex fun c' sm => pe_LFz (soE a ((F.blk ok.kind s H C cl fp).to sm) h5))
        (fun s H C cl fp => pe_ex fun c' sm => pe_LFz (soE b ((F.blk ok.kind s H C cl fp).to sm) h6)) (fold_plain h0)) fun τ H Q q => ?_
      rw [own_map]
      exact tdc_of F.cx.K q
    · cases h
  | .dcr a b tg lo hi ifs, S, c, X, W, x, F, h => by
    unfold ckE at h
    split at h
    · obtain ⟨b1, b2⟩ := ands h
      obtain ⟨b3, b4⟩ := ands b1
      obtain ⟨b5, hg⟩ := ands b3
      have en := of_decide_eq_true b5
      subst en
      obtain ⟨b6, b7⟩ := ands b4
      obtain ⟨h3, h4⟩ := ands b7
      obtain ⟨h2, b8⟩ := ands b2
      obtain ⟨h5, h9⟩ := ands b8
      have ok := F.blkOk h3
      split at b6
      · obtain ⟨h1, h6⟩ := ands b6
        refine pe_imp (pe_dc F.calm F.ndX (pi_range1 (F.gl hg) (F.free (by decide)) (pa_cons (soE hi F h6) pa_nil (star_cons h1)) (star_cons h1)) ok (fun s H C cl fp => pg_ex fun c' sm => ((F.blk ok.kind s H C cl fp).to sm).tg h4)
          (fun s H C cl fp => pts_ex fun c' sm => soIfs ifs ((F.blk ok.kind s H C cl fp).to sm) h2) (fun s H C cl fp => pe_ex fun c' sm => pe_LFz (soE a ((F.blk ok.kind s H C cl fp).to sm) h5))
          (fun s H C cl fp => pe_ex fun c' sm => pe_LFz (soE b ((F.blk ok.kind s H C cl fp).to sm) h9)) (fold_plain rfl)) fun τ H Q q => ?_
        rw [own_map]
        exact tdr1_of q
      · rename_i lo' _ _
        obtain ⟨b9, b10⟩ := ands b6
        obtain ⟨h1, h8⟩ := ands b9
        obtain ⟨h6, h7⟩ := ands b10
        refine pe_imp (pe_dc F.calm F.ndX (pi_range2 (F.gl hg) (F.free (by decide)) (pa_cons (soE lo' F h6) (pa_cons (soE hi F h7) pa_nil (star_cons h8)) (star_cons h1)) (by rw [star_cons h1, star_cons h8]; rfl) (star_cons h8)) ok (fun s H C cl fp => pg_ex fun c' sm => ((F.blk ok.kind s H C cl fp).to sm).tg h4)
          (fun s H C cl fp => pts_ex fun c' sm => soIfs ifs ((F.blk ok.kind s H C cl fp).to sm) h2) (fun s H C cl fp => pe_ex fun c' sm => pe_LFz (soE a ((F.blk ok.kind s H C cl fp).to sm) h5))
          (fun s H C cl fp => pe_ex fun c' sm => pe_LFz (soE b ((F.blk ok.kind s H C cl fp).to sm) h9)) (fold_plain rfl)) fun τ H Q q => ?_
        rw [own_map]
        exact tdr2_of q
      · cases b6
    · cases h
theorem soT : ∀ e : CT, SoT T Γ tb k e
  | .val e, S, c, X, W, x, F, h => by
    unfold ckT at h
    obtain ⟨h1, h2⟩ := ands h
    split at h1
    · refine pt_only ?_ (fun _ _ _ z => nomatch z)
      cases e with
      | cmp op a b =>
        unfold ckE at h2
        split at h2
        · rename_i hx
          cases hx
          obtain ⟨g1, g2⟩ := ands h2
          obtain ⟨g1, g0⟩ := ands g1
          obtain ⟨g2, g3⟩ := ands g2
          rw [opC_ok g1]
          exact lift2t (pt_cmpR (or_cmp F.cx F.units op) (pe_LP (soE a F g2)) (pe_LP (soE b F g3)) (mark_plain g0))
        · cases h2
      | chain o1 o2 a b d =>
        unfold ckE at h2
        split at h2
        · rename_i hx
          cases hx
          obtain ⟨g1, g2⟩ := ands h2
          obtain ⟨g1, g0⟩ := ands g1
          obtain ⟨g1, g5⟩ := ands g1
          obtain ⟨g2, g3⟩ := ands g2
          obtain ⟨g3, g4⟩ := ands g3
          rw [opC_ok g1, opC_ok g5]
          exact pt_imp (pt_chain (or_cmp F.cx F.units o1) (or_cmp F.cx F.units o2) (soE a F g2) (soE b F g3) (pe_LP (soE d F g4)) (last_plain g0)) fun τ H Q q => chain_impT q
        · cases h2
      | isN n a =>
        unfold ckE at h2
        split at h2
        · rename_i l o j p q hx
          cases hx
          obtain ⟨g1, g2⟩ := ands h2
          refine lift_isNT ?_
          cases o <;> (first | (cases g1; done) | skip)
          · cases n with
            | true => cases g1
            | false => exact pt_cmp (pc_isN (soE a F g2))
          · cases n with
            | false => cases g1
            | true => exact pt_cmp (pc_notN (soE a F g2))
        · cases h2
      | isB n a b =>
        unfold ckE at h2
        split at h2
        · rename_i l o b' j p q hx
          cases hx
          obtain ⟨g1, g2⟩ := ands h2
          obtain ⟨g1, g3⟩ := ands g1
          have e := eq_of_beq g3
          subst e
          refine lift_isBT ?_
          have eo : o = if n = true then CmpOp.IsNot else CmpOp.Is := by
            cases o <;> (first | (cases g1; done) | skip) <;> cases n <;> first | rfl | cases g1
          rw [eo]
          exact pt_cmpR or_isB (soE a F g2) pe_bl (mark_plain rfl)
        · cases h2
      | tin n a g =>
        unfold ckE at h2
        split at h2
        · rename_i l o m p q hx
          cases hx
          obtain ⟨g1, g2⟩ := ands h2
          obtain ⟨g1, g3⟩ := ands g1
          obtain ⟨g3, g4⟩ := ands g3
          obtain ⟨g4, g5⟩ := ands g4
          cases hd : T.tabs[g]? with
          | none =>
            have := (List.getElem?_eq_some_iff.mp (ixB_ok g3)).1
            have := List.getElem?_eq_none_iff.mp hd
            have := F.tbl
            omega
          | some kvs =>
            obtain ⟨ad, es, nn, hm, D, TR⟩ := F.tbs g _ kvs (ixB_ok g3) hd
            have eo : o = if n = true then CmpOp.NotIn else CmpOp.In := by
              cases o <;> (first | (cases g1; done) | skip) <;> cases n <;> first | rfl | cases g1
            rw [eo]
            refine pt_imp (lift_tinT hd TR (pt_cmpR (or_kd D) (soE a F g2) (pe_glob (F.gl g4) hm rfl (okN_ok g5).1) (mark_plain rfl))) fun τ H Q ⟨σ, M, E, Qd, R, ht, x, q⟩ => ⟨σ, M, E, Qd, R, ?_, x, q⟩
            unfold wpT at ht
            unfold wpE at ht
            exact ht
        · cases h2
      | _ => cases h1
    · refine pt_only (lift_val F.cx.K (pt_truth (pe_LP (soE e F h2)) (test_plain h1))) fun o vs p z => ?_
      subst z
      cases h1
  | .jnr s a o y z, S, c, X, W, x, F, h => by
    unfold ckT at h
    split at h
    · obtain ⟨h1, h2⟩ := ands h
      obtain ⟨h1, h3⟩ := ands h1
      obtain ⟨h1, l1⟩ := ands h1
      obtain ⟨h3, l2⟩ := ands h3
      obtain ⟨h4, h5⟩ := ands h2
      obtain ⟨h4, h6⟩ := ands h4
      obtain ⟨h4, hz⟩ := ands h4
      obtain ⟨h6, h7⟩ := ands h6
      obtain ⟨h6, h8⟩ := ands h6
      obtain ⟨h7, h9⟩ := ands h7
      obtain ⟨h5, h10⟩ := ands h5
      have e1 := of_decide_eq_true h1
      have e2 := of_decide_eq_true h3
      have e3 := of_decide_eq_true h4
      have e4 := of_decide_eq_true h6
      have e5 := of_decide_eq_true h8
      have hz := of_decide_eq_true hz
      subst e1 e2 e3 e4 e5
      refine pt_only (pt_imp (lift_jnrT (pt_cmp1 or_neS (pe1_mG (rM_join F.cx.K) (lv_cons (soE a F h5) lv_nil h7) h7 l1) (pet_repl (soE o F h10) h9 l2) (mark_plain rfl)) (by show _ ≤ 16777216; omega)) fun τ H Q ⟨σ, M, E, Qd, R, ht, x, q⟩ => ⟨σ, M, E, Qd, R, ?_, x, q⟩) (fun _ _ _ z => nomatch z)
      unfold wpT at ht
      exact ht
    · cases h
  | .not a, S, c, X, W, x, F, h => by
    unfold ckT at h
    split at h
    · exact pt_only (lift_tnot (pt_not (soT a F h).1)) (fun _ _ _ z => nomatch z)
    · cases h
  | .and a b, S, c, X, W, x, F, h => by
    unfold ckT at h
    split at h
    · obtain ⟨h1, h2⟩ := ands h
      exact pt_pw (lift_tand (pw_and (soT a F h1).1 (pw_and1 (soT b F h2).1)))
    · obtain ⟨h1, h2⟩ := ands h
      exact pt_pw (lift_tand (pw_and (soT a F h1).1 ((soT b F h2).2 _ _ _ rfl)))
    · cases h
  | .or a b, S, c, X, W, x, F, h => by
    unfold ckT at h
    split at h
    · obtain ⟨h1, h2⟩ := ands h
      exact pt_pw (lift_tor (pw_or (soT a F h1).1 (pw_or1 (soT b F h2).1)))
    · obtain ⟨h1, h2⟩ := ands h
      exact pt_pw (lift_tor (pw_or (soT a F h1).1 ((soT b F h2).2 _ _ _ rfl)))
    · cases h
  | .ife _ _ _, S, c, X, W, x, F, h => by
    unfold ckT at h
    cases h
theorem soL : ∀ (es : List CE) {S : Sx} {c : Cc} {X : Cx} {W : WX} {xs : List Expr}, Fx T Γ tb k S c X W → ckL tb es S xs = true → PA X xs (LL c W fun E σ M Q => wpL T Γ E es σ M Q)
  | [], S, c, X, W, xs, F, h => by
    cases xs with
    | nil => exact ll_nil
    | cons _ _ => cases h
  | e :: es, S, c, X, W, xs, F, h => by
    cases xs with
    | nil => cases h
    | cons x xs =>
      obtain ⟨h1, h2⟩ := ands (show (plainE x && (ckE tb e S x && ckL tb es S xs)) = true from h)
      obtain ⟨h2, h3⟩ := ands h2
      exact ll_cons (soE e F h2) (soL es F h3) h1
theorem soV : ∀ (es : List CE) {S : Sx} {c : Cc} {X : Cx} {W : WX} {xs : List Expr}, Fx T Γ tb k S c X W → ckL tb es S xs = true → PA X xs (LV c W fun E σ M Q => wpV T Γ E es σ M Q)
  | [], S, c, X, W, xs, F, h => by
    cases xs with
    | nil => exact lv_nil
    | cons _ _ => cases h
  | e :: es, S, c, X, W, xs, F, h => by
    cases xs with
    | nil => cases h
    | cons x xs =>
      obtain ⟨h1, h2⟩ := ands (show (plainE x && (ckE tb e S x && ckL tb es S xs)) = true from h)
      obtain ⟨h2, h3⟩ := ands h2
      exact lv_cons (soE e F h2) (soV es F h3) h1
theorem soA : ∀ (es : List CE) {bx : List Bool} {S : Sx} {c : Cc} {X : Cx} {W : WX} {xs : List Expr}, Fx T Γ tb k S c X W → ckA tb es bx S xs = true → PA X xs (LL c W fun E σ M Q => wpA T Γ E bx es σ M Q)
  | [], bx, S, c, X, W, xs, F, h => by
    cases xs with
    | nil => exact ll_nil
    | cons _ _ => cases h
  | e :: es, bx, S, c, X, W, xs, F, h => by
    cases xs with
    | nil => cases h
    | cons x xs =>
      obtain ⟨h1, h2⟩ := ands (show (plainE x && (ckE tb e S x && ckA tb es bx.tail S xs)) = true from h)
      obtain ⟨h2, h3⟩ := ands h2
      cases hb : bx.headD false with
      | true =>
        refine pa_imp (ll_consB (soE e F h2) (soA es (bx := bx.tail) F h3) h1) fun τ H Q ⟨σ, M, E, Qd, R, ht, x, q⟩ => ⟨σ, M, E, Qd, R, ?_, x, q⟩
        unfold wpA at ht
        rw [hb] at ht
        exact ht
      | false =>
        refine pa_imp (ll_cons (soE e F h2) (soA es (bx := bx.tail) F h3) h1) fun τ H Q ⟨σ, M, E, Qd, R, ht, x, q⟩ => ⟨σ, M, E, Qd, R, ?_, x, q⟩
        unfold wpA at ht
        rw [hb] at ht
        exact ht
theorem soD : ∀ (es : List CE) {S : Sx} {c : Cc} {X : Cx} {W : WX} {ks : List (Option Expr)} {vs : List Expr} {pos : Pos}, Fx T Γ tb k S c X W → ckD tb es S ks vs = true →
    PPs X pos ks vs (dspT c (es.map fun e => fun E σ M Q => wpE T Γ E e σ M Q)) ∧ evenL (es.map fun e => fun E σ M Q => wpE T Γ E e σ M Q) = true ∧ ks.all (·.isSome) = true ∧ ks.length = vs.length ∧ (ks = [] → vs = [] ∧ es = [])
  | [], S, c, X, W, ks, vs, pos, F, h => by
    obtain ⟨h1, h2⟩ := ands (show (ks.isEmpty && vs.isEmpty) = true from h)
    rw [List.isEmpty_iff] at h1 h2
    subst h1 h2
    exact ⟨pps_nil, rfl, rfl, rfl, fun _ => ⟨rfl, rfl⟩⟩
  | [_], S, c, X, W, ks, vs, pos, F, h => by cases h
  | a :: b :: es, S, c, X, W, ks, vs, pos, F, h => by
    unfold ckD at h
    split at h
    · obtain ⟨h1, h2⟩ := ands h
      obtain ⟨h1, h3⟩ := ands h1
      obtain ⟨g1, g2, g3, g4, g5⟩ := soD es F h2
      exact ⟨pps_cons (pe_ex fun c' sm => pe_LFz (le_W0 (soE a ((F.to sm)) h1))) (pe_ex fun c' sm => pe_LFz (le_W0 (soE b ((F.to sm)) h3))) g1, g2, g3, congrArg (· + 1) g4, fun z => nomatch z⟩
    · cases h
theorem soO : ∀ (e : Option CE) {S : Sx} {c : Cc} {X : Cx} {W : WX} {x : Option Expr}, Fx T Γ tb k S c X W → ckO tb e S x = true → PO X x (LO c W fun E σ M Q => wpO T Γ E e σ M Q)
  | none, S, c, X, W, x, F, h => by
    cases x with
    | none => exact lo_none
    | some _ => cases h
  | some e, S, c, X, W, x, F, h => by
    cases x with
    | none => cases h
    | some x => exact lo_some (soE e F h)
theorem soIfs : ∀ (ts : List CT) {S : Sx} {c : Cc} {X : Cx} {W : WX} {xs : List Expr}, Fx T Γ tb k S c X W → ckIfs tb ts S xs = true → PTs X xs (LT c W fun E σ M Q => wpIfs T Γ E ts σ M Q)
  | [], S, c, X, W, xs, F, h => by
    cases xs with
    | nil => exact lts_nil
    | cons _ _ => cases h
  | t :: ts, S, c, X, W, xs, F, h => by
    unfold ckIfs at h
    split at h
    · obtain ⟨h1, h2⟩ := ands h
      cases ts with
      | nil => exact lts_one (soT t F h2).1
      | cons _ _ => cases h1
    · cases h
end
end
end Pv

/-! E8k: statements, lifted. -/
namespace Pv
open PySem PySem.Spec PyProof.Rows L2
open PySem.W (Frag)
section
variable {c : Cc} {C : Mem} {σ : St} {M M' : Mem} {τ : L2.St} {H H' : Hp} {X : Cx} {W : WX} {st : Stmt} {pos p : Pos}
structure EndsOk (c : Cc) (W : WX) (Dd : EndsD) (D : Ends) (H : Hp) : Prop where
  nx : ∀ σ M τ H', Rep c σ M τ H' → Keeps H H' → Dd.nx σ M → D.nx τ H'
  bk : ∀ σ M τ H', Rep c σ M τ H' → Keeps H H' → Dd.bk σ M → D.bk τ H'
  ct : ∀ σ M τ H', Rep c σ M τ H' → Keeps H H' → Dd.ct σ M → D.ct τ H'
  rt : ∀ d v M H', (∀ i, d ≠ .slot i) → RepT c d v [] M [] H' → Keeps H H' → Dd.rt d M → D.rt v H'
  ex : ∀ τ, XOk c W τ Dd.ex
theorem EndsOk.keep {Dd : EndsD} {D : Ends} (k : Keeps H H') (e : EndsOk c W Dd D H) : EndsOk c W Dd D H' :=
  ⟨fun σ M τ H2 R k2 h => e.nx σ M τ H2 R (k.trans k2) h, fun σ M τ H2 R k2 h => e.bk σ M τ H2 R (k.trans k2) h, fun σ M τ H2 R k2 h => e.ct σ M τ H2 R (k.trans k2) h,
    fun d v M H2 n R k2 h => e.rt d v M H2 n R (k.trans k2) h, e.ex⟩
abbrev KS := EndsD → Ks
def LS (c : Cc) (W : WX) (t : KS) : TS := fun D τ H => ∃ σ M Dd, Rep c σ M τ H ∧ t Dd σ M ∧ EndsOk c W Dd D H
variable {t u : KS} {tA tB tC : KE}

def vNext : KS := fun D σ M => D.nx σ M
def vSeq (t u : KS) : KS := fun D σ M => t { D with nx := fun σ M => u D σ M } σ M
theorem ls_nil : PSs X [] (LS c W vNext) := pss_imp pss_nil fun D τ H ⟨σ, M, Dd, R, h, e⟩ => e.nx σ M τ H R (.refl _) h
theorem ls_cons {sts : List Stmt} (h1 : PS X st (LS c W t)) (h2 : PSs X sts (LS c W u)) : PSs X (st :: sts) (LS c W (vSeq t u)) :=
  pss_imp (pss_cons h1 h2) fun D τ H ⟨σ, M, Dd, R, h, e⟩ => ⟨σ, M, _, R, h, ⟨fun σ' M' τ' H' R' k h' => ⟨σ', M', Dd, R', h', e.keep k⟩, e.bk, e.ct, e.rt, e.ex⟩⟩
theorem ls_pass : PS X (.Pass pos) (LS c W vNext) := ps_imp ps_pass fun D τ H ⟨σ, M, Dd, R, h, e⟩ => e.nx σ M τ H R (.refl _) h
def vBrk : KS := fun D σ M => D.bk σ M
def vCnt : KS := fun D σ M => D.ct σ M
theorem ls_brk : PS X (.Break pos) (LS c W vBrk) := ps_imp ps_break fun D τ H ⟨σ, M, Dd, R, h, e⟩ => e.bk σ M τ H R (.refl _) h
theorem ls_cnt : PS X (.Continue pos) (LS c W vCnt) := ps_imp ps_continue fun D τ H ⟨σ, M, Dd, R, h, e⟩ => e.ct σ M τ H R (.refl _) h
theorem repT0 {d : D} {v : V} (R : Rep c σ M τ H) (h : RelP c H d v) : RepT c d v [] M [] H := by
  obtain ⟨C, R⟩ := R
  have R0 : RepC c C [] M [] H := R.slot rfl (fun i d e => by simp at e) fun i j d e v q => by simp at q
  obtain ⟨z1, z2⟩ := rel_plain h
  exact tmp_plain R0 z1 z2 h
def vRetN : KS := fun D _ M => D.rt .non M
theorem ls_retN : PS X (.Return none pos) (LS c W vRetN) := ps_imp ps_retN fun D τ H ⟨σ, M, Dd, R, h, e⟩ => e.rt .non .non M H (fun i z => nomatch z) (repT0 R .non) (.refl _) h
def vRet (tA : KE) : KS := fun D σ M => tA D.ex σ M fun d σ M => handed d σ M D.rt
theorem ls_ret {e : Expr} (h : PE X e (LE c W tA)) : PS X (.Return (some e) pos) (LS c W (vRet tA)) :=
  ps_imp (ps_ret h) fun D τ H ⟨σ, M, Dd, R, h, e⟩ => ⟨σ, M, Dd.ex, _, R, h, e.ex τ, fun d v σ' M' H' r k hq => by
    obtain ⟨d', n, r', q⟩ := r.handed hq
    exact e.rt d' v M' H' n r' k q⟩
def vEx (tA : KE) : KS := fun D σ M => tA D.ex σ M fun _ σ M => D.nx σ M
theorem ls_ex {e : Expr} (h : PE X e (LE c W tA)) (hc : noComp e = true) : PS X (.Expr e pos) (LS c W (vEx tA)) :=
  ps_imp (ps_expr h (swap_plain hc)) fun D τ H ⟨σ, M, Dd, R, h, e⟩ => ⟨σ, M, Dd.ex, _, R, h, e.ex τ, fun d v σ' M' H' r k hq => e.nx _ _ _ _ r.rep k hq⟩
def vIfS (tc : KT) (t u : KS) : KS := fun D σ M => tc D.ex σ M fun b σ M => if b = true then t D σ M else u D σ M
theorem ls_if {e : Expr} {as bs : List Stmt} {tc : KT} (h : PT X e (LT c W tc)) (h1 : PSs X as (LS c W t)) (h2 : PSs X bs (LS c W u)) : PS X (.If e as bs pos) (LS c W (vIfS tc t u)) :=
  ps_imp (ps_if h h1 h2) fun D τ H ⟨σ, M, Dd, R, h, e⟩ => ⟨σ, M, Dd.ex, _, R, h, e.ex τ, fun b σ' M' H' R' k hq => by
    cases b with
    | true => exact ⟨σ', M', Dd, R', hq, e.keep k⟩
    | false => exact ⟨σ', M', Dd, R', hq, e.keep k⟩⟩

/-! ### assignments -/
def vAsg (i : Nat) (tA : KE) : KS := fun D σ M => tA D.ex σ M (kAsg i D)
theorem asg_own {i : Nat} {d : D} {o : MO} {v : V} (ho : asMO d = some o) (r : RepT c d v σ M τ H) : Rep c (σ.set i (some d)) M (τ.set i (some v)) H := by
  obtain ⟨C, R, t⟩ := r
  unfold TmpR at t
  split at t
  · cases ho
  · exact ⟨C, R.setO (own_of ho) t.1 (t.2 (own_of ho))⟩
theorem kAsg_ok {i : Nat} {d : D} {v : V} {Dd : EndsD} {D' : Ends} {H0 : Hp} (r : RepT c d v σ M τ H) (k : Keeps H0 H) (e : EndsOk c W Dd D' H0) (h : kAsg i Dd d σ M) :
    D'.nx (τ.set i (some v)) H ∨ ∃ a u, v = .ref a ∧ H a = some u ∧ Frzb a u ∧ ∀ o, D'.nx (τ.set i (some v)) (upd H a (.frz o u)) := by
  have pl : frz d σ M (fun d σ M => Dd.nx (σ.set i (some d)) M) → D'.nx (τ.set i (some v)) H ∨ ∃ a u, v = .ref a ∧ H a = some u ∧ Frzb a u ∧ ∀ o, D'.nx (τ.set i (some v)) (upd H a (.frz o u)) := fun h => by
    rcases r.frozen h with ⟨d', σ', R', rr, hq⟩ | ⟨a, u, rfl, hu, f, g⟩
    · exact .inl (e.nx _ _ _ _ (R'.set1 rr) k hq)
    · refine .inr ⟨a, u, rfl, hu, f, fun o => ?_⟩
      obtain ⟨d', σ', R', rr, k', hq⟩ := g o
      exact e.nx _ _ _ _ (R'.set1 rr) (k.trans k') hq
  cases d with
  | ol xs => exact .inl (e.nx _ _ _ _ (asg_own (o := .l xs) rfl r) k h)
  | od kvs => exact .inl (e.nx _ _ _ _ (asg_own (o := .d kvs) rfl r) k h)
  | _ => exact pl h
theorem asg_imp {i : Nat} {D' : Ends} (h : LS c W (vAsg i tA) D' τ H) : tAsg (tF (LE c W tA)) (gName i) D' τ H := by
  obtain ⟨σ, M, Dd, R, h, e⟩ := h
  exact ⟨σ, M, Dd.ex, _, R, h, e.ex τ, fun d v σ' M' H' r k hq => kAsg_ok r k e hq⟩
theorem ls_asg {e : Expr} {i : Nat} {n : Str} (h : PE X e (LE c W tA)) (hN : X.N.Nodup) (hi : X.N[i]? = some n) (hx : Loc X.env.scope n) (hs : swapsWith e (some (.Name n p)) pos.line X.env = pure false) (hf : X.fn n = true ∨ X.env.scope.names.lookup n = some .local) :
    PS X (.Assign [.Name n p] e pos) (LS c W (vAsg i tA)) := ps_imp (ps_set hN hi hx (pe_frz h) hs hf) fun D τ H q => asg_imp q
theorem swapNone_sub {a b v : Expr} {env : Env} : swappedStores [.Subscript a b p] v env = pure none := by
  cases v <;> rfl
def noTup : Expr → Bool
  | .Tuple _ _ _ => false
  | _ => true
theorem swapNone_tup {es : List Expr} {j : Nat} {v : Expr} {env : Env} (h : noTup v = true) : swappedStores [.Tuple es j p] v env = pure none := by
  cases v <;> first | rfl | cases h
def vAsgT (tg : Tg) (tA : KE) : KS := fun D σ M => tA D.ex σ M fun d σ M => frz d σ M fun d σ M => store tg d σ M D.nx
theorem ls_asgT {e x : Expr} {tg : Tg} (h : PE X e (LE c W tA)) (hg : PG X x (LG c tg)) (hc : noComp e = true) (hw : swappedStores [x] e X.env = pure none) (h1 : (assignEach [x] X.env).map (·.2) = [assign x X.env]) : PS X (.Assign [x] e pos) (LS c W (vAsgT tg tA)) :=
  ps_imp (ps_asg (pe_LFz h) hg (swap_plain hc) hw h1) fun D τ H ⟨σ, M, Dd, R, h, e⟩ => ⟨σ, M, Dd.ex, _, R, h, e.ex τ, fun d v σ' M' H' R' r k hq => ⟨σ', M', d, _, R', r, hq, fun σ2 M2 τ2 R2 _ h2 => e.nx _ _ _ _ R2 k h2⟩⟩
theorem assign_sub {o i : Expr} {env : Env} (h : noSlice i = true) (v : Value) : assign (.Subscript o i p) env v = (do
      let x ← holding [v] (eval o env)
      let y ← holding [v, x] (eval i env)
      standAt p
      holding [v, x, y] (setItem x y v)
      release [v, x, y] []) := by
  cases i <;> first | rfl | cases h
/-- a[i] = v -/
def vSet (tA tB tC : KE) : KS := fun D σ M => tC D.ex σ M fun v σ M => frz v σ M fun v σ M => tA D.ex σ M fun o σ M => tB D.ex σ M fun k σ M =>
  change o (fun b => (opSet b (pk k) v).map fun c => (c, .non)) σ M fun _ σ M => D.nx σ M
def alB : D → Bool
  | .slot _ => true
  | .ref _ => true
  | _ => false
theorem change_al {d : D} {f : MO → Option (MO × D)} {Q : Kt} (h : change d f σ M Q) : alB d = true := by
  cases d <;> first | rfl | exact h.elim
theorem pk_al {d : D} {v : V} (h : alB d = true) (r : RepT c d v σ M τ H) : PkR c σ τ H d v := by
  obtain ⟨C, R, t⟩ := r
  cases d with
  | slot i => exact t.1
  | ref a => exact ⟨rfl, t.rel (fun i z => nomatch z) rfl⟩
  | _ => cases h
/-- what is in hand, held where it is another name -/
def Hold (c : Cc) (σ : St) (τ : L2.St) (H : Hp) (d : D) (v : V) : Prop := alB d = true → PkR c σ τ H d v
theorem ls_set {a i e : Expr} (ha : PE X a (LE c W tA)) (hi : PE X i (LE c W tB)) (he : PE X e (LE c W tC)) (cx : CX' X c) (hu : X.A.units + 65 < cLine) (hc : noComp e = true) (hsl : noSlice i = true) : PS X (.Assign [.Subscript a i p] e pos) (LS c W (vSet tA tB tC)) :=
  ps_imp (ps_asg (pe_LFz he) (pg_sub ha (pe_LP hi) (ps_store cx hu) (assign_sub hsl)) (hs := swap_plain (tg := some (.Subscript a i p)) (l := pos.line) (env := X.env) hc) swapNone_sub) fun D τ H ⟨σ, M, Dd, R, h, e⟩ => ⟨σ, M, Dd.ex, _, R, h, e.ex τ, fun dv v σ1 M1 H1 R1 r1 k1 h1 =>
    ⟨σ1, M1, Dd.ex, _, R1, h1, e.ex τ, fun o ov σ2 M2 H2 r2 k2 h2 => ⟨σ2, M2, Dd.ex, _, r2.rep, h2, e.ex τ, fun ix iv σ3 M3 H3 R3 p3 k3 h3 => by
      have p2 := pk_al (change_al h3) r2
      obtain ⟨a, b, b', r, e1, hb, _, hf, g⟩ := R3.change (p2.keep k3) h3
      obtain ⟨bb, e2, e3⟩ := Option.map_eq_some_iff.mp hf
      cases e3
      refine ⟨a, b, pk ix, dv, _, e1, hb, pk_view p3, r1.keep (k2.trans k3), e2, fun H' w => ?_⟩
      obtain ⟨σ', M', R', hq, k4⟩ := g H' w
      exact e.nx _ _ _ _ R' (k1.trans (k2.trans (k3.trans k4))) hq⟩⟩⟩

/-- a.x = e -/
theorem ls_setF {o v : Expr} {p' : Pos} {ok : Nat → Bool} {n x : Nat} (hn : NmI c n) (hx : x < n) (hcl : ∀ C, ok C = true → Cls X.K (c.cA C) ∧ NoAttr X.K (c.cA C) (c.nm x)) (ha : PE X o (LE c W tA)) (hv : PE X v (LE c W tC)) (hc : noComp v = true) :
    PS X (.Assign [.Attribute o (c.nm x) p'] v pos) (LS c W (vSetF ok tA x tC)) :=
  ps_imp (ps_fld ha (pe_LBx hv) (swap_plain hc)) fun D τ H ⟨σ, M, Dd, R, h, e⟩ => ⟨σ, M, Dd.ex, _, R, h, e.ex τ, fun dv u σ1 M1 H1 R1 r1 k1 h1 => ⟨σ1, M1, Dd.ex, _, R1, h1, e.ex τ, fun ov w σ2 M2 H2 t2 k2 ⟨p, C, fs, eo, em, ec, el, h2⟩ => by
    subst eo
    have ev := ref_T t2
    subst ev
    obtain ⟨dx, vfs, e1, r, e2⟩ := t2.rep.box em
    obtain ⟨c1, c2⟩ := hcl C ec
    obtain ⟨C0, R2, _⟩ := t2
    obtain ⟨R3, k3⟩ := R2.writeI em e1 e2 (fld_put hn hx (r1.keep k2) r)
    have hl := fld_len r
    exact ⟨p, _, dx, vfs, rfl, e1, c1, c2, by omega, e.nx _ _ _ _ ⟨_, R3⟩ (k1.trans (k2.trans k3)) h2⟩⟩⟩

/-! ### while -/
def vWhl (tc : KT) (t : KS) : KS := fun D σ M => ∃ Wd : Nat → Ks, (∃ m, Wd m σ M) ∧ ∀ m σ M, Wd m σ M → tc D.ex σ M fun b σ M =>
  if b = true then t { D with nx := fun σ M => ∃ m', m' < m ∧ Wd m' σ M, ct := fun σ M => ∃ m', m' < m ∧ Wd m' σ M, bk := D.nx } σ M else D.nx σ M
theorem ls_whl {e : Expr} {bs : List Stmt} {tc : KT} (hp : PassesOwn (model X.prog X.w) X.A X.env X.xe) (h : PT X e (LT c W tc)) (hb : PSs X bs (LS c W t)) : PS X (.While e bs [] pos) (LS c W (vWhl tc t)) :=
  ps_imp (ps_while hp h hb) fun D τ H ⟨σ, M, Dd, R, ⟨Wd, ⟨m, w0⟩, turn⟩, e⟩ => ⟨fun m τ' H' => ∃ σ M, Rep c σ M τ' H' ∧ Keeps H H' ∧ Wd m σ M, ⟨m, σ, M, R, .refl _, w0⟩, fun m τ' H' ⟨σ1, M1, R1, k1, w1⟩ =>
    ⟨σ1, M1, Dd.ex, _, R1, turn m σ1 M1 w1, e.ex τ', fun b σ2 M2 H2 R2 k2 hq => by
      cases b with
      | false => exact e.nx _ _ _ _ R2 (k1.trans k2) hq
      | true =>
        refine ⟨fun τ'' H'' => ∃ m', m' < m ∧ ∃ σ M, Rep c σ M τ'' H'' ∧ Keeps H H'' ∧ Wd m' σ M, fun _ _ z => z, σ2, M2, _, R2, hq, ?_⟩
        have e2 := e.keep (k1.trans k2)
        exact ⟨fun σ3 M3 τ3 H3 R3 k3 ⟨m', hm, w3⟩ => ⟨m', hm, σ3, M3, R3, k1.trans (k2.trans k3), w3⟩, fun σ3 M3 τ3 H3 R3 k3 h3 => e2.nx _ _ _ _ R3 k3 h3,
          fun σ3 M3 τ3 H3 R3 k3 ⟨m', hm, w3⟩ => ⟨m', hm, σ3, M3, R3, k1.trans (k2.trans k3), w3⟩, e2.rt, e2.ex⟩⟩⟩

/-! ### for -/
def forStep (tg : Tg) (t : KS) (De : EndsD) : D → Ks → Ks := fun x k τ N => store tg x τ N fun τ N => t { De with nx := k, ct := k, bk := De.nx } τ N
theorem loop_for {J : It} {ok : Ks} {xs : List D} {tg : Tg} {Dd : EndsD} {D' : Ends} {σ1 : St} {M1 : Mem} {H0 : Hp} (S : SrcR c J ok (fun _ => True) H xs) (R0 : Rep c σ1 M1 τ H) (k0 : Keeps H0 H) (e : EndsOk c W Dd D' H0)
    (hw : goEach ok (forStep tg t Dd) Dd.nx xs σ1 M1) : ∃ Wf : Nat → Nat → L2.St → Hp → Prop, (∃ m, Wf 0 m τ H) ∧ ∀ i m σ H, Wf i m σ H →
      (J.stop i H ∧ D'.nx σ H) ∨ (J.go i H ∧ ∃ N : L2.St → Hp → Prop, (∀ σ' H', N σ' H' → ∃ m', m' < m ∧ Wf (i + 1) m' σ' H') ∧ ∀ x H', J.yld i H x H' → LG c tg x σ H' fun σ2 H2 => LS c W t { D' with nx := N, ct := N, bk := D'.nx } σ2 H2) := by
  let V : Nat → L2.St → Hp → Prop := fun i τ' H' => ∃ σ M, Rep c σ M τ' H' ∧ Keeps H H' ∧ goEach ok (forStep tg t Dd) Dd.nx (xs.drop i) σ M
  refine ⟨fun i m τ' H' => m = xs.length - i ∧ i ≤ xs.length ∧ V i τ' H', ⟨xs.length, by simp, Nat.zero_le _, σ1, M1, R0, .refl _, hw⟩, ?_⟩
  rintro i m τ2 H2 ⟨rfl, hi, σ, M, R, k, hw⟩
  by_cases hlt : i < xs.length
  · rw [List.drop_eq_getElem_cons hlt] at hw
    obtain ⟨ck, hw⟩ := hw
    refine .inr ⟨S.go _ i σ M _ H2 (.refl c) R k ck trivial hlt, V (i + 1), fun τ' H' v => ⟨xs.length - (i + 1), by omega, rfl, hlt, v⟩, fun x H' y => ?_⟩
    obtain ⟨e0, dx, e1, rx⟩ := S.yld _ i σ M _ H2 x H' (.refl c) R k ck trivial hlt y
    subst e0
    have e2 : dx = xs[i] := by rw [List.getElem?_eq_getElem hlt] at e1; exact (Option.some.inj e1).symm
    subst e2
    refine ⟨σ, M, _, _, R, rx, hw, fun σ3 M3 τ3 R3 _ h3 => ⟨σ3, M3, _, R3, h3, ?_⟩⟩
    have e3 := e.keep (k0.trans k)
    exact ⟨fun σ4 M4 τ4 H4 R4 k4 h4 => ⟨σ4, M4, R4, k.trans k4, h4⟩, fun σ4 M4 τ4 H4 R4 k4 h4 => e3.nx _ _ _ _ R4 k4 h4, fun σ4 M4 τ4 H4 R4 k4 h4 => ⟨σ4, M4, R4, k.trans k4, h4⟩, e3.rt, e3.ex⟩
  · have ei : i = xs.length := by omega
    subst ei
    rw [List.drop_length] at hw
    obtain ⟨ck, hf⟩ := hw
    exact .inl ⟨S.stop _ _ σ M _ H2 (.refl c) R k ck trivial (Nat.le_refl _), e.nx _ _ _ _ R (k0.trans k) hf⟩
theorem SrcR.all {J : It} {ok : Ks} {al : L2.St → Prop} {xs : List D} (S : SrcR c J ok al H xs) (h : ∀ τ, al τ) : SrcR c J ok (fun _ => True) H xs :=
  ⟨S.len, fun c' i σ M τ H s R k o _ => S.stop c' i σ M τ H s R k o (h τ), fun c' i σ M τ H s R k o _ => S.go c' i σ M τ H s R k o (h τ), fun c' i σ M τ H x H' s R k o _ => S.yld c' i σ M τ H x H' s R k o (h τ)⟩
def vFor (tg : Tg) (tA : KE) (t : KS) : KS := fun D σ M => tA D.ex σ M fun d σ M => frz d σ M fun d σ M => ∃ xs, walk d (vw σ M d) = some xs ∧
  goEach (fun τ N => vw τ N d = vw σ M d) (forStep tg t D) D.nx xs σ M
theorem ls_for {it x : Expr} {bs : List Stmt} {tg : Tg} (cx : CX' X c) (hp : PassesOwn (model X.prog X.w) X.A X.env X.xe) (hc : X.calm = true) (h : PE X it (LE c W tA)) (hg : PG X x (LG c tg)) (hb : PSs X bs (LS c W t)) (hs : noSet it = true) : PS X (.For x it bs [] pos) (LS c W (vFor tg tA t)) :=
  ps_imp (ps_for hp hc (pi_any (pe_LFz h)) hg hb (fold_plain hs)) fun D τ H ⟨σ, M, Dd, R, h, e⟩ => ⟨σ, M, Dd.ex, _, R, h, e.ex τ, fun d v σ1 M1 H1 R1 r1 k1 ⟨xs, hw, hl⟩ => by
    obtain ⟨z1, z2⟩ := rel_plain r1
    have pw : PwR c H1 d v := by
      cases d with
      | slot i => exact absurd rfl (z2 i)
      | _ => exact ⟨z1, r1⟩
    have al : ∀ τ, AlR d v τ := fun τ => by
      cases d with
      | slot i => exact absurd rfl (z2 i)
      | _ => trivial
    obtain ⟨J, st, S⟩ := src_of cx.K R1 pw (al τ) hw
    exact ⟨J, st, loop_for (S.all al) R1 k1 e hl⟩⟩
def vForR (tg : Tg) (lo : KO) (hi : KE) (t : KS) : KS := fun D σ M => lo D.ex σ M fun l σ M => hi D.ex σ M fun h σ M => ∃ j, h = .int j ∧ (l.getD 0).natAbs < 2 ^ 60 ∧ j.natAbs < 2 ^ 60 ∧ j - l.getD 0 ≤ SZ ∧
  goEach (fun _ _ => True) (forStep tg t D) D.nx (rng (l.getD 0) 1 (j - l.getD 0).toNat) σ M
theorem ls_for1 {b x : Expr} {bs : List Stmt} {tg : Tg} {q : Pos} (hp : PassesOwn (model X.prog X.w) X.A X.env X.xe) (hc : X.calm = true) (hG : Gl X "range") (hm : X.mg "range" = none) (h : PE X b (LE c W tA)) (hpl : plainE b = true) (hg : PG X x (LG c tg)) (hb : PSs X bs (LS c W t)) :
    PS X (.For x (.Call (.Name "range" p) [b] [] q) bs [] pos) (LS c W (vForR tg vNo tA t)) :=
  ps_imp (ps_for hp hc (pi_range1 hG hm (pa_cons h pa_nil (star_cons hpl)) (star_cons hpl)) hg hb (fold_plain rfl)) fun D τ H ⟨σ, M, Dd, R, h, e⟩ => ⟨σ, M, Dd.ex, _, R, h, e.ex τ, fun d v σ1 M1 H1 R1 k1 ⟨j, ej, _, b1, b2, hl⟩ => by
    subst ej
    have b2 : j - 0 ≤ SZ := b2
    refine ⟨j, by rw [relI (C := fun _ => none) R1], by omega, by omega, ?_⟩
    have z : j.toNat ≤ SZ := by omega
    have hl : goEach (fun _ _ => True) (forStep tg t Dd) Dd.nx (rng 0 1 j.toNat) σ1 M1 := by
      have e : (j - (none : Option Int).getD 0).toNat = j.toNat := by
        show (j - 0).toNat = j.toNat
        rw [Int.sub_zero]
      rw [e] at hl
      exact hl
    exact loop_for (src_rng z) R1.rep k1 e hl⟩
theorem ls_for2 {a b x : Expr} {bs : List Stmt} {tg : Tg} {q : Pos} (hp : PassesOwn (model X.prog X.w) X.A X.env X.xe) (hc : X.calm = true) (hG : Gl X "range") (hm : X.mg "range" = none) (h : PE X a (LE c W tA)) (h2 : PE X b (LE c W tB)) (hpl : plainE a = true) (hpl2 : plainE b = true)
    (hg : PG X x (LG c tg)) (hb : PSs X bs (LS c W t)) : PS X (.For x (.Call (.Name "range" p) [a, b] [] q) bs [] pos) (LS c W (vForR tg (vSome tA) tB t)) :=
  ps_imp (ps_for hp hc (pi_range2 hG hm (pa_cons h (pa_cons h2 pa_nil (star_cons hpl2)) (star_cons hpl)) (by rw [star_cons hpl, star_cons hpl2]; rfl) (star_cons hpl2)) hg hb (fold_plain rfl)) fun D τ H ⟨σ, M, Dd, R, h, e⟩ =>
    ⟨σ, M, Dd.ex, _, R, h, e.ex τ, fun d v σ1 M1 H1 R1 k1 ⟨i, ei, h1⟩ => ⟨σ1, M1, Dd.ex, _, R1.rep, h1, e.ex τ, fun d2 v2 σ2 M2 H2 R2 k2 ⟨j, ej, b0, b1, b2, hl⟩ => by
      subst ei ej
      have b0 : i.natAbs < 2 ^ 60 := b0
      have b2 : j - i ≤ SZ := b2
      refine ⟨i, j, by rw [relI (C := fun _ => none) R1, relI (C := fun _ => none) R2], ⟨by omega, by omega, by omega, by omega⟩, ?_⟩
      have z : (j - i).toNat ≤ SZ := by omega
      exact loop_for (src_rng z) R2.rep (k1.trans k2) e hl⟩⟩
end
end Pv

/-! E8l: the looks are enough: statements. -/
namespace Pv
open PySem PySem.Spec PyProof.Rows L2
open PySem.W (Frag)
/-- does the store stand within the comprehension? -/
def swB (S : Sx) (sc : Scope) (n : Str) (p pos : Pos) : Bool := (match S.sc.names.lookup n with
  | some .local => true
  | _ => false) && (p.line == pos.line && !(sc.names.any fun (m, k) => m == n && (k == .local || k == .cell)))
def noSC : Expr → Bool
  | .SetComp _ _ _ _ => false
  | _ => true
def isDead : CS → Bool
  | .dead => true
  | _ => false
mutual
def ckS (tb : Tb) : CS → Sx → Stmt → Bool
  | .asg i e, S, s => (match s with
    | .Assign [.Name n p] v _ => (ixB S.N i n && locB S n) && (ckE tb e S v && noSC v)
    | _ => false)
  | .asgT is e, S, s => (match s with
    | .Assign [.Tuple xs _ _] v _ => (noComp v && noTup v) && (ckNs S is xs && ckE tb e S v)
    | _ => false)
  | .setI a i e, S, s => (match s with
    | .Assign [.Subscript x y _] v _ => (noComp v && noSlice y) && (ckE tb e S v && (ckE tb a S x && ckE tb i S y))
    | _ => false)
  | .setF a m e, S, s => (match s with
    | .Assign [.Attribute y n _] v _ => (ixB tb.nm m n && tb.fd.contains m) && (noComp v && (ckE tb e S v && ckE tb a S y))
    | _ => false)
  | .ex e, S, s => (match s with
    | .Expr v _ => noComp v && ckE tb e S v
    | _ => false)
  | .ret e, S, s => (match s with
    | .Return (some v) _ => ckE tb e S v
    | _ => false)
  | .retN, S, s => (match s with
    | .Return none _ => true
    | _ => false)
  | .ifS t as bs, S, s => (match s with
    | .If x xs ys _ => ckT tb t S x && (ckSs tb as S xs && ckSs tb bs S ys)
    | _ => false)
  | .whl t b, S, s => (match s with
    | .While x xs [] _ => ckT tb t S x && ckSs tb b S xs
    | _ => false)
  | .for_ tg it b, S, s => (match s with
    | .For t x xs [] _ => (noSet x && ckG S tg t) && (ckE tb it S x && ckSs tb b S xs)
    | _ => false)
  | .forR tg lo hi b, S, s => (match s with
    | .For t (.Call (.Name n _) as [] _) xs [] _ => ((decide (n = "range") && gloB S n) && ckG S tg t) && ((match lo, as with
        | none, [b] => plainE b && ckE tb hi S b
        | some lo, [a, b] => (plainE a && plainE b) && (ckE tb lo S a && ckE tb hi S b)
        | _, _ => false) && ckSs tb b S xs)
    | _ => false)
  | .brk, S, s => (match s with
    | .Break _ => true
    | _ => false)
  | .cnt, S, s => (match s with
    | .Continue _ => true
    | _ => false)
  | .pass, S, s => (match s with
    | .Pass _ => true
    | _ => false)
  | .raise _ _, S, s => false
  | .try_ _ _ _ _, S, s => false
  | .dead, S, s => true
def ckSs (tb : Tb) : List CS → Sx → List Stmt → Bool
  | [], S, xs => xs.isEmpty
  | s :: ss, S, xs => (match xs with
    | x :: xs => isDead s || (ckS tb s S x && ckSs tb ss S xs)
    | [] => false)
end
section
variable {T : Tab} {Γ : FSem} {tb : Tb} {k : Nat} {S : Sx} {c : Cc} {X : Cx} {W : WX}
theorem line_of {a b : Nat} (h : (a == b) = true) : a = b := beq_iff_eq.mp h
theorem Fx.swl (F : Fx T Γ tb k S c X W) {el : Expr} {gs : List Comprehension} {sc : Scope} {pos p : Pos} {n : Str} {l : Nat} : swapsWith (.ListComp el gs sc pos) (some (.Name n p)) l X.env = pure (swB S sc n p pos) := by
  have hb : X.env.blockKind = .function := by
    unfold Env.blockKind
    rw [F.sc, F.kind]; rfl
  have hk : X.env.kindOf n = S.sc.names.lookup n := by
    show X.env.scope.names.lookup n = _
    rw [F.sc]
  unfold swapsWith swB
  simp only [hb, hk, Expr.pos]
  cases S.sc.names.lookup n with
  | none => rfl
  | some q => cases q <;> first | rfl | (simp only [Bool.true_and]; rfl)
theorem Fx.swd (F : Fx T Γ tb k S c X W) {kx vx : Expr} {gs : List Comprehension} {sc : Scope} {pos p : Pos} {n : Str} {l : Nat} : swapsWith (.DictComp kx vx gs sc pos) (some (.Name n p)) l X.env = pure (swB S sc n p pos) := by
  have hb : X.env.blockKind = .function := by
    unfold Env.blockKind
    rw [F.sc, F.kind]; rfl
  have hk : X.env.kindOf n = S.sc.names.lookup n := by
    show X.env.scope.names.lookup n = _
    rw [F.sc]
  unfold swapsWith swB
  simp only [hb, hk, Expr.pos]
  cases S.sc.names.lookup n with
  | none => rfl
  | some q => cases q <;> first | rfl | (simp only [Bool.true_and]; rfl)
theorem swB_loc {sc : Scope} {p pos : Pos} {n : Str} (h : swB S sc n p pos = true) : S.sc.names.lookup n = some .local := by
  obtain ⟨h, _⟩ := ands h
  split at h
  · assumption
  · cases h
/-- name = {..}, stored within -/
theorem ps_setDc {i : Nat} {y : Str} {kx vx tg it : Expr} {fs : List Expr} {sc : Scope} {own : List (Str × Nat)} {pos p q : Pos} {wi : TI} {g : TG} {tt : TT} {tk tv : TE} (hc : X.calm = true) (hN : X.N.Nodup) (hy : X.N[i]? = some y) (hyl : X.env.scope.names.lookup y = some .local)
    (hsw : swapsWith (.DictComp kx vx [⟨tg, it, fs, 0⟩] sc pos) (some (.Name y p)) q.line X.env = pure true) (hi : PI X tg it wi) (ok : BlkOk X.N X.env.scope sc own)
    (hg : ∀ (s : Shared) (H : Hp) (C : PySem.Addr) (cl : List (Str × PySem.Addr)) (fp : List PySem.Addr), PG (X.blk s H sc (compEnvC sc cl C X.env) fp) tg g) (ht : ∀ (s : Shared) (H : Hp) (C : PySem.Addr) (cl : List (Str × PySem.Addr)) (fp : List PySem.Addr), PTs (X.blk s H sc (compEnvC sc cl C X.env) fp) fs tt)
    (hk : ∀ (s : Shared) (H : Hp) (C : PySem.Addr) (cl : List (Str × PySem.Addr)) (fp : List PySem.Addr), PE (X.blk s H sc (compEnvC sc cl C X.env) fp) kx tk) (he : ∀ (s : Shared) (H : Hp) (C : PySem.Addr) (cl : List (Str × PySem.Addr)) (fp : List PySem.Addr), PE (X.blk s H sc (compEnvC sc cl C X.env) fp) vx tv)
    (hs : ∀ x, foldedSetIterable it X.env x = pure x) : PS X (.Assign [.Name y p] (.DictComp kx vx [⟨tg, it, fs, 0⟩] sc pos) q) (tAsg (tDc wi g tt tk tv (own.map (·.2))) (gName i)) := by
  refine ⟨fun pins s σ H De I hd => ?_⟩
  rw [exec_Assign_Name_used _ _ _ _ hsw]
  refine wpAny_bind (wpAny_standAt (wpAny_bind ?_))
  show wpAny _ X.A (do let _ ← comprehension (.DictComp kx vx [⟨tg, it, fs, 0⟩] sc pos) sc X.env (firstIterPos [⟨tg, it, fs, 0⟩] pos) newDict false (eval it X.env) (some (assign (.Name y p) X.env))) _ _ s
  have hd : tDc wi g tt tk tv (own.map (·.2)) σ H (fun x H1 => gName i x σ H1 De.nx) := hd
  refine wpAny_bind (thn (dc_core (Qf := fun _ s1 => SP X pins De .next s1) hc hN I hi ok hg ht hk he hs hd fun L C s1 m H1 I1 qq hn f => ?_) fun _ _ r => wpAny_pure (wpAny_pure r))
  refine wpAny_assign_Name (store_ok2 (v := V.ref L) I1 hN hy (.inl hyl) rfl (fun s2 I2 ⟨a, sb, ha⟩ => ?_) (.inr hyl))
  have haC : C ≠ a := by
    rcases ha with z | z
    · rw [z]; exact f.2.1
    · exact fun e => f.2.2.2.2.1 y a z e.symm
  exact ⟨m, hn.sameBut sb haC, fun h3 sb3 => ⟨_, H1, I2.turned (t' := s2.toks) (fun b o hb e => (sb3.2 b hb).trans e) f.1 f.2.1 f.2.2.2.1 f.2.2.2.2.1 f.2.2.2.2.2, qq⟩⟩
/-- a new object stored by a comprehension -/
def kOwn (i : Nat) (De : EndsD) : Kt := fun d σ M => (match d with
  | .ol xs => De.nx (σ.set i (some (.ol xs))) M
  | .od kvs => De.nx (σ.set i (some (.od kvs))) M
  | _ => False)
theorem lcAsg_imp {i : Nat} {t : KE} {tt : TE} {τ : L2.St} {H : Hp} {D' : Ends} (h : LS c W (vAsg i t) D' τ H) (hE : ∀ {Q : VK}, LE c W t τ H Q → tt τ H Q)
    (hm : ∀ (De : EndsD) σ M, t De.ex σ M (kAsg i De) → t De.ex σ M (kOwn i De)) : tAsg tt (gName i) D' τ H := by
  obtain ⟨σ, M, De, R, h, e⟩ := h
  refine hE ⟨σ, M, De.ex, _, R, hm _ _ _ h, e.ex τ, fun d v σ' M' H' r k hq => ?_⟩
  cases d with
  | ol xs => exact e.nx _ _ _ _ (asg_own (o := .l xs) rfl r) k hq
  | od kvs => exact e.nx _ _ _ _ (asg_own (o := .d kvs) rfl r) k hq
  | _ => exact hq.elim
theorem ls_asgX {x : Expr} {i : Nat} {n : Str} {p q : Pos} {e : CE} (F : Fx T Γ tb k S c X W) (h : ckE tb e S x = true) (hi : X.N[i]? = some n) (hl : locB S n = true) (hs : swapsWith x (some (.Name n p)) q.line X.env = pure false) :
    PS X (.Assign [.Name n p] x q) (LS c W (vAsg i fun E σ M Q => wpE T Γ E e σ M Q)) := by
  obtain ⟨l1, l2⟩ := F.loc hl
  exact ls_asg (soE e F h) F.ndX hi l1 hs l2
theorem soAsgC (F : Fx T Γ tb k S c X W) {x : Expr} {i : Nat} {n : Str} {p q : Pos} (e : CE) (hi : X.N[i]? = some n) (hl : locB S n = true) (h : ckE tb e S x = true) (hset : noSC x = true) : PS X (.Assign [.Name n p] x q) (LS c W (vAsg i fun E σ M Q => wpE T Γ E e σ M Q)) := by
  cases hn : noComp x with
  | true => exact ls_asgX F h hi hl (swap_plain hn)
  | false =>
    cases x with
    | ListComp el gs sc pos =>
      cases hw : swB S sc n p pos with
      | false => exact ls_asgX F h hi hl (by rw [F.swl, hw])
      | true =>
        have hyl : X.env.scope.names.lookup n = some .local := by rw [F.sc]; exact swB_loc hw
        have sw := F.swl (el := el) (gs := gs) (sc := sc) (pos := pos) (p := p) (n := n) (l := q.line)
        rw [hw] at sw
        cases e with
        | lc e tg it ifs =>
          unfold ckE at h
          split at h
          · rename_i hx
            cases hx
            obtain ⟨h1, h2⟩ := ands h
            obtain ⟨h0, h1⟩ := ands h1
            obtain ⟨h1, h3⟩ := ands h1
            obtain ⟨h3, h4⟩ := ands h3
            obtain ⟨h2, h5⟩ := ands h2
            have ok := F.blkOk h3
            refine ps_imp (ps_setLc F.calm F.ndX hi hyl sw (pi_any (pe_LP (soE it F h1))) ok (fun s H C cl fp => pg_ex fun c' sm => ((F.blk ok.kind s H C cl fp).to sm).tg h4)
              (fun s H C cl fp => pts_ex fun c' sm => soIfs ifs ((F.blk ok.kind s H C cl fp).to sm) h2) (fun s H C cl fp => pe_ex fun c' sm => pe_LFz (soE e ((F.blk ok.kind s H C cl fp).to sm) h5)) (fold_plain h0)) fun D' τ H q => ?_
            rw [own_map]
            exact lcAsg_imp q (fun {Q} z => tlc_of F.cx.K z) fun _ _ _ z => z
          · cases h
        | lcr e tg lo hi' ifs =>
          unfold ckE at h
          split at h
          · rename_i hx
            cases hx
            obtain ⟨b1, b2⟩ := ands h
            obtain ⟨b3, b4⟩ := ands b1
            obtain ⟨b5, hg⟩ := ands b3
            have en := of_decide_eq_true b5
            subst en
            obtain ⟨b6, b7⟩ := ands b4
            obtain ⟨h3, h4⟩ := ands b7
            obtain ⟨h2, h5⟩ := ands b2
            have ok := F.blkOk h3
            split at b6
            · obtain ⟨h1, h6⟩ := ands b6
              refine ps_imp (ps_setLc F.calm F.ndX hi hyl sw (pi_range1 (F.gl hg) (F.free (by decide)) (pa_cons (soE hi' F h6) pa_nil (star_cons h1)) (star_cons h1)) ok (fun s H C cl fp => pg_ex fun c' sm => ((F.blk ok.kind s H C cl fp).to sm).tg h4)
                (fun s H C cl fp => pts_ex fun c' sm => soIfs ifs ((F.blk ok.kind s H C cl fp).to sm) h2) (fun s H C cl fp => pe_ex fun c' sm => pe_LFz (soE e ((F.blk ok.kind s H C cl fp).to sm) h5)) (fold_plain rfl)) fun D' τ H q => ?_
              rw [own_map]
              exact lcAsg_imp q (fun {Q} z => tlr1_of z) fun _ _ _ z => z
            · skip
              obtain ⟨b9, b10⟩ := ands b6
              obtain ⟨h1, h8⟩ := ands b9
              obtain ⟨h6, h7⟩ := ands b10
              refine ps_imp (ps_setLc F.calm F.ndX hi hyl sw (pi_range2 (F.gl hg) (F.free (by decide)) (pa_cons (soE _ F h6) (pa_cons (soE hi' F h7) pa_nil (star_cons h8)) (star_cons h1)) (by rw [star_cons h1, star_cons h8]; rfl) (star_cons h8)) ok
                (fun s H C cl fp => pg_ex fun c' sm => ((F.blk ok.kind s H C cl fp).to sm).tg h4) (fun s H C cl fp => pts_ex fun c' sm => soIfs ifs ((F.blk ok.kind s H C cl fp).to sm) h2)
                (fun s H C cl fp => pe_ex fun c' sm => pe_LFz (soE e ((F.blk ok.kind s H C cl fp).to sm) h5)) (fold_plain rfl)) fun D' τ H q => ?_
              rw [own_map]
              exact lcAsg_imp q (fun {Q} z => tlr2_of z) fun _ _ _ z => z
            · cases b6
          · cases h
        | con d => cases d <;> cases h
        | dead => exact ⟨fun pins s σ H D I ⟨σ', M, Dd, R, ht, _⟩ => by
            have ht : wpE T Γ Dd.ex .dead σ' M (kAsg i Dd) := ht
            unfold wpE at ht
            exact ht.elim⟩
        | _ => (unfold ckE at h; first | (cases h; done) | (split at h <;> first | (cases h; done) | (rename_i hx; cases hx)))
    | DictComp kx vx gs sc pos =>
      cases hw : swB S sc n p pos with
      | false => exact ls_asgX F h hi hl (by rw [F.swd, hw])
      | true =>
        have hyl : X.env.scope.names.lookup n = some .local := by rw [F.sc]; exact swB_loc hw
        have sw := F.swd (kx := kx) (vx := vx) (gs := gs) (sc := sc) (pos := pos) (p := p) (n := n) (l := q.line)
        rw [hw] at sw
        cases e with
        | dc a b tg it ifs =>
          unfold ckE at h
          split at h
          · rename_i hx
            cases hx
            obtain ⟨h1, h2⟩ := ands h
            obtain ⟨h0, h1⟩ := ands h1
            obtain ⟨h1, h3⟩ := ands h1
            obtain ⟨h3, h4⟩ := ands h3
            obtain ⟨h2, h5⟩ := ands h2
            obtain ⟨h5, h6⟩ := ands h5
            have ok := F.blkOk h3
            refine ps_imp (ps_setDc F.calm F.ndX hi hyl sw (pi_any (pe_LP (soE it F h1))) ok (fun s H C cl fp => pg_ex fun c' sm => ((F.blk ok.kind s H C cl fp).to sm).tg h4)
              (fun s H C cl fp => pts_ex fun c' sm => soIfs ifs ((F.blk ok.kind s H C cl fp).to sm) h2) (fun s H C cl fp => pe_ex fun c' sm => pe_LFz (soE a ((F.blk ok.kind s H C cl fp).to sm) h5))
              (fun s H C cl fp => pe_ex fun c' sm => pe_LFz (soE b ((F.blk ok.kind s H C cl fp).to sm) h6)) (fold_plain h0)) fun D' τ H q => ?_
            rw [own_map]
            exact lcAsg_imp q (fun {Q} z => tdc_of F.cx.K z) fun _ _ _ z => z
          · cases h
        | dcr a b tg lo hi' ifs =>
          unfold ckE at h
          split at h
          · rename_i hx
            cases hx
            obtain ⟨b1, b2⟩ := ands h
            obtain ⟨b3, b4⟩ := ands b1
            obtain ⟨b5, hg⟩ := ands b3
            have en := of_decide_eq_true b5
            subst en
            obtain ⟨b6, b7⟩ := ands b4
            obtain ⟨h3, h4⟩ := ands b7
            obtain ⟨h2, b8⟩ := ands b2
            obtain ⟨h5, h9⟩ := ands b8
            have ok := F.blkOk h3
            split at b6
            · obtain ⟨h1, h6⟩ := ands b6
              refine ps_imp (ps_setDc F.calm F.ndX hi hyl sw (pi_range1 (F.gl hg) (F.free (by decide)) (pa_cons (soE hi' F h6) pa_nil (star_cons h1)) (star_cons h1)) ok (fun s H C cl fp => pg_ex fun c' sm => ((F.blk ok.kind s H C cl fp).to sm).tg h4)
                (fun s H C cl fp => pts_ex fun c' sm => soIfs ifs ((F.blk ok.kind s H C cl fp).to sm) h2) (fun s H C cl fp => pe_ex fun c' sm => pe_LFz (soE a ((F.blk ok.kind s H C cl fp).to sm) h5))
                (fun s H C cl fp => pe_ex fun c' sm => pe_LFz (soE b ((F.blk ok.kind s H C cl fp).to sm) h9)) (fold_plain rfl)) fun D' τ H q => ?_
              rw [own_map]
              exact lcAsg_imp q (fun {Q} z => tdr1_of z) fun _ _ _ z => z
            · skip
              obtain ⟨b9, b10⟩ := ands b6
              obtain ⟨h1, h8⟩ := ands b9
              obtain ⟨h6, h7⟩ := ands b10
              refine ps_imp (ps_setDc F.calm F.ndX hi hyl sw (pi_range2 (F.gl hg) (F.free (by decide)) (pa_cons (soE _ F h6) (pa_cons (soE hi' F h7) pa_nil (star_cons h8)) (star_cons h1)) (by rw [star_cons h1, star_cons h8]; rfl) (star_cons h8)) ok
                (fun s H C cl fp => pg_ex fun c' sm => ((F.blk ok.kind s H C cl fp).to sm).tg h4) (fun s H C cl fp => pts_ex fun c' sm => soIfs ifs ((F.blk ok.kind s H C cl fp).to sm) h2)
                (fun s H C cl fp => pe_ex fun c' sm => pe_LFz (soE a ((F.blk ok.kind s H C cl fp).to sm) h5)) (fun s H C cl fp => pe_ex fun c' sm => pe_LFz (soE b ((F.blk ok.kind s H C cl fp).to sm) h9)) (fold_plain rfl)) fun D' τ H q => ?_
              rw [own_map]
              exact lcAsg_imp q (fun {Q} z => tdr2_of z) fun _ _ _ z => z
            · cases b6
          · cases h
        | con d => cases d <;> cases h
        | dead => exact ⟨fun pins s σ H D I ⟨σ', M, Dd, R, ht, _⟩ => by
            have ht : wpE T Γ Dd.ex .dead σ' M (kAsg i Dd) := ht
            unfold wpE at ht
            exact ht.elim⟩
        | _ => (unfold ckE at h; first | (cases h; done) | (split at h <;> first | (cases h; done) | (rename_i hx; cases hx)))
    | SetComp _ _ _ _ => cases hset
    | _ => cases hn
mutual
theorem soS : ∀ (s : CS) {S : Sx} {c : Cc} {X : Cx} {W : WX} {x : Stmt}, Fx T Γ tb k S c X W → ckS tb s S x = true → PS X x (LS c W fun D σ M => wpS T Γ s D σ M)
  | .asg i e, S, c, X, W, x, F, h => by
    unfold ckS at h
    split at h
    · obtain ⟨h1, h2⟩ := ands h
      obtain ⟨h1, h3⟩ := ands h1
      obtain ⟨h2, h4⟩ := ands h2
      exact soAsgC F e (F.ix h1) h3 h2 h4
    · cases h
  | .asgT is e, S, c, X, W, x, F, h => by
    unfold ckS at h
    split at h
    · obtain ⟨h1, h2⟩ := ands h
      obtain ⟨h1, h3⟩ := ands h1
      obtain ⟨h2, h4⟩ := ands h2
      exact ls_asgT (tg := .t is) (soE e F h4) (F.tg (tg := .t is) h2) h1 (swapNone_tup h3) rfl
    · cases h
  | .setI a i e, S, c, X, W, x, F, h => by
    unfold ckS at h
    split at h
    · obtain ⟨h1, h2⟩ := ands h
      obtain ⟨h1, h3⟩ := ands h1
      obtain ⟨h2, h4⟩ := ands h2
      obtain ⟨h4, h5⟩ := ands h4
      exact ls_set (soE a F h4) (soE i F h5) (soE e F h2) F.cx F.units h1 h3
    · cases h
  | .setF a m e, S, c, X, W, x, F, h => by
    unfold ckS at h
    split at h
    · obtain ⟨h1, h2⟩ := ands h
      obtain ⟨h1, h3⟩ := ands h1
      obtain ⟨h2, h4⟩ := ands h2
      obtain ⟨h4, h5⟩ := ands h4
      have hnm := F.flds m _ (ixB_ok h1)
      have hlt : m < tb.nm.length := (List.getElem?_eq_some_iff.mp (ixB_ok h1)).1
      have hin : m ∈ tb.fd := by simpa using h3
      rw [← hnm]
      refine ps_imp (ls_setF (ok := fun C => (T.inits.lookup C).isSome) F.inj hlt (fun C hC => F.noa C m hC hin) (soE a F h5) (soE e F h4) h2) fun D τ H ⟨σ, M, Dd, R, h, e⟩ => ⟨σ, M, Dd, R, ?_, e⟩
      unfold wpS at h
      exact h
    · cases h
  | .ex e, S, c, X, W, x, F, h => by
    unfold ckS at h
    split at h
    · obtain ⟨h1, h2⟩ := ands h
      exact ls_ex (soE e F h2) h1
    · cases h
  | .ret e, S, c, X, W, x, F, h => by
    unfold ckS at h
    split at h
    · exact ls_ret (soE e F h)
    · cases h
  | .retN, S, c, X, W, x, F, h => by
    unfold ckS at h
    split at h
    · exact ls_retN
    · cases h
  | .ifS t as bs, S, c, X, W, x, F, h => by
    unfold ckS at h
    split at h
    · obtain ⟨h1, h2⟩ := ands h
      obtain ⟨h2, h3⟩ := ands h2
      exact ls_if (soT t F h1).1 (soSs as F h2) (soSs bs F h3)
    · cases h
  | .whl t b, S, c, X, W, x, F, h => by
    unfold ckS at h
    split at h
    · obtain ⟨h1, h2⟩ := ands h
      exact ls_whl F.pass (soT t F h1).1 (soSs b F h2)
    · cases h
  | .for_ tg it b, S, c, X, W, x, F, h => by
    unfold ckS at h
    split at h
    · obtain ⟨h1, h2⟩ := ands h
      obtain ⟨h1, h3⟩ := ands h1
      obtain ⟨h2, h4⟩ := ands h2
      exact ls_for F.cx F.pass F.calm (soE it F h2) (F.tg h3) (soSs b F h4) h1
    · cases h
  | .forR tg lo hi b, S, c, X, W, x, F, h => by
    unfold ckS at h
    split at h
    · obtain ⟨b1, b2⟩ := ands h
      obtain ⟨b3, h3⟩ := ands b1
      obtain ⟨b5, hg⟩ := ands b3
      have en := of_decide_eq_true b5
      subst en
      obtain ⟨b6, h4⟩ := ands b2
      split at b6
      · obtain ⟨h1, h6⟩ := ands b6
        exact ls_for1 F.pass F.calm (F.gl hg) (F.free (by decide)) (soE hi F h6) h1 (F.tg h3) (soSs b F h4)
      · skip
        obtain ⟨b9, b10⟩ := ands b6
        obtain ⟨h1, h8⟩ := ands b9
        obtain ⟨h6, h7⟩ := ands b10
        exact ls_for2 F.pass F.calm (F.gl hg) (F.free (by decide)) (soE _ F h6) (soE hi F h7) h1 h8 (F.tg h3) (soSs b F h4)
      · cases b6
    · cases h
  | .brk, S, c, X, W, x, F, h => by
    unfold ckS at h
    split at h
    · exact ls_brk
    · cases h
  | .cnt, S, c, X, W, x, F, h => by
    unfold ckS at h
    split at h
    · exact ls_cnt
    · cases h
  | .pass, S, c, X, W, x, F, h => by
    unfold ckS at h
    split at h
    · exact ls_pass
    · cases h
  | .raise _ _, S, c, X, W, x, F, h => by
    unfold ckS at h
    cases h
  | .try_ _ _ _ _, S, c, X, W, x, F, h => by
    unfold ckS at h
    cases h
  | .dead, S, c, X, W, x, F, h => ⟨fun pins s σ H D I ⟨σ', M, Dd, R, ht, _⟩ => by unfold wpS at ht; exact ht.elim⟩
theorem soSs : ∀ (ss : List CS) {S : Sx} {c : Cc} {X : Cx} {W : WX} {xs : List Stmt}, Fx T Γ tb k S c X W → ckSs tb ss S xs = true → PSs X xs (LS c W fun D σ M => wpSs T Γ ss D σ M)
  | [], S, c, X, W, xs, F, h => by
    cases xs with
    | nil => exact ls_nil
    | cons _ _ => cases h
  | s :: ss, S, c, X, W, xs, F, h => by
    cases xs with
    | nil => cases h
    | cons x xs =>
      rcases Bool.or_eq_true_iff.mp (show (isDead s || (ckS tb s S x && ckSs tb ss S xs)) = true from h) with h | h
      · cases s <;> first | (cases h; done) | skip
        exact ⟨fun pins s σ H D I ⟨σ', M, Dd, R, ht, _⟩ => by unfold wpSs at ht; unfold wpS at ht; exact ht.elim⟩
      · obtain ⟨h1, h2⟩ := ands h
        exact ls_cons (soS s F h1) (soSs ss F h2)
end
end
end Pv

/-! E9: every def of the text keeps its promise; the law. -/
namespace Pv
open PySem PySem.Spec PyProof.Rows L2
open PySem.W (Frag)
section
variable {P : Program} {w : World} {K : Frag} {mg : Str → Option Value} {base : Heap} {T : Tab} {tb : Tb} {c : Cc} {fad : Nat → PySem.Addr}

/-- what is fixed by the text and the module -/
structure Gx (P : Program) (w : World) (K : Frag) (mg : Str → Option Value) (T : Tab) (tb : Tb) (c : Cc) (fad : Nat → PySem.Addr) : Prop where
  hP : P = c.P
  hw : w = c.w
  hK : K = c.K
  blt : ∀ x ∈ bNames, mg x = none
  fns : ∀ (f : Nat) (x : Str), tb.fn[f]? = some x → f < T.defs.length ∧ mg x = some (.ref (fad f))
  meths : ∀ (C m f : Nat) (x : Str), T.meths.lookup (C, m) = some f → tb.nm[m]? = some x → f < T.defs.length ∧ Cls K (c.cA C) ∧ c.nm m = x ∧ Meth K (c.cA C) x (fad f)
  mks : ∀ (C f : Nat) (x : Str), T.inits.lookup C = some f → tb.cl[C]? = some x → f < T.defs.length ∧ mg x = some (.ref (c.cA C)) ∧ Mk K (c.cA C) (fad f)
  flds : ∀ (x : Nat) (y : Str), tb.nm[x]? = some y → c.nm x = y
  inj : ∀ (x y : Nat), c.nm x = c.nm y → x < tb.nm.length → x = y
  ini : T.inits = tb.ini
  mts : T.meths = tb.mts
  tbs : ∀ (g : Nat) (x : Str) (kvs : List (List Nat × D)), tb.tbn[g]? = some x → T.tabs[g]? = some kvs → ∃ a es n, mg x = some (.ref a) ∧ KDict K w a es n ∧ TabR K a kvs
  tbl : tb.tbn.length ≤ T.tabs.length
  noa : ∀ (C x : Nat), (T.inits.lookup C).isSome = true → x ∈ tb.fd → Cls K (c.cA C) ∧ NoAttr K (c.cA C) (c.nm x)
  gls : ∀ (g : Nat) (x : Str) (d : D), tb.gl[g]? = some x → T.globs[g]? = some d → d.own = false ∧ (∀ i, d ≠ .slot i) ∧ ∃ v u, mg x = some u ∧ RelV v u ∧ ∀ H, RelP c H d v
/-- a def of the text: the datum, its names, its parameters -/
structure FD where
  d : He.DefD
  N : List Str
  ps : List Str
def scopeB (N ps : List Str) (sc : Scope) : Bool := (match sc.kind with
  | .function => true
  | _ => false) && (!sc.isCoroutine && (!sc.isGenerator && (decide N.Nodup && (decide (N.take ps.length = ps) && ((ps.all fun x => match sc.names.lookup x with
    | some .local => true
    | some .cell => true
    | _ => false) && sc.names.all fun y => match y.2 with
      | .free => false
      | _ => true)))))
theorem scopeB_ok {N ps : List Str} {sc : Scope} (h : scopeB N ps sc = true) : FnScope N ps sc := by
  obtain ⟨h1, h⟩ := ands h
  obtain ⟨h2, h⟩ := ands h
  obtain ⟨h3, h⟩ := ands h
  obtain ⟨h4, h⟩ := ands h
  obtain ⟨h5, h⟩ := ands h
  obtain ⟨h6, h7⟩ := ands h
  refine ⟨?_, by simpa using h2, by simpa using h3, of_decide_eq_true h4, of_decide_eq_true h5, fun x hx => ?_, fun y hy z => ?_⟩
  · split at h1
    · assumption
    · cases h1
  · have q := List.all_eq_true.mp h6 x hx
    split at q
    · exact .inl (by assumption)
    · exact .inr (by assumption)
    · cases q
  · have q := List.all_eq_true.mp h7 y hy
    rw [z] at q
    cases q
def FD.ok (tb : Tb) (q : FD) (cd : CDef) : Bool := scopeB q.N q.ps q.d.scope && (decide (cd.np = q.ps.length) && (decide (cd.ns = q.N.length) && (q.d.dfl.isEmpty && (q.d.kwd.isEmpty && ckSs tb cd.body ⟨q.N, q.d.scope, fun _ => true⟩ q.d.body))))
/-- every parameter is given: how such a def binds -/
def FD.Bd (q : FD) : Prop := ∀ (kV doc pm : Value) (an : Option PySem.Addr) (cdv ct : Value) (us : List Value), us.length = q.ps.length → bindArgs (PySem.W.fnOf q.d.name q.d.qual q.d.params q.d.body q.d.scope .none kV doc pm an cdv ct) ⟨us, []⟩ = pure (q.ps.zip us)
theorem start_len {N : List Str} {vs : List V} (h : vs.length ≤ N.length) : (L2.start N vs).length = N.length := by
  unfold L2.start
  rw [List.length_append, List.length_map, List.length_replicate]
  omega
theorem rel_start {H : Hp} {M : Mem} {N : List Str} {ds : List D} {vs : List V} (r : RelPs c H ds vs) (bx : ∀ a o, M a = some o → BoxR c H a o) (hl : ds.length ≤ N.length) :
    Rep { c with H0 := H, M0 := M } (ds.map some ++ List.replicate (N.length - ds.length) none) M (L2.start N vs) H := by
  have hlen := r.length
  have at_ : ∀ (i : Nat) (d : D), (ds.map some ++ List.replicate (N.length - ds.length) none)[i]? = some (some d) → i < ds.length ∧ ds[i]? = some d := fun i d e => by
    by_cases h : i < ds.length
    · rw [List.getElem?_append_left (by simpa using h), List.getElem?_map] at e
      obtain ⟨x, e1, e2⟩ := Option.map_eq_some_iff.mp e
      cases e2
      exact ⟨h, e1⟩
    · rw [List.getElem?_append_right (by simpa using h), List.getElem?_replicate] at e
      split at e <;> cases e
  have pl : ∀ (i : Nat) (d : D), (ds.map some ++ List.replicate (N.length - ds.length) none)[i]? = some (some d) → d.own = false := fun i d e => by
    obtain ⟨_, h⟩ := at_ i d e
    obtain ⟨v, _, rv⟩ := r.get h
    exact (rel_plain rv).1
  refine ⟨M, ?_, fun a o e => e, fun a o e => (bx a o e).to ⟨_, _, rfl⟩, fun i d e => ?_, fun i j d e v q1 q2 o1 => ?_, fun a o e m => e, fun a e => e, fun a e => .inl e⟩
  · rw [start_len (by omega), List.length_append, List.length_map, List.length_replicate]
    omega
  · obtain ⟨hi, h⟩ := at_ i d e
    obtain ⟨v, h1, rv⟩ := r.get h
    refine ⟨v, ?_, ?_⟩
    · unfold L2.start
      rw [List.getElem?_append_left (by simpa [hlen] using hi), List.getElem?_map, h1]; rfl
    · have ho := pl i d e
      unfold SlotR
      cases q : asMO d with
      | none => exact rv.to ⟨_, _, rfl⟩
      | some o => rw [own_asMO, q] at ho; cases ho
  · rw [pl i d q1] at o1; cases o1
theorem frame_of {H H' : Hp} {C M M' M2 : Mem} {σ : St} {τ : L2.St} (R : RepC { c with H0 := H, M0 := M } C σ M' τ H') (hs : ∀ a o, M2 a = some o → M' a = some o) : FrameR M M2 H H' ∧ ∀ a o, M2 a = some o → BoxR c H' a o := by
  refine ⟨⟨fun a o e m => R.old a o e m, fun a e => R.there a e, fun a e => ?_⟩, fun a o e => (R.boxes a o (R.sub a o (hs a o e))).to ⟨_, _, rfl⟩⟩
  obtain ⟨o, ho⟩ := Option.ne_none_iff_exists'.mp e
  exact R.new a (by rw [R.sub a o (hs a o ho)]; exact fun z => nomatch z)
/-- a def keeps its promise, if those that it calls do -/
theorem FD.holdsF (G : Gx P w K mg T tb c fad) {q : FD} {cd : CDef} {f : Nat} {k n : Nat} {fd : FuncData} (hf : T.defs[f]? = some cd) (hq : q.ok tb cd = true) (F : FunD K q.d.name q.d.qual q.d.params q.d.body q.d.scope (q.d.dvs K) (q.d.kws K) (fad f) fd) (hb : q.Bd)
    (IH : ∀ f, f < T.defs.length → FnG P w K mg base c k (fad f) (Gam T n f)) : FnOk P w K mg base (L2.CX P w) (k + 2) (fad f) fd q.ps (spG c (Gam T (n + 1) f)) ∧ Binds K fd q.ps [] := by
  obtain ⟨h1, hq⟩ := ands hq
  obtain ⟨h2, hq⟩ := ands hq
  obtain ⟨h3, hq⟩ := ands hq
  obtain ⟨h4, hq⟩ := ands hq
  obtain ⟨h5, h6⟩ := ands hq
  have S := scopeB_ok h1
  have hnp := of_decide_eq_true h2
  have hns := of_decide_eq_true h3
  have hd : q.d.dvs K = [] := by
    unfold He.DefD.dvs
    rw [List.isEmpty_iff.mp h4]; rfl
  have hpl : q.ps.length ≤ q.N.length := by
    have e := congrArg List.length S.pre
    rw [List.length_take] at e
    omega
  have get : ∀ {vs : List V} {H : Hp} {Q : VK} {E : XK}, spG c (Gam T (n + 1) f) vs H Q E → ∃ ds M Qd Ed, RelPs c H ds vs ∧ (∀ a o, M a = some o → BoxR c H a o) ∧ wpF T (Gam T n) cd ds M Qd Ed ∧
      (∀ d v M' H', ResR c M' H H' d v → (∀ a o, M' a = some o → BoxR c H' a o) → FrameR M M' H H' → Qd d M' → Q v H') ∧
      (∀ x cls dd M' H', ExnR c H' x cls dd → (∀ a o, M' a = some o → BoxR c H' a o) → FrameR M M' H H' → Ed x M' → E cls dd H') := fun h => by
    obtain ⟨ds, M, Qd, Ed, r, bx, ⟨cd', e, g⟩, h7, h8⟩ := h
    rw [hf] at e
    cases e
    exact ⟨ds, M, Qd, Ed, r, bx, g, h7, h8⟩
  refine ⟨F.ok S (fun vs H Q E h => ?_) (fun cdv A outer s H vs Q E hr h => ?_), ?_⟩
  · obtain ⟨ds, M, Qd, Ed, r, bx, ⟨hl, _⟩, _⟩ := get h
    rw [← r.length, hl, hnp]
  · obtain ⟨ds, M, Qd, Ed, r, bx, ⟨hl, g⟩, h7, h8⟩ := get h
    have fx : Fx T (Gam T n) tb k ⟨q.N, q.d.scope, fun _ => true⟩ { c with H0 := H, M0 := M } (cxOf (L2.CX P w) P w K mg base q.N q.d.qual q.d.scope (fad f) cdv A outer s H E) (fun cls dd _ H => E cls dd H) := by
      have sm : Same c { c with H0 := H, M0 := M } := ⟨_, _, rfl⟩
      refine ⟨⟨G.hK, G.hP, G.hw⟩, rfl, S.nd, rfl, rfl, S.kind, rfl, hr, passes_of rfl, takes_of rfl rfl rfl rfl, G.blt, fun f x e => ?_, fun C m f x e1 e2 => ?_, fun C f x e1 e2 => ?_, G.flds, G.inj, G.ini, G.mts, G.tbs, G.tbl, (by rw [G.hK] at *; exact G.noa), fun g x d e1 e2 => ?_⟩
      · obtain ⟨h1, h2⟩ := G.fns f x e
        exact ⟨_, h2, (IH f h1).to sm⟩
      · obtain ⟨h1, h2, h3, h4⟩ := G.meths C m f x e1 e2
        exact ⟨h2, h3, _, h4, (IH f h1).to sm⟩
      · obtain ⟨h1, h2, h3⟩ := G.mks C f x e1 e2
        exact ⟨h2, _, h3, (IH f h1).to sm⟩
      · obtain ⟨z1, z2, v, u, z3, z4, z5⟩ := G.gls g x d e1 e2
        exact ⟨z1, z2, v, u, z3, z4, fun H => (z5 H).to sm⟩
    refine ⟨_, soSs cd.body fx h6, _, M, { nx := fun _ M' => gc Qd .non M', rt := gc Qd, ex := fun x _ M' => Ed x M' }, rel_start r bx (by omega), by rw [hl, ← hns]; exact g, ⟨fun σ' M' τ' H' R' k' ⟨M2, hs, hq⟩ => ?_, fun _ _ _ _ _ _ z => z.elim, fun _ _ _ _ _ _ z => z.elim, fun d v M' H' nsl R' k' ⟨M2, hs, hq⟩ => ?_, fun τ x cls dd σ' M' H' rx R' hE => ?_⟩⟩
    · obtain ⟨C, R'⟩ := R'
      obtain ⟨fr, b2⟩ := frame_of R' hs
      exact h7 .non .non M2 H' ⟨fun i z => (nomatch z), .non⟩ b2 fr hq
    · obtain ⟨C, R', t⟩ := R'
      obtain ⟨fr, b2⟩ := frame_of R' hs
      refine h7 d v M2 H' ?_ b2 fr hq
      unfold ResR
      cases ho : asMO d with
      | none => exact ⟨nsl, (t.rel nsl ho).to ⟨_, _, rfl⟩⟩
      | some o =>
        unfold TmpR at t
        split at t
        · cases ho
        · obtain ⟨t1, _⟩ := t
          unfold SlotR at t1
          rw [ho] at t1
          obtain ⟨a, rfl, e1, e2, e3⟩ := t1
          refine ⟨a, rfl, (R'.boxes a o e1).to ⟨_, _, rfl⟩, ?_, e3⟩
          cases z : M2 a with
          | none => rfl
          | some b => rw [hs a b z] at e2; cases e2
    · obtain ⟨C, R'⟩ := R'
      obtain ⟨fr, b2⟩ := frame_of R' fun a o e => e
      exact h8 x cls dd M' H' (rx.to ⟨_, _, rfl⟩) b2 fr hE
  · rw [hd] at F
    exact F.bindsN (fun kV doc pm an cdv ct us hl => hb kV doc pm an cdv ct us hl)
theorem FD.holds (G : Gx P w K mg T tb c fad) {q : FD} {cd : CDef} {f : Nat} {k n : Nat} {fd : FuncData} (hf : T.defs[f]? = some cd) (hq : q.ok tb cd = true) (F : FunD K q.d.name q.d.qual q.d.params q.d.body q.d.scope (q.d.dvs K) (q.d.kws K) (fad f) fd) (hb : q.Bd)
    (IH : ∀ f, f < T.defs.length → FnG P w K mg base c k (fad f) (Gam T n f)) : FnG P w K mg base c (k + 2) (fad f) (Gam T (n + 1) f) := ⟨F.kp, fd, q.ps, FD.holdsF G hf hq F hb IH⟩
/-- all defs -/
theorem defs_hold (G : Gx P w K mg T tb c fad) (fns : List FD) (hl : fns.length = T.defs.length) (hq : ∀ (f : Nat) (q : FD) (cd : CDef), fns[f]? = some q → T.defs[f]? = some cd → q.ok tb cd = true)
    (hF : ∀ (f : Nat) (q : FD), fns[f]? = some q → ∃ fd, FunD K q.d.name q.d.qual q.d.params q.d.body q.d.scope (q.d.dvs K) (q.d.kws K) (fad f) fd) (hb : ∀ (f : Nat) (q : FD), fns[f]? = some q → q.Bd) :
    ∀ n f, f < T.defs.length → FnG P w K mg base c (2 * n) (fad f) (Gam T n f)
  | 0, f, hf => by
    have hf' : f < fns.length := by omega
    obtain ⟨fd, F⟩ := hF f fns[f] (List.getElem?_eq_getElem hf')
    have no : ∀ {vs : List V} {H : Hp} {Q : VK} {E : XK}, ¬ spG c (Gam T 0 f) vs H Q E := fun ⟨_, _, _, _, _, _, g, _⟩ => g
    refine ⟨F.kp, fd, fns[f].ps, ⟨fun vs H Q E h => (no h).elim, fun A outer s H args us vs Q E _ _ _ _ h => (no h).elim⟩, ?_⟩
    have hok := hq f fns[f] T.defs[f] (List.getElem?_eq_getElem hf') (List.getElem?_eq_getElem hf)
    obtain ⟨_, z⟩ := ands hok
    obtain ⟨_, z⟩ := ands z
    obtain ⟨_, z⟩ := ands z
    obtain ⟨h4, z⟩ := ands z
    have hd : fns[f].d.dvs K = [] := by
      unfold He.DefD.dvs
      rw [List.isEmpty_iff.mp h4]; rfl
    rw [hd] at F
    exact F.bindsN (fun kV doc pm an cdv ct us hl => hb f _ (List.getElem?_eq_getElem hf') kV doc pm an cdv ct us hl)
  | n + 1, f, hf => by
    have hf' : f < fns.length := by omega
    obtain ⟨fd, F⟩ := hF f fns[f] (List.getElem?_eq_getElem hf')
    exact FD.holds G (List.getElem?_eq_getElem hf) (hq f _ _ (List.getElem?_eq_getElem hf') (List.getElem?_eq_getElem hf)) F (hb f _ (List.getElem?_eq_getElem hf')) (defs_hold G fns hl hq hF hb n)
/-! ### the law -/
/-- what may leave, in any world -/
def CXa (P : Program) : CXT := fun outer H s E u s' => ∃ w, L2.CX P w outer H s E u s'
theorem FnOk.anyW {k : Nat} {f : PySem.Addr} {fd : FuncData} {ps : List Str} {sp : Sp} (F : FnOk P w K mg base (L2.CX P w) k f fd ps sp) : FnOk P w K mg base (CXa P) k f fd ps sp :=
  ⟨F.len, fun A outer s H args us vs Q E hr he hb hv hs => codeAny_mono (F.run A outer s H args us vs Q E hr he hb hv hs) fun r s' h => by
    cases r with
    | error e => exact ⟨w, h⟩
    | ok fl => cases fl <;> exact h⟩
theorem cxa_no {H : Hp} {s : Shared} {e : Value} {s' : Shared} (h : CXa P [] H s (fun _ _ _ => False) e s') : False := by
  obtain ⟨w, h⟩ := h
  obtain ⟨_, _, _, _, _, _, _, _, _, _, _, _, h⟩ := h
  exact h
theorem spG_law {G : List D → Mem → (D → Mem → Prop) → (Exn → Mem → Prop) → Prop} {H : Hp} {a : PySem.Addr} {ns : List Int} (hl : ns.length ≤ 63) (hO : Only H) (hS : SqL c.K H a (ns.map V.int))
    (h : G [.lst (ns.map D.int)] (fun _ => none) (fun d _ => d = .bl true) (fun _ _ => False)) : spG c G [.ref a] H (fun v _ => v = .bl true) fun _ _ _ => False := by
  refine ⟨_, _, _, _, .cons (.lst ?_ ?_ (ints_rel ns)) .nil, fun a o e => (by cases e), h, fun d v M' H' rs bx F e => ?_, fun x cls dd M' H' rx bx F e => e⟩
  · rcases hS with (h | ⟨o, h⟩) | h
    · rcases hO a with z | ⟨o, xs, z⟩
      · rw [z] at h; cases h
      · rw [z] at h; cases h
    · exact .inl ⟨o, h⟩
    · exact .inr h
  · rw [List.length_map]; show _ ≤ 16777216; omega
  · subst e
    obtain ⟨_, r⟩ := (show (∀ i, D.bl true ≠ .slot i) ∧ RelP c H' (.bl true) v from rs)
    cases r
    rfl
end
end Pv

/-! E10: from the head's facts to the law. -/
namespace Pv
open PySem PySem.Spec PyProof.Rows L2
open PySem.W (Frag)
section
variable {P : Program} {w : World} {K : Frag} {mg : Str → Option Value} {base h h0 : Heap} {T : Tab} {tb : Tb} {c : Cc} {fad : Nat → PySem.Addr}
def AllBd : List FD → Prop
  | [] => True
  | q :: r => q.Bd ∧ AllBd r
theorem AllBd.at_ : ∀ {l : List FD} {f : Nat} {q : FD}, AllBd l → l[f]? = some q → q.Bd
  | [], f, q, _, e => by simp at e
  | a :: r, 0, q, h, e => by
    have e : a = q := by simpa using e
    rw [← e]; exact h.1
  | a :: r, f + 1, q, h, e => AllBd.at_ h.2 (by simpa using e)
/-- a module's constant, as a fact -/
def glF (x : Str) : D → He.Fa
  | .int i => .int x i
  | .str s => .str x (strOf s)
  | .tup _ => .glo x
  | _ => .free "__none__"
def flOk : D → Bool
  | .int _ => true
  | .bl _ => true
  | .non => true
  | .str s => decide (s.length ≤ 1000000)
  | _ => false
def dvOf : D → He.Dv
  | .int i => .int i
  | .bl b => .bl b
  | .str s => .str (strOf s)
  | _ => .non
theorem fl_rel {c : Cc} {H : Hp} {d : D} (h : flOk d = true) : RelP c H d ((dvOf d).v K) ∧ d.own = false ∧ (∀ i, d ≠ .slot i) := by
  cases d with
  | non => exact ⟨.non, rfl, fun i z => nomatch z⟩
  | bl b => exact ⟨.bl b, rfl, fun i z => nomatch z⟩
  | int i => exact ⟨.int i, rfl, fun i z => nomatch z⟩
  | str s =>
    have hz := of_decide_eq_true (show decide (s.length ≤ 1000000) = true from h)
    exact ⟨.str s (by show _ ≤ 16777216; omega), rfl, fun i z => nomatch z⟩
  | _ => cases h
theorem fl_rels {c : Cc} {H : Hp} : ∀ {ds : List D}, ds.all flOk = true → RelPs c H ds ((ds.map dvOf).map (He.Dv.v K))
  | [], _ => .nil
  | d :: ds, h => by
    obtain ⟨h1, h2⟩ := ands (show (flOk d && ds.all flOk) = true from h)
    exact .cons (fl_rel h1).1 (fl_rels h2)
def glOk : D → Bool
  | .int _ => true
  | .str s => decide (s.length ≤ 1000000)
  | .tup ds => ds.all flOk && decide (ds.length ≤ 1000)
  | _ => false
/-- what is asked of the classes -/
def faCl (T : Tab) (tb : Tb) : List He.Fa := tb.cl.map He.Fa.cls ++ (tb.cl.flatMap (fun x => tb.fd.map fun f => He.Fa.noat x (tb.nm.getD f Str.empty)) ++
  (T.meths.map (fun p => He.Fa.meth (tb.cl.getD p.1.1 Str.empty) (tb.nm.getD p.1.2 Str.empty)) ++ (T.inits.map (fun p => He.Fa.glo (tb.cl.getD p.1 Str.empty)) ++ T.inits.map fun p => He.Fa.mkr (tb.cl.getD p.1 Str.empty))))
def faOf (T : Tab) (tb : Tb) : List He.Fa := tb.fn.map He.Fa.glo ++ (bNames.map He.Fa.free ++ ((tb.gl.zip T.globs).map (fun p => glF p.1 p.2) ++ (faCl T tb ++ tb.tbn.map He.Fa.glo)))
/-- the module's tables -/
def tsOf (T : Tab) (tb : Tb) : List He.Tab := (tb.tbn.zip T.tabs).map fun p => (fun K => He.ga K p.1, p.2.map fun q => strOf q.1)
def exOf (T : Tab) (tb : Tb) (K : Frag) : Bool := (tb.tbn.zip T.tabs).all (fun p => He.valsB K (He.ga K p.1) (p.2.map fun q => (strOf q.1, dvOf q.2))) && (tb.gl.zip T.globs).all fun p => match p.2 with
  | .tup ds => He.tupB K p.1 (ds.map dvOf)
  | _ => true
def tabOk (kvs : List (List Nat × D)) : Bool := kvs.all fun p => flOk p.2
theorem dicW_none {P : Params} {a : PySem.Addr} {ks : List Str} {z : Str} (h : He.dicW K a = some (He.keysIn P ks)) (hz : z ∉ ks) : PySem.W.nsIn K a z = some none := by
  unfold He.dicW at h
  cases q : K.lookup a with
  | none =>
    rw [q] at h
    cases h
  | some o =>
    obtain ⟨oc, od, dt, osl⟩ := o
    rw [q] at h
    cases oc with
    | type c =>
      cases od with
      | none =>
        cases dt with
        | dict es n =>
          have h1 : (match decide (c = "dict") && (osl.isEmpty && !(a == sysModules)) with
            | true => some (es.toList.map He.keyOf)
            | false => none) = some (He.keysIn P ks) := h
          cases zz : decide (c = "dict") && (osl.isEmpty && !(a == sysModules)) with
          | false =>
            rw [zz] at h1
            cases h1
          | true =>
            rw [zz] at h1
            have h2 : es.toList.map He.keyOf = He.keysIn P ks := Option.some.inj h1
            unfold PySem.W.nsIn
            rw [q]
            have ent : ∀ e ∈ es.toList, ∃ x t, e.key = .str x t ∧ x ∈ ks := fun e he => by
              have m : He.keyOf e ∈ He.keysIn P ks := by rw [← h2]; exact List.mem_map_of_mem he
              obtain ⟨k, hk, e2⟩ := List.mem_map.mp m
              unfold He.keyOf at e2
              split at e2
              · rename_i x t q
                have := (Prod.mk.inj (Option.some.inj e2)).1
                exact ⟨x, t, q, by rw [← this]; exact hk⟩
              · cases e2
            have f1 : es.toList.find? (fun e => e.key.isStr z) = none := List.find?_eq_none.mpr fun e he => by
              obtain ⟨x, t, e1, e2⟩ := ent e he
              rw [e1]
              intro hh
              have : x = z := by simpa [Value.isStr] using hh
              exact hz (this ▸ e2)
            have f2 : es.toList.any (·.refKey) = false := List.any_eq_false.mpr fun e he => by
              obtain ⟨x, t, e1, e2⟩ := ent e he
              unfold DictEntry.refKey
              rw [e1]
              exact Bool.false_ne_true
            show (match es.toList.find? (fun e => e.key.isStr z) with
              | some e => some (some e.val)
              | none => if es.toList.any (·.refKey) then none else some none) = _
            rw [f1, f2]
            rfl
        | _ => cases h
      | some b => cases dt <;> cases h
    | _ => cases od <;> cases dt <;> cases h
def fadOf (K : Frag) (fns : List FD) (f : Nat) : PySem.Addr := match fns[f]? with
  | some q => He.fAd K q.d.at_
  | none => 0
def atOk (fns : List FD) (f : Nat) (p : Str × Option Str) : Bool := match fns[f]? with
  | some q => decide (q.d.at_ = p)
  | none => false
def clsOk (T : Tab) (tb : Tb) (fns : List FD) : Bool := (T.meths.all fun p => (decide (p.1.1 < tb.cl.length) && decide (p.1.2 < tb.nm.length)) && atOk fns p.2 (tb.cl.getD p.1.1 Str.empty, some (tb.nm.getD p.1.2 Str.empty))) &&
  ((T.inits.all fun p => decide (p.1 < tb.cl.length) && atOk fns p.2 (tb.cl.getD p.1 Str.empty, some "__init__")) && ((decide tb.nm.Nodup && tb.nm.all fun x => !decide (x = Str.empty)) && (decide (T.inits = tb.ini) && (decide (T.meths = tb.mts) && (decide (tb.tbn.length ≤ T.tabs.length) && T.tabs.all tabOk)))))
def namesOk (T : Tab) (tb : Tb) (fns : List FD) : Bool := decide (fns.length = T.defs.length) && (decide (tb.fn.length ≤ fns.length) && (((tb.fn.zip fns).all fun p => decide (p.2.d.at_ = (p.1, none))) && (T.globs.all glOk && ((fns.zip T.defs).all (fun p => p.1.ok tb p.2) && clsOk T tb fns))))
def c0Of (P : Program) (w : World) (K : Frag) (tb : Tb) : Cc := ⟨P, w, K, fun i => He.ga K (tb.cl.getD i Str.empty), fun i => tb.nm.getD i Str.empty, fun _ => none, fun _ => none⟩
theorem zip_at {α β : Type} {l : List α} {m : List β} {i : Nat} {x : α} {y : β} (h1 : l[i]? = some x) (h2 : m[i]? = some y) : (x, y) ∈ l.zip m := List.mem_of_getElem? (List.getElem?_zip_eq_some.mpr ⟨h1, h2⟩)
theorem fact_all {fa : List He.Fa} {fn : List He.DefD} (c : He.SaysD fa fn K) {f : He.Fa} (h : f ∈ fa) : f.ok K = true := by
  obtain ⟨i, hi⟩ := List.getElem?_of_mem h
  exact c.fact i hi
theorem lookup_mem {α β : Type} [BEq α] [LawfulBEq α] {a : α} {b : β} : ∀ {l : List (α × β)}, l.lookup a = some b → (a, b) ∈ l
  | [], h => by cases h
  | (x, y) :: l, h => by
    by_cases e : a = x
    · subst e
      have : ((a, y) :: l).lookup a = some y := by simp [List.lookup]
      rw [this] at h
      cases h
      exact List.mem_cons_self ..
    · have e2 : (a == x) = false := beq_eq_false_iff_ne.mpr e
      have : ((x, y) :: l).lookup a = l.lookup a := by simp [List.lookup, e2]
      rw [this] at h
      exact List.mem_cons_of_mem _ (lookup_mem h)
theorem lookup_none {α β : Type} [BEq α] [LawfulBEq α] {a : α} : ∀ {l : List (α × β)}, l.lookup a = none → ∀ b, (a, b) ∉ l
  | [], _, b => by simp
  | (x, y) :: l, h, b => by
    by_cases e : a = x
    · subst e
      have : ((a, y) :: l).lookup a = some y := by simp [List.lookup]
      rw [this] at h
      cases h
    · have e2 : (a == x) = false := beq_eq_false_iff_ne.mpr e
      have : ((x, y) :: l).lookup a = l.lookup a := by simp [List.lookup, e2]
      rw [this] at h
      intro hm
      rcases List.mem_cons.mp hm with z | z
      · exact e (Prod.mk.inj z).1
      · exact lookup_none h b z
theorem gx_of {fns : List FD} (X : K.In h) (G : h.Ns mainGlobals mg) (c0 : He.SaysX (faOf T tb) (fns.map (·.d)) (tsOf T tb) [] (exOf T tb) w h0 K) (hn : namesOk T tb fns = true) : Gx P w K mg T tb (c0Of P w K tb) (fadOf K fns) := by
  obtain ⟨h1, hn⟩ := ands hn
  obtain ⟨h2, hn⟩ := ands hn
  obtain ⟨h3, hn⟩ := ands hn
  obtain ⟨h4, hn⟩ := ands hn
  obtain ⟨h5, hn⟩ := ands hn
  obtain ⟨h6, hn⟩ := ands hn
  obtain ⟨h7, hn⟩ := ands hn
  obtain ⟨h8, hn⟩ := ands hn
  obtain ⟨h8, h9⟩ := ands h8
  obtain ⟨h10, hn⟩ := ands hn
  obtain ⟨h11, hn⟩ := ands hn
  obtain ⟨h12, h13⟩ := ands hn
  have c := c0.t.d
  obtain ⟨x1, x2⟩ := ands c0.more
  have e1 := of_decide_eq_true h1
  have e2 := of_decide_eq_true h2
  have cf : ∀ {f : He.Fa}, f ∈ faCl T tb → f.ok K = true := fun hf => fact_all c (List.mem_append_right _ (List.mem_append_right _ (List.mem_append_right _ (List.mem_append_left _ hf))))
  have cl : ∀ C, C < tb.cl.length → Cls K ((c0Of P w K tb).cA C) := fun C hC => by
    show Cls K (He.ga K (tb.cl.getD C Str.empty))
    rw [List.getD_eq_getElem?_getD, List.getElem?_eq_getElem hC]
    exact He.cls_ok (cf (List.mem_append_left _ (List.mem_map_of_mem (List.getElem_mem hC))))
  have atk : ∀ {f : Nat} {p : Str × Option Str}, atOk fns f p = true → f < T.defs.length ∧ fadOf K fns f = He.fAd K p := fun {f p} h => by
    unfold atOk at h
    cases e : fns[f]? with
    | none => rw [e] at h; cases h
    | some q =>
      rw [e] at h
      have hl := (List.getElem?_eq_some_iff.mp e).1
      refine ⟨by omega, ?_⟩
      unfold fadOf
      rw [e]
      show He.fAd K q.d.at_ = _
      rw [of_decide_eq_true h]
  refine ⟨rfl, rfl, rfl, fun x hx => ?_, fun f x e => ?_, fun C m f x e e3 => ?_, fun C f x e e3 => ?_, fun x y e => ?_, fun x y e hx => ?_, of_decide_eq_true h10, of_decide_eq_true h11, fun g x kvs e3 e4 => ?_, of_decide_eq_true h12, fun C x hC hx => ?_, fun g x d e3 e4 => ?_⟩
  · exact He.free_ok X G (fact_all c (List.mem_append_right _ (List.mem_append_left _ (List.mem_map_of_mem hx))))
  · have hl : f < tb.fn.length := (List.getElem?_eq_some_iff.mp e).1
    have hf : f < fns.length := by omega
    refine ⟨by omega, ?_⟩
    have g := He.glo_ok X G (fact_all c (List.mem_append_left _ (List.mem_map_of_mem (List.mem_of_getElem? e))))
    have q := of_decide_eq_true (List.all_eq_true.mp h3 _ (zip_at e (List.getElem?_eq_getElem hf)))
    unfold fadOf
    rw [List.getElem?_eq_getElem hf]
    show mg x = some (.ref (He.fAd K fns[f].d.at_))
    rw [q]
    exact g
  · have hp := lookup_mem e
    obtain ⟨q1, q2⟩ := ands (List.all_eq_true.mp h6 _ hp)
    obtain ⟨q1, q3⟩ := ands q1
    have q1 := of_decide_eq_true q1
    have hx : tb.nm.getD m Str.empty = x := by rw [List.getD_eq_getElem?_getD, e3]; rfl
    obtain ⟨z1, z2⟩ := atk q2
    refine ⟨z1, cl C q1, hx, ?_⟩
    have g := He.meth_ok (cf (List.mem_append_right _ (List.mem_append_right _ (List.mem_append_left _ (List.mem_map_of_mem hp)))))
    rw [z2]
    have g : Meth K (He.ga K (tb.cl.getD C Str.empty)) (tb.nm.getD m Str.empty) (He.ma K (He.ga K (tb.cl.getD C Str.empty)) (tb.nm.getD m Str.empty)) := g
    rw [hx] at g ⊢
    exact g
  · have hp := lookup_mem e
    obtain ⟨q1, q2⟩ := ands (List.all_eq_true.mp h7 _ hp)
    have hx : tb.cl.getD C Str.empty = x := by rw [List.getD_eq_getElem?_getD, e3]; rfl
    obtain ⟨z1, z2⟩ := atk q2
    have g1 := He.glo_ok X G (cf (List.mem_append_right _ (List.mem_append_right _ (List.mem_append_right _ (List.mem_append_left _ (List.mem_map_of_mem hp))))))
    have g2 := He.mkr_ok (cf (List.mem_append_right _ (List.mem_append_right _ (List.mem_append_right _ (List.mem_append_right _ (List.mem_map_of_mem hp))))))
    have g1 : mg (tb.cl.getD C Str.empty) = some (.ref (He.ga K (tb.cl.getD C Str.empty))) := g1
    have g2 : Mk K (He.ga K (tb.cl.getD C Str.empty)) (He.ma K (He.ga K (tb.cl.getD C Str.empty)) "__init__") := g2
    refine ⟨z1, ?_, ?_⟩
    · show mg x = some (.ref (He.ga K (tb.cl.getD C Str.empty)))
      rw [← g1, hx]
    · rw [z2]
      exact g2
  · show tb.nm.getD x Str.empty = y
    rw [List.getD_eq_getElem?_getD, e]; rfl
  · have e : tb.nm.getD x Str.empty = tb.nm.getD y Str.empty := e
    rw [List.getD_eq_getElem?_getD, List.getD_eq_getElem?_getD, List.getElem?_eq_getElem hx] at e
    by_cases hy : y < tb.nm.length
    · rw [List.getElem?_eq_getElem hy] at e
      exact (List.getElem_inj (of_decide_eq_true h8)).mp e
    · rw [List.getElem?_eq_none (by omega)] at e
      have q := List.all_eq_true.mp h9 _ (List.getElem_mem hx)
      have e : tb.nm[x] = Str.empty := e
      rw [e] at q
      simp at q
  · have g1 := He.glo_ok X G (fact_all c (List.mem_append_right _ (List.mem_append_right _ (List.mem_append_right _ (List.mem_append_right _ (List.mem_map_of_mem (List.mem_of_getElem? e3)))))))
    have hz := zip_at e3 e4
    obtain ⟨j, hj⟩ := List.getElem?_of_mem hz
    have ht : (tsOf T tb)[j]? = some (fun K => He.ga K x, kvs.map fun q => strOf q.1) := by
      unfold tsOf
      rw [List.getElem?_map, hj]; rfl
    obtain ⟨es, n, D⟩ := c0.t.tab j ht
    have e5 : (tsOf T tb).map (fun t => He.dicW K (t.1 K)) = (tsOf T tb).map fun t => some (He.keysIn w.params t.2) := congrArg (fun z : He.AlT => z.2) c0.t
    have e6 : He.dicW K (He.ga K x) = some (He.keysIn w.params (kvs.map fun q => strOf q.1)) := by
      have := congrArg (fun l => l[j]?) e5
      simp only [List.getElem?_map, ht, Option.map_some] at this
      exact Option.some.inj this
    have vb := List.all_eq_true.mp x1 _ hz
    have tk := List.all_eq_true.mp h13 _ (List.mem_of_getElem? e4)
    refine ⟨He.ga K x, es, n, g1, D, fun s => ?_⟩
    cases hl : kvs.lookup s with
    | some d =>
      have hm := lookup_mem hl
      obtain ⟨u, q1, q2⟩ := He.valsB_ok vb (List.mem_map_of_mem hm)
      have fo := List.all_eq_true.mp tk _ hm
      exact ⟨u, _, q1, q2, (fl_rel (K := K) (c := ⟨P, w, K, fun _ => 0, fun _ => Str.empty, fun _ => none, fun _ => none⟩) (H := fun _ => none) fo).2.1, (fl_rel (K := K) (c := ⟨P, w, K, fun _ => 0, fun _ => Str.empty, fun _ => none, fun _ => none⟩) (H := fun _ => none) fo).2.2, fun c H => (fl_rel fo).1⟩
    | none =>
      refine dicW_none e6 fun hk => ?_
      obtain ⟨q, hq, e7⟩ := List.mem_map.mp hk
      have e8 := strOf_inj e7
      have := lookup_none hl q.2
      rw [← e8] at this
      exact this hq
  · obtain ⟨f, hf⟩ := Option.isSome_iff_exists.mp hC
    have hp := lookup_mem hf
    obtain ⟨q1, _⟩ := ands (List.all_eq_true.mp h7 _ hp)
    have q1 := of_decide_eq_true q1
    refine ⟨cl C q1, ?_⟩
    refine He.noat_ok (x := tb.cl.getD C Str.empty) (f := tb.nm.getD x Str.empty) (cf (List.mem_append_right _ (List.mem_append_left _ (List.mem_flatMap.mpr ⟨_, ?_, List.mem_map.mpr ⟨x, hx, rfl⟩⟩))))
    rw [List.getD_eq_getElem?_getD, List.getElem?_eq_getElem q1]
    exact List.getElem_mem q1
  · have hm : glF x d ∈ faOf T tb := List.mem_append_right _ (List.mem_append_right _ (List.mem_append_left _ (List.mem_map.mpr ⟨(x, d), zip_at e3 e4, rfl⟩)))
    have f := fact_all c hm
    have ok := List.all_eq_true.mp h4 d (List.mem_of_getElem? e4)
    cases d with
    | int i =>
      obtain ⟨t, ht⟩ := He.int_ok X G f
      exact ⟨rfl, fun i z => (nomatch z), .int i, _, ht, ⟨t, rfl⟩, fun H => .int i⟩
    | str s =>
      obtain ⟨t, ht⟩ := He.str_ok X G f
      have hz := of_decide_eq_true (show decide (s.length ≤ 1000000) = true from ok)
      exact ⟨rfl, fun i z => (nomatch z), .str (strOf s), _, ht, ⟨t, rfl⟩, fun H => .str s (by show _ ≤ 16777216; omega)⟩
    | tup ds =>
      obtain ⟨k1, k2⟩ := ands (show (ds.all flOk && decide (ds.length ≤ 1000)) = true from ok)
      have k2 := of_decide_eq_true k2
      have g := He.glo_ok X G f
      have tt := List.all_eq_true.mp x2 _ (zip_at e3 e4)
      exact ⟨rfl, fun i z => (nomatch z), .ref (He.ga K x), _, g, rfl, fun H => .tup (He.tupB_ok tt H) (by show _ ≤ 16777216; omega) (fl_rels k1)⟩
    | _ => cases ok
theorem funs_of {fns : List FD} {fa : List He.Fa} (c : He.SaysD fa (fns.map (·.d)) K) {f : Nat} {q : FD} (e : fns[f]? = some q) : ∃ fd, FunD K q.d.name q.d.qual q.d.params q.d.body q.d.scope (q.d.dvs K) (q.d.kws K) (fadOf K fns f) fd := by
  obtain ⟨fd, F⟩ := c.def_ f (d := q.d) (by rw [List.getElem?_map, e]; rfl)
  refine ⟨fd, ?_⟩
  unfold fadOf
  rw [e]
  exact F
/-- the law's def L, from the meaning of its text -/
theorem law_end {fns : List FD} {L n : Nat} {q : FD} {cd : CDef} {x : Str} (X : K.In h) (G : h.Ns mainGlobals mg) (c0 : He.SaysX (faOf T tb) (fns.map (·.d)) (tsOf T tb) [] (exOf T tb) w h0 K) (hn : namesOk T tb fns = true) (hb : AllBd fns) (hq : fns[L]? = some q) (hd : T.defs[L]? = some cd) (hp : q.ps = [x])
    {fa : PySem.Addr} (hfa : mg "law" = some (.ref fa)) (hL : tb.fn[L]? = some "law") (hm : ∀ ns : List Int, ns.length ≤ 63 → Gam T (n + 1) L [.lst (ns.map D.int)] (fun _ => none) (fun d _ => d = .bl true) (fun _ _ => False)) :
    ∃ (K : Frag) (fd : FuncData) (sp : Sp), K.In h ∧ (∀ (s : Shared) (u : Value), BindsTo s fd ⟨[u], []⟩ [(x, u)]) ∧
      (∀ (H : Hp) (a : PySem.Addr) (ns : List Int), ns.length ≤ 63 → Only H → SqL K H a (ns.map V.int) → sp [.ref a] H (fun v _ => v = .bl true) fun _ _ _ => False) ∧
      ∀ base : Heap, K.In base → base.Ns mainGlobals mg → FnOk P w K mg base (CXa P) (2 * n + 2) fa fd [x] sp := by
  have c := c0.t.d
  have gx := gx_of (P := P) (w := w) X G c0 hn
  obtain ⟨h1, hn'⟩ := ands hn
  obtain ⟨_, hn'⟩ := ands hn'
  obtain ⟨_, hn'⟩ := ands hn'
  obtain ⟨_, hn'⟩ := ands hn'
  obtain ⟨h5, _⟩ := ands hn'
  have e1 := of_decide_eq_true h1
  have ok : ∀ (f : Nat) (q : FD) (cd : CDef), fns[f]? = some q → T.defs[f]? = some cd → q.ok tb cd = true := fun f q cd a b => List.all_eq_true.mp h5 _ (zip_at a b)
  obtain ⟨fd, F⟩ := funs_of c hq
  have ea : fa = fadOf K fns L := by
    obtain ⟨_, g⟩ := gx.fns L "law" hL
    rw [hfa] at g
    cases g
    rfl
  have bd := hb.at_ hq
  have hdv : q.d.dvs K = [] ∧ q.d.kws K = [] := by
    obtain ⟨_, z⟩ := ands (ok L q cd hq hd)
    obtain ⟨_, z⟩ := ands z
    obtain ⟨_, z⟩ := ands z
    obtain ⟨z1, z⟩ := ands z
    obtain ⟨z2, _⟩ := ands z
    unfold He.DefD.dvs He.DefD.kws
    rw [List.isEmpty_iff.mp z1, List.isEmpty_iff.mp z2]
    exact ⟨rfl, rfl⟩
  refine ⟨K, fd, spG (c0Of P w K tb) (Gam T (n + 1) L), X, fun s u => ?_, fun H a ns hl hO hS => spG_law hl hO hS (hm ns hl), fun base _ _ => ?_⟩
  · have F' := F
    rw [hdv.1] at F'
    have b := F'.bindsA (ps := q.ps) (fun kV doc pm an cdv ct us hl => bd kV doc pm an cdv ct us hl) s [u] (by rw [hp]; rfl)
    rw [hp] at b
    exact b
  · rw [ea, ← hp]
    exact Pv.FnOk.anyW (FD.holdsF gx hd (ok L q cd hq hd) F bd (defs_hold gx fns e1 ok (fun f q e => funs_of c e) (fun f q e => hb.at_ e) n)).1
end
end Pv

/-! E11: what an expression without effect gives, as a function. -/
namespace Pv
/-- pure defs, by their values -/
abbrev Phi := Nat → List D → Mem → Option D
def PureIn (Φ : Phi) (Γ : FSem) : Prop := ∀ f ds M r, Φ f ds M = some r → ∀ Q E, Q r M → Γ f ds M Q E
/-- a value that goes elsewhere: not a slot's own object -/
def frzP : D → Option D
  | .ol xs => some (.lst xs)
  | .od kvs => some (.dct kvs)
  | .slot _ => none
  | d => some d
def stoP : Tg → D → St → Option St
  | .n i, d, σ => some (σ.set i (some d))
  | .t is, d, σ => (match d with
    | .tup xs => if xs.length = is.length then some ((is.zip xs).foldl (fun τ p => τ.set p.1 (some p.2)) σ) else none
    | _ => none)
def noOwn (σ : St) (is : List Nat) : Bool := is.all fun i => match σ[i]? with
  | some (some (.ol _)) => false
  | some (some (.od _)) => false
  | some _ => true
  | none => false
def stand (d : D) (is : List Nat) : Bool := match d with
  | .slot i => !is.contains i
  | _ => true
def opt1 {α β : Type} (o : Option α) (f : α → Option β) : Option β := o.bind f
def mapO {α β : Type} (f : α → Option (Option β)) : List α → Option (List β)
  | [] => some []
  | x :: xs => (f x).bind fun y => (mapO f xs).map fun ys => match y with
    | some y => y :: ys
    | none => ys
def foldD {α : Type} (f : α → Option (Option (D × D))) : List α → List (D × D) → Option (List (D × D))
  | [], acc => some acc
  | x :: xs, acc => (f x).bind fun y => match y with
    | some (k, v) => if kOk acc k = true ∧ kSort k = 0 then foldD f xs (dput acc k v) else none
    | none => foldD f xs acc
section
variable (T : Tab) (Φ : Phi)
mutual
def ev : CE → St → Mem → Option D
  | .var i, σ, M => (match σ[i]? with
    | some (some (.ol _)) => some (.slot i)
    | some (some (.od _)) => some (.slot i)
    | some (some d) => some d
    | _ => none)
  | .con d, σ, M => some d
  | .glob g, σ, M => T.globs[g]?
  | .bin op a b, σ, M => (ev a σ M).bind fun x => (ev b σ M).bind fun y => opBin op (vw σ M (pk x)) (vw σ M (pk y))
  | .neg a, σ, M => (ev a σ M).bind fun x => (intOf x).map fun i => .int (-i)
  | .notE a, σ, M => (ev a σ M).bind fun x => match x with
    | .bl b => some (.bl (!b))
    | _ => none
  | .andE a b, σ, M => (ev a σ M).bind fun x => match x with
    | .bl true => ev b σ M
    | .bl false => some (.bl false)
    | _ => none
  | .orE a b, σ, M => (ev a σ M).bind fun x => match x with
    | .bl true => some (.bl true)
    | .bl false => ev b σ M
    | _ => none
  | .cmp op a b, σ, M => (ev a σ M).bind fun x => (ev b σ M).bind fun y => (opCmp op (vw σ M (pk x)) (vw σ M (pk y))).map .bl
  | .chain o1 o2 a b c, σ, M => (ev a σ M).bind fun x => (ev b σ M).bind fun y => (intOf x).bind fun i => (intOf y).bind fun j => (opCmp o1 (.int i) (.int j)).bind fun r =>
      if r = true then (ev c σ M).bind fun z => (opCmp o2 (.int j) (vw σ M (pk z))).map .bl else some (.bl false)
  | .isN n a, σ, M => (ev a σ M).map fun x => .bl (x.isNon != n)
  | .isB n a b, σ, M => (ev a σ M).bind fun x => match x with
    | .bl c => some (.bl ((c == b) != n))
    | _ => none
  | .ife c a b, σ, M => (evT c σ M).bind fun t => if t = true then ev a σ M else ev b σ M
  | .tup es, σ, M => (evL es σ M).bind fun xs => if xs.length ≤ SZ then some (.tup xs) else none
  | .lst es, σ, M => (evL es σ M).bind fun xs => if xs.length ≤ SZ then some (.ol xs) else none
  | .dsp es, σ, M => (evL es σ M).bind fun xs => if xs.length ≤ 30 then (pairUp xs).bind fun ps => if ps.all (fun p => kSort p.1 == 0) = true then (dputAll [] ps).map .od else none else none
  | .idx a b, σ, M => (ev a σ M).bind fun x => (ev b σ M).bind fun y => opIdx (vw σ M (pk x)) (pk y)
  | .slc a lo hi, σ, M => (ev a σ M).bind fun x => (evO lo σ M).bind fun l => (evO hi σ M).bind fun h => opSlc l h (vw σ M (pk x))
  | .call f bx es, σ, M => if bx.isEmpty then (evL es σ M).bind fun ds => Φ f ds M else none
  | .bc b es, σ, M => (evV es σ M).bind fun xs => opB b (xs.map (vw σ M))
  | .bm m o es, σ, M => (ev o σ M).bind fun x => if bmT m (vw σ M (pk x)) = true then (evV es σ M).bind fun ys => opM m (vw σ M (pk x)) (ys.map (vw σ M)) else none
  | .lc e tg it ifs, σ, M => (ev it σ M).bind fun d => (walk (pk d) (vw σ M (pk d))).bind fun xs => if noOwn σ (slotsOf tg) = true ∧ stand (pk d) (slotsOf tg) = true then
      (mapO (fun x => (stoP tg x (wipeS σ (slotsOf tg))).bind fun τ => (evIfs ifs τ M).bind fun t => if t = true then (ev e τ M).bind fun y => (frzP y).map some else some none) xs).map .ol else none
  | .lcr e tg lo hi ifs, σ, M => (evO lo σ M).bind fun l => (ev hi σ M).bind fun h => (intOf h).bind fun j => if ((l.getD 0).natAbs < 2 ^ 60 ∧ j.natAbs < 2 ^ 60 ∧ j - l.getD 0 ≤ SZ) ∧ noOwn σ (slotsOf tg) = true then
      (mapO (fun x => (stoP tg x (wipeS σ (slotsOf tg))).bind fun τ => (evIfs ifs τ M).bind fun t => if t = true then (ev e τ M).bind fun y => (frzP y).map some else some none) (rng (l.getD 0) 1 (j - l.getD 0).toNat)).map .ol else none
  | .dc a b tg it ifs, σ, M => (ev it σ M).bind fun d => (walk (pk d) (vw σ M (pk d))).bind fun xs => if noOwn σ (slotsOf tg) = true ∧ stand (pk d) (slotsOf tg) = true then
      (foldD (fun x => (stoP tg x (wipeS σ (slotsOf tg))).bind fun τ => (evIfs ifs τ M).bind fun t => if t = true then (ev a τ M).bind fun y => (frzP y).bind fun y => (ev b τ M).bind fun z => (frzP z).map fun z => some (y, z) else some none) xs []).map .od else none
  | .dcr a b tg lo hi ifs, σ, M => (evO lo σ M).bind fun l => (ev hi σ M).bind fun h => (intOf h).bind fun j => if ((l.getD 0).natAbs < 2 ^ 60 ∧ j.natAbs < 2 ^ 60 ∧ j - l.getD 0 ≤ SZ) ∧ noOwn σ (slotsOf tg) = true then
      (foldD (fun x => (stoP tg x (wipeS σ (slotsOf tg))).bind fun τ => (evIfs ifs τ M).bind fun t => if t = true then (ev a τ M).bind fun y => (frzP y).bind fun y => (ev b τ M).bind fun z => (frzP z).map fun z => some (y, z) else some none) (rng (l.getD 0) 1 (j - l.getD 0).toNat) []).map .od else none
  | .fld a x, σ, M => (ev a σ M).bind fun o => match o with
    | .ref p => (match M p with
      | some (.ins C fs) => if (T.inits.lookup C).isSome = true then fs.lookup x else none
      | _ => none)
    | _ => none
  | .mth C m o bx es, σ, M => (ev o σ M).bind fun x => match x with
    | .ref p => (match M p with
      | some (.ins C' fs) => if C' = C ∧ fs.lookup m = none ∧ bx.isEmpty = true then (T.meths.lookup (C, m)).bind fun f => (evL es σ M).bind fun ds => Φ f (.ref p :: ds) M else none
      | _ => none)
    | _ => none
  | .tin n a g, σ, M => (ev a σ M).bind fun x => match x with
    | .str s => (T.tabs[g]?).map fun kvs => .bl ((kvs.lookup s).isSome != n)
    | _ => none
  | .tix g a, σ, M => (ev a σ M).bind fun x => match x with
    | .str s => (T.tabs[g]?).bind fun kvs => kvs.lookup s
    | _ => none
  | .tget g a b, σ, M => (ev a σ M).bind fun x => (ev b σ M).bind fun y => (frzP y).bind fun y => match x with
    | .str s => (T.tabs[g]?).map fun kvs => (kvs.lookup s).getD y
    | _ => none
  | .replI a i y z, σ, M => (ev a σ M).bind fun x => (opIdx (vw σ M (pk x)) (.int i)).bind fun d => match d with
    | .str s => if y ≠ z ∧ s.length + (s.length + 1) * z.length ≤ SZ then some (.str (replL s y z)) else none
    | _ => none
  | _, _, _ => none
def evT : CT → St → Mem → Option Bool
  | .val e, σ, M => (ev e σ M).bind fun x => truth (vw σ M (pk x))
  | .not a, σ, M => (evT a σ M).map (!·)
  | .and a b, σ, M => (evT a σ M).bind fun c => if c = true then evT b σ M else some false
  | .or a b, σ, M => (evT a σ M).bind fun c => if c = true then some true else evT b σ M
  | .ife c a b, σ, M => (evT c σ M).bind fun t => if t = true then evT a σ M else evT b σ M
  | .jnr s e o y z, σ, M => (ev e σ M).bind fun x => match vw σ M (pk x) with
    | .lst xs => (xs.mapM strOf?).bind fun ys => if (ys.map (·.length)).sum + ys.length * s.length ≤ SZ then (ev o σ M).bind fun w => match w with
      | .str t => if y ≠ z ∧ t.length + (t.length + 1) * z.length ≤ SZ then some (!decide (joinL s ys = replL t y z)) else none
      | _ => none else none
    | _ => none
def evL : List CE → St → Mem → Option (List D)
  | [], σ, M => some []
  | e :: es, σ, M => (ev e σ M).bind fun x => (frzP x).bind fun x => (evL es σ M).map fun xs => x :: xs
def evV : List CE → St → Mem → Option (List D)
  | [], σ, M => some []
  | e :: es, σ, M => (ev e σ M).bind fun x => (evV es σ M).map fun xs => pk x :: xs
def evO : Option CE → St → Mem → Option (Option Int)
  | none, σ, M => some none
  | some e, σ, M => (ev e σ M).bind fun x => (intOf x).map some
def evIfs : List CT → St → Mem → Option Bool
  | [], σ, M => some true
  | [e], σ, M => evT e σ M
  | _, _, _ => none
end
end
section
variable {T : Tab} {Φ : Phi} {Γ : FSem} {E : Kx} {σ : St} {M : Mem}
theorem frzP_ok {d d' : D} {Q : Kt} (h : frzP d = some d') (q : Q d' σ M) : frz d σ M Q := by
  cases d <;> first | (cases h; exact q) | cases h
theorem stoP_ok {tg : Tg} {d : D} {τ : St} {Q : Ks} (h : stoP tg d σ = some τ) (q : Q τ M) : store tg d σ M Q := by
  cases tg with
  | n i => cases h; exact q
  | t is =>
    unfold stoP at h
    dsimp only at h
    split at h
    · split at h
      · rename_i hl
        cases h
        exact ⟨_, rfl, hl, q⟩
      · cases h
    · cases h
theorem wipeS_at : ∀ (is : List Nat) (τ : St) (j : Nat), (wipeS τ is)[j]? = if j ∈ is then τ[j]?.map (fun _ => none) else τ[j]?
  | [], τ, j => by simp [wipeS]
  | i :: is, τ, j => by
    have hlen : ∀ is : List Nat, (wipeS τ is).length = τ.length := fun is => by
      induction is with
      | nil => rfl
      | cons i is ih => unfold wipeS; rw [List.length_set, ih]
    unfold wipeS
    rw [List.getElem?_set, hlen]
    by_cases h : i = j
    · subst h
      rw [if_pos rfl, if_pos (List.mem_cons_self ..)]
      by_cases hl : i < τ.length
      · rw [if_pos hl, List.getElem?_eq_getElem hl]; rfl
      · rw [if_neg hl, List.getElem?_eq_none (by omega)]; rfl
    · rw [if_neg h, wipeS_at is τ j]
      by_cases h2 : j ∈ is
      · rw [if_pos h2, if_pos (List.mem_cons_of_mem _ h2)]
      · rw [if_neg h2, if_neg (fun z => (List.mem_cons.mp z).elim (fun e => h e.symm) h2)]
theorem back_wipe {is : List Nat} (h : noOwn σ is = true) : backS σ (wipeS σ is) is = σ := by
  refine List.ext_getElem? fun j => ?_
  rw [backS_at, wipeS_at]
  by_cases hj : j ∈ is
  · rw [if_pos hj, if_pos hj]
    have q := List.all_eq_true.mp h j hj
    cases e : σ[j]? with
    | none => rfl
    | some o =>
      rw [e] at q
      cases o with
      | none => rfl
      | some d => cases d <;> first | rfl | cases q
  · rw [if_neg hj, if_neg hj]
theorem stand_ok {d : D} {is : List Nat} (h : stand d is = true) : vw (wipeS σ is) M d = vw σ M d := by
  cases d with
  | slot i =>
    have hi : i ∉ is := by simpa [stand] using h
    simp only [vw]
    rw [wipeS_at, if_neg hi]
  | _ => rfl
theorem opt_bind {α β : Type} {o : Option α} {f : α → Option β} {y : β} (h : o.bind f = some y) : ∃ x, o = some x ∧ f x = some y := Option.bind_eq_some_iff.mp h
theorem opt_map {α β : Type} {o : Option α} {f : α → β} {y : β} (h : o.map f = some y) : ∃ x, o = some x ∧ f x = y := Option.map_eq_some_iff.mp h
theorem mapO_ok {chk : Ks} {step : D → (Option D → Ks) → Ks} {fin : List D → Ks} {f : D → Option (Option D)} (hc : chk σ M) (hs : ∀ x y k, f x = some y → k y σ M → step x k σ M) :
    ∀ {xs ys acc : List D}, mapO f xs = some ys → fin (acc ++ ys) σ M → lcEach chk step fin xs acc σ M
  | [], ys, acc, h, q => by
    cases h
    rw [List.append_nil] at q
    exact ⟨hc, q⟩
  | x :: xs, ys, acc, h, q => by
    obtain ⟨y, h1, h2⟩ := opt_bind h
    obtain ⟨zs, h3, h4⟩ := opt_map h2
    refine ⟨hc, hs x y _ h1 ?_⟩
    cases y with
    | some y =>
      have e : ys = y :: zs := h4.symm
      subst e
      exact mapO_ok hc hs h3 (by rw [List.append_assoc]; exact q)
    | none =>
      have e : ys = zs := h4.symm
      subst e
      exact mapO_ok hc hs h3 q
theorem foldD_ok {chk : Ks} {step : D → (Option (D × D) → Ks) → Ks} {fin : List (D × D) → Ks} {f : D → Option (Option (D × D))} (hc : chk σ M) (hs : ∀ x y k, f x = some y → k y σ M → step x k σ M) :
    ∀ {xs : List D} {ys acc : List (D × D)}, foldD f xs acc = some ys → fin ys σ M → dcEach chk step fin xs acc σ M
  | [], ys, acc, h, q => by
    cases h
    exact ⟨hc, q⟩
  | x :: xs, ys, acc, h, q => by
    obtain ⟨y, h1, h2⟩ := opt_bind h
    refine ⟨hc, hs x y _ h1 ?_⟩
    cases y with
    | some y =>
      obtain ⟨k, v⟩ := y
      have h2 : (if kOk acc k = true ∧ kSort k = 0 then foldD f xs (dput acc k v) else none) = some ys := h2
      split at h2
      · rename_i hk
        exact ⟨hk, foldD_ok hc hs h2 q⟩
      · cases h2
    | none => exact foldD_ok hc hs h2 q
theorem intOf_ok {d : D} {i : Int} (h : intOf d = some i) : d = .int i := by
  cases d <;> first | (cases h; rfl) | cases h
end
end Pv

/-! E12: expressions without effect: the function is right. -/
namespace Pv
section
variable {T : Tab} {Φ : Phi} {Γ : FSem}
theorem lcStep_ok {tg : Tg} {tt : KT} {te : KE} {σ : St} {M : Mem} {c : St → Option Bool} {v : St → Option D} (hc : ∀ τ b Q, c τ = some b → Q b τ M → tt E0 τ M Q) (hv : ∀ τ d Q, v τ = some d → Q d τ M → te E0 τ M Q)
    (hl : ∀ x τ, stoP tg x (wipeS σ (slotsOf tg)) = some τ → wipeS τ (slotsOf tg) = wipeS σ (slotsOf tg)) {x : D} {y : Option D} {k : Option D → Ks}
    (h : ((stoP tg x (wipeS σ (slotsOf tg))).bind fun τ => (c τ).bind fun t => if t = true then (v τ).bind fun y => (frzP y).map some else some none) = some y) (q : k y (wipeS σ (slotsOf tg)) M) : lcStep tg tt te x k (wipeS σ (slotsOf tg)) M := by
  obtain ⟨τ, h1, h2⟩ := opt_bind h
  obtain ⟨t, h3, h4⟩ := opt_bind h2
  refine stoP_ok h1 (hc τ t _ h3 ?_)
  cases t with
  | true =>
    obtain ⟨d, h5, h6⟩ := opt_bind h4
    obtain ⟨d', h7, h8⟩ := opt_map h6
    refine hv τ d _ h5 (frzP_ok h7 ?_)
    rw [hl x τ h1, h8]
    exact q
  | false =>
    cases h4
    show k none (wipeS τ _) M
    rw [hl x τ h1]
    exact q
theorem dcStep_ok {tg : Tg} {tt : KT} {ta tb : KE} {σ : St} {M : Mem} {c : St → Option Bool} {v w : St → Option D} (hc : ∀ τ b Q, c τ = some b → Q b τ M → tt E0 τ M Q) (hv : ∀ τ d Q, v τ = some d → Q d τ M → ta E0 τ M Q)
    (hw : ∀ τ d Q, w τ = some d → Q d τ M → tb E0 τ M Q) (hl : ∀ x τ, stoP tg x (wipeS σ (slotsOf tg)) = some τ → wipeS τ (slotsOf tg) = wipeS σ (slotsOf tg)) {x : D} {y : Option (D × D)} {k : Option (D × D) → Ks}
    (h : ((stoP tg x (wipeS σ (slotsOf tg))).bind fun τ => (c τ).bind fun t => if t = true then (v τ).bind fun y => (frzP y).bind fun y => (w τ).bind fun z => (frzP z).map fun z => some (y, z) else some none) = some y)
    (q : k y (wipeS σ (slotsOf tg)) M) : dcStep tg tt ta tb x k (wipeS σ (slotsOf tg)) M := by
  obtain ⟨τ, h1, h2⟩ := opt_bind h
  obtain ⟨t, h3, h4⟩ := opt_bind h2
  refine stoP_ok h1 (hc τ t _ h3 ?_)
  cases t with
  | true =>
    obtain ⟨d, h5, h6⟩ := opt_bind h4
    obtain ⟨d', h7, h8⟩ := opt_bind h6
    obtain ⟨z, h9, ha⟩ := opt_bind h8
    obtain ⟨z', hb, hd⟩ := opt_map ha
    refine hv τ d _ h5 (frzP_ok h7 (hw τ z _ h9 (frzP_ok hb ?_)))
    rw [hl x τ h1, hd]
    exact q
  | false =>
    cases h4
    show k none (wipeS τ _) M
    rw [hl x τ h1]
    exact q
theorem wipeS_set {is : List Nat} {σ : St} {i : Nat} {x : Option D} (h : i ∈ is) : wipeS (σ.set i x) is = wipeS σ is := by
  refine List.ext_getElem? fun j => ?_
  rw [wipeS_at, wipeS_at, List.getElem?_set]
  by_cases e : i = j
  · subst e
    rw [if_pos h, if_pos h, if_pos rfl]
    by_cases hl : i < σ.length
    · rw [if_pos hl, List.getElem?_eq_getElem hl]; rfl
    · rw [if_neg hl, List.getElem?_eq_none (by omega)]
  · rw [if_neg e]
theorem wipeS_wipe {is : List Nat} {σ : St} : wipeS (wipeS σ is) is = wipeS σ is := by
  refine List.ext_getElem? fun j => ?_
  rw [wipeS_at, wipeS_at]
  by_cases h : j ∈ is
  · rw [if_pos h, if_pos h]
    cases σ[j]? <;> rfl
  · rw [if_neg h, if_neg h]
theorem sto_fold {js : List Nat} : ∀ (l : List (Nat × D)) (σ : St), (∀ p ∈ l, p.1 ∈ js) → wipeS (l.foldl (fun τ p => τ.set p.1 (some p.2)) σ) js = wipeS σ js
  | [], σ, _ => rfl
  | p :: l, σ, h => by
    show wipeS (l.foldl _ (σ.set p.1 (some p.2))) js = _
    rw [sto_fold l _ fun q hq => h q (List.mem_cons_of_mem _ hq)]
    exact wipeS_set (h p (List.mem_cons_self ..))
theorem sto_wipe {tg : Tg} {σ : St} (x : D) (τ : St) (h : stoP tg x (wipeS σ (slotsOf tg)) = some τ) : wipeS τ (slotsOf tg) = wipeS σ (slotsOf tg) := by
  cases tg with
  | n i =>
    cases h
    show wipeS (List.set (wipeS σ [i]) i (some x)) [i] = wipeS σ [i]
    rw [wipeS_set (List.mem_cons_self ..), wipeS_wipe]
  | t is =>
    unfold stoP at h
    dsimp only at h
    split at h
    · split at h
      · cases h
        show wipeS (List.foldl _ (wipeS σ is) (is.zip _)) is = wipeS σ is
        rw [sto_fold _ _ fun p hp => (List.of_mem_zip hp).1]
        exact wipeS_wipe
      · cases h
    · cases h
mutual
theorem ev_ok (hΦ : PureIn Φ Γ) : ∀ (e : CE) {E : Kx} {σ : St} {M : Mem} {d : D} {Q : Kt}, ev T Φ e σ M = some d → Q d σ M → wpE T Γ E e σ M Q
  | .var i, E, σ, M, d, Q, h, q => by
    unfold ev at h
    unfold wpE
    cases hs : σ[i]? with
    | none => rw [hs] at h; cases h
    | some o =>
      rw [hs] at h
      cases o with
      | none => cases h
      | some e => cases e <;> (cases h; exact q)
  | .con d0, E, σ, M, d, Q, h, q => by
    cases h
    exact q
  | .glob g, E, σ, M, d, Q, h, q => by
    have h : T.globs[g]? = some d := h
    unfold wpE
    rw [h]
    exact q
  | .bin op a b, E, σ, M, d, Q, h, q => by
    unfold ev at h
    obtain ⟨x, h1, h2⟩ := opt_bind h
    obtain ⟨y, h3, h4⟩ := opt_bind h2
    exact ev_ok hΦ a h1 (ev_ok hΦ b h3 ⟨d, h4, q⟩)
  | .neg a, E, σ, M, d, Q, h, q => by
    unfold ev at h
    obtain ⟨x, h1, h2⟩ := opt_bind h
    obtain ⟨i, h3, h4⟩ := opt_map h2
    exact ev_ok hΦ a h1 ⟨i, intOf_ok h3, by rw [h4]; exact q⟩
  | .notE a, E, σ, M, d, Q, h, q => by
    unfold ev at h
    obtain ⟨x, h1, h2⟩ := opt_bind h
    cases x <;> first | (cases h2; done) | skip
    cases h2
    exact ev_ok hΦ a h1 ⟨_, rfl, q⟩
  | .andE a b, E, σ, M, d, Q, h, q => by
    unfold ev at h
    obtain ⟨x, h1, h2⟩ := opt_bind h
    refine ev_ok hΦ a h1 ?_
    cases x <;> first | (cases h2; done) | skip
    rename_i v
    refine ⟨v, rfl, ?_⟩
    cases v with
    | true => exact ev_ok hΦ b h2 q
    | false => cases h2; exact q
  | .orE a b, E, σ, M, d, Q, h, q => by
    unfold ev at h
    obtain ⟨x, h1, h2⟩ := opt_bind h
    refine ev_ok hΦ a h1 ?_
    cases x <;> first | (cases h2; done) | skip
    rename_i v
    refine ⟨v, rfl, ?_⟩
    cases v with
    | false => exact ev_ok hΦ b h2 q
    | true => cases h2; exact q
  | .cmp op a b, E, σ, M, d, Q, h, q => by
    unfold ev at h
    obtain ⟨x, h1, h2⟩ := opt_bind h
    obtain ⟨y, h3, h4⟩ := opt_bind h2
    obtain ⟨r, h5, h6⟩ := opt_map h4
    exact ev_ok hΦ a h1 (ev_ok hΦ b h3 ⟨r, h5, by rw [h6]; exact q⟩)
  | .chain o1 o2 a b c, E, σ, M, d, Q, h, q => by
    unfold ev at h
    obtain ⟨x, h1, h2⟩ := opt_bind h
    obtain ⟨y, h3, h4⟩ := opt_bind h2
    obtain ⟨i, h5, h6⟩ := opt_bind h4
    obtain ⟨j, h7, h8⟩ := opt_bind h6
    obtain ⟨r, h9, ha⟩ := opt_bind h8
    cases intOf_ok h5
    cases intOf_ok h7
    refine ev_ok hΦ a h1 (ev_ok hΦ b h3 ⟨i, j, r, rfl, rfl, h9, ?_⟩)
    cases r with
    | true =>
      obtain ⟨z, hb, hc⟩ := opt_bind ha
      obtain ⟨r, hd, he⟩ := opt_map hc
      exact ev_ok hΦ c hb ⟨r, hd, by rw [he]; exact q⟩
    | false => cases ha; exact q
  | .isN n a, E, σ, M, d, Q, h, q => by
    unfold ev at h
    obtain ⟨x, h1, h2⟩ := opt_map h
    refine ev_ok hΦ a h1 ?_
    rw [← h2] at q
    exact q
  | .isB n a b, E, σ, M, d, Q, h, q => by
    unfold ev at h
    obtain ⟨x, h1, h2⟩ := opt_bind h
    cases x <;> first | (cases h2; done) | skip
    cases h2
    exact ev_ok hΦ a h1 ⟨_, rfl, q⟩
  | .ife c a b, E, σ, M, d, Q, h, q => by
    unfold ev at h
    obtain ⟨t, h1, h2⟩ := opt_bind h
    refine evT_ok hΦ c h1 ?_
    cases t with
    | true => exact ev_ok hΦ a h2 q
    | false => exact ev_ok hΦ b h2 q
  | .tup es, E, σ, M, d, Q, h, q => by
    unfold ev at h
    obtain ⟨xs, h1, h2⟩ := opt_bind h
    split at h2
    · rename_i hz
      cases h2
      exact evL_ok hΦ es h1 ⟨hz, q⟩
    · cases h2
  | .lst es, E, σ, M, d, Q, h, q => by
    unfold ev at h
    obtain ⟨xs, h1, h2⟩ := opt_bind h
    split at h2
    · rename_i hz
      cases h2
      exact evL_ok hΦ es h1 ⟨hz, q⟩
    · cases h2
  | .dsp es, E, σ, M, d, Q, h, q => by
    unfold ev at h
    obtain ⟨xs, h1, h2⟩ := opt_bind h
    split at h2
    · rename_i hz
      obtain ⟨ps, h3, h4⟩ := opt_bind h2
      split at h4
      · rename_i ha
        obtain ⟨kvs, h5, h6⟩ := opt_map h4
        cases h6
        exact evL_ok hΦ es h1 ⟨hz, ps, kvs, h3, ha, h5, q⟩
      · cases h4
    · cases h2
  | .idx a b, E, σ, M, d, Q, h, q => by
    unfold ev at h
    obtain ⟨x, h1, h2⟩ := opt_bind h
    obtain ⟨y, h3, h4⟩ := opt_bind h2
    exact ev_ok hΦ a h1 (ev_ok hΦ b h3 ⟨d, h4, q⟩)
  | .slc a lo hi, E, σ, M, d, Q, h, q => by
    unfold ev at h
    obtain ⟨x, h1, h2⟩ := opt_bind h
    obtain ⟨l, h3, h4⟩ := opt_bind h2
    obtain ⟨u, h5, h6⟩ := opt_bind h4
    exact ev_ok hΦ a h1 (evO_ok hΦ lo h3 (evO_ok hΦ hi h5 ⟨d, h6, q⟩))
  | .call f bx es, E, σ, M, d, Q, h, q => by
    unfold ev at h
    split at h
    · rename_i hb
      have e : bx = [] := List.isEmpty_iff.mp hb
      subst e
      obtain ⟨ds, h1, h2⟩ := opt_bind h
      exact evA_ok hΦ es h1 (hΦ f ds M d h2 _ _ q)
    · cases h
  | .new _ _ _, E, σ, M, d, Q, h, q => by cases h
  | .mth C m o bx es, E, σ, M, d, Q, h, q => by
    unfold ev at h
    obtain ⟨x, h1, h2⟩ := opt_bind h
    refine ev_ok hΦ o h1 ?_
    split at h2
    · rename_i p
      split at h2
      · rename_i C' fs em
        split at h2
        · rename_i hc
          obtain ⟨rfl, c2, c3⟩ := hc
          obtain ⟨f, h3, h4⟩ := opt_bind h2
          obtain ⟨ds, h5, h6⟩ := opt_bind h4
          have e : bx = [] := List.isEmpty_iff.mp c3
          subst e
          exact ⟨p, fs, f, rfl, em, c2, h3, evA_ok hΦ es h5 (hΦ f _ M d h6 _ _ q)⟩
        · cases h2
      · cases h2
    · cases h2
  | .fld a x, E, σ, M, d, Q, h, q => by
    unfold ev at h
    obtain ⟨o, h1, h2⟩ := opt_bind h
    refine ev_ok hΦ a h1 ?_
    split at h2
    · rename_i p
      split at h2
      · rename_i C fs em
        split at h2
        · rename_i hc
          exact ⟨p, C, fs, d, rfl, em, hc, h2, q⟩
        · cases h2
      · cases h2
    · cases h2
  | .tin n a g, E, σ, M, d, Q, h, q => by
    unfold ev at h
    obtain ⟨x, h1, h2⟩ := opt_bind h
    refine ev_ok hΦ a h1 ?_
    split at h2
    · obtain ⟨kvs, h3, h4⟩ := opt_map h2
      rw [← h4] at q
      exact ⟨_, kvs, rfl, h3, q⟩
    · cases h2
  | .tix g a, E, σ, M, d, Q, h, q => by
    unfold ev at h
    obtain ⟨x, h1, h2⟩ := opt_bind h
    refine ev_ok hΦ a h1 ?_
    split at h2
    · obtain ⟨kvs, h3, h4⟩ := opt_bind h2
      exact ⟨_, kvs, d, rfl, h3, h4, q⟩
    · cases h2
  | .tget g a b, E, σ, M, d, Q, h, q => by
    unfold ev at h
    obtain ⟨x, h1, h2⟩ := opt_bind h
    obtain ⟨y, h3, h4⟩ := opt_bind h2
    obtain ⟨y', h5, h6⟩ := opt_bind h4
    refine ev_ok hΦ a h1 ?_
    split at h6
    · obtain ⟨kvs, h7, h8⟩ := opt_map h6
      rw [← h8] at q
      exact frzP_ok rfl (ev_ok hΦ b h3 (frzP_ok h5 ⟨_, kvs, rfl, h7, q⟩))
    · cases h6
  | .replI a i y z, E, σ, M, d, Q, h, q => by
    unfold ev at h
    obtain ⟨x, h1, h2⟩ := opt_bind h
    obtain ⟨w, h3, h4⟩ := opt_bind h2
    refine ev_ok hΦ a h1 ?_
    split at h4
    · split at h4
      · rename_i hc
        cases h4
        exact ⟨_, h3, hc.1, hc.2, q⟩
      · cases h4
    · cases h4
  | .dead, E, σ, M, d, Q, h, q => by cases h
  | .mm _ _ _, E, σ, M, d, Q, h, q => by cases h
  | .bc b es, E, σ, M, d, Q, h, q => by
    unfold ev at h
    obtain ⟨xs, h1, h2⟩ := opt_bind h
    exact evV_ok hΦ es h1 ⟨d, h2, q⟩
  | .bm m o es, E, σ, M, d, Q, h, q => by
    unfold ev at h
    obtain ⟨x, h1, h2⟩ := opt_bind h
    split at h2
    · rename_i ht
      obtain ⟨ys, h3, h4⟩ := opt_bind h2
      exact ev_ok hΦ o h1 ⟨ht, evV_ok hΦ es h3 ⟨d, h4, q⟩⟩
    · cases h2
  | .lc e tg it ifs, E, σ, M, d, Q, h, q => by
    unfold ev at h
    obtain ⟨x, h1, h2⟩ := opt_bind h
    obtain ⟨xs, h3, h4⟩ := opt_bind h2
    split at h4
    · rename_i hg
      obtain ⟨ys, h5, h6⟩ := opt_map h4
      cases h6
      refine ev_ok hΦ it h1 ⟨xs, h3, ?_⟩
      refine mapO_ok (σ := wipeS σ (slotsOf tg)) (stand_ok hg.2) (fun x y k hx hk => lcStep_ok (x := x) (tt := fun E σ M Q => wpIfs T Γ E ifs σ M Q) (te := fun E σ M Q => wpE T Γ E e σ M Q) (c := fun τ => evIfs T Φ ifs τ M) (v := fun τ => ev T Φ e τ M) (fun τ b Q hc hq => evIfs_ok hΦ ifs hc hq) (fun τ d Q hv hq => ev_ok hΦ e hv hq) sto_wipe hx hk) h5 ?_
      rw [back_wipe hg.1]
      exact q
    · cases h4
  | .lcr e tg lo hi ifs, E, σ, M, d, Q, h, q => by
    unfold ev at h
    obtain ⟨l, h1, h2⟩ := opt_bind h
    obtain ⟨x, h3, h4⟩ := opt_bind h2
    obtain ⟨j, h5, h6⟩ := opt_bind h4
    cases intOf_ok h5
    split at h6
    · rename_i hg
      obtain ⟨ys, h7, h8⟩ := opt_map h6
      cases h8
      refine evO_ok hΦ lo h1 (ev_ok hΦ hi h3 ⟨j, rfl, hg.1.1, hg.1.2.1, hg.1.2.2, ?_⟩)
      refine mapO_ok (σ := wipeS σ (slotsOf tg)) trivial (fun x y k hx hk => lcStep_ok (x := x) (tt := fun E σ M Q => wpIfs T Γ E ifs σ M Q) (te := fun E σ M Q => wpE T Γ E e σ M Q) (c := fun τ => evIfs T Φ ifs τ M) (v := fun τ => ev T Φ e τ M) (fun τ b Q hc hq => evIfs_ok hΦ ifs hc hq) (fun τ d Q hv hq => ev_ok hΦ e hv hq) sto_wipe hx hk) h7 ?_
      rw [back_wipe hg.2]
      exact q
    · cases h6
  | .dc a b tg it ifs, E, σ, M, d, Q, h, q => by
    unfold ev at h
    obtain ⟨x, h1, h2⟩ := opt_bind h
    obtain ⟨xs, h3, h4⟩ := opt_bind h2
    split at h4
    · rename_i hg
      obtain ⟨ys, h5, h6⟩ := opt_map h4
      cases h6
      refine ev_ok hΦ it h1 ⟨xs, h3, ?_⟩
      refine foldD_ok (σ := wipeS σ (slotsOf tg)) (stand_ok hg.2) (fun x y k hx hk => dcStep_ok (x := x) (tt := fun E σ M Q => wpIfs T Γ E ifs σ M Q) (ta := fun E σ M Q => wpE T Γ E a σ M Q) (tb := fun E σ M Q => wpE T Γ E b σ M Q) (c := fun τ => evIfs T Φ ifs τ M) (v := fun τ => ev T Φ a τ M) (w := fun τ => ev T Φ b τ M) (fun τ b Q hc hq => evIfs_ok hΦ ifs hc hq) (fun τ d Q hv hq => ev_ok hΦ a hv hq) (fun τ d Q hv hq => ev_ok hΦ b hv hq) sto_wipe hx hk) h5 ?_
      rw [back_wipe hg.1]
      exact q
    · cases h4
  | .dcr a b tg lo hi ifs, E, σ, M, d, Q, h, q => by
    unfold ev at h
    obtain ⟨l, h1, h2⟩ := opt_bind h
    obtain ⟨x, h3, h4⟩ := opt_bind h2
    obtain ⟨j, h5, h6⟩ := opt_bind h4
    cases intOf_ok h5
    split at h6
    · rename_i hg
      obtain ⟨ys, h7, h8⟩ := opt_map h6
      cases h8
      refine evO_ok hΦ lo h1 (ev_ok hΦ hi h3 ⟨j, rfl, hg.1.1, hg.1.2.1, hg.1.2.2, ?_⟩)
      refine foldD_ok (σ := wipeS σ (slotsOf tg)) trivial (fun x y k hx hk => dcStep_ok (x := x) (tt := fun E σ M Q => wpIfs T Γ E ifs σ M Q) (ta := fun E σ M Q => wpE T Γ E a σ M Q) (tb := fun E σ M Q => wpE T Γ E b σ M Q) (c := fun τ => evIfs T Φ ifs τ M) (v := fun τ => ev T Φ a τ M) (w := fun τ => ev T Φ b τ M) (fun τ b Q hc hq => evIfs_ok hΦ ifs hc hq) (fun τ d Q hv hq => ev_ok hΦ a hv hq) (fun τ d Q hv hq => ev_ok hΦ b hv hq) sto_wipe hx hk) h7 ?_
      rw [back_wipe hg.2]
      exact q
    · cases h6
theorem evT_ok (hΦ : PureIn Φ Γ) : ∀ (e : CT) {E : Kx} {σ : St} {M : Mem} {b : Bool} {Q : Kb}, evT T Φ e σ M = some b → Q b σ M → wpT T Γ E e σ M Q
  | .val e, E, σ, M, d, Q, h, q => by
    unfold evT at h
    obtain ⟨x, h1, h2⟩ := opt_bind h
    exact ev_ok hΦ e h1 ⟨d, h2, q⟩
  | .not a, E, σ, M, d, Q, h, q => by
    unfold evT at h
    obtain ⟨x, h1, h2⟩ := opt_map h
    refine evT_ok hΦ a h1 ?_
    rw [← h2] at q
    exact q
  | .and a b, E, σ, M, d, Q, h, q => by
    unfold evT at h
    obtain ⟨x, h1, h2⟩ := opt_bind h
    refine evT_ok hΦ a h1 ?_
    cases x with
    | true => exact evT_ok hΦ b h2 q
    | false => cases h2; exact q
  | .or a b, E, σ, M, d, Q, h, q => by
    unfold evT at h
    obtain ⟨x, h1, h2⟩ := opt_bind h
    refine evT_ok hΦ a h1 ?_
    cases x with
    | false => exact evT_ok hΦ b h2 q
    | true => cases h2; exact q
  | .ife c a b, E, σ, M, d, Q, h, q => by
    unfold evT at h
    obtain ⟨t, h1, h2⟩ := opt_bind h
    refine evT_ok hΦ c h1 ?_
    cases t with
    | true => exact evT_ok hΦ a h2 q
    | false => exact evT_ok hΦ b h2 q
  | .jnr s e o y z, E, σ, M, d, Q, h, q => by
    unfold evT at h
    obtain ⟨x, h1, h2⟩ := opt_bind h
    refine ev_ok hΦ e h1 ?_
    split at h2
    · rename_i xs ex
      obtain ⟨ys, h3, h4⟩ := opt_bind h2
      split at h4
      · rename_i hz
        obtain ⟨w, h5, h6⟩ := opt_bind h4
        refine ⟨xs, ys, ex, h3, hz, ev_ok hΦ o h5 ?_⟩
        split at h6
        · split at h6
          · rename_i hc
            cases h6
            exact ⟨_, rfl, hc.1, hc.2, q⟩
          · cases h6
        · cases h6
      · cases h4
    · cases h2
theorem evL_ok (hΦ : PureIn Φ Γ) : ∀ (es : List CE) {E : Kx} {σ : St} {M : Mem} {ds : List D} {Q : Kl}, evL T Φ es σ M = some ds → Q ds σ M → wpL T Γ E es σ M Q
  | [], E, σ, M, ds, Q, h, q => by cases h; exact q
  | e :: es, E, σ, M, ds, Q, h, q => by
    unfold evL at h
    obtain ⟨x, h1, h2⟩ := opt_bind h
    obtain ⟨y, h3, h4⟩ := opt_bind h2
    obtain ⟨xs, h5, h6⟩ := opt_map h4
    refine ev_ok hΦ e h1 (frzP_ok h3 (evL_ok hΦ es h5 ?_))
    rw [h6]; exact q
theorem evA_ok (hΦ : PureIn Φ Γ) : ∀ (es : List CE) {E : Kx} {σ : St} {M : Mem} {ds : List D} {Q : Kl}, evL T Φ es σ M = some ds → Q ds σ M → wpA T Γ E [] es σ M Q
  | [], E, σ, M, ds, Q, h, q => by cases h; exact q
  | e :: es, E, σ, M, ds, Q, h, q => by
    unfold evL at h
    obtain ⟨x, h1, h2⟩ := opt_bind h
    obtain ⟨y, h3, h4⟩ := opt_bind h2
    obtain ⟨xs, h5, h6⟩ := opt_map h4
    have go : frz x σ M (fun x σ M => wpA T Γ E [] es σ M fun xs σ M => Q (x :: xs) σ M) := by
      refine frzP_ok h3 (evA_ok hΦ es h5 ?_)
      rw [h6]; exact q
    exact ev_ok hΦ e h1 go
theorem evV_ok (hΦ : PureIn Φ Γ) : ∀ (es : List CE) {E : Kx} {σ : St} {M : Mem} {ds : List D} {Q : Kl}, evV T Φ es σ M = some ds → Q ds σ M → wpV T Γ E es σ M Q
  | [], E, σ, M, ds, Q, h, q => by cases h; exact q
  | e :: es, E, σ, M, ds, Q, h, q => by
    unfold evV at h
    obtain ⟨x, h1, h2⟩ := opt_bind h
    obtain ⟨xs, h5, h6⟩ := opt_map h2
    refine ev_ok hΦ e h1 (evV_ok hΦ es h5 ?_)
    rw [h6]; exact q
theorem evO_ok (hΦ : PureIn Φ Γ) : ∀ (e : Option CE) {E : Kx} {σ : St} {M : Mem} {i : Option Int} {Q : Option Int → St → Mem → Prop}, evO T Φ e σ M = some i → Q i σ M → wpO T Γ E e σ M Q
  | none, E, σ, M, i, Q, h, q => by cases h; exact q
  | some e, E, σ, M, i, Q, h, q => by
    unfold evO at h
    obtain ⟨x, h1, h2⟩ := opt_bind h
    obtain ⟨j, h3, h4⟩ := opt_map h2
    cases h4
    exact ev_ok hΦ e h1 ⟨j, intOf_ok h3, q⟩
theorem evIfs_ok (hΦ : PureIn Φ Γ) : ∀ (ts : List CT) {E : Kx} {σ : St} {M : Mem} {b : Bool} {Q : Kb}, evIfs T Φ ts σ M = some b → Q b σ M → wpIfs T Γ E ts σ M Q
  | [], E, σ, M, b, Q, h, q => by cases h; exact q
  | [t], E, σ, M, b, Q, h, q => evT_ok hΦ t h q
  | _ :: _ :: _, E, σ, M, b, Q, h, q => by cases h
end
end
end Pv

/-! E13: statements, step by step. -/
namespace Pv
section
variable {T : Tab} {Φ : Phi} {Γ : FSem} {σ : St} {M : Mem} {De : EndsD} {r : List CS} {e : CE} {d : D}
def asgV (i : Nat) (d : D) (σ : St) : Option St := match d with
  | .slot j => (match σ[j]? with
    | some (some (.ol xs)) => some ((σ.set j (some (.lst xs))).set i (some (.lst xs)))
    | some (some (.od kvs)) => some ((σ.set j (some (.dct kvs))).set i (some (.dct kvs)))
    | _ => none)
  | d => some (σ.set i (some d))
def retV (d : D) (σ : St) : Option D := match d with
  | .slot j => (match σ[j]? with
    | some (some (.ol xs)) => some (.ol xs)
    | some (some (.od kvs)) => some (.od kvs)
    | _ => none)
  | d => some d
theorem kAsg_of {i : Nat} {σ' : St} (h : asgV i d σ = some σ') (q : De.nx σ' M) : kAsg i De d σ M := by
  cases d with
  | slot j =>
    unfold asgV at h
    dsimp only at h
    unfold kAsg
    dsimp only
    unfold frz
    dsimp only
    split at h
    · rename_i xs e
      cases h
      first | (rw [e]; exact q) | exact q
    · rename_i xs e
      cases h
      first | (rw [e]; exact q) | exact q
    · cases h
  | _ => cases h; exact q
theorem st_asg {i : Nat} {σ' : St} (hΦ : PureIn Φ Γ) (h : ev T Φ e σ M = some d) (ha : asgV i d σ = some σ') (q : wpSs T Γ r De σ' M) : wpSs T Γ (.asg i e :: r) De σ M := ev_ok hΦ e h (kAsg_of ha q)
theorem st_asgT {is : List Nat} {σ' : St} {d' : D} (hΦ : PureIn Φ Γ) (h : ev T Φ e σ M = some d) (hf : frzP d = some d') (ha : stoP (.t is) d' σ = some σ') (q : wpSs T Γ r De σ' M) : wpSs T Γ (.asgT is e :: r) De σ M :=
  ev_ok hΦ e h (frzP_ok hf (stoP_ok (tg := .t is) ha q))
theorem handed_of {d' : D} {Q : D → Mem → Prop} (h : retV d σ = some d') (q : Q d' M) : handed d σ M Q := by
  cases d with
  | slot j =>
    unfold retV at h
    dsimp only at h
    unfold handed
    dsimp only
    split at h
    · rename_i xs e
      cases h
      first | (rw [e]; exact q) | exact q
    · rename_i xs e
      cases h
      first | (rw [e]; exact q) | exact q
    · cases h
  | _ => cases h; exact q
theorem st_ret {d' : D} (hΦ : PureIn Φ Γ) (h : ev T Φ e σ M = some d) (hr : retV d σ = some d') (q : De.rt d' M) : wpSs T Γ (.ret e :: r) De σ M := ev_ok hΦ e h (handed_of hr q)
theorem st_if {c : CT} {as bs : List CS} {b : Bool} (hΦ : PureIn Φ Γ) (h : evT T Φ c σ M = some b) (q : wpSs T Γ (if b = true then as else bs) { De with nx := fun σ M => wpSs T Γ r De σ M } σ M) : wpSs T Γ (.ifS c as bs :: r) De σ M := by
  refine evT_ok hΦ c h ?_
  cases b with
  | true => exact q
  | false => exact q
theorem st_nil (q : De.nx σ M) : wpSs T Γ [] De σ M := q
theorem w_slot {j : Nat} {E : Kx} {Q : Kt} {o : D} {b : MO} (hj : σ[j]? = some (some o)) (ho : asMO o = some b) (q : Q (.slot j) σ M) : wpE T Γ E (.var j) σ M Q := by
  unfold wpE
  rw [hj]
  cases o <;> first | exact q | cases ho
theorem chg_ol {j : Nat} {xs ys : List D} {f : MO → Option (MO × D)} {rr : D} {Q : Kt} (hj : σ[j]? = some (some (.ol xs))) (hf : f (.l xs) = some (.l ys, rr)) (q : Q rr (σ.set j (some (.ol ys))) M) : change (.slot j) f σ M Q := by
  unfold change
  dsimp only
  rw [hj]
  exact ⟨_, _, hf, q⟩
theorem chg_od {j : Nat} {xs ys : List (D × D)} {f : MO → Option (MO × D)} {rr : D} {Q : Kt} (hj : σ[j]? = some (some (.od xs))) (hf : f (.d xs) = some (.d ys, rr)) (q : Q rr (σ.set j (some (.od ys))) M) : change (.slot j) f σ M Q := by
  unfold change
  dsimp only
  rw [hj]
  exact ⟨_, _, hf, q⟩
theorem st_app {j : Nat} {xs : List D} {d' : D} (hΦ : PureIn Φ Γ) (hj : σ[j]? = some (some (.ol xs))) (h : ev T Φ e σ M = some d) (hf : frzP d = some d') (hz : xs.length < SZ) (q : wpSs T Γ r De (σ.set j (some (.ol (xs ++ [d'])))) M) :
    wpSs T Γ (.ex (.mm .append (.var j) [e]) :: r) De σ M := by
  have go : wpE T Γ De.ex (.mm .append (.var j) [e]) σ M (fun _ σ M => wpSs T Γ r De σ M) := by
    unfold wpE
    refine w_slot (b := .l xs) hj rfl ⟨by simp only [mmT, vw, hj, Bool.and_self], ?_⟩
    unfold wpL
    refine ev_ok hΦ e h (frzP_ok hf ?_)
    unfold wpL
    exact chg_ol hj (if_pos hz) q
  exact go
theorem st_setL {j : Nat} {a : CE} {kd d' : D} {xs ys : List D} (hΦ : PureIn Φ Γ) (h : ev T Φ e σ M = some d) (hf : frzP d = some d') (hj : σ[j]? = some (some (.ol xs))) (ha : ev T Φ a σ M = some kd) (hs : opSet (.l xs) (pk kd) d' = some (.l ys))
    (q : wpSs T Γ r De (σ.set j (some (.ol ys))) M) : wpSs T Γ (.setI (.var j) a e :: r) De σ M :=
  ev_ok hΦ e h (frzP_ok hf (w_slot (b := .l xs) hj rfl (ev_ok hΦ a ha (chg_ol (rr := .non) hj (by rw [hs]; rfl) q))))
theorem st_setD {j : Nat} {a : CE} {kd d' : D} {xs : List (D × D)} (hΦ : PureIn Φ Γ) (h : ev T Φ e σ M = some d) (hf : frzP d = some d') (hj : σ[j]? = some (some (.od xs))) (ha : ev T Φ a σ M = some kd) (hk : kOk xs (pk kd) = true) (hz : xs.length < SZ)
    (q : wpSs T Γ r De (σ.set j (some (.od (dput xs (pk kd) d')))) M) : wpSs T Γ (.setI (.var j) a e :: r) De σ M :=
  ev_ok hΦ e h (frzP_ok hf (w_slot (b := .d xs) hj rfl (ev_ok hΦ a ha (chg_od (rr := .non) hj (by
    have e : opSet (.d xs) (pk kd) d' = if kOk xs (pk kd) = true ∧ xs.length < SZ then some (.d (dput xs (pk kd) d')) else none := by cases pk kd <;> rfl
    rw [e, if_pos ⟨hk, hz⟩]; rfl) q))))
theorem st_for {it : CE} {tg : Tg} {b : List CS} {d' : D} {xs : List D} (hΦ : PureIn Φ Γ) (h : ev T Φ it σ M = some d) (hf : frzP d = some d') (hw : walk d' (vw σ M d') = some xs)
    (q : goEach (fun τ N => vw τ N d' = vw σ M d') (fun x k τ N => store tg x τ N fun τ N => wpSs T Γ b { nx := k, rt := De.rt, bk := fun σ M => wpSs T Γ r De σ M, ct := k, ex := De.ex } τ N) (fun σ M => wpSs T Γ r De σ M) xs σ M) :
    wpSs T Γ (.for_ tg it b :: r) De σ M := ev_ok hΦ it h (frzP_ok hf ⟨xs, hw, q⟩)
theorem st_forR {hi : CE} {lo : Option CE} {l : Option Int} {j : Int} {tg : Tg} {b : List CS} (hΦ : PureIn Φ Γ) (h1 : evO T Φ lo σ M = some l) (h2 : ev T Φ hi σ M = some (.int j)) (hb : (l.getD 0).natAbs < 2 ^ 60 ∧ j.natAbs < 2 ^ 60 ∧ j - l.getD 0 ≤ SZ)
    (q : goEach (fun _ _ => True) (fun x k τ N => store tg x τ N fun τ N => wpSs T Γ b { nx := k, rt := De.rt, bk := fun σ M => wpSs T Γ r De σ M, ct := k, ex := De.ex } τ N) (fun σ M => wpSs T Γ r De σ M) (rng (l.getD 0) 1 (j - l.getD 0).toNat) σ M) :
    wpSs T Γ (.forR tg lo hi b :: r) De σ M := evO_ok hΦ lo h1 (ev_ok hΦ hi h2 ⟨j, rfl, hb.1, hb.2.1, hb.2.2, q⟩)
theorem pure0 : PureIn (fun _ _ _ => none) Γ := fun f ds M r h => nomatch h
end
end Pv

/-! E14: loops by an invariant over the slots. -/
namespace Pv
section
variable {T : Tab} {Φ : Phi} {Γ : FSem} {σ : St} {M : Mem} {De : EndsD} {r : List CS}
theorem go_inv {chk : Ks} {step : D → Ks → Ks} {fin : Ks} (I : List D → St → Prop) (hs : ∀ x r σ' k, I (x :: r) σ' → (∀ σ'', I r σ'' → k σ'' M) → chk σ' M ∧ step x k σ' M) (hf : ∀ σ', I [] σ' → chk σ' M ∧ fin σ' M) : ∀ (xs : List D) (σ : St), I xs σ → goEach chk step fin xs σ M
  | [], σ, h => hf σ h
  | x :: xs, σ, h => hs x xs σ _ h fun σ'' h'' => go_inv I hs hf xs σ'' h''
abbrev loopE (De : EndsD) (k rest : Ks) : EndsD := { nx := k, rt := De.rt, bk := rest, ct := k, ex := De.ex }
theorem st_forI {it : CE} {tg : Tg} {b : List CS} {d d' : D} {xs : List D} (I : List D → St → Prop) (hΦ : PureIn Φ Γ) (h : ev T Φ it σ M = some d) (hf : frzP d = some d') (hw : walk d' (vw σ M d') = some xs) (hv : ∀ τ, vw τ M d' = vw σ M d') (h0 : I xs σ)
    (hs : ∀ x l σ' k, I (x :: l) σ' → (∀ σ'', I l σ'' → k σ'' M) → ∃ τ, stoP tg x σ' = some τ ∧ wpSs T Γ b (loopE De k fun σ M => wpSs T Γ r De σ M) τ M) (hd : ∀ σ', I [] σ' → wpSs T Γ r De σ' M) : wpSs T Γ (.for_ tg it b :: r) De σ M :=
  st_for hΦ h hf hw (go_inv I (fun x l σ' k hi hk => ⟨hv σ', let ⟨τ, h1, h2⟩ := hs x l σ' k hi hk; stoP_ok h1 h2⟩) (fun σ' hi => ⟨hv σ', hd σ' hi⟩) xs σ h0)
theorem st_forRI {hi : CE} {lo : Option CE} {l : Option Int} {j : Int} {tg : Tg} {b : List CS} (I : List D → St → Prop) (hΦ : PureIn Φ Γ) (h1 : evO T Φ lo σ M = some l) (h2 : ev T Φ hi σ M = some (.int j)) (hb : (l.getD 0).natAbs < 2 ^ 60 ∧ j.natAbs < 2 ^ 60 ∧ j - l.getD 0 ≤ SZ)
    (h0 : I (rng (l.getD 0) 1 (j - l.getD 0).toNat) σ)
    (hs : ∀ x l σ' k, I (x :: l) σ' → (∀ σ'', I l σ'' → k σ'' M) → ∃ τ, stoP tg x σ' = some τ ∧ wpSs T Γ b (loopE De k fun σ M => wpSs T Γ r De σ M) τ M) (hd : ∀ σ', I [] σ' → wpSs T Γ r De σ' M) : wpSs T Γ (.forR tg lo hi b :: r) De σ M :=
  st_forR hΦ h1 h2 hb (go_inv I (fun x l σ' k hi hk => ⟨trivial, let ⟨τ, h1, h2⟩ := hs x l σ' k hi hk; stoP_ok h1 h2⟩) (fun σ' hi => ⟨trivial, hd σ' hi⟩) _ σ h0)
theorem st_whlI {c : CT} {b : List CS} {m : Nat} (W : Nat → St → Prop) (hΦ : PureIn Φ Γ) (h0 : W m σ)
    (hs : ∀ m σ', W m σ' → ∃ t, evT T Φ c σ' M = some t ∧ if t = true then ∀ k : Ks, (∀ m' σ'', m' < m → W m' σ'' → k σ'' M) → wpSs T Γ b (loopE De k fun σ M => wpSs T Γ r De σ M) σ' M else wpSs T Γ r De σ' M) : wpSs T Γ (.whl c b :: r) De σ M := by
  refine ⟨fun m σ' M' => M' = M ∧ W m σ', ⟨m, rfl, h0⟩, ?_⟩
  rintro m σ' M' ⟨rfl, hw⟩
  obtain ⟨t, ht, h⟩ := hs m σ' hw
  refine evT_ok hΦ c ht ?_
  cases t with
  | false => exact h
  | true => exact h _ fun m' σ'' hm hw' => ⟨m', hm, rfl, hw'⟩
theorem mapO_map {f : D → Option (Option D)} {g : D → D} : ∀ {xs : List D}, (∀ x ∈ xs, f x = some (some (g x))) → mapO f xs = some (xs.map g)
  | [], _ => rfl
  | x :: xs, h => by
    unfold mapO
    rw [h x (List.mem_cons_self ..), mapO_map fun y hy => h y (List.mem_cons_of_mem _ hy)]
    rfl
theorem mapO_filter {f : D → Option (Option D)} {p : D → Bool} {g : D → D} : ∀ {xs : List D}, (∀ x ∈ xs, f x = some (if p x = true then some (g x) else none)) → mapO f xs = some ((xs.filter p).map g)
  | [], _ => rfl
  | x :: xs, h => by
    unfold mapO
    rw [h x (List.mem_cons_self ..), mapO_filter fun y hy => h y (List.mem_cons_of_mem _ hy)]
    cases hp : p x with
    | true => rw [List.filter_cons_of_pos hp]; rfl
    | false => rw [List.filter_cons_of_neg (by rw [hp]; exact Bool.false_ne_true)]; rfl
/-- [e for tg in it] -/
theorem ev_lc {it e : CE} {tg : Tg} {d : D} {xs : List D} {g : D → D} (h : ev T Φ it σ M = some d) (hw : walk (pk d) (vw σ M (pk d)) = some xs) (hn : noOwn σ (slotsOf tg) = true) (hs : stand (pk d) (slotsOf tg) = true)
    (he : ∀ x ∈ xs, ∃ τ y, stoP tg x (wipeS σ (slotsOf tg)) = some τ ∧ ev T Φ e τ M = some y ∧ frzP y = some (g x)) : ev T Φ (.lc e tg it []) σ M = some (.ol (xs.map g)) := by
  unfold ev
  rw [h, Option.bind_some, hw, Option.bind_some, if_pos ⟨hn, hs⟩, mapO_map (g := g) fun x hx => ?_]
  · rfl
  · obtain ⟨τ, y, h1, h2, h3⟩ := he x hx
    rw [h1, Option.bind_some]
    show (some true).bind _ = _
    rw [Option.bind_some, if_pos rfl, h2, Option.bind_some, h3]
    rfl
/-- [e for tg in it if c] -/
theorem ev_lcF {it e : CE} {c : CT} {tg : Tg} {d : D} {xs : List D} {p : D → Bool} {g : D → D} (h : ev T Φ it σ M = some d) (hw : walk (pk d) (vw σ M (pk d)) = some xs) (hn : noOwn σ (slotsOf tg) = true) (hs : stand (pk d) (slotsOf tg) = true)
    (he : ∀ x ∈ xs, ∃ τ, stoP tg x (wipeS σ (slotsOf tg)) = some τ ∧ evT T Φ c τ M = some (p x) ∧ (p x = true → ∃ y, ev T Φ e τ M = some y ∧ frzP y = some (g x))) : ev T Φ (.lc e tg it [c]) σ M = some (.ol ((xs.filter p).map g)) := by
  unfold ev
  rw [h, Option.bind_some, hw, Option.bind_some, if_pos ⟨hn, hs⟩, mapO_filter (p := p) (g := g) fun x hx => ?_]
  · rfl
  · obtain ⟨τ, h1, h2, h3⟩ := he x hx
    rw [h1, Option.bind_some]
    show (evT T Φ c τ M).bind _ = _
    rw [h2, Option.bind_some]
    cases hp : p x with
    | true =>
      obtain ⟨y, h4, h5⟩ := h3 hp
      rw [if_pos rfl, h4, Option.bind_some, h5]
      rfl
    | false => rfl
theorem rng0 (n : Nat) : rng 0 1 n = (List.range n).map fun (k : Nat) => D.int (k : Int) := by
  unfold rng
  refine List.map_congr_left fun k _ => ?_
  rw [Int.zero_add, Int.mul_one]
/-- [e for tg in range(hi)] -/
theorem ev_lcr {hi e : CE} {tg : Tg} {n : Nat} {g : D → D} (h : ev T Φ hi σ M = some (.int n)) (hz : n ≤ SZ) (hn : noOwn σ (slotsOf tg) = true)
    (he : ∀ k : Nat, k < n → ∃ τ y, stoP tg (.int k) (wipeS σ (slotsOf tg)) = some τ ∧ ev T Φ e τ M = some y ∧ frzP y = some (g (.int k))) : ev T Φ (.lcr e tg none hi []) σ M = some (.ol ((List.range n).map fun (k : Nat) => g (.int (k : Int)))) := by
  have hz' : n ≤ 16777216 := hz
  have e0 : ((n : Int) - (none : Option Int).getD 0).toNat = n := by
    show ((n : Int) - 0).toNat = n
    omega
  unfold ev
  show (some none).bind _ = _
  rw [Option.bind_some, h, Option.bind_some]
  show (some (n : Int)).bind _ = _
  rw [Option.bind_some, if_pos ⟨⟨by show Int.natAbs 0 < _; decide, by omega, by show (n : Int) - 0 ≤ (16777216 : Nat); omega⟩, hn⟩, e0]
  show (mapO _ (rng 0 1 n)).map D.ol = _
  rw [rng0, mapO_map (g := g) fun x hx => ?_]
  · rw [List.map_map]; rfl
  · obtain ⟨k, hk, rfl⟩ := List.mem_map.mp hx
    obtain ⟨τ, y, h1, h2, h3⟩ := he k (List.mem_range.mp hk)
    rw [h1, Option.bind_some]
    show (some true).bind _ = _
    rw [Option.bind_some, if_pos rfl, h2, Option.bind_some, h3]
    rfl
/-- {a: b for tg in range(hi)} -/
theorem ev_dcr {hi a b : CE} {tg : Tg} {n : Nat} {f : D → Option (Option (D × D))} {out : List (D × D)} (h : ev T Φ hi σ M = some (.int n)) (hz : n ≤ SZ) (hn : noOwn σ (slotsOf tg) = true)
    (he : ∀ k : Nat, k < n → ∃ τ y y' z z', stoP tg (.int k) (wipeS σ (slotsOf tg)) = some τ ∧ ev T Φ a τ M = some y ∧ frzP y = some y' ∧ ev T Φ b τ M = some z ∧ frzP z = some z' ∧ f (.int k) = some (some (y', z')))
    (hf : foldD f ((List.range n).map fun (k : Nat) => D.int (k : Int)) [] = some out) : ev T Φ (.dcr a b tg none hi []) σ M = some (.od out) := by
  have hz' : n ≤ 16777216 := hz
  have e0 : ((n : Int) - (none : Option Int).getD 0).toNat = n := by
    show ((n : Int) - 0).toNat = n
    omega
  have cg : ∀ (g : D → Option (Option (D × D))) (l : List Nat) (acc : List (D × D)), (∀ k ∈ l, g (.int (k : Int)) = f (.int (k : Int))) → foldD g (l.map fun (k : Nat) => D.int (k : Int)) acc = foldD f (l.map fun (k : Nat) => D.int (k : Int)) acc := fun g l => by
    induction l with
    | nil => intro acc _; rfl
    | cons x l ih =>
      intro acc hg
      show (g (.int (x : Int))).bind _ = (f (.int (x : Int))).bind _
      rw [hg x (List.mem_cons_self ..)]
      congr 1
      funext y
      cases y with
      | none => exact ih acc fun k hk => hg k (List.mem_cons_of_mem _ hk)
      | some p =>
        obtain ⟨k, v⟩ := p
        show (if _ then _ else _) = (if _ then _ else _)
        rw [ih _ fun k hk => hg k (List.mem_cons_of_mem _ hk)]
  unfold ev
  show (some none).bind _ = _
  rw [Option.bind_some, h, Option.bind_some]
  show (some (n : Int)).bind _ = _
  rw [Option.bind_some, if_pos ⟨⟨by show Int.natAbs 0 < _; decide, by omega, by show (n : Int) - 0 ≤ (16777216 : Nat); omega⟩, hn⟩, e0]
  show (foldD _ (rng 0 1 n) []).map D.od = _
  rw [rng0, cg _ _ _ fun k hk => ?_, hf]
  · rfl
  · obtain ⟨τ, y, y', z, z', h1, h2, h3, h4, h5, h6⟩ := he k (List.mem_range.mp hk)
    rw [h1, Option.bind_some]
    show (some true).bind _ = _
    rw [Option.bind_some, if_pos rfl, h2, Option.bind_some, h3, Option.bind_some, h4, Option.bind_some, h5, h6]
    rfl
/-- name = f(..) -/
theorem st_call {i f : Nat} {es : List CE} {ds : List D} (hΦ : PureIn Φ Γ) (h : evL T Φ es σ M = some ds) (hc : Γ f ds M (fun d M' => kAsg i { De with nx := fun σ M => wpSs T Γ r De σ M } d σ M') fun x M' => De.ex x σ M') : wpSs T Γ (.asg i (.call f [] es) :: r) De σ M :=
  evA_ok hΦ es h hc
/-- a value that goes elsewhere: what a slot owns is frozen -/
def frzS (d : D) (σ : St) : Option (D × St) := match d with
  | .slot j => (match σ[j]? with
    | some (some (.ol xs)) => some (.lst xs, σ.set j (some (.lst xs)))
    | some (some (.od kvs)) => some (.dct kvs, σ.set j (some (.dct kvs)))
    | _ => none)
  | d => (frzP d).map fun d => (d, σ)
theorem frzS_o (d : D) (σ : St) (h : ∀ j, d ≠ .slot j) : frzS d σ = (frzP d).map fun d => (d, σ) := by
  cases d <;> first | rfl | exact absurd rfl (h _)
theorem frzS_ok {d d' : D} {σ' : St} {Q : Kt} (h : frzS d σ = some (d', σ')) (q : Q d' σ' M) : frz d σ M Q := by
  by_cases hd : ∃ j, d = .slot j
  · obtain ⟨j, rfl⟩ := hd
    unfold frzS at h
    dsimp only at h
    unfold frz
    dsimp only
    split at h
    · rename_i xs e
      cases h
      first | (rw [e]; exact q) | exact q
    · rename_i xs e
      cases h
      first | (rw [e]; exact q) | exact q
    · cases h
  · rw [frzS_o d σ fun j e => hd ⟨j, e⟩] at h
    obtain ⟨x, h1, h2⟩ := opt_map h
    obtain ⟨rfl, rfl⟩ := Prod.mk.inj h2
    exact frzP_ok h1 q
/-- a call's arguments -/
def argsV (T : Tab) (Φ : Phi) : List CE → St → Mem → Option (List D × St)
  | [], σ, M => some ([], σ)
  | e :: es, σ, M => (ev T Φ e σ M).bind fun x => (frzS x σ).bind fun p => (argsV T Φ es p.2 M).map fun q => (p.1 :: q.1, q.2)
theorem argsV_ok (hΦ : PureIn Φ Γ) {E : Kx} : ∀ {es : List CE} {σ : St} {ds : List D} {σ' : St} {Q : Kl}, argsV T Φ es σ M = some (ds, σ') → Q ds σ' M → wpA T Γ E [] es σ M Q
  | [], σ, ds, σ', Q, h, q => by cases h; exact q
  | e :: es, σ, ds, σ', Q, h, q => by
    obtain ⟨x, h1, h2⟩ := opt_bind h
    obtain ⟨p, h3, h4⟩ := opt_bind h2
    obtain ⟨r, h5, h6⟩ := opt_map h4
    cases h6
    have go : frz x σ M (fun x σ M => wpA T Γ E [] es σ M fun xs σ M => Q (x :: xs) σ M) := frzS_ok h3 (argsV_ok hΦ h5 q)
    exact ev_ok hΦ e h1 go
/-- name = f(..), arguments frozen on the way -/
theorem st_callF {i f : Nat} {es : List CE} {ds : List D} {σ' : St} (hΦ : PureIn Φ Γ) (h : argsV T Φ es σ M = some (ds, σ')) (hc : Γ f ds M (fun d M' => kAsg i { De with nx := fun σ M => wpSs T Γ r De σ M } d σ' M') fun x M' => De.ex x σ' M') : wpSs T Γ (.asg i (.call f [] es) :: r) De σ M :=
  argsV_ok hΦ h hc
/-- (a, b) = f(..) -/
theorem st_callT {is : List Nat} {f : Nat} {es : List CE} {ds : List D} {σ' : St} (hΦ : PureIn Φ Γ) (h : argsV T Φ es σ M = some (ds, σ')) (hc : Γ f ds M (fun d M' => frz d σ' M' fun d σ M => store (.t is) d σ M fun σ M => wpSs T Γ r De σ M) fun x M' => De.ex x σ' M') : wpSs T Γ (.asgT is (.call f [] es) :: r) De σ M :=
  argsV_ok hΦ h hc
/-- return f(..) -/
theorem st_retC {f : Nat} {es : List CE} {ds : List D} {σ' : St} (hΦ : PureIn Φ Γ) (h : argsV T Φ es σ M = some (ds, σ')) (hc : Γ f ds M (fun d M' => handed d σ' M' De.rt) fun x M' => De.ex x σ' M') : wpSs T Γ (.ret (.call f [] es) :: r) De σ M :=
  argsV_ok hΦ h hc
theorem ev_var {i : Nat} {d : D} (h : σ[i]? = some (some d)) (ho : d.own = false) : ev T Φ (.var i) σ M = some d := by
  unfold ev
  rw [h]
  cases d <;> first | rfl | cases ho
theorem ev_slot {i : Nat} {d : D} (h : σ[i]? = some (some d)) (ho : d.own = true) : ev T Φ (.var i) σ M = some (.slot i) := by
  unfold ev
  rw [h]
  cases d <;> first | rfl | cases ho
theorem pk_of {d : D} (h : d.own = false) : pk d = d := by cases d <;> first | rfl | cases h
theorem vw_of {d : D} (h1 : ∀ i, d ≠ .slot i) (h2 : ∀ a, d ≠ .ref a) (h : d.own = false) : vw σ M d = d := by
  cases d <;> first | rfl | exact absurd rfl (h1 _) | exact absurd rfl (h2 _) | cases h
theorem frzP_of {d : D} (h1 : ∀ i, d ≠ .slot i) (h : d.own = false) : frzP d = some d := by
  cases d <;> first | rfl | exact absurd rfl (h1 _) | cases h
/-- a comparison -/
theorem ev_cmp {op : Cop} {a b : CE} {x y : D} {r : Bool} (h1 : ev T Φ a σ M = some x) (h2 : ev T Φ b σ M = some y) (h3 : opCmp op (vw σ M (pk x)) (vw σ M (pk y)) = some r) : ev T Φ (.cmp op a b) σ M = some (.bl r) := by
  unfold ev
  rw [h1, Option.bind_some, h2, Option.bind_some, h3]
  rfl
theorem ev_idx {a b : CE} {x y r : D} (h1 : ev T Φ a σ M = some x) (h2 : ev T Φ b σ M = some y) (h3 : opIdx (vw σ M (pk x)) (pk y) = some r) : ev T Φ (.idx a b) σ M = some r := by
  unfold ev
  rw [h1, Option.bind_some, h2, Option.bind_some, h3]
theorem evT_val {e : CE} {x : D} {b : Bool} (h1 : ev T Φ e σ M = some x) (h2 : truth (vw σ M (pk x)) = some b) : evT T Φ (.val e) σ M = some b := by
  unfold evT
  rw [h1, Option.bind_some, h2]
theorem evT_bl {e : CE} {b : Bool} (h1 : ev T Φ e σ M = some (.bl b)) : evT T Φ (.val e) σ M = some b := evT_val h1 rfl
theorem walk_lst {σ : St} {M : Mem} {xs : List D} : walk (.lst xs) (vw σ M (.lst xs)) = some xs := rfl
theorem walk_tup {σ : St} {M : Mem} {xs : List D} : walk (.tup xs) (vw σ M (.tup xs)) = some xs := rfl
theorem walk_str {σ : St} {M : Mem} {xs : List Nat} : walk (.str xs) (vw σ M (.str xs)) = some (xs.map fun c => .str [c]) := rfl
end
end Pv

/-! E15: comprehensions over encoded lists. -/
namespace Pv
section
variable {T : Tab} {Φ : Phi} {Γ : FSem} {σ : St} {M : Mem} {De : EndsD} {r : List CS} {α : Type}
theorem mapO_enc {f : D → Option (Option D)} {enc : α → D} {p : α → Bool} {g : α → D} : ∀ {l : List α}, (∀ a ∈ l, f (enc a) = some (if p a = true then some (g a) else none)) → mapO f (l.map enc) = some ((l.filter p).map g)
  | [], _ => rfl
  | a :: l, h => by
    show (f (enc a)).bind _ = _
    rw [h a (List.mem_cons_self ..), mapO_enc fun b hb => h b (List.mem_cons_of_mem _ hb)]
    cases hp : p a with
    | true => rw [List.filter_cons_of_pos hp]; rfl
    | false => rw [List.filter_cons_of_neg (by rw [hp]; exact Bool.false_ne_true)]; rfl
theorem mapO_enc1 {f : D → Option (Option D)} {enc : α → D} {g : α → D} {l : List α} (h : ∀ a ∈ l, f (enc a) = some (some (g a))) : mapO f (l.map enc) = some (l.map g) := by
  have := mapO_enc (p := fun _ => true) (g := g) (enc := enc) (f := f) (l := l) fun a ha => by rw [h a ha]; rfl
  rw [this, List.filter_eq_self.mpr fun _ _ => rfl]
/-- [e for tg in it], the items by an encoding -/
theorem ev_lcM {it e : CE} {tg : Tg} {d : D} {l : List α} (enc g : α → D) (h : ev T Φ it σ M = some d) (hw : walk (pk d) (vw σ M (pk d)) = some (l.map enc)) (hn : noOwn σ (slotsOf tg) = true) (hs : stand (pk d) (slotsOf tg) = true)
    (he : ∀ a ∈ l, ∃ τ y, stoP tg (enc a) (wipeS σ (slotsOf tg)) = some τ ∧ ev T Φ e τ M = some y ∧ frzP y = some (g a)) : ev T Φ (.lc e tg it []) σ M = some (.ol (l.map g)) := by
  unfold ev
  rw [h, Option.bind_some, hw, Option.bind_some, if_pos ⟨hn, hs⟩, mapO_enc1 (g := g) fun x hx => ?_]
  · rfl
  · obtain ⟨τ, y, h1, h2, h3⟩ := he x hx
    rw [h1, Option.bind_some]
    show (some true).bind _ = _
    rw [Option.bind_some, if_pos rfl, h2, Option.bind_some, h3]
    rfl
/-- [e for tg in it if c] -/
theorem ev_lcFM {it e : CE} {c : CT} {tg : Tg} {d : D} {l : List α} (enc g : α → D) (p : α → Bool) (h : ev T Φ it σ M = some d) (hw : walk (pk d) (vw σ M (pk d)) = some (l.map enc)) (hn : noOwn σ (slotsOf tg) = true) (hs : stand (pk d) (slotsOf tg) = true)
    (he : ∀ a ∈ l, ∃ τ, stoP tg (enc a) (wipeS σ (slotsOf tg)) = some τ ∧ evT T Φ c τ M = some (p a) ∧ (p a = true → ∃ y, ev T Φ e τ M = some y ∧ frzP y = some (g a))) : ev T Φ (.lc e tg it [c]) σ M = some (.ol ((l.filter p).map g)) := by
  unfold ev
  rw [h, Option.bind_some, hw, Option.bind_some, if_pos ⟨hn, hs⟩, mapO_enc (p := p) (g := g) fun x hx => ?_]
  · rfl
  · obtain ⟨τ, h1, h2, h3⟩ := he x hx
    rw [h1, Option.bind_some]
    show (evT T Φ c τ M).bind _ = _
    rw [h2, Option.bind_some]
    cases hp : p x with
    | true =>
      obtain ⟨y, h4, h5⟩ := h3 hp
      rw [if_pos rfl, h4, Option.bind_some, h5]
      rfl
    | false => rfl
theorem rng_map (lo : Int) (n : Nat) : rng lo 1 n = (List.range n).map fun (k : Nat) => D.int (lo + (k : Int)) := by
  unfold rng
  refine List.map_congr_left fun k _ => ?_
  rw [Int.mul_one]
/-- [e for tg in range(hi) if c] -/
theorem ev_lcrF {hi e : CE} {c : CT} {tg : Tg} {n : Nat} (g : Nat → D) (p : Nat → Bool) (h : ev T Φ hi σ M = some (.int n)) (hz : n ≤ SZ) (hn : noOwn σ (slotsOf tg) = true)
    (he : ∀ k : Nat, k < n → ∃ τ, stoP tg (.int k) (wipeS σ (slotsOf tg)) = some τ ∧ evT T Φ c τ M = some (p k) ∧ (p k = true → ∃ y, ev T Φ e τ M = some y ∧ frzP y = some (g k))) : ev T Φ (.lcr e tg none hi [c]) σ M = some (.ol (((List.range n).filter p).map g)) := by
  have hz' : n ≤ 16777216 := hz
  have e0 : ((n : Int) - (none : Option Int).getD 0).toNat = n := by
    show ((n : Int) - 0).toNat = n
    omega
  unfold ev
  show (some none).bind _ = _
  rw [Option.bind_some, h, Option.bind_some]
  show (some (n : Int)).bind _ = _
  rw [Option.bind_some, if_pos ⟨⟨by show Int.natAbs 0 < _; decide, by omega, by show (n : Int) - 0 ≤ (16777216 : Nat); omega⟩, hn⟩, e0]
  show (mapO _ (rng 0 1 n)).map D.ol = _
  rw [rng0, mapO_enc (p := p) (g := g) (enc := fun (k : Nat) => D.int (k : Int)) fun k hk => ?_]
  · rfl
  · obtain ⟨τ, h1, h2, h3⟩ := he k (List.mem_range.mp hk)
    rw [h1, Option.bind_some]
    show (evT T Φ c τ M).bind _ = _
    rw [h2, Option.bind_some]
    cases hp : p k with
    | true =>
      obtain ⟨y, h4, h5⟩ := h3 hp
      rw [if_pos rfl, h4, Option.bind_some, h5]
      rfl
    | false => rfl
/-- [e for tg in range(hi)] -/
theorem ev_lcrM {hi e : CE} {tg : Tg} {n : Nat} (g : Nat → D) (h : ev T Φ hi σ M = some (.int n)) (hz : n ≤ SZ) (hn : noOwn σ (slotsOf tg) = true)
    (he : ∀ k : Nat, k < n → ∃ τ y, stoP tg (.int k) (wipeS σ (slotsOf tg)) = some τ ∧ ev T Φ e τ M = some y ∧ frzP y = some (g k)) : ev T Φ (.lcr e tg none hi []) σ M = some (.ol ((List.range n).map g)) := by
  have := ev_lcr (T := T) (Φ := Φ) (σ := σ) (M := M) (hi := hi) (e := e) (tg := tg) (n := n) (g := fun d => match d with
    | .int i => g i.toNat
    | _ => .non) h hz hn fun k hk => he k hk
  rw [this]
  rfl
theorem ev_tuple {e : CE} {l : List D} (h : ev T Φ e σ M = some (.ol l)) : ev T Φ (.bc .tuple [e]) σ M = some (.tup l) := by
  unfold ev
  show ((ev T Φ e σ M).bind fun x => (some []).map fun xs => pk x :: xs).bind _ = _
  rw [h]; rfl
theorem ev_len {e : CE} {d : D} {n : Nat} (h : ev T Φ e σ M = some d) (hl : opB .len [vw σ M (pk d)] = some (.int n)) : ev T Φ (.bc .len [e]) σ M = some (.int n) := by
  unfold ev
  show ((ev T Φ e σ M).bind fun x => (some []).map fun xs => pk x :: xs).bind _ = _
  rw [h]; exact hl
theorem ev_bin {op : Bop} {a b : CE} {x y r : D} (h1 : ev T Φ a σ M = some x) (h2 : ev T Φ b σ M = some y) (h3 : opBin op (vw σ M (pk x)) (vw σ M (pk y)) = some r) : ev T Φ (.bin op a b) σ M = some r := by
  unfold ev
  rw [h1, Option.bind_some, h2, Option.bind_some, h3]
theorem evL_1 {e : CE} {x x' : D} (h : ev T Φ e σ M = some x) (hf : frzP x = some x') : evL T Φ [e] σ M = some [x'] := by
  unfold evL
  rw [h, Option.bind_some, hf]; rfl
theorem evL_2 {e : CE} {es : List CE} {x x' : D} {xs : List D} (h : ev T Φ e σ M = some x) (hf : frzP x = some x') (h2 : evL T Φ es σ M = some xs) : evL T Φ (e :: es) σ M = some (x' :: xs) := by
  show ((ev T Φ e σ M).bind fun x => (frzP x).bind fun x => (evL T Φ es σ M).map fun xs => x :: xs) = _
  rw [h, Option.bind_some, hf, Option.bind_some, h2]; rfl
theorem ev_tup {es : List CE} {xs : List D} (h : evL T Φ es σ M = some xs) (hz : xs.length ≤ SZ) : ev T Φ (.tup es) σ M = some (.tup xs) := by
  unfold ev
  rw [h, Option.bind_some, if_pos hz]
theorem ev_lst {es : List CE} {xs : List D} (h : evL T Φ es σ M = some xs) (hz : xs.length ≤ SZ) : ev T Φ (.lst es) σ M = some (.ol xs) := by
  unfold ev
  rw [h, Option.bind_some, if_pos hz]
end
end Pv

/-! E16: loops by an invariant over the place in the list. -/
namespace Pv
section
variable {T : Tab} {Φ : Phi} {Γ : FSem} {σ : St} {M : Mem} {De : EndsD} {r : List CS} {α : Type}
theorem st_forL {it : CE} {tg : Tg} {b : List CS} {d d' : D} {l : List α} (enc : α → D) (J : Nat → St → Prop) (hΦ : PureIn Φ Γ) (h : ev T Φ it σ M = some d) (hf : frzP d = some d') (hw : walk d' (vw σ M d') = some (l.map enc)) (hv : ∀ τ, vw τ M d' = vw σ M d') (h0 : J 0 σ)
    (hs : ∀ i a σ' k, l[i]? = some a → J i σ' → (∀ σ'', J (i + 1) σ'' → k σ'' M) → ∃ τ, stoP tg (enc a) σ' = some τ ∧ wpSs T Γ b (loopE De k fun σ M => wpSs T Γ r De σ M) τ M) (hd : ∀ σ', J l.length σ' → wpSs T Γ r De σ' M) : wpSs T Γ (.for_ tg it b :: r) De σ M := by
  refine st_forI (fun rem σ' => ∃ i, i ≤ l.length ∧ rem = (l.drop i).map enc ∧ J i σ') hΦ h hf hw hv ⟨0, Nat.zero_le _, by rw [List.drop_zero], h0⟩ ?_ ?_
  · rintro x rest σ' k ⟨i, hi, e, hJ⟩ hk
    have hlt : i < l.length := by
      rcases Nat.lt_or_ge i l.length with h | h
      · exact h
      · rw [List.drop_eq_nil_of_le h] at e; cases e
    rw [List.drop_eq_getElem_cons hlt, List.map_cons] at e
    obtain ⟨e1, e2⟩ := List.cons.inj e
    rw [e1]
    exact hs i l[i] σ' k (List.getElem?_eq_getElem hlt) hJ fun σ'' hJ' => hk σ'' ⟨i + 1, hlt, e2, hJ'⟩
  · rintro σ' ⟨i, hi, e, hJ⟩
    have e0 := List.drop_eq_nil_iff.mp (List.map_eq_nil_iff.mp e.symm)
    have : i = l.length := by omega
    subst this
    exact hd σ' hJ
theorem st_forN {hi : CE} {n : Nat} {tg : Tg} {b : List CS} (J : Nat → St → Prop) (hΦ : PureIn Φ Γ) (h2 : ev T Φ hi σ M = some (.int n)) (hn : n ≤ SZ) (h0 : J 0 σ)
    (hs : ∀ (i : Nat) σ' k, i < n → J i σ' → (∀ σ'', J (i + 1) σ'' → k σ'' M) → ∃ τ, stoP tg (.int i) σ' = some τ ∧ wpSs T Γ b (loopE De k fun σ M => wpSs T Γ r De σ M) τ M) (hd : ∀ σ', J n σ' → wpSs T Γ r De σ' M) : wpSs T Γ (.forR tg none hi b :: r) De σ M := by
  have hn' : n ≤ 16777216 := hn
  have e0 : ((n : Int) - (none : Option Int).getD 0).toNat = n := by
    show ((n : Int) - 0).toNat = n
    omega
  refine st_forRI (l := none) (fun rem σ' => ∃ i, i ≤ n ∧ rem = (List.range' i (n - i)).map (fun (k : Nat) => D.int (k : Int)) ∧ J i σ') hΦ rfl h2 ⟨by show Int.natAbs 0 < _; decide, by omega, by show (n : Int) - 0 ≤ (16777216 : Nat); omega⟩ ⟨0, Nat.zero_le _, by
    rw [e0]
    show rng 0 1 n = _
    rw [rng0, List.range_eq_range']; rfl, h0⟩ ?_ ?_
  · rintro x rest σ' k ⟨i, hi, e, hJ⟩ hk
    have hlt : i < n := by
      rcases Nat.lt_or_ge i n with h | h
      · exact h
      · rw [show n - i = 0 by omega] at e; cases e
    rw [show n - i = (n - (i + 1)) + 1 by omega, List.range'_succ, List.map_cons] at e
    obtain ⟨e1, e2⟩ := List.cons.inj e
    rw [e1]
    exact hs i σ' k hlt hJ fun σ'' hJ' => hk σ'' ⟨i + 1, hlt, e2, hJ'⟩
  · rintro σ' ⟨i, hi, e, hJ⟩
    have e0 := congrArg List.length e
    rw [List.length_map, List.length_range', List.length_nil] at e0
    have : i = n := by omega
    subst this
    exact hd σ' hJ
/-- range(lo, hi) -/
theorem st_forN1 {hi lo : CE} {a n : Nat} {tg : Tg} {b : List CS} (J : Nat → St → Prop) (hΦ : PureIn Φ Γ) (h1 : ev T Φ lo σ M = some (.int a)) (h2 : ev T Φ hi σ M = some (.int n)) (han : a ≤ n) (hn : n ≤ SZ) (h0 : J a σ)
    (hs : ∀ (i : Nat) σ' k, a ≤ i → i < n → J i σ' → (∀ σ'', J (i + 1) σ'' → k σ'' M) → ∃ τ, stoP tg (.int i) σ' = some τ ∧ wpSs T Γ b (loopE De k fun σ M => wpSs T Γ r De σ M) τ M) (hd : ∀ σ', J n σ' → wpSs T Γ r De σ' M) : wpSs T Γ (.forR tg (some lo) hi b :: r) De σ M := by
  have hn' : n ≤ 16777216 := hn
  have e0 : ((n : Int) - (some (a : Int)).getD 0).toNat = n - a := by
    show ((n : Int) - a).toNat = n - a
    omega
  refine st_forRI (l := some (a : Int)) (fun rem σ' => ∃ i, a ≤ i ∧ i ≤ n ∧ rem = (List.range' i (n - i)).map (fun (k : Nat) => D.int (k : Int)) ∧ J i σ') hΦ (by
    show (ev T Φ lo σ M).bind _ = _
    rw [h1]; rfl) h2 ⟨by show Int.natAbs (a : Int) < _; omega, by omega, by show (n : Int) - a ≤ (16777216 : Nat); omega⟩ ⟨a, Nat.le_refl _, han, by
    rw [e0]
    show rng (a : Int) 1 (n - a) = _
    rw [rng_map, List.range_eq_range']
    rw [show List.range' a (n - a) = (List.range' 0 (n - a)).map (fun x => a + x) by rw [← List.range_eq_range', List.range'_eq_map_range], List.map_map]
    refine List.map_congr_left fun x _ => ?_
    show D.int _ = D.int _
    congr 1, h0⟩ ?_ ?_
  · rintro x rest σ' k ⟨i, ha, hi, e, hJ⟩ hk
    have hlt : i < n := by
      rcases Nat.lt_or_ge i n with h | h
      · exact h
      · rw [show n - i = 0 by omega] at e; cases e
    rw [show n - i = (n - (i + 1)) + 1 by omega, List.range'_succ, List.map_cons] at e
    obtain ⟨e1, e2⟩ := List.cons.inj e
    rw [e1]
    exact hs i σ' k ha hlt hJ fun σ'' hJ' => hk σ'' ⟨i + 1, by omega, hlt, e2, hJ'⟩
  · rintro σ' ⟨i, ha, hi, e, hJ⟩
    have e0 := congrArg List.length e
    rw [List.length_map, List.length_range', List.length_nil] at e0
    have : i = n := by omega
    subst this
    exact hd σ' hJ
end
end Pv

/-! E17: oracles by a list of calls. -/
namespace Pv
section
variable {T : Tab} {Φ : Phi} {Γ : FSem} {σ : St} {M : Mem} {De : EndsD} {r : List CS}
open Classical in
noncomputable def phiS (L : List (Nat × List D × D)) : Phi := fun f ds _ => (L.find? fun p => decide (p.1 = f ∧ p.2.1 = ds)).map (·.2.2)
theorem pureS {L : List (Nat × List D × D)} (h : ∀ p ∈ L, ∀ M Q E, Q p.2.2 M → Γ p.1 p.2.1 M Q E) : PureIn (phiS L) Γ := fun f ds M r e => by
  unfold phiS at e
  obtain ⟨p, h1, h2⟩ := Option.map_eq_some_iff.mp e
  have h3 := List.find?_some h1
  have h3 : p.1 = f ∧ p.2.1 = ds := by simpa using h3
  obtain ⟨rfl, rfl⟩ := h3
  subst h2
  exact h p (List.mem_of_find?_eq_some h1) M
theorem phiS_get {L : List (Nat × List D × D)} {f : Nat} {ds : List D} {r : D} (h1 : (f, ds, r) ∈ L) (h2 : ∀ p ∈ L, p.1 = f → p.2.1 = ds → p.2.2 = r) : phiS L f ds M = some r := by
  unfold phiS
  generalize e : L.find? _ = o
  cases o with
  | none =>
    have := List.find?_eq_none.mp e _ h1
    simp at this
  | some p =>
    have h3 := List.find?_some e
    have h3 : p.1 = f ∧ p.2.1 = ds := by simpa using h3
    show some p.2.2 = _
    rw [h2 p (List.mem_of_find?_eq_some e) h3.1 h3.2]
theorem phiS_one {f : Nat} {ds : List D} {r : D} : phiS [(f, ds, r)] f ds M = some r := phiS_get (List.mem_cons_self ..) fun p hp h1 h2 => by
  rw [List.mem_singleton] at hp
  subst hp; rfl
theorem pureS1 {f : Nat} {ds : List D} {r : D} (h : ∀ M Q E, Q r M → Γ f ds M Q E) : PureIn (phiS [(f, ds, r)]) Γ := pureS fun p hp => by
  rw [List.mem_singleton] at hp
  subst hp; exact h
theorem ev_call {f : Nat} {es : List CE} {ds : List D} {r : D} (h : evL T Φ es σ M = some ds) (hr : Φ f ds M = some r) : ev T Φ (.call f [] es) σ M = some r := by
  unfold ev
  show (if true = true then _ else none) = _
  rw [if_pos rfl, h]; exact hr
theorem evT_not {c : CT} {b : Bool} (h : evT T Φ c σ M = some b) : evT T Φ (.not c) σ M = some (!b) := by
  unfold evT
  rw [h]; rfl
theorem evT_or {a c : CT} {b b' : Bool} (h : evT T Φ a σ M = some b) (h' : b = false → evT T Φ c σ M = some b') : evT T Φ (.or a c) σ M = some (if b = true then true else b') := by
  unfold evT
  rw [h]
  cases b with
  | true => rfl
  | false => exact h' rfl
theorem ev_chain {o1 o2 : Cop} {a b c : CE} {i j l : Int} {r1 r2 : Bool} (h1 : ev T Φ a σ M = some (.int i)) (h2 : ev T Φ b σ M = some (.int j)) (h3 : ev T Φ c σ M = some (.int l)) (e1 : opCmp o1 (.int i) (.int j) = some r1) (e2 : opCmp o2 (.int j) (.int l) = some r2) :
    ev T Φ (.chain o1 o2 a b c) σ M = some (.bl (r1 && r2)) := by
  unfold ev
  rw [h1, Option.bind_some, h2, Option.bind_some]
  show (some i).bind _ = _
  rw [Option.bind_some]
  show (some j).bind _ = _
  rw [Option.bind_some, e1, Option.bind_some]
  cases r1 with
  | false => rfl
  | true =>
    rw [if_pos rfl, h3, Option.bind_some]
    show (opCmp o2 (.int j) (.int l)).map D.bl = _
    rw [e2]; rfl
end
end Pv

/-! E18: for over a slot's own list; setdefault. -/
namespace Pv
section
variable {T : Tab} {Φ : Phi} {Γ : FSem} {σ : St} {M : Mem} {De : EndsD} {r : List CS} {α : Type}
theorem st_forLS {tg : Tg} {b : List CS} {j : Nat} {l : List α} (enc : α → D) (J : Nat → St → Prop) (hj : σ[j]? = some (some (.ol (l.map enc)))) (h0 : J 0 (σ.set j (some (.lst (l.map enc)))))
    (hs : ∀ i a σ' k, l[i]? = some a → J i σ' → (∀ σ'', J (i + 1) σ'' → k σ'' M) → ∃ τ, stoP tg (enc a) σ' = some τ ∧ wpSs T Γ b (loopE De k fun σ M => wpSs T Γ r De σ M) τ M) (hd : ∀ σ', J l.length σ' → wpSs T Γ r De σ' M) : wpSs T Γ (.for_ tg (.var j) b :: r) De σ M := by
  have go : wpE T Γ De.ex (.var j) σ M fun d σ M => frz d σ M fun d σ M => ∃ xs, walk d (vw σ M d) = some xs ∧
      goEach (fun τ N => vw τ N d = vw σ M d) (fun x k τ N => store tg x τ N fun τ N => wpSs T Γ b (loopE De k fun σ M => wpSs T Γ r De σ M) τ N) (fun σ M => wpSs T Γ r De σ M) xs σ M := by
    refine w_slot (b := .l (l.map enc)) hj rfl ?_
    have e : frz (.slot j) σ M = fun Q => Q (.lst (l.map enc)) (σ.set j (some (.lst (l.map enc)))) M := by
      funext Q
      unfold frz
      dsimp only
      rw [hj]
    rw [e]
    refine ⟨l.map enc, rfl, ?_⟩
    refine go_inv (fun rem σ' => ∃ i, i ≤ l.length ∧ rem = (l.drop i).map enc ∧ J i σ') ?_ ?_ (l.map enc) _ ⟨0, Nat.zero_le _, by rw [List.drop_zero], h0⟩
    · rintro x rest σ' k ⟨i, hi, e, hJ⟩ hk
      refine ⟨rfl, ?_⟩
      have hlt : i < l.length := by
        rcases Nat.lt_or_ge i l.length with h | h
        · exact h
        · rw [List.drop_eq_nil_of_le h] at e; cases e
      rw [List.drop_eq_getElem_cons hlt, List.map_cons] at e
      obtain ⟨e1, e2⟩ := List.cons.inj e
      rw [e1]
      obtain ⟨τ, h1, h2⟩ := hs i l[i] σ' k (List.getElem?_eq_getElem hlt) hJ fun σ'' hJ' => hk σ'' ⟨i + 1, hlt, e2, hJ'⟩
      exact stoP_ok h1 h2
    · rintro σ' ⟨i, hi, e, hJ⟩
      refine ⟨rfl, ?_⟩
      have e0 := List.drop_eq_nil_iff.mp (List.map_eq_nil_iff.mp e.symm)
      have : i = l.length := by omega
      subst this
      exact hd σ' hJ
  exact go
/-- d.setdefault(k, v) -/
theorem st_sdef {j : Nat} {a e : CE} {kd d d' : D} {xs ys : List (D × D)} (hΦ : PureIn Φ Γ) (hj : σ[j]? = some (some (.od xs))) (ha : ev T Φ a σ M = some kd) (hk : frzP kd = some kd) (h : ev T Φ e σ M = some d) (hf : frzP d = some d') (hok : kOk xs kd = true) (hz : xs.length < SZ)
    (hy : ys = match dget xs kd with
      | some _ => xs
      | none => dput xs kd d') (q : wpSs T Γ r De (σ.set j (some (.od ys))) M) : wpSs T Γ (.ex (.mm .setdefault (.var j) [a, e]) :: r) De σ M := by
  have go : wpE T Γ De.ex (.mm .setdefault (.var j) [a, e]) σ M (fun _ σ M => wpSs T Γ r De σ M) := by
    unfold wpE
    refine w_slot (b := .d xs) hj rfl ⟨by simp only [mmT, vw, hj, Bool.and_self], ?_⟩
    unfold wpL
    refine ev_ok hΦ a ha (frzP_ok hk ?_)
    unfold wpL
    refine ev_ok hΦ e h (frzP_ok hf ?_)
    unfold wpL
    have e1 : opX .setdefault (.d xs) [kd, d'] = if kOk xs kd = true ∧ xs.length < SZ then some (match dget xs kd with
      | some v => (.d xs, v)
      | none => (.d (dput xs kd d'), d')) else none := rfl
    cases hg : dget xs kd with
    | some v =>
      rw [hg] at hy
      refine chg_od (ys := ys) (rr := v) hj ?_ q
      rw [e1, if_pos ⟨hok, hz⟩, hg, hy]
    | none =>
      rw [hg] at hy
      refine chg_od (ys := ys) (rr := d') hj ?_ q
      rw [e1, if_pos ⟨hok, hz⟩, hg, hy]
  exact go
end
end Pv

/-! E19: helpers for the walks: whole numbers, counts, cuts. -/
namespace Pv
open PySem PySem.Spec PyProof.Rows L2
section
variable {T' : Tab} {Φ : Phi} {Γ : FSem} {σ : St} {M : Mem}
theorem atI_nat {α : Type} {l : List α} {s : Nat} : L2.atI l (s : Int) = l[s]? := by
  unfold L2.atI L2.ixN
  rw [if_pos (by omega)]
  by_cases h : s < l.length
  · rw [if_pos (by omega)]
    rfl
  · rw [if_neg (by omega), List.getElem?_eq_none (by omega)]
    rfl
theorem eqB (a b : Bool) : opCmp .ne (.bl a) (.bl b) = some (a != b) := by cases a <;> cases b <;> decide +kernel
theorem eqIB (i j : Int) : opCmp .eq (.int i) (.int j) = some (decide (i = j)) := by
  have e : opCmp .eq (.int i) (.int j) = some (PyData.eqv (.int i) (.int j)) := rfl
  rw [e]
  simp only [PyData.eqv]
  by_cases h : i = j <;> simp [h]
theorem eqI (i : Int) : opCmp .eq (.int i) (.int i) = some true := by rw [eqIB, decide_eq_true rfl]
theorem neIB (i j : Int) : opCmp .ne (.int i) (.int j) = some (!decide (i = j)) := by
  show (opCmp .eq (.int i) (.int j)).map _ = _
  rw [eqIB]; rfl
theorem mapM_int (ns : List Int) : (ns.map D.int).mapM intOf = some ns := by
  induction ns with
  | nil => rfl
  | cons n ns ih =>
    rw [List.map_cons, List.mapM_cons, ih]
    rfl
theorem atI_natM {α β : Type} {f : α → β} {l : List α} {s : Nat} : L2.atI (l.map f) (s : Int) = l[s]?.map f := by
  rw [atI_nat, List.getElem?_map]
theorem mul_ok {i j : Int} (h : -(2 ^ 64) < i ∧ i < 2 ^ 64) : opBin .mul (.int i) (.int j) = some (.int (i * j)) := by
  show (if mulOk i j = true then some (D.int (i * j)) else none) = _
  rw [if_pos]
  unfold mulOk
  rw [Bool.or_eq_true, Bool.and_eq_true, decide_eq_true_iff, decide_eq_true_iff]
  exact .inl h
theorem mod_ok {i j : Int} (h : 0 < j) : opBin .mod (.int i) (.int j) = some (.int (i % j)) := if_pos h
theorem fdiv_ok {i j : Int} (h : 0 < j) (h2 : j < 1073741824) : opBin .fdiv (.int i) (.int j) = some (.int (i / j)) := if_pos ⟨h, h2⟩
theorem mod_nat {i : Int} {many : Nat} (h : 0 < many) : ∃ x : Nat, x < many ∧ i % (many : Int) = x := by
  refine ⟨(i % (many : Int)).toNat, ?_, ?_⟩
  · have := Int.emod_nonneg i (show (many : Int) ≠ 0 by omega)
    have := Int.emod_lt_of_pos i (show (0 : Int) < many by omega)
    omega
  · have := Int.emod_nonneg i (show (many : Int) ≠ 0 by omega)
    omega
theorem dats_I (a : List Int) : dats (a.map D.int) = true := by
  induction a with
  | nil => rfl
  | cons x a ih => exact ih
theorem lay_I (a : List Int) : PyData.canLayAll0 (pds (a.map D.int)) = true := by
  induction a with
  | nil => simp [pds, PyData.canLayAll0]
  | cons x a ih =>
    show PyData.canLayAll0 ((D.int x).pd :: pds (a.map D.int)) = true
    simp only [PyData.canLayAll0, ih, Bool.and_true]
    show PyData.canLay0 (.int x) = true
    simp only [PyData.canLay0]
theorem pdep_I (a : List Int) : PyData.depthAll (pds (a.map D.int)) ≤ 1 := by
  induction a with
  | nil => simp [pds, PyData.depthAll]
  | cons x a ih =>
    show PyData.depthAll ((D.int x).pd :: pds (a.map D.int)) ≤ 1
    have h : PyData.depth (D.int x).pd ≤ 1 := by show PyData.depth (.int x) ≤ 1; simp [PyData.depth]
    simp only [PyData.depthAll]
    omega
theorem eqv_I1 (x y : Int) : PyData.eqv (D.int x).pd (D.int y).pd = decide (x = y) := by
  show PyData.eqv (.int x) (.int y) = _
  simp only [PyData.eqv]
  by_cases h : x = y <;> simp [h]
theorem eqv_I (a b : List Int) : PyData.eqvAll (pds (a.map D.int)) (pds (b.map D.int)) = decide (a = b) := by
  induction a generalizing b with
  | nil => cases b <;> simp [pds, PyData.eqvAll]
  | cons x a ih =>
    cases b with
    | nil => simp [pds, PyData.eqvAll]
    | cons y b =>
      show PyData.eqvAll ((D.int x).pd :: pds (a.map D.int)) ((D.int y).pd :: pds (b.map D.int)) = _
      simp only [PyData.eqvAll, ih]
      rw [eqv_I1]
      by_cases h1 : x = y <;> by_cases h2 : a = b <;> simp [h1, h2]
theorem shp_I (a : List Int) : (D.lst (a.map D.int)).shp = true := by
  have h1 := dats_I a
  have h2 := lay_I a
  have h3 := pdep_I a
  unfold D.shp SeqAt.shaped
  have e1 : (D.lst (a.map D.int)).dat = true := h1
  have e2 : PyData.canLay0 (D.lst (a.map D.int)).pd = true := by
    show PyData.canLay0 (.list (pds (a.map D.int))) = true
    simp only [PyData.canLay0]; exact h2
  have e3 : PyData.depth (D.lst (a.map D.int)).pd ≤ 64 := by
    show PyData.depth (.list (pds (a.map D.int))) ≤ 64
    simp only [PyData.depth]; omega
  rw [e1, e2, decide_eq_true e3]; rfl
theorem ints_ne {a b : List Int} : opCmp .ne (.lst (a.map D.int)) (.lst (b.map D.int)) = some (!decide (a = b)) := by
  show (if ((D.lst (a.map D.int)).shp && (D.lst (b.map D.int)).shp) = true then some ((D.lst (a.map D.int)).eqv (.lst (b.map D.int))) else none).map _ = _
  rw [shp_I, shp_I]
  show (some ((D.lst (a.map D.int)).eqv (.lst (b.map D.int)))).map _ = _
  have e : (D.lst (a.map D.int)).eqv (.lst (b.map D.int)) = decide (a = b) := by
    show PyData.eqv (.list (pds (a.map D.int))) (.list (pds (b.map D.int))) = _
    simp only [PyData.eqv]
    exact eqv_I a b
  rw [e]; rfl
theorem in_ints (s : Int) (l : List Int) : opIn (.int s) (.tup (l.map D.int)) = some (decide (s ∈ l)) := by
  have h1 : (l.map D.int).all D.flat = true := by
    induction l with
    | nil => rfl
    | cons a l ih => exact ih
  have h2 : (l.map D.int).any (fun y => y.eqv (D.int s)) = decide (s ∈ l) := by
    clear h1
    induction l with
    | nil => simp
    | cons a l ih =>
      have e0 : (D.int a).eqv (D.int s) = decide (a = s) := eqv_I1 a s
      rw [List.map_cons, List.any_cons, ih, e0]
      by_cases e : a = s
      · subst e; simp
      · have e2 : ¬ s = a := fun z => e z.symm
        simp [e, e2]
  show (if ((D.int s).flat && (l.map D.int).all D.flat) = true then some ((l.map D.int).any fun y => y.eqv (D.int s)) else none) = _
  rw [h1, h2]
  rfl
theorem cut_take {α : Type} {j : Nat} {xs : List α} (h : j ≤ xs.length) : cutL none (some (j : Int)) xs = xs.take j := by
  have e1 : HT.sIx xs.length 0 none = 0 := rfl
  have e2 : HT.sIx xs.length xs.length (some (j : Int)) = j := by
    simp only [HT.sIx]
    repeat' split
    all_goals omega
  unfold cutL
  rw [e1, e2, List.drop_zero, Nat.sub_zero]
theorem cut_drop {α : Type} {j : Nat} {xs : List α} (h : j ≤ xs.length) : cutL (some (j : Int)) none xs = xs.drop j := by
  have e1 : HT.sIx xs.length xs.length none = xs.length := rfl
  have e2 : HT.sIx xs.length 0 (some (j : Int)) = j := by
    simp only [HT.sIx]
    repeat' split
    all_goals omega
  unfold cutL
  rw [e1, e2, List.take_of_length_le (by rw [List.length_drop]; exact Nat.le_refl _)]
theorem ev_and {a b : CE} {x y : Bool} (h1 : ev T' Φ a σ M = some (.bl x)) (h2 : x = true → ev T' Φ b σ M = some (.bl y)) : ev T' Φ (.andE a b) σ M = some (.bl (x && y)) := by
  unfold ev
  rw [h1]
  cases x with
  | true => exact h2 rfl
  | false => rfl
theorem ev_or {a b : CE} {x y : Bool} (h1 : ev T' Φ a σ M = some (.bl x)) (h2 : x = false → ev T' Φ b σ M = some (.bl y)) : ev T' Φ (.orE a b) σ M = some (.bl (x || y)) := by
  unfold ev
  rw [h1]
  cases x with
  | true => rfl
  | false => exact h2 rfl
theorem ev_lenO {e : CE} {l : List D} (h : ev T' Φ e σ M = some (.ol l)) : ev T' Φ (.bc .len [e]) σ M = some (.int l.length) := ev_len h rfl
theorem any_len {α : Type} {l : List α} {p : α → Bool} {g : α → D} : decide ((((l.filter p).map g).length : Int) > 0) = l.any p := by
  rw [List.length_map]
  cases h : l.any p with
  | true =>
    obtain ⟨x, h1, h2⟩ := List.any_eq_true.mp h
    have : 0 < (l.filter p).length := List.length_pos_of_mem (List.mem_filter.mpr ⟨h1, h2⟩)
    exact decide_eq_true (by omega)
  | false =>
    have : l.filter p = [] := List.filter_eq_nil_iff.mpr fun x hx => by
      have := List.any_eq_false.mp h x hx
      exact this
    rw [this]; rfl
theorem any_len0 {α : Type} {l : List α} {p : α → Bool} {g : α → D} : decide ((((l.filter p).map g).length : Int) = 0) = !l.any p := by
  rw [← any_len (g := g)]
  by_cases h : ((((l.filter p).map g).length : Int) = 0)
  · rw [decide_eq_true h, decide_eq_false (by omega)]; rfl
  · rw [decide_eq_false h, decide_eq_true (by omega)]; rfl
/-- len([.. if ..]) > 0 -/
theorem evT_any {e : CE} {α : Type} {l : List α} {p : α → Bool} {g : α → D} (h : ev T' Φ e σ M = some (.ol ((l.filter p).map g))) : evT T' Φ (.val (.cmp .gt (.bc .len [e]) (.con (.int 0)))) σ M = some (l.any p) :=
  evT_bl (ev_cmp (x := .int ((l.filter p).map g).length) (y := .int 0) (ev_lenO h) rfl (by
    show some (decide ((0 : Int) < (((l.filter p).map g).length : Int))) = _
    rw [← any_len (g := g)]))
theorem ev_any0 {e : CE} {α : Type} {l : List α} {p : α → Bool} {g : α → D} (h : ev T' Φ e σ M = some (.ol ((l.filter p).map g))) : ev T' Φ (.cmp .eq (.bc .len [e]) (.con (.int 0))) σ M = some (.bl (!l.any p)) :=
  ev_cmp (x := .int ((l.filter p).map g).length) (y := .int 0) (ev_lenO h) rfl (by
    show opCmp .eq (.int _) (.int 0) = _
    rw [eqIB, any_len0])
/-- [e for tg in range(lo, hi) if c] -/
theorem ev_lcrF1 {lo hi e : CE} {c : CT} {tg : Tg} {a n : Nat} (g : Nat → D) (p : Nat → Bool) (h1 : ev T' Φ lo σ M = some (.int a)) (h : ev T' Φ hi σ M = some (.int n)) (ha : a ≤ SZ) (hz : n ≤ SZ) (hn : noOwn σ (slotsOf tg) = true)
    (he : ∀ k : Nat, a ≤ k → k < n → ∃ τ, stoP tg (.int k) (wipeS σ (slotsOf tg)) = some τ ∧ evT T' Φ c τ M = some (p k) ∧ (p k = true → ∃ y, ev T' Φ e τ M = some y ∧ frzP y = some (g k))) : ev T' Φ (.lcr e tg (some lo) hi [c]) σ M = some (.ol (((List.range' a (n - a)).filter p).map g)) := by
  have hz' : n ≤ 16777216 := hz
  have ha' : a ≤ 16777216 := ha
  have e0 : ((n : Int) - (some (a : Int)).getD 0).toNat = n - a := by
    show ((n : Int) - (a : Int)).toNat = n - a
    omega
  unfold ev
  show ((ev T' Φ lo σ M).bind fun x => (intOf x).map some).bind _ = _
  rw [h1, h]
  show (some (some (a : Int))).bind _ = _
  rw [Option.bind_some, Option.bind_some]
  show (some (n : Int)).bind _ = _
  rw [Option.bind_some, if_pos ⟨⟨by show Int.natAbs (a : Int) < _; omega, by omega, by show (n : Int) - a ≤ (16777216 : Nat); omega⟩, hn⟩, e0]
  show (mapO _ (rng (a : Int) 1 (n - a))).map D.ol = _
  have er : rng (a : Int) 1 (n - a) = (List.range' a (n - a)).map fun (k : Nat) => D.int (k : Int) := by
    rw [rng_map, List.range'_eq_map_range, List.map_map]
    refine List.map_congr_left fun x _ => ?_
    show D.int _ = D.int _
    congr 1
  rw [er, mapO_enc (p := p) (g := g) (enc := fun (k : Nat) => D.int (k : Int)) fun k hk => ?_]
  · rfl
  · have hk' := List.mem_range'_1.mp hk
    obtain ⟨τ, h1, h2, h3⟩ := he k (by omega) (by omega)
    rw [h1, Option.bind_some]
    show (evT T' Φ c τ M).bind _ = _
    rw [h2, Option.bind_some]
    cases hp : p k with
    | true =>
      obtain ⟨y, h4, h5⟩ := h3 hp
      rw [if_pos rfl, h4, Option.bind_some, h5]
      rfl
    | false => rfl
theorem phiS_hd {f : Nat} {ds : List D} {r : D} {L : List (Nat × List D × D)} : phiS ((f, ds, r) :: L) f ds M = some r := by
  unfold phiS
  rw [List.find?_cons]
  simp
theorem phiS_tl {f' : Nat} {ds' : List D} {r' : D} {f : Nat} {ds : List D} {L : List (Nat × List D × D)} (h : f' ≠ f) : phiS ((f', ds', r') :: L) f ds M = phiS L f ds M := by
  unfold phiS
  rw [List.find?_cons]
  simp [h]
theorem atI_map {α : Type} {f : α → D} {l : List α} {s : Nat} {a : α} (h : l[s]? = some a) : L2.atI (l.map f) (s : Int) = some (f a) := by
  rw [atI_natM, h]; rfl
theorem ev_slc1 {Φ : Phi} {T' : Tab} {σ : St} {a hi : CE} {xs : List D} {j : Nat} (h : ev T' Φ a σ M = some (.tup xs)) (h2 : ev T' Φ hi σ M = some (.int j)) (hj : j ≤ xs.length) : ev T' Φ (.slc a none (some hi)) σ M = some (.tup (xs.take j)) := by
  unfold ev
  rw [h, Option.bind_some]
  show (some none).bind (fun l => ((ev T' Φ hi σ M).bind fun x => (intOf x).map some).bind _) = _
  rw [h2]
  show some (D.tup (cutL none (some (j : Int)) xs)) = _
  rw [cut_take hj]
theorem ev_slc2 {Φ : Phi} {T' : Tab} {σ : St} {a lo : CE} {xs : List D} {j : Nat} (h : ev T' Φ a σ M = some (.tup xs)) (h2 : ev T' Φ lo σ M = some (.int j)) (hj : j ≤ xs.length) : ev T' Φ (.slc a (some lo) none) σ M = some (.tup (xs.drop j)) := by
  unfold ev
  rw [h, Option.bind_some]
  show ((ev T' Φ lo σ M).bind fun x => (intOf x).map some).bind _ = _
  rw [h2]
  show some (D.tup (cutL (some (j : Int)) none xs)) = _
  rw [cut_drop hj]
theorem add_tup {a b : List D} (h : a.length + b.length ≤ 100000) : opBin .add (.tup a) (.tup b) = some (.tup (a ++ b)) := by
  show (lim (a ++ b)).map D.tup = _
  unfold lim
  rw [if_pos (by rw [List.length_append]; show _ ≤ 16777216; omega)]; rfl
theorem add_lst {a b : List D} (h : a.length + b.length ≤ 100000) : opBin .add (.lst a) (.lst b) = some (.ol (a ++ b)) := by
  show (lim (a ++ b)).map D.ol = _
  unfold lim
  rw [if_pos (by rw [List.length_append]; show _ ≤ 16777216; omega)]; rfl
end
end Pv

/-! E20: texts: equality, being in, cuts. -/
namespace Pv
open PySem PySem.Spec PyProof.Rows L2
def asc (x : List Nat) : Bool := x.all fun c => decide (c < 128)
theorem asc_app {x y : List Nat} : asc (x ++ y) = (asc x && asc y) := List.all_append
theorem shp_str {x : List Nat} (h : asc x = true) : (D.str x).shp = true := by
  have e1 : (D.str x).dat = true := rfl
  have e2 : PyData.canLay0 (D.str x).pd = true := by
    have e0 : PyData.canLay0 (.str (strOf x)) = (strOf x).cps.all (· < 0x110000) := by
      simp only [PyData.canLay0]
      rfl
    show PyData.canLay0 (.str (strOf x)) = true
    rw [e0, Array.all_eq_true]
    intro i hi
    have hm : (strOf x).cps[i] ∈ x := by
      have : (strOf x).cps[i] ∈ (strOf x).cps.toList := Array.mem_toList_iff.mpr (Array.getElem_mem hi)
      rwa [strOf_cps] at this
    have := of_decide_eq_true (List.all_eq_true.mp h _ hm)
    exact decide_eq_true (by omega)
  have e3 : PyData.depth (D.str x).pd ≤ 64 := by
    show PyData.depth (.str (strOf x)) ≤ 64
    simp [PyData.depth]
  unfold D.shp SeqAt.shaped
  rw [e1, e2, decide_eq_true e3]; rfl
theorem eqv_str (x y : List Nat) : (D.str x).eqv (.str y) = decide (x = y) := by
  show PyData.eqv (.str (strOf x)) (.str (strOf y)) = _
  simp only [PyData.eqv]
  by_cases h : x = y
  · subst h; simp
  · have : ¬ strOf x = strOf y := fun z => h (strOf_inj z)
    simp [h, this]
theorem eq_str {x y : List Nat} (hx : asc x = true) (hy : asc y = true) : opCmp .eq (.str x) (.str y) = some (decide (x = y)) := by
  show (if ((D.str x).shp && (D.str y).shp) = true then some ((D.str x).eqv (.str y)) else none) = _
  rw [shp_str hx, shp_str hy, eqv_str]; rfl
theorem ne_str {x y : List Nat} (hx : asc x = true) (hy : asc y = true) : opCmp .ne (.str x) (.str y) = some (!decide (x = y)) := by
  show (opCmp .eq (.str x) (.str y)).map _ = _
  rw [eq_str hx hy]; rfl
theorem in_strs (s : List Nat) (l : List (List Nat)) : opIn (.str s) (.tup (l.map .str)) = some (decide (s ∈ l)) := by
  have h1 : (l.map D.str).all D.flat = true := by
    induction l with
    | nil => rfl
    | cons a l ih => exact ih
  have h2 : (l.map D.str).any (fun y => y.eqv (D.str s)) = decide (s ∈ l) := by
    clear h1
    induction l with
    | nil => simp
    | cons a l ih =>
      rw [List.map_cons, List.any_cons, ih, eqv_str]
      by_cases e : a = s
      · subst e; simp
      · have e2 : ¬ s = a := fun z => e z.symm
        simp [e, e2]
  show (if ((D.str s).flat && (l.map D.str).all D.flat) = true then some ((l.map D.str).any fun y => y.eqv (D.str s)) else none) = _
  rw [h1, h2]
  rfl
theorem in_sign (c : Nat) (y : List Nat) : opIn (.str [c]) (.str y) = some (decide (c ∈ y)) := rfl
theorem cut_both {α : Type} {i j : Nat} {xs : List α} (h : i ≤ xs.length) (h2 : j ≤ xs.length) : cutL (some (i : Int)) (some (j : Int)) xs = (xs.drop i).take (j - i) := by
  have e1 : HT.sIx xs.length xs.length (some (j : Int)) = j := by
    simp only [HT.sIx]
    repeat' split
    all_goals omega
  have e2 : HT.sIx xs.length 0 (some (i : Int)) = i := by
    simp only [HT.sIx]
    repeat' split
    all_goals omega
  unfold cutL
  rw [e1, e2]

theorem add_str {x y : List Nat} (h : x.length + y.length ≤ 16777216) : opBin .add (.str x) (.str y) = some (.str (x ++ y)) := by
  show (lim (x ++ y)).map D.str = _
  unfold lim
  rw [if_pos (by rw [List.length_append]; exact h)]; rfl
end Pv

/-! E21: the meanings, one construct each, to be named. -/
namespace Pv
section
variable {T : Tab} {Γ : FSem} {E : Kx} {σ : St} {M : Mem} {De : EndsD} {r as bs : List CS} {a b c e o : CE} {es : List CE} {Q : Kt} {i f C m : Nat} {bx : List Bool}
abbrev nxt (T : Tab) (Γ : FSem) (r : List CS) (De : EndsD) : EndsD := { De with nx := fun σ M => wpSs T Γ r De σ M }
theorem i_asg (h : wpE T Γ De.ex e σ M (kAsg i (nxt T Γ r De))) : wpSs T Γ (.asg i e :: r) De σ M := h
theorem i_ex (h : wpE T Γ De.ex e σ M fun _ σ M => wpSs T Γ r De σ M) : wpSs T Γ (.ex e :: r) De σ M := h
theorem i_ret (h : wpE T Γ De.ex e σ M fun d σ M => handed d σ M De.rt) : wpSs T Γ (.ret e :: r) De σ M := h
theorem i_if {t : CT} (h : wpT T Γ De.ex t σ M fun t σ M => if t = true then wpSs T Γ as (nxt T Γ r De) σ M else wpSs T Γ bs (nxt T Γ r De) σ M) : wpSs T Γ (.ifS t as bs :: r) De σ M := h
theorem i_setF {x : Nat} (h : wpE T Γ De.ex e σ M fun v σ M => boxd v σ M fun v σ M => wpE T Γ De.ex a σ M fun o σ M => ∃ p C fs, o = .ref p ∧ M p = some (.ins C fs) ∧ (T.inits.lookup C).isSome = true ∧ fs.length < 100 ∧
      wpSs T Γ r De σ (mset M p (.ins C (putN x v fs)))) : wpSs T Γ (.setF a x e :: r) De σ M := h
theorem i_val {Q : Kb} (h : wpE T Γ E e σ M fun x σ M => ∃ b, truth (vw σ M (pk x)) = some b ∧ Q b σ M) : wpT T Γ E (.val e) σ M Q := h
theorem i_not {t : CT} {Q : Kb} (h : wpT T Γ E t σ M fun b σ M => Q (!b) σ M) : wpT T Γ E (.not t) σ M Q := h
theorem i_and {t u : CT} {Q : Kb} (h : wpT T Γ E t σ M fun c σ M => if c = true then wpT T Γ E u σ M Q else Q false σ M) : wpT T Γ E (.and t u) σ M Q := h
theorem i_or {t u : CT} {Q : Kb} (h : wpT T Γ E t σ M fun c σ M => if c = true then Q true σ M else wpT T Γ E u σ M Q) : wpT T Γ E (.or t u) σ M Q := h
theorem i_cmp {op : Cop} (h : wpE T Γ E a σ M fun x σ M => wpE T Γ E b σ M fun y σ M => ∃ r, opCmp op (vw σ M (pk x)) (vw σ M (pk y)) = some r ∧ Q (.bl r) σ M) : wpE T Γ E (.cmp op a b) σ M Q := h
theorem i_bin {op : Bop} (h : wpE T Γ E a σ M fun x σ M => wpE T Γ E b σ M fun y σ M => ∃ r, opBin op (vw σ M (pk x)) (vw σ M (pk y)) = some r ∧ Q r σ M) : wpE T Γ E (.bin op a b) σ M Q := h
theorem i_idx (h : wpE T Γ E a σ M fun x σ M => wpE T Γ E b σ M fun y σ M => ∃ r, opIdx (vw σ M (pk x)) (pk y) = some r ∧ Q r σ M) : wpE T Γ E (.idx a b) σ M Q := h
theorem i_andE (h : wpE T Γ E a σ M fun x σ M => ∃ c, x = .bl c ∧ (if c = true then wpE T Γ E b σ M Q else Q (.bl false) σ M)) : wpE T Γ E (.andE a b) σ M Q := h
theorem i_orE (h : wpE T Γ E a σ M fun x σ M => ∃ c, x = .bl c ∧ (if c = true then Q (.bl true) σ M else wpE T Γ E b σ M Q)) : wpE T Γ E (.orE a b) σ M Q := h
theorem i_tup (h : wpL T Γ E es σ M fun xs σ M => xs.length ≤ SZ ∧ Q (.tup xs) σ M) : wpE T Γ E (.tup es) σ M Q := h
theorem i_lst (h : wpL T Γ E es σ M fun xs σ M => xs.length ≤ SZ ∧ Q (.ol xs) σ M) : wpE T Γ E (.lst es) σ M Q := h
theorem i_L {Q : Kl} (h : wpE T Γ E e σ M fun x σ M => frz x σ M fun x σ M => wpL T Γ E es σ M fun xs σ M => Q (x :: xs) σ M) : wpL T Γ E (e :: es) σ M Q := h
theorem i_A {Q : Kl} (h : wpE T Γ E e σ M fun x σ M => (if bx.headD false = true then boxd else frz) x σ M fun x σ M => wpA T Γ E bx.tail es σ M fun xs σ M => Q (x :: xs) σ M) : wpA T Γ E bx (e :: es) σ M Q := h
theorem i_A0 {Q : Kl} (h : wpE T Γ E e σ M fun x σ M => frz x σ M fun x σ M => wpA T Γ E [] es σ M fun xs σ M => Q (x :: xs) σ M) : wpA T Γ E [] (e :: es) σ M Q := h
theorem i_A1 {Q : Kl} (h : wpE T Γ E e σ M fun x σ M => boxd x σ M fun x σ M => wpA T Γ E bx es σ M fun xs σ M => Q (x :: xs) σ M) : wpA T Γ E (true :: bx) (e :: es) σ M Q := h
theorem i_V {Q : Kl} (h : wpE T Γ E e σ M fun x σ M => wpV T Γ E es σ M fun xs σ M => Q (pk x :: xs) σ M) : wpV T Γ E (e :: es) σ M Q := h
theorem i_bc {f : Bf} (h : wpV T Γ E es σ M fun xs σ M => ∃ r, opB f (xs.map (vw σ M)) = some r ∧ Q r σ M) : wpE T Γ E (.bc f es) σ M Q := h
theorem i_call (h : wpA T Γ E bx es σ M fun ds σ M => Γ f ds M (fun d M' => Q d σ M') fun x M' => E x σ M') : wpE T Γ E (.call f bx es) σ M Q := h
theorem i_new (h : wpA T Γ E bx es σ M fun ds σ M => (match T.inits.lookup C with
      | some f => ∀ p, M p = none → Γ f (.ref p :: ds) (mset M p (.ins C [])) (fun d M' => d = .non ∧ Q (.ref p) σ M') fun x M' => E x σ M'
      | none => False)) : wpE T Γ E (.new C bx es) σ M Q := h
theorem i_mth (h : wpE T Γ E o σ M fun x σ M => ∃ p fs f, x = .ref p ∧ M p = some (.ins C fs) ∧ fs.lookup m = none ∧ T.meths.lookup (C, m) = some f ∧
      wpA T Γ E bx es σ M fun ds σ M => Γ f (.ref p :: ds) M (fun d M' => Q d σ M') fun x M' => E x σ M') : wpE T Γ E (.mth C m o bx es) σ M Q := h
theorem i_chain {o1 o2 : Cop} (h : wpE T Γ E a σ M fun x σ M => wpE T Γ E b σ M fun y σ M => ∃ i j r, x = .int i ∧ y = .int j ∧ opCmp o1 x y = some r ∧
      (if r = true then wpE T Γ E c σ M fun z σ M => ∃ r, opCmp o2 y (vw σ M (pk z)) = some r ∧ Q (.bl r) σ M else Q (.bl false) σ M)) : wpE T Γ E (.chain o1 o2 a b c) σ M Q := h
theorem i_tin {n : Bool} {g : Nat} (h : wpE T Γ E a σ M fun x σ M => ∃ s kvs, x = .str s ∧ T.tabs[g]? = some kvs ∧ Q (.bl ((kvs.lookup s).isSome != n)) σ M) : wpE T Γ E (.tin n a g) σ M Q := h
theorem i_tix {g : Nat} (h : wpE T Γ E a σ M fun x σ M => ∃ s kvs d, x = .str s ∧ T.tabs[g]? = some kvs ∧ kvs.lookup s = some d ∧ Q d σ M) : wpE T Γ E (.tix g a) σ M Q := h
theorem i_mm {mm : Mm} (h : wpE T Γ E o σ M fun x σ M => mmT mm x (vw σ M x) = true ∧ wpL T Γ E es σ M fun ys σ M => change x (fun o => opX mm o ys) σ M Q) : wpE T Γ E (.mm mm o es) σ M Q := h
/-- a pure part -/
theorem w_ev {d : D} (h : ev T (fun _ _ _ => none) e σ M = some d) (q : Q d σ M) : wpE T Γ E e σ M Q := ev_ok pure0 e h q
/-- a call without boxes -/
theorem w_call {ds : List D} (h : evL T (fun _ _ _ => none) es σ M = some ds) (q : Γ f ds M (fun d M' => Q d σ M') fun x M' => E x σ M') : wpE T Γ E (.call f [] es) σ M Q := evA_ok pure0 es h q
theorem w_var {d : D} (h : σ[i]? = some (some d)) (ho : d.own = false) (q : Q d σ M) : wpE T Γ E (.var i) σ M Q := w_ev (ev_var h ho) q
theorem frz_of {d : D} (h : ∀ i, d ≠ .slot i) (ho : d.own = false) (q : Q d σ M) : frz d σ M Q := frzP_ok (frzP_of h ho) q
theorem kAsg_v {d : D} (h : ∀ i, d ≠ .slot i) (ho : d.own = false) (q : De.nx (σ.set i (some d)) M) : kAsg i De d σ M := by
  cases d <;> first | exact q | (cases ho; done) | exact absurd rfl (h _)
theorem handed_v {d : D} {Q : D → Mem → Prop} (h : ∀ i, d ≠ .slot i) (q : Q d M) : handed d σ M Q := by
  cases d <;> first | exact q | exact absurd rfl (h _)
/-- a pure item -/
theorem L_ev {d d' : D} {Q : Kl} (h : ev T (fun _ _ _ => none) e σ M = some d) (hf : frzP d = some d') (q : wpL T Γ E es σ M fun xs σ M => Q (d' :: xs) σ M) : wpL T Γ E (e :: es) σ M Q := i_L (w_ev h (frzP_ok hf q))
theorem A_ev {d d' : D} {Q : Kl} (h : ev T (fun _ _ _ => none) e σ M = some d) (hf : frzP d = some d') (q : wpA T Γ E [] es σ M fun xs σ M => Q (d' :: xs) σ M) : wpA T Γ E [] (e :: es) σ M Q := i_A (w_ev h (frzP_ok (Q := fun x σ M => wpA T Γ E [] es σ M fun xs σ M => Q (x :: xs) σ M) hf q))
theorem V_ev {d : D} {Q : Kl} (h : ev T (fun _ _ _ => none) e σ M = some d) (q : wpV T Γ E es σ M fun xs σ M => Q (pk d :: xs) σ M) : wpV T Γ E (e :: es) σ M Q := i_V (w_ev h q)
theorem L_nil {Q : Kl} (q : Q [] σ M) : wpL T Γ E [] σ M Q := q
theorem boxd_v {d : D} (h : ∀ i, d ≠ .slot i) (ho : d.own = false) (q : Q d σ M) : boxd d σ M Q := by
  cases d <;> first | exact q | (cases ho; done) | exact absurd rfl (h _)
theorem go_f {P R : Prop} (h : R) : if false = true then P else R := h
theorem go_t {P R : Prop} (h : P) : if true = true then P else R := h
theorem go_skip {P : Prop} (h : wpSs T Γ r De σ M) : if false = true then P else wpSs T Γ [] (nxt T Γ r De) σ M := h
theorem st_ifT {t : CT} {Φ : Phi} (hΦ : PureIn Φ Γ) (h : evT T Φ t σ M = some true) (q : wpSs T Γ as (nxt T Γ r De) σ M) : wpSs T Γ (.ifS t as bs :: r) De σ M := st_if hΦ h q
theorem st_ifF {t : CT} {Φ : Phi} (hΦ : PureIn Φ Γ) (h : evT T Φ t σ M = some false) (q : wpSs T Γ r De σ M) : wpSs T Γ (.ifS t as [] :: r) De σ M := st_if hΦ h q
theorem st_ifE {t : CT} {Φ : Phi} (hΦ : PureIn Φ Γ) (h : evT T Φ t σ M = some false) (q : wpSs T Γ bs (nxt T Γ r De) σ M) : wpSs T Γ (.ifS t as bs :: r) De σ M := st_if hΦ h q
end
end Pv

/-! E22: expressions that give a text and change nothing. -/
namespace Pv
open PySem PySem.Spec PyProof.Rows L2
section
variable {T : Tab} {Γ : FSem} {σ : St} {M : Mem} {De : EndsD} {r as bs : List CS} {a b e : CE} {es : List CE} {x y : List Nat}
def SE (T : Tab) (Γ : FSem) (e : CE) (σ : St) (M : Mem) (x : List Nat) : Prop := ∀ (E : Kx) (Q : Kt), Q (.str x) σ M → wpE T Γ E e σ M Q
theorem SE.ev (h : ev T (fun _ _ _ => none) e σ M = some (.str x)) : SE T Γ e σ M x := fun E Q q => w_ev h q
theorem SE.con : SE T Γ (.con (.str x)) σ M x := fun E Q q => q
theorem SE.add (h1 : SE T Γ a σ M x) (h2 : SE T Γ b σ M y) (hz : x.length + y.length ≤ 16777216) : SE T Γ (.bin .add a b) σ M (x ++ y) := fun E Q q =>
  i_bin (h1 _ _ (h2 _ _ ⟨_, add_str hz, q⟩))
theorem SE.call {f : Nat} {ds : List D} (h : evL T (fun _ _ _ => none) es σ M = some ds) (hc : ∀ (Q : D → Mem → Prop) (E : Exn → Mem → Prop), Q (.str x) M → Γ f ds M Q E) : SE T Γ (.call f [] es) σ M x := fun E Q q =>
  w_call h (hc _ _ q)
theorem SE.ret (h : SE T Γ e σ M x) (q : De.rt (.str x) M) : wpSs T Γ (.ret e :: r) De σ M := i_ret (h _ _ q)
theorem SE.asg {i : Nat} (h : SE T Γ e σ M x) (q : wpSs T Γ r De (σ.set i (some (.str x))) M) : wpSs T Γ (.asg i e :: r) De σ M := i_asg (h _ _ q)
/-- .. if the text is not too long -/
def SL (T : Tab) (Γ : FSem) (e : CE) (σ : St) (M : Mem) (x : List Nat) : Prop := x.length ≤ 100000 → SE T Γ e σ M x
theorem SL.ev (h : ev T (fun _ _ _ => none) e σ M = some (.str x)) : SL T Γ e σ M x := fun _ => .ev h
theorem SL.con : SL T Γ (.con (.str x)) σ M x := fun _ => .con
theorem SL.add (h1 : SL T Γ a σ M x) (h2 : SL T Γ b σ M y) : SL T Γ (.bin .add a b) σ M (x ++ y) := fun h => by
  rw [List.length_append] at h
  exact .add (h1 (by omega)) (h2 (by omega)) (by omega)
theorem SL.call {f : Nat} {ds : List D} (h : evL T (fun _ _ _ => none) es σ M = some ds) (hc : x.length ≤ 100000 → ∀ (M : Mem) (Q : D → Mem → Prop) (E : Exn → Mem → Prop), Q (.str x) M → Γ f ds M Q E) : SL T Γ (.call f [] es) σ M x := fun hl => .call h (hc hl M)
theorem SL.ret (h : SL T Γ e σ M x) (he : x = y) (hl : y.length ≤ 100000) (q : De.rt (.str y) M) : wpSs T Γ (.ret e :: r) De σ M := by
  subst he
  exact (h hl).ret q
theorem SL.asg {i : Nat} (h : SL T Γ e σ M x) (he : x = y) (hl : y.length ≤ 100000) (q : wpSs T Γ r De (σ.set i (some (.str y))) M) : wpSs T Γ (.asg i e :: r) De σ M := by
  subst he
  exact (h hl).asg q
theorem L_SE {E : Kx} {Q : Kl} (h : SE T Γ e σ M x) (q : wpL T Γ E es σ M fun xs σ M => Q (.str x :: xs) σ M) : wpL T Γ E (e :: es) σ M Q := i_L (h _ _ q)
/-- tests of a tuple's head -/
theorem evT_hEq {Φ : Phi} {i : Nat} {t c : List Nat} {ds : List D} {v : Bool} (h : σ[i]? = some (some (.tup (.str t :: ds)))) (ht : asc t = true) (hc : asc c = true) (hb : decide (t = c) = v) : evT T Φ (.val (.cmp .eq (.idx (.var i) (.con (.int 0))) (.con (.str c)))) σ M = some v :=
  evT_bl (ev_cmp (x := .str t) (y := .str c) (ev_idx (x := .tup (.str t :: ds)) (y := .int 0) (ev_var h rfl) rfl (by show L2.atI (D.str t :: ds) ((0 : Nat) : Int) = _; rw [atI_nat]; rfl)) rfl (by show opCmp .eq (.str t) (.str c) = _; rw [eq_str ht hc, hb]))
theorem evT_hIn {Φ : Phi} {i : Nat} {t : List Nat} {ds : List D} {l : List (List Nat)} {v : Bool} (h : σ[i]? = some (some (.tup (.str t :: ds)))) (he : ev T Φ e σ M = some (.tup (l.map .str))) (hb : decide (t ∈ l) = v) : evT T Φ (.val (.cmp .isIn (.idx (.var i) (.con (.int 0))) e)) σ M = some v :=
  evT_bl (ev_cmp (x := .str t) (y := .tup (l.map .str)) (ev_idx (x := .tup (.str t :: ds)) (y := .int 0) (ev_var h rfl) rfl (by show L2.atI (D.str t :: ds) ((0 : Nat) : Int) = _; rw [atI_nat]; rfl)) he (by show opIn (.str t) (.tup (l.map .str)) = _; rw [in_strs, hb]))
theorem mapM_str (l : List (List Nat)) : (l.map D.str).mapM strOf? = some l := by
  induction l with
  | nil => rfl
  | cons n l ih =>
    rw [List.map_cons, List.mapM_cons, ih]
    rfl
theorem join_ok {s : List Nat} {l : List (List Nat)} (h : (l.map (·.length)).sum + l.length * s.length ≤ 16777216) : opM .join (.str s) [.lst (l.map .str)] = some (.str (joinL s l)) := by
  show ((l.map D.str).mapM strOf?).bind _ = _
  rw [mapM_str]
  show (if _ ≤ SZ then _ else none) = _
  rw [if_pos h]
/-- s.join([..]), six parts -/
theorem SL.join6 {s x1 x2 x3 x4 x5 x6 : List Nat} {e1 e2 e3 e4 e5 e6 : CE} (h1 : SL T Γ e1 σ M x1) (h2 : SL T Γ e2 σ M x2) (h3 : SL T Γ e3 σ M x3) (h4 : SL T Γ e4 σ M x4) (h5 : SL T Γ e5 σ M x5) (h6 : SL T Γ e6 σ M x6) : SL T Γ (.bm .join (.con (.str s)) [(.lst [e1, e2, e3, e4, e5, e6])]) σ M (joinL s [x1, x2, x3, x4, x5, x6]) := fun hl E Q q => by
  have hl : (x1 ++ s ++ (x2 ++ s ++ (x3 ++ s ++ (x4 ++ s ++ (x5 ++ s ++ x6))))).length ≤ 100000 := hl
  simp only [List.length_append] at hl
  have h1 := h1 (by omega)
  have h2 := h2 (by omega)
  have h3 := h3 (by omega)
  have h4 := h4 (by omega)
  have h5 := h5 (by omega)
  have h6 := h6 (by omega)
  have go : wpV T Γ E [(.lst [e1, e2, e3, e4, e5, e6])] σ M fun ys σ M => ∃ r, opM .join (.str s) (ys.map (vw σ M)) = some r ∧ Q r σ M := by
    refine i_V (i_lst (L_SE h1 (L_SE h2 (L_SE h3 (L_SE h4 (L_SE h5 (L_SE h6 (L_nil ?_))))))))
    refine ⟨by show 6 ≤ 16777216; decide, .str (joinL s [x1, x2, x3, x4, x5, x6]), ?_, q⟩
    refine join_ok (l := [x1, x2, x3, x4, x5, x6]) ?_
    simp only [List.map_cons, List.map_nil, List.sum_cons, List.sum_nil, List.length_cons, List.length_nil]
    omega
  exact ⟨rfl, go⟩
theorem i_bm {E : Kx} {Q : Kt} {m : Bm} {o : CE} (h : wpE T Γ E o σ M fun x σ M => bmT m (vw σ M (pk x)) = true ∧ wpV T Γ E es σ M fun ys σ M => ∃ r, opM m (vw σ M (pk x)) (ys.map (vw σ M)) = some r ∧ Q r σ M) : wpE T Γ E (.bm m o es) σ M Q := h
end
end Pv

/-! E23: what all laws bring along: _law_same, _law_number, _law_draws. -/
namespace Pv
open PySem PySem.Spec PyProof.Rows L2
abbrev di (n : Nat) : D := .int n
def sameB (F : Nat) : List CS := [
  .ifS (.or (.val (.bc .isBool [(.var 1)])) (.val (.bc .isBool [(.var 0)]))) [.ret (.andE (.bc .isBool [(.var 1)]) (.andE (.bc .isBool [(.var 0)]) (.cmp .eq (.var 0) (.var 1))))] [],
  .ifS (.or (.val (.isN false (.var 1))) (.val (.bc .isInt [(.var 1)]))) [.ret (.andE (.cmp .eq (.var 0) (.var 1)) (.orE (.isN false (.var 1)) (.bc .isInt [(.var 0)])))] [],
  .ifS (.val (.bc .isStr [(.var 1)])) [.ret (.andE (.bc .isStr [(.var 0)]) (.cmp .eq (.var 0) (.var 1)))] [],
  .ifS (.or (.val (.cmp .ne (.bc .isList [(.var 1)]) (.bc .isList [(.var 0)]))) (.val (.cmp .ne (.bc .isTuple [(.var 1)]) (.bc .isTuple [(.var 0)])))) [.ret (.con (.bl false))] [],
  .ifS (.val (.cmp .ne (.bc .len [(.var 0)]) (.bc .len [(.var 1)]))) [.ret (.con (.bl false))] [],
  .forR (.n 2) none (.bc .len [(.var 1)]) [.ifS (.not (.val (.call F [] [(.idx (.var 0) (.var 2)), (.idx (.var 1) (.var 2))]))) [.ret (.con (.bl false))] []],
  .ret (.con (.bl true))]
def numberB : List CS := [
  .asg 2 (.bin .add (.bin .mul (.bc .sum [(.var 0)]) (.con (.int 31))) (.bin .mul (.con (.int 1000003)) (.bin .add (.var 1) (.con (.int 1))))),
  .ifS (.val (.cmp .lt (.var 1) (.bc .len [(.var 0)]))) [.asg 2 (.idx (.var 0) (.var 1))] [],
  .ret (.bc .abs [(.var 2)])]
def drawsB (F : Nat) : List CS := [
  .asg 4 (.call F [] [(.var 0), (.var 1)]),
  .asg 5 (.lst []),
  .ifS (.val (.cmp .ge (.var 4) (.bin .pow (.con (.int 10)) (.con (.int 18))))) [.asg 4 (.bin .sub (.var 4) (.bin .pow (.con (.int 10)) (.con (.int 18)))), .forR (.n 7) none (.var 2) [.ex (.mm .append (.var 5) [(.bin .mod (.var 4) (.var 3))]), .asg 4 (.bin .fdiv (.var 4) (.var 3))], .ret (.var 5)] [],
  .asg 6 (.bin .add (.bin .mod (.var 4) (.con (.int 2147483647))) (.con (.int 1))),
  .forR (.n 7) none (.var 2) [.asg 6 (.bin .mod (.bin .add (.bin .add (.bin .mul (.var 6) (.con (.int 48271))) (.bin .mul (.con (.int 11)) (.var 7))) (.con (.int 7))) (.con (.int 2147483647))), .asg 8 (.bin .mod (.bin .add (.bin .add (.bin .mul (.var 6) (.var 6)) (.bin .mul (.con (.int 69621)) (.var 7))) (.con (.int 5))) (.con (.int 2147483629))), .ex (.mm .append (.var 5) [(.bin .mod (.bin .fdiv (.var 8) (.con (.int 64))) (.var 3))])],
  .ret (.var 5)]
section
variable {T : Tab} {k : Nat} {M : Mem} {Q : D → Mem → Prop} {E : Exn → Mem → Prop}
/-- data at most n deep -/
def smD : Nat → D → Bool
  | 0, _ => false
  | _ + 1, .non => true
  | _ + 1, .bl _ => true
  | _ + 1, .int _ => true
  | _ + 1, .str x => asc x
  | n + 1, .tup xs => xs.all (smD n) && decide (xs.length ≤ SZ)
  | n + 1, .lst xs => xs.all (smD n) && decide (xs.length ≤ SZ)
  | _ + 1, _ => false
theorem smD_own {n : Nat} {d : D} (h : smD n d = true) : d.own = false ∧ (∀ i, d ≠ .slot i) ∧ (∀ a, d ≠ .ref a) := by
  cases n with
  | zero => cases h
  | succ n => cases d <;> first | (cases h; done) | exact ⟨rfl, fun i z => (nomatch z), fun a z => nomatch z⟩
theorem c_same_leaf {F : Nat} {d : D} (hF : T.defs[F]? = some ⟨2, 3, sameB F⟩) (h : d = .non ∨ (∃ b, d = .bl b) ∨ (∃ i, d = .int i)) (q : Q (.bl true) M) : Gam T (k + 1) F [d, d] M Q E := by
  refine ⟨_, hF, rfl, ?_⟩
  show wpSs T _ (sameB F) _ [some d, some d, none] M
  unfold sameB
  rcases h with rfl | ⟨b, rfl⟩ | ⟨i, rfl⟩
  · refine st_if (b := false) pure0 rfl ?_
    refine st_if (b := true) pure0 rfl ?_
    exact st_ret (d := .bl true) (d' := .bl true) pure0 (by rfl) rfl (gc.here q)
  · refine st_if (b := true) pure0 rfl ?_
    refine st_ret (d := .bl true) (d' := .bl true) pure0 ?_ rfl (gc.here q)
    cases b <;> rfl
  · refine st_if (b := false) pure0 rfl ?_
    refine st_if (b := true) pure0 rfl ?_
    refine st_ret (d := .bl true) (d' := .bl true) pure0 ?_ rfl (gc.here q)
    show (ev T _ (.cmp .eq (.var 0) (.var 1)) _ M).bind _ = _
    rw [ev_cmp (x := .int i) (y := .int i) rfl rfl (eqI i)]
    rfl
theorem c_same_str {F : Nat} {x : List Nat} (hF : T.defs[F]? = some ⟨2, 3, sameB F⟩) (h : asc x = true) (q : Q (.bl true) M) : Gam T (k + 1) F [.str x, .str x] M Q E := by
  refine ⟨_, hF, rfl, ?_⟩
  show wpSs T _ (sameB F) _ [some (.str x), some (.str x), none] M
  unfold sameB
  refine st_ifF pure0 rfl ?_
  refine st_ifF pure0 rfl ?_
  refine st_ifT pure0 rfl ?_
  refine st_ret (d := .bl true) (d' := .bl true) pure0 ?_ rfl (gc.here q)
  exact ev_and (x := true) (y := true) rfl fun _ => ev_cmp (x := .str x) (y := .str x) rfl rfl (by show opCmp .eq (.str x) (.str x) = _; rw [eq_str h h, decide_eq_true rfl])
theorem c_same_seq {F n : Nat} {d : D} {xs : List D} (hF : T.defs[F]? = some ⟨2, 3, sameB F⟩) (hd : d = .tup xs ∨ d = .lst xs) (hz : xs.length ≤ SZ) (hx : ∀ x ∈ xs, smD n x = true) (ih : ∀ x, smD n x = true → ∀ M Q E, Q (.bl true) M → Gam T (k + n) F [x, x] M Q E) (q : Q (.bl true) M) : Gam T (k + (n + 1)) F [d, d] M Q E := by
  refine ⟨_, hF, rfl, ?_⟩
  show wpSs T (Gam T (k + n)) (sameB F) _ [some d, some d, none] M
  unfold sameB
  have hl : ∀ σ : St, σ[1]? = some (some d) → ev T (fun _ _ _ => none) (.bc .len [(.var 1)]) σ M = some (.int xs.length) := fun σ h => by
    rcases hd with rfl | rfl <;> exact ev_len (ev_var h rfl) rfl
  have hix : ∀ (Φ : Phi) (σ : St) (j i : Nat) (hi : i < xs.length), σ[j]? = some (some d) → σ[2]? = some (some (.int i)) → ev T Φ (.idx (.var j) (.var 2)) σ M = some xs[i] := fun Φ σ j i hi hj h2 => by
    have e : L2.atI xs (i : Int) = some xs[i] := by rw [atI_nat, List.getElem?_eq_getElem hi]
    rcases hd with rfl | rfl <;> exact ev_idx (ev_var hj rfl) (ev_var h2 rfl) e
  refine st_if (b := false) pure0 (by rcases hd with rfl | rfl <;> rfl) ?_
  refine st_if (b := false) pure0 (by rcases hd with rfl | rfl <;> rfl) ?_
  refine st_if (b := false) pure0 (by rcases hd with rfl | rfl <;> rfl) ?_
  refine st_if (b := false) pure0 (by rcases hd with rfl | rfl <;> rfl) ?_
  refine st_if (b := false) pure0 (evT_bl (ev_cmp (x := .int xs.length) (y := .int xs.length) (by rcases hd with rfl | rfl <;> rfl) (hl _ rfl) (by show opCmp .ne (.int xs.length) (.int xs.length) = some false; rw [neIB]; simp))) ?_
  show wpSs T _ _ _ [some d, some d, none] M
  refine st_forN (n := xs.length) (fun i σ' => ∃ x, σ' = [some d, some d, x]) pure0 (hl _ rfl) hz ⟨none, rfl⟩ ?_ ?_
  · rintro i σ' kc hi ⟨x, rfl⟩ hk
    refine ⟨_, rfl, ?_⟩
    show wpSs T _ _ _ [some d, some d, some (.int i)] M
    have hxi := hx _ (List.getElem_mem hi)
    obtain ⟨o1, o2, o3⟩ := smD_own hxi
    have f := frzP_of o2 o1
    refine st_if (b := false) (pureS1 (f := F) (ds := [xs[i], xs[i]]) (r := .bl true) fun M Q E q => ih _ hxi M Q E q) (evT_not (b := true) (evT_bl (ev_call (ds := [xs[i], xs[i]]) (evL_2 (hix _ _ 0 i hi rfl rfl) f (evL_1 (hix _ _ 1 i hi rfl rfl) f)) phiS_one))) ?_
    exact hk _ ⟨_, rfl⟩
  · rintro σ' ⟨x, rfl⟩
    exact st_ret (d := .bl true) (d' := .bl true) pure0 rfl rfl (gc.here q)
theorem c_same {F : Nat} (hF : T.defs[F]? = some ⟨2, 3, sameB F⟩) : ∀ (n : Nat) (d : D), smD n d = true → ∀ M Q E, Q (.bl true) M → Gam T (k + n) F [d, d] M Q E
  | 0, d, h, M, Q, E, q => nomatch h
  | n + 1, .non, h, M, Q, E, q => c_same_leaf hF (k := k + n) (.inl rfl) q
  | n + 1, .bl b, h, M, Q, E, q => c_same_leaf hF (k := k + n) (.inr (.inl ⟨b, rfl⟩)) q
  | n + 1, .int i, h, M, Q, E, q => c_same_leaf hF (k := k + n) (.inr (.inr ⟨i, rfl⟩)) q
  | n + 1, .str x, h, M, Q, E, q => c_same_str (k := k + n) hF h q
  | n + 1, .tup xs, h, M, Q, E, q => by
    have h : (xs.all (smD n) && decide (xs.length ≤ SZ)) = true := h
    rw [Bool.and_eq_true, List.all_eq_true, decide_eq_true_iff] at h
    exact c_same_seq hF (.inl rfl) h.2 h.1 (c_same hF n) q
  | n + 1, .lst xs, h, M, Q, E, q => by
    have h : (xs.all (smD n) && decide (xs.length ≤ SZ)) = true := h
    rw [Bool.and_eq_true, List.all_eq_true, decide_eq_true_iff] at h
    exact c_same_seq hF (.inr rfl) h.2 h.1 (c_same hF n) q
  | n + 1, .dct _, h, M, Q, E, q => nomatch h
  | n + 1, .ref _, h, M, Q, E, q => nomatch h
  | n + 1, .slot _, h, M, Q, E, q => nomatch h
  | n + 1, .ol _, h, M, Q, E, q => nomatch h
  | n + 1, .od _, h, M, Q, E, q => nomatch h
theorem c_law_number {F : Nat} {ns : List Int} {j : Nat} (hF : T.defs[F]? = some ⟨2, 3, numberB⟩) (hj : j < 2 ^ 30) (hn : ns.length ≤ 100000) (q : ∀ n : Nat, Q (.int n) M) : Gam T (k + 1) F [.lst (ns.map D.int), .int j] M Q E := by
  refine ⟨_, hF, rfl, ?_⟩
  show wpSs T _ numberB _ [some (.lst (ns.map D.int)), some (.int j), none] M
  unfold numberB
  refine st_asg (d := .int (ns.sum * 31 + 1000003 * ((j : Int) + 1))) pure0 ?_ rfl ?_
  · refine ev_bin (x := .int (ns.sum * 31)) (y := .int (1000003 * ((j : Int) + 1))) (ev_bin (x := .int ns.sum) (y := .int 31) ?_ rfl ?_) (ev_bin (x := .int 1000003) (y := .int ((j : Int) + 1)) rfl rfl ?_) rfl
    · show ((ev T _ (.var 0) _ M).bind fun x => (some []).map fun xs => pk x :: xs).bind _ = _
      show bSum (.lst (ns.map D.int)) = _
      show (((ns.map D.int).mapM intOf).map fun ns => D.int ns.sum) = _
      rw [mapM_int]; rfl
    · show (if mulOk ns.sum 31 = true then some (D.int (ns.sum * 31)) else none) = _
      rw [if_pos]
      unfold mulOk
      rw [Bool.or_eq_true]
      right; decide
    · show (if mulOk 1000003 ((j : Int) + 1) = true then some (D.int (1000003 * ((j : Int) + 1))) else none) = _
      rw [if_pos]
      unfold mulOk
      rw [Bool.or_eq_true]
      left; decide
  show wpSs T _ _ _ [some (.lst (ns.map D.int)), some (.int j), some (.int (ns.sum * 31 + 1000003 * ((j : Int) + 1)))] M
  refine st_if (b := decide (j < ns.length)) pure0 (evT_bl (ev_cmp (x := .int j) (y := .int ns.length) rfl (ev_len (d := .lst (ns.map D.int)) rfl (by
    show some (D.int (ns.map D.int).length) = _
    rw [List.length_map])) (by
    show some (decide ((j : Int) < (ns.length : Int))) = _
    congr 1
    exact decide_eq_decide.mpr (by omega)))) ?_
  have fin : ∀ i : Int, wpSs T (Gam T k) [.ret (.bc .abs [(.var 2)])] { nx := fun σ M => gc Q .non M, rt := gc Q, ct := fun σ M => False, bk := fun σ M => False, ex := fun x σ M => E x M } [some (.lst (ns.map D.int)), some (.int j), some (.int i)] M := fun i => by
    exact st_ret (d := .int i.natAbs) (d' := .int i.natAbs) pure0 rfl rfl (gc.here (q i.natAbs))
  by_cases h : j < ns.length
  · rw [decide_eq_true h]
    refine st_asg (d := .int ns[j]) pure0 (ev_idx (x := .lst (ns.map D.int)) (y := .int j) rfl rfl ?_) rfl ?_
    · show L2.atI (ns.map D.int) (j : Int) = _
      rw [atI_natM, List.getElem?_eq_getElem h]; rfl
    · exact fin _
  · rw [decide_eq_false h]
    exact fin _
theorem c_law_draws {F G : Nat} {ns : List Int} {j count many : Nat} (hF : T.defs[F]? = some ⟨2, 3, numberB⟩) (hG : T.defs[G]? = some ⟨4, 9, drawsB F⟩) (hj : j < 2 ^ 30) (hn : ns.length ≤ 100000) (hc : count ≤ 100000) (hm : 0 < many) (hm2 : many < 1073741824) (q : ∀ l : List Nat, l.length = count → (∀ x ∈ l, x < many) → Q (.ol (l.map di)) M) :
    Gam T (k + 2) G [.lst (ns.map D.int), .int j, .int count, .int many] M Q E := by
  refine ⟨_, hG, rfl, ?_⟩
  show wpSs T _ (drawsB F) _ [some (.lst (ns.map D.int)), some (.int j), some (.int count), some (.int many), none, none, none, none, none] M
  unfold drawsB
  generalize hs : D.lst (ns.map D.int) = sc
  refine st_call (ds := [.lst (ns.map D.int), .int j]) pure0 (by subst hs; rfl) (c_law_number hF hj hn fun n => ?_)
  show wpSs T _ _ _ [some sc, some (.int j), some (.int count), some (.int many), some (.int n), none, none, none, none] M
  refine st_asg (d := .ol []) pure0 rfl rfl ?_
  show wpSs T _ _ _ [some sc, some (.int j), some (.int count), some (.int many), some (.int n), some (.ol []), none, none, none] M
  refine st_if (b := decide ((10 : Int) ^ 18 ≤ (n : Int))) pure0 (evT_bl (ev_cmp (x := .int n) (y := .int (10 ^ 18)) rfl (ev_bin (x := .int 10) (y := .int 18) rfl rfl rfl) rfl)) ?_
  by_cases hbig : (10 : Int) ^ 18 ≤ (n : Int)
  · rw [decide_eq_true hbig]
    refine st_asg (d := .int ((n : Int) - 10 ^ 18)) pure0 (ev_bin (x := .int n) (y := .int (10 ^ 18)) rfl (ev_bin (x := .int 10) (y := .int 18) rfl rfl rfl) rfl) rfl ?_
    show wpSs T _ _ _ [some sc, some (.int j), some (.int count), some (.int many), some (.int ((n : Int) - 10 ^ 18)), some (.ol []), none, none, none] M
    refine st_forN (n := count) (fun i σ' => ∃ (l : List Nat) (z : Int) (x : Option D), l.length = i ∧ (∀ x ∈ l, x < many) ∧ σ' = [some sc, some (.int j), some (.int count), some (.int many), some (.int z), some (.ol (l.map di)), none, x, none]) pure0 rfl (by show _ ≤ 16777216; omega) ⟨[], _, none, rfl, fun x h => (nomatch h), rfl⟩ ?_ ?_
    · rintro i σ' kc hi ⟨l, z, x, hl, hx, rfl⟩ hk
      refine ⟨_, rfl, ?_⟩
      show wpSs T _ _ _ [some sc, some (.int j), some (.int count), some (.int many), some (.int z), some (.ol (l.map di)), none, some (.int i), none] M
      obtain ⟨y, hy, ey⟩ := mod_nat (i := z) hm
      refine st_app (d := di y) (d' := di y) (xs := l.map di) pure0 rfl (ev_bin (x := .int z) (y := .int many) rfl rfl ?_) rfl (by rw [List.length_map]; show _ < 16777216; omega) ?_
      · show opBin .mod (.int z) (.int many) = _
        rw [mod_ok (by omega), ey]
      show wpSs T _ _ _ [some sc, some (.int j), some (.int count), some (.int many), some (.int z), some (.ol (l.map di ++ [di y])), none, some (.int i), none] M
      refine st_asg (d := .int (z / many)) pure0 (ev_bin (x := .int z) (y := .int many) rfl rfl (fdiv_ok (by omega) (by omega))) rfl ?_
      refine hk _ ⟨l ++ [y], _, _, ?_, ?_, by rw [List.map_append]; rfl⟩
      · rw [List.length_append, hl]; rfl
      · intro a ha
        rcases List.mem_append.mp ha with h | h
        · exact hx a h
        · rw [List.mem_singleton] at h; omega
    · rintro σ' ⟨l, z, x, hl, hx, rfl⟩
      exact st_ret (d := .slot 5) (d' := .ol (l.map di)) pure0 rfl rfl (gc.here (q l hl hx))
  · rw [decide_eq_false hbig]
    show wpSs T _ _ _ [some sc, some (.int j), some (.int count), some (.int many), some (.int n), some (.ol []), none, none, none] M
    refine st_asg (d := .int ((n : Int) % 2147483647 + 1)) pure0 (ev_bin (x := .int ((n : Int) % 2147483647)) (y := .int 1) (ev_bin (x := .int n) (y := .int 2147483647) rfl rfl rfl) rfl rfl) rfl ?_
    show wpSs T _ _ _ [some sc, some (.int j), some (.int count), some (.int many), some (.int n), some (.ol []), some (.int ((n : Int) % 2147483647 + 1)), none, none] M
    refine st_forN (n := count) (fun i σ' => ∃ (l : List Nat) (z : Int) (x y : Option D), l.length = i ∧ (∀ x ∈ l, x < many) ∧ 0 ≤ z ∧ z ≤ 2147483647 ∧ σ' = [some sc, some (.int j), some (.int count), some (.int many), some (.int n), some (.ol (l.map di)), some (.int z), x, y]) pure0 rfl (by show _ ≤ 16777216; omega) ⟨[], _, none, none, rfl, fun x h => (nomatch h), by omega, by omega, rfl⟩ ?_ ?_
    · rintro i σ' kc hi ⟨l, z, x, x2, hl, hx, hz, hz2, rfl⟩ hk
      refine ⟨_, rfl, ?_⟩
      show wpSs T _ _ _ [some sc, some (.int j), some (.int count), some (.int many), some (.int n), some (.ol (l.map di)), some (.int z), some (.int i), x2] M
      refine st_asg (d := .int ((z * 48271 + 11 * (i : Int) + 7) % 2147483647)) pure0 (ev_bin (x := .int (z * 48271 + 11 * (i : Int) + 7)) (y := .int 2147483647) (ev_bin (x := .int (z * 48271 + 11 * (i : Int))) (y := .int 7) (ev_bin (x := .int (z * 48271)) (y := .int (11 * (i : Int)))
        (ev_bin (x := .int z) (y := .int 48271) rfl rfl (mul_ok (by omega))) (ev_bin (x := .int 11) (y := .int i) rfl rfl (mul_ok (by decide))) rfl) rfl rfl) rfl (mod_ok (by decide))) rfl ?_
      generalize hz' : (z * 48271 + 11 * (i : Int) + 7) % 2147483647 = z'
      have b1 : 0 ≤ z' := by rw [← hz']; exact Int.emod_nonneg _ (by decide)
      have b2 : z' < 2147483647 := by rw [← hz']; exact Int.emod_lt_of_pos _ (by decide)
      show wpSs T _ _ _ [some sc, some (.int j), some (.int count), some (.int many), some (.int n), some (.ol (l.map di)), some (.int z'), some (.int i), x2] M
      refine st_asg (d := .int ((z' * z' + 69621 * (i : Int) + 5) % 2147483629)) pure0 (ev_bin (x := .int (z' * z' + 69621 * (i : Int) + 5)) (y := .int 2147483629) (ev_bin (x := .int (z' * z' + 69621 * (i : Int))) (y := .int 5) (ev_bin (x := .int (z' * z')) (y := .int (69621 * (i : Int)))
        (ev_bin (x := .int z') (y := .int z') rfl rfl (mul_ok (by omega))) (ev_bin (x := .int 69621) (y := .int i) rfl rfl (mul_ok (by decide))) rfl) rfl rfl) rfl (mod_ok (by decide))) rfl ?_
      generalize (z' * z' + 69621 * (i : Int) + 5) % 2147483629 = o
      show wpSs T _ _ _ [some sc, some (.int j), some (.int count), some (.int many), some (.int n), some (.ol (l.map di)), some (.int z'), some (.int i), some (.int o)] M
      obtain ⟨y, hy, ey⟩ := mod_nat (i := o / 64) hm
      refine st_app (d := di y) (d' := di y) (xs := l.map di) pure0 rfl (ev_bin (x := .int (o / 64)) (y := .int many) (ev_bin (x := .int o) (y := .int 64) rfl rfl (fdiv_ok (by decide) (by decide))) rfl ?_) rfl (by rw [List.length_map]; show _ < 16777216; omega) ?_
      · show opBin .mod (.int (o / 64)) (.int many) = _
        rw [mod_ok (by omega), ey]
      refine hk _ ⟨l ++ [y], z', _, _, ?_, ?_, b1, by omega, by rw [List.map_append]; rfl⟩
      · rw [List.length_append, hl]; rfl
      · intro a ha
        rcases List.mem_append.mp ha with h | h
        · exact hx a h
        · rw [List.mem_singleton] at h; omega
    · rintro σ' ⟨l, z, x, y, hl, hx, hz, hz2, rfl⟩
      exact st_ret (d := .slot 5) (d' := .ol (l.map di)) pure0 rfl rfl (gc.here (q l hl hx))
end
end Pv

/-! E24: for-loops in which the memory changes. -/
namespace Pv
open PySem PySem.Spec PyProof.Rows L2
section
variable {T : Tab} {Φ : Phi} {Γ : FSem} {σ : St} {M : Mem} {De : EndsD} {r : List CS} {α : Type}
theorem go_place {chk : Ks} {step : D → Ks → Ks} {fin : Ks} {l : List α} (enc : α → D) (J : Nat → St → Mem → Prop) (hc : ∀ σ M, chk σ M)
    (hs : ∀ i a σ' M' k, l[i]? = some a → J i σ' M' → (∀ σ'' M'', J (i + 1) σ'' M'' → k σ'' M'') → step (enc a) k σ' M') (hd : ∀ σ' M', J l.length σ' M' → fin σ' M') :
    ∀ (n i : Nat) (σ : St) (M : Mem), n = l.length - i → i ≤ l.length → J i σ M → goEach chk step fin ((l.drop i).map enc) σ M
  | 0, i, σ, M, hn, hi, hJ => by
    have e : i = l.length := by omega
    subst e
    rw [List.drop_length]
    exact ⟨hc _ _, hd _ _ hJ⟩
  | n + 1, i, σ, M, hn, hi, hJ => by
    have hlt : i < l.length := by omega
    rw [List.drop_eq_getElem_cons hlt, List.map_cons]
    exact ⟨hc _ _, hs i l[i] σ M _ (List.getElem?_eq_getElem hlt) hJ fun σ'' M'' h => go_place enc J hc hs hd n (i + 1) σ'' M'' (by omega) hlt h⟩
theorem st_forM {it : CE} {tg : Tg} {b : List CS} {d d' : D} {l : List α} (enc : α → D) (J : Nat → St → Mem → Prop) (hΦ : PureIn Φ Γ) (h : ev T Φ it σ M = some d) (hf : frzP d = some d') (hw : walk d' (vw σ M d') = some (l.map enc)) (hv : ∀ τ N, vw τ N d' = vw σ M d') (h0 : J 0 σ M)
    (hs : ∀ i a σ' M' k, l[i]? = some a → J i σ' M' → (∀ σ'' M'', J (i + 1) σ'' M'' → k σ'' M'') → ∃ τ, stoP tg (enc a) σ' = some τ ∧ wpSs T Γ b (loopE De k fun σ M => wpSs T Γ r De σ M) τ M') (hd : ∀ σ' M', J l.length σ' M' → wpSs T Γ r De σ' M') : wpSs T Γ (.for_ tg it b :: r) De σ M := by
  have go : wpE T Γ De.ex it σ M fun d σ M => frz d σ M fun d σ M => ∃ xs, walk d (vw σ M d) = some xs ∧
      goEach (fun τ N => vw τ N d = vw σ M d) (fun x k τ N => store tg x τ N fun τ N => wpSs T Γ b (loopE De k fun σ M => wpSs T Γ r De σ M) τ N) (fun σ M => wpSs T Γ r De σ M) xs σ M := by
    refine ev_ok hΦ it h (frzP_ok hf ?_)
    refine ⟨l.map enc, hw, ?_⟩
    exact go_place (l := l) enc J (fun τ N => hv τ N) (fun i a σ' M' k ha hJ hk => by
      obtain ⟨τ, h1, h2⟩ := hs i a σ' M' k ha hJ hk
      exact stoP_ok h1 h2) hd _ 0 σ M rfl (Nat.zero_le _) h0
  exact go
theorem st_forMS {tg : Tg} {b : List CS} {j : Nat} {l : List α} (enc : α → D) (J : Nat → St → Mem → Prop) (hj : σ[j]? = some (some (.ol (l.map enc)))) (h0 : J 0 (σ.set j (some (.lst (l.map enc)))) M)
    (hs : ∀ i a σ' M' k, l[i]? = some a → J i σ' M' → (∀ σ'' M'', J (i + 1) σ'' M'' → k σ'' M'') → ∃ τ, stoP tg (enc a) σ' = some τ ∧ wpSs T Γ b (loopE De k fun σ M => wpSs T Γ r De σ M) τ M') (hd : ∀ σ' M', J l.length σ' M' → wpSs T Γ r De σ' M') : wpSs T Γ (.for_ tg (.var j) b :: r) De σ M := by
  have go : wpE T Γ De.ex (.var j) σ M fun d σ M => frz d σ M fun d σ M => ∃ xs, walk d (vw σ M d) = some xs ∧
      goEach (fun τ N => vw τ N d = vw σ M d) (fun x k τ N => store tg x τ N fun τ N => wpSs T Γ b (loopE De k fun σ M => wpSs T Γ r De σ M) τ N) (fun σ M => wpSs T Γ r De σ M) xs σ M := by
    refine w_slot (b := .l (l.map enc)) hj rfl ?_
    have e : frz (.slot j) σ M = fun Q => Q (.lst (l.map enc)) (σ.set j (some (.lst (l.map enc)))) M := by
      funext Q
      unfold frz
      dsimp only
      rw [hj]
    rw [e]
    refine ⟨l.map enc, rfl, ?_⟩
    exact go_place (l := l) enc J (fun τ N => rfl) (fun i a σ' M' k ha hJ hk => by
      obtain ⟨τ, h1, h2⟩ := hs i a σ' M' k ha hJ hk
      exact stoP_ok h1 h2) hd _ 0 _ M rfl (Nat.zero_le _) h0
  exact go
end
end Pv

namespace Pv.G
open PySem PySem.Spec PyProof.Rows L2 Pv
def top (i : Nat) : Stmt := PySem.Challenge.pw_trueofwords_k00_texts_there_and_back.main.body.getD i (.Pass ⟨0, 0, 0, 0⟩)
def topD (i : Nat) (x : Str) : He.DefD := ⟨(x, none), x, x, defArgs (top i), defBody (top i), defScope (top i), [], []⟩
def mem (i j : Nat) : Stmt := match top i with
  | .ClassDef _ _ _ body _ _ _ _ _ _ _ => body.getD j (.Pass ⟨0, 0, 0, 0⟩)
  | _ => .Pass ⟨0, 0, 0, 0⟩
def memD (i j : Nat) (c x q : Str) : He.DefD := ⟨(c, some x), x, q, defArgs (mem i j), defBody (mem i j), defScope (mem i j), [], []⟩
def b_is_word_sign : List CS := [
  .ret (.andE (.bm .isascii (.var 0) []) (.bm .isalnum (.var 0) []))]
def q_is_word_sign : FD := ⟨topD 11 "is_word_sign", ["sign"], ["sign"]⟩
def d_is_word_sign : CDef := ⟨1, 1, b_is_word_sign⟩
def b_is_name_of : List CS := [
  .ifS (.or (.val (.cmp .eq (.var 0) (.con (.str [])))) (.or (.val (.cmp .gt (.bc .len [(.var 0)]) (.glob 6))) (.val (.cmp .notIn (.idx (.var 0) (.con (.int 0))) (.var 1))))) [.ret (.con (.bl false))] [],
  .ret (.cmp .eq (.bc .len [(.lc (.var 2) (.n 2) (.slc (.var 0) (some (.con (.int 1))) none) [(.val (.cmp .notIn (.var 2) (.glob 4)))])]) (.con (.int 0)))]
def q_is_name_of : FD := ⟨topD 12 "is_name_of", ["token", "signs", "sign"], ["token", "signs"]⟩
def d_is_name_of : CDef := ⟨2, 3, b_is_name_of⟩
def b_is_place_name : List CS := [
  .ret (.call 1 [] [(.var 0), (.glob 2)])]
def q_is_place_name : FD := ⟨topD 13 "is_place_name", ["token"], ["token"]⟩
def d_is_place_name : CDef := ⟨1, 1, b_is_place_name⟩
def b_is_set_name : List CS := [
  .ret (.call 1 [] [(.var 0), (.glob 3)])]
def q_is_set_name : FD := ⟨topD 14 "is_set_name", ["token"], ["token"]⟩
def d_is_set_name : CDef := ⟨1, 1, b_is_set_name⟩
def b_is_letter : List CS := [
  .ret (.andE (.cmp .eq (.bc .len [(.var 0)]) (.con (.int 1))) (.cmp .isIn (.var 0) (.glob 1)))]
def q_is_letter : FD := ⟨topD 15 "is_letter", ["token"], ["token"]⟩
def d_is_letter : CDef := ⟨1, 1, b_is_letter⟩
def b_is_number : List CS := [
  .ret (.andE (.cmp .eq (.bc .len [(.var 0)]) (.con (.int 1))) (.cmp .isIn (.var 0) (.glob 4)))]
def q_is_number : FD := ⟨topD 16 "is_number", ["token"], ["token"]⟩
def d_is_number : CDef := ⟨1, 1, b_is_number⟩
def b_is_word_token : List CS := [
  .ifS (.or (.val (.cmp .isIn (.var 0) (.glob 0))) (.val (.call 5 [] [(.var 0)]))) [.ret (.con (.bl true))] [],
  .ret (.orE (.call 2 [] [(.var 0)]) (.orE (.call 3 [] [(.var 0)]) (.call 4 [] [(.var 0)])))]
def q_is_word_token : FD := ⟨topD 17 "is_word_token", ["token"], ["token"]⟩
def d_is_word_token : CDef := ⟨1, 1, b_is_word_token⟩
def b_word_end : List CS := [
  .whl (.and (.val (.cmp .lt (.var 1) (.bc .len [(.var 0)]))) (.val (.call 0 [] [(.idx (.var 0) (.var 1))]))) [.asg 1 (.bin .add (.var 1) (.con (.int 1)))],
  .ret (.var 1)]
def q_word_end : FD := ⟨topD 18 "word_end", ["text", "at"], ["text", "at"]⟩
def d_word_end : CDef := ⟨2, 2, b_word_end⟩
def b_token_at : List CS := [
  .ifS (.val (.cmp .isIn (.idx (.var 0) (.var 1)) (.glob 5))) [.ret (.idx (.var 0) (.var 1))] [],
  .ifS (.not (.val (.call 0 [] [(.idx (.var 0) (.var 1))]))) [.ret (.con .non)] [],
  .asg 2 (.slc (.var 0) (some (.var 1)) (some (.call 7 [] [(.var 0), (.var 1)]))),
  .ifS (.val (.call 6 [] [(.var 2)])) [.ret (.var 2)] [],
  .ret (.con .non)]
def q_token_at : FD := ⟨topD 19 "token_at", ["text", "at", "token"], ["text", "at"]⟩
def d_token_at : CDef := ⟨2, 3, b_token_at⟩
def b_tokens : List CS := [
  .asg 1 (.lst []),
  .asg 2 (.con (.int 0)),
  .whl (.val (.cmp .lt (.var 2) (.bc .len [(.var 0)]))) [.ifS (.val (.cmp .eq (.idx (.var 0) (.var 2)) (.con (.str [32])))) [.asg 2 (.bin .add (.var 2) (.con (.int 1)))] [.asg 3 (.call 8 [] [(.var 0), (.var 2)]), .ex (.mm .append (.var 1) [(.tup [(.var 3), (.var 2)])]), .ifS (.val (.isN false (.var 3))) [.ret (.var 1)] [], .asg 2 (.bin .add (.var 2) (.bc .len [(.var 3)]))]],
  .ret (.var 1)]
def q_tokens : FD := ⟨topD 20 "tokens", ["text", "found", "at", "token"], ["text"]⟩
def d_tokens : CDef := ⟨1, 4, b_tokens⟩
def b_read_places : List CS := [
  .asg 2 (.new 0 [] [(.var 0), (.var 1)]),
  .ret (.mth 0 8 (.var 2) [] [(.call 11 [] [(.var 2)])])]
def q_read_places : FD := ⟨topD 25 "read_places", ["k", "text", "reader"], ["k", "text"]⟩
def d_read_places : CDef := ⟨2, 3, b_read_places⟩
def b_places_then : List CS := [
  .asg 1 (.call 12 [] [(.var 0)]),
  .ifS (.val (.cmp .isIn (.mth 0 0 (.var 0) [] []) (.tup [(.con (.str [116, 104, 101, 110])), (.con (.str [98, 111, 116, 104]))]))) [.asg 2 (.mth 0 2 (.var 0) [] []), .ret (.tup [(.var 2), (.var 1), (.call 11 [] [(.var 0)])])] [],
  .ret (.var 1)]
def q_places_then : FD := ⟨topD 26 "places_then", ["reader", "found", "kind"], ["reader"]⟩
def d_places_then : CDef := ⟨1, 3, b_places_then⟩
def b_places_or : List CS := [
  .asg 1 (.call 13 [] [(.var 0)]),
  .whl (.val (.cmp .eq (.mth 0 0 (.var 0) [] []) (.con (.str [111, 114])))) [.ex (.mth 0 2 (.var 0) [] []), .asg 1 (.tup [(.con (.str [111, 114])), (.var 1), (.call 13 [] [(.var 0)])])],
  .ret (.var 1)]
def q_places_or : FD := ⟨topD 27 "places_or", ["reader", "found"], ["reader"]⟩
def d_places_or : CDef := ⟨1, 2, b_places_or⟩
def b_places_and : List CS := [
  .asg 1 (.call 14 [] [(.var 0)]),
  .whl (.val (.cmp .eq (.mth 0 0 (.var 0) [] []) (.con (.str [97, 110, 100])))) [.ex (.mth 0 2 (.var 0) [] []), .asg 1 (.tup [(.con (.str [97, 110, 100])), (.var 1), (.call 14 [] [(.var 0)])])],
  .ret (.var 1)]
def q_places_and : FD := ⟨topD 28 "places_and", ["reader", "found"], ["reader"]⟩
def d_places_and : CDef := ⟨1, 2, b_places_and⟩
def b_places_part : List CS := [
  .asg 1 (.mth 0 0 (.var 0) [] []),
  .ifS (.val (.cmp .eq (.var 1) (.con (.str [110, 111, 116])))) [.ex (.mth 0 2 (.var 0) [] []), .ret (.tup [(.con (.str [110, 111, 116])), (.call 14 [] [(.var 0)])])] [],
  .ifS (.val (.cmp .isIn (.var 1) (.tup [(.con (.str [115, 111, 109, 101])), (.con (.str [97, 108, 108]))]))) [.ret (.call 15 [] [(.var 0)])] [],
  .ifS (.val (.cmp .eq (.var 1) (.con (.str [114, 101, 115, 116])))) [.ret (.call 16 [] [(.var 0)])] [],
  .ifS (.val (.cmp .eq (.var 1) (.con (.str [40])))) [.ex (.mth 0 2 (.var 0) [] []), .asg 2 (.call 11 [] [(.var 0)]), .ex (.mth 0 3 (.var 0) [] [(.con (.str [41]))]), .ret (.var 2)] [],
  .ifS (.val (.mth 0 4 (.var 0) [] [])) [.asg 3 (.mth 0 2 (.var 0) [] []), .ex (.mth 0 3 (.var 0) [] [(.con (.str [40]))]), .asg 4 (.mth 0 5 (.var 0) [] []), .ex (.mth 0 3 (.var 0) [] [(.con (.str [41]))]), .ret (.tup [(.con (.str [108, 101, 116, 116, 101, 114])), (.var 3), (.var 4)])] [],
  .ret (.call 17 [] [(.var 0)])]
def q_places_part : FD := ⟨topD 29 "places_part", ["reader", "token", "found", "letter", "place"], ["reader"]⟩
def d_places_part : CDef := ⟨1, 5, b_places_part⟩
def b_places_bound : List CS := [
  .asg 1 (.mth 0 2 (.var 0) [] []),
  .ifS (.val (.call 3 [] [(.mth 0 0 (.var 0) [] [])])) [.asg 1 (.bin .add (.var 1) (.con (.str [115, 101, 116]))), .asg 2 (.mth 0 2 (.var 0) [] [])] [.asg 2 (.mth 0 5 (.var 0) [] [])],
  .ex (.mth 0 3 (.var 0) [] [(.con (.str [46]))]),
  .ret (.tup [(.var 1), (.var 2), (.call 11 [] [(.var 0)])])]
def q_places_bound : FD := ⟨topD 30 "places_bound", ["reader", "kind", "name"], ["reader"]⟩
def d_places_bound : CDef := ⟨1, 3, b_places_bound⟩
def b_places_counted : List CS := [
  .ex (.mth 0 3 (.var 0) [] [(.con (.str [114, 101, 115, 116]))]),
  .asg 1 (.mth 0 7 (.var 0) [] [(.con (.int 2)), (.con (.int 9))]),
  .asg 2 (.mth 0 7 (.var 0) [] [(.con (.int 0)), (.bin .sub (.var 1) (.con (.int 1)))]),
  .asg 3 (.mth 0 5 (.var 0) [] []),
  .ex (.mth 0 3 (.var 0) [] [(.con (.str [46]))]),
  .ret (.tup [(.con (.str [114, 101, 115, 116])), (.var 1), (.var 2), (.var 3), (.call 11 [] [(.var 0)])])]
def q_places_counted : FD := ⟨topD 31 "places_counted", ["reader", "divisor", "left", "name"], ["reader"]⟩
def d_places_counted : CDef := ⟨1, 4, b_places_counted⟩
def b_places_relation : List CS := [
  .asg 1 (.mth 0 5 (.var 0) [] []),
  .ifS (.val (.cmp .eq (.mth 0 0 (.var 0) [] []) (.con (.str [105, 110])))) [.ex (.mth 0 2 (.var 0) [] []), .ret (.tup [(.con (.str [119, 105, 116, 104, 105, 110])), (.var 1), (.mth 0 6 (.var 0) [] [])])] [],
  .ifS (.val (.tin true (.mth 0 0 (.var 0) [] []) 0)) [.ex (.mth 0 1 (.var 0) [] [])] [],
  .asg 2 (.tix 0 (.mth 0 2 (.var 0) [] [])),
  .ret (.tup [(.var 2), (.var 1), (.mth 0 5 (.var 0) [] [])])]
def q_places_relation : FD := ⟨topD 32 "places_relation", ["reader", "place", "kind"], ["reader"]⟩
def d_places_relation : CDef := ⟨1, 3, b_places_relation⟩
def b_read_moments : List CS := [
  .asg 2 (.new 0 [] [(.var 0), (.var 1)]),
  .ret (.mth 0 8 (.var 2) [] [(.call 19 [] [(.var 2)])])]
def q_read_moments : FD := ⟨topD 33 "read_moments", ["k", "text", "reader"], ["k", "text"]⟩
def d_read_moments : CDef := ⟨2, 3, b_read_moments⟩
def b_moments_or : List CS := [
  .asg 1 (.call 20 [] [(.var 0)]),
  .whl (.val (.cmp .eq (.mth 0 0 (.var 0) [] []) (.con (.str [111, 114])))) [.ex (.mth 0 2 (.var 0) [] []), .asg 1 (.tup [(.con (.str [111, 114])), (.var 1), (.call 20 [] [(.var 0)])])],
  .ret (.var 1)]
def q_moments_or : FD := ⟨topD 34 "moments_or", ["reader", "found"], ["reader"]⟩
def d_moments_or : CDef := ⟨1, 2, b_moments_or⟩
def b_moments_and : List CS := [
  .asg 1 (.call 21 [] [(.var 0)]),
  .whl (.val (.cmp .eq (.mth 0 0 (.var 0) [] []) (.con (.str [97, 110, 100])))) [.ex (.mth 0 2 (.var 0) [] []), .asg 1 (.tup [(.con (.str [97, 110, 100])), (.var 1), (.call 21 [] [(.var 0)])])],
  .ret (.var 1)]
def q_moments_and : FD := ⟨topD 35 "moments_and", ["reader", "found"], ["reader"]⟩
def d_moments_and : CDef := ⟨1, 2, b_moments_and⟩
def b_moments_until : List CS := [
  .asg 1 (.call 22 [] [(.var 0)]),
  .ifS (.val (.cmp .isIn (.mth 0 0 (.var 0) [] []) (.tup [(.con (.str [117, 110, 116, 105, 108])), (.con (.str [115, 105, 110, 99, 101]))]))) [.asg 2 (.mth 0 2 (.var 0) [] []), .ret (.tup [(.var 2), (.var 1), (.call 21 [] [(.var 0)])])] [],
  .ret (.var 1)]
def q_moments_until : FD := ⟨topD 36 "moments_until", ["reader", "found", "kind"], ["reader"]⟩
def d_moments_until : CDef := ⟨1, 3, b_moments_until⟩
def b_moments_part : List CS := [
  .asg 1 (.mth 0 0 (.var 0) [] []),
  .ifS (.val (.cmp .isIn (.var 1) (.glob 7))) [.ex (.mth 0 2 (.var 0) [] []), .ret (.tup [(.var 1), (.call 22 [] [(.var 0)])])] [],
  .ifS (.val (.cmp .eq (.var 1) (.con (.str [40])))) [.ex (.mth 0 2 (.var 0) [] []), .asg 2 (.call 19 [] [(.var 0)]), .ex (.mth 0 3 (.var 0) [] [(.con (.str [41]))]), .ret (.var 2)] [],
  .ifS (.val (.cmp .eq (.var 1) (.con (.str [101, 110, 100])))) [.ex (.mth 0 2 (.var 0) [] []), .ret (.tup [(.con (.str [101, 110, 100]))])] [],
  .ifS (.not (.val (.mth 0 4 (.var 0) [] []))) [.ex (.mth 0 1 (.var 0) [] [])] [],
  .ret (.tup [(.con (.str [108, 101, 116, 116, 101, 114])), (.mth 0 2 (.var 0) [] [])])]
def q_moments_part : FD := ⟨topD 37 "moments_part", ["reader", "token", "found"], ["reader"]⟩
def d_moments_part : CDef := ⟨1, 3, b_moments_part⟩
def b_read_expression : List CS := [
  .asg 2 (.new 0 [] [(.var 0), (.var 1)]),
  .ret (.mth 0 8 (.var 2) [] [(.call 24 [] [(.var 2)])])]
def q_read_expression : FD := ⟨topD 38 "read_expression", ["k", "text", "reader"], ["k", "text"]⟩
def d_read_expression : CDef := ⟨2, 3, b_read_expression⟩
def b_expression_or : List CS := [
  .asg 1 (.call 25 [] [(.var 0)]),
  .whl (.val (.cmp .eq (.mth 0 0 (.var 0) [] []) (.con (.str [124])))) [.ex (.mth 0 2 (.var 0) [] []), .asg 1 (.tup [(.con (.str [111, 114])), (.var 1), (.call 25 [] [(.var 0)])])],
  .ret (.var 1)]
def q_expression_or : FD := ⟨topD 39 "expression_or", ["reader", "found"], ["reader"]⟩
def d_expression_or : CDef := ⟨1, 2, b_expression_or⟩
def b_expression_and : List CS := [
  .asg 1 (.call 27 [] [(.var 0)]),
  .whl (.val (.cmp .eq (.mth 0 0 (.var 0) [] []) (.con (.str [38])))) [.ex (.mth 0 2 (.var 0) [] []), .asg 1 (.tup [(.con (.str [97, 110, 100])), (.var 1), (.call 27 [] [(.var 0)])])],
  .ret (.var 1)]
def q_expression_and : FD := ⟨topD 40 "expression_and", ["reader", "found"], ["reader"]⟩
def d_expression_and : CDef := ⟨1, 2, b_expression_and⟩
def b_begins_part : List CS := [
  .ret (.orE (.mth 0 4 (.var 0) [] []) (.cmp .isIn (.mth 0 0 (.var 0) [] []) (.tup [(.con (.str [126])), (.con (.str [40])), (.con (.str [110, 111, 110, 101])), (.con (.str [101, 109, 112, 116, 121]))])))]
def q_begins_part : FD := ⟨topD 41 "begins_part", ["reader"], ["reader"]⟩
def d_begins_part : CDef := ⟨1, 1, b_begins_part⟩
def b_expression_join : List CS := [
  .asg 1 (.call 28 [] [(.var 0)]),
  .whl (.val (.call 26 [] [(.var 0)])) [.asg 1 (.tup [(.con (.str [106, 111, 105, 110])), (.var 1), (.call 28 [] [(.var 0)])])],
  .ret (.var 1)]
def q_expression_join : FD := ⟨topD 42 "expression_join", ["reader", "found"], ["reader"]⟩
def d_expression_join : CDef := ⟨1, 2, b_expression_join⟩
def b_expression_part : List CS := [
  .ifS (.val (.cmp .eq (.mth 0 0 (.var 0) [] []) (.con (.str [126])))) [.ex (.mth 0 2 (.var 0) [] []), .ret (.tup [(.con (.str [110, 111, 116])), (.call 28 [] [(.var 0)])])] [],
  .asg 1 (.call 29 [] [(.var 0)]),
  .whl (.val (.cmp .eq (.mth 0 0 (.var 0) [] []) (.con (.str [42])))) [.ex (.mth 0 2 (.var 0) [] []), .asg 1 (.tup [(.con (.str [114, 101, 112, 101, 97, 116])), (.var 1)])],
  .ret (.var 1)]
def q_expression_part : FD := ⟨topD 43 "expression_part", ["reader", "found"], ["reader"]⟩
def d_expression_part : CDef := ⟨1, 2, b_expression_part⟩
def b_expression_base : List CS := [
  .asg 1 (.mth 0 0 (.var 0) [] []),
  .ifS (.val (.cmp .eq (.var 1) (.con (.str [40])))) [.ex (.mth 0 2 (.var 0) [] []), .asg 2 (.call 24 [] [(.var 0)]), .ex (.mth 0 3 (.var 0) [] [(.con (.str [41]))]), .ret (.var 2)] [],
  .ifS (.val (.cmp .isIn (.var 1) (.tup [(.con (.str [110, 111, 110, 101])), (.con (.str [101, 109, 112, 116, 121]))]))) [.ex (.mth 0 2 (.var 0) [] []), .ret (.tup [(.var 1)])] [],
  .ifS (.not (.val (.mth 0 4 (.var 0) [] []))) [.ex (.mth 0 1 (.var 0) [] [])] [],
  .ret (.tup [(.con (.str [108, 101, 116, 116, 101, 114])), (.mth 0 2 (.var 0) [] [])])]
def q_expression_base : FD := ⟨topD 44 "expression_base", ["reader", "token", "found"], ["reader"]⟩
def d_expression_base : CDef := ⟨1, 3, b_expression_base⟩
def b_held_places : List CS := [
  .ifS (.val (.cmp .lt (.tget 1 (.idx (.var 0) (.con (.int 0))) (.glob 8)) (.var 1))) [.ret (.bin .add (.bin .add (.con (.str [40])) (.call 31 [] [(.var 0)])) (.con (.str [41])))] [],
  .ret (.call 31 [] [(.var 0)])]
def q_held_places : FD := ⟨topD 51 "held_places", ["f", "level"], ["f", "level"]⟩
def d_held_places : CDef := ⟨2, 2, b_held_places⟩
def b_places_text : List CS := [
  .ifS (.val (.cmp .isIn (.idx (.var 0) (.con (.int 0))) (.tup [(.con (.str [116, 104, 101, 110])), (.con (.str [98, 111, 116, 104]))]))) [.ret (.bin .add (.bin .add (.bin .add (.bin .add (.call 30 [] [(.idx (.var 0) (.con (.int 1))), (.con (.int 1))]) (.con (.str [32]))) (.idx (.var 0) (.con (.int 0)))) (.con (.str [32]))) (.call 30 [] [(.idx (.var 0) (.con (.int 2))), (.con (.int 0))]))] [],
  .ifS (.val (.cmp .eq (.idx (.var 0) (.con (.int 0))) (.con (.str [111, 114])))) [.ret (.bin .add (.bin .add (.call 30 [] [(.idx (.var 0) (.con (.int 1))), (.con (.int 1))]) (.con (.str [32, 111, 114, 32]))) (.call 30 [] [(.idx (.var 0) (.con (.int 2))), (.con (.int 2))]))] [],
  .ifS (.val (.cmp .eq (.idx (.var 0) (.con (.int 0))) (.con (.str [97, 110, 100])))) [.ret (.bin .add (.bin .add (.call 30 [] [(.idx (.var 0) (.con (.int 1))), (.con (.int 2))]) (.con (.str [32, 97, 110, 100, 32]))) (.call 30 [] [(.idx (.var 0) (.con (.int 2))), (.con (.int 3))]))] [],
  .ifS (.val (.cmp .eq (.idx (.var 0) (.con (.int 0))) (.con (.str [110, 111, 116])))) [.ret (.bin .add (.con (.str [110, 111, 116, 32])) (.call 30 [] [(.idx (.var 0) (.con (.int 1))), (.con (.int 3))]))] [],
  .ifS (.val (.cmp .isIn (.idx (.var 0) (.con (.int 0))) (.tup [(.con (.str [115, 111, 109, 101])), (.con (.str [115, 111, 109, 101, 115, 101, 116]))]))) [.ret (.bin .add (.bin .add (.bin .add (.con (.str [115, 111, 109, 101, 32])) (.idx (.var 0) (.con (.int 1)))) (.con (.str [32, 46, 32]))) (.call 30 [] [(.idx (.var 0) (.con (.int 2))), (.con (.int 0))]))] [],
  .ifS (.val (.cmp .isIn (.idx (.var 0) (.con (.int 0))) (.tup [(.con (.str [97, 108, 108])), (.con (.str [97, 108, 108, 115, 101, 116]))]))) [.ret (.bin .add (.bin .add (.bin .add (.con (.str [97, 108, 108, 32])) (.idx (.var 0) (.con (.int 1)))) (.con (.str [32, 46, 32]))) (.call 30 [] [(.idx (.var 0) (.con (.int 2))), (.con (.int 0))]))] [],
  .ifS (.val (.cmp .eq (.idx (.var 0) (.con (.int 0))) (.con (.str [114, 101, 115, 116])))) [.ret (.bm .join (.con (.str [32])) [(.lst [(.con (.str [114, 101, 115, 116])), (.bc .str [(.idx (.var 0) (.con (.int 1)))]), (.bc .str [(.idx (.var 0) (.con (.int 2)))]), (.idx (.var 0) (.con (.int 3))), (.con (.str [46])), (.call 30 [] [(.idx (.var 0) (.con (.int 4))), (.con (.int 0))])])])] [],
  .ifS (.val (.cmp .eq (.idx (.var 0) (.con (.int 0))) (.con (.str [108, 101, 116, 116, 101, 114])))) [.ret (.bin .add (.bin .add (.bin .add (.idx (.var 0) (.con (.int 1))) (.con (.str [40]))) (.idx (.var 0) (.con (.int 2)))) (.con (.str [41])))] [],
  .ret (.bin .add (.bin .add (.bin .add (.bin .add (.idx (.var 0) (.con (.int 1))) (.con (.str [32]))) (.tix 4 (.idx (.var 0) (.con (.int 0))))) (.con (.str [32]))) (.idx (.var 0) (.con (.int 2))))]
def q_places_text : FD := ⟨topD 52 "places_text", ["f"], ["f"]⟩
def d_places_text : CDef := ⟨1, 1, b_places_text⟩
def b_held_moments : List CS := [
  .ifS (.val (.cmp .lt (.tget 2 (.idx (.var 0) (.con (.int 0))) (.glob 8)) (.var 1))) [.ret (.bin .add (.bin .add (.con (.str [40])) (.call 33 [] [(.var 0)])) (.con (.str [41])))] [],
  .ret (.call 33 [] [(.var 0)])]
def q_held_moments : FD := ⟨topD 53 "held_moments", ["f", "level"], ["f", "level"]⟩
def d_held_moments : CDef := ⟨2, 2, b_held_moments⟩
def b_moments_text : List CS := [
  .ifS (.val (.cmp .eq (.idx (.var 0) (.con (.int 0))) (.con (.str [108, 101, 116, 116, 101, 114])))) [.ret (.idx (.var 0) (.con (.int 1)))] [],
  .ifS (.val (.cmp .eq (.idx (.var 0) (.con (.int 0))) (.con (.str [101, 110, 100])))) [.ret (.con (.str [101, 110, 100]))] [],
  .ifS (.val (.cmp .eq (.idx (.var 0) (.con (.int 0))) (.con (.str [111, 114])))) [.ret (.bin .add (.bin .add (.call 32 [] [(.idx (.var 0) (.con (.int 1))), (.con (.int 1))]) (.con (.str [32, 111, 114, 32]))) (.call 32 [] [(.idx (.var 0) (.con (.int 2))), (.con (.int 2))]))] [],
  .ifS (.val (.cmp .eq (.idx (.var 0) (.con (.int 0))) (.con (.str [97, 110, 100])))) [.ret (.bin .add (.bin .add (.call 32 [] [(.idx (.var 0) (.con (.int 1))), (.con (.int 2))]) (.con (.str [32, 97, 110, 100, 32]))) (.call 32 [] [(.idx (.var 0) (.con (.int 2))), (.con (.int 3))]))] [],
  .ifS (.val (.cmp .isIn (.idx (.var 0) (.con (.int 0))) (.tup [(.con (.str [117, 110, 116, 105, 108])), (.con (.str [115, 105, 110, 99, 101]))]))) [.ret (.bin .add (.bin .add (.bin .add (.bin .add (.call 32 [] [(.idx (.var 0) (.con (.int 1))), (.con (.int 4))]) (.con (.str [32]))) (.idx (.var 0) (.con (.int 0)))) (.con (.str [32]))) (.call 32 [] [(.idx (.var 0) (.con (.int 2))), (.con (.int 3))]))] [],
  .ret (.bin .add (.bin .add (.idx (.var 0) (.con (.int 0))) (.con (.str [32]))) (.call 32 [] [(.idx (.var 0) (.con (.int 1))), (.con (.int 4))]))]
def q_moments_text : FD := ⟨topD 54 "moments_text", ["f"], ["f"]⟩
def d_moments_text : CDef := ⟨1, 1, b_moments_text⟩
def b_held_expression : List CS := [
  .ifS (.val (.cmp .lt (.tget 3 (.idx (.var 0) (.con (.int 0))) (.glob 8)) (.var 1))) [.ret (.bin .add (.bin .add (.con (.str [40])) (.call 35 [] [(.var 0)])) (.con (.str [41])))] [],
  .ret (.call 35 [] [(.var 0)])]
def q_held_expression : FD := ⟨topD 55 "held_expression", ["e", "level"], ["e", "level"]⟩
def d_held_expression : CDef := ⟨2, 2, b_held_expression⟩
def b_expression_text : List CS := [
  .ifS (.val (.cmp .eq (.idx (.var 0) (.con (.int 0))) (.con (.str [108, 101, 116, 116, 101, 114])))) [.ret (.idx (.var 0) (.con (.int 1)))] [],
  .ifS (.val (.cmp .isIn (.idx (.var 0) (.con (.int 0))) (.tup [(.con (.str [110, 111, 110, 101])), (.con (.str [101, 109, 112, 116, 121]))]))) [.ret (.idx (.var 0) (.con (.int 0)))] [],
  .ifS (.val (.cmp .eq (.idx (.var 0) (.con (.int 0))) (.con (.str [111, 114])))) [.ret (.bin .add (.bin .add (.call 34 [] [(.idx (.var 0) (.con (.int 1))), (.con (.int 1))]) (.con (.str [32, 124, 32]))) (.call 34 [] [(.idx (.var 0) (.con (.int 2))), (.con (.int 2))]))] [],
  .ifS (.val (.cmp .eq (.idx (.var 0) (.con (.int 0))) (.con (.str [97, 110, 100])))) [.ret (.bin .add (.bin .add (.call 34 [] [(.idx (.var 0) (.con (.int 1))), (.con (.int 2))]) (.con (.str [32, 38, 32]))) (.call 34 [] [(.idx (.var 0) (.con (.int 2))), (.con (.int 3))]))] [],
  .ifS (.val (.cmp .eq (.idx (.var 0) (.con (.int 0))) (.con (.str [106, 111, 105, 110])))) [.ret (.bin .add (.bin .add (.call 34 [] [(.idx (.var 0) (.con (.int 1))), (.con (.int 3))]) (.con (.str [32]))) (.call 34 [] [(.idx (.var 0) (.con (.int 2))), (.con (.int 4))]))] [],
  .ifS (.val (.cmp .eq (.idx (.var 0) (.con (.int 0))) (.con (.str [110, 111, 116])))) [.ret (.bin .add (.con (.str [126, 32])) (.call 34 [] [(.idx (.var 0) (.con (.int 1))), (.con (.int 4))]))] [],
  .ret (.bin .add (.call 34 [] [(.idx (.var 0) (.con (.int 1))), (.con (.int 5))]) (.con (.str [42])))]
def q_expression_text : FD := ⟨topD 56 "expression_text", ["e"], ["e"]⟩
def d_expression_text : CDef := ⟨1, 1, b_expression_text⟩
def b__law_same : List CS := [
  .ifS (.or (.val (.bc .isBool [(.var 1)])) (.val (.bc .isBool [(.var 0)]))) [.ret (.andE (.bc .isBool [(.var 1)]) (.andE (.bc .isBool [(.var 0)]) (.cmp .eq (.var 0) (.var 1))))] [],
  .ifS (.or (.val (.isN false (.var 1))) (.val (.bc .isInt [(.var 1)]))) [.ret (.andE (.cmp .eq (.var 0) (.var 1)) (.orE (.isN false (.var 1)) (.bc .isInt [(.var 0)])))] [],
  .ifS (.val (.bc .isStr [(.var 1)])) [.ret (.andE (.bc .isStr [(.var 0)]) (.cmp .eq (.var 0) (.var 1)))] [],
  .ifS (.or (.val (.cmp .ne (.bc .isList [(.var 1)]) (.bc .isList [(.var 0)]))) (.val (.cmp .ne (.bc .isTuple [(.var 1)]) (.bc .isTuple [(.var 0)])))) [.ret (.con (.bl false))] [],
  .ifS (.val (.cmp .ne (.bc .len [(.var 0)]) (.bc .len [(.var 1)]))) [.ret (.con (.bl false))] [],
  .forR (.n 2) none (.bc .len [(.var 1)]) [.ifS (.not (.val (.call 36 [] [(.idx (.var 0) (.var 2)), (.idx (.var 1) (.var 2))]))) [.ret (.con (.bl false))] []],
  .ret (.con (.bl true))]
def q__law_same : FD := ⟨topD 58 "_law_same", ["told", "due", "k"], ["told", "due"]⟩
def d__law_same : CDef := ⟨2, 3, b__law_same⟩
def b__law_number : List CS := [
  .asg 2 (.bin .add (.bin .mul (.bc .sum [(.var 0)]) (.con (.int 31))) (.bin .mul (.con (.int 1000003)) (.bin .add (.var 1) (.con (.int 1))))),
  .ifS (.val (.cmp .lt (.var 1) (.bc .len [(.var 0)]))) [.asg 2 (.idx (.var 0) (.var 1))] [],
  .ret (.bc .abs [(.var 2)])]
def q__law_number : FD := ⟨topD 59 "_law_number", ["script", "k", "number"], ["script", "k"]⟩
def d__law_number : CDef := ⟨2, 3, b__law_number⟩
def b__law_draws : List CS := [
  .asg 4 (.call 37 [] [(.var 0), (.var 1)]),
  .asg 5 (.lst []),
  .ifS (.val (.cmp .ge (.var 4) (.bin .pow (.con (.int 10)) (.con (.int 18))))) [.asg 4 (.bin .sub (.var 4) (.bin .pow (.con (.int 10)) (.con (.int 18)))), .forR (.n 7) none (.var 2) [.ex (.mm .append (.var 5) [(.bin .mod (.var 4) (.var 3))]), .asg 4 (.bin .fdiv (.var 4) (.var 3))], .ret (.var 5)] [],
  .asg 6 (.bin .add (.bin .mod (.var 4) (.con (.int 2147483647))) (.con (.int 1))),
  .forR (.n 7) none (.var 2) [.asg 6 (.bin .mod (.bin .add (.bin .add (.bin .mul (.var 6) (.con (.int 48271))) (.bin .mul (.con (.int 11)) (.var 7))) (.con (.int 7))) (.con (.int 2147483647))), .asg 8 (.bin .mod (.bin .add (.bin .add (.bin .mul (.var 6) (.var 6)) (.bin .mul (.con (.int 69621)) (.var 7))) (.con (.int 5))) (.con (.int 2147483629))), .ex (.mm .append (.var 5) [(.bin .mod (.bin .fdiv (.var 8) (.con (.int 64))) (.var 3))])],
  .ret (.var 5)]
def q__law_draws : FD := ⟨topD 60 "_law_draws", ["script", "k", "count", "many", "number", "found", "state", "at", "other"], ["script", "k", "count", "many"]⟩
def d__law_draws : CDef := ⟨4, 9, b__law_draws⟩
def b__law_pick : List CS := [
  .ifS (.val (.cmp .eq (.bc .len [(.var 0)]) (.con (.int 0)))) [.ret (.con (.int 0))] [],
  .ret (.mm .pop (.var 0) [])]
def q__law_pick : FD := ⟨topD 61 "_law_pick", ["picks"], ["picks"]⟩
def d__law_pick : CDef := ⟨1, 1, b__law_pick⟩
def b__law_picks : List CS := [
  .asg 3 (.call 38 [] [(.var 0), (.var 1), (.var 2), (.con (.int 5040))]),
  .ex (.mm .reverse (.var 3) []),
  .ret (.var 3)]
def q__law_picks : FD := ⟨topD 62 "_law_picks", ["script", "k", "count", "picks"], ["script", "k", "count"]⟩
def d__law_picks : CDef := ⟨3, 4, b__law_picks⟩
def b__law_base : List CS := [
  .asg 4 (.bin .mod (.call 39 [true] [(.var 0)]) (.con (.int 7))),
  .asg 5 (.idx (.var 2) (.bin .mod (.call 39 [true] [(.var 0)]) (.bc .len [(.var 2)]))),
  .asg 6 (.idx (.var 2) (.bin .mod (.call 39 [true] [(.var 0)]) (.bc .len [(.var 2)]))),
  .ifS (.or (.val (.cmp .lt (.var 4) (.con (.int 3)))) (.and (.val (.cmp .eq (.var 4) (.con (.int 6)))) (.val (.cmp .eq (.bc .len [(.var 3)]) (.con (.int 0)))))) [.ret (.tup [(.con (.str [108, 101, 116, 116, 101, 114])), (.idx (.con (.str [97, 98, 99])) (.bin .mod (.call 39 [true] [(.var 0)]) (.var 1))), (.var 5)])] [],
  .ifS (.val (.cmp .lt (.var 4) (.con (.int 6)))) [.ret (.tup [(.idx (.tup [(.con (.str [98, 101, 102, 111, 114, 101])), (.con (.str [115, 97, 109, 101])), (.con (.str [110, 101, 120, 116]))]) (.bin .sub (.var 4) (.con (.int 3)))), (.var 5), (.var 6)])] [],
  .ret (.tup [(.con (.str [119, 105, 116, 104, 105, 110])), (.var 5), (.idx (.var 3) (.bin .mod (.call 39 [true] [(.var 0)]) (.bc .len [(.var 3)])))])]
def q__law_base : FD := ⟨topD 63 "_law_base", ["picks", "letters", "places", "sets", "kind", "x", "y"], ["picks", "letters", "places", "sets"]⟩
def d__law_base : CDef := ⟨4, 7, b__law_base⟩
def b__law_sentence : List CS := [
  .asgT [9, 10] (.var 4),
  .asg 5 (.bin .mod (.call 39 [true] [(.var 0)]) (.con (.int 12))),
  .ifS (.and (.val (.cmp .eq (.var 9) (.con (.int 0)))) (.val (.cmp .gt (.bc .len [(.var 2)]) (.con (.int 0))))) [.ret (.call 41 [true, false, false, false] [(.var 0), (.var 1), (.var 2), (.var 3)])] [],
  .ifS (.and (.val (.cmp .gt (.var 9) (.con (.int 0)))) (.and (.val (.cmp .gt (.bc .len [(.var 2)]) (.con (.int 0)))) (.val (.cmp .lt (.var 5) (.con (.int 2)))))) [.ret (.call 41 [true, false, false, false] [(.var 0), (.var 1), (.var 2), (.var 3)])] [],
  .ifS (.and (.val (.cmp .gt (.var 9) (.con (.int 0)))) (.val (.cmp .lt (.var 5) (.con (.int 3))))) [.ret (.tup [(.con (.str [110, 111, 116])), (.call 42 [true, false, false, false, false] [(.var 0), (.var 1), (.var 2), (.var 3), (.tup [(.bin .sub (.var 9) (.con (.int 1))), (.var 10)])])])] [],
  .ifS (.and (.val (.cmp .gt (.var 9) (.con (.int 0)))) (.val (.cmp .lt (.var 5) (.con (.int 7))))) [.asg 11 (.call 42 [true, false, false, false, false] [(.var 0), (.var 1), (.var 2), (.var 3), (.tup [(.bin .sub (.var 9) (.con (.int 1))), (.var 10)])]), .asg 12 (.call 42 [true, false, false, false, false] [(.var 0), (.var 1), (.var 2), (.var 3), (.tup [(.bin .sub (.var 9) (.con (.int 1))), (.var 10)])]), .ret (.tup [(.idx (.tup [(.con (.str [97, 110, 100])), (.con (.str [111, 114])), (.con (.str [116, 104, 101, 110])), (.con (.str [98, 111, 116, 104]))]) (.bin .sub (.var 5) (.con (.int 3)))), (.var 11), (.var 12)])] [],
  .ifS (.and (.val (.cmp .eq (.var 10) (.con (.int 0)))) (.val (.cmp .gt (.bc .len [(.var 2)]) (.con (.int 0))))) [.ret (.call 41 [true, false, false, false] [(.var 0), (.var 1), (.var 2), (.var 3)])] [],
  .asg 6 (.tup [(.bc .max2 [(.bin .sub (.var 9) (.con (.int 1))), (.con (.int 0))]), (.bc .max2 [(.bin .sub (.var 10) (.con (.int 1))), (.con (.int 0))])]),
  .asg 7 (.idx (.tup [(.con (.str [120])), (.con (.str [121])), (.con (.str [122])), (.con (.str [120, 49]))]) (.bin .mod (.call 39 [true] [(.var 0)]) (.con (.int 4)))),
  .ifS (.and (.val (.cmp .eq (.var 5) (.con (.int 11)))) (.val (.cmp .gt (.bin .add (.bc .len [(.var 2)]) (.bc .len [(.var 3)])) (.con (.int 0))))) [.asg 8 (.call 42 [true, false, false, false, false] [(.var 0), (.var 1), (.var 2), (.bin .add (.var 3) (.lst [(.con (.str [88]))])), (.var 6)]), .ret (.tup [(.idx (.tup [(.con (.str [115, 111, 109, 101, 115, 101, 116])), (.con (.str [97, 108, 108, 115, 101, 116]))]) (.bin .mod (.call 39 [true] [(.var 0)]) (.con (.int 2)))), (.con (.str [88])), (.var 8)])] [],
  .asg 8 (.call 42 [true, false, false, false, false] [(.var 0), (.var 1), (.bin .add (.var 2) (.lst [(.var 7)])), (.var 3), (.var 6)]),
  .ifS (.val (.cmp .eq (.var 5) (.con (.int 10)))) [.asg 13 (.bin .add (.con (.int 2)) (.bin .mod (.call 39 [true] [(.var 0)]) (.con (.int 2)))), .ret (.tup [(.con (.str [114, 101, 115, 116])), (.var 13), (.bin .mod (.call 39 [true] [(.var 0)]) (.var 13)), (.var 7), (.var 8)])] [],
  .ret (.tup [(.idx (.tup [(.con (.str [115, 111, 109, 101])), (.con (.str [97, 108, 108]))]) (.bin .mod (.var 5) (.con (.int 2)))), (.var 7), (.var 8)])]
def q__law_sentence : FD := ⟨topD 64 "_law_sentence", ["picks", "letters", "places", "sets", "deep", "kind", "left", "name", "inner", "levels", "names", "one", "two", "divisor"], ["picks", "letters", "places", "sets", "deep"]⟩
def d__law_sentence : CDef := ⟨5, 14, b__law_sentence⟩
def b__law_moment : List CS := [
  .asg 4 (.bin .mod (.call 39 [true] [(.var 0)]) (.ife (.val (.var 3)) (.con (.int 14)) (.con (.int 10)))),
  .ifS (.or (.val (.cmp .eq (.var 2) (.con (.int 0)))) (.val (.cmp .lt (.var 4) (.con (.int 2))))) [.asg 7 (.call 39 [true] [(.var 0)]), .ret (.idx (.lst [(.tup [(.con (.str [108, 101, 116, 116, 101, 114])), (.idx (.con (.str [97, 98, 99])) (.bin .mod (.bin .fdiv (.var 7) (.con (.int 8))) (.var 1)))]), (.tup [(.con (.str [101, 110, 100]))])]) (.bc .int [(.cmp .eq (.bin .mod (.var 7) (.con (.int 8))) (.con (.int 0)))]))] [],
  .ifS (.val (.cmp .isIn (.var 4) (.tup [(.con (.int 2)), (.con (.int 6)), (.con (.int 7)), (.con (.int 8)), (.con (.int 10)), (.con (.int 12)), (.con (.int 13))]))) [.asg 5 (.idx (.dsp [(.con (.int 2)), (.con (.str [110, 111, 116])), (.con (.int 6)), (.con (.str [110, 101, 120, 116])), (.con (.int 7)), (.con (.str [115, 111, 111, 110])), (.con (.int 8)), (.con (.str [101, 118, 101, 114])), (.con (.int 10)), (.con (.str [98, 97, 99, 107])), (.con (.int 12)), (.con (.str [111, 110, 99, 101])), (.con (.int 13)), (.con (.str [115, 116, 105, 108, 108]))]) (.var 4)), .ret (.tup [(.var 5), (.call 43 [true, false, false, false] [(.var 0), (.var 1), (.bin .sub (.var 2) (.con (.int 1))), (.var 3)])])] [],
  .asg 5 (.idx (.dsp [(.con (.int 3)), (.con (.str [97, 110, 100])), (.con (.int 4)), (.con (.str [111, 114])), (.con (.int 5)), (.con (.str [117, 110, 116, 105, 108])), (.con (.int 9)), (.con (.str [117, 110, 116, 105, 108])), (.con (.int 11)), (.con (.str [115, 105, 110, 99, 101]))]) (.var 4)),
  .asg 6 (.call 43 [true, false, false, false] [(.var 0), (.var 1), (.bin .sub (.var 2) (.con (.int 1))), (.var 3)]),
  .ret (.tup [(.var 5), (.var 6), (.call 43 [true, false, false, false] [(.var 0), (.var 1), (.bin .sub (.var 2) (.con (.int 1))), (.var 3)])])]
def q__law_moment : FD := ⟨topD 65 "_law_moment", ["picks", "letters", "levels", "back", "kind", "name", "one", "pick"], ["picks", "letters", "levels", "back"]⟩
def d__law_moment : CDef := ⟨4, 8, b__law_moment⟩
def b__law_expression : List CS := [
  .asg 4 (.bin .mod (.call 39 [true] [(.var 0)]) (.con (.int 9))),
  .ifS (.or (.val (.cmp .eq (.var 2) (.con (.int 0)))) (.val (.cmp .lt (.var 4) (.con (.int 2))))) [.asg 7 (.call 39 [true] [(.var 0)]), .ret (.idx (.lst [(.tup [(.con (.str [108, 101, 116, 116, 101, 114])), (.idx (.con (.str [97, 98, 99])) (.bin .mod (.bin .fdiv (.var 7) (.con (.int 9))) (.var 1)))]), (.tup [(.con (.str [101, 109, 112, 116, 121]))]), (.tup [(.con (.str [110, 111, 110, 101]))])]) (.bin .add (.bc .int [(.cmp .gt (.bin .mod (.var 7) (.con (.int 9))) (.con (.int 6)))]) (.bc .int [(.cmp .gt (.bin .mod (.var 7) (.con (.int 9))) (.con (.int 7)))])))] [],
  .asg 5 (.idx (.var 3) (.bin .mod (.call 39 [true] [(.var 0)]) (.bc .len [(.var 3)]))),
  .asg 6 (.call 44 [true, false, false, false] [(.var 0), (.var 1), (.bin .sub (.var 2) (.con (.int 1))), (.var 3)]),
  .ifS (.val (.cmp .isIn (.var 5) (.tup [(.con (.str [110, 111, 116])), (.con (.str [114, 101, 112, 101, 97, 116]))]))) [.ret (.tup [(.var 5), (.var 6)])] [],
  .ret (.tup [(.var 5), (.var 6), (.call 44 [true, false, false, false] [(.var 0), (.var 1), (.bin .sub (.var 2) (.con (.int 1))), (.var 3)])])]
def q__law_expression : FD := ⟨topD 66 "_law_expression", ["picks", "letters", "levels", "kinds", "kind", "name", "one", "pick"], ["picks", "letters", "levels", "kinds"]⟩
def d__law_expression : CDef := ⟨4, 8, b__law_expression⟩
def b__law_print : List CS := [
  .ifS (.val (.cmp .eq (.var 1) (.con (.str [112, 108, 97, 99, 101, 115])))) [.ret (.call 47 [] [(.var 0), (.con (.int 0))])] [],
  .ifS (.val (.cmp .eq (.var 1) (.con (.str [109, 111, 109, 101, 110, 116, 115])))) [.ret (.call 48 [] [(.var 0), (.con (.int 0))])] [],
  .ret (.call 49 [] [(.var 0), (.con (.int 0))])]
def q__law_print : FD := ⟨topD 67 "_law_print", ["f", "kind"], ["f", "kind"]⟩
def d__law_print : CDef := ⟨2, 2, b__law_print⟩
def b__law_held : List CS := [
  .ret (.bin .add (.bin .add (.bin .mul (.con (.str [40])) (.bc .int [(.cmp .lt (.var 1) (.var 2))])) (.var 0)) (.bin .mul (.con (.str [41])) (.bc .int [(.cmp .lt (.var 1) (.var 2))])))]
def q__law_held : FD := ⟨topD 68 "_law_held", ["text", "own", "wanted"], ["text", "own", "wanted"]⟩
def d__law_held : CDef := ⟨3, 3, b__law_held⟩
def b__law_places_text : List CS := [
  .ifS (.val (.cmp .isIn (.idx (.var 0) (.con (.int 0))) (.tup [(.con (.str [116, 104, 101, 110])), (.con (.str [98, 111, 116, 104]))]))) [.ret (.call 46 [] [(.bin .add (.bin .add (.bin .add (.bin .add (.call 47 [] [(.idx (.var 0) (.con (.int 1))), (.con (.int 1))]) (.con (.str [32]))) (.idx (.var 0) (.con (.int 0)))) (.con (.str [32]))) (.call 47 [] [(.idx (.var 0) (.con (.int 2))), (.con (.int 0))])), (.con (.int 0)), (.var 1)])] [],
  .ifS (.val (.cmp .isIn (.idx (.var 0) (.con (.int 0))) (.tup [(.con (.str [111, 114])), (.con (.str [97, 110, 100]))]))) [.asg 2 (.idx (.dsp [(.con (.str [111, 114])), (.con (.int 1)), (.con (.str [97, 110, 100])), (.con (.int 2))]) (.idx (.var 0) (.con (.int 0)))), .ret (.call 46 [] [(.bin .add (.bin .add (.bin .add (.bin .add (.call 47 [] [(.idx (.var 0) (.con (.int 1))), (.var 2)]) (.con (.str [32]))) (.idx (.var 0) (.con (.int 0)))) (.con (.str [32]))) (.call 47 [] [(.idx (.var 0) (.con (.int 2))), (.bin .add (.var 2) (.con (.int 1)))])), (.var 2), (.var 1)])] [],
  .ifS (.val (.cmp .eq (.idx (.var 0) (.con (.int 0))) (.con (.str [110, 111, 116])))) [.ret (.call 46 [] [(.bin .add (.con (.str [110, 111, 116, 32])) (.call 47 [] [(.idx (.var 0) (.con (.int 1))), (.con (.int 3))])), (.con (.int 3)), (.var 1)])] [],
  .ifS (.val (.cmp .eq (.idx (.var 0) (.con (.int 0))) (.con (.str [114, 101, 115, 116])))) [.asg 3 (.bm .join (.con (.str [32])) [(.lst [(.con (.str [114, 101, 115, 116])), (.bc .str [(.idx (.var 0) (.con (.int 1)))]), (.bc .str [(.idx (.var 0) (.con (.int 2)))]), (.idx (.var 0) (.con (.int 3))), (.con (.str [46])), (.call 47 [] [(.idx (.var 0) (.con (.int 4))), (.con (.int 0))])])]), .ret (.call 46 [] [(.var 3), (.con (.int 0)), (.var 1)])] [],
  .ifS (.val (.cmp .isIn (.idx (.var 0) (.con (.int 0))) (.tup [(.con (.str [115, 111, 109, 101])), (.con (.str [97, 108, 108])), (.con (.str [115, 111, 109, 101, 115, 101, 116])), (.con (.str [97, 108, 108, 115, 101, 116]))]))) [.ret (.call 46 [] [(.bin .add (.bin .add (.bin .add (.bin .add (.replI (.var 0) 0 [115, 101, 116] []) (.con (.str [32]))) (.idx (.var 0) (.con (.int 1)))) (.con (.str [32, 46, 32]))) (.call 47 [] [(.idx (.var 0) (.con (.int 2))), (.con (.int 0))])), (.con (.int 0)), (.var 1)])] [],
  .ifS (.val (.cmp .eq (.idx (.var 0) (.con (.int 0))) (.con (.str [108, 101, 116, 116, 101, 114])))) [.ret (.bin .add (.bin .add (.bin .add (.idx (.var 0) (.con (.int 1))) (.con (.str [40]))) (.idx (.var 0) (.con (.int 2)))) (.con (.str [41])))] [],
  .ret (.bin .add (.bin .add (.bin .add (.bin .add (.idx (.var 0) (.con (.int 1))) (.con (.str [32]))) (.idx (.dsp [(.con (.str [98, 101, 102, 111, 114, 101])), (.con (.str [60])), (.con (.str [115, 97, 109, 101])), (.con (.str [61])), (.con (.str [110, 101, 120, 116])), (.con (.str [43])), (.con (.str [119, 105, 116, 104, 105, 110])), (.con (.str [105, 110]))]) (.idx (.var 0) (.con (.int 0))))) (.con (.str [32]))) (.idx (.var 0) (.con (.int 2))))]
def q__law_places_text : FD := ⟨topD 69 "_law_places_text", ["f", "wanted", "own", "text"], ["f", "wanted"]⟩
def d__law_places_text : CDef := ⟨2, 4, b__law_places_text⟩
def b__law_moments_text : List CS := [
  .ifS (.val (.cmp .isIn (.idx (.var 0) (.con (.int 0))) (.tup [(.con (.str [108, 101, 116, 116, 101, 114])), (.con (.str [101, 110, 100]))]))) [.ret (.idx (.var 0) (.bin .sub (.bc .len [(.var 0)]) (.con (.int 1))))] [],
  .ifS (.val (.cmp .isIn (.idx (.var 0) (.con (.int 0))) (.tup [(.con (.str [111, 114])), (.con (.str [97, 110, 100]))]))) [.asg 2 (.idx (.dsp [(.con (.str [111, 114])), (.con (.int 1)), (.con (.str [97, 110, 100])), (.con (.int 2))]) (.idx (.var 0) (.con (.int 0)))), .asg 3 (.bin .add (.bin .add (.bin .add (.bin .add (.call 48 [] [(.idx (.var 0) (.con (.int 1))), (.var 2)]) (.con (.str [32]))) (.idx (.var 0) (.con (.int 0)))) (.con (.str [32]))) (.call 48 [] [(.idx (.var 0) (.con (.int 2))), (.bin .add (.var 2) (.con (.int 1)))])), .ret (.call 46 [] [(.var 3), (.var 2), (.var 1)])] [],
  .ifS (.val (.cmp .isIn (.idx (.var 0) (.con (.int 0))) (.tup [(.con (.str [117, 110, 116, 105, 108])), (.con (.str [115, 105, 110, 99, 101]))]))) [.asg 3 (.bin .add (.bin .add (.bin .add (.bin .add (.call 48 [] [(.idx (.var 0) (.con (.int 1))), (.con (.int 4))]) (.con (.str [32]))) (.idx (.var 0) (.con (.int 0)))) (.con (.str [32]))) (.call 48 [] [(.idx (.var 0) (.con (.int 2))), (.con (.int 3))])), .ret (.call 46 [] [(.var 3), (.con (.int 3)), (.var 1)])] [],
  .ret (.call 46 [] [(.bin .add (.bin .add (.idx (.var 0) (.con (.int 0))) (.con (.str [32]))) (.call 48 [] [(.idx (.var 0) (.con (.int 1))), (.con (.int 4))])), (.con (.int 4)), (.var 1)])]
def q__law_moments_text : FD := ⟨topD 70 "_law_moments_text", ["f", "wanted", "own", "text"], ["f", "wanted"]⟩
def d__law_moments_text : CDef := ⟨2, 4, b__law_moments_text⟩
def b__law_expression_text : List CS := [
  .ifS (.val (.cmp .isIn (.idx (.var 0) (.con (.int 0))) (.tup [(.con (.str [110, 111, 110, 101])), (.con (.str [101, 109, 112, 116, 121])), (.con (.str [108, 101, 116, 116, 101, 114]))]))) [.ret (.idx (.var 0) (.bin .sub (.bc .len [(.var 0)]) (.con (.int 1))))] [],
  .ifS (.val (.cmp .isIn (.idx (.var 0) (.con (.int 0))) (.tup [(.con (.str [111, 114])), (.con (.str [97, 110, 100])), (.con (.str [106, 111, 105, 110]))]))) [.asg 2 (.idx (.dsp [(.con (.str [111, 114])), (.con (.int 1)), (.con (.str [97, 110, 100])), (.con (.int 2)), (.con (.str [106, 111, 105, 110])), (.con (.int 3))]) (.idx (.var 0) (.con (.int 0)))), .asg 3 (.idx (.dsp [(.con (.str [111, 114])), (.con (.str [32, 124, 32])), (.con (.str [97, 110, 100])), (.con (.str [32, 38, 32])), (.con (.str [106, 111, 105, 110])), (.con (.str [32]))]) (.idx (.var 0) (.con (.int 0)))), .ret (.call 46 [] [(.bin .add (.bin .add (.call 49 [] [(.idx (.var 0) (.con (.int 1))), (.var 2)]) (.var 3)) (.call 49 [] [(.idx (.var 0) (.con (.int 2))), (.bin .add (.var 2) (.con (.int 1)))])), (.var 2), (.var 1)])] [],
  .ifS (.val (.cmp .eq (.idx (.var 0) (.con (.int 0))) (.con (.str [110, 111, 116])))) [.ret (.call 46 [] [(.bin .add (.con (.str [126, 32])) (.call 49 [] [(.idx (.var 0) (.con (.int 1))), (.con (.int 4))])), (.con (.int 4)), (.var 1)])] [],
  .ret (.call 46 [] [(.bin .add (.call 49 [] [(.idx (.var 0) (.con (.int 1))), (.con (.int 5))]) (.con (.str [42]))), (.con (.int 5)), (.var 1)])]
def q__law_expression_text : FD := ⟨topD 71 "_law_expression_text", ["e", "wanted", "own", "sign"], ["e", "wanted"]⟩
def d__law_expression_text : CDef := ⟨2, 4, b__law_expression_text⟩
def b__law_read : List CS := [
  .ifS (.val (.cmp .eq (.var 0) (.con (.str [112, 108, 97, 99, 101, 115])))) [.ret (.call 10 [] [(.var 1), (.var 2)])] [],
  .ifS (.val (.cmp .eq (.var 0) (.con (.str [109, 111, 109, 101, 110, 116, 115])))) [.ret (.call 18 [] [(.var 1), (.var 2)])] [],
  .ret (.call 23 [] [(.var 1), (.var 2)])]
def q__law_read : FD := ⟨topD 72 "_law_read", ["kind", "letters", "text"], ["kind", "letters", "text"]⟩
def d__law_read : CDef := ⟨3, 3, b__law_read⟩
def b__law_written : List CS := [
  .ifS (.val (.cmp .eq (.var 0) (.con (.str [112, 108, 97, 99, 101, 115])))) [.ret (.call 31 [] [(.var 1)])] [],
  .ifS (.val (.cmp .eq (.var 0) (.con (.str [109, 111, 109, 101, 110, 116, 115])))) [.ret (.call 33 [] [(.var 1)])] [],
  .ret (.call 35 [] [(.var 1)])]
def q__law_written : FD := ⟨topD 73 "_law_written", ["kind", "f"], ["kind", "f"]⟩
def d__law_written : CDef := ⟨2, 2, b__law_written⟩
def b_law : List CS := [
  .asg 1 (.call 38 [] [(.var 0), (.con (.int 0)), (.con (.int 2)), (.con (.int 720))]),
  .asg 2 (.bin .add (.con (.int 1)) (.bin .mod (.idx (.var 1) (.con (.int 0))) (.con (.int 3)))),
  .asg 3 (.tup [(.con (.str [106, 111, 105, 110])), (.con (.str [111, 114])), (.con (.str [97, 110, 100])), (.con (.str [110, 111, 116])), (.con (.str [114, 101, 112, 101, 97, 116])), (.con (.str [106, 111, 105, 110])), (.con (.str [111, 114]))]),
  .asg 4 (.lst [(.tup [(.con (.str [112, 108, 97, 99, 101, 115])), (.call 42 [true, false, false, false, false] [(.call 40 [] [(.var 0), (.con (.int 1)), (.con (.int 90))]), (.var 2), (.lst []), (.lst []), (.tup [(.con (.int 4)), (.con (.int 3))])])])]),
  .ex (.mm .append (.var 4) [(.tup [(.con (.str [109, 111, 109, 101, 110, 116, 115])), (.call 43 [true, false, false, false] [(.call 40 [] [(.var 0), (.con (.int 2)), (.con (.int 60))]), (.var 2), (.con (.int 4)), (.con (.bl true))])])]),
  .ex (.mm .append (.var 4) [(.tup [(.con (.str [101, 120, 112, 114, 101, 115, 115, 105, 111, 110])), (.call 44 [true, false, false, false] [(.call 40 [] [(.var 0), (.con (.int 3)), (.con (.int 60))]), (.var 2), (.con (.int 4)), (.var 3)])])]),
  .for_ (.t [5, 6]) (.var 4) [.asg 7 (.call 45 [] [(.var 6), (.var 5)]), .ifS (.or (.not (.val (.call 36 [] [(.call 51 [] [(.var 5), (.var 6)]), (.var 7)]))) (.not (.val (.call 36 [] [(.call 50 [] [(.var 5), (.var 2), (.var 7)]), (.var 6)])))) [.ret (.con (.bl false))] [], .asg 8 (.call 9 [] [(.var 7)]), .ifS (.jnr [] (.lc (.var 11) (.t [11, 12]) (.var 8) []) (.var 7) [32] []) [.ret (.con (.bl false))] [], .for_ (.t [11, 12]) (.var 8) [.ifS (.val (.cmp .ne (.slc (.var 7) (some (.var 12)) (some (.bin .add (.var 12) (.bc .len [(.var 11)])))) (.var 11))) [.ret (.con (.bl false))] []], .asg 9 (.bm .join (.con (.str [32, 32])) [(.lc (.var 11) (.t [11, 12]) (.var 8) [])]), .for_ (.n 10) (.lst [(.var 9), (.bin .add (.bin .add (.con (.str [32])) (.var 7)) (.con (.str [32]))), (.bin .add (.bin .add (.con (.str [40, 40])) (.var 7)) (.con (.str [41, 41]))), (.bin .add (.bin .add (.con (.str [40, 32])) (.var 9)) (.con (.str [32, 41])))]) [.ifS (.not (.val (.call 36 [] [(.call 50 [] [(.var 5), (.var 2), (.var 10)]), (.var 6)]))) [.ret (.con (.bl false))] []]],
  .ret (.con (.bl true))]
def q_law : FD := ⟨topD 74 "law", ["script", "shape", "letters", "kinds", "drawn", "kind", "f", "text", "found", "wide", "other", "token", "place"], ["script"]⟩
def d_law : CDef := ⟨1, 13, b_law⟩
def b_Reader___init__ : List CS := [
  .setF (.var 0) 9 (.slc (.glob 1) none (some (.var 1))),
  .setF (.var 0) 10 (.call 9 [] [(.var 2)]),
  .setF (.var 0) 11 (.bc .len [(.var 2)]),
  .setF (.var 0) 12 (.con (.int 0))]
def q_Reader___init__ : FD := ⟨memD 24 0 "Reader" "__init__" "Reader.__init__", ["self", "k", "text"], ["self", "k", "text"]⟩
def d_Reader___init__ : CDef := ⟨3, 3, b_Reader___init__⟩
def b_Reader_seen : List CS := [
  .ifS (.and (.val (.cmp .lt (.fld (.var 0) 12) (.bc .len [(.fld (.var 0) 10)]))) (.val (.isN true (.idx (.idx (.fld (.var 0) 10) (.fld (.var 0) 12)) (.con (.int 0)))))) [.ret (.idx (.idx (.fld (.var 0) 10) (.fld (.var 0) 12)) (.con (.int 0)))] [],
  .ret (.con (.str []))]
def q_Reader_seen : FD := ⟨memD 24 1 "Reader" "seen" "Reader.seen", ["self"], ["self"]⟩
def d_Reader_seen : CDef := ⟨1, 1, b_Reader_seen⟩
def b_Reader_fail : List CS := [
  .ifS (.val (.cmp .lt (.fld (.var 0) 12) (.bc .len [(.fld (.var 0) 10)]))) [.dead] [],
  .dead]
def q_Reader_fail : FD := ⟨memD 24 2 "Reader" "fail" "Reader.fail", ["self"], ["self"]⟩
def d_Reader_fail : CDef := ⟨1, 1, b_Reader_fail⟩
def b_Reader_take : List CS := [
  .asg 1 (.mth 0 0 (.var 0) [] []),
  .setF (.var 0) 12 (.bin .add (.fld (.var 0) 12) (.con (.int 1))),
  .ret (.var 1)]
def q_Reader_take : FD := ⟨memD 24 3 "Reader" "take" "Reader.take", ["self", "token"], ["self"]⟩
def d_Reader_take : CDef := ⟨1, 2, b_Reader_take⟩
def b_Reader_want : List CS := [
  .ifS (.val (.cmp .ne (.mth 0 0 (.var 0) [] []) (.var 1))) [.ex (.mth 0 1 (.var 0) [] [])] [],
  .setF (.var 0) 12 (.bin .add (.fld (.var 0) 12) (.con (.int 1)))]
def q_Reader_want : FD := ⟨memD 24 4 "Reader" "want" "Reader.want", ["self", "token"], ["self", "token"]⟩
def d_Reader_want : CDef := ⟨2, 2, b_Reader_want⟩
def b_Reader_is_letter : List CS := [
  .ret (.andE (.cmp .ne (.mth 0 0 (.var 0) [] []) (.con (.str []))) (.cmp .isIn (.mth 0 0 (.var 0) [] []) (.fld (.var 0) 9)))]
def q_Reader_is_letter : FD := ⟨memD 24 5 "Reader" "is_letter" "Reader.is_letter", ["self"], ["self"]⟩
def d_Reader_is_letter : CDef := ⟨1, 1, b_Reader_is_letter⟩
def b_Reader_want_place : List CS := [
  .ifS (.not (.val (.call 2 [] [(.mth 0 0 (.var 0) [] [])]))) [.ex (.mth 0 1 (.var 0) [] [])] [],
  .ret (.mth 0 2 (.var 0) [] [])]
def q_Reader_want_place : FD := ⟨memD 24 6 "Reader" "want_place" "Reader.want_place", ["self"], ["self"]⟩
def d_Reader_want_place : CDef := ⟨1, 1, b_Reader_want_place⟩
def b_Reader_want_set : List CS := [
  .ifS (.not (.val (.call 3 [] [(.mth 0 0 (.var 0) [] [])]))) [.ex (.mth 0 1 (.var 0) [] [])] [],
  .ret (.mth 0 2 (.var 0) [] [])]
def q_Reader_want_set : FD := ⟨memD 24 7 "Reader" "want_set" "Reader.want_set", ["self"], ["self"]⟩
def d_Reader_want_set : CDef := ⟨1, 1, b_Reader_want_set⟩
def b_Reader_want_number : List CS := [
  .ifS (.or (.not (.val (.call 5 [] [(.mth 0 0 (.var 0) [] [])]))) (.not (.val (.chain .le .le (.var 1) (.bc .int [(.mth 0 0 (.var 0) [] [])]) (.var 2))))) [.ex (.mth 0 1 (.var 0) [] [])] [],
  .ret (.bc .int [(.mth 0 2 (.var 0) [] [])])]
def q_Reader_want_number : FD := ⟨memD 24 8 "Reader" "want_number" "Reader.want_number", ["self", "low", "high"], ["self", "low", "high"]⟩
def d_Reader_want_number : CDef := ⟨3, 3, b_Reader_want_number⟩
def b_Reader_whole : List CS := [
  .ifS (.val (.cmp .lt (.fld (.var 0) 12) (.bc .len [(.fld (.var 0) 10)]))) [.ex (.mth 0 1 (.var 0) [] [])] [],
  .ret (.var 1)]
def q_Reader_whole : FD := ⟨memD 24 9 "Reader" "whole" "Reader.whole", ["self", "found"], ["self", "found"]⟩
def d_Reader_whole : CDef := ⟨2, 2, b_Reader_whole⟩
def fns : List FD := [q_is_word_sign, q_is_name_of, q_is_place_name, q_is_set_name, q_is_letter, q_is_number, q_is_word_token, q_word_end, q_token_at, q_tokens, q_read_places, q_places_then, q_places_or, q_places_and, q_places_part, q_places_bound, q_places_counted, q_places_relation, q_read_moments, q_moments_or, q_moments_and, q_moments_until, q_moments_part, q_read_expression, q_expression_or, q_expression_and, q_begins_part, q_expression_join, q_expression_part, q_expression_base, q_held_places, q_places_text, q_held_moments, q_moments_text, q_held_expression, q_expression_text, q__law_same, q__law_number, q__law_draws, q__law_pick, q__law_picks, q__law_base, q__law_sentence, q__law_moment, q__law_expression, q__law_print, q__law_held, q__law_places_text, q__law_moments_text, q__law_expression_text, q__law_read, q__law_written, q_law, q_Reader___init__, q_Reader_seen, q_Reader_fail, q_Reader_take, q_Reader_want, q_Reader_is_letter, q_Reader_want_place, q_Reader_want_set, q_Reader_want_number, q_Reader_whole]
def T : Tab := { defs := [d_is_word_sign, d_is_name_of, d_is_place_name, d_is_set_name, d_is_letter, d_is_number, d_is_word_token, d_word_end, d_token_at, d_tokens, d_read_places, d_places_then, d_places_or, d_places_and, d_places_part, d_places_bound, d_places_counted, d_places_relation, d_read_moments, d_moments_or, d_moments_and, d_moments_until, d_moments_part, d_read_expression, d_expression_or, d_expression_and, d_begins_part, d_expression_join, d_expression_part, d_expression_base, d_held_places, d_places_text, d_held_moments, d_moments_text, d_held_expression, d_expression_text, d__law_same, d__law_number, d__law_draws, d__law_pick, d__law_picks, d__law_base, d__law_sentence, d__law_moment, d__law_expression, d__law_print, d__law_held, d__law_places_text, d__law_moments_text, d__law_expression_text, d__law_read, d__law_written, d_law, d_Reader___init__, d_Reader_seen, d_Reader_fail, d_Reader_take, d_Reader_want, d_Reader_is_letter, d_Reader_want_place, d_Reader_want_set, d_Reader_want_number, d_Reader_whole], globs := [.tup [.str [115, 111, 109, 101], .str [97, 108, 108], .str [114, 101, 115, 116], .str [105, 110], .str [110, 111, 116], .str [97, 110, 100], .str [111, 114], .str [116, 104, 101, 110], .str [98, 111, 116, 104], .str [110, 101, 120, 116], .str [117, 110, 116, 105, 108], .str [115, 111, 111, 110], .str [101, 118, 101, 114], .str [98, 97, 99, 107], .str [115, 105, 110, 99, 101], .str [111, 110, 99, 101], .str [115, 116, 105, 108, 108], .str [101, 110, 100], .str [110, 111, 110, 101], .str [101, 109, 112, 116, 121]], .str [97, 98, 99], .str [117, 118, 119, 120, 121, 122], .str [85, 86, 87, 88, 89, 90], .str [48, 49, 50, 51, 52, 53, 54, 55, 56, 57], .str [40, 41, 60, 61, 43, 46, 124, 38, 126, 42], .int 3, .tup [.str [110, 111, 116], .str [110, 101, 120, 116], .str [115, 111, 111, 110], .str [101, 118, 101, 114], .str [98, 97, 99, 107], .str [111, 110, 99, 101], .str [115, 116, 105, 108, 108]], .int 9], meths := [((0, 0), 54), ((0, 1), 55), ((0, 2), 56), ((0, 3), 57), ((0, 4), 58), ((0, 5), 59), ((0, 6), 60), ((0, 7), 61), ((0, 8), 62)], inits := [(0, 53)], tabs := [[([60], .str [98, 101, 102, 111, 114, 101]), ([61], .str [115, 97, 109, 101]), ([43], .str [110, 101, 120, 116])], [([116, 104, 101, 110], .int 0), ([98, 111, 116, 104], .int 0), ([115, 111, 109, 101], .int 0), ([97, 108, 108], .int 0), ([115, 111, 109, 101, 115, 101, 116], .int 0), ([97, 108, 108, 115, 101, 116], .int 0), ([114, 101, 115, 116], .int 0), ([111, 114], .int 1), ([97, 110, 100], .int 2), ([110, 111, 116], .int 3)], [([111, 114], .int 1), ([97, 110, 100], .int 2), ([117, 110, 116, 105, 108], .int 3), ([115, 105, 110, 99, 101], .int 3), ([110, 111, 116], .int 4), ([110, 101, 120, 116], .int 4), ([115, 111, 111, 110], .int 4), ([101, 118, 101, 114], .int 4), ([98, 97, 99, 107], .int 4), ([111, 110, 99, 101], .int 4), ([115, 116, 105, 108, 108], .int 4)], [([111, 114], .int 1), ([97, 110, 100], .int 2), ([106, 111, 105, 110], .int 3), ([110, 111, 116], .int 4), ([114, 101, 112, 101, 97, 116], .int 5)], [([98, 101, 102, 111, 114, 101], .str [60]), ([115, 97, 109, 101], .str [61]), ([110, 101, 120, 116], .str [43]), ([119, 105, 116, 104, 105, 110], .str [105, 110])]] }
def tb : Tb := { fn := ((["is_word_sign", "is_name_of", "is_place_name", "is_set_name", "is_letter", "is_number", "is_word_token", "word_end", "token_at", "tokens", "read_places", "places_then"] : List PySem.Str) ++ (["places_or", "places_and", "places_part", "places_bound", "places_counted", "places_relation", "read_moments", "moments_or", "moments_and", "moments_until", "moments_part", "read_expression"] : List PySem.Str) ++ (["expression_or", "expression_and", "begins_part", "expression_join", "expression_part", "expression_base", "held_places", "places_text", "held_moments", "moments_text", "held_expression", "expression_text"] : List PySem.Str) ++ (["_law_same", "_law_number", "_law_draws", "_law_pick", "_law_picks", "_law_base", "_law_sentence", "_law_moment", "_law_expression", "_law_print", "_law_held", "_law_places_text"] : List PySem.Str) ++ (["_law_moments_text", "_law_expression_text", "_law_read", "_law_written", "law"] : List PySem.Str)), cl := ["Reader"], nm := ["seen", "fail", "take", "want", "is_letter", "want_place", "want_set", "want_number", "whole", "letters", "found", "end", "at"], gl := ["CLOSED_WORDS", "LETTERS", "PLACE_SIGNS", "SET_SIGNS", "FIGURES", "SIGNS", "MOST_NAME", "UNARY", "TIGHTEST"], fd := [9, 10, 11, 12], ini := [(0, 53)], mts := [((0, 0), 54), ((0, 1), 55), ((0, 2), 56), ((0, 3), 57), ((0, 4), 58), ((0, 5), 59), ((0, 6), 60), ((0, 7), 61), ((0, 8), 62)], tbn := ["RELATIONS_reading", "PLACE_LEVELS", "MOMENT_LEVELS", "EXPRESSION_LEVELS", "RELATIONS_printing"] }
end Pv.G

namespace Pv.G
open PySem PySem.Spec PyProof.Rows L2 Pv
variable {k : Nat} {M : Mem} {Q : D → Mem → Prop} {E : Exn → Mem → Prop}
/-! ### signs -/
def isW (c : Nat) : Bool := (decide (48 ≤ c) && decide (c ≤ 57)) || ((decide (65 ≤ c) && decide (c ≤ 90)) || (decide (97 ≤ c) && decide (c ≤ 122)))
theorem isW_all : ((List.range 128).all fun c => (Txt.isascii (strOf [c]) && Txt.isalnum (strOf [c])) == isW c) = true := by decide +kernel
theorem isW_eq {c : Nat} (h : c < 128) : (Txt.isascii (strOf [c]) && Txt.isalnum (strOf [c])) = isW c := eq_of_beq (List.all_eq_true.mp isW_all c (List.mem_range.mpr h))
theorem c_is_word_sign {c : Nat} (h : c < 128) (q : Q (.bl (isW c)) M) : Gam T (k + 1) 0 [.str [c]] M Q E := by
  refine ⟨d_is_word_sign, rfl, rfl, ?_⟩
  show wpSs T _ b_is_word_sign _ [some (.str [c])] M
  unfold b_is_word_sign
  refine st_ret (d := .bl (isW c)) (d' := .bl (isW c)) pure0 ?_ rfl (gc.here q)
  rw [← isW_eq h]
  exact ev_and rfl fun _ => rfl
def figs : List Nat := [48, 49, 50, 51, 52, 53, 54, 55, 56, 57]
def sgns : List Nat := [40, 41, 60, 61, 43, 46, 124, 38, 126, 42]
def isNm (t signs : List Nat) : Bool := match t with
  | [] => false
  | c :: r => (!(decide (3 < (c :: r).length) || !decide (c ∈ signs))) && !(r.any fun c => !decide (c ∈ figs))
theorem c_is_name_of {t signs : List Nat} (h : asc t = true) (q : Q (.bl (isNm t signs)) M) : Gam T (k + 1) 1 [.str t, .str signs] M Q E := by
  refine ⟨d_is_name_of, rfl, rfl, ?_⟩
  show wpSs T _ b_is_name_of _ [some (.str t), some (.str signs), none] M
  unfold b_is_name_of
  cases t with
  | nil =>
    refine st_if (b := true) pure0 ?_ ?_
    · exact evT_or (b := true) (b' := true) (evT_bl (ev_cmp (x := .str []) (y := .str []) rfl rfl (eq_str rfl rfl))) fun z => nomatch z
    · exact st_ret (d := .bl false) (d' := .bl false) pure0 rfl rfl (gc.here q)
  | cons c r =>
    have e1 : evT T (fun _ _ _ => none) (.val (.cmp .eq (.var 0) (.con (.str [])))) [some (.str (c :: r)), some (.str signs), none] M = some false := evT_bl (ev_cmp (x := .str (c :: r)) (y := .str []) rfl rfl (by
      show opCmp .eq (.str (c :: r)) (.str []) = _
      rw [eq_str h rfl]; rfl))
    have e2 : evT T (fun _ _ _ => none) (.val (.cmp .gt (.bc .len [(.var 0)]) (.glob 6))) [some (.str (c :: r)), some (.str signs), none] M = some (decide (3 < (c :: r).length)) := evT_bl (ev_cmp (x := .int (c :: r).length) (y := .int 3) rfl rfl (by
      show some (decide ((3 : Int) < ((c :: r).length : Int))) = _
      congr 1
      exact decide_eq_decide.mpr (by omega)))
    have e3 : evT T (fun _ _ _ => none) (.val (.cmp .notIn (.idx (.var 0) (.con (.int 0))) (.var 1))) [some (.str (c :: r)), some (.str signs), none] M = some (!decide (c ∈ signs)) := evT_bl (ev_cmp (x := .str [c]) (y := .str signs) (ev_idx (x := .str (c :: r)) (y := .int 0) rfl rfl (by
      show (L2.atI (c :: r) ((0 : Nat) : Int)).map _ = _
      rw [atI_nat]; rfl)) rfl rfl)
    refine st_if (b := decide (3 < (c :: r).length) || !decide (c ∈ signs)) pure0 ?_ ?_
    · rw [evT_or e1 fun _ => evT_or e2 fun _ => e3]
      cases decide (3 < (c :: r).length) <;> rfl
    have hq : isNm (c :: r) signs = ((!(decide (3 < (c :: r).length) || !decide (c ∈ signs))) && !(r.any fun c => !decide (c ∈ figs))) := rfl
    rw [hq] at q
    cases hb : (decide (3 < (c :: r).length) || !decide (c ∈ signs)) with
    | true =>
      rw [hb] at q
      exact st_ret (d := .bl false) (d' := .bl false) pure0 rfl rfl (gc.here q)
    | false =>
      rw [hb] at q
      refine st_ret (d := .bl (!(r.any fun c => !decide (c ∈ figs)))) (d' := .bl (!(r.any fun c => !decide (c ∈ figs)))) pure0 ?_ rfl (gc.here q)
      exact ev_any0 (p := fun c => !decide (c ∈ figs)) (g := fun c => D.str [c]) (ev_lcFM (T := T) (Φ := fun _ _ _ => none) (M := M) (σ := [some (.str (c :: r)), some (.str signs), none]) (it := .slc (.var 0) (some (.con (.int 1))) none) (e := .var 2) (c := .val (.cmp .notIn (.var 2) (.glob 4))) (tg := .n 2) (d := .str r) (l := r)
        (fun c => D.str [c]) (fun c => D.str [c]) (fun c => !decide (c ∈ figs)) (by
          show some (D.str (cutL (some ((1 : Nat) : Int)) none (c :: r))) = _
          rw [cut_drop (by simp)]; rfl) rfl rfl rfl fun x hx => ⟨_, rfl, evT_bl (ev_cmp (x := .str [x]) (y := .str figs) rfl rfl rfl), fun _ => ⟨_, rfl, rfl⟩⟩)
def pls : List Nat := [117, 118, 119, 120, 121, 122]
def sts : List Nat := [85, 86, 87, 88, 89, 90]
def abc : List Nat := [97, 98, 99]
theorem c_is_place_name {t : List Nat} (h : asc t = true) (q : Q (.bl (isNm t pls)) M) : Gam T (k + 2) 2 [.str t] M Q E := by
  refine ⟨d_is_place_name, rfl, rfl, ?_⟩
  show wpSs T _ b_is_place_name _ [some (.str t)] M
  unfold b_is_place_name
  exact st_retC (ds := [.str t, .str pls]) pure0 rfl (c_is_name_of h (gc.here q))
theorem c_is_set_name {t : List Nat} (h : asc t = true) (q : Q (.bl (isNm t sts)) M) : Gam T (k + 2) 3 [.str t] M Q E := by
  refine ⟨d_is_set_name, rfl, rfl, ?_⟩
  show wpSs T _ b_is_set_name _ [some (.str t)] M
  unfold b_is_set_name
  exact st_retC (ds := [.str t, .str sts]) pure0 rfl (c_is_name_of h (gc.here q))
def isOne (t y : List Nat) : Bool := match t with
  | [c] => decide (c ∈ y)
  | _ => false
theorem ev_isOne {T' : Tab} {Φ : Phi} {t y : List Nat} {g : Nat} (h : T'.globs[g]? = some (.str y)) : ev T' Φ (.andE (.cmp .eq (.bc .len [(.var 0)]) (.con (.int 1))) (.cmp .isIn (.var 0) (.glob g))) [some (.str t)] M = some (.bl (isOne t y)) := by
  have e1 : ev T' Φ (.cmp .eq (.bc .len [(.var 0)]) (.con (.int 1))) [some (.str t)] M = some (.bl (decide ((t.length : Int) = 1))) := ev_cmp (x := .int t.length) (y := .int 1) rfl rfl (eqIB _ _)
  match t, e1 with
  | [c], e1 => exact ev_and (x := true) (y := decide (c ∈ y)) e1 fun _ => ev_cmp (x := .str [c]) (y := .str y) rfl h rfl
  | [], e1 => exact ev_and (x := false) (y := false) e1 fun z => nomatch z
  | c :: d :: r, e1 =>
    have e : decide (((c :: d :: r).length : Int) = 1) = false := decide_eq_false (by simp only [List.length_cons]; omega)
    rw [e] at e1
    exact ev_and (x := false) (y := false) e1 fun z => nomatch z
theorem c_is_letter {t : List Nat} (q : Q (.bl (isOne t abc)) M) : Gam T (k + 1) 4 [.str t] M Q E := by
  refine ⟨d_is_letter, rfl, rfl, ?_⟩
  show wpSs T _ b_is_letter _ [some (.str t)] M
  unfold b_is_letter
  exact st_ret (d := .bl (isOne t abc)) (d' := .bl (isOne t abc)) pure0 (ev_isOne rfl) rfl (gc.here q)
theorem c_is_number {t : List Nat} (q : Q (.bl (isOne t figs)) M) : Gam T (k + 1) 5 [.str t] M Q E := by
  refine ⟨d_is_number, rfl, rfl, ?_⟩
  show wpSs T _ b_is_number _ [some (.str t)] M
  unfold b_is_number
  exact st_ret (d := .bl (isOne t figs)) (d' := .bl (isOne t figs)) pure0 (ev_isOne rfl) rfl (gc.here q)
def closed : List (List Nat) := [[115, 111, 109, 101], [97, 108, 108], [114, 101, 115, 116], [105, 110], [110, 111, 116], [97, 110, 100], [111, 114], [116, 104, 101, 110], [98, 111, 116, 104], [110, 101, 120, 116], [117, 110, 116, 105, 108], [115, 111, 111, 110], [101, 118, 101, 114], [98, 97, 99, 107], [115, 105, 110, 99, 101], [111, 110, 99, 101], [115, 116, 105, 108, 108], [101, 110, 100], [110, 111, 110, 101], [101, 109, 112, 116, 121]]
/-- token words -/
def isTok (t : List Nat) : Bool := (decide (t ∈ closed) || isOne t figs) || (isNm t pls || (isNm t sts || isOne t abc))
theorem c_is_word_token {t : List Nat} (h : asc t = true) (q : Q (.bl (isTok t)) M) : Gam T (k + 3) 6 [.str t] M Q E := by
  refine ⟨d_is_word_token, rfl, rfl, ?_⟩
  show wpSs T _ b_is_word_token _ [some (.str t)] M
  unfold b_is_word_token
  have hp : PureIn (phiS [(5, [.str t], .bl (isOne t figs)), (2, [.str t], .bl (isNm t pls)), (3, [.str t], .bl (isNm t sts)), (4, [.str t], .bl (isOne t abc))]) (Gam T (k + 2)) := pureS fun p hp M Q E q => by
    simp only [List.mem_cons, List.not_mem_nil, or_false] at hp
    rcases hp with rfl | rfl | rfl | rfl
    · exact c_is_number q
    · exact c_is_place_name h q
    · exact c_is_set_name h q
    · exact c_is_letter q
  have hv : ∀ Φ, evL T Φ [(.var 0)] [some (.str t)] M = some [.str t] := fun _ => rfl
  refine st_if (b := decide (t ∈ closed) || isOne t figs) hp ?_ ?_
  · have e1 : evT T (phiS [(5, [.str t], .bl (isOne t figs)), (2, [.str t], .bl (isNm t pls)), (3, [.str t], .bl (isNm t sts)), (4, [.str t], .bl (isOne t abc))]) (.val (.cmp .isIn (.var 0) (.glob 0))) [some (.str t)] M = some (decide (t ∈ closed)) :=
      evT_bl (ev_cmp (x := .str t) (y := .tup (closed.map .str)) rfl rfl (in_strs t closed))
    rw [evT_or e1 fun _ => evT_bl (ev_call (hv _) phiS_hd)]
    cases decide (t ∈ closed) <;> rfl
  have hq : isTok t = ((decide (t ∈ closed) || isOne t figs) || (isNm t pls || (isNm t sts || isOne t abc))) := rfl
  rw [hq] at q
  cases hb : decide (t ∈ closed) || isOne t figs with
  | true =>
    rw [hb] at q
    exact st_ret (d := .bl true) (d' := .bl true) pure0 rfl rfl (gc.here q)
  | false =>
    rw [hb] at q
    refine st_ret (d := .bl (isNm t pls || (isNm t sts || isOne t abc))) (d' := .bl (isNm t pls || (isNm t sts || isOne t abc))) hp ?_ rfl (gc.here q)
    exact ev_or (ev_call (hv _) (by rw [phiS_tl (by decide), phiS_hd])) fun _ => ev_or (ev_call (hv _) (by rw [phiS_tl (by decide), phiS_tl (by decide), phiS_hd])) fun _ => ev_call (hv _) (by rw [phiS_tl (by decide), phiS_tl (by decide), phiS_tl (by decide), phiS_hd])
/-! ### a word's end -/
theorem asc_get {x : List Nat} {i c : Nat} (h : asc x = true) (hi : x[i]? = some c) : c < 128 := of_decide_eq_true (List.all_eq_true.mp h c (List.mem_of_getElem? hi))
theorem c_word_end {a w b : List Nat} (h : asc (a ++ w ++ b) = true) (hw : w.all isW = true) (hb : ∀ c, b.head? = some c → isW c = false) (hz : (a ++ w ++ b).length ≤ 100000) (q : Q (.int (a.length + w.length : Nat)) M) :
    Gam T (k + 2) 7 [.str (a ++ w ++ b), .int a.length] M Q E := by
  refine ⟨d_word_end, rfl, rfl, ?_⟩
  show wpSs T _ b_word_end _ [some (.str (a ++ w ++ b)), some (.int a.length)] M
  unfold b_word_end
  generalize hx : a ++ w ++ b = x at *
  have hl : x.length = a.length + w.length + b.length := by rw [← hx, List.length_append, List.length_append]
  have hp : ∀ i c, x[i]? = some c → PureIn (phiS [(0, [.str [c]], .bl (isW c))]) (Gam T (k + 1)) := fun i c hi => pureS1 fun M Q E q => c_is_word_sign (asc_get h hi) q
  refine ⟨fun m σ M' => M' = M ∧ ∃ i : Nat, σ = [some (.str x), some (.int i)] ∧ a.length ≤ i ∧ i ≤ a.length + w.length ∧ m = a.length + w.length - i, ⟨_, rfl, a.length, rfl, Nat.le_refl _, by omega, rfl⟩, ?_⟩
  rintro m σ M' ⟨rfl, i, rfl, h1, h2, rfl⟩
  have e1 : ∀ Φ, evT T Φ (.val (.cmp .lt (.var 1) (.bc .len [(.var 0)]))) [some (.str x), some (.int i)] M' = some (decide (i < x.length)) := fun Φ => evT_bl (ev_cmp (x := .int i) (y := .int x.length) rfl (ev_len (d := .str x) rfl rfl) (by
    show some (decide ((i : Int) < (x.length : Int))) = _
    congr 1
    exact decide_eq_decide.mpr (by omega)))
  have e2 : ∀ c, x[i]? = some c → evT T (phiS [(0, [.str [c]], .bl (isW c))]) (.val (.call 0 [] [(.idx (.var 0) (.var 1))])) [some (.str x), some (.int i)] M' = some (isW c) := fun c hc => evT_bl (ev_call (evL_1 (x' := .str [c]) (ev_idx (x := .str x) (y := .int i) rfl rfl (by
    show (L2.atI x (i : Int)).map _ = _
    rw [atI_nat, hc]; rfl)) rfl) phiS_hd)
  by_cases hi : i < a.length + w.length
  · have hc : x[i]? = some (w[i - a.length]'(by omega)) := by
      rw [← hx, List.append_assoc, List.getElem?_append_right h1, List.getElem?_append_left (by omega), List.getElem?_eq_getElem]
    have hcw : isW (w[i - a.length]'(by omega)) = true := List.all_eq_true.mp hw _ (List.getElem_mem _)
    refine evT_ok (Φ := phiS [(0, [.str [w[i - a.length]'(by omega)]], .bl (isW (w[i - a.length]'(by omega))))]) (hp i _ hc) _ (b := true) ?_ ?_
    · show (evT T _ _ _ _).bind _ = _
      rw [e1, decide_eq_true (by omega)]
      show evT T _ _ _ _ = _
      rw [e2 _ hc, hcw]
    · rw [if_pos rfl]
      refine st_asg (d := .int (i + 1 : Nat)) pure0 rfl rfl ?_
      exact ⟨a.length + w.length - (i + 1), by omega, rfl, i + 1, rfl, by omega, by omega, rfl⟩
  · have hie : i = a.length + w.length := by omega
    have fin : wpSs T (Gam T (k + 1)) [.ret (.var 1)] { nx := fun σ M => gc Q .non M, rt := gc Q, ct := fun σ M => False, bk := fun σ M => False, ex := fun x σ M => E x M } [some (.str x), some (.int i)] M' := by
      rw [hie]
      exact st_ret (d := .int (a.length + w.length : Nat)) (d' := .int (a.length + w.length : Nat)) pure0 rfl rfl (gc.here q)
    by_cases hi2 : i < x.length
    · have hc : x[i]? = some (x[i]) := List.getElem?_eq_getElem hi2
      have hcw : isW x[i] = false := hb _ (by
        rw [List.head?_eq_getElem?, ← hc, ← hx, hie, List.getElem?_append_right (by rw [List.length_append]; omega)]
        congr 1
        rw [List.length_append]; omega)
      refine evT_ok (Φ := phiS [(0, [.str [x[i]]], .bl (isW x[i]))]) (hp i _ hc) _ (b := false) ?_ fin
      show (evT T _ _ _ _).bind _ = _
      rw [e1, decide_eq_true hi2]
      show evT T _ _ _ _ = _
      rw [e2 _ hc, hcw]
    · refine evT_ok (Φ := fun _ _ _ => none) pure0 _ (b := false) ?_ fin
      show (evT T _ _ _ _).bind _ = _
      rw [e1, decide_eq_false hi2]
      rfl
/-- the token that stands at a place -/
theorem c_token_sign {a b : List Nat} {c : Nat} (hc : c ∈ sgns) (q : Q (.str [c]) M) : Gam T (k + 1) 8 [.str (a ++ [c] ++ b), .int a.length] M Q E := by
  refine ⟨d_token_at, rfl, rfl, ?_⟩
  show wpSs T _ b_token_at _ [some (.str (a ++ [c] ++ b)), some (.int a.length), none] M
  unfold b_token_at
  have e0 : ∀ Φ, ev T Φ (.idx (.var 0) (.var 1)) [some (.str (a ++ [c] ++ b)), some (.int a.length), none] M = some (.str [c]) := fun Φ => ev_idx (x := .str (a ++ [c] ++ b)) (y := .int a.length) rfl rfl (by
    show (L2.atI (a ++ [c] ++ b) (a.length : Int)).map _ = _
    rw [atI_nat, List.append_assoc, List.getElem?_append_right (Nat.le_refl _), Nat.sub_self]; rfl)
  refine st_if (b := true) pure0 (evT_bl (ev_cmp (x := .str [c]) (y := .str sgns) (e0 _) rfl (by
    show opIn (.str [c]) (.str sgns) = _
    rw [in_sign, decide_eq_true hc]))) ?_
  exact st_ret (d := .str [c]) (d' := .str [c]) pure0 (e0 _) rfl (gc.here q)
theorem c_token_word {a w b : List Nat} (h : asc (a ++ w ++ b) = true) (h0 : w ≠ []) (hw : w.all isW = true) (ht : isTok w = true) (hb : ∀ c, b.head? = some c → isW c = false) (hz : (a ++ w ++ b).length ≤ 100000) (q : Q (.str w) M) :
    Gam T (k + 4) 8 [.str (a ++ w ++ b), .int a.length] M Q E := by
  obtain ⟨c, w', rfl⟩ := List.exists_cons_of_ne_nil h0
  have hcw : isW c = true := List.all_eq_true.mp hw c (List.mem_cons_self ..)
  have hcs : c ∉ sgns := fun hm => by
    have : ∀ c ∈ sgns, isW c = false := by decide
    rw [this c hm] at hcw
    cases hcw
  refine ⟨d_token_at, rfl, rfl, ?_⟩
  show wpSs T _ b_token_at _ [some (.str (a ++ (c :: w') ++ b)), some (.int a.length), none] M
  unfold b_token_at
  have hl : (a ++ (c :: w') ++ b)[a.length]? = some c := by
    rw [List.append_assoc, List.getElem?_append_right (Nat.le_refl _), Nat.sub_self]; rfl
  have e0 : ∀ Φ, ev T Φ (.idx (.var 0) (.var 1)) [some (.str (a ++ (c :: w') ++ b)), some (.int a.length), none] M = some (.str [c]) := fun Φ => ev_idx (x := .str (a ++ (c :: w') ++ b)) (y := .int a.length) rfl rfl (by
    show (L2.atI (a ++ (c :: w') ++ b) (a.length : Int)).map _ = _
    rw [atI_nat, hl]; rfl)
  have hp : PureIn (phiS [(0, [.str [c]], .bl true), (7, [.str (a ++ (c :: w') ++ b), .int a.length], .int (a.length + (c :: w').length : Nat)), (6, [.str (c :: w')], .bl true)]) (Gam T (k + 3)) := pureS fun p hp M Q E q => by
    simp only [List.mem_cons, List.not_mem_nil, or_false] at hp
    rcases hp with rfl | rfl | rfl
    · exact c_is_word_sign (asc_get h hl) (by rw [hcw]; exact q)
    · exact c_word_end h hw hb hz q
    · exact c_is_word_token (by rw [asc_app, asc_app, Bool.and_eq_true, Bool.and_eq_true] at h; exact h.1.2) (by rw [ht]; exact q)
  refine st_if (b := false) pure0 (evT_bl (ev_cmp (x := .str [c]) (y := .str sgns) (e0 _) rfl (by
    show opIn (.str [c]) (.str sgns) = _
    rw [in_sign, decide_eq_false hcs]))) ?_
  refine st_if (b := false) hp (evT_not (b := true) (evT_bl (ev_call (evL_1 (e0 _) rfl) phiS_hd))) ?_
  refine st_asg (d := .str (c :: w')) hp ?_ rfl ?_
  · have e1 : ev T (phiS [(0, [.str [c]], .bl true), (7, [.str (a ++ (c :: w') ++ b), .int a.length], .int (a.length + (c :: w').length : Nat)), (6, [.str (c :: w')], .bl true)]) (.call 7 [] [(.var 0), (.var 1)]) [some (.str (a ++ (c :: w') ++ b)), some (.int a.length), none] M = some (.int (a.length + (c :: w').length : Nat)) := ev_call (ds := [.str (a ++ (c :: w') ++ b), .int a.length]) rfl (by rw [phiS_tl (by decide), phiS_hd])
    show (some (some (a.length : Int))).bind (fun l => ((ev T _ (.call 7 [] [(.var 0), (.var 1)]) _ M).bind fun x => (intOf x).map some).bind _) = _
    rw [e1]
    show some (D.str (cutL (some (a.length : Int)) (some ((a.length + (c :: w').length : Nat) : Int)) (a ++ (c :: w') ++ b))) = _
    rw [cut_both (by simp only [List.length_append]; omega) (by simp only [List.length_append]; omega), List.append_assoc, List.drop_left, Nat.add_sub_cancel_left, List.take_left]
  show wpSs T _ _ _ [some (.str (a ++ (c :: w') ++ b)), some (.int a.length), some (.str (c :: w'))] M
  refine st_if (b := true) hp (evT_bl (ev_call (ds := [.str (c :: w')]) rfl (by rw [phiS_tl (by decide), phiS_tl (by decide), phiS_hd]))) ?_
  exact st_ret (d := .str (c :: w')) (d' := .str (c :: w')) pure0 rfl rfl (gc.here q)
end Pv.G

namespace Pv.G
open PySem PySem.Spec PyProof.Rows L2 Pv
variable {k : Nat} {M : Mem} {Q : D → Mem → Prop} {E : Exn → Mem → Prop}
/-! ### laid texts -/
abbrev It := List Nat
def isSg (x : It) : Bool := match x with
  | [c] => decide (c ∈ sgns)
  | _ => false
def isWd (x : It) : Bool := !x.isEmpty && (x.all isW && isTok x)
def okI (x : It) : Bool := decide (x = [32]) || (isSg x || isWd x)
def adj : List It → Bool
  | [] => true
  | [x] => okI x
  | x :: y :: r => (okI x && !(isWd x && isWd y)) && adj (y :: r)
def toks : Nat → List It → List (It × Nat)
  | _, [] => []
  | a, x :: r => if x = [32] then toks (a + 1) r else (x, a) :: toks (a + x.length) r
def encT (p : It × Nat) : D := .tup [.str p.1, .int p.2]
theorem adj_tail {x : It} {r : List It} (h : adj (x :: r) = true) : adj r = true := by
  cases r with
  | nil => rfl
  | cons y r =>
    unfold adj at h
    rw [Bool.and_eq_true] at h
    exact h.2
theorem adj_drop : ∀ {pre r : List It}, adj (pre ++ r) = true → adj r = true
  | [], r, h => h
  | x :: pre, r, h => adj_drop (pre := pre) (adj_tail h)
theorem adj_ok : ∀ {its : List It}, adj its = true → ∀ x ∈ its, okI x = true
  | [], _, x, hx => nomatch hx
  | [y], h, x, hx => by
    rw [List.mem_singleton] at hx
    subst hx; exact h
  | y :: z :: r, h, x, hx => by
    have h' := h
    unfold adj at h'
    simp only [Bool.and_eq_true] at h'
    rcases List.mem_cons.mp hx with rfl | hx
    · exact h'.1.1
    · exact adj_ok h'.2 x hx
theorem sg_of {x : It} (h : isSg x = true) : ∃ c, x = [c] ∧ c ∈ sgns := by
  match x, h with
  | [c], h => exact ⟨c, rfl, of_decide_eq_true h⟩
theorem wd_of {x : It} (h : isWd x = true) : x ≠ [] ∧ x.all isW = true ∧ isTok x = true := by
  unfold isWd at h
  rw [Bool.and_eq_true, Bool.and_eq_true] at h
  exact ⟨fun e => by rw [e] at h; exact Bool.noConfusion h.1, h.2⟩
theorem ok_of {x : It} (h : okI x = true) : x = [32] ∨ isSg x = true ∨ isWd x = true := by
  unfold okI at h
  rw [Bool.or_eq_true, Bool.or_eq_true, decide_eq_true_iff] at h
  exact h
theorem sg_lt {c : Nat} (h : c ∈ sgns) : c < 128 ∧ isW c = false ∧ c ≠ 32 := by
  have : ∀ c ∈ sgns, c < 128 ∧ isW c = false ∧ c ≠ 32 := by decide
  exact this c h
theorem w_lt {c : Nat} (h : isW c = true) : c < 128 ∧ c ≠ 32 := by
  unfold isW at h
  simp only [Bool.or_eq_true, Bool.and_eq_true, decide_eq_true_iff] at h
  omega
theorem ok_asc {x : It} (h : okI x = true) : asc x = true := by
  rcases ok_of h with rfl | h | h
  · rfl
  · obtain ⟨c, rfl, hc⟩ := sg_of h
    show (decide (c < 128) && true) = true
    rw [decide_eq_true (sg_lt hc).1]; rfl
  · obtain ⟨_, h2, _⟩ := wd_of h
    exact List.all_eq_true.mpr fun c hc => decide_eq_true (w_lt (List.all_eq_true.mp h2 c hc)).1
theorem ok_ne {x : It} (h : okI x = true) : x ≠ [] := fun e => by subst e; exact absurd h (by decide)
theorem asc_flat {its : List It} (h : ∀ x ∈ its, okI x = true) : asc its.flatten = true := by
  induction its with
  | nil => rfl
  | cons x r ih =>
    rw [List.flatten_cons, asc_app, ok_asc (h x (List.mem_cons_self ..)), ih fun y hy => h y (List.mem_cons_of_mem _ hy)]
    rfl
theorem toks_snoc {x : It} : ∀ {pre : List It} {a : Nat}, toks a (pre ++ [x]) = toks a pre ++ (if x = [32] then [] else [(x, a + pre.flatten.length)])
  | [], a => by
    show (if x = [32] then [] else [(x, a)]) = [] ++ _
    simp
  | y :: pre, a => by
    show (if y = [32] then toks (a + 1) (pre ++ [x]) else (y, a) :: toks (a + y.length) (pre ++ [x])) = (if y = [32] then toks (a + 1) pre else (y, a) :: toks (a + y.length) pre) ++ _
    rw [List.flatten_cons, List.length_append, ← Nat.add_assoc]
    by_cases h : y = [32]
    · rw [if_pos h, if_pos h, toks_snoc, h]; rfl
    · rw [if_neg h, if_neg h, toks_snoc]; rfl
theorem toks_len : ∀ {its : List It} {a : Nat}, (toks a its).length ≤ its.length
  | [], a => Nat.le_refl _
  | x :: r, a => by
    show (if x = [32] then toks (a + 1) r else (x, a) :: toks (a + x.length) r).length ≤ _
    have := toks_len (its := r) (a := a + 1)
    have := toks_len (its := r) (a := a + x.length)
    split
    · simp only [List.length_cons]; omega
    · simp only [List.length_cons]; omega
theorem flat_len : ∀ {its : List It}, (∀ x ∈ its, x ≠ []) → its.length ≤ its.flatten.length
  | [], _ => Nat.le_refl _
  | x :: r, h => by
    have := flat_len (its := r) fun y hy => h y (List.mem_cons_of_mem _ hy)
    have := List.length_pos_iff.mpr (h x (List.mem_cons_self ..))
    rw [List.flatten_cons, List.length_append, List.length_cons]
    omega
theorem next_head {x : It} {r : List It} (h : adj (x :: r) = true) (hw : isWd x = true) (c : Nat) (hc : r.flatten.head? = some c) : isW c = false := by
  cases r with
  | nil => exact nomatch hc
  | cons y r =>
    have h' := h
    unfold adj at h'
    simp only [Bool.and_eq_true, Bool.not_eq_true', hw, Bool.true_and] at h'
    have hy := adj_ok h y (List.mem_cons_of_mem _ (List.mem_cons_self ..))
    rcases ok_of hy with rfl | hs | hw'
    · cases hc; rfl
    · obtain ⟨d, rfl, hd⟩ := sg_of hs
      cases hc
      exact (sg_lt hd).2.1
    · rw [h'.1.2] at hw'; cases hw'
theorem c_tokens {its : List It} (h : adj its = true) (hz : its.flatten.length ≤ 100000) (q : Q (.ol ((toks 0 its).map encT)) M) : Gam T (k + 5) 9 [.str its.flatten] M Q E := by
  refine ⟨d_tokens, rfl, rfl, ?_⟩
  show wpSs T _ b_tokens _ [some (.str its.flatten), none, none, none] M
  unfold b_tokens
  have hA := adj_ok h
  have hasc := asc_flat hA
  have hlen := flat_len fun x hx => ok_ne (hA x hx)
  refine st_asg (d := .ol []) pure0 rfl rfl ?_
  refine st_asg (d := .int (0 : Nat)) pure0 rfl rfl ?_
  show wpSs T _ _ _ [some (.str its.flatten), some (.ol []), some (.int (0 : Nat)), none] M
  generalize ht : its.flatten = t at *
  refine ⟨fun m σ M' => M' = M ∧ ∃ (pre post : List It) (x3 : Option D), its = pre ++ post ∧ m = post.length ∧ σ = [some (.str t), some (.ol ((toks 0 pre).map encT)), some (.int (pre.flatten.length : Nat)), x3], ⟨_, rfl, [], its, none, rfl, rfl, rfl⟩, ?_⟩
  rintro m σ M' ⟨rfl, pre, post, x3, hits, rfl, rfl⟩
  have hfl : t = pre.flatten ++ post.flatten := by rw [← ht, hits, List.flatten_append]
  have hp0 : ∀ x ∈ post, okI x = true := fun x hx => hA x (by rw [hits]; exact List.mem_append_right _ hx)
  have e1 : evT T (fun _ _ _ => none) (.val (.cmp .lt (.var 2) (.bc .len [(.var 0)]))) [some (.str t), some (.ol ((toks 0 pre).map encT)), some (.int (pre.flatten.length : Nat)), x3] M' = some (decide (pre.flatten.length < t.length)) := evT_bl (ev_cmp (x := .int (pre.flatten.length : Nat)) (y := .int t.length) rfl (ev_len (d := .str t) rfl rfl) (by
    show some (decide ((pre.flatten.length : Int) < (t.length : Int))) = _
    congr 1
    exact decide_eq_decide.mpr (by omega)))
  refine evT_ok (Φ := fun _ _ _ => none) pure0 _ e1 ?_
  cases post with
  | nil =>
    have e : decide (pre.flatten.length < t.length) = false := decide_eq_false (by rw [hfl]; simp)
    rw [e]
    have e2 : its = pre := by rw [hits, List.append_nil]
    refine st_ret (d := .slot 1) (d' := .ol ((toks 0 pre).map encT)) pure0 rfl rfl (gc.here ?_)
    rw [← e2]; exact q
  | cons x r =>
    have hx := hp0 x (List.mem_cons_self ..)
    have hxl := List.length_pos_iff.mpr (ok_ne hx)
    have e : decide (pre.flatten.length < t.length) = true := decide_eq_true (by rw [hfl, List.flatten_cons]; simp only [List.length_append]; omega)
    rw [e, if_pos rfl]
    have had : adj (x :: r) = true := adj_drop (pre := pre) (by rw [← hits]; exact h)
    obtain ⟨c, x', rfl⟩ := List.exists_cons_of_ne_nil (ok_ne hx)
    have htc : t = pre.flatten ++ (c :: x') ++ r.flatten := by rw [hfl, List.flatten_cons, List.append_assoc]
    have hget : t[pre.flatten.length]? = some c := by
      rw [htc, List.append_assoc, List.getElem?_append_right (Nat.le_refl _), Nat.sub_self]; rfl
    have e3 : evT T (fun _ _ _ => none) (.val (.cmp .eq (.idx (.var 0) (.var 2)) (.con (.str [32])))) [some (.str t), some (.ol ((toks 0 pre).map encT)), some (.int (pre.flatten.length : Nat)), x3] M' = some (decide ([c] = [32])) := evT_bl (ev_cmp (x := .str [c]) (y := .str [32]) (ev_idx (x := .str t) (y := .int (pre.flatten.length : Nat)) rfl rfl (by
      show (L2.atI t (pre.flatten.length : Int)).map _ = _
      rw [atI_nat, hget]; rfl)) rfl (eq_str (by
        show (decide (c < 128) && true) = true
        rw [decide_eq_true (asc_get hasc hget)]; rfl) rfl))
    refine st_if (b := decide ([c] = [32])) pure0 e3 ?_
    have hpl : (toks 0 pre).length < SZ := by
      have := toks_len (its := pre) (a := 0)
      have : its.length = pre.length + (r.length + 1) := by rw [hits, List.length_append, List.length_cons]
      show _ < 16777216
      omega
    by_cases hb : c :: x' = [32]
    · obtain ⟨rfl, rfl⟩ := List.cons.inj hb
      refine st_asg (d := .int (pre.flatten.length + 1 : Nat)) pure0 rfl rfl ?_
      refine ⟨r.length, by rw [List.length_cons]; omega, rfl, pre ++ [[32]], r, x3, by rw [hits, List.append_assoc]; rfl, rfl, ?_⟩
      rw [toks_snoc, if_pos rfl, List.append_nil, List.flatten_append, List.length_append]
      rfl
    · have hne : ¬ ([c] = [32]) := by
        intro e
        cases e
        rcases ok_of hx with h' | h' | h'
        · exact hb h'
        · obtain ⟨d, e, hd⟩ := sg_of h'
          cases e
          exact (sg_lt hd).2.2 rfl
        · have := (w_lt (List.all_eq_true.mp (wd_of h').2.1 32 (List.mem_cons_self ..))).2
          exact this rfl
      rw [decide_eq_false hne, if_neg (by decide)]
      have hcall' : ∀ (Q' : D → Mem → Prop) (E' : Exn → Mem → Prop), Q' (.str (c :: x')) M' → Gam T (k + 4) 8 [.str t, .int pre.flatten.length] M' Q' E' := fun Q' E' q' => by
        rcases ok_of hx with h' | h' | h'
        · exact absurd h' hb
        · obtain ⟨d, e, hd⟩ := sg_of h'
          cases e
          rw [htc]
          exact c_token_sign hd q'
        · obtain ⟨h1, h2, h3⟩ := wd_of h'
          rw [htc]
          exact c_token_word (by rw [← htc]; exact hasc) h1 h2 h3 (next_head had h') (by rw [← htc]; exact hz) q'
      refine st_call (ds := [.str t, .int pre.flatten.length]) pure0 rfl (hcall' _ _ ?_)
      show wpSs T _ _ _ [some (.str t), some (.ol ((toks 0 pre).map encT)), some (.int (pre.flatten.length : Nat)), some (.str (c :: x'))] M'
      refine st_app (j := 1) (xs := (toks 0 pre).map encT) (d := encT (c :: x', pre.flatten.length)) (d' := encT (c :: x', pre.flatten.length)) pure0 rfl rfl rfl (by rw [List.length_map]; exact hpl) ?_
      show wpSs T _ _ _ [some (.str t), some (.ol ((toks 0 pre).map encT ++ [encT (c :: x', pre.flatten.length)])), some (.int (pre.flatten.length : Nat)), some (.str (c :: x'))] M'
      refine st_if (b := false) pure0 rfl ?_
      show wpSs T _ _ _ [some (.str t), some (.ol ((toks 0 pre).map encT ++ [encT (c :: x', pre.flatten.length)])), some (.int (pre.flatten.length : Nat)), some (.str (c :: x'))] M'
      refine st_asg (d := .int (pre.flatten.length + (c :: x').length : Nat)) pure0 (ev_bin (x := .int (pre.flatten.length : Nat)) (y := .int (c :: x').length) rfl rfl rfl) rfl ?_
      refine ⟨r.length, by rw [List.length_cons]; omega, rfl, pre ++ [c :: x'], r, some (.str (c :: x')), by rw [hits, List.append_assoc]; rfl, rfl, ?_⟩
      rw [toks_snoc, if_neg hb, List.map_append, List.flatten_append, List.length_append]
      simp
end Pv.G

namespace Pv.G
open PySem PySem.Spec PyProof.Rows L2 Pv
variable {n k : Nat} {M : Mem} {Q : D → Mem → Prop} {E : Exn → Mem → Prop} {p : PySem.Addr} {L t : It} {rest : List It}
/-! ### the reader -/
def rfs (L : It) (q : PySem.Addr) (e : Int) (i : Nat) : List (Nat × D) := [(9, .str L), (10, .ref q), (11, .int e), (12, .int i)]
def Rd (M : Mem) (p : PySem.Addr) (L : It) (rest : List It) : Prop := ∃ (q : PySem.Addr) (e : Int) (i : Nat) (fnd : List (It × Nat)),
  M p = some (.ins 0 (rfs L q e i)) ∧ M q = some (.l (fnd.map encT)) ∧ rest = (fnd.drop i).map (·.1) ∧ ∀ x ∈ fnd, asc x.1 = true
def hd (rest : List It) : It := rest.headD []
theorem Rd.asc (h : Rd M p L rest) : asc (hd rest) = true := by
  obtain ⟨q, e, i, fnd, h1, h2, rfl, h4⟩ := h
  cases hh : fnd.drop i with
  | nil => rfl
  | cons x r =>
    show Pv.asc x.1 = true
    exact h4 x (List.drop_subset i fnd (by rw [hh]; exact List.mem_cons_self ..))
theorem ev_fld {Φ : Phi} {σ : St} {fs : List (Nat × D)} {x : Nat} {d : D} (h0 : σ[0]? = some (some (.ref p))) (hM : M p = some (.ins 0 fs)) (hx : fs.lookup x = some d) : ev T Φ (.fld (.var 0) x) σ M = some d := by
  show (ev T Φ (.var 0) σ M).bind _ = _
  rw [ev_var h0 rfl]
  show (match M p with
      | some (.ins C fs) => if (T.inits.lookup C).isSome = true then fs.lookup x else none
      | _ => none) = _
  rw [hM]
  exact hx
theorem c_seen (h : Rd M p L rest) (q : Q (.str (hd rest)) M) : Gam T (k + 1) 54 [.ref p] M Q E := by
  obtain ⟨a, e, i, fnd, h1, h2, h3, h4⟩ := h
  refine ⟨d_Reader_seen, rfl, rfl, ?_⟩
  show wpSs T _ b_Reader_seen _ [some (.ref p)] M
  unfold b_Reader_seen
  have f12 : ∀ Φ, ev T Φ (.fld (.var 0) 12) [some (.ref p)] M = some (.int i) := fun Φ => ev_fld rfl h1 rfl
  have f10 : ∀ Φ, ev T Φ (.fld (.var 0) 10) [some (.ref p)] M = some (.ref a) := fun Φ => ev_fld rfl h1 rfl
  have e1 : evT T (fun _ _ _ => none) (.val (.cmp .lt (.fld (.var 0) 12) (.bc .len [(.fld (.var 0) 10)]))) [some (.ref p)] M = some (decide (i < fnd.length)) := evT_bl (ev_cmp (x := .int i) (y := .int fnd.length) (f12 _) (ev_len (f10 _) (by
    show opB .len [match M a with
    | some (.l xs) => .lst xs
    | some (.d kvs) => .dct kvs
    | _ => .ref a] = _
    rw [h2]
    show some (D.int (fnd.map encT).length) = _
    rw [List.length_map])) (by
    show some (decide ((i : Int) < (fnd.length : Int))) = _
    congr 1
    exact decide_eq_decide.mpr (by omega)))
  by_cases hi : i < fnd.length
  · have hr : hd rest = fnd[i].1 := by
      rw [h3, List.drop_eq_getElem_cons hi]; rfl
    have e2 : ∀ Φ, ev T Φ (.idx (.idx (.fld (.var 0) 10) (.fld (.var 0) 12)) (.con (.int 0))) [some (.ref p)] M = some (.str (hd rest)) := fun Φ => ev_idx (x := encT fnd[i]) (y := .int 0) (ev_idx (f10 _) (f12 _) (by
      show opIdx (match M a with
      | some (.l xs) => .lst xs
      | some (.d kvs) => .dct kvs
      | _ => .ref a) (.int i) = _
      rw [h2]
      show L2.atI (fnd.map encT) (i : Int) = _
      exact atI_map (List.getElem?_eq_getElem hi))) rfl (by rw [hr]; rfl)
    refine st_if (b := true) pure0 ?_ ?_
    · show (evT T _ _ _ _).bind _ = _
      rw [e1, decide_eq_true hi]
      show (((ev T _ (.idx (.idx (.fld (.var 0) 10) (.fld (.var 0) 12)) (.con (.int 0))) [some (.ref p)] M).map _).bind _) = _
      rw [e2]; rfl
    · exact st_ret (d := .str (hd rest)) (d' := .str (hd rest)) pure0 (e2 _) rfl (gc.here q)
  · have hr : hd rest = [] := by
      rw [h3, List.drop_of_length_le (by omega)]; rfl
    refine st_if (b := false) pure0 ?_ ?_
    · show (evT T _ _ _ _).bind _ = _
      rw [e1, decide_eq_false hi]; rfl
    · rw [hr] at q
      exact st_ret (d := .str []) (d' := .str []) pure0 rfl rfl (gc.here q)
/-- a method's call -/
theorem w_mth {σ : St} {De : Kx} {Q : Kt} {m f : Nat} {es : List CE} (h0 : σ[0]? = some (some (.ref p))) (h : Rd M p L rest) (hm : ∀ q e i, (rfs L q e i).lookup m = none) (hf : T.meths.lookup (0, m) = some f) {Γ : FSem} (hA : wpA T Γ De [] es σ M fun ds σ M => Γ f (.ref p :: ds) M (fun d M' => Q d σ M') fun x M' => De x σ M') : wpE T Γ De (.mth 0 m (.var 0) [] es) σ M Q := by
  obtain ⟨q, e, i, fnd, h1, h2, h3, h4⟩ := h
  refine i_mth (w_ev (ev_var h0 rfl) ?_)
  exact ⟨p, _, f, rfl, h1, hm q e i, hf, hA⟩
theorem w_seen {σ : St} {De : Kx} {Q : Kt} (h : Rd M p L rest) (hn : 1 ≤ n) (h0 : σ[0]? = some (some (.ref p))) (q : Q (.str (hd rest)) σ M) : wpE T (Gam T n) De (.mth 0 0 (.var 0) [] []) σ M Q := by
  obtain ⟨n, rfl⟩ : ∃ m, n = m + 1 := ⟨n - 1, by omega⟩
  exact w_mth h0 h (fun _ _ _ => rfl) rfl (c_seen h q)
theorem putN_at {L : It} {q : PySem.Addr} {e : Int} {i : Nat} {v : Nat} : putN 12 (.int v) (rfs L q e i) = rfs L q e v := rfl
theorem Rd.next (h : Rd M p L (t :: rest)) {q : PySem.Addr} {e : Int} {i : Nat} (h1 : M p = some (.ins 0 (rfs L q e i))) : Rd (mset M p (.ins 0 (rfs L q e (i + 1 : Nat)))) p L rest := by
  obtain ⟨q', e', i', fnd, h1', h2, h3, h4⟩ := h
  rw [h1'] at h1
  have h1 : MO.ins 0 (rfs L q' e' i') = MO.ins 0 (rfs L q e i) := Option.some.inj h1
  have hq : q' = q ∧ e' = e ∧ i' = i := by
    have := MO.ins.inj h1
    have h := this.2
    unfold rfs at h
    simp only [List.cons.injEq, Prod.mk.injEq, D.ref.injEq, D.int.injEq] at h
    exact ⟨h.2.1.2, h.2.2.1.2, by omega⟩
  obtain ⟨rfl, rfl, rfl⟩ := hq
  have hne : q' ≠ p := fun e => by rw [e, h1'] at h2; cases h2
  refine ⟨q', e', i' + 1, fnd, mset_same, by rw [mset_ne hne]; exact h2, ?_, h4⟩
  have : rest = ((fnd.drop i').map (·.1)).tail := by rw [← h3]; rfl
  rw [this, ← List.map_tail, List.tail_drop]
/-- self.at = self.at + 1 -/
theorem st_at {σ : St} {Γ : FSem} {De : EndsD} {r : List CS} (h : Rd M p L (t :: rest)) (h0 : σ[0]? = some (some (.ref p))) (q : ∀ M', Rd M' p L rest → wpSs T Γ r De σ M') : wpSs T Γ (.setF (.var 0) 12 (.bin .add (.fld (.var 0) 12) (.con (.int 1))) :: r) De σ M := by
  have h' := h
  obtain ⟨a, e, i, fnd, h1, h2, h3, h4⟩ := h
  refine i_setF (w_ev (d := .int (i + 1 : Nat)) (ev_bin (x := .int i) (y := .int 1) (ev_fld h0 h1 rfl) rfl rfl) ?_)
  refine boxd_v (fun i => nofun) rfl (w_ev (ev_var h0 rfl) ?_)
  refine ⟨p, 0, _, rfl, h1, rfl, (by show 4 < 100; decide), ?_⟩
  exact q _ (h'.next h1)
theorem c_take (h : Rd M p L (t :: rest)) (q : ∀ M', Rd M' p L rest → Q (.str t) M') : Gam T (k + 2) 56 [.ref p] M Q E := by
  refine ⟨d_Reader_take, rfl, rfl, ?_⟩
  show wpSs T _ b_Reader_take _ [some (.ref p), none] M
  unfold b_Reader_take
  refine i_asg (w_seen (n := k + 1) h (by omega) rfl ?_)
  show wpSs T _ _ _ [some (.ref p), some (.str t)] M
  refine st_at h rfl fun M' h' => ?_
  exact st_ret (d := .str t) (d' := .str t) pure0 rfl rfl (gc.here (q _ h'))
theorem w_take {σ : St} {De : Kx} {Q : Kt} (h : Rd M p L (t :: rest)) (hn : 2 ≤ n) (h0 : σ[0]? = some (some (.ref p))) (q : ∀ M', Rd M' p L rest → Q (.str t) σ M') : wpE T (Gam T n) De (.mth 0 2 (.var 0) [] []) σ M Q := by
  obtain ⟨n, rfl⟩ : ∃ m, n = m + 2 := ⟨n - 2, by omega⟩
  exact w_mth h0 h (fun _ _ _ => rfl) rfl (c_take h q)
theorem c_want (h : Rd M p L (t :: rest)) (q : ∀ M', Rd M' p L rest → Q .non M') : Gam T (k + 2) 57 [.ref p, .str t] M Q E := by
  refine ⟨d_Reader_want, rfl, rfl, ?_⟩
  show wpSs T _ b_Reader_want _ [some (.ref p), some (.str t)] M
  unfold b_Reader_want
  refine i_if (i_val (i_cmp (w_seen (n := k + 1) h (by omega) rfl (w_var (d := .str t) rfl rfl ?_))))
  have ha : asc t = true := h.asc
  refine ⟨false, ?_, false, rfl, go_skip ?_⟩
  · show opCmp .ne (.str t) (.str t) = _
    rw [ne_str ha ha]; simp
  refine st_at h rfl fun M' h' => ?_
  exact gc.here (q _ h')
theorem w_want {σ : St} {De : Kx} {Q : Kt} (h : Rd M p L (t :: rest)) (hn : 2 ≤ n) (h0 : σ[0]? = some (some (.ref p))) (q : ∀ M', Rd M' p L rest → Q .non σ M') : wpE T (Gam T n) De (.mth 0 3 (.var 0) [] [(.con (.str t))]) σ M Q := by
  obtain ⟨n, rfl⟩ : ∃ m, n = m + 2 := ⟨n - 2, by omega⟩
  exact w_mth h0 h (fun _ _ _ => rfl) rfl (c_want h q)
def isIn3 (t L : It) : Bool := match t with
  | [c] => decide (c ∈ L)
  | _ => false
/-- tokens that the readers meet: one sign, or none of them begins in the alphabet -/
def plain1 (t : It) : Bool := match t with
  | [] => true
  | [_] => true
  | x => !decide (PySem.Builtin.Str.occurrences (strOf [97]) (strOf x) 0 1 1 ≠ []) && (PySem.Builtin.Str.occurrences (strOf [97, 98]) (strOf x) 0 2 1).isEmpty && (PySem.Builtin.Str.occurrences (strOf [97, 98, 99]) (strOf x) 0 3 1).isEmpty && (PySem.Builtin.Str.occurrences (strOf [97]) (strOf x) 0 1 1).isEmpty
def isAl (L : It) : Prop := L = [97] ∨ L = [97, 98] ∨ L = [97, 98, 99]
theorem in_al {t L : It} (h : isAl L) (ht : plain1 t = true) (h0 : t ≠ []) : opIn (.str t) (.str L) = some (isIn3 t L) := by
  match t, ht, h0 with
  | [c], _, _ => rfl
  | c :: d :: r, ht, _ =>
    have e : opIn (.str (c :: d :: r)) (.str L) = some (!(PySem.Builtin.Str.occurrences (strOf L) (strOf (c :: d :: r)) 0 (strOf L).length 1).isEmpty) := rfl
    rw [e]
    unfold plain1 at ht
    simp only [Bool.and_eq_true] at ht
    rcases h with rfl | rfl | rfl
    · have := ht.2
      show some (!(PySem.Builtin.Str.occurrences (strOf [97]) (strOf (c :: d :: r)) 0 1 1).isEmpty) = some false
      rw [this]; rfl
    · have := ht.1.1.2
      show some (!(PySem.Builtin.Str.occurrences (strOf [97, 98]) (strOf (c :: d :: r)) 0 2 1).isEmpty) = some false
      rw [this]; rfl
    · have := ht.1.2
      show some (!(PySem.Builtin.Str.occurrences (strOf [97, 98, 99]) (strOf (c :: d :: r)) 0 3 1).isEmpty) = some false
      rw [this]; rfl
theorem c_isl (h : Rd M p L rest) (hL : isAl L) (ht : plain1 (hd rest) = true) (q : Q (.bl (isIn3 (hd rest) L)) M) : Gam T (k + 2) 58 [.ref p] M Q E := by
  refine ⟨d_Reader_is_letter, rfl, rfl, ?_⟩
  show wpSs T _ b_Reader_is_letter _ [some (.ref p)] M
  unfold b_Reader_is_letter
  refine i_ret (i_andE (i_cmp (w_seen (n := k + 1) h (by omega) rfl (w_ev (d := .str []) rfl ?_))))
  refine ⟨!decide (hd rest = []), ?_, ?_⟩
  · show opCmp .ne (.str (hd rest)) (.str []) = _
    rw [ne_str h.asc rfl]
  refine ⟨_, rfl, ?_⟩
  by_cases h0 : hd rest = []
  · rw [h0] at q
    rw [h0, decide_eq_true rfl]
    exact gc.here q
  · rw [decide_eq_false h0]
    refine go_t ?_
    refine i_cmp (w_seen (n := k + 1) h (by omega) rfl ?_)
    obtain ⟨a, e, i, fnd, h1, h2, h3, h4⟩ := h
    refine w_ev (d := .str L) (ev_fld rfl h1 rfl) ?_
    exact ⟨_, in_al hL ht h0, gc.here q⟩
theorem w_isl {σ : St} {De : Kx} {Q : Kt} (h : Rd M p L rest) (hL : isAl L) (ht : plain1 (hd rest) = true) (hn : 2 ≤ n) (h0 : σ[0]? = some (some (.ref p))) (q : Q (.bl (isIn3 (hd rest) L)) σ M) : wpE T (Gam T n) De (.mth 0 4 (.var 0) [] []) σ M Q := by
  obtain ⟨n, rfl⟩ : ∃ m, n = m + 2 := ⟨n - 2, by omega⟩
  exact w_mth h0 h (fun _ _ _ => rfl) rfl (c_isl h hL ht q)
theorem c_want_place (h : Rd M p L (t :: rest)) (ht : isNm t pls = true) (q : ∀ M', Rd M' p L rest → Q (.str t) M') : Gam T (k + 3) 59 [.ref p] M Q E := by
  refine ⟨d_Reader_want_place, rfl, rfl, ?_⟩
  show wpSs T _ b_Reader_want_place _ [some (.ref p)] M
  unfold b_Reader_want_place
  refine i_if (i_not (i_val (i_call (i_A (w_seen (n := k + 2) h (by omega) rfl ?_)))))
  refine c_is_place_name h.asc ?_
  refine ⟨true, by show truth (.bl (isNm t pls)) = _; rw [ht]; rfl, ?_⟩
  show wpSs T _ _ _ [some (.ref p)] M
  exact i_ret (w_take (n := k + 2) h (by omega) rfl fun M' h' => gc.here (q _ h'))
theorem w_place {σ : St} {De : Kx} {Q : Kt} (h : Rd M p L (t :: rest)) (ht : isNm t pls = true) (hn : 3 ≤ n) (h0 : σ[0]? = some (some (.ref p))) (q : ∀ M', Rd M' p L rest → Q (.str t) σ M') : wpE T (Gam T n) De (.mth 0 5 (.var 0) [] []) σ M Q := by
  obtain ⟨n, rfl⟩ : ∃ m, n = m + 3 := ⟨n - 3, by omega⟩
  exact w_mth h0 h (fun _ _ _ => rfl) rfl (c_want_place h ht q)
theorem c_want_set (h : Rd M p L (t :: rest)) (ht : isNm t sts = true) (q : ∀ M', Rd M' p L rest → Q (.str t) M') : Gam T (k + 3) 60 [.ref p] M Q E := by
  refine ⟨d_Reader_want_set, rfl, rfl, ?_⟩
  show wpSs T _ b_Reader_want_set _ [some (.ref p)] M
  unfold b_Reader_want_set
  refine i_if (i_not (i_val (i_call (i_A (w_seen (n := k + 2) h (by omega) rfl ?_)))))
  refine c_is_set_name h.asc ?_
  refine ⟨true, by show truth (.bl (isNm t sts)) = _; rw [ht]; rfl, ?_⟩
  show wpSs T _ _ _ [some (.ref p)] M
  exact i_ret (w_take (n := k + 2) h (by omega) rfl fun M' h' => gc.here (q _ h'))
theorem w_set {σ : St} {De : Kx} {Q : Kt} (h : Rd M p L (t :: rest)) (ht : isNm t sts = true) (hn : 3 ≤ n) (h0 : σ[0]? = some (some (.ref p))) (q : ∀ M', Rd M' p L rest → Q (.str t) σ M') : wpE T (Gam T n) De (.mth 0 6 (.var 0) [] []) σ M Q := by
  obtain ⟨n, rfl⟩ : ∃ m, n = m + 3 := ⟨n - 3, by omega⟩
  exact w_mth h0 h (fun _ _ _ => rfl) rfl (c_want_set h ht q)
theorem int_fig {v : Nat} (h : v < 10) : bInt (.str [48 + v]) = some (.int v) := by
  have : ∀ v < 10, (PySem.intText? (strOf [48 + v])) = some (v : Int) := by decide +kernel
  show (PySem.intText? (strOf [48 + v])).map D.int = _
  rw [this v h]; rfl
theorem c_want_number {v : Nat} {lo hi : Int} (h : Rd M p L ([48 + v] :: rest)) (hv : v < 10) (h1 : lo ≤ v) (h2 : (v : Int) ≤ hi) (q : ∀ M', Rd M' p L rest → Q (.int v) M') : Gam T (k + 3) 61 [.ref p, .int lo, .int hi] M Q E := by
  refine ⟨d_Reader_want_number, rfl, rfl, ?_⟩
  show wpSs T _ b_Reader_want_number _ [some (.ref p), some (.int lo), some (.int hi)] M
  unfold b_Reader_want_number
  have hf : isOne [48 + v] figs = true := by
    have : ∀ v < 10, isOne [48 + v] figs = true := by decide
    exact this v hv
  refine i_if (i_or (i_not (i_val (i_call (i_A (w_seen (n := k + 2) h (by omega) rfl ?_))))))
  refine c_is_number ?_
  refine ⟨true, by show truth (.bl (isOne [48 + v] figs)) = _; rw [hf]; rfl, ?_⟩
  refine go_f (i_not (i_val ?_))
  refine i_chain (w_var (d := .int lo) rfl rfl (i_bc (i_V (w_seen (n := k + 2) h (by omega) rfl ?_))))
  refine ⟨.int v, int_fig hv, ?_⟩
  refine ⟨lo, v, true, rfl, rfl, by show some (decide (lo ≤ v)) = _; rw [decide_eq_true h1], ?_⟩
  refine go_t (w_var (d := .int hi) rfl rfl ?_)
  refine ⟨true, by show some (decide ((v : Int) ≤ hi)) = _; rw [decide_eq_true h2], true, rfl, go_skip ?_⟩
  refine i_ret (i_bc (i_V (w_take (n := k + 2) h (by omega) rfl fun M' h' => ?_)))
  exact ⟨.int v, int_fig hv, gc.here (q _ h')⟩
theorem w_number {σ : St} {De : Kx} {Q : Kt} {v : Nat} {lo hi : Int} {es : List CE} (h : Rd M p L ([48 + v] :: rest)) (hv : v < 10) (h1 : lo ≤ v) (h2 : (v : Int) ≤ hi) (hn : 3 ≤ n) (h0 : σ[0]? = some (some (.ref p))) (he : evL T (fun _ _ _ => none) es σ M = some [.int lo, .int hi]) (q : ∀ M', Rd M' p L rest → Q (.int v) σ M') : wpE T (Gam T n) De (.mth 0 7 (.var 0) [] es) σ M Q := by
  obtain ⟨n, rfl⟩ : ∃ m, n = m + 3 := ⟨n - 3, by omega⟩
  exact w_mth h0 h (fun _ _ _ => rfl) rfl (evA_ok pure0 es he (c_want_number h hv h1 h2 q))
theorem c_whole {d : D} (h : Rd M p L []) (hd0 : d.own = false) (hs : ∀ i, d ≠ .slot i) (q : Q d M) : Gam T (k + 1) 62 [.ref p, d] M Q E := by
  obtain ⟨a, e, i, fnd, h1, h2, h3, h4⟩ := h
  refine ⟨d_Reader_whole, rfl, rfl, ?_⟩
  show wpSs T _ b_Reader_whole _ [some (.ref p), some d] M
  unfold b_Reader_whole
  have hi : fnd.length ≤ i := by
    have := congrArg List.length h3
    rw [List.length_map, List.length_drop, List.length_nil] at this
    omega
  refine st_if (b := false) pure0 (evT_bl (ev_cmp (x := .int i) (y := .int fnd.length) (ev_fld rfl h1 rfl) (ev_len (d := .ref a) (ev_fld rfl h1 rfl) (by
    show opB .len [match M a with
    | some (.l xs) => .lst xs
    | some (.d kvs) => .dct kvs
    | _ => .ref a] = _
    rw [h2]
    show some (D.int (fnd.map encT).length) = _
    rw [List.length_map])) (by
    show some (decide ((i : Int) < (fnd.length : Int))) = _
    rw [decide_eq_false (by omega)]))) ?_
  refine st_ret (d := d) (d' := d) pure0 (ev_var rfl hd0) ?_ (gc.here q)
  cases d <;> first | rfl | (cases hd0; done) | exact absurd rfl (hs _)
end Pv.G

namespace Pv.G
open PySem PySem.Spec PyProof.Rows L2 Pv
/-! ### what a def of the reader reads -/
def Ps (F N : Nat) (L : It) (xs : List It) (ds : List D) (A : List It) : Prop :=
  ∀ (n : Nat) (M : Mem) (p : PySem.Addr) (rest : List It) (Q : D → Mem → Prop) (E : Exn → Mem → Prop), N ≤ n → Rd M p L (xs ++ rest) → hd rest ∈ A → (∀ M', Rd M' p L rest → Q (.tup ds) M') → Gam T n F [.ref p] M Q E
theorem Ps.mono {F N N' : Nat} {L : It} {xs : List It} {ds : List D} {A A' : List It} (h : Ps F N L xs ds A) (hn : N ≤ N') (hA : A' ⊆ A) : Ps F N' L xs ds A' :=
  fun n M p rest Q E hN hR hr q => h n M p rest Q E (by omega) hR (hA hr) q
section
variable {F G N : Nat} {L op nm : It} {A A' B : List It} {sep : List It}
def foldO (nm : It) (a : List D) (o : List It × List D) : List D := [.str nm, .tup a, .tup o.2]
def Ch (G N : Nat) (L : It) (A B sep : List It) (nm : It) (xs : List It) (ds : List D) : Prop :=
  ∃ (x0 : List It) (d0 : List D) (ops : List (List It × List D)), Ps G N L x0 d0 A ∧ (∀ o ∈ ops, Ps G N L o.1 o.2 A) ∧ (∀ o ∈ ops, (hd (sep ++ o.1) ∈ A ∧ sep ++ o.1 ≠ []) ∧ hd (sep ++ o.1) ∈ B) ∧ xs = x0 ++ (ops.flatMap fun o => sep ++ o.1) ∧ ds = ops.foldl (foldO nm) d0
theorem Ch.one {xs : List It} {ds : List D} (h : Ps G N L xs ds A) : Ch G N L A B sep nm xs ds := ⟨xs, ds, [], h, fun _ z => (nomatch z), fun _ z => (nomatch z), (List.append_nil _).symm, rfl⟩
theorem Ch.snoc {xs ys : List It} {ds es : List D} (h : Ch G N L A B sep nm xs ds) (h2 : Ps G N L ys es A) (h3 : (hd (sep ++ ys) ∈ A ∧ sep ++ ys ≠ []) ∧ hd (sep ++ ys) ∈ B) : Ch G N L A B sep nm (xs ++ (sep ++ ys)) [.str nm, .tup ds, .tup es] := by
  obtain ⟨x0, d0, ops, h1, h4, h6, rfl, rfl⟩ := h
  refine ⟨x0, d0, ops ++ [(ys, es)], h1, ?_, ?_, ?_, ?_⟩
  · intro o ho
    rcases List.mem_append.mp ho with ho | ho
    · exact h4 o ho
    · rw [List.mem_singleton] at ho; subst ho; exact h2
  · intro o ho
    rcases List.mem_append.mp ho with ho | ho
    · exact h6 o ho
    · rw [List.mem_singleton] at ho; subst ho; exact h3
  · rw [List.flatMap_append, List.flatMap_singleton, List.append_assoc]
  · rw [List.foldl_append]; rfl
theorem Ch.mono {N' : Nat} {xs : List It} {ds : List D} (h : Ch G N L A B sep nm xs ds) (hn : N ≤ N') : Ch G N' L A B sep nm xs ds := by
  obtain ⟨x0, d0, ops, h1, h4, h6, h7, h8⟩ := h
  exact ⟨x0, d0, ops, h1.mono hn fun _ z => z, fun o ho => (h4 o ho).mono hn fun _ z => z, h6, h7, h8⟩
theorem hd_app {xs rest : List It} (h : xs ≠ []) : hd (xs ++ rest) = hd xs := by
  cases xs with
  | nil => exact absurd rfl h
  | cons x r => rfl
theorem hd_ops {ops : List (List It × List D)} {rest : List It} (h : ∀ o ∈ ops, hd (sep ++ o.1) ∈ A ∧ sep ++ o.1 ≠ []) (hr : hd rest ∈ A) : hd ((ops.flatMap fun o => sep ++ o.1) ++ rest) ∈ A := by
  cases ops with
  | nil => exact hr
  | cons o r =>
    have := h o (List.mem_cons_self ..)
    rw [List.flatMap_cons, List.append_assoc, hd_app this.2]
    exact this.1
def loopB (G : Nat) (op nm : It) : List CS := [.asg 1 (.call G [] [(.var 0)]), .whl (.val (.cmp .eq (.mth 0 0 (.var 0) [] []) (.con (.str op)))) [.ex (.mth 0 2 (.var 0) [] []), .asg 1 (.tup [(.con (.str nm)), (.var 1), (.call G [] [(.var 0)])])], .ret (.var 1)]
theorem Ch.ps (hF : T.defs[F]? = some ⟨1, 2, loopB G op nm⟩) (hN : 3 ≤ N) (ho : asc op = true) (hA : A' ⊆ A) (hno : op ∉ A') {xs : List It} {ds : List D} (h : Ch G N L A [op] [op] nm xs ds) : Ps F (N + 1) L xs ds A' := by
  intro n M p rest Q E hn hR hr q
  obtain ⟨n, rfl⟩ : ∃ m, n = m + 1 := ⟨n - 1, by omega⟩
  obtain ⟨x0, d0, ops, h1, h4, h6', rfl, rfl⟩ := h
  have h6 : ∀ o ∈ ops, hd ([op] ++ o.1) ∈ A ∧ [op] ++ o.1 ≠ [] := fun o ho => (h6' o ho).1
  clear h6'
  refine ⟨_, hF, rfl, ?_⟩
  show wpSs T (Gam T n) (loopB G op nm) _ [some (.ref p), none] M
  rw [List.append_assoc] at hR
  refine i_asg (w_call (ds := [.ref p]) rfl (h1 n M p _ _ _ (by omega) hR (hd_ops h6 (hA hr)) fun M1 h' => ?_))
  clear hR h1
  show wpSs T _ _ _ [some (.ref p), some (.tup d0)] M1
  refine ⟨fun m σ M' => ∃ (ops : List (List It × List D)) (a : List D), m = ops.length ∧ σ = [some (.ref p), some (.tup a)] ∧ Rd M' p L ((ops.flatMap fun o => [op] ++ o.1) ++ rest) ∧ (∀ o ∈ ops, Ps G N L o.1 o.2 A) ∧ (∀ o ∈ ops, hd ([op] ++ o.1) ∈ A ∧ [op] ++ o.1 ≠ []) ∧ (∀ M', Rd M' p L rest → Q (.tup (ops.foldl (foldO nm) a)) M'), ⟨_, ops, d0, rfl, rfl, h', h4, h6, q⟩, ?_⟩
  clear h' h4 h6 q ops d0
  rintro m σ M' ⟨ops, a, rfl, rfl, hR, h4, h6, q⟩
  cases ops with
  | nil =>
    have hR : Rd M' p L rest := hR
    refine i_val (i_cmp (w_seen (n := n) hR (by omega) rfl (w_ev (d := .str op) rfl ?_)))
    have hne : hd rest ≠ op := fun e => hno (e ▸ hr)
    refine ⟨false, by show opCmp .eq (.str (hd rest)) (.str op) = _; rw [eq_str hR.asc ho, decide_eq_false hne], false, rfl, go_f ?_⟩
    exact st_ret (d := .tup a) (d' := .tup a) pure0 rfl rfl (gc.here (q _ hR))
  | cons o ops =>
    refine i_val (i_cmp (w_seen (n := n) hR (by omega) rfl (w_ev (d := .str op) rfl ?_)))
    refine ⟨true, by show opCmp .eq (.str op) (.str op) = _; rw [eq_str ho ho, decide_eq_true rfl], true, rfl, go_t ?_⟩
    have e : (((o :: ops).flatMap fun o => [op] ++ o.1) ++ rest) = op :: (o.1 ++ ((ops.flatMap fun o => [op] ++ o.1) ++ rest)) := by
      rw [List.flatMap_cons, List.append_assoc, List.append_assoc]; rfl
    rw [e] at hR
    refine i_ex (w_take (n := n) hR (by omega) rfl fun M1 h1 => ?_)
    refine i_asg (i_tup (L_ev (d := .str nm) rfl rfl (L_ev (d := .tup a) rfl rfl (i_L (w_call (ds := [.ref p]) rfl ?_)))))
    refine h4 o (List.mem_cons_self ..) n M1 p _ _ _ (by omega) h1 (hd_ops (fun o ho => h6 o (List.mem_cons_of_mem _ ho)) (hA hr)) fun M2 h2 => ?_
    refine ⟨by show 3 ≤ 16777216; decide, ?_⟩
    refine ⟨ops.length, by rw [List.length_cons]; omega, ops, foldO nm a o, rfl, rfl, h2, fun o ho => h4 o (List.mem_cons_of_mem _ ho), fun o ho => h6 o (List.mem_cons_of_mem _ ho), q⟩
/-- two kinds that stand on the right -/
def sideB (G F : Nat) (o1 o2 : It) : List CS := [.asg 1 (.call G [] [(.var 0)]), .ifS (.val (.cmp .isIn (.mth 0 0 (.var 0) [] []) (.tup [(.con (.str o1)), (.con (.str o2))]))) [.asg 2 (.mth 0 2 (.var 0) [] []), .ret (.tup [(.var 2), (.var 1), (.call F [] [(.var 0)])])] [], .ret (.var 1)]
theorem side_one {o1 o2 : It} (hF : T.defs[F]? = some ⟨1, 3, sideB G F o1 o2⟩) (hN : 3 ≤ N) (hA : A' ⊆ A) (hno : o1 ∉ A' ∧ o2 ∉ A') {xs : List It} {ds : List D} (h : Ps G N L xs ds A) : Ps F (N + 1) L xs ds A' := by
  intro n M p rest Q E hn hR hr q
  obtain ⟨n, rfl⟩ : ∃ m, n = m + 1 := ⟨n - 1, by omega⟩
  refine ⟨_, hF, rfl, ?_⟩
  show wpSs T (Gam T n) (sideB G F o1 o2) _ [some (.ref p), none, none] M
  refine i_asg (w_call (ds := [.ref p]) rfl (h n M p _ _ _ (by omega) hR (hA hr) fun M1 h1 => ?_))
  show wpSs T _ _ _ [some (.ref p), some (.tup ds), none] M1
  refine i_if (i_val (i_cmp (w_seen (n := n) h1 (by omega) rfl (w_ev (d := .tup ([o1, o2].map .str)) rfl ?_))))
  refine ⟨false, ?_, false, rfl, go_skip ?_⟩
  · show opIn (.str (hd rest)) (.tup ([o1, o2].map .str)) = _
    rw [in_strs, decide_eq_false fun e => ?_]
    rcases List.mem_cons.mp e with e | e
    · exact hno.1 (e ▸ hr)
    · rw [List.mem_singleton] at e; exact hno.2 (e ▸ hr)
  · exact st_ret (d := .tup ds) (d' := .tup ds) pure0 rfl rfl (gc.here (q _ h1))
theorem side_two {o1 o2 o : It} (hF : T.defs[F]? = some ⟨1, 3, sideB G F o1 o2⟩) (hN : 3 ≤ N) (ho : o ∈ [o1, o2]) (hA : o ∈ A) {xs ys : List It} {ds es : List D} (h : Ps G N L xs ds A) (h2 : Ps F N L ys es A') : Ps F (N + 1) L (xs ++ o :: ys) [.str o, .tup ds, .tup es] A' := by
  intro n M p rest Q E hn hR hr q
  obtain ⟨n, rfl⟩ : ∃ m, n = m + 1 := ⟨n - 1, by omega⟩
  refine ⟨_, hF, rfl, ?_⟩
  show wpSs T (Gam T n) (sideB G F o1 o2) _ [some (.ref p), none, none] M
  rw [List.append_assoc] at hR
  refine i_asg (w_call (ds := [.ref p]) rfl (h n M p _ _ _ (by omega) hR hA fun M1 h1 => ?_))
  show wpSs T _ _ _ [some (.ref p), some (.tup ds), none] M1
  refine i_if (i_val (i_cmp (w_seen (n := n) h1 (by omega) rfl (w_ev (d := .tup ([o1, o2].map .str)) rfl ?_))))
  refine ⟨true, ?_, true, rfl, go_t ?_⟩
  · show opIn (.str o) (.tup ([o1, o2].map .str)) = _
    rw [in_strs, decide_eq_true ho]
  · refine i_asg (w_take (n := n) h1 (by omega) rfl fun M2 h2' => ?_)
    show wpSs T _ _ _ [some (.ref p), some (.tup ds), some (.str o)] M2
    refine i_ret (i_tup (L_ev (d := .str o) rfl rfl (L_ev (d := .tup ds) rfl rfl (i_L (w_call (ds := [.ref p]) rfl ?_)))))
    refine h2 n M2 p _ _ _ (by omega) h2' hr fun M3 h3 => ?_
    exact ⟨by show 3 ≤ 16777216; decide, gc.here (q _ h3)⟩
/-! one behind the other -/
def bgs : List It := [[126], [40], [110, 111, 110, 101], [101, 109, 112, 116, 121]]
theorem c_begins {k : Nat} {M : Mem} {Q : D → Mem → Prop} {E : Exn → Mem → Prop} {p : PySem.Addr} {rest : List It} (h : Rd M p L rest) (hL : isAl L) (ht : plain1 (hd rest) = true) (q : Q (.bl (isIn3 (hd rest) L || decide (hd rest ∈ bgs))) M) : Gam T (k + 3) 26 [.ref p] M Q E := by
  refine ⟨d_begins_part, rfl, rfl, ?_⟩
  show wpSs T _ b_begins_part _ [some (.ref p)] M
  unfold b_begins_part
  refine i_ret (i_orE (w_isl (n := k + 2) h hL ht (by omega) rfl ?_))
  refine ⟨_, rfl, ?_⟩
  cases hb : isIn3 (hd rest) L with
  | true =>
    rw [hb] at q
    exact go_t (gc.here q)
  | false =>
    rw [hb] at q
    refine go_f (i_cmp (w_seen (n := k + 2) h (by omega) rfl (w_ev (d := .tup (bgs.map .str)) rfl ?_)))
    exact ⟨_, in_strs (hd rest) bgs, gc.here q⟩
def joinB (G : Nat) (nm : It) : List CS := [.asg 1 (.call G [] [(.var 0)]), .whl (.val (.call 26 [] [(.var 0)])) [.asg 1 (.tup [(.con (.str nm)), (.var 1), (.call G [] [(.var 0)])])], .ret (.var 1)]
theorem Ch.pj (hF : T.defs[F]? = some ⟨1, 2, joinB G nm⟩) (hN : 4 ≤ N) (hL : isAl L) (hA : A' ⊆ A) (hB : ∀ t ∈ B, plain1 t = true ∧ (isIn3 t L || decide (t ∈ bgs)) = true) (hno : ∀ t ∈ A', plain1 t = true ∧ (isIn3 t L || decide (t ∈ bgs)) = false) {xs : List It} {ds : List D} (h : Ch G N L A B [] nm xs ds) : Ps F (N + 1) L xs ds A' := by
  intro n M p rest Q E hn hR hr q
  obtain ⟨n, rfl⟩ : ∃ m, n = m + 4 := ⟨n - 4, by omega⟩
  obtain ⟨x0, d0, ops, h1, h4, h6, rfl, rfl⟩ := h
  refine ⟨_, hF, rfl, ?_⟩
  show wpSs T (Gam T (n + 3)) (joinB G nm) _ [some (.ref p), none] M
  rw [List.append_assoc] at hR
  have hA6 : ∀ {ops : List (List It × List D)}, (∀ o ∈ ops, (hd ([] ++ o.1) ∈ A ∧ [] ++ o.1 ≠ []) ∧ hd ([] ++ o.1) ∈ B) → ∀ o ∈ ops, hd ([] ++ o.1) ∈ A ∧ [] ++ o.1 ≠ [] := fun h o ho => (h o ho).1
  refine i_asg (w_call (ds := [.ref p]) rfl (h1 (n + 3) M p _ _ _ (by omega) hR (hd_ops (hA6 h6) (hA hr)) fun M1 h' => ?_))
  clear hR h1
  show wpSs T _ _ _ [some (.ref p), some (.tup d0)] M1
  refine ⟨fun m σ M' => ∃ (ops : List (List It × List D)) (a : List D), m = ops.length ∧ σ = [some (.ref p), some (.tup a)] ∧ Rd M' p L ((ops.flatMap fun o => [] ++ o.1) ++ rest) ∧ (∀ o ∈ ops, Ps G N L o.1 o.2 A) ∧ (∀ o ∈ ops, (hd ([] ++ o.1) ∈ A ∧ [] ++ o.1 ≠ []) ∧ hd ([] ++ o.1) ∈ B) ∧ (∀ M', Rd M' p L rest → Q (.tup (ops.foldl (foldO nm) a)) M'), ⟨_, ops, d0, rfl, rfl, h', h4, h6, q⟩, ?_⟩
  clear h' h4 h6 q ops d0
  rintro m σ M' ⟨ops, a, rfl, rfl, hR, h4, h6, q⟩
  cases ops with
  | nil =>
    have hR : Rd M' p L rest := hR
    refine i_val (w_call (ds := [.ref p]) rfl (c_begins hR hL (hno _ hr).1 ?_))
    refine ⟨false, by show truth (.bl (isIn3 (hd rest) L || decide (hd rest ∈ bgs))) = _; rw [(hno _ hr).2]; rfl, go_f ?_⟩
    exact st_ret (d := .tup a) (d' := .tup a) pure0 rfl rfl (gc.here (q _ hR))
  | cons o ops =>
    have h6o := h6 o (List.mem_cons_self ..)
    have e : (((o :: ops).flatMap fun o => [] ++ o.1) ++ rest) = (o.1 ++ ((ops.flatMap fun o => [] ++ o.1) ++ rest)) := by
      rw [List.flatMap_cons, List.append_assoc]; rfl
    have eh : hd (((o :: ops).flatMap fun o => [] ++ o.1) ++ rest) = hd o.1 := by rw [e]; exact hd_app h6o.1.2
    have hb := hB _ h6o.2
    refine i_val (w_call (ds := [.ref p]) rfl (c_begins hR hL (by rw [eh]; exact hb.1) ?_))
    rw [eh]
    refine ⟨true, by show truth (.bl (isIn3 (hd ([] ++ o.1)) L || decide (hd ([] ++ o.1) ∈ bgs))) = _; rw [hb.2]; rfl, go_t ?_⟩
    rw [e] at hR
    refine i_asg (i_tup (L_ev (d := .str nm) rfl rfl (L_ev (d := .tup a) rfl rfl (i_L (w_call (ds := [.ref p]) rfl ?_)))))
    refine h4 o (List.mem_cons_self ..) (n + 3) M' p _ _ _ (by omega) hR (hd_ops (hA6 fun o ho => h6 o (List.mem_cons_of_mem _ ho)) (hA hr)) fun M2 h2 => ?_
    refine ⟨by show 3 ≤ 16777216; decide, ?_⟩
    refine ⟨ops.length, by rw [List.length_cons]; omega, ops, foldO nm a o, rfl, rfl, h2, fun o ho => h4 o (List.mem_cons_of_mem _ ho), fun o ho => h6 o (List.mem_cons_of_mem _ ho), q⟩
/-- tests of a token at hand -/
theorem evT_eq {Φ : Phi} {σ : St} {M : Mem} {i : Nat} {t c : It} {b : Bool} (h : σ[i]? = some (some (.str t))) (ht : asc t = true) (hc : asc c = true) (hb : decide (t = c) = b) : evT T Φ (.val (.cmp .eq (.var i) (.con (.str c)))) σ M = some b :=
  evT_bl (ev_cmp (x := .str t) (y := .str c) (ev_var h rfl) rfl (by show opCmp .eq (.str t) (.str c) = _; rw [eq_str ht hc, hb]))
theorem evT_in {Φ : Phi} {σ : St} {M : Mem} {i : Nat} {t : It} {l : List It} {e : CE} {b : Bool} (h : σ[i]? = some (some (.str t))) (he : ev T Φ e σ M = some (.tup (l.map .str))) (hb : decide (t ∈ l) = b) : evT T Φ (.val (.cmp .isIn (.var i) e)) σ M = some b :=
  evT_bl (ev_cmp (x := .str t) (y := .tup (l.map .str)) (ev_var h rfl) he (by show opIn (.str t) (.tup (l.map .str)) = _; rw [in_strs, hb]))
end
end Pv.G

namespace Pv.G
open PySem PySem.Spec PyProof.Rows L2 Pv
/-! ### sentences of places -/
abbrev kThen : It := [116, 104, 101, 110]
abbrev kBoth : It := [98, 111, 116, 104]
abbrev kOr : It := [111, 114]
abbrev kAnd : It := [97, 110, 100]
abbrev kNot : It := [110, 111, 116]
abbrev kSome : It := [115, 111, 109, 101]
abbrev kAll : It := [97, 108, 108]
abbrev kSet : It := [115, 101, 116]
abbrev kRest : It := [114, 101, 115, 116]
abbrev kIn : It := [105, 110]
abbrev kLetter : It := [108, 101, 116, 116, 101, 114]
abbrev kBefore : It := [98, 101, 102, 111, 114, 101]
abbrev kSame : It := [115, 97, 109, 101]
abbrev kNext : It := [110, 101, 120, 116]
abbrev kWithin : It := [119, 105, 116, 104, 105, 110]
abbrev sp : It := [32]
inductive Pl where
  | thn (b : Bool) (f g : Pl) | or (f g : Pl) | and (f g : Pl) | neg (f : Pl)
  | bnd (a s : Bool) (x : It) (f : Pl) | cnt (d l : Nat) (x : It) (f : Pl)
  | ltr (c : Nat) (x : It) | rel (r : Fin 3) (x y : It) | wit (x s : It)
def kTB (b : Bool) : It := if b then kBoth else kThen
def kSA (a : Bool) : It := if a then kAll else kSome
def kRel (r : Fin 3) : It := match r with
  | 0 => kBefore
  | 1 => kSame
  | 2 => kNext
def sRel (r : Fin 3) : It := match r with
  | 0 => [60]
  | 1 => [61]
  | 2 => [43]
def encP : Pl → List D
  | .thn b f g => [.str (kTB b), .tup (encP f), .tup (encP g)]
  | .or f g => [.str kOr, .tup (encP f), .tup (encP g)]
  | .and f g => [.str kAnd, .tup (encP f), .tup (encP g)]
  | .neg f => [.str kNot, .tup (encP f)]
  | .bnd a s x f => [.str (kSA a ++ if s then kSet else []), .str x, .tup (encP f)]
  | .cnt d l x f => [.str kRest, .int d, .int l, .str x, .tup (encP f)]
  | .ltr c x => [.str kLetter, .str [c], .str x]
  | .rel r x y => [.str (kRel r), .str x, .str y]
  | .wit x s => [.str kWithin, .str x, .str s]
def par (b : Bool) (l : List It) : List It := if b then [40] :: (l ++ [[41]]) else l
/-- the tokens where a sentence that holds so tightly is asked for -/
def tkP : Pl → Nat → List It
  | .thn b f g, w => par (decide (0 < w)) (tkP f 1 ++ kTB b :: tkP g 0)
  | .or f g, w => par (decide (1 < w)) (tkP f 1 ++ ([kOr] ++ tkP g 2))
  | .and f g, w => par (decide (2 < w)) (tkP f 2 ++ ([kAnd] ++ tkP g 3))
  | .neg f, w => par (decide (3 < w)) (kNot :: tkP f 3)
  | .bnd a s x f, w => par (decide (0 < w)) (kSA a :: x :: [46] :: tkP f 0)
  | .cnt d l x f, w => par (decide (0 < w)) (kRest :: [48 + d] :: [48 + l] :: x :: [46] :: tkP f 0)
  | .ltr c x, w => [[c], [40], x, [41]]
  | .rel r x y, w => [x, sRel r, y]
  | .wit x s, w => [x, kIn, s]
def plN : List It := [[120], [121], [122], [120, 49]]
def okP (L : It) : Pl → Prop
  | .thn b f g => okP L f ∧ okP L g
  | .or f g => okP L f ∧ okP L g
  | .and f g => okP L f ∧ okP L g
  | .neg f => okP L f
  | .bnd a s x f => (if s then x = [88] else x ∈ plN) ∧ okP L f
  | .cnt d l x f => ((d = 2 ∨ d = 3) ∧ l < d ∧ x ∈ plN) ∧ okP L f
  | .ltr c x => c ∈ L ∧ x ∈ plN
  | .rel r x y => x ∈ plN ∧ y ∈ plN
  | .wit x s => x ∈ plN ∧ s = [88]
def htP : Pl → Nat
  | .thn b f g => max (htP f) (htP g) + 1
  | .or f g => max (htP f) (htP g) + 1
  | .and f g => max (htP f) (htP g) + 1
  | .neg f => htP f + 1
  | .bnd a s x f => htP f + 1
  | .cnt d l x f => htP f + 1
  | .ltr c x => 1
  | .rel r x y => 1
  | .wit x s => 1
def U0 : List It := [[], [41]]
def U1 : List It := [[], [41], kThen, kBoth]
def U2 : List It := [[], [41], kThen, kBoth, kOr]
def U3 : List It := [[], [41], kThen, kBoth, kOr, kAnd]
section
variable {N : Nat} {L : It} {ds es : List D} {xs ys : List It} {A : List It}
theorem al_letter {c : Nat} (hL : isAl L) (h : c ∈ L) : c = 97 ∨ c = 98 ∨ c = 99 := by
  rcases hL with rfl | rfl | rfl <;> simp at h <;> omega
theorem isl_of {c : Nat} (h : c ∈ L) : isIn3 [c] L = true := decide_eq_true h
theorem isl_not {c : Nat} (hL : isAl L) (h : c ≠ 97 ∧ c ≠ 98 ∧ c ≠ 99) : isIn3 [c] L = false := by
  refine decide_eq_false fun h' => ?_
  have := al_letter hL h'
  omega
theorem pl_facts {x : It} (h : x ∈ plN) : isNm x pls = true ∧ asc x = true ∧ isNm x sts = false ∧ plain1 x = true ∧ x ∉ [kNot, kSome, kAll, kRest, [40]] ∧ (isIn3 x [97, 98, 99] = false) := by
  have : ∀ x ∈ plN, isNm x pls = true ∧ asc x = true ∧ isNm x sts = false ∧ plain1 x = true ∧ x ∉ [kNot, kSome, kAll, kRest, [40]] ∧ (isIn3 x [97, 98, 99] = false) := by decide +kernel
  exact this x h
theorem isl_x {x : It} (hL : isAl L) (h : x ∈ plN) : isIn3 x L = false := by
  have hd : ∀ x ∈ plN, isIn3 x [97] = false ∧ isIn3 x [97, 98] = false ∧ isIn3 x [97, 98, 99] = false := by decide
  rcases hL with rfl | rfl | rfl
  · exact (hd x h).1
  · exact (hd x h).2.1
  · exact (hd x h).2.2
/-- a part in parentheses -/
theorem pp_par (hN : 3 ≤ N) (h : Ps 11 N L xs ds U0) : Ps 14 (N + 1) L ([40] :: (xs ++ [[41]])) ds A := by
  intro n M p rest Q E hn hR hr q
  obtain ⟨n, rfl⟩ : ∃ m, n = m + 1 := ⟨n - 1, by omega⟩
  refine ⟨d_places_part, rfl, rfl, ?_⟩
  show wpSs T (Gam T n) b_places_part _ [some (.ref p), none, none, none, none] M
  unfold b_places_part
  rw [List.cons_append, List.append_assoc] at hR
  refine i_asg (w_seen (n := n) hR (by omega) rfl ?_)
  show wpSs T _ _ _ [some (.ref p), some (.str [40]), none, none, none] M
  refine st_ifF pure0 (evT_eq rfl rfl rfl rfl) ?_
  refine st_ifF pure0 (evT_in (l := [kSome, kAll]) rfl rfl rfl) ?_
  refine st_ifF pure0 (evT_eq rfl rfl rfl rfl) ?_
  refine st_ifT pure0 (evT_eq rfl rfl rfl rfl) ?_
  refine i_ex (w_take (n := n) hR (by omega) rfl fun M1 h1 => ?_)
  refine i_asg (w_call (ds := [.ref p]) rfl (h n M1 p _ _ _ (by omega) h1 (show ([41] : It) ∈ U0 by decide) fun M2 h2 => ?_))
  refine i_ex (w_want (n := n) h2 (by omega) rfl fun M3 h3 => ?_)
  exact st_ret (d := .tup ds) (d' := .tup ds) pure0 rfl rfl (gc.here (q _ h3))
theorem pp_neg (hN : 3 ≤ N) (h : Ps 14 N L xs ds A) : Ps 14 (N + 1) L (kNot :: xs) [.str kNot, .tup ds] A := by
  intro n M p rest Q E hn hR hr q
  obtain ⟨n, rfl⟩ : ∃ m, n = m + 1 := ⟨n - 1, by omega⟩
  refine ⟨d_places_part, rfl, rfl, ?_⟩
  show wpSs T (Gam T n) b_places_part _ [some (.ref p), none, none, none, none] M
  unfold b_places_part
  refine i_asg (w_seen (n := n) hR (by omega) rfl ?_)
  show wpSs T _ _ _ [some (.ref p), some (.str kNot), none, none, none] M
  refine st_ifT pure0 (evT_eq rfl rfl rfl rfl) ?_
  refine i_ex (w_take (n := n) hR (by omega) rfl fun M1 h1 => ?_)
  refine i_ret (i_tup (L_ev (d := .str kNot) rfl rfl (i_L (w_call (ds := [.ref p]) rfl ?_))))
  refine h n M1 p _ _ _ (by omega) h1 hr fun M2 h2 => ?_
  exact ⟨by show 2 ≤ 16777216; decide, gc.here (q _ h2)⟩
theorem pp_ltr {c : Nat} {x : It} (hL : isAl L) (hc : c ∈ L) (hx : x ∈ plN) : Ps 14 6 L [[c], [40], x, [41]] [.str kLetter, .str [c], .str x] A := by
  intro n M p rest Q E hn hR hr q
  obtain ⟨n, rfl⟩ : ∃ m, n = m + 1 := ⟨n - 1, by omega⟩
  refine ⟨d_places_part, rfl, rfl, ?_⟩
  show wpSs T (Gam T n) b_places_part _ [some (.ref p), none, none, none, none] M
  unfold b_places_part
  have hcc := al_letter hL hc
  have ha : asc [c] = true := hR.asc
  refine i_asg (w_seen (n := n) hR (by omega) rfl ?_)
  show wpSs T _ _ _ [some (.ref p), some (.str [c]), none, none, none] M
  refine st_ifF pure0 (evT_eq rfl ha rfl (by rcases hcc with rfl | rfl | rfl <;> rfl)) ?_
  refine st_ifF pure0 (evT_in (l := [kSome, kAll]) rfl rfl (by rcases hcc with rfl | rfl | rfl <;> rfl)) ?_
  refine st_ifF pure0 (evT_eq rfl ha rfl (by rcases hcc with rfl | rfl | rfl <;> rfl)) ?_
  refine st_ifF pure0 (evT_eq rfl ha rfl (by rcases hcc with rfl | rfl | rfl <;> rfl)) ?_
  refine i_if (i_val (w_isl (n := n) hR hL rfl (by omega) rfl ?_))
  refine ⟨true, by show truth (.bl (isIn3 [c] L)) = _; rw [isl_of hc]; rfl, go_t ?_⟩
  refine i_asg (w_take (n := n) hR (by omega) rfl fun M1 h1 => ?_)
  refine i_ex (w_want (n := n) h1 (by omega) rfl fun M2 h2 => ?_)
  refine i_asg (w_place (n := n) h2 (pl_facts hx).1 (by omega) rfl fun M3 h3 => ?_)
  refine i_ex (w_want (n := n) h3 (by omega) rfl fun M4 h4 => ?_)
  exact st_ret (d := .tup [.str kLetter, .str [c], .str x]) (d' := .tup [.str kLetter, .str [c], .str x]) pure0 rfl rfl (gc.here (q _ h4))
/-- what begins with a name -/
theorem pp_rel {x : It} (hL : isAl L) (hx : x ∈ plN) (h : Ps 17 N L (x :: xs) ds A) (hN : 3 ≤ N) : Ps 14 (N + 1) L (x :: xs) ds A := by
  intro n M p rest Q E hn hR hr q
  obtain ⟨n, rfl⟩ : ∃ m, n = m + 1 := ⟨n - 1, by omega⟩
  refine ⟨d_places_part, rfl, rfl, ?_⟩
  show wpSs T (Gam T n) b_places_part _ [some (.ref p), none, none, none, none] M
  unfold b_places_part
  obtain ⟨f1, f2, f3, f4, f5, f6⟩ := pl_facts hx
  simp only [List.mem_cons, List.not_mem_nil, or_false, not_or] at f5
  refine i_asg (w_seen (n := n) hR (by omega) rfl ?_)
  show wpSs T _ _ _ [some (.ref p), some (.str x), none, none, none] M
  refine st_ifF pure0 (evT_eq rfl f2 rfl (decide_eq_false f5.1)) ?_
  refine st_ifF pure0 (evT_in (l := [kSome, kAll]) rfl rfl (decide_eq_false (by simp only [List.mem_cons, List.not_mem_nil, or_false, not_or]; exact ⟨f5.2.1, f5.2.2.1⟩))) ?_
  refine st_ifF pure0 (evT_eq rfl f2 rfl (decide_eq_false f5.2.2.2.1)) ?_
  refine st_ifF pure0 (evT_eq rfl f2 rfl (decide_eq_false f5.2.2.2.2)) ?_
  refine i_if (i_val (w_isl (n := n) hR hL f4 (by omega) rfl ?_))
  refine ⟨false, by show truth (.bl (isIn3 x L)) = _; rw [isl_x hL hx]; rfl, go_skip ?_⟩
  refine i_ret (w_call (ds := [.ref p]) rfl (h n M p rest _ _ (by omega) hR hr fun M1 h1 => ?_))
  exact gc.here (q _ h1)
theorem pr_wit {x s : It} (hx : x ∈ plN) (hs : s = [88]) : Ps 17 4 L [x, kIn, s] [.str kWithin, .str x, .str s] A := by
  intro n M p rest Q E hn hR hr q
  obtain ⟨n, rfl⟩ : ∃ m, n = m + 1 := ⟨n - 1, by omega⟩
  refine ⟨d_places_relation, rfl, rfl, ?_⟩
  show wpSs T (Gam T n) b_places_relation _ [some (.ref p), none, none] M
  unfold b_places_relation
  refine i_asg (w_place (n := n) hR (pl_facts hx).1 (by omega) rfl fun M1 h1 => ?_)
  refine i_if (i_val (i_cmp (w_seen (n := n) h1 (by omega) rfl (w_ev (d := .str kIn) rfl ?_))))
  refine ⟨true, by show opCmp .eq (.str kIn) (.str kIn) = _; rw [eq_str rfl rfl]; rfl, true, rfl, go_t ?_⟩
  refine i_ex (w_take (n := n) h1 (by omega) rfl fun M2 h2 => ?_)
  subst hs
  refine i_ret (i_tup (L_ev (d := .str kWithin) rfl rfl (L_ev (d := .str x) rfl rfl (i_L (w_set (n := n) h2 (by decide) (by omega) rfl fun M3 h3 => ?_)))))
  exact ⟨by show 3 ≤ 16777216; decide, gc.here (q _ h3)⟩
theorem pr_rel {x y : It} {r : Fin 3} (hx : x ∈ plN) (hy : y ∈ plN) : Ps 17 4 L [x, sRel r, y] [.str (kRel r), .str x, .str y] A := by
  intro n M p rest Q E hn hR hr q
  obtain ⟨n, rfl⟩ : ∃ m, n = m + 1 := ⟨n - 1, by omega⟩
  refine ⟨d_places_relation, rfl, rfl, ?_⟩
  show wpSs T (Gam T n) b_places_relation _ [some (.ref p), none, none] M
  unfold b_places_relation
  refine i_asg (w_place (n := n) hR (pl_facts hx).1 (by omega) rfl fun M1 h1 => ?_)
  refine i_if (i_val (i_cmp (w_seen (n := n) h1 (by omega) rfl (w_ev (d := .str kIn) rfl ?_))))
  have ha : asc (sRel r) = true := h1.asc
  have hne : sRel r ≠ kIn := (by decide : ∀ r : Fin 3, sRel r ≠ kIn) r
  refine ⟨false, by show opCmp .eq (.str (sRel r)) (.str kIn) = _; rw [eq_str ha rfl, decide_eq_false hne], false, rfl, go_skip ?_⟩
  refine i_if (i_val ?_)
  refine i_tin (w_seen (n := n) h1 (by omega) rfl ?_)
  refine ⟨sRel r, _, rfl, rfl, false, ?_, go_skip ?_⟩
  · match r with
    | 0 => rfl
    | 1 => rfl
    | 2 => rfl
  refine i_asg (i_tix (w_take (n := n) h1 (by omega) rfl fun M2 h2 => ?_))
  refine ⟨sRel r, _, .str (kRel r), rfl, rfl, ?_, ?_⟩
  · match r with
    | 0 => rfl
    | 1 => rfl
    | 2 => rfl
  show wpSs T _ _ _ [some (.ref p), some (.str x), some (.str (kRel r))] M2
  refine i_ret (i_tup (L_ev (d := .str (kRel r)) rfl rfl (L_ev (d := .str x) rfl rfl (i_L (w_place (n := n) h2 (pl_facts hy).1 (by omega) rfl fun M3 h3 => ?_)))))
  exact ⟨by show 3 ≤ 16777216; decide, gc.here (q _ h3)⟩
theorem pb_bnd {a s : Bool} {x : It} (hx : if s then x = [88] else x ∈ plN) (hN : 4 ≤ N) (h : Ps 11 N L xs ds A) : Ps 15 (N + 1) L (kSA a :: x :: [46] :: xs) [.str (kSA a ++ if s then kSet else []), .str x, .tup ds] A := by
  intro n M p rest Q E hn hR hr q
  obtain ⟨n, rfl⟩ : ∃ m, n = m + 4 := ⟨n - 4, by omega⟩
  refine ⟨d_places_bound, rfl, rfl, ?_⟩
  show wpSs T (Gam T (n + 3)) b_places_bound _ [some (.ref p), none, none] M
  unfold b_places_bound
  refine i_asg (w_take (n := n + 3) hR (by omega) rfl fun M1 h1 => ?_)
  show wpSs T _ _ _ [some (.ref p), some (.str (kSA a)), none] M1
  have ha : asc x = true := h1.asc
  have fin : ∀ {M2 : Mem}, Rd M2 p L ([46] :: (xs ++ rest)) → wpSs T (Gam T (n + 3)) [.ex (.mth 0 3 (.var 0) [] [(.con (.str [46]))]), .ret (.tup [(.var 1), (.var 2), (.call 11 [] [(.var 0)])])] { nx := fun _ M' => gc Q .non M', rt := gc Q, ex := fun x _ M' => E x M' } [some (.ref p), some (.str (kSA a ++ if s then kSet else [])), some (.str x)] M2 := fun {M2} h2 => by
    refine i_ex (w_want (n := n + 3) h2 (by omega) rfl fun M3 h3 => ?_)
    refine i_ret (i_tup (L_ev (d := .str (kSA a ++ if s then kSet else [])) rfl rfl (L_ev (d := .str x) rfl rfl (i_L (w_call (ds := [.ref p]) rfl ?_)))))
    refine h (n + 3) M3 p _ _ _ (by omega) h3 hr fun M4 h4 => ?_
    exact ⟨by show 3 ≤ 16777216; decide, gc.here (q _ h4)⟩
  refine i_if (i_val (i_call (i_A (w_seen (n := n + 3) h1 (by omega) rfl ?_))))
  refine c_is_set_name ha ?_
  cases s with
  | true =>
    have hx : x = [88] := hx
    subst hx
    refine ⟨true, rfl, go_t ?_⟩
    refine i_asg (i_bin (w_var (d := .str (kSA a)) rfl rfl (w_ev (d := .str kSet) rfl ?_)))
    refine ⟨.str (kSA a ++ kSet), by cases a <;> rfl, ?_⟩
    refine i_asg (w_take (n := n + 3) h1 (by omega) rfl fun M2 h2 => ?_)
    exact fin h2
  | false =>
    have hx : x ∈ plN := hx
    refine ⟨false, by show truth (.bl (isNm x sts)) = _; rw [(pl_facts hx).2.2.1]; rfl, go_f ?_⟩
    refine i_asg (w_place (n := n + 3) h1 (pl_facts hx).1 (by omega) rfl fun M2 h2 => ?_)
    have fin := fin h2
    rw [show (kSA a ++ if false = true then kSet else []) = kSA a from List.append_nil _] at fin
    exact fin
theorem pp_bnd {a s : Bool} {x : It} (hx : if s then x = [88] else x ∈ plN) (hN : 4 ≤ N) (h : Ps 11 N L xs ds A) : Ps 14 (N + 2) L (kSA a :: x :: [46] :: xs) [.str (kSA a ++ if s then kSet else []), .str x, .tup ds] A := by
  intro n M p rest Q E hn hR hr q
  obtain ⟨n, rfl⟩ : ∃ m, n = m + 1 := ⟨n - 1, by omega⟩
  refine ⟨d_places_part, rfl, rfl, ?_⟩
  show wpSs T (Gam T n) b_places_part _ [some (.ref p), none, none, none, none] M
  unfold b_places_part
  have ha : asc (kSA a) = true := hR.asc
  refine i_asg (w_seen (n := n) hR (by omega) rfl ?_)
  show wpSs T _ _ _ [some (.ref p), some (.str (kSA a)), none, none, none] M
  refine st_ifF pure0 (evT_eq rfl ha rfl (by cases a <;> rfl)) ?_
  refine st_ifT pure0 (evT_in (l := [kSome, kAll]) rfl rfl (by cases a <;> rfl)) ?_
  refine i_ret (w_call (ds := [.ref p]) rfl (pb_bnd hx hN h n M p rest _ _ (by omega) hR hr fun M1 h1 => ?_))
  exact gc.here (q _ h1)
theorem pc_cnt {d l : Nat} {x : It} (hd2 : d = 2 ∨ d = 3) (hl : l < d) (hx : x ∈ plN) (hN : 4 ≤ N) (h : Ps 11 N L xs ds A) : Ps 16 (N + 1) L (kRest :: [48 + d] :: [48 + l] :: x :: [46] :: xs) [.str kRest, .int d, .int l, .str x, .tup ds] A := by
  intro n M p rest Q E hn hR hr q
  obtain ⟨n, rfl⟩ : ∃ m, n = m + 4 := ⟨n - 4, by omega⟩
  refine ⟨d_places_counted, rfl, rfl, ?_⟩
  show wpSs T (Gam T (n + 3)) b_places_counted _ [some (.ref p), none, none, none] M
  unfold b_places_counted
  refine i_ex (w_want (n := n + 3) hR (by omega) rfl fun M1 h1 => ?_)
  refine i_asg (w_number (n := n + 3) (v := d) (lo := 2) (hi := 9) h1 (by omega) (by omega) (by omega) (by omega) rfl rfl fun M2 h2 => ?_)
  show wpSs T _ _ _ [some (.ref p), some (.int d), none, none] M2
  refine i_asg (w_number (n := n + 3) (v := l) (lo := 0) (hi := (d : Int) - 1) h2 (by omega) (by omega) (by omega) (by omega) rfl rfl fun M3 h3 => ?_)
  refine i_asg (w_place (n := n + 3) h3 (pl_facts hx).1 (by omega) rfl fun M4 h4 => ?_)
  refine i_ex (w_want (n := n + 3) h4 (by omega) rfl fun M5 h5 => ?_)
  refine i_ret (i_tup (L_ev (d := .str kRest) rfl rfl (L_ev (d := .int d) rfl rfl (L_ev (d := .int l) rfl rfl (L_ev (d := .str x) rfl rfl (i_L (w_call (ds := [.ref p]) rfl ?_)))))))
  refine h (n + 3) M5 p _ _ _ (by omega) h5 hr fun M6 h6 => ?_
  exact ⟨by show 5 ≤ 16777216; decide, gc.here (q _ h6)⟩
theorem pp_cnt {d l : Nat} {x : It} (hd2 : d = 2 ∨ d = 3) (hl : l < d) (hx : x ∈ plN) (hN : 4 ≤ N) (h : Ps 11 N L xs ds A) : Ps 14 (N + 2) L (kRest :: [48 + d] :: [48 + l] :: x :: [46] :: xs) [.str kRest, .int d, .int l, .str x, .tup ds] A := by
  intro n M p rest Q E hn hR hr q
  obtain ⟨n, rfl⟩ : ∃ m, n = m + 1 := ⟨n - 1, by omega⟩
  refine ⟨d_places_part, rfl, rfl, ?_⟩
  show wpSs T (Gam T n) b_places_part _ [some (.ref p), none, none, none, none] M
  unfold b_places_part
  refine i_asg (w_seen (n := n) hR (by omega) rfl ?_)
  show wpSs T _ _ _ [some (.ref p), some (.str kRest), none, none, none] M
  refine st_ifF pure0 (evT_eq rfl rfl rfl rfl) ?_
  refine st_ifF pure0 (evT_in (l := [kSome, kAll]) rfl rfl rfl) ?_
  refine st_ifT pure0 (evT_eq rfl rfl rfl rfl) ?_
  refine i_ret (w_call (ds := [.ref p]) rfl (pc_cnt hd2 hl hx hN h n M p rest _ _ (by omega) hR hr fun M1 h1 => ?_))
  exact gc.here (q _ h1)
end
end Pv.G

namespace Pv.G
open PySem PySem.Spec PyProof.Rows L2 Pv
section
variable {N : Nat} {L : It} {ds es : List D} {xs ys : List It} {A : List It} {f g : Pl}
theorem lp2 (hN : 3 ≤ N) (h : Ch 14 N L U3 [kAnd] [kAnd] kAnd xs ds) : Ps 13 (N + 1) L xs ds U2 := Ch.ps (F := 13) rfl hN rfl (by decide) (by decide) h
theorem lp1 (hN : 3 ≤ N) (h : Ch 13 N L U2 [kOr] [kOr] kOr xs ds) : Ps 12 (N + 1) L xs ds U1 := Ch.ps (F := 12) rfl hN rfl (by decide) (by decide) h
theorem lp0 (hN : 3 ≤ N) (h : Ps 12 N L xs ds U1) : Ps 11 (N + 1) L xs ds U0 := side_one (G := 12) (F := 11) (o1 := kThen) (o2 := kBoth) rfl hN (by decide) (by decide) h
/-- what takes all that follows -/
theorem lpB (hN : 3 ≤ N) (h : Ps 14 N L xs ds U0) : Ps 11 (N + 3) L xs ds U0 := by
  have h1 : Ps 13 (N + 1) L xs ds U0 := Ch.ps (F := 13) (A := U0) (op := kAnd) rfl hN rfl (fun _ z => z) (by decide) (.one (nm := kAnd) h)
  have h2 : Ps 12 (N + 2) L xs ds U0 := Ch.ps (F := 12) (A := U0) (op := kOr) rfl (by omega) rfl (fun _ z => z) (by decide) (.one (nm := kOr) h1)
  exact side_one (G := 12) (F := 11) (o1 := kThen) (o2 := kBoth) rfl (by omega) (fun _ z => z) (by decide) h2
structure RP (N : Nat) (L : It) (f : Pl) : Prop where
  p3 : Ps 14 N L (tkP f 3) (encP f) U3
  c2 : Ch 14 N L U3 [kAnd] [kAnd] kAnd (tkP f 2) (encP f)
  c1 : Ch 13 N L U2 [kOr] [kOr] kOr (tkP f 1) (encP f)
  p0 : Ps 11 N L (tkP f 0) (encP f) U0
theorem RP.mono {N' : Nat} (h : RP N L f) (hN : N ≤ N') : RP N' L f := ⟨h.p3.mono hN fun _ z => z, h.c2.mono hN, h.c1.mono hN, h.p0.mono hN fun _ z => z⟩
/-- held tightly -/
theorem RP.tight (hN : 3 ≤ N) (h : Ps 14 N L xs (encP f) U3) (h0 : tkP f 0 = xs) (h1 : tkP f 1 = xs) (h2 : tkP f 2 = xs) (h3 : tkP f 3 = xs) : RP (N + 4) L f := by
  have c2 : Ch 14 N L U3 [kAnd] [kAnd] kAnd xs (encP f) := .one h
  have c1 : Ch 13 (N + 1) L U2 [kOr] [kOr] kOr xs (encP f) := .one (lp2 hN c2)
  refine ⟨?_, ?_, ?_, ?_⟩
  · rw [h3]; exact h.mono (by omega) fun _ z => z
  · rw [h2]; exact c2.mono (by omega)
  · rw [h1]; exact c1.mono (by omega)
  · rw [h0]; exact (lp0 (by omega) (lp1 (by omega) c1)).mono (by omega) fun _ z => z
/-- held loosely -/
theorem RP.loose (hN : 3 ≤ N) (h : Ps 11 N L xs (encP f) U0) (h0 : tkP f 0 = xs) (h1 : tkP f 1 = [40] :: (xs ++ [[41]])) (h2 : tkP f 2 = [40] :: (xs ++ [[41]])) (h3 : tkP f 3 = [40] :: (xs ++ [[41]])) : RP (N + 4) L f := by
  have p3 : Ps 14 (N + 1) L ([40] :: (xs ++ [[41]])) (encP f) U3 := pp_par hN h
  have c2 : Ch 14 (N + 1) L U3 [kAnd] [kAnd] kAnd ([40] :: (xs ++ [[41]])) (encP f) := .one p3
  refine ⟨?_, ?_, ?_, ?_⟩
  · rw [h3]; exact p3.mono (by omega) fun _ z => z
  · rw [h2]; exact c2.mono (by omega)
  · rw [h1]; exact (Ch.one (lp2 (by omega) c2)).mono (by omega)
  · rw [h0]; exact h.mono (by omega) fun _ z => z
theorem par_t {b : Bool} {l : List It} (h : b = true) : par b l = [40] :: (l ++ [[41]]) := by rw [h]; rfl
theorem par_f {b : Bool} {l : List It} (h : b = false) : par b l = l := by rw [h]; rfl
def NP (h : Nat) : Nat := 10 * h + 10
theorem rp : ∀ (f : Pl), isAl L → okP L f → RP (NP (htP f)) L f
  | .thn b f g, hL, hf => by
    have hf : okP L f ∧ okP L g := hf
    have F := (rp f hL hf.1).mono (N' := NP (max (htP f) (htP g))) (by unfold NP; omega)
    have G := (rp g hL hf.2).mono (N' := NP (max (htP f) (htP g))) (by unfold NP; omega)
    have hN : 3 ≤ NP (max (htP f) (htP g)) := by unfold NP; omega
    have h1 := lp1 hN F.c1
    have hp : Ps 11 (NP (max (htP f) (htP g)) + 1 + 1) L (tkP f 1 ++ kTB b :: tkP g 0) (encP (.thn b f g)) U0 := side_two (G := 12) (F := 11) (o1 := kThen) (o2 := kBoth) (A := U1) rfl (by omega) (by cases b <;> decide) (by cases b <;> decide) h1 (G.p0.mono (by omega) fun _ z => z)
    exact (RP.loose (by omega) hp rfl rfl rfl rfl).mono (by show _ ≤ NP (max (htP f) (htP g) + 1); unfold NP; omega)
  | .or f g, hL, hf => by
    have hf : okP L f ∧ okP L g := hf
    have F := (rp f hL hf.1).mono (N' := NP (max (htP f) (htP g))) (by unfold NP; omega)
    have G := (rp g hL hf.2).mono (N' := NP (max (htP f) (htP g))) (by unfold NP; omega)
    have hN : 3 ≤ NP (max (htP f) (htP g)) := by unfold NP; omega
    have g2 := lp2 hN G.c2
    have c1 : Ch 13 (NP (max (htP f) (htP g)) + 1) L U2 [kOr] [kOr] kOr (tkP f 1 ++ ([kOr] ++ tkP g 2)) (encP (.or f g)) := (F.c1.mono (by omega)).snoc g2 ⟨⟨by show kOr ∈ U2; decide, fun e => nomatch e⟩, by show kOr ∈ [kOr]; decide⟩
    have p0 := lp0 (by omega) (lp1 (by omega) c1)
    have p3 : Ps 14 (NP (max (htP f) (htP g)) + 1 + 1 + 1 + 1) L ([40] :: ((tkP f 1 ++ ([kOr] ++ tkP g 2)) ++ [[41]])) (encP (.or f g)) U3 := pp_par (by omega) p0
    refine RP.mono (N := NP (max (htP f) (htP g)) + 4) ⟨p3, .one p3, ?_, ?_⟩ (by show _ ≤ NP (max (htP f) (htP g) + 1); unfold NP; omega)
    · exact c1.mono (by omega)
    · exact p0.mono (by omega) fun _ z => z
  | .and f g, hL, hf => by
    have hf : okP L f ∧ okP L g := hf
    have F := (rp f hL hf.1).mono (N' := NP (max (htP f) (htP g))) (by unfold NP; omega)
    have G := (rp g hL hf.2).mono (N' := NP (max (htP f) (htP g))) (by unfold NP; omega)
    have hN : 3 ≤ NP (max (htP f) (htP g)) := by unfold NP; omega
    have c2 : Ch 14 (NP (max (htP f) (htP g))) L U3 [kAnd] [kAnd] kAnd (tkP f 2 ++ ([kAnd] ++ tkP g 3)) (encP (.and f g)) := F.c2.snoc G.p3 ⟨⟨by show kAnd ∈ U3; decide, fun e => nomatch e⟩, by show kAnd ∈ [kAnd]; decide⟩
    have c1 : Ch 13 (NP (max (htP f) (htP g)) + 1) L U2 [kOr] [kOr] kOr (tkP f 2 ++ ([kAnd] ++ tkP g 3)) (encP (.and f g)) := .one (lp2 hN c2)
    have p0 := lp0 (by omega) (lp1 (by omega) c1)
    have p3 : Ps 14 (NP (max (htP f) (htP g)) + 1 + 1 + 1 + 1) L ([40] :: ((tkP f 2 ++ ([kAnd] ++ tkP g 3)) ++ [[41]])) (encP (.and f g)) U3 := pp_par (by omega) p0
    refine RP.mono (N := NP (max (htP f) (htP g)) + 4) ⟨p3, ?_, ?_, ?_⟩ (by show _ ≤ NP (max (htP f) (htP g) + 1); unfold NP; omega)
    · exact c2.mono (by omega)
    · exact c1.mono (by omega)
    · exact p0.mono (by omega) fun _ z => z
  | .neg f, hL, hf => by
    have F := rp f hL hf
    exact (RP.tight (f := .neg f) (xs := kNot :: tkP f 3) (N := NP (htP f) + 1) (by unfold NP; omega) (pp_neg (by unfold NP; omega) F.p3) rfl rfl rfl rfl).mono (by show _ ≤ NP (htP f + 1); unfold NP; omega)
  | .bnd a s x f, hL, hf => by
    have hf : (if s then x = [88] else x ∈ plN) ∧ okP L f := hf
    have F := rp f hL hf.2
    have b : Ps 14 (NP (htP f) + 2) L (kSA a :: x :: [46] :: tkP f 0) (encP (.bnd a s x f)) U0 := pp_bnd hf.1 (by unfold NP; omega) F.p0
    exact (RP.loose (f := .bnd a s x f) (N := NP (htP f) + 2 + 3) (by omega) (lpB (by unfold NP; omega) b) rfl rfl rfl rfl).mono (by show _ ≤ NP (htP f + 1); unfold NP; omega)
  | .cnt d l x f, hL, hf => by
    have hf : ((d = 2 ∨ d = 3) ∧ l < d ∧ x ∈ plN) ∧ okP L f := hf
    have F := rp f hL hf.2
    have b : Ps 14 (NP (htP f) + 2) L (kRest :: [48 + d] :: [48 + l] :: x :: [46] :: tkP f 0) (encP (.cnt d l x f)) U0 := pp_cnt hf.1.1 hf.1.2.1 hf.1.2.2 (by unfold NP; omega) F.p0
    exact (RP.loose (f := .cnt d l x f) (N := NP (htP f) + 2 + 3) (by omega) (lpB (by unfold NP; omega) b) rfl rfl rfl rfl).mono (by show _ ≤ NP (htP f + 1); unfold NP; omega)
  | .ltr c x, hL, hf => by
    have hf : c ∈ L ∧ x ∈ plN := hf
    exact (RP.tight (f := .ltr c x) (N := 6) (by omega) (pp_ltr hL hf.1 hf.2) rfl rfl rfl rfl).mono (by show _ ≤ NP 1; decide)
  | .rel r x y, hL, hf => by
    have hf : x ∈ plN ∧ y ∈ plN := hf
    exact (RP.tight (f := .rel r x y) (N := 5) (by omega) (pp_rel hL hf.1 (pr_rel hf.1 hf.2) (by omega)) rfl rfl rfl rfl).mono (by show _ ≤ NP 1; decide)
  | .wit x s, hL, hf => by
    have hf : x ∈ plN ∧ s = [88] := hf
    exact (RP.tight (f := .wit x s) (N := 5) (by omega) (pp_rel hL hf.1 (pr_wit hf.1 hf.2) (by omega)) rfl rfl rfl rfl).mono (by show _ ≤ NP 1; decide)
end
end Pv.G

namespace Pv.G
open PySem PySem.Spec PyProof.Rows L2 Pv
/-! ### sentences of moments -/
abbrev kUntil : It := [117, 110, 116, 105, 108]
abbrev kSince : It := [115, 105, 110, 99, 101]
abbrev kEnd : It := [101, 110, 100]
inductive Mo where
  | or (f g : Mo) | and (f g : Mo) | unt (s : Bool) (f g : Mo) | una (u : Fin 7) (f : Mo) | ltr (c : Nat) | fin
def unL : List It := [[110, 111, 116], [110, 101, 120, 116], [115, 111, 111, 110], [101, 118, 101, 114], [98, 97, 99, 107], [111, 110, 99, 101], [115, 116, 105, 108, 108]]
def kUn (u : Fin 7) : It := match u with
  | 0 => kNot
  | 1 => kNext
  | 2 => [115, 111, 111, 110]
  | 3 => [101, 118, 101, 114]
  | 4 => [98, 97, 99, 107]
  | 5 => [111, 110, 99, 101]
  | 6 => [115, 116, 105, 108, 108]
def kUS (s : Bool) : It := if s then kSince else kUntil
def encM : Mo → List D
  | .or f g => [.str kOr, .tup (encM f), .tup (encM g)]
  | .and f g => [.str kAnd, .tup (encM f), .tup (encM g)]
  | .unt s f g => [.str (kUS s), .tup (encM f), .tup (encM g)]
  | .una u f => [.str (kUn u), .tup (encM f)]
  | .ltr c => [.str kLetter, .str [c]]
  | .fin => [.str kEnd]
def tkM : Mo → Nat → List It
  | .or f g, w => par (decide (1 < w)) (tkM f 1 ++ ([kOr] ++ tkM g 2))
  | .and f g, w => par (decide (2 < w)) (tkM f 2 ++ ([kAnd] ++ tkM g 3))
  | .unt s f g, w => par (decide (3 < w)) (tkM f 4 ++ kUS s :: tkM g 3)
  | .una u f, w => par (decide (4 < w)) (kUn u :: tkM f 4)
  | .ltr c, w => [[c]]
  | .fin, w => [kEnd]
def okM (L : It) : Mo → Prop
  | .or f g => okM L f ∧ okM L g
  | .and f g => okM L f ∧ okM L g
  | .unt s f g => okM L f ∧ okM L g
  | .una u f => okM L f
  | .ltr c => c ∈ L
  | .fin => True
def htM : Mo → Nat
  | .or f g => max (htM f) (htM g) + 1
  | .and f g => max (htM f) (htM g) + 1
  | .unt s f g => max (htM f) (htM g) + 1
  | .una u f => htM f + 1
  | .ltr c => 1
  | .fin => 1
def V2 : List It := [[], [41], kOr]
def V3 : List It := [[], [41], kOr, kAnd]
def V4 : List It := [[], [41], kOr, kAnd, kUntil, kSince]
section
variable {N : Nat} {L : It} {ds es : List D} {xs ys : List It} {A : List It} {f g : Mo}
theorem mp_par (hN : 3 ≤ N) (h : Ps 19 N L xs ds U0) : Ps 22 (N + 1) L ([40] :: (xs ++ [[41]])) ds A := by
  intro n M p rest Q E hn hR hr q
  obtain ⟨n, rfl⟩ : ∃ m, n = m + 1 := ⟨n - 1, by omega⟩
  refine ⟨d_moments_part, rfl, rfl, ?_⟩
  show wpSs T (Gam T n) b_moments_part _ [some (.ref p), none, none] M
  unfold b_moments_part
  rw [List.cons_append, List.append_assoc] at hR
  refine i_asg (w_seen (n := n) hR (by omega) rfl ?_)
  show wpSs T _ _ _ [some (.ref p), some (.str [40]), none] M
  refine st_ifF pure0 (evT_in (l := unL) rfl rfl rfl) ?_
  refine st_ifT pure0 (evT_eq rfl rfl rfl rfl) ?_
  refine i_ex (w_take (n := n) hR (by omega) rfl fun M1 h1 => ?_)
  refine i_asg (w_call (ds := [.ref p]) rfl (h n M1 p _ _ _ (by omega) h1 (show ([41] : It) ∈ U0 by decide) fun M2 h2 => ?_))
  refine i_ex (w_want (n := n) h2 (by omega) rfl fun M3 h3 => ?_)
  exact st_ret (d := .tup ds) (d' := .tup ds) pure0 rfl rfl (gc.here (q _ h3))
theorem mp_una {u : Fin 7} (hN : 3 ≤ N) (h : Ps 22 N L xs ds A) : Ps 22 (N + 1) L (kUn u :: xs) [.str (kUn u), .tup ds] A := by
  intro n M p rest Q E hn hR hr q
  obtain ⟨n, rfl⟩ : ∃ m, n = m + 1 := ⟨n - 1, by omega⟩
  refine ⟨d_moments_part, rfl, rfl, ?_⟩
  show wpSs T (Gam T n) b_moments_part _ [some (.ref p), none, none] M
  unfold b_moments_part
  refine i_asg (w_seen (n := n) hR (by omega) rfl ?_)
  show wpSs T _ _ _ [some (.ref p), some (.str (kUn u)), none] M
  refine st_ifT pure0 (evT_in (l := unL) rfl rfl (decide_eq_true ((by decide : ∀ u : Fin 7, kUn u ∈ unL) u))) ?_
  refine i_ex (w_take (n := n) hR (by omega) rfl fun M1 h1 => ?_)
  refine i_ret (i_tup (L_ev (d := .str (kUn u)) rfl rfl (i_L (w_call (ds := [.ref p]) rfl ?_))))
  refine h n M1 p _ _ _ (by omega) h1 hr fun M2 h2 => ?_
  exact ⟨by show 2 ≤ 16777216; decide, gc.here (q _ h2)⟩
theorem mp_ltr {c : Nat} (hL : isAl L) (hc : c ∈ L) : Ps 22 5 L [[c]] [.str kLetter, .str [c]] A := by
  intro n M p rest Q E hn hR hr q
  obtain ⟨n, rfl⟩ : ∃ m, n = m + 1 := ⟨n - 1, by omega⟩
  refine ⟨d_moments_part, rfl, rfl, ?_⟩
  show wpSs T (Gam T n) b_moments_part _ [some (.ref p), none, none] M
  unfold b_moments_part
  have hcc := al_letter hL hc
  have ha : asc [c] = true := hR.asc
  refine i_asg (w_seen (n := n) hR (by omega) rfl ?_)
  show wpSs T _ _ _ [some (.ref p), some (.str [c]), none] M
  refine st_ifF pure0 (evT_in (l := unL) rfl rfl (by rcases hcc with rfl | rfl | rfl <;> rfl)) ?_
  refine st_ifF pure0 (evT_eq rfl ha rfl (by rcases hcc with rfl | rfl | rfl <;> rfl)) ?_
  refine st_ifF pure0 (evT_eq rfl ha rfl (by rcases hcc with rfl | rfl | rfl <;> rfl)) ?_
  refine i_if (i_not (i_val (w_isl (n := n) hR hL rfl (by omega) rfl ?_)))
  refine ⟨true, by show truth (.bl (isIn3 [c] L)) = _; rw [isl_of hc]; rfl, go_skip ?_⟩
  refine i_ret (i_tup (L_ev (d := .str kLetter) rfl rfl (i_L (w_take (n := n) hR (by omega) rfl fun M1 h1 => ?_))))
  exact ⟨by show 2 ≤ 16777216; decide, gc.here (q _ h1)⟩
theorem mp_fin : Ps 22 4 L [kEnd] [.str kEnd] A := by
  intro n M p rest Q E hn hR hr q
  obtain ⟨n, rfl⟩ : ∃ m, n = m + 1 := ⟨n - 1, by omega⟩
  refine ⟨d_moments_part, rfl, rfl, ?_⟩
  show wpSs T (Gam T n) b_moments_part _ [some (.ref p), none, none] M
  unfold b_moments_part
  refine i_asg (w_seen (n := n) hR (by omega) rfl ?_)
  show wpSs T _ _ _ [some (.ref p), some (.str kEnd), none] M
  refine st_ifF pure0 (evT_in (l := unL) rfl rfl rfl) ?_
  refine st_ifF pure0 (evT_eq rfl rfl rfl rfl) ?_
  refine st_ifT pure0 (evT_eq rfl rfl rfl rfl) ?_
  refine i_ex (w_take (n := n) hR (by omega) rfl fun M1 h1 => ?_)
  exact st_ret (d := .tup [.str kEnd]) (d' := .tup [.str kEnd]) pure0 rfl rfl (gc.here (q _ h1))
theorem lm3 (hN : 3 ≤ N) (h : Ps 22 N L xs ds V4) : Ps 21 (N + 1) L xs ds V3 := side_one (G := 22) (F := 21) (o1 := kUntil) (o2 := kSince) rfl hN (by decide) (by decide) h
theorem lm2 (hN : 3 ≤ N) (h : Ch 21 N L V3 [kAnd] [kAnd] kAnd xs ds) : Ps 20 (N + 1) L xs ds V2 := Ch.ps (F := 20) rfl hN rfl (by decide) (by decide) h
theorem lm1 (hN : 3 ≤ N) (h : Ch 20 N L V2 [kOr] [kOr] kOr xs ds) : Ps 19 (N + 1) L xs ds U0 := Ch.ps (F := 19) rfl hN rfl (by decide) (by decide) h
structure RM (N : Nat) (L : It) (f : Mo) : Prop where
  p4 : Ps 22 N L (tkM f 4) (encM f) V4
  p3 : Ps 21 N L (tkM f 3) (encM f) V3
  c2 : Ch 21 N L V3 [kAnd] [kAnd] kAnd (tkM f 2) (encM f)
  c1 : Ch 20 N L V2 [kOr] [kOr] kOr (tkM f 1) (encM f)
  p0 : Ps 19 N L (tkM f 0) (encM f) U0
theorem RM.mono {N' : Nat} (h : RM N L f) (hN : N ≤ N') : RM N' L f := ⟨h.p4.mono hN fun _ z => z, h.p3.mono hN fun _ z => z, h.c2.mono hN, h.c1.mono hN, h.p0.mono hN fun _ z => z⟩
theorem RM.of4 (hN : 3 ≤ N) (h : Ps 22 N L xs (encM f) V4) (h0 : tkM f 0 = xs) (h1 : tkM f 1 = xs) (h2 : tkM f 2 = xs) (h3 : tkM f 3 = xs) (h4 : tkM f 4 = xs) : RM (N + 5) L f := by
  have p3 := lm3 hN h
  have c2 : Ch 21 (N + 1) L V3 [kAnd] [kAnd] kAnd xs (encM f) := .one p3
  have c1 : Ch 20 (N + 2) L V2 [kOr] [kOr] kOr xs (encM f) := .one (lm2 (by omega) c2)
  refine ⟨?_, ?_, ?_, ?_, ?_⟩
  · rw [h4]; exact h.mono (by omega) fun _ z => z
  · rw [h3]; exact p3.mono (by omega) fun _ z => z
  · rw [h2]; exact c2.mono (by omega)
  · rw [h1]; exact c1.mono (by omega)
  · rw [h0]; exact (lm1 (by omega) c1).mono (by omega) fun _ z => z
def NM (h : Nat) : Nat := 10 * h + 10
theorem rm : ∀ (f : Mo), isAl L → okM L f → RM (NM (htM f)) L f
  | .or f g, hL, hf => by
    have hf : okM L f ∧ okM L g := hf
    have F := (rm f hL hf.1).mono (N' := NM (max (htM f) (htM g))) (by unfold NM; omega)
    have G := (rm g hL hf.2).mono (N' := NM (max (htM f) (htM g))) (by unfold NM; omega)
    have hN : 3 ≤ NM (max (htM f) (htM g)) := by unfold NM; omega
    have g2 := lm2 hN G.c2
    have c1 : Ch 20 (NM (max (htM f) (htM g)) + 1) L V2 [kOr] [kOr] kOr (tkM f 1 ++ ([kOr] ++ tkM g 2)) (encM (.or f g)) := (F.c1.mono (by omega)).snoc g2 ⟨⟨by show kOr ∈ V2; decide, fun e => nomatch e⟩, by show kOr ∈ [kOr]; decide⟩
    have p0 := lm1 (by omega) c1
    have p4 : Ps 22 (NM (max (htM f) (htM g)) + 1 + 1 + 1) L ([40] :: ((tkM f 1 ++ ([kOr] ++ tkM g 2)) ++ [[41]])) (encM (.or f g)) V4 := mp_par (by omega) p0
    have p3 := lm3 (by omega) p4
    refine RM.mono (N := NM (max (htM f) (htM g)) + 4) ⟨?_, p3, .one p3, ?_, ?_⟩ (by show _ ≤ NM (max (htM f) (htM g) + 1); unfold NM; omega)
    · exact p4.mono (by omega) fun _ z => z
    · exact c1.mono (by omega)
    · exact p0.mono (by omega) fun _ z => z
  | .and f g, hL, hf => by
    have hf : okM L f ∧ okM L g := hf
    have F := (rm f hL hf.1).mono (N' := NM (max (htM f) (htM g))) (by unfold NM; omega)
    have G := (rm g hL hf.2).mono (N' := NM (max (htM f) (htM g))) (by unfold NM; omega)
    have hN : 3 ≤ NM (max (htM f) (htM g)) := by unfold NM; omega
    have c2 : Ch 21 (NM (max (htM f) (htM g))) L V3 [kAnd] [kAnd] kAnd (tkM f 2 ++ ([kAnd] ++ tkM g 3)) (encM (.and f g)) := F.c2.snoc G.p3 ⟨⟨by show kAnd ∈ V3; decide, fun e => nomatch e⟩, by show kAnd ∈ [kAnd]; decide⟩
    have c1 : Ch 20 (NM (max (htM f) (htM g)) + 1) L V2 [kOr] [kOr] kOr (tkM f 2 ++ ([kAnd] ++ tkM g 3)) (encM (.and f g)) := .one (lm2 hN c2)
    have p0 := lm1 (by omega) c1
    have p4 : Ps 22 (NM (max (htM f) (htM g)) + 1 + 1 + 1) L ([40] :: ((tkM f 2 ++ ([kAnd] ++ tkM g 3)) ++ [[41]])) (encM (.and f g)) V4 := mp_par (by omega) p0
    have p3 := lm3 (by omega) p4
    refine RM.mono (N := NM (max (htM f) (htM g)) + 4) ⟨?_, p3, ?_, ?_, ?_⟩ (by show _ ≤ NM (max (htM f) (htM g) + 1); unfold NM; omega)
    · exact p4.mono (by omega) fun _ z => z
    · exact c2.mono (by omega)
    · exact c1.mono (by omega)
    · exact p0.mono (by omega) fun _ z => z
  | .unt s f g, hL, hf => by
    have hf : okM L f ∧ okM L g := hf
    have F := (rm f hL hf.1).mono (N' := NM (max (htM f) (htM g))) (by unfold NM; omega)
    have G := (rm g hL hf.2).mono (N' := NM (max (htM f) (htM g))) (by unfold NM; omega)
    have hN : 3 ≤ NM (max (htM f) (htM g)) := by unfold NM; omega
    have p3 : Ps 21 (NM (max (htM f) (htM g)) + 1) L (tkM f 4 ++ kUS s :: tkM g 3) (encM (.unt s f g)) V3 := side_two (G := 22) (F := 21) (o1 := kUntil) (o2 := kSince) (A := V4) rfl hN (by cases s <;> decide) (by cases s <;> decide) F.p4 G.p3
    have c1 : Ch 20 (NM (max (htM f) (htM g)) + 2) L V2 [kOr] [kOr] kOr (tkM f 4 ++ kUS s :: tkM g 3) (encM (.unt s f g)) := .one (lm2 (by omega) (.one p3))
    have p0 := lm1 (by omega) c1
    have p4 : Ps 22 (NM (max (htM f) (htM g)) + 2 + 1 + 1) L ([40] :: ((tkM f 4 ++ kUS s :: tkM g 3) ++ [[41]])) (encM (.unt s f g)) V4 := mp_par (by omega) p0
    refine RM.mono (N := NM (max (htM f) (htM g)) + 4) ⟨?_, ?_, ?_, ?_, ?_⟩ (by show _ ≤ NM (max (htM f) (htM g) + 1); unfold NM; omega)
    · exact p4.mono (by omega) fun _ z => z
    · exact p3.mono (by omega) fun _ z => z
    · exact (Ch.one p3).mono (by omega)
    · exact c1.mono (by omega)
    · exact p0.mono (by omega) fun _ z => z
  | .una u f, hL, hf => by
    have F := rm f hL hf
    exact (RM.of4 (f := .una u f) (xs := kUn u :: tkM f 4) (N := NM (htM f) + 1) (by unfold NM; omega) (mp_una (by unfold NM; omega) F.p4) rfl rfl rfl rfl rfl).mono (by show _ ≤ NM (htM f + 1); unfold NM; omega)
  | .ltr c, hL, hf => (RM.of4 (f := .ltr c) (N := 5) (by omega) (mp_ltr hL hf) rfl rfl rfl rfl rfl).mono (by show _ ≤ NM 1; decide)
  | .fin, hL, hf => (RM.of4 (f := .fin) (N := 4) (by omega) mp_fin rfl rfl rfl rfl rfl).mono (by show _ ≤ NM 1; decide)
end
end Pv.G

namespace Pv.G
open PySem PySem.Spec PyProof.Rows L2 Pv
/-! ### expressions -/
abbrev kJoin : It := [106, 111, 105, 110]
abbrev kRepeat : It := [114, 101, 112, 101, 97, 116]
abbrev kEmpty : It := [101, 109, 112, 116, 121]
abbrev kNone : It := [110, 111, 110, 101]
inductive Ex where
  | or (f g : Ex) | and (f g : Ex) | join (f g : Ex) | neg (f : Ex) | rep (f : Ex) | ltr (c : Nat) | emp (n : Bool)
def kEN (n : Bool) : It := if n then kNone else kEmpty
def encE : Ex → List D
  | .or f g => [.str kOr, .tup (encE f), .tup (encE g)]
  | .and f g => [.str kAnd, .tup (encE f), .tup (encE g)]
  | .join f g => [.str kJoin, .tup (encE f), .tup (encE g)]
  | .neg f => [.str kNot, .tup (encE f)]
  | .rep f => [.str kRepeat, .tup (encE f)]
  | .ltr c => [.str kLetter, .str [c]]
  | .emp n => [.str (kEN n)]
def tkE : Ex → Nat → List It
  | .or f g, w => par (decide (1 < w)) (tkE f 1 ++ ([[124]] ++ tkE g 2))
  | .and f g, w => par (decide (2 < w)) (tkE f 2 ++ ([[38]] ++ tkE g 3))
  | .join f g, w => par (decide (3 < w)) (tkE f 3 ++ ([] ++ tkE g 4))
  | .neg f, w => par (decide (4 < w)) ([126] :: tkE f 4)
  | .rep f, w => par (decide (5 < w)) (tkE f 5 ++ [[42]])
  | .ltr c, w => [[c]]
  | .emp n, w => [kEN n]
def okE (L : It) : Ex → Prop
  | .or f g => okE L f ∧ okE L g
  | .and f g => okE L f ∧ okE L g
  | .join f g => okE L f ∧ okE L g
  | .neg f => okE L f
  | .rep f => okE L f
  | .ltr c => c ∈ L
  | .emp n => True
def htE : Ex → Nat
  | .or f g => max (htE f) (htE g) + 1
  | .and f g => max (htE f) (htE g) + 1
  | .join f g => max (htE f) (htE g) + 1
  | .neg f => htE f + 1
  | .rep f => htE f + 1
  | .ltr c => 1
  | .emp n => 1
def X2 : List It := [[], [41], [124]]
def X3 : List It := [[], [41], [124], [38]]
def BL (L : It) : List It := bgs ++ L.map fun c => [c]
def X4 (L : It) : List It := X3 ++ BL L
def X5 (L : It) : List It := [42] :: X4 L
section
variable {N : Nat} {L : It} {ds es : List D} {xs ys : List It} {A : List It} {f g : Ex}
theorem BL_facts (hL : isAl L) : (∀ t ∈ BL L, plain1 t = true ∧ (isIn3 t L || decide (t ∈ bgs)) = true) ∧ (∀ t ∈ X3, plain1 t = true ∧ (isIn3 t L || decide (t ∈ bgs)) = false) ∧ (∀ t ∈ X4 L, asc t = true ∧ t ≠ [42]) := by
  rcases hL with rfl | rfl | rfl <;> decide +kernel
theorem ltr_BL {c : Nat} (h : c ∈ L) : [c] ∈ BL L := List.mem_append_right _ (List.mem_map.mpr ⟨c, h, rfl⟩)
theorem par_hd {b : Bool} {l : List It} (h : hd l ∈ BL L ∧ l ≠ []) : hd (par b l) ∈ BL L ∧ par b l ≠ [] := by
  cases b with
  | true => exact ⟨by show ([40] : It) ∈ BL L; exact List.mem_append_left _ (by decide), fun e => nomatch e⟩
  | false => exact h
theorem app_hd {l r : List It} (h : hd l ∈ BL L ∧ l ≠ []) : hd (l ++ r) ∈ BL L ∧ l ++ r ≠ [] := ⟨by rw [hd_app h.2]; exact h.1, fun e => h.2 (List.append_eq_nil_iff.mp e).1⟩
theorem tkE_hd : ∀ (f : Ex) (w : Nat), okE L f → hd (tkE f w) ∈ BL L ∧ tkE f w ≠ []
  | .or f g, w, hf => par_hd (app_hd (tkE_hd f 1 (And.left hf)))
  | .and f g, w, hf => par_hd (app_hd (tkE_hd f 2 (And.left hf)))
  | .join f g, w, hf => par_hd (app_hd (tkE_hd f 3 (And.left hf)))
  | .neg f, w, hf => par_hd ⟨List.mem_append_left _ (by show ([126] : It) ∈ bgs; decide), fun e => nomatch e⟩
  | .rep f, w, hf => par_hd (app_hd (tkE_hd f 5 hf))
  | .ltr c, w, hf => ⟨ltr_BL hf, fun e => nomatch e⟩
  | .emp n, w, hf => ⟨List.mem_append_left _ (by show kEN n ∈ bgs; cases n <;> decide), fun e => nomatch e⟩
theorem eb_par (hN : 3 ≤ N) (h : Ps 24 N L xs ds U0) : Ps 29 (N + 1) L ([40] :: (xs ++ [[41]])) ds A := by
  intro n M p rest Q E hn hR hr q
  obtain ⟨n, rfl⟩ : ∃ m, n = m + 1 := ⟨n - 1, by omega⟩
  refine ⟨d_expression_base, rfl, rfl, ?_⟩
  show wpSs T (Gam T n) b_expression_base _ [some (.ref p), none, none] M
  unfold b_expression_base
  rw [List.cons_append, List.append_assoc] at hR
  refine i_asg (w_seen (n := n) hR (by omega) rfl ?_)
  show wpSs T _ _ _ [some (.ref p), some (.str [40]), none] M
  refine st_ifT pure0 (evT_eq rfl rfl rfl rfl) ?_
  refine i_ex (w_take (n := n) hR (by omega) rfl fun M1 h1 => ?_)
  refine i_asg (w_call (ds := [.ref p]) rfl (h n M1 p _ _ _ (by omega) h1 (show ([41] : It) ∈ U0 by decide) fun M2 h2 => ?_))
  refine i_ex (w_want (n := n) h2 (by omega) rfl fun M3 h3 => ?_)
  exact st_ret (d := .tup ds) (d' := .tup ds) pure0 rfl rfl (gc.here (q _ h3))
theorem eb_emp {b : Bool} : Ps 29 4 L [kEN b] [.str (kEN b)] A := by
  intro n M p rest Q E hn hR hr q
  obtain ⟨n, rfl⟩ : ∃ m, n = m + 1 := ⟨n - 1, by omega⟩
  refine ⟨d_expression_base, rfl, rfl, ?_⟩
  show wpSs T (Gam T n) b_expression_base _ [some (.ref p), none, none] M
  unfold b_expression_base
  have ha : asc (kEN b) = true := hR.asc
  refine i_asg (w_seen (n := n) hR (by omega) rfl ?_)
  show wpSs T _ _ _ [some (.ref p), some (.str (kEN b)), none] M
  refine st_ifF pure0 (evT_eq rfl ha rfl (by cases b <;> rfl)) ?_
  refine st_ifT pure0 (evT_in (l := [kNone, kEmpty]) rfl rfl (by cases b <;> rfl)) ?_
  refine i_ex (w_take (n := n) hR (by omega) rfl fun M1 h1 => ?_)
  exact st_ret (d := .tup [.str (kEN b)]) (d' := .tup [.str (kEN b)]) pure0 rfl rfl (gc.here (q _ h1))
theorem eb_ltr {c : Nat} (hL : isAl L) (hc : c ∈ L) : Ps 29 5 L [[c]] [.str kLetter, .str [c]] A := by
  intro n M p rest Q E hn hR hr q
  obtain ⟨n, rfl⟩ : ∃ m, n = m + 1 := ⟨n - 1, by omega⟩
  refine ⟨d_expression_base, rfl, rfl, ?_⟩
  show wpSs T (Gam T n) b_expression_base _ [some (.ref p), none, none] M
  unfold b_expression_base
  have hcc := al_letter hL hc
  have ha : asc [c] = true := hR.asc
  refine i_asg (w_seen (n := n) hR (by omega) rfl ?_)
  show wpSs T _ _ _ [some (.ref p), some (.str [c]), none] M
  refine st_ifF pure0 (evT_eq rfl ha rfl (by rcases hcc with rfl | rfl | rfl <;> rfl)) ?_
  refine st_ifF pure0 (evT_in (l := [kNone, kEmpty]) rfl rfl (by rcases hcc with rfl | rfl | rfl <;> rfl)) ?_
  refine i_if (i_not (i_val (w_isl (n := n) hR hL rfl (by omega) rfl ?_)))
  refine ⟨true, by show truth (.bl (isIn3 [c] L)) = _; rw [isl_of hc]; rfl, go_skip ?_⟩
  refine i_ret (i_tup (L_ev (d := .str kLetter) rfl rfl (i_L (w_take (n := n) hR (by omega) rfl fun M1 h1 => ?_))))
  exact ⟨by show 2 ≤ 16777216; decide, gc.here (q _ h1)⟩
/-! repeats -/
def repD : Nat → List D → List D
  | 0, a => a
  | j + 1, a => repD j [.str kRepeat, .tup a]
def Sr (N : Nat) (L : It) (xs : List It) (ds : List D) : Prop := ∃ (x0 : List It) (d0 : List D) (j : Nat), Ps 29 N L x0 d0 (X5 L) ∧ (hd x0 ≠ [126] ∧ x0 ≠ []) ∧ xs = x0 ++ List.replicate j [42] ∧ ds = repD j d0
theorem Sr.one (h : Ps 29 N L xs ds (X5 L)) (h2 : hd xs ≠ [126] ∧ xs ≠ []) : Sr N L xs ds := ⟨xs, ds, 0, h, h2, (List.append_nil _).symm, rfl⟩
theorem repD_snoc : ∀ (j : Nat) (a : List D), repD (j + 1) a = [.str kRepeat, .tup (repD j a)]
  | 0, a => rfl
  | j + 1, a => repD_snoc j [.str kRepeat, .tup a]
theorem Sr.snoc (h : Sr N L xs ds) : Sr N L (xs ++ [[42]]) [.str kRepeat, .tup ds] := by
  obtain ⟨x0, d0, j, h1, h2, rfl, rfl⟩ := h
  exact ⟨x0, d0, j + 1, h1, h2, by rw [List.replicate_succ', List.append_assoc], (repD_snoc j d0).symm⟩
theorem Sr.mono {N' : Nat} (h : Sr N L xs ds) (hN : N ≤ N') : Sr N' L xs ds := by
  obtain ⟨x0, d0, j, h1, h2, h3⟩ := h
  exact ⟨x0, d0, j, h1.mono hN fun _ z => z, h2, h3⟩
theorem Sr.ps (hL : isAl L) (hN : 3 ≤ N) (h : Sr N L xs ds) : Ps 28 (N + 1) L xs ds (X4 L) := by
  intro n M p rest Q E hn hR hr q
  obtain ⟨n, rfl⟩ : ∃ m, n = m + 1 := ⟨n - 1, by omega⟩
  obtain ⟨x0, d0, j, h1, h2, rfl, rfl⟩ := h
  refine ⟨d_expression_part, rfl, rfl, ?_⟩
  show wpSs T (Gam T n) b_expression_part _ [some (.ref p), none] M
  unfold b_expression_part
  rw [List.append_assoc] at hR
  obtain ⟨e1, e2, e3⟩ := BL_facts hL
  have hb : hd (x0 ++ (List.replicate j [42] ++ rest)) = hd x0 := hd_app h2.2
  have hst : ∀ j, hd (List.replicate j ([42] : It) ++ rest) ∈ X5 L := fun j => by
    cases j with
    | zero => exact List.mem_cons_of_mem _ hr
    | succ j => exact List.mem_cons_self ..
  refine i_if (i_val (i_cmp (w_seen (n := n) hR (by omega) rfl (w_ev (d := .str [126]) rfl ?_))))
  refine ⟨false, by show opCmp .eq (.str (hd (x0 ++ (List.replicate j [42] ++ rest)))) (.str [126]) = _; rw [eq_str hR.asc rfl, hb, decide_eq_false h2.1], false, rfl, go_skip ?_⟩
  refine i_asg (w_call (ds := [.ref p]) rfl (h1 n M p _ _ _ (by omega) hR (hst j) fun M1 h' => ?_))
  clear hR h1 hb h2 x0
  show wpSs T _ _ _ [some (.ref p), some (.tup d0)] M1
  refine ⟨fun m σ M' => ∃ (a : List D), σ = [some (.ref p), some (.tup a)] ∧ Rd M' p L (List.replicate m [42] ++ rest) ∧ (∀ M', Rd M' p L rest → Q (.tup (repD m a)) M'), ⟨j, d0, rfl, h', q⟩, ?_⟩
  clear h' q d0 j
  rintro m σ M' ⟨a, rfl, hR, q⟩
  cases m with
  | zero =>
    have hR : Rd M' p L rest := hR
    refine i_val (i_cmp (w_seen (n := n) hR (by omega) rfl (w_ev (d := .str [42]) rfl ?_)))
    refine ⟨false, by show opCmp .eq (.str (hd rest)) (.str [42]) = _; rw [eq_str hR.asc rfl, decide_eq_false (e3 _ hr).2], false, rfl, go_f ?_⟩
    exact st_ret (d := .tup a) (d' := .tup a) pure0 rfl rfl (gc.here (q _ hR))
  | succ m =>
    have hR : Rd M' p L ([42] :: (List.replicate m [42] ++ rest)) := hR
    refine i_val (i_cmp (w_seen (n := n) hR (by omega) rfl (w_ev (d := .str [42]) rfl ?_)))
    refine ⟨true, by show opCmp .eq (.str [42]) (.str [42]) = _; rw [eq_str rfl rfl]; rfl, true, rfl, go_t ?_⟩
    refine i_ex (w_take (n := n) hR (by omega) rfl fun M2 h2 => ?_)
    refine st_asg (d := .tup [.str kRepeat, .tup a]) pure0 (ev_tup rfl (by show 2 ≤ 16777216; decide)) rfl ?_
    exact ⟨m, Nat.lt_succ_self m, [.str kRepeat, .tup a], rfl, h2, q⟩
theorem ep_neg (hN : 3 ≤ N) (h : Ps 28 N L xs ds A) : Ps 28 (N + 1) L ([126] :: xs) [.str kNot, .tup ds] A := by
  intro n M p rest Q E hn hR hr q
  obtain ⟨n, rfl⟩ : ∃ m, n = m + 1 := ⟨n - 1, by omega⟩
  refine ⟨d_expression_part, rfl, rfl, ?_⟩
  show wpSs T (Gam T n) b_expression_part _ [some (.ref p), none] M
  unfold b_expression_part
  refine i_if (i_val (i_cmp (w_seen (n := n) hR (by omega) rfl (w_ev (d := .str [126]) rfl ?_))))
  refine ⟨true, by show opCmp .eq (.str [126]) (.str [126]) = _; rw [eq_str rfl rfl]; rfl, true, rfl, go_t ?_⟩
  refine i_ex (w_take (n := n) hR (by omega) rfl fun M1 h1 => ?_)
  refine i_ret (i_tup (L_ev (d := .str kNot) rfl rfl (i_L (w_call (ds := [.ref p]) rfl ?_))))
  refine h n M1 p _ _ _ (by omega) h1 hr fun M2 h2 => ?_
  exact ⟨by show 2 ≤ 16777216; decide, gc.here (q _ h2)⟩
theorem le3 (hL : isAl L) (hN : 4 ≤ N) (h : Ch 28 N L (X4 L) (BL L) [] kJoin xs ds) : Ps 27 (N + 1) L xs ds X3 := Ch.pj (F := 27) rfl hN hL (fun t ht => List.mem_append_left _ ht) (BL_facts hL).1 (BL_facts hL).2.1 h
theorem le2 (hN : 3 ≤ N) (h : Ch 27 N L X3 [[38]] [[38]] kAnd xs ds) : Ps 25 (N + 1) L xs ds X2 := Ch.ps (F := 25) rfl hN rfl (by decide) (by decide) h
theorem le1 (hN : 3 ≤ N) (h : Ch 25 N L X2 [[124]] [[124]] kOr xs ds) : Ps 24 (N + 1) L xs ds U0 := Ch.ps (F := 24) rfl hN rfl (by decide) (by decide) h
structure RE (N : Nat) (L : It) (f : Ex) : Prop where
  s5 : Sr N L (tkE f 5) (encE f)
  p4 : Ps 28 N L (tkE f 4) (encE f) (X4 L)
  c3 : Ch 28 N L (X4 L) (BL L) [] kJoin (tkE f 3) (encE f)
  c2 : Ch 27 N L X3 [[38]] [[38]] kAnd (tkE f 2) (encE f)
  c1 : Ch 25 N L X2 [[124]] [[124]] kOr (tkE f 1) (encE f)
  p0 : Ps 24 N L (tkE f 0) (encE f) U0
theorem RE.mono {N' : Nat} (h : RE N L f) (hN : N ≤ N') : RE N' L f := ⟨h.s5.mono hN, h.p4.mono hN fun _ z => z, h.c3.mono hN, h.c2.mono hN, h.c1.mono hN, h.p0.mono hN fun _ z => z⟩
/-- from the parts that hold tightly -/
theorem RE.of4 (hL : isAl L) (hN : 4 ≤ N) (h5 : Sr N L (tkE f 5) (encE f)) (h : Ps 28 N L xs (encE f) (X4 L)) (h0 : tkE f 0 = xs) (h1 : tkE f 1 = xs) (h2 : tkE f 2 = xs) (h3 : tkE f 3 = xs) (h4 : tkE f 4 = xs) : RE (N + 3) L f := by
  have c3 : Ch 28 N L (X4 L) (BL L) [] kJoin xs (encE f) := .one h
  have c2 : Ch 27 (N + 1) L X3 [[38]] [[38]] kAnd xs (encE f) := .one (le3 hL hN c3)
  have c1 : Ch 25 (N + 2) L X2 [[124]] [[124]] kOr xs (encE f) := .one (le2 (by omega) c2)
  refine ⟨h5.mono (by omega), ?_, ?_, ?_, ?_, ?_⟩
  · rw [h4]; exact h.mono (by omega) fun _ z => z
  · rw [h3]; exact c3.mono (by omega)
  · rw [h2]; exact c2.mono (by omega)
  · rw [h1]; exact c1.mono (by omega)
  · rw [h0]; exact le1 (by omega) c1
theorem par5 (hL : isAl L) (hN : 3 ≤ N) (h : Ps 24 N L xs ds U0) : Sr (N + 1) L ([40] :: (xs ++ [[41]])) ds := .one (eb_par hN h) ⟨by show ([40] : It) ≠ [126]; decide, fun e => nomatch e⟩
def NE (h : Nat) : Nat := 10 * h + 10
theorem re : ∀ (f : Ex), isAl L → okE L f → RE (NE (htE f)) L f
  | .or f g, hL, hf => by
    have hf : okE L f ∧ okE L g := hf
    have F := (re f hL hf.1).mono (N' := NE (max (htE f) (htE g))) (by unfold NE; omega)
    have G := (re g hL hf.2).mono (N' := NE (max (htE f) (htE g))) (by unfold NE; omega)
    have hN : 4 ≤ NE (max (htE f) (htE g)) := by unfold NE; omega
    have g2 := le2 (by omega) G.c2
    have c1 : Ch 25 (NE (max (htE f) (htE g)) + 1) L X2 [[124]] [[124]] kOr (tkE f 1 ++ ([[124]] ++ tkE g 2)) (encE (.or f g)) := (F.c1.mono (by omega)).snoc g2 ⟨⟨by show ([124] : It) ∈ X2; decide, fun e => nomatch e⟩, by show ([124] : It) ∈ [[124]]; decide⟩
    have p0 := le1 (by omega) c1
    have s5 := par5 hL (by omega) p0
    have p4 := Sr.ps hL (by omega) s5
    have c3 : Ch 28 _ L (X4 L) (BL L) [] kJoin ([40] :: ((tkE f 1 ++ ([[124]] ++ tkE g 2)) ++ [[41]])) (encE (.or f g)) := .one p4
    have c2 : Ch 27 _ L X3 [[38]] [[38]] kAnd ([40] :: ((tkE f 1 ++ ([[124]] ++ tkE g 2)) ++ [[41]])) (encE (.or f g)) := .one (le3 hL (by omega) c3)
    exact RE.mono (N := NE (max (htE f) (htE g)) + 9) ⟨s5.mono (by omega), p4.mono (by omega) fun _ z => z, c3.mono (by omega), c2.mono (by omega), c1.mono (by omega), p0.mono (by omega) fun _ z => z⟩ (by show _ ≤ NE (max (htE f) (htE g) + 1); unfold NE; omega)
  | .and f g, hL, hf => by
    have hf : okE L f ∧ okE L g := hf
    have F := (re f hL hf.1).mono (N' := NE (max (htE f) (htE g))) (by unfold NE; omega)
    have G := (re g hL hf.2).mono (N' := NE (max (htE f) (htE g))) (by unfold NE; omega)
    have hN : 4 ≤ NE (max (htE f) (htE g)) := by unfold NE; omega
    have g3 := le3 hL (by omega) G.c3
    have c2 : Ch 27 (NE (max (htE f) (htE g)) + 1) L X3 [[38]] [[38]] kAnd (tkE f 2 ++ ([[38]] ++ tkE g 3)) (encE (.and f g)) := (F.c2.mono (by omega)).snoc g3 ⟨⟨by show ([38] : It) ∈ X3; decide, fun e => nomatch e⟩, by show ([38] : It) ∈ [[38]]; decide⟩
    have c1 : Ch 25 _ L X2 [[124]] [[124]] kOr (tkE f 2 ++ ([[38]] ++ tkE g 3)) (encE (.and f g)) := .one (le2 (by omega) c2)
    have p0 := le1 (by omega) c1
    have s5 := par5 hL (by omega) p0
    have p4 := Sr.ps hL (by omega) s5
    have c3 : Ch 28 _ L (X4 L) (BL L) [] kJoin ([40] :: ((tkE f 2 ++ ([[38]] ++ tkE g 3)) ++ [[41]])) (encE (.and f g)) := .one p4
    exact RE.mono (N := NE (max (htE f) (htE g)) + 9) ⟨s5.mono (by omega), p4.mono (by omega) fun _ z => z, c3.mono (by omega), c2.mono (by omega), c1.mono (by omega), p0.mono (by omega) fun _ z => z⟩ (by show _ ≤ NE (max (htE f) (htE g) + 1); unfold NE; omega)
  | .join f g, hL, hf => by
    have hf : okE L f ∧ okE L g := hf
    have F := (re f hL hf.1).mono (N' := NE (max (htE f) (htE g))) (by unfold NE; omega)
    have G := (re g hL hf.2).mono (N' := NE (max (htE f) (htE g))) (by unfold NE; omega)
    have hN : 4 ≤ NE (max (htE f) (htE g)) := by unfold NE; omega
    have hg := tkE_hd g 4 hf.2
    have c3 : Ch 28 (NE (max (htE f) (htE g))) L (X4 L) (BL L) [] kJoin (tkE f 3 ++ ([] ++ tkE g 4)) (encE (.join f g)) := F.c3.snoc G.p4 ⟨⟨List.mem_append_right _ hg.1, hg.2⟩, hg.1⟩
    have c2 : Ch 27 _ L X3 [[38]] [[38]] kAnd (tkE f 3 ++ ([] ++ tkE g 4)) (encE (.join f g)) := .one (le3 hL (by omega) c3)
    have c1 : Ch 25 _ L X2 [[124]] [[124]] kOr (tkE f 3 ++ ([] ++ tkE g 4)) (encE (.join f g)) := .one (le2 (by omega) c2)
    have p0 := le1 (by omega) c1
    have s5 := par5 hL (by omega) p0
    have p4 := Sr.ps hL (by omega) s5
    exact RE.mono (N := NE (max (htE f) (htE g)) + 9) ⟨s5.mono (by omega), p4.mono (by omega) fun _ z => z, c3.mono (by omega), c2.mono (by omega), c1.mono (by omega), p0.mono (by omega) fun _ z => z⟩ (by show _ ≤ NE (max (htE f) (htE g) + 1); unfold NE; omega)
  | .neg f, hL, hf => by
    have F := re f hL hf
    have hN : 4 ≤ NE (htE f) := by unfold NE; omega
    have p4 : Ps 28 (NE (htE f) + 1) L ([126] :: tkE f 4) (encE (.neg f)) (X4 L) := ep_neg (by omega) F.p4
    have c3 : Ch 28 _ L (X4 L) (BL L) [] kJoin ([126] :: tkE f 4) (encE (.neg f)) := .one p4
    have c2 : Ch 27 _ L X3 [[38]] [[38]] kAnd ([126] :: tkE f 4) (encE (.neg f)) := .one (le3 hL (by omega) c3)
    have c1 : Ch 25 _ L X2 [[124]] [[124]] kOr ([126] :: tkE f 4) (encE (.neg f)) := .one (le2 (by omega) c2)
    have p0 := le1 (by omega) c1
    have s5 := par5 hL (by omega) p0
    exact RE.mono (N := NE (htE f) + 9) ⟨s5.mono (by omega), p4.mono (by omega) fun _ z => z, c3.mono (by omega), c2.mono (by omega), c1.mono (by omega), p0.mono (by omega) fun _ z => z⟩ (by show _ ≤ NE (htE f + 1); unfold NE; omega)
  | .rep f, hL, hf => by
    have F := re f hL hf
    have hN : 4 ≤ NE (htE f) := by unfold NE; omega
    have s5 : Sr (NE (htE f)) L (tkE f 5 ++ [[42]]) (encE (.rep f)) := F.s5.snoc
    have p4 := Sr.ps hL (by omega) s5
    exact (RE.of4 (f := .rep f) (xs := tkE f 5 ++ [[42]]) (N := NE (htE f) + 1) hL (by omega) (s5.mono (by omega)) p4 rfl rfl rfl rfl rfl).mono (by show _ ≤ NE (htE f + 1); unfold NE; omega)
  | .ltr c, hL, hf => by
    have hcc := al_letter hL hf
    have s5 : Sr 5 L [[c]] (encE (.ltr c)) := .one (eb_ltr hL hf) ⟨by show ([c] : It) ≠ [126]; rcases hcc with rfl | rfl | rfl <;> decide, fun e => nomatch e⟩
    exact (RE.of4 (f := .ltr c) (xs := [[c]]) (N := 6) hL (by omega) (s5.mono (by omega)) (Sr.ps hL (by omega) s5) rfl rfl rfl rfl rfl).mono (by show _ ≤ NE 1; decide)
  | .emp n, hL, hf => by
    have s5 : Sr 4 L [kEN n] (encE (.emp n)) := .one eb_emp ⟨by show kEN n ≠ [126]; cases n <;> decide, fun e => nomatch e⟩
    exact (RE.of4 (f := .emp n) (xs := [kEN n]) (N := 5) hL (by omega) (s5.mono (by omega)) (Sr.ps hL (by omega) s5) rfl rfl rfl rfl rfl).mono (by show _ ≤ NE 1; decide)
end
end Pv.G

namespace Pv.G
open PySem PySem.Spec PyProof.Rows L2 Pv
section
variable {k n N F G : Nat} {L : It} {ds es : List D} {xs ys : List It} {A : List It} {M : Mem} {Q : D → Mem → Prop} {E : Exn → Mem → Prop} {p : PySem.Addr}
/-! ### reading -/
theorem toks_fst : ∀ (its : List It) (a : Nat), (toks a its).map (·.1) = its.filter fun x => !decide (x = [32])
  | [], a => rfl
  | x :: r, a => by
    show (if x = [32] then toks (a + 1) r else (x, a) :: toks (a + x.length) r).map (·.1) = _
    rw [List.filter_cons]
    by_cases h : x = [32]
    · rw [if_pos h, decide_eq_true h, toks_fst r]; rfl
    · rw [if_neg h, decide_eq_false h, List.map_cons, toks_fst r]; rfl
theorem toks_ok {its : List It} (h : adj its = true) : ∀ x ∈ toks 0 its, asc x.1 = true := fun x hx => by
  have : x.1 ∈ (toks 0 its).map (·.1) := List.mem_map.mpr ⟨x, hx, rfl⟩
  rw [toks_fst] at this
  exact ok_asc (adj_ok h _ (List.mem_filter.mp this).1)
theorem c_init {its : List It} (hk : k ≤ 3) (h : adj its = true) (hz : its.flatten.length ≤ 100000) (hM : M p = some (.ins 0 [])) (q : ∀ M', Rd M' p (abc.take k) ((toks 0 its).map (·.1)) → Q .non M') : Gam T (n + 6) 53 [.ref p, .int k, .str its.flatten] M Q E := by
  refine ⟨d_Reader___init__, rfl, rfl, ?_⟩
  show wpSs T _ b_Reader___init__ _ [some (.ref p), some (.int k), some (.str its.flatten)] M
  unfold b_Reader___init__
  refine i_setF (w_ev (d := .str (abc.take k)) ?_ ?_)
  · show some (D.str (cutL none (some (k : Int)) abc)) = _
    rw [cut_take (by show k ≤ 3; exact hk)]
  refine boxd_v (fun i => nofun) rfl (w_var (d := .ref p) rfl rfl ?_)
  refine ⟨p, 0, _, rfl, hM, rfl, by decide, ?_⟩
  have m1 : mset M p (.ins 0 (putN 9 (.str (abc.take k)) [])) p = some (.ins 0 [(9, .str (abc.take k))]) := mset_same
  generalize mset M p (.ins 0 (putN 9 (.str (abc.take k)) [])) = M1 at m1 ⊢
  refine i_setF (w_call (ds := [.str its.flatten]) rfl (c_tokens h hz ?_))
  intro a ha
  have hap : a ≠ p := fun e => by rw [e, m1] at ha; cases ha
  refine w_var (d := .ref p) rfl rfl ?_
  refine ⟨p, 0, _, rfl, by rw [mset_ne (Ne.symm hap)]; exact m1, rfl, by show 1 < 100; decide, ?_⟩
  have m2 : mset (mset M1 a (.l ((toks 0 its).map encT))) p (.ins 0 (putN 10 (.ref a) [(9, .str (abc.take k))])) p = some (.ins 0 [(9, .str (abc.take k)), (10, .ref a)]) := mset_same
  have m3 : mset (mset M1 a (.l ((toks 0 its).map encT))) p (.ins 0 (putN 10 (.ref a) [(9, .str (abc.take k))])) a = some (.l ((toks 0 its).map encT)) := by
    rw [mset_ne hap]; exact mset_same
  generalize mset (mset M1 a (.l ((toks 0 its).map encT))) p (.ins 0 (putN 10 (.ref a) [(9, .str (abc.take k))])) = M2 at m2 m3 ⊢
  refine i_setF (w_ev (d := .int its.flatten.length) (ev_len (d := .str its.flatten) rfl rfl) ?_)
  refine boxd_v (fun i => nofun) rfl (w_var (d := .ref p) rfl rfl ?_)
  refine ⟨p, 0, _, rfl, m2, rfl, by show 2 < 100; decide, ?_⟩
  have m4 : mset M2 p (.ins 0 (putN 11 (.int its.flatten.length) [(9, .str (abc.take k)), (10, .ref a)])) p = some (.ins 0 [(9, .str (abc.take k)), (10, .ref a), (11, .int its.flatten.length)]) := mset_same
  have m5 : mset M2 p (.ins 0 (putN 11 (.int its.flatten.length) [(9, .str (abc.take k)), (10, .ref a)])) a = some (.l ((toks 0 its).map encT)) := by
    rw [mset_ne hap]; exact m3
  generalize mset M2 p (.ins 0 (putN 11 (.int its.flatten.length) [(9, .str (abc.take k)), (10, .ref a)])) = M3 at m4 m5 ⊢
  refine i_setF (w_ev (d := .int (0 : Nat)) rfl ?_)
  refine boxd_v (fun i => nofun) rfl (w_var (d := .ref p) rfl rfl ?_)
  refine ⟨p, 0, _, rfl, m4, rfl, by show 3 < 100; decide, ?_⟩
  refine st_nil (gc.here (q _ ?_))
  exact ⟨a, its.flatten.length, 0, toks 0 its, mset_same, by rw [mset_ne hap]; exact m5, rfl, toks_ok h⟩
def readB (G : Nat) : List CS := [.asg 2 (.new 0 [] [(.var 0), (.var 1)]), .ret (.mth 0 8 (.var 2) [] [(.call G [] [(.var 2)])])]
theorem c_read {its : List It} (hF : T.defs[F]? = some ⟨2, 3, readB G⟩) (h : Ps G N (abc.take k) xs ds U0) (hk : k ≤ 3) (hadj : adj its = true) (hz : its.flatten.length ≤ 100000) (hx : its.filter (fun x => !decide (x = [32])) = xs) (hN : N + 1 ≤ n) (h6 : 7 ≤ n) (q : ∀ M', Q (.tup ds) M') : Gam T n F [.int k, .str its.flatten] M Q E := by
  obtain ⟨n, rfl⟩ : ∃ m, n = m + 7 := ⟨n - 7, by omega⟩
  refine ⟨_, hF, rfl, ?_⟩
  show wpSs T (Gam T (n + 6)) (readB G) _ [some (.int k), some (.str its.flatten), none] M
  refine i_asg (i_new (A_ev (d := .int k) rfl rfl (A_ev (d := .str its.flatten) rfl rfl ?_)))
  intro p hp
  refine c_init hk hadj hz mset_same fun M1 h1 => ⟨rfl, ?_⟩
  show wpSs T _ _ _ [some (.int k), some (.str its.flatten), some (.ref p)] M1
  rw [toks_fst, hx] at h1
  have h1' := h1
  obtain ⟨a, e, i, fnd, g1, g2, g3, g4⟩ := h1'
  refine i_ret (i_mth (w_var (d := .ref p) rfl rfl ?_))
  refine ⟨p, _, 62, rfl, g1, rfl, rfl, i_A (w_call (ds := [.ref p]) rfl ?_)⟩
  refine h (n + 6) M1 p [] _ _ (by omega) (by rw [List.append_nil]; exact h1) (show ([] : It) ∈ U0 by decide) fun M2 h2 => ?_
  exact c_whole (k := n + 5) h2 rfl (fun i => nofun) (gc.here (q _))
/-! in parentheses -/
def inPar (xs : List It) : List It := [40] :: (xs ++ [[41]])
theorem ppar (hN : 3 ≤ N) (h : Ps 11 N L xs ds U0) : Ps 11 (N + 4) L (inPar xs) ds U0 :=
  lp0 (by omega) (lp1 (by omega) (.one (lp2 (by omega) (.one (pp_par hN h)))))
theorem mpar (hN : 3 ≤ N) (h : Ps 19 N L xs ds U0) : Ps 19 (N + 4) L (inPar xs) ds U0 :=
  lm1 (by omega) (.one (lm2 (by omega) (.one (lm3 (by omega) (mp_par hN h)))))
theorem epar (hL : isAl L) (hN : 3 ≤ N) (h : Ps 24 N L xs ds U0) : Ps 24 (N + 5) L (inPar xs) ds U0 :=
  le1 (by omega) (.one (le2 (by omega) (.one (le3 hL (by omega) (.one (Sr.ps hL (by omega) (par5 hL hN h)))))))
end
end Pv.G

namespace Pv.G
open PySem PySem.Spec PyProof.Rows L2 Pv
/-! ### printed texts -/
def itP : Pl → Nat → List It
  | .thn b f g, w => par (decide (0 < w)) (itP f 1 ++ (sp :: kTB b :: sp :: itP g 0))
  | .or f g, w => par (decide (1 < w)) (itP f 1 ++ (sp :: kOr :: sp :: itP g 2))
  | .and f g, w => par (decide (2 < w)) (itP f 2 ++ (sp :: kAnd :: sp :: itP g 3))
  | .neg f, w => par (decide (3 < w)) (kNot :: sp :: itP f 3)
  | .bnd a s x f, w => par (decide (0 < w)) (kSA a :: sp :: x :: sp :: [46] :: sp :: itP f 0)
  | .cnt d l x f, w => par (decide (0 < w)) (kRest :: sp :: [48 + d] :: sp :: [48 + l] :: sp :: x :: sp :: [46] :: sp :: itP f 0)
  | .ltr c x, w => [[c], [40], x, [41]]
  | .rel r x y, w => [x, sp, sRel r, sp, y]
  | .wit x s, w => [x, sp, kIn, sp, s]
def itM : Mo → Nat → List It
  | .or f g, w => par (decide (1 < w)) (itM f 1 ++ (sp :: kOr :: sp :: itM g 2))
  | .and f g, w => par (decide (2 < w)) (itM f 2 ++ (sp :: kAnd :: sp :: itM g 3))
  | .unt s f g, w => par (decide (3 < w)) (itM f 4 ++ (sp :: kUS s :: sp :: itM g 3))
  | .una u f, w => par (decide (4 < w)) (kUn u :: sp :: itM f 4)
  | .ltr c, w => [[c]]
  | .fin, w => [kEnd]
def itE : Ex → Nat → List It
  | .or f g, w => par (decide (1 < w)) (itE f 1 ++ (sp :: [124] :: sp :: itE g 2))
  | .and f g, w => par (decide (2 < w)) (itE f 2 ++ (sp :: [38] :: sp :: itE g 3))
  | .join f g, w => par (decide (3 < w)) (itE f 3 ++ (sp :: itE g 4))
  | .neg f, w => par (decide (4 < w)) ([126] :: sp :: itE f 4)
  | .rep f, w => par (decide (5 < w)) (itE f 5 ++ [[42]])
  | .ltr c, w => [[c]]
  | .emp n, w => [kEN n]
def nsp (x : It) : Bool := !decide (x = [32])
theorem fl_par {b : Bool} {l : List It} : (par b l).filter nsp = par b (l.filter nsp) := by
  cases b with
  | true =>
    show ([40] :: (l ++ [[41]])).filter nsp = [40] :: (l.filter nsp ++ [[41]])
    rw [List.filter_cons, if_pos (by decide), List.filter_append]; rfl
  | false => rfl
theorem fl_sp {l : List It} : (sp :: l).filter nsp = l.filter nsp := by rw [List.filter_cons, if_neg (by decide)]
theorem fl_c {x : It} {l : List It} (h : nsp x = true) : (x :: l).filter nsp = x :: l.filter nsp := by rw [List.filter_cons, if_pos h]
theorem nsp_x {x : It} (h : x ∈ plN) : nsp x = true := (by decide : ∀ x ∈ plN, nsp x = true) x h
theorem nsp_bs {s : Bool} {x : It} (h : if s then x = [88] else x ∈ plN) : nsp x = true := by
  cases s with
  | true => have h : x = [88] := h; subst h; rfl
  | false => exact nsp_x h
theorem nsp_l {L : It} {c : Nat} (hL : isAl L) (h : c ∈ L) : nsp [c] = true := by
  rcases al_letter hL h with rfl | rfl | rfl <;> rfl
theorem nsp_fig {d : Nat} : nsp [48 + d] = true := by
  show (!decide ([48 + d] = [32])) = true
  rw [decide_eq_false]; rfl
  intro e
  have := (List.cons.inj e).1
  omega
theorem flP {L : It} (hL : isAl L) : ∀ (f : Pl) (w : Nat), okP L f → (itP f w).filter nsp = tkP f w
  | .thn b f g, w, h => by
    have h : okP L f ∧ okP L g := h
    show (par _ _).filter nsp = par _ _
    rw [fl_par, List.filter_append, fl_sp, fl_c (by cases b <;> rfl), fl_sp, flP hL f _ h.1, flP hL g _ h.2]
  | .or f g, w, h => by
    have h : okP L f ∧ okP L g := h
    show (par _ _).filter nsp = par _ _
    rw [fl_par, List.filter_append, fl_sp, fl_c rfl, fl_sp, flP hL f _ h.1, flP hL g _ h.2]; rfl
  | .and f g, w, h => by
    have h : okP L f ∧ okP L g := h
    show (par _ _).filter nsp = par _ _
    rw [fl_par, List.filter_append, fl_sp, fl_c rfl, fl_sp, flP hL f _ h.1, flP hL g _ h.2]; rfl
  | .neg f, w, h => by
    show (par _ _).filter nsp = par _ _
    rw [fl_par, fl_c rfl, fl_sp, flP hL f _ h]
  | .bnd a s x f, w, h => by
    have h : (if s then x = [88] else x ∈ plN) ∧ okP L f := h
    show (par _ _).filter nsp = par _ _
    rw [fl_par, fl_c (by cases a <;> rfl), fl_sp, fl_c (nsp_bs h.1), fl_sp, fl_c rfl, fl_sp, flP hL f _ h.2]
  | .cnt d l x f, w, h => by
    have h : ((d = 2 ∨ d = 3) ∧ l < d ∧ x ∈ plN) ∧ okP L f := h
    show (par _ _).filter nsp = par _ _
    rw [fl_par, fl_c rfl, fl_sp, fl_c nsp_fig, fl_sp, fl_c nsp_fig, fl_sp, fl_c (nsp_x h.1.2.2), fl_sp, fl_c rfl, fl_sp, flP hL f _ h.2]
  | .ltr c x, w, h => by
    have h : c ∈ L ∧ x ∈ plN := h
    show [[c], [40], x, [41]].filter nsp = _
    rw [fl_c (nsp_l hL h.1), fl_c rfl, fl_c (nsp_x h.2)]; rfl
  | .rel r x y, w, h => by
    have h : x ∈ plN ∧ y ∈ plN := h
    show [x, sp, sRel r, sp, y].filter nsp = _
    rw [fl_c (nsp_x h.1), fl_sp, fl_c ((by decide : ∀ r : Fin 3, nsp (sRel r) = true) r), fl_sp, fl_c (nsp_x h.2)]; rfl
  | .wit x s, w, h => by
    have h : x ∈ plN ∧ s = [88] := h
    obtain ⟨h1, rfl⟩ := h
    show [x, sp, kIn, sp, [88]].filter nsp = _
    rw [fl_c (nsp_x h1), fl_sp, fl_c rfl, fl_sp, fl_c rfl]; rfl
theorem flM {L : It} (hL : isAl L) : ∀ (f : Mo) (w : Nat), okM L f → (itM f w).filter nsp = tkM f w
  | .or f g, w, h => by
    have h : okM L f ∧ okM L g := h
    show (par _ _).filter nsp = par _ _
    rw [fl_par, List.filter_append, fl_sp, fl_c rfl, fl_sp, flM hL f _ h.1, flM hL g _ h.2]; rfl
  | .and f g, w, h => by
    have h : okM L f ∧ okM L g := h
    show (par _ _).filter nsp = par _ _
    rw [fl_par, List.filter_append, fl_sp, fl_c rfl, fl_sp, flM hL f _ h.1, flM hL g _ h.2]; rfl
  | .unt s f g, w, h => by
    have h : okM L f ∧ okM L g := h
    show (par _ _).filter nsp = par _ _
    rw [fl_par, List.filter_append, fl_sp, fl_c (by cases s <;> rfl), fl_sp, flM hL f _ h.1, flM hL g _ h.2]
  | .una u f, w, h => by
    show (par _ _).filter nsp = par _ _
    rw [fl_par, fl_c ((by decide : ∀ u : Fin 7, nsp (kUn u) = true) u), fl_sp, flM hL f _ h]
  | .ltr c, w, h => by
    show [[c]].filter nsp = _
    rw [fl_c (nsp_l hL h)]; rfl
  | .fin, w, h => rfl
theorem flE {L : It} (hL : isAl L) : ∀ (f : Ex) (w : Nat), okE L f → (itE f w).filter nsp = tkE f w
  | .or f g, w, h => by
    have h : okE L f ∧ okE L g := h
    show (par _ _).filter nsp = par _ _
    rw [fl_par, List.filter_append, fl_sp, fl_c rfl, fl_sp, flE hL f _ h.1, flE hL g _ h.2]; rfl
  | .and f g, w, h => by
    have h : okE L f ∧ okE L g := h
    show (par _ _).filter nsp = par _ _
    rw [fl_par, List.filter_append, fl_sp, fl_c rfl, fl_sp, flE hL f _ h.1, flE hL g _ h.2]; rfl
  | .join f g, w, h => by
    have h : okE L f ∧ okE L g := h
    show (par _ _).filter nsp = par _ _
    rw [fl_par, List.filter_append, fl_sp, flE hL f _ h.1, flE hL g _ h.2]; rfl
  | .neg f, w, h => by
    show (par _ _).filter nsp = par _ _
    rw [fl_par, fl_c rfl, fl_sp, flE hL f _ h]
  | .rep f, w, h => by
    show (par _ _).filter nsp = par _ _
    rw [fl_par, List.filter_append, fl_c rfl, flE hL f _ h]; rfl
  | .ltr c, w, h => by
    show [[c]].filter nsp = _
    rw [fl_c (nsp_l hL h)]; rfl
  | .emp n, w, h => by cases n <;> rfl
/-! no word stands at a word -/
def nw (l : List It) : Prop := ∀ x, l.head? = some x → isWd x = false
theorem adj_cons {x : It} {l : List It} (hx : okI x = true) (h : isWd x = false ∨ nw l) (hl : adj l = true) : adj (x :: l) = true := by
  cases l with
  | nil => exact hx
  | cons y r =>
    show (okI x && !(isWd x && isWd y) && adj (y :: r)) = true
    rw [hx, hl]
    rcases h with h | h
    · rw [h]; rfl
    · rw [h y rfl]; cases isWd x <;> rfl
theorem adj_app : ∀ {a b : List It}, adj a = true → adj b = true → nw b → adj (a ++ b) = true
  | [], b, _, hb, _ => hb
  | [x], b, ha, hb, hn => adj_cons ha (.inr hn) hb
  | x :: y :: r, b, ha, hb, hn => by
    have h' := ha
    unfold adj at h'
    simp only [Bool.and_eq_true] at h'
    show (okI x && !(isWd x && isWd y) && adj (y :: (r ++ b))) = true
    have := adj_app (a := y :: r) h'.2 hb hn
    rw [h'.1.1, h'.1.2]
    exact this
theorem nw_sp {l : List It} : nw (sp :: l) := fun x hx => by cases hx; rfl
theorem nw_sg {c : Nat} {l : List It} (h : isWd [c] = false) : nw ([c] :: l) := fun x hx => by cases hx; exact h
theorem adj_sp {l : List It} (h : adj l = true) : adj (sp :: l) = true := adj_cons rfl (.inl rfl) h
theorem adj_w {x : It} {l : List It} (hx : okI x = true) (h : adj l = true) : adj (x :: sp :: l) = true := adj_cons hx (.inr nw_sp) (adj_sp h)
theorem adj_par {b : Bool} {l : List It} (h : adj l = true) : adj (par b l) = true := by
  cases b with
  | true => exact adj_cons rfl (.inl rfl) (adj_app h rfl (nw_sg rfl))
  | false => exact h
theorem okI_x {x : It} (h : x ∈ plN) : okI x = true := (by decide +kernel : ∀ x ∈ plN, okI x = true) x h
theorem okI_l {L : It} {c : Nat} (hL : isAl L) (h : c ∈ L) : okI [c] = true := by
  rcases al_letter hL h with rfl | rfl | rfl <;> decide +kernel
theorem okI_bs {s : Bool} {x : It} (h : if s then x = [88] else x ∈ plN) : okI x = true := by
  cases s with
  | true => have h : x = [88] := h; subst h; decide +kernel
  | false => exact okI_x h
theorem okI_fig {d : Nat} (h : d < 10) : okI [48 + d] = true := (by decide +kernel : ∀ d < 10, okI [48 + d] = true) d h
theorem adjP {L : It} (hL : isAl L) : ∀ (f : Pl) (w : Nat), okP L f → adj (itP f w) = true
  | .thn b f g, w, h => by
    have h : okP L f ∧ okP L g := h
    exact adj_par (adj_app (adjP hL f _ h.1) (adj_sp (adj_w (by cases b <;> decide +kernel) (adjP hL g _ h.2))) nw_sp)
  | .or f g, w, h => by
    have h : okP L f ∧ okP L g := h
    exact adj_par (adj_app (adjP hL f _ h.1) (adj_sp (adj_w (by decide +kernel) (adjP hL g _ h.2))) nw_sp)
  | .and f g, w, h => by
    have h : okP L f ∧ okP L g := h
    exact adj_par (adj_app (adjP hL f _ h.1) (adj_sp (adj_w (by decide +kernel) (adjP hL g _ h.2))) nw_sp)
  | .neg f, w, h => adj_par (adj_w (by decide +kernel) (adjP hL f _ h))
  | .bnd a s x f, w, h => by
    have h : (if s then x = [88] else x ∈ plN) ∧ okP L f := h
    exact adj_par (adj_w (by cases a <;> decide +kernel) (adj_w (okI_bs h.1) (adj_w (by decide +kernel) (adjP hL f _ h.2))))
  | .cnt d l x f, w, h => by
    have h : ((d = 2 ∨ d = 3) ∧ l < d ∧ x ∈ plN) ∧ okP L f := h
    exact adj_par (adj_w (by decide +kernel) (adj_w (okI_fig (by omega)) (adj_w (okI_fig (by omega)) (adj_w (okI_x h.1.2.2) (adj_w (by decide +kernel) (adjP hL f _ h.2))))))
  | .ltr c x, w, h => by
    have h : c ∈ L ∧ x ∈ plN := h
    exact adj_cons (okI_l hL h.1) (.inr (nw_sg (by decide +kernel))) (adj_cons (by decide +kernel) (.inl (by decide +kernel)) (adj_cons (okI_x h.2) (.inr (nw_sg (by decide +kernel))) (by decide +kernel)))
  | .rel r x y, w, h => by
    have h : x ∈ plN ∧ y ∈ plN := h
    exact adj_w (okI_x h.1) (adj_w ((by decide +kernel : ∀ r : Fin 3, okI (sRel r) = true) r) (okI_x h.2))
  | .wit x s, w, h => by
    have h : x ∈ plN ∧ s = [88] := h
    obtain ⟨h1, rfl⟩ := h
    exact adj_w (okI_x h1) (by decide +kernel)
theorem adjM {L : It} (hL : isAl L) : ∀ (f : Mo) (w : Nat), okM L f → adj (itM f w) = true
  | .or f g, w, h => by
    have h : okM L f ∧ okM L g := h
    exact adj_par (adj_app (adjM hL f _ h.1) (adj_sp (adj_w (by decide +kernel) (adjM hL g _ h.2))) nw_sp)
  | .and f g, w, h => by
    have h : okM L f ∧ okM L g := h
    exact adj_par (adj_app (adjM hL f _ h.1) (adj_sp (adj_w (by decide +kernel) (adjM hL g _ h.2))) nw_sp)
  | .unt s f g, w, h => by
    have h : okM L f ∧ okM L g := h
    exact adj_par (adj_app (adjM hL f _ h.1) (adj_sp (adj_w (by cases s <;> decide +kernel) (adjM hL g _ h.2))) nw_sp)
  | .una u f, w, h => adj_par (adj_w ((by decide +kernel : ∀ u : Fin 7, okI (kUn u) = true) u) (adjM hL f _ h))
  | .ltr c, w, h => okI_l hL h
  | .fin, w, h => by show okI kEnd = true; decide +kernel
theorem adjE {L : It} (hL : isAl L) : ∀ (f : Ex) (w : Nat), okE L f → adj (itE f w) = true
  | .or f g, w, h => by
    have h : okE L f ∧ okE L g := h
    exact adj_par (adj_app (adjE hL f _ h.1) (adj_sp (adj_w (by decide +kernel) (adjE hL g _ h.2))) nw_sp)
  | .and f g, w, h => by
    have h : okE L f ∧ okE L g := h
    exact adj_par (adj_app (adjE hL f _ h.1) (adj_sp (adj_w (by decide +kernel) (adjE hL g _ h.2))) nw_sp)
  | .join f g, w, h => by
    have h : okE L f ∧ okE L g := h
    exact adj_par (adj_app (adjE hL f _ h.1) (adj_sp (adjE hL g _ h.2)) nw_sp)
  | .neg f, w, h => adj_par (adj_w (by decide +kernel) (adjE hL f _ h))
  | .rep f, w, h => adj_par (adj_app (adjE hL f _ h) (by decide +kernel) (nw_sg (by decide +kernel)))
  | .ltr c, w, h => okI_l hL h
  | .emp n, w, h => by show okI (kEN n) = true; cases n <;> decide +kernel
end Pv.G

namespace Pv.G
open PySem PySem.Spec PyProof.Rows L2 Pv
/-! ### the program's printers -/
def ownP : Pl → Nat
  | .thn b f g => 0
  | .or f g => 1
  | .and f g => 2
  | .neg f => 3
  | .bnd a s x f => 0
  | .cnt d l x f => 0
  | _ => 9
def ownM : Mo → Nat
  | .or f g => 1
  | .and f g => 2
  | .unt s f g => 3
  | .una u f => 4
  | _ => 9
def ownE : Ex → Nat
  | .or f g => 1
  | .and f g => 2
  | .join f g => 3
  | .neg f => 4
  | .rep f => 5
  | _ => 9
def parT (b : Bool) (x : List Nat) : List Nat := if b then 40 :: (x ++ [41]) else x
theorem fl_parT {b : Bool} {l : List It} : (par b l).flatten = parT b l.flatten := by
  cases b with
  | true => show ([40] :: (l ++ [[41]])).flatten = 40 :: (l.flatten ++ [41]); simp
  | false => rfl
theorem parT_len {b : Bool} {x : List Nat} : x.length ≤ (parT b x).length := by
  cases b with
  | true => show x.length ≤ (40 :: (x ++ [41])).length; simp only [List.length_cons, List.length_append]; omega
  | false => exact Nat.le_refl _
theorem itP_par (f : Pl) (w : Nat) (hw : w ≤ 8) : (itP f w).flatten = parT (decide (ownP f < w)) (itP f 0).flatten := by
  cases f <;> first | exact fl_parT | (have e : decide (9 < w) = false := decide_eq_false (by omega); show _ = parT (decide (9 < w)) _; rw [e]; rfl)
theorem itM_par (f : Mo) (w : Nat) (hw : w ≤ 8) : (itM f w).flatten = parT (decide (ownM f < w)) (itM f 0).flatten := by
  cases f <;> first | exact fl_parT | (have e : decide (9 < w) = false := decide_eq_false (by omega); show _ = parT (decide (9 < w)) _; rw [e]; rfl)
theorem itE_par (f : Ex) (w : Nat) (hw : w ≤ 8) : (itE f w).flatten = parT (decide (ownE f < w)) (itE f 0).flatten := by
  cases f <;> first | exact fl_parT | (have e : decide (9 < w) = false := decide_eq_false (by omega); show _ = parT (decide (9 < w)) _; rw [e]; rfl)
section
variable {M : Mem} {Q : D → Mem → Prop} {E : Exn → Mem → Prop} {n w : Nat}
/-- a def that prints -/
def Pr (F n : Nat) (ds : List D) (x : List Nat) : Prop := x.length ≤ 100000 → ∀ (M : Mem) (Q : D → Mem → Prop) (E : Exn → Mem → Prop), Q (.str x) M → Gam T n F ds M Q E
def heldB (g F : Nat) : List CS := [.ifS (.val (.cmp .lt (.tget g (.idx (.var 0) (.con (.int 0))) (.glob 8)) (.var 1))) [.ret (.bin .add (.bin .add (.con (.str [40])) (.call F [] [(.var 0)])) (.con (.str [41])))] [], .ret (.call F [] [(.var 0)])]
theorem held_pr {g F H own : Nat} {ds : List D} {x : List Nat} (hF : T.defs[H]? = some ⟨2, 2, heldB g F⟩) (he : ∀ M (w : Nat), ev T (fun _ _ _ => none) (.tget g (.idx (.var 0) (.con (.int 0))) (.glob 8)) [some (.tup ds), some (.int w)] M = some (.int own)) (h : Pr F n [.tup ds] x) : Pr H (n + 1) [.tup ds, .int w] (parT (decide (own < w)) x) := by
  intro hl M Q E q
  refine ⟨_, hF, rfl, ?_⟩
  show wpSs T (Gam T n) (heldB g F) _ [some (.tup ds), some (.int w)] M
  have ec : evT T (fun _ _ _ => none) (.val (.cmp .lt (.tget g (.idx (.var 0) (.con (.int 0))) (.glob 8)) (.var 1))) [some (.tup ds), some (.int w)] M = some (decide (own < w)) := evT_bl (ev_cmp (x := .int own) (y := .int w) (he M w) rfl (by
    show some (decide ((own : Int) < (w : Int))) = _
    congr 1
    exact decide_eq_decide.mpr (by omega)))
  cases hb : decide (own < w) with
  | true =>
    rw [hb] at ec q hl
    refine st_ifT pure0 ec ?_
    exact SL.ret (SL.add (SL.add .con (SL.call (ds := [.tup ds]) rfl h)) .con) rfl hl (gc.here q)
  | false =>
    rw [hb] at ec q hl
    refine st_ifF pure0 ec ?_
    exact SL.ret (SL.call (ds := [.tup ds]) rfl h) rfl hl (gc.here q)
theorem str_fig {d : Nat} (h : d < 10) : bStr (.int d) = some (.str [48 + d]) := by
  have : ∀ d : Nat, d < 10 → digits (d : Int) = [48 + d] ∧ (d : Int).natAbs.log2 < 1900 := by decide +kernel
  obtain ⟨h1, h2⟩ := this d h
  show (if _ ∧ _ then some (D.str (digits d)) else none) = _
  rw [h1, if_pos ⟨h2, by show 1 ≤ 16777216; decide⟩]
theorem pr_held {f : Pl} (h : Pr 31 n [.tup (encP f)] (itP f 0).flatten) (hw : w ≤ 8) : Pr 30 (n + 1) [.tup (encP f), .int w] (itP f w).flatten := by
  rw [itP_par f w hw]
  refine held_pr (g := 1) (F := 31) rfl (fun M w => ?_) h
  cases f with
  | thn b f g => cases b <;> rfl
  | or f g => rfl
  | and f g => rfl
  | neg f => rfl
  | bnd a s x f => cases a <;> cases s <;> rfl
  | cnt d l x f => rfl
  | ltr c x => rfl
  | rel r x y =>
    match r with
    | 0 => rfl
    | 1 => rfl
    | 2 => rfl
  | wit x s => rfl
theorem ev_i {σ : St} {i j : Nat} {ds : List D} {d : D} (h : σ[i]? = some (some (.tup ds))) (hd : ds[j]? = some d) : ev T (fun _ _ _ => none) (.idx (.var i) (.con (.int j))) σ M = some d := ev_idx (x := .tup ds) (y := .int j) (ev_var h rfl) rfl (by show L2.atI ds (j : Int) = _; rw [atI_nat, hd])
theorem tp : ∀ (f : Pl) (n : Nat), (∃ L, isAl L ∧ okP L f) → 2 * htP f ≤ n → Pr 31 n [.tup (encP f)] (itP f 0).flatten
  | .thn b f g, n, hf, hn => by
    obtain ⟨L, hL, h⟩ := hf
    have h : okP L f ∧ okP L g := h
    have hn : 2 * (max (htP f) (htP g) + 1) ≤ n := hn
    obtain ⟨n, rfl⟩ : ∃ m, n = m + 2 := ⟨n - 2, by omega⟩
    have F := pr_held (w := 1) (tp f n ⟨L, hL, h.1⟩ (by omega)) (by omega)
    have G := pr_held (w := 0) (tp g n ⟨L, hL, h.2⟩ (by omega)) (by omega)
    intro hl M Q E q
    refine ⟨d_places_text, rfl, rfl, ?_⟩
    show wpSs T (Gam T (n + 1)) b_places_text _ [some (.tup (encP (.thn b f g)))] M
    unfold b_places_text
    refine st_ifT pure0 (evT_hIn (t := kTB b) (l := [kThen, kBoth]) rfl rfl (by cases b <;> rfl)) ?_
    exact SL.ret (SL.add (SL.add (SL.add (SL.add (SL.call (ds := [.tup (encP f), .int (1 : Nat)]) rfl F) .con) (SL.ev (x := kTB b) rfl)) .con) (SL.call (ds := [.tup (encP g), .int (0 : Nat)]) rfl G)) (by show _ = (itP f 1 ++ (sp :: kTB b :: sp :: itP g 0)).flatten; simp) hl (gc.here q)
  | .or f g, n, hf, hn => by
    obtain ⟨L, hL, h⟩ := hf
    have h : okP L f ∧ okP L g := h
    have hn : 2 * (max (htP f) (htP g) + 1) ≤ n := hn
    obtain ⟨n, rfl⟩ : ∃ m, n = m + 2 := ⟨n - 2, by omega⟩
    have F := pr_held (w := 1) (tp f n ⟨L, hL, h.1⟩ (by omega)) (by omega)
    have G := pr_held (w := 2) (tp g n ⟨L, hL, h.2⟩ (by omega)) (by omega)
    intro hl M Q E q
    refine ⟨d_places_text, rfl, rfl, ?_⟩
    show wpSs T (Gam T (n + 1)) b_places_text _ [some (.tup (encP (.or f g)))] M
    unfold b_places_text
    refine st_ifF pure0 (evT_hIn (t := kOr) (l := [kThen, kBoth]) rfl rfl rfl) ?_
    refine st_ifT pure0 (evT_hEq (t := kOr) rfl rfl rfl rfl) ?_
    exact SL.ret (SL.add (SL.add (SL.call (ds := [.tup (encP f), .int (1 : Nat)]) rfl F) .con) (SL.call (ds := [.tup (encP g), .int (2 : Nat)]) rfl G)) (by show _ = (itP f 1 ++ (sp :: kOr :: sp :: itP g 2)).flatten; simp) hl (gc.here q)
  | .and f g, n, hf, hn => by
    obtain ⟨L, hL, h⟩ := hf
    have h : okP L f ∧ okP L g := h
    have hn : 2 * (max (htP f) (htP g) + 1) ≤ n := hn
    obtain ⟨n, rfl⟩ : ∃ m, n = m + 2 := ⟨n - 2, by omega⟩
    have F := pr_held (w := 2) (tp f n ⟨L, hL, h.1⟩ (by omega)) (by omega)
    have G := pr_held (w := 3) (tp g n ⟨L, hL, h.2⟩ (by omega)) (by omega)
    intro hl M Q E q
    refine ⟨d_places_text, rfl, rfl, ?_⟩
    show wpSs T (Gam T (n + 1)) b_places_text _ [some (.tup (encP (.and f g)))] M
    unfold b_places_text
    refine st_ifF pure0 (evT_hIn (t := kAnd) (l := [kThen, kBoth]) rfl rfl rfl) ?_
    refine st_ifF pure0 (evT_hEq (t := kAnd) rfl rfl rfl rfl) ?_
    refine st_ifT pure0 (evT_hEq (t := kAnd) rfl rfl rfl rfl) ?_
    exact SL.ret (SL.add (SL.add (SL.call (ds := [.tup (encP f), .int (2 : Nat)]) rfl F) .con) (SL.call (ds := [.tup (encP g), .int (3 : Nat)]) rfl G)) (by show _ = (itP f 2 ++ (sp :: kAnd :: sp :: itP g 3)).flatten; simp) hl (gc.here q)
  | .neg f, n, hf, hn => by
    obtain ⟨L, hL, h⟩ := hf
    have h : okP L f := h
    have hn : 2 * (htP f + 1) ≤ n := hn
    obtain ⟨n, rfl⟩ : ∃ m, n = m + 2 := ⟨n - 2, by omega⟩
    have F := pr_held (w := 3) (tp f n ⟨L, hL, h⟩ (by omega)) (by omega)
    intro hl M Q E q
    refine ⟨d_places_text, rfl, rfl, ?_⟩
    show wpSs T (Gam T (n + 1)) b_places_text _ [some (.tup (encP (.neg f)))] M
    unfold b_places_text
    refine st_ifF pure0 (evT_hIn (t := kNot) (l := [kThen, kBoth]) rfl rfl rfl) ?_
    refine st_ifF pure0 (evT_hEq (t := kNot) rfl rfl rfl rfl) ?_
    refine st_ifF pure0 (evT_hEq (t := kNot) rfl rfl rfl rfl) ?_
    refine st_ifT pure0 (evT_hEq (t := kNot) rfl rfl rfl rfl) ?_
    exact SL.ret (SL.add .con (SL.call (ds := [.tup (encP f), .int (3 : Nat)]) rfl F)) (by show _ = (kNot :: sp :: itP f 3).flatten; simp) hl (gc.here q)
  | .bnd a s x f, n, hf, hn => by
    obtain ⟨L, hL, h⟩ := hf
    have h : (if s then x = [88] else x ∈ plN) ∧ okP L f := h
    have hn : 2 * (htP f + 1) ≤ n := hn
    obtain ⟨n, rfl⟩ : ∃ m, n = m + 2 := ⟨n - 2, by omega⟩
    have F := pr_held (w := 0) (tp f n ⟨L, hL, h.2⟩ (by omega)) (by omega)
    intro hl M Q E q
    refine ⟨d_places_text, rfl, rfl, ?_⟩
    show wpSs T (Gam T (n + 1)) b_places_text _ [some (.tup (encP (.bnd a s x f)))] M
    unfold b_places_text
    have ht : asc (kSA a ++ if s then kSet else []) = true := by cases a <;> cases s <;> rfl
    refine st_ifF pure0 (evT_hIn (t := kSA a ++ if s then kSet else []) (l := [kThen, kBoth]) rfl rfl (by cases a <;> cases s <;> rfl)) ?_
    refine st_ifF pure0 (evT_hEq (t := kSA a ++ if s then kSet else []) rfl ht rfl (by cases a <;> cases s <;> rfl)) ?_
    refine st_ifF pure0 (evT_hEq (t := kSA a ++ if s then kSet else []) rfl ht rfl (by cases a <;> cases s <;> rfl)) ?_
    refine st_ifF pure0 (evT_hEq (t := kSA a ++ if s then kSet else []) rfl ht rfl (by cases a <;> cases s <;> rfl)) ?_
    have ex : ev T (fun _ _ _ => none) (.idx (.var 0) (.con (.int 1))) [some (.tup (encP (.bnd a s x f)))] M = some (.str x) := ev_i rfl rfl
    cases a with
    | false =>
      refine st_ifT pure0 (evT_hIn (t := kSome ++ if s then kSet else []) (l := [kSome, kSome ++ kSet]) rfl rfl (by cases s <;> rfl)) ?_
      exact SL.ret (SL.add (SL.add (SL.add .con (SL.ev ex)) .con) (SL.call (ds := [.tup (encP f), .int (0 : Nat)]) rfl F)) (by show _ = (kSome :: sp :: x :: sp :: [46] :: sp :: itP f 0).flatten; simp) hl (gc.here q)
    | true =>
      refine st_ifF pure0 (evT_hIn (t := kAll ++ if s then kSet else []) (l := [kSome, kSome ++ kSet]) rfl rfl (by cases s <;> rfl)) ?_
      refine st_ifT pure0 (evT_hIn (t := kAll ++ if s then kSet else []) (l := [kAll, kAll ++ kSet]) rfl rfl (by cases s <;> rfl)) ?_
      exact SL.ret (SL.add (SL.add (SL.add .con (SL.ev ex)) .con) (SL.call (ds := [.tup (encP f), .int (0 : Nat)]) rfl F)) (by show _ = (kAll :: sp :: x :: sp :: [46] :: sp :: itP f 0).flatten; simp) hl (gc.here q)
  | .cnt d l x f, n, hf, hn => by
    obtain ⟨L, hL, h⟩ := hf
    have h : ((d = 2 ∨ d = 3) ∧ l < d ∧ x ∈ plN) ∧ okP L f := h
    have hn : 2 * (htP f + 1) ≤ n := hn
    obtain ⟨n, rfl⟩ : ∃ m, n = m + 2 := ⟨n - 2, by omega⟩
    have F := pr_held (w := 0) (tp f n ⟨L, hL, h.2⟩ (by omega)) (by omega)
    intro hl M Q E q
    refine ⟨d_places_text, rfl, rfl, ?_⟩
    show wpSs T (Gam T (n + 1)) b_places_text _ [some (.tup (encP (.cnt d l x f)))] M
    unfold b_places_text
    refine st_ifF pure0 (evT_hIn (t := kRest) (l := [kThen, kBoth]) rfl rfl rfl) ?_
    refine st_ifF pure0 (evT_hEq (t := kRest) rfl rfl rfl rfl) ?_
    refine st_ifF pure0 (evT_hEq (t := kRest) rfl rfl rfl rfl) ?_
    refine st_ifF pure0 (evT_hEq (t := kRest) rfl rfl rfl rfl) ?_
    refine st_ifF pure0 (evT_hIn (t := kRest) (l := [kSome, kSome ++ kSet]) rfl rfl rfl) ?_
    refine st_ifF pure0 (evT_hIn (t := kRest) (l := [kAll, kAll ++ kSet]) rfl rfl rfl) ?_
    refine st_ifT pure0 (evT_hEq (t := kRest) rfl rfl rfl rfl) ?_
    have e1 : ev T (fun _ _ _ => none) (.bc .str [(.idx (.var 0) (.con (.int 1)))]) [some (.tup (encP (.cnt d l x f)))] M = some (.str [48 + d]) := str_fig (by omega)
    have e2 : ev T (fun _ _ _ => none) (.bc .str [(.idx (.var 0) (.con (.int 2)))]) [some (.tup (encP (.cnt d l x f)))] M = some (.str [48 + l]) := str_fig (by omega)
    have e3 : ev T (fun _ _ _ => none) (.idx (.var 0) (.con (.int 3))) [some (.tup (encP (.cnt d l x f)))] M = some (.str x) := ev_i rfl rfl
    exact SL.ret (SL.join6 .con (SL.ev e1) (SL.ev e2) (SL.ev e3) .con (SL.call (ds := [.tup (encP f), .int (0 : Nat)]) rfl F)) (by show _ = (kRest :: sp :: [48 + d] :: sp :: [48 + l] :: sp :: x :: sp :: [46] :: sp :: itP f 0).flatten; simp [joinL]) hl (gc.here q)
  | .ltr c x, n, hf, hn => by
    have hn : 2 * 1 ≤ n := hn
    obtain ⟨n, rfl⟩ : ∃ m, n = m + 2 := ⟨n - 2, by omega⟩
    intro hl M Q E q
    refine ⟨d_places_text, rfl, rfl, ?_⟩
    show wpSs T (Gam T (n + 1)) b_places_text _ [some (.tup (encP (.ltr c x)))] M
    unfold b_places_text
    refine st_ifF pure0 (evT_hIn (t := kLetter) (l := [kThen, kBoth]) rfl rfl rfl) ?_
    refine st_ifF pure0 (evT_hEq (t := kLetter) rfl rfl rfl rfl) ?_
    refine st_ifF pure0 (evT_hEq (t := kLetter) rfl rfl rfl rfl) ?_
    refine st_ifF pure0 (evT_hEq (t := kLetter) rfl rfl rfl rfl) ?_
    refine st_ifF pure0 (evT_hIn (t := kLetter) (l := [kSome, kSome ++ kSet]) rfl rfl rfl) ?_
    refine st_ifF pure0 (evT_hIn (t := kLetter) (l := [kAll, kAll ++ kSet]) rfl rfl rfl) ?_
    refine st_ifF pure0 (evT_hEq (t := kLetter) rfl rfl rfl rfl) ?_
    refine st_ifT pure0 (evT_hEq (t := kLetter) rfl rfl rfl rfl) ?_
    exact SL.ret (SL.add (SL.add (SL.add (SL.ev (x := [c]) (ev_i rfl rfl)) .con) (SL.ev (x := x) (ev_i rfl rfl))) .con) (by show _ = ([[c], [40], x, [41]] : List It).flatten; simp) hl (gc.here q)
  | .rel r x y, n, hf, hn => by
    have hn : 2 * 1 ≤ n := hn
    obtain ⟨n, rfl⟩ : ∃ m, n = m + 2 := ⟨n - 2, by omega⟩
    intro hl M Q E q
    refine ⟨d_places_text, rfl, rfl, ?_⟩
    show wpSs T (Gam T (n + 1)) b_places_text _ [some (.tup (encP (.rel r x y)))] M
    unfold b_places_text
    have hall : ∀ r : Fin 3, asc (kRel r) = true ∧ decide (kRel r ∈ [kThen, kBoth]) = false ∧ decide (kRel r = kOr) = false ∧ decide (kRel r = kAnd) = false ∧ decide (kRel r = kNot) = false ∧ decide (kRel r ∈ [kSome, kSome ++ kSet]) = false ∧ decide (kRel r ∈ [kAll, kAll ++ kSet]) = false ∧ decide (kRel r = kRest) = false ∧ decide (kRel r = kLetter) = false := by decide
    obtain ⟨h1, h2, h3, h4, h5, h6, h7, h8, h9⟩ := hall r
    refine st_ifF pure0 (evT_hIn (t := kRel r) (l := [kThen, kBoth]) rfl rfl h2) ?_
    refine st_ifF pure0 (evT_hEq (t := kRel r) rfl h1 rfl h3) ?_
    refine st_ifF pure0 (evT_hEq (t := kRel r) rfl h1 rfl h4) ?_
    refine st_ifF pure0 (evT_hEq (t := kRel r) rfl h1 rfl h5) ?_
    refine st_ifF pure0 (evT_hIn (t := kRel r) (l := [kSome, kSome ++ kSet]) rfl rfl h6) ?_
    refine st_ifF pure0 (evT_hIn (t := kRel r) (l := [kAll, kAll ++ kSet]) rfl rfl h7) ?_
    refine st_ifF pure0 (evT_hEq (t := kRel r) rfl h1 rfl h8) ?_
    refine st_ifF pure0 (evT_hEq (t := kRel r) rfl h1 rfl h9) ?_
    exact SL.ret (SL.add (SL.add (SL.add (SL.add (SL.ev (x := x) (ev_i rfl rfl)) .con) (SL.ev (x := sRel r) (by
      match r with
      | 0 => rfl
      | 1 => rfl
      | 2 => rfl))) .con) (SL.ev (x := y) (ev_i rfl rfl))) (by show _ = ([x, sp, sRel r, sp, y] : List It).flatten; simp) hl (gc.here q)
  | .wit x s, n, hf, hn => by
    have hn : 2 * 1 ≤ n := hn
    obtain ⟨n, rfl⟩ : ∃ m, n = m + 2 := ⟨n - 2, by omega⟩
    intro hl M Q E q
    refine ⟨d_places_text, rfl, rfl, ?_⟩
    show wpSs T (Gam T (n + 1)) b_places_text _ [some (.tup (encP (.wit x s)))] M
    unfold b_places_text
    refine st_ifF pure0 (evT_hIn (t := kWithin) (l := [kThen, kBoth]) rfl rfl rfl) ?_
    refine st_ifF pure0 (evT_hEq (t := kWithin) rfl rfl rfl rfl) ?_
    refine st_ifF pure0 (evT_hEq (t := kWithin) rfl rfl rfl rfl) ?_
    refine st_ifF pure0 (evT_hEq (t := kWithin) rfl rfl rfl rfl) ?_
    refine st_ifF pure0 (evT_hIn (t := kWithin) (l := [kSome, kSome ++ kSet]) rfl rfl rfl) ?_
    refine st_ifF pure0 (evT_hIn (t := kWithin) (l := [kAll, kAll ++ kSet]) rfl rfl rfl) ?_
    refine st_ifF pure0 (evT_hEq (t := kWithin) rfl rfl rfl rfl) ?_
    refine st_ifF pure0 (evT_hEq (t := kWithin) rfl rfl rfl rfl) ?_
    exact SL.ret (SL.add (SL.add (SL.add (SL.add (SL.ev (x := x) (ev_i rfl rfl)) .con) (SL.ev (x := kIn) rfl)) .con) (SL.ev (x := s) (ev_i rfl rfl))) (by show _ = ([x, sp, kIn, sp, s] : List It).flatten; simp) hl (gc.here q)
end
end Pv.G

namespace Pv.G
open PySem PySem.Spec PyProof.Rows L2 Pv
section
variable {M : Mem} {Q : D → Mem → Prop} {E : Exn → Mem → Prop} {n w : Nat}
theorem pr_heldM {f : Mo} (h : Pr 33 n [.tup (encM f)] (itM f 0).flatten) (hw : w ≤ 8) : Pr 32 (n + 1) [.tup (encM f), .int w] (itM f w).flatten := by
  rw [itM_par f w hw]
  refine held_pr (g := 2) (F := 33) rfl (fun M w => ?_) h
  cases f with
  | or f g => rfl
  | and f g => rfl
  | unt s f g => cases s <;> rfl
  | una u f =>
    match u with
    | 0 => rfl
    | 1 => rfl
    | 2 => rfl
    | 3 => rfl
    | 4 => rfl
    | 5 => rfl
    | 6 => rfl
  | ltr c => rfl
  | fin => rfl
theorem tm : ∀ (f : Mo) (n : Nat), 2 * htM f ≤ n → Pr 33 n [.tup (encM f)] (itM f 0).flatten
  | .or f g, n, hn => by
    have hn : 2 * (max (htM f) (htM g) + 1) ≤ n := hn
    obtain ⟨n, rfl⟩ : ∃ m, n = m + 2 := ⟨n - 2, by omega⟩
    have F := pr_heldM (w := 1) (tm f n (by omega)) (by omega)
    have G := pr_heldM (w := 2) (tm g n (by omega)) (by omega)
    intro hl M Q E q
    refine ⟨d_moments_text, rfl, rfl, ?_⟩
    show wpSs T (Gam T (n + 1)) b_moments_text _ [some (.tup (encM (.or f g)))] M
    unfold b_moments_text
    refine st_ifF pure0 (evT_hEq (t := kOr) rfl rfl rfl rfl) ?_
    refine st_ifF pure0 (evT_hEq (t := kOr) rfl rfl rfl rfl) ?_
    refine st_ifT pure0 (evT_hEq (t := kOr) rfl rfl rfl rfl) ?_
    exact SL.ret (SL.add (SL.add (SL.call (ds := [.tup (encM f), .int (1 : Nat)]) rfl F) .con) (SL.call (ds := [.tup (encM g), .int (2 : Nat)]) rfl G)) (by show _ = (itM f 1 ++ (sp :: kOr :: sp :: itM g 2)).flatten; simp) hl (gc.here q)
  | .and f g, n, hn => by
    have hn : 2 * (max (htM f) (htM g) + 1) ≤ n := hn
    obtain ⟨n, rfl⟩ : ∃ m, n = m + 2 := ⟨n - 2, by omega⟩
    have F := pr_heldM (w := 2) (tm f n (by omega)) (by omega)
    have G := pr_heldM (w := 3) (tm g n (by omega)) (by omega)
    intro hl M Q E q
    refine ⟨d_moments_text, rfl, rfl, ?_⟩
    show wpSs T (Gam T (n + 1)) b_moments_text _ [some (.tup (encM (.and f g)))] M
    unfold b_moments_text
    refine st_ifF pure0 (evT_hEq (t := kAnd) rfl rfl rfl rfl) ?_
    refine st_ifF pure0 (evT_hEq (t := kAnd) rfl rfl rfl rfl) ?_
    refine st_ifF pure0 (evT_hEq (t := kAnd) rfl rfl rfl rfl) ?_
    refine st_ifT pure0 (evT_hEq (t := kAnd) rfl rfl rfl rfl) ?_
    exact SL.ret (SL.add (SL.add (SL.call (ds := [.tup (encM f), .int (2 : Nat)]) rfl F) .con) (SL.call (ds := [.tup (encM g), .int (3 : Nat)]) rfl G)) (by show _ = (itM f 2 ++ (sp :: kAnd :: sp :: itM g 3)).flatten; simp) hl (gc.here q)
  | .unt s f g, n, hn => by
    have hn : 2 * (max (htM f) (htM g) + 1) ≤ n := hn
    obtain ⟨n, rfl⟩ : ∃ m, n = m + 2 := ⟨n - 2, by omega⟩
    have F := pr_heldM (w := 4) (tm f n (by omega)) (by omega)
    have G := pr_heldM (w := 3) (tm g n (by omega)) (by omega)
    intro hl M Q E q
    refine ⟨d_moments_text, rfl, rfl, ?_⟩
    show wpSs T (Gam T (n + 1)) b_moments_text _ [some (.tup (encM (.unt s f g)))] M
    unfold b_moments_text
    have ha : asc (kUS s) = true := by cases s <;> rfl
    refine st_ifF pure0 (evT_hEq (t := kUS s) rfl ha rfl (by cases s <;> rfl)) ?_
    refine st_ifF pure0 (evT_hEq (t := kUS s) rfl ha rfl (by cases s <;> rfl)) ?_
    refine st_ifF pure0 (evT_hEq (t := kUS s) rfl ha rfl (by cases s <;> rfl)) ?_
    refine st_ifF pure0 (evT_hEq (t := kUS s) rfl ha rfl (by cases s <;> rfl)) ?_
    refine st_ifT pure0 (evT_hIn (t := kUS s) (l := [kUntil, kSince]) rfl rfl (by cases s <;> rfl)) ?_
    exact SL.ret (SL.add (SL.add (SL.add (SL.add (SL.call (ds := [.tup (encM f), .int (4 : Nat)]) rfl F) .con) (SL.ev (x := kUS s) rfl)) .con) (SL.call (ds := [.tup (encM g), .int (3 : Nat)]) rfl G)) (by show _ = (itM f 4 ++ (sp :: kUS s :: sp :: itM g 3)).flatten; simp) hl (gc.here q)
  | .una u f, n, hn => by
    have hn : 2 * (htM f + 1) ≤ n := hn
    obtain ⟨n, rfl⟩ : ∃ m, n = m + 2 := ⟨n - 2, by omega⟩
    have F := pr_heldM (w := 4) (tm f n (by omega)) (by omega)
    intro hl M Q E q
    refine ⟨d_moments_text, rfl, rfl, ?_⟩
    show wpSs T (Gam T (n + 1)) b_moments_text _ [some (.tup (encM (.una u f)))] M
    unfold b_moments_text
    have hall : ∀ u : Fin 7, asc (kUn u) = true ∧ decide (kUn u = kLetter) = false ∧ decide (kUn u = kEnd) = false ∧ decide (kUn u = kOr) = false ∧ decide (kUn u = kAnd) = false ∧ decide (kUn u ∈ [kUntil, kSince]) = false := by decide
    obtain ⟨h1, h2, h3, h4, h5, h6⟩ := hall u
    refine st_ifF pure0 (evT_hEq (t := kUn u) rfl h1 rfl h2) ?_
    refine st_ifF pure0 (evT_hEq (t := kUn u) rfl h1 rfl h3) ?_
    refine st_ifF pure0 (evT_hEq (t := kUn u) rfl h1 rfl h4) ?_
    refine st_ifF pure0 (evT_hEq (t := kUn u) rfl h1 rfl h5) ?_
    refine st_ifF pure0 (evT_hIn (t := kUn u) (l := [kUntil, kSince]) rfl rfl h6) ?_
    exact SL.ret (SL.add (SL.add (SL.ev (x := kUn u) rfl) .con) (SL.call (ds := [.tup (encM f), .int (4 : Nat)]) rfl F)) (by show _ = (kUn u :: sp :: itM f 4).flatten; simp) hl (gc.here q)
  | .ltr c, n, hn => by
    have hn : 2 * 1 ≤ n := hn
    obtain ⟨n, rfl⟩ : ∃ m, n = m + 2 := ⟨n - 2, by omega⟩
    intro hl M Q E q
    refine ⟨d_moments_text, rfl, rfl, ?_⟩
    show wpSs T (Gam T (n + 1)) b_moments_text _ [some (.tup (encM (.ltr c)))] M
    unfold b_moments_text
    refine st_ifT pure0 (evT_hEq (t := kLetter) rfl rfl rfl rfl) ?_
    exact SL.ret (SL.ev (x := [c]) (ev_i rfl rfl)) rfl hl (gc.here q)
  | .fin, n, hn => by
    have hn : 2 * 1 ≤ n := hn
    obtain ⟨n, rfl⟩ : ∃ m, n = m + 2 := ⟨n - 2, by omega⟩
    intro hl M Q E q
    refine ⟨d_moments_text, rfl, rfl, ?_⟩
    show wpSs T (Gam T (n + 1)) b_moments_text _ [some (.tup (encM .fin))] M
    unfold b_moments_text
    refine st_ifF pure0 (evT_hEq (t := kEnd) rfl rfl rfl rfl) ?_
    refine st_ifT pure0 (evT_hEq (t := kEnd) rfl rfl rfl rfl) ?_
    exact SL.ret .con rfl hl (gc.here q)
theorem pr_heldE {f : Ex} (h : Pr 35 n [.tup (encE f)] (itE f 0).flatten) (hw : w ≤ 8) : Pr 34 (n + 1) [.tup (encE f), .int w] (itE f w).flatten := by
  rw [itE_par f w hw]
  refine held_pr (g := 3) (F := 35) rfl (fun M w => ?_) h
  cases f with
  | or f g => rfl
  | and f g => rfl
  | join f g => rfl
  | neg f => rfl
  | rep f => rfl
  | ltr c => rfl
  | emp b => cases b <;> rfl
theorem te : ∀ (f : Ex) (n : Nat), 2 * htE f ≤ n → Pr 35 n [.tup (encE f)] (itE f 0).flatten
  | .or f g, n, hn => by
    have hn : 2 * (max (htE f) (htE g) + 1) ≤ n := hn
    obtain ⟨n, rfl⟩ : ∃ m, n = m + 2 := ⟨n - 2, by omega⟩
    have F := pr_heldE (w := 1) (te f n (by omega)) (by omega)
    have G := pr_heldE (w := 2) (te g n (by omega)) (by omega)
    intro hl M Q E q
    refine ⟨d_expression_text, rfl, rfl, ?_⟩
    show wpSs T (Gam T (n + 1)) b_expression_text _ [some (.tup (encE (.or f g)))] M
    unfold b_expression_text
    refine st_ifF pure0 (evT_hEq (t := kOr) rfl rfl rfl rfl) ?_
    refine st_ifF pure0 (evT_hIn (t := kOr) (l := [kNone, kEmpty]) rfl rfl rfl) ?_
    refine st_ifT pure0 (evT_hEq (t := kOr) rfl rfl rfl rfl) ?_
    exact SL.ret (SL.add (SL.add (SL.call (ds := [.tup (encE f), .int (1 : Nat)]) rfl F) .con) (SL.call (ds := [.tup (encE g), .int (2 : Nat)]) rfl G)) (by show _ = (itE f 1 ++ (sp :: [124] :: sp :: itE g 2)).flatten; simp) hl (gc.here q)
  | .and f g, n, hn => by
    have hn : 2 * (max (htE f) (htE g) + 1) ≤ n := hn
    obtain ⟨n, rfl⟩ : ∃ m, n = m + 2 := ⟨n - 2, by omega⟩
    have F := pr_heldE (w := 2) (te f n (by omega)) (by omega)
    have G := pr_heldE (w := 3) (te g n (by omega)) (by omega)
    intro hl M Q E q
    refine ⟨d_expression_text, rfl, rfl, ?_⟩
    show wpSs T (Gam T (n + 1)) b_expression_text _ [some (.tup (encE (.and f g)))] M
    unfold b_expression_text
    refine st_ifF pure0 (evT_hEq (t := kAnd) rfl rfl rfl rfl) ?_
    refine st_ifF pure0 (evT_hIn (t := kAnd) (l := [kNone, kEmpty]) rfl rfl rfl) ?_
    refine st_ifF pure0 (evT_hEq (t := kAnd) rfl rfl rfl rfl) ?_
    refine st_ifT pure0 (evT_hEq (t := kAnd) rfl rfl rfl rfl) ?_
    exact SL.ret (SL.add (SL.add (SL.call (ds := [.tup (encE f), .int (2 : Nat)]) rfl F) .con) (SL.call (ds := [.tup (encE g), .int (3 : Nat)]) rfl G)) (by show _ = (itE f 2 ++ (sp :: [38] :: sp :: itE g 3)).flatten; simp) hl (gc.here q)
  | .join f g, n, hn => by
    have hn : 2 * (max (htE f) (htE g) + 1) ≤ n := hn
    obtain ⟨n, rfl⟩ : ∃ m, n = m + 2 := ⟨n - 2, by omega⟩
    have F := pr_heldE (w := 3) (te f n (by omega)) (by omega)
    have G := pr_heldE (w := 4) (te g n (by omega)) (by omega)
    intro hl M Q E q
    refine ⟨d_expression_text, rfl, rfl, ?_⟩
    show wpSs T (Gam T (n + 1)) b_expression_text _ [some (.tup (encE (.join f g)))] M
    unfold b_expression_text
    refine st_ifF pure0 (evT_hEq (t := kJoin) rfl rfl rfl rfl) ?_
    refine st_ifF pure0 (evT_hIn (t := kJoin) (l := [kNone, kEmpty]) rfl rfl rfl) ?_
    refine st_ifF pure0 (evT_hEq (t := kJoin) rfl rfl rfl rfl) ?_
    refine st_ifF pure0 (evT_hEq (t := kJoin) rfl rfl rfl rfl) ?_
    refine st_ifT pure0 (evT_hEq (t := kJoin) rfl rfl rfl rfl) ?_
    exact SL.ret (SL.add (SL.add (SL.call (ds := [.tup (encE f), .int (3 : Nat)]) rfl F) .con) (SL.call (ds := [.tup (encE g), .int (4 : Nat)]) rfl G)) (by show _ = (itE f 3 ++ (sp :: itE g 4)).flatten; simp) hl (gc.here q)
  | .neg f, n, hn => by
    have hn : 2 * (htE f + 1) ≤ n := hn
    obtain ⟨n, rfl⟩ : ∃ m, n = m + 2 := ⟨n - 2, by omega⟩
    have F := pr_heldE (w := 4) (te f n (by omega)) (by omega)
    intro hl M Q E q
    refine ⟨d_expression_text, rfl, rfl, ?_⟩
    show wpSs T (Gam T (n + 1)) b_expression_text _ [some (.tup (encE (.neg f)))] M
    unfold b_expression_text
    refine st_ifF pure0 (evT_hEq (t := kNot) rfl rfl rfl rfl) ?_
    refine st_ifF pure0 (evT_hIn (t := kNot) (l := [kNone, kEmpty]) rfl rfl rfl) ?_
    refine st_ifF pure0 (evT_hEq (t := kNot) rfl rfl rfl rfl) ?_
    refine st_ifF pure0 (evT_hEq (t := kNot) rfl rfl rfl rfl) ?_
    refine st_ifF pure0 (evT_hEq (t := kNot) rfl rfl rfl rfl) ?_
    refine st_ifT pure0 (evT_hEq (t := kNot) rfl rfl rfl rfl) ?_
    exact SL.ret (SL.add .con (SL.call (ds := [.tup (encE f), .int (4 : Nat)]) rfl F)) (by show _ = ([126] :: sp :: itE f 4).flatten; simp) hl (gc.here q)
  | .rep f, n, hn => by
    have hn : 2 * (htE f + 1) ≤ n := hn
    obtain ⟨n, rfl⟩ : ∃ m, n = m + 2 := ⟨n - 2, by omega⟩
    have F := pr_heldE (w := 5) (te f n (by omega)) (by omega)
    intro hl M Q E q
    refine ⟨d_expression_text, rfl, rfl, ?_⟩
    show wpSs T (Gam T (n + 1)) b_expression_text _ [some (.tup (encE (.rep f)))] M
    unfold b_expression_text
    refine st_ifF pure0 (evT_hEq (t := kRepeat) rfl rfl rfl rfl) ?_
    refine st_ifF pure0 (evT_hIn (t := kRepeat) (l := [kNone, kEmpty]) rfl rfl rfl) ?_
    refine st_ifF pure0 (evT_hEq (t := kRepeat) rfl rfl rfl rfl) ?_
    refine st_ifF pure0 (evT_hEq (t := kRepeat) rfl rfl rfl rfl) ?_
    refine st_ifF pure0 (evT_hEq (t := kRepeat) rfl rfl rfl rfl) ?_
    refine st_ifF pure0 (evT_hEq (t := kRepeat) rfl rfl rfl rfl) ?_
    exact SL.ret (SL.add (SL.call (ds := [.tup (encE f), .int (5 : Nat)]) rfl F) .con) (by show _ = (itE f 5 ++ [[42]]).flatten; simp) hl (gc.here q)
  | .ltr c, n, hn => by
    have hn : 2 * 1 ≤ n := hn
    obtain ⟨n, rfl⟩ : ∃ m, n = m + 2 := ⟨n - 2, by omega⟩
    intro hl M Q E q
    refine ⟨d_expression_text, rfl, rfl, ?_⟩
    show wpSs T (Gam T (n + 1)) b_expression_text _ [some (.tup (encE (.ltr c)))] M
    unfold b_expression_text
    refine st_ifT pure0 (evT_hEq (t := kLetter) rfl rfl rfl rfl) ?_
    exact SL.ret (SL.ev (x := [c]) (ev_i rfl rfl)) rfl hl (gc.here q)
  | .emp b, n, hn => by
    have hn : 2 * 1 ≤ n := hn
    obtain ⟨n, rfl⟩ : ∃ m, n = m + 2 := ⟨n - 2, by omega⟩
    intro hl M Q E q
    refine ⟨d_expression_text, rfl, rfl, ?_⟩
    show wpSs T (Gam T (n + 1)) b_expression_text _ [some (.tup (encE (.emp b)))] M
    unfold b_expression_text
    have ha : asc (kEN b) = true := by cases b <;> rfl
    refine st_ifF pure0 (evT_hEq (t := kEN b) rfl ha rfl (by cases b <;> rfl)) ?_
    refine st_ifT pure0 (evT_hIn (t := kEN b) (l := [kNone, kEmpty]) rfl rfl (by cases b <;> rfl)) ?_
    exact SL.ret (SL.ev (x := kEN b) rfl) (by show _ = [kEN b].flatten; simp) hl (gc.here q)
end
end Pv.G

namespace Pv.G
open PySem PySem.Spec PyProof.Rows L2 Pv
/-! ### the law's printers -/
section
variable {M : Mem} {Q : D → Mem → Prop} {E : Exn → Mem → Prop} {n w own : Nat} {x : List Nat}
theorem mul_sign {c i j : Nat} {σ : St} (hi : σ[1]? = some (some (.int i))) (hj : σ[2]? = some (some (.int j))) : ev T (fun _ _ _ => none) (.bin .mul (.con (.str [c])) (.bc .int [(.cmp .lt (.var 1) (.var 2))])) σ M = some (.str (if decide (i < j) then [c] else [])) := by
  have e0 : ev T (fun _ _ _ => none) (.cmp .lt (.var 1) (.var 2)) σ M = some (.bl (decide (i < j))) := ev_cmp (x := .int i) (y := .int j) (ev_var hi rfl) (ev_var hj rfl) (by
    show some (decide ((i : Int) < (j : Int))) = _
    congr 1
    exact decide_eq_decide.mpr (by omega))
  have e1 : ev T (fun _ _ _ => none) (.bc .int [(.cmp .lt (.var 1) (.var 2))]) σ M = some (.int (if decide (i < j) = true then 1 else 0)) := by
    show (((ev T _ (.cmp .lt (.var 1) (.var 2)) σ M).bind fun x => (some []).map fun xs => pk x :: xs).bind _) = _
    rw [e0]; rfl
  refine ev_bin (x := .str [c]) (y := .int (if decide (i < j) = true then 1 else 0)) rfl e1 ?_
  cases decide (i < j) <;> rfl
theorem c_held46 {i : Nat} (h : x.length ≤ 100000) : Pr 46 (n + 1) [.str x, .int i, .int w] (parT (decide (i < w)) x) := by
  intro hl M Q E q
  refine ⟨d__law_held, rfl, rfl, ?_⟩
  show wpSs T _ b__law_held _ [some (.str x), some (.int i), some (.int w)] M
  unfold b__law_held
  refine SL.ret (SL.add (SL.add (SL.ev (mul_sign (i := i) (j := w) rfl rfl)) (SL.ev (x := x) (ev_var rfl rfl))) (SL.ev (mul_sign (i := i) (j := w) rfl rfl))) ?_ hl (gc.here q)
  cases decide (i < w)
  · show [] ++ x ++ [] = x
    simp
  · show [40] ++ x ++ [41] = 40 :: (x ++ [41])
    simp
/-- .. with the text made on the way -/
theorem SL.held {e oe : CE} {σ : St} {y : List Nat} (h : SL T (Gam T (n + 1)) e σ M x) (ho : ev T (fun _ _ _ => none) oe σ M = some (.int own)) (hw : σ[1]? = some (some (.int w))) (hy : y = parT (decide (own < w)) x) : SL T (Gam T (n + 1)) (.call 46 [] [e, oe, (.var 1)]) σ M y := fun hl E Q q => by
  subst hy
  have hx : x.length ≤ 100000 := Nat.le_trans parT_len hl
  have hA : evL T (fun _ _ _ => none) [oe, (.var 1)] σ M = some [.int own, .int w] := evL_2 ho rfl (evL_1 (ev_var hw rfl) rfl)
  have go : wpA T (Gam T (n + 1)) E [] [oe, (.var 1)] σ M (fun xs σ M => Gam T (n + 1) 46 (.str x :: xs) M (fun d M' => Q d σ M') fun x M' => E x σ M') := evA_ok pure0 _ hA (c_held46 hx hl M _ _ q)
  exact i_call (i_A (h hx _ _ go))
theorem tlp : ∀ (f : Pl) (n w : Nat), (∃ L, isAl L ∧ okP L f) → htP f + 1 ≤ n → Pr 47 n [.tup (encP f), .int w] (itP f w).flatten
  | .thn b f g, n, w, hf, hn => by
    obtain ⟨L, hL, h⟩ := hf
    have h : okP L f ∧ okP L g := h
    have hn : max (htP f) (htP g) + 1 + 1 ≤ n := hn
    obtain ⟨n, rfl⟩ : ∃ m, n = m + 2 := ⟨n - 2, by omega⟩
    have F := tlp f (n + 1) 1 ⟨L, hL, h.1⟩ (by omega)
    have G := tlp g (n + 1) 0 ⟨L, hL, h.2⟩ (by omega)
    intro hl M Q E q
    refine ⟨d__law_places_text, rfl, rfl, ?_⟩
    show wpSs T (Gam T (n + 1)) b__law_places_text _ [some (.tup (encP (.thn b f g))), some (.int w), none, none] M
    unfold b__law_places_text
    refine st_ifT pure0 (evT_hIn (t := kTB b) (l := [kThen, kBoth]) rfl rfl (by cases b <;> rfl)) ?_
    refine SL.ret (SL.held (own := 0) (w := w) (SL.add (SL.add (SL.add (SL.add (SL.call (ds := [.tup (encP f), .int (1 : Nat)]) rfl F) .con) (SL.ev (x := kTB b) rfl)) .con) (SL.call (ds := [.tup (encP g), .int (0 : Nat)]) rfl G)) rfl rfl rfl) ?_ hl (gc.here q)
    show _ = (par (decide (0 < w)) (itP f 1 ++ (sp :: kTB b :: sp :: itP g 0))).flatten
    rw [fl_parT]; simp
  | .or f g, n, w, hf, hn => by
    obtain ⟨L, hL, h⟩ := hf
    have h : okP L f ∧ okP L g := h
    have hn : max (htP f) (htP g) + 1 + 1 ≤ n := hn
    obtain ⟨n, rfl⟩ : ∃ m, n = m + 2 := ⟨n - 2, by omega⟩
    have F := tlp f (n + 1) 1 ⟨L, hL, h.1⟩ (by omega)
    have G := tlp g (n + 1) 2 ⟨L, hL, h.2⟩ (by omega)
    intro hl M Q E q
    refine ⟨d__law_places_text, rfl, rfl, ?_⟩
    show wpSs T (Gam T (n + 1)) b__law_places_text _ [some (.tup (encP (.or f g))), some (.int w), none, none] M
    unfold b__law_places_text
    refine st_ifF pure0 (evT_hIn (t := kOr) (l := [kThen, kBoth]) rfl rfl rfl) ?_
    refine st_ifT pure0 (evT_hIn (t := kOr) (l := [kOr, kAnd]) rfl rfl rfl) ?_
    refine st_asg (d := .int (1 : Nat)) pure0 (by rfl) rfl ?_
    refine SL.ret (SL.held (own := 1) (w := w) (SL.add (SL.add (SL.add (SL.add (SL.call (ds := [.tup (encP f), .int (1 : Nat)]) rfl F) .con) (SL.ev (x := kOr) rfl)) .con) (SL.call (ds := [.tup (encP g), .int (2 : Nat)]) rfl G)) rfl rfl rfl) ?_ hl (gc.here q)
    show _ = (par (decide (1 < w)) (itP f 1 ++ (sp :: kOr :: sp :: itP g 2))).flatten
    rw [fl_parT]; simp
  | .and f g, n, w, hf, hn => by
    obtain ⟨L, hL, h⟩ := hf
    have h : okP L f ∧ okP L g := h
    have hn : max (htP f) (htP g) + 1 + 1 ≤ n := hn
    obtain ⟨n, rfl⟩ : ∃ m, n = m + 2 := ⟨n - 2, by omega⟩
    have F := tlp f (n + 1) 2 ⟨L, hL, h.1⟩ (by omega)
    have G := tlp g (n + 1) 3 ⟨L, hL, h.2⟩ (by omega)
    intro hl M Q E q
    refine ⟨d__law_places_text, rfl, rfl, ?_⟩
    show wpSs T (Gam T (n + 1)) b__law_places_text _ [some (.tup (encP (.and f g))), some (.int w), none, none] M
    unfold b__law_places_text
    refine st_ifF pure0 (evT_hIn (t := kAnd) (l := [kThen, kBoth]) rfl rfl rfl) ?_
    refine st_ifT pure0 (evT_hIn (t := kAnd) (l := [kOr, kAnd]) rfl rfl rfl) ?_
    refine st_asg (d := .int (2 : Nat)) pure0 (by rfl) rfl ?_
    refine SL.ret (SL.held (own := 2) (w := w) (SL.add (SL.add (SL.add (SL.add (SL.call (ds := [.tup (encP f), .int (2 : Nat)]) rfl F) .con) (SL.ev (x := kAnd) rfl)) .con) (SL.call (ds := [.tup (encP g), .int (3 : Nat)]) rfl G)) rfl rfl rfl) ?_ hl (gc.here q)
    show _ = (par (decide (2 < w)) (itP f 2 ++ (sp :: kAnd :: sp :: itP g 3))).flatten
    rw [fl_parT]; simp
  | .neg f, n, w, hf, hn => by
    obtain ⟨L, hL, h⟩ := hf
    have h : okP L f := h
    have hn : htP f + 1 + 1 ≤ n := hn
    obtain ⟨n, rfl⟩ : ∃ m, n = m + 2 := ⟨n - 2, by omega⟩
    have F := tlp f (n + 1) 3 ⟨L, hL, h⟩ (by omega)
    intro hl M Q E q
    refine ⟨d__law_places_text, rfl, rfl, ?_⟩
    show wpSs T (Gam T (n + 1)) b__law_places_text _ [some (.tup (encP (.neg f))), some (.int w), none, none] M
    unfold b__law_places_text
    refine st_ifF pure0 (evT_hIn (t := kNot) (l := [kThen, kBoth]) rfl rfl rfl) ?_
    refine st_ifF pure0 (evT_hIn (t := kNot) (l := [kOr, kAnd]) rfl rfl rfl) ?_
    refine st_ifT pure0 (evT_hEq (t := kNot) rfl rfl rfl rfl) ?_
    refine SL.ret (SL.held (own := 3) (w := w) (SL.add .con (SL.call (ds := [.tup (encP f), .int (3 : Nat)]) rfl F)) rfl rfl rfl) ?_ hl (gc.here q)
    show _ = (par (decide (3 < w)) (kNot :: sp :: itP f 3)).flatten
    rw [fl_parT]; simp
  | .bnd a s x f, n, w, hf, hn => by
    obtain ⟨L, hL, h⟩ := hf
    have h : (if s then x = [88] else x ∈ plN) ∧ okP L f := h
    have hn : htP f + 1 + 1 ≤ n := hn
    obtain ⟨n, rfl⟩ : ∃ m, n = m + 2 := ⟨n - 2, by omega⟩
    have F := tlp f (n + 1) 0 ⟨L, hL, h.2⟩ (by omega)
    intro hl M Q E q
    refine ⟨d__law_places_text, rfl, rfl, ?_⟩
    show wpSs T (Gam T (n + 1)) b__law_places_text _ [some (.tup (encP (.bnd a s x f))), some (.int w), none, none] M
    unfold b__law_places_text
    have ht : asc (kSA a ++ if s then kSet else []) = true := by cases a <;> cases s <;> rfl
    refine st_ifF pure0 (evT_hIn (t := kSA a ++ if s then kSet else []) (l := [kThen, kBoth]) rfl rfl (by cases a <;> cases s <;> rfl)) ?_
    refine st_ifF pure0 (evT_hIn (t := kSA a ++ if s then kSet else []) (l := [kOr, kAnd]) rfl rfl (by cases a <;> cases s <;> rfl)) ?_
    refine st_ifF pure0 (evT_hEq (t := kSA a ++ if s then kSet else []) rfl ht rfl (by cases a <;> cases s <;> rfl)) ?_
    refine st_ifF pure0 (evT_hEq (t := kSA a ++ if s then kSet else []) rfl ht rfl (by cases a <;> cases s <;> rfl)) ?_
    refine st_ifT pure0 (evT_hIn (t := kSA a ++ if s then kSet else []) (l := [kSome, kAll, kSome ++ kSet, kAll ++ kSet]) rfl rfl (by cases a <;> cases s <;> rfl)) ?_
    have er : replL (kSA a ++ if s then kSet else []) kSet [] = kSA a := by cases a <;> cases s <;> decide +kernel
    have e1 : ev T (fun _ _ _ => none) (.replI (.var 0) 0 [115, 101, 116] []) [some (.tup (encP (.bnd a s x f))), some (.int w), none, none] M = some (.str (kSA a)) := by
      show (if kSet ≠ [] ∧ (kSA a ++ if s then kSet else []).length + ((kSA a ++ if s then kSet else []).length + 1) * 0 ≤ SZ then some (D.str (replL (kSA a ++ if s then kSet else []) kSet [])) else none) = _
      rw [er, if_pos ⟨by decide, by cases a <;> cases s <;> decide⟩]
    refine SL.ret (SL.held (own := 0) (w := w) (SL.add (SL.add (SL.add (SL.add (SL.ev e1) .con) (SL.ev (x := x) (ev_i rfl rfl))) .con) (SL.call (ds := [.tup (encP f), .int (0 : Nat)]) rfl F)) rfl rfl rfl) ?_ hl (gc.here q)
    show _ = (par (decide (0 < w)) (kSA a :: sp :: x :: sp :: [46] :: sp :: itP f 0)).flatten
    rw [fl_parT]; simp
  | .cnt d l x f, n, w, hf, hn => by
    obtain ⟨L, hL, h⟩ := hf
    have h : ((d = 2 ∨ d = 3) ∧ l < d ∧ x ∈ plN) ∧ okP L f := h
    have hn : htP f + 1 + 1 ≤ n := hn
    obtain ⟨n, rfl⟩ : ∃ m, n = m + 2 := ⟨n - 2, by omega⟩
    have F := tlp f (n + 1) 0 ⟨L, hL, h.2⟩ (by omega)
    intro hl M Q E q
    refine ⟨d__law_places_text, rfl, rfl, ?_⟩
    show wpSs T (Gam T (n + 1)) b__law_places_text _ [some (.tup (encP (.cnt d l x f))), some (.int w), none, none] M
    unfold b__law_places_text
    refine st_ifF pure0 (evT_hIn (t := kRest) (l := [kThen, kBoth]) rfl rfl rfl) ?_
    refine st_ifF pure0 (evT_hIn (t := kRest) (l := [kOr, kAnd]) rfl rfl rfl) ?_
    refine st_ifF pure0 (evT_hEq (t := kRest) rfl rfl rfl rfl) ?_
    refine st_ifT pure0 (evT_hEq (t := kRest) rfl rfl rfl rfl) ?_
    have e1 : ev T (fun _ _ _ => none) (.bc .str [(.idx (.var 0) (.con (.int 1)))]) [some (.tup (encP (.cnt d l x f))), some (.int w), none, none] M = some (.str [48 + d]) := str_fig (by omega)
    have e2 : ev T (fun _ _ _ => none) (.bc .str [(.idx (.var 0) (.con (.int 2)))]) [some (.tup (encP (.cnt d l x f))), some (.int w), none, none] M = some (.str [48 + l]) := str_fig (by omega)
    have e3 : ev T (fun _ _ _ => none) (.idx (.var 0) (.con (.int 3))) [some (.tup (encP (.cnt d l x f))), some (.int w), none, none] M = some (.str x) := ev_i rfl rfl
    have hl' : (kRest :: sp :: [48 + d] :: sp :: [48 + l] :: sp :: x :: sp :: [46] :: sp :: itP f 0).flatten.length ≤ 100000 := by
      have hl : (par (decide (0 < w)) (kRest :: sp :: [48 + d] :: sp :: [48 + l] :: sp :: x :: sp :: [46] :: sp :: itP f 0)).flatten.length ≤ 100000 := hl
      rw [fl_parT] at hl
      exact Nat.le_trans parT_len hl
    refine SL.asg (SL.join6 .con (SL.ev e1) (SL.ev e2) (SL.ev e3) .con (SL.call (ds := [.tup (encP f), .int (0 : Nat)]) rfl F)) (y := (kRest :: sp :: [48 + d] :: sp :: [48 + l] :: sp :: x :: sp :: [46] :: sp :: itP f 0).flatten) (by simp [joinL]) hl' ?_
    refine SL.ret (SL.held (own := 0) (w := w) (SL.ev (x := (kRest :: sp :: [48 + d] :: sp :: [48 + l] :: sp :: x :: sp :: [46] :: sp :: itP f 0).flatten) (ev_var rfl rfl)) rfl rfl rfl) ?_ hl (gc.here q)
    show _ = (par (decide (0 < w)) (kRest :: sp :: [48 + d] :: sp :: [48 + l] :: sp :: x :: sp :: [46] :: sp :: itP f 0)).flatten
    rw [fl_parT]
  | .ltr c x, n, w, hf, hn => by
    have hn : 1 + 1 ≤ n := hn
    obtain ⟨n, rfl⟩ : ∃ m, n = m + 2 := ⟨n - 2, by omega⟩
    intro hl M Q E q
    refine ⟨d__law_places_text, rfl, rfl, ?_⟩
    show wpSs T (Gam T (n + 1)) b__law_places_text _ [some (.tup (encP (.ltr c x))), some (.int w), none, none] M
    unfold b__law_places_text
    refine st_ifF pure0 (evT_hIn (t := kLetter) (l := [kThen, kBoth]) rfl rfl rfl) ?_
    refine st_ifF pure0 (evT_hIn (t := kLetter) (l := [kOr, kAnd]) rfl rfl rfl) ?_
    refine st_ifF pure0 (evT_hEq (t := kLetter) rfl rfl rfl rfl) ?_
    refine st_ifF pure0 (evT_hEq (t := kLetter) rfl rfl rfl rfl) ?_
    refine st_ifF pure0 (evT_hIn (t := kLetter) (l := [kSome, kAll, kSome ++ kSet, kAll ++ kSet]) rfl rfl rfl) ?_
    refine st_ifT pure0 (evT_hEq (t := kLetter) rfl rfl rfl rfl) ?_
    exact SL.ret (SL.add (SL.add (SL.add (SL.ev (x := [c]) (ev_i rfl rfl)) .con) (SL.ev (x := x) (ev_i rfl rfl))) .con) (by show _ = ([[c], [40], x, [41]] : List It).flatten; simp) hl (gc.here q)
  | .rel r x y, n, w, hf, hn => by
    have hn : 1 + 1 ≤ n := hn
    obtain ⟨n, rfl⟩ : ∃ m, n = m + 2 := ⟨n - 2, by omega⟩
    intro hl M Q E q
    refine ⟨d__law_places_text, rfl, rfl, ?_⟩
    show wpSs T (Gam T (n + 1)) b__law_places_text _ [some (.tup (encP (.rel r x y))), some (.int w), none, none] M
    unfold b__law_places_text
    have hall : ∀ r : Fin 3, asc (kRel r) = true ∧ decide (kRel r ∈ [kThen, kBoth]) = false ∧ decide (kRel r ∈ [kOr, kAnd]) = false ∧ decide (kRel r = kNot) = false ∧ decide (kRel r = kRest) = false ∧ decide (kRel r ∈ [kSome, kAll, kSome ++ kSet, kAll ++ kSet]) = false ∧ decide (kRel r = kLetter) = false := by decide
    obtain ⟨h1, h2, h3, h4, h5, h6, h7⟩ := hall r
    refine st_ifF pure0 (evT_hIn (t := kRel r) (l := [kThen, kBoth]) rfl rfl h2) ?_
    refine st_ifF pure0 (evT_hIn (t := kRel r) (l := [kOr, kAnd]) rfl rfl h3) ?_
    refine st_ifF pure0 (evT_hEq (t := kRel r) rfl h1 rfl h4) ?_
    refine st_ifF pure0 (evT_hEq (t := kRel r) rfl h1 rfl h5) ?_
    refine st_ifF pure0 (evT_hIn (t := kRel r) (l := [kSome, kAll, kSome ++ kSet, kAll ++ kSet]) rfl rfl h6) ?_
    refine st_ifF pure0 (evT_hEq (t := kRel r) rfl h1 rfl h7) ?_
    exact SL.ret (SL.add (SL.add (SL.add (SL.add (SL.ev (x := x) (ev_i rfl rfl)) .con) (SL.ev (x := sRel r) (by
      match r with
      | 0 => rfl
      | 1 => rfl
      | 2 => rfl))) .con) (SL.ev (x := y) (ev_i rfl rfl))) (by show _ = ([x, sp, sRel r, sp, y] : List It).flatten; simp) hl (gc.here q)
  | .wit x s, n, w, hf, hn => by
    have hn : 1 + 1 ≤ n := hn
    obtain ⟨n, rfl⟩ : ∃ m, n = m + 2 := ⟨n - 2, by omega⟩
    intro hl M Q E q
    refine ⟨d__law_places_text, rfl, rfl, ?_⟩
    show wpSs T (Gam T (n + 1)) b__law_places_text _ [some (.tup (encP (.wit x s))), some (.int w), none, none] M
    unfold b__law_places_text
    refine st_ifF pure0 (evT_hIn (t := kWithin) (l := [kThen, kBoth]) rfl rfl rfl) ?_
    refine st_ifF pure0 (evT_hIn (t := kWithin) (l := [kOr, kAnd]) rfl rfl rfl) ?_
    refine st_ifF pure0 (evT_hEq (t := kWithin) rfl rfl rfl rfl) ?_
    refine st_ifF pure0 (evT_hEq (t := kWithin) rfl rfl rfl rfl) ?_
    refine st_ifF pure0 (evT_hIn (t := kWithin) (l := [kSome, kAll, kSome ++ kSet, kAll ++ kSet]) rfl rfl rfl) ?_
    refine st_ifF pure0 (evT_hEq (t := kWithin) rfl rfl rfl rfl) ?_
    exact SL.ret (SL.add (SL.add (SL.add (SL.add (SL.ev (x := x) (ev_i rfl rfl)) .con) (SL.ev (x := kIn) rfl)) .con) (SL.ev (x := s) (ev_i rfl rfl))) (by show _ = ([x, sp, kIn, sp, s] : List It).flatten; simp) hl (gc.here q)
theorem tlm : ∀ (f : Mo) (n w : Nat), htM f + 1 ≤ n → Pr 48 n [.tup (encM f), .int w] (itM f w).flatten
  | .or f g, n, w, hn => by
    have hn : max (htM f) (htM g) + 1 + 1 ≤ n := hn
    obtain ⟨n, rfl⟩ : ∃ m, n = m + 2 := ⟨n - 2, by omega⟩
    have F := tlm f (n + 1) 1 (by omega)
    have G := tlm g (n + 1) 2 (by omega)
    intro hl M Q E q
    refine ⟨d__law_moments_text, rfl, rfl, ?_⟩
    show wpSs T (Gam T (n + 1)) b__law_moments_text _ [some (.tup (encM (.or f g))), some (.int w), none, none] M
    unfold b__law_moments_text
    have hl' : (itM f 1 ++ (sp :: kOr :: sp :: itM g 2)).flatten.length ≤ 100000 := by
      have hl : (par (decide (1 < w)) (itM f 1 ++ (sp :: kOr :: sp :: itM g 2))).flatten.length ≤ 100000 := hl
      rw [fl_parT] at hl
      exact Nat.le_trans parT_len hl
    refine st_ifF pure0 (evT_hIn (t := kOr) (l := [kLetter, kEnd]) rfl rfl rfl) ?_
    refine st_ifT pure0 (evT_hIn (t := kOr) (l := [kOr, kAnd]) rfl rfl rfl) ?_
    refine st_asg (d := .int (1 : Nat)) pure0 (by rfl) rfl ?_
    refine SL.asg (SL.add (SL.add (SL.add (SL.add (SL.call (ds := [.tup (encM f), .int (1 : Nat)]) rfl F) .con) (SL.ev (x := kOr) rfl)) .con) (SL.call (ds := [.tup (encM g), .int (2 : Nat)]) rfl G)) (y := (itM f 1 ++ (sp :: kOr :: sp :: itM g 2)).flatten) (by simp) hl' ?_
    refine SL.ret (SL.held (own := 1) (w := w) (SL.ev (ev_var rfl rfl)) rfl rfl rfl) ?_ hl (gc.here q)
    show _ = (par (decide (1 < w)) (itM f 1 ++ (sp :: kOr :: sp :: itM g 2))).flatten
    rw [fl_parT]
  | .and f g, n, w, hn => by
    have hn : max (htM f) (htM g) + 1 + 1 ≤ n := hn
    obtain ⟨n, rfl⟩ : ∃ m, n = m + 2 := ⟨n - 2, by omega⟩
    have F := tlm f (n + 1) 2 (by omega)
    have G := tlm g (n + 1) 3 (by omega)
    intro hl M Q E q
    refine ⟨d__law_moments_text, rfl, rfl, ?_⟩
    show wpSs T (Gam T (n + 1)) b__law_moments_text _ [some (.tup (encM (.and f g))), some (.int w), none, none] M
    unfold b__law_moments_text
    have hl' : (itM f 2 ++ (sp :: kAnd :: sp :: itM g 3)).flatten.length ≤ 100000 := by
      have hl : (par (decide (2 < w)) (itM f 2 ++ (sp :: kAnd :: sp :: itM g 3))).flatten.length ≤ 100000 := hl
      rw [fl_parT] at hl
      exact Nat.le_trans parT_len hl
    refine st_ifF pure0 (evT_hIn (t := kAnd) (l := [kLetter, kEnd]) rfl rfl rfl) ?_
    refine st_ifT pure0 (evT_hIn (t := kAnd) (l := [kOr, kAnd]) rfl rfl rfl) ?_
    refine st_asg (d := .int (2 : Nat)) pure0 (by rfl) rfl ?_
    refine SL.asg (SL.add (SL.add (SL.add (SL.add (SL.call (ds := [.tup (encM f), .int (2 : Nat)]) rfl F) .con) (SL.ev (x := kAnd) rfl)) .con) (SL.call (ds := [.tup (encM g), .int (3 : Nat)]) rfl G)) (y := (itM f 2 ++ (sp :: kAnd :: sp :: itM g 3)).flatten) (by simp) hl' ?_
    refine SL.ret (SL.held (own := 2) (w := w) (SL.ev (ev_var rfl rfl)) rfl rfl rfl) ?_ hl (gc.here q)
    show _ = (par (decide (2 < w)) (itM f 2 ++ (sp :: kAnd :: sp :: itM g 3))).flatten
    rw [fl_parT]
  | .unt s f g, n, w, hn => by
    have hn : max (htM f) (htM g) + 1 + 1 ≤ n := hn
    obtain ⟨n, rfl⟩ : ∃ m, n = m + 2 := ⟨n - 2, by omega⟩
    have F := tlm f (n + 1) 4 (by omega)
    have G := tlm g (n + 1) 3 (by omega)
    intro hl M Q E q
    refine ⟨d__law_moments_text, rfl, rfl, ?_⟩
    show wpSs T (Gam T (n + 1)) b__law_moments_text _ [some (.tup (encM (.unt s f g))), some (.int w), none, none] M
    unfold b__law_moments_text
    have hl' : (itM f 4 ++ (sp :: kUS s :: sp :: itM g 3)).flatten.length ≤ 100000 := by
      have hl : (par (decide (3 < w)) (itM f 4 ++ (sp :: kUS s :: sp :: itM g 3))).flatten.length ≤ 100000 := hl
      rw [fl_parT] at hl
      exact Nat.le_trans parT_len hl
    refine st_ifF pure0 (evT_hIn (t := kUS s) (l := [kLetter, kEnd]) rfl rfl (by cases s <;> rfl)) ?_
    refine st_ifF pure0 (evT_hIn (t := kUS s) (l := [kOr, kAnd]) rfl rfl (by cases s <;> rfl)) ?_
    refine st_ifT pure0 (evT_hIn (t := kUS s) (l := [kUntil, kSince]) rfl rfl (by cases s <;> rfl)) ?_
    refine SL.asg (SL.add (SL.add (SL.add (SL.add (SL.call (ds := [.tup (encM f), .int (4 : Nat)]) rfl F) .con) (SL.ev (x := kUS s) rfl)) .con) (SL.call (ds := [.tup (encM g), .int (3 : Nat)]) rfl G)) (y := (itM f 4 ++ (sp :: kUS s :: sp :: itM g 3)).flatten) (by simp) hl' ?_
    refine SL.ret (SL.held (own := 3) (w := w) (SL.ev (ev_var rfl rfl)) rfl rfl rfl) ?_ hl (gc.here q)
    show _ = (par (decide (3 < w)) (itM f 4 ++ (sp :: kUS s :: sp :: itM g 3))).flatten
    rw [fl_parT]
  | .una u f, n, w, hn => by
    have hn : htM f + 1 + 1 ≤ n := hn
    obtain ⟨n, rfl⟩ : ∃ m, n = m + 2 := ⟨n - 2, by omega⟩
    have F := tlm f (n + 1) 4 (by omega)
    intro hl M Q E q
    refine ⟨d__law_moments_text, rfl, rfl, ?_⟩
    show wpSs T (Gam T (n + 1)) b__law_moments_text _ [some (.tup (encM (.una u f))), some (.int w), none, none] M
    unfold b__law_moments_text
    have hall : ∀ u : Fin 7, asc (kUn u) = true ∧ decide (kUn u ∈ [kLetter, kEnd]) = false ∧ decide (kUn u ∈ [kOr, kAnd]) = false ∧ decide (kUn u ∈ [kUntil, kSince]) = false := by decide
    obtain ⟨h1, h2, h3, h4⟩ := hall u
    refine st_ifF pure0 (evT_hIn (t := kUn u) (l := [kLetter, kEnd]) rfl rfl h2) ?_
    refine st_ifF pure0 (evT_hIn (t := kUn u) (l := [kOr, kAnd]) rfl rfl h3) ?_
    refine st_ifF pure0 (evT_hIn (t := kUn u) (l := [kUntil, kSince]) rfl rfl h4) ?_
    refine SL.ret (SL.held (own := 4) (w := w) (SL.add (SL.add (SL.ev (x := kUn u) rfl) .con) (SL.call (ds := [.tup (encM f), .int (4 : Nat)]) rfl F)) rfl rfl rfl) ?_ hl (gc.here q)
    show _ = (par (decide (4 < w)) (kUn u :: sp :: itM f 4)).flatten
    rw [fl_parT]; simp
  | .ltr c, n, w, hn => by
    have hn : 1 + 1 ≤ n := hn
    obtain ⟨n, rfl⟩ : ∃ m, n = m + 2 := ⟨n - 2, by omega⟩
    intro hl M Q E q
    refine ⟨d__law_moments_text, rfl, rfl, ?_⟩
    show wpSs T (Gam T (n + 1)) b__law_moments_text _ [some (.tup (encM (.ltr c))), some (.int w), none, none] M
    unfold b__law_moments_text
    refine st_ifT pure0 (evT_hIn (t := kLetter) (l := [kLetter, kEnd]) rfl rfl rfl) ?_
    exact SL.ret (SL.ev (x := [c]) rfl) rfl hl (gc.here q)
  | .fin, n, w, hn => by
    have hn : 1 + 1 ≤ n := hn
    obtain ⟨n, rfl⟩ : ∃ m, n = m + 2 := ⟨n - 2, by omega⟩
    intro hl M Q E q
    refine ⟨d__law_moments_text, rfl, rfl, ?_⟩
    show wpSs T (Gam T (n + 1)) b__law_moments_text _ [some (.tup (encM .fin)), some (.int w), none, none] M
    unfold b__law_moments_text
    refine st_ifT pure0 (evT_hIn (t := kEnd) (l := [kLetter, kEnd]) rfl rfl rfl) ?_
    exact SL.ret (SL.ev (x := kEnd) rfl) rfl hl (gc.here q)
theorem tle : ∀ (f : Ex) (n w : Nat), w ≤ 5 → htE f + 1 ≤ n → Pr 49 n [.tup (encE f), .int w] (itE f w).flatten
  | .or f g, n, w, hw, hn => by
    have hn : max (htE f) (htE g) + 1 + 1 ≤ n := hn
    obtain ⟨n, rfl⟩ : ∃ m, n = m + 2 := ⟨n - 2, by omega⟩
    have F := tle f (n + 1) 1 (by omega) (by omega)
    have G := tle g (n + 1) 2 (by omega) (by omega)
    intro hl M Q E q
    refine ⟨d__law_expression_text, rfl, rfl, ?_⟩
    show wpSs T (Gam T (n + 1)) b__law_expression_text _ [some (.tup (encE (.or f g))), some (.int w), none, none] M
    unfold b__law_expression_text
    refine st_ifF pure0 (evT_hIn (t := kOr) (l := [kNone, kEmpty, kLetter]) rfl rfl rfl) ?_
    refine st_ifT pure0 (evT_hIn (t := kOr) (l := [kOr, kAnd, kJoin]) rfl rfl rfl) ?_
    refine st_asg (d := .int (1 : Nat)) pure0 (by rfl) rfl ?_
    refine st_asg (d := .str [32, 124, 32]) pure0 (by rfl) rfl ?_
    refine SL.ret (SL.held (own := 1) (w := w) (SL.add (SL.add (SL.call (ds := [.tup (encE f), .int (1 : Nat)]) rfl F) (SL.ev (x := [32, 124, 32]) rfl)) (SL.call (ds := [.tup (encE g), .int (2 : Nat)]) rfl G)) rfl rfl rfl) ?_ hl (gc.here q)
    show _ = (par (decide (1 < w)) (itE f 1 ++ (sp :: [124] :: sp :: itE g 2))).flatten
    rw [fl_parT]; simp
  | .and f g, n, w, hw, hn => by
    have hn : max (htE f) (htE g) + 1 + 1 ≤ n := hn
    obtain ⟨n, rfl⟩ : ∃ m, n = m + 2 := ⟨n - 2, by omega⟩
    have F := tle f (n + 1) 2 (by omega) (by omega)
    have G := tle g (n + 1) 3 (by omega) (by omega)
    intro hl M Q E q
    refine ⟨d__law_expression_text, rfl, rfl, ?_⟩
    show wpSs T (Gam T (n + 1)) b__law_expression_text _ [some (.tup (encE (.and f g))), some (.int w), none, none] M
    unfold b__law_expression_text
    refine st_ifF pure0 (evT_hIn (t := kAnd) (l := [kNone, kEmpty, kLetter]) rfl rfl rfl) ?_
    refine st_ifT pure0 (evT_hIn (t := kAnd) (l := [kOr, kAnd, kJoin]) rfl rfl rfl) ?_
    refine st_asg (d := .int (2 : Nat)) pure0 (by rfl) rfl ?_
    refine st_asg (d := .str [32, 38, 32]) pure0 (by rfl) rfl ?_
    refine SL.ret (SL.held (own := 2) (w := w) (SL.add (SL.add (SL.call (ds := [.tup (encE f), .int (2 : Nat)]) rfl F) (SL.ev (x := [32, 38, 32]) rfl)) (SL.call (ds := [.tup (encE g), .int (3 : Nat)]) rfl G)) rfl rfl rfl) ?_ hl (gc.here q)
    show _ = (par (decide (2 < w)) (itE f 2 ++ (sp :: [38] :: sp :: itE g 3))).flatten
    rw [fl_parT]; simp
  | .join f g, n, w, hw, hn => by
    have hn : max (htE f) (htE g) + 1 + 1 ≤ n := hn
    obtain ⟨n, rfl⟩ : ∃ m, n = m + 2 := ⟨n - 2, by omega⟩
    have F := tle f (n + 1) 3 (by omega) (by omega)
    have G := tle g (n + 1) 4 (by omega) (by omega)
    intro hl M Q E q
    refine ⟨d__law_expression_text, rfl, rfl, ?_⟩
    show wpSs T (Gam T (n + 1)) b__law_expression_text _ [some (.tup (encE (.join f g))), some (.int w), none, none] M
    unfold b__law_expression_text
    refine st_ifF pure0 (evT_hIn (t := kJoin) (l := [kNone, kEmpty, kLetter]) rfl rfl rfl) ?_
    refine st_ifT pure0 (evT_hIn (t := kJoin) (l := [kOr, kAnd, kJoin]) rfl rfl rfl) ?_
    refine st_asg (d := .int (3 : Nat)) pure0 (by rfl) rfl ?_
    refine st_asg (d := .str [32]) pure0 (by rfl) rfl ?_
    refine SL.ret (SL.held (own := 3) (w := w) (SL.add (SL.add (SL.call (ds := [.tup (encE f), .int (3 : Nat)]) rfl F) (SL.ev (x := [32]) rfl)) (SL.call (ds := [.tup (encE g), .int (4 : Nat)]) rfl G)) rfl rfl rfl) ?_ hl (gc.here q)
    show _ = (par (decide (3 < w)) (itE f 3 ++ (sp :: itE g 4))).flatten
    rw [fl_parT]; simp
  | .neg f, n, w, hw, hn => by
    have hn : htE f + 1 + 1 ≤ n := hn
    obtain ⟨n, rfl⟩ : ∃ m, n = m + 2 := ⟨n - 2, by omega⟩
    have F := tle f (n + 1) 4 (by omega) (by omega)
    intro hl M Q E q
    refine ⟨d__law_expression_text, rfl, rfl, ?_⟩
    show wpSs T (Gam T (n + 1)) b__law_expression_text _ [some (.tup (encE (.neg f))), some (.int w), none, none] M
    unfold b__law_expression_text
    refine st_ifF pure0 (evT_hIn (t := kNot) (l := [kNone, kEmpty, kLetter]) rfl rfl rfl) ?_
    refine st_ifF pure0 (evT_hIn (t := kNot) (l := [kOr, kAnd, kJoin]) rfl rfl rfl) ?_
    refine st_ifT pure0 (evT_hEq (t := kNot) rfl rfl rfl rfl) ?_
    refine SL.ret (SL.held (own := 4) (w := w) (SL.add .con (SL.call (ds := [.tup (encE f), .int (4 : Nat)]) rfl F)) rfl rfl rfl) ?_ hl (gc.here q)
    show _ = (par (decide (4 < w)) ([126] :: sp :: itE f 4)).flatten
    rw [fl_parT]; simp
  | .rep f, n, w, hw, hn => by
    have hn : htE f + 1 + 1 ≤ n := hn
    obtain ⟨n, rfl⟩ : ∃ m, n = m + 2 := ⟨n - 2, by omega⟩
    have F := tle f (n + 1) 5 (by omega) (by omega)
    intro hl M Q E q
    refine ⟨d__law_expression_text, rfl, rfl, ?_⟩
    show wpSs T (Gam T (n + 1)) b__law_expression_text _ [some (.tup (encE (.rep f))), some (.int w), none, none] M
    unfold b__law_expression_text
    refine st_ifF pure0 (evT_hIn (t := kRepeat) (l := [kNone, kEmpty, kLetter]) rfl rfl rfl) ?_
    refine st_ifF pure0 (evT_hIn (t := kRepeat) (l := [kOr, kAnd, kJoin]) rfl rfl rfl) ?_
    refine st_ifF pure0 (evT_hEq (t := kRepeat) rfl rfl rfl rfl) ?_
    refine SL.ret (SL.held (own := 5) (w := w) (SL.add (SL.call (ds := [.tup (encE f), .int (5 : Nat)]) rfl F) .con) rfl rfl rfl) ?_ hl (gc.here q)
    show _ = (par (decide (5 < w)) (itE f 5 ++ [[42]])).flatten
    rw [fl_parT]; simp
  | .ltr c, n, w, hw, hn => by
    have hn : 1 + 1 ≤ n := hn
    obtain ⟨n, rfl⟩ : ∃ m, n = m + 2 := ⟨n - 2, by omega⟩
    intro hl M Q E q
    refine ⟨d__law_expression_text, rfl, rfl, ?_⟩
    show wpSs T (Gam T (n + 1)) b__law_expression_text _ [some (.tup (encE (.ltr c))), some (.int w), none, none] M
    unfold b__law_expression_text
    refine st_ifT pure0 (evT_hIn (t := kLetter) (l := [kNone, kEmpty, kLetter]) rfl rfl rfl) ?_
    exact SL.ret (SL.ev (x := [c]) rfl) rfl hl (gc.here q)
  | .emp b, n, w, hw, hn => by
    have hn : 1 + 1 ≤ n := hn
    obtain ⟨n, rfl⟩ : ∃ m, n = m + 2 := ⟨n - 2, by omega⟩
    intro hl M Q E q
    refine ⟨d__law_expression_text, rfl, rfl, ?_⟩
    show wpSs T (Gam T (n + 1)) b__law_expression_text _ [some (.tup (encE (.emp b))), some (.int w), none, none] M
    unfold b__law_expression_text
    refine st_ifT pure0 (evT_hIn (t := kEN b) (l := [kNone, kEmpty, kLetter]) rfl rfl (by cases b <;> rfl)) ?_
    exact SL.ret (SL.ev (x := kEN b) rfl) (by show _ = [kEN b].flatten; simp) hl (gc.here q)
end
end Pv.G

namespace Pv.G
open PySem PySem.Spec PyProof.Rows L2 Pv
/-! ### drawing -/
section
variable {M : Mem} {Q : D → Mem → Prop} {E : Exn → Mem → Prop} {n k : Nat} {p : PySem.Addr} {σ : St} {Φ : Phi}
theorem evT_lt {i c : Nat} (h : σ[i]? = some (some (.int k))) : evT T Φ (.val (.cmp .lt (.var i) (.con (.int c)))) σ M = some (decide (k < c)) := evT_bl (ev_cmp (x := .int k) (y := .int c) (ev_var h rfl) rfl (by
  show some (decide ((k : Int) < (c : Int))) = _
  congr 1
  exact decide_eq_decide.mpr (by omega)))
theorem evT_gt {i c : Nat} (h : σ[i]? = some (some (.int k))) : evT T Φ (.val (.cmp .gt (.var i) (.con (.int c)))) σ M = some (decide (c < k)) := evT_bl (ev_cmp (x := .int k) (y := .int c) (ev_var h rfl) rfl (by
  show some (decide ((c : Int) < (k : Int))) = _
  congr 1
  exact decide_eq_decide.mpr (by omega)))
theorem evT_eqn {i c : Nat} (h : σ[i]? = some (some (.int k))) : evT T Φ (.val (.cmp .eq (.var i) (.con (.int c)))) σ M = some (decide (k = c)) := evT_bl (ev_cmp (x := .int k) (y := .int c) (ev_var h rfl) rfl (by
  show opCmp .eq (.int k) (.int c) = _
  rw [eqIB]
  congr 1
  exact decide_eq_decide.mpr (by omega)))
theorem ev_lenL {i : Nat} {l : List D} (h : σ[i]? = some (some (.lst l))) : ev T Φ (.bc .len [(.var i)]) σ M = some (.int l.length) := ev_len (ev_var h rfl) rfl
theorem evT_len {i : Nat} {l : List D} (h : σ[i]? = some (some (.lst l))) : evT T Φ (.val (.cmp .gt (.bc .len [(.var i)]) (.con (.int 0)))) σ M = some (decide (0 < l.length)) := evT_bl (ev_cmp (x := .int l.length) (y := .int 0) (ev_lenL h) rfl (by
  show some (decide ((0 : Int) < (l.length : Int))) = _
  congr 1
  exact decide_eq_decide.mpr (by omega)))
theorem evT_len0 {i : Nat} {l : List D} (h : σ[i]? = some (some (.lst l))) : evT T Φ (.val (.cmp .eq (.bc .len [(.var i)]) (.con (.int 0)))) σ M = some (decide (l.length = 0)) := evT_bl (ev_cmp (x := .int l.length) (y := .int 0) (ev_lenL h) rfl (by
  show opCmp .eq (.int l.length) (.int 0) = _
  rw [eqIB]
  congr 1
  exact decide_eq_decide.mpr (by omega)))
theorem evT_and {a b : CT} {x y : Bool} (h1 : evT T Φ a σ M = some x) (h2 : evT T Φ b σ M = some y) : evT T Φ (.and a b) σ M = some (x && y) := by
  show (evT T Φ a σ M).bind _ = _
  rw [h1]
  cases x
  · rfl
  · exact h2
theorem evT_orB {a b : CT} {x y : Bool} (h1 : evT T Φ a σ M = some x) (h2 : evT T Φ b σ M = some y) : evT T Φ (.or a b) σ M = some (x || y) := by
  show (evT T Φ a σ M).bind _ = _
  rw [h1]
  cases x
  · exact h2
  · rfl
theorem evAf_ok {Γ : FSem} {E : Kx} : ∀ {es : List CE} {bx : List Bool} {σ : St} {ds : List D} {Q : Kl}, (bx.all fun b => !b) = true → evL T (fun _ _ _ => none) es σ M = some ds → Q ds σ M → wpA T Γ E bx es σ M Q
  | [], bx, σ, ds, Q, hb, h, q => by cases h; exact q
  | e :: es, bx, σ, ds, Q, hb, h, q => by
    unfold evL at h
    obtain ⟨x, h1, h2⟩ := opt_bind h
    obtain ⟨y, h3, h4⟩ := opt_bind h2
    obtain ⟨xs, h5, h6⟩ := opt_map h4
    refine i_A (w_ev h1 ?_)
    have hh : (bx.headD false = true) = False ∧ (bx.tail.all fun b => !b) = true := by
      cases bx with
      | nil => exact ⟨by simp, rfl⟩
      | cons b r =>
        have hb : (!b && r.all fun b => !b) = true := hb
        rw [Bool.and_eq_true] at hb
        refine ⟨?_, hb.2⟩
        cases b
        · simp
        · exact absurd hb.1 (by decide)
    rw [if_neg (by rw [hh.1]; exact id)]
    refine frzP_ok h3 (evAf_ok hh.2 h5 ?_)
    rw [h6]; exact q
/-- a call whose first argument is an object at hand -/
theorem w_callP {Γ : FSem} {E : Kx} {Q : Kt} {f : Nat} {bx : List Bool} {es : List CE} {ds : List D} (h0 : σ[0]? = some (some (.ref p))) (hb : (bx.all fun b => !b) = true) (h : evL T (fun _ _ _ => none) es σ M = some ds) (q : Γ f (.ref p :: ds) M (fun d M' => Q d σ M') fun x M' => E x σ M') : wpE T Γ E (.call f (true :: bx) ((.var 0) :: es)) σ M Q := by
  refine i_call (i_A (w_var h0 rfl ?_))
  rw [if_pos (show (true :: bx).headD false = true from rfl)]
  refine boxd_v (d := .ref p) (fun i z => nomatch z) rfl ?_
  exact evAf_ok hb h q
def Pk (M : Mem) (p : PySem.Addr) : Prop := ∃ l : List Nat, M p = some (.l (l.map di))
theorem c_pick (h : Pk M p) (q : ∀ (x : Nat) M', Pk M' p → Q (.int x) M') : Gam T (n + 1) 39 [.ref p] M Q E := by
  obtain ⟨l, hl⟩ := h
  refine ⟨d__law_pick, rfl, rfl, ?_⟩
  show wpSs T _ b__law_pick _ [some (.ref p)] M
  unfold b__law_pick
  have hv : vw [some (.ref p)] M (.ref p) = .lst (l.map di) := by
    show (match M p with
      | some (.l xs) => D.lst xs
      | some (.d kvs) => .dct kvs
      | _ => .ref p) = _
    rw [hl]
  have e1 : evT T (fun _ _ _ => none) (.val (.cmp .eq (.bc .len [(.var 0)]) (.con (.int 0)))) [some (.ref p)] M = some (decide (l.length = 0)) := evT_bl (ev_cmp (x := .int l.length) (y := .int 0) (ev_len (d := .ref p) rfl (by
    show opB .len [vw [some (.ref p)] M (.ref p)] = _
    rw [hv]
    show some (D.int (l.map di).length) = _
    rw [List.length_map])) rfl (by
    show opCmp .eq (.int l.length) (.int 0) = _
    rw [eqIB]
    congr 1
    exact decide_eq_decide.mpr (by omega)))
  by_cases h0 : l.length = 0
  · rw [decide_eq_true h0] at e1
    refine st_ifT pure0 e1 ?_
    exact st_ret (d := .int (0 : Nat)) (d' := .int (0 : Nat)) pure0 rfl rfl (gc.here (q 0 M ⟨l, hl⟩))
  · rw [decide_eq_false h0] at e1
    refine st_ifF pure0 e1 ?_
    refine i_ret (i_mm (w_var (d := .ref p) rfl rfl ?_))
    refine ⟨by rw [hv]; rfl, L_nil ?_⟩
    show change (.ref p) (fun o => opX .pop o []) [some (.ref p)] M _
    unfold change
    dsimp only
    rw [hl]
    obtain ⟨x, hx⟩ : ∃ x, l.getLast? = some x := by
      cases l with
      | nil => exact absurd rfl h0
      | cons a r => exact ⟨_, List.getLast?_eq_some_getLast (by simp)⟩
    refine ⟨(l.map di).dropLast, .int x, ?_, ?_⟩
    · show ((l.map di).getLast?).map _ = _
      rw [List.getLast?_map, hx]; rfl
    · refine gc.here (q x _ ⟨l.dropLast, ?_⟩)
      rw [mset_same, List.map_dropLast]
theorem w_pick {E : Kx} {Q : Kt} (h : Pk M p) (hn : 1 ≤ n) (h0 : σ[0]? = some (some (.ref p))) (q : ∀ (x : Nat) M', Pk M' p → Q (.int x) σ M') : wpE T (Gam T n) E (.call 39 [true] [(.var 0)]) σ M Q := by
  obtain ⟨n, rfl⟩ : ∃ m, n = m + 1 := ⟨n - 1, by omega⟩
  exact w_callP h0 rfl rfl (c_pick h q)
/-- a pick modulo -/
theorem w_pickM {E : Kx} {Q : Kt} {b : CE} {m : Nat} (h : Pk M p) (hn : 1 ≤ n) (h0 : σ[0]? = some (some (.ref p))) (hb : ∀ M, ev T (fun _ _ _ => none) b σ M = some (.int m)) (hm : 0 < m) (q : ∀ (x : Nat) M', x < m → Pk M' p → Q (.int x) σ M') : wpE T (Gam T n) E (.bin .mod (.call 39 [true] [(.var 0)]) b) σ M Q := by
  refine i_bin (w_pick h hn h0 fun x M' h' => w_ev (hb M') ?_)
  refine ⟨.int (x % m : Nat), ?_, q _ _ (Nat.mod_lt _ hm) h'⟩
  show opBin .mod (.int x) (.int m) = _
  rw [mod_ok (by omega)]
  rfl
theorem c_picks {ns : List Int} {j count : Nat} (hj : j < 2 ^ 30) (hns : ns.length ≤ 100000) (hc : count ≤ 100000) (q : ∀ l : List Nat, Q (.ol (l.map di)) M) : Gam T (n + 3) 40 [.lst (ns.map D.int), .int j, .int count] M Q E := by
  refine ⟨d__law_picks, rfl, rfl, ?_⟩
  show wpSs T _ b__law_picks _ [some (.lst (ns.map D.int)), some (.int j), some (.int count), none] M
  unfold b__law_picks
  refine st_call (ds := [.lst (ns.map D.int), .int j, .int count, .int (5040 : Nat)]) pure0 rfl (c_law_draws (F := 37) (G := 38) rfl rfl hj hns hc (by decide) (by decide) fun l h1 h2 => ?_)
  show wpSs T _ _ _ [some (.lst (ns.map D.int)), some (.int j), some (.int count), some (.ol (l.map di))] M
  refine i_ex (i_mm (w_ev (d := .slot 3) (ev_slot rfl rfl) ?_))
  refine ⟨rfl, L_nil ?_⟩
  show change (.slot 3) (fun o => opX .reverse o []) _ M _
  refine ⟨(l.map di).reverse, .non, rfl, ?_⟩
  show wpSs T _ _ _ [some (.lst (ns.map D.int)), some (.int j), some (.int count), some (.ol (l.map di).reverse)] M
  refine st_ret (d := .slot 3) (d' := .ol (l.map di).reverse) pure0 rfl rfl (gc.here ?_)
  rw [← List.map_reverse]
  exact q _
/-! sentences of places -/
def pd (l : List It) : D := .lst (l.map .str)
theorem idx_pd {l : List It} {x : Nat} (h : x < l.length) : opIdx (pd l) (.int x) = some (.str l[x]) := by
  show L2.atI (l.map D.str) (x : Int) = _
  rw [atI_natM, List.getElem?_eq_getElem h]; rfl
theorem len_pd {i : Nat} {l : List It} (h : σ[i]? = some (some (pd l))) (M : Mem) : ev T Φ (.bc .len [(.var i)]) σ M = some (.int l.length) := by
  rw [ev_lenL h, List.length_map]
theorem abc_get {x k : Nat} (hk : k ≤ 3) (hx : x < k) : ∃ c, opIdx (.str [97, 98, 99]) (.int x) = some (.str [c]) ∧ c ∈ abc.take k := by
  match k, hk, x, hx with
  | 1, _, 0, _ => exact ⟨97, rfl, by decide⟩
  | 2, _, 0, _ => exact ⟨97, rfl, by decide⟩
  | 2, _, 1, _ => exact ⟨98, rfl, by decide⟩
  | 3, _, 0, _ => exact ⟨97, rfl, by decide⟩
  | 3, _, 1, _ => exact ⟨98, rfl, by decide⟩
  | 3, _, 2, _ => exact ⟨99, rfl, by decide⟩
theorem c_base {ps ss : List It} (h : Pk M p) (hk : 1 ≤ k ∧ k ≤ 3) (h0 : 0 < ps.length) (hps : ∀ x ∈ ps, x ∈ plN) (hss : ∀ x ∈ ss, x = [88]) (q : ∀ (f : Pl) M', okP (abc.take k) f → htP f = 1 → Pk M' p → Q (.tup (encP f)) M') : Gam T (n + 2) 41 [.ref p, .int k, pd ps, pd ss] M Q E := by
  refine ⟨d__law_base, rfl, rfl, ?_⟩
  show wpSs T _ b__law_base _ [some (.ref p), some (.int k), some (pd ps), some (pd ss), none, none, none] M
  unfold b__law_base
  refine i_asg (w_pickM (n := n + 1) (m := 7) h (by omega) rfl (fun _ => rfl) (by decide) fun kd M1 hkd g1 => ?_)
  show wpSs T _ _ _ [some (.ref p), some (.int k), some (pd ps), some (pd ss), some (.int kd), none, none] M1
  refine i_asg (i_idx (w_var (d := pd ps) rfl rfl (w_pickM (n := n + 1) (m := ps.length) g1 (by omega) rfl (len_pd rfl) h0 fun x M2 hx g2 => ?_)))
  refine ⟨.str ps[x], idx_pd hx, ?_⟩
  show wpSs T _ _ _ [some (.ref p), some (.int k), some (pd ps), some (pd ss), some (.int kd), some (.str ps[x]), none] M2
  refine i_asg (i_idx (w_var (d := pd ps) rfl rfl (w_pickM (n := n + 1) (m := ps.length) g2 (by omega) rfl (len_pd rfl) h0 fun y M3 hy g3 => ?_)))
  refine ⟨.str ps[y], idx_pd hy, ?_⟩
  show wpSs T _ _ _ [some (.ref p), some (.int k), some (pd ps), some (pd ss), some (.int kd), some (.str ps[x]), some (.str ps[y])] M3
  have hxn := hps _ (List.getElem_mem hx)
  have hyn := hps _ (List.getElem_mem hy)
  have e1 : evT T (fun _ _ _ => none) (.or (.val (.cmp .lt (.var 4) (.con (.int 3)))) (.and (.val (.cmp .eq (.var 4) (.con (.int 6)))) (.val (.cmp .eq (.bc .len [(.var 3)]) (.con (.int 0)))))) [some (.ref p), some (.int k), some (pd ps), some (pd ss), some (.int kd), some (.str ps[x]), some (.str ps[y])] M3 = some (decide (kd < 3) || (decide (kd = 6) && decide ((ss.map D.str).length = 0))) := evT_orB (evT_lt (c := 3) rfl) (evT_and (evT_eqn (c := 6) rfl) (evT_len0 rfl))
  cases hb : (decide (kd < 3) || (decide (kd = 6) && decide ((ss.map D.str).length = 0))) with
  | true =>
    rw [hb] at e1
    refine st_ifT pure0 e1 ?_
    refine i_ret (i_tup (L_ev (d := .str kLetter) rfl rfl (i_L (i_idx (w_ev (d := .str abc) rfl (w_pickM (n := n + 1) (m := k) g3 (by omega) rfl (fun _ => rfl) (by omega) fun z M4 hz g4 => ?_))))))
    obtain ⟨c, hc1, hc2⟩ := abc_get hk.2 hz
    refine ⟨.str [c], hc1, ?_⟩
    refine frz_of (fun i z => nomatch z) rfl ?_
    refine L_ev (d := .str ps[x]) rfl rfl ?_
    exact ⟨by show 3 ≤ 16777216; decide, gc.here (q (.ltr c ps[x]) _ ⟨hc2, hxn⟩ rfl g4)⟩
  | false =>
    rw [hb] at e1
    refine st_ifF pure0 e1 ?_
    rw [Bool.or_eq_false_iff, Bool.and_eq_false_iff, decide_eq_false_iff_not, decide_eq_false_iff_not, decide_eq_false_iff_not, List.length_map] at hb
    by_cases h6 : kd < 6
    · refine st_ifT pure0 ((evT_lt (c := 6) (k := kd) rfl).trans (by rw [decide_eq_true h6])) ?_
      obtain ⟨r, hr⟩ : ∃ r : Fin 3, kd = r.val + 3 := ⟨⟨kd - 3, by omega⟩, by simp; omega⟩
      subst hr
      refine st_ret (d := .tup [.str (kRel r), .str ps[x], .str ps[y]]) (d' := .tup [.str (kRel r), .str ps[x], .str ps[y]]) pure0 ?_ rfl (gc.here (q (.rel r ps[x] ps[y]) _ ⟨hxn, hyn⟩ rfl g3))
      match r with
      | 0 => rfl
      | 1 => rfl
      | 2 => rfl
    · refine st_ifF pure0 ((evT_lt (c := 6) (k := kd) rfl).trans (by rw [decide_eq_false h6])) ?_
      have hs0 : 0 < ss.length := by omega
      refine i_ret (i_tup (L_ev (d := .str kWithin) rfl rfl (L_ev (d := .str ps[x]) rfl rfl (i_L (i_idx (w_var (d := pd ss) rfl rfl (w_pickM (n := n + 1) (m := ss.length) g3 (by omega) rfl (len_pd rfl) hs0 fun z M4 hz g4 => ?_)))))))
      refine ⟨.str ss[z], idx_pd hz, ?_⟩
      exact ⟨by show 3 ≤ 16777216; decide, gc.here (q (.wit ps[x] ss[z]) _ ⟨hxn, hss _ (List.getElem_mem hz)⟩ rfl g4)⟩
end
end Pv.G

namespace Pv.G
open PySem PySem.Spec PyProof.Rows L2 Pv
section
variable {n k : Nat} {p : PySem.Addr}
def sg (p : PySem.Addr) (k : Nat) (ps ss : List It) (lv nm : Nat) (a5 a6 a7 a8 a11 a12 a13 : Option D) : St := [some (.ref p), some (.int k), some (pd ps), some (pd ss), some (.tup [.int lv, .int nm]), a5, a6, a7, a8, some (.int lv), some (.int nm), a11, a12, a13]
theorem subn {a : Nat} (h : 0 < a) : ((a : Int) - 1) = ((a - 1 : Nat) : Int) := by omega
theorem maxn {a : Nat} : (if (0 : Int) > (a : Int) - 1 then (0 : Int) else (a : Int) - 1) = ((a - 1 : Nat) : Int) := by
  split <;> omega
def nm4 (x : Nat) : It := plN.getD x [120]
theorem pd_snoc {l : List It} {x : It} (h : l.length ≤ 1000) : opBin .add (pd l) (.lst [.str x]) = some (.ol ((l ++ [x]).map .str)) := by
  show opBin .add (.lst (l.map .str)) (.lst [.str x]) = _
  rw [add_lst (by rw [List.length_map]; show _ + 1 ≤ _; omega), List.map_append]; rfl
theorem c_sent (hk : 1 ≤ k ∧ k ≤ 3) : ∀ (m n lv nm : Nat) (ps ss : List It) (M : Mem), lv + (if ps = [] then 1 else 0) = m → m + 3 ≤ n → (ps = [] → ss = []) → (∀ x ∈ ps, x ∈ plN) → (∀ x ∈ ss, x = [88]) → ps.length + m ≤ 1000 → ss.length + m ≤ 1000 → Pk M p →
    ∀ (Q : D → Mem → Prop) (E : Exn → Mem → Prop), (∀ (f : Pl) M', okP (abc.take k) f → htP f ≤ m + 1 → Pk M' p → Q (.tup (encP f)) M') → Gam T n 42 [.ref p, .int k, pd ps, pd ss, .tup [.int lv, .int nm]] M Q E := by
  intro m
  induction m using Nat.strongRecOn with
  | ind m ih =>
  intro n lv nm ps ss M hm hn h0 hps hss hlp hls hM Q E q
  obtain ⟨n, rfl⟩ : ∃ i, n = i + 3 := ⟨n - 3, by omega⟩
  refine ⟨d__law_sentence, rfl, rfl, ?_⟩
  show wpSs T (Gam T (n + 2)) b__law_sentence _ [some (.ref p), some (.int k), some (pd ps), some (pd ss), some (.tup [.int lv, .int nm]), none, none, none, none, none, none, none, none, none] M
  unfold b__law_sentence
  refine st_asgT (d := .tup [.int lv, .int nm]) (d' := .tup [.int lv, .int nm]) (σ' := sg p k ps ss lv nm none none none none none none none) pure0 rfl rfl rfl ?_
  refine i_asg (w_pickM (n := n + 2) (m := 12) hM (by omega) rfl (fun _ => rfl) (by decide) fun kd M1 hkd g1 => ?_)
  show wpSs T _ _ _ (sg p k ps ss lv nm (some (.int kd)) none none none none none none) M1
  have hbase : 0 < ps.length → wpSs T (Gam T (n + 2)) [.ret (.call 41 [true, false, false, false] [(.var 0), (.var 1), (.var 2), (.var 3)])] { nx := fun σ M' => False, rt := gc Q, ex := fun x _ M' => E x M' } (sg p k ps ss lv nm (some (.int kd)) none none none none none none) M1 := fun hp => by
    refine i_ret (w_callP (ds := [.int k, pd ps, pd ss]) rfl rfl rfl (c_base (n := n) g1 hk hp hps hss fun f M' h1 h2 h3 => ?_))
    exact gc.here (q f M' h1 (by omega) h3)
  have hlen : (ps.map D.str).length = ps.length := List.length_map _
  have t1 : evT T (fun _ _ _ => none) (.and (.val (.cmp .eq (.var 9) (.con (.int 0)))) (.val (.cmp .gt (.bc .len [(.var 2)]) (.con (.int 0))))) (sg p k ps ss lv nm (some (.int kd)) none none none none none none) M1 = some (decide (lv = 0) && decide (0 < ps.length)) := by
    rw [← hlen]; exact evT_and (evT_eqn (c := 0) rfl) (evT_len rfl)
  have t2 : evT T (fun _ _ _ => none) (.and (.val (.cmp .gt (.var 9) (.con (.int 0)))) (.and (.val (.cmp .gt (.bc .len [(.var 2)]) (.con (.int 0)))) (.val (.cmp .lt (.var 5) (.con (.int 2)))))) (sg p k ps ss lv nm (some (.int kd)) none none none none none none) M1 = some (decide (0 < lv) && (decide (0 < ps.length) && decide (kd < 2))) := by
    rw [← hlen]; exact evT_and (evT_gt (c := 0) rfl) (evT_and (evT_len rfl) (evT_lt (c := 2) rfl))
  have t3 : evT T (fun _ _ _ => none) (.and (.val (.cmp .gt (.var 9) (.con (.int 0)))) (.val (.cmp .lt (.var 5) (.con (.int 3))))) (sg p k ps ss lv nm (some (.int kd)) none none none none none none) M1 = some (decide (0 < lv) && decide (kd < 3)) := evT_and (evT_gt (c := 0) rfl) (evT_lt (c := 3) rfl)
  have t4 : evT T (fun _ _ _ => none) (.and (.val (.cmp .gt (.var 9) (.con (.int 0)))) (.val (.cmp .lt (.var 5) (.con (.int 7))))) (sg p k ps ss lv nm (some (.int kd)) none none none none none none) M1 = some (decide (0 < lv) && decide (kd < 7)) := evT_and (evT_gt (c := 0) rfl) (evT_lt (c := 7) rfl)
  have t5 : evT T (fun _ _ _ => none) (.and (.val (.cmp .eq (.var 10) (.con (.int 0)))) (.val (.cmp .gt (.bc .len [(.var 2)]) (.con (.int 0))))) (sg p k ps ss lv nm (some (.int kd)) none none none none none none) M1 = some (decide (nm = 0) && decide (0 < ps.length)) := by
    rw [← hlen]; exact evT_and (evT_eqn (c := 0) rfl) (evT_len rfl)
  -- a level less
  have rec1 : ∀ (i : Nat) (M' : Mem), 0 < lv → Pk M' p → ∀ (Q' : D → Mem → Prop) (E' : Exn → Mem → Prop), (∀ (f : Pl) M', okP (abc.take k) f → htP f ≤ m → Pk M' p → Q' (.tup (encP f)) M') → Gam T (n + 2) 42 [.ref p, .int k, pd ps, pd ss, .tup [.int ((lv : Int) - 1), .int nm]] M' Q' E' := fun i M' hl hM' Q' E' q' => by
    rw [subn hl]
    exact ih (m - 1) (by omega) (n + 2) (lv - 1) nm ps ss M' (by omega) (by omega) h0 hps hss (by omega) (by omega) hM' Q' E' fun f M'' a b c => q' f M'' a (by omega) c
  by_cases hb1 : lv = 0 ∧ 0 < ps.length
  · refine st_ifT pure0 (t1.trans (by rw [decide_eq_true hb1.1, decide_eq_true hb1.2]; rfl)) ?_
    exact hbase hb1.2
  refine st_ifF pure0 (t1.trans (by rw [← Bool.decide_and, decide_eq_false hb1])) ?_
  by_cases hb2 : 0 < lv ∧ 0 < ps.length ∧ kd < 2
  · refine st_ifT pure0 (t2.trans (by rw [decide_eq_true hb2.1, decide_eq_true hb2.2.1, decide_eq_true hb2.2.2]; rfl)) ?_
    exact hbase hb2.2.1
  refine st_ifF pure0 (t2.trans (by rw [← Bool.decide_and, ← Bool.decide_and, decide_eq_false hb2])) ?_
  by_cases hb3 : 0 < lv ∧ kd < 3
  · refine st_ifT pure0 (t3.trans (by rw [decide_eq_true hb3.1, decide_eq_true hb3.2]; rfl)) ?_
    refine i_ret (i_tup (L_ev (d := .str kNot) rfl rfl (i_L (w_callP (ds := [.int k, pd ps, pd ss, .tup [.int ((lv : Int) - 1), .int nm]]) rfl rfl rfl (rec1 0 M1 hb3.1 g1 _ _ fun f M' a b c => ?_)))))
    exact ⟨by show 2 ≤ 16777216; decide, gc.here (q (.neg f) M' a (by show htP f + 1 ≤ m + 1; omega) c)⟩
  refine st_ifF pure0 (t3.trans (by rw [← Bool.decide_and, decide_eq_false hb3])) ?_
  by_cases hb4 : 0 < lv ∧ kd < 7
  · refine st_ifT pure0 (t4.trans (by rw [decide_eq_true hb4.1, decide_eq_true hb4.2]; rfl)) ?_
    refine i_asg (w_callP (ds := [.int k, pd ps, pd ss, .tup [.int ((lv : Int) - 1), .int nm]]) rfl rfl rfl (rec1 0 M1 hb4.1 g1 _ _ fun f M2 a b c => ?_))
    show wpSs T _ _ _ (sg p k ps ss lv nm (some (.int kd)) none none none (some (.tup (encP f))) none none) M2
    refine i_asg (w_callP (ds := [.int k, pd ps, pd ss, .tup [.int ((lv : Int) - 1), .int nm]]) rfl rfl rfl (rec1 0 M2 hb4.1 c _ _ fun g M3 a' b' c' => ?_))
    show wpSs T _ _ _ (sg p k ps ss lv nm (some (.int kd)) none none none (some (.tup (encP f))) (some (.tup (encP g))) none) M3
    have hk3 : kd = 3 ∨ kd = 4 ∨ kd = 5 ∨ kd = 6 := by omega
    rcases hk3 with rfl | rfl | rfl | rfl
    · exact st_ret (d := .tup (encP (.and f g))) (d' := .tup (encP (.and f g))) pure0 rfl rfl (gc.here (q (.and f g) M3 ⟨a, a'⟩ (by show max (htP f) (htP g) + 1 ≤ _; omega) c'))
    · exact st_ret (d := .tup (encP (.or f g))) (d' := .tup (encP (.or f g))) pure0 rfl rfl (gc.here (q (.or f g) M3 ⟨a, a'⟩ (by show max (htP f) (htP g) + 1 ≤ _; omega) c'))
    · exact st_ret (d := .tup (encP (.thn false f g))) (d' := .tup (encP (.thn false f g))) pure0 rfl rfl (gc.here (q (.thn false f g) M3 ⟨a, a'⟩ (by show max (htP f) (htP g) + 1 ≤ _; omega) c'))
    · exact st_ret (d := .tup (encP (.thn true f g))) (d' := .tup (encP (.thn true f g))) pure0 rfl rfl (gc.here (q (.thn true f g) M3 ⟨a, a'⟩ (by show max (htP f) (htP g) + 1 ≤ _; omega) c'))
  refine st_ifF pure0 (t4.trans (by rw [← Bool.decide_and, decide_eq_false hb4])) ?_
  by_cases hb5 : nm = 0 ∧ 0 < ps.length
  · refine st_ifT pure0 (t5.trans (by rw [decide_eq_true hb5.1, decide_eq_true hb5.2]; rfl)) ?_
    exact hbase hb5.2
  refine st_ifF pure0 (t5.trans (by rw [← Bool.decide_and, decide_eq_false hb5])) ?_
  refine st_asg (d := .tup [.int (lv - 1 : Nat), .int (nm - 1 : Nat)]) pure0 ?_ rfl ?_
  · show some (D.tup [.int (if (0 : Int) > (lv : Int) - 1 then (0 : Int) else (lv : Int) - 1), .int (if (0 : Int) > (nm : Int) - 1 then (0 : Int) else (nm : Int) - 1)]) = _
    rw [maxn, maxn]
  show wpSs T _ _ _ (sg p k ps ss lv nm (some (.int kd)) (some (.tup [.int (lv - 1 : Nat), .int (nm - 1 : Nat)])) none none none none none) M1
  refine i_asg (i_idx (w_ev (d := .tup (plN.map .str)) rfl (w_pickM (n := n + 2) (m := 4) g1 (by omega) rfl (fun _ => rfl) (by decide) fun x M2 hx g2 => ?_)))
  refine ⟨.str (nm4 x), ?_, ?_⟩
  · match x, hx with
    | 0, _ => rfl
    | 1, _ => rfl
    | 2, _ => rfl
    | 3, _ => rfl
  have hxn : nm4 x ∈ plN := by
    match x, hx with
    | 0, _ => decide
    | 1, _ => decide
    | 2, _ => decide
    | 3, _ => decide
  show wpSs T _ _ _ (sg p k ps ss lv nm (some (.int kd)) (some (.tup [.int (lv - 1 : Nat), .int (nm - 1 : Nat)])) (some (.str (nm4 x))) none none none none) M2
  generalize nm4 x = nx at hxn ⊢
  have hsl : (ss.map D.str).length = ss.length := List.length_map _
  have t6 : evT T (fun _ _ _ => none) (.and (.val (.cmp .eq (.var 5) (.con (.int 11)))) (.val (.cmp .gt (.bin .add (.bc .len [(.var 2)]) (.bc .len [(.var 3)])) (.con (.int 0))))) (sg p k ps ss lv nm (some (.int kd)) (some (.tup [.int (lv - 1 : Nat), .int (nm - 1 : Nat)])) (some (.str nx)) none none none none) M2 = some (decide (kd = 11) && decide (0 < ps.length + ss.length)) := by
    refine evT_and (evT_eqn (c := 11) rfl) (evT_bl (ev_cmp (x := .int (ps.length + ss.length : Nat)) (y := .int 0) (ev_bin (x := .int ps.length) (y := .int ss.length) (len_pd rfl _) (len_pd rfl _) rfl) rfl ?_))
    show some (decide ((0 : Int) < ((ps.length + ss.length : Nat) : Int))) = _
    congr 1
    exact decide_eq_decide.mpr (by omega)
  by_cases hb6 : kd = 11 ∧ 0 < ps.length + ss.length
  · refine st_ifT pure0 (t6.trans (by rw [decide_eq_true hb6.1, decide_eq_true hb6.2]; rfl)) ?_
    have hp0 : 0 < ps.length := by
      by_cases e : ps = []
      · have := h0 e
        rw [e, this] at hb6
        exact absurd hb6.2 (by decide)
      · exact List.length_pos_iff.mpr e
    have hpne : ps ≠ [] := List.length_pos_iff.mp hp0
    have hlv : 0 < lv := by
      rcases Nat.eq_zero_or_pos lv with e | e
      · exact absurd ⟨e, hp0⟩ hb1
      · exact e
    rw [if_neg hpne] at hm
    refine i_asg (w_callP (ds := [.int k, pd ps, pd (ss ++ [[88]]), .tup [.int (lv - 1 : Nat), .int (nm - 1 : Nat)]]) rfl rfl ?_ (ih (m - 1) (by omega) (n + 2) (lv - 1) (nm - 1) ps (ss ++ [[88]]) M2 (by rw [if_neg hpne]; omega) (by omega) (fun e => absurd e hpne) hps (fun y hy => ?_) (by omega) (by rw [List.length_append]; show _ + 1 + _ ≤ _; omega) g2 _ _ fun f M3 a b c => ?_))
    · refine evL_2 (x := .int k) rfl rfl (evL_2 (x := pd ps) rfl rfl (evL_2 (x := .ol ((ss ++ [[88]]).map .str)) (ev_bin (x := pd ss) (y := .ol [.str [88]]) rfl rfl (show opBin .add (pd ss) (.lst [.str [88]]) = _ from pd_snoc (by omega))) rfl (evL_1 rfl rfl)))
    · rcases List.mem_append.mp hy with hy | hy
      · exact hss y hy
      · exact List.mem_singleton.mp hy
    show wpSs T _ _ _ (sg p k ps ss lv nm (some (.int kd)) (some (.tup [.int (lv - 1 : Nat), .int (nm - 1 : Nat)])) (some (.str nx)) (some (.tup (encP f))) none none none) M3
    refine i_ret (i_tup (i_L (i_idx (w_ev (d := .tup [.str [115, 111, 109, 101, 115, 101, 116], .str [97, 108, 108, 115, 101, 116]]) rfl (w_pickM (n := n + 2) (m := 2) c (by omega) rfl (fun _ => rfl) (by decide) fun z M4 hz g4 => ?_)))))
    obtain ⟨al, hal⟩ : ∃ al : Bool, opIdx (.tup [.str [115, 111, 109, 101, 115, 101, 116], .str [97, 108, 108, 115, 101, 116]]) (.int z) = some (.str (kSA al ++ kSet)) := by
      match z, hz with
      | 0, _ => exact ⟨false, rfl⟩
      | 1, _ => exact ⟨true, rfl⟩
    refine ⟨_, hal, ?_⟩
    refine frz_of (fun i z => nomatch z) rfl ?_
    refine L_ev (d := .str [88]) rfl rfl (L_ev (d := .tup (encP f)) rfl rfl (L_nil ?_))
    exact ⟨by show 3 ≤ 16777216; decide, gc.here (q (.bnd al true [88] f) M4 ⟨rfl, a⟩ (by show htP f + 1 ≤ m + 1; omega) g4)⟩
  refine st_ifF pure0 (t6.trans (by rw [← Bool.decide_and, decide_eq_false hb6])) ?_
  have hm1 : lv - 1 < m := by
    rcases Nat.eq_zero_or_pos lv with e | e
    · by_cases e2 : ps = []
      · rw [if_pos e2] at hm; omega
      · exact absurd ⟨e, List.length_pos_iff.mpr e2⟩ hb1
    · split at hm <;> omega
  refine i_asg (w_callP (ds := [.int k, pd (ps ++ [nx]), pd ss, .tup [.int (lv - 1 : Nat), .int (nm - 1 : Nat)]]) rfl rfl ?_ (ih (lv - 1) hm1 (n + 2) (lv - 1) (nm - 1) (ps ++ [nx]) ss M2 (by rw [if_neg (by simp)]; rfl) (by omega) (fun e => absurd e (by simp)) (fun y hy => ?_) hss (by rw [List.length_append]; show _ + 1 + _ ≤ _; omega) (by omega) g2 _ _ fun f M3 a b c => ?_))
  · refine evL_2 (x := .int k) rfl rfl (evL_2 (x := .ol ((ps ++ [nx]).map .str)) (ev_bin (x := pd ps) (y := .ol [.str nx]) rfl rfl (show opBin .add (pd ps) (.lst [.str nx]) = _ from pd_snoc (by omega))) rfl (evL_2 (x := pd ss) rfl rfl (evL_1 rfl rfl)))
  · rcases List.mem_append.mp hy with hy | hy
    · exact hps y hy
    · rw [List.mem_singleton.mp hy]; exact hxn
  show wpSs T _ _ _ (sg p k ps ss lv nm (some (.int kd)) (some (.tup [.int (lv - 1 : Nat), .int (nm - 1 : Nat)])) (some (.str nx)) (some (.tup (encP f))) none none none) M3
  by_cases hb7 : kd = 10
  · refine st_ifT pure0 ((evT_eqn (c := 10) (k := kd) rfl).trans (by rw [decide_eq_true hb7])) ?_
    refine i_asg (i_bin (w_ev (d := .int (2 : Nat)) rfl (w_pickM (n := n + 2) (m := 2) c (by omega) rfl (fun _ => rfl) (by decide) fun z M4 hz g4 => ?_)))
    refine ⟨.int (2 + z : Nat), rfl, ?_⟩
    show wpSs T _ _ _ (sg p k ps ss lv nm (some (.int kd)) (some (.tup [.int (lv - 1 : Nat), .int (nm - 1 : Nat)])) (some (.str nx)) (some (.tup (encP f))) none none (some (.int (2 + z : Nat)))) M4
    refine i_ret (i_tup (L_ev (d := .str kRest) rfl rfl (L_ev (d := .int (2 + z : Nat)) rfl rfl (i_L (w_pickM (n := n + 2) (m := 2 + z) g4 (by omega) rfl (fun _ => rfl) (by omega) fun y M5 hy g5 => ?_)))))
    refine frz_of (fun i z => nomatch z) rfl ?_
    refine L_ev (d := .str nx) rfl rfl (L_ev (d := .tup (encP f)) rfl rfl (L_nil ?_))
    exact ⟨by show 5 ≤ 16777216; decide, gc.here (q (.cnt (2 + z) y nx f) M5 ⟨⟨by omega, hy, hxn⟩, a⟩ (by show htP f + 1 ≤ m + 1; omega) g5)⟩
  refine st_ifF pure0 ((evT_eqn (c := 10) (k := kd) rfl).trans (by rw [decide_eq_false hb7])) ?_
  obtain ⟨al, hal⟩ : ∃ al : Bool, opIdx (.tup [.str [115, 111, 109, 101], .str [97, 108, 108]]) (.int (kd % 2 : Nat)) = some (.str (kSA al)) := by
    have : kd % 2 = 0 ∨ kd % 2 = 1 := by omega
    rcases this with e | e
    · rw [e]; exact ⟨false, rfl⟩
    · rw [e]; exact ⟨true, rfl⟩
  refine st_ret (d := .tup (encP (.bnd al false nx f))) (d' := .tup (encP (.bnd al false nx f))) pure0 ?_ rfl (gc.here (q (.bnd al false nx f) M3 ⟨hxn, a⟩ (by show htP f + 1 ≤ m + 1; omega) c))
  refine ev_tup (evL_2 (x := .str (kSA al)) (ev_idx (x := .tup [.str [115, 111, 109, 101], .str [97, 108, 108]]) (y := .int (kd % 2 : Nat)) rfl (ev_bin (x := .int kd) (y := .int 2) rfl rfl (show opBin .mod (.int kd) (.int 2) = _ by rw [mod_ok (by decide)]; rfl)) hal) (by show some (D.str (kSA al)) = some (D.str (kSA al ++ [])); rw [List.append_nil]) rfl) (by show 3 ≤ 16777216; decide)
end
end Pv.G

namespace Pv.G
open PySem PySem.Spec PyProof.Rows L2 Pv
section
variable {n k : Nat} {p : PySem.Addr} {σ : St} {M : Mem} {Φ : Phi}
theorem evT_inI {i x : Nat} {l : List Int} {e : CE} {b : Bool} (h : σ[i]? = some (some (.int x))) (he : ev T Φ e σ M = some (.tup (l.map .int))) (hb : decide ((x : Int) ∈ l) = b) : evT T Φ (.val (.cmp .isIn (.var i) e)) σ M = some b :=
  evT_bl (ev_cmp (x := .int x) (y := .tup (l.map .int)) (ev_var h rfl) he (by show opIn (.int x) (.tup (l.map .int)) = _; rw [in_ints, hb]))
theorem ev_modc {i x c : Nat} (h : σ[i]? = some (some (.int x))) (hc : 0 < c) : ev T Φ (.bin .mod (.var i) (.con (.int c))) σ M = some (.int (x % c : Nat)) := ev_bin (x := .int x) (y := .int c) (ev_var h rfl) rfl (by show opBin .mod (.int x) (.int c) = _; rw [mod_ok (by omega)]; rfl)
/-- a letter drawn -/
theorem ev_ltr {i x j c : Nat} (h : σ[i]? = some (some (.int x))) (hj : σ[j]? = some (some (.int k))) (hk : 1 ≤ k ∧ k ≤ 3) (hc : 0 < c) (hc2 : c < 100) : ∃ a, ev T Φ (.idx (.con (.str [97, 98, 99])) (.bin .mod (.bin .fdiv (.var i) (.con (.int c))) (.var j))) σ M = some (.str [a]) ∧ a ∈ abc.take k := by
  obtain ⟨a, h1, h2⟩ := abc_get hk.2 (Nat.mod_lt (x / c) hk.1)
  refine ⟨a, ev_idx (x := .str abc) (y := .int (x / c % k : Nat)) rfl (ev_bin (x := .int (x / c : Nat)) (y := .int k) (ev_bin (x := .int x) (y := .int c) (ev_var h rfl) rfl ?_) (ev_var hj rfl) ?_) h1, h2⟩
  · show opBin .fdiv (.int x) (.int c) = _
    rw [fdiv_ok (by omega) (by omega)]; rfl
  · show opBin .mod (.int (x / c : Nat)) (.int k) = _
    rw [mod_ok (by omega)]; rfl
theorem ev_intB {e : CE} {b : Bool} (h : ev T Φ e σ M = some (.bl b)) : ev T Φ (.bc .int [e]) σ M = some (.int (if b = true then 1 else 0)) := by
  show (((ev T Φ e σ M).bind fun x => (some []).map fun xs => pk x :: xs).bind _) = _
  rw [h]; rfl
theorem c_mom (hk : 1 ≤ k ∧ k ≤ 3) : ∀ (lv n : Nat) (M : Mem), lv + 2 ≤ n → Pk M p → ∀ (Q : D → Mem → Prop) (E : Exn → Mem → Prop), (∀ (f : Mo) M', okM (abc.take k) f → htM f ≤ lv + 1 → Pk M' p → Q (.tup (encM f)) M') → Gam T n 43 [.ref p, .int k, .int lv, .bl true] M Q E := by
  intro lv
  induction lv using Nat.strongRecOn with
  | ind lv ih =>
  intro n M hn hM Q E q
  obtain ⟨n, rfl⟩ : ∃ i, n = i + 2 := ⟨n - 2, by omega⟩
  refine ⟨d__law_moment, rfl, rfl, ?_⟩
  show wpSs T (Gam T (n + 1)) b__law_moment _ [some (.ref p), some (.int k), some (.int lv), some (.bl true), none, none, none, none] M
  unfold b__law_moment
  refine i_asg (w_pickM (n := n + 1) (m := 14) hM (by omega) rfl (fun _ => rfl) (by decide) fun kd M1 hkd g1 => ?_)
  show wpSs T _ _ _ [some (.ref p), some (.int k), some (.int lv), some (.bl true), some (.int kd), none, none, none] M1
  have t1 : evT T (fun _ _ _ => none) (.or (.val (.cmp .eq (.var 2) (.con (.int 0)))) (.val (.cmp .lt (.var 4) (.con (.int 2))))) [some (.ref p), some (.int k), some (.int lv), some (.bl true), some (.int kd), none, none, none] M1 = some (decide (lv = 0) || decide (kd < 2)) := evT_orB (evT_eqn (c := 0) rfl) (evT_lt (c := 2) rfl)
  by_cases hb1 : lv = 0 ∨ kd < 2
  · refine st_ifT pure0 (t1.trans (by rw [← Bool.decide_or, decide_eq_true hb1])) ?_
    refine i_asg (w_pick (n := n + 1) g1 (by omega) rfl fun x M2 g2 => ?_)
    show wpSs T _ _ _ [some (.ref p), some (.int k), some (.int lv), some (.bl true), some (.int kd), none, none, some (.int x)] M2
    obtain ⟨c, hc1, hc2⟩ := ev_ltr (Φ := fun _ _ _ => none) (M := M2) (σ := [some (.ref p), some (.int k), some (.int lv), some (.bl true), some (.int kd), none, none, some (.int x)]) (i := 7) (j := 1) (c := 8) rfl rfl hk (by decide) (by decide)
    have e1 : ev T (fun _ _ _ => none) (.lst [(.tup [(.con (.str [108, 101, 116, 116, 101, 114])), (.idx (.con (.str [97, 98, 99])) (.bin .mod (.bin .fdiv (.var 7) (.con (.int 8))) (.var 1)))]), (.tup [(.con (.str [101, 110, 100]))])]) [some (.ref p), some (.int k), some (.int lv), some (.bl true), some (.int kd), none, none, some (.int x)] M2 = some (.ol [.tup (encM (.ltr c)), .tup (encM .fin)]) :=
      ev_lst (evL_2 (ev_tup (evL_2 rfl rfl (evL_1 hc1 rfl)) (by show 2 ≤ 16777216; decide)) rfl (evL_1 rfl rfl)) (by show 2 ≤ 16777216; decide)
    have e2 : ev T (fun _ _ _ => none) (.bc .int [(.cmp .eq (.bin .mod (.var 7) (.con (.int 8))) (.con (.int 0)))]) [some (.ref p), some (.int k), some (.int lv), some (.bl true), some (.int kd), none, none, some (.int x)] M2 = some (.int (if decide (((x % 8 : Nat) : Int) = 0) = true then 1 else 0)) :=
      ev_intB (ev_cmp (x := .int (x % 8 : Nat)) (y := .int 0) (ev_modc (c := 8) rfl (by decide)) rfl (eqIB _ _))
    cases hz : decide (((x % 8 : Nat) : Int) = 0) with
    | true =>
      rw [hz] at e2
      exact st_ret (d := .tup (encM .fin)) (d' := .tup (encM .fin)) pure0 (ev_idx e1 e2 rfl) rfl (gc.here (q .fin M2 trivial (by show 1 ≤ _; omega) g2))
    | false =>
      rw [hz] at e2
      exact st_ret (d := .tup (encM (.ltr c))) (d' := .tup (encM (.ltr c))) pure0 (ev_idx e1 e2 rfl) rfl (gc.here (q (.ltr c) M2 hc2 (by show 1 ≤ _; omega) g2))
  refine st_ifF pure0 (t1.trans (by rw [← Bool.decide_or, decide_eq_false hb1])) ?_
  have hl : 0 < lv := by omega
  have rec1 : ∀ (M' : Mem), Pk M' p → ∀ (Q' : D → Mem → Prop) (E' : Exn → Mem → Prop), (∀ (f : Mo) M', okM (abc.take k) f → htM f ≤ lv → Pk M' p → Q' (.tup (encM f)) M') → Gam T (n + 1) 43 [.ref p, .int k, .int ((lv : Int) - 1), .bl true] M' Q' E' := fun M' hM' Q' E' q' => by
    rw [subn hl]
    exact ih (lv - 1) (by omega) (n + 1) M' (by omega) hM' Q' E' fun f M'' a b c => q' f M'' a (by omega) c
  have hun : ∀ u : Fin 7, evT T (fun _ _ _ => none) (.val (.cmp .isIn (.var 4) (.tup [(.con (.int 2)), (.con (.int 6)), (.con (.int 7)), (.con (.int 8)), (.con (.int 10)), (.con (.int 12)), (.con (.int 13))]))) [some (.ref p), some (.int k), some (.int lv), some (.bl true), some (.int kd), none, none, none] M1 = some true → ev T (fun _ _ _ => none) (.idx (.dsp [(.con (.int 2)), (.con (.str [110, 111, 116])), (.con (.int 6)), (.con (.str [110, 101, 120, 116])), (.con (.int 7)), (.con (.str [115, 111, 111, 110])), (.con (.int 8)), (.con (.str [101, 118, 101, 114])), (.con (.int 10)), (.con (.str [98, 97, 99, 107])), (.con (.int 12)), (.con (.str [111, 110, 99, 101])), (.con (.int 13)), (.con (.str [115, 116, 105, 108, 108]))]) (.var 4)) [some (.ref p), some (.int k), some (.int lv), some (.bl true), some (.int kd), none, none, none] M1 = some (.str (kUn u)) → wpSs T (Gam T (n + 1)) (b__law_moment.drop 2) { nx := fun _ M' => gc Q .non M', rt := gc Q, ex := fun x _ M' => E x M' } [some (.ref p), some (.int k), some (.int lv), some (.bl true), some (.int kd), none, none, none] M1 := fun u h1 h2 => by
    unfold b__law_moment
    dsimp only [List.drop]
    refine st_ifT pure0 h1 ?_
    refine st_asg pure0 h2 rfl ?_
    show wpSs T _ _ _ [some (.ref p), some (.int k), some (.int lv), some (.bl true), some (.int kd), some (.str (kUn u)), none, none] M1
    refine i_ret (i_tup (L_ev (d := .str (kUn u)) rfl rfl (i_L (w_callP (ds := [.int k, .int ((lv : Int) - 1), .bl true]) rfl rfl rfl (rec1 M1 g1 _ _ fun f M2 a b c => ?_)))))
    exact ⟨by show 2 ≤ 16777216; decide, gc.here (q (.una u f) M2 a (by show htM f + 1 ≤ _; omega) c)⟩
  have hbi : ∀ (o : Mo → Mo → Mo) (kw : It), (∀ f g, encM (o f g) = [.str kw, .tup (encM f), .tup (encM g)]) → (∀ f g, okM (abc.take k) f → okM (abc.take k) g → okM (abc.take k) (o f g)) → (∀ f g, htM (o f g) = max (htM f) (htM g) + 1) →
      evT T (fun _ _ _ => none) (.val (.cmp .isIn (.var 4) (.tup [(.con (.int 2)), (.con (.int 6)), (.con (.int 7)), (.con (.int 8)), (.con (.int 10)), (.con (.int 12)), (.con (.int 13))]))) [some (.ref p), some (.int k), some (.int lv), some (.bl true), some (.int kd), none, none, none] M1 = some false → ev T (fun _ _ _ => none) (.idx (.dsp [(.con (.int 3)), (.con (.str [97, 110, 100])), (.con (.int 4)), (.con (.str [111, 114])), (.con (.int 5)), (.con (.str [117, 110, 116, 105, 108])), (.con (.int 9)), (.con (.str [117, 110, 116, 105, 108])), (.con (.int 11)), (.con (.str [115, 105, 110, 99, 101]))]) (.var 4)) [some (.ref p), some (.int k), some (.int lv), some (.bl true), some (.int kd), none, none, none] M1 = some (.str kw) → wpSs T (Gam T (n + 1)) (b__law_moment.drop 2) { nx := fun _ M' => gc Q .non M', rt := gc Q, ex := fun x _ M' => E x M' } [some (.ref p), some (.int k), some (.int lv), some (.bl true), some (.int kd), none, none, none] M1 := fun o kw ho1 ho2 ho3 h1 h2 => by
    unfold b__law_moment
    dsimp only [List.drop]
    refine st_ifF pure0 h1 ?_
    refine st_asg pure0 h2 rfl ?_
    show wpSs T _ _ _ [some (.ref p), some (.int k), some (.int lv), some (.bl true), some (.int kd), some (.str kw), none, none] M1
    refine i_asg (w_callP (ds := [.int k, .int ((lv : Int) - 1), .bl true]) rfl rfl rfl (rec1 M1 g1 _ _ fun f M2 a b c => ?_))
    show wpSs T _ _ _ [some (.ref p), some (.int k), some (.int lv), some (.bl true), some (.int kd), some (.str kw), some (.tup (encM f)), none] M2
    refine i_ret (i_tup (L_ev (d := .str kw) rfl rfl (L_ev (d := .tup (encM f)) rfl rfl (i_L (w_callP (ds := [.int k, .int ((lv : Int) - 1), .bl true]) rfl rfl rfl (rec1 M2 c _ _ fun g M3 a' b' c' => ?_))))))
    refine ⟨by show 3 ≤ 16777216; decide, gc.here ?_⟩
    have := q (o f g) M3 (ho2 f g a a') (by rw [ho3]; omega) c'
    rw [ho1] at this
    exact this
  have hc : kd = 2 ∨ kd = 3 ∨ kd = 4 ∨ kd = 5 ∨ kd = 6 ∨ kd = 7 ∨ kd = 8 ∨ kd = 9 ∨ kd = 10 ∨ kd = 11 ∨ kd = 12 ∨ kd = 13 := by omega
  rcases hc with rfl | rfl | rfl | rfl | rfl | rfl | rfl | rfl | rfl | rfl | rfl | rfl
  · exact hun 0 (evT_inI (l := [2, 6, 7, 8, 10, 12, 13]) rfl rfl rfl) rfl
  · exact hbi .and kAnd (fun _ _ => rfl) (fun _ _ a b => ⟨a, b⟩) (fun _ _ => rfl) (evT_inI (l := [2, 6, 7, 8, 10, 12, 13]) rfl rfl rfl) rfl
  · exact hbi .or kOr (fun _ _ => rfl) (fun _ _ a b => ⟨a, b⟩) (fun _ _ => rfl) (evT_inI (l := [2, 6, 7, 8, 10, 12, 13]) rfl rfl rfl) rfl
  · exact hbi (.unt false) kUntil (fun _ _ => rfl) (fun _ _ a b => ⟨a, b⟩) (fun _ _ => rfl) (evT_inI (l := [2, 6, 7, 8, 10, 12, 13]) rfl rfl rfl) rfl
  · exact hun 1 (evT_inI (l := [2, 6, 7, 8, 10, 12, 13]) rfl rfl rfl) rfl
  · exact hun 2 (evT_inI (l := [2, 6, 7, 8, 10, 12, 13]) rfl rfl rfl) rfl
  · exact hun 3 (evT_inI (l := [2, 6, 7, 8, 10, 12, 13]) rfl rfl rfl) rfl
  · exact hbi (.unt false) kUntil (fun _ _ => rfl) (fun _ _ a b => ⟨a, b⟩) (fun _ _ => rfl) (evT_inI (l := [2, 6, 7, 8, 10, 12, 13]) rfl rfl rfl) rfl
  · exact hun 4 (evT_inI (l := [2, 6, 7, 8, 10, 12, 13]) rfl rfl rfl) rfl
  · exact hbi (.unt true) kSince (fun _ _ => rfl) (fun _ _ a b => ⟨a, b⟩) (fun _ _ => rfl) (evT_inI (l := [2, 6, 7, 8, 10, 12, 13]) rfl rfl rfl) rfl
  · exact hun 5 (evT_inI (l := [2, 6, 7, 8, 10, 12, 13]) rfl rfl rfl) rfl
  · exact hun 6 (evT_inI (l := [2, 6, 7, 8, 10, 12, 13]) rfl rfl rfl) rfl
/-! expressions -/
def kds : List It := [kJoin, kOr, kAnd, kNot, kRepeat, kJoin, kOr]
theorem c_exp (hk : 1 ≤ k ∧ k ≤ 3) : ∀ (lv n : Nat) (M : Mem), lv + 2 ≤ n → Pk M p → ∀ (Q : D → Mem → Prop) (E : Exn → Mem → Prop), (∀ (f : Ex) M', okE (abc.take k) f → htE f ≤ lv + 1 → Pk M' p → Q (.tup (encE f)) M') → Gam T n 44 [.ref p, .int k, .int lv, .tup (kds.map .str)] M Q E := by
  intro lv
  induction lv using Nat.strongRecOn with
  | ind lv ih =>
  intro n M hn hM Q E q
  obtain ⟨n, rfl⟩ : ∃ i, n = i + 2 := ⟨n - 2, by omega⟩
  refine ⟨d__law_expression, rfl, rfl, ?_⟩
  show wpSs T (Gam T (n + 1)) b__law_expression _ [some (.ref p), some (.int k), some (.int lv), some (.tup (kds.map .str)), none, none, none, none] M
  unfold b__law_expression
  refine i_asg (w_pickM (n := n + 1) (m := 9) hM (by omega) rfl (fun _ => rfl) (by decide) fun kd M1 hkd g1 => ?_)
  show wpSs T _ _ _ [some (.ref p), some (.int k), some (.int lv), some (.tup (kds.map .str)), some (.int kd), none, none, none] M1
  have t1 : evT T (fun _ _ _ => none) (.or (.val (.cmp .eq (.var 2) (.con (.int 0)))) (.val (.cmp .lt (.var 4) (.con (.int 2))))) [some (.ref p), some (.int k), some (.int lv), some (.tup (kds.map .str)), some (.int kd), none, none, none] M1 = some (decide (lv = 0) || decide (kd < 2)) := evT_orB (evT_eqn (c := 0) rfl) (evT_lt (c := 2) rfl)
  by_cases hb1 : lv = 0 ∨ kd < 2
  · refine st_ifT pure0 (t1.trans (by rw [← Bool.decide_or, decide_eq_true hb1])) ?_
    refine i_asg (w_pick (n := n + 1) g1 (by omega) rfl fun x M2 g2 => ?_)
    show wpSs T _ _ _ [some (.ref p), some (.int k), some (.int lv), some (.tup (kds.map .str)), some (.int kd), none, none, some (.int x)] M2
    obtain ⟨c, hc1, hc2⟩ := ev_ltr (Φ := fun _ _ _ => none) (M := M2) (σ := [some (.ref p), some (.int k), some (.int lv), some (.tup (kds.map .str)), some (.int kd), none, none, some (.int x)]) (i := 7) (j := 1) (c := 9) rfl rfl hk (by decide) (by decide)
    have e1 : ev T (fun _ _ _ => none) (.lst [(.tup [(.con (.str [108, 101, 116, 116, 101, 114])), (.idx (.con (.str [97, 98, 99])) (.bin .mod (.bin .fdiv (.var 7) (.con (.int 9))) (.var 1)))]), (.tup [(.con (.str [101, 109, 112, 116, 121]))]), (.tup [(.con (.str [110, 111, 110, 101]))])]) [some (.ref p), some (.int k), some (.int lv), some (.tup (kds.map .str)), some (.int kd), none, none, some (.int x)] M2 = some (.ol [.tup (encE (.ltr c)), .tup (encE (.emp false)), .tup (encE (.emp true))]) :=
      ev_lst (evL_2 (ev_tup (evL_2 rfl rfl (evL_1 hc1 rfl)) (by show 2 ≤ 16777216; decide)) rfl rfl) (by show 3 ≤ 16777216; decide)
    have eg : ∀ c : Nat, ev T (fun _ _ _ => none) (.bc .int [(.cmp .gt (.bin .mod (.var 7) (.con (.int 9))) (.con (.int c)))]) [some (.ref p), some (.int k), some (.int lv), some (.tup (kds.map .str)), some (.int kd), none, none, some (.int x)] M2 = some (.int (if decide (c < x % 9) = true then 1 else 0)) := fun c =>
      ev_intB (ev_cmp (x := .int (x % 9 : Nat)) (y := .int c) (ev_modc (c := 9) rfl (by decide)) rfl (by
        show some (decide ((c : Int) < ((x % 9 : Nat) : Int))) = _
        congr 1
        exact decide_eq_decide.mpr (by omega)))
    have e2 : ev T (fun _ _ _ => none) (.bin .add (.bc .int [(.cmp .gt (.bin .mod (.var 7) (.con (.int 9))) (.con (.int 6)))]) (.bc .int [(.cmp .gt (.bin .mod (.var 7) (.con (.int 9))) (.con (.int 7)))])) [some (.ref p), some (.int k), some (.int lv), some (.tup (kds.map .str)), some (.int kd), none, none, some (.int x)] M2 = some (.int ((if decide (6 < x % 9) = true then 1 else 0) + (if decide (7 < x % 9) = true then 1 else 0))) := ev_bin (eg 6) (eg 7) rfl
    by_cases h6 : 6 < x % 9
    · by_cases h7 : 7 < x % 9
      · rw [decide_eq_true h6, decide_eq_true h7] at e2
        exact st_ret (d := .tup (encE (.emp true))) (d' := .tup (encE (.emp true))) pure0 (ev_idx e1 e2 rfl) rfl (gc.here (q (.emp true) M2 trivial (by show 1 ≤ _; omega) g2))
      · rw [decide_eq_true h6, decide_eq_false h7] at e2
        exact st_ret (d := .tup (encE (.emp false))) (d' := .tup (encE (.emp false))) pure0 (ev_idx e1 e2 rfl) rfl (gc.here (q (.emp false) M2 trivial (by show 1 ≤ _; omega) g2))
    · rw [decide_eq_false h6, decide_eq_false (by omega)] at e2
      exact st_ret (d := .tup (encE (.ltr c))) (d' := .tup (encE (.ltr c))) pure0 (ev_idx e1 e2 rfl) rfl (gc.here (q (.ltr c) M2 hc2 (by show 1 ≤ _; omega) g2))
  refine st_ifF pure0 (t1.trans (by rw [← Bool.decide_or, decide_eq_false hb1])) ?_
  have hl : 0 < lv := by omega
  have rec1 : ∀ (M' : Mem), Pk M' p → ∀ (Q' : D → Mem → Prop) (E' : Exn → Mem → Prop), (∀ (f : Ex) M', okE (abc.take k) f → htE f ≤ lv → Pk M' p → Q' (.tup (encE f)) M') → Gam T (n + 1) 44 [.ref p, .int k, .int ((lv : Int) - 1), .tup (kds.map .str)] M' Q' E' := fun M' hM' Q' E' q' => by
    rw [subn hl]
    exact ih (lv - 1) (by omega) (n + 1) M' (by omega) hM' Q' E' fun f M'' a b c => q' f M'' a (by omega) c
  refine i_asg (i_idx (w_var (d := .tup (kds.map .str)) rfl rfl (w_pickM (n := n + 1) (m := 7) g1 (by omega) rfl (fun _ => rfl) (by decide) fun y M2 hy g2 => ?_)))
  have fin1 : ∀ (kw : It) (o : Ex → Ex), (∀ f, encE (o f) = [.str kw, .tup (encE f)]) → (∀ f, okE (abc.take k) f → okE (abc.take k) (o f)) → (∀ f, htE (o f) = htE f + 1) → decide (kw ∈ [kNot, kRepeat]) = true →
      wpSs T (Gam T (n + 1)) (b__law_expression.drop 3) { nx := fun _ M' => gc Q .non M', rt := gc Q, ex := fun x _ M' => E x M' } [some (.ref p), some (.int k), some (.int lv), some (.tup (kds.map .str)), some (.int kd), some (.str kw), none, none] M2 := fun kw o ho1 ho2 ho3 hd => by
    unfold b__law_expression
    dsimp only [List.drop]
    refine i_asg (w_callP (ds := [.int k, .int ((lv : Int) - 1), .tup (kds.map .str)]) rfl rfl rfl (rec1 M2 g2 _ _ fun f M3 a b c => ?_))
    show wpSs T _ _ _ [some (.ref p), some (.int k), some (.int lv), some (.tup (kds.map .str)), some (.int kd), some (.str kw), some (.tup (encE f)), none] M3
    refine st_ifT pure0 (evT_in (t := kw) (l := [kNot, kRepeat]) rfl rfl hd) ?_
    refine st_ret (d := .tup [.str kw, .tup (encE f)]) (d' := .tup [.str kw, .tup (encE f)]) pure0 rfl rfl (gc.here ?_)
    have := q (o f) M3 (ho2 f a) (by rw [ho3]; omega) c
    rw [ho1] at this
    exact this
  have fin2 : ∀ (kw : It) (o : Ex → Ex → Ex), (∀ f g, encE (o f g) = [.str kw, .tup (encE f), .tup (encE g)]) → (∀ f g, okE (abc.take k) f → okE (abc.take k) g → okE (abc.take k) (o f g)) → (∀ f g, htE (o f g) = max (htE f) (htE g) + 1) → decide (kw ∈ [kNot, kRepeat]) = false →
      wpSs T (Gam T (n + 1)) (b__law_expression.drop 3) { nx := fun _ M' => gc Q .non M', rt := gc Q, ex := fun x _ M' => E x M' } [some (.ref p), some (.int k), some (.int lv), some (.tup (kds.map .str)), some (.int kd), some (.str kw), none, none] M2 := fun kw o ho1 ho2 ho3 hd => by
    unfold b__law_expression
    dsimp only [List.drop]
    refine i_asg (w_callP (ds := [.int k, .int ((lv : Int) - 1), .tup (kds.map .str)]) rfl rfl rfl (rec1 M2 g2 _ _ fun f M3 a b c => ?_))
    show wpSs T _ _ _ [some (.ref p), some (.int k), some (.int lv), some (.tup (kds.map .str)), some (.int kd), some (.str kw), some (.tup (encE f)), none] M3
    refine st_ifF pure0 (evT_in (t := kw) (l := [kNot, kRepeat]) rfl rfl hd) ?_
    refine i_ret (i_tup (L_ev (d := .str kw) rfl rfl (L_ev (d := .tup (encE f)) rfl rfl (i_L (w_callP (ds := [.int k, .int ((lv : Int) - 1), .tup (kds.map .str)]) rfl rfl rfl (rec1 M3 c _ _ fun g M4 a' b' c' => ?_))))))
    refine ⟨by show 3 ≤ 16777216; decide, gc.here ?_⟩
    have := q (o f g) M4 (ho2 f g a a') (by rw [ho3]; omega) c'
    rw [ho1] at this
    exact this
  match y, hy with
  | 0, _ => exact ⟨_, rfl, fin2 kJoin .join (fun _ _ => rfl) (fun _ _ a b => ⟨a, b⟩) (fun _ _ => rfl) rfl⟩
  | 1, _ => exact ⟨_, rfl, fin2 kOr .or (fun _ _ => rfl) (fun _ _ a b => ⟨a, b⟩) (fun _ _ => rfl) rfl⟩
  | 2, _ => exact ⟨_, rfl, fin2 kAnd .and (fun _ _ => rfl) (fun _ _ a b => ⟨a, b⟩) (fun _ _ => rfl) rfl⟩
  | 3, _ => exact ⟨_, rfl, fin1 kNot .neg (fun _ => rfl) (fun _ a => a) (fun _ => rfl) rfl⟩
  | 4, _ => exact ⟨_, rfl, fin1 kRepeat .rep (fun _ => rfl) (fun _ a => a) (fun _ => rfl) rfl⟩
  | 5, _ => exact ⟨_, rfl, fin2 kJoin .join (fun _ _ => rfl) (fun _ _ a b => ⟨a, b⟩) (fun _ _ => rfl) rfl⟩
  | 6, _ => exact ⟨_, rfl, fin2 kOr .or (fun _ _ => rfl) (fun _ _ a b => ⟨a, b⟩) (fun _ _ => rfl) rfl⟩
end
end Pv.G

namespace Pv.G
open PySem PySem.Spec PyProof.Rows L2 Pv
/-! ### lengths -/
theorem par_len {b : Bool} {l : List It} : (par b l).flatten.length ≤ l.flatten.length + 2 := by
  rw [fl_parT]
  cases b with
  | true => show (40 :: (l.flatten ++ [41])).length ≤ _; simp only [List.length_cons, List.length_append, List.length_nil]; omega
  | false => show l.flatten.length ≤ _; omega
def Bd (h : Nat) : Nat := 40 * 2 ^ h
theorem Bd_succ (h : Nat) : Bd (h + 1) = 2 * Bd h := by unfold Bd; rw [Nat.pow_succ]; omega
theorem Bd_le {a b : Nat} (h : a ≤ b) : Bd a ≤ Bd b := Nat.mul_le_mul_left _ (Nat.pow_le_pow_right (by decide) h)
theorem Bd_pos (h : Nat) : 40 ≤ Bd h := by have := Bd_le (Nat.zero_le h); exact this
theorem x_len {x : It} (h : x ∈ plN) : x.length ≤ 2 := (by decide : ∀ x ∈ plN, x.length ≤ 2) x h
theorem bs_len {s : Bool} {x : It} (h : if s then x = [88] else x ∈ plN) : x.length ≤ 2 := by
  cases s with
  | true => have h : x = [88] := h; subst h; decide
  | false => exact x_len h
theorem lenP {L : It} : ∀ (f : Pl) (w : Nat), okP L f → (itP f w).flatten.length + 20 ≤ Bd (htP f)
  | .thn b f g, w, h => by
    have h : okP L f ∧ okP L g := h
    have a1 := lenP f 1 h.1
    have a2 := lenP g 0 h.2
    have m1 := Bd_le (Nat.le_max_left (htP f) (htP g))
    have m2 := Bd_le (Nat.le_max_right (htP f) (htP g))
    have e := Bd_succ (max (htP f) (htP g))
    have p := par_len (b := decide (0 < w)) (l := itP f 1 ++ (sp :: kTB b :: sp :: itP g 0))
    have hb : (kTB b).length = 4 := by cases b <;> rfl
    show (par (decide (0 < w)) (itP f 1 ++ (sp :: kTB b :: sp :: itP g 0))).flatten.length + 20 ≤ Bd (max (htP f) (htP g) + 1)
    simp only [List.flatten_append, List.flatten_cons, List.length_append, hb, List.length_cons, List.length_nil] at p
    omega
  | .or f g, w, h => by
    have h : okP L f ∧ okP L g := h
    have a1 := lenP f 1 h.1
    have a2 := lenP g 2 h.2
    have m1 := Bd_le (Nat.le_max_left (htP f) (htP g))
    have m2 := Bd_le (Nat.le_max_right (htP f) (htP g))
    have e := Bd_succ (max (htP f) (htP g))
    have p := par_len (b := decide (1 < w)) (l := itP f 1 ++ (sp :: kOr :: sp :: itP g 2))
    show (par (decide (1 < w)) (itP f 1 ++ (sp :: kOr :: sp :: itP g 2))).flatten.length + 20 ≤ Bd (max (htP f) (htP g) + 1)
    simp only [List.flatten_append, List.flatten_cons, List.length_append, List.length_cons, List.length_nil] at p
    omega
  | .and f g, w, h => by
    have h : okP L f ∧ okP L g := h
    have a1 := lenP f 2 h.1
    have a2 := lenP g 3 h.2
    have m1 := Bd_le (Nat.le_max_left (htP f) (htP g))
    have m2 := Bd_le (Nat.le_max_right (htP f) (htP g))
    have e := Bd_succ (max (htP f) (htP g))
    have p := par_len (b := decide (2 < w)) (l := itP f 2 ++ (sp :: kAnd :: sp :: itP g 3))
    show (par (decide (2 < w)) (itP f 2 ++ (sp :: kAnd :: sp :: itP g 3))).flatten.length + 20 ≤ Bd (max (htP f) (htP g) + 1)
    simp only [List.flatten_append, List.flatten_cons, List.length_append, List.length_cons, List.length_nil] at p
    omega
  | .neg f, w, h => by
    have a1 := lenP f 3 h
    have e := Bd_succ (htP f)
    have hp := Bd_pos (htP f)
    have p := par_len (b := decide (3 < w)) (l := kNot :: sp :: itP f 3)
    show (par (decide (3 < w)) (kNot :: sp :: itP f 3)).flatten.length + 20 ≤ Bd (htP f + 1)
    simp only [List.flatten_cons, List.length_append, List.length_cons, List.length_nil] at p
    omega
  | .bnd a s x f, w, h => by
    have h : (if s then x = [88] else x ∈ plN) ∧ okP L f := h
    have a1 := lenP f 0 h.2
    have e := Bd_succ (htP f)
    have hp := Bd_pos (htP f)
    have hx := bs_len h.1
    have ha : (kSA a).length ≤ 4 := by cases a <;> decide
    have p := par_len (b := decide (0 < w)) (l := kSA a :: sp :: x :: sp :: [46] :: sp :: itP f 0)
    show (par (decide (0 < w)) (kSA a :: sp :: x :: sp :: [46] :: sp :: itP f 0)).flatten.length + 20 ≤ Bd (htP f + 1)
    simp only [List.flatten_cons, List.length_append, List.length_cons, List.length_nil] at p
    omega
  | .cnt d l x f, w, h => by
    have h : ((d = 2 ∨ d = 3) ∧ l < d ∧ x ∈ plN) ∧ okP L f := h
    have a1 := lenP f 0 h.2
    have e := Bd_succ (htP f)
    have hp := Bd_pos (htP f)
    have hx := x_len h.1.2.2
    have p := par_len (b := decide (0 < w)) (l := kRest :: sp :: [48 + d] :: sp :: [48 + l] :: sp :: x :: sp :: [46] :: sp :: itP f 0)
    show (par (decide (0 < w)) (kRest :: sp :: [48 + d] :: sp :: [48 + l] :: sp :: x :: sp :: [46] :: sp :: itP f 0)).flatten.length + 20 ≤ Bd (htP f + 1)
    simp only [List.flatten_cons, List.length_append, List.length_cons, List.length_nil] at p
    omega
  | .ltr c x, w, h => by
    have h : c ∈ L ∧ x ∈ plN := h
    have hx := x_len h.2
    show ([[c], [40], x, [41]] : List It).flatten.length + 20 ≤ 80
    simp only [List.flatten_cons, List.flatten_nil, List.length_append, List.length_cons, List.length_nil]
    omega
  | .rel r x y, w, h => by
    have h : x ∈ plN ∧ y ∈ plN := h
    have hx := x_len h.1
    have hy := x_len h.2
    have hr : (sRel r).length = 1 := (by decide : ∀ r : Fin 3, (sRel r).length = 1) r
    show ([x, sp, sRel r, sp, y] : List It).flatten.length + 20 ≤ 80
    simp only [List.flatten_cons, List.flatten_nil, List.length_append, List.length_cons, List.length_nil, hr]
    omega
  | .wit x s, w, h => by
    have h : x ∈ plN ∧ s = [88] := h
    have hx := x_len h.1
    obtain ⟨_, rfl⟩ := h
    show ([x, sp, kIn, sp, [88]] : List It).flatten.length + 20 ≤ 80
    simp only [List.flatten_cons, List.flatten_nil, List.length_append, List.length_cons, List.length_nil]
    omega
theorem lenM : ∀ (f : Mo) (w : Nat), (itM f w).flatten.length + 20 ≤ Bd (htM f)
  | .or f g, w => by
    have a1 := lenM f 1
    have a2 := lenM g 2
    have m1 := Bd_le (Nat.le_max_left (htM f) (htM g))
    have m2 := Bd_le (Nat.le_max_right (htM f) (htM g))
    have e := Bd_succ (max (htM f) (htM g))
    have p := par_len (b := decide (1 < w)) (l := itM f 1 ++ (sp :: kOr :: sp :: itM g 2))
    show (par (decide (1 < w)) (itM f 1 ++ (sp :: kOr :: sp :: itM g 2))).flatten.length + 20 ≤ Bd (max (htM f) (htM g) + 1)
    simp only [List.flatten_append, List.flatten_cons, List.length_append, List.length_cons, List.length_nil] at p
    omega
  | .and f g, w => by
    have a1 := lenM f 2
    have a2 := lenM g 3
    have m1 := Bd_le (Nat.le_max_left (htM f) (htM g))
    have m2 := Bd_le (Nat.le_max_right (htM f) (htM g))
    have e := Bd_succ (max (htM f) (htM g))
    have p := par_len (b := decide (2 < w)) (l := itM f 2 ++ (sp :: kAnd :: sp :: itM g 3))
    show (par (decide (2 < w)) (itM f 2 ++ (sp :: kAnd :: sp :: itM g 3))).flatten.length + 20 ≤ Bd (max (htM f) (htM g) + 1)
    simp only [List.flatten_append, List.flatten_cons, List.length_append, List.length_cons, List.length_nil] at p
    omega
  | .unt s f g, w => by
    have a1 := lenM f 4
    have a2 := lenM g 3
    have m1 := Bd_le (Nat.le_max_left (htM f) (htM g))
    have m2 := Bd_le (Nat.le_max_right (htM f) (htM g))
    have e := Bd_succ (max (htM f) (htM g))
    have hs : (kUS s).length = 5 := by cases s <;> rfl
    have p := par_len (b := decide (3 < w)) (l := itM f 4 ++ (sp :: kUS s :: sp :: itM g 3))
    show (par (decide (3 < w)) (itM f 4 ++ (sp :: kUS s :: sp :: itM g 3))).flatten.length + 20 ≤ Bd (max (htM f) (htM g) + 1)
    simp only [List.flatten_append, List.flatten_cons, List.length_append, List.length_cons, List.length_nil, hs] at p
    omega
  | .una u f, w => by
    have a1 := lenM f 4
    have e := Bd_succ (htM f)
    have hp := Bd_pos (htM f)
    have hu : (kUn u).length ≤ 5 := (by decide : ∀ u : Fin 7, (kUn u).length ≤ 5) u
    have p := par_len (b := decide (4 < w)) (l := kUn u :: sp :: itM f 4)
    show (par (decide (4 < w)) (kUn u :: sp :: itM f 4)).flatten.length + 20 ≤ Bd (htM f + 1)
    simp only [List.flatten_cons, List.length_append, List.length_cons, List.length_nil] at p
    omega
  | .ltr c, w => by show (1 + 20 ≤ 80); decide
  | .fin, w => by show (3 + 20 ≤ 80); decide
theorem lenE : ∀ (f : Ex) (w : Nat), (itE f w).flatten.length + 20 ≤ Bd (htE f)
  | .or f g, w => by
    have a1 := lenE f 1
    have a2 := lenE g 2
    have m1 := Bd_le (Nat.le_max_left (htE f) (htE g))
    have m2 := Bd_le (Nat.le_max_right (htE f) (htE g))
    have e := Bd_succ (max (htE f) (htE g))
    have p := par_len (b := decide (1 < w)) (l := itE f 1 ++ (sp :: [124] :: sp :: itE g 2))
    show (par (decide (1 < w)) (itE f 1 ++ (sp :: [124] :: sp :: itE g 2))).flatten.length + 20 ≤ Bd (max (htE f) (htE g) + 1)
    simp only [List.flatten_append, List.flatten_cons, List.length_append, List.length_cons, List.length_nil] at p
    omega
  | .and f g, w => by
    have a1 := lenE f 2
    have a2 := lenE g 3
    have m1 := Bd_le (Nat.le_max_left (htE f) (htE g))
    have m2 := Bd_le (Nat.le_max_right (htE f) (htE g))
    have e := Bd_succ (max (htE f) (htE g))
    have p := par_len (b := decide (2 < w)) (l := itE f 2 ++ (sp :: [38] :: sp :: itE g 3))
    show (par (decide (2 < w)) (itE f 2 ++ (sp :: [38] :: sp :: itE g 3))).flatten.length + 20 ≤ Bd (max (htE f) (htE g) + 1)
    simp only [List.flatten_append, List.flatten_cons, List.length_append, List.length_cons, List.length_nil] at p
    omega
  | .join f g, w => by
    have a1 := lenE f 3
    have a2 := lenE g 4
    have m1 := Bd_le (Nat.le_max_left (htE f) (htE g))
    have m2 := Bd_le (Nat.le_max_right (htE f) (htE g))
    have e := Bd_succ (max (htE f) (htE g))
    have p := par_len (b := decide (3 < w)) (l := itE f 3 ++ (sp :: itE g 4))
    show (par (decide (3 < w)) (itE f 3 ++ (sp :: itE g 4))).flatten.length + 20 ≤ Bd (max (htE f) (htE g) + 1)
    simp only [List.flatten_append, List.flatten_cons, List.length_append, List.length_cons, List.length_nil] at p
    omega
  | .neg f, w => by
    have a1 := lenE f 4
    have e := Bd_succ (htE f)
    have hp := Bd_pos (htE f)
    have p := par_len (b := decide (4 < w)) (l := [126] :: sp :: itE f 4)
    show (par (decide (4 < w)) ([126] :: sp :: itE f 4)).flatten.length + 20 ≤ Bd (htE f + 1)
    simp only [List.flatten_cons, List.length_append, List.length_cons, List.length_nil] at p
    omega
  | .rep f, w => by
    have a1 := lenE f 5
    have e := Bd_succ (htE f)
    have hp := Bd_pos (htE f)
    have p := par_len (b := decide (5 < w)) (l := itE f 5 ++ [[42]])
    show (par (decide (5 < w)) (itE f 5 ++ [[42]])).flatten.length + 20 ≤ Bd (htE f + 1)
    simp only [List.flatten_append, List.flatten_cons, List.flatten_nil, List.length_append, List.length_cons, List.length_nil] at p
    omega
  | .ltr c, w => by show (1 + 20 ≤ 80); decide
  | .emp b, w => by
    have hb : (kEN b).length ≤ 5 := by cases b <;> decide
    show [kEN b].flatten.length + 20 ≤ 80
    simp only [List.flatten_cons, List.flatten_nil, List.length_append, List.length_nil]
    omega
/-! ### all of it is plain data -/
theorem smD_tup {n : Nat} {xs : List D} (h : ∀ x ∈ xs, smD n x = true) (hl : xs.length ≤ 100) : smD (n + 1) (.tup xs) = true := by
  show (xs.all (smD n) && decide (xs.length ≤ SZ)) = true
  rw [Bool.and_eq_true, List.all_eq_true, decide_eq_true_iff]
  exact ⟨h, by show _ ≤ 16777216; omega⟩
theorem smD_str {n : Nat} {x : It} (h : asc x = true) : smD (n + 1) (.str x) = true := h
theorem smD_c3 {n : Nat} {a b c : D} (h1 : smD n a = true) (h2 : smD n b = true) (h3 : smD n c = true) : smD (n + 1) (.tup [a, b, c]) = true := smD_tup (by
  intro x hx
  simp only [List.mem_cons, List.not_mem_nil, or_false] at hx
  rcases hx with rfl | rfl | rfl <;> assumption) (by show 3 ≤ 100; decide)
theorem smD_c2 {n : Nat} {a b : D} (h1 : smD n a = true) (h2 : smD n b = true) : smD (n + 1) (.tup [a, b]) = true := smD_tup (by
  intro x hx
  simp only [List.mem_cons, List.not_mem_nil, or_false] at hx
  rcases hx with rfl | rfl <;> assumption) (by show 2 ≤ 100; decide)
theorem asc_bs {s : Bool} {x : It} (h : if s then x = [88] else x ∈ plN) : asc x = true := by
  cases s with
  | true => have h : x = [88] := h; subst h; rfl
  | false => exact (pl_facts h).2.1
theorem asc_l {L : It} {c : Nat} (hL : isAl L) (h : c ∈ L) : asc [c] = true := by
  rcases al_letter hL h with rfl | rfl | rfl <;> rfl
theorem smP {L : It} (hL : isAl L) : ∀ (f : Pl) (n : Nat), okP L f → htP f + 1 ≤ n → smD n (.tup (encP f)) = true
  | .thn b f g, n, h, hn => by
    have h : okP L f ∧ okP L g := h
    have hn : max (htP f) (htP g) + 1 + 1 ≤ n := hn
    obtain ⟨n, rfl⟩ : ∃ m, n = m + 2 := ⟨n - 2, by omega⟩
    exact smD_c3 (smD_str (by cases b <;> rfl)) (smP hL f _ h.1 (by omega)) (smP hL g _ h.2 (by omega))
  | .or f g, n, h, hn => by
    have h : okP L f ∧ okP L g := h
    have hn : max (htP f) (htP g) + 1 + 1 ≤ n := hn
    obtain ⟨n, rfl⟩ : ∃ m, n = m + 2 := ⟨n - 2, by omega⟩
    exact smD_c3 (smD_str rfl) (smP hL f _ h.1 (by omega)) (smP hL g _ h.2 (by omega))
  | .and f g, n, h, hn => by
    have h : okP L f ∧ okP L g := h
    have hn : max (htP f) (htP g) + 1 + 1 ≤ n := hn
    obtain ⟨n, rfl⟩ : ∃ m, n = m + 2 := ⟨n - 2, by omega⟩
    exact smD_c3 (smD_str rfl) (smP hL f _ h.1 (by omega)) (smP hL g _ h.2 (by omega))
  | .neg f, n, h, hn => by
    have hn : htP f + 1 + 1 ≤ n := hn
    obtain ⟨n, rfl⟩ : ∃ m, n = m + 2 := ⟨n - 2, by omega⟩
    exact smD_c2 (smD_str rfl) (smP hL f _ h (by omega))
  | .bnd a s x f, n, h, hn => by
    have h : (if s then x = [88] else x ∈ plN) ∧ okP L f := h
    have hn : htP f + 1 + 1 ≤ n := hn
    obtain ⟨n, rfl⟩ : ∃ m, n = m + 2 := ⟨n - 2, by omega⟩
    exact smD_c3 (smD_str (by cases a <;> cases s <;> rfl)) (smD_str (asc_bs h.1)) (smP hL f _ h.2 (by omega))
  | .cnt d l x f, n, h, hn => by
    have h : ((d = 2 ∨ d = 3) ∧ l < d ∧ x ∈ plN) ∧ okP L f := h
    have hn : htP f + 1 + 1 ≤ n := hn
    obtain ⟨n, rfl⟩ : ∃ m, n = m + 2 := ⟨n - 2, by omega⟩
    have h1 := smP hL f (n + 1) h.2 (by omega)
    have h2 : smD (n + 1) (.str x) = true := smD_str (pl_facts h.1.2.2).2.1
    refine smD_tup (fun y hy => ?_) (by show 5 ≤ 100; decide)
    have hy : y ∈ [D.str kRest, .int d, .int l, .str x, .tup (encP f)] := hy
    simp only [List.mem_cons, List.not_mem_nil, or_false] at hy
    rcases hy with rfl | rfl | rfl | rfl | rfl
    · rfl
    · rfl
    · rfl
    · exact h2
    · exact h1
  | .ltr c x, n, h, hn => by
    have h : c ∈ L ∧ x ∈ plN := h
    have hn : 1 + 1 ≤ n := hn
    obtain ⟨n, rfl⟩ : ∃ m, n = m + 2 := ⟨n - 2, by omega⟩
    exact smD_c3 (smD_str rfl) (smD_str (asc_l hL h.1)) (smD_str (pl_facts h.2).2.1)
  | .rel r x y, n, h, hn => by
    have h : x ∈ plN ∧ y ∈ plN := h
    have hn : 1 + 1 ≤ n := hn
    obtain ⟨n, rfl⟩ : ∃ m, n = m + 2 := ⟨n - 2, by omega⟩
    exact smD_c3 (smD_str ((by decide : ∀ r : Fin 3, asc (kRel r) = true) r)) (smD_str (pl_facts h.1).2.1) (smD_str (pl_facts h.2).2.1)
  | .wit x s, n, h, hn => by
    have h : x ∈ plN ∧ s = [88] := h
    have hn : 1 + 1 ≤ n := hn
    obtain ⟨n, rfl⟩ : ∃ m, n = m + 2 := ⟨n - 2, by omega⟩
    obtain ⟨h1, rfl⟩ := h
    exact smD_c3 (smD_str rfl) (smD_str (pl_facts h1).2.1) (smD_str rfl)
theorem smM {L : It} (hL : isAl L) : ∀ (f : Mo) (n : Nat), okM L f → htM f + 1 ≤ n → smD n (.tup (encM f)) = true
  | .or f g, n, h, hn => by
    have h : okM L f ∧ okM L g := h
    have hn : max (htM f) (htM g) + 1 + 1 ≤ n := hn
    obtain ⟨n, rfl⟩ : ∃ m, n = m + 2 := ⟨n - 2, by omega⟩
    exact smD_c3 (smD_str rfl) (smM hL f _ h.1 (by omega)) (smM hL g _ h.2 (by omega))
  | .and f g, n, h, hn => by
    have h : okM L f ∧ okM L g := h
    have hn : max (htM f) (htM g) + 1 + 1 ≤ n := hn
    obtain ⟨n, rfl⟩ : ∃ m, n = m + 2 := ⟨n - 2, by omega⟩
    exact smD_c3 (smD_str rfl) (smM hL f _ h.1 (by omega)) (smM hL g _ h.2 (by omega))
  | .unt s f g, n, h, hn => by
    have h : okM L f ∧ okM L g := h
    have hn : max (htM f) (htM g) + 1 + 1 ≤ n := hn
    obtain ⟨n, rfl⟩ : ∃ m, n = m + 2 := ⟨n - 2, by omega⟩
    exact smD_c3 (smD_str (by cases s <;> rfl)) (smM hL f _ h.1 (by omega)) (smM hL g _ h.2 (by omega))
  | .una u f, n, h, hn => by
    have hn : htM f + 1 + 1 ≤ n := hn
    obtain ⟨n, rfl⟩ : ∃ m, n = m + 2 := ⟨n - 2, by omega⟩
    exact smD_c2 (smD_str ((by decide : ∀ u : Fin 7, asc (kUn u) = true) u)) (smM hL f _ h (by omega))
  | .ltr c, n, h, hn => by
    have hn : 1 + 1 ≤ n := hn
    obtain ⟨n, rfl⟩ : ∃ m, n = m + 2 := ⟨n - 2, by omega⟩
    exact smD_c2 (smD_str rfl) (smD_str (asc_l hL h))
  | .fin, n, h, hn => by
    have hn : 1 + 1 ≤ n := hn
    obtain ⟨n, rfl⟩ : ∃ m, n = m + 2 := ⟨n - 2, by omega⟩
    rfl
theorem smE {L : It} (hL : isAl L) : ∀ (f : Ex) (n : Nat), okE L f → htE f + 1 ≤ n → smD n (.tup (encE f)) = true
  | .or f g, n, h, hn => by
    have h : okE L f ∧ okE L g := h
    have hn : max (htE f) (htE g) + 1 + 1 ≤ n := hn
    obtain ⟨n, rfl⟩ : ∃ m, n = m + 2 := ⟨n - 2, by omega⟩
    exact smD_c3 (smD_str rfl) (smE hL f _ h.1 (by omega)) (smE hL g _ h.2 (by omega))
  | .and f g, n, h, hn => by
    have h : okE L f ∧ okE L g := h
    have hn : max (htE f) (htE g) + 1 + 1 ≤ n := hn
    obtain ⟨n, rfl⟩ : ∃ m, n = m + 2 := ⟨n - 2, by omega⟩
    exact smD_c3 (smD_str rfl) (smE hL f _ h.1 (by omega)) (smE hL g _ h.2 (by omega))
  | .join f g, n, h, hn => by
    have h : okE L f ∧ okE L g := h
    have hn : max (htE f) (htE g) + 1 + 1 ≤ n := hn
    obtain ⟨n, rfl⟩ : ∃ m, n = m + 2 := ⟨n - 2, by omega⟩
    exact smD_c3 (smD_str rfl) (smE hL f _ h.1 (by omega)) (smE hL g _ h.2 (by omega))
  | .neg f, n, h, hn => by
    have hn : htE f + 1 + 1 ≤ n := hn
    obtain ⟨n, rfl⟩ : ∃ m, n = m + 2 := ⟨n - 2, by omega⟩
    exact smD_c2 (smD_str rfl) (smE hL f _ h (by omega))
  | .rep f, n, h, hn => by
    have hn : htE f + 1 + 1 ≤ n := hn
    obtain ⟨n, rfl⟩ : ∃ m, n = m + 2 := ⟨n - 2, by omega⟩
    exact smD_c2 (smD_str rfl) (smE hL f _ h (by omega))
  | .ltr c, n, h, hn => by
    have hn : 1 + 1 ≤ n := hn
    obtain ⟨n, rfl⟩ : ∃ m, n = m + 2 := ⟨n - 2, by omega⟩
    exact smD_c2 (smD_str rfl) (smD_str (asc_l hL h))
  | .emp b, n, h, hn => by
    have hn : 1 + 1 ≤ n := hn
    obtain ⟨n, rfl⟩ : ∃ m, n = m + 2 := ⟨n - 2, by omega⟩
    cases b <;> rfl
end Pv.G

namespace Pv.G
open PySem PySem.Spec PyProof.Rows L2 Pv
/-! ### tokens and texts -/
theorem replL_sp (x : List Nat) : replL x [32] [] = x.filter (· != 32) := by
  have := PyProof.Rows.replace_strikes (strOf x) 32
  rw [strOf_cps] at this
  exact this
theorem joinL_nil : ∀ l : List It, joinL [] l = l.flatten
  | [] => rfl
  | [x] => by show x = [x].flatten; simp
  | x :: y :: r => by
    show x ++ [] ++ joinL [] (y :: r) = _
    rw [joinL_nil (y :: r), List.append_nil]; rfl
theorem no32 {x : It} (h : okI x = true) (hn : nsp x = true) : x.filter (· != 32) = x := by
  refine List.filter_eq_self.mpr fun c hc => ?_
  rcases ok_of h with rfl | h | h
  · exact absurd hn (by decide)
  · obtain ⟨d, rfl, hd⟩ := sg_of h
    rw [List.mem_singleton] at hc
    subst hc
    exact bne_iff_ne.mpr (sg_lt hd).2.2
  · exact bne_iff_ne.mpr (w_lt (List.all_eq_true.mp (wd_of h).2.1 c hc)).2
theorem strip : ∀ {its : List It}, (∀ x ∈ its, okI x = true) → its.flatten.filter (· != 32) = (its.filter nsp).flatten
  | [], _ => rfl
  | x :: r, h => by
    rw [List.flatten_cons, List.filter_append, strip fun y hy => h y (List.mem_cons_of_mem _ hy), List.filter_cons]
    cases hn : nsp x with
    | true => rw [no32 (h x (List.mem_cons_self ..)) hn]; rfl
    | false =>
      have : x = [32] := of_decide_eq_true (by unfold nsp at hn; simpa using hn)
      subst this; rfl
theorem toks_at : ∀ {its : List It} {b : Nat} {x : It} {a : Nat}, (x, a) ∈ toks b its → ∃ pre post, its.flatten = pre ++ x ++ post ∧ a = b + pre.length
  | [], b, x, a, h => nomatch h
  | y :: r, b, x, a, h => by
    have h : (x, a) ∈ (if y = [32] then toks (b + 1) r else (y, b) :: toks (b + y.length) r) := h
    by_cases hy : y = [32]
    · rw [if_pos hy] at h
      obtain ⟨pre, post, h1, h2⟩ := toks_at h
      refine ⟨y ++ pre, post, by rw [List.flatten_cons, h1]; simp, ?_⟩
      rw [List.length_append, hy, h2]
      show b + 1 + _ = b + (1 + _)
      omega
    · rw [if_neg hy] at h
      rcases List.mem_cons.mp h with e | h
      · cases e
        exact ⟨[], r.flatten, rfl, rfl⟩
      · obtain ⟨pre, post, h1, h2⟩ := toks_at h
        refine ⟨y ++ pre, post, by rw [List.flatten_cons, h1]; simp, ?_⟩
        rw [List.length_append, h2]; omega
/-- with two blanks between -/
def wideI : List It → List It
  | [] => []
  | [x] => [x]
  | x :: y :: r => x :: sp :: sp :: wideI (y :: r)
theorem wide_flat : ∀ l : List It, (wideI l).flatten = joinL [32, 32] l
  | [] => rfl
  | [x] => by show [x].flatten = x; simp
  | x :: y :: r => by
    show (x :: sp :: sp :: wideI (y :: r)).flatten = x ++ [32, 32] ++ joinL [32, 32] (y :: r)
    rw [List.flatten_cons, List.flatten_cons, List.flatten_cons, wide_flat (y :: r)]
    simp
theorem wide_fl : ∀ {l : List It}, (∀ x ∈ l, nsp x = true) → (wideI l).filter nsp = l
  | [], _ => rfl
  | [x], h => by
    show [x].filter nsp = [x]
    rw [fl_c (h x (List.mem_cons_self ..))]; rfl
  | x :: y :: r, h => by
    show (x :: sp :: sp :: wideI (y :: r)).filter nsp = _
    rw [fl_c (h x (List.mem_cons_self ..)), fl_sp, fl_sp, wide_fl fun z hz => h z (List.mem_cons_of_mem _ hz)]
theorem wide_adj : ∀ {l : List It}, (∀ x ∈ l, okI x = true) → adj (wideI l) = true
  | [], _ => rfl
  | [x], h => h x (List.mem_cons_self ..)
  | x :: y :: r, h => adj_w (h x (List.mem_cons_self ..)) (adj_sp (wide_adj fun z hz => h z (List.mem_cons_of_mem _ hz)))
theorem joinL_len : ∀ l : List It, (joinL [32, 32] l).length ≤ l.flatten.length + 2 * l.length
  | [] => Nat.le_refl _
  | [x] => by show x.length ≤ [x].flatten.length + 2; simp
  | x :: y :: r => by
    have := joinL_len (y :: r)
    show (x ++ [32, 32] ++ joinL [32, 32] (y :: r)).length ≤ _
    simp only [List.length_append, List.length_cons, List.length_nil, List.flatten_cons] at this ⊢
    omega
theorem fl_len : ∀ {its : List It}, (its.filter nsp).flatten.length ≤ its.flatten.length
  | [] => Nat.le_refl _
  | x :: r => by
    have := fl_len (its := r)
    rw [List.filter_cons]
    split
    · rw [List.flatten_cons, List.flatten_cons, List.length_append, List.length_append]; omega
    · rw [List.flatten_cons, List.length_append]; omega
theorem adj_snocS {l : List It} {c : Nat} (h : adj l = true) (hc : isSg [c] = true) (hw : isWd [c] = false) : adj (l ++ [[c]]) = true := adj_app h (by show okI [c] = true; unfold okI; rw [hc]; simp) (nw_sg hw)
/-! ### one kind of sentence, as the law sees it -/
structure Snt (k : Nat) (kw : It) (ds : List D) (its : List It) : Prop where
  al : isAl (abc.take k)
  kas : asc kw = true
  adj : adj its = true
  len : its.flatten.length ≤ 2600
  sm : smD 12 (.tup ds) = true
  print : ∀ M Q E, Q (.str its.flatten) M → Gam T 112 45 [.tup ds, .str kw] M Q E
  writ : ∀ M Q E, Q (.str its.flatten) M → Gam T 112 51 [.str kw, .tup ds] M Q E
  read : ∀ its' : List It, G.adj its' = true → its'.flatten.length ≤ 100000 → (its'.filter nsp = its.filter nsp ∨ its'.filter nsp = inPar (its.filter nsp) ∨ its'.filter nsp = inPar (inPar (its.filter nsp))) → ∀ M Q E, (∀ M', Q (.tup ds) M') → Gam T 112 50 [.str kw, .int k, .str its'.flatten] M Q E
abbrev kPlaces : It := [112, 108, 97, 99, 101, 115]
abbrev kMoments : It := [109, 111, 109, 101, 110, 116, 115]
abbrev kExpr : It := [101, 120, 112, 114, 101, 115, 115, 105, 111, 110]
theorem al_k {k : Nat} (hk : 1 ≤ k ∧ k ≤ 3) : isAl (abc.take k) := by
  have : k = 1 ∨ k = 2 ∨ k = 3 := by omega
  rcases this with rfl | rfl | rfl
  · exact .inl rfl
  · exact .inr (.inl rfl)
  · exact .inr (.inr rfl)
theorem snt_P {k : Nat} (hk : 1 ≤ k ∧ k ≤ 3) {f : Pl} (h : okP (abc.take k) f) (hh : htP f ≤ 6) : Snt k kPlaces (encP f) (itP f 0) := by
  have hL := al_k hk
  have hlen : (itP f 0).flatten.length ≤ 2600 := by
    have h1 := lenP f 0 h
    have h2 := Bd_le hh
    have h3 : Bd 6 = 2560 := rfl
    omega
  have R := rp f hL h
  have hN : NP (htP f) ≤ 70 := by unfold NP; omega
  have p0 : Ps 11 70 (abc.take k) (tkP f 0) (encP f) U0 := R.p0.mono hN fun _ z => z
  refine ⟨hL, rfl, adjP hL f 0 h, hlen, smP hL f 12 h (by omega), fun M Q E q => ?_, fun M Q E q => ?_, fun its' ha hl hx M Q E q => ?_⟩
  · refine ⟨d__law_print, rfl, rfl, ?_⟩
    show wpSs T (Gam T 111) b__law_print _ [some (.tup (encP f)), some (.str kPlaces)] M
    unfold b__law_print
    refine st_ifT pure0 (evT_eq (t := kPlaces) rfl rfl rfl rfl) ?_
    exact i_ret (w_call (ds := [.tup (encP f), .int (0 : Nat)]) rfl (tlp f 111 0 ⟨_, hL, h⟩ (by omega) (by omega) M _ _ (gc.here q)))
  · refine ⟨d__law_written, rfl, rfl, ?_⟩
    show wpSs T (Gam T 111) b__law_written _ [some (.str kPlaces), some (.tup (encP f))] M
    unfold b__law_written
    refine st_ifT pure0 (evT_eq (t := kPlaces) rfl rfl rfl rfl) ?_
    exact i_ret (w_call (ds := [.tup (encP f)]) rfl (tp f 111 ⟨_, hL, h⟩ (by omega) (by omega) M _ _ (gc.here q)))
  · refine ⟨d__law_read, rfl, rfl, ?_⟩
    show wpSs T (Gam T 111) b__law_read _ [some (.str kPlaces), some (.int k), some (.str its'.flatten)] M
    unfold b__law_read
    refine st_ifT pure0 (evT_eq (t := kPlaces) rfl rfl rfl rfl) ?_
    refine i_ret (w_call (ds := [.int k, .str its'.flatten]) rfl ?_)
    rw [flP hL f 0 h] at hx
    rcases hx with hx | hx | hx
    · exact c_read (F := 10) (G := 11) rfl p0 hk.2 ha hl hx (by omega) (by omega) fun M' => gc.here (q M')
    · exact c_read (F := 10) (G := 11) rfl (ppar (by omega) p0) hk.2 ha hl hx (by omega) (by omega) fun M' => gc.here (q M')
    · exact c_read (F := 10) (G := 11) rfl (ppar (by omega) (ppar (by omega) p0)) hk.2 ha hl hx (by omega) (by omega) fun M' => gc.here (q M')
theorem snt_M {k : Nat} (hk : 1 ≤ k ∧ k ≤ 3) {f : Mo} (h : okM (abc.take k) f) (hh : htM f ≤ 6) : Snt k kMoments (encM f) (itM f 0) := by
  have hL := al_k hk
  have hlen : (itM f 0).flatten.length ≤ 2600 := by
    have h1 := lenM f 0
    have h2 := Bd_le hh
    have h3 : Bd 6 = 2560 := rfl
    omega
  have R := rm f hL h
  have hN : NM (htM f) ≤ 70 := by unfold NM; omega
  have p0 : Ps 19 70 (abc.take k) (tkM f 0) (encM f) U0 := R.p0.mono hN fun _ z => z
  refine ⟨hL, rfl, adjM hL f 0 h, hlen, smM hL f 12 h (by omega), fun M Q E q => ?_, fun M Q E q => ?_, fun its' ha hl hx M Q E q => ?_⟩
  · refine ⟨d__law_print, rfl, rfl, ?_⟩
    show wpSs T (Gam T 111) b__law_print _ [some (.tup (encM f)), some (.str kMoments)] M
    unfold b__law_print
    refine st_ifF pure0 (evT_eq (t := kMoments) rfl rfl rfl rfl) ?_
    refine st_ifT pure0 (evT_eq (t := kMoments) rfl rfl rfl rfl) ?_
    exact i_ret (w_call (ds := [.tup (encM f), .int (0 : Nat)]) rfl (tlm f 111 0 (by omega) (by omega) M _ _ (gc.here q)))
  · refine ⟨d__law_written, rfl, rfl, ?_⟩
    show wpSs T (Gam T 111) b__law_written _ [some (.str kMoments), some (.tup (encM f))] M
    unfold b__law_written
    refine st_ifF pure0 (evT_eq (t := kMoments) rfl rfl rfl rfl) ?_
    refine st_ifT pure0 (evT_eq (t := kMoments) rfl rfl rfl rfl) ?_
    exact i_ret (w_call (ds := [.tup (encM f)]) rfl (tm f 111 (by omega) (by omega) M _ _ (gc.here q)))
  · refine ⟨d__law_read, rfl, rfl, ?_⟩
    show wpSs T (Gam T 111) b__law_read _ [some (.str kMoments), some (.int k), some (.str its'.flatten)] M
    unfold b__law_read
    refine st_ifF pure0 (evT_eq (t := kMoments) rfl rfl rfl rfl) ?_
    refine st_ifT pure0 (evT_eq (t := kMoments) rfl rfl rfl rfl) ?_
    refine i_ret (w_call (ds := [.int k, .str its'.flatten]) rfl ?_)
    rw [flM hL f 0 h] at hx
    rcases hx with hx | hx | hx
    · exact c_read (F := 18) (G := 19) rfl p0 hk.2 ha hl hx (by omega) (by omega) fun M' => gc.here (q M')
    · exact c_read (F := 18) (G := 19) rfl (mpar (by omega) p0) hk.2 ha hl hx (by omega) (by omega) fun M' => gc.here (q M')
    · exact c_read (F := 18) (G := 19) rfl (mpar (by omega) (mpar (by omega) p0)) hk.2 ha hl hx (by omega) (by omega) fun M' => gc.here (q M')
theorem snt_E {k : Nat} (hk : 1 ≤ k ∧ k ≤ 3) {f : Ex} (h : okE (abc.take k) f) (hh : htE f ≤ 6) : Snt k kExpr (encE f) (itE f 0) := by
  have hL := al_k hk
  have hlen : (itE f 0).flatten.length ≤ 2600 := by
    have h1 := lenE f 0
    have h2 := Bd_le hh
    have h3 : Bd 6 = 2560 := rfl
    omega
  have R := re f hL h
  have hN : NE (htE f) ≤ 70 := by unfold NE; omega
  have p0 : Ps 24 70 (abc.take k) (tkE f 0) (encE f) U0 := R.p0.mono hN fun _ z => z
  refine ⟨hL, rfl, adjE hL f 0 h, hlen, smE hL f 12 h (by omega), fun M Q E q => ?_, fun M Q E q => ?_, fun its' ha hl hx M Q E q => ?_⟩
  · refine ⟨d__law_print, rfl, rfl, ?_⟩
    show wpSs T (Gam T 111) b__law_print _ [some (.tup (encE f)), some (.str kExpr)] M
    unfold b__law_print
    refine st_ifF pure0 (evT_eq (t := kExpr) rfl rfl rfl rfl) ?_
    refine st_ifF pure0 (evT_eq (t := kExpr) rfl rfl rfl rfl) ?_
    exact i_ret (w_call (ds := [.tup (encE f), .int (0 : Nat)]) rfl (tle f 111 0 (by omega) (by omega) (by omega) M _ _ (gc.here q)))
  · refine ⟨d__law_written, rfl, rfl, ?_⟩
    show wpSs T (Gam T 111) b__law_written _ [some (.str kExpr), some (.tup (encE f))] M
    unfold b__law_written
    refine st_ifF pure0 (evT_eq (t := kExpr) rfl rfl rfl rfl) ?_
    refine st_ifF pure0 (evT_eq (t := kExpr) rfl rfl rfl rfl) ?_
    exact i_ret (w_call (ds := [.tup (encE f)]) rfl (te f 111 (by omega) (by omega) M _ _ (gc.here q)))
  · refine ⟨d__law_read, rfl, rfl, ?_⟩
    show wpSs T (Gam T 111) b__law_read _ [some (.str kExpr), some (.int k), some (.str its'.flatten)] M
    unfold b__law_read
    refine st_ifF pure0 (evT_eq (t := kExpr) rfl rfl rfl rfl) ?_
    refine st_ifF pure0 (evT_eq (t := kExpr) rfl rfl rfl rfl) ?_
    refine i_ret (w_call (ds := [.int k, .str its'.flatten]) rfl ?_)
    rw [flE hL f 0 h] at hx
    rcases hx with hx | hx | hx
    · exact c_read (F := 23) (G := 24) rfl p0 hk.2 ha hl hx (by omega) (by omega) fun M' => gc.here (q M')
    · exact c_read (F := 23) (G := 24) rfl (epar hL (by omega) p0) hk.2 ha hl hx (by omega) (by omega) fun M' => gc.here (q M')
    · exact c_read (F := 23) (G := 24) rfl (epar hL (by omega) (epar hL (by omega) p0)) hk.2 ha hl hx (by omega) (by omega) fun M' => gc.here (q M')
end Pv.G

namespace Pv.G
open PySem PySem.Spec PyProof.Rows L2 Pv
/-- the loop over the three kinds -/
def lpS : List CS := [.asg 7 (.call 45 [] [(.var 6), (.var 5)]), .ifS (.or (.not (.val (.call 36 [] [(.call 51 [] [(.var 5), (.var 6)]), (.var 7)]))) (.not (.val (.call 36 [] [(.call 50 [] [(.var 5), (.var 2), (.var 7)]), (.var 6)])))) [.ret (.con (.bl false))] [], .asg 8 (.call 9 [] [(.var 7)]), .ifS (.jnr [] (.lc (.var 11) (.t [11, 12]) (.var 8) []) (.var 7) [32] []) [.ret (.con (.bl false))] [], .for_ (.t [11, 12]) (.var 8) [.ifS (.val (.cmp .ne (.slc (.var 7) (some (.var 12)) (some (.bin .add (.var 12) (.bc .len [(.var 11)])))) (.var 11))) [.ret (.con (.bl false))] []], .asg 9 (.bm .join (.con (.str [32, 32])) [(.lc (.var 11) (.t [11, 12]) (.var 8) [])]), .for_ (.n 10) (.lst [(.var 9), (.bin .add (.bin .add (.con (.str [32])) (.var 7)) (.con (.str [32]))), (.bin .add (.bin .add (.con (.str [40, 40])) (.var 7)) (.con (.str [41, 41]))), (.bin .add (.bin .add (.con (.str [40, 32])) (.var 9)) (.con (.str [32, 41])))]) [.ifS (.not (.val (.call 36 [] [(.call 50 [] [(.var 5), (.var 2), (.var 10)]), (.var 6)]))) [.ret (.con (.bl false))] []]]
def nO : Option D → Prop
  | some (.ol _) => False
  | some (.od _) => False
  | _ => True
def lS (s0 s1 : D) (k : Nat) (s3 s4 : D) (x5 x6 x7 x8 x9 x10 x11 x12 : Option D) : St := [some s0, some s1, some (.int k), some s3, some s4, x5, x6, x7, x8, x9, x10, x11, x12]
theorem noOwn_of {s0 s1 s3 s4 : D} {k : Nat} {x5 x6 x7 x8 x9 x10 x11 x12 : Option D} (h1 : nO x11) (h2 : nO x12) : noOwn (lS s0 s1 k s3 s4 x5 x6 x7 x8 x9 x10 x11 x12) [11, 12] = true := by
  have e1 : (match some x11 with
    | some (some (D.ol _)) => false
    | some (some (.od _)) => false
    | some _ => true
    | none => false) = true := by
    unfold nO at h1
    split at h1 <;> first | exact h1.elim | skip
    split <;> first | rfl | simp_all
  have e2 : (match some x12 with
    | some (some (D.ol _)) => false
    | some (some (.od _)) => false
    | some _ => true
    | none => false) = true := by
    unfold nO at h2
    split at h2 <;> first | exact h2.elim | skip
    split <;> first | rfl | simp_all
  show ((match some x11 with
    | some (some (D.ol _)) => false
    | some (some (.od _)) => false
    | some _ => true
    | none => false) && ((match some x12 with
    | some (some (D.ol _)) => false
    | some (some (.od _)) => false
    | some _ => true
    | none => false) && true)) = true
  rw [e1, e2]; rfl
theorem i_jnr {T : Tab} {Γ : FSem} {E : Kx} {σ : St} {M : Mem} {e o : CE} {s y z : List Nat} {Q : Kb} (h : wpE T Γ E e σ M fun x σ M => ∃ xs ys, vw σ M (pk x) = .lst xs ∧ xs.mapM strOf? = some ys ∧ (ys.map (·.length)).sum + ys.length * s.length ≤ SZ ∧ wpE T Γ E o σ M fun w σ M => ∃ t, w = .str t ∧ y ≠ z ∧ t.length + (t.length + 1) * z.length ≤ SZ ∧
      Q (!decide (joinL s ys = replL t y z)) σ M) : wpT T Γ E (.jnr s e o y z) σ M Q := h
theorem sum_len : ∀ l : List It, (l.map (·.length)).sum = l.flatten.length
  | [] => rfl
  | x :: r => by
    rw [List.map_cons, List.sum_cons, List.flatten_cons, List.length_append, sum_len r]
theorem its_len {l : List It} (h : ∀ x ∈ l, x ≠ []) : l.length ≤ l.flatten.length := flat_len h
/-- the texts of the tokens -/
theorem ev_tks {its : List It} {s0 s1 s3 s4 : D} {k : Nat} {x5 x6 x7 x9 x10 x11 x12 : Option D} {d8 : D} {M : Mem} (h1 : nO x11) (h2 : nO x12) (h8 : d8 = .ol ((toks 0 its).map encT) ∨ d8 = .lst ((toks 0 its).map encT)) :
    ev T (fun _ _ _ => none) (.lc (.var 11) (.t [11, 12]) (.var 8) []) (lS s0 s1 k s3 s4 x5 x6 x7 (some d8) x9 x10 x11 x12) M = some (.ol ((its.filter nsp).map .str)) := by
  have e : ((its.filter nsp).map D.str) = (toks 0 its).map fun p => D.str p.1 := by
    show ((its.filter fun x => !decide (x = [32])).map D.str) = _
    rw [← toks_fst its 0, List.map_map]; rfl
  rw [e]
  rcases h8 with rfl | rfl
  · exact ev_lcM (l := toks 0 its) encT (fun p => D.str p.1) (d := .slot 8) (ev_slot rfl rfl) rfl (noOwn_of h1 h2) rfl fun a ha => ⟨_, _, rfl, rfl, rfl⟩
  · exact ev_lcM (l := toks 0 its) encT (fun p => D.str p.1) (d := .lst ((toks 0 its).map encT)) (ev_var rfl rfl) rfl (noOwn_of h1 h2) rfl fun a ha => ⟨_, _, rfl, rfl, rfl⟩
theorem okNe {its : List It} (h : adj its = true) : ∀ x ∈ its, x ≠ [] := fun x hx => ok_ne (adj_ok h x hx)
theorem fl_okI {its : List It} (h : adj its = true) : ∀ x ∈ its.filter nsp, okI x = true := fun x hx => adj_ok h x (List.mem_filter.mp hx).1
theorem fl_nsp {its : List It} : ∀ x ∈ its.filter nsp, nsp x = true := fun x hx => (List.mem_filter.mp hx).2
theorem flat_le {its : List It} (h : adj its = true) : (its.filter nsp).length ≤ (its.filter nsp).flatten.length := its_len fun x hx => ok_ne (fl_okI h x hx)
theorem body {s0 s1 s3 s4 : D} {k : Nat} {kw : It} {ds : List D} {its : List It} (S : Snt k kw ds its) {x7 x8 x9 x10 x11 x12 : Option D} (h11 : nO x11) (h12 : nO x12) {De : EndsD} {M : Mem}
    (q : ∀ (y7 y8 y9 y10 y11 y12 : Option D) M', nO y11 → nO y12 → De.nx (lS s0 s1 k s3 s4 (some (.str kw)) (some (.tup ds)) y7 y8 y9 y10 y11 y12) M') :
    wpSs T (Gam T 112) lpS De (lS s0 s1 k s3 s4 (some (.str kw)) (some (.tup ds)) x7 x8 x9 x10 x11 x12) M := by
  have hF : T.defs[36]? = some ⟨2, 3, sameB 36⟩ := rfl
  have hl : its.flatten.length ≤ 2600 := S.len
  have hA := adj_ok S.adj
  have hta : asc its.flatten = true := asc_flat hA
  have hnl := flat_le S.adj
  have hfl := fl_len (its := its)
  have hsm := S.sm
  unfold lpS
  refine i_asg (w_call (ds := [.tup ds, .str kw]) rfl (S.print M _ _ ?_))
  show wpSs T _ _ _ (lS s0 s1 k s3 s4 (some (.str kw)) (some (.tup ds)) (some (.str its.flatten)) x8 x9 x10 x11 x12) M
  refine i_if (i_or (i_not (i_val (i_call (i_A0 (w_call (ds := [.str kw, .tup ds]) rfl (S.writ M _ _ ?_)))))))
  refine frz_of (fun i z => nomatch z) rfl ?_
  refine evA_ok pure0 [.var 7] (ds := [.str its.flatten]) rfl ?_
  refine c_same_str (k := 111) hF hta ⟨true, rfl, go_f ?_⟩
  refine i_not (i_val (i_call (i_A0 (w_call (ds := [.str kw, .int k, .str its.flatten]) rfl (S.read its S.adj (by omega) (.inl rfl) M _ _ fun M1 => ?_)))))
  refine frz_of (fun i z => nomatch z) rfl ?_
  refine evA_ok pure0 [.var 6] (ds := [.tup ds]) rfl ?_
  refine c_same (k := 100) hF 12 (.tup ds) hsm M1 _ _ ⟨true, rfl, go_skip ?_⟩
  refine i_asg (w_call (ds := [.str its.flatten]) rfl (c_tokens (k := 107) S.adj (by omega) ?_))
  show wpSs T _ _ _ (lS s0 s1 k s3 s4 (some (.str kw)) (some (.tup ds)) (some (.str its.flatten)) (some (.ol ((toks 0 its).map encT))) x9 x10 x11 x12) M1
  refine i_if (i_jnr (w_ev (ev_tks h11 h12 (.inl rfl)) ⟨(its.filter nsp).map .str, its.filter nsp, rfl, mapM_str _, ?_, w_var (d := .str its.flatten) rfl rfl ⟨its.flatten, rfl, by decide, ?_, ?_⟩⟩))
  · rw [sum_len]
    show _ + _ * 0 ≤ 16777216
    omega
  · show _ + _ * 0 ≤ 16777216
    omega
  rw [replL_sp, strip hA, joinL_nil, decide_eq_true rfl]
  refine go_skip ?_
  refine st_forMS (l := toks 0 its) encT (fun i σ M' => M' = M1 ∧ ∃ y11 y12, nO y11 ∧ nO y12 ∧ σ = lS s0 s1 k s3 s4 (some (.str kw)) (some (.tup ds)) (some (.str its.flatten)) (some (.lst ((toks 0 its).map encT))) x9 x10 y11 y12) rfl ⟨rfl, x11, x12, h11, h12, rfl⟩ ?_ ?_
  · rintro i ⟨x, a⟩ σ' M' kk ha ⟨rfl, y11, y12, g11, g12, rfl⟩ hk
    refine ⟨lS s0 s1 k s3 s4 (some (.str kw)) (some (.tup ds)) (some (.str its.flatten)) (some (.lst ((toks 0 its).map encT))) x9 x10 (some (.str x)) (some (.int a)), rfl, ?_⟩
    obtain ⟨pre, post, e1, e2⟩ := toks_at (List.mem_of_getElem? ha)
    have hax : asc x = true := toks_ok S.adj (x, a) (List.mem_of_getElem? ha)
    have hxl : a + x.length ≤ its.flatten.length := by rw [e1, List.length_append, List.length_append]; omega
    have e3 : (its.flatten.drop a).take (a + x.length - a) = x := by
      have : a = pre.length := by omega
      subst this
      rw [e1, List.append_assoc, List.drop_left, Nat.add_sub_cancel_left, List.take_left]
    have e4 : ev T (fun _ _ _ => none) (.slc (.var 7) (some (.var 12)) (some (.bin .add (.var 12) (.bc .len [(.var 11)])))) (lS s0 s1 k s3 s4 (some (.str kw)) (some (.tup ds)) (some (.str its.flatten)) (some (.lst ((toks 0 its).map encT))) x9 x10 (some (.str x)) (some (.int a))) M' = some (.str x) := by
      show some (D.str (cutL (some (a : Int)) (some ((a : Int) + (x.length : Int))) its.flatten)) = _
      rw [show (a : Int) + (x.length : Int) = ((a + x.length : Nat) : Int) from by omega, cut_both (by omega) hxl, e3]
    refine st_ifF pure0 (evT_bl (ev_cmp (x := .str x) (y := .str x) (r := false) e4 rfl (by show opCmp .ne (.str x) (.str x) = _; rw [ne_str hax hax, decide_eq_true rfl]; rfl))) ?_
    exact hk _ _ ⟨rfl, some (.str x), some (.int a), trivial, trivial, rfl⟩
  rintro σ' M' ⟨rfl, y11, y12, g11, g12, rfl⟩
  have hwl := joinL_len (its.filter nsp)
  refine i_asg (i_bm (w_ev (d := .str [32, 32]) rfl ⟨rfl, V_ev (ev_tks g11 g12 (.inr rfl)) ⟨.str (joinL [32, 32] (its.filter nsp)), join_ok ?_, ?_⟩⟩))
  · rw [sum_len]
    show _ + _ * 2 ≤ 16777216
    omega
  show wpSs T _ _ _ (lS s0 s1 k s3 s4 (some (.str kw)) (some (.tup ds)) (some (.str its.flatten)) (some (.lst ((toks 0 its).map encT))) (some (.str (joinL [32, 32] (its.filter nsp)))) x10 y11 y12) M'
  have hw : joinL [32, 32] (its.filter nsp) = (wideI (its.filter nsp)).flatten := (wide_flat _).symm
  have hwa : adj (wideI (its.filter nsp)) = true := wide_adj (fl_okI S.adj)
  have hwf : (wideI (its.filter nsp)).filter nsp = its.filter nsp := wide_fl fl_nsp
  rw [hw] at hwl ⊢
  generalize wideI (its.filter nsp) = w at hwl hwa hwf ⊢
  have hxs : ∃ l : List (List It), l.map (fun y => D.str y.flatten) = [.str w.flatten, .str (([32] ++ its.flatten) ++ [32]), .str (([40, 40] ++ its.flatten) ++ [41, 41]), .str (([40, 32] ++ w.flatten) ++ [32, 41])] ∧
      ∀ y ∈ l, adj y = true ∧ y.flatten.length ≤ 100000 ∧ (y.filter nsp = its.filter nsp ∨ y.filter nsp = inPar (its.filter nsp) ∨ y.filter nsp = inPar (inPar (its.filter nsp))) := by
    have l1 : adj (its ++ [sp]) = true := adj_app S.adj rfl nw_sp
    have l2 : adj (w ++ [sp, [41]]) = true := adj_app hwa rfl nw_sp
    have p1 : adj (its ++ [[41], [41]]) = true := by
      have := adj_snocS (adj_snocS S.adj (c := 41) rfl rfl) (c := 41) rfl rfl
      rwa [List.append_assoc] at this
    refine ⟨[w, sp :: (its ++ [sp]), [40] :: [40] :: (its ++ [[41], [41]]), [40] :: sp :: (w ++ [sp, [41]])], ?_, ?_⟩
    · simp
    · intro y hy
      rcases List.mem_cons.mp hy with rfl | hy
      · exact ⟨hwa, by omega, .inl hwf⟩
      rcases List.mem_cons.mp hy with rfl | hy
      · refine ⟨adj_sp l1, ?_, .inl ?_⟩
        · simp [-List.length_flatten]; omega
        · rw [fl_sp, List.filter_append]; simp [nsp]
      rcases List.mem_cons.mp hy with rfl | hy
      · refine ⟨adj_cons rfl (.inl rfl) (adj_cons rfl (.inl rfl) p1), ?_, .inr (.inr ?_)⟩
        · simp [-List.length_flatten]; omega
        · rw [fl_c rfl, fl_c rfl, List.filter_append]
          show _ = [40] :: ([40] :: (its.filter nsp ++ [[41]]) ++ [[41]])
          simp [nsp]
      rcases List.mem_cons.mp hy with rfl | hy
      · refine ⟨adj_cons rfl (.inl rfl) (adj_sp l2), ?_, .inr (.inl ?_)⟩
        · simp [-List.length_flatten]; omega
        · rw [fl_c rfl, fl_sp, List.filter_append, hwf]
          show _ = [40] :: (its.filter nsp ++ [[41]])
          simp [nsp]
      · cases hy
  obtain ⟨l, el, hl4⟩ := hxs
  have ha1 : ∀ x y : List Nat, x.length + y.length ≤ 16777216 → opBin .add (.str x) (.str y) = some (.str (x ++ y)) := fun x y h => add_str h
  refine st_forM (l := l) (d := .ol (l.map fun y => D.str y.flatten)) (d' := .lst (l.map fun y => D.str y.flatten)) (fun y => D.str y.flatten) (fun i σ M' => ∃ y10, σ = lS s0 s1 k s3 s4 (some (.str kw)) (some (.tup ds)) (some (.str its.flatten)) (some (.lst ((toks 0 its).map encT))) (some (.str w.flatten)) y10 y11 y12) pure0 ?_ rfl rfl (fun _ _ => rfl) ⟨x10, rfl⟩ ?_ ?_
  · rw [el]
    refine ev_lst (evL_2 (x := .str w.flatten) rfl rfl (evL_2 (x := .str (([32] ++ its.flatten) ++ [32])) ?_ rfl (evL_2 (x := .str (([40, 40] ++ its.flatten) ++ [41, 41])) ?_ rfl (evL_1 (x := .str (([40, 32] ++ w.flatten) ++ [32, 41])) ?_ rfl)))) (by show 4 ≤ 16777216; decide)
    · exact ev_bin (x := .str ([32] ++ its.flatten)) (y := .str [32]) (ev_bin (x := .str [32]) (y := .str its.flatten) rfl rfl (ha1 _ _ (by simp [-List.length_flatten]; omega))) rfl (ha1 _ _ (by simp [-List.length_flatten]; omega))
    · exact ev_bin (x := .str ([40, 40] ++ its.flatten)) (y := .str [41, 41]) (ev_bin (x := .str [40, 40]) (y := .str its.flatten) rfl rfl (ha1 _ _ (by simp [-List.length_flatten]; omega))) rfl (ha1 _ _ (by simp [-List.length_flatten]; omega))
    · exact ev_bin (x := .str ([40, 32] ++ w.flatten)) (y := .str [32, 41]) (ev_bin (x := .str [40, 32]) (y := .str w.flatten) rfl rfl (ha1 _ _ (by simp [-List.length_flatten]; omega))) rfl (ha1 _ _ (by simp [-List.length_flatten]; omega))
  · rintro i y σ' M2 kk hy ⟨y10, rfl⟩ hk
    refine ⟨lS s0 s1 k s3 s4 (some (.str kw)) (some (.tup ds)) (some (.str its.flatten)) (some (.lst ((toks 0 its).map encT))) (some (.str w.flatten)) (some (.str y.flatten)) y11 y12, rfl, ?_⟩
    obtain ⟨b1, b2, b3⟩ := hl4 y (List.mem_of_getElem? hy)
    refine i_if (i_not (i_val (i_call (i_A0 (w_call (ds := [.str kw, .int k, .str y.flatten]) rfl (S.read y b1 b2 b3 M2 _ _ fun M3 => ?_))))))
    refine frz_of (fun i z => nomatch z) rfl ?_
    refine evA_ok pure0 [.var 6] (ds := [.tup ds]) rfl ?_
    refine c_same (k := 100) hF 12 (.tup ds) hsm M3 _ _ ⟨true, rfl, go_skip ?_⟩
    exact hk _ _ ⟨_, rfl⟩
  · rintro σ' M' ⟨y10, rfl⟩
    exact q _ _ _ _ _ _ _ g11 g12

abbrev Sn (k : Nat) := { a : It × List D × List It // Snt k a.1 a.2.1 a.2.2 }
def encS {k : Nat} (a : Sn k) : D := .tup [.str a.1.1, .tup a.1.2.1]
theorem main (ns : List Int) (h : ns.length ≤ 63) : Gam T (112+1) 52 [.lst (ns.map D.int)] (fun _ => none) (fun d _ => d = .bl true) (fun _ _ => False) := by
  refine ⟨d_law, rfl, rfl, ?_⟩
  show wpSs T (Gam T 112) b_law _ [some (.lst (ns.map D.int)), none, none, none, none, none, none, none, none, none, none, none, none] (fun _ => none)
  unfold b_law
  refine i_asg (w_call (ds := [.lst (ns.map D.int), .int (0 : Nat), .int (2 : Nat), .int (720 : Nat)]) rfl (c_law_draws (k := 110) (F := 37) (G := 38) rfl rfl (by decide) (by omega) (by decide) (by decide) (by decide) fun l hl _ => ?_))
  obtain ⟨a, b, rfl⟩ : ∃ a b, l = [a, b] := by
    match l, hl with
    | [a, b], _ => exact ⟨a, b, rfl⟩
  show wpSs T _ _ _ [some (.lst (ns.map D.int)), some (.ol [di a, di b]), none, none, none, none, none, none, none, none, none, none, none] (fun _ => none)
  obtain ⟨k, hk0, hk⟩ : ∃ k : Nat, (1 : Int) + (a : Int) % 3 = (k : Int) ∧ 1 ≤ k ∧ k ≤ 3 := ⟨1 + a % 3, by omega, by omega, by omega⟩
  have e2 : ∀ M : Mem, ev T (fun _ _ _ => none) (.bin .add (.con (.int 1)) (.bin .mod (.idx (.var 1) (.con (.int 0))) (.con (.int 3)))) [some (.lst (ns.map D.int)), some (.ol [di a, di b]), none, none, none, none, none, none, none, none, none, none, none] M = some (.int k) := fun M => by
    rw [← hk0]
    refine ev_bin (x := .int 1) (y := .int ((a : Int) % 3)) rfl (ev_bin (x := .int a) (y := .int 3) (ev_idx (x := .slot 1) (y := .int 0) rfl rfl rfl) rfl (mod_ok (by decide))) rfl
  refine st_asg (d := .int k) pure0 (e2 _) rfl ?_
  refine st_asg (d := .tup (kds.map .str)) pure0 rfl rfl ?_
  show wpSs T _ _ _ [some (.lst (ns.map D.int)), some (.ol [di a, di b]), some (.int k), some (.tup (kds.map .str)), none, none, none, none, none, none, none, none, none] (fun _ => none)
  refine i_asg (i_lst (i_L (i_tup (L_ev (d := .str kPlaces) rfl rfl (i_L (i_call (i_A1 (w_call (ds := [.lst (ns.map D.int), .int (1 : Nat), .int (90 : Nat)]) rfl (c_picks (n := 109) (by decide) (by omega) (by decide) fun l1 => ?_)))))))))
  intro p1 hp1
  refine evAf_ok (ds := [.int k, pd [], pd [], .tup [.int (4 : Nat), .int (3 : Nat)]]) rfl rfl ?_
  refine c_sent (p := p1) hk 5 112 4 3 [] [] _ rfl (by decide) (fun _ => rfl) (fun _ z => nomatch z) (fun _ z => nomatch z) (by decide) (by decide) ⟨l1, mset_same⟩ _ _ fun f1 M1 ok1 ht1 g1 => ?_
  refine ⟨(by show 2 ≤ 16777216; decide), ⟨(by show 1 ≤ 16777216; decide), ?_⟩⟩
  show wpSs T _ _ _ [some (.lst (ns.map D.int)), some (.ol [di a, di b]), some (.int k), some (.tup (kds.map .str)), some (.ol [.tup [.str kPlaces, .tup (encP f1)]]), none, none, none, none, none, none, none, none] M1
  refine i_ex (i_mm (w_ev (d := .slot 4) rfl ⟨rfl, i_L (i_tup (L_ev (d := .str kMoments) rfl rfl (i_L (i_call (i_A1 (w_call (ds := [.lst (ns.map D.int), .int (2 : Nat), .int (60 : Nat)]) rfl (c_picks (n := 109) (by decide) (by omega) (by decide) fun l2 => ?_)))))))⟩))
  intro p2 hp2
  refine evAf_ok (ds := [.int k, .int (4 : Nat), .bl true]) rfl rfl ?_
  refine c_mom (p := p2) hk 4 112 _ (by decide) ⟨l2, mset_same⟩ _ _ fun f2 M2 ok2 ht2 g2 => ?_
  refine ⟨(by show 2 ≤ 16777216; decide), ?_⟩
  refine ⟨[.tup [.str kPlaces, .tup (encP f1)], .tup [.str kMoments, .tup (encM f2)]], .non, rfl, ?_⟩
  show wpSs T _ _ _ [some (.lst (ns.map D.int)), some (.ol [di a, di b]), some (.int k), some (.tup (kds.map .str)), some (.ol [.tup [.str kPlaces, .tup (encP f1)], .tup [.str kMoments, .tup (encM f2)]]), none, none, none, none, none, none, none, none] M2
  refine i_ex (i_mm (w_ev (d := .slot 4) rfl ⟨rfl, i_L (i_tup (L_ev (d := .str kExpr) rfl rfl (i_L (i_call (i_A1 (w_call (ds := [.lst (ns.map D.int), .int (3 : Nat), .int (60 : Nat)]) rfl (c_picks (n := 109) (by decide) (by omega) (by decide) fun l3 => ?_)))))))⟩))
  intro p3 hp3
  refine evAf_ok (ds := [.int k, .int (4 : Nat), .tup (kds.map .str)]) rfl rfl ?_
  refine c_exp (p := p3) hk 4 112 _ (by decide) ⟨l3, mset_same⟩ _ _ fun f3 M3 ok3 ht3 g3 => ?_
  refine ⟨(by show 2 ≤ 16777216; decide), ?_⟩
  refine ⟨[.tup [.str kPlaces, .tup (encP f1)], .tup [.str kMoments, .tup (encM f2)], .tup [.str kExpr, .tup (encE f3)]], .non, rfl, ?_⟩
  show wpSs T _ _ _ [some (.lst (ns.map D.int)), some (.ol [di a, di b]), some (.int k), some (.tup (kds.map .str)), some (.ol [.tup [.str kPlaces, .tup (encP f1)], .tup [.str kMoments, .tup (encM f2)], .tup [.str kExpr, .tup (encE f3)]]), none, none, none, none, none, none, none, none] M3
  have sn1 := snt_P hk ok1 (by omega)
  have sn2 := snt_M hk ok2 (by omega)
  have sn3 := snt_E hk ok3 (by omega)
  refine st_forMS (l := ([⟨(kPlaces, encP f1, itP f1 0), sn1⟩, ⟨(kMoments, encM f2, itM f2 0), sn2⟩, ⟨(kExpr, encE f3, itE f3 0), sn3⟩] : List (Sn k))) encS (fun i σ M' => ∃ s1 s4 x5 x6 x7 x8 x9 x10 x11 x12, nO x11 ∧ nO x12 ∧ σ = lS (.lst (ns.map D.int)) s1 k (.tup (kds.map .str)) s4 x5 x6 x7 x8 x9 x10 x11 x12) rfl ⟨_, _, none, none, none, none, none, none, none, none, trivial, trivial, rfl⟩ ?_ ?_
  · rintro i ⟨⟨kw, ds, its⟩, S⟩ σ' M' kk ha ⟨s1, s4, x5, x6, x7, x8, x9, x10, x11, x12, h11, h12, rfl⟩ hk
    refine ⟨lS (.lst (ns.map D.int)) s1 k (.tup (kds.map .str)) s4 (some (.str kw)) (some (.tup ds)) x7 x8 x9 x10 x11 x12, rfl, ?_⟩
    exact body S h11 h12 fun y7 y8 y9 y10 y11 y12 M'' g11 g12 => hk _ _ ⟨_, _, _, _, _, _, _, _, _, _, g11, g12, rfl⟩
  · rintro σ' M' ⟨s1, s4, x5, x6, x7, x8, x9, x10, x11, x12, h11, h12, rfl⟩
    refine st_ret (d := .bl true) (d' := .bl true) pure0 rfl rfl ?_
    exact gc.here (Q := fun d _ => d = .bl true) rfl
end Pv.G

namespace Pv.G
open PySem PySem.Spec PyProof.Rows L2 Pv
theorem bd_is_word_sign : q_is_word_sign.Bd := fun _ _ _ _ _ _ us hl => match us, hl with | [_], _ => rfl
theorem bd_is_name_of : q_is_name_of.Bd := fun _ _ _ _ _ _ us hl => match us, hl with | [_, _], _ => rfl
theorem bd_is_place_name : q_is_place_name.Bd := fun _ _ _ _ _ _ us hl => match us, hl with | [_], _ => rfl
theorem bd_is_set_name : q_is_set_name.Bd := fun _ _ _ _ _ _ us hl => match us, hl with | [_], _ => rfl
theorem bd_is_letter : q_is_letter.Bd := fun _ _ _ _ _ _ us hl => match us, hl with | [_], _ => rfl
theorem bd_is_number : q_is_number.Bd := fun _ _ _ _ _ _ us hl => match us, hl with | [_], _ => rfl
theorem bd_is_word_token : q_is_word_token.Bd := fun _ _ _ _ _ _ us hl => match us, hl with | [_], _ => rfl
theorem bd_word_end : q_word_end.Bd := fun _ _ _ _ _ _ us hl => match us, hl with | [_, _], _ => rfl
theorem bd_token_at : q_token_at.Bd := fun _ _ _ _ _ _ us hl => match us, hl with | [_, _], _ => rfl
theorem bd_tokens : q_tokens.Bd := fun _ _ _ _ _ _ us hl => match us, hl with | [_], _ => rfl
theorem bd_read_places : q_read_places.Bd := fun _ _ _ _ _ _ us hl => match us, hl with | [_, _], _ => rfl
theorem bd_places_then : q_places_then.Bd := fun _ _ _ _ _ _ us hl => match us, hl with | [_], _ => rfl
theorem bd_places_or : q_places_or.Bd := fun _ _ _ _ _ _ us hl => match us, hl with | [_], _ => rfl
theorem bd_places_and : q_places_and.Bd := fun _ _ _ _ _ _ us hl => match us, hl with | [_], _ => rfl
theorem bd_places_part : q_places_part.Bd := fun _ _ _ _ _ _ us hl => match us, hl with | [_], _ => rfl
theorem bd_places_bound : q_places_bound.Bd := fun _ _ _ _ _ _ us hl => match us, hl with | [_], _ => rfl
theorem bd_places_counted : q_places_counted.Bd := fun _ _ _ _ _ _ us hl => match us, hl with | [_], _ => rfl
theorem bd_places_relation : q_places_relation.Bd := fun _ _ _ _ _ _ us hl => match us, hl with | [_], _ => rfl
theorem bd_read_moments : q_read_moments.Bd := fun _ _ _ _ _ _ us hl => match us, hl with | [_, _], _ => rfl
theorem bd_moments_or : q_moments_or.Bd := fun _ _ _ _ _ _ us hl => match us, hl with | [_], _ => rfl
theorem bd_moments_and : q_moments_and.Bd := fun _ _ _ _ _ _ us hl => match us, hl with | [_], _ => rfl
theorem bd_moments_until : q_moments_until.Bd := fun _ _ _ _ _ _ us hl => match us, hl with | [_], _ => rfl
theorem bd_moments_part : q_moments_part.Bd := fun _ _ _ _ _ _ us hl => match us, hl with | [_], _ => rfl
theorem bd_read_expression : q_read_expression.Bd := fun _ _ _ _ _ _ us hl => match us, hl with | [_, _], _ => rfl
theorem bd_expression_or : q_expression_or.Bd := fun _ _ _ _ _ _ us hl => match us, hl with | [_], _ => rfl
theorem bd_expression_and : q_expression_and.Bd := fun _ _ _ _ _ _ us hl => match us, hl with | [_], _ => rfl
theorem bd_begins_part : q_begins_part.Bd := fun _ _ _ _ _ _ us hl => match us, hl with | [_], _ => rfl
theorem bd_expression_join : q_expression_join.Bd := fun _ _ _ _ _ _ us hl => match us, hl with | [_], _ => rfl
theorem bd_expression_part : q_expression_part.Bd := fun _ _ _ _ _ _ us hl => match us, hl with | [_], _ => rfl
theorem bd_expression_base : q_expression_base.Bd := fun _ _ _ _ _ _ us hl => match us, hl with | [_], _ => rfl
theorem bd_held_places : q_held_places.Bd := fun _ _ _ _ _ _ us hl => match us, hl with | [_, _], _ => rfl
theorem bd_places_text : q_places_text.Bd := fun _ _ _ _ _ _ us hl => match us, hl with | [_], _ => rfl
theorem bd_held_moments : q_held_moments.Bd := fun _ _ _ _ _ _ us hl => match us, hl with | [_, _], _ => rfl
theorem bd_moments_text : q_moments_text.Bd := fun _ _ _ _ _ _ us hl => match us, hl with | [_], _ => rfl
theorem bd_held_expression : q_held_expression.Bd := fun _ _ _ _ _ _ us hl => match us, hl with | [_, _], _ => rfl
theorem bd_expression_text : q_expression_text.Bd := fun _ _ _ _ _ _ us hl => match us, hl with | [_], _ => rfl
theorem bd__law_same : q__law_same.Bd := fun _ _ _ _ _ _ us hl => match us, hl with | [_, _], _ => rfl
theorem bd__law_number : q__law_number.Bd := fun _ _ _ _ _ _ us hl => match us, hl with | [_, _], _ => rfl
theorem bd__law_draws : q__law_draws.Bd := fun _ _ _ _ _ _ us hl => match us, hl with | [_, _, _, _], _ => rfl
theorem bd__law_pick : q__law_pick.Bd := fun _ _ _ _ _ _ us hl => match us, hl with | [_], _ => rfl
theorem bd__law_picks : q__law_picks.Bd := fun _ _ _ _ _ _ us hl => match us, hl with | [_, _, _], _ => rfl
theorem bd__law_base : q__law_base.Bd := fun _ _ _ _ _ _ us hl => match us, hl with | [_, _, _, _], _ => rfl
theorem bd__law_sentence : q__law_sentence.Bd := fun _ _ _ _ _ _ us hl => match us, hl with | [_, _, _, _, _], _ => rfl
theorem bd__law_moment : q__law_moment.Bd := fun _ _ _ _ _ _ us hl => match us, hl with | [_, _, _, _], _ => rfl
theorem bd__law_expression : q__law_expression.Bd := fun _ _ _ _ _ _ us hl => match us, hl with | [_, _, _, _], _ => rfl
theorem bd__law_print : q__law_print.Bd := fun _ _ _ _ _ _ us hl => match us, hl with | [_, _], _ => rfl
theorem bd__law_held : q__law_held.Bd := fun _ _ _ _ _ _ us hl => match us, hl with | [_, _, _], _ => rfl
theorem bd__law_places_text : q__law_places_text.Bd := fun _ _ _ _ _ _ us hl => match us, hl with | [_, _], _ => rfl
theorem bd__law_moments_text : q__law_moments_text.Bd := fun _ _ _ _ _ _ us hl => match us, hl with | [_, _], _ => rfl
theorem bd__law_expression_text : q__law_expression_text.Bd := fun _ _ _ _ _ _ us hl => match us, hl with | [_, _], _ => rfl
theorem bd__law_read : q__law_read.Bd := fun _ _ _ _ _ _ us hl => match us, hl with | [_, _, _], _ => rfl
theorem bd__law_written : q__law_written.Bd := fun _ _ _ _ _ _ us hl => match us, hl with | [_, _], _ => rfl
theorem bd_law : q_law.Bd := fun _ _ _ _ _ _ us hl => match us, hl with | [_], _ => rfl
theorem bd_Reader___init__ : q_Reader___init__.Bd := fun _ _ _ _ _ _ us hl => match us, hl with | [_, _, _], _ => rfl
theorem bd_Reader_seen : q_Reader_seen.Bd := fun _ _ _ _ _ _ us hl => match us, hl with | [_], _ => rfl
theorem bd_Reader_fail : q_Reader_fail.Bd := fun _ _ _ _ _ _ us hl => match us, hl with | [_], _ => rfl
theorem bd_Reader_take : q_Reader_take.Bd := fun _ _ _ _ _ _ us hl => match us, hl with | [_], _ => rfl
theorem bd_Reader_want : q_Reader_want.Bd := fun _ _ _ _ _ _ us hl => match us, hl with | [_, _], _ => rfl
theorem bd_Reader_is_letter : q_Reader_is_letter.Bd := fun _ _ _ _ _ _ us hl => match us, hl with | [_], _ => rfl
theorem bd_Reader_want_place : q_Reader_want_place.Bd := fun _ _ _ _ _ _ us hl => match us, hl with | [_], _ => rfl
theorem bd_Reader_want_set : q_Reader_want_set.Bd := fun _ _ _ _ _ _ us hl => match us, hl with | [_], _ => rfl
theorem bd_Reader_want_number : q_Reader_want_number.Bd := fun _ _ _ _ _ _ us hl => match us, hl with | [_, _, _], _ => rfl
theorem bd_Reader_whole : q_Reader_whole.Bd := fun _ _ _ _ _ _ us hl => match us, hl with | [_, _], _ => rfl
theorem bds : AllBd fns := ⟨bd_is_word_sign, bd_is_name_of, bd_is_place_name, bd_is_set_name, bd_is_letter, bd_is_number, bd_is_word_token, bd_word_end, bd_token_at, bd_tokens, bd_read_places, bd_places_then, bd_places_or, bd_places_and, bd_places_part, bd_places_bound, bd_places_counted, bd_places_relation, bd_read_moments, bd_moments_or, bd_moments_and, bd_moments_until, bd_moments_part, bd_read_expression, bd_expression_or, bd_expression_and, bd_begins_part, bd_expression_join, bd_expression_part, bd_expression_base, bd_held_places, bd_places_text, bd_held_moments, bd_moments_text, bd_held_expression, bd_expression_text, bd__law_same, bd__law_number, bd__law_draws, bd__law_pick, bd__law_picks, bd__law_base, bd__law_sentence, bd__law_moment, bd__law_expression, bd__law_print, bd__law_held, bd__law_places_text, bd__law_moments_text, bd__law_expression_text, bd__law_read, bd__law_written, bd_law, bd_Reader___init__, bd_Reader_seen, bd_Reader_fail, bd_Reader_take, bd_Reader_want, bd_Reader_is_letter, bd_Reader_want_place, bd_Reader_want_set, bd_Reader_want_number, bd_Reader_whole, trivial⟩
theorem nms : namesOk T tb fns = true := by decide +kernel
def fa : List He.Fa := faOf T tb
def fn : List He.DefD := fns.map (·.d)
abbrev R : PySem.W.OpenRow := PySem.W.OpenLaw.row PySem.Challenge.rw_trueofwords_k00_texts_there_and_back
def ts : List He.Tab := tsOf T tb
def ex : PySem.W.Frag → Bool := exOf T tb
abbrev hk : PySem.W.Hook := He.hookX 4 fa fn ts [] ex
def ob (s : PySem.W.SharedT) : He.AlX := He.obsX 4 fa fn ts [] ex (HandSHeadRun.getT s)
theorem ob_eq (s : PySem.W.SharedT) : ob s = hk.obs s.abs := He.obsX_eq (HandSHeadRun.getT_eq s)
def loose : List PySem.Str := (["BadText", "CLOSED_WORDS", "EXPRESSION_LEVELS", "FIGURES", "LETTERS", "MOMENT_LEVELS", "MOST_NAME", "PLACE_LEVELS", "PLACE_SIGNS", "RELATIONS_printing", "RELATIONS_reading", "Reader"] : List PySem.Str) ++ (["SET_SIGNS", "SIGNS", "TIGHTEST", "UNARY", "WordError", "__name__", "_law_base", "_law_draws", "_law_expression", "_law_expression_text", "_law_held", "_law_moment"] : List PySem.Str) ++ (["_law_moments_text", "_law_number", "_law_pick", "_law_picks", "_law_places_text", "_law_print", "_law_read", "_law_same", "_law_sentence", "_law_written", "begins_part", "expression_and"] : List PySem.Str) ++ (["expression_base", "expression_join", "expression_or", "expression_part", "expression_text", "held_expression", "held_moments", "held_places", "is_letter", "is_name_of", "is_number", "is_place_name"] : List PySem.Str) ++ (["is_set_name", "is_word_sign", "is_word_token", "moments_and", "moments_or", "moments_part", "moments_text", "moments_until", "places_and", "places_bound", "places_counted", "places_or"] : List PySem.Str) ++ (["places_part", "places_relation", "places_text", "places_then", "read_expression", "read_moments", "read_places", "token_at", "tokens", "word_end"] : List PySem.Str)
theorem runQ_false (w : World) : HandSHeadRun.RunEq R (PySem.W.view R.prog [74]) hk ob 20000 loose (w.withFollow "special-get-raises" false) := by
  intro os
  kernel_rfl
theorem runQ_true (w : World) : HandSHeadRun.RunEq R (PySem.W.view R.prog [74]) hk ob 20000 loose (w.withFollow "special-get-raises" true) := by
  intro os
  kernel_rfl
theorem runQ (w : World) : HandSHeadRun.RunEq R (PySem.W.view R.prog [74]) hk ob 20000 loose w := PySem.W.byRow2 "special-get-raises" (P := fun w => HandSHeadRun.RunEq R (PySem.W.view R.prog [74]) hk ob 20000 loose w) runQ_false runQ_true w
end Pv.G
open PySem PySem.W PySem.Calls PyProof.Rows
theorem PySem.Challenge.cw_trueofwords_k00_texts_there_and_back_holds : PySem.Challenge.rw_trueofwords_k00_texts_there_and_back.Holds := by
  w_on; o_law
  refine HandSHeadRun.head_any (r := OpenLaw.row PySem.Challenge.rw_trueofwords_k00_texts_there_and_back) (q := view (OpenLaw.row PySem.Challenge.rw_trueofwords_k00_texts_there_and_back).prog [74]) (H := Pv.G.hk) (ob := Pv.G.ob) (M := 20000) (loose := Pv.G.loose) (d := HandSHeadRun.topDef (OpenLaw.row PySem.Challenge.rw_trueofwords_k00_texts_there_and_back).prog 74) (kwd := []) Pv.G.ob_eq
    (by kernel_rfl) (fun s => by kernel_rfl) Pv.G.runQ (by kernel_rfl) (by kernel_rfl) (by kernel_rfl) (by rfl) (by first | assumption | decide +kernel) (by decide +kernel) ⟨rfl, rfl, rfl, rfl, rfl, by decide +kernel⟩ ?hw ?hc
  case hw => w_witness2
  case hc =>
    refine L2.walk_ofE (l := PySem.Challenge.rw_trueofwords_k00_texts_there_and_back) (n := 63) (k := 2 * 112 + 2) (x := "script") (CX := Pv.CXa (PySem.Challenge.rw_trueofwords_k00_texts_there_and_back).prog) rfl (by decide) (by kernel_rfl) ⟨rfl, by decide, by decide⟩ ?F (fun _ _ _ _ z => Pv.cxa_no z)
    intro w mg fa h Y G hmg0
    obtain ⟨K, KX, c⟩ := Y
    have hmg : mg ("law" : PySem.Str) = some (.ref fa) := by
      have e : (HandSHeadRun.topDef (OpenLaw.row PySem.Challenge.rw_trueofwords_k00_texts_there_and_back).prog 74).name = ("law" : PySem.Str) := by kernel_rfl
      rw [← e]
      exact hmg0
    exact Pv.law_end (fns := Pv.G.fns) (T := Pv.G.T) (tb := Pv.G.tb) (L := 52) (n := 112) KX G c Pv.G.nms Pv.G.bds rfl rfl rfl hmg rfl Pv.G.main
