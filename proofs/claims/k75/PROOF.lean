import PyProof.Rows.All
import KE.LtData
import HandS.Comp
import HandS.ForMost
import HandS.TupAny
import HandS.Walk
import HandS.Deep
import HandS.Wide
import HandS.TupMul
import HandS.TupLe
import HandS.Conv
import HandS.IsInst
import HandS.SortInts
import HandS.Style
import HandS.SortOrd
import HandS.Zip
import KE.KRevSl
import KE.SortData
import KE.DataMinMax
import HandS.Words
import KE.GoesEnum
import KE.GoesMore
import HandS.CallLocal
import HandS.Star
import HandS.SetFor
import HandS.ReCall
import KE.KDictPairs
import HandS.Small
import HandS.Defaults
import HandS.HeadHook2
import HandS.HeadEnd
import KE.BitLaws
import HandS.Head0
import HandS.Head1
import HandS.Head2
import HandS.HeadHook1
import Wide.All
import OpenK.AllK
import Wide.FinOn
import KE.KStateDown
import PySem.Challenge.RW_stayrows_k75_whole_cheapest_covers_and_f
set_option Elab.async false
set_option linter.all false
/-! QCore: plain data, an own small syntax, its evaluator. -/
namespace Qx
open PySem

/-- plain data -/
inductive D where
  | non | bl (b : Bool) | int (i : Int) | str (s : Str)
  | tup (ds : List D) | lst (ds : List D)
  /-- a pair that a loop hands out: only to be taken apart -/
  | xtp (ds : List D)
  | dct (t : Bool) (ks vs : List D)
  | fn (f : Nat)

inductive Bop where | add | sub | mul | fdiv | mod | pow | shl | shr | band | bor
  deriving DecidableEq
inductive Cop where | eq | ne | lt | le | gt | ge | is | isn | inn | nin
  deriving DecidableEq
inductive Ty where | int | bool | str | tuple | list | dict
  deriving DecidableEq
inductive Bi where | len | abs | int | str | tuple | list | sorted | sum | all | any | max | min | max2 | min2 | lrange | trange | divmod | sortedSet | lenSet | dict
  deriving DecidableEq
/-- methods that change their receiver; methods that do not -/
inductive Mm where | append | pop0 | pop1 | extend | remove
  deriving DecidableEq
inductive Mp where | get1 | get2 | index | count
  deriving DecidableEq

/-- names to be stored in -/
inductive TN where
  | nm (i : Nat)
  | tp (ts : List TN)

mutual
inductive E where
  | var (i : Nat) | own (i : Nat) | cst (d : D)
  | tup (es : List E) | lst (es : List E) | dct (t : Bool) (kvs : List E)
  | bin (op : Bop) (a b : E) | neg (a : E) | nt (a : E) | an (a b : E) | or (a b : E) | ite (c a b : E)
  | cmp (op : Cop) (a b : E) | chn (op op' : Cop) (a b c : E)
  | call (f : Nat) (es : List E) (pm : List Nat) | callv (i : Nat) (es : List E)
  | isi (a : E) (ts : List Ty)
  | bi (b : Bi) (es : List E)
  | mm (m : Mm) (i : Nat) (es : List E) | mp (m : Mp) (o : E) (es : List E)
  | sub (a i : E) | slc (a lo hi : E) | rev (a lo : E)
  | tups (es : List E) (st : List Bool) | idx (o y : E) | cnt (o y : E) | dic (a : E)
  | comp (elt : E) (vs : List Nat) (t : TN) (it : It) (c : E)
  | comp2 (elt : E) (vs : List Nat) (t : TN) (it : It) (c : E) (vs2 : List Nat) (t2 : TN) (it2 : It) (c2 : E)
  | dcomp (tk : Bool) (k v : E) (vs : List Nat) (t : TN) (it : It) (c : E)
inductive It where
  | seq (e : E) | rng (es : List E) | enu (e : E) | zip (a b : E) | itms (e : E)
end

/-- targets of an assignment -/
inductive TS where
  | tn (t : TN) | sb (i : Nat) (ix : E) | tps (ts : List TS)

inductive S where
  | exp (e : E)
  | asg (t : TS) (e : E)
  | new (i : Nat) (e : E)
  | par (ts : List (Nat × Bool)) (es : List E)
  | ret (e : E)
  | ite (c : E) (a b : List S)
  | for_ (t : TN) (it : It) (b : List S)
  | whl (c : E) (b : List S)
  | pass | brk | cnt | bad

/-! ### data -/
mutual
/-- no list, no dict within -/
def noL : D → Bool
  | .tup ds => noLs ds
  | .xtp ds => noLs ds
  | .lst _ => false
  | .dct _ _ _ => false
  | _ => true
def noLs : List D → Bool
  | [] => true
  | d :: ds => noL d && noLs ds
end
/-- .. within the list, the dict itself -/
def noLc : D → Bool
  | .lst ds => noLs ds
  | .dct _ _ vs => noLs vs
  | _ => false
/-! == -/
mutual
def eqD : D → D → Bool
  | .non, .non => true
  | .bl a, .bl b => a == b
  | .bl a, .int j => (if a then 1 else 0) == j
  | .int i, .bl b => i == (if b then 1 else 0)
  | .int i, .int j => i == j
  | .str x, .str y => x == y
  | .lst xs, .lst ys => eqDs xs ys
  | .tup xs, .tup ys => eqDs xs ys
  | _, _ => false
def eqDs : List D → List D → Bool
  | [], [] => true
  | x :: xs, y :: ys => eqD x y && eqDs xs ys
  | _, _ => false
end
/-- None, bools, ints, texts, tuples and lists of these, at most n deep -/
def dok : Nat → D → Bool
  | _, .non => true
  | _, .bl _ => true
  | _, .int _ => true
  | _, .str x => PyData.strOk x
  | n + 1, .tup ds => ds.all (dok n)
  | n + 1, .lst ds => ds.all (dok n)
  | _, _ => false

mutual
def pd : D → PyData
  | .bl b => .bool b
  | .int i => .int i
  | .str x => .str x
  | .tup ds => .tuple (pds ds)
  | .lst ds => .list (pds ds)
  | _ => .none
def pds : List D → List PyData
  | [] => []
  | d :: ds => pd d :: pds ds
end
/-- x < y, as Python compares alike data -/
def ltD (x y : D) : Bool := PySem.W.dataLt (pd x) (pd y)
def leD (x y : D) : Bool := !ltD y x
def alikeL (ds : List D) : Bool := ds.all (dok 40) && ds.all fun x => ds.all fun y => PySem.W.alike (pd x) (pd y)
def isTupNE : D → Bool
  | .tup (_ :: _) => true
  | _ => false
def isOth : D → Bool
  | .non => false
  | .tup _ => false
  | _ => true
def isOthT : D → Bool
  | .non => false
  | .lst _ => false
  | .dct _ _ _ => false
  | _ => true
/-- what may be sorted -/
def srtOk (ds : List D) : Bool := alikeL ds && (ds.all isTupNE || ds.all isOth)
def isKey : D → Bool
  | .int _ => true
  | .str _ => true
  | _ => false
/-- what may be a key: an int or a text (dicts with tuple keys are not walked at present) -/
def keyOk (t : Bool) : D → Bool
  | .int _ => !t
  | .str _ => !t
  | _ => false
def lookD (k : D) : List D → List D → Option D
  | a :: ks, v :: vs => if eqD a k then some v else lookD k ks vs
  | _, _ => none
def repD (k v : D) : List D → List D → List D
  | a :: ks, w :: vs => (if eqD a k then v else w) :: repD k v ks vs
  | _, vs => vs
def putD (k v : D) (ks vs : List D) : List D × List D := if (lookD k ks vs).isSome then (ks, repD k v ks vs) else (ks ++ [k], vs ++ [v])

def SZ : Nat := 16777216
def mulOk (i j : Int) : Bool := (decide (-(2 ^ 64) < i) && decide (i < 2 ^ 64)) || (decide (-(2 ^ 64) < j) && decide (j < 2 ^ 64)) || (decide (i.natAbs < 2 ^ 4000) && decide (j.natAbs < 2 ^ 4000))
def addB : D → D → Option D
  | .int i, .int j => some (.int (i + j))
  | .str x, .str y => if x.length + y.length ≤ SZ then some (.str (x ++ y)) else none
  | .tup xs, .tup ys => if xs.length + ys.length ≤ SZ then some (.tup (xs ++ ys)) else none
  | .lst xs, .lst ys => if xs.length + ys.length ≤ SZ then some (.lst (xs ++ ys)) else none
  | _, _ => none
def subB : D → D → Option D
  | .int i, .int j => some (.int (i - j))
  | _, _ => none
def mulB : D → D → Option D
  | .int i, .int j => if mulOk i j then some (.int (i * j)) else none
  | .tup xs, .int k => if 2 ≤ k ∧ k ≤ 1000 ∧ xs ≠ [] ∧ xs.length ≤ 1000 then some (.tup (List.replicate k.toNat xs).flatten) else none
  | _, _ => none
def divB : D → D → Option D
  | .int i, .int j => if 0 < j ∧ j < 2 ^ 64 then some (.int (i / j)) else none
  | _, _ => none
def modB : D → D → Option D
  | .int i, .int j => if 0 < j then some (.int (i % j)) else none
  | _, _ => none
def powB : D → D → Option D
  | .int i, .int j => if 0 ≤ j ∧ j ≤ 1000000 ∧ i.natAbs < 2 ^ 64 then some (.int (i ^ j.toNat)) else none
  | _, _ => none
def shlB : D → D → Option D
  | .int i, .int j => if 0 ≤ j ∧ j ≤ 1000000 ∧ i.natAbs < 2 ^ 64 then some (.int (i * 2 ^ j.toNat)) else none
  | _, _ => none
def shrB : D → D → Option D
  | .int i, .int j => if 0 ≤ j then some (.int (i / 2 ^ j.toNat)) else none
  | _, _ => none
def andB : D → D → Option D
  | .int i, .int j => some (.int (Builtin.bitAnd i j))
  | _, _ => none
def orB : D → D → Option D
  | .int i, .int j => some (.int (Builtin.bitOr i j))
  | _, _ => none
def binD : Bop → D → D → Option D
  | .add => addB | .sub => subB | .mul => mulB | .fdiv => divB | .mod => modB | .pow => powB | .shl => shlB | .shr => shrB | .band => andB | .bor => orB
def isNon : D → Bool
  | .non => true
  | _ => false
def inD (x : D) : D → Option Bool
  | .tup ds => if dok 40 x && ds.all (dok 40) then some (ds.any fun y => eqD y x) else none
  | .lst ds => if dok 40 x && ds.all (dok 40) then some (ds.any fun y => eqD y x) else none
  | .dct t ks vs => if keyOk t x then some (lookD x ks vs).isSome else none
  | _ => none
def eqQ : D → D → Option Bool
  | .dct false ks _, .dct false [] [] => some ks.isEmpty
  | x, y => if dok 40 x && dok 40 y then some (eqD x y) else none
def ordC (f : Int → Int → Bool) : D → D → Option Bool
  | .int i, .int j => some (f i j)
  | _, _ => none
def isC' : D → D → Option Bool
  | x, .non => some (isNon x)
  | .bl a, .bl b => some (a == b)
  | _, _ => none
def cmpD : Cop → D → D → Option Bool
  | .eq => eqQ
  | .ne => fun x y => (eqQ x y).map (!·)
  | .lt => ordC fun i j => decide (i < j)
  | .le => ordC fun i j => decide (i ≤ j)
  | .gt => ordC fun i j => decide (j < i)
  | .ge => ordC fun i j => decide (j ≤ i)
  | .is => isC'
  | .isn => fun x y => (isC' x y).map (!·)
  | .inn => inD
  | .nin => fun x y => (inD x y).map (!·)
def tyD : D → Option Ty
  | .bl _ => some .bool
  | .int _ => some .int
  | .str _ => some .str
  | .tup _ => some .tuple
  | .lst _ => some .list
  | .dct _ _ _ => some .dict
  | _ => none
/-- bool is below int -/
def isaT : Option Ty → Ty → Bool
  | some .bool, .int => true
  | some t, u => decide (t = u)
  | none, _ => false
def isaD : D → List Ty → Option D
  | .fn _, _ => none
  | .xtp _, _ => none
  | .dct true _ _, _ => none
  | d, ts => some (.bl (ts.any (isaT (tyD d))))
def intsD : List D → Option (List Int)
  | [] => some []
  | .int i :: r => (intsD r).map (i :: ·)
  | _ => none
def blsD : List D → Option (List Bool)
  | [] => some []
  | .bl b :: r => (blsD r).map (b :: ·)
  | _ => none
def seqD : D → Option (List D)
  | .tup ds => some ds
  | .lst ds => some ds
  | _ => none
def lenD : D → Option Nat
  | .str x => if x.length ≤ SZ then some x.length else none
  | .tup ds => some ds.length
  | .lst ds => some ds.length
  | .dct false ks _ => some ks.length
  | _ => none
def sortI (l : List Int) : List Int := l.mergeSort (fun a b => decide (a ≤ b))
def maxI : List Int → Option Int
  | [] => none
  | a :: r => some (r.foldl (fun x y => if y > x then y else x) a)
def minI : List Int → Option Int
  | [] => none
  | a :: r => some (r.foldl (fun x y => if y < x then y else x) a)
def d1 (f : D → Option D) : List D → Option D
  | [d] => f d
  | _ => none
def lenB (d : D) : Option D := match lenD d with
  | some n => some (.int (n : Int))
  | none => none
def absB : D → Option D
  | .int i => some (.int (if i < 0 then -i else i))
  | _ => none
def intB : D → Option D
  | .int i => some (.int i)
  | .bl b => some (.int (if b then 1 else 0))
  | _ => none
def tupB (d : D) : Option D := (seqD d).map .tup
def lstB (d : D) : Option D := (seqD d).map .lst
def sortB (d : D) : Option D := match seqD d with
  | some ds => match intsD ds with
    | some ns => some (.lst ((sortI ns).map .int))
    | none => if srtOk ds then some (.lst (ds.mergeSort leD)) else none
  | none => none
/-- the first of the least -/
def minDs : List D → Option D
  | [] => none
  | x :: xs => if alikeL (x :: xs) && (x :: xs).all isOthT then some (xs.foldl (fun a y => if ltD y a then y else a) x) else none
def minB : D → Option D
  | .lst ds => match intsD ds with
    | some ns => (minI ns).map .int
    | none => minDs ds
  | _ => none
def strB : D → Option D
  | .int i => if i.natAbs.log2 < 1920 then some (.str (toString i)) else none
  | _ => none
def dedup : List Int → List Int
  | [] => []
  | a :: r => if r.contains a then dedup r else a :: dedup r
/-- sorted(set(x)) of ints -/
def sortSetB : D → Option D
  | .lst ds => match intsD ds with
    | some ns => if ns.length < 64 then some (.lst ((sortI (dedup ns)).map .int)) else none
    | none => none
  | _ => none
def pairD : D → Option (D × D)
  | .tup [k, v] => if isKey k then some (k, v) else none
  | _ => none
def pairsD : List D → Option (List D × List D)
  | [] => some ([], [])
  | d :: ds => match pairD d, pairsD ds with
    | some (k, v), some (ks, vs) => some (k :: ks, v :: vs)
    | _, _ => none
def foldPut (ks vs : List D) : List D → List D → List D × List D
  | a :: as, b :: bs => let r := putD a b ks vs; foldPut r.1 r.2 as bs
  | _, _ => (ks, vs)
def dictB : D → Option D
  | .tup ds => (pairsD ds).map fun p => let r := foldPut [] [] p.1 p.2; .dct false r.1 r.2
  | _ => none
def idxD : D → D → Option D
  | .lst ds, .int i => match intsD ds with
    | some ns => if ns.contains i then some (.int (ns.idxOf i : Nat)) else none
    | none => none
  | _, _ => none
def cntD : D → D → Option D
  | .tup ds, .int i => match intsD ds with
    | some ns => some (.int (ns.count i : Nat))
    | none => none
  | _, _ => none
def overI (f : List Int → Option D) : D → Option D
  | .lst ds => match intsD ds with
    | some ns => f ns
    | none => none
  | _ => none
def overB (f : List Bool → Option D) : D → Option D
  | .lst ds => match blsD ds with
    | some ns => f ns
    | none => none
  | _ => none
def twoI (f : Int → Int → Option D) : List D → Option D
  | [.int i, .int j] => f i j
  | _ => none
def lrB : D → Option D
  | .int n => if -(2 ^ 62) ≤ n ∧ n ≤ SZ then some (.lst ((List.range n.toNat).map fun (i : Nat) => D.int i)) else none
  | _ => none
def trB : D → Option D
  | .int n => if -(2 ^ 62) ≤ n ∧ n ≤ SZ then some (.tup ((List.range n.toNat).map fun (i : Nat) => D.int i)) else none
  | _ => none
def biD : Bi → List D → Option D
  | .len => d1 lenB
  | .abs => d1 absB
  | .int => d1 intB
  | .tuple => d1 tupB
  | .list => d1 lstB
  | .sorted => d1 sortB
  | .sum => d1 (overI fun ns => some (.int ns.sum))
  | .all => d1 (overB fun bs => some (.bl (bs.all id)))
  | .any => d1 (overB fun bs => some (.bl (bs.any id)))
  | .max => d1 (overI fun ns => (maxI ns).map .int)
  | .min => d1 minB
  | .str => d1 strB
  | .sortedSet => d1 sortSetB
  | .max2 => twoI fun i j => some (.int (if j > i then j else i))
  | .min2 => twoI fun i j => some (.int (if j < i then j else i))
  | .lrange => d1 lrB
  | .trange => d1 trB
  | _ => fun _ => none
def ixD (n : Nat) (i : Int) : Option Nat := if 0 ≤ i then (if i < n then some i.toNat else none) else if -(n : Int) ≤ i then some (i + n).toNat else none
def subD : D → D → Option D
  | .tup ds, .int i => (ixD ds.length i).bind fun j => ds[j]?
  | .lst ds, .int i => (ixD ds.length i).bind fun j => ds[j]?
  | .dct t ks vs, k => if keyOk t k then lookD k ks vs else none
  | _, _ => none
def bndD (n d : Nat) : D → Option Nat
  | .non => some d
  | .int v => some (if v < 0 then (v + (n : Int)).toNat else min v.toNat n)
  | _ => none
def cutD (ds : List D) (lo hi : D) : Option (List D) :=
  (bndD ds.length 0 lo).bind fun l => (bndD ds.length ds.length hi).map fun h => (ds.drop l).take (h - l)
def slcD : D → D → D → Option D
  | .tup ds, lo, hi => (cutD ds lo hi).map .tup
  | .lst ds, lo, hi => (cutD ds lo hi).map .lst
  | _, _, _ => none
/-- x[lo::-1], lo None or negative -/
def revD : D → D → Option D
  | .tup ds, .non => some (.tup ds.reverse)
  | .lst ds, .non => some (.lst ds.reverse)
  | .lst ds, .int k => if k < 0 ∧ -k ≤ ds.length then some (.lst (ds.take (ds.length + 1 - k.natAbs)).reverse) else none
  | _, _ => none
def get1M : D → List D → Option D
  | .dct t ks vs, [k] => if keyOk t k then some ((lookD k ks vs).getD .non) else none
  | _, _ => none
def get2M : D → List D → Option D
  | .dct t ks vs, [k, x] => if keyOk t k then some ((lookD k ks vs).getD x) else none
  | _, _ => none
def mpD : Mp → D → List D → Option D
  | .get1 => get1M
  | .get2 => get2M
  | _ => fun _ _ => none
/-- the method's value, what the receiver is then -/
def appM : D → List D → Option (D × D)
  | .lst ds, [x] => if ds.length < SZ then some (.non, .lst (ds ++ [x])) else none
  | _, _ => none
def pop0M : D → List D → Option (D × D)
  | .lst ds, [] => ds.getLast?.map fun x => (x, .lst ds.dropLast)
  | _, _ => none
def pop1M : D → List D → Option (D × D)
  | .lst ds, [.int i] => if 0 ≤ i ∧ i < 2 ^ 63 then (ds[i.toNat]?).map fun x => (x, .lst (ds.eraseIdx i.toNat)) else none
  | _, _ => none
def extM : D → List D → Option (D × D)
  | .lst ds, [.lst xs] => if ds.length + xs.length ≤ SZ then some (.non, .lst (ds ++ xs)) else none
  | _, _ => none
def mmD : Mm → D → List D → Option (D × D)
  | .append => appM
  | .pop0 => pop0M
  | .pop1 => pop1M
  | .extend => extM
  | _ => fun _ _ => none
/-- o[k] = v: what o is then -/
def setD : D → D → D → Option D
  | .lst ds, .int i, v => (ixD ds.length i).map fun j => .lst (ds.set j v)
  | .dct t ks vs, k, v => if keyOk t k && decide (ks.length < SZ) then let r := putD k v ks vs; some (.dct t r.1 r.2) else none
  | _, _, _ => none

/-! ### frames -/
inductive Sl where | no | val (d : D) | own (d : D)
abbrev En := List Sl
def getV (env : En) (i : Nat) : Option D := match env[i]? with
  | some (.val d) => some d
  | _ => none
def getO (env : En) (i : Nat) : Option D := match env[i]? with
  | some (.own d) => some d
  | _ => none
def isO (env : En) (i : Nat) : Bool := match env[i]? with
  | some (.own _) => true
  | _ => false
def wipeE (env : En) : List Nat → En
  | [] => env
  | v :: vs => (wipeE env vs).set v .no
/-- the slots vs as they stand in a -/
def backE (a : En) (b : En) : List Nat → En
  | [] => b
  | v :: vs => (backE a b vs).set v (a.getD v .no)
mutual
def putT : TN → D → En → Option En
  | .nm i, d, env => if isO env i then none else if i < env.length then some (env.set i (.val d)) else none
  | .tp ts, .tup ds, env => putTs ts ds env
  | .tp ts, .xtp ds, env => putTs ts ds env
  | .tp _, _, _ => none
def putTs : List TN → List D → En → Option En
  | [], [], env => some env
  | t :: ts, d :: ds, env => (putT t d env).bind (putTs ts ds)
  | _, _, _ => none
end

/-- an operand: a value, or the thing that a slot owns -/
inductive A where | v (d : D) | o (i : Nat)
def resA (env : En) : A → Option D
  | .v d => some d
  | .o i => getO env i
def resAs (env : En) : List A → Option (List D)
  | [] => some []
  | a :: r => (resA env a).bind fun d => (resAs env r).map (d :: ·)

def isDctA (env : En) (a : A) : Bool := match resA env a with
  | some (.dct _ _ _) => true
  | _ => false

abbrev Orc := Nat → List D → Option (D × List D)
/-- which parameters a def changes -/
abbrev Rfs := Nat → List Nat

/-- the slots that stand at the changed parameters -/
def refSlots (as : List A) : List Nat → Option (List Nat)
  | [] => some []
  | j :: js => match as[j]? with
    | some (.o i) => (refSlots as js).map (i :: ·)
    | _ => none
def isOw : A → Bool
  | .o _ => true
  | .v _ => false
/-- some thing that a slot owns is only read by the callee -/
def lent (as : List A) (js : List Nat) : Bool := (List.range as.length).any fun j => (match as[j]? with | some a => isOw a | none => false) && !js.contains j
def readSlots (as : List A) (js : List Nat) : List Nat := (List.range as.length).filterMap fun j => if js.contains j then none else match as[j]? with
  | some (.o i) => some i
  | _ => none
def putOs (env : En) : List Nat → List D → En
  | i :: is, d :: ds => putOs (env.set i (.own d)) is ds
  | _, _ => env
def nodupB : List Nat → Bool
  | [] => true
  | a :: r => !r.contains a && nodupB r
def callE (Φ : Orc) (R : Rfs) (f : Nat) (as : List A) (env : En) : Option (D × En) :=
  match resAs env as, refSlots as (R f) with
  | some ds, some is =>
    if nodupB is && (readSlots as (R f)).all (fun i => !is.contains i) then
      match Φ f ds with
      | some (r, outs) => if outs.length = is.length ∧ (lent as (R f) = false ∨ (noL r = true ∧ outs.all noLc = true)) then some (r, putOs env is outs) else none
      | none => none
    else none
  | _, _ => none

def asB : Option (D × En) → Option (Bool × En)
  | some (.bl b, env) => some (b, env)
  | _ => none

def rngD : List D → Option (List D)
  | [.int n] => if -(2 ^ 62) ≤ n ∧ n ≤ SZ then some ((List.range n.toNat).map fun (i : Nat) => D.int i) else none
  | [.int a, .int b] => if -(2 ^ 62) ≤ a ∧ a < 2 ^ 62 ∧ -(2 ^ 62) ≤ b ∧ b < 2 ^ 62 ∧ b - a ≤ SZ then some ((List.range (b - a).toNat).map fun (i : Nat) => D.int (a + i)) else none
  | [.int a, .int b, .int c] => if c = -1 ∧ -(2 ^ 62) ≤ a ∧ a < 2 ^ 62 ∧ -(2 ^ 62) ≤ b ∧ b < 2 ^ 62 ∧ a - b ≤ SZ then some ((List.range (a - b).toNat).map fun (i : Nat) => D.int (a - i)) else none
  | _ => none
def enuD (ds : List D) : List D := (List.range ds.length).map fun (i : Nat) => D.xtp [.int i, ds.getD i .non]
def zipD (xs ys : List D) : List D := (List.range (min xs.length ys.length)).map fun (i : Nat) => D.xtp [xs.getD i .non, ys.getD i .non]
def itmsD (ks vs : List D) : List D := (List.range ks.length).map fun (i : Nat) => D.xtp [ks.getD i .non, vs.getD i .non]
mutual
def sameD : D → D → Bool
  | .non, .non => true
  | .bl a, .bl b => a == b
  | .int i, .int j => i == j
  | .str x, .str y => x == y
  | .tup xs, .tup ys => sameDs xs ys
  | .lst xs, .lst ys => sameDs xs ys
  | .xtp xs, .xtp ys => sameDs xs ys
  | .dct t ks vs, .dct u ls ws => t == u && sameDs ks ls && sameDs vs ws
  | .fn f, .fn g => f == g
  | _, _ => false
def sameDs : List D → List D → Bool
  | [], [] => true
  | x :: xs, y :: ys => sameD x y && sameDs xs ys
  | _, _ => false
end
/-- the thing walked stands as it stood -/
def gd (a : A) (d : D) (env : En) : Bool := match a with
  | .v _ => true
  | .o i => match getO env i with
    | some e => sameD d e
    | none => false

def opE (e : E) (f : En → Option (D × En)) (env : En) : Option (A × En) := match e with
  | .own i => if isO env i then some (.o i, env) else none
  | _ => match f env with
    | some (d, e1) => some (.v d, e1)
    | none => none
/-- a comprehension's turns -/
def compL (t : TN) (vs : List Nat) (g : En → Bool) (c elt : En → Option (D × En)) : List D → En → Option (List D × En)
  | [], env => if g (wipeE env vs) then some ([], env) else none
  | x :: xs, env =>
    if g (wipeE env vs) then
      match putT t x (wipeE env vs) with
      | none => none
      | some e1 => match asB (c e1) with
        | some (true, e2) => match elt e2 with
          | some (d, e3) => match compL t vs g c elt xs e3 with
            | some (ds, e4) => some (d :: ds, e4)
            | none => none
          | none => none
        | some (false, e2) => compL t vs g c elt xs e2
        | none => none
    else none
/-- .. whose turn is a loop of its own -/
def compB (t : TN) (vs : List Nat) (g : En → Bool) (c : En → Option (D × En)) (elt : En → Option (List D × En)) : List D → En → Option (List D × En)
  | [], env => if g (wipeE env vs) then some ([], env) else none
  | x :: xs, env =>
    if g (wipeE env vs) then
      match putT t x (wipeE env vs) with
      | none => none
      | some e1 => match asB (c e1) with
        | some (true, e2) => match elt e2 with
          | some (d, e3) => match compB t vs g c elt xs e3 with
            | some (ds, e4) => some (d ++ ds, e4)
            | none => none
          | none => none
        | some (false, e2) => compB t vs g c elt xs e2
        | none => none
    else none
def noO (env : En) (vs : List Nat) : Bool := vs.all fun i => !isO env i && decide (i < env.length)
abbrev ItR := Option (List D × (A × D) × En)
def itOf (a : A) (env : En) (f : D → Option (List D)) : ItR := match resA env a with
  | some d => match f d with
    | some ds => some (ds, (a, d), env)
    | none => none
  | none => none
def keysD : D → Option (List D)
  | .tup ds => some ds
  | .lst ds => some ds
  | .dct _ ks _ => some ks
  | .str x => some (x.cps.toList.map fun c => .str ⟨#[c]⟩)
  | _ => none
def dirD : D → Option (List D)
  | .dct false ks vs => if ks.length = vs.length then some (itmsD ks vs) else none
  | _ => none
/-- written arguments in the parameters' order; [] where they stand so -/
def pickA (as : List A) : List Nat → Option (List A)
  | [] => some []
  | j :: js => match as[j]?, pickA as js with
    | some a, some r => some (a :: r)
    | _, _ => none
def permA (pm : List Nat) (as : List A) : Option (List A) := match pm with
  | [] => some as
  | _ => pickA as pm
def evens : List D → List D
  | a :: _ :: r => a :: evens r
  | _ => []
def odds : List D → List D
  | _ :: b :: r => b :: odds r
  | _ => []
/-- a display: keys and values by turns -/
def mkDct (t : Bool) (ds : List D) : Option D :=
  let ks := evens ds
  if ks.all (keyOk t) && decide (ks.length ≤ 15) && (ks.isEmpty || !t) then let r := foldPut [] [] ks (odds ds); some (.dct t r.1 r.2) else none
/-- a display with starred parts -/
def flatS : List D → List Bool → Option (List D)
  | [], [] => some []
  | d :: ds, true :: st => match seqD d, flatS ds st with
    | some xs, some ys => some (xs ++ ys)
    | _, _ => none
  | d :: ds, false :: st => match flatS ds st with
    | some ys => some (d :: ys)
    | none => none
  | _, _ => none
/-- zip of two of a kind, as long -/
def zipB : D → D → Option (List D)
  | .tup xs, .tup ys => if xs.length = ys.length then some (zipD xs ys) else none
  | .lst xs, .lst ys => if xs.length = ys.length then some (zipD xs ys) else none
  | _, _ => none
mutual
def evE (Φ : Orc) (R : Rfs) : E → En → Option (D × En)
  | .var i, env => match getV env i with
    | some d => some (d, env)
    | none => none
  | .own _, _ => none
  | .cst d, env => some (d, env)
  | .tup es, env => match evEs Φ R es env with
    | some (ds, e1) => if ds.length ≤ SZ then some (.tup ds, e1) else none
    | none => none
  | .lst es, env => match evEs Φ R es env with
    | some (ds, e1) => if ds.length ≤ SZ then some (.lst ds, e1) else none
    | none => none
  | .dct t kvs, env => match evEs Φ R kvs env with
    | some (ds, e1) => match mkDct t ds with
      | some d => some (d, e1)
      | none => none
    | none => none
  | .bin op a b, env => match opE a (evE Φ R a) env with
    | some (x, e1) => match opE b (evE Φ R b) e1 with
      | some (y, e2) => match resA e2 x, resA e2 y with
        | some dx, some dy => match binD op dx dy with
          | some d => some (d, e2)
          | none => none
        | _, _ => none
      | none => none
    | none => none
  | .neg a, env => match evE Φ R a env with
    | some (.int i, e1) => some (.int (-i), e1)
    | _ => none
  | .nt a, env => match asB (evE Φ R a env) with
    | some (b, e1) => some (.bl (!b), e1)
    | none => none
  | .an a b, env => match asB (evE Φ R a env) with
    | some (true, e1) => evE Φ R b e1
    | some (false, e1) => some (.bl false, e1)
    | none => none
  | .or a b, env => match asB (evE Φ R a env) with
    | some (true, e1) => some (.bl true, e1)
    | some (false, e1) => evE Φ R b e1
    | none => none
  | .ite c a b, env => match asB (evE Φ R c env) with
    | some (true, e1) => evE Φ R a e1
    | some (false, e1) => evE Φ R b e1
    | none => none
  | .cmp op a b, env => match opE a (evE Φ R a) env with
    | some (x, e1) => match opE b (evE Φ R b) e1 with
      | some (y, e2) => match resA e2 x, resA e2 y with
        | some dx, some dy => match cmpD op dx dy with
          | some k => some (.bl k, e2)
          | none => none
        | _, _ => none
      | none => none
    | none => none
  | .chn op op' a b c, env => match evE Φ R a env with
    | some (x, e1) => match evE Φ R b e1 with
      | some (y, e2) => match cmpD op x y with
        | some true => match evE Φ R c e2 with
          | some (z, e3) => match cmpD op' y z with
            | some k => some (.bl k, e3)
            | none => none
          | none => none
        | some false => some (.bl false, e2)
        | none => none
      | none => none
    | none => none
  | .call f es pm, env => match evAs Φ R es env with
    | some (as, e1) => match permA pm as with
      | some bs => callE Φ R f bs e1
      | none => none
    | none => none
  | .callv i es, env => match getV env i with
    | some (.fn f) => match evAs Φ R es env with
      | some (as, e1) => callE Φ R f as e1
      | none => none
    | _ => none
  | .isi a ts, env => match opE a (evE Φ R a) env with
    | some (x, e1) => match resA e1 x with
      | some d => match isaD d ts with
        | some k => some (k, e1)
        | none => none
      | none => none
    | none => none
  | .bi b es, env => match evAs Φ R es env with
    | some (as, e1) => match resAs e1 as with
      | some ds => match biD b ds with
        | some d => some (d, e1)
        | none => none
      | none => none
    | none => none
  | .mm m i es, env => match getO env i with
    | some (.lst _) => match evEs Φ R es env with
      | some (ds, e1) => match getO e1 i with
        | some d => match mmD m d ds with
          | some (r, d') => some (r, e1.set i (.own d'))
          | none => none
        | none => none
      | none => none
    | _ => none
  | .mp m o es, env => match opE o (evE Φ R o) env with
    | some (x, e1) => if isDctA e1 x then match evEs Φ R es e1 with
      | some (ds, e2) => match resA e2 x with
        | some d => match mpD m d ds with
          | some r => some (r, e2)
          | none => none
        | none => none
      | none => none
      else none
    | none => none
  | .sub a i, env => match opE a (evE Φ R a) env with
    | some (x, e1) => match evE Φ R i e1 with
      | some (k, e2) => match resA e2 x with
        | some d => match subD d k with
          | some r => some (r, e2)
          | none => none
        | none => none
      | none => none
    | none => none
  | .slc a lo hi, env => match opE a (evE Φ R a) env with
    | some (x, e1) => match evE Φ R lo e1 with
      | some (l, e2) => match evE Φ R hi e2 with
        | some (h, e3) => match resA e3 x with
          | some d => match slcD d l h with
            | some r => some (r, e3)
            | none => none
          | none => none
        | none => none
      | none => none
    | none => none
  | .tups es st, env => match evEs Φ R es env with
    | some (ds, e1) => match flatS ds st with
      | some xs => if xs.length ≤ SZ then some (.tup xs, e1) else none
      | none => none
    | none => none
  | .dic a, env => match evE Φ R a env with
    | some (dx, e1) => match dictB dx with
      | some d => some (d, e1)
      | none => none
    | none => none
  | .idx o y, env => match evE Φ R o env with
    | some (dx, e1) => match evE Φ R y e1 with
      | some (dy, e2) => match idxD dx dy with
        | some d => some (d, e2)
        | none => none
      | none => none
    | none => none
  | .cnt o y, env => match evE Φ R o env with
    | some (dx, e1) => match evE Φ R y e1 with
      | some (dy, e2) => match cntD dx dy with
        | some d => some (d, e2)
        | none => none
      | none => none
    | none => none
  | .rev a lo, env => match opE a (evE Φ R a) env with
    | some (x, e1) => match evE Φ R lo e1 with
      | some (l, e2) => match resA e2 x with
        | some d => match revD d l with
          | some r => some (r, e2)
          | none => none
        | none => none
      | none => none
    | none => none
  | .comp elt vs t it c, env => match evIt Φ R it env with
    | some (xs, g, e1) => if noO e1 vs then
        match compL t vs (gd g.1 g.2) (evE Φ R c) (evE Φ R elt) xs e1 with
        | some (ds, e2) => if ds.length ≤ SZ then some (.lst ds, backE e1 e2 vs) else none
        | none => none
      else none
    | none => none
  | .comp2 elt vs t it c vs2 t2 it2 c2, env => match evIt Φ R it env with
    | some (xs, g, e1) => if noO e1 vs then
        match compB t vs (gd g.1 g.2) (evE Φ R c) (fun e => match evIt Φ R it2 e with
          | some (ys, g2, e') => compL t2 vs2 (gd g2.1 g2.2) (evE Φ R c2) (evE Φ R elt) ys e'
          | none => none) xs e1 with
        | some (ds, e2) => if ds.length ≤ SZ then some (.lst ds, backE e1 e2 vs) else none
        | none => none
      else none
    | none => none
  | .dcomp tk k v vs t it c, env => none
def evEs (Φ : Orc) (R : Rfs) : List E → En → Option (List D × En)
  | [], env => some ([], env)
  | e :: es, env => match evE Φ R e env with
    | some (d, e1) => match evEs Φ R es e1 with
      | some (ds, e2) => some (d :: ds, e2)
      | none => none
    | none => none
def evAs (Φ : Orc) (R : Rfs) : List E → En → Option (List A × En)
  | [], env => some ([], env)
  | e :: es, env => match opE e (evE Φ R e) env with
    | some (a, e1) => match evAs Φ R es e1 with
      | some (as, e2) => some (a :: as, e2)
      | none => none
    | none => none
def evIt (Φ : Orc) (R : Rfs) : It → En → ItR
  | .seq e, env => match opE e (evE Φ R e) env with
    | some (a, e1) => itOf a e1 seqD
    | none => none
  | .rng es, env => match evEs Φ R es env with
    | some (ds, e1) => match rngD ds with
      | some xs => some (xs, (.v .non, .non), e1)
      | none => none
    | none => none
  | .enu e, env => match opE e (evE Φ R e) env with
    | some (a, e1) => itOf a e1 fun d => (seqD d).map enuD
    | none => none
  | .zip a b, env => match evE Φ R a env with
    | some (x, e1) => match evE Φ R b e1 with
      | some (y, e2) => match zipB x y with
        | some xs => some (xs, (.v .non, .non), e2)
        | none => none
      | none => none
    | none => none
  | .itms e, env => match opE e (evE Φ R e) env with
    | some (a, e1) => itOf a e1 dirD
    | none => none
end


/-! ### statements -/
inductive Fl where | nx | ret (d : D) | brk | ct
def forL (t : TN) (g : En → Bool) (body : En → Option (Fl × En)) : List D → En → Option (Fl × En)
  | [], env => if g env then some (.nx, env) else none
  | x :: xs, env => if g env then
      match putT t x env with
      | none => none
      | some e1 => match body e1 with
        | some (.nx, e2) => forL t g body xs e2
        | some (.ct, e2) => forL t g body xs e2
        | some (.brk, e2) => some (.nx, e2)
        | some (.ret d, e2) => some (.ret d, e2)
        | none => none
    else none
def whileL (c : En → Option (D × En)) (body : En → Option (Fl × En)) : Nat → En → Option (Fl × En)
  | 0, _ => none
  | n + 1, env => match asB (c env) with
    | some (false, e1) => some (.nx, e1)
    | some (true, e1) => match body e1 with
      | some (.nx, e2) => whileL c body n e2
      | some (.ct, e2) => whileL c body n e2
      | some (.brk, e2) => some (.nx, e2)
      | some (.ret d, e2) => some (.ret d, e2)
      | none => none
    | none => none
def FUEL : Nat := 1099511627776
def isC : D → Bool
  | .lst _ => true
  | .dct _ _ _ => true
  | _ => false
def putS (Φ : Orc) (R : Rfs) : TS → D → En → Option En
  | .tn t, d, env => putT t d env
  | .sb i ix, d, env => if isO env i then match evE Φ R ix env with
    | some (k, e1) => match getO e1 i with
      | some o => match setD o k d with
        | some o' => some (e1.set i (.own o'))
        | none => none
      | none => none
    | none => none
    else none
  | .tps _, _, _ => none
def putSs (Φ : Orc) (R : Rfs) : List TS → List D → En → Option En
  | [], [], env => some env
  | t :: ts, d :: ds, env => match putS Φ R t d env with
    | some e1 => putSs Φ R ts ds e1
    | none => none
  | _, _, _ => none
def putPar : List (Nat × Bool) → List D → En → Option En
  | [], [], env => some env
  | (i, b) :: ts, d :: ds, env => if i < env.length then
      (if b then (if isC d then putPar ts ds (env.set i (.own d)) else none)
       else if isO env i then none else putPar ts ds (env.set i (.val d))) else none
  | _, _, _ => none
/-- what is handed back: own things, and pairs of such, too; not those of the caller -/
def retA (np : Nat) : A → Bool
  | .v _ => true
  | .o i => decide (np ≤ i)
def evR (Φ : Orc) (R : Rfs) (np : Nat) : E → En → Option (D × En)
  | .own i, env => if np ≤ i then (getO env i).map fun d => (d, env) else none
  | .tup es, env => match evAs Φ R es env with
    | some (as, e1) => if as.all (retA np) then match resAs e1 as with
      | some ds => if ds.length ≤ SZ then some (.tup ds, e1) else none
      | none => none
      else none
    | none => none
  | e, env => evE Φ R e env
mutual
def evS (Φ : Orc) (R : Rfs) (np : Nat) : S → En → Option (Fl × En)
  | .exp e, env => match evE Φ R e env with
    | some (_, e1) => some (.nx, e1)
    | none => none
  | .asg (.tps ts) e, env => match evE Φ R e env with
    | some (.tup ds, e1) => (putSs Φ R ts ds e1).map fun e2 => (.nx, e2)
    | _ => none
  | .asg t e, env => match evE Φ R e env with
    | some (d, e1) => (putS Φ R t d e1).map fun e2 => (.nx, e2)
    | none => none
  | .new i e, env => match evE Φ R e env with
    | some (d, e1) => if isC d && decide (np ≤ i) && decide (i < e1.length) then some (.nx, e1.set i (.own d)) else none
    | none => none
  | .par ts es, env => match evEs Φ R es env with
    | some (ds, e1) => if nodupB (ts.map (·.1)) && ts.all (fun t => !t.2 || decide (np ≤ t.1)) then (putPar ts ds e1).map fun e2 => (.nx, e2) else none
    | none => none
  | .ret e, env => match evR Φ R np e env with
    | some (d, e1) => some (.ret d, e1)
    | none => none
  | .ite c a b, env => match asB (evE Φ R c env) with
    | some (true, e1) => evSs Φ R np a e1
    | some (false, e1) => evSs Φ R np b e1
    | none => none
  | .for_ t it b, env => match evIt Φ R it env with
    | some (xs, g, e1) => forL t (gd g.1 g.2) (evSs Φ R np b) xs e1
    | none => none
  | .whl c b, env => whileL (evE Φ R c) (evSs Φ R np b) FUEL env
  | .pass, env => some (.nx, env)
  | .brk, env => some (.brk, env)
  | .cnt, env => some (.ct, env)
  | .bad, _ => none
def evSs (Φ : Orc) (R : Rfs) (np : Nat) : List S → En → Option (Fl × En)
  | [], env => some (.nx, env)
  | s :: ss, env => match evS Φ R np s env with
    | some (.nx, e1) => evSs Φ R np ss e1
    | r => r
end

/-! ### defs -/
structure Df where
  name : Str
  np : Nat
  ns : Nat
  refs : List Nat
  fresh : Bool
  body : List S
def startE (d : Df) (args : List D) : En := ((List.range args.length).map fun i => if d.refs.contains i then Sl.own (args.getD i .non) else .val (args.getD i .non)) ++ List.replicate (d.ns - args.length) .no
def outsE (env : En) : List Nat → Option (List D)
  | [] => some []
  | i :: is => match getO env i, outsE env is with
    | some d, some ds => some (d :: ds)
    | _, _ => none
def rfsOf (ds : List Df) : Rfs := fun f => match ds[f]? with
  | some d => d.refs
  | none => []
def runD (ds : List Df) (Φ : Orc) (d : Df) (args : List D) : Option (D × List D) :=
  if args.length = d.np then
    match evSs Φ (rfsOf ds) d.np d.body (startE d args) with
    | some (.ret r, env) => (outsE env d.refs).map fun os => (r, os)
    | some (.nx, env) => (outsE env d.refs).map fun os => (.non, os)
    | _ => none
  else none
def callD (ds : List Df) : Nat → Orc
  | 0 => fun _ _ => none
  | n + 1 => fun f args => match ds[f]? with
    | some d => runD ds (callD ds n) d args
    | none => none
end Qx
set_option Elab.async false
set_option linter.all false
/-! QComp: from the text to the own syntax. -/
namespace Qx
open PySem
inductive GV where | fn (i : Nat) | cst (d : D)
structure Cc where
  /-- names by slot; those whose things the def changes in place; dicts with tuple keys -/
  N : List Str
  O : List Str
  T : List Str
  G : List (Str × GV)
  /-- which defs hand back a new thing of their own -/
  F : Nat → Bool
  /-- the parameters of the defs -/
  P : Nat → List Str
  /-- does this def hand back a new thing? -/
  fr : Bool
def ixOf (N : List Str) (x : Str) : Option Nat := match N with
  | [] => none
  | y :: r => if y = x then some 0 else (ixOf r x).map (· + 1)
/-- a name of the def that a scope sees -/
def seen (sc : Scope) (x : Str) : Bool := match sc.names.lookup x with
  | some .local => true
  | some .cell => true
  | some .free => true
  | _ => false
def isGl (sc : Scope) (x : Str) : Bool := match sc.names.lookup x with
  | some .globalImplicit => true
  | _ => false
def cName (C : Cc) (sc : Scope) (x : Str) : Option E :=
  if seen sc x then (ixOf C.N x).map fun i => if C.O.contains x then .own i else .var i
  else if isGl sc x then match C.G.lookup x with
    | some (.fn i) => some (.cst (.fn i))
    | some (.cst d) => some (.cst d)
    | none => none
  else none
/-- a built-in's name -/
def isBl (C : Cc) (sc : Scope) (x : Str) : Bool := isGl sc x && (C.G.lookup x).isNone
def cBop : Operator → Option Bop
  | .Add => some .add | .Sub => some .sub | .Mult => some .mul | .FloorDiv => some .fdiv | .Mod => some .mod | .Pow => some .pow
  | .LShift => some .shl | .RShift => some .shr | .BitAnd => some .band | .BitOr => some .bor
  | _ => none
def cCop : CmpOp → Cop
  | .Eq => .eq | .NotEq => .ne | .Lt => .lt | .LtE => .le | .Gt => .gt | .GtE => .ge
  | .Is => .is | .IsNot => .isn | .In => .inn | .NotIn => .nin
def cTyN (x : Str) : Option Ty := if x = "int" then some .int else if x = "bool" then some .bool else if x = "str" then some .str else if x = "tuple" then some .tuple else if x = "list" then some .list else if x = "dict" then some .dict else none
def cTy (C : Cc) (sc : Scope) : Expr → Option Ty
  | .Name x _ => if isBl C sc x then cTyN x else none
  | _ => none
def okNm (x : Str) : Bool := !(x == ("__debug__" : Str)) && !(x == ("__classdict__" : Str)) && !(x == ("__name__" : Str))
def cBi (x : Str) : Nat → Option Bi
  | 1 => if x = "len" then some .len else if x = "abs" then some .abs else if x = "int" then some .int else if x = "tuple" then some .tuple else if x = "list" then some .list
    else if x = "sorted" then some .sorted else if x = "sum" then some .sum else if x = "all" then some .all else if x = "any" then some .any else if x = "max" then some .max else if x = "min" then some .min else if x = "str" then some .str else none
  | 2 => if x = "max" then some .max2 else if x = "min" then some .min2 else none
  | _ => none
def nodupS : List Str → Bool
  | [] => true
  | a :: r => !r.contains a && nodupS r
/-- all or none -/
def allS {α : Type} : List (Option α) → Option (List α)
  | [] => some []
  | some a :: r => (allS r).map (a :: ·)
  | none :: _ => none
def isLoc (sc : Scope) (x : Str) : Bool := match sc.names.lookup x with
  | some .local => true
  | some .cell => true
  | _ => false
def cTN (C : Cc) (sc : Scope) : Nat → Expr → Option TN
  | 0, _ => none
  | n + 1, .Name x _ => if isLoc sc x && !C.O.contains x then (ixOf C.N x).map .nm else none
  | n + 1, .Tuple es _ _ => (allS (es.map (cTN C sc n))).map .tp
  | _, _ => none
mutual
def namesT : TN → List Nat
  | .nm i => [i]
  | .tp ts => namesTs ts
def namesTs : List TN → List Nat
  | [] => []
  | t :: ts => namesT t ++ namesTs ts
end
def kwPos (ps : List Str) (npos : Nat) (kws : List Str) : Option (List Nat) :=
  allS ((List.range ps.length).map fun j => if j < npos then some j else (ixOf kws (ps.getD j "")).map (· + npos))
def isTupE : Expr → Bool
  | .Tuple _ _ _ => true
  | _ => false
def okNode : Expr → Bool
  | .Starred _ _ => false
  | .Set _ _ _ => false
  | _ => true
def isSup : Expr → Bool
  | .Call _ _ _ _ => true
  | _ => false
def cBool (op : BoolOp) (x : E) : List E → E
  | [] => x
  | y :: r => match op with | .And => .an x (cBool op y r) | .Or => .or x (cBool op y r)
def cBools (op : BoolOp) : List E → Option E
  | x :: y :: r => some (cBool op x (y :: r))
  | _ => none
def cConst : Const → Option E
  | .int i => some (.cst (.int i))
  | .bool b => some (.cst (.bl b))
  | .str s => some (.cst (.str s))
  | .none => some (.cst .non)
  | _ => none
/-- the argument of range, in list(range(a)) -/
def rgArg (C : Cc) (sc : Scope) : List Expr → Option Expr
  | [.Call (.Name g _) [a] [] _] => if isBl C sc g && g = "range" then some a else none
  | _ => none
def cTys (C : Cc) (sc : Scope) : Expr → Option (List Ty)
  | .Tuple ts _ _ => if ts.length ≤ 10 then allS (ts.map (cTy C sc)) else none
  | t => (cTy C sc t).map fun u => [u]
/-- the argument of set, in sorted(set(a)) -/
def setArg (C : Cc) (sc : Scope) : List Expr → Option Expr
  | [.Call (.Name g _) [a] [] _] => if isBl C sc g && g = "set" then some a else none
  | _ => none
def isStE : Expr → Bool
  | .Starred _ _ => true
  | _ => false
def unSt : Expr → Expr
  | .Starred e _ => e
  | e => e
/-- x, in x.items() -/
def itmsOf : Expr → Option Str
  | .Call f args kws cp => match f, args, kws with
    | .Attribute o m ap, [], [] => (match o with
      | .Name x _ => if m = "items" && ap.endLine == cp.line then some x else none
      | _ => none)
    | _, _, _ => none
  | _ => none
/-- 1: range(..), 2: enumerate(..), 3: zip(..) -/
def itKind (C : Cc) (sc : Scope) : Expr → Nat
  | .Call (.Name f _) _ [] _ => if isBl C sc f then (if f = "range" then 1 else if f = "enumerate" then 2 else if f = "zip" then 3 else 0) else 0
  | _ => 0
def itArgs : Expr → List Expr
  | .Call _ args _ _ => args
  | _ => []
def names1 (N : List Str) (t : TN) : List (Str × Nat) := (namesT t).map fun i => (N.getD i "", i)
/-- what makes a list or dict of its own -/
def frE (F : Nat → Bool) : E → Bool
  | .lst _ => true
  | .dct _ _ => true
  | .comp _ _ _ _ _ => true
  | .comp2 _ _ _ _ _ _ _ _ _ => true
  | .bi .list _ => true
  | .bi .sorted _ => true
  | .bi .lrange _ => true
  | .bi .sortedSet _ => true
  | .bin .add _ _ => true
  | .slc _ _ _ => true
  | .rev _ _ => true
  | .call f _ _ => F f
  | .ite _ a b => frE F a && frE F b
  | _ => false
def noItI : It → Bool
  | .itms _ => false
  | _ => true
def noItm : E → Bool
  | .comp _ _ _ it _ => noItI it
  | _ => true
mutual
def cE (C : Cc) : Nat → Scope → Expr → Option E
  | 0, _, _ => none
  | n + 1, sc, e => match e with
    | .Name x _ => if okNm x then cName C sc x else none
    | .Constant c _ _ => cConst c
    | .Tuple es _ _ => if es.any isStE then (cEs C n sc (es.map unSt)).map fun cs => .tups cs (es.map isStE) else (cEs C n sc es).map .tup
    | .List es _ => (cEs C n sc es).map .lst
    | .Dict ks vs _ => if ks.length ≤ 15 then (match ks, vs with
      | [], [] => some (.dct false [])
      | _, _ => (cKs C n sc ks vs).map (.dct false)) else none
    | .BinOp a op b _ => match cBop op, cE C n sc a, cE C n sc b with
      | some o, some x, some y => some (.bin o x y)
      | _, _, _ => none
    | .UnaryOp op a _ => match op with
      | .USub => (cE C n sc a).map .neg
      | .Not => (cE C n sc a).map .nt
      | _ => none
    | .BoolOp op es _ => (cEs C n sc es).bind (cBools op)
    | .IfExp c a b _ => match cE C n sc c, cE C n sc a, cE C n sc b with
      | some z, some x, some y => some (.ite z x y)
      | _, _, _ => none
    | .Compare a ops bs _ => match ops, bs with
      | [op], [b] => (match cE C n sc a, cE C n sc b with
        | some x, some y => some (.cmp (cCop op) x y)
        | _, _ => none)
      | [op, op'], [b, c] => (match cE C n sc a, cE C n sc b, cE C n sc c with
        | some x, some y, some z => some (.chn (cCop op) (cCop op') x y z)
        | _, _, _ => none)
      | _, _ => none
    | .Subscript a i _ => match i with
      | .Slice lo hi st _ => (match st with
        | none => (match cE C n sc a, cO C n sc lo, cO C n sc hi with
          | some x, some l, some h => some (.slc x l h)
          | _, _, _ => none)
        | some (.UnaryOp .USub (.Constant (.int 1) _ _) _) => (match hi with
          | none => (match cE C n sc a, cO C n sc lo with
            | some x, some l => some (.rev x l)
            | _, _ => none)
          | some _ => none)
        | some _ => none)
      | _ => match cE C n sc a, cE C n sc i with
        | some x, some y => some (.sub x y)
        | _, _ => none
    | .ListComp elt gs s2 _ => match gs with
      | [⟨t, it, ifs, 0⟩] => (match cTN C s2 8 t, cIt C n sc t it, cIf C n s2 ifs, cE C n s2 elt with
        | some t', some it', some c, some x => if L2.blkC C.N sc s2 (names1 C.N t') then some (.comp x (namesT t') t' it' c) else none
        | _, _, _, _ => none)
      | [⟨t, it, ifs, 0⟩, ⟨t2, it2, ifs2, 0⟩] => (match cTN C s2 8 t, cIt C n sc t it, cIf C n s2 ifs with
        | some t', some it', some c => (match cTN C s2 8 t2, cIt C n s2 t2 it2, cIf C n s2 ifs2, cE C n s2 elt with
          | some t2', some it2', some c2, some x => if L2.blkC C.N sc s2 (names1 C.N t' ++ names1 C.N t2') && noItI it' && noItI it2' then some (.comp2 x (namesT t' ++ namesT t2') t' it' c (namesT t2') t2' it2' c2) else none
          | _, _, _, _ => none)
        | _, _, _ => none)
      | _ => none
    | .Call fe args kws pos => match fe with
      | .Name f _ => if okNm f && isGl sc f then (match C.G.lookup f with
        | some (.fn g) => (match kws with
          | [] => (cEs C n sc args).map fun es => .call g es []
          | _ => match args with
            | [] => (match cKw C n sc kws, kwPos (C.P g) 0 (kws.filterMap (·.arg)) with
              | some es, some pm => if nodupS (kws.filterMap (·.arg)) && decide ((kws.filterMap (·.arg)).length = (C.P g).length) && !pm.isEmpty && ((kws.filterMap (·.arg)).all fun k => (C.P g).contains k) then some (.call g es pm) else none
              | _, _ => none)
            | _ => none)
        | some (.cst _) => none
        | none => match kws with
          | [] => if f = "isinstance" then (match args with
              | [a, t] => (match cE C n sc a, cTys C sc t with
                | some x, some us => some (.isi x us)
                | _, _ => none)
              | _ => none)
            else if f = "dict" then (match args with
              | [a] => (cE C n sc a).map .dic
              | _ => none)
            else (match setArg C sc args with
              | some a => if f = "sorted" then (cE C n sc a).map fun x => .bi .sortedSet [x] else none
              | none => match rgArg C sc args with
              | some a => if f = "list" then (cE C n sc a).map fun x => .bi .lrange [x] else if f = "tuple" then (cE C n sc a).map fun x => .bi .trange [x] else none
              | none => (match cBi f args.length with
                | some b => (cEs C n sc args).map (.bi b)
                | none => none))
          | _ => none)
        else if okNm f && seen sc f && !C.O.contains f && kws.isEmpty && !args.isEmpty then (match ixOf C.N f, cEs C n sc args with
          | some i, some es => some (.callv i es)
          | _, _ => none)
        else none
      | .Attribute o m apos => if apos.endLine == pos.line && kws.isEmpty then (match args with
        | [] => if m = "pop" then (match o with
            | .Name x _ => if okNm x && seen sc x && C.O.contains x then (ixOf C.N x).map fun i => .mm .pop0 i [] else none
            | _ => none) else none
        | [a] => if m = "append" then (match o, cE C n sc a with
            | .Name x _, some y => if okNm x && seen sc x && C.O.contains x then (ixOf C.N x).map fun i => .mm .append i [y] else none
            | _, _ => none)
          else if m = "pop" then (match o, cE C n sc a with
            | .Name x _, some y => if okNm x && seen sc x && C.O.contains x then (ixOf C.N x).map fun i => .mm .pop1 i [y] else none
            | _, _ => none)
          else if m = "get" && !isSup o then (match cE C n sc o, cE C n sc a with
            | some x, some y => some (.mp .get1 x [y])
            | _, _ => none)
          else if m = "index" && !isSup o then (match cE C n sc o, cE C n sc a with
            | some x, some y => some (.idx x y)
            | _, _ => none)
          else if m = "count" && !isSup o then (match cE C n sc o, cE C n sc a with
            | some x, some y => some (.cnt x y)
            | _, _ => none)
          else if m = "extend" then (match o, cE C n sc a with
            | .Name x _, some y => if okNm x && seen sc x && C.O.contains x && frE C.F y then (ixOf C.N x).map fun i => .mm .extend i [y] else none
            | _, _ => none)
          else none
        | [a, b] => if m = "get" && !isSup o then (match cE C n sc o, cE C n sc a, cE C n sc b with
            | some x, some y, some z => some (.mp .get2 x [y, z])
            | _, _, _ => none)
          else none
        | _ => none)
        else none
      | _ => none
    | _ => none
def cEs (C : Cc) : Nat → Scope → List Expr → Option (List E)
  | 0, _, _ => none
  | n + 1, sc, es => match es with
    | [] => some []
    | e :: r => match cE C n sc e, cEs C n sc r with
        | some x, some xs => some (x :: xs)
        | _, _ => none
def cKs (C : Cc) : Nat → Scope → List (Option Expr) → List Expr → Option (List E)
  | 0, _, _, _ => none
  | n + 1, sc, ks, vs => match ks, vs with
    | [], [] => some []
    | some k :: ks, v :: vs => (match cE C n sc k, cE C n sc v, cKs C n sc ks vs with
      | some a, some b, some r => some (a :: b :: r)
      | _, _, _ => none)
    | _, _ => none
def cKw (C : Cc) : Nat → Scope → List Keyword → Option (List E)
  | 0, _, _ => none
  | n + 1, sc, ks => match ks with
    | [] => some []
    | ⟨some _, e, _⟩ :: r => (match cE C n sc e, cKw C n sc r with
      | some x, some xs => some (x :: xs)
      | _, _ => none)
    | _ => none
def cO (C : Cc) : Nat → Scope → Option Expr → Option E
  | 0, _, _ => none
  | n + 1, sc, none => some (.cst .non)
  | n + 1, sc, some e => cE C n sc e
def cIf (C : Cc) : Nat → Scope → List Expr → Option E
  | 0, _, _ => none
  | n + 1, sc, [] => some (.cst (.bl true))
  | n + 1, sc, [e] => cE C n sc e
  | _, _, _ => none
def cIt (C : Cc) : Nat → Scope → Expr → Expr → Option It
  | 0, _, _, _ => none
  | n + 1, sc, t, e => match itKind C sc e with
    | 1 => (match itArgs e with
      | [a] => (cE C n sc a).map fun x => .rng [x]
      | [a, b] => (match cE C n sc a, cE C n sc b with
        | some x, some y => some (.rng [x, y])
        | _, _ => none)
      | [a, b, c] => (match cE C n sc a, cE C n sc b, cE C n sc c with
        | some x, some y, some z => some (.rng [x, y, z])
        | _, _, _ => none)
      | _ => none)
    | 2 => if isTupE t then (match itArgs e with
      | [a] => (cE C n sc a).map .enu
      | _ => none) else none
    | 3 => if isTupE t then (match itArgs e with
      | [a, b] => (match cE C n sc a, cE C n sc b with
        | some x, some y => some (.zip x y)
        | _, _ => none)
      | _ => none) else none
    | _ => match itmsOf e with
      | some x => if isTupE t && okNm x && seen sc x && !C.O.contains x then (ixOf C.N x).map fun i => .itms (.var i) else none
      | none => (cE C n sc e).map .seq
end

def swF (loc : Str → Bool) (line : Nat) : Expr → Option Str
  | .Name id pos => if loc id && pos.line == line then some id else none
  | _ => none
def swNames (loc : Str → Bool) (ts : List Expr) : List Str := ts.filterMap (swF loc ((ts.head?.map (·.pos.line)).getD 0))
def isStarB : Expr → Bool
  | .Starred _ _ => true
  | _ => false
def swk (fn : Bool) (loc : Str → Bool) (ts vs : List Expr) : Nat :=
  if !(ts.length == 2 || ts.length == 3) || vs.length != ts.length || !fn then 0
  else if vs.any isStarB then 0
  else if (swNames loc ts).length != ts.length || (swNames loc ts).eraseDups.length != (swNames loc ts).length then 0
  else if vs.all (foldedForSure 8) then 0 else if vs.all (constantsAlone 8) then 2 else 1
def locB (sc : Scope) (x : Str) : Bool := match sc.names.lookup x with
  | some .local => true
  | _ => false
def isLC : Expr → Bool
  | .ListComp _ _ _ _ => true
  | .SetComp _ _ _ _ => true
  | .DictComp _ _ _ _ _ => true
  | _ => false
def cTS (C : Cc) (n : Nat) (sc : Scope) : Expr → Option TS
  | .Name x _ => if isLoc sc x && !C.O.contains x then (ixOf C.N x).map fun i => .tn (.nm i) else none
  | .Subscript o ix _ => match o with
    | .Name x _ => if okNm x && seen sc x && C.O.contains x then (match ixOf C.N x, cE C n sc ix with
      | some i, some y => some (.sb i y)
      | _, _ => none)
      else none
    | _ => none
  | _ => none
/-- plain names, each with whether it owns -/
def cPar (C : Cc) (sc : Scope) : List Expr → Option (List (Nat × Bool))
  | [] => some []
  | t :: r => match t with
    | .Name x _ => if isLoc sc x then (match ixOf C.N x, cPar C sc r with
      | some i, some is => some ((i, C.O.contains x) :: is)
      | _, _ => none)
      else none
    | _ => none
def freshAll (F : Nat → Bool) : List (Nat × Bool) → List E → Bool
  | (_, true) :: ts, e :: es => frE F e && freshAll F ts es
  | (_, false) :: ts, _ :: es => freshAll F ts es
  | [], [] => true
  | _, _ => false
def namesLoc (sc : Scope) (ts : List Expr) : Bool := ts.all fun t => match t with
  | .Name x _ => isLoc sc x
  | _ => true
def isOwn : E → Bool
  | .own _ => true
  | _ => false
def isTupC : E → Bool
  | .tup _ => true
  | _ => false
mutual
/-- may slot i get a new thing of its own? -/
def newS (i : Nat) : S → Bool
  | .new j _ => i == j
  | .par ts _ => ts.any fun t => t.1 == i && t.2
  | .ite _ a b => newSs i a || newSs i b
  | .for_ _ _ b => newSs i b
  | .whl _ b => newSs i b
  | _ => false
def newSs (i : Nat) : List S → Bool
  | [] => false
  | s :: r => newS i s || newSs i r
end
def itOwn : It → Option Nat
  | .seq (.own i) => some i
  | .enu (.own i) => some i
  | _ => none
def noNew (it : It) (b : List S) : Bool := match itOwn it with
  | some i => !newSs i b
  | none => true
def isDict0 : Expr → Bool
  | .Dict ks vs _ => ks.isEmpty && vs.isEmpty
  | _ => false
def cR (C : Cc) (n : Nat) (sc : Scope) (e : Expr) : Option E := match e with
  | .Name x _ => if okNm x && seen sc x && C.O.contains x then (ixOf C.N x).map .own else (match cE C n sc e with
    | some c => if isOwn c || isTupC c || (C.fr && !frE C.F c) then none else some c
    | none => none)
  | .Tuple es _ _ => (cEs C n sc es).map .tup
  | _ => (match cE C n sc e with
    | some c => if isOwn c || isTupC c || (C.fr && !frE C.F c) then none else some c
    | none => none)
def cAs (C : Cc) (n : Nat) (sc : Scope) (t e : Expr) : Option S := match t with
  | .Name x _ => if isLoc sc x then (match ixOf C.N x with
    | some i => if C.O.contains x then
        (if isDict0 e then some (.new i (.dct (C.T.contains x) [])) else (match cE C n sc e with
          | some y => if frE C.F y && noItm y then some (.new i y) else none
          | none => none))
      else (match cE C n sc e with
        | some y => if noItm y then some (.asg (.tn (.nm i)) y) else none
        | none => none)
    | none => none)
    else none
  | .Subscript _ _ _ => (match cTS C n sc t, cE C n sc e with
    | some u, some y => some (.asg u y)
    | _, _ => none)
  | .Tuple ts _ _ => (match e with
    | .Tuple vs _ _ => (match cPar C sc ts with
      | some is => (match cEs C n sc vs with
        | some es => if freshAll C.F is es && decide (swk true (locB sc) ts vs ≤ 1) && decide (is.length ≤ 100) then some (.par is es) else none
        | none => none)
      | none => (match allS (ts.map (cTS C n sc)), cEs C n sc vs with
        | some us, some es => if decide (swk true (locB sc) ts vs = 0) && namesLoc sc ts then some (.asg (.tps us) (.tup es)) else none
        | _, _ => none))
    | _ => (match cTN C sc 8 t, cE C n sc e with
      | some (.tp us), some y => some (.asg (.tn (.tp us)) y)
      | none, some y => (match allS (ts.map (cTS C n sc)) with
        | some us => some (.asg (.tps us) y)
        | none => none)
      | _, _ => none))
  | _ => none
mutual
def cS (C : Cc) : Nat → Scope → Stmt → Option S
  | 0, _, _ => none
  | n + 1, sc, st => match st with
    | .Expr e _ => if isLC e then none else (cE C n sc e).map .exp
    | .Return oe _ => (match oe with
      | none => some (.ret (.cst .non))
      | some e => (cR C n sc e).map .ret)
    | .Assign ts e _ => (match ts with
      | [t] => cAs C n sc t e
      | _ => none)
    | .If c a b _ => (match cE C n sc c, cSs C n sc a, cSs C n sc b with
      | some x, some y, some z => some (.ite x y z)
      | _, _, _ => none)
    | .For t it b els _ => (match els with
      | [] => (match itmsOf it with
        | some x => if isTupE t && okNm x && seen sc x && !C.O.contains x then (match ixOf C.N x, cTN C sc 8 t, cSs C n sc b with
          | some i, some t', some b' => some (.for_ t' (.itms (.var i)) b')
          | _, _, _ => none)
          else none
        | none => (match cTN C sc 8 t, cIt C n sc t it, cSs C n sc b with
          | some t', some it', some b' => if noNew it' b' && noItI it' then some (.for_ t' it' b') else none
          | _, _, _ => none))
      | _ => none)
    | .While c b els _ => (match els with
      | [] => (match cE C n sc c, cSs C n sc b with
        | some x, some y => some (.whl x y)
        | _, _ => none)
      | _ => none)
    | .Pass _ => some .pass
    | .Break _ => some .brk
    | .Continue _ => some .cnt
    | .Raise _ _ _ => some .bad
    | _ => none
def cSs (C : Cc) : Nat → Scope → List Stmt → Option (List S)
  | 0, _, _ => none
  | n + 1, sc, ss => match ss with
    | [] => some []
    | s :: r => (match cS C n sc s, cSs C n sc r with
      | some x, some xs => some (x :: xs)
      | _, _ => none)
end
/-! ### a program -/
structure Hint where
  /-- the def's place among the top's statements, its names by slot (parameters first), the owned ones, dicts with tuple keys -/
  at_ : Nat
  np : Nat
  N : List Str
  O : List Str
  T : List Str
  fresh : Bool
def topOf (b : List Stmt) (i : Nat) : Stmt := b.getD i (.Pass ⟨0, 0, 0, 0⟩)
def refsOf (h : Hint) : List Nat := (List.range h.np).filter fun i => h.O.contains (h.N.getD i "")
def ccOf (hs : List Hint) (G : List (Str × GV)) (h : Hint) : Cc :=
  ⟨h.N, h.O, h.T, G, fun f => match hs[f]? with | some g => g.fresh | none => false, fun f => match hs[f]? with | some g => g.N.take g.np | none => [], h.fresh⟩
def cDf (hs : List Hint) (G : List (Str × GV)) (b : List Stmt) (h : Hint) : Option Df := match topOf b h.at_ with
  | .FunctionDef name _ body _ _ _ sc _ _ _ => (cSs (ccOf hs G h) 200 sc body).map fun ss => ⟨name, h.np, h.N.length, refsOf h, h.fresh, ss⟩
  | _ => none
def cProg (hs : List Hint) (G : List (Str × GV)) (b : List Stmt) : Option (List Df) := allS (hs.map (cDf hs G b))
end Qx
set_option Elab.async false
set_option linter.all false
set_option maxRecDepth 100000
/-! QRel: how plain data stand in the abstract heap. -/
namespace Qx
open PySem PySem.Spec L2

def dK : Key → D
  | .inl i => .int i
  | .inr x => .str x
def dKs (k : List Key) : D := .tup (k.map dK)
/-- the part of the ground that data hang on: the written part, where the defs stand -/
structure Gd where
  K : PySem.W.Frag
  fa : Nat → Option Addr
abbrev AdP := Addr → Prop
/-- a list, a tuple that stands still -/
def KL (K : PySem.W.Frag) (a : Addr) (xs : List V) : Prop := ∃ (o : Obj) (its : Array Value) (n : Nat), K.lookup a = some o ∧ o.cls = .type "list" ∧ o.dict = none ∧ o.data = .seq its n ∧ its.size ≤ sizeLine ∧ Vals xs its.toList
def SqLm (G : Gd) (m : AdP) (H : Hp) (a : Addr) (xs : List V) : Prop := (Rd H a (.lst xs) ∧ ¬ m a) ∨ KL G.K a xs
/-- a tuple whose object is known -/
def TupX (H : Hp) (a : Addr) (xs : List V) : Prop := ∃ o : Obj, H a = some (.frz o (.tup xs)) ∧ o.dict = none
def SqTm (G : Gd) (m : AdP) (H : Hp) (a : Addr) (xs : List V) : Prop := TupX H a xs ∧ ¬ m a
/-- a pair that a loop hands out -/
def SqTw (G : Gd) (m : AdP) (H : Hp) (a : Addr) (xs : List V) : Prop := Rd H a (.tup xs) ∧ ¬ m a
theorem TupX.rd {H : Hp} {a : Addr} {xs : List V} (h : TupX H a xs) : Rd H a (.tup xs) := let ⟨o, e, _⟩ := h; .inr ⟨o, e⟩
theorem SqLm.sq {G : Gd} {m : AdP} {H : Hp} {a : Addr} {xs : List V} (h : SqLm G m H a xs) : SqL G.K H a xs := h.imp (fun z => z.1) id
theorem SqTm.w {G : Gd} {m : AdP} {H : Hp} {a : Addr} {xs : List V} (h : SqTm G m H a xs) : SqTw G m H a xs := ⟨h.1.rd, h.2⟩
theorem SqTw.sq {G : Gd} {m : AdP} {H : Hp} {a : Addr} {xs : List V} (h : SqTw G m H a xs) : SqT G.K H a xs := .inl h.1
theorem SqTm.sq {G : Gd} {m : AdP} {H : Hp} {a : Addr} {xs : List V} (h : SqTm G m H a xs) : SqT G.K H a xs := h.w.sq
mutual
def Rep (G : Gd) (m : AdP) (H : Hp) : D → V → Prop
  | .non, v => v = .non
  | .bl b, v => v = .bl b
  | .int i, v => v = .int i
  | .str x, v => v = .str x
  | .fn f, v => ∃ a, v = .ref a ∧ G.fa f = some a
  | .tup ds, v => ∃ a xs, v = .ref a ∧ SqTm G m H a xs ∧ Reps G m H ds xs
  | .xtp ds, v => ∃ a xs, v = .ref a ∧ SqTw G m H a xs ∧ Reps G m H ds xs
  | .lst ds, v => ∃ a xs, v = .ref a ∧ SqLm G m H a xs ∧ Reps G m H ds xs
  | .dct false ks vs, v => ∃ a kvs, v = .ref a ∧ Rd H a (.dK kvs) ∧ ¬ m a ∧ ks = kvs.map (fun p => dK p.1) ∧ Reps G m H vs (kvs.map (·.2))
  | .dct true ks vs, v => ∃ a kvs, v = .ref a ∧ Rd H a (.dT kvs) ∧ ¬ m a ∧ ks = kvs.map (fun p => dKs p.1) ∧ Reps G m H vs (kvs.map (·.2))
def Reps (G : Gd) (m : AdP) (H : Hp) : List D → List V → Prop
  | [], xs => xs = []
  | d :: ds, xs => ∃ v vs, xs = v :: vs ∧ Rep G m H d v ∧ Reps G m H ds vs
end
/-- what a slot owns stands at a -/
def OwnAt (G : Gd) (m : AdP) (H : Hp) (a : Addr) : D → Prop
  | .lst ds => ∃ xs, H a = some (.lst xs) ∧ Reps G m H ds xs
  | .dct false ks vs => ∃ kvs, H a = some (.dK kvs) ∧ ks = kvs.map (fun p => dK p.1) ∧ Reps G m H vs (kvs.map (·.2))
  | .dct true ks vs => ∃ kvs, H a = some (.dT kvs) ∧ ks = kvs.map (fun p => dKs p.1) ∧ Reps G m H vs (kvs.map (·.2))
  | _ => False
/-- an operand's thing, still or owned -/
def Vw (G : Gd) (m : AdP) (H : Hp) (d : D) (v : V) : Prop := Rep G m H d v ∨ ∃ a, v = .ref a ∧ OwnAt G m H a d

section
variable {G : Gd} {m m' : AdP} {H H' : Hp}
theorem Rd.sqL {K : PySem.W.Frag} {a : Addr} {xs : List V} (h : Rd H a (.lst xs)) : SqL K H a xs := .inl h
/-- what a step leaves: things that are not to be changed stand; the new marks are of new things -/
structure Kp (m m' : AdP) (H H' : Hp) : Prop where
  keep : ∀ a o, H a = some o → ¬ m a → H' a = some o
  new : ∀ a, m' a → m a ∨ H a = none
theorem Kp.refl : Kp m m H H := ⟨fun _ _ h _ => h, fun _ h => .inl h⟩
theorem Rd.live {a : Addr} {o : HO} (h : Rd H a o) : H a ≠ none := by
  rcases h with h | ⟨o, h⟩ <;> rw [h] <;> exact fun z => nomatch z
theorem Kp.rd {a : Addr} {o : HO} (k : Kp m m' H H') (h : Rd H a o) (n : ¬ m a) : Rd H' a o ∧ ¬ m' a := by
  refine ⟨?_, fun z => ?_⟩
  · rcases h with h | ⟨ob, h⟩
    · exact .inl (k.keep _ _ h n)
    · exact .inr ⟨ob, k.keep _ _ h n⟩
  · rcases k.new a z with z | z
    · exact n z
    · exact Rd.live h z
theorem Kp.sqL {a : Addr} {xs : List V} (k : Kp m m' H H') (h : SqLm G m H a xs) : SqLm G m' H' a xs := h.imp (fun z => k.rd z.1 z.2) id
theorem Kp.sqTw {a : Addr} {xs : List V} (k : Kp m m' H H') (h : SqTw G m H a xs) : SqTw G m' H' a xs := k.rd h.1 h.2
theorem Kp.tupX {a : Addr} {xs : List V} (k : Kp m m' H H') (h : TupX H a xs ∧ ¬ m a) : TupX H' a xs ∧ ¬ m' a := let ⟨⟨o, e, d⟩, n⟩ := h; ⟨⟨o, k.keep _ _ e n, d⟩, (k.rd (.inr ⟨o, e⟩) n).2⟩
theorem Kp.sqT {a : Addr} {xs : List V} (k : Kp m m' H H') (h : SqTm G m H a xs) : SqTm G m' H' a xs := k.tupX h
mutual
theorem Rep.mono (k : Kp m m' H H') : ∀ (d : D) (v : V), Rep G m H d v → Rep G m' H' d v
  | .non, _, h => by simpa only [Rep] using h
  | .bl _, _, h => by simpa only [Rep] using h
  | .int _, _, h => by simpa only [Rep] using h
  | .str _, _, h => by simpa only [Rep] using h
  | .fn _, _, h => by simpa only [Rep] using h
  | .tup ds, _, h => by
    simp only [Rep] at h ⊢
    obtain ⟨a, xs, e, h1, h2⟩ := h
    exact ⟨a, xs, e, k.sqT h1, Reps.mono k ds xs h2⟩
  | .xtp ds, _, h => by
    simp only [Rep] at h ⊢
    obtain ⟨a, xs, e, h1, h2⟩ := h
    exact ⟨a, xs, e, k.sqTw h1, Reps.mono k ds xs h2⟩
  | .lst ds, _, h => by
    simp only [Rep] at h ⊢
    obtain ⟨a, xs, e, h1, h2⟩ := h
    exact ⟨a, xs, e, k.sqL h1, Reps.mono k ds xs h2⟩
  | .dct false ks vs, _, h => by
    simp only [Rep] at h ⊢
    obtain ⟨a, kvs, e, h1, h2, h3, h4⟩ := h
    exact ⟨a, kvs, e, (k.rd h1 h2).1, (k.rd h1 h2).2, h3, Reps.mono k vs _ h4⟩
  | .dct true ks vs, _, h => by
    simp only [Rep] at h ⊢
    obtain ⟨a, kvs, e, h1, h2, h3, h4⟩ := h
    exact ⟨a, kvs, e, (k.rd h1 h2).1, (k.rd h1 h2).2, h3, Reps.mono k vs _ h4⟩
theorem Reps.mono (k : Kp m m' H H') : ∀ (ds : List D) (xs : List V), Reps G m H ds xs → Reps G m' H' ds xs
  | [], _, h => by simpa only [Reps] using h
  | d :: ds, _, h => by
    simp only [Reps] at h ⊢
    obtain ⟨v, vs, e, h1, h2⟩ := h
    exact ⟨v, vs, e, Rep.mono k d v h1, Reps.mono k ds vs h2⟩
end

/-! ### rows of data -/
theorem Reps.nil : Reps G m H [] [] := by simp only [Reps]
theorem Reps.cons {d : D} {v : V} {ds : List D} {vs : List V} (h : Rep G m H d v) (t : Reps G m H ds vs) : Reps G m H (d :: ds) (v :: vs) := by
  simp only [Reps]
  exact ⟨v, vs, rfl, h, t⟩
theorem Reps.inv {d : D} {ds : List D} {xs : List V} (h : Reps G m H (d :: ds) xs) : ∃ v vs, xs = v :: vs ∧ Rep G m H d v ∧ Reps G m H ds vs := by
  simpa only [Reps] using h
theorem Reps.inv0 {xs : List V} (h : Reps G m H [] xs) : xs = [] := by simpa only [Reps] using h
theorem Reps.length : ∀ {ds : List D} {xs : List V}, Reps G m H ds xs → ds.length = xs.length
  | [], xs, h => by rw [h.inv0]; rfl
  | d :: ds, xs, h => by
    obtain ⟨v, vs, rfl, _, t⟩ := h.inv
    rw [List.length_cons, List.length_cons, t.length]
theorem Reps.get : ∀ {ds : List D} {xs : List V} {i : Nat} {d : D}, Reps G m H ds xs → ds[i]? = some d → ∃ v, xs[i]? = some v ∧ Rep G m H d v
  | [], _, _, _, _, e => by simp at e
  | d :: ds, xs, 0, d', h, e => by
    obtain ⟨v, vs, rfl, r, t⟩ := h.inv
    simp at e; subst e
    exact ⟨v, rfl, r⟩
  | d :: ds, xs, i + 1, d', h, e => by
    obtain ⟨v, vs, rfl, r, t⟩ := h.inv
    obtain ⟨v', e', r'⟩ := t.get (i := i) (d := d') (by simpa using e)
    exact ⟨v', by simpa using e', r'⟩
theorem Reps.getV : ∀ {ds : List D} {xs : List V} {i : Nat} {v : V}, Reps G m H ds xs → xs[i]? = some v → ∃ d, ds[i]? = some d ∧ Rep G m H d v
  | [], _, _, _, h, e => by rw [h.inv0] at e; simp at e
  | d :: ds, xs, 0, d', h, e => by
    obtain ⟨v, vs, rfl, r, t⟩ := h.inv
    simp at e; subst e
    exact ⟨d, rfl, r⟩
  | d :: ds, xs, i + 1, d', h, e => by
    obtain ⟨v, vs, rfl, r, t⟩ := h.inv
    obtain ⟨v', e', r'⟩ := t.getV (i := i) (v := d') (by simpa using e)
    exact ⟨v', by simpa using e', r'⟩
theorem Reps.append : ∀ {ds es : List D} {xs ys : List V}, Reps G m H ds xs → Reps G m H es ys → Reps G m H (ds ++ es) (xs ++ ys)
  | [], es, xs, ys, h, t => by rw [h.inv0]; exact t
  | d :: ds, es, xs, ys, h, t => by
    obtain ⟨v, vs, rfl, r, t'⟩ := h.inv
    exact .cons r (t'.append t)
theorem Reps.take : ∀ {ds : List D} {xs : List V} (n : Nat), Reps G m H ds xs → Reps G m H (ds.take n) (xs.take n)
  | ds, xs, 0, h => by simp only [List.take_zero]; exact .nil
  | [], xs, n + 1, h => by rw [h.inv0]; exact .nil
  | d :: ds, xs, n + 1, h => by
    obtain ⟨v, vs, rfl, r, t'⟩ := h.inv
    exact .cons r (t'.take n)
theorem Reps.drop : ∀ {ds : List D} {xs : List V} (n : Nat), Reps G m H ds xs → Reps G m H (ds.drop n) (xs.drop n)
  | ds, xs, 0, h => h
  | [], xs, n + 1, h => by rw [h.inv0]; exact .nil
  | d :: ds, xs, n + 1, h => by
    obtain ⟨v, vs, rfl, r, t'⟩ := h.inv
    exact t'.drop n
theorem Reps.reverse : ∀ {ds : List D} {xs : List V}, Reps G m H ds xs → Reps G m H ds.reverse xs.reverse
  | [], xs, h => by rw [h.inv0]; exact .nil
  | d :: ds, xs, h => by
    obtain ⟨v, vs, rfl, r, t'⟩ := h.inv
    rw [List.reverse_cons, List.reverse_cons]
    exact t'.reverse.append (.cons r .nil)
theorem Reps.set : ∀ {ds : List D} {xs : List V} {d : D} {v : V} (i : Nat), Reps G m H ds xs → Rep G m H d v → Reps G m H (ds.set i d) (xs.set i v)
  | [], xs, _, _, i, h, _ => by rw [h.inv0]; exact .nil
  | d :: ds, xs, _, _, 0, h, r => by
    obtain ⟨v, vs, rfl, _, t'⟩ := h.inv
    exact .cons r t'
  | d :: ds, xs, _, _, i + 1, h, r => by
    obtain ⟨v, vs, rfl, r', t'⟩ := h.inv
    exact .cons r' (t'.set i r)
theorem Reps.eraseIdx : ∀ {ds : List D} {xs : List V} (i : Nat), Reps G m H ds xs → Reps G m H (ds.eraseIdx i) (xs.eraseIdx i)
  | [], xs, i, h => by rw [h.inv0]; exact .nil
  | d :: ds, xs, 0, h => by
    obtain ⟨v, vs, rfl, r, t'⟩ := h.inv
    exact t'
  | d :: ds, xs, i + 1, h => by
    obtain ⟨v, vs, rfl, r, t'⟩ := h.inv
    exact .cons r (t'.eraseIdx i)
theorem Reps.dropLast : ∀ {ds : List D} {xs : List V}, Reps G m H ds xs → Reps G m H ds.dropLast xs.dropLast
  | [], xs, h => by rw [h.inv0]; exact .nil
  | [d], xs, h => by
    obtain ⟨v, vs, rfl, r, t'⟩ := h.inv
    rw [t'.inv0]; exact .nil
  | d :: e :: ds, xs, h => by
    obtain ⟨v, vs, rfl, r, t'⟩ := h.inv
    obtain ⟨v', vs', rfl, r', t''⟩ := t'.inv
    exact .cons r (Reps.dropLast t')
theorem Reps.flat {ds : List D} {xs : List V} (h : Reps G m H ds xs) : ∀ k : Nat, Reps G m H (List.replicate k ds).flatten (List.replicate k xs).flatten
  | 0 => .nil
  | k + 1 => by
    rw [List.replicate_succ, List.replicate_succ, List.flatten_cons, List.flatten_cons]
    exact h.append (h.flat k)
theorem Reps.ints : ∀ {ns : List Int} {xs : List V}, Reps G m H (ns.map D.int) xs → xs = ns.map V.int
  | [], xs, h => h.inv0
  | n :: ns, xs, h => by
    obtain ⟨v, vs, rfl, r, t'⟩ := h.inv
    simp only [Rep] at r
    rw [r, t'.ints]; rfl
theorem Reps.of_ints : ∀ (ns : List Int), Reps G m H (ns.map D.int) (ns.map V.int)
  | [] => .nil
  | n :: ns => .cons (by simp only [Rep]) (Reps.of_ints ns)
theorem intsD_eq : ∀ {ds : List D} {ns : List Int}, intsD ds = some ns → ds = ns.map D.int
  | [], ns, h => by simp only [intsD] at h; cases h; rfl
  | .int i :: r, ns, h => by
    simp only [intsD] at h
    cases e : intsD r with
    | none => rw [e] at h; cases h
    | some ms => rw [e] at h; cases h; rw [intsD_eq e]; rfl
  | .non :: r, ns, h | .bl _ :: r, ns, h | .str _ :: r, ns, h | .tup _ :: r, ns, h | .lst _ :: r, ns, h | .dct _ _ _ :: r, ns, h | .fn _ :: r, ns, h => by simp only [intsD] at h; cases h
theorem blsD_eq : ∀ {ds : List D} {ns : List Bool}, blsD ds = some ns → ds = ns.map D.bl
  | [], ns, h => by simp only [blsD] at h; cases h; rfl
  | .bl i :: r, ns, h => by
    simp only [blsD] at h
    cases e : blsD r with
    | none => rw [e] at h; cases h
    | some ms => rw [e] at h; cases h; rw [blsD_eq e]; rfl
  | .non :: r, ns, h | .int _ :: r, ns, h | .str _ :: r, ns, h | .tup _ :: r, ns, h | .lst _ :: r, ns, h | .dct _ _ _ :: r, ns, h | .fn _ :: r, ns, h => by simp only [blsD] at h; cases h
theorem Reps.bls : ∀ {ns : List Bool} {xs : List V}, Reps G m H (ns.map D.bl) xs → xs = ns.map V.bl
  | [], xs, h => h.inv0
  | n :: ns, xs, h => by
    obtain ⟨v, vs, rfl, r, t'⟩ := h.inv
    simp only [Rep] at r
    rw [r, t'.bls]; rfl
theorem OwnAt.mono (k : Kp m m' H H') {a : Addr} {d : D} (e : ∀ o, H a = some o → H' a = some o) (h : OwnAt G m H a d) : OwnAt G m' H' a d := by
  cases d with
  | lst ds => obtain ⟨xs, h1, h2⟩ := h; exact ⟨xs, e _ h1, h2.mono k⟩
  | dct t ks vs =>
    cases t with
    | false => obtain ⟨kvs, h1, h2, h3⟩ := h; exact ⟨kvs, e _ h1, h2, h3.mono k⟩
    | true => obtain ⟨kvs, h1, h2, h3⟩ := h; exact ⟨kvs, e _ h1, h2, h3.mono k⟩
  | non => exact h
  | bl b => exact h
  | int b => exact h
  | str b => exact h
  | tup b => exact h
  | xtp b => exact h
  | fn b => exact h
/-! ### views -/
theorem Vw.int {i : Int} {v : V} (h : Vw G m H (.int i) v) : v = .int i := by
  rcases h with h | ⟨a, _, h⟩
  · simpa only [Rep] using h
  · exact h.elim
theorem Vw.bl {i : Bool} {v : V} (h : Vw G m H (.bl i) v) : v = .bl i := by
  rcases h with h | ⟨a, _, h⟩
  · simpa only [Rep] using h
  · exact h.elim
theorem Vw.str {i : Str} {v : V} (h : Vw G m H (.str i) v) : v = .str i := by
  rcases h with h | ⟨a, _, h⟩
  · simpa only [Rep] using h
  · exact h.elim
theorem Vw.non {v : V} (h : Vw G m H .non v) : v = .non := by
  rcases h with h | ⟨a, _, h⟩
  · simpa only [Rep] using h
  · exact h.elim
theorem Vw.tup {ds : List D} {v : V} (h : Vw G m H (.tup ds) v) : ∃ a xs, v = .ref a ∧ SqTm G m H a xs ∧ Reps G m H ds xs := by
  rcases h with h | ⟨a, _, h⟩
  · simpa only [Rep] using h
  · exact h.elim
theorem Vw.lst {ds : List D} {v : V} (h : Vw G m H (.lst ds) v) : ∃ a xs, v = .ref a ∧ SqL G.K H a xs ∧ Reps G m H ds xs := by
  rcases h with h | ⟨a, e, xs, h1, h2⟩
  · simp only [Rep] at h
    obtain ⟨a, xs, e, h1, h2⟩ := h
    exact ⟨a, xs, e, h1.sq, h2⟩
  · exact ⟨a, xs, e, .inl (.inl h1), h2⟩
theorem Vw.dctK {ks vs : List D} {v : V} (h : Vw G m H (.dct false ks vs) v) : ∃ a kvs, v = .ref a ∧ Rd H a (.dK kvs) ∧ ks = kvs.map (fun p => dK p.1) ∧ Reps G m H vs (kvs.map (·.2)) := by
  rcases h with h | ⟨a, e, kvs, h1, h2, h3⟩
  · simp only [Rep] at h
    obtain ⟨a, kvs, e, h1, _, h2, h3⟩ := h
    exact ⟨a, kvs, e, h1, h2, h3⟩
  · exact ⟨a, kvs, e, .inl h1, h2, h3⟩
theorem Vw.dctT {ks vs : List D} {v : V} (h : Vw G m H (.dct true ks vs) v) : ∃ a kvs, v = .ref a ∧ Rd H a (.dT kvs) ∧ ks = kvs.map (fun p => dKs p.1) ∧ Reps G m H vs (kvs.map (·.2)) := by
  rcases h with h | ⟨a, e, kvs, h1, h2, h3⟩
  · simp only [Rep] at h
    obtain ⟨a, kvs, e, h1, _, h2, h3⟩ := h
    exact ⟨a, kvs, e, h1, h2, h3⟩
  · exact ⟨a, kvs, e, .inl h1, h2, h3⟩

/-! ### frames -/
structure RE (G : Gd) (A : Nat → Option Addr) (m : AdP) (env : En) (σ : L2.St) (H : Hp) : Prop where
  len : env.length = σ.length
  val : ∀ (i : Nat) (d : D), env[i]? = some (Sl.val d) → ∃ v, σ[i]? = some (some v) ∧ Rep G m H d v
  own : ∀ (i : Nat) (d : D), env[i]? = some (Sl.own d) → ∃ a, A i = some a ∧ σ[i]? = some (some (V.ref a)) ∧ OwnAt G m H a d
  inj : ∀ (i j : Nat) (a : Addr), A i = some a → A j = some a → i = j
  mem : ∀ i a, A i = some a → m a
  live : ∀ a, m a → H a ≠ none
/-- a step of an expression: the owned things may be changed, nothing else -/
structure Nx (A : Nat → Option Addr) (H H' : Hp) : Prop where
  keep : ∀ a o, H a = some o → (∀ i, A i ≠ some a) → H' a = some o
  live : ∀ a, H a ≠ none → H' a ≠ none
theorem Nx.refl {A : Nat → Option Addr} : Nx A H H := ⟨fun _ _ h _ => h, fun _ h => h⟩
theorem Nx.trans {A : Nat → Option Addr} {H1 : Hp} (a : Nx A H H1) (b : Nx A H1 H') : Nx A H H' :=
  ⟨fun x o h n => b.keep x o (a.keep x o h n) n, fun x h => b.live x (a.live x h)⟩
theorem RE.kp {A : Nat → Option Addr} {env : En} {σ : L2.St} (r : RE G A m env σ H) (n : Nx A H H') : Kp m m H H' :=
  ⟨fun a o h z => n.keep a o h fun i e => z (r.mem i a e), fun _ h => .inl h⟩
/-- a new thing that no slot owns -/
theorem Nx.laid {A : Nat → Option Addr} {p : Addr} {o : HO} (h : H p = none) : Nx A H (upd H p o) :=
  ⟨fun a u e _ => by rw [upd_ne (ne_of_none e h)]; exact e, fun a e => by
    by_cases z : a = p
    · subst z; rw [upd_same]; exact fun z => nomatch z
    · rw [upd_ne z]; exact e⟩
theorem RE.same {A : Nat → Option Addr} {env : En} {σ : L2.St} (r : RE G A m env σ H) (n : Nx A H H') (k : ∀ i a o, A i = some a → H a = some o → H' a = some o) : RE G A m env σ H' :=
  ⟨r.len, fun i d e => let ⟨v, h1, h2⟩ := r.val i d e; ⟨v, h1, h2.mono (r.kp n)⟩,
   fun i d e => let ⟨a, h1, h2, h3⟩ := r.own i d e; ⟨a, h1, h2, h3.mono (r.kp n) fun o h => k i a o h1 h⟩, r.inj, r.mem, fun a h => n.live a (r.live a h)⟩
theorem RE.laid {A : Nat → Option Addr} {env : En} {σ : L2.St} {p : Addr} {o : HO} (r : RE G A m env σ H) (h : H p = none) : RE G A m env σ (upd H p o) :=
  r.same (Nx.laid h) fun i a u _ e => by rw [upd_ne (ne_of_none e h)]; exact e
/-- what an operand is -/
def ARep (G : Gd) (A : Nat → Option Addr) (m : AdP) (H : Hp) : Qx.A → V → Prop
  | .v d, v => Rep G m H d v
  | .o i, v => ∃ a, A i = some a ∧ v = .ref a
theorem ARep.mono {A : Nat → Option Addr} (k : Kp m m H H') {a : Qx.A} {v : V} (h : ARep G A m H a v) : ARep G A m H' a v := by
  cases a with
  | v d => exact Rep.mono k d v h
  | o i => exact h
theorem getO_some {env : En} {i : Nat} {d : D} (h : getO env i = some d) : env[i]? = some (Sl.own d) := by
  unfold getO at h
  split at h
  · rename_i e; cases h; exact e
  · cases h
theorem getV_some {env : En} {i : Nat} {d : D} (h : getV env i = some d) : env[i]? = some (Sl.val d) := by
  unfold getV at h
  split at h
  · rename_i e; cases h; exact e
  · cases h
theorem isO_some {env : En} {i : Nat} (h : isO env i = true) : ∃ d, env[i]? = some (Sl.own d) := by
  unfold isO at h
  split at h
  · rename_i d e; exact ⟨d, e⟩
  · cases h
theorem RE.vw {A : Nat → Option Addr} {env : En} {σ : L2.St} (r : RE G A m env σ H) {a : Qx.A} {v : V} {d : D} (h : ARep G A m H a v) (e : resA env a = some d) : Vw G m H d v := by
  cases a with
  | v d' => cases e; exact .inl h
  | o i =>
    obtain ⟨a, h1, h2⟩ := h
    obtain ⟨a', h1', _, h3⟩ := r.own i d (getO_some e)
    rw [h1] at h1'; cases h1'
    exact .inr ⟨a, h2, h3⟩
end
end Qx
set_option Elab.async false
set_option linter.all false
set_option maxRecDepth 100000
set_option maxHeartbeats 4000000
/-! QTx: tuples just made, whose objects are known. -/
namespace Qx
open PySem PySem.Spec PyProof.Rows L2
/-- wished of a new tuple -/
def TX (Q : VK) (H : Hp) (xs : List V) : Prop := ∀ (p : Addr) (o : Obj), H p = none → o.dict = none → Q (.ref p) (upd H p (.frz o (.tup xs)))
section
variable {X : Cx} {pins : List (Addr × Obj)} {σ : L2.St} {H : Hp} {s : Shared} {Q : VK} {xs : List V}
theorem tx_end {its : List Value} (I : Inv X pins σ H s) (r : Vals xs its) (hz : xs.length ≤ sizeLine) (q : TX Q H xs) :
    EP X pins σ Q (.ref s.heap.objs.size) { s with heap := s.heap.push { cls := .type "tuple", data := .seq its.toArray } } :=
  ⟨.ref s.heap.objs.size, _, I.laid (t' := s.toks) (o := .frz { cls := .type "tuple", data := .seq its.toArray } (.tup xs)) (fun b ob q => Heap.get?_push_of_some _ q) (Nat.le_refl _) ⟨Heap.get?_push_size _ rfl, hz, its, r, IsTup.new _ _⟩, rfl, q _ _ (I.hok.fresh (Nat.le_refl _)) rfl⟩
theorem pe_tupX {es : List Expr} {t : TA} {pos : Pos} {x1 : Nat} (h : PA X es t) : PE X (.Tuple es x1 pos) (fun σ H Q => t σ H fun xs H1 => xs.length ≤ sizeLine ∧ TX Q H1 xs) := by
  refine ⟨fun pins s σ H Q I hq => ?_⟩
  exact wpAny_Tuple_spliced (thn (h.run pos pins s σ H _ I hq) fun us s1 ⟨xs, H1, I1, r, z, q⟩ => ⟨by rw [← r.length]; exact z, tx_end I1 r z q⟩)
/-- t + u -/
def rCatX (K : PySem.W.Frag) : R2 := fun x y H Q => ∃ a b xs ys, x = .ref a ∧ y = .ref b ∧ SqT K H a xs ∧ SqT K H b ys ∧ xs.length + ys.length ≤ sizeLine ∧
  (xs = [] → Q (.ref b) H) ∧ (xs ≠ [] → ys = [] → Q (.ref a) H) ∧ (xs ≠ [] → ys ≠ [] → TX Q H (xs ++ ys))
theorem op_catX : OpR X (binaryOp .Add) (rCatX X.K) := by
  intro pins s σ H x y v u Q I rx ry h
  obtain ⟨a, b, xs, ys, rfl, rfl, ha, hb, hz, q0, q1, q2⟩ := h
  cases rx
  cases ry
  obtain ⟨its, r1, p1, _⟩ := I.tuple ha
  obtain ⟨its2, r2, p2, _⟩ := I.tuple hb
  by_cases hx : xs = []
  · subst hx
    cases r1
    exact cat_tup0 p1 p2 ⟨.ref b, H, I, rfl, q0 rfl⟩
  · refine HT.cat_tup p1 p2 (fun z => hx (r1.nil_iff.mp z)) (fun z => ⟨.ref a, H, I, rfl, q1 hx (r2.nil_iff.mp z)⟩) (fun z => ?_) (by rw [← r1.length, ← r2.length]; exact hz)
    exact tx_end I (r1.append r2) (by rw [List.length_append]; exact hz) (q2 hx fun w => z (r2.nil_iff.mpr w))
/-- t * k -/
def rRepX (K : PySem.W.Frag) : R2 := fun x y H Q => ∃ l k xs, x = .ref l ∧ y = .int k ∧ SqT K H l xs ∧ xs ≠ [] ∧ 2 ≤ k ∧ k ≤ 1000 ∧ xs.length ≤ 1000 ∧ TX Q H (List.replicate k.toNat xs).flatten
theorem op_repX : OpR X (binaryOp .Mult) (rRepX X.K) := by
  intro pins s σ H x y v u Q I rx ry h
  obtain ⟨l, k, xs, rfl, rfl, hT, hne, h1, h2, hz, q⟩ := h
  cases rx
  obtain ⟨t, rfl⟩ := ry
  obtain ⟨its, r, ⟨⟨cls, dd, data, sl⟩, ho, hc, n, hd⟩, hs⟩ := I.tuple hT
  simp only at hc hd
  subst hc hd
  have hle : its.toArray.size = xs.length := by rw [List.size_toArray, ← r.length]
  have hi : its.toArray.isEmpty = false := by
    cases r with
    | nil => exact absurd rfl hne
    | cons _ _ => rfl
  have hm : ((its.toArray.size : Nat) : Int) * k ≤ 1000000 := by
    have a1 : ((xs.length : Nat) : Int) * k ≤ 1000 * k := Int.mul_le_mul_of_nonneg_right (by omega) (by omega)
    rw [hle]
    omega
  have hl : k.toNat * xs.length ≤ 1000 * 1000 := Nat.mul_le_mul (by omega) hz
  have fl : (List.replicate k.toNat its).flatten.length ≤ sizeLine := by
    rw [PyProof.Rows.lm_len_rep_flat, ← r.length, sizeLine_eq]
    omega
  have c4 : Builtin.Tuple.tupleTooMany (((its.toArray.size : Nat) : Int) * k) = false := by
    unfold Builtin.Tuple.tupleTooMany
    rw [sizeLine_eq]
    exact decide_eq_false (by omega)
  refine wpAny_binaryOp_repeat_ref (T := "tuple") (U := "int") (by decide) ⟨_, ho, rfl⟩ (fun s' => typeIs_int s' k t) noFill_tuple_mul F.fills_int_mul F.slot_int_rmul repeat_tuple F.slot_int_index.lookup
    (call_meets F.slot_int_rmul (typeIs_int s k t) F.entry_int_rmul (F.args_int_rmul_2 _ _) (int_rmul_tuple k t l its.toArray n dd sl)
      ⟨ho, rfl, ⟨_, ho, rfl⟩, call_meets F.slot_tuple_mul ⟨_, ho, rfl⟩ F.entry_tuple_mul (F.args_tuple_mul_2 _ _)
        (tuple_mulW l its.toArray n dd sl k t (by rw [decide_eq_false (by omega), decide_eq_false (by omega)]; rfl) (by rw [hi, Bool.false_or]; exact beq_eq_false_iff_ne.mpr (by omega)) (by rw [hi, Bool.or_false]; exact decide_eq_false (by omega)) (by omega) c4 (by rw [size_rep, List.size_toArray]; exact fl)) ⟨ho, ?_⟩⟩)
  rw [size_rep]
  exact tx_end I (r.rep k.toNat) (by rw [PyProof.Rows.lm_len_rep_flat, sizeLine_eq]; omega) q
/-- tuple(x) -/
theorem call_tupX : CallR X (.type "tuple") (fun xs H Q => ∃ p ys, xs = [.ref p] ∧ ((SqL X.K H p ys ∧ TX Q H ys) ∨ (SqT X.K H p ys ∧ Q (.ref p) H))) := by
  intro pins s σ H xs us Q I r h
  obtain ⟨p, ys, rfl, h⟩ := h
  obtain ⟨u, rfl, rx⟩ := vals1 r
  cases rx
  rcases h with ⟨hq, q⟩ | ⟨hq, q⟩
  · obtain ⟨its, r', pl, hz⟩ := I.list hq
    have hlen := r'.length
    refine call_tuple_list pl.isList (fun h' kp => ?_) (by simp only [List.size_toArray] <;> omega)
    exact tx_end (I.kept (t' := s.toks) kp) r' hz q
  · obtain ⟨its, r', pl, hz⟩ := I.tuple hq
    exact call_tuple_same pl ⟨.ref p, H, I, rfl, q⟩
/-- t[lo:hi] -/
def rSlX (K : PySem.W.Frag) : V → Option Int → Option Int → Hp → VK → Prop := fun x lo hi H Q => ∃ a xs, x = .ref a ∧ SqT K H a xs ∧
  (HT.sIx xs.length 0 lo = 0 ∧ HT.sIx xs.length xs.length hi = xs.length → Q (.ref a) H) ∧ (¬ (HT.sIx xs.length 0 lo = 0 ∧ HT.sIx xs.length xs.length hi = xs.length) → TX Q H (cutV xs lo hi))
theorem sl_tupX : SlR X (rSlX X.K) := by
  intro pins s σ H x v vl vu lo hi sl Q I rx hs pl pu h
  obtain ⟨a, xs, rfl, hx, q1, q2⟩ := h
  cases rx
  obtain ⟨its, r, ht, hz⟩ := I.tuple hx
  have hlen : its.toArray.size = xs.length := by rw [List.size_toArray]; exact r.length.symm
  refine ⟨"tuple", _, PyProof.Rows.slot_tuple_getitem.lookup, ht.typeIs, ?_⟩
  by_cases hw : HT.sIx xs.length 0 lo = 0 ∧ HT.sIx xs.length xs.length hi = xs.length
  · exact getItem_tuple_whole ht hs pl pu (by rw [hlen]; exact hw) ⟨.ref a, H, I, rfl, q1 hw⟩
  · refine HT.getItem_tuple_cut ht hs pl pu (by rw [hlen]; exact hw) ?_ (by rw [hlen]; exact hz)
    rw [hlen]
    exact tx_end I ((r.drop (HT.sIx xs.length 0 lo)).take (HT.sIx xs.length xs.length hi - HT.sIx xs.length 0 lo)) (Nat.le_trans (cutV_length xs lo hi) hz) (q2 hw)
/-- tuple(range(..)) -/
theorem pe_tupRgX {e : Expr} {te : L2.St → Hp → (Int → Int → Hp → Prop) → Prop} {p pos : Pos} (hc : X.calm = true) (hg : Gl X "tuple") (hm : X.mg "tuple" = none) (he : PRg X e te) (na : starEach [e] X.env = (false, eval e X.env) :: starEach [] X.env := by rfl) :
    PE X (.Call (.Name "tuple" p) [e] [] pos) (fun σ H Q => te σ H fun a b H1 => RgOk a b ∧ TX Q H1 (rgV a b)) := by
  refine ⟨fun pins s σ H Q I h => ?_⟩
  refine Call_ (ld_blt I hg hm boot_tuple (PyProof.Rows.callWith_type1 (args_cons (thn (he pins s σ H _ I h) fun x s1 ⟨r, a, b, t, u, v, H1, ex, hr, I1, ok, q⟩ => args_nil ?_) na) na))
  subst ex
  obtain ⟨b1, b2, b3, b4, b5⟩ := ok
  refine call_tuple_range (n := (b - a).toNat) (I1.ok.hd hc) hr (small_one b1 b2 b3 b4) (rangeSize_nat a b) b5 fun h' tk acc hk hi => ?_
  have I2 : Inv X pins σ H1 { s1 with heap := h', toks := tk } := I1.kept hk
  exact tx_end (its := acc.toList) I2 (vals_rg hi) (by rw [rgV_length, sizeLine_eq]; omega) q
end
end Qx
set_option Elab.async false
set_option linter.all false
set_option maxRecDepth 100000
set_option maxHeartbeats 4000000
/-! QOps: what the operators, comparisons, subscripts, built-ins do, by plain data. -/
namespace Qx
open PySem PySem.Spec L2

section
variable {G : Gd} {m : AdP} {H H' : Hp}
/-- all that stood stands -/
def Ex (H H' : Hp) : Prop := ∀ a o, H a = some o → H' a = some o
theorem Ex.refl : Ex H H := fun _ _ h => h
theorem Ex.laid {p : Addr} {o : HO} (h : H p = none) : Ex H (upd H p o) := fun a u e => by rw [upd_ne (ne_of_none e h)]; exact e
theorem Ex.kp (e : Ex H H') : Kp m m H H' := ⟨fun a o h _ => e a o h, fun _ h => .inl h⟩
theorem Ex.nx {A : Nat → Option Addr} (e : Ex H H') : Nx A H H' := ⟨fun a o h _ => e a o h, fun a h => by
  cases q : H a with
  | none => exact absurd q h
  | some o => rw [e a o q]; exact fun z => nomatch z⟩
theorem RE.ex {A : Nat → Option Addr} {env : En} {σ : L2.St} (r : RE G A m env σ H) (e : Ex H H') : RE G A m env σ H' := r.same e.nx fun i a o _ h => e a o h
abbrev Live (m : AdP) (H : Hp) : Prop := ∀ a, m a → H a ≠ none
theorem rep_tup {ds : List D} {xs : List V} {p : Addr} {o : Obj} (l : Live m H) (hp : H p = none) (hd : o.dict = none) (h : Reps G m H ds xs) : Rep G m (upd H p (.frz o (.tup xs))) (.tup ds) (.ref p) := by
  simp only [Rep]
  exact ⟨p, xs, rfl, ⟨⟨o, upd_same, hd⟩, fun z => l p z hp⟩, h.mono (Ex.laid hp).kp⟩
theorem rep_tupW {ds : List D} {xs : List V} {p : Addr} (l : Live m H) (hp : H p = none) (h : Reps G m H ds xs) : Rep G m (upd H p (.tup xs)) (.xtp ds) (.ref p) := by
  simp only [Rep]
  exact ⟨p, xs, rfl, ⟨.inl upd_same, fun z => l p z hp⟩, h.mono (Ex.laid hp).kp⟩
theorem rep_lst {ds : List D} {xs : List V} {p : Addr} (l : Live m H) (hp : H p = none) (h : Reps G m H ds xs) : Rep G m (upd H p (.lst xs)) (.lst ds) (.ref p) := by
  simp only [Rep]
  exact ⟨p, xs, rfl, .inl ⟨.inl upd_same, fun z => l p z hp⟩, h.mono (Ex.laid hp).kp⟩
theorem Rep.of_int {i : Int} : Rep G m H (.int i) (.int i) := by simp only [Rep]
theorem Rep.of_bl {i : Bool} : Rep G m H (.bl i) (.bl i) := by simp only [Rep]
theorem Rep.of_str {i : Str} : Rep G m H (.str i) (.str i) := by simp only [Rep]
theorem Rep.of_non : Rep G m H .non .non := by simp only [Rep]

/-- what is wanted of an operation's value -/
def NewL (G : Gd) (m : AdP) (H H' : Hp) (d : D) (v : V) : Prop := isC d = true → ∃ ds p xs, d = .lst ds ∧ v = .ref p ∧ H p = none ∧ H' = upd H p (.lst xs) ∧ Reps G m H ds xs
def Gives (G : Gd) (m : AdP) (H : Hp) (d : D) (Q : VK) : Prop := ∀ v H', Ex H H' → Rep G m H' d v → NewL G m H H' d v → Q v H'
theorem NewL.not {v : V} {d : D} (h : isC d = false) : NewL G m H H' d v := fun z => by rw [h] at z; cases z
theorem Gives.tup {ds : List D} {xs : List V} {Q : VK} (l : Live m H) (h : Reps G m H ds xs) (g : Gives G m H (.tup ds) Q) : TX Q H xs :=
  fun p o hp hd => g _ _ (Ex.laid hp) (rep_tup l hp hd h) (.not rfl)
theorem Gives.lst {ds : List D} {xs : List V} {Q : VK} (l : Live m H) (h : Reps G m H ds xs) (g : Gives G m H (.lst ds) Q) : ∀ p, H p = none → Q (.ref p) (upd H p (.lst xs)) :=
  fun p hp => g _ _ (Ex.laid hp) (rep_lst l hp h) fun _ => ⟨ds, p, xs, rfl, rfl, hp, rfl, h⟩

/-! ### binary operators -/
theorem sz_eq : SZ = sizeLine := by rw [sizeLine_eq]; rfl
def rCatL (K : PySem.W.Frag) : R2 := fun x y H Q => ∃ l b xs zs, x = .ref l ∧ y = .ref b ∧ SqL K H l xs ∧ SqL K H b zs ∧ xs.length + zs.length ≤ sizeLine ∧ ∀ p, H p = none → Q (.ref p) (upd H p (.lst (xs ++ zs)))
end
section
variable {X : Cx}
theorem op_catL : OpR X (binaryOp .Add) (rCatL X.K) := by
  intro pins s σ H x y v u Q I rx ry h
  obtain ⟨l, b, xs, zs, rfl, rfl, hH, hB, hz, q⟩ := h
  cases rx
  cases ry
  obtain ⟨its, r, ⟨⟨cls, dd, data, sl⟩, n, ho, hc, hdd, hd⟩, _⟩ := I.list hH
  obtain ⟨its2, r2, ⟨⟨cls2, dd2, data2, sl2⟩, n2, ho2, hc2, hdd2, hd2⟩, _⟩ := I.list hB
  simp only at hc hdd hd hc2 hdd2 hd2
  subst hc hdd hd hc2 hdd2 hd2
  have z1 := r.length
  have z2 := r2.length
  have ea : its.toArray ++ its2.toArray = (its ++ its2).toArray := by simp
  refine concat_meets ⟨_, ho, rfl⟩ ⟨_, ho2, rfl⟩ PySem.noFill_list_add PySem.seq_list_add PySem.F.slot_list_add PySem.F.entry_list_add (PySem.F.args_list_add_2 _ _) (PyProof.Rows.list_addW l b its.toArray its2.toArray n n2 none none sl sl2 (by rw [List.size_toArray, List.size_toArray]; omega)) ⟨ho, ho2, ?_⟩
  rw [ea]
  exact ⟨.ref _, _, I.lnew (t' := s.toks) (r.append r2) (by rw [List.length_append]; omega), rfl, q _ I.fresh⟩
end

def opr : Bop → Operator
  | .add => .Add | .sub => .Sub | .mul => .Mult | .fdiv => .FloorDiv | .mod => .Mod | .pow => .Pow | .shl => .LShift | .shr => .RShift | .band => .BitAnd | .bor => .BitOr
/-- a rule by values tells a function of data -/
def Tells (G : Gd) (r : R2) (f : D → D → Option D) : Prop :=
  ∀ (m : AdP) (H : Hp) (dx dy d : D) (x y : V) (Q : VK), Live m H → Vw G m H dx x → Vw G m H dy y → f dx dy = some d → Gives G m H d Q → r x y H Q
theorem gives_int {G : Gd} {m : AdP} {H : Hp} {i : Int} {Q : VK} (g : Gives G m H (.int i) Q) : Q (.int i) H := g _ _ Ex.refl Rep.of_int (.not rfl)
theorem gives_bl {G : Gd} {m : AdP} {H : Hp} {i : Bool} {Q : VK} (g : Gives G m H (.bl i) Q) : Q (.bl i) H := g _ _ Ex.refl Rep.of_bl (.not rfl)
theorem gives_str {G : Gd} {m : AdP} {H : Hp} {i : Str} {Q : VK} (g : Gives G m H (.str i) Q) : Q (.str i) H := g _ _ Ex.refl Rep.of_str (.not rfl)
section
variable {X : Cx} {G : Gd}
theorem log_of_lt {n : Nat} (h : n < 2 ^ 4000) : n.log2 < 4000 := by
  by_cases z : n = 0
  · subst z; decide
  · exact (Nat.log2_lt z).mpr h
theorem bin_add (hK : X.K = G.K) : ∃ r : R2, OpR X (binaryOp .Add) r ∧ Tells G r addB := by
  refine ⟨_, (op_add.or op_add_str).or (op_catX.or op_catL), fun m H dx dy d x y Q l hx hy e g => ?_⟩
  rw [hK]
  unfold addB at e
  split at e <;> (try cases e)
  case h_1 => exact .inl (.inl ⟨_, _, hx.int, hy.int, gives_int g⟩)
  case h_2 =>
    split at e <;> cases e
    rename_i hz
    exact .inl (.inr ⟨_, _, hx.str, hy.str, sz_eq ▸ hz, gives_str g⟩)
  case h_3 _ _ xs ys =>
    split at e <;> cases e
    rename_i hz
    obtain ⟨a, vs, rfl, h1, h2⟩ := hx.tup
    obtain ⟨b, ws, rfl, h3, h4⟩ := hy.tup
    have e1 := h2.length
    have e2 := h4.length
    refine .inr (.inl ⟨a, b, vs, ws, rfl, rfl, h1.sq, h3.sq, by rw [← e1, ← e2]; exact sz_eq ▸ hz, fun z => ?_, fun z z' => ?_, fun _ _ => g.tup l (h2.append h4)⟩)
    · rw [z] at e1
      have e3 : xs = [] := List.eq_nil_of_length_eq_zero e1
      subst e3
      refine g _ _ Ex.refl ?_ (.not rfl)
      simp only [Rep]
      exact ⟨b, ws, rfl, h3, h4⟩
    · rw [z'] at e2
      have e3 : ys = [] := List.eq_nil_of_length_eq_zero e2
      subst e3
      refine g _ _ Ex.refl ?_ (.not rfl)
      simp only [Rep, List.append_nil]
      exact ⟨a, vs, rfl, h1, h2⟩
  case h_4 _ _ xs ys =>
    split at e <;> cases e
    rename_i hz
    obtain ⟨a, vs, rfl, h1, h2⟩ := hx.lst
    obtain ⟨b, ws, rfl, h3, h4⟩ := hy.lst
    exact .inr (.inr ⟨a, b, vs, ws, rfl, rfl, h1, h3, by rw [← h2.length, ← h4.length]; exact sz_eq ▸ hz, g.lst l (h2.append h4)⟩)
theorem bin_sub : ∃ r : R2, OpR X (binaryOp .Sub) r ∧ Tells G r subB := by
  refine ⟨_, op_sub, fun m H dx dy d x y Q l hx hy e g => ?_⟩
  unfold subB at e
  split at e <;> (try cases e)
  exact ⟨_, _, hx.int, hy.int, gives_int g⟩
theorem bin_mul (hK : X.K = G.K) : ∃ r : R2, OpR X (binaryOp .Mult) r ∧ Tells G r mulB := by
  refine ⟨_, (op_mul.or op_mulW).or op_repX, fun m H dx dy d x y Q l hx hy e g => ?_⟩
  rw [hK]
  unfold mulB at e
  split at e <;> (try cases e)
  · split at e <;> cases e
    rename_i i j hm
    simp only [mulOk, Bool.or_eq_true, Bool.and_eq_true, decide_eq_true_eq] at hm
    rcases hm with (h | h) | ⟨h1, h2⟩
    · exact .inl (.inl ⟨_, _, hx.int, hy.int, .inl h, gives_int g⟩)
    · exact .inl (.inl ⟨_, _, hx.int, hy.int, .inr h, gives_int g⟩)
    · refine .inl (.inr ⟨_, _, hx.int, hy.int, ?_, gives_int g⟩)
      have a1 := log_of_lt h1
      have a2 := log_of_lt h2
      show i.natAbs.log2 + j.natAbs.log2 < 1000000
      omega
  · split at e <;> cases e
    rename_i hz
    obtain ⟨h1, h2, h3, h4⟩ := hz
    obtain ⟨a, vs, rfl, k1, k2⟩ := hx.tup
    have e1 := k2.length
    refine .inr ⟨a, _, vs, rfl, hy.int, k1.sq, fun z => h3 ?_, h1, h2, by omega, g.tup l (k2.flat _)⟩
    rw [z] at e1
    exact List.eq_nil_of_length_eq_zero e1
theorem bin_fdiv : ∃ r : R2, OpR X (binaryOp .FloorDiv) r ∧ Tells G r divB := by
  refine ⟨_, op_fdivW, fun m H dx dy d x y Q l hx hy e g => ?_⟩
  unfold divB at e
  split at e <;> (try cases e)
  split at e <;> cases e
  rename_i hz
  exact ⟨_, _, hx.int, hy.int, wide_div (b := 64) hz.1 (by have := hz.2; have := hz.1; omega) (by decide) (by decide), gives_int g⟩
theorem bin_mod : ∃ r : R2, OpR X (binaryOp .Mod) r ∧ Tells G r modB := by
  refine ⟨_, op_mod, fun m H dx dy d x y Q l hx hy e g => ?_⟩
  unfold modB at e
  split at e <;> (try cases e)
  split at e <;> cases e
  rename_i hz
  exact ⟨_, _, hx.int, hy.int, hz, gives_int g⟩
theorem bin_pow : ∃ r : R2, OpR X (binaryOp .Pow) r ∧ Tells G r powB := by
  refine ⟨_, op_pow, fun m H dx dy d x y Q l hx hy e g => ?_⟩
  unfold powB at e
  split at e <;> (try cases e)
  split at e <;> cases e
  rename_i hz
  exact ⟨_, _, hx.int, hy.int, hz, gives_int g⟩
theorem bin_shl : ∃ r : R2, OpR X (binaryOp .LShift) r ∧ Tells G r shlB := by
  refine ⟨_, op_shl, fun m H dx dy d x y Q l hx hy e g => ?_⟩
  unfold shlB at e
  split at e <;> (try cases e)
  split at e <;> cases e
  rename_i hz
  exact ⟨_, _, hx.int, hy.int, hz, gives_int g⟩
theorem bin_shr : ∃ r : R2, OpR X (binaryOp .RShift) r ∧ Tells G r shrB := by
  refine ⟨_, op_shr, fun m H dx dy d x y Q l hx hy e g => ?_⟩
  unfold shrB at e
  split at e <;> (try cases e)
  split at e <;> cases e
  rename_i hz
  exact ⟨_, _, hx.int, hy.int, hz, gives_int g⟩
theorem bin_and : ∃ r : R2, OpR X (binaryOp .BitAnd) r ∧ Tells G r andB := by
  refine ⟨_, op_and, fun m H dx dy d x y Q l hx hy e g => ?_⟩
  unfold andB at e
  split at e <;> (try cases e)
  exact ⟨_, _, hx.int, hy.int, gives_int g⟩
theorem bin_or : ∃ r : R2, OpR X (binaryOp .BitOr) r ∧ Tells G r orB := by
  refine ⟨_, op_or, fun m H dx dy d x y Q l hx hy e g => ?_⟩
  unfold orB at e
  split at e <;> (try cases e)
  exact ⟨_, _, hx.int, hy.int, gives_int g⟩
theorem bin_ok (hK : X.K = G.K) : ∀ op : Bop, ∃ r : R2, OpR X (binaryOp (opr op)) r ∧ Tells G r (binD op)
  | .add => bin_add hK | .sub => bin_sub | .mul => bin_mul hK | .fdiv => bin_fdiv | .mod => bin_mod | .pow => bin_pow | .shl => bin_shl | .shr => bin_shr | .band => bin_and | .bor => bin_or
end

/-! ### comparisons -/
theorem pds_map : ∀ ds : List D, pds ds = ds.map pd
  | [] => rfl
  | d :: ds => by rw [pds, pds_map ds]; rfl
mutual
theorem eqv_pd : ∀ (n k : Nat) (x y : D), dok n x = true → dok k y = true → PyData.eqv (pd x) (pd y) = eqD x y
  | n, k, .non, y, _, hy => by
    cases y <;> simp only [pd, PyData.eqv, eqD] <;> (try (cases k <;> simp [dok] at hy))
  | n, k, .bl a, y, _, hy => by
    cases y <;> simp only [pd, PyData.eqv, eqD] <;> (try (cases k <;> simp [dok] at hy))
  | n, k, .int a, y, _, hy => by
    cases y <;> simp only [pd, PyData.eqv, eqD] <;> (try (cases k <;> simp [dok] at hy))
  | n, k, .str a, y, _, hy => by
    cases y <;> simp only [pd, PyData.eqv, eqD] <;> (try (cases k <;> simp [dok] at hy))
  | n + 1, k, .tup xs, y, hx, hy => by
    cases y <;> simp only [pd, PyData.eqv, eqD]
    rename_i ys
    cases k with
    | zero => simp [dok] at hy
    | succ k =>
      simp only [dok] at hx hy
      exact eqv_pds n k xs ys hx hy
  | n + 1, k, .lst xs, y, hx, hy => by
    cases y <;> simp only [pd, PyData.eqv, eqD]
    rename_i ys
    cases k with
    | zero => simp [dok] at hy
    | succ k =>
      simp only [dok] at hx hy
      exact eqv_pds n k xs ys hx hy
  | 0, k, .tup xs, y, hx, hy => by simp [dok] at hx
  | 0, k, .lst xs, y, hx, hy => by simp [dok] at hx
  | n, k, .dct _ _ _, y, hx, hy => by cases n <;> simp [dok] at hx
  | n, k, .fn _, y, hx, hy => by cases n <;> simp [dok] at hx
  | n, k, .xtp _, y, hx, hy => by cases n <;> simp [dok] at hx
theorem eqv_pds : ∀ (n k : Nat) (xs ys : List D), xs.all (dok n) = true → ys.all (dok k) = true → PyData.eqvAll (pds xs) (pds ys) = eqDs xs ys
  | n, k, [], [], _, _ => by simp only [pds, PyData.eqvAll, eqDs]
  | n, k, [], y :: ys, _, _ => by simp only [pds, PyData.eqvAll, eqDs]
  | n, k, x :: xs, [], _, _ => by simp only [pds, PyData.eqvAll, eqDs]
  | n, k, x :: xs, y :: ys, hx, hy => by
    simp only [List.all_cons, Bool.and_eq_true] at hx hy
    simp only [pds, PyData.eqvAll, eqDs]
    rw [eqv_pd n k x y hx.1 hy.1, eqv_pds n k xs ys hx.2 hy.2]
end
mutual
theorem lay_pd : ∀ (n : Nat) (x : D), dok n x = true → PyData.canLay0 (pd x) = true ∧ (pd x).depth ≤ n
  | n, .non, _ => by simp [pd, PyData.canLay0, PyData.depth]
  | n, .bl _, _ => by simp [pd, PyData.canLay0, PyData.depth]
  | n, .int _, _ => by simp [pd, PyData.canLay0, PyData.depth]
  | n, .str s, h => by
    have h' : PyData.strOk s = true := by cases n <;> simpa [dok] using h
    simp [pd, PyData.canLay0, PyData.depth, h']
  | n + 1, .tup xs, h => by
    simp only [dok] at h
    have := lay_pds n xs h
    simp only [pd, PyData.canLay0, PyData.depth]
    exact ⟨this.1, by omega⟩
  | n + 1, .lst xs, h => by
    simp only [dok] at h
    have := lay_pds n xs h
    simp only [pd, PyData.canLay0, PyData.depth]
    exact ⟨this.1, by omega⟩
  | 0, .tup xs, h => by simp [dok] at h
  | 0, .lst xs, h => by simp [dok] at h
  | n, .dct _ _ _, h => by cases n <;> simp [dok] at h
  | n, .fn _, h => by cases n <;> simp [dok] at h
  | n, .xtp _, h => by cases n <;> simp [dok] at h
theorem lay_pds : ∀ (n : Nat) (xs : List D), xs.all (dok n) = true → PyData.canLayAll0 (pds xs) = true ∧ PyData.depthAll (pds xs) ≤ n
  | n, [], _ => by simp [pds, PyData.canLayAll0, PyData.depthAll]
  | n, x :: xs, h => by
    simp only [List.all_cons, Bool.and_eq_true] at h
    have a := lay_pd n x h.1
    have b := lay_pds n xs h.2
    simp only [pds, PyData.canLayAll0, PyData.depthAll, Bool.and_eq_true]
    exact ⟨⟨a.1, b.1⟩, by omega⟩
end
theorem shaped_pd {n : Nat} {x : D} (h : dok n x = true) (hn : n ≤ 64) : SeqAt.shaped (pd x) = true := by
  have a := lay_pd n x h
  unfold SeqAt.shaped
  rw [a.1, Bool.true_and]
  exact decide_eq_true (by omega)
section
variable {G : Gd} {m : AdP} {H : Hp}
mutual
theorem dp_rep : ∀ (n : Nat) (x : D) (v : V), dok n x = true → Rep G m H x v → Dp G.K H v (pd x)
  | n, .non, v, _, r => by simp only [Rep] at r; subst r; simp only [pd]; exact .non
  | n, .bl _, v, _, r => by simp only [Rep] at r; subst r; simp only [pd]; exact .bl _
  | n, .int _, v, _, r => by simp only [Rep] at r; subst r; simp only [pd]; exact .int _
  | n, .str _, v, _, r => by simp only [Rep] at r; subst r; simp only [pd]; exact .str _
  | n + 1, .tup xs, v, h, r => by
    simp only [Rep] at r
    simp only [dok] at h
    obtain ⟨a, vs, rfl, h1, h2⟩ := r
    simp only [pd]
    exact .tup h1.sq (dp_reps n xs vs h h2)
  | n + 1, .lst xs, v, h, r => by
    simp only [Rep] at r
    simp only [dok] at h
    obtain ⟨a, vs, rfl, h1, h2⟩ := r
    simp only [pd]
    exact .lst h1.sq (dp_reps n xs vs h h2)
  | 0, .tup xs, _, h, _ => by simp [dok] at h
  | 0, .lst xs, _, h, _ => by simp [dok] at h
  | n, .dct _ _ _, _, h, _ => by cases n <;> simp [dok] at h
  | n, .fn _, _, h, _ => by cases n <;> simp [dok] at h
  | n, .xtp _, _, h, _ => by cases n <;> simp [dok] at h
theorem dp_reps : ∀ (n : Nat) (xs : List D) (vs : List V), xs.all (dok n) = true → Reps G m H xs vs → DpAll G.K H vs (pds xs)
  | n, [], vs, _, r => by rw [r.inv0]; simp only [pds]; exact .nil
  | n, x :: xs, vs, h, r => by
    simp only [List.all_cons, Bool.and_eq_true] at h
    obtain ⟨v, ws, rfl, h1, h2⟩ := r.inv
    simp only [pds]
    exact .cons (dp_rep n x v h.1 h1) (dp_reps n xs ws h.2 h2)
end
theorem dp_vw {n : Nat} {x : D} {v : V} (h : dok n x = true) (r : Vw G m H x v) : Dp G.K H v (pd x) := by
  rcases r with r | ⟨a, rfl, r⟩
  · exact dp_rep n x v h r
  · cases x with
    | lst ds =>
      obtain ⟨xs, h1, h2⟩ := r
      cases n with
      | zero => simp [dok] at h
      | succ n =>
        simp only [dok] at h
        simp only [pd]
        exact .lst (.of h1) (dp_reps n ds xs h h2)
    | dct t ks vs => cases n <;> simp [dok] at h
    | _ => exact r.elim
end
def rEq0 (neg : Bool) : R2 := fun x y H Q => ∃ a b ks, x = .ref a ∧ y = .ref b ∧ Rd H a (.dK ks) ∧ Rd H b (.dK []) ∧ Q (.bl (if neg then !ks.isEmpty else ks.isEmpty)) H
section
variable {X : Cx} {G : Gd}
theorem op_eq0 (hu : X.A.units < cLine) : OpR X (compareOp .Eq) (rEq0 false) := by
  intro pins s σ H x y v u Q I rx ry h
  obtain ⟨a, b, ks, rfl, rfl, ea, eb, q⟩ := h
  obtain rfl : v = Value.ref a := rx
  obtain rfl : u = Value.ref b := ry
  obtain ⟨_, ya, va, ra, da⟩ := dk_rd I.hok ea
  obtain ⟨_, yb, vb, rb, db⟩ := dk_rd I.hok eb
  cases rb
  refine PySem.W.keq_eq (knd := mixKind X.prog X.w) (r := true) ya yb da db hu (fun e => ?_) (fin_bl I q ?_)
  · have : va = [] := List.eq_nil_of_length_eq_zero e
    subst this
    exact .nil
  · have := ra.length
    cases va with
    | nil => rw [List.eq_nil_of_length_eq_zero this]; rfl
    | cons p r => cases ks with
      | nil => simp at this
      | cons q r' => rfl
theorem op_ne0 (hu : X.A.units < cLine) : OpR X (compareOp .NotEq) (rEq0 true) := by
  intro pins s σ H x y v u Q I rx ry h
  obtain ⟨a, b, ks, rfl, rfl, ea, eb, q⟩ := h
  obtain rfl : v = Value.ref a := rx
  obtain rfl : u = Value.ref b := ry
  obtain ⟨_, ya, va, ra, da⟩ := dk_rd I.hok ea
  obtain ⟨_, yb, vb, rb, db⟩ := dk_rd I.hok eb
  cases rb
  refine PySem.W.keq_ne (knd := mixKind X.prog X.w) (r := true) ya yb da db hu (fun e => ?_) (fin_bl I q ?_)
  · have : va = [] := List.eq_nil_of_length_eq_zero e
    subst this
    exact .nil
  · have := ra.length
    cases va with
    | nil => rw [List.eq_nil_of_length_eq_zero this]; rfl
    | cons p r => cases ks with
      | nil => simp at this
      | cons q r' => rfl
end

/-! ### keys -/
theorem key_of_ok {x : D} (h : keyOk false x = true) : ∃ k, x = dK k := by
  cases x <;> simp [keyOk] at h
  · exact ⟨.inl _, rfl⟩
  · exact ⟨.inr _, rfl⟩
theorem isKey_of {x : D} (h : isKey x = true) : ∃ k, x = dK k := by
  cases x <;> simp [isKey] at h
  · exact ⟨.inl _, rfl⟩
  · exact ⟨.inr _, rfl⟩
theorem keys_of_all : ∀ {ds : List D}, ds.all isKey = true → ∃ ks : List Key, ds = ks.map dK
  | [], _ => ⟨[], rfl⟩
  | d :: ds, h => by
    simp only [List.all_cons, Bool.and_eq_true] at h
    obtain ⟨k, rfl⟩ := isKey_of h.1
    obtain ⟨ks, rfl⟩ := keys_of_all h.2
    exact ⟨k :: ks, rfl⟩
theorem keys_no {x : D} (h : keyOk true x = true) : False := by
  cases x <;> simp [keyOk] at h
theorem eqD_dK (a b : Key) : eqD (dK a) (dK b) = decide (a = b) := by
  cases a <;> cases b <;> simp [dK, eqD]
  · rw [Bool.eq_iff_iff]; simp
  · rw [Bool.eq_iff_iff]; simp
theorem eqDs_dK : ∀ (a b : List Key), eqDs (a.map dK) (b.map dK) = decide (a = b)
  | [], [] => by simp [eqDs]
  | [], b :: bs => by simp [eqDs]
  | a :: as, [] => by simp [eqDs]
  | a :: as, b :: bs => by
    simp only [List.map_cons, eqDs]
    rw [eqD_dK, eqDs_dK as bs, Bool.eq_iff_iff]
    simp
theorem eqD_dKs (a b : List Key) : eqD (dKs a) (dKs b) = decide (a = b) := by
  unfold dKs
  simp only [eqD]
  exact eqDs_dK a b
section
variable {G : Gd} {m : AdP} {H : Hp}
theorem Rep.dK {k : Key} {v : V} (h : Rep G m H (dK k) v) : v = kV k := by
  cases k <;> simpa only [Qx.dK, Rep, kV] using h
theorem Rep.of_dK {k : Key} : Rep G m H (Qx.dK k) (kV k) := by
  cases k <;> simp only [Qx.dK, Rep, kV]
theorem Reps.dKs : ∀ {ks : List Key} {xs : List V}, Reps G m H (ks.map Qx.dK) xs → xs = ks.map kV
  | [], xs, h => h.inv0
  | k :: ks, xs, h => by
    obtain ⟨v, vs, rfl, h1, h2⟩ := h.inv
    rw [h1.dK, h2.dKs]; rfl
theorem Vw.rep {d : D} {v : V} (h : Vw G m H d v) (n : ∀ a, ¬ OwnAt G m H a d) : Rep G m H d v := h.elim id fun ⟨a, _, h⟩ => (n a h).elim
theorem Vw.dK {k : Key} {v : V} (h : Vw G m H (Qx.dK k) v) : v = kV k := (h.rep fun a z => by cases k <;> exact z).dK
/-- found here, found there -/
def LookR (G : Gd) (m : AdP) (H : Hp) : Option D → Option V → Prop
  | some d, some v => Rep G m H d v
  | none, none => True
  | _, _ => False
theorem look_val {κ : Type} [DecidableEq κ] {f : κ → D} (hf : ∀ a b, eqD (f a) (f b) = decide (a = b)) (k : κ) : ∀ {kvs : List (κ × V)} {vs : List D}, Reps G m H vs (kvs.map (·.2)) →
    LookR G m H (lookD (f k) (kvs.map fun p => f p.1) vs) (valV kvs k)
  | [], vs, h => by
    rw [List.map_nil] at h
    have := h.length
    cases vs with
    | nil => exact True.intro
    | cons d ds => simp at this
  | p :: kvs, [], h => by have := h.length; simp at this
  | p :: kvs, d :: ds, h => by
    rw [List.map_cons] at h
    obtain ⟨v, ws, e, h1, h2⟩ := h.inv
    cases e
    rw [List.map_cons]
    simp only [lookD]
    rw [hf]
    by_cases e : p.1 = k
    · rw [decide_eq_true e, if_pos rfl, valV_pos e]
      exact h1
    · rw [decide_eq_false e, if_neg (by decide), valV_neg e]
      exact look_val hf k h2
/-- the dict's answer for a key, by data -/
theorem dget_vw {t : Bool} {ks vs : List D} {k : D} {x y : V} (hx : Vw G m H (.dct t ks vs) x) (hy : Vw G m H k y) (hk : keyOk t k = true) :
    ∃ a o, x = .ref a ∧ DGet H a y o ∧ LookR G m H (lookD k ks vs) o ∧ IsD H a := by
  cases t with
  | false =>
    obtain ⟨q, rfl⟩ := key_of_ok hk
    obtain ⟨a, kvs, rfl, h1, rfl, h3⟩ := hx.dctK
    exact ⟨a, _, rfl, .inl ⟨kvs, q, h1, hy.dK, rfl⟩, look_val eqD_dK q h3, .inl ⟨kvs, h1⟩⟩
  | true =>
    exact (keys_no hk).elim
end

/-! ### in, the comparisons -/
def rInT (K : PySem.W.Frag) (neg : Bool) : R2 := fun x y H Q => ∃ d ds, Dp K H x d ∧ Dp K H y (.tuple ds) ∧ SeqAt.shaped d = true ∧ SeqAt.shaped (.tuple ds) = true ∧ Q (.bl (if neg then !ds.any fun z => PyData.eqv z d else ds.any fun z => PyData.eqv z d)) H
def rInDt (neg : Bool) : R2 := fun x y H Q => ∃ a o, y = .ref a ∧ DGet H a x o ∧ Q (.bl (if neg then !o.isSome else o.isSome)) H
section
variable {X : Cx} {G : Gd}
theorem lay_tup {ds : List PyData} (h : SeqAt.shaped (.tuple ds) = true) : PyData.canLayAll0 ds = true := by
  unfold SeqAt.shaped at h
  rw [Bool.and_eq_true] at h
  simpa only [PyData.canLay0] using h.1
theorem op_inT (hu : X.A.units + 65 < cLine) : OpR X (compareOp .In) (rInT X.K false) := by
  intro pins s σ H x y v u Q I rx ry h
  obtain ⟨d, ds, hd, he, sd, se, q⟩ := h
  obtain ⟨as, r1⟩ := Dp.reads I d x v hd rx
  obtain ⟨bs, r2⟩ := Dp.reads I (.tuple ds) y u he ry
  exact SeqAt.in_tuple_reads r2 r1 (lay_tup se) (SeqAt.canLay_of_shaped sd) (PyProof.Rows.room_in_shaped sd hu) ⟨.bl _, H, I, rfl, q⟩
theorem op_notInT (hu : X.A.units + 65 < cLine) : OpR X (compareOp .NotIn) (rInT X.K true) := by
  intro pins s σ H x y v u Q I rx ry h
  obtain ⟨d, ds, hd, he, sd, se, q⟩ := h
  obtain ⟨as, r1⟩ := Dp.reads I d x v hd rx
  obtain ⟨bs, r2⟩ := Dp.reads I (.tuple ds) y u he ry
  exact SeqAt.notIn_tuple_reads r2 r1 (lay_tup se) (SeqAt.canLay_of_shaped sd) (PyProof.Rows.room_in_shaped sd hu) ⟨.bl _, H, I, rfl, q⟩
theorem op_inDt (hu : X.A.units + 1 < cLine) : OpR X (compareOp .In) (rInDt false) := by
  intro pins s σ H x y v u Q I rx ry h
  obtain ⟨a, o, rfl, g, q⟩ := h
  cases ry
  exact d_in hu I g rx fun s' I' => ⟨.bl _, H, I', rfl, q⟩
theorem op_notInDt (hu : X.A.units + 1 < cLine) : OpR X (compareOp .NotIn) (rInDt true) := by
  intro pins s σ H x y v u Q I rx ry h
  obtain ⟨a, o, rfl, g, q⟩ := h
  cases ry
  exact d_notIn hu I g rx fun s' I' => ⟨.bl _, H, I', rfl, q⟩
/-- a rule by values tells a question -/
def TellsB (G : Gd) (r : R2) (f : D → D → Option Bool) : Prop :=
  ∀ (m : AdP) (H : Hp) (dx dy : D) (b : Bool) (x y : V) (Q : VK), Live m H → Vw G m H dx x → Vw G m H dy y → f dx dy = some b → Q (.bl b) H → r x y H Q
theorem dok_lst {n : Nat} {ds : List D} (h : ds.all (dok n) = true) : dok (n + 1) (.lst ds) = true := by simpa only [dok] using h
theorem dok_tup {n : Nat} {ds : List D} (h : ds.all (dok n) = true) : dok (n + 1) (.tup ds) = true := by simpa only [dok] using h
theorem any_pd {n : Nat} {x : D} (hx : dok n x = true) : ∀ {ds : List D}, ds.all (dok n) = true → ((pds ds).any fun z => PyData.eqv z (pd x)) = ds.any fun y => eqD y x
  | [], _ => rfl
  | d :: ds, h => by
    simp only [List.all_cons, Bool.and_eq_true] at h
    simp only [pds, List.any_cons]
    rw [eqv_pd n n d x h.1 hx, any_pd hx h.2]
theorem LookR.some_eq {m : AdP} {H : Hp} {o : Option D} {p : Option V} (h : LookR G m H o p) : o.isSome = p.isSome := by
  cases o <;> cases p <;> first | rfl | exact h.elim
theorem c_in (hK : X.K = G.K) (hu : X.A.units + 65 < cLine) : ∃ r : R2, OpR X (compareOp .In) r ∧ TellsB G r inD := by
  refine ⟨_, ((op_inD hu).or (op_inT hu)).or (op_inDt (by omega)), fun m H dx dy b x y Q l hx hy e q => ?_⟩
  rw [hK]
  unfold inD at e
  split at e <;> (try cases e)
  · split at e <;> cases e
    rename_i ds hd
    rw [Bool.and_eq_true] at hd
    refine .inl (.inr ⟨pd dx, pds ds, dp_vw hd.1 hx, ?_, shaped_pd hd.1 (by decide), ?_, ?_⟩)
    · have := dp_vw (dok_tup hd.2) hy
      simpa only [pd] using this
    · have := shaped_pd (dok_tup hd.2) (by decide)
      simpa only [pd] using this
    · rw [if_neg (by decide), any_pd hd.1 hd.2]; exact q
  · split at e <;> cases e
    rename_i ds hd
    rw [Bool.and_eq_true] at hd
    refine .inl (.inl ⟨pd dx, pds ds, dp_vw hd.1 hx, ?_, shaped_pd hd.1 (by decide), ?_, ?_⟩)
    · have := dp_vw (dok_lst hd.2) hy
      simpa only [pd] using this
    · have := shaped_pd (dok_lst hd.2) (by decide)
      simpa only [pd] using this
    · rw [any_pd hd.1 hd.2]; exact q
  · split at e <;> cases e
    rename_i hk
    obtain ⟨a, o, rfl, h1, h2, _⟩ := dget_vw hy hx hk
    refine .inr ⟨a, o, rfl, h1, ?_⟩
    rw [if_neg (by decide), ← h2.some_eq]; exact q
theorem map_not {o : Option Bool} {b : Bool} (h : o.map (!·) = some b) : ∃ c, o = some c ∧ b = !c := by
  cases o with
  | none => cases h
  | some c => cases h; exact ⟨c, rfl, rfl⟩
theorem c_nin (hK : X.K = G.K) (hu : X.A.units + 65 < cLine) : ∃ r : R2, OpR X (compareOp .NotIn) r ∧ TellsB G r (fun x y => (inD x y).map (!·)) := by
  refine ⟨_, ((op_notInD hu).or (op_notInT hu)).or (op_notInDt (by omega)), fun m H dx dy b x y Q l hx hy e q => ?_⟩
  rw [hK]
  obtain ⟨c, e2, rfl⟩ := map_not e
  clear e
  have e := e2
  clear e2
  unfold inD at e
  split at e <;> (try cases e)
  · split at e <;> cases e
    rename_i ds hd
    rw [Bool.and_eq_true] at hd
    refine .inl (.inr ⟨pd dx, pds ds, dp_vw hd.1 hx, ?_, shaped_pd hd.1 (by decide), ?_, ?_⟩)
    · have := dp_vw (dok_tup hd.2) hy
      simpa only [pd] using this
    · have := shaped_pd (dok_tup hd.2) (by decide)
      simpa only [pd] using this
    · rw [if_pos rfl, any_pd hd.1 hd.2]; exact q
  · split at e <;> cases e
    rename_i ds hd
    rw [Bool.and_eq_true] at hd
    refine .inl (.inl ⟨pd dx, pds ds, dp_vw hd.1 hx, ?_, shaped_pd hd.1 (by decide), ?_, ?_⟩)
    · have := dp_vw (dok_lst hd.2) hy
      simpa only [pd] using this
    · have := shaped_pd (dok_lst hd.2) (by decide)
      simpa only [pd] using this
    · rw [any_pd hd.1 hd.2]; exact q
  · split at e <;> cases e
    rename_i hk
    obtain ⟨a, o, rfl, h1, h2, _⟩ := dget_vw hy hx hk
    refine .inr ⟨a, o, rfl, h1, ?_⟩
    rw [if_pos rfl, ← h2.some_eq]; exact q
theorem eqQ_cases {x y : D} {b : Bool} (e : eqQ x y = some b) : (∃ ks vs, x = .dct false ks vs ∧ y = .dct false [] [] ∧ b = ks.isEmpty) ∨ (dok 40 x = true ∧ dok 40 y = true ∧ b = eqD x y) := by
  unfold eqQ at e
  split at e
  · cases e
    exact .inl ⟨_, _, rfl, rfl, rfl⟩
  · split at e <;> cases e
    rename_i h
    rw [Bool.and_eq_true] at h
    exact .inr ⟨h.1, h.2, rfl⟩
theorem isEmpty_dK {kvs : List (Key × V)} : (kvs.map fun p => dK p.1).isEmpty = kvs.isEmpty := by cases kvs <;> rfl
theorem c_eq (hK : X.K = G.K) (hu : X.A.units + 65 < cLine) : ∃ r : R2, OpR X (compareOp .Eq) r ∧ TellsB G r eqQ := by
  refine ⟨_, (op_eqD (by omega)).or (op_eq0 (by omega)), fun m H dx dy b x y Q l hx hy e q => ?_⟩
  rw [hK]
  rcases eqQ_cases e with ⟨ks, vs, rfl, rfl, rfl⟩ | ⟨h1, h2, rfl⟩
  · obtain ⟨a, kvs, rfl, k1, rfl, _⟩ := hx.dctK
    obtain ⟨b, kvs2, rfl, k2, k3, _⟩ := hy.dctK
    have : kvs2 = [] := List.map_eq_nil_iff.mp k3.symm
    subst this
    refine .inr ⟨a, b, kvs, rfl, rfl, k1, k2, ?_⟩
    rw [if_neg (by decide)]
    rw [isEmpty_dK] at q
    exact q
  · refine .inl ⟨pd dx, pd dy, dp_vw h1 hx, dp_vw h2 hy, shaped_pd h1 (by decide), shaped_pd h2 (by decide), ?_⟩
    rw [eqv_pd 40 40 dx dy h1 h2]; exact q
theorem c_ne (hK : X.K = G.K) (hu : X.A.units + 65 < cLine) : ∃ r : R2, OpR X (compareOp .NotEq) r ∧ TellsB G r (fun x y => (eqQ x y).map (!·)) := by
  refine ⟨_, (op_neD (by omega)).or (op_ne0 (by omega)), fun m H dx dy b x y Q l hx hy e q => ?_⟩
  rw [hK]
  obtain ⟨c, e2, rfl⟩ := map_not e
  clear e
  have e := e2
  clear e2
  rcases eqQ_cases e with ⟨ks, vs, rfl, rfl, rfl⟩ | ⟨h1, h2, rfl⟩
  · obtain ⟨a, kvs, rfl, k1, rfl, _⟩ := hx.dctK
    obtain ⟨b, kvs2, rfl, k2, k3, _⟩ := hy.dctK
    have : kvs2 = [] := List.map_eq_nil_iff.mp k3.symm
    subst this
    refine .inr ⟨a, b, kvs, rfl, rfl, k1, k2, ?_⟩
    rw [if_pos rfl]
    rw [isEmpty_dK] at q
    exact q
  · refine .inl ⟨pd dx, pd dy, dp_vw h1 hx, dp_vw h2 hy, shaped_pd h1 (by decide), shaped_pd h2 (by decide), ?_⟩
    rw [eqv_pd 40 40 dx dy h1 h2]; exact q
theorem ordC_eq {f : Int → Int → Bool} {x y : D} {b : Bool} (e : ordC f x y = some b) : ∃ i j, x = .int i ∧ y = .int j ∧ b = f i j := by
  unfold ordC at e
  split at e <;> cases e
  exact ⟨_, _, rfl, rfl, rfl⟩
theorem Vw.isNon {m : AdP} {H : Hp} {d : D} {v : V} (h : Vw G m H d v) : decide (v = V.non) = Qx.isNon d := by
  cases d with
  | non => rw [h.non]; rfl
  | int i => rw [h.int]; rfl
  | bl i => rw [h.bl]; rfl
  | str i => rw [h.str]; rfl
  | tup ds => obtain ⟨a, xs, rfl, _⟩ := h.tup; rfl
  | xtp ds => rcases h with h | ⟨a, _, h⟩
              · simp only [Rep] at h
                obtain ⟨a, xs, rfl, _⟩ := h; rfl
              · exact h.elim
  | lst ds => obtain ⟨a, xs, rfl, _⟩ := h.lst; rfl
  | dct t ks vs =>
    cases t with
    | false => obtain ⟨a, xs, rfl, _⟩ := h.dctK; rfl
    | true => obtain ⟨a, xs, rfl, _⟩ := h.dctT; rfl
  | fn f =>
    rcases h with h | ⟨a, rfl, h⟩
    · simp only [Rep] at h
      obtain ⟨a, rfl, _⟩ := h
      rfl
    · exact h.elim
theorem c_is : ∃ r : R2, OpR X (compareOp .Is) r ∧ TellsB G r isC' := by
  refine ⟨_, op_isN.or op_is_bl, fun m H dx dy b x y Q l hx hy e q => ?_⟩
  unfold isC' at e
  split at e <;> cases e
  · exact .inl ⟨hy.non, by rw [hx.isNon]; exact q⟩
  · rename_i a b
    refine .inr ⟨a, b, hx.bl, hy.bl, ?_⟩
    rw [Bool.beq_eq_decide_eq] at q; exact q
theorem c_isn : ∃ r : R2, OpR X (compareOp .IsNot) r ∧ TellsB G r (fun x y => (isC' x y).map (!·)) := by
  refine ⟨_, op_notN.or op_isnot_bl, fun m H dx dy b x y Q l hx hy e q => ?_⟩
  obtain ⟨c, e2, rfl⟩ := map_not e
  clear e
  have e := e2
  clear e2
  unfold isC' at e
  split at e <;> cases e
  · exact .inl ⟨hy.non, by rw [hx.isNon]; exact q⟩
  · rename_i a b
    refine .inr ⟨a, b, hx.bl, hy.bl, ?_⟩
    rw [Bool.beq_eq_decide_eq] at q; exact q
def cpr : Cop → CmpOp
  | .eq => .Eq | .ne => .NotEq | .lt => .Lt | .le => .LtE | .gt => .Gt | .ge => .GtE | .is => .Is | .isn => .IsNot | .inn => .In | .nin => .NotIn
theorem cmp_ok (hK : X.K = G.K) (hu : X.A.units + 65 < cLine) : ∀ op : Cop, ∃ r : R2, OpR X (compareOp (cpr op)) r ∧ TellsB G r (cmpD op)
  | .eq => c_eq hK hu
  | .ne => c_ne hK hu
  | .lt => ⟨_, op_lt, fun m H dx dy b x y Q l hx hy e q => by obtain ⟨i, j, rfl, rfl, rfl⟩ := ordC_eq e; exact ⟨i, j, hx.int, hy.int, q⟩⟩
  | .le => ⟨_, op_le, fun m H dx dy b x y Q l hx hy e q => by obtain ⟨i, j, rfl, rfl, rfl⟩ := ordC_eq e; exact ⟨i, j, hx.int, hy.int, q⟩⟩
  | .gt => ⟨_, op_gt, fun m H dx dy b x y Q l hx hy e q => by obtain ⟨i, j, rfl, rfl, rfl⟩ := ordC_eq e; exact ⟨i, j, hx.int, hy.int, q⟩⟩
  | .ge => ⟨_, op_ge, fun m H dx dy b x y Q l hx hy e q => by obtain ⟨i, j, rfl, rfl, rfl⟩ := ordC_eq e; exact ⟨i, j, hx.int, hy.int, q⟩⟩
  | .is => c_is
  | .isn => c_isn
  | .inn => c_in hK hu
  | .nin => c_nin hK hu
end
end Qx
set_option Elab.async false
set_option linter.all false
set_option maxRecDepth 100000
set_option maxHeartbeats 4000000
/-! QBi: built-ins, subscripts, slices, methods, by plain data. -/
namespace Qx
open PySem PySem.Spec L2

/-! ### isinstance -/
def tyS : D → String
  | .non => "NoneType" | .bl _ => "bool" | .int _ => "int" | .str _ => "str" | .tup _ => "tuple" | .lst _ => "list" | .dct _ _ _ => "dict" | .fn _ => "" | .xtp _ => ""
def tyN : Ty → String
  | .int => "int" | .bool => "bool" | .str => "str" | .tuple => "tuple" | .list => "list" | .dict => "dict"
def noFn : D → Bool
  | .fn _ => false
  | .xtp _ => false
  | .dct true _ _ => false
  | _ => true
theorem kit_all (d : D) (t : Ty) (h : noFn d = true) : kitB (tyS d) (tyN t) = some (isaT (tyD d) t) := by
  cases d with
  | fn f => cases h
  | xtp f => cases h
  | non => cases t <;> decide +kernel
  | bl b => cases t <;> (simp only [tyS, tyN, tyD, isaT]; decide +kernel)
  | int b => cases t <;> (simp only [tyS, tyN, tyD, isaT]; decide +kernel)
  | str b => cases t <;> (simp only [tyS, tyN, tyD, isaT]; decide +kernel)
  | tup b => cases t <;> (simp only [tyS, tyN, tyD, isaT]; decide +kernel)
  | lst b => cases t <;> (simp only [tyS, tyN, tyD, isaT]; decide +kernel)
  | dct b c e => cases t <;> (simp only [tyS, tyN, tyD, isaT]; decide +kernel)
section
variable {G : Gd} {m : AdP} {H : Hp}
theorem ty_vw {d : D} {v : V} (h : Vw G m H d v) (n : noFn d = true) : TyX G.K H v (.type (tyS d)) := by
  cases d with
  | fn f => cases n
  | xtp f => cases n
  | non => rw [h.non]; exact .base .non
  | bl b => rw [h.bl]; exact .base (.bl _)
  | int b => rw [h.int]; exact .base (.int _)
  | str b => rw [h.str]; exact .base (.str _)
  | tup b =>
    obtain ⟨a, xs, rfl, h1, _⟩ := h.tup
    obtain ⟨o, h1, _⟩ := h1.1
    exact .fTuple h1
  | lst b =>
    obtain ⟨a, xs, rfl, h1, _⟩ := h.lst
    rcases h1 with (h1 | ⟨o, h1⟩) | ⟨o, its, n, h1, h2, _⟩
    · exact .base (.lst h1)
    · exact .base (.frz h1)
    · exact .kList h1 h2
  | dct t c e =>
    cases t with
    | true => cases n
    | false =>
      obtain ⟨a, kvs, rfl, h1, _⟩ := h.dctK
      rcases h1 with h1 | ⟨o, h1⟩
      · exact .base (.dK h1)
      · exact .fDict h1
theorem isa_noFn {d k : D} {ts : List Ty} (h : isaD d ts = some k) : noFn d = true ∧ k = .bl (ts.any (isaT (tyD d))) := by
  cases d with
  | fn f => cases h
  | xtp f => cases h
  | dct t a b =>
    cases t with
    | true => cases h
    | false => cases h; exact ⟨rfl, rfl⟩
  | _ => cases h; exact ⟨rfl, rfl⟩
theorem kit_any {K : PySem.W.Frag} {d : D} (n : noFn d = true) : ∀ ts : List Ty, PySem.W.kitAny K (.type (tyS d)) (ts.map fun t => Value.type (tyN t)) = some (ts.any (isaT (tyD d)))
  | [] => kitAny_nil
  | t :: ts => by
    rw [List.map_cons, List.any_cons]
    refine kitAny_cons (kit_ty (kit_all d t n)) (fun e => ?_) fun e => by rw [e]; rfl
    rw [e, Bool.false_or]
    exact kit_any n ts
theorem cls_all : ∀ ts : List Ty, Paired ClsV (ts.map fun t => V.ty (tyN t)) (ts.map fun t => Value.type (tyN t))
  | [] => .nil
  | t :: ts => .cons (.ty _) (cls_all ts)
end
/-! ### calls of built-ins -/
inductive Vws (G : Gd) (m : AdP) (H : Hp) : List D → List V → Prop
  | nil : Vws G m H [] []
  | cons {d : D} {v : V} {ds : List D} {vs : List V} : Vw G m H d v → Vws G m H ds vs → Vws G m H (d :: ds) (v :: vs)
def TellsC (G : Gd) (r : List V → Hp → VK → Prop) (f : List D → Option D) : Prop :=
  ∀ (m : AdP) (H : Hp) (ds : List D) (d : D) (xs : List V) (Q : VK), Live m H → Vws G m H ds xs → f ds = some d → Gives G m H d Q → r xs H Q
theorem d1_eq {f : D → Option D} {ds : List D} {d : D} (h : d1 f ds = some d) : ∃ x, ds = [x] ∧ f x = some d := by
  unfold d1 at h
  split at h
  · exact ⟨_, rfl, h⟩
  · cases h
theorem twoI_eq {f : Int → Int → Option D} {ds : List D} {d : D} (h : twoI f ds = some d) : ∃ i j, ds = [.int i, .int j] ∧ f i j = some d := by
  unfold twoI at h
  split at h
  · exact ⟨_, _, rfl, h⟩
  · cases h
theorem Vws.one {G : Gd} {m : AdP} {H : Hp} {d : D} {xs : List V} (h : Vws G m H [d] xs) : ∃ v, xs = [v] ∧ Vw G m H d v := by
  cases h with
  | cons a b => cases b; exact ⟨_, rfl, a⟩
theorem Vws.two {G : Gd} {m : AdP} {H : Hp} {d e : D} {xs : List V} (h : Vws G m H [d, e] xs) : ∃ v w, xs = [v, w] ∧ Vw G m H d v ∧ Vw G m H e w := by
  cases h with
  | cons a b =>
    obtain ⟨w, rfl, q⟩ := b.one
    exact ⟨_, _, rfl, a, q⟩
theorem overI_eq {f : List Int → Option D} {x d : D} (h : overI f x = some d) : ∃ ns, x = .lst (ns.map .int) ∧ f ns = some d := by
  unfold overI at h
  split at h
  · split at h
    · rename_i e
      exact ⟨_, by rw [intsD_eq e], h⟩
    · cases h
  · cases h
theorem overB_eq {f : List Bool → Option D} {x d : D} (h : overB f x = some d) : ∃ ns, x = .lst (ns.map .bl) ∧ f ns = some d := by
  unfold overB at h
  split at h
  · split at h
    · rename_i e
      exact ⟨_, by rw [blsD_eq e], h⟩
    · cases h
  · cases h
section
variable {G : Gd} {m : AdP} {H : Hp}
theorem Vw.ints {ns : List Int} {v : V} (h : Vw G m H (.lst (ns.map .int)) v) : ∃ a, v = .ref a ∧ SqL G.K H a (ns.map V.int) := by
  obtain ⟨a, xs, rfl, h1, h2⟩ := h.lst
  rw [h2.ints] at h1
  exact ⟨a, rfl, h1⟩
theorem Vw.bls {ns : List Bool} {v : V} (h : Vw G m H (.lst (ns.map .bl)) v) : ∃ a, v = .ref a ∧ SqL G.K H a (ns.map V.bl) := by
  obtain ⟨a, xs, rfl, h1, h2⟩ := h.lst
  rw [h2.bls] at h1
  exact ⟨a, rfl, h1⟩
theorem fold_max : ∀ (r : List Int) (a : Int), (r.foldl (fun x y => if y > x then y else x) a = a ∨ r.foldl (fun x y => if y > x then y else x) a ∈ r) ∧ a ≤ r.foldl (fun x y => if y > x then y else x) a ∧ ∀ y ∈ r, y ≤ r.foldl (fun x y => if y > x then y else x) a
  | [], a => ⟨.inl rfl, Int.le_refl _, by simp⟩
  | b :: r, a => by
    rw [List.foldl_cons]
    obtain ⟨h1, h2, h3⟩ := fold_max r (if b > a then b else a)
    refine ⟨?_, ?_, fun y hy => ?_⟩
    · rcases h1 with h1 | h1
      · rw [h1]
        split
        · exact .inr List.mem_cons_self
        · exact .inl rfl
      · exact .inr (List.mem_cons_of_mem _ h1)
    · refine Int.le_trans ?_ h2
      split <;> omega
    · rcases List.mem_cons.mp hy with rfl | hy
      · refine Int.le_trans ?_ h2
        split <;> omega
      · exact h3 y hy
theorem fold_min : ∀ (r : List Int) (a : Int), (r.foldl (fun x y => if y < x then y else x) a = a ∨ r.foldl (fun x y => if y < x then y else x) a ∈ r) ∧ r.foldl (fun x y => if y < x then y else x) a ≤ a ∧ ∀ y ∈ r, r.foldl (fun x y => if y < x then y else x) a ≤ y
  | [], a => ⟨.inl rfl, Int.le_refl _, by simp⟩
  | b :: r, a => by
    rw [List.foldl_cons]
    obtain ⟨h1, h2, h3⟩ := fold_min r (if b < a then b else a)
    refine ⟨?_, ?_, fun y hy => ?_⟩
    · rcases h1 with h1 | h1
      · rw [h1]
        split
        · exact .inr List.mem_cons_self
        · exact .inl rfl
      · exact .inr (List.mem_cons_of_mem _ h1)
    · refine Int.le_trans h2 ?_
      split <;> omega
    · rcases List.mem_cons.mp hy with rfl | hy
      · refine Int.le_trans h2 ?_
        split <;> omega
      · exact h3 y hy
theorem maxI_spec {ns : List Int} {M : Int} (h : maxI ns = some M) : M ∈ ns ∧ ∀ y ∈ ns, y ≤ M := by
  cases ns with
  | nil => cases h
  | cons a r =>
    obtain ⟨h1, h2, h3⟩ := fold_max r a
    cases h
    refine ⟨?_, fun y hy => ?_⟩
    · rcases h1 with h1 | h1
      · exact List.mem_cons.mpr (.inl h1)
      · exact List.mem_cons_of_mem _ h1
    · rcases List.mem_cons.mp hy with rfl | hy
      · exact h2
      · exact h3 y hy
theorem minI_spec {ns : List Int} {M : Int} (h : minI ns = some M) : M ∈ ns ∧ ∀ y ∈ ns, M ≤ y := by
  cases ns with
  | nil => cases h
  | cons a r =>
    obtain ⟨h1, h2, h3⟩ := fold_min r a
    cases h
    refine ⟨?_, fun y hy => ?_⟩
    · rcases h1 with h1 | h1
      · exact List.mem_cons.mpr (.inl h1)
      · exact List.mem_cons_of_mem _ h1
    · rcases List.mem_cons.mp hy with rfl | hy
      · exact h2
      · exact h3 y hy
theorem sortI_perm (ns : List Int) : (sortI ns).Perm ns := List.mergeSort_perm _ _
theorem sortI_up (ns : List Int) : (sortI ns).Pairwise (· ≤ ·) := by
  have := List.pairwise_mergeSort (le := fun (a b : Int) => decide (a ≤ b)) (fun a b c h1 h2 => by simp at h1 h2 ⊢; omega) (fun a b => by simp; omega) ns
  exact this.imp fun h => by simpa using h
theorem sortI_the {ns ms : List Int} (p : ms.Perm ns) (u : ms.Pairwise (· ≤ ·)) : ms = sortI ns :=
  (p.trans (sortI_perm ns).symm).eq_of_pairwise (fun a b _ _ h1 h2 => Int.le_antisymm h1 h2) u (sortI_up ns)
end

/-! ### len, tuple, list, sums .. -/
section
variable {X : Cx} {G : Gd}
def rLenD : List V → Hp → VK → Prop := fun xs H Q => ∃ a kvs, xs = [V.ref a] ∧ Rd H a (.dK kvs) ∧ Q (.int kvs.length) H
theorem call_lenRd : CallR X (.builtin "len") rLenD := by
  intro pins s σ H xs us Q I r h
  obtain ⟨a, kvs, rfl, ha, q⟩ := h
  obtain ⟨u, rfl, ru⟩ := vals1 r
  cases ru
  exact d_len I ha fun t s' I' => ⟨.int kvs.length, H, I', ⟨t, rfl⟩, q⟩
theorem b_len (hK : X.K = G.K) : ∃ r, CallR X (.builtin "len") r ∧ TellsC G r (d1 lenB) := by
  refine ⟨_, (call_len_seq.or call_len_str).or call_lenRd, fun m H ds d xs Q l hx e0 g => ?_⟩
  rw [hK]
  obtain ⟨x, rfl, e⟩ := d1_eq e0
  obtain ⟨v, rfl, hv⟩ := hx.one
  unfold lenB at e
  split at e <;> cases e
  rename_i n e
  unfold lenD at e
  split at e
  · split at e <;> cases e
    rename_i z
    exact .inl (.inr ⟨_, by rw [hv.str], sz_eq ▸ z, gives_int g⟩)
  · cases e
    obtain ⟨a, ys, rfl, h1, h2⟩ := hv.tup
    exact .inl (.inl ⟨a, ys, rfl, .inr h1.sq, by rw [← h2.length]; exact gives_int g⟩)
  · cases e
    obtain ⟨a, ys, rfl, h1, h2⟩ := hv.lst
    exact .inl (.inl ⟨a, ys, rfl, .inl h1, by rw [← h2.length]; exact gives_int g⟩)
  · cases e
    obtain ⟨a, kvs, rfl, h1, rfl, _⟩ := hv.dctK
    exact .inr ⟨a, kvs, rfl, h1, by rw [List.length_map] at g; exact gives_int g⟩
  · cases e
theorem b_abs : ∃ r, CallR X (.builtin "abs") r ∧ TellsC G r (d1 absB) := by
  refine ⟨_, call_abs, fun m H ds d xs Q l hx e0 g => ?_⟩
  obtain ⟨x, rfl, e⟩ := d1_eq e0
  obtain ⟨v, rfl, hv⟩ := hx.one
  unfold absB at e
  split at e <;> cases e
  exact ⟨_, by rw [hv.int], gives_int g⟩
theorem b_int : ∃ r, CallR X (.type "int") r ∧ TellsC G r (d1 intB) := by
  refine ⟨_, call_int1, fun m H ds d xs Q l hx e0 g => ?_⟩
  obtain ⟨x, rfl, e⟩ := d1_eq e0
  obtain ⟨v, rfl, hv⟩ := hx.one
  unfold intB at e
  split at e <;> cases e
  · exact .inl ⟨_, by rw [hv.int], gives_int g⟩
  · exact .inr ⟨_, by rw [hv.bl], gives_int g⟩
theorem seqD_vw {m : AdP} {H : Hp} {d : D} {ds : List D} {v : V} (e : seqD d = some ds) (h : Vw G m H d v) :
    ∃ a xs, v = .ref a ∧ Reps G m H ds xs ∧ ((d = .tup ds ∧ SqTm G m H a xs) ∨ (d = .lst ds ∧ SqL G.K H a xs)) := by
  unfold seqD at e
  split at e <;> cases e
  · obtain ⟨a, ys, rfl, h1, h2⟩ := h.tup
    exact ⟨a, ys, rfl, h2, .inl ⟨rfl, h1⟩⟩
  · obtain ⟨a, ys, rfl, h1, h2⟩ := h.lst
    exact ⟨a, ys, rfl, h2, .inr ⟨rfl, h1⟩⟩
theorem omap {α β : Type} {o : Option α} {f : α → β} {b : β} (h : o.map f = some b) : ∃ a, o = some a ∧ b = f a := by
  cases o with
  | none => cases h
  | some a => cases h; exact ⟨a, rfl, rfl⟩
theorem b_tup (hK : X.K = G.K) : ∃ r, CallR X (.type "tuple") r ∧ TellsC G r (d1 tupB) := by
  refine ⟨_, call_tupX, fun m H ds d xs Q l hx e0 g => ?_⟩
  rw [hK]
  obtain ⟨x, rfl, e⟩ := d1_eq e0
  obtain ⟨v, rfl, hv⟩ := hx.one
  obtain ⟨ys, e1, rfl⟩ := omap e
  obtain ⟨a, zs, rfl, h1, h2⟩ := seqD_vw e1 hv
  rcases h2 with ⟨rfl, h2⟩ | ⟨rfl, h2⟩
  · refine ⟨a, zs, rfl, .inr ⟨h2.sq, g _ _ Ex.refl ?_ (.not rfl)⟩⟩
    simp only [Rep]
    exact ⟨a, zs, rfl, h2, h1⟩
  · exact ⟨a, zs, rfl, .inl ⟨h2, g.tup l h1⟩⟩
theorem b_lst (hK : X.K = G.K) : ∃ r, CallR X (.type "list") r ∧ TellsC G r (d1 lstB) := by
  refine ⟨_, call_list_of, fun m H ds d xs Q l hx e0 g => ?_⟩
  rw [hK]
  obtain ⟨x, rfl, e⟩ := d1_eq e0
  obtain ⟨v, rfl, hv⟩ := hx.one
  obtain ⟨ys, e1, rfl⟩ := omap e
  obtain ⟨a, zs, rfl, h1, h2⟩ := seqD_vw e1 hv
  rcases h2 with ⟨rfl, h2⟩ | ⟨rfl, h2⟩
  · exact ⟨a, zs, rfl, .inr h2.sq, g.lst l h1⟩
  · exact ⟨a, zs, rfl, .inl h2, g.lst l h1⟩
theorem b_sum (hK : X.K = G.K) (hc : X.calm = true) : ∃ r, CallR X (.builtin "sum") r ∧ TellsC G r (d1 (overI fun ns => some (.int ns.sum))) := by
  refine ⟨_, cr_sum hc, fun m H ds d xs Q l hx e0 g => ?_⟩
  rw [hK]
  obtain ⟨x, rfl, e⟩ := d1_eq e0
  obtain ⟨v, rfl, hv⟩ := hx.one
  obtain ⟨ns, rfl, e2⟩ := overI_eq e
  cases e2
  obtain ⟨a, rfl, h1⟩ := hv.ints
  exact ⟨a, ns, rfl, h1, gives_int g⟩
theorem b_max (hK : X.K = G.K) (hc : X.calm = true) : ∃ r, CallR X (.builtin "max") r ∧ TellsC G r (d1 (overI fun ns => (maxI ns).map .int)) := by
  refine ⟨_, cr_max hc, fun m H ds d xs Q l hx e0 g => ?_⟩
  rw [hK]
  obtain ⟨x, rfl, e⟩ := d1_eq e0
  obtain ⟨v, rfl, hv⟩ := hx.one
  obtain ⟨ns, rfl, e2⟩ := overI_eq e
  obtain ⟨M, e3, rfl⟩ := omap e2
  obtain ⟨a, rfl, h1⟩ := hv.ints
  have sp := maxI_spec e3
  refine ⟨a, ns, rfl, h1, List.length_pos_of_mem sp.1, fun k hk hm => ?_⟩
  have : k = M := Int.le_antisymm (sp.2 k hk) (hm M sp.1)
  subst this
  exact gives_int g
theorem b_max2 (hc : X.calm = true) : ∃ r, CallR X (.builtin "max") r ∧ TellsC G r (twoI fun i j => some (.int (if j > i then j else i))) := by
  refine ⟨_, call_max2 hc, fun m H ds d xs Q l hx e0 g => ?_⟩
  obtain ⟨i, j, rfl, e⟩ := twoI_eq e0
  cases e
  obtain ⟨v, w, rfl, h1, h2⟩ := hx.two
  exact ⟨i, j, by rw [h1.int, h2.int], gives_int g⟩
theorem b_min2 (hc : X.calm = true) : ∃ r, CallR X (.builtin "min") r ∧ TellsC G r (twoI fun i j => some (.int (if j < i then j else i))) := by
  refine ⟨_, call_min2 hc, fun m H ds d xs Q l hx e0 g => ?_⟩
  obtain ⟨i, j, rfl, e⟩ := twoI_eq e0
  cases e
  obtain ⟨v, w, rfl, h1, h2⟩ := hx.two
  exact ⟨i, j, by rw [h1.int, h2.int], gives_int g⟩
theorem b_all (hK : X.K = G.K) (hc : X.calm = true) : ∃ r, CallR X (.builtin "all") r ∧ TellsC G r (d1 (overB fun bs => some (.bl (bs.all id)))) := by
  refine ⟨_, cr_all hc, fun m H ds d xs Q l hx e0 g => ?_⟩
  rw [hK]
  obtain ⟨x, rfl, e⟩ := d1_eq e0
  obtain ⟨v, rfl, hv⟩ := hx.one
  obtain ⟨ns, rfl, e2⟩ := overB_eq e
  cases e2
  obtain ⟨a, rfl, h1⟩ := hv.bls
  exact ⟨a, ns, rfl, h1, gives_bl g⟩
theorem b_any (hK : X.K = G.K) (hc : X.calm = true) : ∃ r, CallR X (.builtin "any") r ∧ TellsC G r (d1 (overB fun bs => some (.bl (bs.any id)))) := by
  refine ⟨_, cr_any hc, fun m H ds d xs Q l hx e0 g => ?_⟩
  rw [hK]
  obtain ⟨x, rfl, e⟩ := d1_eq e0
  obtain ⟨v, rfl, hv⟩ := hx.one
  obtain ⟨ns, rfl, e2⟩ := overB_eq e
  cases e2
  obtain ⟨a, rfl, h1⟩ := hv.bls
  exact ⟨a, ns, rfl, h1, gives_bl g⟩
end
end Qx

/-! ### sorted of a tuple -/
namespace Qx
open PySem PySem.Spec PyProof.Rows SrtO
section
variable {prog : Program} {w : World} {A : Around} {E : Value → Shared → Prop} {s : Shared}
/-- the items of a tuple, gathered -/
theorem gather_tup {t : Addr} {vs : List Value} {Q : List Value → Shared → Prop} (ht : IsTup s.heap t vs.toArray) (hz : vs.length ≤ sizeLine)
    (h : Q vs { s with heap := (s.heap.push (seqObj "list" #[] 0)).update s.heap.objs.size (Obj.mapSeq (· ++ vs.toArray)) }) : wpAny (model prog w) A (collect (.ref t)) Q E s := by
  obtain ⟨ob, hob, hcl, n, hda⟩ := id ht
  unfold collect
  refine wpAny_bind (wpAny_runValue (codeAny_builtin entry_proto_collect' ?_))
  refine wpAny_bind (wpAny_newList (wpAny_pure ⟨Code.quiet_builtin _ (by decide +kernel), codeAny_builtin entry_list_iadd' ?_⟩))
  show wpAny _ _ (Builtin.List.listExtendWith (.ref s.heap.objs.size) (.ref t) (.ref s.heap.objs.size)) _ _ { s with heap := s.heap.push (seqObj "list" #[] 0) }
  unfold Builtin.List.listExtendWith
  have hob' : (s.heap.push (seqObj "list" #[] 0)).get? t = some ob := Heap.get?_push_of_some _ hob
  refine wpAny_bind (wpAny_typeOf (T := "tuple") ⟨ob, hob', hcl⟩ ?_)
  rw [if_pos (by rw [show (Value.type "tuple" == Value.type "tuple") = true from rfl]; simp)]
  refine wpAny_bind (listItems_at hob' hda ?_)
  refine wpAny_bind (listItems_at (xs := #[]) (n := 0) (Heap.get?_push_size _ rfl) rfl ?_)
  rw [if_neg (by simp)]
  have hsz : (#[] ++ vs.toArray).size ≤ sizeLine + 1 := by simp only [Array.size_append, List.size_toArray, List.length_nil]; omega
  refine wpAny_bind (listUpdate_at (xs := #[]) (n := 0) (Heap.get?_push_size _ rfl) rfl ?_ (Nat.zero_le _) hsz)
  refine wpAny_pure ?_
  refine wpAny_bind (wpAny_load (get?_update_seq (Heap.get?_push_size _ rfl) _) ?_)
  show wpAny _ _ (pure ((#[] : Array Value) ++ vs.toArray).toList) Q E _
  have e : ((#[] : Array Value) ++ vs.toArray).toList = vs := by simp
  rw [e]
  exact wpAny_pure h
theorem sorted_tup {l : Addr} {vs : List Value} {ltv : Value → Value → Bool} {Q : Value → Shared → Prop} (O : Swo ltv) (hl : IsTup s.heap l vs.toArray) (hz : vs.length ≤ sizeLine)
    (hS : 2 ≤ vs.length → ∀ (h₁ : Heap) (a : Addr), h₁.get? a = some (seqObj "list" vs.toArray 0) → (∀ b o, s.heap.get? b = some o → b ≠ a ∧ h₁.get? b = some o) → SortableO prog w A.in1.in1 { s with heap := h₁ } a vs ltv)
    (h : ∀ out : List Value, Srtd ltv out → Stb ltv out vs → Q (.ref (s.heap.objs.size + 1)) { s with heap := sortedAll s.heap vs out.toArray }) : wpAny (model prog w) A (call (.builtin "sorted") [.ref l]) Q E s := by
  refine Calls.call_function_entry kind_sorted plain_sorted entry_sorted (args_sorted1 _) ?_
  unfold Builtin.«sorted»
  refine wpAny_bind (m := checkCount "sorted" 1 1 _) (wpAny_pure ?_)
  refine wpAny_bind (gather_tup hl hz ?_)
  refine wpAny_bind (wpAny_newList ?_ hz)
  have z1 : ((s.heap.push (seqObj "list" #[] 0)).update s.heap.objs.size (Obj.mapSeq (· ++ vs.toArray))).objs.size = s.heap.objs.size + 1 := by
    rw [Heap.size_update, size_push']
  have z2 : (((s.heap.push (seqObj "list" #[] 0)).update s.heap.objs.size (Obj.mapSeq (· ++ vs.toArray))).push (seqObj "list" vs.toArray 0)).get? (s.heap.objs.size + 1) = some (seqObj "list" vs.toArray 0) := by
    rw [← z1]; exact Heap.get?_push_size _ rfl
  have kept : ∀ b o, s.heap.get? b = some o → b ≠ s.heap.objs.size + 1 ∧ (((s.heap.push (seqObj "list" #[] 0)).update s.heap.objs.size (Obj.mapSeq (· ++ vs.toArray))).push (seqObj "list" vs.toArray 0)).get? b = some o := fun b o q => by
    have lt : b < s.heap.objs.size := Heap.lt_size q
    refine ⟨Nat.ne_of_lt (Nat.lt_succ_of_lt lt), Heap.get?_push_of_some _ ?_⟩
    rw [Heap.get?_update_ne _ _ _ _ (Nat.ne_of_lt lt)]
    exact Heap.get?_push_of_some _ q
  show wpAny _ _ _ _ _ { s with heap := ((s.heap.push (seqObj "list" #[] 0)).update s.heap.objs.size (Obj.mapSeq (· ++ vs.toArray))).push (seqObj "list" vs.toArray 0) }
  rw [z1]
  refine wpAny_bind (wpAny_holding (wpAny_call_entry slot_list_sort ⟨_, z2, rfl⟩ entry_list_sort (list_sort_ord O z2 hz (fun h2 => hS h2 _ _ z2 kept) fun out hs hb => ⟨_, rfl, ?_⟩) (args_list_sort _)))
  exact wpAny_pure ⟨_, rfl, h out hs hb⟩
end
end Qx
namespace Qx
open PySem PySem.Spec L2
section
variable {X : Cx} {G : Gd}
def rSortT (K : PySem.W.Frag) : List V → Hp → VK → Prop := fun vs H Q => ∃ (a : Addr) (ns : List Int), vs = [V.ref a] ∧ SqT K H a (ns.map V.int) ∧
  ∀ (ns' : List Int) (p : Addr), ns'.Perm ns → ns'.Pairwise (· ≤ ·) → H p = none → Q (.ref p) (upd H p (.lst (ns'.map V.int)))
theorem cr_sortT : CallR X (.builtin "sorted") (rSortT X.K) := by
  intro pins s σ H vs us Q I r h
  obtain ⟨a, ns, rfl, hs, q⟩ := h
  obtain ⟨its, rv, hl, hz⟩ := I.tuple hs
  rw [Vals.ref1 r]
  have hi := rv.ints
  refine sorted_tup SrtO.swo_int hl (by rw [← rv.length]; exact hz) (fun h2 h₁ a' _ _ => SrtO.ints_sortable hi h2) fun out h1 h2 => ?_
  obtain ⟨k1, k2, k3⟩ := SrtO.ints_out hi h1 h2
  obtain ⟨ep, he'⟩ := PyProof.Rows.sortedAll_at s.heap its out.toArray
  have hlen : ((out.map SrtO.iv).map V.int).length ≤ sizeLine := by
    rw [List.length_map, k2.length_eq]
    rw [List.length_map] at hz
    exact hz
  refine ⟨.ref _, upd H (s.heap.objs.size + 1) (.lst ((out.map SrtO.iv).map V.int)), ?_, rfl, q _ _ k2 k3 (I.hok.fresh (Nat.le_succ _))⟩
  exact I.laid (t' := s.toks) (fun _ _ => PyProof.Rows.sortedAll_old) (Nat.le_succ _) ⟨hlen, out, ep, vals_of_ints k1, he'⟩
end
end Qx

/-! ### subscripts and slices -/
namespace Qx
open PySem PySem.Spec PyProof.Rows HT
section
variable {prog : Program} {w : World} {A : Around} {E : Value → Shared → Prop} {s : Shared}
/-- t[::-1] -/
theorem back_tup {t sl : Addr} {items : Array Value} {vl vu vs : Value} {Q : Value → Shared → Prop} (ht : IsTup s.heap t items) (hs : s.heap.IsSliceOf sl vl vu vs) (pl : IsPart vl none) (pu : IsPart vu none) (ps : IsPart vs (some (-1)))
    (h : Q (.ref s.heap.objs.size) { s with heap := s.heap.push { cls := .type "tuple", data := .seq items.toList.reverse.toArray } }) (hsz : items.size ≤ sizeLine) : wpAny (model prog w) A (getItem (.ref t) (.ref sl)) Q E s := by
  have fits : sizeOk (.seq items.toList.reverse.toArray) := by
    show items.toList.reverse.toArray.size ≤ sizeLine
    rw [List.size_toArray, List.length_reverse, Array.length_toList]
    exact hsz
  obtain ⟨os, hos, hcs, hds⟩ := id hs
  have hTs : s.TypeIs (.ref sl) "slice" := ⟨os, hos, hcs⟩
  unfold getItem
  try with_reducible refine wpAny_holding ?_
  first | refine wpAny_bind (wpAny_pure ?_) | skip
  refine wpAny_bind (wpAny_sequenceKey ht.typeIs (by decide) ?_)
  refine wpAny_bind (wpAny_callSpecial?_slot (name := Str.ofString "__getitem__") ht.typeIs slot_tuple_getitem (wpAny_call_entry slot_tuple_getitem ht.typeIs entry_tuple_getitem ?_ (args_tuple_getitem _ _)))
  show wpAny _ _ (Builtin.Tuple.tupleItemsOf (.ref t) >>= _) _ _ s
  refine wpAny_bind (tupleItemsOf_ ht ?_)
  refine wpAny_bind (wpAny_typeOf hTs ?_)
  rw [if_pos (by decide)]
  have app : ∀ {A' : Around} {E' : Value → Shared → Prop} {R : Int × Int × Nat → Shared → Prop}, R ((items.size : Int) - 1, -1, items.size) s → wpAny (model prog w) A' (Builtin.Slice.sliceApplied (.ref sl) (pure (items.size : Int))) R E' s := fun {A' E' R} hR => by
    unfold Builtin.Slice.sliceApplied Builtin.Slice.sliceFields
    refine wpAny_bind (wpAny_bind (wpAny_field hos hds (x := vl) rfl (wpAny_bind (wpAny_field hos hds (x := vu) rfl (wpAny_bind (wpAny_field hos hds (x := vs) rfl (wpAny_pure ?_)))))))
    refine wpAny_bind (slicePart_ ps ?_)
    show wpAny _ _ (if ((-1 : Int) == 0) = true then _ else _) _ _ s
    rw [if_neg (by decide)]
    refine wpAny_bind (slicePart_ pl (wpAny_bind (slicePart_ pu (wpAny_bind (wpAny_pure ?_)))))
    show wpAny _ _ (pure ((items.size : Int) - 1, (-1 : Int), Builtin.Slice.slicePlaces ((items.size : Int) - 1) (-1) (-1))) _ _ s
    have e : Builtin.Slice.slicePlaces ((items.size : Int) - 1) (-1) (-1) = items.size := by
      unfold Builtin.Slice.slicePlaces
      rw [if_neg (by decide)]
      by_cases z : items.size = 0
      · rw [z]; rfl
      · rw [if_pos (by omega), show (-(-1 : Int)) = 1 from rfl, Int.ediv_one]
        omega
    rw [e]
    exact wpAny_pure hR
  refine wpAny_bind (app ?_)
  show wpAny _ _ (if ((((items.size : Int) - 1) == 0 && (-1 : Int) == 1 && items.size == items.size) = true) then _ else _) _ _ s
  rw [if_neg (by rw [show ((-1 : Int) == 1) = false from rfl, Bool.and_false, Bool.false_and]; exact Bool.false_ne_true)]
  have pick : ((List.range items.size).filterMap fun (k : Nat) => items[(((items.size : Int) - 1) + (k : Int) * (-1)).toNat]?).toArray = items.toList.reverse.toArray := by
    congr 1
    apply List.ext_getElem?
    intro i
    have step : ∀ (n : Nat), n ≤ items.size → (List.range n).filterMap (fun (k : Nat) => items[(((items.size : Int) - 1) + (k : Int) * (-1)).toNat]?) = items.toList.reverse.take n := by
      intro n
      induction n with
      | zero => intro _; simp
      | succ n ih =>
        intro hn
        rw [List.range_succ, List.filterMap_append, ih (by omega)]
        have e1 : (((items.size : Int) - 1) + (n : Int) * (-1)).toNat = items.size - 1 - n := by omega
        have lt : items.size - 1 - n < items.size := by omega
        have e2 : items.toList.reverse[n]? = some items[items.size - 1 - n] := by
          rw [List.getElem?_reverse (by rw [Array.length_toList]; omega), Array.length_toList]
          rw [Array.getElem?_toList, Array.getElem?_eq_getElem lt]
        rw [List.take_add_one, e2]
        simp only [List.filterMap_cons, List.filterMap_nil, e1, Array.getElem?_eq_getElem lt]
        rfl
    rw [step items.size (Nat.le_refl _), List.take_of_length_le (by rw [List.length_reverse, Array.length_toList]; exact Nat.le_refl _)]
  rw [pick]
  first
    | exact wpAny_bind (m := Builtin.Tuple.tupleExact _) (wpAny_newObj_type (wpAny_pure ⟨_, rfl, wpAny_pure h⟩) fits)
    | exact wpAny_bind (m := Builtin.Tuple.tupleExact _) (wpAny_newObj_type (wpAny_bind (wpAny_pure (wpAny_pure ⟨_, rfl, wpAny_pure h⟩))) fits)
    | exact wpAny_bind (wpAny_bind (m := Builtin.Tuple.tupleExact _) (wpAny_newObj_type (wpAny_pure (wpAny_pure ⟨_, rfl, wpAny_pure h⟩)) fits))
    | exact wpAny_bind (wpAny_bind (m := Builtin.Tuple.tupleExact _) (wpAny_newObj_type (wpAny_pure ⟨_, rfl, wpAny_pure h⟩) fits))
end
end Qx
set_option Elab.async false
set_option linter.all false
set_option maxRecDepth 100000
set_option maxHeartbeats 4000000
/-! QBi2: subscripts, slices, methods, by plain data. -/
namespace Qx
open PySem PySem.Spec PyProof.Rows L2

/-! ### shapes of nodes -/
def isSlc : Expr → Bool
  | .Slice _ _ _ _ => true
  | _ => false
def isStar : Expr → Bool
  | .Starred _ _ => true
  | _ => false
theorem starEach_ok {e : Expr} {es : List Expr} {env : Env} (h : isStar e = false) : starEach (e :: es) env = (false, eval e env) :: starEach es env := by
  cases e <;> first | rfl | cases h
theorem sub_ok {e : Expr} {o i : Value} (h : isSlc e = false) : subscripted e false o i = operate [o, i] (getItem o i) := by
  cases e <;> first | rfl | cases h
theorem fold_ok {e : Expr} {env : Env} {x : Value} (h : okNode e = true) : foldedSetIterable e env x = pure x := by
  cases e <;> first | rfl | cases h
theorem beh_ok {e : Expr} {op : CmpOp} (h : okNode e = true) : behindInMarks op e = false := by
  cases e <;> first | rfl | cases h
theorem okNode_star {e : Expr} (h : okNode e = true) : isStar e = false := by
  cases e <;> first | rfl | cases h
theorem swaps_ok {e : Expr} {t : Option Expr} {l : Nat} {env : Env} (h : isLC e = false) : swapsWith e t l env = pure false := by
  cases e <;> first | rfl | cases h
theorem assignEach_ok {e : Expr} {es : List Expr} {env : Env} (h : isStar e = false) : assignEach (e :: es) env = (false, assign e env) :: assignEach es env := by
  cases e <;> first | rfl | cases h
theorem assignSub_ok {o i : Expr} {pos : Pos} {env : Env} (h : isSlc i = false) (v : Value) : assign (.Subscript o i pos) env v = (do
      let ov ← holding [v] (eval o env)
      let iv ← holding [v, ov] (eval i env)
      standAt pos
      holding [v, ov, iv] (setItem ov iv v)
      release [v, ov, iv] []) := by
  cases i <;> first | rfl | cases h
/-- a call of super: no such node here -/
theorem base_ok {o : Expr} {a : Str} {env : Env} (h : isSup o = false) : attributeBase o a env (eval o env) = eval o env := by
  cases o <;> first | rfl | cases h

section
variable {X : Cx} {e : Expr}
theorem _root_.L2.PE.imp {t t' : TE} (h : PE X e t) (k : ∀ σ H Q, t' σ H Q → t σ H Q) : PE X e t' := ⟨fun pins s σ H Q I w => h.run pins s σ H Q I (k σ H Q w)⟩
theorem _root_.L2.PE.or {t t' t'' : TE} (h : PE X e t) (h' : PE X e t') (k : ∀ σ H Q, t'' σ H Q → t σ H Q ∨ t' σ H Q) : PE X e t'' :=
  ⟨fun pins s σ H Q I w => (k σ H Q w).elim (h.run pins s σ H Q I) (h'.run pins s σ H Q I)⟩
theorem _root_.L2.PT.imp {t t' : TT} (h : PT X e t) (k : ∀ σ H Q, t' σ H Q → t σ H Q) : PT X e t' := ⟨fun pins s σ H Q I w => h.run pins s σ H Q I (k σ H Q w)⟩
theorem _root_.L2.PW.imp {t t' : TT} (h : PW X e t) (k : ∀ σ H Q, t' σ H Q → t σ H Q) : PW X e t' := ⟨fun wh pins s σ H Q I w => h.run wh pins s σ H Q I (k σ H Q w)⟩
theorem _root_.L2.PA.imp {es : List Expr} {t t' : TA} (h : PA X es t) (k : ∀ σ H Q, t' σ H Q → t σ H Q) : PA X es t' := ⟨fun pos pins s σ H Q I w => h.run pos pins s σ H Q I (k σ H Q w)⟩
theorem _root_.L2.PS.imp {st : Stmt} {t t' : L2.TS} (h : PS X st t) (k : ∀ D σ H, t' D σ H → t D σ H) : PS X st t' := ⟨fun pins s σ H D I w => h.run pins s σ H D I (k D σ H w)⟩
theorem _root_.L2.PS.or {st : Stmt} {t t' t'' : L2.TS} (h : PS X st t) (h' : PS X st t') (k : ∀ D σ H, t'' D σ H → t D σ H ∨ t' D σ H) : PS X st t'' :=
  ⟨fun pins s σ H D I w => (k D σ H w).elim (h.run pins s σ H D I) (h'.run pins s σ H D I)⟩
theorem _root_.L2.PSs.imp {st : List Stmt} {t t' : L2.TS} (h : PSs X st t) (k : ∀ D σ H, t' D σ H → t D σ H) : PSs X st t' := ⟨fun pins s σ H D I w => h.run pins s σ H D I (k D σ H w)⟩
theorem _root_.L2.PG.imp {t t' : TG} (h : PG X e t) (k : ∀ v σ H Q, t' v σ H Q → t v σ H Q) : PG X e t' := ⟨fun pins s σ H v u Q I r w => h.run pins s σ H v u Q I r (k v σ H Q w)⟩
theorem _root_.L2.PI.imp {tg : Expr} {t t' : TI} (h : PI X tg e t) (k : ∀ σ H R, t' σ H R → t σ H R) : PI X tg e t' := ⟨fun pins s σ H R I w => h.run pins s σ H R I (k σ H R w)⟩
theorem _root_.L2.PI.or {tg : Expr} {t t' t'' : TI} (h : PI X tg e t) (h' : PI X tg e t') (k : ∀ σ H R, t'' σ H R → t σ H R ∨ t' σ H R) : PI X tg e t'' :=
  ⟨fun pins s σ H R I w => (k σ H R w).elim (h.run pins s σ H R I) (h'.run pins s σ H R I)⟩
end

/-! ### subscripts -/
theorem ixD_eq {n : Nat} {i : Int} : ixD n i = ixN n i := rfl
section
variable {G : Gd} {m : AdP} {H : Hp}
theorem Reps.at {ds : List D} {xs : List V} {i : Int} {d : D} (h : Reps G m H ds xs) (e : ((ixD ds.length i).bind fun j => ds[j]?) = some d) : ∃ v, atI xs i = some v ∧ Rep G m H d v := by
  unfold atI
  rw [← h.length, ← ixD_eq]
  cases q : ixD ds.length i with
  | none => rw [q] at e; cases e
  | some j =>
    rw [q] at e
    exact h.get e
def isDct : D → Bool
  | .dct _ _ _ => true
  | _ => false
theorem sub_seq {x y : V} {dx dk d : D} (n : isDct dx = false) (hx : Vw G m H dx x) (hy : Rep G m H dk y) (e : subD dx dk = some d) :
    ∃ v, Rep G m H d v ∧ ∀ Q : VK, Q v H → rIxL G.K x y H Q ∨ rIxT G.K x y H Q := by
  unfold subD at e
  split at e
  · obtain ⟨a, xs, rfl, h1, h2⟩ := hx.tup
    obtain ⟨v, h3, h4⟩ := h2.at e
    simp only [Rep] at hy
    exact ⟨v, h4, fun Q q => .inr ⟨a, xs, _, v, rfl, hy, h1.sq, h3, q⟩⟩
  · obtain ⟨a, xs, rfl, h1, h2⟩ := hx.lst
    obtain ⟨v, h3, h4⟩ := h2.at e
    simp only [Rep] at hy
    exact ⟨v, h4, fun Q q => .inl ⟨a, xs, _, v, rfl, hy, h1, h3, q⟩⟩
  · cases n
  · cases e
theorem sub_dct {x y : V} {dx dk d : D} (n : isDct dx = true) (hx : Vw G m H dx x) (hy : Rep G m H dk y) (e : subD dx dk = some d) :
    ∃ a v, x = .ref a ∧ DGet H a y (some v) ∧ Rep G m H d v := by
  cases dx <;> simp only [isDct] at n <;> (try cases n)
  simp only [subD] at e
  split at e
  · rename_i hk
    obtain ⟨a, o, rfl, h1, h2, _⟩ := dget_vw hx (.inl hy) hk
    rw [e] at h2
    cases o with
    | none => exact h2.elim
    | some v => exact ⟨a, v, rfl, h1, h2⟩
  · cases e
end

/-! ### slices -/
def partD : D → Option (Option Int)
  | .non => some none
  | .int i => some (some i)
  | _ => none
theorem bnd_part {n d : Nat} {x : D} {k : Nat} (h : bndD n d x = some k) : ∃ o, partD x = some o ∧ k = HT.sIx n d o := by
  unfold bndD at h
  split at h <;> cases h
  · exact ⟨none, rfl, rfl⟩
  · exact ⟨some _, rfl, rfl⟩
def tPart2 (t : TE) : TO := fun σ H Q => t σ H fun x H1 => (∃ i, x = .int i ∧ Q (some i) H1) ∨ (x = .non ∧ Q none H1)
theorem po_some2 {X : Cx} {e : Expr} {te : TE} (h : PE X e te) : PO X (some e) (tPart2 te) := by
  refine ⟨fun pins s σ H Q I hw => ?_⟩
  rw [evalPart_some]
  refine thn (h.run pins s σ H _ I hw) fun u s1 ⟨x, H1, I1, r1, q1⟩ => ?_
  rcases q1 with ⟨i, rfl, q⟩ | ⟨rfl, q⟩
  · obtain ⟨t, rfl⟩ := r1
    exact ⟨some i, H1, I1, .int i t, q⟩
  · cases r1
    exact ⟨none, H1, I1, by first | exact .none | constructor, q⟩
/-- what a slice of lists and tuples gives, by data -/
def rCut (K : PySem.W.Frag) : V → Option Int → Option Int → Hp → VK → Prop := fun x lo hi H Q => rSlL K x lo hi H Q ∨ rSlX K x lo hi H Q
theorem sl_cut {X : Cx} : SlR X (rCut X.K) := sl_list.or sl_tupX
section
variable {G : Gd} {m : AdP} {H : Hp}
theorem cut_eq {ds es : List D} {lo hi : D} {xs : List V} (h : cutD ds lo hi = some es) (r : Reps G m H ds xs) : ∃ l u, partD lo = some l ∧ partD hi = some u ∧ Reps G m H es (cutV xs l u) ∧ es.length = (cutV xs l u).length := by
  unfold cutD at h
  cases e1 : bndD ds.length 0 lo with
  | none => rw [e1] at h; cases h
  | some a =>
    cases e2 : bndD ds.length ds.length hi with
    | none => rw [e1, e2] at h; cases h
    | some b =>
      rw [e1, e2] at h
      cases h
      obtain ⟨l, p1, q1⟩ := bnd_part e1
      obtain ⟨u, p2, q2⟩ := bnd_part e2
      have rr : Reps G m H ((ds.drop a).take (b - a)) (cutV xs l u) := by
        unfold cutV
        rw [← r.length, ← q1, ← q2]
        exact (r.drop a).take _
      exact ⟨l, u, p1, p2, rr, rr.length⟩
theorem slc_vw {x : V} {dx lo hi d : D} {Q : VK} (l : Live m H) (hx : Vw G m H dx x) (e : slcD dx lo hi = some d) (g : Gives G m H d Q) :
    ∃ a b, partD lo = some a ∧ partD hi = some b ∧ rCut G.K x a b H Q := by
  unfold slcD at e
  split at e
  · obtain ⟨es, e1, rfl⟩ := omap e
    obtain ⟨a, xs, rfl, h1, h2⟩ := hx.tup
    obtain ⟨lo', hi', p1, p2, r, _⟩ := cut_eq e1 h2
    refine ⟨lo', hi', p1, p2, .inr ⟨a, xs, rfl, h1.sq, fun w => ?_, fun _ => g.tup l r⟩⟩
    refine g _ _ Ex.refl ?_ (.not rfl)
    simp only [Rep]
    refine ⟨a, xs, rfl, h1, ?_⟩
    have e2 : cutV xs lo' hi' = xs := by
      unfold cutV
      rw [w.1, w.2]
      simp
    rw [e2] at r
    exact r
  · obtain ⟨es, e1, rfl⟩ := omap e
    obtain ⟨a, xs, rfl, h1, h2⟩ := hx.lst
    obtain ⟨lo', hi', p1, p2, r, _⟩ := cut_eq e1 h2
    exact ⟨lo', hi', p1, p2, .inl ⟨a, xs, rfl, h1, g.lst l r⟩⟩
  · cases e
end
/-- picks of items[k::-1], k negative -/
theorem pick_back (items : Array Value) (k : Int) (h0 : k < 0) (h1 : -k ≤ items.size) : slicePick items (some k) none (some (-1)) = (items.toList.take (items.size + 1 - k.natAbs)).reverse.toArray := by
  have eb : sliceBounds (some k) none (some (-1)) items.size = (k + (items.size : Int), -1, -1) := by
    show ((if ((-1 : Int) > 0) then max 0 (min (if k < 0 then k + (items.size : Int) else k) (items.size : Int)) else max (-1) (min (if k < 0 then k + (items.size : Int) else k) ((items.size : Int) - 1))), (if ((-1 : Int) > 0) then (items.size : Int) else -1), (-1 : Int)) = _
    rw [if_neg (by decide : ¬ ((-1 : Int) > 0)), if_neg (by decide : ¬ ((-1 : Int) > 0)), if_pos h0]
    congr 1
    omega
  unfold slicePick
  rw [eb]
  have er : sliceRange (k + (items.size : Int)) (-1) (-1) = (List.range (items.size + 1 - k.natAbs)).map fun i => (items.size - k.natAbs) - i := by
    unfold sliceRange
    rw [if_neg (by decide)]
    have : (if k + (items.size : Int) > -1 then (k + (items.size : Int) - -1 - -1 - 1) / - -1 else 0) = ((items.size + 1 - k.natAbs : Nat) : Int) := by
      rw [if_pos (by omega), show (- -1 : Int) = 1 from rfl, Int.ediv_one]
      omega
    show (List.range (if k + (items.size : Int) > -1 then (k + (items.size : Int) - -1 - -1 - 1) / - -1 else 0).toNat).map _ = _
    rw [this, Int.toNat_natCast]
    refine List.map_congr_left fun i hi => ?_
    have := List.mem_range.mp hi
    show (k + (items.size : Int) + -1 * (i : Int)).toNat = _
    omega
  show ((sliceRange (k + (items.size : Int)) (-1) (-1)).filterMap (items[·]?)).toArray = _
  rw [er]
  congr 1
  have step : ∀ (n : Nat), n ≤ items.size + 1 - k.natAbs → ((List.range n).map fun i => (items.size - k.natAbs) - i).filterMap (items[·]?) = (items.toList.take (items.size + 1 - k.natAbs)).reverse.take n := by
    intro n
    induction n with
    | zero => intro _; simp
    | succ n ih =>
      intro hn
      rw [List.range_succ, List.map_append, List.filterMap_append, ih (by omega)]
      have lt : items.size - k.natAbs - n < items.size := by omega
      have ln : (items.toList.take (items.size + 1 - k.natAbs)).length = items.size + 1 - k.natAbs := by
        rw [List.length_take, Array.length_toList]; omega
      have e2 : (items.toList.take (items.size + 1 - k.natAbs)).reverse[n]? = some items[items.size - k.natAbs - n] := by
        rw [List.getElem?_reverse (by rw [ln]; omega), ln, List.getElem?_take, if_pos (by omega)]
        have e3 : items.size + 1 - k.natAbs - 1 - n = items.size - k.natAbs - n := by omega
        rw [e3, Array.getElem?_toList, Array.getElem?_eq_getElem lt]
      rw [List.take_add_one, e2]
      simp only [List.map_cons, List.map_nil, List.filterMap_cons, List.filterMap_nil, Array.getElem?_eq_getElem lt]
      rfl
  rw [step _ (Nat.le_refl _), List.take_of_length_le]
  rw [List.length_reverse, List.length_take, Array.length_toList]
  omega
def rBack (K : PySem.W.Frag) : V → Option Int → Hp → VK → Prop := fun x lo H Q =>
  (∃ a xs, x = .ref a ∧ SqT K H a xs ∧ lo = none ∧ TX Q H xs.reverse) ∨
  (∃ a xs, x = .ref a ∧ SqL K H a xs ∧ lo = none ∧ ∀ p, H p = none → Q (.ref p) (upd H p (.lst xs.reverse))) ∨
  (∃ a xs k, x = .ref a ∧ SqL K H a xs ∧ lo = some k ∧ k < 0 ∧ -k ≤ xs.length ∧ ∀ p, H p = none → Q (.ref p) (upd H p (.lst (xs.take (xs.length + 1 - k.natAbs)).reverse)))
def tBack (K : PySem.W.Frag) (te : TE) (tl : TO) : TE := fun σ H Q => te σ H fun x H1 => tl σ H1 fun lo H2 => rBack K x lo H2 Q
theorem pe_back {X : Cx} {e : Expr} {te : TE} {lo : Option Expr} {tl : TO} {k : Nat} {p1 p2 p3 pos : Pos} (he : PE X e te) (hl : PO X lo tl) : PE X (.Subscript e (.Slice lo none (some (.UnaryOp .USub (.Constant (.int 1) k p1) p2)) p3) pos) (tBack X.K te tl) := by
  refine ⟨fun pins s σ H Q I h => ?_⟩
  refine Subscript_ (thn (he.run pins s σ H _ I h) fun v s1 ⟨x, H1, I1, r1, q1⟩ => ?_)
  have hst : PO X (some (.UnaryOp .USub (.Constant (.int 1) k p1) p2)) (tPart (tUn (rU fun i => .int (-i)) (tC (.int 1)))) := po_some (pe_un un_neg pe_int)
  refine wpAny_Slice (thn (hl.run pins s1 σ H1 _ I1 q1) fun vl s2 ⟨l, H2, I2, pl, q2⟩ => ?_)
  refine thn (po_none.run pins s2 σ H2 (fun o H3 => o = none ∧ H3 = H2) I2 ⟨rfl, rfl⟩) fun vu s3 ⟨u, H3, I3, pu, eu, e3⟩ => ?_
  subst eu e3
  refine thn (hst.run pins s3 σ H3 (fun o H4 => o = some (-1) ∧ H4 = H3) I3 ⟨1, rfl, -1, rfl, rfl, rfl⟩) fun vs s4 ⟨o, H4, I4, ps, eo, e4⟩ => ?_
  subst eo e4
  have I5 : Inv X pins σ H4 { s4 with heap := s4.heap.push { cls := .type "slice", data := .fields #[vl, vu, vs] } } := I4.kept (t' := s4.toks) fun b ob q => Heap.get?_push_of_some _ q
  show wpAny (model X.prog X.w) X.A (subscriptTail e (.Slice lo none (some (.UnaryOp .USub (.Constant (.int 1) k p1) p2)) p3) v (.ref s4.heap.objs.size)) (EP X pins σ Q) X.xe { s4 with heap := s4.heap.push { cls := .type "slice", data := .fields #[vl, vu, vs] } }
  rcases q2 with ⟨a, xs, rfl, hx, rfl, q⟩ | ⟨a, xs, rfl, hx, rfl, q⟩ | ⟨a, xs, kk, rfl, hx, rfl, hk0, hk1, q⟩
  · cases r1
    obtain ⟨its, r, ht, hz⟩ := I5.tuple hx
    have hlen := r.length
    refine tail_any (ops := [.ref a, .ref s4.heap.objs.size]) ht.typeIs (PyProof.Rows.slot_tuple_getitem.lookup) ?_ (by with_unfolding_all rfl)
    refine back_tup ht (Heap.IsSliceOf.new _ vl vu vs) pl pu ps ?_ (by rw [List.size_toArray]; omega)
    exact tx_end I5 r.reverse (by rw [List.length_reverse]; exact hz) q
  · cases r1
    obtain ⟨its, r, ht, hz⟩ := I5.list hx
    have hlen := r.length
    refine tail_any (ops := [.ref a, .ref s4.heap.objs.size]) ht.isList.typeIs (PySem.slot_list_getitem.lookup) ?_ (by with_unfolding_all rfl)
    refine wpAny_getItem_list_slice ht.isList (Heap.IsSliceOf.new _ vl vu vs) pl pu ps (by decide) ?_ (by rw [List.size_toArray]; omega)
    rw [PySem.W.krv_pick]
    refine ⟨.ref _, _, I5.laid (t' := s4.toks) (o := .lst xs.reverse) (fun b ob q => Heap.get?_push_of_some _ q) (Nat.le_refl _) ?_, rfl, q _ (I5.hok.fresh (Nat.le_refl _))⟩
    exact ⟨by rw [List.length_reverse]; exact hz, _, 0, r.reverse, Heap.get?_push_size _ rfl⟩
  · cases r1
    obtain ⟨its, r, ht, hz⟩ := I5.list hx
    have hlen := r.length
    refine tail_any (ops := [.ref a, .ref s4.heap.objs.size]) ht.isList.typeIs (PySem.slot_list_getitem.lookup) ?_ (by with_unfolding_all rfl)
    refine wpAny_getItem_list_slice ht.isList (Heap.IsSliceOf.new _ vl vu vs) pl pu ps (by decide) ?_ (by rw [List.size_toArray]; omega)
    rw [pick_back _ _ hk0 (by rw [List.size_toArray]; omega)]
    have e6 : its.toArray.size = xs.length := by rw [List.size_toArray]; exact hlen.symm
    rw [e6]
    refine ⟨.ref _, _, I5.laid (t' := s4.toks) (o := .lst (xs.take (xs.length + 1 - kk.natAbs)).reverse) (fun b ob q => Heap.get?_push_of_some _ q) (Nat.le_refl _) ?_, rfl, q _ (I5.hok.fresh (Nat.le_refl _))⟩
    refine ⟨?_, _, 0, (r.take _).reverse, Heap.get?_push_size _ rfl⟩
    rw [List.length_reverse, List.length_take]
    exact Nat.le_trans (Nat.min_le_right _ _) hz
section
variable {G : Gd} {m : AdP} {H : Hp}
theorem rev_vw {x : V} {dx lo d : D} {Q : VK} (l : Live m H) (hx : Vw G m H dx x) (e : revD dx lo = some d) (g : Gives G m H d Q) :
    ∃ a, partD lo = some a ∧ rBack G.K x a H Q := by
  unfold revD at e
  split at e
  · cases e
    obtain ⟨a, xs, rfl, h1, h2⟩ := hx.tup
    exact ⟨none, rfl, .inl ⟨a, xs, rfl, h1.sq, rfl, g.tup l h2.reverse⟩⟩
  · cases e
    obtain ⟨a, xs, rfl, h1, h2⟩ := hx.lst
    exact ⟨none, rfl, .inr (.inl ⟨a, xs, rfl, h1, rfl, g.lst l h2.reverse⟩)⟩
  · split at e <;> cases e
    rename_i hk
    obtain ⟨a, xs, rfl, h1, h2⟩ := hx.lst
    have hl := h2.length
    refine ⟨some _, rfl, .inr (.inr ⟨a, xs, _, rfl, h1, rfl, hk.1, by rw [← hl]; exact hk.2, ?_⟩)⟩
    rw [← hl]
    exact g.lst l (h2.take _).reverse
  · cases e
end
end Qx
set_option Elab.async false
set_option linter.all false
set_option maxRecDepth 100000
set_option maxHeartbeats 4000000
/-! QBi3: methods, dicts, ranges, by plain data. -/
namespace Qx
open PySem PySem.Spec PyProof.Rows L2

/-! ### methods that change a list -/
def MGives (G : Gd) (m : AdP) (H : Hp) (a : Addr) (r d' : D) (Q : VK) : Prop := ∀ v ds' xs', d' = .lst ds' → Rep G m H r v → Reps G m H ds' xs' → Q v (upd H a (.lst xs'))
section
variable {G : Gd} {m : AdP} {H : Hp} {a : Addr} {xs vs : List V} {ds es : List D} {r d' : D} {Q : VK}
theorem app_vw (h0 : H a = some (.lst xs)) (hr : Reps G m H ds xs) (ha : Reps G m H es vs) (e : appM (.lst ds) es = some (r, d')) (g : MGives G m H a r d' Q) : rAppend (.ref a) vs H Q := by
  unfold appM at e
  split at e
  · rename_i d x _
    split at e <;> cases e
    rename_i hz
    rename_i e0
    cases e0
    obtain ⟨v, ws, rfl, h1, h2⟩ := ha.inv
    have := h2.inv0
    subst this
    exact ⟨a, xs, v, rfl, rfl, h0, by rw [← hr.length]; exact sz_eq ▸ hz, g _ _ _ rfl Rep.of_non (hr.append (.cons h1 .nil))⟩
  · cases e
theorem pop0_vw (h0 : H a = some (.lst xs)) (hr : Reps G m H ds xs) (ha : Reps G m H es vs) (e : pop0M (.lst ds) es = some (r, d')) (g : MGives G m H a r d' Q) : rPop (.ref a) vs H Q := by
  unfold pop0M at e
  split at e
  · rename_i e0
    cases e0
    obtain ⟨x, e1, e2⟩ := omap e
    cases e2
    have := ha.inv0
    subst this
    rw [List.getLast?_eq_getElem?] at e1
    obtain ⟨v, h1, h2⟩ := hr.get e1
    rw [hr.length] at h1
    exact ⟨a, xs, v, rfl, rfl, h0, h1, g _ _ _ rfl h2 hr.dropLast⟩
  · cases e
theorem pop1_vw (h0 : H a = some (.lst xs)) (hr : Reps G m H ds xs) (ha : Reps G m H es vs) (e : pop1M (.lst ds) es = some (r, d')) (g : MGives G m H a r d' Q) : rPopAt (.ref a) vs H Q := by
  unfold pop1M at e
  split at e
  · rename_i i e0
    cases e0
    split at e
    · rename_i hi
      obtain ⟨x, e1, e2⟩ := omap e
      cases e2
      obtain ⟨w, ws, rfl, h1, h2⟩ := ha.inv
      have := h2.inv0
      subst this
      simp only [Rep] at h1
      subst h1
      obtain ⟨v, h3, h4⟩ := hr.get e1
      have lt : i.toNat < xs.length := by
        have := List.getElem?_eq_some_iff.mp h3
        exact this.1
      refine ⟨a, xs, i, i.toNat, v, rfl, rfl, h0, by have := hi.1; omega, hi.2, ?_, h3, g _ _ _ rfl h4 (hr.eraseIdx _)⟩
      have h0' := hi.1
      unfold seqIndex?
      simp only [if_neg (show ¬ i < 0 by omega)]
      have : (decide (0 ≤ i) && decide (i < (xs.length : Int))) = true := by
        rw [Bool.and_eq_true, decide_eq_true_eq, decide_eq_true_eq]
        exact ⟨h0', by omega⟩
      rw [if_pos this]
    · cases e
  · cases e
end

/-! ### dicts: get, put -/
section
variable {G : Gd} {m : AdP} {H : Hp}
theorem LookR.getD {o : Option D} {p : Option V} {d : D} {v : V} (h : LookR G m H o p) (hd : Rep G m H d v) : Rep G m H (o.getD d) (p.getD v) := by
  cases o <;> cases p <;> first | exact hd | exact h | exact h.elim
theorem rep_val {κ : Type} [DecidableEq κ] {f : κ → D} (hf : ∀ a b, eqD (f a) (f b) = decide (a = b)) (k : κ) {d : D} {v : V} (hd : Rep G m H d v) : ∀ {kvs : List (κ × V)} {vs : List D}, Reps G m H vs (kvs.map (·.2)) →
    Reps G m H (repD (f k) d (kvs.map fun p => f p.1) vs) ((kvs.map fun kv => if kv.1 = k then (kv.1, v) else kv).map (·.2))
  | [], vs, h => by
    rw [List.map_nil] at h ⊢
    have := h.length
    cases vs with
    | nil => exact .nil
    | cons d ds => simp at this
  | p :: kvs, [], h => by have := h.length; simp at this
  | p :: kvs, d' :: ds, h => by
    rw [List.map_cons] at h
    obtain ⟨w, ws, e, h1, h2⟩ := h.inv
    cases e
    rw [List.map_cons, List.map_cons, List.map_cons]
    simp only [repD]
    rw [hf]
    refine .cons ?_ (rep_val hf k hd h2)
    by_cases e : p.1 = k
    · rw [decide_eq_true e, if_pos rfl, if_pos e]; exact hd
    · rw [decide_eq_false e, if_neg (by decide), if_neg e]; exact h1
theorem keys_rep {κ : Type} [DecidableEq κ] {f : κ → D} (k : κ) {v : V} : ∀ kvs : List (κ × V), ((kvs.map fun kv => if kv.1 = k then (kv.1, v) else kv).map fun p => f p.1) = kvs.map fun p => f p.1
  | [] => rfl
  | p :: kvs => by
    rw [List.map_cons, List.map_cons, List.map_cons, keys_rep k kvs]
    congr 1
    by_cases e : p.1 = k
    · rw [if_pos e]
    · rw [if_neg e]
theorem put_val {κ : Type} [DecidableEq κ] {f : κ → D} (hf : ∀ a b, eqD (f a) (f b) = decide (a = b)) (k : κ) {d : D} {v : V} (hd : Rep G m H d v) {kvs : List (κ × V)} {vs : List D} (h : Reps G m H vs (kvs.map (·.2))) :
    (putD (f k) d (kvs.map fun p => f p.1) vs).1 = ((putK kvs k v).map fun p => f p.1) ∧ Reps G m H (putD (f k) d (kvs.map fun p => f p.1) vs).2 ((putK kvs k v).map (·.2)) := by
  unfold putD putK
  have e := (look_val hf k h).some_eq
  rw [e, ← valV_any]
  by_cases c : (kvs.any fun kv => decide (kv.1 = k)) = true
  · rw [if_pos c, if_pos c]
    exact ⟨(keys_rep k kvs).symm, rep_val hf k hd h⟩
  · rw [if_neg c, if_neg c]
    refine ⟨by simp, ?_⟩
    rw [List.map_append]
    exact h.append (.cons hd .nil)
/-- a store into an owned thing -/
theorem set_vw {a : Addr} {o o' dk dv : D} {k v : V} (hm : m a) (lv : Live m H) (ho : OwnAt G m H a o) (hk : Rep G m H dk k) (hv : Rep G m H dv v) (e : setD o dk dv = some o') :
    ∃ h, OwnAt G m (upd H a h) a o' ∧ ((∀ Q : Hp → Prop, Q (upd H a h) → rSetL (.ref a) k v H Q) ∨ DPut H a k v (upd H a h)) := by
  have kp : ∀ h, Kp m m H (upd H a h) := fun h => ⟨fun b u q n => by
    rw [upd_ne (fun z => n (by rw [z]; exact hm))]; exact q, fun _ z => .inl z⟩
  unfold setD at e
  split at e
  · rename_i ds i
    obtain ⟨j, e1, rfl⟩ := omap e
    obtain ⟨xs, h1, h2⟩ := ho
    simp only [Rep] at hk
    subst hk
    refine ⟨.lst (xs.set j v), ⟨_, upd_same, (h2.set j hv).mono (kp _)⟩, .inl fun Q q => ⟨a, xs, i, j, rfl, rfl, h1, ?_, q⟩⟩
    rw [← h2.length]; exact e1
  · rename_i t ks vs
    split at e <;> cases e
    rename_i hz
    rw [Bool.and_eq_true, decide_eq_true_eq] at hz
    obtain ⟨hok, hz⟩ := hz
    cases t with
    | false =>
      obtain ⟨q, rfl⟩ := key_of_ok hok
      obtain ⟨kvs, h1, rfl, h3⟩ := ho
      obtain ⟨p1, p2⟩ := put_val eqD_dK q hv h3
      refine ⟨.dK (putK kvs q v), ⟨_, upd_same, p1, p2.mono (kp _)⟩, .inr (.inl ⟨kvs, q, h1, hk.dK, ?_, rfl⟩)⟩
      rw [List.length_map] at hz
      exact sz_eq ▸ hz
    | true =>
      exact (keys_no hok).elim
  · cases e
end

/-! ### ranges -/
theorem Reps.of_fn {G : Gd} {m : AdP} {H : Hp} {f : Nat → D} {g : Nat → V} (h : ∀ i, Rep G m H (f i) (g i)) : ∀ l : List Nat, Reps G m H (l.map f) (l.map g)
  | [] => .nil
  | i :: l => .cons (h i) (Reps.of_fn h l)
theorem rg_vw {G : Gd} {m : AdP} {H : Hp} (n : Int) : Reps G m H ((List.range n.toNat).map fun (i : Nat) => D.int i) (rgV 0 n) := by
  unfold rgV
  rw [Int.sub_zero]
  refine Reps.of_fn (fun i => ?_) _
  rw [Int.zero_add]
  exact Rep.of_int
theorem rgOk_of {n : Int} (h1 : -(2 ^ 62) ≤ n) (h2 : n ≤ SZ) : RgOk 0 n := by
  have : (SZ : Int) = 16777216 := rfl
  rw [this] at h2
  exact ⟨by decide, by decide, h1, Int.lt_of_le_of_lt h2 (by decide), by
    show (n - 0).toNat ≤ 16777216
    omega⟩
end Qx
set_option Elab.async false
set_option linter.all false
set_option maxRecDepth 100000
set_option maxHeartbeats 4000000
/-! QSort: sorted of lists and tuples of alike data. -/
namespace Qx
open PySem PySem.Spec PyProof.Rows PySem.W PySem.Calls
section
variable {prog : Program} {w : World} {A : Around} {E : Value → Shared → Prop} {s : Shared}
theorem sorted_of_sortT {l : Addr} {vs : List Value} {kw : List (Str × Value)} {Q : Value → Shared → Prop} (hl : IsTup s.heap l vs.toArray) (hL : vs.length ≤ sizeLine) (ha1 : argsOk "sorted" ⟨[.ref l], kw⟩) (ha2 : ∀ x, argsOk "list.sort" ⟨[.ref x], kw⟩)
    (body : ∀ E' : Value → Shared → Prop, wpAny (model prog w) A.in1.in1 (Builtin.«list.sort» ⟨[.ref (s.heap.objs.size + 1)], kw⟩) (fun f s' => f = .done (.ret .none) ∧ Q (.ref (s.heap.objs.size + 1)) s') E' { s with heap := copyHeap s.heap vs }) :
    wpAny (model prog w) A (call (.builtin "sorted") [.ref l] kw) Q E s := by
  refine call_function_entry_kw kind_sorted plain_sorted entry_sorted ha1 ?_
  unfold Builtin.«sorted»
  refine wpAny_bind (m := checkCount "sorted" 1 1 _) (wpAny_pure ?_)
  refine wpAny_bind (gather_tup hl hL ?_)
  refine wpAny_bind (wpAny_newList ?_ hL)
  have hsz : ((s.heap.push (seqObj "list" #[] 0)).update s.heap.objs.size (Obj.mapSeq (· ++ vs.toArray))).objs.size = s.heap.objs.size + 1 := by
    rw [Heap.size_update, size_push']
  show wpAny _ _ _ _ _ { s with heap := copyHeap s.heap vs }
  rw [hsz]
  refine wpAny_bind (wpAny_holding (wpAny_call_entry_kw slot_list_sort ⟨_, copyHeap_at s.heap vs, rfl⟩ entry_list_sort ?body (ha2 _)))
  case body =>
    show wpAny (model prog w) A.in1.in1 (Builtin.«list.sort» ⟨[.ref (s.heap.objs.size + 1)], kw⟩) _ _ _
    refine wpAny_mono (body _) (fun f s' hf => ?_) fun _ _ e => e
    obtain ⟨rfl, hq⟩ := hf
    exact ⟨_, rfl, wpAny_pure ⟨_, rfl, hq⟩⟩
variable {β : Type} {vs : List Value} {bs : List β} {enc : β → PyData} {R : Value → β → Prop}
theorem sorted_dataT {l : Addr} {Q : Value → Shared → Prop} (hl : IsTup s.heap l vs.toArray) (e : EachIs R vs bs) (er : EachIs (fun v b => ∃ as, Reads s.heap v (enc b) as) vs bs) (hal : AllAlike (bs.map enc)) (hk : Sortable (bs.map enc)) (hL : bs.length ≤ sizeLine)
    (hu : ∀ b, b ∈ bs → A.units + 2 + (enc b).depth < cLine) (h : ∀ out, out.length = bs.length → EachIs R out (bs.mergeSort (dataLe false enc)) → Q (.ref (s.heap.objs.size + 1)) { s with heap := sortedAll s.heap vs (List.toArray out) }) :
    wpAny (model prog w) A (call (.builtin "sorted") [.ref l]) Q E s := by
  have er' : EachIs (fun v b => ∃ as, Reads (sortingHeap (copyHeap s.heap vs) (s.heap.objs.size + 1) vs) v (enc b) as) vs bs := er.mono fun _ _ ⟨as, r⟩ => ⟨as, PyProof.Rows.Reads.keeps (fun _ _ => sorting_copy_old) r⟩
  have S := SortsAt.data (prog := prog) (w := w) (A := A.in1.in1) (s := { s with heap := sortingHeap (copyHeap s.heap vs) (s.heap.objs.size + 1) vs }) (each_map (R := fun v d => ∃ as, Reads (sortingHeap (copyHeap s.heap vs) (s.heap.objs.size + 1) vs) v d as) enc er') hal hk (bound_map hu)
  have hL' : vs.length ≤ sizeLine := by rw [e.length]; exact hL
  exact sorted_of_sortT hl hL' (args_sorted1 _) (fun _ => args_list_sort _) fun _ => list_sort_vals (s := { s with heap := copyHeap s.heap vs }) (copyHeap_at s.heap vs) S hL' ⟨rfl, h _ (by rw [sortVals_length false rfl]; exact e.length) (sortVals_data false e er' hal)⟩
end
end Qx
namespace Qx
open PySem PySem.Spec L2
open PySem.W (EachIs AllAlike Sortable dataLe alike)
section
variable {X : Cx} {G : Gd}
def rSortD (K : PySem.W.Frag) : List V → Hp → VK → Prop := fun vs H Q => ∃ (a : Addr) (bs : List (V × PyData)), vs = [V.ref a] ∧ (SqL K H a (bs.map (·.1)) ∨ SqT K H a (bs.map (·.1))) ∧ (∀ b ∈ bs, Dp K H b.1 b.2) ∧ AllAlike (bs.map (·.2)) ∧ Sortable (bs.map (·.2)) ∧ (∀ b ∈ bs, b.2.depth ≤ 60) ∧
  ∀ (p : Addr), H p = none → Q (.ref p) (upd H p (.lst ((bs.mergeSort (dataLe false (·.2))).map (·.1))))
theorem each_vals : ∀ {bs : List (V × PyData)} {us : List Value}, Vals (bs.map (·.1)) us → EachIs (fun u (b : V × PyData) => RelV b.1 u) us bs
  | [], us, h => by cases h; exact .nil
  | b :: bs, us, h => by
    cases h with
    | cons r t => exact .cons r (each_vals t)
theorem vals_each : ∀ {bs : List (V × PyData)} {us : List Value}, EachIs (fun u (b : V × PyData) => RelV b.1 u) us bs → Vals (bs.map (·.1)) us
  | [], us, h => by cases h; exact .nil
  | b :: bs, us, h => by
    cases h with
    | cons r t => exact .cons r (vals_each t)
theorem cr_sortD (hu : X.A.units + 65 < cLine) : CallR X (.builtin "sorted") (rSortD X.K) := by
  intro pins s σ H vs us Q I r h
  obtain ⟨a, bs, rfl, hs, hd, ha, hk, hdp, q⟩ := h
  rw [Vals.ref1 r]
  have go : ∀ (its : List Value), Vals (bs.map (·.1)) its → its.length ≤ sizeLine → EachIs (fun u (b : V × PyData) => RelV b.1 u) its bs ∧ EachIs (fun u (b : V × PyData) => ∃ as, Reads s.heap u b.2 as) its bs ∧ bs.length ≤ sizeLine := fun its rv hz => by
    have e := each_vals rv
    refine ⟨e, (PySem.W.each_mem e).mono fun u b ⟨h1, h2⟩ => Dp.reads I _ _ _ (hd b h2) h1, by rw [← e.length]; exact hz⟩
  have fin : ∀ (its : List Value) (out : List Value), out.length = bs.length → bs.length ≤ sizeLine → EachIs (fun u (b : V × PyData) => RelV b.1 u) out (bs.mergeSort (dataLe false (·.2))) →
      EP X pins σ Q (.ref (s.heap.objs.size + 1)) { s with heap := PyProof.Rows.sortedAll s.heap its (List.toArray out) } := fun its out hl hz he => by
    obtain ⟨ep, he'⟩ := PyProof.Rows.sortedAll_at s.heap its out.toArray
    have hlen : ((bs.mergeSort (dataLe false (·.2))).map (·.1)).length ≤ sizeLine := by
      rw [List.length_map, List.length_mergeSort]; exact hz
    exact ⟨.ref _, upd H (s.heap.objs.size + 1) (.lst ((bs.mergeSort (dataLe false (·.2))).map (·.1))), I.laid (t' := s.toks) (fun _ _ => PyProof.Rows.sortedAll_old) (Nat.le_succ _) ⟨hlen, out, ep, vals_each he, he'⟩, rfl, q _ (I.hok.fresh (Nat.le_succ _))⟩
  have hub : ∀ b, b ∈ bs → X.A.units + 2 + b.2.depth < cLine := fun b hb => by have := hdp b hb; omega
  rcases hs with hs | hs
  · obtain ⟨its, rv, hl, hz⟩ := I.list hs
    have hz' : its.length ≤ sizeLine := by rw [← rv.length]; exact hz
    obtain ⟨e1, e2, e3⟩ := go its rv hz'
    exact PySem.W.sorted_data (R := fun u (b : V × PyData) => RelV b.1 u) hl.isList e1 e2 ha hk e3 hub fun out h1 h2 => fin its out h1 e3 h2
  · obtain ⟨its, rv, hl, hz⟩ := I.tuple hs
    have hz' : its.length ≤ sizeLine := by rw [← rv.length]; exact hz
    obtain ⟨e1, e2, e3⟩ := go its rv hz'
    exact sorted_dataT (R := fun u (b : V × PyData) => RelV b.1 u) hl e1 e2 ha hk e3 hub fun out h1 h2 => fin its out h1 e3 h2
end
end Qx

namespace Qx
open PySem PySem.Spec L2
open PySem.W (EachIs AllAlike Sortable dataLe alike dataLt)
section
variable {X : Cx} {G : Gd}
theorem reps_pairs {m : AdP} {H : Hp} : ∀ {T : List (D × V)}, (∀ t ∈ T, Rep G m H t.1 t.2) → Reps G m H (T.map (·.1)) (T.map (·.2))
  | [], _ => Reps.nil
  | t :: T, h => Reps.cons (h t (by simp)) (reps_pairs fun u hu => h u (List.mem_cons_of_mem _ hu))
theorem pairs_reps {m : AdP} {H : Hp} : ∀ {ds : List D} {xs : List V}, Reps G m H ds xs → ∃ T : List (D × V), T.map (·.1) = ds ∧ T.map (·.2) = xs ∧ ∀ t ∈ T, Rep G m H t.1 t.2
  | [], xs, h => ⟨[], rfl, by rw [h.inv0]; rfl, by simp⟩
  | d :: ds, xs, h => by
    obtain ⟨v, vs, rfl, r, t⟩ := h.inv
    obtain ⟨T, e1, e2, e3⟩ := pairs_reps t
    refine ⟨(d, v) :: T, by simp [e1], by simp [e2], fun u hu => ?_⟩
    rcases List.mem_cons.mp hu with z | z
    · subst z; exact r
    · exact e3 u z
theorem alikeL_some {ds : List D} (h : alikeL ds = true) : (∀ d ∈ ds, dok 40 d = true) ∧ ∀ x ∈ ds, ∀ y ∈ ds, alike (pd x) (pd y) = true := by
  unfold alikeL at h
  simp only [Bool.and_eq_true, List.all_eq_true] at h
  exact h
theorem b_sort (hK : X.K = G.K) (hu : X.A.units + 65 < cLine) : ∃ r, CallR X (.builtin "sorted") r ∧ TellsC G r (d1 sortB) := by
  refine ⟨_, (cr_sortedI.or cr_sortT).or (cr_sortD hu), fun m H ds d xs Q l hx e0 g => ?_⟩
  rw [hK]
  obtain ⟨x, rfl, e⟩ := d1_eq e0
  obtain ⟨v, rfl, hv⟩ := hx.one
  unfold sortB at e
  split at e
  · rename_i _ ys e1
    obtain ⟨a, zs, rfl, h1, h2⟩ := seqD_vw e1 hv
    split at e
    · cases e
      rename_i _ ns e2
      rw [intsD_eq e2] at h1
      have h3 := h1.ints
      have fin : ∀ (ns' : List Int) (p : Addr), ns'.Perm ns → ns'.Pairwise (· ≤ ·) → H p = none → Q (.ref p) (upd H p (.lst (ns'.map V.int))) := fun ns' p h4 h5 hp => by
        rw [sortI_the h4 h5]
        exact g.lst l (Reps.of_ints _) p hp
      rcases h2 with ⟨_, h2⟩ | ⟨_, h2⟩
      · exact .inl (.inr ⟨a, ns, rfl, by rw [← h3]; exact h2.sq, fin⟩)
      · exact .inl (.inl ⟨a, ns, rfl, by rw [← h3]; exact h2, fin⟩)
    · rw [Option.ite_none_right_eq_some] at e
      obtain ⟨hok, e3⟩ := e
      cases e3
      unfold srtOk at hok
      rw [Bool.and_eq_true, Bool.or_eq_true] at hok
      obtain ⟨k1, k2⟩ := alikeL_some hok.1
      obtain ⟨T, t1, t2, t3⟩ := pairs_reps h1
      have hT : ∀ t ∈ T, dok 40 t.1 = true := fun t ht => k1 _ (by rw [← t1]; exact List.mem_map_of_mem ht)
      have eb : (T.map fun t => (t.2, pd t.1)).map (·.1) = zs := by rw [List.map_map, ← t2]; rfl
      have ep : (T.map fun t => (t.2, pd t.1)).map (·.2) = (T.map (·.1)).map pd := by rw [List.map_map, List.map_map]; rfl
      refine .inr ⟨a, T.map fun t => (t.2, pd t.1), rfl, by rw [eb]; exact h2.elim (fun z => .inr z.2.sq) fun z => .inl z.2, fun b hb => ?_, ?_, ?_, fun b hb => ?_, fun p hp => ?_⟩
      · obtain ⟨t, ht, rfl⟩ := List.mem_map.mp hb
        exact dp_rep 40 _ _ (hT t ht) (t3 t ht)
      · rw [ep, t1]
        intro p hp q hq
        obtain ⟨x, hx, rfl⟩ := List.mem_map.mp hp
        obtain ⟨y, hy, rfl⟩ := List.mem_map.mp hq
        exact k2 x hx y hy
      · rw [ep, t1]
        rcases hok.2 with z | z
        · refine .inl fun p hp => ?_
          obtain ⟨x, hx, rfl⟩ := List.mem_map.mp hp
          have := List.all_eq_true.mp z x hx
          unfold isTupNE at this
          split at this
          · rename_i h0 t0
            exact ⟨pd h0, pds t0, by simp only [pd, pds]⟩
          · cases this
        · refine .inr fun p hp => ?_
          obtain ⟨x, hx, rfl⟩ := List.mem_map.mp hp
          have hz := List.all_eq_true.mp z x hx
          have hd := k1 x hx
          cases x with
          | non => cases hz
          | tup ds => cases hz
          | bl b => exact ⟨by simp only [pd]; nofun, by simp only [pd]; nofun⟩
          | int b => exact ⟨by simp only [pd]; nofun, by simp only [pd]; nofun⟩
          | str b => exact ⟨by simp only [pd]; nofun, by simp only [pd]; nofun⟩
          | lst b => exact ⟨by simp only [pd]; nofun, by simp only [pd]; nofun⟩
          | dct t ks vs => simp [dok] at hd
          | fn f => simp [dok] at hd
          | xtp f => simp [dok] at hd
      · obtain ⟨t, ht, rfl⟩ := List.mem_map.mp hb
        exact Nat.le_trans (lay_pd 40 _ (hT t ht)).2 (by decide)
      · have m1 : ((T.map fun t => (t.2, pd t.1)).mergeSort (dataLe false (·.2))).map (·.1) = (T.mergeSort fun a b => leD a.1 b.1).map (·.2) := by
          rw [← List.map_mergeSort (r := fun a b : D × V => leD a.1 b.1) (s := dataLe false (·.2)) (f := fun t => (t.2, pd t.1)) (fun a _ b _ => rfl), List.map_map]
          rfl
        have m2 : ys.mergeSort leD = (T.mergeSort fun a b => leD a.1 b.1).map (·.1) := by
          rw [List.map_mergeSort (r := fun a b : D × V => leD a.1 b.1) (s := leD) (f := (·.1)) (fun a _ b _ => rfl), t1]
        rw [m1]
        rw [m2] at g
        exact g.lst l (reps_pairs fun t ht => t3 t ((List.mem_mergeSort).mp ht)) p hp
  · cases e
end
end Qx

namespace Qx
open PySem PySem.Spec L2 PySem.W
section
variable {X : Cx} {G : Gd}
/-- min of a list of alike data: which item it is -/
def rMinDt (K : PySem.W.Frag) : List V → Hp → VK → Prop := fun vs H Q => ∃ (a : Addr) (bs : List (V × PyData)) (x : V), vs = [V.ref a] ∧ SqL K H a (bs.map (·.1)) ∧ 0 < bs.length ∧ (∀ b ∈ bs, Dp K H b.1 b.2) ∧ AlikeAll (bs.map (·.2)) ∧ PyData.depthAll (bs.map (·.2)) ≤ 60 ∧
  (bs.map (·.1))[argBest (fun i j => dataLt ((bs.map (·.2)).getD i .none) ((bs.map (·.2)).getD j .none)) (bs.length - 1)]? = some x ∧ Q x H
theorem dpAll_of {K : PySem.W.Frag} {H : Hp} : ∀ {bs : List (V × PyData)}, (∀ b ∈ bs, Dp K H b.1 b.2) → DpAll K H (bs.map (·.1)) (bs.map (·.2))
  | [], _ => .nil
  | b :: bs, h => .cons (h b (by simp)) (dpAll_of fun c hc => h c (List.mem_cons_of_mem _ hc))
theorem cr_minD (hc : X.calm = true) (hu : X.A.units + 65 < cLine) : CallR X (.builtin "min") (rMinDt X.K) := by
  intro pins s σ H vs us Q I r h
  obtain ⟨a, bs, x, rfl, hs, hne, hd, ha, hdp, hx, q⟩ := h
  rw [Vals.ref1 r]
  obtain ⟨its, rv, hl, hz⟩ := I.list hs
  obtain ⟨as, hr⟩ := Dp.readsAll I _ _ its (dpAll_of hd) rv
  have hr' : ReadsAll s.heap its.toArray.toList (bs.map (·.2)) as := by simpa using hr
  have hlen : its.length = bs.length := by rw [← rv.length, List.length_map]
  refine PySem.call_min_walkH (PySem.W.iter_listW (A := X.A.in1) (I.ok.hd hc) hl.isList fun s₂ e W st hfp hw hk => ?_)
  refine ⟨_, _, _, _, _, _, _, s.heap, _, rfl, W, st, hfp, by rw [List.size_toArray, hlen]; exact hne, hw, hk, PySem.W.cmpIn_lt (A := X.A.in1) hr' ha (by show X.A.units + 1 + _ < _; omega), fun v s' hP m => ?_⟩
  obtain ⟨h', tk, rfl, hk'⟩ := PySem.W.moved_old e rfl m
  rw [List.size_toArray, hlen] at hP
  obtain ⟨v', hv', rel⟩ := rv.get hx
  have ev : v = v' := by
    have : its[argBest (fun i j => dataLt ((bs.map (·.2)).getD i .none) ((bs.map (·.2)).getD j .none)) (bs.length - 1)]? = some v := by simpa using hP
    rw [hv'] at this
    exact (Option.some.inj this).symm
  subst ev
  exact ⟨x, H, I.kept hk', rel, q⟩
theorem b_min (hK : X.K = G.K) (hc : X.calm = true) (hu : X.A.units + 65 < cLine) : ∃ r, CallR X (.builtin "min") r ∧ TellsC G r (d1 minB) := by
  refine ⟨_, (cr_min hc).or (cr_minD hc hu), fun m H ds d xs Q l hx e0 g => ?_⟩
  rw [hK]
  obtain ⟨x, rfl, e⟩ := d1_eq e0
  obtain ⟨v, rfl, hv⟩ := hx.one
  cases x <;> simp only [minB] at e <;> (first | (cases e; done) | skip)
  rename_i ys
  split at e
  · rename_i _ ns e2
    obtain ⟨M, e3, e4⟩ := Option.map_eq_some_iff.mp e
    subst e4
    have ey : ys = ns.map D.int := intsD_eq e2
    subst ey
    obtain ⟨a, rfl, h1⟩ := hv.ints
    have sp := minI_spec e3
    refine .inl ⟨a, ns, rfl, h1, List.length_pos_of_mem sp.1, fun k hk hm => ?_⟩
    have : k = M := Int.le_antisymm (hm M sp.1) (sp.2 k hk)
    subst this
    exact gives_int g
  · cases ys with
    | nil => simp [minDs] at e
    | cons y ys =>
      simp only [minDs] at e
      rw [Option.ite_none_right_eq_some] at e
      obtain ⟨hok, e3⟩ := e
      rw [Bool.and_eq_true] at hok
      obtain ⟨k1, k2⟩ := alikeL_some hok.1
      obtain ⟨a, zs, rfl, h1, h2⟩ := hv.lst
      obtain ⟨T, t1, t2, t3⟩ := pairs_reps h2
      have hT : ∀ t ∈ T, dok 40 t.1 = true := fun t ht => k1 _ (by rw [← t1]; exact List.mem_map_of_mem ht)
      have eb : (T.map fun t => (t.2, pd t.1)).map (·.1) = zs := by rw [List.map_map, ← t2]; rfl
      have ep : (T.map fun t => (t.2, pd t.1)).map (·.2) = (y :: ys).map pd := by rw [← t1, List.map_map, List.map_map]; rfl
      have lT : T.length = ys.length + 1 := by rw [← List.length_map (f := (·.1)), t1]; rfl
      have getp : ∀ i, ((y :: ys).map pd).getD i .none = pd ((y :: ys).getD i .non) := fun i => by
        rw [List.getD_eq_getElem?_getD, List.getD_eq_getElem?_getD, List.getElem?_map]
        cases (y :: ys)[i]? with
        | none => rfl
        | some z => rfl
      obtain ⟨f1, f2⟩ := PySem.W.argBest_fold ltD D.non y ys ys.length (Nat.le_refl _)
      rw [List.take_length] at f2
      have eF : (fun i j => dataLt (((T.map fun t => (t.2, pd t.1)).map (·.2)).getD i .none) (((T.map fun t => (t.2, pd t.1)).map (·.2)).getD j .none)) = fun i j => ltD ((y :: ys).getD i .non) ((y :: ys).getD j .non) := by
        funext i j
        rw [ep, getp, getp]
        rfl
      let J := argBest (fun i j => ltD ((y :: ys).getD i .non) ((y :: ys).getD j .non)) ys.length
      have hJ : J < T.length := by rw [lT]; exact Nat.lt_succ_of_le f1
      have hd1 : (y :: ys)[J]? = some (T[J]).1 := by rw [← t1, List.getElem?_map, List.getElem?_eq_getElem hJ]; rfl
      have hx1 : zs[J]? = some (T[J]).2 := by rw [← t2, List.getElem?_map, List.getElem?_eq_getElem hJ]; rfl
      have edd : d = (T[J]).1 := by
        have e3 := Option.some.inj e3
        rw [← e3, ← f2, List.getD_eq_getElem?_getD, hd1]
        rfl
      have hmem : T[J] ∈ T := List.getElem_mem hJ
      have hisC : isC d = false := by
        have hy : d ∈ y :: ys := by rw [edd]; exact List.mem_of_getElem? hd1
        have := List.all_eq_true.mp hok.2 d hy
        cases d <;> first | rfl | cases this
      refine .inr ⟨a, T.map fun t => (t.2, pd t.1), (T[J]).2, rfl, by rw [eb]; exact h1, by rw [List.length_map, lT]; omega, fun b hb => ?_, ?_, ?_, ?_, ?_⟩
      · obtain ⟨t, ht, rfl⟩ := List.mem_map.mp hb
        exact dp_rep 40 _ _ (hT t ht) (t3 t ht)
      · rw [ep]
        refine ⟨fun p hp q hq => ?_, fun p hp => ?_⟩
        · obtain ⟨x, hx, rfl⟩ := List.mem_map.mp hp
          obtain ⟨z, hz, rfl⟩ := List.mem_map.mp hq
          exact k2 x hx z hz
        · obtain ⟨x, hx, rfl⟩ := List.mem_map.mp hp
          have hz := List.all_eq_true.mp hok.2 x hx
          have hd := k1 x hx
          cases x with
          | non => cases hz
          | tup ds => simp only [pd]; nofun
          | bl b => simp only [pd]; nofun
          | int b => simp only [pd]; nofun
          | str b => simp only [pd]; nofun
          | lst b => cases hz
          | dct t ks vs => cases hz
          | fn f => simp [dok] at hd
          | xtp f => simp [dok] at hd
      · rw [ep, ← pds_map]
        exact Nat.le_trans (lay_pds 40 _ (List.all_eq_true.mpr k1)).2 (by decide)
      · rw [eb, eF, List.length_map, lT, Nat.add_sub_cancel]
        exact hx1
      · refine g _ H Ex.refl ?_ (.not hisC)
        rw [edd]
        exact t3 _ hmem
theorem b_str : ∃ r, CallR X (.type "str") r ∧ TellsC G r (d1 strB) := by
  refine ⟨_, call_str_int, fun m H ds d xs Q l hx e0 g => ?_⟩
  obtain ⟨x, rfl, e⟩ := d1_eq e0
  obtain ⟨v, rfl, hv⟩ := hx.one
  cases x <;> simp only [strB] at e <;> (first | (cases e; done) | skip)
  rename_i i
  rw [Option.ite_none_right_eq_some] at e
  obtain ⟨hi, e⟩ := e
  cases e
  exact ⟨i, by rw [hv.int], hi, g _ H Ex.refl Rep.of_str (.not rfl)⟩
end
end Qx
set_option Elab.async false
set_option linter.all false
set_option maxRecDepth 100000
set_option maxHeartbeats 4000000
/-! QSnd: readings of the own syntax; one lemma for each kind of node. -/
namespace Qx
open PySem PySem.Spec PyProof.Rows L2

/-- the world of one def's walk -/
structure Sx where
  G : Gd
  Φ : Orc
  R : Rfs
  C : Cc
def ad (m : AdP) (a : Addr) : AdP := fun b => b = a ∨ m b
abbrev Slots := Nat → Option Addr
theorem Nx.free {A : Slots} {H H' : Hp} (n : Nx A H H') {a : Addr} (h : H' a = none) : H a = none := by
  cases q : H a with
  | none => rfl
  | some o => exact (n.live a (by rw [q]; exact fun z => nomatch z) h).elim

section
variable {G : Gd} {m m' : AdP} {H H' : Hp} {A : Slots} {env : En} {σ : L2.St}
theorem Kp.weak (h : ∀ a, m' a → m a) : Kp m m' H H := ⟨fun _ _ h _ => h, fun a z => .inl (h a z)⟩
theorem Kp.add {p : Addr} (hp : H p = none) {o : HO} : Kp m (ad m p) H (upd H p o) := ⟨fun a u e _ => by rw [upd_ne (ne_of_none e hp)]; exact e, fun a z => z.elim (fun z => .inr (z ▸ hp)) .inl⟩
theorem RE.add {p : Addr} {o : HO} (r : RE G A m env σ H) (hp : H p = none) : RE G A (ad m p) env σ (upd H p o) :=
  ⟨r.len, fun i d e => let ⟨v, h1, h2⟩ := r.val i d e; ⟨v, h1, h2.mono (Kp.add hp)⟩,
   fun i d e => let ⟨a, h1, h2, h3⟩ := r.own i d e; ⟨a, h1, h2, h3.mono (Kp.add hp) fun u h => by rw [upd_ne (ne_of_none h hp)]; exact h⟩, r.inj, fun i a e => .inr (r.mem i a e),
   fun a z => z.elim (fun z => by rw [z, upd_same]; exact fun z => nomatch z) fun z => by
    by_cases c : a = p
    · rw [c, upd_same]; exact fun z => nomatch z
    · rw [upd_ne c]; exact r.live a z⟩
mutual
/-- what holds no list, no dict may be read under more marks -/
theorem Rep.relent (t : ∀ b xs, Rd H b (.tup xs) → m' b → m b) : ∀ (d : D) (v : V), noL d = true → Rep G m H d v → Rep G m' H d v
  | .non, _, _, h => by simpa only [Rep] using h
  | .bl _, _, _, h => by simpa only [Rep] using h
  | .int _, _, _, h => by simpa only [Rep] using h
  | .str _, _, _, h => by simpa only [Rep] using h
  | .fn _, _, _, h => by simpa only [Rep] using h
  | .tup ds, _, n, h => by
    simp only [Rep] at h ⊢
    simp only [noL] at n
    obtain ⟨a, xs, e, h1, h2⟩ := h
    exact ⟨a, xs, e, ⟨h1.1, fun z => h1.2 (t a xs h1.1.rd z)⟩, Reps.relent t ds xs n h2⟩
  | .xtp ds, _, n, h => by
    simp only [Rep] at h ⊢
    simp only [noL] at n
    obtain ⟨a, xs, e, h1, h2⟩ := h
    exact ⟨a, xs, e, ⟨h1.1, fun z => h1.2 (t a xs h1.1 z)⟩, Reps.relent t ds xs n h2⟩
  | .lst ds, _, n, h => by simp [noL] at n
  | .dct false ks vs, _, n, h => by simp [noL] at n
  | .dct true ks vs, _, n, h => by simp [noL] at n
theorem Reps.relent (t : ∀ b xs, Rd H b (.tup xs) → m' b → m b) : ∀ (ds : List D) (xs : List V), noLs ds = true → Reps G m H ds xs → Reps G m' H ds xs
  | [], _, _, h => by simpa only [Reps] using h
  | d :: ds, _, n, h => by
    simp only [Reps] at h ⊢
    simp only [noLs, Bool.and_eq_true] at n
    obtain ⟨v, vs, e, h1, h2⟩ := h
    exact ⟨v, vs, e, Rep.relent t d v n.1 h1, Reps.relent t ds vs n.2 h2⟩
end
theorem OwnAt.relent {a : Addr} {d : D} (t : ∀ b xs, Rd H b (.tup xs) → m' b → m b) (n : noLc d = true) (h : OwnAt G m H a d) : OwnAt G m' H a d := by
  cases d with
  | lst ds => obtain ⟨xs, h1, h2⟩ := h; exact ⟨xs, h1, Reps.relent t ds xs n h2⟩
  | dct b ks vs =>
    cases b with
    | false => obtain ⟨kvs, h1, h2, h3⟩ := h; exact ⟨kvs, h1, h2, Reps.relent t vs _ n h3⟩
    | true => obtain ⟨kvs, h1, h2, h3⟩ := h; exact ⟨kvs, h1, h2, Reps.relent t vs _ n h3⟩
  | non => exact h
  | bl b => exact h
  | int b => exact h
  | str b => exact h
  | tup b => exact h
  | xtp b => exact h
  | fn b => exact h
/-- an owned thing that is not marked stands still -/
theorem OwnAt.rep {a : Addr} {d : D} (h : OwnAt G m H a d) (n : ¬ m a) : Rep G m H d (.ref a) := by
  cases d with
  | lst ds => obtain ⟨xs, h1, h2⟩ := h; simp only [Rep]; exact ⟨a, xs, rfl, .inl ⟨.inl h1, n⟩, h2⟩
  | dct b ks vs =>
    cases b with
    | false => obtain ⟨kvs, h1, h2, h3⟩ := h; simp only [Rep]; exact ⟨a, kvs, rfl, .inl h1, n, h2, h3⟩
    | true => obtain ⟨kvs, h1, h2, h3⟩ := h; simp only [Rep]; exact ⟨a, kvs, rfl, .inl h1, n, h2, h3⟩
  | non => exact h.elim
  | bl b => exact h.elim
  | int b => exact h.elim
  | str b => exact h.elim
  | tup b => exact h.elim
  | xtp b => exact h.elim
  | fn b => exact h.elim
theorem OwnAt.weak {a : Addr} {d : D} (k : ∀ a, m' a → m a) (h : OwnAt G m H a d) : OwnAt G m' H a d := h.mono (Kp.weak k) fun _ h => h
theorem OwnAt.isC {a : Addr} {d : D} (h : OwnAt G m H a d) : isC d = true := by
  cases d <;> first | rfl | exact h.elim
theorem OwnAt.noTup {a : Addr} {d : D} (h : OwnAt G m H a d) : ∀ xs, ¬ Rd H a (.tup xs) := fun xs z => by
  have no : ∀ {o : HO}, H a = some o → (∀ ys, o ≠ .tup ys) → (∀ ob u, o ≠ .frz ob u) → False := fun {o} e n1 n2 => by
    rcases z with z | ⟨ob, z⟩
    · rw [e] at z; cases z; exact n1 _ rfl
    · rw [e] at z; cases z; exact n2 _ _ rfl
  cases d with
  | lst ds => obtain ⟨xs, h1, h2⟩ := h; exact no h1 (fun _ => nofun) fun _ _ => nofun
  | dct b ks vs =>
    cases b with
    | false => obtain ⟨kvs, h1, h2, h3⟩ := h; exact no h1 (fun _ => nofun) fun _ _ => nofun
    | true => obtain ⟨kvs, h1, h2, h3⟩ := h; exact no h1 (fun _ => nofun) fun _ _ => nofun
  | non => exact h
  | bl b => exact h
  | int b => exact h
  | str b => exact h
  | tup b => exact h
  | xtp b => exact h
  | fn b => exact h
end

/-! ### readings -/
structure Post (S : Sx) (c : E) (A : Slots) (m : AdP) (env' : En) (σ : L2.St) (H H' : Hp) (d : D) (v : V) : Prop where
  nx : Nx A H H'
  re : RE S.G A m env' σ H'
  rep : Rep S.G m H' d v
  fr : frE S.C.F c = true → isC d = true → ∃ a, v = .ref a ∧ H a = none ∧ RE S.G A (ad m a) env' σ H' ∧ OwnAt S.G (ad m a) H' a d
def tV (S : Sx) (c : E) : TE := fun σ H Q => ∃ A m env d env', RE S.G A m env σ H ∧ evE S.Φ S.R c env = some (d, env') ∧ ∀ v H', Post S c A m env' σ H H' d v → Q v H'
def tA (S : Sx) (c : E) : TE := fun σ H Q => ∃ A m env a env', RE S.G A m env σ H ∧ opE c (evE S.Φ S.R c) env = some (a, env') ∧ ∀ v H', Nx A H H' → RE S.G A m env' σ H' → ARep S.G A m H' a v → Q v H'
def tT (S : Sx) (c : E) : TT := fun σ H Q => ∃ A m env b env', RE S.G A m env σ H ∧ asB (evE S.Φ S.R c env) = some (b, env') ∧ ∀ H', Nx A H H' → RE S.G A m env' σ H' → Q b H'
def AReps (G : Gd) (A : Slots) (m : AdP) (H : Hp) : List Qx.A → List V → Prop := Paired (ARep G A m H)
def tVs (S : Sx) (cs : List E) : TA := fun σ H Q => ∃ A m env ds env', RE S.G A m env σ H ∧ evEs S.Φ S.R cs env = some (ds, env') ∧ ∀ vs H', Nx A H H' → RE S.G A m env' σ H' → Reps S.G m H' ds vs → Q vs H'
def tAs (S : Sx) (cs : List E) : TA := fun σ H Q => ∃ A m env as env', RE S.G A m env σ H ∧ evAs S.Φ S.R cs env = some (as, env') ∧ ∀ vs H', Nx A H H' → RE S.G A m env' σ H' → AReps S.G A m H' as vs → Q vs H'
theorem AReps.mono {G : Gd} {A : Slots} {m : AdP} {H H' : Hp} (k : Kp m m H H') {as : List Qx.A} {vs : List V} (h : AReps G A m H as vs) : AReps G A m H' as vs := Paired.mapP h fun _ _ r => r.mono k

section
variable {S : Sx} {A : Slots} {m : AdP} {env env' : En} {σ : L2.St} {H H2 : Hp} {c : E} {d : D} {Q : VK}
theorem post_gives (re : RE S.G A m env' σ H2) (n : Nx A H H2) (q : ∀ v H', Post S c A m env' σ H H' d v → Q v H') : Gives S.G m H2 d Q := fun v H' ex rp nl => by
  refine q v H' ⟨n.trans ex.nx, re.ex ex, rp, fun _ hc => ?_⟩
  obtain ⟨ds, p, xs, rfl, rfl, hp, rfl, hr⟩ := nl hc
  exact ⟨p, rfl, n.free hp, re.add hp, ⟨xs, upd_same, hr.mono (Kp.add hp)⟩⟩
/-- a value that is no list, no dict, or a node that makes no new one -/
theorem Post.of (n : Nx A H H2) (re : RE S.G A m env' σ H2) {v : V} (rp : Rep S.G m H2 d v) (k : frE S.C.F c = false ∨ isC d = false) : Post S c A m env' σ H H2 d v :=
  ⟨n, re, rp, fun a b => by
    rcases k with k | k
    · rw [k] at a; cases a
    · rw [k] at b; cases b⟩
end

/-- the facts of the program: where its defs stand, what calls of them do -/
def OutsAt (G : Gd) (m : AdP) (H : Hp) (B : Slots) : List Nat → List D → Prop
  | [], [] => True
  | i :: is, d :: ds => (∃ a, B i = some a ∧ OwnAt G m H a d) ∧ OutsAt G m H B is ds
  | _, _ => False
structure Args (G : Gd) (m : AdP) (H : Hp) (B : Slots) (js : List Nat) (ds : List D) (vs : List V) : Prop where
  len : ds.length = vs.length
  live : Live m H
  own : ∀ j d, ds[j]? = some d → j ∈ js → ∃ a, B j = some a ∧ vs[j]? = some (.ref a) ∧ OwnAt G m H a d
  val : ∀ j d, ds[j]? = some d → j ∉ js → ∃ v, vs[j]? = some v ∧ Rep G m H d v
  inj : ∀ i j a, B i = some a → B j = some a → i = j
  mem : ∀ i a, B i = some a → m a
  dom : ∀ i a, B i = some a → i ∈ js
structure Back (G : Gd) (fr : Bool) (m : AdP) (H : Hp) (B : Slots) (js : List Nat) (r : D) (outs : List D) (v : V) (H' : Hp) (m2 : AdP) : Prop where
  nx : Nx B H H'
  more : ∀ a, m a → m2 a
  new : ∀ a, m2 a → m a ∨ H a = none
  outs : OutsAt G m2 H' B js outs
  res : (∃ a, v = .ref a ∧ m2 a ∧ H a = none ∧ OwnAt G m2 H' a r) ∨ (Rep G m2 H' r v ∧ (fr = false ∨ isC r = false))
  live : ∀ a, m2 a → H' a ≠ none
def spOf (S : Sx) (g : Nat) : Sp := fun vs H Q _ => ∃ m B ds r outs, S.Φ g ds = some (r, outs) ∧ Args S.G m H B (S.R g) ds vs ∧
  ∀ v H' m2, Back S.G (S.C.F g) m H B (S.R g) r outs v H' m2 → Q v H'
def pickV {α : Type} (xs : List α) (pm : List Nat) : List α := pm.filterMap fun j => xs[j]?
/-- calls with names -/
def KwOk (K : PySem.W.Frag) (fd : FuncData) (ps : List Str) : Prop := ∀ (n : Nat) (ks : List Str) (pm : List Nat), kwPos ps n ks = some pm → ks.Nodup → n + ks.length = ps.length → (∀ k ∈ ks, k ∈ ps.drop n) →
  ∀ (s : Shared) (us ws : List Value), K.In s.heap → us.length = n → ws.length = ks.length → BindsTo s fd ⟨us, ks.zip ws⟩ (ps.zip (pickV (us ++ ws) pm))
structure FnAt (S : Sx) (k : Nat) (P : Program) (w : World) (K : PySem.W.Frag) (mg : Str → Option Value) (base : Heap) (g : Nat) (f : Addr) : Prop where
  ex : ∃ (fd : FuncData) (ps : List Str), FnOk P w K mg base CX0 k f fd ps (spOf S g) ∧ PySem.W.keepIn K (.ref f) = true ∧ Binds K fd ps [] ∧ ps = S.C.P g ∧ KwOk K fd ps
def bltNames : List Str := ["len", "abs", "int", "tuple", "list", "sorted", "sum", "all", "any", "max", "min", "isinstance", "range", "enumerate", "zip", "bool", "str", "dict", "set"]
structure Prg (S : Sx) (k : Nat) (P : Program) (w : World) (K : PySem.W.Frag) (mg : Str → Option Value) (base : Heap) : Prop where
  fns : ∀ g f, S.G.fa g = some f → FnAt S k P w K mg base g f
  glo : ∀ x g, S.C.G.lookup x = some (.fn g) → ∃ f, mg x = some (.ref f) ∧ S.G.fa g = some f
  cst : ∀ x d, S.C.G.lookup x = some (.cst d) → ∃ v u, mg x = some u ∧ RelV v u ∧ ∀ m H, Rep S.G m H d v
  blt : ∀ x ∈ bltNames, S.C.G.lookup x = none → mg x = none
structure Ct (S : Sx) (k : Nat) (sc : Scope) (X : Cx) : Prop where
  N : X.N = S.C.N
  nd : S.C.N.Nodup
  calm : X.calm = true
  room : Room k X.A
  hK : X.K = S.G.K
  xe : X.xe = fun _ _ => False
  kind : X.env.scope.kind = .function
  loc : ∀ x, sc.names.lookup x = some .local → X.env.scope.names.lookup x = some .local
  cell : ∀ x, sc.names.lookup x = some .cell → X.env.scope.names.lookup x = some .cell ∧ X.fn x = true
  free : ∀ x, sc.names.lookup x = some .free → X.env.scope.names.lookup x = some .cell ∨ X.env.scope.names.lookup x = some .free
  gl : ∀ x, sc.names.lookup x = some .globalImplicit → Gl X x
  prg : Prg S k X.prog X.w X.K X.mg X.base

section
variable {S : Sx} {k : Nat} {sc : Scope} {X : Cx}
theorem Ct.vis (h : Ct S k sc X) {x : Str} (e : seen sc x = true) : Vis X.env.scope x := by
  unfold seen at e
  split at e
  · rename_i q; exact .inl (h.loc x q)
  · rename_i q; exact .inr (.inl (h.cell x q).1)
  · rename_i q; exact (h.free x q).elim (fun z => .inr (.inl z)) fun z => .inr (.inr z)
  · cases e
theorem Ct.glo (h : Ct S k sc X) {x : Str} (e : isGl sc x = true) : Gl X x := by
  unfold isGl at e
  split at e
  · rename_i q; exact h.gl x q
  · cases e
theorem Ct.un (h : Ct S k sc X) : X.A.units + 65 < cLine := by have := h.room.un; omega
theorem ixOf_some : ∀ {N : List Str} {x : Str} {i : Nat}, ixOf N x = some i → N[i]? = some x
  | [], _, _, h => by simp [ixOf] at h
  | y :: r, x, i, h => by
    unfold ixOf at h
    split at h
    · cases h; rename_i e; simp [e]
    · obtain ⟨j, e, rfl⟩ := omap h
      simpa using ixOf_some e
theorem Ct.ix (h : Ct S k sc X) {x : Str} {i : Nat} (e : ixOf S.C.N x = some i) : X.N[i]? = some x := by rw [h.N]; exact ixOf_some e
end

/-- a node with its readings -/
structure Snd (S : Sx) (X : Cx) (e : Expr) (c : E) : Prop where
  pe : PE X e (tV S c)
  pa : PE X e (tA S c)
  pt : PT X e (tT S c)
  sw : isLC e = true → noItm c = true → ∀ (i : Nat) (y : Str) (py spos : Pos), X.N[i]? = some y → X.env.scope.names.lookup y = some .local → swapsWith e (some (.Name y py)) spos.line X.env = pure true → PS X (.Assign [.Name y py] e spos) (tAsg (tV S c) (gName i))
section
variable {S : Sx} {k : Nat} {sc : Scope} {X : Cx} {e : Expr} {c : E}
theorem opE_not {c : E} {f : En → Option (D × En)} {env env' : En} {a : Qx.A} (n : isOwn c = false) (h : opE c f env = some (a, env')) : ∃ d, f env = some (d, env') ∧ a = .v d := by
  unfold opE at h
  split at h
  · cases n
  · split at h
    · rename_i d e1 q
      cases h
      exact ⟨d, q, rfl⟩
    · cases h
theorem opE_own {i : Nat} {f : En → Option (D × En)} {env env' : En} {a : Qx.A} (h : opE (.own i) f env = some (a, env')) : isO env i = true ∧ a = .o i ∧ env' = env := by
  simp only [opE] at h
  split at h
  · rename_i e; cases h; exact ⟨e, rfl, rfl⟩
  · cases h
theorem pa_of (n : isOwn c = false) (h : PE X e (tV S c)) : PE X e (tA S c) := h.imp fun σ H Q ⟨A, m, env, a, env', re, ev, q⟩ => by
  obtain ⟨d, e1, rfl⟩ := opE_not n ev
  exact ⟨A, m, env, d, env', re, e1, fun v H' p => q v H' p.nx p.re p.rep⟩
theorem asB_some {o : Option (D × En)} {b : Bool} {env' : En} (h : asB o = some (b, env')) : o = some (.bl b, env') := by
  unfold asB at h
  split at h
  · cases h; rfl
  · cases h
theorem tT_of (σ : L2.St) (H : Hp) (Q : Bool → Hp → Prop) (h : tT S c σ H Q) : tB (tV S c) σ H Q := by
  obtain ⟨A, m, env, b, env', re, ev, q⟩ := h
  refine ⟨A, m, env, _, env', re, asB_some ev, fun v H' p => ?_⟩
  have := p.rep
  simp only [Rep] at this
  exact ⟨b, this, q H' p.nx p.re⟩
theorem pt_of (h : PE X e (tV S c)) (he : ∀ whole, isTrue e X.env whole = (do let v ← whole; standAt e.pos; holding [v] (truthy v))) : PT X e (tT S c) := (pt_val h he).imp tT_of
/-- a node without roads of its own -/
theorem Snd.mk' (n : isOwn c = false) (h : PE X e (tV S c)) (he : ∀ whole, isTrue e X.env whole = (do let v ← whole; standAt e.pos; holding [v] (truthy v)) := by intro _; rfl) (nl : isLC e = false := by rfl) : Snd S X e c := ⟨h, pa_of n h, pt_of h he, fun z => by rw [nl] at z; cases z⟩
end

/-! ### names, constants -/
section
variable {S : Sx} {k : Nat} {sc : Scope} {X : Cx} {pos : Pos}
theorem nd_var (h : Ct S k sc X) {x : Str} {i : Nat} (sn : seen sc x = true) (e : ixOf S.C.N x = some i) (hd : (x == ("__debug__" : Str)) = false) (hcd : (x == ("__classdict__" : Str)) = false) : Snd S X (.Name x pos) (.var i) :=
  Snd.mk' rfl ((pe_var (h.ix e) (h.vis sn) hd hcd).imp fun σ H Q ⟨A, m, env, d, env', re, ev, q⟩ => by
    simp only [evE] at ev
    split at ev <;> cases ev
    rename_i e1
    obtain ⟨v, h1, h2⟩ := re.val i _ (getV_some e1)
    exact ⟨v, h1, q v H (.of .refl re h2 (.inl rfl))⟩)
theorem nd_own (h : Ct S k sc X) {x : Str} {i : Nat} (sn : seen sc x = true) (e : ixOf S.C.N x = some i) (hd : (x == ("__debug__" : Str)) = false) (hcd : (x == ("__classdict__" : Str)) = false) : Snd S X (.Name x pos) (.own i) := by
  have hv := pe_var (pos := pos) (h.ix e) (h.vis sn) hd hcd
  refine ⟨hv.imp fun σ H Q w => ?_, hv.imp fun σ H Q w => ?_, (pt_val hv).imp fun σ H Q w => ?_, fun z => nomatch z⟩
  · obtain ⟨A, m, env, d, env', re, ev, q⟩ := w
    simp only [evE] at ev
    cases ev
  · obtain ⟨A, m, env, a, env', re, ev, q⟩ := w
    obtain ⟨e1, rfl, rfl⟩ := opE_own ev
    obtain ⟨d, e2⟩ := isO_some e1
    obtain ⟨a, h1, h2, h3⟩ := re.own i d e2
    exact ⟨.ref a, h2, q _ H .refl re ⟨a, h1, rfl⟩⟩
  · obtain ⟨A, m, env, b, env', re, ev, q⟩ := w
    have := asB_some ev
    simp only [evE] at this
    cases this
theorem nd_cst {e : Expr} {v : V} {d : D} (he : PE X e (tC v)) (hr : ∀ m H, Rep S.G m H d v) (hi : ∀ whole, isTrue e X.env whole = (do let v ← whole; standAt e.pos; holding [v] (truthy v)) := by intro _; rfl) (nl : isLC e = false := by rfl) : Snd S X e (.cst d) :=
  Snd.mk' rfl (he.imp fun σ H Q ⟨A, m, env, d', env', re, ev, q⟩ => by
    simp only [evE] at ev
    cases ev
    exact q v H (.of .refl re (hr m H) (.inl rfl))) hi nl
theorem nd_name (h : Ct S k sc X) {x : Str} {c : E} (e : cName S.C sc x = some c) (hd : (x == ("__debug__" : Str)) = false) (hcd : (x == ("__classdict__" : Str)) = false) : Snd S X (.Name x pos) c := by
  unfold cName at e
  split at e
  · rename_i sn
    obtain ⟨i, e1, rfl⟩ := omap e
    split
    · exact nd_own h sn e1 hd hcd
    · exact nd_var h sn e1 hd hcd
  · split at e
    · rename_i gl
      split at e <;> cases e
      · rename_i g e1
        obtain ⟨f, h1, h2⟩ := h.prg.glo x g e1
        exact nd_cst (pe_glob (v := .ref f) (h.glo gl) h1 rfl hd) fun m H => by simp only [Rep]; exact ⟨f, rfl, h2⟩
      · rename_i d e1
        obtain ⟨v, u, h1, h2, h3⟩ := h.prg.cst x d e1
        exact nd_cst (pe_glob (h.glo gl) h1 h2 hd) h3
    · cases e
end
end Qx
set_option Elab.async false
set_option linter.all false
/-! QInv: what a successful step of the evaluator tells. -/
namespace Qx
open PySem
theorem oD {γ : Type} {o : Option (D × En)} {f : D → En → Option γ} {c : γ} (h : (match o with | some (a, b) => f a b | none => none) = some c) : ∃ a b, o = some (a, b) ∧ f a b = some c := by
  split at h
  · exact ⟨_, _, rfl, h⟩
  · cases h
theorem oL {γ : Type} {o : Option (List D × En)} {f : List D → En → Option γ} {c : γ} (h : (match o with | some (a, b) => f a b | none => none) = some c) : ∃ a b, o = some (a, b) ∧ f a b = some c := by
  split at h
  · exact ⟨_, _, rfl, h⟩
  · cases h
theorem oA {γ : Type} {o : Option (Qx.A × En)} {f : Qx.A → En → Option γ} {c : γ} (h : (match o with | some (a, b) => f a b | none => none) = some c) : ∃ a b, o = some (a, b) ∧ f a b = some c := by
  split at h
  · exact ⟨_, _, rfl, h⟩
  · cases h
theorem oR {γ : Type} {o : Option (List Qx.A × En)} {f : List Qx.A → En → Option γ} {c : γ} (h : (match o with | some (a, b) => f a b | none => none) = some c) : ∃ a b, o = some (a, b) ∧ f a b = some c := by
  split at h
  · exact ⟨_, _, rfl, h⟩
  · cases h
theorem oP {γ : Type} {o : Option (D × D)} {f : D → D → Option γ} {c : γ} (h : (match o with | some (a, b) => f a b | none => none) = some c) : ∃ a b, o = some (a, b) ∧ f a b = some c := by
  split at h
  · exact ⟨_, _, rfl, h⟩
  · cases h
theorem oO {γ : Type} {o : Option (D × List D)} {f : D → List D → Option γ} {c : γ} (h : (match o with | some (a, b) => f a b | none => none) = some c) : ∃ a b, o = some (a, b) ∧ f a b = some c := by
  split at h
  · exact ⟨_, _, rfl, h⟩
  · cases h
theorem o1 {γ : Type} {o : Option (D)} {f : D → Option γ} {c : γ} (h : (match o with | some a => f a | none => none) = some c) : ∃ a, o = some a ∧ f a = some c := by
  split at h
  · exact ⟨_, rfl, h⟩
  · cases h
theorem o1L {γ : Type} {o : Option (List D)} {f : List D → Option γ} {c : γ} (h : (match o with | some a => f a | none => none) = some c) : ∃ a, o = some a ∧ f a = some c := by
  split at h
  · exact ⟨_, rfl, h⟩
  · cases h
theorem o1B {γ : Type} {o : Option (Bool)} {f : Bool → Option γ} {c : γ} (h : (match o with | some a => f a | none => none) = some c) : ∃ a, o = some a ∧ f a = some c := by
  split at h
  · exact ⟨_, rfl, h⟩
  · cases h
theorem o1R {γ : Type} {o : Option (List Qx.A)} {f : List Qx.A → Option γ} {c : γ} (h : (match o with | some a => f a | none => none) = some c) : ∃ a, o = some a ∧ f a = some c := by
  split at h
  · exact ⟨_, rfl, h⟩
  · cases h
theorem o1E {γ : Type} {o : Option (En)} {f : En → Option γ} {c : γ} (h : (match o with | some a => f a | none => none) = some c) : ∃ a, o = some a ∧ f a = some c := by
  split at h
  · exact ⟨_, rfl, h⟩
  · cases h
theorem o1N {γ : Type} {o : Option En} {f : En → Option γ} {c : γ} (h : (match o with | none => none | some a => f a) = some c) : ∃ a, o = some a ∧ f a = some c := by
  split at h
  · cases h
  · exact ⟨_, rfl, h⟩
theorem o11 {γ : Type} {o p : Option D} {f : D → D → Option γ} {c : γ} (h : (match o, p with | some a, some b => f a b | _, _ => none) = some c) : ∃ a b, o = some a ∧ p = some b ∧ f a b = some c := by
  split at h
  · exact ⟨_, _, rfl, rfl, h⟩
  · cases h
theorem o11N {γ : Type} {o : Option (List D)} {p : Option (List Nat)} {f : List D → List Nat → Option γ} {c : γ} (h : (match o, p with | some a, some b => f a b | _, _ => none) = some c) : ∃ a b, o = some a ∧ p = some b ∧ f a b = some c := by
  split at h
  · exact ⟨_, _, rfl, rfl, h⟩
  · cases h
theorem oI {γ : Type} {o : ItR} {f : List D → Qx.A × D → En → Option γ} {c : γ} (h : (match o with | some (a, b, e) => f a b e | none => none) = some c) : ∃ a b e, o = some (a, b, e) ∧ f a b e = some c := by
  split at h
  · exact ⟨_, _, _, rfl, h⟩
  · cases h
theorem ob {γ : Type} {o : Option (Bool × En)} {f g : En → Option γ} {c : γ} (h : (match o with | some (true, e) => f e | some (false, e) => g e | none => none) = some c) : (∃ e, o = some (true, e) ∧ f e = some c) ∨ ∃ e, o = some (false, e) ∧ g e = some c := by
  split at h
  · exact .inl ⟨_, rfl, h⟩
  · exact .inr ⟨_, rfl, h⟩
  · cases h
theorem obB {γ : Type} {o : Option (Bool × En)} {f : Bool → En → Option γ} {c : γ} (h : (match o with | some (b, e) => f b e | none => none) = some c) : ∃ b e, o = some (b, e) ∧ f b e = some c := by
  split at h
  · exact ⟨_, _, rfl, h⟩
  · cases h
theorem oi {γ : Type} {p : Prop} [Decidable p] {f : Option γ} {c : γ} (h : (if p then f else none) = some c) : p ∧ f = some c := by
  split at h
  · exact ⟨by assumption, h⟩
  · cases h
theorem oni {γ : Type} {p : Prop} [Decidable p] {f : Option γ} {c : γ} (h : (if p then none else f) = some c) : ¬ p ∧ f = some c := by
  split at h
  · cases h
  · exact ⟨by assumption, h⟩
end Qx
set_option Elab.async false
set_option linter.all false
set_option maxRecDepth 100000
set_option maxHeartbeats 4000000
/-! QSnd2: one lemma for each kind of node. -/
namespace Qx
open PySem PySem.Spec PyProof.Rows L2

inductive Snds (S : Sx) (X : Cx) : List Expr → List E → Prop
  | nil : Snds S X [] []
  | cons {e : Expr} {c : E} {es : List Expr} {cs : List E} : isStar e = false → Snd S X e c → Snds S X es cs → Snds S X (e :: es) (c :: cs)
section
variable {S : Sx} {k : Nat} {sc : Scope} {X : Cx} {pos : Pos} {e : Expr} {c : E} {es : List Expr} {cs : List E}
theorem Snds.as : ∀ {es : List Expr} {cs : List E}, Snds S X es cs → PA X es (tAs S cs)
  | _, _, .nil => pa_nil.imp fun σ H Q ⟨A, m, env, as, env', re, ev, q⟩ => by
    simp only [evAs] at ev
    cases ev
    exact q [] H .refl re .nil
  | _, _, .cons st s r => (pa_cons s.pa r.as (starEach_ok st)).imp fun σ H Q ⟨A, m, env, as, env', re, ev, q⟩ => by
    simp only [evAs] at ev
    split at ev <;> (try cases ev)
    split at ev <;> cases ev
    rename_i a e1 ev1 _ bs ev2
    refine ⟨A, m, env, a, e1, re, ev1, fun v H1 n1 r1 a1 => ⟨A, m, e1, bs, _, r1, ev2, fun vs H2 n2 r2 a2 => ?_⟩⟩
    exact q _ H2 (n1.trans n2) r2 (.cons (a1.mono (r1.kp n2)) a2)
theorem Snds.vs : ∀ {es : List Expr} {cs : List E}, Snds S X es cs → PA X es (tVs S cs)
  | _, _, .nil => pa_nil.imp fun σ H Q ⟨A, m, env, as, env', re, ev, q⟩ => by
    simp only [evEs] at ev
    cases ev
    exact q [] H .refl re .nil
  | _, _, .cons st s r => (pa_cons s.pe r.vs (starEach_ok st)).imp fun σ H Q ⟨A, m, env, as, env', re, ev, q⟩ => by
    simp only [evEs] at ev
    split at ev <;> (try cases ev)
    split at ev <;> cases ev
    rename_i a e1 ev1 _ bs ev2
    refine ⟨A, m, env, a, e1, re, ev1, fun v H1 p1 => ⟨A, m, e1, bs, _, p1.re, ev2, fun vs H2 n2 r2 a2 => ?_⟩⟩
    exact q _ H2 (p1.nx.trans n2) r2 (.cons (p1.rep.mono (p1.re.kp n2)) a2)

theorem paired_len {G : Gd} {A : Slots} {m : AdP} {H : Hp} {as : List Qx.A} {vs : List V} (h : AReps G A m H as vs) : as.length = vs.length := Paired.length h

/-! ### displays, operators -/
theorem nd_tup (s : Snds S X es cs) {x1 : Nat} : Snd S X (.Tuple es x1 pos) (.tup cs) :=
  Snd.mk' rfl ((pe_tupX (x1 := x1) s.vs).imp fun σ H Q ⟨A, m, env, d, env', re, ev, q⟩ => by
    simp only [evE] at ev
    obtain ⟨ds, e1, ev1, ev⟩ := oL ev
    obtain ⟨hz, ev⟩ := oi ev
    cases ev
    refine ⟨A, m, env, ds, _, re, ev1, fun vs H1 n1 r1 a1 => ⟨by rw [← a1.length]; exact sz_eq ▸ hz, fun p o hp hd => ?_⟩⟩
    exact (post_gives r1 n1 q).tup r1.live a1 p o hp hd)
theorem nd_lst (s : Snds S X es cs) : Snd S X (.List es pos) (.lst cs) :=
  Snd.mk' rfl ((pe_lst s.vs).imp fun σ H Q ⟨A, m, env, d, env', re, ev, q⟩ => by
    simp only [evE] at ev
    obtain ⟨ds, e1, ev1, ev⟩ := oL ev
    obtain ⟨hz, ev⟩ := oi ev
    cases ev
    refine ⟨A, m, env, ds, _, re, ev1, fun vs H1 n1 r1 a1 => ⟨by rw [← a1.length]; exact sz_eq ▸ hz, fun p hp => ?_⟩⟩
    exact (post_gives r1 n1 q).lst r1.live a1 p hp)
section
variable {a b t : Expr} {x y z : E}
theorem nd_bin (h : Ct S k sc X) {op : Bop} (sa : Snd S X a x) (sb : Snd S X b y) : Snd S X (.BinOp a (opr op) b pos) (.bin op x y) := by
  obtain ⟨r, ho, tl⟩ := bin_ok h.hK op
  refine Snd.mk' rfl ((pe_op ho sa.pa sb.pa).imp fun σ H Q ⟨A, m, env, d, env', re, ev, q⟩ => ?_)
  simp only [evE] at ev
  obtain ⟨u, e1, ev1, ev⟩ := oA ev
  obtain ⟨w, e2, ev2, ev⟩ := oA ev
  obtain ⟨dx, dy, hx, hy, ev⟩ := o11 ev
  obtain ⟨d', hd, ev⟩ := o1 ev
  cases ev
  refine ⟨A, m, env, u, e1, re, ev1, fun v H1 n1 r1 a1 => ⟨A, m, e1, w, _, r1, ev2, fun v2 H2 n2 r2 a2 => ?_⟩⟩
  exact tl m H2 dx dy _ v v2 Q r2.live (r2.vw (a1.mono (r1.kp n2)) hx) (r2.vw a2 hy) hd (post_gives r2 (n1.trans n2) q)
theorem nd_neg (sa : Snd S X a x) : Snd S X (.UnaryOp .USub a pos) (.neg x) :=
  Snd.mk' rfl ((pe_un un_neg sa.pe).imp fun σ H Q ⟨A, m, env, d, env', re, ev, q⟩ => by
    simp only [evE] at ev
    split at ev <;> cases ev
    rename_i i ev1
    refine ⟨A, m, env, _, _, re, ev1, fun v H1 p1 => ?_⟩
    have := p1.rep
    simp only [Rep] at this
    exact ⟨i, this, q _ H1 (.of p1.nx p1.re Rep.of_int (.inl rfl))⟩)
theorem nd_nt (sa : Snd S X a x) : Snd S X (.UnaryOp .Not a pos) (.nt x) := by
  have hp : PE X (.UnaryOp .Not a pos) (tV S (.nt x)) := (pe_not sa.pe).imp fun σ H Q ⟨A, m, env, d, env', re, ev, q⟩ => by
    simp only [evE] at ev
    split at ev <;> cases ev
    rename_i b ev1
    refine ⟨A, m, env, _, _, re, asB_some ev1, fun v H1 p1 => ?_⟩
    have := p1.rep
    simp only [Rep] at this
    exact ⟨b, this, q _ H1 (.of p1.nx p1.re Rep.of_bl (.inl rfl))⟩
  refine ⟨hp, pa_of rfl hp, (pt_not sa.pt).imp fun σ H Q ⟨A, m, env, b, env', re, ev, q⟩ => ?_, fun z => nomatch z⟩
  have ev := asB_some ev
  simp only [evE] at ev
  split at ev <;> cases ev
  rename_i b ev1
  exact ⟨A, m, env, b, _, re, ev1, fun H1 n1 r1 => q H1 n1 r1⟩
theorem nd_cmp (h : Ct S k sc X) {op : Cop} (sa : Snd S X a x) (sb : Snd S X b y) (ok : okNode b = true) : Snd S X (.Compare a [cpr op] [b] pos) (.cmp op x y) := by
  obtain ⟨r, ho, tl⟩ := cmp_ok h.hK h.un op
  have key : ∀ (σ : L2.St) (H : Hp) (Q : VK) (A : Slots) (m : AdP) (env : En) (d : D) (env' : En), RE S.G A m env σ H → evE S.Φ S.R (.cmp op x y) env = some (d, env') →
      (∀ v H', Post S (.cmp op x y) A m env' σ H H' d v → Q v H') → tOp r (tA S x) (tA S y) σ H Q := fun σ H Q A m env d env' re ev q => by
    simp only [evE] at ev
    obtain ⟨u, e1, ev1, ev⟩ := oA ev
    obtain ⟨w, e2, ev2, ev⟩ := oA ev
    obtain ⟨dx, dy, hx, hy, ev⟩ := o11 ev
    obtain ⟨d', hd, ev⟩ := o1B ev
    cases ev
    refine ⟨A, m, env, u, e1, re, ev1, fun v H1 n1 r1 a1 => ⟨A, m, e1, w, _, r1, ev2, fun v2 H2 n2 r2 a2 => ?_⟩⟩
    exact tl m H2 dx dy _ v v2 Q r2.live (r2.vw (a1.mono (r1.kp n2)) hx) (r2.vw a2 hy) hd (q _ H2 (.of (n1.trans n2) r2 Rep.of_bl (.inl rfl)))
  have hp : PE X (.Compare a [cpr op] [b] pos) (tV S (.cmp op x y)) := (pe_cmpR ho sa.pa sb.pa (beh_ok ok)).imp fun σ H Q ⟨A, m, env, d, env', re, ev, q⟩ => key σ H Q A m env d env' re ev q
  refine ⟨hp, pa_of rfl hp, (pt_cmpR ho sa.pa sb.pa (beh_ok ok)).imp fun σ H Q ⟨A, m, env, b, env', re, ev, q⟩ => ?_, fun z => nomatch z⟩
  refine key σ H _ A m env _ env' re (asB_some ev) fun v H' p => ?_
  have := p.rep
  simp only [Rep] at this
  exact ⟨b, this, q H' p.nx p.re⟩
theorem nd_chn (h : Ct S k sc X) {op op' : Cop} (sa : Snd S X a x) (sb : Snd S X b y) (sc' : Snd S X t z) (ok : okNode t = true) : Snd S X (.Compare a [cpr op, cpr op'] [b, t] pos) (.chn op op' x y z) := by
  obtain ⟨r, ho, tl⟩ := cmp_ok h.hK h.un op
  obtain ⟨r', ho', tl'⟩ := cmp_ok h.hK h.un op'
  have lm : lastMarks [cpr op, cpr op'] [b, t] = false := by
    show behindInMarks (cpr op') t = false
    exact beh_ok ok
  have key : ∀ (σ : L2.St) (H : Hp) (Q : VK) (A : Slots) (m : AdP) (env : En) (d : D) (env' : En), RE S.G A m env σ H → evE S.Φ S.R (.chn op op' x y z) env = some (d, env') →
      (∀ v H', Post S (.chn op op' x y z) A m env' σ H H' d v → Q v H') → tChain r r' (tV S x) (tV S y) (tV S z) σ H Q := fun σ H Q A m env d env' re ev q => by
    simp only [evE] at ev
    obtain ⟨dx, e1, ev1, ev⟩ := oD ev
    obtain ⟨dy, e2, ev2, ev⟩ := oD ev
    refine ⟨A, m, env, dx, e1, re, ev1, fun v H1 p1 => ⟨A, m, e1, dy, e2, p1.re, ev2, fun v2 H2 p2 => ?_⟩⟩
    split at ev
    · rename_i hc
      refine tl m H2 dx dy true v v2 _ p2.re.live (.inl (p1.rep.mono (p1.re.kp p2.nx))) (.inl p2.rep) hc ⟨true, rfl, ?_⟩
      rw [if_pos rfl]
      obtain ⟨dz, e3, ev3, ev⟩ := oD ev
      obtain ⟨kk, hk, ev⟩ := o1B ev
      cases ev
      refine ⟨A, m, e2, dz, _, p2.re, ev3, fun v3 H3 p3 => ?_⟩
      exact tl' m H3 dy dz kk v2 v3 _ p3.re.live (.inl (p2.rep.mono (p2.re.kp p3.nx))) (.inl p3.rep) hk (q _ H3 (.of (p1.nx.trans (p2.nx.trans p3.nx)) p3.re Rep.of_bl (.inl rfl)))
    · rename_i hc
      cases ev
      refine tl m H2 dx dy false v v2 _ p2.re.live (.inl (p1.rep.mono (p1.re.kp p2.nx))) (.inl p2.rep) hc ⟨false, rfl, ?_⟩
      rw [if_neg (by decide)]
      exact q _ H2 (.of (p1.nx.trans p2.nx) p2.re Rep.of_bl (.inl rfl))
    · cases ev
  have hp : PE X (.Compare a [cpr op, cpr op'] [b, t] pos) (tV S (.chn op op' x y z)) := (pe_chain ho ho' sa.pe sb.pe sc'.pe lm).imp fun σ H Q ⟨A, m, env, d, env', re, ev, q⟩ => key σ H Q A m env d env' re ev q
  refine ⟨hp, pa_of rfl hp, (pt_chain ho ho' sa.pe sb.pe sc'.pe lm).imp fun σ H Q ⟨A, m, env, b, env', re, ev, q⟩ => ?_, fun z => nomatch z⟩
  refine key σ H _ A m env _ env' re (asB_some ev) fun v H' p => ?_
  have := p.rep
  simp only [Rep] at this
  exact ⟨b, this, q H' p.nx p.re⟩
/-- and, or -/
structure Bools (S : Sx) (X : Cx) (op : BoolOp) (pos : Pos) (es : List Expr) (c : E) : Prop where
  pe : PE X (.BoolOp op es pos) (tV S c)
  pw : PW X (.BoolOp op es pos) (tT S c)
theorem bo_one {op : BoolOp} (sa : Snd S X a x) : Bools S X op pos [a] x := ⟨pe_one sa.pe, by
  cases op with
  | And => exact pw_and1 sa.pt
  | Or => exact pw_or1 sa.pt⟩
theorem bo_and {rest : List Expr} (sa : Snd S X a x) (h : Bools S X .And pos (b :: rest) y) : Bools S X .And pos (a :: b :: rest) (.an x y) := by
  refine ⟨(pe_and sa.pe h.pe).imp fun σ H Q ⟨A, m, env, d, env', re, ev, q⟩ => ?_, (pw_and sa.pt h.pw).imp fun σ H Q ⟨A, m, env, b, env', re, ev, q⟩ => ?_⟩
  · simp only [evE] at ev
    split at ev <;> (try cases ev)
    · rename_i e1 ev1
      refine ⟨A, m, env, _, e1, re, asB_some ev1, fun v H1 p1 => ?_⟩
      have := p1.rep
      simp only [Rep] at this
      refine ⟨true, this, ?_⟩
      rw [if_pos rfl]
      exact ⟨A, m, e1, d, env', p1.re, ev, fun v2 H2 p2 => q v2 H2 ⟨p1.nx.trans p2.nx, p2.re, p2.rep, fun a => nomatch a⟩⟩
    · rename_i ev1
      refine ⟨A, m, env, _, _, re, asB_some ev1, fun v H1 p1 => ?_⟩
      have := p1.rep
      simp only [Rep] at this
      refine ⟨false, this, ?_⟩
      rw [if_neg (by decide)]
      exact q _ H1 (.of p1.nx p1.re Rep.of_bl (.inl rfl))
  · have ev := asB_some ev
    simp only [evE] at ev
    split at ev <;> (try cases ev)
    · rename_i e1 ev1
      refine ⟨A, m, env, _, e1, re, ev1, fun H1 n1 r1 => ?_⟩
      refine iteT ?_
      exact ⟨A, m, e1, b, env', r1, by rw [ev]; rfl, fun H2 n2 r2 => q H2 (n1.trans n2) r2⟩
    · rename_i ev1
      refine ⟨A, m, env, _, _, re, ev1, fun H1 n1 r1 => ?_⟩
      refine iteF ?_
      exact q H1 n1 r1
theorem bo_or {rest : List Expr} (sa : Snd S X a x) (h : Bools S X .Or pos (b :: rest) y) : Bools S X .Or pos (a :: b :: rest) (.or x y) := by
  refine ⟨(pe_or sa.pe h.pe).imp fun σ H Q ⟨A, m, env, d, env', re, ev, q⟩ => ?_, (pw_or sa.pt h.pw).imp fun σ H Q ⟨A, m, env, b, env', re, ev, q⟩ => ?_⟩
  · simp only [evE] at ev
    split at ev <;> (try cases ev)
    · rename_i ev1
      refine ⟨A, m, env, _, _, re, asB_some ev1, fun v H1 p1 => ?_⟩
      have := p1.rep
      simp only [Rep] at this
      refine ⟨true, this, ?_⟩
      rw [if_pos rfl]
      exact q _ H1 (.of p1.nx p1.re Rep.of_bl (.inl rfl))
    · rename_i e1 ev1
      refine ⟨A, m, env, _, e1, re, asB_some ev1, fun v H1 p1 => ?_⟩
      have := p1.rep
      simp only [Rep] at this
      refine ⟨false, this, ?_⟩
      rw [if_neg (by decide)]
      exact ⟨A, m, e1, d, env', p1.re, ev, fun v2 H2 p2 => q v2 H2 ⟨p1.nx.trans p2.nx, p2.re, p2.rep, fun a => nomatch a⟩⟩
  · have ev := asB_some ev
    simp only [evE] at ev
    split at ev <;> (try cases ev)
    · rename_i ev1
      refine ⟨A, m, env, _, _, re, ev1, fun H1 n1 r1 => ?_⟩
      refine iteT ?_
      exact q H1 n1 r1
    · rename_i e1 ev1
      refine ⟨A, m, env, _, e1, re, ev1, fun H1 n1 r1 => ?_⟩
      refine iteF ?_
      exact ⟨A, m, e1, b, env', r1, by rw [ev]; rfl, fun H2 n2 r2 => q H2 (n1.trans n2) r2⟩
theorem Bools.snd {op : BoolOp} (h : Bools S X op pos es c) (n : isOwn c = false) : Snd S X (.BoolOp op es pos) c := ⟨h.pe, pa_of n h.pe, h.pw.pt, fun z => nomatch z⟩
theorem nd_ite (s : Snd S X t z) (sa : Snd S X a x) (sb : Snd S X b y) : Snd S X (.IfExp t a b pos) (.ite z x y) := by
  have hp : PE X (.IfExp t a b pos) (tV S (.ite z x y)) := (pe_ifExp s.pt sa.pe sb.pe).imp fun σ H Q ⟨A, m, env, d, env', re, ev, q⟩ => by
    simp only [evE] at ev
    split at ev <;> (try cases ev)
    · rename_i e1 ev1
      refine ⟨A, m, env, _, e1, re, ev1, fun H1 n1 r1 => ?_⟩
      refine iteT ?_
      exact ⟨A, m, e1, d, env', r1, ev, fun v2 H2 p2 => q v2 H2 ⟨n1.trans p2.nx, p2.re, p2.rep, fun a b => by
        have : (frE S.C.F x && frE S.C.F y) = true := a
        rw [Bool.and_eq_true] at this
        obtain ⟨p, g1, g2, g3⟩ := p2.fr this.1 b
        exact ⟨p, g1, n1.free g2, g3⟩⟩⟩
    · rename_i e1 ev1
      refine ⟨A, m, env, _, e1, re, ev1, fun H1 n1 r1 => ?_⟩
      refine iteF ?_
      exact ⟨A, m, e1, d, env', r1, ev, fun v2 H2 p2 => q v2 H2 ⟨n1.trans p2.nx, p2.re, p2.rep, fun a b => by
        have : (frE S.C.F x && frE S.C.F y) = true := a
        rw [Bool.and_eq_true] at this
        obtain ⟨p, g1, g2, g3⟩ := p2.fr this.2 b
        exact ⟨p, g1, n1.free g2, g3⟩⟩⟩
  refine ⟨hp, pa_of rfl hp, ⟨fun pins s' σ H Q I w => ?_⟩, fun z => nomatch z⟩
  obtain ⟨A, m, env, b, env', re, ev, q⟩ := w
  have ev := asB_some ev
  simp only [evE] at ev
  refine isTrue_IfExp ?_
  split at ev <;> (try cases ev)
  · rename_i e1 ev1
    refine thn (s.pt.run pins s' σ H (fun bb H1 => bb = true ∧ tT S x σ H1 Q) I ⟨A, m, env, _, e1, re, ev1, fun H1 n1 r1 => ⟨rfl, A, m, e1, b, env', r1, by rw [ev]; rfl, fun H2 n2 r2 => q H2 (n1.trans n2) r2⟩⟩) ?_
    rintro cc s1 ⟨H1, I1, rfl, w1⟩
    exact sa.pt.run pins s1 σ H1 Q I1 w1
  · rename_i e1 ev1
    refine thn (s.pt.run pins s' σ H (fun bb H1 => bb = false ∧ tT S y σ H1 Q) I ⟨A, m, env, _, e1, re, ev1, fun H1 n1 r1 => ⟨rfl, A, m, e1, b, env', r1, by rw [ev]; rfl, fun H2 n2 r2 => q H2 (n1.trans n2) r2⟩⟩) ?_
    rintro cc s1 ⟨H1, I1, rfl, w1⟩
    exact sb.pt.run pins s1 σ H1 Q I1 w1
end
end
end Qx
set_option Elab.async false
set_option linter.all false
set_option maxRecDepth 100000
set_option maxHeartbeats 4000000
/-! QSnd3: built-ins, subscripts, methods. -/
namespace Qx
open PySem PySem.Spec PyProof.Rows L2

section
variable {G : Gd} {A : Slots} {m : AdP} {env : En} {σ : L2.St} {H : Hp}
theorem vws_of (re : RE G A m env σ H) : ∀ {as : List Qx.A} {vs : List V} {ds : List D}, AReps G A m H as vs → resAs env as = some ds → Vws G m H ds vs
  | _, _, _, .nil, e => by
    simp only [resAs] at e
    cases e
    exact .nil
  | _, _, _, .cons r rs, e => by
    simp only [resAs] at e
    rw [Option.bind_eq_some_iff] at e
    obtain ⟨d, e1, e2⟩ := e
    obtain ⟨ds, e3, e4⟩ := omap e2
    cases e4
    exact .cons (re.vw r e1) (vws_of re rs e3)
end
section
variable {S : Sx} {k : Nat} {sc : Scope} {X : Cx} {p pos : Pos} {e : Expr} {c : E} {es : List Expr} {cs : List E}
theorem bi_key {r : List V → Hp → VK → Prop} {b : Bi} (tl : TellsC S.G r (biD b)) (σ : L2.St) (H : Hp) (Q : VK) (w : tV S (.bi b cs) σ H Q) : tCB r (tAs S cs) σ H Q := by
  obtain ⟨A, m, env, d, env', re, ev, q⟩ := w
  simp only [evE] at ev
  obtain ⟨as, e1, ev1, ev⟩ := oR ev
  obtain ⟨ds, hd, ev⟩ := o1L ev
  obtain ⟨d', hb, ev⟩ := o1 ev
  cases ev
  refine ⟨A, m, env, as, _, re, ev1, fun vs H1 n1 r1 a1 => ?_⟩
  exact tl m H1 ds _ vs Q r1.live (vws_of r1 a1 hd) hb (post_gives r1 n1 q)
theorem nd_biB {b : Bi} {x : Str} {id : String} (hb : ∃ r, CallR X (.builtin id) r ∧ TellsC S.G r (biD b)) (gl : Gl X x) (hm : X.mg x = none) (hv : bootBuiltins x = some (.builtin id)) (hn : x ≠ "__name__") (hdb : (x == ("__debug__" : Str)) = false)
    (st : isStar e = false) (s : Snds S X (e :: es) cs) (pl : (backTo pos (starEach es X.env)).any (·.1) = false) : Snd S X (.Call (.Name x p) (e :: es) [] pos) (.bi b cs) := by
  obtain ⟨r, hc, tl⟩ := hb
  exact Snd.mk' rfl ((pe_callB hc gl hm hv s.as hn hdb (starEach_ok st) pl).imp (bi_key tl))
theorem nd_biT {b : Bi} {x : Str} {id : String} (hb : ∃ r, CallR X (.type id) r ∧ TellsC S.G r (biD b)) (gl : Gl X x) (hm : X.mg x = none) (hv : bootBuiltins x = some (.type id)) (hn : x ≠ "__name__") (hdb : (x == ("__debug__" : Str)) = false)
    (st : isStar e = false) (s : Snds S X (e :: es) cs) (pl : (backTo pos (starEach es X.env)).any (·.1) = false) : Snd S X (.Call (.Name x p) (e :: es) [] pos) (.bi b cs) := by
  obtain ⟨r, hc, tl⟩ := hb
  exact Snd.mk' rfl ((pe_callTy hc gl hm hv s.as hn hdb (starEach_ok st) pl).imp (bi_key tl))
theorem plain_all : ∀ {es : List Expr} {cs : List E} {pos : Pos}, Snds S X es cs → (backTo pos (starEach es X.env)).any (·.1) = false
  | _, _, _, .nil => rfl
  | _, _, pos, .cons st s r => by
    rw [starEach_ok st]
    show (false || (backTo pos (starEach _ X.env)).any (·.1)) = false
    rw [plain_all r]; rfl

/-! ### subscripts -/
section
variable {a b i : Expr} {x y z : E}
theorem nd_sub (h : Ct S k sc X) (sa : Snd S X a x) (si : Snd S X i y) (ok : isSlc i = false) : Snd S X (.Subscript a i pos) (.sub x y) := by
  have hu : X.A.units + 1 < cLine := by have := h.un; omega
  refine Snd.mk' rfl (PE.or (pe_ix (ix_list.or ix_tup) sa.pa si.pe (fun o i => sub_ok ok)) (pe_dget hu sa.pa si.pe (fun o i => sub_ok ok)) fun σ H Q ⟨A, m, env, d, env', re, ev, q⟩ => ?_)
  simp only [evE] at ev
  obtain ⟨u, e1, ev1, ev⟩ := oA ev
  obtain ⟨dk, e2, ev2, ev⟩ := oD ev
  obtain ⟨dx, hx, ev⟩ := o1 ev
  obtain ⟨d', hd, ev⟩ := o1 ev
  cases ev
  cases hh : isDct dx with
  | true =>
    refine .inr ⟨A, m, env, u, e1, re, ev1, fun v H1 n1 r1 a1 => ⟨A, m, e1, dk, _, r1, ev2, fun w H2 p2 => ?_⟩⟩
    obtain ⟨r, o, h1, h2, h3⟩ := sub_dct hh (p2.re.vw (a1.mono (r1.kp p2.nx)) hx) p2.rep hd
    exact ⟨r, o, h1, h2, q _ H2 (.of (n1.trans p2.nx) p2.re h3 (.inl rfl))⟩
  | false =>
    refine .inl ⟨A, m, env, u, e1, re, ev1, fun v H1 n1 r1 a1 => ⟨A, m, e1, dk, _, r1, ev2, fun w H2 p2 => ?_⟩⟩
    obtain ⟨r, h1, h2⟩ := sub_seq hh (p2.re.vw (a1.mono (r1.kp p2.nx)) hx) p2.rep hd
    rw [h.hK]
    exact h2 Q (q _ H2 (.of (n1.trans p2.nx) p2.re h1 (.inl rfl)))
/-- what stands at a bound of a slice -/
structure SndO (S : Sx) (X : Cx) (e : Option Expr) (c : E) : Prop where
  po : PO X e (fun σ H Q => ∃ A m env d o env', RE S.G A m env σ H ∧ evE S.Φ S.R c env = some (d, env') ∧ partD d = some o ∧ ∀ H', Nx A H H' → RE S.G A m env' σ H' → Q o H')
theorem po_imp {e : Option Expr} {t t' : TO} (h : PO X e t) (k : ∀ σ H Q, t' σ H Q → t σ H Q) : PO X e t' := ⟨fun pins s σ H Q I w => h.run pins s σ H Q I (k σ H Q w)⟩
theorem so_none : SndO S X none (.cst .non) := ⟨po_imp po_none fun σ H Q ⟨A, m, env, d, o, env', re, ev, hp, q⟩ => by
  simp only [evE] at ev
  cases ev
  cases hp
  exact q H .refl re⟩
theorem so_some (sa : Snd S X a x) : SndO S X (some a) x := ⟨po_imp (po_some2 sa.pe) fun σ H Q ⟨A, m, env, d, o, env', re, ev, hp, q⟩ => by
  refine ⟨A, m, env, d, env', re, ev, fun v H1 p1 => ?_⟩
  have hr := p1.rep
  cases d <;> simp only [partD] at hp <;> cases hp
  · simp only [Rep] at hr
    exact .inr ⟨hr, q H1 p1.nx p1.re⟩
  · simp only [Rep] at hr
    exact .inl ⟨_, hr, q H1 p1.nx p1.re⟩⟩
theorem nd_slc (h : Ct S k sc X) {lo hi : Option Expr} {p2 : Pos} (sa : Snd S X a x) (sl : SndO S X lo y) (su : SndO S X hi z) : Snd S X (.Subscript a (.Slice lo hi none p2) pos) (.slc x y z) :=
  Snd.mk' rfl ((pe_slice sl_cut sa.pa sl.po su.po).imp fun σ H Q ⟨A, m, env, d, env', re, ev, q⟩ => by
    simp only [evE] at ev
    obtain ⟨u, e1, ev1, ev⟩ := oA ev
    obtain ⟨dl, e2, ev2, ev⟩ := oD ev
    obtain ⟨dh, e3, ev3, ev⟩ := oD ev
    obtain ⟨dx, hx, ev⟩ := o1 ev
    obtain ⟨d', hd, ev⟩ := o1 ev
    cases ev
    have parts : ∃ o o', partD dl = some o ∧ partD dh = some o' := by
      cases dx <;> simp only [slcD] at hd <;> (try cases hd)
      all_goals
        obtain ⟨es, e0, _⟩ := omap hd
        unfold cutD at e0
        rw [Option.bind_eq_some_iff] at e0
        obtain ⟨l, e4, e5⟩ := e0
        obtain ⟨l2, e6, e7⟩ := omap e5
        obtain ⟨o, p1, _⟩ := bnd_part e4
        obtain ⟨o', p2, _⟩ := bnd_part e6
        exact ⟨o, o', p1, p2⟩
    obtain ⟨o, o', h1, h2⟩ := parts
    refine ⟨A, m, env, u, e1, re, ev1, fun v H1 n1 r1 a1 => ⟨A, m, e1, dl, o, e2, r1, ev2, h1, fun H2 n2 r2 => ⟨A, m, e2, dh, o', _, r2, ev3, h2, fun H3 n3 r3 => ?_⟩⟩⟩
    obtain ⟨l, l', g1, g2, g3⟩ := slc_vw r3.live (r3.vw (a1.mono (r1.kp (n2.trans n3))) hx) hd (post_gives (c := .slc x y z) (Q := Q) r3 (n1.trans (n2.trans n3)) q)
    rw [h1] at g1; cases g1
    rw [h2] at g2; cases g2
    rw [h.hK]
    exact g3)
theorem nd_rev (h : Ct S k sc X) {lo : Option Expr} {kk : Nat} {p1 p2 p3 : Pos} (sa : Snd S X a x) (sl : SndO S X lo y) : Snd S X (.Subscript a (.Slice lo none (some (.UnaryOp .USub (.Constant (.int 1) kk p1) p2)) p3) pos) (.rev x y) :=
  Snd.mk' rfl ((pe_back sa.pa sl.po).imp fun σ H Q ⟨A, m, env, d, env', re, ev, q⟩ => by
    simp only [evE] at ev
    obtain ⟨u, e1, ev1, ev⟩ := oA ev
    obtain ⟨dl, e2, ev2, ev⟩ := oD ev
    obtain ⟨dx, hx, ev⟩ := o1 ev
    obtain ⟨d', hd, ev⟩ := o1 ev
    cases ev
    have parts : ∃ o, partD dl = some o := by
      unfold revD at hd
      split at hd <;> (try cases hd)
      · exact ⟨_, rfl⟩
      · exact ⟨_, rfl⟩
      · exact ⟨_, rfl⟩
    obtain ⟨o, h1⟩ := parts
    refine ⟨A, m, env, u, e1, re, ev1, fun v H1 n1 r1 a1 => ⟨A, m, e1, dl, o, _, r1, ev2, h1, fun H2 n2 r2 => ?_⟩⟩
    obtain ⟨l, g1, g3⟩ := rev_vw r2.live (r2.vw (a1.mono (r1.kp n2)) hx) hd (post_gives (c := .rev x y) (Q := Q) r2 (n1.trans n2) q)
    rw [h1] at g1; cases g1
    rw [h.hK]
    exact g3)

/-! ### ranges -/
theorem lrB_int {dx d : D} (h : lrB dx = some d) : ∃ n : Int, dx = .int n ∧ (-(2 ^ 62) ≤ n ∧ n ≤ SZ) ∧ d = .lst ((List.range n.toNat).map fun (i : Nat) => D.int i) := by
  unfold lrB at h
  split at h
  · obtain ⟨h1, h2⟩ := oi h
    cases h2
    exact ⟨_, rfl, h1, rfl⟩
  · cases h
theorem trB_int {dx d : D} (h : trB dx = some d) : ∃ n : Int, dx = .int n ∧ (-(2 ^ 62) ≤ n ∧ n ≤ SZ) ∧ d = .tup ((List.range n.toNat).map fun (i : Nat) => D.int i) := by
  unfold trB at h
  split at h
  · obtain ⟨h1, h2⟩ := oi h
    cases h2
    exact ⟨_, rfl, h1, rfl⟩
  · cases h
theorem bi1_ev {b : Bi} {f : D → Option D} (hb : biD b = d1 f) {env env' : En} {d : D} (ev : evE S.Φ S.R (.bi b [x]) env = some (d, env')) : ∃ u dx, opE x (evE S.Φ S.R x) env = some (u, env') ∧ resA env' u = some dx ∧ f dx = some d := by
  simp only [evE, evAs] at ev
  obtain ⟨as, e1, ev1, ev⟩ := oR ev
  obtain ⟨ds, hd, ev⟩ := o1L ev
  obtain ⟨d', hb', ev⟩ := o1 ev
  cases ev
  obtain ⟨u, e2, ev2, ev3⟩ := oA ev1
  cases ev3
  simp only [resAs] at hd
  rw [Option.bind_eq_some_iff] at hd
  obtain ⟨dx, h1, h2⟩ := hd
  cases h2
  rw [hb] at hb'
  simp only [d1] at hb'
  exact ⟨u, dx, ev2, h1, hb'⟩
theorem nd_lrg (h : Ct S k sc X) {p1 p2 : Pos} (sa : Snd S X a x) (st : isStar a = false) (gl : Gl X "list") (hm : X.mg "list" = none) (gr : Gl X "range") (hr : X.mg "range" = none) :
    Snd S X (.Call (.Name "list" p1) [.Call (.Name "range" p) [a] [] p2] [] pos) (.bi .lrange [x]) :=
  Snd.mk' rfl ((pe_listRg h.calm gl hm (prg_1 gr hr sa.pa (starEach_ok st))).imp fun σ H Q ⟨A, m, env, d, env', re, ev, q⟩ => by
    obtain ⟨u, dx, ev2, h1, hb⟩ := bi1_ev rfl ev
    obtain ⟨n, rfl, hn, rfl⟩ := lrB_int hb
    refine ⟨A, m, env, u, _, re, ev2, fun v H1 n1 r1 a1 => ?_⟩
    exact ⟨n, (r1.vw a1 h1).int, rgOk_of hn.1 hn.2, (post_gives r1 n1 q).lst r1.live (rg_vw n)⟩)
theorem nd_trg (h : Ct S k sc X) {p1 p2 : Pos} (sa : Snd S X a x) (st : isStar a = false) (gl : Gl X "tuple") (hm : X.mg "tuple" = none) (gr : Gl X "range") (hr : X.mg "range" = none) :
    Snd S X (.Call (.Name "tuple" p1) [.Call (.Name "range" p) [a] [] p2] [] pos) (.bi .trange [x]) :=
  Snd.mk' rfl ((pe_tupRgX h.calm gl hm (prg_1 gr hr sa.pa (starEach_ok st))).imp fun σ H Q ⟨A, m, env, d, env', re, ev, q⟩ => by
    obtain ⟨u, dx, ev2, h1, hb⟩ := bi1_ev rfl ev
    obtain ⟨n, rfl, hn, rfl⟩ := trB_int hb
    refine ⟨A, m, env, u, _, re, ev2, fun v H1 n1 r1 a1 => ?_⟩
    exact ⟨n, (r1.vw a1 h1).int, rgOk_of hn.1 hn.2, (post_gives r1 n1 q).tup r1.live (rg_vw n)⟩)

/-! ### isinstance -/
theorem isi_key {r : List V → Hp → VK → Prop} {tt : TE} {ts : List Ty} (ht : ∀ (σ : L2.St) (H : Hp) (A : Slots) (m : AdP) (env : En) (d kk : D) (v : V) (Q : VK), RE S.G A m env σ H → Vw S.G m H d v → isaD d ts = some kk → Q = Q → (∀ H', Ex H H' → ∀ w b, kk = .bl b → w = V.bl b → Q w H') →
      tt σ H fun y H1 => tNil σ H1 fun ys H2 => r (v :: y :: ys) H2 Q) (σ : L2.St) (H : Hp) (Q : VK) (w : tV S (.isi x ts) σ H Q) : tCB r (tCons (tA S x) (tCons tt tNil)) σ H Q := by
  obtain ⟨A, m, env, d, env', re, ev, q⟩ := w
  simp only [evE] at ev
  obtain ⟨u, e1, ev1, ev⟩ := oA ev
  obtain ⟨dx, hx, ev⟩ := o1 ev
  obtain ⟨kk, hk, ev⟩ := o1 ev
  cases ev
  refine ⟨A, m, env, u, _, re, ev1, fun v H1 n1 r1 a1 => ?_⟩
  refine ht σ H1 A m _ dx _ v Q r1 (r1.vw a1 hx) hk rfl fun H2 ex w b e1 e2 => ?_
  subst e1 e2
  exact q _ H2 (.of (n1.trans ex.nx) (r1.ex ex) Rep.of_bl (.inl rfl))
theorem nd_isi1 (h : Ct S k sc X) {t : Ty} {tn : Str} {p1 p2 : Pos} (sa : Snd S X a x) (st : isStar a = false) (gl : Gl X "isinstance") (hm : X.mg "isinstance" = none) (gt : Gl X tn) (hmt : X.mg tn = none) (hv : bootBuiltins tn = some (.type (tyN t))) (hn : tn ≠ "__name__") (hd : (tn == ("__debug__" : Str)) = false) :
    Snd S X (.Call (.Name "isinstance" p1) [a, .Name tn p2] [] pos) (.isi x [t]) :=
  Snd.mk' rfl ((pe_callB (id := "isinstance") call_isi gl hm (by decide +kernel) (pa_cons sa.pa (pa_cons (pe_bltn (v := .ty (tyN t)) gt hmt hv rfl hn hd) pa_nil) (starEach_ok st)) (by decide) (by decide) (starEach_ok st) rfl).imp (isi_key fun σ H A m env d kk v Q re hvw hk _ q => by
    obtain ⟨nf, rfl⟩ := isa_noFn hk
    refine ⟨v, .ty (tyN t), .type (tyS d), .type (tyN t), _, rfl, .ty _, h.hK ▸ ty_vw hvw nf, kit_ty (kit_all d t nf), ?_⟩
    refine q H Ex.refl _ _ rfl ?_
    simp))
theorem nd_isiT (h : Ct S k sc X) {ts : List Ty} {te : Expr} {p1 : Pos} (sa : Snd S X a x) (st : isStar a = false) (st2 : isStar te = false) (gl : Gl X "isinstance") (hm : X.mg "isinstance" = none)
    (ht : PE X te (fun _ H Q => ∀ p, H p = none → Q (.ref p) (upd H p (.tup (ts.map fun t => V.ty (tyN t)))))) :
    Snd S X (.Call (.Name "isinstance" p1) [a, te] [] pos) (.isi x ts) :=
  Snd.mk' rfl ((pe_callB (id := "isinstance") call_isiT gl hm (by decide +kernel) (pa_cons sa.pa (pa_cons ht pa_nil (starEach_ok st2)) (starEach_ok st)) (by decide) (by decide) (starEach_ok st) (by
      rw [starEach_ok st2]; rfl)).imp (isi_key fun σ H A m env d kk v Q re hvw hk _ q => by
    obtain ⟨nf, rfl⟩ := isa_noFn hk
    refine fun p hp => ?_
    have hvw' : Vw S.G m (upd H p (.tup (ts.map fun t => V.ty (tyN t)))) d v := by
      rcases hvw with z | ⟨a', rfl, z⟩
      · exact .inl (z.mono (Ex.laid hp).kp)
      · exact .inr ⟨a', rfl, z.mono (Ex.laid hp).kp fun o g => Ex.laid hp _ _ g⟩
    exact ⟨v, p, _, .type (tyS d), _, _, rfl, upd_same, cls_all ts, h.hK ▸ ty_vw hvw' nf, kit_any nf ts, q _ (Ex.laid hp) _ _ rfl rfl⟩))
end
end
end Qx
set_option Elab.async false
set_option linter.all false
set_option maxRecDepth 100000
set_option maxHeartbeats 4000000
/-! QSnd4: methods, dict displays. -/
namespace Qx
open PySem PySem.Spec PyProof.Rows L2

section
variable {G : Gd} {A : Slots} {m : AdP} {env : En} {σ : L2.St} {H : Hp}
/-- the thing of an owned slot is changed -/
theorem RE.upd {i : Nat} {a : Addr} {o : HO} {d : D} (r : RE G A m env σ H) (hi : i < env.length) (ha : A i = some a) (hs : σ[i]? = some (some (V.ref a))) (ho : OwnAt G m (upd H a o) a d) : RE G A m (env.set i (.own d)) σ (upd H a o) := by
  have hm := r.mem i a ha
  have kp : Kp m m H (L2.upd H a o) := ⟨fun b u e n => by rw [upd_ne (fun z => n (by rw [z]; exact hm))]; exact e, fun _ z => .inl z⟩
  refine ⟨by rw [List.length_set]; exact r.len, fun j d' e => ?_, fun j d' e => ?_, r.inj, r.mem, fun b z => ?_⟩
  · by_cases c : i = j
    · subst c
      rw [List.getElem?_set_self hi] at e
      cases e
    · rw [List.getElem?_set_ne c] at e
      obtain ⟨v, h1, h2⟩ := r.val j d' e
      exact ⟨v, h1, h2.mono kp⟩
  · by_cases c : i = j
    · subst c
      rw [List.getElem?_set_self hi] at e
      cases e
      exact ⟨a, ha, hs, ho⟩
    · rw [List.getElem?_set_ne c] at e
      obtain ⟨b, h1, h2, h3⟩ := r.own j d' e
      have nb : b ≠ a := fun z => c (r.inj i j a ha (z ▸ h1))
      exact ⟨b, h1, h2, h3.mono kp fun u g => by rw [upd_ne nb]; exact g⟩
  · by_cases c : b = a
    · rw [c, upd_same]; exact fun z => nomatch z
    · rw [upd_ne c]; exact r.live b z
theorem Nx.upd {i : Nat} {a : Addr} {o : HO} (ha : A i = some a) : Nx A H (upd H a o) :=
  ⟨fun b u e n => by rw [upd_ne (fun z => n i (by rw [z]; exact ha))]; exact e, fun b e => by
    by_cases c : b = a
    · rw [c, upd_same]; exact fun z => nomatch z
    · rw [upd_ne c]; exact e⟩
theorem getO_lt {i : Nat} {d : D} (h : getO env i = some d) : i < env.length := by
  have := getO_some h
  exact (List.getElem?_eq_some_iff.mp this).1
end
section
variable {S : Sx} {k : Nat} {sc : Scope} {X : Cx} {pos apos : Pos} {e : Expr} {c : E} {es : List Expr} {cs : List E}
theorem mm_key {mt : Mm} {i : Nat} {r : V → List V → Hp → VK → Prop} (hK : X.K = S.G.K)
    (hr : ∀ {m : AdP} {H : Hp} {a : Addr} {xs vs : List V} {ds es : List D} {rr d' : D} {Q : VK}, H a = some (.lst xs) → Reps S.G m H ds xs → Reps S.G m H es vs → mmD mt (.lst ds) es = some (rr, d') → MGives S.G m H a rr d' Q → r (.ref a) vs H Q)
    (hl : ∀ {d d' rr : D} {es : List D}, mmD mt d es = some (rr, d') → (∃ ds, d = .lst ds) ∧ ∃ ds', d' = .lst ds')
    (σ : L2.St) (H : Hp) (Q : VK) (w : tV S (.mm mt i cs) σ H Q) :
    tA S (.own i) σ H fun x H1 => tyV X.K "list" x H1 ∧ tVs S cs σ H1 fun xs H2 => r x xs H2 Q := by
  obtain ⟨A, m, env, d, env', re, ev, q⟩ := w
  simp only [evE] at ev
  split at ev <;> (try cases ev)
  rename_i ds0 h0
  obtain ⟨ds, e1, ev1, ev⟩ := oL ev
  obtain ⟨d1, h1, ev⟩ := o1 ev
  obtain ⟨rr, d', h2, ev⟩ := oP ev
  cases ev
  refine ⟨A, m, env, .o i, env, re, ?_, fun v H1 n1 r1 a1 => ?_⟩
  · simp only [opE]
    rw [if_pos (by unfold isO; rw [getO_some h0])]
  · obtain ⟨a, ha, rfl⟩ := a1
    obtain ⟨a', ha', hs, ho⟩ := r1.own i _ (getO_some h0)
    rw [ha] at ha'; cases ha'
    obtain ⟨ys, g1, g2⟩ := ho
    refine ⟨.inl ⟨rfl, ys, .inl (.inl g1)⟩, A, m, env, ds, e1, r1, ev1, fun vs H2 n2 r2 a2 => ?_⟩
    obtain ⟨a', ha', hs, ho⟩ := r2.own i _ (getO_some h1)
    rw [ha] at ha'; cases ha'
    obtain ⟨⟨ds2, rfl⟩, ds3, rfl⟩ := hl h2
    obtain ⟨zs, k1, k2⟩ := ho
    refine hr k1 k2 a2 h2 fun v ds' xs' e3 rv rs => ?_
    cases e3
    have kp : Kp m m H2 (upd H2 a (.lst xs')) := ⟨fun b u e n => by rw [upd_ne (fun z => n (by rw [z]; exact r2.mem i a ha))]; exact e, fun _ z => .inl z⟩
    have re3 : RE S.G A m (e1.set i (.own (.lst ds3))) σ (upd H2 a (.lst xs')) := r2.upd (getO_lt h1) ha hs ⟨_, upd_same, rs.mono kp⟩
    exact q _ _ (.of (n1.trans (n2.trans (Nx.upd ha))) re3 (rv.mono kp) (.inl rfl))
theorem app_l {d d' rr : D} {es : List D} (h : appM d es = some (rr, d')) : (∃ ds, d = .lst ds) ∧ ∃ ds', d' = .lst ds' := by
  unfold appM at h
  split at h
  · obtain ⟨_, h⟩ := oi h; cases h; exact ⟨⟨_, rfl⟩, _, rfl⟩
  · cases h
theorem pop0_l {d d' rr : D} {es : List D} (h : pop0M d es = some (rr, d')) : (∃ ds, d = .lst ds) ∧ ∃ ds', d' = .lst ds' := by
  unfold pop0M at h
  split at h
  · obtain ⟨_, _, h⟩ := omap h; cases h; exact ⟨⟨_, rfl⟩, _, rfl⟩
  · cases h
theorem pop1_l {d d' rr : D} {es : List D} (h : pop1M d es = some (rr, d')) : (∃ ds, d = .lst ds) ∧ ∃ ds', d' = .lst ds' := by
  unfold pop1M at h
  split at h
  · obtain ⟨_, h⟩ := oi h
    obtain ⟨_, _, h⟩ := omap h
    cases h; exact ⟨⟨_, rfl⟩, _, rfl⟩
  · cases h
theorem few_ok {env : Env} (st : isStar e = false) : ((backTo pos (starEach [e] env)).all (fun x => !x.1) && (backToKw pos (keywordEach [] env)).all (fun x => x.1.isSome)
      && decide (([e] : List Expr).length + ([] : List Keyword).length + (if ([] : List Keyword).isEmpty then 0 else 1) < 30)) = true := by
  rw [starEach_ok st]; rfl
theorem nd_app (h : Ct S k sc X) {x : Str} {p : Pos} {i : Nat} (so : PE X (.Name x p) (tA S (.own i))) (sa : Snd S X e c) (st : isStar e = false) (ln : (apos.endLine == pos.line) = true) :
    Snd S X (.Call (.Attribute (.Name x p) "append" apos) [e] [] pos) (.mm .append i [c]) :=
  Snd.mk' rfl ((pe_bm PySem.F.plainAttrs_list PySem.F.slot_list_append PySem.F.type_list_append mt_append so (Snds.cons st sa .nil).vs (by rfl) (few_ok st) ln (starEach_ok st) rfl).imp (mm_key h.hK app_vw app_l))
theorem nd_pop1 (h : Ct S k sc X) {x : Str} {p : Pos} {i : Nat} (so : PE X (.Name x p) (tA S (.own i))) (sa : Snd S X e c) (st : isStar e = false) (ln : (apos.endLine == pos.line) = true) :
    Snd S X (.Call (.Attribute (.Name x p) "pop" apos) [e] [] pos) (.mm .pop1 i [c]) :=
  Snd.mk' rfl ((pe_bm PySem.F.plainAttrs_list PySem.F.slot_list_pop PySem.F.type_list_pop mt_popAt so (Snds.cons st sa .nil).vs (by rfl) (few_ok st) ln (starEach_ok st) rfl).imp (mm_key h.hK pop1_vw pop1_l))
theorem nd_pop0 (h : Ct S k sc X) {x : Str} {p : Pos} {i : Nat} (so : PE X (.Name x p) (tA S (.own i))) (ln : (apos.endLine == pos.line) = true) :
    Snd S X (.Call (.Attribute (.Name x p) "pop" apos) [] [] pos) (.mm .pop0 i []) :=
  Snd.mk' rfl ((pe_bm0 PySem.F.plainAttrs_list PySem.F.slot_list_pop PySem.F.type_list_pop mt_pop so (by rfl) ln).imp fun σ H Q w => by
    obtain ⟨A, m, env, a, env', re, ev, q⟩ := mm_key (mt := .pop0) (r := rPop) h.hK pop0_vw pop0_l σ H Q w
    refine ⟨A, m, env, a, env', re, ev, fun v H1 n1 r1 a1 => ?_⟩
    obtain ⟨g1, g2⟩ := q v H1 n1 r1 a1
    refine ⟨g1, ?_⟩
    obtain ⟨A, m, env, ds, env', re, ev, q⟩ := g2
    simp only [evEs] at ev
    cases ev
    exact q [] H1 .refl re .nil)

/-! ### get -/
theorem isDctA_some {env : En} {a : Qx.A} (h : isDctA env a = true) : ∃ t ks vs, resA env a = some (.dct t ks vs) := by
  unfold isDctA at h
  split at h
  · rename_i t ks vs e; exact ⟨t, ks, vs, e⟩
  · cases h
theorem isD_vw {G : Gd} {m : AdP} {H : Hp} {t : Bool} {ks vs : List D} {v : V} (h : Vw G m H (.dct t ks vs) v) : ∃ a, v = .ref a ∧ IsD H a := by
  cases t with
  | false => obtain ⟨a, kvs, rfl, h1, _⟩ := h.dctK; exact ⟨a, rfl, .inl ⟨kvs, h1⟩⟩
  | true => obtain ⟨a, kvs, rfl, h1, _⟩ := h.dctT; exact ⟨a, rfl, .inr ⟨kvs, h1⟩⟩
section
variable {o f : Expr} {x y z : E}
theorem nd_get1 (h : Ct S k sc X) (so : Snd S X o x) (sa : Snd S X e y) (no : isSup o = false) (st : isStar e = false) (ln : (apos.endLine == pos.line) = true) :
    Snd S X (.Call (.Attribute o "get" apos) [e] [] pos) (.mp .get1 x [y]) := by
  have hu : X.A.units + 1 < cLine := by have := h.un; omega
  refine Snd.mk' rfl ((pe_dget1 hu so.pa sa.pe ⟨base_ok no, few_ok st, ln, by rw [starEach_ok st]; rfl⟩).imp fun σ H Q ⟨A, m, env, d, env', re, ev, q⟩ => ?_)
  simp only [evE, evEs] at ev
  obtain ⟨u, e1, ev1, ev⟩ := oA ev
  obtain ⟨h0, ev⟩ := oi ev
  obtain ⟨ds, e2, ev2, ev⟩ := oL ev
  obtain ⟨dx, hx, ev⟩ := o1 ev
  obtain ⟨r, hd, ev⟩ := o1 ev
  cases ev
  obtain ⟨dk, e3, ev3, ev2⟩ := oD ev2
  cases ev2
  simp only [mpD] at hd
  unfold get1M at hd
  split at hd
  · rename_i t ks vs kk e0
    cases e0
    obtain ⟨hk, hd⟩ := oi hd
    cases hd
    refine ⟨A, m, env, u, e1, re, ev1, fun v H1 n1 r1 a1 => ?_⟩
    obtain ⟨t0, ks0, vs0, g0⟩ := isDctA_some h0
    obtain ⟨a, rfl, ia⟩ := isD_vw (r1.vw a1 g0)
    refine ⟨a, rfl, ia, A, m, e1, dk, _, r1, ev3, fun w H2 p2 => ?_⟩
    obtain ⟨a', o', g1, g2, g3, _⟩ := dget_vw (p2.re.vw (a1.mono (r1.kp p2.nx)) hx) (.inl p2.rep) hk
    cases g1
    exact ⟨o', g2, q _ H2 (.of (n1.trans p2.nx) p2.re (g3.getD Rep.of_non) (.inl rfl))⟩
  · cases hd
theorem nd_get2 (h : Ct S k sc X) (so : Snd S X o x) (sa : Snd S X e y) (sf : Snd S X f z) (no : isSup o = false) (st : isStar e = false) (st2 : isStar f = false) (ln : (apos.endLine == pos.line) = true) :
    Snd S X (.Call (.Attribute o "get" apos) [e, f] [] pos) (.mp .get2 x [y, z]) := by
  have hu : X.A.units + 1 < cLine := by have := h.un; omega
  refine Snd.mk' rfl ((pe_dget2 hu so.pa sa.pe sf.pe ⟨base_ok no, by rw [starEach_ok st, starEach_ok st2]; rfl, ln, by rw [starEach_ok st, starEach_ok st2]; rfl⟩).imp fun σ H Q ⟨A, m, env, d, env', re, ev, q⟩ => ?_)
  simp only [evE, evEs] at ev
  obtain ⟨u, e1, ev1, ev⟩ := oA ev
  obtain ⟨h0, ev⟩ := oi ev
  obtain ⟨ds, e2, ev2, ev⟩ := oL ev
  obtain ⟨dx, hx, ev⟩ := o1 ev
  obtain ⟨r, hd, ev⟩ := o1 ev
  cases ev
  obtain ⟨dk, e3, ev3, ev2⟩ := oD ev2
  obtain ⟨dl, e4, ev4, ev2⟩ := oL ev2
  cases ev2
  obtain ⟨dz, e5, ev5, ev6⟩ := oD ev4
  cases ev6
  simp only [mpD] at hd
  unfold get2M at hd
  split at hd
  · rename_i t ks vs kk xx e0
    cases e0
    obtain ⟨hk, hd⟩ := oi hd
    cases hd
    refine ⟨A, m, env, u, e1, re, ev1, fun v H1 n1 r1 a1 => ?_⟩
    obtain ⟨t0, ks0, vs0, g0⟩ := isDctA_some h0
    obtain ⟨a, rfl, ia⟩ := isD_vw (r1.vw a1 g0)
    refine ⟨a, rfl, ia, A, m, e1, dk, _, r1, ev3, fun w H2 p2 => ⟨A, m, _, dz, _, p2.re, ev5, fun w2 H3 p3 => ?_⟩⟩
    obtain ⟨a', o', g1, g2, g3, _⟩ := dget_vw (p3.re.vw (a1.mono (r1.kp (p2.nx.trans p3.nx))) hx) (.inl (p2.rep.mono (p2.re.kp p3.nx))) hk
    cases g1
    exact ⟨o', g2, q _ H3 (.of (n1.trans (p2.nx.trans p3.nx)) p3.re (g3.getD p3.rep) (.inl rfl))⟩
  · cases hd
end
end
end Qx
set_option Elab.async false
set_option linter.all false
set_option maxRecDepth 100000
set_option maxHeartbeats 4000000
/-! QSnd5: dict displays. -/
namespace Qx
open PySem PySem.Spec PyProof.Rows L2

section
variable {G : Gd} {m m' : AdP} {H : Hp} {A : Slots} {env : En} {σ : L2.St} {p : Addr} {o : HO}
theorem Kp.chg (h : m p) : Kp m m H (upd H p o) := ⟨fun b u e n => by rw [upd_ne (fun z => n (by rw [z]; exact h))]; exact e, fun _ z => .inl z⟩
/-- a marked thing that no slot owns is changed -/
theorem RE.chg (r : RE G A m env σ H) (h : m p) (nA : ∀ i, A i ≠ some p) : RE G A m env σ (L2.upd H p o) :=
  ⟨r.len, fun i d e => let ⟨v, h1, h2⟩ := r.val i d e; ⟨v, h1, h2.mono (Kp.chg h)⟩,
   fun i d e => let ⟨a, h1, h2, h3⟩ := r.own i d e; ⟨a, h1, h2, h3.mono (Kp.chg h) fun u g => by rw [upd_ne (fun z => nA i (by rw [← z]; exact h1))]; exact g⟩, r.inj, r.mem,
   fun b z => by
    by_cases c : b = p
    · rw [c, upd_same]; exact fun z => nomatch z
    · rw [upd_ne c]; exact r.live b z⟩
theorem RE.wk (r : RE G A m' env σ H) (h : ∀ a, m a → m' a) (hm : ∀ i a, A i = some a → m a) : RE G A m env σ H :=
  ⟨r.len, fun i d e => let ⟨v, h1, h2⟩ := r.val i d e; ⟨v, h1, h2.mono (Kp.weak h)⟩,
   fun i d e => let ⟨a, h1, h2, h3⟩ := r.own i d e; ⟨a, h1, h2, h3.weak h⟩, r.inj, hm, fun b z => r.live b (h b z)⟩
end
section
variable {S : Sx} {k : Nat} {sc : Scope} {X : Cx} {pos : Pos}
theorem nd_dct0 {t : Bool} : Snd S X (.Dict [] [] pos) (.dct t []) := by
  cases t with
  | false =>
    refine Snd.mk' rfl (pe_dnewK.imp fun σ H Q ⟨A, m, env, d, env', re, ev, q⟩ => fun p hp => ?_)
    simp only [evE, evEs] at ev
    have ev : some (D.dct false [] [], env) = some (d, env') := ev
    cases ev
    have ho : OwnAt S.G (ad m p) (upd H p (.dK [])) p (.dct false [] []) := ⟨[], upd_same, rfl, .nil⟩
    have np : ¬ m p := fun z => re.live p z hp
    exact q _ _ ⟨Nx.laid hp, re.laid hp, (ho.weak fun a z => .inr z).rep np, fun _ _ => ⟨p, rfl, hp, re.add hp, ho⟩⟩
  | true =>
    refine Snd.mk' rfl (pe_dnewT.imp fun σ H Q ⟨A, m, env, d, env', re, ev, q⟩ => fun p hp => ?_)
    simp only [evE, evEs] at ev
    have ev : some (D.dct true [] [], env) = some (d, env') := ev
    cases ev
    have ho : OwnAt S.G (ad m p) (upd H p (.dT [])) p (.dct true [] []) := ⟨[], upd_same, rfl, .nil⟩
    have np : ¬ m p := fun z => re.live p z hp
    exact q _ _ ⟨Nx.laid hp, re.laid hp, (ho.weak fun a z => .inr z).rep np, fun _ _ => ⟨p, rfl, hp, re.add hp, ho⟩⟩
inductive Prs (S : Sx) (X : Cx) : List (Option Expr) → List Expr → List E → Prop
  | nil : Prs S X [] [] []
  | cons {e f : Expr} {x y : E} {ks : List (Option Expr)} {vs : List Expr} {cs : List E} : Snd S X e x → Snd S X f y → Prs S X ks vs cs → Prs S X (some e :: ks) (f :: vs) (x :: y :: cs)
def trsOf (S : Sx) : List E → List (TE × TE)
  | x :: y :: r => (tV S x, tV S y) :: trsOf S r
  | _ => []
theorem Prs.pps {ks : List (Option Expr)} {vs : List Expr} {cs : List E} (h : Prs S X ks vs cs) : PPs X pos ks vs (trsOf S cs) := by
  induction h with
  | nil => exact pps_nil
  | cons a b _ ih => exact pps_cons a.pe b.pe ih
theorem Prs.all {ks : List (Option Expr)} {vs : List Expr} {cs : List E} (h : Prs S X ks vs cs) : ks.all (·.isSome) = true ∧ ks.length = vs.length := by
  induction h with
  | nil => exact ⟨rfl, rfl⟩
  | cons a b _ ih => exact ⟨by simpa using ih.1, by simpa using ih.2⟩
theorem Prs.evn {ks : List (Option Expr)} {vs : List Expr} {cs : List E} (h : Prs S X ks vs cs) : ∀ {env env' : En} {ds : List D}, evEs S.Φ S.R cs env = some (ds, env') → (evens ds).length = ks.length ∧ (odds ds).length = ks.length := by
  induction h with
  | nil => intro env env' ds ev; simp only [evEs] at ev; cases ev; exact ⟨rfl, rfl⟩
  | cons a b _ ih =>
    intro env env' ds ev
    simp only [evEs] at ev
    obtain ⟨d1, e1, ev1, ev⟩ := oD ev
    obtain ⟨d2, e2, ev2, ev⟩ := oL ev
    cases ev
    obtain ⟨d3, e3, ev3, ev2⟩ := oD ev2
    obtain ⟨d4, e4, ev4, ev2⟩ := oL ev2
    cases ev2
    have := ih ev4
    exact ⟨by simp only [evens, List.length_cons]; rw [this.1], by simp only [odds, List.length_cons]; rw [this.2]⟩
theorem Prs.run {ks : List (Option Expr)} {vs : List Expr} {cs : List E} (h : Prs S X ks vs cs) : ∀ (σ : L2.St) (H : Hp) (Q : List (V × V) → Hp → Prop) (A : Slots) (m : AdP) (env env' : En) (ds : List D), RE S.G A m env σ H → evEs S.Φ S.R cs env = some (ds, env') →
    (∀ ps H', Nx A H H' → RE S.G A m env' σ H' → Reps S.G m H' (evens ds) (ps.map (·.1)) → Reps S.G m H' (odds ds) (ps.map (·.2)) → Q ps H') → tPairs (trsOf S cs) σ H Q := by
  induction h with
  | nil =>
    intro σ H Q A m env env' ds re ev q
    simp only [evEs] at ev
    cases ev
    exact q [] H .refl re .nil .nil
  | cons a b _ ih =>
    intro σ H Q A m env env' ds re ev q
    simp only [evEs] at ev
    obtain ⟨d1, e1, ev1, ev⟩ := oD ev
    obtain ⟨d2, e2, ev2, ev⟩ := oL ev
    cases ev
    obtain ⟨d3, e3, ev3, ev2⟩ := oD ev2
    obtain ⟨d4, e4, ev4, ev2⟩ := oL ev2
    cases ev2
    refine ⟨A, m, env, d1, e1, re, ev1, fun v H1 p1 => ⟨A, m, e1, d3, e3, p1.re, ev3, fun w H2 p2 => ?_⟩⟩
    refine ih σ H2 _ A m e3 _ d4 p2.re ev4 fun ps H3 n3 r3 g1 g2 => ?_
    refine q _ H3 (p1.nx.trans (p2.nx.trans n3)) r3 ?_ ?_
    · simp only [evens, List.map_cons]
      exact .cons (p1.rep.mono (p1.re.kp (p2.nx.trans n3))) g1
    · simp only [odds, List.map_cons]
      exact .cons (p2.rep.mono (p2.re.kp n3)) g2
theorem kvs_of {G : Gd} {m : AdP} {H : Hp} : ∀ {ds es : List D} {ps : List (V × V)}, ds.all (keyOk false) = true → Reps G m H ds (ps.map (·.1)) → Reps G m H es (ps.map (·.2)) →
    ∃ kvs : List (Key × V), ps = kvs.map (fun kv => (kV kv.1, kv.2)) ∧ ds = kvs.map (fun kv => dK kv.1) ∧ Reps G m H es (kvs.map (·.2))
  | [], es, [], _, _, h => ⟨[], rfl, rfl, h⟩
  | [], es, p :: ps, _, h, _ => by have := h.length; simp at this
  | d :: ds, es, [], _, h, _ => by have := h.length; simp at this
  | d :: ds, [], p :: ps, _, _, h => by have := h.length; simp at this
  | d :: ds, e :: es, p :: ps, ok, h, h' => by
    simp only [List.all_cons, Bool.and_eq_true] at ok
    rw [List.map_cons] at h h'
    obtain ⟨v, vs, ee, h1, h2⟩ := h.inv
    cases ee
    obtain ⟨w, ws, ee, h3, h4⟩ := h'.inv
    cases ee
    obtain ⟨q, rfl⟩ := key_of_ok ok.1
    obtain ⟨kvs, g1, g2, g3⟩ := kvs_of ok.2 h2 h4
    refine ⟨(q, p.2) :: kvs, ?_, by rw [List.map_cons, g2], .cons h3 g3⟩
    rw [List.map_cons, ← g1]
    have := h1.dK
    rw [← this]
theorem fold_put {G : Gd} {m : AdP} {H : Hp} : ∀ {kvs kvs0 : List (Key × V)} {es vs : List D}, Reps G m H es (kvs.map (·.2)) → Reps G m H vs (kvs0.map (·.2)) →
    (foldPut (kvs0.map fun p => dK p.1) vs (kvs.map fun p => dK p.1) es).1 = ((mergeK kvs0 kvs).map fun p => dK p.1) ∧ Reps G m H (foldPut (kvs0.map fun p => dK p.1) vs (kvs.map fun p => dK p.1) es).2 ((mergeK kvs0 kvs).map (·.2))
  | [], kvs0, es, vs, h, h0 => by
    simp only [List.map_nil, foldPut]
    exact ⟨rfl, h0⟩
  | kv :: kvs, kvs0, [], vs, h, h0 => by have := h.length; simp at this
  | kv :: kvs, kvs0, e :: es, vs, h, h0 => by
    rw [List.map_cons] at h
    obtain ⟨w, ws, ee, h3, h4⟩ := h.inv
    cases ee
    obtain ⟨p1, p2⟩ := put_val eqD_dK kv.1 h3 h0
    simp only [List.map_cons, foldPut]
    rw [p1]
    exact fold_put (kvs0 := putK kvs0 kv.1 kv.2) h4 p2
theorem nd_dct {ks : List (Option Expr)} {vs : List Expr} {cs : List E} (s : Prs S X ks vs cs) (n0 : ks ≠ []) (n15 : ks.length ≤ 15) : Snd S X (.Dict ks vs pos) (.dct false cs) :=
  Snd.mk' rfl ((pe_disp s.pps s.all.1 s.all.2 n0 n15).imp fun σ H Q ⟨A, m, env, d, env', re, ev, q⟩ => fun p hp => by
    simp only [evE] at ev
    obtain ⟨ds, e1, ev1, ev⟩ := oL ev
    obtain ⟨d', h1, ev⟩ := o1 ev
    cases ev
    unfold mkDct at h1
    have h1 := oi h1
    obtain ⟨hk, h1⟩ := h1
    cases h1
    simp only [Bool.and_eq_true] at hk
    have np : ¬ m p := fun z => re.live p z hp
    have nA : ∀ i, A i ≠ some p := fun i z => np (re.mem i p z)
    refine s.run σ _ _ A (ad m p) env _ ds (re.add hp) ev1 fun ps H2 n2 r2 g1 g2 => ?_
    have hp2 : H2 p = some (.dK []) := n2.keep p _ upd_same nA
    obtain ⟨kvs, rfl, g3, g4⟩ := kvs_of hk.1.1 g1 g2
    have hl := (s.evn ev1).1
    refine ⟨hp2, kvs, rfl, ?_, ?_⟩
    · have := congrArg List.length g3
      rw [List.length_map] at this
      omega
    · have kp : Kp (ad m p) (ad m p) H2 (upd H2 p (.dK (mergeK [] kvs))) := Kp.chg (.inl rfl)
      have fp := fold_put (kvs0 := []) g4 .nil
      rw [← g3] at fp
      have re3 : RE S.G A (ad m p) env' σ (upd H2 p (.dK (mergeK [] kvs))) := r2.chg (.inl rfl) nA
      have re4 : RE S.G A m env' σ (upd H2 p (.dK (mergeK [] kvs))) := re3.wk (fun a z => .inr z) re.mem
      have nx3 : Nx A H (upd H2 p (.dK (mergeK [] kvs))) := ⟨fun b u e n => by
          rw [upd_ne (ne_of_none e hp)]
          exact n2.keep b u (by rw [upd_ne (ne_of_none e hp)]; exact e) n, fun b e => by
          by_cases c : b = p
          · rw [c, upd_same]; exact fun z => nomatch z
          · rw [upd_ne c]; exact n2.live b (by rw [upd_ne c]; exact e)⟩
      have ho : OwnAt S.G (ad m p) (upd H2 p (.dK (mergeK [] kvs))) p (.dct false (foldPut [] [] (evens ds) (odds ds)).1 (foldPut [] [] (evens ds) (odds ds)).2) := ⟨mergeK [] kvs, upd_same, fp.1, fp.2.mono kp⟩
      exact q _ _ ⟨nx3, re4, (ho.weak fun a z => .inr z).rep np, fun _ _ => ⟨p, rfl, hp, re3, ho⟩⟩)
end
end Qx
set_option Elab.async false
set_option linter.all false
set_option maxRecDepth 100000
set_option maxHeartbeats 4000000
/-! QSnd6: calls of defs. -/
namespace Qx
open PySem PySem.Spec PyProof.Rows L2

/-! ### plain facts of operands -/
theorem resAs_get {env : En} : ∀ {as : List Qx.A} {ds : List D} {j : Nat} {d : D}, resAs env as = some ds → ds[j]? = some d → ∃ a, as[j]? = some a ∧ resA env a = some d
  | [], ds, j, d, e, g => by
    simp only [resAs] at e
    cases e
    simp at g
  | a :: as, ds, j, d, e, g => by
    simp only [resAs] at e
    rw [Option.bind_eq_some_iff] at e
    obtain ⟨x, e1, e2⟩ := e
    obtain ⟨xs, e3, rfl⟩ := omap e2
    cases j with
    | zero => simp at g; subst g; exact ⟨a, rfl, e1⟩
    | succ j => simpa using resAs_get (j := j) e3 (by simpa using g)
theorem resAs_len {env : En} : ∀ {as : List Qx.A} {ds : List D}, resAs env as = some ds → ds.length = as.length
  | [], ds, e => by
    simp only [resAs] at e
    cases e; rfl
  | a :: as, ds, e => by
    simp only [resAs] at e
    rw [Option.bind_eq_some_iff] at e
    obtain ⟨x, e1, e2⟩ := e
    obtain ⟨xs, e3, rfl⟩ := omap e2
    simp [resAs_len e3]
theorem refSlots_mem {as : List Qx.A} : ∀ {js is : List Nat} {j : Nat}, refSlots as js = some is → j ∈ js → ∃ i, as[j]? = some (.o i) ∧ i ∈ is
  | [], is, j, e, h => by cases h
  | j0 :: js, is, j, e, h => by
    simp only [refSlots] at e
    split at e
    · rename_i i ei
      obtain ⟨r, er, rfl⟩ := omap e
      rcases List.mem_cons.mp h with rfl | h
      · exact ⟨i, ei, List.mem_cons_self⟩
      · obtain ⟨i', h1, h2⟩ := refSlots_mem er h
        exact ⟨i', h1, List.mem_cons_of_mem _ h2⟩
    · cases e
theorem nodupB_cons {a : Nat} {r : List Nat} (h : nodupB (a :: r) = true) : a ∉ r ∧ nodupB r = true := by
  simp only [nodupB, Bool.and_eq_true, Bool.not_eq_true'] at h
  refine ⟨fun z => ?_, h.2⟩
  have := List.contains_iff_mem.mpr z
  rw [h.1] at this
  cases this
/-- one slot, one parameter -/
theorem refSlots_inj {as : List Qx.A} : ∀ {js is : List Nat} {j j' i : Nat}, refSlots as js = some is → nodupB is = true → j ∈ js → j' ∈ js → as[j]? = some (.o i) → as[j']? = some (.o i) → j = j'
  | [], is, j, j', i, e, n, h, h', _, _ => by cases h
  | j0 :: js, is, j, j', i, e, n, h, h', g, g' => by
    simp only [refSlots] at e
    split at e
    · rename_i i0 ei
      obtain ⟨r, er, rfl⟩ := omap e
      obtain ⟨n1, n2⟩ := nodupB_cons n
      rcases List.mem_cons.mp h with q1 | q1
      · rcases List.mem_cons.mp h' with q2 | q2
        · rw [q1, q2]
        · exfalso
          obtain ⟨i', h1, h2⟩ := refSlots_mem er q2
          rw [q1, ei] at g; cases g
          rw [h1] at g'; cases g'
          exact n1 h2
      · rcases List.mem_cons.mp h' with q2 | q2
        · exfalso
          obtain ⟨i', h1, h2⟩ := refSlots_mem er q1
          rw [q2, ei] at g'; cases g'
          rw [h1] at g; cases g
          exact n1 h2
        · exact refSlots_inj er n2 q1 q2 g g'
    · cases e
def Lent (A : Slots) (bs : List Qx.A) (js : List Nat) (a : Addr) : Prop := ∃ j i : Nat, bs[j]? = some (Qx.A.o i) ∧ j ∉ js ∧ A i = some a
theorem lent_no {A : Slots} {bs : List Qx.A} {js : List Nat} (h : lent bs js = false) (a : Addr) : ¬ Lent A bs js a := fun ⟨j, i, h1, h2, h3⟩ => by
  unfold lent at h
  rw [List.any_eq_false] at h
  have lt : j < bs.length := (List.getElem?_eq_some_iff.mp h1).1
  have := h j (List.mem_range.mpr lt)
  rw [h1] at this
  simp only [isOw, Bool.true_and, Bool.not_eq_true', Bool.not_eq_false'] at this
  have c : js.contains j = false := by
    cases q : js.contains j with
    | false => rfl
    | true => exact (h2 (List.contains_iff_mem.mp q)).elim
  rw [c] at this
  exact this rfl
theorem read_mem {bs : List Qx.A} {js : List Nat} {j i : Nat} (h1 : bs[j]? = some (Qx.A.o i)) (h2 : j ∉ js) : i ∈ readSlots bs js := by
  unfold readSlots
  rw [List.mem_filterMap]
  refine ⟨j, List.mem_range.mpr (List.getElem?_eq_some_iff.mp h1).1, ?_⟩
  have c : js.contains j = false := by
    cases q : js.contains j with
    | false => rfl
    | true => exact (h2 (List.contains_iff_mem.mp q)).elim
  rw [c, h1]
  rfl
theorem putOs_len : ∀ {is : List Nat} {ds : List D} {env : En}, (putOs env is ds).length = env.length
  | [], ds, env => by cases ds <;> rfl
  | i :: is, [], env => rfl
  | i :: is, d :: ds, env => by simp only [putOs]; rw [putOs_len, List.length_set]
theorem putOs_out : ∀ {is : List Nat} {ds : List D} {env : En} {i : Nat}, i ∉ is → (putOs env is ds)[i]? = env[i]?
  | [], ds, env, i, h => by cases ds <;> rfl
  | i0 :: is, [], env, i, h => rfl
  | i0 :: is, d :: ds, env, i, h => by
    simp only [putOs]
    rw [putOs_out (fun z => h (List.mem_cons_of_mem _ z)), List.getElem?_set_ne (fun z => h (by rw [z]; exact List.mem_cons_self))]
/-- what the changed parameters' slots hold after -/
theorem putOs_in {G : Gd} {m : AdP} {H : Hp} {B A : Slots} {as : List Qx.A} : ∀ {js is : List Nat} {ds : List D} {env : En} {i : Nat}, refSlots as js = some is → nodupB is = true → ds.length = is.length → OutsAt G m H B js ds → (∀ j ∈ js, ∀ i, as[j]? = some (Qx.A.o i) → B j = A i) → (∀ i ∈ is, i < env.length) → i ∈ is →
    ∃ d a, (putOs env is ds)[i]? = some (.own d) ∧ A i = some a ∧ OwnAt G m H a d
  | [], is, ds, env, i, e, n, hl, ho, hb, he, hi => by
    simp only [refSlots] at e
    cases e
    cases hi
  | j0 :: js, is, ds, env, i, e, n, hl, ho, hb, he, hi => by
    simp only [refSlots] at e
    split at e
    · rename_i i0 ei
      obtain ⟨r, er, rfl⟩ := omap e
      obtain ⟨n1, n2⟩ := nodupB_cons n
      cases ds with
      | nil => simp at hl
      | cons d ds =>
        simp only [OutsAt] at ho
        obtain ⟨⟨a, h1, h2⟩, ho⟩ := ho
        simp only [putOs]
        rcases List.mem_cons.mp hi with rfl | hi
        · refine ⟨d, a, ?_, ?_, h2⟩
          · rw [putOs_out n1, List.getElem?_set_self (he _ List.mem_cons_self)]
          · rw [← hb j0 List.mem_cons_self _ ei]; exact h1
        · exact putOs_in er n2 (by simpa using hl) ho (fun j hj => hb j (List.mem_cons_of_mem _ hj)) (fun i hi => by rw [List.length_set]; exact he i (List.mem_cons_of_mem _ hi)) hi
    · cases e

section
variable {S : Sx} {f : Nat} {A : Slots} {m : AdP} {env env' : En} {σ : L2.St} {H : Hp} {bs : List Qx.A} {vs : List V} {d : D} {Q : VK}
theorem call_core {E : XK} (re : RE S.G A m env σ H) (ar : AReps S.G A m H bs vs) (ev : callE S.Φ S.R f bs env = some (d, env'))
    (q : ∀ v H', Nx A H H' → RE S.G A m env' σ H' → Rep S.G m H' d v → (S.C.F f = true → isC d = true → ∃ a, v = .ref a ∧ H a = none ∧ RE S.G A (ad m a) env' σ H' ∧ OwnAt S.G (ad m a) H' a d) → Q v H') : spOf S f vs H Q E := by
  unfold callE at ev
  obtain ⟨ds, is, hd, hi, ev⟩ := o11N ev
  obtain ⟨hc, ev⟩ := oi ev
  obtain ⟨r, outs, hf, ev⟩ := oO ev
  obtain ⟨hc2, ev⟩ := oi ev
  cases ev
  rw [Bool.and_eq_true] at hc
  obtain ⟨hn, hrd⟩ := hc
  obtain ⟨hol, hlent⟩ := hc2
  have hrd : ∀ i ∈ readSlots bs (S.R f), i ∉ is := fun i h z => by
    have := List.all_eq_true.mp hrd i h
    rw [List.contains_iff_mem.mpr z] at this
    cases this
  let lt : Addr → Prop := Lent A bs (S.R f)
  let mc : AdP := fun a => m a ∧ ¬ lt a
  let B : Slots := fun j => if j ∈ S.R f then (match bs[j]? with | some (.o i) => A i | _ => none) else none
  have hB : ∀ j ∈ S.R f, ∀ i, bs[j]? = some (Qx.A.o i) → B j = A i := fun j hj i e => by
    show (if j ∈ S.R f then _ else _) = _
    rw [if_pos hj, e]
  have hB2 : ∀ j a, B j = some a → ∃ i, j ∈ S.R f ∧ bs[j]? = some (Qx.A.o i) ∧ i ∈ is ∧ A i = some a := fun j a e => by
    by_cases hj : j ∈ S.R f
    · obtain ⟨i, h1, h2⟩ := refSlots_mem hi hj
      rw [hB j hj i h1] at e
      exact ⟨i, hj, h1, h2, e⟩
    · have : B j = none := if_neg hj
      rw [this] at e; cases e
  have hlm : ∀ a, lt a → m a := fun a ⟨j, i, _, _, e⟩ => re.mem i a e
  have hlB : ∀ a, lt a → ∀ j, B j ≠ some a := fun a ⟨j, i, h1, h2, h3⟩ j' z => by
    obtain ⟨i', g1, g2, g3, g4⟩ := hB2 j' a z
    have := re.inj i i' a h3 g4
    subst this
    exact hrd i (read_mem h1 h2) g3
  have hBm : ∀ j a, B j = some a → mc a := fun j a e => by
    obtain ⟨i, g1, g2, g3, g4⟩ := hB2 j a e
    exact ⟨re.mem i a g4, fun z => hlB a z j e⟩
  refine ⟨mc, B, ds, d, outs, hf, ⟨?_, fun a z => re.live a z.1, fun j dd e hj => ?_, fun j dd e hj => ?_, fun i j a e1 e2 => ?_, hBm, fun i a e => (hB2 i a e).choose_spec.1⟩, fun v H' m2 bk => ?_⟩
  · rw [resAs_len hd]; exact paired_len ar
  · obtain ⟨i, h1, h2⟩ := refSlots_mem hi hj
    obtain ⟨x, h3, h4⟩ := resAs_get hd e
    rw [h1] at h3; cases h3
    obtain ⟨v, h5, h6⟩ := paired_get ar h1
    obtain ⟨a, h7, rfl⟩ := h6
    obtain ⟨a', h7', _, h8⟩ := re.own i dd (getO_some h4)
    rw [h7] at h7'; cases h7'
    exact ⟨a, by rw [hB j hj i h1]; exact h7, h5, h8.weak fun b z => z.1⟩
  · obtain ⟨x, h3, h4⟩ := resAs_get hd e
    obtain ⟨v, h5, h6⟩ := paired_get ar h3
    refine ⟨v, h5, ?_⟩
    cases x with
    | v d' =>
      cases h4
      exact Rep.mono (Kp.weak fun b z => z.1) _ _ h6
    | o i =>
      obtain ⟨a, h7, rfl⟩ := h6
      obtain ⟨a', h7', _, h8⟩ := re.own i dd (getO_some h4)
      rw [h7] at h7'; cases h7'
      exact (h8.weak (m' := mc) fun b z => z.1).rep fun z => z.2 ⟨j, i, h3, hj, h7⟩
  · obtain ⟨i1, g1, g2, g3, g4⟩ := hB2 i a e1
    obtain ⟨i2, k1, k2, k3, k4⟩ := hB2 j a e2
    have := re.inj i1 i2 a g4 k4
    subst this
    exact refSlots_inj hi hn g1 k1 g2 k2
  · -- after
    have ntup : ∀ b xs, Rd H' b (.tup xs) → ¬ lt b := fun b xs e z => by
      obtain ⟨j, i, h1, h2, h3⟩ := id z
      have lj : j < ds.length := by rw [resAs_len hd]; exact (List.getElem?_eq_some_iff.mp h1).1
      obtain ⟨x, k1, k2⟩ := resAs_get hd (List.getElem?_eq_getElem lj)
      rw [h1] at k1; cases k1
      obtain ⟨a', h7', _, h8⟩ := re.own i _ (getO_some k2)
      rw [h3] at h7'; cases h7'
      cases q0 : H b with
      | none => exact re.live b (hlm b z) q0
      | some o =>
        have := bk.nx.keep b o q0 fun j' => hlB b z j'
        rcases e with e | ⟨ob, e⟩
        · rw [e] at this; cases this
          exact h8.noTup xs (.inl q0)
        · rw [e] at this; cases this
          exact h8.noTup xs (.inr ⟨_, q0⟩)
    have key : ∀ m' : AdP, (∀ a, m a → m' a) → (∀ a, m' a → m2 a ∨ lt a) → RE S.G A m' (putOs env is outs) σ H' := fun m' k1 k2 => by
      have kp : Kp m m' H H' := ⟨fun a o e n => bk.nx.keep a o e fun j z => n (hBm j a z).1, fun a z => by
        rcases k2 a z with z | z
        · exact (bk.new a z).imp (fun z => z.1) id
        · exact .inl (hlm a z)⟩
      have ilt : ∀ i ∈ is, i < env.length := fun i h => by
        -- an index of a changed slot
        have : ∀ {js is : List Nat}, refSlots bs js = some is → i ∈ is → ∃ j, j ∈ js ∧ bs[j]? = some (Qx.A.o i) := by
          intro js
          induction js with
          | nil => intro is e h; simp only [refSlots] at e; cases e; cases h
          | cons j0 js ih =>
            intro is e h
            simp only [refSlots] at e
            split at e
            · rename_i i0 ei
              obtain ⟨r, er, rfl⟩ := omap e
              rcases List.mem_cons.mp h with rfl | h
              · exact ⟨j0, List.mem_cons_self, ei⟩
              · obtain ⟨j, h1, h2⟩ := ih er h
                exact ⟨j, List.mem_cons_of_mem _ h1, h2⟩
            · cases e
        obtain ⟨j, h1, h2⟩ := this hi h
        have lj : j < ds.length := by rw [resAs_len hd]; exact (List.getElem?_eq_some_iff.mp h2).1
        obtain ⟨x, g1, g2⟩ := resAs_get hd (List.getElem?_eq_getElem lj)
        rw [h2] at g1; cases g1
        exact getO_lt g2
      refine ⟨by rw [putOs_len]; exact re.len, fun i dd e => ?_, fun i dd e => ?_, re.inj, fun i a e => k1 a (re.mem i a e), fun a z => ?_⟩
      · by_cases c : i ∈ is
        · obtain ⟨d1, a, h1, _⟩ := putOs_in hi hn hol bk.outs hB ilt c
          rw [h1] at e; cases e
        · rw [putOs_out c] at e
          obtain ⟨v, h1, h2⟩ := re.val i dd e
          exact ⟨v, h1, h2.mono kp⟩
      · by_cases c : i ∈ is
        · obtain ⟨d1, a, h1, h2, h3⟩ := putOs_in hi hn hol bk.outs hB ilt c
          rw [h1] at e; cases e
          have hsig : σ[i]? = some (some (V.ref a)) := by
            have li := ilt i c
            -- the slot was owned before
            have : ∀ {js is : List Nat}, refSlots bs js = some is → i ∈ is → ∃ j, j ∈ js ∧ bs[j]? = some (Qx.A.o i) := by
              intro js
              induction js with
              | nil => intro is e h; simp only [refSlots] at e; cases e; cases h
              | cons j0 js ih =>
                intro is e h
                simp only [refSlots] at e
                split at e
                · rename_i i0 ei
                  obtain ⟨r, er, rfl⟩ := omap e
                  rcases List.mem_cons.mp h with rfl | h
                  · exact ⟨j0, List.mem_cons_self, ei⟩
                  · obtain ⟨j, h1, h2⟩ := ih er h
                    exact ⟨j, List.mem_cons_of_mem _ h1, h2⟩
                · cases e
            obtain ⟨j, g1, g2⟩ := this hi c
            have lj : j < ds.length := by rw [resAs_len hd]; exact (List.getElem?_eq_some_iff.mp g2).1
            obtain ⟨x, g3, g4⟩ := resAs_get hd (List.getElem?_eq_getElem lj)
            rw [g2] at g3; cases g3
            obtain ⟨a', h7', h8, _⟩ := re.own i _ (getO_some g4)
            rw [h2] at h7'; cases h7'
            exact h8
          refine ⟨a, h2, hsig, ?_⟩
          rcases hlent with hlent | ⟨_, hlent⟩
          · exact h3.weak fun b z => (k2 b z).elim id fun z => (lent_no hlent b z).elim
          · refine h3.relent (fun b xs eb z => (k2 b z).elim id fun z => (ntup b xs eb z).elim) ?_
            have : ∀ {is : List Nat} {outs : List D} {env : En}, outs.all noLc = true → outs.length = is.length → nodupB is = true → (∀ i ∈ is, i < env.length) → i ∈ is → (putOs env is outs)[i]? = some (.own dd) → noLc dd = true := by
              intro is
              induction is with
              | nil => intro outs env _ _ _ _ h _; cases h
              | cons i0 is ih =>
                intro outs env ha hl hn he h hp
                cases outs with
                | nil => simp at hl
                | cons o outs =>
                  simp only [List.all_cons, Bool.and_eq_true] at ha
                  obtain ⟨n1, n2⟩ := nodupB_cons hn
                  simp only [putOs] at hp
                  rcases List.mem_cons.mp h with rfl | h
                  · rw [putOs_out n1, List.getElem?_set_self (he _ List.mem_cons_self)] at hp
                    cases hp
                    exact ha.1
                  · exact ih ha.2 (by simpa using hl) n2 (fun i hi => by rw [List.length_set]; exact he i (List.mem_cons_of_mem _ hi)) h hp
            exact this hlent hol hn ilt c h1
        · rw [putOs_out c] at e
          obtain ⟨a, h1, h2, h3⟩ := re.own i dd e
          refine ⟨a, h1, h2, h3.mono kp fun o g => bk.nx.keep a o g fun j z => ?_⟩
          obtain ⟨i', g1, g2, g3, g4⟩ := hB2 j a z
          have := re.inj i i' a h1 g4
          subst this
          exact c g3
      · rcases k2 a z with z | z
        · exact bk.live a z
        · exact bk.nx.live a (re.live a (hlm a z))
    have cl : ∀ a, m a → m2 a ∨ lt a := fun a z => by
      by_cases c : lt a
      · exact .inr c
      · exact .inl (bk.more a ⟨z, c⟩)
    have nx : Nx A H H' := ⟨fun a o e n => bk.nx.keep a o e fun j z => by
      obtain ⟨i, _, _, _, g⟩ := hB2 j a z
      exact n i g, bk.nx.live⟩
    rcases bk.res with ⟨a, rfl, h1, h2, h3⟩ | ⟨h1, h2⟩
    · have nm : ¬ m a := fun z => re.live a z h2
      have nl : lent bs (S.R f) = false := by
        rcases hlent with z | ⟨z, _⟩
        · exact z
        · have := h3.isC
          cases d <;> simp [isC] at this <;> simp [noL] at z
      have nol : ∀ b, ¬ lt b := lent_no nl
      have k2 : ∀ b, ad m a b → m2 b ∨ lt b := fun b z => z.elim (fun z => .inl (z ▸ h1)) (cl b)
      refine q _ H' nx (key m (fun _ z => z) cl) ((h3.weak fun b z => (cl b z).elim id fun z => (nol b z).elim).rep nm) fun _ _ => ⟨a, rfl, h2, key (ad m a) (fun _ z => .inr z) k2, h3.weak fun b z => (k2 b z).elim id fun z => (nol b z).elim⟩
    · refine q v H' nx (key m (fun _ z => z) cl) ?_ fun z1 z2 => ?_
      · rcases hlent with hlent | ⟨hlent, _⟩
        · exact h1.mono (Kp.weak fun b z => (cl b z).elim id fun z => (lent_no hlent b z).elim)
        · exact Rep.relent (fun b xs eb z => (cl b z).elim id fun z => (ntup b xs eb z).elim) _ _ hlent h1
      · rcases h2 with h2 | h2
        · rw [h2] at z1; cases z1
        · rw [h2] at z2; cases z2
end
end Qx
set_option Elab.async false
set_option linter.all false
set_option maxRecDepth 100000
set_option maxHeartbeats 4000000
/-! QSnd7: calls of defs, as nodes. -/
namespace Qx
open PySem PySem.Spec PyProof.Rows L2

section
variable {S : Sx} {k : Nat} {sc : Scope} {X : Cx} {p pos : Pos} {e : Expr} {c : E} {es : List Expr} {cs : List E} {g : Nat} {x : Str}
theorem nd_call (h : Ct S k sc X) (hx : S.C.G.lookup x = some (.fn g)) (gl : Gl X x) (hdb : (x == ("__debug__" : Str)) = false) (st : isStar e = false) (s : Snds S X (e :: es) cs) (sr : (backTo pos (starEach es X.env)).any (·.1) = false) :
    Snd S X (.Call (.Name x p) (e :: es) [] pos) (.call g cs []) := by
  obtain ⟨f, hm, hf⟩ := h.prg.glo x g hx
  obtain ⟨fd, ps, F, hk, hb, _⟩ := (h.prg.fns g f hf).ex
  refine Snd.mk' rfl ((pe_call F h.room gl hm hk hb .nil pass0 s.as hdb (starEach_ok st) sr).imp fun σ H Q ⟨A, m, env, d, env', re, ev, q⟩ => ?_)
  simp only [evE] at ev
  obtain ⟨as, e1, ev1, ev⟩ := oR ev
  simp only [permA] at ev
  refine ⟨A, m, env, as, e1, re, ev1, fun vs H1 n1 r1 a1 => ?_⟩
  show spOf S g (vs ++ []) H1 Q E0
  rw [List.append_nil]
  exact call_core r1 a1 ev fun v H' n2 r2 rp fr => q v H' ⟨n1.trans n2, r2, rp, fun z1 z2 => by
    obtain ⟨p, g1, g2, g3⟩ := fr z1 z2
    exact ⟨p, g1, n1.free g2, g3⟩⟩
theorem nd_call0 (h : Ct S k sc X) (hx : S.C.G.lookup x = some (.fn g)) (gl : Gl X x) (hdb : (x == ("__debug__" : Str)) = false) : Snd S X (.Call (.Name x p) [] [] pos) (.call g [] []) := by
  obtain ⟨f, hm, hf⟩ := h.prg.glo x g hx
  obtain ⟨fd, ps, F, hk, hb, _⟩ := (h.prg.fns g f hf).ex
  refine Snd.mk' rfl ((pe_call0 F h.room gl hm hk hb .nil pass0 hdb).imp fun σ H Q ⟨A, m, env, d, env', re, ev, q⟩ => ?_)
  simp only [evE, evAs, permA] at ev
  show spOf S g ([] ++ []) H Q E0
  exact call_core re .nil ev fun v H' n2 r2 rp fr => q v H' ⟨n2, r2, rp, fr⟩

/-! ### with names -/
inductive Kws (S : Sx) (X : Cx) : List Keyword → List E → Prop
  | nil : Kws S X [] []
  | cons {n : Str} {e : Expr} {kp : Pos} {c : E} {ks : List Keyword} {cs : List E} : Snd S X e c → Kws S X ks cs → Kws S X (⟨some n, e, kp⟩ :: ks) (c :: cs)
theorem Kws.pk : ∀ {ks : List Keyword} {cs : List E}, Kws S X ks cs → PK X ks (tAs S cs)
  | _, _, .nil => ⟨fun pos pins s' σ H Q I ⟨A, m, env, as, env', re, ev, q⟩ => by
    simp only [evAs] at ev
    cases ev
    exact pk_nil.run pos pins s' σ H Q I (q [] H .refl re .nil)⟩
  | _, _, .cons s r => ⟨fun pos pins s' σ H Q I ⟨A, m, env, as, env', re, ev, q⟩ => by
    simp only [evAs] at ev
    obtain ⟨a, e1, ev1, ev⟩ := oA ev
    obtain ⟨bs, e2, ev2, ev⟩ := oR ev
    cases ev
    refine (pk_cons s.pa r.pk).run pos pins s' σ H Q I ⟨A, m, env, a, e1, re, ev1, fun v H1 n1 r1 a1 => ⟨A, m, e1, bs, _, r1, ev2, fun vs H2 n2 r2 a2 => ?_⟩⟩
    exact q _ H2 (n1.trans n2) r2 (.cons (a1.mono (r1.kp n2)) a2)⟩
theorem Kws.some {ks : List Keyword} {cs : List E} {pos : Pos} (h : Kws S X ks cs) : (backToKw pos (keywordEach ks X.env)).all (·.1.isSome) = true ∧ (backToKw pos (keywordEach ks X.env)).any (·.1.isNone) = false ∧ (backToKw pos (keywordEach ks X.env)).filterMap (·.1) = ks.filterMap (·.arg) := by
  induction h with
  | nil => exact ⟨rfl, rfl, rfl⟩
  | @cons n e kp c ks cs a _ ih =>
    obtain ⟨i1, i2, i3⟩ := ih
    refine ⟨?_, ?_, ?_⟩
    · show (true && (backToKw pos (keywordEach ks X.env)).all (·.1.isSome)) = true
      rw [i1]; rfl
    · show (false || (backToKw pos (keywordEach ks X.env)).any (·.1.isNone)) = false
      rw [i2]; rfl
    · show n :: (backToKw pos (keywordEach ks X.env)).filterMap (·.1) = n :: ks.filterMap (·.arg)
      rw [i3]
theorem Kws.len {ks : List Keyword} {cs : List E} (h : Kws S X ks cs) : (ks.filterMap (·.arg)).length = cs.length := by
  induction h with
  | nil => rfl
  | @cons n e kp c ks cs a _ ih =>
    show (n :: ks.filterMap (·.arg)).length = _
    rw [List.length_cons, List.length_cons, ih]
theorem evAs_app {Φ : Orc} {R : Rfs} : ∀ {es fs : List E} {env env' : En} {as : List Qx.A}, evAs Φ R (es ++ fs) env = some (as, env') → ∃ as1 as2 e1, evAs Φ R es env = some (as1, e1) ∧ evAs Φ R fs e1 = some (as2, env') ∧ as = as1 ++ as2
  | [], fs, env, env', as, h => ⟨[], as, env, by simp only [evAs], h, rfl⟩
  | e :: es, fs, env, env', as, h => by
    simp only [List.cons_append, evAs] at h
    obtain ⟨a, e1, ev1, h⟩ := oA h
    obtain ⟨bs, e2, ev2, h⟩ := oR h
    cases h
    obtain ⟨as1, as2, e3, h1, h2, rfl⟩ := evAs_app ev2
    exact ⟨a :: as1, as2, e3, by simp only [evAs]; rw [ev1]; simp only [h1], h2, rfl⟩
theorem evAs_len {Φ : Orc} {R : Rfs} : ∀ {es : List E} {env env' : En} {as : List Qx.A}, evAs Φ R es env = some (as, env') → as.length = es.length
  | [], env, env', as, h => by simp only [evAs] at h; cases h; rfl
  | e :: es, env, env', as, h => by
    simp only [evAs] at h
    obtain ⟨a, e1, ev1, h⟩ := oA h
    obtain ⟨bs, e2, ev2, h⟩ := oR h
    cases h
    rw [List.length_cons, List.length_cons, evAs_len ev2]
theorem pickA_eq {G : Gd} {A : Slots} {m : AdP} {H : Hp} {as : List Qx.A} {vs : List V} (r : AReps G A m H as vs) : ∀ {pm : List Nat} {bs : List Qx.A}, pickA as pm = some bs → AReps G A m H bs (pickV vs pm)
  | [], bs, h => by
    simp only [pickA] at h
    cases h
    exact .nil
  | j :: pm, bs, h => by
    simp only [pickA] at h
    split at h
    · rename_i a r' e1 e2
      cases h
      obtain ⟨v, g1, g2⟩ := paired_get r e1
      have : pickV vs (j :: pm) = v :: pickV vs pm := by
        unfold pickV
        rw [List.filterMap_cons, g1]
      rw [this]
      exact .cons g2 (pickA_eq r e2)
    · cases h
theorem vals_pick {vs : List V} {us : List Value} (r : Vals vs us) : ∀ pm : List Nat, Vals (pickV vs pm) (pickV us pm)
  | [] => .nil
  | j :: pm => by
    cases e : vs[j]? with
    | none =>
      have e2 := Vals.none_of r e
      have h1 : pickV vs (j :: pm) = pickV vs pm := by unfold pickV; rw [List.filterMap_cons, e]
      have h2 : pickV us (j :: pm) = pickV us pm := by unfold pickV; rw [List.filterMap_cons, e2]
      rw [h1, h2]
      exact vals_pick r pm
    | some v =>
      obtain ⟨u, e2, g⟩ := Vals.get r e
      have h1 : pickV vs (j :: pm) = v :: pickV vs pm := by unfold pickV; rw [List.filterMap_cons, e]
      have h2 : pickV us (j :: pm) = u :: pickV us pm := by unfold pickV; rw [List.filterMap_cons, e2]
      rw [h1, h2]
      exact .cons g (vals_pick r pm)
/-- f(k = v, ..) -/
theorem nd_callK0 (h : Ct S k sc X) {kws : List Keyword} {ks : List E} {pm : List Nat} (hx : S.C.G.lookup x = some (.fn g)) (gl : Gl X x) (hdb : (x == ("__debug__" : Str)) = false) (s : Kws S X kws ks)
    (hp : kwPos (S.C.P g) 0 (kws.filterMap (·.arg)) = some pm) (pn : pm ≠ []) (nd : (kws.filterMap (·.arg)).Nodup) (hl : (kws.filterMap (·.arg)).length = (S.C.P g).length) (hin : ∀ k ∈ kws.filterMap (·.arg), k ∈ S.C.P g) : Snd S X (.Call (.Name x p) [] kws pos) (.call g ks pm) := by
  obtain ⟨f, hm, hf⟩ := h.prg.glo x g hx
  obtain ⟨fd, ps, F, hk, hb, rfl, hkw⟩ := (h.prg.fns g f hf).ex
  obtain ⟨s1, s2, s3⟩ := s.some (pos := pos)
  refine Snd.mk' rfl ⟨fun pins sh σ H Q I ⟨A, m, env, d, env', re, ev, q⟩ => ?_⟩
  simp only [evE] at ev
  obtain ⟨as, e1, ev1, ev⟩ := oR ev
  obtain ⟨bs, hbs, ev⟩ := o1R ev
  have hbs : pickA as pm = some bs := by
    unfold permA at hbs
    split at hbs
    · exact (pn rfl).elim
    · exact hbs
  refine wpAny_Call_Name_kw (ld_glob I gl hm ?_ hdb)
  refine PySem.W.callWith_KW0 (h₀ := X.base) I.ok.mod.kin hk s1 (thn (s.pk.run pos pins sh σ H (fun zs H2 => spOf S g (pickV zs pm) H2 Q E0 ∧ zs.length = ks.length) I ⟨A, m, env, as, e1, re, ev1, fun vs H1 n1 r1 a1 => ⟨?_, ?_⟩⟩) fun ws sh2 ⟨zs, H2, I2, rz, q2, ql⟩ => ⟨I2.kIn, ?_⟩) (by rw [s2]; rfl)
  · exact call_core r1 (pickA_eq a1 hbs) ev fun v H' n2 r2 rp fr => q v H' ⟨n1.trans n2, r2, rp, fun z1 z2 => by
    obtain ⟨p, g1, g2, g3⟩ := fr z1 z2
    exact ⟨p, g1, n1.free g2, g3⟩⟩
  · rw [← paired_len a1, evAs_len ev1]
  · rw [s3]
    show wpAny (model X.prog X.w) X.A (call (.ref f) [] ((kws.filterMap (·.arg)).zip ws)) (EP X pins σ Q) X.xe sh2
    have hw : ws.length = (kws.filterMap (·.arg)).length := by rw [← rz.length, ql, s.len]
    have hbt := hkw 0 _ pm hp nd (by rw [hl]; simp) (by simpa using hin) sh2 [] ws I2.kIn rfl hw
    have r2 : Vals (pickV zs pm) (pickV ws pm) := vals_pick rz pm
    refine wpAny_call (codeAny_mono (F.run X.A X.stack sh2 H2 ⟨[], _⟩ (pickV ws pm) (pickV zs pm) Q E0 h.room I2.env0 hbt r2 q2) fun r s' hq => ?_)
    cases r with
    | error e => exact hq.elim
    | ok fl =>
      cases fl with
      | ret u => exact I2.after hq
      | next => exact False.elim hq
      | brk => exact False.elim hq
      | cont => exact False.elim hq
end
end Qx
set_option Elab.async false
set_option linter.all false
set_option maxRecDepth 100000
set_option maxHeartbeats 4000000
/-! QEnu: enumerate over a tuple. -/
namespace Qx
open PySem PySem.Spec PyProof.Rows L2

theorem en_meets {src : Value} {cell : Obj} {Pre : Heap → Prop} (bg : Begins src cell Pre) :
    Meets (Builtin.«enumerate.__new__» ⟨[.type "enumerate", src], []⟩) (fun _ R st => Pre st.heap ∧
      R (.ok (.ret (.ref (st.heap.push cell).objs.size))) { st with heap := (st.heap.push cell).push { cls := .type "enumerate", data := .fields #[.none, .bool false, .ref st.heap.objs.size, rawInt 0, .none, .none] } }) :=
  Meets.of_wp fun prog w A R st hyp => by
    obtain ⟨hp, gs, dr, tk, os⟩ := st
    obtain ⟨pre, hyp⟩ := hyp
    have sub := sub_enumerate
    have walk : ∀ {A' : Around} {E' : Value → Shared → Prop} {Q' : Value → Shared → Prop}, Q' (.ref hp.objs.size) ⟨hp.push cell, gs, dr, tk, os⟩ → wpAny (model prog w) A' (pyIter src) Q' E' ⟨hp, gs, dr, tk, os⟩ :=
      fun z => bg.iter prog w _ _ ⟨hp, gs, dr, tk, os⟩ _ pre z
    wp_walk using walk
    refine wpAny_stack_any fun fr => wpAny_pure ?_
    split
    · rename_i cl _ _ _ _ _
      cases (cl == Value.type "enumerate") <;>
        (wp_walk using walk
         exact ⟨_, rfl, hyp⟩)
    · wp_walk using walk
      exact ⟨_, rfl, hyp⟩
section
variable {prog : Program} {w : World} {A : Around} {E : Value → Shared → Prop} {s : Shared}
theorem en_make {src : Value} {cell : Obj} {Pre : Heap → Prop} {Q : Value → Shared → Prop} (bg : Begins src cell Pre) (pre : Pre s.heap)
    (q : ∀ h', IsEnum h' (s.heap.objs.size + 1) s.heap.objs.size 0 .none → h'.get? s.heap.objs.size = some cell → (∀ b ob, s.heap.get? b = some ob → h'.get? b = some ob) → Q (.ref (s.heap.objs.size + 1)) { s with heap := h' }) :
    wpAny (model prog w) A (call (.type "enumerate") [src]) Q E s := by
  refine callType_new F.called_enumerate (by decide) (F.typeCall_enumerate_1 _) (F.newCall_enumerate_1 _) (fun ob => F.args_object_init_2 ob _) F.entry_enumerate_new (en_meets bg) ⟨pre, ?_⟩
  have sz : (s.heap.push cell).objs.size = s.heap.objs.size + 1 := Heap.size_push ..
  show _ ∧ _
  rw [sz]
  have isE : IsEnum ((s.heap.push cell).push { cls := .type "enumerate", data := .fields #[.none, .bool false, .ref s.heap.objs.size, rawInt 0, .none, .none] }) (s.heap.objs.size + 1) s.heap.objs.size 0 .none := by
    have z := Heap.get?_push_size (s.heap.push cell) (o := { cls := .type "enumerate", data := .fields #[.none, .bool false, .ref s.heap.objs.size, rawInt 0, .none, .none] }) rfl
    rw [sz] at z
    exact z
  exact ⟨⟨_, isE, rfl⟩, q _ isE (Heap.get?_push_of_some _ (Heap.get?_push_size _ bg.free)) fun b ob z => Heap.get?_push_of_some _ (Heap.get?_push_of_some _ z)⟩
end
/-- the tuple at a, each item with its number, in new pairs -/
def ItEt (K : PySem.W.Frag) (a : Addr) : L2.It :=
  ⟨fun i H => ∃ (xs : List V) (x : V), SqT K H a xs ∧ xs[i]? = some x, fun i H v H' => ∃ T x, v = .ref T ∧ H T = none ∧ H' = upd H T (.tup [.int (i : Nat), x]) ∧ ∀ xs, SqT K H a xs → xs[i]? = some x, fun i H => ∃ xs : List V, SqT K H a xs ∧ xs.length ≤ i⟩
theorem en_turn {P : Program} {w : World} {K : PySem.W.Frag} {elts : List Expr} {kk : Nat} {tpos : Pos} (a e it : Addr) :
    Turn P w K (.Tuple elts kk tpos) (ItEt K a) [e, it] e (fun i h => (∃ old, IsEnum h e it ((i : Nat) : Int) old) ∧ h.IsTupleIter it a i ∧ e ≠ it ∧ a ≠ it ∧ e ≠ a) where
  mem := by simp
  obj := fun i h st b hb => by
    obtain ⟨⟨old, isE⟩, ⟨ob, g1, g2, g3⟩, _⟩ := st
    rcases (by simpa using hb : b = e ∨ b = it) with rfl | rfl
    · exact ⟨_, isE, fun v z => nomatch z⟩
    · exact ⟨ob, g1, fun v z => by rw [g3] at z; cases z⟩
  keep := fun i h h' st kp => by
    obtain ⟨⟨old, isE⟩, g, ne⟩ := st
    exact ⟨⟨old, kp e (by simp) _ isE⟩, g.at fun ob z => kp it (by simp) ob z, ne⟩
  item := by
    intro X hP hw hK hc i pins s σ H E I hf st hg
    subst hP hw hK
    obtain ⟨⟨old, isE⟩, g, ne, na, ea⟩ := st
    obtain ⟨xs, x, hq, hx⟩ := hg
    obtain ⟨its, rv, isT, hz⟩ := I.tuple hq
    have le : e < s.heap.objs.size := Heap.lt_size isE
    have li : it < s.heap.objs.size := by obtain ⟨_, z, _⟩ := g; exact Heap.lt_size z
    have lt : i < its.toArray.size := by
      rw [List.size_toArray, ← rv.length]
      exact (List.getElem?_eq_some_iff.mp hx).1
    refine wpAny_pyNext_enum_itemD (Draws.tuple (A := X.A.in1) (I.ok.hd hc) it a na its.toArray) isE (show _ ∧ _ from ⟨g, isT⟩) lt ne (by simp [ne, ea]) fun u h' tk hu out st' hT hsz kp => ?_
    obtain ⟨u', hu', ru⟩ := rv.get hx
    have eu : u = u' := by
      have : its[i]? = some u := by simpa using hu
      rw [hu'] at this
      exact (Option.some.inj this).symm
    subst eu
    refine ⟨_, rfl, wpAny_letOwnedTupleGo_enum (s := { s with heap := h', toks := tk + 1 }) out fun h2 isE2 sb => ?_⟩
    have hT2 : h2.get? s.heap.objs.size = some { cls := .type "tuple", data := .seq #[.int i tk, u] } := (sb.2 _ (Nat.ne_of_gt le)).trans hT
    have ok2 : ObjOk X.prog X.w (upd H s.heap.objs.size (.tup [.int (i : Nat), x])) h2 s.heap.objs.size (.tup [.int (i : Nat), x]) :=
      ⟨by show 2 ≤ sizeLine; decide, [.int i tk, u], .cons ⟨_, rfl⟩ (.cons ru .nil), ⟨_, hT2, rfl, _, rfl⟩⟩
    have I2 : Inv X pins σ (upd H s.heap.objs.size (.tup [.int (i : Nat), x])) { s with heap := h2, toks := tk + 1 } :=
      I.turnedNew (t' := tk + 1) (ch := [e, it]) (fun b ob hb z => (sb.2 b (fun y => hb (by simp [y]))).trans (kp b ob (fun y => hb (by simp [y])) (fun y => hb (by simp [y])) z)) hf (Nat.le_refl _) ok2
    refine ⟨.ref s.heap.objs.size, _, I2, rfl, ⟨_, x, rfl, I.hok.fresh (Nat.le_refl _), rfl, fun ys hy => by rw [I.tuple_inj hy hq]; exact hx⟩, ⟨⟨u, ?_⟩, st'.1.at fun ob z => (sb.2 it (Ne.symm ne)).trans z, ne, na, ea⟩, fun b hb => ?_⟩
    · rw [show ((i + 1 : Nat) : Int) = (i : Int) + 1 by omega]
      exact isE2
    · have lb : b < s.heap.objs.size := by
        rcases (by simpa using hb : b = e ∨ b = it) with rfl | rfl
        · exact le
        · exact li
      rw [upd_ne (Nat.ne_of_lt lb)]
      exact (hf b hb).1
  done := by
    intro X hP hw hK hc i pins s σ H E I hf st hg
    subst hP hw hK
    obtain ⟨⟨old, isE⟩, g, ne, na, ea⟩ := st
    obtain ⟨xs, hq, hx⟩ := hg
    obtain ⟨its, rv, isT, hz⟩ := I.tuple hq
    obtain ⟨f0, f1, f2, f3, f4, f5⟩ := hf it (by simp)
    have hl := rv.length
    have hT : s.TypeIs (.ref e) "enumerate" := ⟨_, isE, rfl⟩
    unfold pyNext
    refine wpAny_bind (wpAny_attempt (wpAny_callSpecial?_slot (name := Str.ofString "__next__") hT F.slot_enumerate_next (wpAny_call_entry F.slot_enumerate_next hT F.entry_enumerate_next ?_ (F.args_enumerate_next_1 _))))
    show wpAny _ _ (field (.ref e) 2 >>= _) _ _ _
    refine wpAny_bind (wpAny_field isE rfl (x := .ref it) rfl ?_)
    refine wpAny_bind (wpAny_nextOf_tuple_end (I.ok.hd hc) g (show s.heap.IsTuple a its.toArray from isT) (by simp; omega) fun h' x eb hx' => ?_)
    obtain ⟨ob, ho, hcl⟩ := hx'
    refine wpAny_bind (wpAny_isInstance (T := "StopIteration") (b := true) ⟨ob, ho, hcl⟩ isSubtype_stop ?_)
    exact wpAny_pure ⟨rfl, I.turned (t' := s.toks) (fun b o hb z => eb b o hb z) f0 f1 f3 f4 f5⟩
  self := fun A i s Q E st h => let ⟨⟨_, isE⟩, _⟩ := st; wpAny_pyIter_enum isE h
def iEnumT (K : PySem.W.Frag) (ta : TA) : TI := fun σ H R => ta σ H fun vs H1 => ∃ a xs, vs = [.ref a] ∧ SqT K H1 a xs ∧ R (ItEt K a) H1
theorem pi_enumT {X : Cx} {e : Expr} {ta : TA} {p pos tpos : Pos} {elts : List Expr} {kk : Nat} (hg : Gl X "enumerate") (hm : X.mg "enumerate" = none) (ha : PA X [e] ta) (st : isStar e = false) :
    PI X (.Tuple elts kk tpos) (.Call (.Name "enumerate" p) [e] [] pos) (iEnumT X.K ta) := by
  refine ⟨fun pins s σ H R I h => ?_⟩
  refine Call_ (ld_blt I hg hm boot_enumerate (PyProof.Rows.callWith_type1 (thn (ha.run pos pins s σ H _ I h) fun us s1 ⟨vs, H1, I1, r1, q1⟩ => ?_) (starEach_ok st) rfl))
  obtain ⟨a, xs, rfl, hq, q⟩ := q1
  obtain ⟨u, rfl, r⟩ := vals1 r1
  cases r
  obtain ⟨its, rv, isT, hz⟩ := I1.tuple hq
  refine en_make (begins_tuple a its.toArray) isT fun h' isE cell kp => wpAny_pyIter_enum isE ?_
  have I2 : Inv X pins σ H1 { s1 with heap := h' } := I1.kept (t' := s1.toks) kp
  have la : a < s1.heap.objs.size := by obtain ⟨_, z, _⟩ := isT; exact Heap.lt_size z
  refine ⟨s1.heap.objs.size + 1, [s1.heap.objs.size + 1, s1.heap.objs.size], _, _, H1, rfl, I2, en_turn a (s1.heap.objs.size + 1) s1.heap.objs.size, ⟨⟨.none, isE⟩, ⟨_, cell, rfl, rfl⟩, Nat.succ_ne_self _, Nat.ne_of_lt la, Nat.ne_of_gt (Nat.lt_succ_of_lt la)⟩, fun b hb => ?_, q⟩
  have hle : s1.heap.objs.size ≤ b := by
    rcases (by simpa using hb : b = s1.heap.objs.size + 1 ∨ b = s1.heap.objs.size) with rfl | rfl
    · exact Nat.le_add_right _ _
    · exact Nat.le_refl _
  exact I1.fpOk hle (I1.hok.fresh hle)
end Qx
set_option Elab.async false
set_option linter.all false
set_option maxRecDepth 100000
set_option maxHeartbeats 4000000
/-! QSnd8: targets, iterators. -/
namespace Qx
open PySem PySem.Spec PyProof.Rows L2

/-! ### targets -/
section
variable {G : Gd} {A : Slots} {m : AdP} {env : En} {σ : L2.St} {H : Hp}
theorem RE.put {i : Nat} {d : D} {v : V} (r : RE G A m env σ H) (h : Rep G m H d v) : RE G A m (env.set i (.val d)) (σ.set i (some v)) H := by
  refine ⟨by rw [List.length_set, List.length_set]; exact r.len, fun j d' e => ?_, fun j d' e => ?_, r.inj, r.mem, r.live⟩
  · by_cases c : i = j
    · subst c
      have li : i < env.length := by
        have := (List.getElem?_eq_some_iff.mp e).1
        rwa [List.length_set] at this
      rw [List.getElem?_set_self li] at e
      cases e
      exact ⟨v, List.getElem?_set_self (by rw [← r.len]; exact li), h⟩
    · rw [List.getElem?_set_ne c] at e ⊢
      exact r.val j d' e
  · by_cases c : i = j
    · subst c
      have li : i < env.length := by
        have := (List.getElem?_eq_some_iff.mp e).1
        rwa [List.length_set] at this
      rw [List.getElem?_set_self li] at e
      cases e
    · rw [List.getElem?_set_ne c] at e ⊢
      exact r.own j d' e
end
def tG (S : Sx) (t : TN) : TG := fun v σ H Q => ∃ A m env d env', RE S.G A m env σ H ∧ Rep S.G m H d v ∧ putT t d env = some env' ∧ ∀ σ', RE S.G A m env' σ' H → σ'.length = σ.length → (∀ i, i ∉ namesT t → σ'[i]? = σ[i]?) → Q σ' H
def tGs (S : Sx) (ts : List TN) : TGs := fun vs σ H Q => ∃ A m env ds env', RE S.G A m env σ H ∧ Reps S.G m H ds vs ∧ putTs ts ds env = some env' ∧ ∀ σ', RE S.G A m env' σ' H → σ'.length = σ.length → (∀ i, i ∉ namesTs ts → σ'[i]? = σ[i]?) → Q σ' H
theorem putTs_len : ∀ {ts : List TN} {ds : List D} {env env' : En}, putTs ts ds env = some env' → ts.length = ds.length
  | [], [], env, env', h => rfl
  | t :: ts, d :: ds, env, env', h => by
    simp only [putTs] at h
    rw [Option.bind_eq_some_iff] at h
    obtain ⟨e1, h1, h2⟩ := h
    rw [List.length_cons, List.length_cons, putTs_len h2]
  | [], d :: ds, env, env', h => by simp [putTs] at h
  | t :: ts, [], env, env', h => by simp [putTs] at h
section
variable {S : Sx} {k : Nat} {sc : Scope} {X : Cx}
theorem Ct.locL (h : Ct S k sc X) {x : Str} (e : isLoc sc x = true) : Loc X.env.scope x ∧ (X.fn x = true ∨ X.env.scope.names.lookup x = some .local) := by
  unfold isLoc at e
  split at e
  · rename_i q; exact ⟨.inl (h.loc x q), .inr (h.loc x q)⟩
  · rename_i q; exact ⟨.inr (h.cell x q).1, .inl (h.cell x q).2⟩
  · cases e
theorem tg_name (h : Ct S k sc X) {x : Str} {i : Nat} {pos : Pos} (hl : isLoc sc x = true) (hi : ixOf S.C.N x = some i) : PG X (.Name x pos) (tG S (.nm i)) := by
  obtain ⟨l1, l2⟩ := h.locL hl
  refine (pg_name (by rw [h.N]; exact h.nd) (h.ix hi) l1 l2).imp fun v σ H Q ⟨A, m, env, d, env', re, rp, hp, q⟩ => ?_
  simp only [putT] at hp
  obtain ⟨h1, hp⟩ := oni hp
  obtain ⟨h2, hp⟩ := oi hp
  cases hp
  exact q _ (re.put rp) (List.length_set ..) fun j hj => List.getElem?_set_ne (fun z => hj (by simp [namesT, z]))
theorem noStar {n : Nat} : ∀ {es : List Expr} {ts : List TN}, allS (es.map (cTN S.C sc n)) = some ts → (∀ e ∈ es, isStar e = false) ∧ es.length = ts.length
  | [], ts, h => by simp only [List.map_nil, allS] at h; cases h; exact ⟨by simp, rfl⟩
  | e :: es, ts, h => by
    rw [List.map_cons] at h
    cases q : cTN S.C sc n e with
    | none => rw [q] at h; simp only [allS] at h; cases h
    | some t =>
      rw [q] at h
      simp only [allS] at h
      obtain ⟨r, h1, rfl⟩ := omap h
      obtain ⟨g1, g2⟩ := noStar h1
      refine ⟨fun x hx => ?_, by simp [g2]⟩
      rcases List.mem_cons.mp hx with rfl | hx
      · cases n with
        | zero => simp [cTN] at q
        | succ n => cases x <;> first | rfl | simp [cTN] at q
      · exact g1 x hx
theorem each_ok {env : Env} : ∀ {es : List Expr}, (∀ e ∈ es, isStar e = false) → (assignEach es env).length = es.length ∧ (assignEach es env).findIdx? (·.1) = none ∧ (assignEach es env).map (·.2) = es.map fun e => assign e env
  | [], _ => ⟨rfl, rfl, rfl⟩
  | e :: es, h => by
    obtain ⟨h1, h2, h3⟩ := each_ok (es := es) (env := env) fun x hx => h x (List.mem_cons_of_mem _ hx)
    rw [assignEach_ok (h e List.mem_cons_self)]
    refine ⟨by simp [h1], ?_, by simp [h3]⟩
    rw [List.findIdx?_cons]
    simp [h2]
theorem tgs_of {ctn : Expr → Option TN} (ih : ∀ e t, ctn e = some t → PG X e (tG S t)) : ∀ {es : List Expr} {ts : List TN}, (∀ e ∈ es, isStar e = false) → allS (es.map ctn) = some ts → PGs X es (tGs S ts)
  | [], ts, _, h => by
    simp only [List.map_nil, allS] at h
    cases h
    refine ⟨fun pins s σ H vs us Q I r w => pgs_nil.run pins s σ H vs us Q I r ?_⟩
    obtain ⟨A, m, env, ds, env', re, rp, hp, q⟩ := w
    cases ds with
    | nil =>
      simp only [putTs] at hp
      cases hp
      exact ⟨rp.inv0, q σ re rfl fun _ _ => rfl⟩
    | cons d ds => simp [putTs] at hp
  | e :: es, ts, st, h => by
    rw [List.map_cons] at h
    cases q0 : ctn e with
    | none => rw [q0] at h; simp only [allS] at h; cases h
    | some t =>
      rw [q0] at h
      simp only [allS] at h
      obtain ⟨r', h1, rfl⟩ := omap h
      have st' : ∀ x ∈ es, isStar x = false := fun x hx => st x (List.mem_cons_of_mem _ hx)
      refine ⟨fun pins s σ H vs us Q I r w => (pgs_cons (ih e t q0) (tgs_of ih st' h1) (by rw [assignEach_ok (st e List.mem_cons_self)]; rfl)).run pins s σ H vs us Q I r ?_⟩
      obtain ⟨A, m, env, ds, env', re, rp, hp, q⟩ := w
      cases ds with
      | nil => simp [putTs] at hp
      | cons d ds =>
        simp only [putTs] at hp
        rw [Option.bind_eq_some_iff] at hp
        obtain ⟨e1, hp1, hp2⟩ := hp
        obtain ⟨v, vs', rfl, g1, g2⟩ := rp.inv
        refine ⟨v, vs', rfl, A, m, env, d, e1, re, g1, hp1, fun σ1 r1 l1 o1 => ⟨A, m, e1, ds, env', r1, g2, hp2, fun σ2 r2 l2 o2 => q σ2 r2 (l2.trans l1) fun j hj => ?_⟩⟩
        simp only [namesTs, List.mem_append, not_or] at hj
        rw [o2 j hj.2, o1 j hj.1]
theorem tg_ok (h : Ct S k sc X) : ∀ (n : Nat) (e : Expr) (t : TN), cTN S.C sc n e = some t → PG X e (tG S t)
  | 0, e, t, c => by simp [cTN] at c
  | n + 1, e, t, c => by
    cases e with
    | Name x p =>
      simp only [cTN] at c
      obtain ⟨hc, c⟩ := oi c
      obtain ⟨i, hi, rfl⟩ := omap c
      simp only [Bool.and_eq_true] at hc
      exact tg_name h hc.1 hi
    | Tuple es kk p =>
      simp only [cTN] at c
      obtain ⟨ts, hc, rfl⟩ := omap c
      obtain ⟨st, hl⟩ := noStar hc
      obtain ⟨g1, g2, _⟩ := each_ok (env := X.env) st
      refine (pg_tup h.calm (tgs_of (tg_ok h n) st hc) (n := es.length) g1 g2).imp fun v σ H Q ⟨A, m, env, d, env', re, rp, hp, q⟩ => ?_
      have go : ∀ (ds : List D), putTs ts ds env = some env' → (∃ a xs, v = .ref a ∧ SqT S.G.K H a xs ∧ Reps S.G m H ds xs) → gTup X.K es.length (tGs S ts) v σ H Q := fun ds hp ⟨a, xs, e, h1, h2⟩ => by
        subst e
        refine ⟨a, xs, rfl, by rw [h.hK]; exact h1, by rw [← h2.length, ← putTs_len hp, hl], A, m, env, ds, env', re, h2, hp, fun σ' r' l' o' => q σ' r' l' fun i hi => o' i ?_⟩
        simpa only [namesT] using hi
      cases d <;> simp only [putT] at hp <;> (try cases hp)
      · simp only [Rep] at rp
        obtain ⟨a, xs, e, h1, h2⟩ := rp
        exact go _ hp ⟨a, xs, e, h1.sq, h2⟩
      · simp only [Rep] at rp
        obtain ⟨a, xs, e, h1, h2⟩ := rp
        exact go _ hp ⟨a, xs, e, h1.sq, h2⟩
    | _ => simp [cTN] at c
end

/-! ### what a loop walks -/
mutual
theorem sameD_eq : ∀ (x y : D), sameD x y = true → x = y
  | .non, y, h => by cases y <;> simp [sameD] at h; rfl
  | .bl a, y, h => by cases y <;> simp [sameD] at h; rw [h]
  | .int a, y, h => by cases y <;> simp [sameD] at h; rw [h]
  | .str a, y, h => by cases y <;> simp [sameD] at h; rw [h]
  | .tup a, y, h => by
    cases y <;> simp [sameD] at h
    rw [sameDs_eq _ _ h]
  | .lst a, y, h => by
    cases y <;> simp [sameD] at h
    rw [sameDs_eq _ _ h]
  | .xtp a, y, h => by
    cases y <;> simp [sameD] at h
    rw [sameDs_eq _ _ h]
  | .dct t a b, y, h => by
    cases y <;> simp [sameD] at h
    rw [h.1.1, sameDs_eq _ _ h.1.2, sameDs_eq _ _ h.2]
  | .fn a, y, h => by cases y <;> simp [sameD] at h; rw [h]
theorem sameDs_eq : ∀ (x y : List D), sameDs x y = true → x = y
  | [], y, h => by cases y <;> simp [sameDs] at h; rfl
  | a :: x, y, h => by
    cases y <;> simp [sameDs] at h
    rw [sameD_eq _ _ h.1, sameDs_eq _ _ h.2]
end
/-- a loop's frame later on: what it walks stands as it stood -/
structure Later (S : Sx) (A : Slots) (m : AdP) (g : Qx.A × D) (H1 : Hp) (A' : Slots) (m' : AdP) (env2 : En) (σ2 : L2.St) (H2 : Hp) : Prop where
  re : RE S.G A' m' env2 σ2 H2
  kp : Kp m m' H1 H2
  same : ∀ i, g.1 = .o i → A' i = A i
  gd : gd g.1 g.2 env2 = true
structure ItOk (S : Sx) (J : L2.It) (A : Slots) (m : AdP) (g : Qx.A × D) (H1 : Hp) (xs : List D) : Prop where
  ok : ∃ (W : Hp → Prop) (Y : Nat → Hp → V → Hp → Prop), Walk J xs.length W Y ∧ ∀ A' m' env2 σ2 H2, Later S A m g H1 A' m' env2 σ2 H2 →
    W H2 ∧ ∀ i x H3, i < xs.length → Y i H2 x H3 → ∃ d, xs[i]? = some d ∧ Ex H2 H3 ∧ Rep S.G m' H3 d x
def tI (S : Sx) (it : Qx.It) : TI := fun σ H R => ∃ A m env xs g env', RE S.G A m env σ H ∧ evIt S.Φ S.R it env = some (xs, g, env') ∧
  ∀ J H1, Nx A H H1 → RE S.G A m env' σ H1 → ItOk S J A m g H1 xs → R J H1
section
variable {S : Sx} {A : Slots} {m : AdP} {env1 : En} {σ1 : L2.St} {H1 : Hp} {o : Qx.A} {d : D} {v : V}
theorem vw_later (re : RE S.G A m env1 σ1 H1) (ar : ARep S.G A m H1 o v) (e : resA env1 o = some d) {A' : Slots} {m' : AdP} {env2 : En} {σ2 : L2.St} {H2 : Hp} (l : Later S A m (o, d) H1 A' m' env2 σ2 H2) : Vw S.G m' H2 d v := by
  cases o with
  | v d' =>
    cases e
    exact .inl (Rep.mono l.kp _ _ ar)
  | o i =>
    obtain ⟨a, h1, rfl⟩ := ar
    have gd0 := l.gd
    simp only [Qx.gd] at gd0
    split at gd0
    · rename_i d2 e2
      have := sameD_eq _ _ gd0
      subst this
      obtain ⟨a', h2, _, h3⟩ := l.re.own i _ (getO_some e2)
      rw [l.same i rfl, h1] at h2
      cases h2
      exact .inr ⟨a, rfl, h3⟩
    · cases gd0
theorem itOf_some {f : D → Option (List D)} {env env' : En} {xs : List D} {g : Qx.A × D} (h : itOf o env f = some (xs, g, env')) : ∃ d, resA env o = some d ∧ f d = some xs ∧ g = (o, d) ∧ env' = env := by
  unfold itOf at h
  obtain ⟨d, h1, h⟩ := o1 h
  obtain ⟨ds, h2, h⟩ := o1L h
  cases h
  exact ⟨d, h1, h2, rfl, rfl⟩
/-- a list is walked -/
theorem it_list (re : RE S.G A m env1 σ1 H1) {ds : List D} {K : PySem.W.Frag} (hK : K = S.G.K) {a : Addr} (ar : ARep S.G A m H1 o (.ref a)) (e : resA env1 o = some (.lst ds)) : ItOk S (Itl K a) A m (o, .lst ds) H1 ds := by
  subst hK
  refine ⟨⟨fun H => ∃ vs, SqL S.G.K H a vs ∧ vs.length = ds.length, fun i H x H' => H' = H ∧ ∀ vs, SqL S.G.K H a vs → vs[i]? = some x, ⟨fun i H hi ⟨vs, h1, h2⟩ => ⟨vs, vs[i], h1, by simp⟩, fun H ⟨vs, h1, h2⟩ => ⟨vs, h1, by omega⟩, fun i H x H' hi hw h => h⟩, fun A' m' env2 σ2 H2 l => ?_⟩⟩
  obtain ⟨a', vs, ea, h1, h2⟩ := (vw_later re ar e l).lst
  cases ea
  refine ⟨⟨vs, h1, h2.length.symm⟩, fun i x H3 hi ⟨e3, hx⟩ => ?_⟩
  subst e3
  obtain ⟨v, g1, g2⟩ := h2.get (List.getElem?_eq_getElem hi)
  have := hx vs h1
  rw [g1] at this
  cases this
  exact ⟨_, List.getElem?_eq_getElem hi, Ex.refl, g2⟩
theorem it_tup (re : RE S.G A m env1 σ1 H1) {ds : List D} {K : PySem.W.Frag} (hK : K = S.G.K) {a : Addr} (ar : ARep S.G A m H1 o (.ref a)) (e : resA env1 o = some (.tup ds)) : ItOk S (Itt K a) A m (o, .tup ds) H1 ds := by
  subst hK
  refine ⟨⟨fun H => ∃ vs, SqT S.G.K H a vs ∧ vs.length = ds.length, fun i H x H' => H' = H ∧ ∀ vs, SqT S.G.K H a vs → vs[i]? = some x, ⟨fun i H hi ⟨vs, h1, h2⟩ => ⟨vs, vs[i], h1, by simp⟩, fun H ⟨vs, h1, h2⟩ => ⟨vs, h1, by omega⟩, fun i H x H' hi hw h => h⟩, fun A' m' env2 σ2 H2 l => ?_⟩⟩
  obtain ⟨a', vs, ea, h1, h2⟩ := (vw_later re ar e l).tup
  cases ea
  refine ⟨⟨vs, h1.sq, h2.length.symm⟩, fun i x H3 hi ⟨e3, hx⟩ => ?_⟩
  subst e3
  obtain ⟨v, g1, g2⟩ := h2.get (List.getElem?_eq_getElem hi)
  have := hx vs h1.sq
  rw [g1] at this
  cases this
  exact ⟨_, List.getElem?_eq_getElem hi, Ex.refl, g2⟩
theorem enu_get {ds : List D} {i : Nat} {d : D} (h : ds[i]? = some d) : (enuD ds)[i]? = some (.xtp [.int i, d]) := by
  have li := (List.getElem?_eq_some_iff.mp h).1
  unfold enuD
  rw [List.getElem?_map, List.getElem?_range li]
  simp [List.getD, h]
theorem enu_len {ds : List D} : (enuD ds).length = ds.length := by unfold enuD; simp
theorem it_enum (re : RE S.G A m env1 σ1 H1) {ds : List D} {K : PySem.W.Frag} (hK : K = S.G.K) {a : Addr} (ar : ARep S.G A m H1 o (.ref a)) (e : resA env1 o = some (.lst ds)) : ItOk S (Ite K a) A m (o, .lst ds) H1 (enuD ds) := by
  subst hK
  refine ⟨⟨fun H => ∃ vs, SqL S.G.K H a vs ∧ vs.length = ds.length, fun i H v H' => ∃ T x, v = .ref T ∧ H T = none ∧ H' = upd H T (.tup [.int (i : Nat), x]) ∧ ∀ xs, SqL S.G.K H a xs → xs[i]? = some x, ?_, fun A' m' env2 σ2 H2 l => ?_⟩⟩
  · rw [enu_len]
    exact ⟨fun i H hi ⟨vs, h1, h2⟩ => ⟨vs, vs[i], h1, by simp⟩, fun H ⟨vs, h1, h2⟩ => ⟨vs, h1, by omega⟩, fun i H x H' hi hw h => h⟩
  · obtain ⟨a', vs, ea, h1, h2⟩ := (vw_later re ar e l).lst
    cases ea
    refine ⟨⟨vs, h1, h2.length.symm⟩, fun i x H3 hi ⟨T, y, e1, hT, e3, hx⟩ => ?_⟩
    subst e1 e3
    rw [enu_len] at hi
    obtain ⟨v, g1, g2⟩ := h2.get (List.getElem?_eq_getElem hi)
    have := hx vs h1
    rw [g1] at this
    cases this
    exact ⟨_, enu_get (List.getElem?_eq_getElem hi), Ex.laid hT, rep_tupW l.re.live hT (.cons Rep.of_int (.cons g2 .nil))⟩
theorem it_enumT (re : RE S.G A m env1 σ1 H1) {ds : List D} {K : PySem.W.Frag} (hK : K = S.G.K) {a : Addr} (ar : ARep S.G A m H1 o (.ref a)) (e : resA env1 o = some (.tup ds)) : ItOk S (ItEt K a) A m (o, .tup ds) H1 (enuD ds) := by
  subst hK
  refine ⟨⟨fun H => ∃ vs, SqT S.G.K H a vs ∧ vs.length = ds.length, fun i H v H' => ∃ T x, v = .ref T ∧ H T = none ∧ H' = upd H T (.tup [.int (i : Nat), x]) ∧ ∀ xs, SqT S.G.K H a xs → xs[i]? = some x, ?_, fun A' m' env2 σ2 H2 l => ?_⟩⟩
  · rw [enu_len]
    exact ⟨fun i H hi ⟨vs, h1, h2⟩ => ⟨vs, vs[i], h1, by simp⟩, fun H ⟨vs, h1, h2⟩ => ⟨vs, h1, by omega⟩, fun i H x H' hi hw h => h⟩
  · obtain ⟨a', vs, ea, h1, h2⟩ := (vw_later re ar e l).tup
    cases ea
    refine ⟨⟨vs, h1.sq, h2.length.symm⟩, fun i x H3 hi ⟨T, y, e1, hT, e3, hx⟩ => ?_⟩
    subst e1 e3
    rw [enu_len] at hi
    obtain ⟨v, g1, g2⟩ := h2.get (List.getElem?_eq_getElem hi)
    have := hx vs h1.sq
    rw [g1] at this
    cases this
    exact ⟨_, enu_get (List.getElem?_eq_getElem hi), Ex.laid hT, rep_tupW l.re.live hT (.cons Rep.of_int (.cons g2 .nil))⟩
end
section
variable {S : Sx} {k : Nat} {sc : Scope} {X : Cx} {e : Expr} {c : E} {tg : Expr} {p pos tpos : Pos}
theorem ti_seq (h : Ct S k sc X) (s : Snd S X e c) : PI X tg e (tI S (.seq c)) := by
  refine PI.or (pi_list s.pa) (pi_tup s.pa) fun σ H R ⟨A, m, env, xs, g, env', re, ev, q⟩ => ?_
  simp only [evIt] at ev
  obtain ⟨a, e1, ev1, ev⟩ := oA ev
  obtain ⟨d, h1, h2, rfl, rfl⟩ := itOf_some ev
  cases d <;> simp only [seqD] at h2 <;> (try cases h2)
  · refine .inr ⟨A, m, env, a, _, re, ev1, fun v H1 n1 r1 a1 => ?_⟩
    obtain ⟨b, vs, rfl, g1, g2⟩ := (r1.vw a1 h1).tup
    exact ⟨b, rfl, ⟨vs, by rw [h.hK]; exact g1.sq⟩, q _ H1 n1 r1 (it_tup r1 h.hK a1 h1)⟩
  · refine .inl ⟨A, m, env, a, _, re, ev1, fun v H1 n1 r1 a1 => ?_⟩
    obtain ⟨b, vs, rfl, g1, g2⟩ := (r1.vw a1 h1).lst
    exact ⟨b, rfl, ⟨vs, by rw [h.hK]; exact g1⟩, q _ H1 n1 r1 (it_list r1 h.hK a1 h1)⟩
theorem ti_enu (h : Ct S k sc X) (s : Snd S X e c) (st : isStar e = false) (gl : Gl X "enumerate") (hm : X.mg "enumerate" = none) {elts : List Expr} {kk : Nat} : PI X (.Tuple elts kk tpos) (.Call (.Name "enumerate" p) [e] [] pos) (tI S (.enu c)) := by
  have sa := (Snds.cons st s .nil).as
  refine PI.or (pi_enum gl hm sa (starEach_ok st)) (pi_enumT gl hm sa st) fun σ H R ⟨A, m, env, xs, g, env', re, ev, q⟩ => ?_
  simp only [evIt] at ev
  obtain ⟨a, e1, ev1, ev⟩ := oA ev
  obtain ⟨d, h1, h2, rfl, rfl⟩ := itOf_some ev
  have ev1' : evAs S.Φ S.R [c] env = some ([a], env') := by simp only [evAs]; rw [ev1]
  obtain ⟨ds, h3, rfl⟩ := omap h2
  cases d <;> simp only [seqD] at h3 <;> (try cases h3)
  · refine .inr ⟨A, m, env, [a], _, re, ev1', fun vs H1 n1 r1 a1 => ?_⟩
    cases a1 with
    | cons a1 z =>
      cases z
      obtain ⟨b, vs, rfl, g1, g2⟩ := (r1.vw a1 h1).tup
      exact ⟨b, vs, rfl, by rw [h.hK]; exact g1.sq, q _ H1 n1 r1 (it_enumT r1 h.hK a1 h1)⟩
  · refine .inl ⟨A, m, env, [a], _, re, ev1', fun vs H1 n1 r1 a1 => ?_⟩
    cases a1 with
    | cons a1 z =>
      cases z
      obtain ⟨b, vs, rfl, g1, g2⟩ := (r1.vw a1 h1).lst
      exact ⟨b, vs, rfl, by rw [h.hK]; exact g1, q _ H1 n1 r1 (it_enum r1 h.hK a1 h1)⟩
theorem rngD1 {d : D} {xs : List D} (h : rngD [d] = some xs) : ∃ n : Int, d = .int n ∧ (-(2 ^ 62) ≤ n ∧ n ≤ SZ) ∧ xs = (List.range n.toNat).map fun (i : Nat) => D.int i := by
  cases d <;> simp only [rngD] at h <;> (first | cases h; done | skip)
  obtain ⟨h1, h2⟩ := oi h
  cases h2
  exact ⟨_, rfl, h1, rfl⟩
theorem rngD2 {d e : D} {xs : List D} (h : rngD [d, e] = some xs) : ∃ a b : Int, d = .int a ∧ e = .int b ∧ (-(2 ^ 62) ≤ a ∧ a < 2 ^ 62 ∧ -(2 ^ 62) ≤ b ∧ b < 2 ^ 62 ∧ b - a ≤ SZ) ∧ xs = (List.range (b - a).toNat).map fun (i : Nat) => D.int (a + i) := by
  cases d <;> cases e <;> simp only [rngD] at h <;> (first | cases h; done | skip)
  obtain ⟨h1, h2⟩ := oi h
  cases h2
  exact ⟨_, _, rfl, rfl, h1, rfl⟩
theorem rngD3 {d e f : D} {xs : List D} (h : rngD [d, e, f] = some xs) : ∃ a b c : Int, d = .int a ∧ e = .int b ∧ f = .int c ∧ (c = -1 ∧ -(2 ^ 62) ≤ a ∧ a < 2 ^ 62 ∧ -(2 ^ 62) ≤ b ∧ b < 2 ^ 62 ∧ a - b ≤ SZ) ∧ xs = (List.range (a - b).toNat).map fun (i : Nat) => D.int (a - i) := by
  cases d <;> cases e <;> cases f <;> simp only [rngD] at h <;> (first | cases h; done | skip)
  obtain ⟨h1, h2⟩ := oi h
  cases h2
  exact ⟨_, _, _, rfl, rfl, rfl, h1, rfl⟩
/-- a range -/
theorem it_rng {A : Slots} {m : AdP} {g : Qx.A × D} {H1 : Hp} {lo : Int} {n : Nat} : ItOk S (Itr lo n) A m g H1 ((List.range n).map fun (i : Nat) => D.int (lo + i)) := by
  refine ⟨⟨fun _ => True, YFn fun i => .int (lo + i), by rw [List.length_map, List.length_range]; exact walk_range, fun A' m' env2 σ2 H2 l => ⟨trivial, fun i x H3 hi ⟨e1, e2⟩ => ?_⟩⟩⟩
  subst e1 e2
  rw [List.length_map, List.length_range] at hi
  exact ⟨.int (lo + i), by rw [List.getElem?_map, List.getElem?_range hi]; rfl, Ex.refl, Rep.of_int⟩
theorem it_rngC {A : Slots} {m : AdP} {g : Qx.A × D} {H1 : Hp} {lo : Int} {n : Nat} : ItOk S (Itc lo (-1) n) A m g H1 ((List.range n).map fun (i : Nat) => D.int (lo - i)) := by
  refine ⟨⟨fun _ => True, YFn fun i => .int (lo + (i : Nat) * -1), by rw [List.length_map, List.length_range]; exact walk_rangeC, fun A' m' env2 σ2 H2 l => ⟨trivial, fun i x H3 hi ⟨e1, e2⟩ => ?_⟩⟩⟩
  subst e1 e2
  rw [List.length_map, List.length_range] at hi
  refine ⟨.int (lo - i), by rw [List.getElem?_map, List.getElem?_range hi]; rfl, Ex.refl, ?_⟩
  show Rep S.G m' H3 (D.int (lo - i)) (V.int (lo + (i : Int) * -1))
  rw [show lo + (i : Int) * -1 = lo - i by omega]
  exact Rep.of_int
theorem ti_rng1 {a : Expr} {x : E} (sa : Snd S X a x) (st : isStar a = false) (gl : Gl X "range") (hm : X.mg "range" = none) : PI X tg (.Call (.Name "range" p) [a] [] pos) (tI S (.rng [x])) := by
  refine (pi_range1 gl hm (Snds.cons st sa .nil).vs (starEach_ok st)).imp fun σ H R ⟨A, m, env, xs, g, env', re, ev, q⟩ => ?_
  simp only [evIt] at ev
  obtain ⟨ds, e1, ev1, ev⟩ := oL ev
  obtain ⟨ys, h1, ev⟩ := o1L ev
  cases ev
  refine ⟨A, m, env, ds, _, re, ev1, fun vs H1 n1 r1 a1 => ?_⟩
  have ev1' := ev1
  simp only [evEs] at ev1'
  obtain ⟨d, e2, _, ev2⟩ := oD ev1'
  cases ev2
  obtain ⟨j, rfl, hb, rfl⟩ := rngD1 h1
  obtain ⟨v, vs', rfl, g1, g2⟩ := a1.inv
  have := g2.inv0
  subst this
  simp only [Rep] at g1
  subst g1
  refine ⟨j, rfl, hb.1, Int.lt_of_le_of_lt hb.2 (by decide), q _ H1 n1 r1 ?_⟩
  have := it_rng (S := S) (A := A) (m := m) (g := (.v .non, .non)) (H1 := H1) (lo := 0) (n := j.toNat)
  simpa only [Int.zero_add] using this
theorem ti_rng2 {a b : Expr} {x y : E} (sa : Snd S X a x) (sb : Snd S X b y) (st : isStar a = false) (st2 : isStar b = false) (gl : Gl X "range") (hm : X.mg "range" = none) : PI X tg (.Call (.Name "range" p) [a, b] [] pos) (tI S (.rng [x, y])) := by
  refine (pi_range2 gl hm (Snds.cons st sa (.cons st2 sb .nil)).vs (by rw [starEach_ok st, starEach_ok st2]; rfl) (by rw [starEach_ok st2]; rfl)).imp fun σ H R ⟨A, m, env, xs, g, env', re, ev, q⟩ => ?_
  simp only [evIt] at ev
  obtain ⟨ds, e1, ev1, ev⟩ := oL ev
  obtain ⟨ys, h1, ev⟩ := o1L ev
  cases ev
  refine ⟨A, m, env, ds, _, re, ev1, fun vs H1 n1 r1 a1 => ?_⟩
  have ev1' := ev1
  simp only [evEs] at ev1'
  obtain ⟨d, e2, _, ev2⟩ := oD ev1'
  obtain ⟨dl, e3, ev3, ev2⟩ := oL ev2
  cases ev2
  obtain ⟨d2, e4, _, ev4⟩ := oD ev3
  cases ev4
  obtain ⟨i, j, rfl, rfl, hb, rfl⟩ := rngD2 h1
  obtain ⟨v, vs', rfl, g1, g2⟩ := a1.inv
  obtain ⟨v2, vs2, rfl, g3, g4⟩ := g2.inv
  have := g4.inv0
  subst this
  simp only [Rep] at g1 g3
  subst g1 g3
  exact ⟨i, j, rfl, ⟨hb.1, hb.2.1, hb.2.2.1, hb.2.2.2.1⟩, q _ H1 n1 r1 it_rng⟩
theorem ti_rng3 {a b t : Expr} {x y z : E} (sa : Snd S X a x) (sb : Snd S X b y) (sc' : Snd S X t z) (st : isStar a = false) (st2 : isStar b = false) (st3 : isStar t = false) (gl : Gl X "range") (hm : X.mg "range" = none) : PI X tg (.Call (.Name "range" p) [a, b, t] [] pos) (tI S (.rng [x, y, z])) := by
  refine (pi_range3 gl hm (Snds.cons st sa (.cons st2 sb (.cons st3 sc' .nil))).vs (by rw [starEach_ok st]) (by rw [starEach_ok st2, starEach_ok st3]; rfl)).imp fun σ H R ⟨A, m, env, xs, g, env', re, ev, q⟩ => ?_
  simp only [evIt] at ev
  obtain ⟨ds, e1, ev1, ev⟩ := oL ev
  obtain ⟨ys, h1, ev⟩ := o1L ev
  cases ev
  refine ⟨A, m, env, ds, _, re, ev1, fun vs H1 n1 r1 a1 => ?_⟩
  have ev1' := ev1
  simp only [evEs] at ev1'
  obtain ⟨d, e2, _, ev2⟩ := oD ev1'
  obtain ⟨dl, e3, ev3, ev2⟩ := oL ev2
  cases ev2
  obtain ⟨d2, e4, _, ev4⟩ := oD ev3
  obtain ⟨dl2, e5, ev5, ev4⟩ := oL ev4
  cases ev4
  obtain ⟨d3, e6, _, ev6⟩ := oD ev5
  cases ev6
  obtain ⟨i, j, c, rfl, rfl, rfl, hb, rfl⟩ := rngD3 h1
  obtain ⟨v, vs', rfl, g1, g2⟩ := a1.inv
  obtain ⟨v2, vs2, rfl, g3, g4⟩ := g2.inv
  obtain ⟨v3, vs3, rfl, g5, g6⟩ := g4.inv
  have := g6.inv0
  subst this
  simp only [Rep] at g1 g3 g5
  subst g1 g3 g5
  obtain ⟨hc, b1, b2, b3, b4, b5⟩ := hb
  subst hc
  exact ⟨i, j, -1, _, rfl, RgC.neg b1 b2 b3 b4, q _ H1 n1 r1 it_rngC⟩
end
end Qx
set_option Elab.async false
set_option linter.all false
set_option maxRecDepth 100000
set_option maxHeartbeats 4000000
/-! QSnd9: comprehensions. -/
namespace Qx
open PySem PySem.Spec PyProof.Rows L2

/-! ### the block's frame -/
theorem relab_keep {P : Str × NameKind → Bool} : ∀ {names : List (Str × NameKind)} {x : Str} {k : NameKind}, k ≠ .free → (∀ n j, P (n, j) = true → j = .free) → names.lookup x = some k → (names.map fun (n, j) => if P (n, j) then (n, NameKind.cell) else (n, j)).lookup x = some k
  | [], x, k, hk, hP, h => by simp at h
  | (n, j) :: r, x, k, hk, hP, h => by
    rw [List.map_cons]
    by_cases c : P (n, j) = true
    · have e := hP n j c
      subst e
      rw [show (match ((n, NameKind.free) : Str × NameKind) with | (n, j) => if P (n, j) then (n, NameKind.cell) else (n, j)) = (n, NameKind.cell) from if_pos c]
      rw [List.lookup_cons] at h ⊢
      split
      · rename_i hx
        rw [hx] at h
        cases h
        exact (hk rfl).elim
      · rename_i hx
        rw [hx] at h
        exact relab_keep hk hP h
    · rw [show (match ((n, j) : Str × NameKind) with | (n, j) => if P (n, j) then (n, NameKind.cell) else (n, j)) = (n, j) from if_neg c]
      rw [List.lookup_cons] at h ⊢
      split
      · rename_i hx
        rw [hx] at h
        exact h
      · rename_i hx
        rw [hx] at h
        exact relab_keep hk hP h
theorem relab_free {P : Str × NameKind → Bool} : ∀ {names : List (Str × NameKind)} {x : Str}, names.lookup x = some .free → (names.map fun (n, j) => if P (n, j) then (n, NameKind.cell) else (n, j)).lookup x = some .cell ∨ (names.map fun (n, j) => if P (n, j) then (n, NameKind.cell) else (n, j)).lookup x = some .free
  | [], x, h => by simp at h
  | (n, j) :: r, x, h => by
    rw [List.map_cons]
    by_cases c : P (n, j) = true
    · rw [show (match ((n, j) : Str × NameKind) with | (n, j) => if P (n, j) then (n, NameKind.cell) else (n, j)) = (n, NameKind.cell) from if_pos c]
      rw [List.lookup_cons] at h ⊢
      cases hx : x == n with
      | true => exact .inl rfl
      | false =>
        rw [hx] at h
        exact relab_free h
    · rw [show (match ((n, j) : Str × NameKind) with | (n, j) => if P (n, j) then (n, NameKind.cell) else (n, j)) = (n, j) from if_neg c]
      rw [List.lookup_cons] at h ⊢
      cases hx : x == n with
      | true =>
        rw [hx] at h
        cases h
        exact .inr rfl
      | false =>
        rw [hx] at h
        exact relab_free h
section
variable {S : Sx} {k : Nat} {sc scope : Scope} {X : Cx} {own : List (Str × Nat)}
theorem Ct.blkOk (h : Ct S k sc X) (b : blkC S.C.N sc scope own = true) : BlkOk X.N X.env.scope scope own := by
  have o := blkOk_by b
  refine ⟨o.kind, o.uniq, by rw [h.N]; exact o.ix, fun y hy hf => ?_, by rw [h.N]; exact o.own⟩
  rcases o.free y hy hf with z | z
  · exact .inl (h.cell _ z).1
  · exact h.free _ z
theorem Ct.blk (h : Ct S k sc X) (hk : scope.kind = .function) (s : Shared) (H : Hp) (C : Addr) (cl : List (Str × Addr)) (fp : List Addr) : Ct S k scope (X.blk s H scope (compEnvC scope cl C X.env) fp) where
  N := h.N
  nd := h.nd
  calm := h.calm
  room := h.room
  hK := h.hK
  xe := rfl
  kind := hk
  loc := fun x e => relab_keep (P := fun y => (y.2 == .free && X.env.scope.kind == .function && X.env.kindOf y.1 == some .cell)) (by decide) (fun n j z => by
    simp only [Bool.and_eq_true] at z
    exact eq_of_beq z.1.1) e
  cell := fun x e => ⟨relab_keep (P := fun y => (y.2 == .free && X.env.scope.kind == .function && X.env.kindOf y.1 == some .cell)) (by decide) (fun n j z => by
    simp only [Bool.and_eq_true] at z
    exact eq_of_beq z.1.1) e, by
      show (scope.names.lookup x == some .cell) = true
      rw [e]; rfl⟩
  free := fun x e => relab_free (P := fun y => (y.2 == .free && X.env.scope.kind == .function && X.env.kindOf y.1 == some .cell)) e
  gl := fun x e => relab_keep (P := fun y => (y.2 == .free && X.env.scope.kind == .function && X.env.kindOf y.1 == some .cell)) (by decide) (fun n j z => by
    simp only [Bool.and_eq_true] at z
    exact eq_of_beq z.1.1) e
  prg := h.prg
end

/-! ### slots wiped, put back -/
theorem wipeE_len (env : En) : ∀ vs : List Nat, (wipeE env vs).length = env.length
  | [] => rfl
  | v :: vs => by simp only [wipeE]; rw [List.length_set, wipeE_len env vs]
theorem wipeE_out {env : En} {i : Nat} : ∀ {vs : List Nat}, i ∉ vs → (wipeE env vs)[i]? = env[i]?
  | [], _ => rfl
  | v :: vs, h => by
    simp only [wipeE]
    rw [List.getElem?_set_ne (fun z => h (by rw [z]; exact List.mem_cons_self)), wipeE_out fun z => h (List.mem_cons_of_mem _ z)]
theorem wipeE_in {env : En} {i : Nat} {s : Sl} : ∀ {vs : List Nat}, i ∈ vs → (wipeE env vs)[i]? = some s → s = .no
  | [], h, _ => by cases h
  | v :: vs, h, e => by
    simp only [wipeE] at e
    by_cases c : v = i
    · subst c
      have li : v < (wipeE env vs).length := by
        have := (List.getElem?_eq_some_iff.mp e).1
        rwa [List.length_set] at this
      rw [List.getElem?_set_self li] at e
      exact (Option.some.inj e).symm
    · rw [List.getElem?_set_ne c] at e
      rcases List.mem_cons.mp h with z | z
      · exact (c z.symm).elim
      · exact wipeE_in z e
theorem backE_len (a b : En) : ∀ vs : List Nat, (backE a b vs).length = b.length
  | [] => rfl
  | v :: vs => by simp only [backE]; rw [List.length_set, backE_len a b vs]
theorem backE_out {a b : En} {i : Nat} : ∀ {vs : List Nat}, i ∉ vs → (backE a b vs)[i]? = b[i]?
  | [], _ => rfl
  | v :: vs, h => by
    simp only [backE]
    rw [List.getElem?_set_ne (fun z => h (by rw [z]; exact List.mem_cons_self)), backE_out fun z => h (List.mem_cons_of_mem _ z)]
theorem backE_in {a b : En} {i : Nat} {s : Sl} : ∀ {vs : List Nat}, i ∈ vs → (backE a b vs)[i]? = some s → s = a.getD i .no
  | [], h, _ => by cases h
  | v :: vs, h, e => by
    simp only [backE] at e
    by_cases c : v = i
    · subst c
      have li : v < (backE a b vs).length := by
        have := (List.getElem?_eq_some_iff.mp e).1
        rwa [List.length_set] at this
      rw [List.getElem?_set_self li] at e
      exact (Option.some.inj e).symm
    · rw [List.getElem?_set_ne c] at e
      rcases List.mem_cons.mp h with z | z
      · exact (c z.symm).elim
      · exact backE_in z e
theorem wipe_in {σ : L2.St} {i : Nat} : ∀ {vs : List Nat}, i ∈ vs → i < σ.length → (wipe σ vs)[i]? = some none
  | [], h, _ => by cases h
  | v :: vs, h, l => by
    show ((wipe σ vs).set v none)[i]? = some none
    by_cases c : v = i
    · subst c
      rw [List.getElem?_set_self (by rw [wipe_length]; exact l)]
    · rw [List.getElem?_set_ne c]
      rcases List.mem_cons.mp h with z | z
      · exact (c z.symm).elim
      · exact wipe_in z l
theorem wipe_eq {σ τ : L2.St} {vs : List Nat} (l : τ.length = σ.length) (h : ∀ i, i ∉ vs → τ[i]? = σ[i]?) : wipe τ vs = wipe σ vs := by
  apply List.ext_getElem?
  intro i
  by_cases c : i ∈ vs
  · by_cases lt : i < σ.length
    · rw [wipe_in c lt, wipe_in c (by rw [l]; exact lt)]
    · rw [List.getElem?_eq_none (by rw [wipe_length, l]; omega), List.getElem?_eq_none (by rw [wipe_length]; omega)]
  · rw [wipe_out c, wipe_out c, h i c]
theorem wipe_wipe {σ : L2.St} {vs : List Nat} : wipe (wipe σ vs) vs = wipe σ vs := wipe_eq (wipe_length _ _) fun i hi => wipe_out hi
section
variable {G : Gd} {A : Slots} {m m' : AdP} {env e1 : En} {σ : L2.St} {H H1 : Hp} {vs : List Nat}
theorem RE.wipe (r : RE G A m env σ H) : RE G A m (wipeE env vs) (L2.wipe σ vs) H := by
  refine ⟨by rw [wipeE_len, wipe_length]; exact r.len, fun i d e => ?_, fun i d e => ?_, r.inj, r.mem, r.live⟩
  · by_cases c : i ∈ vs
    · have := wipeE_in c e; cases this
    · rw [wipeE_out c] at e
      rw [wipe_out c]
      exact r.val i d e
  · by_cases c : i ∈ vs
    · have := wipeE_in c e; cases this
    · rw [wipeE_out c] at e
      rw [wipe_out c]
      exact r.own i d e
theorem noO_some (h : noO env vs = true) {i : Nat} (hi : i ∈ vs) : isO env i = false ∧ i < env.length := by
  have := List.all_eq_true.mp h i hi
  simp only [Bool.and_eq_true, Bool.not_eq_true', decide_eq_true_eq] at this
  exact this
theorem RE.back (r : RE G A m' (wipeE env vs) (L2.wipe σ vs) H) (r1 : RE G A m e1 σ H1) (kp : Kp m m' H1 H) (no : noO e1 vs = true) : RE G A m' (backE e1 env vs) σ H := by
  have len : env.length = σ.length := by
    have := r.len
    rwa [wipeE_len, wipe_length] at this
  refine ⟨by rw [backE_len]; exact len, fun i d e => ?_, fun i d e => ?_, r.inj, r.mem, r.live⟩
  · by_cases c : i ∈ vs
    · have := backE_in c e
      obtain ⟨h1, h2⟩ := noO_some no c
      have e3 : e1[i]? = some (.val d) := by
        rw [List.getD_eq_getElem?_getD, List.getElem?_eq_getElem h2] at this
        rw [List.getElem?_eq_getElem h2, this]
        rfl
      obtain ⟨v, g1, g2⟩ := r1.val i d e3
      exact ⟨v, g1, g2.mono kp⟩
    · rw [backE_out c] at e
      obtain ⟨v, g1, g2⟩ := r.val i d (by rw [wipeE_out c]; exact e)
      rw [wipe_out c] at g1
      exact ⟨v, g1, g2⟩
  · by_cases c : i ∈ vs
    · have := backE_in c e
      obtain ⟨h1, h2⟩ := noO_some no c
      have e3 : e1[i]? = some (.own d) := by
        rw [List.getD_eq_getElem?_getD, List.getElem?_eq_getElem h2] at this
        rw [List.getElem?_eq_getElem h2, this]
        rfl
      unfold isO at h1
      rw [e3] at h1
      cases h1
    · rw [backE_out c] at e
      obtain ⟨a, g1, g2, g3⟩ := r.own i d (by rw [wipeE_out c]; exact e)
      rw [wipe_out c] at g2
      exact ⟨a, g1, g2, g3⟩
theorem Nx.upd1 {D : Addr} {o : HO} {H0 : Hp} (n : Nx A H0 H) (hD : H0 D = none) : Nx A H0 (L2.upd H D o) :=
  ⟨fun a u e z => by rw [upd_ne (ne_of_none e hD)]; exact n.keep a u e z, fun a e => by
    by_cases c : a = D
    · rw [c, upd_same]; exact fun z => nomatch z
    · rw [upd_ne c]; exact n.live a e⟩
end
theorem compL_gd {t : TN} {vs : List Nat} {g : En → Bool} {c x : En → Option (D × En)} {xs : List D} {env : En} {r : List D × En} (h : compL t vs g c x xs env = some r) : g (wipeE env vs) = true := by
  cases xs <;> simp only [compL] at h <;> exact (oi h).1
section
variable {S : Sx} {k : Nat} {sc scope : Scope} {X : Cx}
/-- one comprehension, in plain data, as the library reads it -/
theorem comp_key {x c : E} {t : TN} {it : Qx.It} (σ : L2.St) (H : Hp) (Q : VK) (w : tV S (.comp x (namesT t) t it c) σ H Q) : tLc (tI S it) (tG S t) (tT S c) (tV S x) (namesT t) σ H Q := by
  obtain ⟨A, m, env, d, env', re, ev, q⟩ := w
  simp only [evE] at ev
  obtain ⟨xs, g, e1, ev1, ev⟩ := oI ev
  obtain ⟨no, ev⟩ := oi ev
  obtain ⟨ds, e2, ev2, ev⟩ := oL ev
  obtain ⟨hz, ev⟩ := oi ev
  cases ev
  refine ⟨A, m, env, xs, g, e1, re, ev1, fun J H1 n1 r1 iok => fun D hD => ?_⟩
  obtain ⟨W, Y, wk, later⟩ := iok.ok
  have nmD : ¬ m D := fun z => r1.live D z hD
  have nA : ∀ i, A i ≠ some D := fun i z => nmD (r1.mem i D z)
  let vs := namesT t
  let Pv : Nat → Hp → Prop := fun i H' => ∃ e don rest acc, compL t vs (gd g.1 g.2) (evE S.Φ S.R c) (evE S.Φ S.R x) (xs.drop i) e = some (rest, e2) ∧ don ++ rest = ds ∧ RE S.G A (ad m D) (wipeE e vs) (wipe σ vs) H' ∧
    H' D = some (.lst acc) ∧ Reps S.G (ad m D) H' don acc ∧ Nx A H1 H'
  have kpOf : ∀ {H' : Hp}, Nx A H1 H' → Kp m (ad m D) H1 H' := fun n => ⟨fun a o e z => n.keep a o e fun i y => z (r1.mem i a y), fun a z => z.elim (fun z => .inr (z ▸ hD)) .inl⟩
  have lat : ∀ {i : Nat} {H' : Hp} {e : En} {rest : List Qx.D}, compL t vs (gd g.1 g.2) (evE S.Φ S.R c) (evE S.Φ S.R x) (xs.drop i) e = some (rest, e2) → RE S.G A (ad m D) (wipeE e vs) (wipe σ vs) H' → Nx A H1 H' → Later S A m g H1 A (ad m D) (wipeE e vs) (wipe σ vs) H' := fun hc r n => ⟨r, kpOf n, fun _ _ => rfl, compL_gd hc⟩
  refine lc_it wk Pv ?_ ?_ ?_ ?_
  · refine ⟨e1, [], ds, [], ?_, rfl, (r1.add hD).wipe, upd_same, .nil, Nx.laid hD⟩
    rw [List.drop_zero]; exact ev2
  · rintro i H' _ ⟨e, don, rest, acc, hc, _, r, _, _, n⟩
    exact (later _ _ _ _ _ (lat hc r n)).1
  · rintro i v H' H'' hi ⟨e, don, rest, acc, hc, hds, r, hacc, rd, n⟩ hY
    obtain ⟨dx, hx, ex, rx⟩ := (later _ _ _ _ _ (lat hc r n)).2 i v H'' hi hY
    rw [List.drop_eq_getElem_cons hi] at hc
    have hdx : xs[i] = dx := by
      rw [List.getElem?_eq_getElem hi] at hx
      exact Option.some.inj hx
    rw [hdx] at hc
    simp only [compL] at hc
    obtain ⟨_, hc⟩ := oi hc
    obtain ⟨e3, hp, hc⟩ := o1N hc
    refine ⟨A, ad m D, wipeE e vs, dx, e3, r.ex ex, rx, hp, fun σ2 r2 l2 o2 => ⟨?_, ?_⟩⟩
    · rw [wipe_eq l2 o2, wipe_wipe]
    · have weq : wipe σ2 vs = wipe σ vs := by rw [wipe_eq l2 o2, wipe_wipe]
      rcases ob hc with ⟨e4, hb, hc⟩ | ⟨e4, hb, hc⟩
      · obtain ⟨dy, e5, hy, hc⟩ := oD hc
        obtain ⟨rest', e6, hr, hc⟩ := oL hc
        cases hc
        refine ⟨A, ad m D, e3, true, e4, r2, hb, fun H3 n3 r3 => iteT ?_⟩
        refine ⟨A, ad m D, e4, dy, e5, r3, hy, fun y H4 p4 => ⟨acc, ?_, ?_, ?_⟩⟩
        · exact p4.nx.keep D _ (n3.keep D _ (ex D _ hacc) nA) nA
        · rw [← rd.length]
          have := congrArg List.length hds
          rw [List.length_append, List.length_cons] at this
          rw [← sz_eq]
          omega
        · have nx4 : Nx A H1 H4 := n.trans (ex.nx.trans (n3.trans p4.nx))
          refine ⟨e5, don ++ [dy], rest', acc ++ [y], hr, by simpa using hds, ?_, upd_same, ?_, nx4.upd1 hD⟩
          · rw [← weq]
            exact (p4.re.chg (.inl rfl) nA).wipe
          · refine Reps.append ?_ (.cons (p4.rep.mono (Kp.chg (.inl rfl))) .nil)
            have k1 : Kp (ad m D) (ad m D) H' H4 := r.kp (ex.nx.trans (n3.trans p4.nx))
            exact (rd.mono k1).mono (Kp.chg (.inl rfl))
      · refine ⟨A, ad m D, e3, false, e4, r2, hb, fun H3 n3 r3 => iteF ?_⟩
        refine ⟨e4, don, rest, acc, hc, hds, ?_, n3.keep D _ (ex D _ hacc) nA, ?_, n.trans (ex.nx.trans n3)⟩
        · rw [← weq]
          exact r3.wipe
        · exact rd.mono (r.kp (ex.nx.trans n3))
  · rintro H' ⟨e, don, rest, acc, hc, hds, r, hacc, rd, n⟩
    rw [List.drop_length] at hc
    simp only [compL] at hc
    obtain ⟨_, hc⟩ := oi hc
    cases hc
    rw [List.append_nil] at hds
    subst hds
    have rb := r.back r1 (kpOf n) no
    have ho : OwnAt S.G (ad m D) H' D (.lst don) := ⟨acc, hacc, rd⟩
    exact q _ H' ⟨n1.trans n, rb.wk (fun a z => .inr z) r1.mem, (ho.weak fun a z => .inr z).rep nmD, fun _ _ => ⟨D, rfl, n1.free hD, rb, ho⟩⟩
end
end Qx
set_option Elab.async false
set_option linter.all false
set_option maxRecDepth 100000
set_option maxHeartbeats 4000000
/-! QSndA: comprehensions with two loops; the nodes. -/
namespace Qx
open PySem PySem.Spec PyProof.Rows L2

theorem compB_gd {t : TN} {vs : List Nat} {g : En → Bool} {c : En → Option (D × En)} {x : En → Option (List D × En)} {xs : List D} {env : En} {r : List D × En} (h : compB t vs g c x xs env = some r) : g (wipeE env vs) = true := by
  cases xs <;> simp only [compB] at h <;> exact (oi h).1
theorem wipeE_sub {env : En} {vs ws : List Nat} (h : ∀ i ∈ ws, i ∈ vs) : wipeE (wipeE env ws) vs = wipeE env vs := by
  have inn : ∀ {e : En} {i : Nat} {us : List Nat}, i ∈ us → i < e.length → (wipeE e us)[i]? = some .no := by
    intro e i us
    induction us with
    | nil => intro h _; cases h
    | cons u us ih =>
      intro hi hl
      simp only [wipeE]
      by_cases c : u = i
      · subst c
        rw [List.getElem?_set_self (by rw [wipeE_len]; exact hl)]
      · rw [List.getElem?_set_ne c]
        rcases List.mem_cons.mp hi with z | z
        · exact (c z.symm).elim
        · exact ih z hl
  apply List.ext_getElem?
  intro i
  by_cases c : i ∈ vs
  · by_cases lt : i < env.length
    · rw [inn c (by rw [wipeE_len]; exact lt), inn c lt]
    · rw [List.getElem?_eq_none (by rw [wipeE_len, wipeE_len]; omega), List.getElem?_eq_none (by rw [wipeE_len]; omega)]
  · rw [wipeE_out c, wipeE_out c, wipeE_out fun z => c (h i z)]
theorem wipe_sub {σ : L2.St} {vs ws : List Nat} (h : ∀ i ∈ ws, i ∈ vs) : wipe (wipe σ ws) vs = wipe σ vs :=
  wipe_eq (wipe_length _ _) fun i hi => wipe_out fun z => hi (h i z)
section
variable {S : Sx} {k : Nat} {sc scope : Scope} {X : Cx}
theorem comp2_key {x c c2 : E} {t t2 : TN} {it it2 : Qx.It} (σ : L2.St) (H : Hp) (Q : VK) (w : tV S (.comp2 x (namesT t ++ namesT t2) t it c (namesT t2) t2 it2 c2) σ H Q) :
    tLc2 (tI S it) (tG S t) (tT S c) (tI S it2) (tG S t2) (tT S c2) (tV S x) (namesT t ++ namesT t2) (namesT t2) σ H Q := by
  obtain ⟨A, m, env, d, env', re, ev, q⟩ := w
  simp only [evE] at ev
  obtain ⟨xs, g, e1, ev1, ev⟩ := oI ev
  obtain ⟨no, ev⟩ := oi ev
  obtain ⟨ds, e2, ev2, ev⟩ := oL ev
  obtain ⟨hz, ev⟩ := oi ev
  cases ev
  refine ⟨A, m, env, xs, g, e1, re, ev1, fun J H1 n1 r1 iok => fun D hD => ?_⟩
  obtain ⟨W, Y, wk, later⟩ := iok.ok
  have nmD : ¬ m D := fun z => r1.live D z hD
  have nA : ∀ i, A i ≠ some D := fun i z => nmD (r1.mem i D z)
  generalize hvs : namesT t ++ namesT t2 = vs at *
  have sub1 : ∀ i ∈ namesT t, i ∈ vs := fun i hi => by rw [← hvs]; exact List.mem_append_left _ hi
  have sub2 : ∀ i ∈ namesT t2, i ∈ vs := fun i hi => by rw [← hvs]; exact List.mem_append_right _ hi
  let inr : En → Option (List Qx.D × En) := fun e => match evIt S.Φ S.R it2 e with
    | some (ys, g2, e') => compL t2 (namesT t2) (gd g2.1 g2.2) (evE S.Φ S.R c2) (evE S.Φ S.R x) ys e'
    | none => none
  let Pv : Nat → Hp → Prop := fun i H' => ∃ e don rest acc, compB t vs (gd g.1 g.2) (evE S.Φ S.R c) inr (xs.drop i) e = some (rest, e2) ∧ don ++ rest = ds ∧ RE S.G A (ad m D) (wipeE e vs) (wipe σ vs) H' ∧
    H' D = some (.lst acc) ∧ Reps S.G (ad m D) H' don acc ∧ Nx A H1 H'
  have kpOf : ∀ {H' : Hp}, Nx A H1 H' → Kp m (ad m D) H1 H' := fun n => ⟨fun a o e z => n.keep a o e fun i y => z (r1.mem i a y), fun a z => z.elim (fun z => .inr (z ▸ hD)) .inl⟩
  have lat : ∀ {i : Nat} {H' : Hp} {e : En} {rest : List Qx.D}, compB t vs (gd g.1 g.2) (evE S.Φ S.R c) inr (xs.drop i) e = some (rest, e2) → RE S.G A (ad m D) (wipeE e vs) (wipe σ vs) H' → Nx A H1 H' → Later S A m g H1 A (ad m D) (wipeE e vs) (wipe σ vs) H' := fun hc r n => ⟨r, kpOf n, fun _ _ => rfl, compB_gd hc⟩
  refine ⟨fun i k H' => k = xs.length - i ∧ i ≤ xs.length ∧ Pv i H', ⟨xs.length, by simp, Nat.zero_le _, ?_⟩, ?_⟩
  · refine ⟨e1, [], ds, [], ?_, rfl, (r1.add hD).wipe, upd_same, .nil, Nx.laid hD⟩
    rw [List.drop_zero]; exact ev2
  rintro i kk H' ⟨rfl, hi, pv⟩
  have gW : W H' := by
    obtain ⟨e, don, rest, acc, hc, _, r, _, _, n⟩ := pv
    exact (later _ _ _ _ _ (lat hc r n)).1
  by_cases hlt : i < xs.length
  · refine .inr ⟨wk.goes i H' hlt gW, Pv (i + 1), fun H3 p3 => ⟨xs.length - (i + 1), by omega, rfl, hlt, p3⟩, fun v H'' hy => ?_⟩
    have hY := wk.yields i H' v H'' hlt gW hy
    obtain ⟨e, don, rest, acc, hc, hds, r, hacc, rd, n⟩ := pv
    obtain ⟨dx, hx, ex, rx⟩ := (later _ _ _ _ _ (lat hc r n)).2 i v H'' hlt hY
    rw [List.drop_eq_getElem_cons hlt] at hc
    have hdx : xs[i] = dx := by
      rw [List.getElem?_eq_getElem hlt] at hx
      exact Option.some.inj hx
    rw [hdx] at hc
    simp only [compB] at hc
    obtain ⟨_, hc⟩ := oi hc
    obtain ⟨e3, hp, hc⟩ := o1N hc
    refine ⟨A, ad m D, wipeE e vs, dx, e3, r.ex ex, rx, hp, fun σ2 r2 l2 o2 => ?_⟩
    have weq : wipe σ2 vs = wipe σ vs := by rw [wipe_eq l2 fun i hi => o2 i fun z => hi (sub1 i z), wipe_wipe]
    refine ⟨weq, ?_⟩
    rcases ob hc with ⟨e4, hb, hc⟩ | ⟨e4, hb, hc⟩
    · obtain ⟨dy, e5, hy', hc⟩ := oL hc
      obtain ⟨rest', e6, hr, hc⟩ := oL hc
      cases hc
      refine ⟨A, ad m D, e3, true, e4, r2, hb, fun H3 n3 r3 => iteT ?_⟩
      obtain ⟨ys, g2, e7, hi2, hin⟩ := oI hy'
      refine ⟨A, ad m D, e4, ys, g2, e7, r3, hi2, fun J1 H4 n4 r4 iok1 => ?_⟩
      obtain ⟨W1, Y1, wk1, later1⟩ := iok1.ok
      have nA4 : Nx A H1 H4 := n.trans (ex.nx.trans (n3.trans n4))
      let Pw : Nat → Hp → Prop := fun j H5 => ∃ e don1 rest1 acc, compL t2 (namesT t2) (gd g2.1 g2.2) (evE S.Φ S.R c2) (evE S.Φ S.R x) (ys.drop j) e = some (rest1, e5) ∧ don1 ++ rest1 = dy ∧ RE S.G A (ad m D) (wipeE e (namesT t2)) (wipe σ2 (namesT t2)) H5 ∧
        H5 D = some (.lst acc) ∧ Reps S.G (ad m D) H5 (don ++ don1) acc ∧ Nx A H1 H5 ∧ (∀ a o, H4 a = some o → a ≠ D → (∀ i, A i ≠ some a) → H5 a = some o)
      have lat1 : ∀ {j : Nat} {H5 : Hp} {e : En} {rest1 : List Qx.D}, compL t2 (namesT t2) (gd g2.1 g2.2) (evE S.Φ S.R c2) (evE S.Φ S.R x) (ys.drop j) e = some (rest1, e5) → RE S.G A (ad m D) (wipeE e (namesT t2)) (wipe σ2 (namesT t2)) H5 → (∀ a o, H4 a = some o → a ≠ D → (∀ i, A i ≠ some a) → H5 a = some o) →
          Later S A (ad m D) g2 H4 A (ad m D) (wipeE e (namesT t2)) (wipe σ2 (namesT t2)) H5 := fun hc r kd => ⟨r, ⟨fun a o e z => kd a o e (fun y => z (.inl y)) fun i y => z (r4.mem i a y), fun a z => .inl z⟩, fun _ _ => rfl, compL_gd hc⟩
      refine ⟨fun j k5 H5 => k5 = ys.length - j ∧ j ≤ ys.length ∧ Pw j H5, ⟨ys.length, by simp, Nat.zero_le _, ?_⟩, ?_⟩
      · refine ⟨e7, [], dy, acc, ?_, rfl, r4.wipe, n4.keep D _ (n3.keep D _ (ex D _ hacc) nA) nA, ?_, nA4, fun a o e _ _ => e⟩
        · rw [List.drop_zero]; exact hin
        · rw [List.append_nil]
          exact rd.mono (r.kp (ex.nx.trans (n3.trans n4)))
      rintro j k5 H5 ⟨rfl, hj, pw⟩
      have gW1 : W1 H5 := by
        obtain ⟨e, don1, rest1, acc, hc, _, r, _, _, _, kd⟩ := pw
        exact (later1 _ _ _ _ _ (lat1 hc r kd)).1
      by_cases hlt1 : j < ys.length
      · refine .inr ⟨wk1.goes j H5 hlt1 gW1, Pw (j + 1), fun H6 p6 => ⟨ys.length - (j + 1), by omega, rfl, hlt1, p6⟩, fun v1 H6 hy1 => ?_⟩
        have hY1 := wk1.yields j H5 v1 H6 hlt1 gW1 hy1
        obtain ⟨f, don1, rest1, acc1, hc1, hdy, r5, hacc1, rd1, nn, kd⟩ := pw
        obtain ⟨dx1, hx1, ex1, rx1⟩ := (later1 _ _ _ _ _ (lat1 hc1 r5 kd)).2 j v1 H6 hlt1 hY1
        rw [List.drop_eq_getElem_cons hlt1] at hc1
        have hdx1 : ys[j] = dx1 := by
          rw [List.getElem?_eq_getElem hlt1] at hx1
          exact Option.some.inj hx1
        rw [hdx1] at hc1
        simp only [compL] at hc1
        obtain ⟨_, hc1⟩ := oi hc1
        obtain ⟨f3, hp1, hc1⟩ := o1N hc1
        refine ⟨A, ad m D, wipeE f (namesT t2), dx1, f3, r5.ex ex1, rx1, hp1, fun σ3 r6 l3 o3 => ?_⟩
        have weq1 : wipe σ3 (namesT t2) = wipe σ2 (namesT t2) := by rw [wipe_eq l3 o3, wipe_wipe]
        refine ⟨weq1, ?_⟩
        rcases ob hc1 with ⟨f4, hb1, hc1⟩ | ⟨f4, hb1, hc1⟩
        · obtain ⟨dz, f5, hz1, hc1⟩ := oD hc1
          obtain ⟨rest2, f6, hr1, hc1⟩ := oL hc1
          cases hc1
          refine ⟨A, ad m D, f3, true, f4, r6, hb1, fun H7 n7 r7 => iteT ?_⟩
          refine ⟨A, ad m D, f4, dz, f5, r7, hz1, fun y H8 p8 => ⟨acc1, ?_, ?_, ?_⟩⟩
          · exact p8.nx.keep D _ (n7.keep D _ (ex1 D _ hacc1) nA) nA
          · rw [← rd1.length]
            have g1 := congrArg List.length hds
            have g2 := congrArg List.length hdy
            rw [List.length_append, List.length_append] at g1
            rw [List.length_append, List.length_cons] at g2
            rw [List.length_append, ← sz_eq]
            omega
          · have nx8 : Nx A H5 H8 := ex1.nx.trans (n7.trans p8.nx)
            refine ⟨f5, don1 ++ [dz], rest2, acc1 ++ [y], hr1, by simpa using hdy, ?_, upd_same, ?_, (nn.trans nx8).upd1 hD, fun a o e1 e2 e3 => ?_⟩
            · rw [← weq1]
              exact (p8.re.chg (.inl rfl) nA).wipe
            · rw [← List.append_assoc]
              refine Reps.append ?_ (.cons (p8.rep.mono (Kp.chg (.inl rfl))) .nil)
              exact (rd1.mono (r5.kp nx8)).mono (Kp.chg (.inl rfl))
            · rw [upd_ne e2]
              exact nx8.keep a o (kd a o e1 e2 e3) e3
        · refine ⟨A, ad m D, f3, false, f4, r6, hb1, fun H7 n7 r7 => iteF ?_⟩
          have nx7 : Nx A H5 H7 := ex1.nx.trans n7
          refine ⟨f4, don1, rest1, acc1, hc1, hdy, ?_, n7.keep D _ (ex1 D _ hacc1) nA, rd1.mono (r5.kp nx7), nn.trans nx7, fun a o e1 e2 e3 => nx7.keep a o (kd a o e1 e2 e3) e3⟩
          rw [← weq1]
          exact r7.wipe
      · have ej : j = ys.length := by omega
        subst ej
        obtain ⟨f, don1, rest1, acc1, hc1, hdy, r5, hacc1, rd1, nn, kd⟩ := pw
        refine .inl ⟨wk1.stops H5 gW1, ?_⟩
        rw [List.drop_length] at hc1
        simp only [compL] at hc1
        obtain ⟨_, hc1⟩ := oi hc1
        cases hc1
        rw [List.append_nil] at hdy
        subst hdy
        refine ⟨_, don ++ don1, rest', acc1, hr, by simpa using hds, ?_, hacc1, rd1, nn⟩
        have rw5 := r5.wipe (vs := vs)
        rw [wipeE_sub sub2, wipe_sub sub2, weq] at rw5
        exact rw5
    · refine ⟨A, ad m D, e3, false, e4, r2, hb, fun H3 n3 r3 => iteF ?_⟩
      refine ⟨e4, don, rest, acc, hc, hds, ?_, n3.keep D _ (ex D _ hacc) nA, ?_, n.trans (ex.nx.trans n3)⟩
      · rw [← weq]
        exact r3.wipe
      · exact rd.mono (r.kp (ex.nx.trans n3))
  · have ei : i = xs.length := by omega
    subst ei
    refine .inl ⟨wk.stops H' gW, ?_⟩
    obtain ⟨e, don, rest, acc, hc, hds, r, hacc, rd, n⟩ := pv
    rw [List.drop_length] at hc
    simp only [compB] at hc
    obtain ⟨_, hc⟩ := oi hc
    cases hc
    rw [List.append_nil] at hds
    subst hds
    have rb := r.back r1 (kpOf n) no
    have ho : OwnAt S.G (ad m D) H' D (.lst don) := ⟨acc, hacc, rd⟩
    exact q _ H' ⟨n1.trans n, rb.wk (fun a z => .inr z) r1.mem, (ho.weak fun a z => .inr z).rep nmD, fun _ _ => ⟨D, rfl, n1.free hD, rb, ho⟩⟩
end
end Qx
set_option Elab.async false
set_option linter.all false
set_option maxRecDepth 100000
set_option maxHeartbeats 4000000
/-! QSndB: the compiled expression does what the text does. -/
namespace Qx
open PySem PySem.Spec PyProof.Rows L2

theorem names1_snd (N : List Str) (t : TN) : (names1 N t).map (·.2) = namesT t := by
  unfold names1
  rw [List.map_map]
  have : ((fun (x : Str × Nat) => x.2) ∘ fun i => (N.getD i "", i)) = id := rfl
  rw [this, List.map_id]
theorem blkC_kind {N : List Str} {sc scope : Scope} {own : List (Str × Nat)} (h : blkC N sc scope own = true) : scope.kind = .function := (blkOk_by h).kind
section
variable {S : Sx} {k : Nat} {sc scope : Scope} {X : Cx} {pos : Pos}
theorem nd_comp (h : Ct S k sc X) {elt tg iter : Expr} {ifs : List Expr} {t : TN} {it : Qx.It} {c x : E} (hb : blkC S.C.N sc scope (names1 S.C.N t) = true) (hi : PI X tg iter (tI S it))
    (inn : ∀ X', Ct S k scope X' → PG X' tg (tG S t) ∧ PTs X' ifs (tT S c) ∧ PE X' elt (tV S x)) (ok : okNode iter = true) : Snd S X (.ListComp elt [⟨tg, iter, ifs, 0⟩] scope pos) (.comp x (namesT t) t it c) := by
  have hk := blkC_kind hb
  have nd : X.N.Nodup := by rw [h.N]; exact h.nd
  have hp : PE X (.ListComp elt [⟨tg, iter, ifs, 0⟩] scope pos) (tV S (.comp x (namesT t) t it c)) :=
    (pe_lc h.calm nd hi (h.blkOk hb) (fun s H C cl fp => (inn _ (h.blk hk s H C cl fp)).1) (fun s H C cl fp => (inn _ (h.blk hk s H C cl fp)).2.1) (fun s H C cl fp => (inn _ (h.blk hk s H C cl fp)).2.2) (fun _ => fold_ok ok)).imp fun σ H Q w => by
      rw [names1_snd]
      exact comp_key σ H Q w
  refine ⟨hp, pa_of rfl hp, pt_of hp (by intro _; rfl), fun _ _ i y py spos hy hl hsw => ?_⟩
  refine (ps_setLc h.calm nd hy hl hsw hi (h.blkOk hb) (fun s H C cl fp => (inn _ (h.blk hk s H C cl fp)).1) (fun s H C cl fp => (inn _ (h.blk hk s H C cl fp)).2.1) (fun s H C cl fp => (inn _ (h.blk hk s H C cl fp)).2.2) (fun _ => fold_ok ok)).imp fun D σ H w => ?_
  rw [names1_snd]
  exact comp_key σ H _ w
theorem nd_comp2 (h : Ct S k sc X) {elt tg iter tg2 iter2 : Expr} {ifs ifs2 : List Expr} {t t2 : TN} {it it2 : Qx.It} {c c2 x : E} (hb : blkC S.C.N sc scope (names1 S.C.N t ++ names1 S.C.N t2) = true) (hi : PI X tg iter (tI S it))
    (inn : ∀ X', Ct S k scope X' → PG X' tg (tG S t) ∧ PTs X' ifs (tT S c) ∧ PI X' tg2 iter2 (tI S it2) ∧ PG X' tg2 (tG S t2) ∧ PTs X' ifs2 (tT S c2) ∧ PE X' elt (tV S x)) (ok : okNode iter = true) (ok2 : okNode iter2 = true) :
    Snd S X (.ListComp elt [⟨tg, iter, ifs, 0⟩, ⟨tg2, iter2, ifs2, 0⟩] scope pos) (.comp2 x (namesT t ++ namesT t2) t it c (namesT t2) t2 it2 c2) := by
  have hk := blkC_kind hb
  have nd : X.N.Nodup := by rw [h.N]; exact h.nd
  have ev : (names1 S.C.N t ++ names1 S.C.N t2).map (·.2) = namesT t ++ namesT t2 := by rw [List.map_append, names1_snd, names1_snd]
  have hv : ∀ i ∈ namesT t2, i ∈ (names1 S.C.N t ++ names1 S.C.N t2).map (·.2) := fun i hi => by rw [ev]; exact List.mem_append_right _ hi
  have hp : PE X (.ListComp elt [⟨tg, iter, ifs, 0⟩, ⟨tg2, iter2, ifs2, 0⟩] scope pos) (tV S (.comp2 x (namesT t ++ namesT t2) t it c (namesT t2) t2 it2 c2)) :=
    (pe_lc2 h.calm nd hi (h.blkOk hb) hv (fun s H C cl fp => (inn _ (h.blk hk s H C cl fp)).1) (fun s H C cl fp => (inn _ (h.blk hk s H C cl fp)).2.1) (fun s H C cl fp => (inn _ (h.blk hk s H C cl fp)).2.2.1)
      (fun s H C cl fp => (inn _ (h.blk hk s H C cl fp)).2.2.2.1) (fun s H C cl fp => (inn _ (h.blk hk s H C cl fp)).2.2.2.2.1) (fun s H C cl fp => (inn _ (h.blk hk s H C cl fp)).2.2.2.2.2) (fun _ => fold_ok ok) (fun _ _ => fold_ok ok2)).imp fun σ H Q w => by
      rw [ev]
      exact comp2_key σ H Q w
  refine ⟨hp, pa_of rfl hp, pt_of hp (by intro _; rfl), fun _ _ i y py spos hy hl hsw => ?_⟩
  refine (ps_setLc2 h.calm nd hy hl hsw hi (h.blkOk hb) hv (fun s H C cl fp => (inn _ (h.blk hk s H C cl fp)).1) (fun s H C cl fp => (inn _ (h.blk hk s H C cl fp)).2.1) (fun s H C cl fp => (inn _ (h.blk hk s H C cl fp)).2.2.1)
      (fun s H C cl fp => (inn _ (h.blk hk s H C cl fp)).2.2.2.1) (fun s H C cl fp => (inn _ (h.blk hk s H C cl fp)).2.2.2.2.1) (fun s H C cl fp => (inn _ (h.blk hk s H C cl fp)).2.2.2.2.2) (fun _ => fold_ok ok) (fun _ _ => fold_ok ok2)).imp fun D σ H w => ?_
  rw [ev]
  exact comp2_key σ H _ w

/-! ### tables -/
theorem cBop_eq {op : Operator} {o : Bop} (h : cBop op = some o) : op = opr o := by
  cases op <;> simp [cBop] at h <;> subst h <;> rfl
theorem cCop_eq (op : CmpOp) : op = cpr (cCop op) := by cases op <;> rfl
theorem okNm_some {x : Str} (h : okNm x = true) : (x == ("__debug__" : Str)) = false ∧ (x == ("__classdict__" : Str)) = false ∧ x ≠ "__name__" := by
  unfold okNm at h
  simp only [Bool.and_eq_true, Bool.not_eq_true'] at h
  exact ⟨h.1.1, h.1.2, fun z => by rw [z] at h; exact absurd h.2 (by decide)⟩
theorem cTyN_boot {x : Str} {t : Ty} (h : cTyN x = some t) : bootBuiltins x = some (.type (tyN t)) ∧ x ∈ bltNames := by
  unfold cTyN at h
  repeat (split at h; · (cases h; rename_i e; subst e; exact ⟨by decide +kernel, by decide⟩))
  cases h
/-- a built-in function or type with its rule -/
def BiOk (S : Sx) (X : Cx) (x : Str) (b : Bi) : Prop := x ∈ bltNames ∧
  ((∃ id, bootBuiltins x = some (.builtin id) ∧ ∃ r, CallR X (.builtin id) r ∧ TellsC S.G r (biD b)) ∨ ∃ id, bootBuiltins x = some (.type id) ∧ ∃ r, CallR X (.type id) r ∧ TellsC S.G r (biD b))
theorem cBi_ok (h : Ct S k sc X) {x : Str} {n : Nat} {b : Bi} (e : cBi x n = some b) : BiOk S X x b ∧ 0 < n := by
  unfold cBi at e
  split at e
  · refine ⟨?_, by decide⟩
    split at e
    · cases e; rename_i q; subst q
      exact ⟨by decide, .inl ⟨"len", by decide +kernel, b_len h.hK⟩⟩
    split at e
    · cases e; rename_i q; subst q
      exact ⟨by decide, .inl ⟨"abs", by decide +kernel, b_abs⟩⟩
    split at e
    · cases e; rename_i q; subst q
      exact ⟨by decide, .inr ⟨"int", by decide +kernel, b_int⟩⟩
    split at e
    · cases e; rename_i q; subst q
      exact ⟨by decide, .inr ⟨"tuple", by decide +kernel, b_tup h.hK⟩⟩
    split at e
    · cases e; rename_i q; subst q
      exact ⟨by decide, .inr ⟨"list", by decide +kernel, b_lst h.hK⟩⟩
    split at e
    · cases e; rename_i q; subst q
      exact ⟨by decide, .inl ⟨"sorted", by decide +kernel, b_sort h.hK h.un⟩⟩
    split at e
    · cases e; rename_i q; subst q
      exact ⟨by decide, .inl ⟨"sum", by decide +kernel, b_sum h.hK h.calm⟩⟩
    split at e
    · cases e; rename_i q; subst q
      exact ⟨by decide, .inl ⟨"all", by decide +kernel, b_all h.hK h.calm⟩⟩
    split at e
    · cases e; rename_i q; subst q
      exact ⟨by decide, .inl ⟨"any", by decide +kernel, b_any h.hK h.calm⟩⟩
    split at e
    · cases e; rename_i q; subst q
      exact ⟨by decide, .inl ⟨"max", by decide +kernel, b_max h.hK h.calm⟩⟩
    split at e
    · cases e; rename_i q; subst q
      exact ⟨by decide, .inl ⟨"min", by decide +kernel, b_min h.hK h.calm h.un⟩⟩
    split at e
    · cases e; rename_i q; subst q
      exact ⟨by decide, .inr ⟨"str", by decide +kernel, b_str⟩⟩
    cases e
  · refine ⟨?_, by decide⟩
    split at e
    · cases e; rename_i q; subst q
      exact ⟨by decide, .inl ⟨"max", by decide +kernel, b_max2 h.calm⟩⟩
    split at e
    · cases e; rename_i q; subst q
      exact ⟨by decide, .inl ⟨"min", by decide +kernel, b_min2 h.calm⟩⟩
    cases e
  · cases e
end
end Qx
set_option Elab.async false
set_option linter.all false
set_option maxRecDepth 100000
set_option maxHeartbeats 4000000
/-! QLock: a dict locked while its items are walked; items in comprehensions; zip. -/
namespace Qx
open PySem PySem.Spec PyProof.Rows L2

/-! ### a dict is locked, unlocked -/
structure Kr (m m' : AdP) (H H' : Hp) : Prop where
  rd : ∀ b u, (∀ o w, u ≠ .frz o w) → Rd H b u → ¬ m b → Rd H' b u ∧ ¬ m' b
  tup : ∀ b o xs, H b = some (.frz o (.tup xs)) → H' b = some (.frz o (.tup xs))
section
variable {G : Gd} {m m' : AdP} {H H' : Hp}
mutual
theorem Rep.tr (k : Kr m m' H H') : ∀ (d : D) (v : V), Rep G m H d v → Rep G m' H' d v
  | .non, _, h => by simpa only [Rep] using h
  | .bl _, _, h => by simpa only [Rep] using h
  | .int _, _, h => by simpa only [Rep] using h
  | .str _, _, h => by simpa only [Rep] using h
  | .fn _, _, h => by simpa only [Rep] using h
  | .tup ds, _, h => by
    simp only [Rep] at h ⊢
    obtain ⟨a, xs, e, h1, h2⟩ := h
    obtain ⟨⟨o, q, hd⟩, n⟩ := h1
    exact ⟨a, xs, e, ⟨⟨o, k.tup a o xs q, hd⟩, (k.rd a _ (fun _ _ z => by cases z) (.inr ⟨o, q⟩) n).2⟩, Reps.tr k ds xs h2⟩
  | .xtp ds, _, h => by
    simp only [Rep] at h ⊢
    obtain ⟨a, xs, e, h1, h2⟩ := h
    exact ⟨a, xs, e, k.rd a _ (fun _ _ z => by cases z) h1.1 h1.2, Reps.tr k ds xs h2⟩
  | .lst ds, _, h => by
    simp only [Rep] at h ⊢
    obtain ⟨a, xs, e, h1, h2⟩ := h
    exact ⟨a, xs, e, h1.imp (fun z => k.rd a _ (fun _ _ z => by cases z) z.1 z.2) id, Reps.tr k ds xs h2⟩
  | .dct false ks vs, _, h => by
    simp only [Rep] at h ⊢
    obtain ⟨a, kvs, e, h1, h2, h3, h4⟩ := h
    exact ⟨a, kvs, e, (k.rd a _ (fun _ _ z => by cases z) h1 h2).1, (k.rd a _ (fun _ _ z => by cases z) h1 h2).2, h3, Reps.tr k vs _ h4⟩
  | .dct true ks vs, _, h => by
    simp only [Rep] at h ⊢
    obtain ⟨a, kvs, e, h1, h2, h3, h4⟩ := h
    exact ⟨a, kvs, e, (k.rd a _ (fun _ _ z => by cases z) h1 h2).1, (k.rd a _ (fun _ _ z => by cases z) h1 h2).2, h3, Reps.tr k vs _ h4⟩
theorem Reps.tr (k : Kr m m' H H') : ∀ (ds : List D) (xs : List V), Reps G m H ds xs → Reps G m' H' ds xs
  | [], _, h => by simpa only [Reps] using h
  | d :: ds, _, h => by
    simp only [Reps] at h ⊢
    obtain ⟨v, vs, e, h1, h2⟩ := h
    exact ⟨v, vs, e, Rep.tr k d v h1, Reps.tr k ds vs h2⟩
end
theorem OwnAt.tr {a : Addr} {d : D} (k : Kr m m' H H') (e : H' a = H a) (h : OwnAt G m H a d) : OwnAt G m' H' a d := by
  cases d with
  | lst ds => obtain ⟨xs, h1, h2⟩ := h; exact ⟨xs, e.trans h1, h2.tr k⟩
  | dct t ks vs =>
    cases t with
    | false => obtain ⟨kvs, h1, h2, h3⟩ := h; exact ⟨kvs, e.trans h1, h2, h3.tr k⟩
    | true => obtain ⟨kvs, h1, h2, h3⟩ := h; exact ⟨kvs, e.trans h1, h2, h3.tr k⟩
  | non => exact h
  | bl b => exact h
  | int b => exact h
  | str b => exact h
  | tup b => exact h
  | xtp b => exact h
  | fn b => exact h
theorem RE.tr {A : Slots} {env : En} {σ : L2.St} (r : RE G A m env σ H) (k : Kr m m H H') (e : ∀ i a, A i = some a → H' a = H a) (l : ∀ a, H a ≠ none → H' a ≠ none) : RE G A m env σ H' :=
  ⟨r.len, fun i d q => let ⟨v, h1, h2⟩ := r.val i d q; ⟨v, h1, h2.tr k⟩, fun i d q => let ⟨a, h1, h2, h3⟩ := r.own i d q; ⟨a, h1, h2, h3.tr k (e i a h1)⟩, r.inj, r.mem, fun a z => l a (r.live a z)⟩
theorem kr_lock {a : Addr} {kvs : List (Key × V)} {od : Obj} (h : H a = some (.dK kvs)) : Kr m m H (upd H a (.frz od (.dK kvs))) where
  rd := fun b w nf hw n => by
    refine ⟨?_, n⟩
    by_cases c : b = a
    · subst c
      rcases hw with hw | ⟨o2, hw⟩
      · rw [h] at hw; cases hw
        exact .inr ⟨od, upd_same⟩
      · rw [h] at hw; cases hw
    · rcases hw with hw | ⟨o2, hw⟩
      · exact .inl (by rw [upd_ne c]; exact hw)
      · exact .inr ⟨o2, by rw [upd_ne c]; exact hw⟩
  tup := fun b o xs hb => by
    rw [upd_ne (fun z => by subst z; rw [h] at hb; cases hb)]; exact hb
theorem kr_unlock {a : Addr} {kvs : List (Key × V)} {od : Obj} (h : H a = some (.frz od (.dK kvs))) : Kr m m H (upd H a (.dK kvs)) where
  rd := fun b w nf hw n => by
    refine ⟨?_, n⟩
    by_cases c : b = a
    · subst c
      rcases hw with hw | ⟨o2, hw⟩
      · rw [h] at hw; cases hw
        exact (nf _ _ rfl).elim
      · rw [h] at hw; cases hw
        exact .inl upd_same
    · rcases hw with hw | ⟨o2, hw⟩
      · exact .inl (by rw [upd_ne c]; exact hw)
      · exact .inr ⟨o2, by rw [upd_ne c]; exact hw⟩
  tup := fun b o xs hb => by
    rw [upd_ne (fun z => by subst z; rw [h] at hb; cases hb)]; exact hb
theorem live_upd {a : Addr} {o : HO} {b : Addr} (h : H b ≠ none) : upd H a o b ≠ none := by
  by_cases c : b = a
  · rw [c, upd_same]; exact fun z => nomatch z
  · rw [upd_ne c]; exact h
theorem free_upd {a : Addr} {o : HO} {b : Addr} (ha : H a ≠ none) (h : upd H a o b = none) : H b = none := by
  by_cases c : b = a
  · rw [c, upd_same] at h; cases h
  · rw [upd_ne c] at h; exact h
end
section
variable {S : Sx}
theorem itms_get {ks vs : List D} {i : Nat} {a b : D} (h1 : ks[i]? = some a) (h2 : vs[i]? = some b) : (itmsD ks vs)[i]? = some (.xtp [a, b]) := by
  have li := (List.getElem?_eq_some_iff.mp h1).1
  unfold itmsD
  rw [List.getElem?_map, List.getElem?_range li]
  simp [List.getD, h1, h2]
theorem it_items {A : Slots} {m : AdP} {H1 : Hp} {d : D} {a : Addr} {o : Obj} {kvs : List (Key × V)} {vs : List D} (ha : H1 a = some (.frz o (.dK kvs))) (nm : ¬ m a) (hr : Reps S.G m H1 vs (kvs.map (·.2))) : ItOk S (Iti a o kvs) A m (.v d, d) H1 (itmsD (kvs.map fun p => dK p.1) vs) := by
  have hlen : (itmsD (kvs.map fun p => dK p.1) vs).length = kvs.length := by unfold itmsD; simp
  refine ⟨⟨fun H => H a = some (.frz o (.dK kvs)), YPair (fun i => kvs[i]?.map fun kv => kV kv.1) (fun i => kvs[i]?.map Prod.snd), by rw [hlen]; exact walk_items, fun A' m' env2 σ2 H2 l => ⟨l.kp.keep a _ ha nm, fun i x H3 hi ⟨T, y, z, e1, hT, e3, h1, h2⟩ => ?_⟩⟩⟩
  subst e1 e3
  rw [hlen] at hi
  obtain ⟨kv, g1, g2⟩ := omap h1
  obtain ⟨kv2, g3, g4⟩ := omap h2
  rw [g1] at g3; cases g3
  subst g2 g4
  have hr2 : Reps S.G m' H2 vs (kvs.map (·.2)) := hr.mono l.kp
  have hv : (kvs.map (·.2))[i]? = some kv.2 := by rw [List.getElem?_map, g1]; rfl
  obtain ⟨dv, k1, k2⟩ := hr2.getV hv
  exact ⟨.xtp [dK kv.1, dv], itms_get (by rw [List.getElem?_map, g1]; rfl) k1, Ex.laid hT, rep_tupW l.re.live hT (.cons Rep.of_dK (.cons k2 .nil))⟩
end
end Qx
set_option Elab.async false
set_option linter.all false
set_option maxRecDepth 100000
set_option maxHeartbeats 8000000
/-! QNew: more nodes: calls of function values, starred displays, index, count, extend, zip. -/
namespace Qx
open PySem PySem.Spec PyProof.Rows L2
section
variable {S : Sx} {k n : Nat} {sc : Scope} {X : Cx} {pos apos : Pos} {p : Pos} {x : Str} {e : Expr} {c : E} {es : List Expr} {cs : List E}
theorem nd_callv (h : Ct S k sc X) {i : Nat} (sn : seen sc x = true) (hi : ixOf S.C.N x = some i) (hdb : (x == ("__debug__" : Str)) = false) (hcd : (x == ("__classdict__" : Str)) = false) (st : isStar e = false) (s : Snds S X (e :: es) cs) (sr : (backTo pos (starEach es X.env)).any (·.1) = false) :
    Snd S X (.Call (.Name x p) (e :: es) [] pos) (.callv i cs) := by
  refine Snd.mk' rfl ⟨fun pins sh σ H Q I ⟨A, m, env, d, env', re, ev, q⟩ => ?_⟩
  simp only [evE] at ev
  split at ev
  · rename_i g hg
    obtain ⟨as, e1, ev1, ev⟩ := oR ev
    obtain ⟨v, hs, rp⟩ := re.val i _ (getV_some hg)
    simp only [Rep] at rp
    obtain ⟨a, rfl, hf⟩ := rp
    obtain ⟨fd, ps, F, hk, hb, _⟩ := (h.prg.fns g a hf).ex
    refine (pe_callL (i := i) (f := a) (sp := spOf S g) (dvs := []) (E := E0) F h.room (h.ix hi) (h.vis sn) hk hb .nil pass0 s.as hdb hcd (starEach_ok st) sr).run pins sh σ H Q I ⟨hs, A, m, env, as, e1, re, ev1, fun vs H1 n1 r1 a1 => ?_⟩
    show spOf S g (vs ++ []) H1 Q E0
    rw [List.append_nil]
    exact call_core r1 a1 ev fun v H' n2 r2 rp fr => q v H' ⟨n1.trans n2, r2, rp, fun z1 z2 => by
      simp [frE] at z1⟩
  · cases ev
/-! ### displays with starred parts -/
def tSt (S : Sx) (cs : List E) (st : List Bool) : TA := fun σ H Q => ∃ A m env ds env' xs, RE S.G A m env σ H ∧ evEs S.Φ S.R cs env = some (ds, env') ∧ flatS ds st = some xs ∧ ∀ vs H', Nx A H H' → RE S.G A m env' σ H' → Reps S.G m H' xs vs → Q vs H'
inductive Sts (S : Sx) (X : Cx) : List Expr → List E → List Bool → Prop
  | nil : Sts S X [] [] []
  | one {e : Expr} {c : E} {es : List Expr} {cs : List E} {st : List Bool} : isStar e = false → Snd S X e c → Sts S X es cs st → Sts S X (e :: es) (c :: cs) (false :: st)
  | star {e : Expr} {p : Pos} {c : E} {es : List Expr} {cs : List E} {st : List Bool} : Snd S X e c → Sts S X es cs st → Sts S X (.Starred e p :: es) (c :: cs) (true :: st)
theorem Sts.pa (hK : X.K = S.G.K) : ∀ {es : List Expr} {cs : List E} {st : List Bool}, Sts S X es cs st → PA X es (tSt S cs st)
  | _, _, _, .nil => pa_nil.imp fun σ H Q ⟨A, m, env, ds, env', xs, re, ev, fl, q⟩ => by
    simp only [evEs] at ev
    cases ev
    simp only [flatS] at fl
    cases fl
    exact q [] H .refl re .nil
  | _, _, _, .one st s r => (pa_cons s.pe (r.pa hK) (starEach_ok st)).imp fun σ H Q ⟨A, m, env, ds, env', xs, re, ev, fl, q⟩ => by
    simp only [evEs] at ev
    split at ev <;> (try cases ev)
    split at ev <;> cases ev
    rename_i a e1 ev1 _ bs ev2
    simp only [flatS] at fl
    split at fl <;> cases fl
    rename_i ys fl
    refine ⟨A, m, env, a, e1, re, ev1, fun v H1 p1 => ⟨A, m, e1, bs, _, ys, p1.re, ev2, fl, fun vs H2 n2 r2 a2 => ?_⟩⟩
    exact q _ H2 (p1.nx.trans n2) r2 (.cons (p1.rep.mono (p1.re.kp n2)) a2)
  | _, _, _, .star s r => (StX.pa_star s.pe (r.pa hK)).imp fun σ H Q ⟨A, m, env, ds, env', xs, re, ev, fl, q⟩ => by
    simp only [evEs] at ev
    split at ev <;> (try cases ev)
    split at ev <;> cases ev
    rename_i a e1 ev1 _ bs ev2
    simp only [flatS] at fl
    split at fl <;> cases fl
    rename_i zs ys g1 g2
    refine ⟨A, m, env, a, e1, re, ev1, fun v H1 p1 => ?_⟩
    obtain ⟨b, us, rfl, h1, h2⟩ := seqD_vw g1 (.inl p1.rep)
    refine ⟨b, us, rfl, ?_, A, m, e1, bs, _, ys, p1.re, ev2, g2, fun vs H2 n2 r2 a2 => ?_⟩
    · rw [hK]
      exact h2.elim (fun z => .inl z.2.sq) fun z => .inr z.2
    · exact q _ H2 (p1.nx.trans n2) r2 ((h1.mono (p1.re.kp n2)).append a2)
theorem nd_tups (h : Ct S k sc X) {st : List Bool} (s : Sts S X es cs st) {x1 : Nat} : Snd S X (.Tuple es x1 pos) (.tups cs st) :=
  Snd.mk' rfl ((pe_tupX (x1 := x1) (s.pa h.hK)).imp fun σ H Q ⟨A, m, env, d, env', re, ev, q⟩ => by
    simp only [evE] at ev
    obtain ⟨ds, e1, ev1, ev⟩ := oL ev
    split at ev
    · rename_i xs fl
      obtain ⟨hz, ev⟩ := oi ev
      cases ev
      refine ⟨A, m, env, ds, _, xs, re, ev1, fl, fun vs H1 n1 r1 a1 => ⟨by rw [← a1.length]; exact sz_eq ▸ hz, (post_gives r1 n1 q).tup r1.live a1⟩⟩
    · cases ev)
/-! ### extend -/
theorem nd_ext (h : Ct S k sc X) {i : Nat} (so : PE X (.Name x p) (tA S (.own i))) (sa : Snd S X e c) (fe : frE S.C.F c = true) (st : isStar e = false) (ln : (apos.endLine == pos.line) = true) :
    Snd S X (.Call (.Attribute (.Name x p) "extend" apos) [e] [] pos) (.mm .extend i [c]) := by
  have ha : PA X [e] (tSt S [c] [false]) := Sts.pa h.hK (.one st sa .nil)
  have hv : PA X [e] (fun σ H Q => tV S c σ H fun v H1 => Q [v] H1) := (pa_cons sa.pe pa_nil (starEach_ok st)).imp fun σ H Q w => by
    obtain ⟨A, m, env, d, env', re, ev, q⟩ := w
    exact ⟨A, m, env, d, env', re, ev, fun v H1 p1 => q v H1 p1⟩
  refine Snd.mk' rfl ((pe_bm PySem.F.plainAttrs_list PySem.F.slot_list_extend PySem.F.type_list_extend mt_extend so hv (by rfl) (few_ok st) ln (starEach_ok st) rfl).imp fun σ H Q ⟨A, m, env, d, env', re, ev, q⟩ => ?_)
  simp only [evE] at ev
  split at ev <;> (try cases ev)
  rename_i ds0 h0
  obtain ⟨ds, e1, ev1, ev⟩ := oL ev
  obtain ⟨d1, h1, ev⟩ := o1 ev
  obtain ⟨rr, d', h2, ev⟩ := oP ev
  cases ev
  simp only [evEs] at ev1
  split at ev1 <;> (try cases ev1)
  rename_i dy e2 ev2
  refine ⟨A, m, env, .o i, env, re, ?_, fun v H1 n1 r1 a1 => ?_⟩
  · simp only [opE]
    rw [if_pos (by unfold isO; rw [getO_some h0])]
  · obtain ⟨a, ha, rfl⟩ := a1
    obtain ⟨a', ha', hs, ho⟩ := r1.own i _ (getO_some h0)
    rw [ha] at ha'; cases ha'
    obtain ⟨ys, g1, g2⟩ := ho
    refine ⟨.inl ⟨rfl, ys, .inl (.inl g1)⟩, A, m, env, dy, _, r1, ev2, fun v H2 p2 => ?_⟩
    simp only [mmD] at h2
    unfold extM at h2
    split at h2
    · rename_i ds2 xs2 e3
      obtain ⟨hz, h2⟩ := oi h2
      cases h2
      cases e3
      obtain ⟨b, e4, hb, rb, ob⟩ := p2.fr fe rfl
      subst e4
      obtain ⟨ws, w1, w2⟩ := ob
      obtain ⟨a', ha', hs, ho⟩ := p2.re.own i _ (getO_some h1)
      rw [ha] at ha'; cases ha'
      obtain ⟨zs, k1, k2⟩ := ho
      have w3 : Reps S.G m H2 xs2 ws := w2.mono (Kp.weak fun _ z => .inr z)
      have kp : Kp m m H2 (upd H2 a (.lst (zs ++ ws))) := ⟨fun b u e n => by rw [upd_ne (fun z => n (by rw [z]; exact p2.re.mem i a ha))]; exact e, fun _ z => .inl z⟩
      have re3 : RE S.G A m (e1.set i (.own (.lst (ds2 ++ xs2)))) σ (upd H2 a (.lst (zs ++ ws))) := p2.re.upd (getO_lt h1) ha hs ⟨_, upd_same, (k2.append w3).mono kp⟩
      refine ⟨a, b, zs, ws, rfl, rfl, k1, w1, by rw [← k2.length, ← w3.length]; exact sz_eq ▸ hz, ?_⟩
      exact q _ _ (.of (n1.trans (p2.nx.trans (Nx.upd ha))) re3 Rep.of_non (.inl rfl))
    · cases h2
/-! ### count, of a tuple known to the last -/
def tyTupX (x : V) (H : Hp) : Prop := ∃ a xs, x = .ref a ∧ TupX H a xs
theorem ty_tupX : TyOk X "tuple" tyTupX := fun pins σ H s x v I r ⟨a, xs, e, o, ho, hd⟩ => by
  subst e
  cases r
  obtain ⟨h1, h2⟩ := I.hok a _ ho
  obtain ⟨_, its, _, ob, h3, h4, _⟩ := h2
  rw [h1] at h3; cases h3
  exact ⟨⟨o, h1, h4⟩, fun b e => by cases e; exact ⟨o, h1, hd⟩⟩
def rTCnt (K : PySem.W.Frag) : V → List V → Hp → VK → Prop := fun x xs H Q => ∃ (p : Addr) (ns : List Int) (k : Int), x = .ref p ∧ xs = [.int k] ∧ TupX H p (ns.map V.int) ∧ Q (.int (ns.count k : Nat)) H
theorem mt_tcount : MtR X "tuple.count" (rTCnt X.K) := by
  intro pins s σ H x xs v us Q I rx rxs h
  obtain ⟨p, ns, k, rfl, rfl, ⟨o, hs, hd⟩, q⟩ := h
  cases rx
  obtain ⟨u, rfl, ru⟩ := rxs.one
  obtain ⟨t, rfl⟩ := ru
  obtain ⟨h1, _, its, rv, ob, h3, hc, n, hdt⟩ := I.hok p _ hs
  rw [h1] at h3
  cases h3
  obtain ⟨cls, dd, data, sl⟩ := o
  simp only at hc hdt
  subst hc hdt
  have hi := ints_of_vals rv
  refine call_meets PySem.F.slot_tuple_count ⟨_, h1, rfl⟩ PySem.F.entry_tuple_count (PySem.F.args_tuple_count_2 _ _)
    (SeqAt.tuple_countAt p its.toArray n dd sl (.int k t) (eqk k)) ⟨h1, fun y hy => (eqk_gives hi y (by simpa using hy)).at _ _, ?_⟩
  have ec : its.toArray.toList.countP (eqk k) = ns.count k := eqk_count hi
  refine ⟨.int (ns.count k : Nat), H, I.tok _, ⟨s.toks, ?_⟩, q⟩
  show Value.int ((its.toArray.toList.countP (eqk k) : Nat) : Int) s.toks = Value.int ((ns.count k : Nat) : Int) s.toks
  rw [ec]
theorem cntD_eq {dx dy d : D} (h : cntD dx dy = some d) : ∃ ds k ns, dx = .tup ds ∧ dy = .int k ∧ intsD ds = some ns ∧ d = .int (ns.count k : Nat) := by
  unfold cntD at h
  split at h
  · split at h
    · rename_i ns q; cases h; exact ⟨_, _, ns, rfl, rfl, q, rfl⟩
    · cases h
  · cases h
theorem idxD_eq {dx dy d : D} (h : idxD dx dy = some d) : ∃ ds k ns, dx = .lst ds ∧ dy = .int k ∧ intsD ds = some ns ∧ k ∈ ns ∧ d = .int (ns.idxOf k : Nat) := by
  unfold idxD at h
  split at h
  · split at h
    · rename_i ns q
      rw [Option.ite_none_right_eq_some] at h
      obtain ⟨h1, h2⟩ := h
      cases h2
      exact ⟨_, _, ns, rfl, rfl, q, List.contains_iff_mem.mp h1, rfl⟩
    · cases h
  · cases h
theorem pa_one (sa : Snd S X e c) (st : isStar e = false) : PA X [e] (fun σ H Q => tV S c σ H fun v H1 => Q [v] H1) := (pa_cons sa.pe pa_nil (starEach_ok st)).imp fun σ H Q w => by
  obtain ⟨A, m, env, d, env', re, ev, q⟩ := w
  exact ⟨A, m, env, d, env', re, ev, fun v H1 p1 => q v H1 p1⟩
theorem nd_cnt (h : Ct S k sc X) {o : Expr} {y : E} (so : Snd S X o y) (sa : Snd S X e c) (no : isSup o = false) (st : isStar e = false) (ln : (apos.endLine == pos.line) = true) :
    Snd S X (.Call (.Attribute o "count" apos) [e] [] pos) (.cnt y c) := by
  have mt : MtR X "tuple.count" (rTCnt X.K) := mt_tcount
  refine Snd.mk' rfl ((pe_mG ty_tupX PySem.F.plainAttrs_tuple PySem.F.slot_tuple_count PySem.F.type_tuple_count mt so.pe (pa_one sa st) (base_ok no) (few_ok st) ln (starEach_ok st) rfl).imp fun σ H Q ⟨A, m, env, d, env', re, ev, q⟩ => ?_)
  simp only [evE] at ev
  obtain ⟨dx, e1, ev1, ev⟩ := oD ev
  obtain ⟨dy, e2, ev2, ev⟩ := oD ev
  obtain ⟨d0, h0, ev⟩ := o1 ev
  cases ev
  obtain ⟨ds, kk, ns, rfl, rfl, q0, rfl⟩ := cntD_eq h0
  refine ⟨A, m, env, _, _, re, ev1, fun v H1 p1 => ?_⟩
  have rp := p1.rep
  simp only [Rep] at rp
  obtain ⟨a, xs, rfl, h1, h2⟩ := rp
  rw [intsD_eq q0] at h2
  have h3 := h2.ints
  subst h3
  refine ⟨⟨a, _, rfl, h1.1⟩, A, m, e1, _, _, p1.re, ev2, fun w H2 p2 => ?_⟩
  have h4 := ((p1.re.kp p2.nx).tupX h1).1
  have hw := p2.rep
  simp only [Rep] at hw
  exact ⟨a, ns, kk, rfl, by rw [hw], h4, q _ _ (.of (p1.nx.trans p2.nx) p2.re Rep.of_int (.inl rfl))⟩
/-! ### the place in a list of ints -/
theorem nd_idx (h : Ct S k sc X) {o : Expr} {y : E} (so : Snd S X o y) (sa : Snd S X e c) (no : isSup o = false) (st : isStar e = false) (ln : (apos.endLine == pos.line) = true) :
    Snd S X (.Call (.Attribute o "index" apos) [e] [] pos) (.idx y c) := by
  refine Snd.mk' rfl ((pe_bm PySem.F.plainAttrs_list PySem.F.slot_list_index PySem.F.type_list_index mt_index so.pe (pa_one sa st) (base_ok no) (few_ok st) ln (starEach_ok st) rfl).imp fun σ H Q ⟨A, m, env, d, env', re, ev, q⟩ => ?_)
  simp only [evE] at ev
  obtain ⟨dx, e1, ev1, ev⟩ := oD ev
  obtain ⟨dy, e2, ev2, ev⟩ := oD ev
  obtain ⟨d0, h0, ev⟩ := o1 ev
  cases ev
  obtain ⟨ds, kk, ns, rfl, rfl, q0, hm, rfl⟩ := idxD_eq h0
  refine ⟨A, m, env, _, _, re, ev1, fun v H1 p1 => ?_⟩
  have hr := p1.rep
  rw [intsD_eq q0] at hr
  obtain ⟨a, rfl, h1⟩ := Vw.ints (.inl hr)
  refine ⟨.inl ⟨rfl, _, by rw [h.hK]; exact h1⟩, A, m, e1, _, _, p1.re, ev2, fun w H2 p2 => ?_⟩
  have hr2 : Rep S.G m H2 (.lst (ns.map .int)) (.ref a) := hr.mono (p1.re.kp p2.nx)
  obtain ⟨a', e', h2⟩ := Vw.ints (.inl hr2)
  cases e'
  have hw := p2.rep
  simp only [Rep] at hw
  have hj := List.idxOf_lt_length_iff.mpr hm
  refine ⟨a, ns.map V.int, .int kk, ns.idxOf kk, .int kk, rfl, by rw [hw], by rw [h.hK]; exact h2, rfl, by simp [List.all_map, flatV], ?_, by simp [eqV], fun j z' hj' hz => ?_, q _ _ (.of (p1.nx.trans p2.nx) p2.re Rep.of_int (.inl rfl))⟩
  · rw [List.getElem?_map, List.getElem?_eq_getElem hj]
    simp
  · rw [List.getElem?_map] at hz
    obtain ⟨x, hx, rfl⟩ := Option.map_eq_some_iff.mp hz
    have hjl : j < ns.length := (List.getElem?_eq_some_iff.mp hx).1
    have hno := List.not_of_lt_findIdx (xs := ns) (p := (· == kk)) hj'
    have e3 : ns[j] = x := by rw [List.getElem?_eq_getElem hjl] at hx; exact Option.some.inj hx
    have : x ≠ kk := fun z => by
      rw [e3, z] at hno
      simp at hno
    simp [eqV, this]
end
end Qx
set_option Elab.async false
set_option linter.all false
set_option maxRecDepth 100000
set_option maxHeartbeats 8000000
/-! QSet: sorted(set(xs)), xs a list of ints. -/
namespace Qx
open PySem PySem.Spec PyProof.Rows L2
/-- the set just made -/
abbrev set0 (w : World) : Obj := { cls := .type "set", dict := none, data := .set #[] 0 (.fresh 0 0 (!w.params.followText "set-order")) }
section
variable {P : Program} {w : World} {A : Around} {E : Value → Shared → Prop} {s : Shared}
set_option maxHeartbeats 3200000 in
/-- set(l), l a list of ints: the set can be walked and sorted -/
theorem call_set_ints {l : Addr} {items : Array Value} (ns : List Int) {Q : Value → Shared → Prop} (hh : A.handled = none) (hl : s.heap.IsList l items) (hit : IntsAre items.toList ns) (hb : ns.length + 1 < scanBound)
    (h : ∀ (h' : Heap) (tk c : Nat), SetR w h' s.heap.objs.size (fun j => decide (j ∈ ns)) c → c ≤ ns.length → (∀ b o, s.heap.get? b = some o → h'.get? b = some o) → Q (.ref s.heap.objs.size) { s with heap := h', toks := tk }) :
    wpAny (model P w) A (call (.type "set") [.ref l]) Q E s := by
  have hsz : items.size = ns.length := by
    have q := IntsAre.length hit
    rwa [Array.length_toList] at q
  obtain ⟨c, tl, hmro⟩ := F.called_set.mro
  have hmade := F.called_set.made
  have hsub := F.called_set.sub
  refine wpAny_call (codeAny_of_tree ?_)
  show wpAny _ _ (callAny (.type "set") _) _ _ _
  refine wpAny_pure ⟨Code.quiet_builtin _ (by decide +kernel), codeAny_builtin F.entry_type_call ?_⟩
  rw [Around.under_plain (weight_type_call_type "set" [.ref l] []) rfl]
  have h1 := F.called_set.notType
  have h2 := F.called_set.canCreate
  have hct := F.typeCall_set_1 (.ref l)
  repeat (any_goals (first | assumption | wp_step))
  refine codeAny_mono (code_set_led1 (.ref l) (E := E) (Q₁ := fun obj s₁ => obj = .ref s.heap.objs.size ∧ s₁ = { s with heap := s.heap.push (set0 w) }) ⟨rfl, rfl⟩) fun r s₁ hr => ?_
  cases r with
  | error e => exact hr
  | ok fl =>
    cases fl with
    | ret obj =>
      obtain ⟨rfl, rfl⟩ := hr
      have hS : (s.heap.push (set0 w)).get? s.heap.objs.size = some (set0 w) := Heap.get?_push_size _ rfl
      have hT : Shared.TypeIs { s with heap := s.heap.push (set0 w) } (.ref s.heap.objs.size) "set" := ⟨_, hS, rfl⟩
      have hli := F.called_set.init.lookup
      have hbi := F.called_set.init.bind (.ref s.heap.objs.size)
      repeat (any_goals (first | assumption | wp_step))
      refine codeAny_mono (codeAny_call_builtin (R := wants (fun r s₂ => r = .none ∧ ∃ h' tk c, s₂ = { s with heap := h', toks := tk } ∧ SetR w h' s.heap.objs.size (fun j => decide (j ∈ ns)) c ∧ c ≤ ns.length ∧
          (∀ b o, s.heap.get? b = some o → h'.get? b = some o)) E) F.called_set.init.plain F.entry_set_init (check_set_init_1 hT ?_)) fun r₂ s₂ hr₂ => ?_
      · obtain ⟨⟨ocls, odict, odata, oslots⟩, hol, hcl, nl, hdl⟩ := hl
        simp only at hcl hdl
        subst hcl; subst hdl
        have hol' : (s.heap.push (set0 w)).get? l = some { cls := .type "list", dict := odict, data := .seq items nl, slots := oslots } := Heap.get?_push_of_some _ hol
        have hsls := F.sub_list_set
        have hslf := F.sub_list_frozenset
        have hne : (Value.type "list" == Value.type "dict") = false := by decide
        have hl1 : (s.heap.push (set0 w)).IsList l items := ⟨_, hol', rfl, nl, rfl⟩
        unfold Builtin.«set.__init__» noKeywords Builtin.Frozenset.updateFrom
        generalize hPI : pyIter = PI
        wp_walk
        subst hPI
        refine wpAny_pyIter_list hl1 ?_
        refine wpAny_bind (wpAny_runValue ?_)
        have hlS : l < s.heap.objs.size := Heap.lt_size hol
        have hneI : l ≠ (s.heap.push (set0 w)).objs.size := by
          rw [Heap.size_push]; exact Nat.ne_of_lt (Nat.lt_succ_of_lt hlS)
        have hSf : s.heap.objs.size ∉ [(s.heap.push (set0 w)).objs.size, l] := by
          rw [Heap.size_push]; simp only [List.mem_cons, List.mem_singleton, List.not_mem_nil, or_false, not_or]
          exact ⟨Nat.ne_of_lt (Nat.lt_succ_self _), Nat.ne_of_gt hlS⟩
        have hval : ∀ (i : Nat) (v : Value), items[i]? = some v → ∃ k t, ns[i]? = some k ∧ v = .int k t := fun i v hv => by
          have hi : i < ns.length := by rw [← hsz]; exact (Array.getElem?_eq_some_iff.mp hv).1
          obtain ⟨t, e⟩ := PyProof.Rows.IntsAre.int_at hit i v (by rw [Array.getElem?_toList]; exact hv)
          refine ⟨ns[i], t, List.getElem?_eq_getElem hi, ?_⟩
          rw [e, List.getD_eq_getElem?_getD, List.getElem?_eq_getElem hi] <;> rfl
        refine set_update_ints ((Walks.list (show A.in1.in1.in1.handled = none by simp [hh]) _ l hneI items).toS) s.heap.objs.size
          hSf ns hsz hb hval (items.size - 0) 0 _ (by omega) (Nat.zero_le _)
          ⟨⟨_, Heap.get?_push_size _ rfl, rfl, rfl⟩, (hl1.push _)⟩ ⟨0, Nat.le_refl 0, setR_new_at (Heap.get?_push_of_some _ hS)⟩ ?_
        intro s' c' hm hc' hS'
        obtain ⟨h', g2, d', tk', os'⟩ := s'
        have eg : g2 = s.gens := hm.gens
        have ed : d' = s.drawn := hm.drawn
        have eo : os' = s.os := hm.os
        subst eg; subst ed; subst eo
        show wpAny _ _ _ _ _ _
        refine wpAny_pure ?_
        show wpAny _ _ (ret Value.none) _ _ _
        rw [hsz] at hc'
        refine wpAny_pure ⟨rfl, h', tk', c', rfl, hS', hc', fun b o e => ?_⟩
        have hb0 : b < s.heap.objs.size := Heap.lt_size e
        refine hm.heap b o ?_ (Heap.get?_push_of_some _ (Heap.get?_push_of_some _ e))
        have hb2 : b ≠ (s.heap.push (set0 w)).objs.size := by
          rw [Heap.size_push]; exact Nat.ne_of_lt (Nat.lt_succ_of_lt hb0)
        simp only [List.mem_cons, List.mem_singleton, List.not_mem_nil, or_false, not_or]
        exact ⟨Nat.ne_of_lt hb0, hb2⟩
      · cases r₂ with
        | error e => exact hr₂
        | ok fl₂ =>
          cases fl₂ with
          | ret r =>
            obtain ⟨rfl, h', tk, c', rfl, hS', hc', hk'⟩ := hr₂
            repeat (any_goals (first | assumption | wp_step))
            exact h _ _ _ hS' hc' hk'
          | _ => exact hr₂.elim
    | _ => exact hr.elim
end
section
variable {X : Cx} {a : Expr} {ta : TE}
def tSSet (K : PySem.W.Frag) (ta : TE) : TE := fun σ H Q => ta σ H fun x H1 => ∃ (l : Addr) (ns : List Int), x = .ref l ∧ SqL K H1 l (ns.map V.int) ∧ ns.length < 64 ∧
  ∀ (ms : List Int) (p : Addr), ms.Pairwise (· < ·) → (∀ k, k ∈ ms ↔ k ∈ ns) → H1 p = none → Q (.ref p) (upd H1 p (.lst (ms.map V.int)))
theorem pe_sset {p p2 q pos : Pos} (hc : X.calm = true) (hg : Gl X "sorted") (hm : X.mg "sorted" = none) (hg2 : Gl X "set") (hm2 : X.mg "set" = none) (ha : PE X a ta)
    (na : starEach [a] X.env = (false, eval a X.env) :: starEach [] X.env) : PE X (.Call (.Name "sorted" p) [.Call (.Name "set" p2) [a] [] q] [] pos) (tSSet X.K ta) := by
  refine ⟨fun pins s σ H Q I h => ?_⟩
  refine Call_ (ld_blt I hg hm boot_sorted ?_)
  refine PyProof.Rows.callWith_builtin1 (PyProof.Rows.args_cons ?_ rfl) rfl rfl
  refine Call_ (ld_blt I hg2 hm2 PyProof.Rows.boot_set ?_)
  refine PyProof.Rows.callWith_type1 (PyProof.Rows.args_cons (thn (ha.run pins s σ H _ I h) fun v s1 ⟨x, H1, I1, r1, q1⟩ => PyProof.Rows.args_nil ?_) na) na rfl
  obtain ⟨l, ns, rfl, hq, h64, q1⟩ := q1
  cases r1
  obtain ⟨its, r, pl, hz⟩ := I1.list hq
  refine call_set_ints ns (I1.ok.hd hc) pl.isList (by simpa using r.ints) (by unfold scanBound; omega) fun h' tk c hS hcl hk => ?_
  refine PyProof.Rows.args_nil ?_
  have I2 : Inv X pins σ H1 { s1 with heap := h', toks := tk } := I1.kept hk
  have fin : ∀ s2 : Shared, Inv X pins σ H1 s2 → SetR X.w s2.heap s1.heap.objs.size (fun j => decide (j ∈ ns)) c → wpAny (model X.prog X.w) X.A (call (.builtin "sorted") [.ref s1.heap.objs.size]) (EP X pins σ Q) X.xe s2 := ?fin
  exact fin _ I2 hS
  intro s2 I2 hS
  refine sorted_set hS (I2.ok.hd hc) (by omega) fun s' b out cc ms k g o hp hg' hi hs hm' hl => ?_
  have hn : H1 b = none := I2.hok.fresh hp
  have hln : (ms.map V.int).length ≤ sizeLine := by rw [List.length_map, hl, sizeLine_eq]; omega
  have J : Inv X pins σ (upd H1 b (.lst (ms.map V.int))) { s2 with heap := s'.heap, gens := s'.gens, drawn := s'.drawn, toks := s'.toks } :=
    I2.call (ch := []) (Un.laid k hp hn) (I2.hok.laid k hp ⟨hln, out.toList, cc, vals_of_ints hi, hg'⟩) (by rw [g]; exact I2.bare) (fun _ z => nomatch z)
  have e : s' = { s2 with heap := s'.heap, gens := s'.gens, drawn := s'.drawn, toks := s'.toks } := by
    cases s'
    cases s2
    cases o
    rfl
  rw [e]
  exact ⟨.ref b, _, J, rfl, q1 ms b hs (fun j => by rw [hm' j, decide_eq_true_eq]) hn⟩
end
theorem mem_dedup {k : Int} : ∀ {ns : List Int}, k ∈ dedup ns ↔ k ∈ ns
  | [] => Iff.rfl
  | a :: r => by
    simp only [dedup]
    split
    · rename_i hc
      rw [mem_dedup, List.mem_cons]
      refine ⟨.inr, fun z => z.elim (fun e => by subst e; exact List.contains_iff_mem.mp hc) id⟩
    · rw [List.mem_cons, List.mem_cons, mem_dedup]
theorem nodup_dedup : ∀ {ns : List Int}, (dedup ns).Nodup
  | [] => List.nodup_nil
  | a :: r => by
    simp only [dedup]
    split
    · exact nodup_dedup
    · rename_i hc
      refine List.nodup_cons.mpr ⟨fun z => hc (List.contains_iff_mem.mpr (mem_dedup.mp z)), nodup_dedup⟩
theorem sset_the {ms ns : List Int} (h1 : ms.Pairwise (· < ·)) (h2 : ∀ k, k ∈ ms ↔ k ∈ ns) : ms = sortI (dedup ns) := by
  refine sortI_the ((List.perm_ext_iff_of_nodup (h1.imp fun h => Int.ne_of_lt h) nodup_dedup).mpr fun k => by rw [h2, mem_dedup]) (h1.imp fun h => Int.le_of_lt h)
section
variable {S : Sx} {k n : Nat} {sc : Scope} {X : Cx} {pos p p2 : Pos} {a : Expr} {x : E}
theorem nd_sset (h : Ct S k sc X) {p1 p2 : Pos} (sa : Snd S X a x) (st : isStar a = false) (gl : Gl X "sorted") (hm : X.mg "sorted" = none) (gr : Gl X "set") (hr : X.mg "set" = none) :
    Snd S X (.Call (.Name "sorted" p1) [.Call (.Name "set" p) [a] [] p2] [] pos) (.bi .sortedSet [x]) :=
  Snd.mk' rfl ((pe_sset h.calm gl hm gr hr sa.pa (starEach_ok st)).imp fun σ H Q ⟨A, m, env, d, env', re, ev, q⟩ => by
    obtain ⟨u, dx, ev2, h1, hb⟩ := bi1_ev rfl ev
    unfold sortSetB at hb
    split at hb
    · rename_i ds
      split at hb
      · rename_i ns e0
        obtain ⟨hl, hb⟩ := oi hb
        cases hb
        refine ⟨A, m, env, u, _, re, ev2, fun v H1 n1 r1 a1 => ?_⟩
        have hv := r1.vw a1 h1
        rw [intsD_eq e0] at hv
        obtain ⟨l, rfl, h3⟩ := hv.ints
        refine ⟨l, ns, rfl, by rw [h.hK]; exact h3, hl, fun ms p q1 q2 hp => ?_⟩
        rw [sset_the q1 q2]
        exact (post_gives r1 n1 q).lst r1.live (Reps.of_ints _) p hp
      · cases hb
    · cases hb)
end
end Qx
set_option Elab.async false
set_option linter.all false
set_option maxRecDepth 100000
set_option maxHeartbeats 8000000
/-! QDic: dict(t), t a tuple of pairs. -/
namespace Qx
open PySem PySem.Spec PyProof.Rows L2
section
variable {X : Cx}
theorem pairs_ofX {pins : List (Addr × Obj)} {σ : L2.St} {H : Hp} {s : Shared} (I : Inv X pins σ H s) : ∀ {ts : List Addr} {kvs : List (Key × V)}, Paired (fun p kv => SqT X.K H p [kV kv.1, kv.2]) ts kvs →
    ∃ (prs : List (Key × Value)) (ps : List (Value × Value)), KV kvs prs ∧ prs.length = ts.length ∧ ps.length = ts.length ∧ ∀ (j : Nat) (u v : Value), ps[j]? = some (u, v) → ∃ (b : Addr) (kk : Key), ts[j]? = some b ∧ prs[j]? = some (kk, v) ∧ IsTup s.heap b #[u, v] ∧ keyIs kk u = true
  | _, _, .nil => ⟨[], [], .nil, rfl, rfl, fun j u v e => by simp at e⟩
  | _, _, .cons (a := p) (b := kv) h t => by
    obtain ⟨prs, ps, r, hl, hl2, hp⟩ := pairs_ofX I t
    obtain ⟨its, rv, ht, _⟩ := I.tuple h
    obtain ⟨u, y, ei, ru, ry⟩ := vals2 rv
    subst ei
    refine ⟨(kv.1, y) :: prs, (u, y) :: ps, .cons ⟨rfl, ry⟩ r, by rw [List.length_cons, List.length_cons, hl], by rw [List.length_cons, List.length_cons, hl2], fun j u' v' e => ?_⟩
    cases j with
    | zero =>
      cases (Option.some.inj e : (u, y) = (u', v'))
      exact ⟨p, kv.1, rfl, rfl, ht, kV_is (P := X.prog) (w := X.w) ru⟩
    | succ j =>
      obtain ⟨b, kk, e1, e2, e3, e4⟩ := hp j u' v' (by simpa using e)
      exact ⟨b, kk, by simpa using e1, by simpa using e2, e3, e4⟩
def rDicT (K : PySem.W.Frag) : List V → Hp → VK → Prop := fun xs H Q => ∃ (a : Addr) (ts : List Addr) (kvs : List (Key × V)), xs = [.ref a] ∧ TupX H a (ts.map V.ref) ∧ Paired (fun p kv => SqT K H p [kV kv.1, kv.2]) ts kvs ∧
    ∀ p, H p = none → Q (.ref p) (upd H p (.dK (mergeK [] kvs)))
theorem call_dictT (hcalm : X.calm = true) : CallR X (.type "dict") (rDicT X.K) := by
  intro pins s σ H xs us Q I r q
  obtain ⟨a, ts, kvs, ex, ⟨o, ho, hdict⟩, hp, q⟩ := q
  subst ex
  obtain ⟨u, eu, rx⟩ := vals1 r
  subst eu
  cases rx
  obtain ⟨h1, hz, its, rv, ob, h3, hc, n, hd⟩ := I.hok a _ ho
  rw [h1] at h3
  cases h3
  have ei := refs_at rv
  subst ei
  rw [List.length_map] at hz
  obtain ⟨prs, ps, rel, hl, hl2, hpr⟩ := pairs_ofX I hp
  refine PySem.call_dict_pairs (knd := mixKind X.prog X.w) (kvs := prs) (PairArg.tuple a (ts.map Value.ref).toArray (fun j => ts.getD j 0) ps) (I.ok.hd hcalm) ⟨⟨o, n, h1, hc, hdict, hd⟩, by simp [hl2], fun j kk v e => ?_⟩ ⟨by rw [hl, hl2], fun j kk v e => ?_⟩ (by rw [hl2]; exact hz) fun h' tk hd' k => ?_
  · obtain ⟨b, key, e1, e2, e3, e4⟩ := hpr j kk v e
    have e5 : ts.getD j 0 = b := by rw [List.getD_eq_getElem?_getD, e1]; rfl
    show _ = some (Value.ref (ts.getD j 0)) ∧ PairAt s.heap (ts.getD j 0) kk v
    rw [e5]
    exact ⟨by simp [e1], .inl e3⟩
  · obtain ⟨b, key, e1, e2, e3, e4⟩ := hpr j kk v e
    exact ⟨key, e2, e4⟩
  · have hm : (s.heap.objs.size == sysModules) = false := beq_eq_false_iff_ne.mpr (Nat.ne_of_gt I.big)
    have hlen : (mergeK [] kvs).length ≤ sizeLine := by
      refine Nat.le_trans (length_mergeK kvs []) ?_
      rw [List.length_nil, Nat.zero_add, rel.length, hl]
      exact hz
    exact ⟨.ref s.heap.objs.size, upd H s.heap.objs.size (.dK (mergeK [] kvs)), I.laid (t' := tk) (fun b o e => k b o (by simp) e) (Nat.le_refl _) (show ObjOk X.prog X.w _ _ _ (.dK (mergeK [] kvs)) from ⟨hlen, hm, merged [] prs, KV.merge rel .nil, hd'⟩), rfl, q _ (I.hok.fresh (Nat.le_refl _))⟩
end
section
variable {G : Gd} {m : AdP} {H : Hp}
theorem dic_reps : ∀ {ds : List D} {xs : List V} {ks vs : List D}, pairsD ds = some (ks, vs) → Reps G m H ds xs →
    ∃ (ts : List Addr) (kvs : List (Key × V)), xs = ts.map V.ref ∧ Paired (fun p kv => SqT G.K H p [kV kv.1, kv.2]) ts kvs ∧ ks = kvs.map (fun p => dK p.1) ∧ Reps G m H vs (kvs.map (·.2))
  | [], xs, ks, vs, e, h => by
    simp only [pairsD] at e
    cases e
    exact ⟨[], [], h.inv0, .nil, rfl, .nil⟩
  | d :: ds, xs, ks, vs, e, h => by
    simp only [pairsD] at e
    split at e <;> cases e
    rename_i k v ks0 vs0 h1 h2
    obtain ⟨x, xs', rfl, r1, r2⟩ := h.inv
    obtain ⟨ts, kvs, rfl, p1, rfl, p3⟩ := dic_reps h2 r2
    unfold pairD at h1
    split at h1
    · split at h1 <;> cases h1
      rename_i hk
      simp only [Rep] at r1
      obtain ⟨a, ys, rfl, g1, g2⟩ := r1
      obtain ⟨y, ys', rfl, q1, q2⟩ := g2.inv
      obtain ⟨z, zs', rfl, q3, q4⟩ := q2.inv
      have := q4.inv0
      subst this
      have hkey : ∃ key : Key, k = dK key ∧ y = kV key := by
        cases k <;> simp only [isKey] at hk <;> (first | cases hk; done | skip)
        · rename_i i
          simp only [Rep] at q1
          exact ⟨.inl i, rfl, q1⟩
        · rename_i i
          simp only [Rep] at q1
          exact ⟨.inr i, rfl, q1⟩
      obtain ⟨key, rfl, rfl⟩ := hkey
      exact ⟨a :: ts, (key, z) :: kvs, rfl, .cons g1.sq p1, rfl, .cons q3 p3⟩
    · cases h1
end
section
variable {S : Sx} {k n : Nat} {sc : Scope} {X : Cx} {pos p p1 : Pos} {a : Expr} {x : E}
theorem nd_dic (h : Ct S k sc X) (sa : Snd S X a x) (st : isStar a = false) (gl : Gl X "dict") (hm : X.mg "dict" = none) :
    Snd S X (.Call (.Name "dict" p1) [a] [] pos) (.dic x) :=
  Snd.mk' rfl ((pe_callTy (call_dictT h.calm) gl hm (by decide +kernel) (Snds.cons st sa .nil).vs (by decide) (by rfl) (starEach_ok st) rfl).imp fun σ H Q ⟨A, m, env, d, env', re, ev, q⟩ => by
    simp only [evE] at ev
    obtain ⟨dx, e1, ev1, ev⟩ := oD ev
    obtain ⟨d', hd, ev⟩ := o1 ev
    cases ev
    refine ⟨A, m, env, [dx], _, re, by simp only [evEs]; rw [ev1], fun vs H1 n1 r1 a1 => ?_⟩
    obtain ⟨v, vs', rfl, g1, g2⟩ := a1.inv
    have := g2.inv0
    subst this
    unfold dictB at hd
    split at hd
    · rename_i ds
      obtain ⟨⟨ks, vs⟩, e0, rfl⟩ := omap hd
      simp only [Rep] at g1
      obtain ⟨b, xs, rfl, t1, t2⟩ := g1
      obtain ⟨ts, kvs, rfl, p1, rfl, p3⟩ := dic_reps e0 t2
      refine ⟨b, ts, kvs, rfl, t1.1, by rw [h.hK]; exact p1, fun p hp => ?_⟩
      obtain ⟨f1, f2⟩ := fold_put (kvs0 := []) p3 .nil
      refine q _ _ (.of (n1.trans (Nx.laid hp)) (r1.laid hp) ?_ (.inl rfl))
      simp only [Rep]
      exact ⟨p, mergeK [] kvs, rfl, .inl upd_same, fun z => r1.live p z hp, f1, f2.mono (Ex.laid hp).kp⟩
    · cases hd)
end
end Qx
set_option Elab.async false
set_option linter.all false
set_option maxRecDepth 100000
set_option maxHeartbeats 4000000
/-! QItm: zip; a comprehension over the items of a dict. -/
namespace Qx
open PySem PySem.Spec PyProof.Rows L2
/-! ### zip -/
section
variable {S : Sx} {A : Slots} {m : AdP} {H1 : Hp} {g : Qx.A × D}
theorem zip_get {xs ys : List D} {i : Nat} {a b : D} (h1 : xs[i]? = some a) (h2 : ys[i]? = some b) : (zipD xs ys)[i]? = some (.xtp [a, b]) := by
  have l1 := (List.getElem?_eq_some_iff.mp h1).1
  have l2 := (List.getElem?_eq_some_iff.mp h2).1
  unfold zipD
  rw [List.getElem?_map, List.getElem?_range (by omega)]
  simp [List.getD, h1, h2]
theorem it_zipL {K : PySem.W.Frag} (hK : K = S.G.K) {a b : Addr} {ds es : List D} (ha : Rep S.G m H1 (.lst ds) (.ref a)) (hb : Rep S.G m H1 (.lst es) (.ref b)) (hl : ds.length = es.length) (gv : ∃ d, g.1 = .v d) : ItOk S (Itz K a b) A m g H1 (zipD ds es) := by
  subst hK
  have hlen : (zipD ds es).length = ds.length := by unfold zipD; simp [hl]
  refine ⟨⟨fun H => ∃ xs ys, SqL S.G.K H a xs ∧ SqL S.G.K H b ys ∧ xs.length = ds.length ∧ ys.length = ds.length,
    fun i H v H' => ∃ T x y, v = .ref T ∧ H T = none ∧ H' = upd H T (.tup [x, y]) ∧ (∀ xs, SqL S.G.K H a xs → xs[i]? = some x) ∧ ∀ ys, SqL S.G.K H b ys → ys[i]? = some y, ?_, fun A' m' env2 σ2 H2 l => ?_⟩⟩
  · rw [hlen]
    exact ⟨fun i H hi ⟨xs, ys, h1, h2, h3, h4⟩ => ⟨xs, ys, xs[i], ys[i], h1, h2, by simp, by simp⟩, fun H ⟨xs, ys, h1, h2, h3, h4⟩ => ⟨xs, ys, h1, h2, .inl (by omega)⟩, fun i H x H' hi hw h => h⟩
  · obtain ⟨a', xs, e1, h1, h2⟩ := Vw.lst (.inl (ha.mono l.kp))
    cases e1
    obtain ⟨b', ys, e2, h3, h4⟩ := Vw.lst (.inl (hb.mono l.kp))
    cases e2
    refine ⟨⟨xs, ys, h1, h3, h2.length.symm, by rw [hl]; exact h4.length.symm⟩, fun i x H3 hi ⟨T, y, z, e1, hT, e3, hx, hy⟩ => ?_⟩
    subst e1 e3
    rw [hlen] at hi
    obtain ⟨v, g1, g2⟩ := h2.get (List.getElem?_eq_getElem hi)
    obtain ⟨w, g3, g4⟩ := h4.get (List.getElem?_eq_getElem (by omega : i < es.length))
    have q1 := hx xs h1
    have q2 := hy ys h3
    rw [g1] at q1; cases q1
    rw [g3] at q2; cases q2
    exact ⟨_, zip_get (List.getElem?_eq_getElem hi) (List.getElem?_eq_getElem (by omega : i < es.length)), Ex.laid hT, rep_tupW l.re.live hT (.cons g2 (.cons g4 .nil))⟩
theorem it_zipT {K : PySem.W.Frag} (hK : K = S.G.K) {a b : Addr} {ds es : List D} (ha : Rep S.G m H1 (.tup ds) (.ref a)) (hb : Rep S.G m H1 (.tup es) (.ref b)) (hl : ds.length = es.length) (gv : ∃ d, g.1 = .v d) : ItOk S (RZ.ItzT K a b) A m g H1 (zipD ds es) := by
  subst hK
  have hlen : (zipD ds es).length = ds.length := by unfold zipD; simp [hl]
  refine ⟨⟨fun H => ∃ xs ys, SqT S.G.K H a xs ∧ SqT S.G.K H b ys ∧ xs.length = ds.length ∧ ys.length = ds.length,
    fun i H v H' => ∃ T x y, v = .ref T ∧ H T = none ∧ H' = upd H T (.tup [x, y]) ∧ (∀ xs, SqT S.G.K H a xs → xs[i]? = some x) ∧ ∀ ys, SqT S.G.K H b ys → ys[i]? = some y, ?_, fun A' m' env2 σ2 H2 l => ?_⟩⟩
  · rw [hlen]
    exact ⟨fun i H hi ⟨xs, ys, h1, h2, h3, h4⟩ => ⟨xs, ys, xs[i], ys[i], h1, h2, by simp, by simp⟩, fun H ⟨xs, ys, h1, h2, h3, h4⟩ => ⟨xs, ys, h1, h2, .inl (by omega)⟩, fun i H x H' hi hw h => h⟩
  · obtain ⟨a', xs, e1, h1, h2⟩ := Vw.tup (.inl (ha.mono l.kp))
    cases e1
    obtain ⟨b', ys, e2, h3, h4⟩ := Vw.tup (.inl (hb.mono l.kp))
    cases e2
    refine ⟨⟨xs, ys, h1.sq, h3.sq, h2.length.symm, by rw [hl]; exact h4.length.symm⟩, fun i x H3 hi ⟨T, y, z, e1, hT, e3, hx, hy⟩ => ?_⟩
    subst e1 e3
    rw [hlen] at hi
    obtain ⟨v, g1, g2⟩ := h2.get (List.getElem?_eq_getElem hi)
    obtain ⟨w, g3, g4⟩ := h4.get (List.getElem?_eq_getElem (by omega : i < es.length))
    have q1 := hx xs h1.sq
    have q2 := hy ys h3.sq
    rw [g1] at q1; cases q1
    rw [g3] at q2; cases q2
    exact ⟨_, zip_get (List.getElem?_eq_getElem hi) (List.getElem?_eq_getElem (by omega : i < es.length)), Ex.laid hT, rep_tupW l.re.live hT (.cons g2 (.cons g4 .nil))⟩
end
section
variable {S : Sx} {k : Nat} {sc scope : Scope} {X : Cx} {e e2 : Expr} {c c2 : E} {tg : Expr} {p pos tpos : Pos}
theorem ti_zip (h : Ct S k sc X) (s : Snd S X e c) (s2 : Snd S X e2 c2) (st : isStar e = false) (st2 : isStar e2 = false) (gl : Gl X "zip") (hm : X.mg "zip" = none) {elts : List Expr} {kk : Nat} : PI X (.Tuple elts kk tpos) (.Call (.Name "zip" p) [e, e2] [] pos) (tI S (.zip c c2)) := by
  refine (RZ.pi_zipA gl hm (Snds.cons st s (.cons st2 s2 .nil)).vs (by rw [starEach_ok st]) (by rw [starEach_ok st2]; rfl)).imp fun σ H R ⟨A, m, env, xs, g, env', re, ev, q⟩ => ?_
  simp only [evIt] at ev
  split at ev <;> (try cases ev)
  rename_i dx e1 ev1
  split at ev <;> (try cases ev)
  rename_i dy e2 ev2
  split at ev <;> cases ev
  rename_i hz
  refine ⟨A, m, env, [dx, dy], _, re, by simp only [evEs]; rw [ev1]; simp only []; rw [ev2], fun vs H1 n1 r1 a1 => ?_⟩
  obtain ⟨v, vs', rfl, g1, g2⟩ := a1.inv
  obtain ⟨w, vs2, rfl, g3, g4⟩ := g2.inv
  have := g4.inv0
  subst this
  unfold zipB at hz
  split at hz
  · obtain ⟨hl, hz⟩ := oi hz
    cases hz
    obtain ⟨a, us, rfl, h1, h2⟩ := Vw.tup (.inl g1)
    obtain ⟨b, ws, rfl, h3, h4⟩ := Vw.tup (.inl g3)
    exact ⟨a, b, us, ws, rfl, .inr ⟨by rw [h.hK]; exact h1.sq, by rw [h.hK]; exact h3.sq, q _ H1 n1 r1 (it_zipT h.hK g1 g3 hl ⟨_, rfl⟩)⟩⟩
  · obtain ⟨hl, hz⟩ := oi hz
    cases hz
    obtain ⟨a, us, rfl, h1, h2⟩ := Vw.lst (.inl g1)
    obtain ⟨b, ws, rfl, h3, h4⟩ := Vw.lst (.inl g3)
    exact ⟨a, b, us, ws, rfl, .inl ⟨by rw [h.hK]; exact h1, by rw [h.hK]; exact h3, q _ H1 n1 r1 (it_zipL h.hK g1 g3 hl ⟨_, rfl⟩)⟩⟩
  · cases hz
end
/-! ### items in a comprehension -/
section
variable {S : Sx} {k : Nat} {sc scope : Scope} {X : Cx} {pos : Pos}
/-- the dict that the slot holds is locked already -/
theorem tI_items {i : Nat} {σ : L2.St} {H : Hp} {R : L2.It → Hp → Prop} {a : Addr} {od : Obj} {kvs : List (Key × V)} (hs : σ[i]? = some (some (.ref a))) (ha : H a = some (.frz od (.dK kvs))) (w : tI S (.itms (.var i)) σ H R) : iItems (tVar i) σ H R := by
  obtain ⟨A, m, env, xs, g, e1, re, ev1, q⟩ := w
  simp only [evIt] at ev1
  obtain ⟨a0, e2, ev2, ev1⟩ := oA ev1
  obtain ⟨d, h1, h2, h3, h4⟩ := itOf_some ev1
  subst h3 h4
  obtain ⟨d', ev3, ea⟩ := opE_not rfl ev2
  subst ea
  cases h1
  simp only [evE] at ev3
  have ev3 : getV env i = some d ∧ e1 = env := by
    cases q : getV env i with
    | none => rw [q] at ev3; cases ev3
    | some d2 => rw [q] at ev3; cases ev3; exact ⟨rfl, rfl⟩
  obtain ⟨gv, e0⟩ := ev3
  subst e0
  obtain ⟨v, hs', rp⟩ := re.val i d (getV_some gv)
  rw [hs] at hs'
  cases hs'
  unfold dirD at h2
  split at h2
  · replace h2 := (oi h2).2
    cases h2
    simp only [Rep] at rp
    obtain ⟨a', kvs', e, g1, g2, rfl, g4⟩ := rp
    cases e
    rcases g1 with g1 | ⟨od', g1⟩
    · rw [ha] at g1; cases g1
    · rw [ha] at g1
      cases g1
      exact ⟨.ref a, hs, a, od, kvs, rfl, ha, q _ _ .refl re (it_items ha g2 g4)⟩
  · cases h2
theorem nd_compI (h : Ct S k sc X) {elt : Expr} {elts : List Expr} {kk : Nat} {tp p ap cp : Pos} {y : Str} {i : Nat} {ifs : List Expr} {t : TN} {c x : E} (sn : seen sc y = true) (hi : ixOf S.C.N y = some i) (nm : okNm y = true) (ln : (ap.endLine == cp.line) = true) (hb : blkC S.C.N sc scope (names1 S.C.N t) = true)
    (inn : ∀ X', Ct S k scope X' → PG X' (.Tuple elts kk tp) (tG S t) ∧ PTs X' ifs (tT S c) ∧ PE X' elt (tV S x)) : Snd S X (.ListComp elt [⟨.Tuple elts kk tp, .Call (.Attribute (.Name y p) "items" ap) [] [] cp, ifs, 0⟩] scope pos) (.comp x (namesT t) t (.itms (.var i)) c) := by
  have hk := blkC_kind hb
  have nd : X.N.Nodup := by rw [h.N]; exact h.nd
  obtain ⟨n1, n2, _⟩ := okNm_some nm
  have base : PE X (.ListComp elt [⟨.Tuple elts kk tp, .Call (.Attribute (.Name y p) "items" ap) [] [] cp, ifs, 0⟩] scope pos) _ :=
    pe_lc h.calm nd (pi_items (X := X) (elts := elts) (kk := kk) (tpos := tp) (apos := ap) (cpos := cp) (pe_var (pos := p) (h.ix hi) (h.vis sn) n1 n2) rfl ln) (h.blkOk hb) (fun s H C cl fp => (inn _ (h.blk hk s H C cl fp)).1) (fun s H C cl fp => (inn _ (h.blk hk s H C cl fp)).2.1) (fun s H C cl fp => (inn _ (h.blk hk s H C cl fp)).2.2) (fun _ => by rfl)
  have hp : PE X (.ListComp elt [⟨.Tuple elts kk tp, .Call (.Attribute (.Name y p) "items" ap) [] [] cp, ifs, 0⟩] scope pos) (tV S (.comp x (namesT t) t (.itms (.var i)) c)) := by
    refine PE.or base (pe_lock base) fun σ H Q w => ?_
    rw [names1_snd]
    have key : ∀ {H : Hp} {Q : VK} {a : Addr} {od : Obj} {kvs : List (Key × V)}, σ[i]? = some (some (.ref a)) → H a = some (.frz od (.dK kvs)) → tV S (.comp x (namesT t) t (.itms (.var i)) c) σ H Q → tLc (iItems (tVar i)) (tG S t) (tT S c) (tV S x) (namesT t) σ H Q :=
      fun hs ha w => tI_items (S := S) hs ha (comp_key σ _ _ w)
    obtain ⟨A, m, env, d, env', re, ev, q⟩ := w
    have ev0 := ev
    simp only [evE] at ev
    obtain ⟨xs, g, e1, ev1, ev⟩ := oI ev
    simp only [evIt] at ev1
    obtain ⟨a0, e2, ev2, ev1⟩ := oA ev1
    obtain ⟨d1, h1, h2, h3, h4⟩ := itOf_some ev1
    subst h3 h4
    obtain ⟨d', ev3, ea⟩ := opE_not rfl ev2
    subst ea
    cases h1
    simp only [evE] at ev3
    have gv : getV env i = some d1 := by
      cases q : getV env i with
      | none => rw [q] at ev3; cases ev3
      | some d2 => rw [q] at ev3; cases ev3; rfl
    obtain ⟨v, hs, rp⟩ := re.val i d1 (getV_some gv)
    unfold dirD at h2
    split at h2
    · simp only [Rep] at rp
      obtain ⟨a, kvs, rfl, g1, g2, _, g4⟩ := rp
      rcases g1 with g1 | ⟨od, g1⟩
      · refine .inr ⟨a, .dK kvs, g1, trivial, fun od => key hs upd_same ?_⟩
        have nA : ∀ i, A i ≠ some a := fun i z => g2 (re.mem i a z)
        have rl : RE S.G A m env σ (upd H a (.frz od (.dK kvs))) := re.tr (kr_lock g1) (fun i b z => by rw [upd_ne (fun y => nA i (by rw [← y]; exact z))]) fun b z => live_upd z
        refine ⟨A, m, env, d, env', rl, ev0, fun v H' ps => ?_⟩
        have ha' : H' a = some (.frz od (.dK kvs)) := ps.nx.keep a _ upd_same nA
        have hne : H a ≠ none := by rw [g1]; exact fun z => nomatch z
        refine ⟨ha', q v _ ⟨⟨fun b u e n => ?_, fun b e => ?_⟩, ?_, ps.rep.tr (kr_unlock ha'), fun z1 z2 => ?_⟩⟩
        · by_cases c : b = a
          · rw [c] at e ⊢
            rw [upd_same, ← e, g1]
          · rw [upd_ne c]
            exact ps.nx.keep b u (by rw [upd_ne c]; exact e) n
        · exact live_upd (ps.nx.live b (live_upd e))
        · exact ps.re.tr (kr_unlock ha') (fun i b z => by rw [upd_ne (fun y => nA i (by rw [← y]; exact z))]) fun b z => live_upd z
        · obtain ⟨p, rfl, hp, r2, o2⟩ := ps.fr z1 z2
          have hpn : H p = none := free_upd hne hp
          have pa : p ≠ a := fun z => by rw [z] at hpn; exact hne hpn
          refine ⟨p, rfl, hpn, r2.tr (kr_unlock ha') (fun i b z => by rw [upd_ne (fun y => nA i (by rw [← y]; exact z))]) fun b z => live_upd z, o2.tr (kr_unlock ha') (by rw [upd_ne pa])⟩
      · exact .inl (key hs g1 ⟨A, m, env, d, env', re, ev0, q⟩)
    · cases h2
  exact ⟨hp, pa_of rfl hp, pt_of hp (by intro _; rfl), fun _ z => by cases z⟩
end
end Qx
set_option Elab.async false
set_option linter.all false
set_option maxRecDepth 100000
set_option maxHeartbeats 8000000
/-! QSndC: the compiled expression does what the text does (the induction). -/
namespace Qx
open PySem PySem.Spec PyProof.Rows L2

theorem cE_node {C : Cc} {n : Nat} {sc : Scope} {e : Expr} {c : E} (h : cE C n sc e = some c) : isStar e = false ∧ okNode e = true ∧ isSlc e = false := by
  cases n with
  | zero => simp [cE] at h
  | succ n => cases e <;> first | exact ⟨rfl, rfl, rfl⟩ | simp [cE] at h
theorem bind2 {α β : Type} {o : Option α} {f : α → Option β} {b : β} (h : o.bind f = some b) : ∃ a, o = some a ∧ f a = some b := Option.bind_eq_some_iff.mp h
structure AllOk (S : Sx) (k n : Nat) : Prop where
  e : ∀ sc X, Ct S k sc X → ∀ e c, cE S.C n sc e = some c → Snd S X e c
  es : ∀ sc X, Ct S k sc X → ∀ es cs, cEs S.C n sc es = some cs → Snds S X es cs
  ks : ∀ sc X, Ct S k sc X → ∀ ks vs cs, cKs S.C n sc ks vs = some cs → Prs S X ks vs cs
  kw : ∀ sc X, Ct S k sc X → ∀ ks cs, cKw S.C n sc ks = some cs → Kws S X ks cs
  o : ∀ sc X, Ct S k sc X → ∀ e c, cO S.C n sc e = some c → SndO S X e c
  f : ∀ sc X, Ct S k sc X → ∀ es c, cIf S.C n sc es = some c → PTs X es (tT S c)
  it : ∀ sc X, Ct S k sc X → ∀ t e i, cIt S.C n sc t e = some i → (noItI i = true → PI X t e (tI S i)) ∧ okNode e = true
section
variable {S : Sx} {k n : Nat} {sc : Scope} {X : Cx}
theorem pts_imp {es : List Expr} {t t' : TT} (h : PTs X es t) (w : ∀ σ H Q, t' σ H Q → t σ H Q) : PTs X es t' := ⟨fun pins s σ H Q I z => h.run pins s σ H Q I (w σ H Q z)⟩
theorem st_es (ih : AllOk S k n) (h : Ct S k sc X) : ∀ es cs, cEs S.C (n + 1) sc es = some cs → Snds S X es cs := fun es cs c => by
  simp only [cEs] at c
  split at c
  · cases c; exact .nil
  · split at c
    · cases c
      rename_i x xs h1 h2
      exact .cons (cE_node h1).1 (ih.e sc X h _ _ h1) (ih.es sc X h _ _ h2)
    · cases c
theorem st_ks (ih : AllOk S k n) (h : Ct S k sc X) : ∀ ks vs cs, cKs S.C (n + 1) sc ks vs = some cs → Prs S X ks vs cs := fun ks vs cs c => by
  simp only [cKs] at c
  split at c
  · cases c; exact .nil
  · split at c
    · cases c
      rename_i h1 h2 h3
      exact .cons (ih.e sc X h _ _ h1) (ih.e sc X h _ _ h2) (ih.ks sc X h _ _ _ h3)
    · cases c
  · cases c
theorem st_kw (ih : AllOk S k n) (h : Ct S k sc X) : ∀ ks cs, cKw S.C (n + 1) sc ks = some cs → Kws S X ks cs := fun ks cs c => by
  simp only [cKw] at c
  split at c
  · cases c; exact .nil
  · split at c
    · cases c
      rename_i h1 h2
      exact .cons (ih.e sc X h _ _ h1) (ih.kw sc X h _ _ h2)
    · cases c
  · cases c
theorem st_o (ih : AllOk S k n) (h : Ct S k sc X) : ∀ e c, cO S.C (n + 1) sc e = some c → SndO S X e c := fun e c q => by
  cases e with
  | none => simp only [cO] at q; cases q; exact so_none
  | some e => simp only [cO] at q; exact so_some (ih.e sc X h _ _ q)
theorem st_f (ih : AllOk S k n) (h : Ct S k sc X) : ∀ es c, cIf S.C (n + 1) sc es = some c → PTs X es (tT S c) := fun es c q => by
  cases es with
  | nil =>
    simp only [cIf] at q
    cases q
    refine pts_imp pts_nil fun σ H Q ⟨A, m, env, b, env', re, ev, q⟩ => ?_
    have ev := asB_some ev
    simp only [evE] at ev
    cases ev
    exact q H .refl re
  | cons e r =>
    cases r with
    | nil => simp only [cIf] at q; exact pts_one (ih.e sc X h _ _ q).pt
    | cons => simp [cIf] at q
theorem isBl_some {C : Cc} {x : Str} (h : isBl C sc x = true) : isGl sc x = true ∧ C.G.lookup x = none := by
  unfold isBl at h
  rw [Bool.and_eq_true, Option.isNone_iff_eq_none] at h
  exact h
theorem itKind_any {C : Cc} {e : Expr} {j : Nat} (h : itKind C sc e = j) (hj : j ≠ 0) : ∃ f p args pos, e = .Call (.Name f p) args [] pos ∧ isGl sc f = true ∧ C.G.lookup f = none ∧ (if f = "range" then 1 else if f = "enumerate" then 2 else if f = "zip" then 3 else 0) = j := by
  unfold itKind at h
  split at h
  · rename_i f p args pos
    by_cases hb : isBl C sc f = true
    · rw [if_pos hb] at h
      obtain ⟨h1, h2⟩ := isBl_some hb
      exact ⟨f, p, args, pos, rfl, h1, h2, h⟩
    · rw [if_neg hb] at h; exact absurd h.symm hj
  · exact absurd h.symm hj
theorem itKind_1 {C : Cc} {e : Expr} (h : itKind C sc e = 1) : ∃ p args pos, e = .Call (.Name "range" p) args [] pos ∧ isGl sc "range" = true ∧ C.G.lookup ("range" : Str) = none := by
  obtain ⟨f, p, args, pos, rfl, g1, g2, g3⟩ := itKind_any h (by decide)
  by_cases h1 : f = "range"
  · subst h1; exact ⟨_, _, _, rfl, g1, g2⟩
  · rw [if_neg h1] at g3
    by_cases h2 : f = "enumerate"
    · rw [if_pos h2] at g3; cases g3
    · rw [if_neg h2] at g3
      by_cases h3 : f = "zip"
      · rw [if_pos h3] at g3; cases g3
      · rw [if_neg h3] at g3; cases g3
theorem itKind_2 {C : Cc} {e : Expr} (h : itKind C sc e = 2) : ∃ p args pos, e = .Call (.Name "enumerate" p) args [] pos ∧ isGl sc "enumerate" = true ∧ C.G.lookup ("enumerate" : Str) = none := by
  obtain ⟨f, p, args, pos, rfl, g1, g2, g3⟩ := itKind_any h (by decide)
  by_cases h1 : f = "range"
  · rw [if_pos h1] at g3; cases g3
  · rw [if_neg h1] at g3
    by_cases h2 : f = "enumerate"
    · subst h2; exact ⟨_, _, _, rfl, g1, g2⟩
    · rw [if_neg h2] at g3
      by_cases h3 : f = "zip"
      · rw [if_pos h3] at g3; cases g3
      · rw [if_neg h3] at g3; cases g3
theorem itKind_3 {C : Cc} {e : Expr} (h : itKind C sc e = 3) : ∃ p args pos, e = .Call (.Name "zip" p) args [] pos ∧ isGl sc "zip" = true ∧ C.G.lookup ("zip" : Str) = none := by
  obtain ⟨f, p, args, pos, rfl, g1, g2, g3⟩ := itKind_any h (by decide)
  by_cases h1 : f = "range"
  · rw [if_pos h1] at g3; cases g3
  · rw [if_neg h1] at g3
    by_cases h2 : f = "enumerate"
    · rw [if_pos h2] at g3; cases g3
    · rw [if_neg h2] at g3
      by_cases h3 : f = "zip"
      · subst h3; exact ⟨_, _, _, rfl, g1, g2⟩
      · rw [if_neg h3] at g3; cases g3
theorem itmsOf_some {e : Expr} {x : Str} (h : itmsOf e = some x) : ∃ p ap cp, e = .Call (.Attribute (.Name x p) "items" ap) [] [] cp ∧ (ap.endLine == cp.line) = true := by
  unfold itmsOf at h
  split at h
  · split at h
    · split at h
      · have h1 := (oi h).1
        have h2 := (oi h).2
        cases h2
        rw [Bool.and_eq_true, decide_eq_true_eq] at h1
        obtain ⟨rfl, h3⟩ := h1
        exact ⟨_, _, _, rfl, h3⟩
      · cases h
    · cases h
  · cases h
/-- what a loop over items is compiled from -/
theorem cIt_itms {C : Cc} {n : Nat} {t e : Expr} {c : E} (h : cIt C n sc t e = some (.itms c)) : ∃ elts kk tp y p ap cp i, t = .Tuple elts kk tp ∧ e = .Call (.Attribute (.Name y p) "items" ap) [] [] cp ∧ (ap.endLine == cp.line) = true ∧ c = .var i ∧ okNm y = true ∧ seen sc y = true ∧ ixOf C.N y = some i := by
  cases n with
  | zero => simp [cIt] at h
  | succ n =>
    simp only [cIt] at h
    split at h
    · split at h
      · obtain ⟨x, _, h2⟩ := omap h; cases h2
      · split at h
        · cases h
        · cases h
      · split at h
        · cases h
        · cases h
      · cases h
    · have h1 := (oi h).2
      split at h1
      · obtain ⟨x, _, h2⟩ := omap h1; cases h2
      · cases h1
    · have h1 := (oi h).2
      split at h1
      · split at h1
        · cases h1
        · cases h1
      · cases h1
    · split at h
      · rename_i x hx
        have h1 := (oi h).1
        have h2 := (oi h).2
        obtain ⟨i, h3, h4⟩ := omap h2
        cases h4
        obtain ⟨p, ap, cp, rfl, ln⟩ := itmsOf_some hx
        simp only [Bool.and_eq_true] at h1
        cases t <;> simp [isTupE] at h1
        exact ⟨_, _, _, x, p, ap, cp, i, rfl, rfl, ln, rfl, h1.1.1, h1.1.2, h3⟩
      · obtain ⟨x, _, h2⟩ := omap h; cases h2
theorem st_it (ih : AllOk S k n) (h : Ct S k sc X) : ∀ t e i, cIt S.C (n + 1) sc t e = some i → (noItI i = true → PI X t e (tI S i)) ∧ okNode e = true := fun t e i c => by
  simp only [cIt] at c
  split at c
  · rename_i hk
    obtain ⟨p, args, pos, rfl, g1, g2⟩ := itKind_1 hk
    have hm := h.prg.blt "range" (by decide) g2
    have hg := h.glo g1
    simp only [itArgs] at c
    suffices z : PI X t _ (tI S i) from ⟨fun _ => z, rfl⟩
    split at c
    · obtain ⟨x, h1, rfl⟩ := omap c
      exact ti_rng1 (ih.e sc X h _ _ h1) (cE_node h1).1 hg hm
    · split at c
      · cases c
        rename_i h1 h2
        exact ti_rng2 (ih.e sc X h _ _ h1) (ih.e sc X h _ _ h2) (cE_node h1).1 (cE_node h2).1 hg hm
      · cases c
    · split at c
      · cases c
        rename_i h1 h2 h3
        exact ti_rng3 (ih.e sc X h _ _ h1) (ih.e sc X h _ _ h2) (ih.e sc X h _ _ h3) (cE_node h1).1 (cE_node h2).1 (cE_node h3).1 hg hm
      · cases c
    · cases c
  · rename_i hk
    obtain ⟨p, args, pos, rfl, g1, g2⟩ := itKind_2 hk
    have hm := h.prg.blt "enumerate" (by decide) g2
    have hg := h.glo g1
    simp only [itArgs] at c
    suffices z : PI X t _ (tI S i) from ⟨fun _ => z, rfl⟩
    obtain ⟨ht, c⟩ := oi c
    split at c
    · obtain ⟨x, h1, rfl⟩ := omap c
      cases t <;> simp [isTupE] at ht
      exact ti_enu h (ih.e sc X h _ _ h1) (cE_node h1).1 hg hm
    · cases c
  · rename_i hk
    obtain ⟨p, args, pos, rfl, g1, g2⟩ := itKind_3 hk
    have hm := h.prg.blt "zip" (by decide) g2
    have hg := h.glo g1
    simp only [itArgs] at c
    suffices z : PI X t _ (tI S i) from ⟨fun _ => z, rfl⟩
    obtain ⟨ht, c⟩ := oi c
    split at c
    · split at c
      · rename_i h1 h2
        cases c
        cases t <;> simp [isTupE] at ht
        exact ti_zip h (ih.e sc X h _ _ h1) (ih.e sc X h _ _ h2) (cE_node h1).1 (cE_node h2).1 hg hm
      · cases c
    · cases c
  · split at c
    · rename_i x hx
      obtain ⟨i, _, rfl⟩ := omap (oi c).2
      obtain ⟨p, ap, cp, rfl, ln⟩ := itmsOf_some hx
      exact ⟨fun z => Bool.noConfusion z, rfl⟩
    · obtain ⟨x, h1, rfl⟩ := omap c
      exact ⟨fun _ => ti_seq h (ih.e sc X h _ _ h1), (cE_node h1).2.1⟩
end
end Qx
set_option Elab.async false
set_option linter.all false
set_option maxRecDepth 100000
set_option maxHeartbeats 8000000
/-! QSndD: the compiled expression does what the text does. -/
namespace Qx
open PySem PySem.Spec PyProof.Rows L2

section
variable {S : Sx} {k n : Nat} {sc : Scope} {X : Cx} {pos : Pos}
theorem st_const (h : Ct S k sc X) {q : Const} {j : Nat} {c : E} (e : cConst q = some c) : Snd S X (.Constant q j pos) c := by
  cases q <;> simp only [cConst] at e <;> (first | (cases e; done) | skip)
  all_goals cases e
  · exact nd_cst pe_non fun m H => Rep.of_non
  · exact nd_cst pe_bl fun m H => Rep.of_bl
  · exact nd_cst pe_int fun m H => Rep.of_int
  · exact nd_cst pe_str fun m H => Rep.of_str
theorem st_bool (h : Ct S k sc X) {op : BoolOp} : ∀ {es : List Expr} {x : E} {cs : List E}, Snds S X es (x :: cs) → Bools S X op pos es (cBool op x cs)
  | _, x, [], .cons st s .nil => bo_one s
  | _, x, y :: r, .cons st s (.cons st2 s2 t) => by
    have ih := st_bool h (op := op) (Snds.cons st2 s2 t)
    cases op with
    | And => exact bo_and s ih
    | Or => exact bo_or s ih
theorem st_bools (h : Ct S k sc X) {op : BoolOp} {es : List Expr} {cs : List E} {c : E} (s : Snds S X es cs) (e : cBools op cs = some c) : Snd S X (.BoolOp op es pos) c := by
  unfold cBools at e
  split at e
  · cases e
    refine (st_bool h s).snd ?_
    simp only [cBool]
    cases op <;> rfl
  · cases e
theorem allS_len {α : Type} : ∀ {l : List (Option α)} {r : List α}, allS l = some r → r.length = l.length
  | [], r, h => by simp only [allS] at h; cases h; rfl
  | some a :: l, r, h => by
    simp only [allS] at h
    obtain ⟨r', h1, rfl⟩ := omap h
    rw [List.length_cons, List.length_cons, allS_len h1]
  | none :: l, r, h => by simp only [allS] at h; cases h
theorem cTy_some {C : Cc} {e : Expr} {t : Ty} (h : cTy C sc e = some t) : ∃ x p, e = .Name x p ∧ isGl sc x = true ∧ C.G.lookup x = none ∧ cTyN x = some t := by
  unfold cTy at h
  split at h
  · obtain ⟨h1, h2⟩ := oi h
    obtain ⟨h3, h4⟩ := isBl_some h1
    exact ⟨_, _, rfl, h3, h4, h2⟩
  · cases h
theorem st_tys (h : Ct S k sc X) : ∀ {ts : List Expr} {us : List Ty}, allS (ts.map (cTy S.C sc)) = some us → ∃ t, PA X ts t ∧ ∀ (σ : L2.St) (H : Hp) (Q : List V → Hp → Prop), Q (us.map fun u => V.ty (tyN u)) H → t σ H Q
  | [], us, e => by
    simp only [List.map_nil, allS] at e
    cases e
    exact ⟨_, pa_nil, fun σ H Q q => q⟩
  | a :: ts, us, e => by
    rw [List.map_cons] at e
    cases q0 : cTy S.C sc a with
    | none => rw [q0] at e; simp only [allS] at e; cases e
    | some u =>
      rw [q0] at e
      simp only [allS] at e
      obtain ⟨r, h1, rfl⟩ := omap e
      obtain ⟨x, p, rfl, g1, g2, g3⟩ := cTy_some q0
      obtain ⟨hb, hn⟩ := cTyN_boot g3
      obtain ⟨t, pt, ht⟩ := st_tys h h1
      refine ⟨_, pa_cons (pe_bltn (v := .ty (tyN u)) (h.glo g1) (h.prg.blt x hn g2) hb rfl (by intro z; subst z; exact absurd hn (by decide)) ?_) pt (by rfl), fun σ H Q q => ht σ H _ q⟩
      cases z : (x == ("__debug__" : Str)) with
      | false => rfl
      | true => have := eq_of_beq z; subst this; exact absurd hn (by decide)
theorem st_call_fn (ih : AllOk S k n) (h : Ct S k sc X) {f : Str} {p : Pos} {g : Nat} {args : List Expr} {es : List E} (nm : okNm f = true) (gl : isGl sc f = true) (lk : S.C.G.lookup f = some (.fn g)) (he : cEs S.C n sc args = some es) :
    Snd S X (.Call (.Name f p) args [] pos) (.call g es []) := by
  have s := ih.es sc X h _ _ he
  cases s with
  | nil => exact nd_call0 h lk (h.glo gl) (okNm_some nm).1
  | cons st a b => exact nd_call h lk (h.glo gl) (okNm_some nm).1 st (.cons st a b) (plain_all b)
theorem nodupS_ok : ∀ {l : List Str}, nodupS l = true → l.Nodup
  | [], _ => List.nodup_nil
  | a :: r, h => by
    simp only [nodupS, Bool.and_eq_true, Bool.not_eq_true'] at h
    refine List.nodup_cons.mpr ⟨fun z => ?_, nodupS_ok h.2⟩
    rw [List.contains_iff_mem.mpr z] at h
    cases h.1
theorem st_isi (ih : AllOk S k n) (h : Ct S k sc X) {p : Pos} {a t : Expr} {x : E} {us : List Ty} (gl : isGl sc "isinstance" = true) (lk : S.C.G.lookup ("isinstance" : Str) = none) (ha : cE S.C n sc a = some x) (ht : cTys S.C sc t = some us) :
    Snd S X (.Call (.Name "isinstance" p) [a, t] [] pos) (.isi x us) := by
  have hm := h.prg.blt "isinstance" (by decide) lk
  have sa := ih.e sc X h _ _ ha
  have st := (cE_node ha).1
  unfold cTys at ht
  split at ht
  · obtain ⟨hl, ht⟩ := oi ht
    obtain ⟨t0, pt, hq⟩ := st_tys h ht
    exact nd_isiT h sa st rfl (h.glo gl) hm ((pe_tup pt).imp fun σ H Q w => hq σ H _ ⟨by
      have := allS_len ht
      rw [List.length_map] at this
      rw [List.length_map, sizeLine_eq, this]; omega, w⟩)
  · obtain ⟨u, h1, rfl⟩ := omap ht
    obtain ⟨y, p2, rfl, g1, g2, g3⟩ := cTy_some h1
    obtain ⟨hb, hn⟩ := cTyN_boot g3
    refine nd_isi1 h sa st (h.glo gl) hm (h.glo g1) (h.prg.blt y hn g2) hb (by intro z; subst z; exact absurd hn (by decide)) ?_
    cases z : (y == ("__debug__" : Str)) with
    | false => rfl
    | true => have := eq_of_beq z; subst this; exact absurd hn (by decide)
theorem rgArg_some {C : Cc} {args : List Expr} {a : Expr} (h : rgArg C sc args = some a) : ∃ p p2, args = [.Call (.Name "range" p) [a] [] p2] ∧ isGl sc "range" = true ∧ C.G.lookup ("range" : Str) = none := by
  unfold rgArg at h
  split at h
  · have h1 := (oi h).1
    have h2 := (oi h).2
    cases h2
    rw [Bool.and_eq_true, decide_eq_true_eq] at h1
    obtain ⟨hb, h3⟩ := h1
    subst h3
    exact ⟨_, _, rfl, isBl_some hb⟩
  · cases h
theorem setArg_some {C : Cc} {args : List Expr} {a : Expr} (h : setArg C sc args = some a) : ∃ p p2, args = [.Call (.Name "set" p) [a] [] p2] ∧ isGl sc "set" = true ∧ C.G.lookup ("set" : Str) = none := by
  unfold setArg at h
  split at h
  · have h1 := (oi h).1
    have h2 := (oi h).2
    cases h2
    rw [Bool.and_eq_true, decide_eq_true_eq] at h1
    obtain ⟨hb, h3⟩ := h1
    subst h3
    exact ⟨_, _, rfl, isBl_some hb⟩
  · cases h
theorem st_blt (ih : AllOk S k n) (h : Ct S k sc X) {f : Str} {p : Pos} {args : List Expr} {b : Bi} {es : List E} (nm : okNm f = true) (gl : isGl sc f = true) (lk : S.C.G.lookup f = none) (hb : cBi f args.length = some b) (he : cEs S.C n sc args = some es) :
    Snd S X (.Call (.Name f p) args [] pos) (.bi b es) := by
  obtain ⟨⟨hn, ok⟩, pos0⟩ := cBi_ok h hb
  have hm := h.prg.blt f hn lk
  have s := ih.es sc X h _ _ he
  obtain ⟨n1, n2, n3⟩ := okNm_some nm
  cases s with
  | nil => simp at pos0
  | cons st a b =>
    rcases ok with ⟨id, hv, r⟩ | ⟨id, hv, r⟩
    · exact nd_biB r (h.glo gl) hm hv n3 n1 st (.cons st a b) (plain_all b)
    · exact nd_biT r (h.glo gl) hm hv n3 n1 st (.cons st a b) (plain_all b)
theorem st_kwcall (ih : AllOk S k n) (h : Ct S k sc X) {f : Str} {p : Pos} {g : Nat} {kws : List Keyword} {es : List E} {pm : List Nat} (nm : okNm f = true) (gl : isGl sc f = true) (lk : S.C.G.lookup f = some (.fn g)) (he : cKw S.C n sc kws = some es)
    (hp : kwPos (S.C.P g) 0 (kws.filterMap (·.arg)) = some pm) (hc : (nodupS (kws.filterMap (·.arg)) && decide ((kws.filterMap (·.arg)).length = (S.C.P g).length) && !pm.isEmpty && ((kws.filterMap (·.arg)).all fun k => (S.C.P g).contains k)) = true) : Snd S X (.Call (.Name f p) [] kws pos) (.call g es pm) := by
  simp only [Bool.and_eq_true, decide_eq_true_eq, Bool.not_eq_true'] at hc
  exact nd_callK0 h lk (h.glo gl) (okNm_some nm).1 (ih.kw sc X h _ _ he) hp (by intro z; rw [z] at hc; exact absurd hc.1.2 (by decide)) (nodupS_ok hc.1.1.1) hc.1.1.2 fun k hk => List.contains_iff_mem.mp (List.all_eq_true.mp hc.2 k hk)
theorem st_bcall (ih : AllOk S k n) (h : Ct S k sc X) {f : Str} {p : Pos} {args : List Expr} {c : E} (nm : okNm f = true) (gl : isGl sc f = true) (lk : S.C.G.lookup f = none)
    (hc : (if f = "isinstance" then (match args with
              | [a, t] => (match cE S.C n sc a, cTys S.C sc t with
                | some x, some us => some (.isi x us)
                | _, _ => none)
              | _ => none)
            else if f = "dict" then (match args with
              | [a] => (cE S.C n sc a).map .dic
              | _ => none)
            else (match setArg S.C sc args with
              | some a => if f = "sorted" then (cE S.C n sc a).map fun x => .bi .sortedSet [x] else none
              | none => match rgArg S.C sc args with
              | some a => if f = "list" then (cE S.C n sc a).map fun x => .bi .lrange [x] else if f = "tuple" then (cE S.C n sc a).map fun x => .bi .trange [x] else none
              | none => (match cBi f args.length with
                | some b => (cEs S.C n sc args).map (E.bi b)
                | none => none))) = some c) : Snd S X (.Call (.Name f p) args [] pos) c := by
  by_cases hi : f = "isinstance"
  · rw [if_pos hi] at hc
    subst hi
    split at hc
    · split at hc
      · rename_i x us ha ht
        cases hc
        exact st_isi ih h gl lk ha ht
      · cases hc
    · cases hc
  · rw [if_neg hi] at hc
    by_cases hd : f = "dict"
    · rw [if_pos hd] at hc
      subst hd
      split at hc
      · obtain ⟨x, ha, e0⟩ := omap hc
        subst e0
        exact nd_dic h (ih.e sc X h _ _ ha) (cE_node ha).1 (h.glo gl) (h.prg.blt "dict" (by decide) lk)
      · cases hc
    rw [if_neg hd] at hc
    split at hc
    · rename_i a hr
      obtain ⟨p1, p2, e0, g1, g2⟩ := setArg_some hr
      subst e0
      by_cases hl : f = "sorted"
      · rw [if_pos hl] at hc
        subst hl
        obtain ⟨x, ha, e0⟩ := omap hc
        subst e0
        exact nd_sset h (ih.e sc X h _ _ ha) (cE_node ha).1 (h.glo gl) (h.prg.blt "sorted" (by decide) lk) (h.glo g1) (h.prg.blt "set" (by decide) g2)
      · rw [if_neg hl] at hc; cases hc
    split at hc
    · rename_i a hr
      obtain ⟨p1, p2, e0, g1, g2⟩ := rgArg_some hr
      subst e0
      have hmr := h.prg.blt "range" (by decide) g2
      by_cases hl : f = "list"
      · rw [if_pos hl] at hc
        subst hl
        obtain ⟨x, ha, e0⟩ := omap hc
        subst e0
        exact nd_lrg h (ih.e sc X h _ _ ha) (cE_node ha).1 (h.glo gl) (h.prg.blt "list" (by decide) lk) (h.glo g1) hmr
      · rw [if_neg hl] at hc
        by_cases ht : f = "tuple"
        · rw [if_pos ht] at hc
          subst ht
          obtain ⟨x, ha, e0⟩ := omap hc
          subst e0
          exact nd_trg h (ih.e sc X h _ _ ha) (cE_node ha).1 (h.glo gl) (h.prg.blt "tuple" (by decide) lk) (h.glo g1) hmr
        · rw [if_neg ht] at hc; cases hc
    · split at hc
      · rename_i b hb
        obtain ⟨es, he, e0⟩ := omap hc
        subst e0
        exact st_blt ih h nm gl lk hb he
      · cases hc
theorem st_call (ih : AllOk S k n) (h : Ct S k sc X) {f : Str} {p : Pos} {args : List Expr} {kws : List Keyword} {c : E} (hc : cE S.C (n + 1) sc (.Call (.Name f p) args kws pos) = some c) : Snd S X (.Call (.Name f p) args kws pos) c := by
  simp only [cE] at hc
  by_cases h1 : (okNm f && isGl sc f) = true
  · rw [if_pos h1] at hc
    rw [Bool.and_eq_true] at h1
    have nm := h1.1
    have gl := h1.2
    clear h1
    split at hc
    · rename_i g lk
      split at hc
      · obtain ⟨es, he, e0⟩ := omap hc
        subst e0
        exact st_call_fn ih h nm gl lk he
      · split at hc
        · split at hc
          · rename_i es pm he hp
            have h2 := (oi hc).1
            have e0 := (oi hc).2
            cases e0
            exact st_kwcall ih h nm gl lk he hp h2
          · cases hc
        · cases hc
    · cases hc
    · rename_i lk
      split at hc
      · exact st_bcall ih h nm gl lk hc
      · cases hc
  · rw [if_neg h1] at hc
    have h2 := (oi hc).1
    replace hc := (oi hc).2
    simp only [Bool.and_eq_true] at h2
    obtain ⟨⟨⟨⟨nm, sn⟩, no⟩, hk⟩, ha⟩ := h2
    have hk : kws = [] := by cases kws <;> first | rfl | cases hk
    subst hk
    split at hc
    · rename_i i es hi he
      cases hc
      obtain ⟨n1, n2, _⟩ := okNm_some nm
      have s := ih.es sc X h _ _ he
      cases s with
      | nil => cases ha
      | cons st a b => exact nd_callv h sn hi n1 n2 st (.cons st a b) (plain_all b)
    · cases hc
theorem own_pa (h : Ct S k sc X) {x : Str} {p : Pos} {i : Nat} (sn : seen sc x = true) (e : ixOf S.C.N x = some i) (nm : okNm x = true) : PE X (.Name x p) (tA S (.own i)) := by
  obtain ⟨n1, n2, _⟩ := okNm_some nm
  exact (nd_own h sn e n1 n2).pa
theorem st_meth (ih : AllOk S k n) (h : Ct S k sc X) {o : Expr} {m : Str} {ap : Pos} {args : List Expr} {kws : List Keyword} {c : E} (hc : cE S.C (n + 1) sc (.Call (.Attribute o m ap) args kws pos) = some c) : Snd S X (.Call (.Attribute o m ap) args kws pos) c := by
  simp only [cE] at hc
  have h1 := (oi hc).1; replace hc := (oi hc).2
  rw [Bool.and_eq_true] at h1
  obtain ⟨ln, hk⟩ := h1
  have hk : kws = [] := by cases kws <;> first | rfl | cases hk
  subst hk
  split at hc
  · have hm := (oi hc).1; replace hc := (oi hc).2
    subst hm
    split at hc
    · have h2 := (oi hc).1; replace hc := (oi hc).2
      simp only [Bool.and_eq_true] at h2
      obtain ⟨i, hi, e0⟩ := omap hc; subst e0
      exact nd_pop0 h (own_pa h h2.1.2 hi h2.1.1) ln
    · cases hc
  · by_cases m1 : m = "append"
    · rw [if_pos m1] at hc
      subst m1
      split at hc
      · rename_i ha
        have h2 := (oi hc).1; replace hc := (oi hc).2
        simp only [Bool.and_eq_true] at h2
        obtain ⟨i, hi, e0⟩ := omap hc; subst e0
        exact nd_app h (own_pa h h2.1.2 hi h2.1.1) (ih.e sc X h _ _ ha) (cE_node ha).1 ln
      · cases hc
    · rw [if_neg m1] at hc
      by_cases m2 : m = "pop"
      · rw [if_pos m2] at hc
        subst m2
        split at hc
        · rename_i ha
          have h2 := (oi hc).1; replace hc := (oi hc).2
          simp only [Bool.and_eq_true] at h2
          obtain ⟨i, hi, e0⟩ := omap hc; subst e0
          exact nd_pop1 h (own_pa h h2.1.2 hi h2.1.1) (ih.e sc X h _ _ ha) (cE_node ha).1 ln
        · cases hc
      · rw [if_neg m2] at hc
        by_cases m3 : (decide (m = "get") && !isSup o) = true
        · rw [if_pos m3] at hc
          rw [Bool.and_eq_true, decide_eq_true_eq] at m3
          obtain ⟨e1, h3⟩ := m3
          subst e1
          split at hc
          · rename_i ho ha
            cases hc
            exact nd_get1 h (ih.e sc X h _ _ ho) (ih.e sc X h _ _ ha) (by simpa using h3) (cE_node ha).1 ln
          · cases hc
        · rw [if_neg m3] at hc
          by_cases m4 : (decide (m = "index") && !isSup o) = true
          · rw [if_pos m4] at hc
            rw [Bool.and_eq_true, decide_eq_true_eq] at m4
            obtain ⟨e1, h3⟩ := m4
            subst e1
            split at hc
            · rename_i ho ha
              cases hc
              exact nd_idx h (ih.e sc X h _ _ ho) (ih.e sc X h _ _ ha) (by simpa using h3) (cE_node ha).1 ln
            · cases hc
          · rw [if_neg m4] at hc
            by_cases m5 : (decide (m = "count") && !isSup o) = true
            · rw [if_pos m5] at hc
              rw [Bool.and_eq_true, decide_eq_true_eq] at m5
              obtain ⟨e1, h3⟩ := m5
              subst e1
              split at hc
              · rename_i ho ha
                cases hc
                exact nd_cnt h (ih.e sc X h _ _ ho) (ih.e sc X h _ _ ha) (by simpa using h3) (cE_node ha).1 ln
              · cases hc
            · rw [if_neg m5] at hc
              have m6 := (oi hc).1; replace hc := (oi hc).2
              subst m6
              split at hc
              · rename_i ha
                have h2 := (oi hc).1; replace hc := (oi hc).2
                simp only [Bool.and_eq_true] at h2
                obtain ⟨i, hi, e0⟩ := omap hc; subst e0
                exact nd_ext h (own_pa h h2.1.1.2 hi h2.1.1.1) (ih.e sc X h _ _ ha) h2.2 (cE_node ha).1 ln
              · cases hc
  · have h2 := (oi hc).1; replace hc := (oi hc).2
    rw [Bool.and_eq_true, decide_eq_true_eq] at h2
    have h3 := h2.2; have e1 := h2.1; subst e1
    split at hc
    · rename_i ho ha hb
      cases hc
      exact nd_get2 h (ih.e sc X h _ _ ho) (ih.e sc X h _ _ ha) (ih.e sc X h _ _ hb) (by simpa using h3) (cE_node ha).1 (cE_node hb).1 ln
    · cases hc
  · cases hc
theorem st_lc (ih : AllOk S k n) (h : Ct S k sc X) {elt : Expr} {gs : List Comprehension} {s2 : Scope} {c : E} (hc : cE S.C (n + 1) sc (.ListComp elt gs s2 pos) = some c) : Snd S X (.ListComp elt gs s2 pos) c := by
  simp only [cE] at hc
  split at hc
  · split at hc
    · rename_i t' it' c' x ht hi hf hx
      have hb := (oi hc).1; replace hc := (oi hc).2
      cases hc
      obtain ⟨pi, ok⟩ := ih.it sc X h _ _ _ hi
      by_cases hni : noItI it' = true
      · exact nd_comp h hb (pi hni) (fun X' h' => ⟨tg_ok h' 8 _ _ ht, ih.f s2 X' h' _ _ hf, (ih.e s2 X' h' _ _ hx).pe⟩) ok
      have hex : ∃ ci, it' = .itms ci := by cases it' <;> simp [noItI] at hni <;> exact ⟨_, rfl⟩
      obtain ⟨ci, rfl⟩ := hex
      obtain ⟨elts, kk, tp, y, p, ap, cp, i, rfl, rfl, ln, rfl, q1, q2, q3⟩ := cIt_itms hi
      exact nd_compI h q2 q3 q1 ln hb (fun X' h' => ⟨tg_ok h' 8 _ _ ht, ih.f s2 X' h' _ _ hf, (ih.e s2 X' h' _ _ hx).pe⟩)
    · cases hc
  · split at hc
    · rename_i t' it' c' ht hi hf
      split at hc
      · rename_i t2' it2' c2 x ht2 hi2 hf2 hx
        have hb0 := (oi hc).1; replace hc := (oi hc).2
        cases hc
        rw [Bool.and_eq_true, Bool.and_eq_true] at hb0
        obtain ⟨⟨hb, hn1⟩, hn2⟩ := hb0
        obtain ⟨pi, ok⟩ := ih.it sc X h _ _ _ hi
        have ok2 := (ih.it s2 _ (h.blk (blkC_kind hb) X.s_0 X.H_0 0 [] []) _ _ _ hi2).2
        exact nd_comp2 h hb (pi hn1) (fun X' h' => ⟨tg_ok h' 8 _ _ ht, ih.f s2 X' h' _ _ hf, (ih.it s2 X' h' _ _ _ hi2).1 hn2, tg_ok h' 8 _ _ ht2, ih.f s2 X' h' _ _ hf2, (ih.e s2 X' h' _ _ hx).pe⟩) ok ok2
      · cases hc
    · cases hc
  · cases hc
theorem sts_of : ∀ (es : List Expr) (cs : List E), Snds S X (es.map unSt) cs → Sts S X es cs (es.map isStE)
  | [], _, .nil => .nil
  | e :: es, _, .cons st s r => by
    cases e with
    | Starred e p => exact .star s (sts_of es _ r)
    | _ => exact .one st s (sts_of es _ r)
theorem st_sub (ih : AllOk S k n) (h : Ct S k sc X) {a i : Expr} {c : E} (hc : cE S.C (n + 1) sc (.Subscript a i pos) = some c) : Snd S X (.Subscript a i pos) c := by
  simp only [cE] at hc
  split at hc
  · split at hc
    · split at hc
      · rename_i h1 h2 h3
        cases hc
        exact nd_slc h (ih.e sc X h _ _ h1) (ih.o sc X h _ _ h2) (ih.o sc X h _ _ h3)
      · cases hc
    · split at hc
      · split at hc
        · rename_i h1 h2
          cases hc
          exact nd_rev h (ih.e sc X h _ _ h1) (ih.o sc X h _ _ h2)
        · cases hc
      · cases hc
    · cases hc
  · split at hc
    · rename_i h1 h2
      cases hc
      exact nd_sub h (ih.e sc X h _ _ h1) (ih.e sc X h _ _ h2) (cE_node h2).2.2
    · cases hc
theorem st_e (ih : AllOk S k n) (h : Ct S k sc X) : ∀ e c, cE S.C (n + 1) sc e = some c → Snd S X e c := fun e c hc => by
  cases e with
  | Name x p =>
    simp only [cE] at hc
    have nm := (oi hc).1; replace hc := (oi hc).2
    obtain ⟨n1, n2, _⟩ := okNm_some nm
    exact nd_name h hc n1 n2
  | Constant q j p => simp only [cE] at hc; exact st_const h hc
  | Tuple es x1 p =>
    simp only [cE] at hc
    split at hc
    · obtain ⟨cs, h1, e0⟩ := omap hc; subst e0
      exact nd_tups h (sts_of es cs (ih.es sc X h _ _ h1))
    · obtain ⟨cs, h1, e0⟩ := omap hc; subst e0
      exact nd_tup (ih.es sc X h _ _ h1)
  | List es p =>
    simp only [cE] at hc
    obtain ⟨cs, h1, e0⟩ := omap hc; subst e0
    exact nd_lst (ih.es sc X h _ _ h1)
  | Dict ks vs p =>
    simp only [cE] at hc
    have hl := (oi hc).1; replace hc := (oi hc).2
    split at hc
    · cases hc; exact nd_dct0
    · rename_i hne
      obtain ⟨cs, h1, e0⟩ := omap hc; subst e0
      have s := ih.ks sc X h _ _ _ h1
      refine nd_dct s ?_ hl
      intro z
      subst z
      cases s
      exact hne rfl rfl
  | BinOp a op b p =>
    simp only [cE] at hc
    split at hc
    · rename_i h1 h2 h3
      cases hc
      rw [cBop_eq h1]
      exact nd_bin h (ih.e sc X h _ _ h2) (ih.e sc X h _ _ h3)
    · cases hc
  | UnaryOp op a p =>
    simp only [cE] at hc
    split at hc
    · obtain ⟨x, h1, e0⟩ := omap hc; subst e0
      exact nd_neg (ih.e sc X h _ _ h1)
    · obtain ⟨x, h1, e0⟩ := omap hc; subst e0
      exact nd_nt (ih.e sc X h _ _ h1)
    · cases hc
  | BoolOp op es p =>
    simp only [cE] at hc
    obtain ⟨cs, h1, h2⟩ := bind2 hc
    exact st_bools h (ih.es sc X h _ _ h1) h2
  | IfExp t a b p =>
    simp only [cE] at hc
    split at hc
    · rename_i h1 h2 h3
      cases hc
      exact nd_ite (ih.e sc X h _ _ h1) (ih.e sc X h _ _ h2) (ih.e sc X h _ _ h3)
    · cases hc
  | Compare a ops bs p =>
    simp only [cE] at hc
    split at hc
    · rename_i op b'
      split at hc
      · rename_i h1 h2
        cases hc
        have e1 := cCop_eq op
        generalize cCop op = o1 at *
        subst e1
        exact nd_cmp h (ih.e sc X h _ _ h1) (ih.e sc X h _ _ h2) (cE_node h2).2.1
      · cases hc
    · rename_i op op' b' c'
      split at hc
      · rename_i h1 h2 h3
        cases hc
        have e1 := cCop_eq op
        have e2 := cCop_eq op'
        generalize cCop op = o1 at *
        generalize cCop op' = o2 at *
        subst e1 e2
        exact nd_chn h (ih.e sc X h _ _ h1) (ih.e sc X h _ _ h2) (ih.e sc X h _ _ h3) (cE_node h3).2.1
      · cases hc
    · cases hc
  | Subscript a i p => exact st_sub ih h hc
  | ListComp elt gs s2 p => exact st_lc ih h hc
  | Call fe args kws p =>
    cases fe with
    | Name f p2 => exact st_call ih h hc
    | Attribute o m ap => exact st_meth ih h hc
    | _ => simp [cE] at hc
  | _ => simp [cE] at hc
end
/-- the compiled expressions do what the text does -/
theorem all_ok (S : Sx) (k : Nat) : ∀ n, AllOk S k n
  | 0 => ⟨fun _ _ _ e c h => by simp [cE] at h, fun _ _ _ e c h => by simp [cEs] at h, fun _ _ _ e v c h => by simp [cKs] at h, fun _ _ _ e c h => by simp [cKw] at h, fun _ _ _ e c h => by cases e <;> simp [cO] at h, fun _ _ _ e c h => by simp [cIf] at h, fun _ _ _ t e c h => by simp [cIt] at h⟩
  | n + 1 => ⟨fun sc X h => st_e (all_ok S k n) h, fun sc X h => st_es (all_ok S k n) h, fun sc X h => st_ks (all_ok S k n) h, fun sc X h => st_kw (all_ok S k n) h, fun sc X h => st_o (all_ok S k n) h, fun sc X h => st_f (all_ok S k n) h, fun sc X h => st_it (all_ok S k n) h⟩
end Qx
set_option Elab.async false
set_option linter.all false
set_option maxRecDepth 100000
set_option maxHeartbeats 4000000
/-! QStm: statements. -/
namespace Qx
open PySem PySem.Spec PyProof.Rows L2

/-! ### steps -/
structure Step (np : Nat) (nw : Nat → Bool) (A : Slots) (m : AdP) (H : Hp) (A' : Slots) (m' : AdP) (H' : Hp) : Prop where
  keep : ∀ a o, H a = some o → (∀ i, A i ≠ some a) → H' a = some o
  live : ∀ a, H a ≠ none → H' a ≠ none
  more : ∀ a, m a → m' a
  new : ∀ a, m' a → m a ∨ H a = none
  par : ∀ i, i < np → A' i = A i
  same : ∀ i, nw i = false → A' i = A i
  own : ∀ i a, A' i = some a → A i = some a ∨ H a = none
section
variable {np : Nat} {nw nw' : Nat → Bool} {A A' A2 : Slots} {m m' m2 : AdP} {H H' H2 : Hp}
theorem Step.refl : Step np nw A m H A m H := ⟨fun _ _ h _ => h, fun _ h => h, fun _ h => h, fun _ h => .inl h, fun _ _ => rfl, fun _ _ => rfl, fun _ _ h => .inl h⟩
theorem Step.nx (n : Nx A H H') : Step np nw A m H A m H' := ⟨n.keep, n.live, fun _ h => h, fun _ h => .inl h, fun _ _ => rfl, fun _ _ => rfl, fun _ _ h => .inl h⟩
theorem Step.back {a : Addr} (s : Step np nw A m H A' m' H') (h : H' a = none) : H a = none := by
  cases q : H a with
  | none => rfl
  | some o => exact (s.live a (by rw [q]; exact fun z => nomatch z) h).elim
theorem Step.trans (s : Step np nw A m H A' m' H') (t : Step np nw A' m' H' A2 m2 H2) : Step np nw A m H A2 m2 H2 where
  keep := fun a o e n => t.keep a o (s.keep a o e n) fun i z => (s.own i a z).elim (n i) fun z => by rw [e] at z; cases z
  live := fun a h => t.live a (s.live a h)
  more := fun a h => t.more a (s.more a h)
  new := fun a h => (t.new a h).elim (s.new a) fun z => .inr (s.back z)
  par := fun i h => (t.par i h).trans (s.par i h)
  same := fun i h => (t.same i h).trans (s.same i h)
  own := fun i a h => (t.own i a h).elim (s.own i a) fun z => .inr (s.back z)
theorem Step.wk (s : Step np nw A m H A' m' H') (h : ∀ i, nw' i = false → nw i = false) : Step np nw' A m H A' m' H' := ⟨s.keep, s.live, s.more, s.new, s.par, fun i e => s.same i (h i e), s.own⟩
theorem Step.kp {G : Gd} {env : En} {σ : L2.St} (r : RE G A m env σ H) (s : Step np nw A m H A' m' H') : Kp m m' H H' := ⟨fun a o e n => s.keep a o e fun i z => n (r.mem i a z), s.new⟩
end
/-- what is handed back -/
structure RetR (S : Sx) (fr : Bool) (np : Nat) (A : Slots) (m : AdP) (Hb H : Hp) (env' : En) (d : D) (v : V) : Prop where
  nx : Nx A Hb H
  ex : ∃ m2 : AdP, (∀ a, m2 a → m a ∨ Hb a = none) ∧ (∀ a, m a → m2 a ∨ ∃ i, np ≤ i ∧ A i = some a) ∧ (∀ a, m2 a → H a ≠ none) ∧
    (∀ i o, i < np → getO env' i = some o → ∃ a, A i = some a ∧ OwnAt S.G m2 H a o) ∧
    ((∃ a, v = .ref a ∧ m2 a ∧ (Hb a = none ∨ ∃ i, np ≤ i ∧ A i = some a) ∧ OwnAt S.G m2 H a d) ∨ (Rep S.G m2 H d v ∧ (fr = false ∨ isC d = false)))
def Out (S : Sx) (np : Nat) (fr : Bool) (nw : Nat → Bool) (D : Ends) (A : Slots) (m : AdP) (H : Hp) (env' : En) : Fl → Prop
  | .nx => ∀ A' m' σ' H', Step np nw A m H A' m' H' → RE S.G A' m' env' σ' H' → D.nx σ' H'
  | .brk => ∀ A' m' σ' H', Step np nw A m H A' m' H' → RE S.G A' m' env' σ' H' → D.bk σ' H'
  | .ct => ∀ A' m' σ' H', Step np nw A m H A' m' H' → RE S.G A' m' env' σ' H' → D.ct σ' H'
  | .ret d => ∀ A' m' Hb H' v, Step np nw A m H A' m' Hb → RetR S fr np A' m' Hb H' env' d v → D.rt v H'
section
variable {S : Sx} {np : Nat} {fr : Bool} {nw nw' : Nat → Bool} {D : Ends} {A A1 : Slots} {m m1 : AdP} {H H1 : Hp} {env' : En} {fl : Fl}
theorem Out.later (o : Out S np fr nw D A m H env' fl) (s : Step np nw A m H A1 m1 H1) : Out S np fr nw D A1 m1 H1 env' fl := by
  cases fl with
  | nx => exact fun A' m' σ' H' t r => o A' m' σ' H' (s.trans t) r
  | brk => exact fun A' m' σ' H' t r => o A' m' σ' H' (s.trans t) r
  | ct => exact fun A' m' σ' H' t r => o A' m' σ' H' (s.trans t) r
  | ret d => exact fun A' m' Hb H' v t r => o A' m' Hb H' v (s.trans t) r
theorem Out.wk (o : Out S np fr nw D A m H env' fl) (h : ∀ i, nw i = false → nw' i = false) : Out S np fr nw' D A m H env' fl := by
  cases fl with
  | nx => exact fun A' m' σ' H' t r => o A' m' σ' H' (t.wk h) r
  | brk => exact fun A' m' σ' H' t r => o A' m' σ' H' (t.wk h) r
  | ct => exact fun A' m' σ' H' t r => o A' m' σ' H' (t.wk h) r
  | ret d => exact fun A' m' Hb H' v t r => o A' m' Hb H' v (t.wk h) r
end
def tS (S : Sx) (np : Nat) (fr : Bool) (s : Qx.S) : L2.TS := fun D σ H => ∃ A m env fl env', RE S.G A m env σ H ∧ evS S.Φ S.R np s env = some (fl, env') ∧ Out S np fr (fun i => newS i s) D A m H env' fl
def tSs (S : Sx) (np : Nat) (fr : Bool) (ss : List Qx.S) : L2.TS := fun D σ H => ∃ A m env fl env', RE S.G A m env σ H ∧ evSs S.Φ S.R np ss env = some (fl, env') ∧ Out S np fr (fun i => newSs i ss) D A m H env' fl
theorem oF {γ : Type} {o : Option (Fl × En)} {f : Fl → En → Option γ} {c : γ} (h : (match o with | some (a, b) => f a b | none => none) = some c) : ∃ a b, o = some (a, b) ∧ f a b = some c := by
  split at h
  · exact ⟨_, _, rfl, h⟩
  · cases h
section
variable {S : Sx} {k : Nat} {sc : Scope} {X : Cx} {pos : Pos} {np : Nat} {fr : Bool}
/-! ### rows of statements -/
theorem sq_nil : PSs X [] (tSs S np fr []) := pss_nil.imp fun D σ H ⟨A, m, env, fl, env', re, ev, o⟩ => by
  simp only [evSs] at ev
  cases ev
  exact o A m σ H .refl re
theorem sq_cons {st : Stmt} {rest : List Stmt} {s : Qx.S} {ss : List Qx.S} (h1 : PS X st (tS S np fr s)) (h2 : PSs X rest (tSs S np fr ss)) : PSs X (st :: rest) (tSs S np fr (s :: ss)) :=
  (pss_cons h1 h2).imp fun D σ H ⟨A, m, env, fl, env', re, ev, o⟩ => by
    simp only [evSs] at ev
    cases q : evS S.Φ S.R np s env with
    | none => rw [q] at ev; cases ev
    | some r =>
      obtain ⟨fl1, e1⟩ := r
      rw [q] at ev
      have w1 : ∀ i, newSs i (s :: ss) = false → newS i s = false := fun i z => by
        simp only [newSs, Bool.or_eq_false_iff] at z; exact z.1
      have w2 : ∀ i, newSs i (s :: ss) = false → newSs i ss = false := fun i z => by
        simp only [newSs, Bool.or_eq_false_iff] at z; exact z.2
      refine ⟨A, m, env, fl1, e1, re, q, ?_⟩
      cases fl1 with
      | nx =>
        refine fun A1 m1 σ1 H1 s1 r1 => ⟨A1, m1, e1, fl, env', r1, ev, ?_⟩
        have o1 := o.later (s1.wk w1)
        cases fl with
        | nx => exact fun A' m' σ' H' t r => o1 A' m' σ' H' (t.wk w2) r
        | brk => exact fun A' m' σ' H' t r => o1 A' m' σ' H' (t.wk w2) r
        | ct => exact fun A' m' σ' H' t r => o1 A' m' σ' H' (t.wk w2) r
        | ret d => exact fun A' m' Hb H' v t r => o1 A' m' Hb H' v (t.wk w2) r
      | brk =>
        cases ev
        exact fun A' m' σ' H' t r => o A' m' σ' H' (t.wk w1) r
      | ct =>
        cases ev
        exact fun A' m' σ' H' t r => o A' m' σ' H' (t.wk w1) r
      | ret d =>
        cases ev
        exact fun A' m' Hb H' v t r => o A' m' Hb H' v (t.wk w1) r
theorem sn_pass : PS X (.Pass pos) (tS S np fr .pass) := ps_pass.imp fun D σ H ⟨A, m, env, fl, env', re, ev, o⟩ => by
  simp only [evS] at ev
  cases ev
  exact o A m σ H .refl re
theorem sn_brk : PS X (.Break pos) (tS S np fr .brk) := ps_break.imp fun D σ H ⟨A, m, env, fl, env', re, ev, o⟩ => by
  simp only [evS] at ev
  cases ev
  exact o A m σ H .refl re
theorem sn_cnt : PS X (.Continue pos) (tS S np fr .cnt) := ps_continue.imp fun D σ H ⟨A, m, env, fl, env', re, ev, o⟩ => by
  simp only [evS] at ev
  cases ev
  exact o A m σ H .refl re
theorem sn_bad {st : Stmt} : PS X st (tS S np fr .bad) := ps_never.imp fun D σ H ⟨A, m, env, fl, env', re, ev, o⟩ => by
  simp only [evS] at ev
  cases ev
theorem sn_exp {e : Expr} {c : E} (s : Snd S X e c) (n : isLC e = false) : PS X (.Expr e pos) (tS S np fr (.exp c)) := (ps_expr s.pe (swaps_ok n)).imp fun D σ H ⟨A, m, env, fl, env', re, ev, o⟩ => by
  simp only [evS] at ev
  obtain ⟨d, e1, ev1, ev⟩ := oD ev
  cases ev
  exact ⟨A, m, env, d, _, re, ev1, fun v H1 p => o A m σ H1 (.nx p.nx) p.re⟩
theorem sn_if {c : Expr} {a b : List Stmt} {x : E} {ya yb : List Qx.S} (s : Snd S X c x) (sa : PSs X a (tSs S np fr ya)) (sb : PSs X b (tSs S np fr yb)) : PS X (.If c a b pos) (tS S np fr (.ite x ya yb)) :=
  (ps_if s.pt sa sb).imp fun D σ H ⟨A, m, env, fl, env', re, ev, o⟩ => by
    simp only [evS] at ev
    rcases ob ev with ⟨e1, ev1, ev⟩ | ⟨e1, ev1, ev⟩
    · refine ⟨A, m, env, true, e1, re, ev1, fun H1 n1 r1 => iteT ⟨A, m, e1, fl, env', r1, ev, (o.later (.nx n1)).wk fun i z => ?_⟩⟩
      simp only [newS, Bool.or_eq_false_iff] at z
      exact z.1
    · refine ⟨A, m, env, false, e1, re, ev1, fun H1 n1 r1 => iteF ⟨A, m, e1, fl, env', r1, ev, (o.later (.nx n1)).wk fun i z => ?_⟩⟩
      simp only [newS, Bool.or_eq_false_iff] at z
      exact z.2

/-! ### loops -/
theorem opE_o {c : E} {f : En → Option (D × En)} {env e1 : En} {i : Nat} (h : opE c f env = some (.o i, e1)) : c = .own i := by
  cases hc : isOwn c with
  | true =>
    cases c <;> simp [isOwn] at hc
    obtain ⟨_, h2, _⟩ := opE_own h
    cases h2; rfl
  | false =>
    obtain ⟨d, _, h2⟩ := opE_not hc h
    cases h2
theorem evIt_own {Φ : Orc} {R : Rfs} {it : Qx.It} {env e1 : En} {xs : List Qx.D} {g : Qx.A × Qx.D} {i : Nat} (h : evIt Φ R it env = some (xs, g, e1)) (hg : g.1 = .o i) (ni : ∀ e, it ≠ .itms e) : itOwn it = some i := by
  cases it with
  | seq e =>
    simp only [evIt] at h
    obtain ⟨a, e2, ev1, h⟩ := oA h
    obtain ⟨d, h1, h2, h3, h4⟩ := itOf_some h
    rw [h3] at hg
    cases hg
    rw [opE_o ev1]; rfl
  | enu e =>
    simp only [evIt] at h
    obtain ⟨a, e2, ev1, h⟩ := oA h
    obtain ⟨d, h1, h2, h3, h4⟩ := itOf_some h
    rw [h3] at hg
    cases hg
    rw [opE_o ev1]; rfl
  | rng es =>
    simp only [evIt] at h
    obtain ⟨ds, e2, ev1, h⟩ := oL h
    obtain ⟨ys, h1, h⟩ := o1L h
    cases h
    cases hg
  | zip a b =>
    simp only [evIt] at h
    obtain ⟨x, e2, ev1, h⟩ := oD h
    obtain ⟨y, e3, ev2, h⟩ := oD h
    split at h
    · cases h; cases hg
    · cases h
  | itms e => exact (ni e rfl).elim
theorem forL_gd {t : TN} {g : En → Bool} {body : En → Option (Fl × En)} {xs : List Qx.D} {env : En} {r : Fl × En} (h : forL t g body xs env = some r) : g env = true := by
  cases xs <;> simp only [forL] at h <;> exact (oi h).1
theorem for_core {t : TN} {b : List Qx.S} {J : L2.It} {A : Slots} {m : AdP} {g : Qx.A × Qx.D} {H1 : Hp} {xs : List Qx.D} {e1 env' : En} {σ : L2.St} {D : Ends} {fl : Fl} (r1 : RE S.G A m e1 σ H1) (iok : ItOk S J A m g H1 xs) (ev : forL t (gd g.1 g.2) (evSs S.Φ S.R np b) xs e1 = some (fl, env'))
    (o1 : Out S np fr (fun i => newSs i b) D A m H1 env' fl) (own0 : ∀ i, g.1 = .o i → newSs i b = false) :
    ∃ W : Nat → Nat → L2.St → Hp → Prop, (∃ m, W 0 m σ H1) ∧ ∀ i m σ H, W i m σ H →
      (J.stop i H ∧ D.nx σ H) ∨ (J.go i H ∧ ∃ N : L2.St → Hp → Prop, (∀ σ' H', N σ' H' → ∃ m', m' < m ∧ W (i + 1) m' σ' H') ∧ ∀ x H', J.yld i H x H' → tG S t x σ H' fun σ2 H2 => tSs S np fr b { D with nx := N, ct := N, bk := D.nx } σ2 H2) := by
  obtain ⟨W, Y, wk, later⟩ := iok.ok
  let Pv : Nat → L2.St → Hp → Prop := fun i σ' H' => ∃ A' m' env2, Step np (fun i => newSs i b) A m H1 A' m' H' ∧ RE S.G A' m' env2 σ' H' ∧ forL t (gd g.1 g.2) (evSs S.Φ S.R np b) (xs.drop i) env2 = some (fl, env')
  have lat : ∀ {i : Nat} {A' : Slots} {m' : AdP} {env2 : En} {σ' : L2.St} {H' : Hp}, Step np (fun i => newSs i b) A m H1 A' m' H' → RE S.G A' m' env2 σ' H' → forL t (gd g.1 g.2) (evSs S.Φ S.R np b) (xs.drop i) env2 = some (fl, env') → Later S A m g H1 A' m' env2 σ' H' :=
    fun s r h => ⟨r, s.kp r1, fun i e => s.same i (own0 i e), forL_gd h⟩
  refine for_it wk Pv ⟨A, m, e1, .refl, r1, by rw [List.drop_zero]; exact ev⟩ ?_ ?_ ?_
  · rintro i σ' H' _ ⟨A', m', env2, s, r, h⟩
    exact (later _ _ _ _ _ (lat s r h)).1
  · rintro i v σ' H' H'' hi ⟨A', m', env2, s, r, h⟩ hY
    obtain ⟨dx, hx, ex, rx⟩ := (later _ _ _ _ _ (lat s r h)).2 i v H'' hi hY
    rw [List.drop_eq_getElem_cons hi] at h
    have hdx : xs[i] = dx := by
      rw [List.getElem?_eq_getElem hi] at hx
      exact Option.some.inj hx
    rw [hdx] at h
    simp only [forL] at h
    replace h := (oi h).2
    obtain ⟨e3, hp, h⟩ := o1N h
    refine ⟨A', m', env2, dx, e3, r.ex ex, rx, hp, fun σ2 r2 _ _ => ?_⟩
    have s2 : Step np (fun i => newSs i b) A m H1 A' m' H'' := s.trans (.nx ex.nx)
    cases q : evSs S.Φ S.R np b e3 with
    | none => rw [q] at h; cases h
    | some rr =>
      obtain ⟨fl1, e4⟩ := rr
      rw [q] at h
      refine ⟨A', m', e3, fl1, e4, r2, q, ?_⟩
      cases fl1 with
      | nx => exact fun A3 m3 σ3 H3 t3 r3 => ⟨A3, m3, e4, s2.trans t3, r3, h⟩
      | ct => exact fun A3 m3 σ3 H3 t3 r3 => ⟨A3, m3, e4, s2.trans t3, r3, h⟩
      | brk =>
        cases h
        exact fun A3 m3 σ3 H3 t3 r3 => o1 A3 m3 σ3 H3 (s2.trans t3) r3
      | ret d =>
        cases h
        exact fun A3 m3 Hb H3 v t3 r3 => o1 A3 m3 Hb H3 v (s2.trans t3) r3
  · rintro σ' H' ⟨A', m', env2, s, r, h⟩
    rw [List.drop_length] at h
    simp only [forL] at h
    replace h := (oi h).2
    cases h
    exact o1 A' m' σ' H' s r
theorem for_key {t : TN} {it : Qx.It} {b : List Qx.S} (ni : ∀ e, it ≠ .itms e) (nn : ∀ i, itOwn it = some i → newSs i b = false) (D : Ends) (σ : L2.St) (H : Hp) (w : tS S np fr (.for_ t it b) D σ H) : tFor (tI S it) (tG S t) (tSs S np fr b) D σ H := by
  obtain ⟨A, m, env, fl, env', re, ev, o⟩ := w
  simp only [evS] at ev
  obtain ⟨xs, g, e1, ev1, ev⟩ := oI ev
  refine ⟨A, m, env, xs, g, e1, re, ev1, fun J H1 n1 r1 iok => ?_⟩
  have o1 : Out S np fr (fun i => newSs i b) D A m H1 env' fl := (o.later (.nx n1)).wk fun i z => by simpa only [newS] using z
  exact for_core r1 iok ev o1 fun i e => nn i (evIt_own ev1 e ni)
theorem sn_for (h : Ct S k sc X) {tg iter : Expr} {body : List Stmt} {t : TN} {it : Qx.It} {b : List Qx.S} (hi : PI X tg iter (tI S it)) (ok : okNode iter = true) (hg : PG X tg (tG S t)) (hb : PSs X body (tSs S np fr b)) (ni : ∀ e, it ≠ .itms e) (nn : ∀ i, itOwn it = some i → newSs i b = false) :
    PS X (.For tg iter body [] pos) (tS S np fr (.for_ t it b)) :=
  (ps_for (by rw [h.xe]; exact PassesOwn.never) h.calm hi hg hb (fun _ => fold_ok ok)).imp (for_key ni nn)
theorem sn_while (h : Ct S k sc X) {c : Expr} {body : List Stmt} {x : E} {b : List Qx.S} (s : Snd S X c x) (hb : PSs X body (tSs S np fr b)) : PS X (.While c body [] pos) (tS S np fr (.whl x b)) := by
  refine (ps_while (by rw [h.xe]; exact PassesOwn.never) s.pt hb).imp fun D σ H ⟨A, m, env, fl, env', re, ev, o⟩ => ?_
  simp only [evS] at ev
  have o1 : Out S np fr (fun i => newSs i b) D A m H env' fl := o.wk fun i z => by simpa only [newS] using z
  let W : Nat → L2.St → Hp → Prop := fun n σ' H' => ∃ A' m' env2, Step np (fun i => newSs i b) A m H A' m' H' ∧ RE S.G A' m' env2 σ' H' ∧ whileL (evE S.Φ S.R x) (evSs S.Φ S.R np b) n env2 = some (fl, env')
  refine ⟨W, ⟨FUEL, A, m, env, .refl, re, ev⟩, ?_⟩
  rintro n σ' H' ⟨A', m', env2, st, r, hw⟩
  cases n with
  | zero => simp only [whileL] at hw; cases hw
  | succ n =>
    simp only [whileL] at hw
    cases q0 : asB (evE S.Φ S.R x env2) with
    | none => rw [q0] at hw; cases hw
    | some rr =>
      obtain ⟨bb, e1⟩ := rr
      rw [q0] at hw
      refine ⟨A', m', env2, bb, e1, r, q0, fun H1 n1 r1 => ?_⟩
      have s2 : Step np (fun i => newSs i b) A m H A' m' H1 := st.trans (.nx n1)
      cases bb with
      | false =>
        refine iteF ?_
        cases hw
        exact o1 A' m' σ' H1 s2 r1
      | true =>
        refine iteT ⟨W n, fun σ2 H2 w2 => ⟨n, Nat.lt_succ_self n, w2⟩, ?_⟩
        cases q : evSs S.Φ S.R np b e1 with
        | none => simp only [q] at hw; cases hw
        | some rr =>
          obtain ⟨fl1, e4⟩ := rr
          simp only [q] at hw
          refine ⟨A', m', e1, fl1, e4, r1, q, ?_⟩
          cases fl1 with
          | nx => exact fun A3 m3 σ3 H3 t3 r3 => ⟨A3, m3, e4, s2.trans t3, r3, hw⟩
          | ct => exact fun A3 m3 σ3 H3 t3 r3 => ⟨A3, m3, e4, s2.trans t3, r3, hw⟩
          | brk =>
            cases hw
            exact fun A3 m3 σ3 H3 t3 r3 => o1 A3 m3 σ3 H3 (s2.trans t3) r3
          | ret d =>
            cases hw
            exact fun A3 m3 Hb H3 v t3 r3 => o1 A3 m3 Hb H3 v (s2.trans t3) r3
end
end Qx
set_option Elab.async false
set_option linter.all false
set_option maxRecDepth 100000
set_option maxHeartbeats 4000000
/-! QStm2: returns, assignments. -/
namespace Qx
open PySem PySem.Spec PyProof.Rows L2

section
variable {S : Sx} {k : Nat} {sc : Scope} {X : Cx} {pos : Pos} {np : Nat} {fr : Bool}
/-! ### return -/
def tRv (S : Sx) (np : Nat) (fr : Bool) (c : E) : TE := fun σ H Q => ∃ A m env d env', RE S.G A m env σ H ∧ evR S.Φ S.R np c env = some (d, env') ∧ ∀ v H', RetR S fr np A m H H' env' d v → Q v H'
theorem sn_ret {e : Expr} {c : E} (h : PE X e (tRv S np fr c)) : PS X (.Return (some e) pos) (tS S np fr (.ret c)) := (ps_ret h).imp fun D σ H ⟨A, m, env, fl, env', re, ev, o⟩ => by
  simp only [evS] at ev
  obtain ⟨d, e1, ev1, ev⟩ := oD ev
  cases ev
  exact ⟨A, m, env, d, _, re, ev1, fun v H' r => o A m H H' v .refl r⟩
section
variable {G : Gd} {A : Slots} {m : AdP} {env : En} {σ : L2.St} {H : Hp}
theorem RE.outs (r : RE G A m env σ H) (i : Nat) (o : D) (e : getO env i = some o) : ∃ a, A i = some a ∧ OwnAt G m H a o := by
  obtain ⟨a, h1, _, h3⟩ := r.own i o (getO_some e)
  exact ⟨a, h1, h3⟩
end
theorem rv_own {x : Expr} {i : Nat} (h : PE X x (tA S (.own i))) : PE X x (tRv S np fr (.own i)) := h.imp fun σ H Q ⟨A, m, env, d, env', re, ev, q⟩ => by
  simp only [evR] at ev
  have hn := (oi ev).1
  obtain ⟨d', h1, h2⟩ := omap (oi ev).2
  cases h2
  refine ⟨A, m, env, .o i, env, re, ?_, fun v H1 n1 r1 a1 => ?_⟩
  · simp only [opE]
    rw [if_pos (by unfold isO; rw [getO_some h1])]
  · obtain ⟨a, ha, rfl⟩ := a1
    obtain ⟨a', h2, h3⟩ := r1.outs i d h1
    rw [ha] at h2; cases h2
    exact q _ H1 ⟨n1, m, fun a z => .inl z, fun a z => .inl z, r1.live, fun j o _ e => r1.outs j o e, .inl ⟨a, rfl, r1.mem i a ha, .inr ⟨i, hn, ha⟩, h3⟩⟩
theorem rv_val {x : Expr} {c : E} (h : PE X x (tV S c)) (nc : ∀ es, c ≠ .tup es) (no : isOwn c = false) (hf : fr = true → frE S.C.F c = true) : PE X x (tRv S np fr c) := h.imp fun σ H Q ⟨A, m, env, d, env', re, ev, q⟩ => by
  have ev : evE S.Φ S.R c env = some (d, env') := by
    unfold evR at ev
    split at ev
    · cases no
    · exact (nc _ rfl).elim
    · exact ev
  refine ⟨A, m, env, d, env', re, ev, fun v H1 p => ?_⟩
  by_cases hc : fr = true ∧ isC d = true
  · obtain ⟨a, rfl, ha, r2, ho⟩ := p.fr (hf hc.1) hc.2
    exact q _ H1 ⟨p.nx, ad m a, fun b z => z.elim (fun z => .inr (z ▸ ha)) .inl, fun b z => .inl (.inr z), r2.live, fun j o _ e => r2.outs j o e, .inl ⟨a, rfl, .inl rfl, .inl ha, ho⟩⟩
  · refine q _ H1 ⟨p.nx, m, fun a z => .inl z, fun a z => .inl z, p.re.live, fun j o _ e => p.re.outs j o e, .inr ⟨p.rep, ?_⟩⟩
    cases fr with
    | false => exact .inl rfl
    | true =>
      cases hd : isC d with
      | false => exact .inr rfl
      | true => exact (hc ⟨rfl, hd⟩).elim

theorem rv_tup {es : List Expr} {cs : List E} {x1 : Nat} (s : Snds S X es cs) : PE X (.Tuple es x1 pos) (tRv S np fr (.tup cs)) := (pe_tupX (x1 := x1) s.as).imp fun σ H Q ⟨A, m, env, d, env', re, ev, q⟩ => by
  simp only [evR] at ev
  obtain ⟨as, e1, ev1, ev⟩ := oR ev
  have hall := (oi ev).1
  replace ev := (oi ev).2
  obtain ⟨ds, hds, ev⟩ := o1L ev
  have hz := (oi ev).1
  replace ev := (oi ev).2
  cases ev
  refine ⟨A, m, env, as, _, re, ev1, fun vs H1 n1 r1 a1 => ⟨?_, fun p ob hp hob => ?_⟩⟩
  · rw [← paired_len a1, ← resAs_len hds]
    exact sz_eq ▸ hz
  · let giv : Addr → Prop := fun a => ∃ j i : Nat, as[j]? = some (Qx.A.o i) ∧ A i = some a
    let m2 : AdP := fun a => m a ∧ ¬ giv a
    have r2 : RE S.G A m env' σ (upd H1 p (.frz ob (.tup vs))) := r1.laid hp
    have rs : ∀ {as : List Qx.A} {vs : List V} {ds : List D}, AReps S.G A m H1 as vs → resAs env' as = some ds → (∀ j i : Nat, as[j]? = some (Qx.A.o i) → ∃ j', (∃ a, A i = some a → giv a) ∧ j' = j) → (∀ (j i : Nat) (a : Addr), as[j]? = some (Qx.A.o i) → A i = some a → giv a) → Reps S.G m2 H1 ds vs := by
      intro as
      induction as with
      | nil =>
        intro vs ds ar e _ _
        cases ar
        simp only [resAs] at e
        cases e
        exact .nil
      | cons a as ih =>
        intro vs ds ar e w1 w2
        cases ar with
        | cons x xs =>
          simp only [resAs] at e
          rw [Option.bind_eq_some_iff] at e
          obtain ⟨d, g1, g2⟩ := e
          obtain ⟨ds', g3, g4⟩ := omap g2
          subst g4
          refine .cons ?_ (ih xs g3 (fun j i z => ⟨j, ⟨0, fun y => w2 (j + 1) i 0 (by simpa using z) y⟩, rfl⟩) fun j i b z y => w2 (j + 1) i b (by simpa using z) y)
          cases a with
          | v d' =>
            cases g1
            exact Rep.mono (Kp.weak fun b z => z.1) _ _ x
          | o i =>
            obtain ⟨b, g5, rfl⟩ := x
            obtain ⟨b', g6, g7⟩ := r1.outs i d g1
            rw [g5] at g6; cases g6
            exact (g7.weak (m' := m2) fun b z => z.1).rep fun z => z.2 (w2 0 i b rfl g5)
    have lv2 : ∀ a, m2 a → upd H1 p (.frz ob (.tup vs)) a ≠ none := fun a z => r2.live a z.1
    refine q _ _ ⟨n1.trans (Nx.laid hp), m2, fun a z => .inl z.1, fun a z => ?_, lv2, fun i o _ e => ?_, .inr ⟨?_, .inr rfl⟩⟩
    · by_cases c : giv a
      · obtain ⟨j, i, g1, g2⟩ := c
        have := List.all_eq_true.mp hall _ (List.mem_of_getElem? g1)
        simp only [retA, decide_eq_true_eq] at this
        exact .inr ⟨i, this, g2⟩
      · exact .inl ⟨z, c⟩
    · obtain ⟨a, g1, g2⟩ := r2.outs i o e
      exact ⟨a, g1, g2.weak fun b z => z.1⟩
    · have hr := rs a1 hds (fun j i z => ⟨j, ⟨0, fun y => ⟨j, i, z, y⟩⟩, rfl⟩) fun j i a z y => ⟨j, i, z, y⟩
      simp only [Rep]
      exact ⟨p, vs, rfl, ⟨⟨ob, upd_same, hob⟩, fun z => r1.live p z.1 hp⟩, hr.mono (Ex.laid hp).kp⟩
end

/-! ### stores -/
theorem sw_eq (ts vs : List Expr) (k k2 : Nat) (p p2 : Pos) (env : Env) : swappedStores [.Tuple ts k p] (.Tuple vs k2 p2) env = match swk (env.blockKind == .function) (fun id => env.kindOf id == some .local) ts vs with
    | 0 => pure none
    | 1 => pure (some (swNames (fun id => env.kindOf id == some .local) ts))
    | _ => swappedStores [.Tuple ts k p] (.Tuple vs k2 p2) env := by
  unfold swk
  have e : swNames (fun id => env.kindOf id == some .local) ts = ts.filterMap fun
    | .Name id pos => if env.kindOf id == some .local && pos.line == (ts.head?.map (·.pos.line)).getD 0 then some id else none
    | _ => none := rfl
  have e2 : (vs.any isStarB) = vs.any fun | .Starred .. => true | _ => false := rfl
  unfold swappedStores
  dsimp only
  split
  · rename_i h
    have h' : (!(ts.length == 2 || ts.length == 3) || vs.length != ts.length || !(env.blockKind == .function)) = true := by simpa [bne] using h
    rw [if_pos h']
    rfl
  · rename_i h
    have h' : ¬ (!(ts.length == 2 || ts.length == 3) || vs.length != ts.length || !(env.blockKind == .function)) = true := by simpa [bne] using h
    rw [if_neg h']
    split
    · rename_i h2
      rw [if_pos (show vs.any isStarB = true from by rw [e2]; exact h2)]
      rfl
    · rename_i h2
      rw [if_neg (show ¬ vs.any isStarB = true from by rw [e2]; exact h2)]
      split
      · rename_i h3
        have h3' : ((swNames (fun id => env.kindOf id == some .local) ts).length != ts.length || (swNames (fun id => env.kindOf id == some .local) ts).eraseDups.length != (swNames (fun id => env.kindOf id == some .local) ts).length) = true := h3
        rw [if_pos h3']
        rfl
      · rename_i h3
        have h3' : ¬ ((swNames (fun id => env.kindOf id == some .local) ts).length != ts.length || (swNames (fun id => env.kindOf id == some .local) ts).eraseDups.length != (swNames (fun id => env.kindOf id == some .local) ts).length) = true := h3
        rw [if_neg h3']
        split
        · rfl
        · split
          · rfl
          · rfl

section
variable {S : Sx} {k : Nat} {sc : Scope} {X : Cx} {pos : Pos} {np : Nat} {fr : Bool}
theorem Ct.block (h : Ct S k sc X) : (X.env.blockKind == .function) = true := by
  unfold Env.blockKind
  rw [h.kind]
  rfl
theorem Ct.locB (h : Ct S k sc X) {x : Str} (e : isLoc sc x = true) : (X.env.kindOf x == some .local) = Qx.locB sc x := by
  unfold isLoc at e
  unfold Qx.locB
  split at e
  · rename_i q
    have : X.env.kindOf x = some .local := h.loc x q
    rw [this, q]; rfl
  · rename_i q
    have : X.env.kindOf x = some .cell := (h.cell x q).1
    rw [this, q]; rfl
  · cases e
theorem fm_congr {α β : Type} {f g : α → Option β} : ∀ {l : List α}, (∀ x ∈ l, f x = g x) → l.filterMap f = l.filterMap g
  | [], _ => rfl
  | a :: l, h => by
    rw [List.filterMap_cons, List.filterMap_cons, h a List.mem_cons_self, fm_congr fun x hx => h x (List.mem_cons_of_mem _ hx)]
theorem sw_names (h : Ct S k sc X) {ts : List Expr} (hl : ∀ t ∈ ts, ∀ id p, t = .Name id p → isLoc sc id = true) : swNames (fun id => X.env.kindOf id == some .local) ts = swNames (Qx.locB sc) ts := by
  unfold swNames
  refine fm_congr fun t ht => ?_
  cases t with
  | Name id p => simp only [swF, h.locB (hl _ ht id p rfl)]
  | _ => rfl
theorem sw_stat (h : Ct S k sc X) {ts vs : List Expr} {kk k2 : Nat} {p p2 : Pos} (hl : ∀ t ∈ ts, ∀ id p, t = .Name id p → isLoc sc id = true) :
    (swk true (Qx.locB sc) ts vs = 0 → swappedStores [.Tuple ts kk p] (.Tuple vs k2 p2) X.env = pure none) ∧ (swk true (Qx.locB sc) ts vs = 1 → swappedStores [.Tuple ts kk p] (.Tuple vs k2 p2) X.env = pure (some (swNames (Qx.locB sc) ts))) := by
  have e := sw_eq ts vs kk k2 p p2 X.env
  have e2 : swk (X.env.blockKind == .function) (fun id => X.env.kindOf id == some .local) ts vs = swk true (Qx.locB sc) ts vs := by
    unfold swk
    rw [sw_names h hl, h.block]
  rw [e2, sw_names h hl] at e
  exact ⟨fun z => by rw [z] at e; exact e, fun z => by rw [z] at e; exact e⟩
/-- name = e, whatever e is -/
theorem set_name (h : Ct S k sc X) {e : Expr} {c : E} (s : Snd S X e c) (hni : noItm c = true) {x : Str} {i : Nat} {py spos : Pos} (hl : isLoc sc x = true) (hi : ixOf S.C.N x = some i) : PS X (.Assign [.Name x py] e spos) (tAsg (tV S c) (gName i)) := by
  obtain ⟨l1, l2⟩ := h.locL hl
  have nd : X.N.Nodup := by rw [h.N]; exact h.nd
  cases lc : isLC e with
  | false => exact ps_set nd (h.ix hi) l1 s.pe (swaps_ok lc) l2
  | true =>
    have key : ∃ b, swapsWith e (some (.Name x py)) spos.line X.env = pure b ∧ (b = true → X.env.kindOf x = some .local) := by
      cases e <;> simp only [isLC] at lc <;> (first | cases lc; done | skip)
      all_goals
        refine ⟨_, rfl, fun z => ?_⟩
        simp only [Bool.and_eq_true] at z
        exact eq_of_beq z.1.1.2
    obtain ⟨b, hb, hk⟩ := key
    cases b with
    | false => exact ps_set nd (h.ix hi) l1 s.pe hb l2
    | true => exact s.sw lc hni i x py spos (h.ix hi) (hk rfl) hb
theorem sn_asg (h : Ct S k sc X) {e : Expr} {c : E} (s : Snd S X e c) (hni : noItm c = true) {x : Str} {i : Nat} {py : Pos} (hl : isLoc sc x = true) (hi : ixOf S.C.N x = some i) : PS X (.Assign [.Name x py] e pos) (tS S np fr (.asg (.tn (.nm i)) c)) :=
  (set_name h s hni hl hi).imp fun D σ H ⟨A, m, env, fl, env', re, ev, o⟩ => by
    simp only [evS] at ev
    obtain ⟨d, e1, ev1, ev⟩ := oD ev
    obtain ⟨e2, hp, e0⟩ := omap ev
    cases e0
    simp only [putS, putT] at hp
    replace hp := (oni hp).2
    have hp2 := (oi hp).2
    cases hp2
    exact ⟨A, m, env, d, e1, re, ev1, fun v H1 p => o A m _ H1 (.nx p.nx) (p.re.put p.rep)⟩
end
end Qx
set_option Elab.async false
set_option linter.all false
set_option maxRecDepth 100000
set_option maxHeartbeats 4000000
/-! QStm3: new things of one's own; stores into things; rows of names. -/
namespace Qx
open PySem PySem.Spec PyProof.Rows L2

def setA (A : Slots) (i : Nat) (a : Addr) : Slots := fun j => if j = i then some a else A j
section
variable {G : Gd} {A : Slots} {m : AdP} {env : En} {σ : L2.St} {H : Hp}
theorem setA_same {i : Nat} {a : Addr} : setA A i a i = some a := if_pos rfl
theorem setA_ne {i j : Nat} {a : Addr} (h : j ≠ i) : setA A i a j = A j := if_neg h
theorem setA_cases {i j : Nat} {a b : Addr} (h : setA A i a j = some b) : (j = i ∧ b = a) ∨ (j ≠ i ∧ A j = some b) := by
  by_cases c : j = i
  · subst c
    rw [setA_same] at h
    exact .inl ⟨rfl, (Option.some.inj h).symm⟩
  · rw [setA_ne c] at h
    exact .inr ⟨c, h⟩
/-- a slot gets a new thing -/
theorem RE.new {i : Nat} {a : Addr} {d : D} (r : RE G A m env σ H) (hm : m a) (na : ∀ j, A j ≠ some a) (ho : OwnAt G m H a d) : RE G (setA A i a) m (env.set i (.own d)) (σ.set i (some (.ref a))) H := by
  refine ⟨by rw [List.length_set, List.length_set]; exact r.len, fun j d' e => ?_, fun j d' e => ?_, fun j l b e1 e2 => ?_, fun j b e => ?_, r.live⟩
  · by_cases c : i = j
    · subst c
      have li : i < env.length := by
        have := (List.getElem?_eq_some_iff.mp e).1
        rwa [List.length_set] at this
      rw [List.getElem?_set_self li] at e
      cases e
    · rw [List.getElem?_set_ne c] at e ⊢
      exact r.val j d' e
  · by_cases c : i = j
    · subst c
      have li : i < env.length := by
        have := (List.getElem?_eq_some_iff.mp e).1
        rwa [List.length_set] at this
      rw [List.getElem?_set_self li] at e
      cases e
      exact ⟨a, setA_same, List.getElem?_set_self (by rw [← r.len]; exact li), ho⟩
    · rw [List.getElem?_set_ne c] at e ⊢
      obtain ⟨b, g1, g2, g3⟩ := r.own j d' e
      exact ⟨b, by rw [setA_ne (fun z => c z.symm)]; exact g1, g2, g3⟩
  · rcases setA_cases e1 with ⟨h1, h2⟩ | ⟨h1, h2⟩
    · rcases setA_cases e2 with ⟨h3, h4⟩ | ⟨h3, h4⟩
      · rw [h1, h3]
      · rw [h2] at h4
        exact (na l h4).elim
    · rcases setA_cases e2 with ⟨h3, h4⟩ | ⟨h3, h4⟩
      · rw [h4] at h2
        exact (na j h2).elim
      · exact r.inj j l b h2 h4
  · rcases setA_cases e with ⟨h1, h2⟩ | ⟨h1, h2⟩
    · rw [h2]; exact hm
    · exact r.mem j b h2
end
section
variable {S : Sx} {k : Nat} {sc : Scope} {X : Cx} {pos : Pos} {np : Nat} {fr : Bool}
theorem sn_new (h : Ct S k sc X) {e : Expr} {c : E} (s : Snd S X e c) (hni : noItm c = true) {x : Str} {i : Nat} {py : Pos} (hl : isLoc sc x = true) (hi : ixOf S.C.N x = some i) (hf : frE S.C.F c = true) : PS X (.Assign [.Name x py] e pos) (tS S np fr (.new i c)) :=
  (set_name h s hni hl hi).imp fun D σ H ⟨A, m, env, fl, env', re, ev, o⟩ => by
    simp only [evS] at ev
    obtain ⟨d, e1, ev1, ev⟩ := oD ev
    have hc := (oi ev).1
    have e0 := (oi ev).2
    cases e0
    simp only [Bool.and_eq_true, decide_eq_true_eq] at hc
    refine ⟨A, m, env, d, e1, re, ev1, fun v H1 p => ?_⟩
    obtain ⟨a, rfl, ha, r2, ho⟩ := p.fr hf hc.1.1
    have na : ∀ j, A j ≠ some a := fun j z => re.live a (re.mem j a z) ha
    refine o (setA A i a) (ad m a) _ H1 ⟨p.nx.keep, p.nx.live, fun b z => .inr z, fun b z => z.elim (fun z => .inr (z ▸ ha)) .inl, fun j hj => setA_ne (by have := hc.1.2; omega), fun j hj => setA_ne ?_, fun j b z => ?_⟩ (r2.new (.inl rfl) na ho)
    · intro z
      subst z
      simp [newS] at hj
    · rcases setA_cases z with ⟨h1, h2⟩ | ⟨h1, h2⟩
      · exact .inr (h2 ▸ ha)
      · exact .inl h2

/-! ### stores into owned things; rows of targets -/
def tGS (S : Sx) (t : Qx.TS) : TG := fun v σ H Q => ∃ A m env d env', RE S.G A m env σ H ∧ Rep S.G m H d v ∧ putS S.Φ S.R t d env = some env' ∧ ∀ σ' H', Nx A H H' → RE S.G A m env' σ' H' → Q σ' H'
def tGSs (S : Sx) (ts : List Qx.TS) : TGs := fun vs σ H Q => ∃ A m env ds env', RE S.G A m env σ H ∧ Reps S.G m H ds vs ∧ putSs S.Φ S.R ts ds env = some env' ∧ ∀ σ' H', Nx A H H' → RE S.G A m env' σ' H' → Q σ' H'
theorem pset_or {t t' : TSet} (h : PSet X t) (h' : PSet X t') : PSet X (fun o i v H Q => t o i v H Q ∨ t' o i v H Q) :=
  fun pins s σ H o i v ov iv u Q I r1 r2 r3 w => w.elim (h pins s σ H o i v ov iv u Q I r1 r2 r3) (h' pins s σ H o i v ov iv u Q I r1 r2 r3)
theorem gs_name (h : Ct S k sc X) {x : Str} {i : Nat} {p : Pos} (hl : isLoc sc x = true) (hi : ixOf S.C.N x = some i) : PG X (.Name x p) (tGS S (.tn (.nm i))) :=
  (tg_name h hl hi).imp fun v σ H Q ⟨A, m, env, d, env', re, rp, hp, q⟩ => ⟨A, m, env, d, env', re, rp, by simpa only [putS] using hp, fun σ' r _ _ => q σ' H .refl r⟩
theorem gs_sub (h : Ct S k sc X) {x : Str} {ix : Expr} {i : Nat} {p p2 : Pos} {y : E} (so : PE X (.Name x p) (tA S (.own i))) (si : Snd S X ix y) (ns : isSlc ix = false) : PG X (.Subscript (.Name x p) ix p2) (tGS S (.sb i y)) := by
  have hu : X.A.units + 1 < cLine := by have := h.un; omega
  refine (pg_sub so si.pe (pset_or set_list (set_dict hu)) (assignSub_ok ns)).imp fun v σ H Q ⟨A, m, env, d, env', re, rp, hp, q⟩ => ?_
  simp only [putS] at hp
  have hio := (oi hp).1
  replace hp := (oi hp).2
  obtain ⟨kd, e1, ev1, hp⟩ := oD hp
  obtain ⟨oo, ho, hp⟩ := o1 hp
  obtain ⟨o', hs, hp⟩ := o1 hp
  cases hp
  refine ⟨A, m, env, .o i, env, re, by simp only [opE]; rw [if_pos hio], fun ov H1 n1 r1 a1 => ⟨A, m, env, kd, e1, r1, ev1, fun iv H2 p2 => ?_⟩⟩
  obtain ⟨a, ha, rfl⟩ := a1
  obtain ⟨a', ha', hsg, hown⟩ := p2.re.own i _ (getO_some ho)
  rw [ha] at ha'; cases ha'
  have rv : Rep S.G m H2 d v := rp.mono (re.kp (n1.trans p2.nx))
  obtain ⟨ob, hw, hh⟩ := set_vw (p2.re.mem i a ha) p2.re.live hown p2.rep rv hs
  have fin : Q σ (upd H2 a ob) := q σ _ (n1.trans (p2.nx.trans (Nx.upd ha))) (p2.re.upd (getO_lt ho) ha hsg hw)
  rcases hh with hh | hh
  · exact .inl (hh (fun H3 => Q σ H3) fin)
  · exact .inr ⟨a, _, rfl, hh, fin⟩
theorem putSs_len {Φ : Orc} {R : Rfs} : ∀ {ts : List Qx.TS} {ds : List Qx.D} {env env' : En}, putSs Φ R ts ds env = some env' → ts.length = ds.length
  | [], [], env, env', h => rfl
  | t :: ts, d :: ds, env, env', h => by
    simp only [putSs] at h
    obtain ⟨e1, h1, h2⟩ := o1E h
    rw [List.length_cons, List.length_cons, putSs_len h2]
  | [], d :: ds, env, env', h => by simp [putSs] at h
  | t :: ts, [], env, env', h => by simp [putSs] at h
/-- targets with their readings -/
inductive Tgs (S : Sx) (X : Cx) : List Expr → List Qx.TS → Prop
  | nil : Tgs S X [] []
  | cons {e : Expr} {t : Qx.TS} {es : List Expr} {ts : List Qx.TS} : isStar e = false → PG X e (tGS S t) → Tgs S X es ts → Tgs S X (e :: es) (t :: ts)
theorem Tgs.pgs : ∀ {es : List Expr} {ts : List Qx.TS}, Tgs S X es ts → PGs X es (tGSs S ts)
  | _, _, .nil => ⟨fun pins s σ H vs us Q I r w => pgs_nil.run pins s σ H vs us Q I r (by
    obtain ⟨A, m, env, ds, env', re, rp, hp, q⟩ := w
    cases ds with
    | nil =>
      simp only [putSs] at hp
      cases hp
      exact ⟨rp.inv0, q σ H .refl re⟩
    | cons d ds => simp [putSs] at hp)⟩
  | _, _, .cons st h1 t => ⟨fun pins s σ H vs us Q I r w => (pgs_cons h1 t.pgs (by rw [assignEach_ok st]; rfl)).run pins s σ H vs us Q I r (by
    obtain ⟨A, m, env, ds, env', re, rp, hp, q⟩ := w
    cases ds with
    | nil => simp [putSs] at hp
    | cons d ds =>
      simp only [putSs] at hp
      obtain ⟨e1, hp1, hp2⟩ := o1E hp
      obtain ⟨v, vs', rfl, g1, g2⟩ := rp.inv
      exact ⟨v, vs', rfl, A, m, env, d, e1, re, g1, hp1, fun σ1 H1 n1 r1 => ⟨A, m, e1, ds, env', r1, g2.mono (re.kp n1), hp2, fun σ2 H2 n2 r2 => q σ2 H2 (n1.trans n2) r2⟩⟩)⟩
theorem Tgs.star : ∀ {es : List Expr} {ts : List Qx.TS}, Tgs S X es ts → (∀ e ∈ es, isStar e = false) ∧ es.length = ts.length
  | _, _, .nil => ⟨by simp, rfl⟩
  | _, _, .cons st h1 t => by
    obtain ⟨g1, g2⟩ := t.star
    refine ⟨fun e he => ?_, by simp [g2]⟩
    rcases List.mem_cons.mp he with rfl | he
    · exact st
    · exact g1 e he
theorem gs_tup (h : Ct S k sc X) {es : List Expr} {ts : List Qx.TS} {kk : Nat} {p : Pos} (t : Tgs S X es ts) : PG X (.Tuple es kk p) (fun v σ H Q => ∃ A m env ds env', RE S.G A m env σ H ∧ Rep S.G m H (.tup ds) v ∧ putSs S.Φ S.R ts ds env = some env' ∧ ∀ σ' H', Nx A H H' → RE S.G A m env' σ' H' → Q σ' H') := by
  obtain ⟨st, hl⟩ := t.star
  obtain ⟨g1, g2, _⟩ := each_ok (env := X.env) st
  refine (pg_tup h.calm t.pgs (n := es.length) g1 g2).imp fun v σ H Q ⟨A, m, env, ds, env', re, rp, hp, q⟩ => ?_
  simp only [Rep] at rp
  obtain ⟨a, xs, rfl, h1, h2⟩ := rp
  exact ⟨a, xs, rfl, by rw [h.hK]; exact h1.sq, by rw [← h2.length, ← putSs_len hp, hl], A, m, env, ds, env', re, h2, hp, q⟩
def isTup : Expr → Bool
  | .Tuple _ _ _ => true
  | _ => false
theorem sole_tup {ts : List Expr} {kk : Nat} {p : Pos} {e : Expr} {l : Nat} {env : Env} : swapsWithSole [.Tuple ts kk p] e l env = pure false := by cases e <;> rfl
theorem sole_sub {o i : Expr} {p : Pos} {e : Expr} {l : Nat} {env : Env} : swapsWithSole [.Subscript o i p] e l env = pure false := by cases e <;> rfl
theorem swst_tup {ts : List Expr} {kk : Nat} {p : Pos} {e : Expr} {env : Env} (n : isTup e = false) : swappedStores [.Tuple ts kk p] e env = pure none := by cases e <;> first | rfl | cases n
theorem sn_sub (h : Ct S k sc X) {e : Expr} {c : E} (s : Snd S X e c) {x : Str} {ix : Expr} {i : Nat} {p p2 : Pos} {y : E} (so : PE X (.Name x p) (tA S (.own i))) (si : Snd S X ix y) (ns : isSlc ix = false) :
    PS X (.Assign [.Subscript (.Name x p) ix p2] e pos) (tS S np fr (.asg (.sb i y) c)) :=
  (ps_asg s.pe (gs_sub h so si ns) sole_sub (by cases e <;> rfl) (by rw [assignEach_ok rfl]; rfl)).imp fun D σ H ⟨A, m, env, fl, env', re, ev, o⟩ => by
    simp only [evS] at ev
    obtain ⟨d, e1, ev1, ev⟩ := oD ev
    obtain ⟨e2, hp, e0⟩ := omap ev
    cases e0
    exact ⟨A, m, env, d, e1, re, ev1, fun v H1 q => ⟨A, m, e1, d, _, q.re, q.rep, hp, fun σ' H' n' r' => o A m σ' H' (.nx (q.nx.trans n')) r'⟩⟩
theorem sn_tgt (h : Ct S k sc X) {e : Expr} {c : E} (s : Snd S X e c) {es : List Expr} {kk : Nat} {p : Pos} {ts : List TN} (ht : cTN S.C sc 8 (.Tuple es kk p) = some (.tp ts)) (n : isTup e = false) :
    PS X (.Assign [.Tuple es kk p] e pos) (tS S np fr (.asg (.tn (.tp ts)) c)) :=
  (ps_asg s.pe (tg_ok h 8 _ _ ht) sole_tup (swst_tup n) (by rw [assignEach_ok rfl]; rfl)).imp fun D σ H ⟨A, m, env, fl, env', re, ev, o⟩ => by
    simp only [evS] at ev
    obtain ⟨d, e1, ev1, ev⟩ := oD ev
    obtain ⟨e2, hp, e0⟩ := omap ev
    cases e0
    simp only [putS] at hp
    exact ⟨A, m, env, d, e1, re, ev1, fun v H1 q => ⟨A, m, e1, d, _, q.re, q.rep, hp, fun σ' r' _ _ => o A m σ' H1 (.nx q.nx) r'⟩⟩
theorem sn_tps (h : Ct S k sc X) {e : Expr} {c : E} (s : Snd S X e c) {es : List Expr} {kk : Nat} {p : Pos} {ts : List Qx.TS} (t : Tgs S X es ts) (hw : swappedStores [.Tuple es kk p] e X.env = pure none) :
    PS X (.Assign [.Tuple es kk p] e pos) (tS S np fr (.asg (.tps ts) c)) :=
  (ps_asg s.pe (gs_tup h t) sole_tup hw (by rw [assignEach_ok rfl]; rfl)).imp fun D σ H ⟨A, m, env, fl, env', re, ev, o⟩ => by
    simp only [evS] at ev
    cases q0 : evE S.Φ S.R c env with
    | none => rw [q0] at ev; cases ev
    | some r =>
      obtain ⟨d, e1⟩ := r
      rw [q0] at ev
      cases d <;> (first | (simp only at ev; cases ev; done) | skip)
      rename_i ds
      simp only at ev
      obtain ⟨e2, hp, e0⟩ := omap ev
      cases e0
      exact ⟨A, m, env, _, e1, re, q0, fun v H1 q => ⟨A, m, e1, ds, _, q.re, q.rep, hp, fun σ' H' n' r' => o A m σ' H' (.nx (q.nx.trans n')) r'⟩⟩
end
end Qx
set_option Elab.async false
set_option linter.all false
set_option maxRecDepth 100000
set_option maxHeartbeats 4000000
/-! QStm4: a, b = x, y. -/
namespace Qx
open PySem PySem.Spec PyProof.Rows L2

def setAll : L2.St → List (Nat × Bool) → List V → L2.St
  | σ, (i, _) :: is, v :: vs => setAll (σ.set i (some v)) is vs
  | σ, _, _ => σ
def ParR (G : Gd) (M : AdP) (H' : Hp) : Hp → List (Nat × Bool) → List D → List V → Prop
  | _, [], [], [] => True
  | H0, (_, true) :: is, d :: ds, v :: vs => ∃ a H1, v = .ref a ∧ H0 a = none ∧ H1 a ≠ none ∧ (∀ x, H0 x ≠ none → H1 x ≠ none) ∧ M a ∧ OwnAt G M H' a d ∧ ParR G M H' H1 is ds vs
  | H0, (_, false) :: is, d :: ds, v :: vs => ∃ H1, (∀ x, H0 x ≠ none → H1 x ≠ none) ∧ Rep G M H' d v ∧ ParR G M H' H1 is ds vs
  | _, _, _, _ => False
def ownC : List (Nat × Bool) → List D → Bool
  | (_, b) :: is, d :: ds => (!b || isC d) && ownC is ds
  | _, _ => true
theorem ParR.len {G : Gd} {M : AdP} {H' : Hp} : ∀ {is : List (Nat × Bool)} {ds : List D} {vs : List V} {H0 : Hp}, ParR G M H' H0 is ds vs → vs.length = is.length
  | [], [], [], _, _ => rfl
  | (_, true) :: is, d :: ds, v :: vs, H0, h => by
    simp only [ParR] at h
    obtain ⟨a, H1, _, _, _, _, _, _, h⟩ := h
    simp [h.len]
  | (_, false) :: is, d :: ds, v :: vs, H0, h => by
    simp only [ParR] at h
    obtain ⟨H1, _, _, h⟩ := h
    simp [h.len]
  | [], [], v :: vs, _, h => by simp [ParR] at h
  | [], d :: ds, _, _, h => by simp [ParR] at h
  | p :: is, [], _, _, h => by obtain ⟨i, b⟩ := p; cases b <;> simp [ParR] at h
  | p :: is, d :: ds, [], _, h => by obtain ⟨i, b⟩ := p; cases b <;> simp [ParR] at h
theorem putPar_ownC : ∀ {is : List (Nat × Bool)} {ds : List D} {env env' : En}, putPar is ds env = some env' → ownC is ds = true
  | [], [], env, env', h => rfl
  | [], d :: ds, env, env', h => rfl
  | p :: is, [], env, env', h => rfl
  | (i, b) :: is, d :: ds, env, env', h => by
    simp only [putPar] at h
    replace h := (oi h).2
    cases b with
    | true =>
      rw [if_pos rfl] at h
      have hc := (oi h).1
      simp only [ownC, hc, Bool.or_true, Bool.true_and]
      exact putPar_ownC (oi h).2
    | false =>
      rw [if_neg (by decide)] at h
      simp only [ownC, Bool.not_false, Bool.true_or, Bool.true_and]
      exact putPar_ownC (oni h).2
section
variable {G : Gd} {M : AdP} {H' : Hp} {np : Nat}
theorem par_store : ∀ {is : List (Nat × Bool)} {ds : List D} {vs : List V} {H0 : Hp} {A : Slots} {env env' : En} {σ : L2.St}, RE G A M env σ H' → (∀ i a, A i = some a → H0 a ≠ none) → ParR G M H' H0 is ds vs → putPar is ds env = some env' → (is.all fun t => !t.2 || decide (np ≤ t.1)) = true →
    ∃ A', RE G A' M env' (setAll σ is vs) H' ∧ (∀ j, j < np → A' j = A j) ∧ (∀ j, (is.any fun t => t.1 == j && t.2) = false → A' j = A j) ∧ ∀ j a, A' j = some a → A j = some a ∨ H0 a = none
  | [], [], [], H0, A, env, env', σ, r, hA, hp, he, hn => by
    simp only [putPar] at he
    cases he
    exact ⟨A, r, fun _ _ => rfl, fun _ _ => rfl, fun _ _ h => .inl h⟩
  | (i, true) :: is, d :: ds, v :: vs, H0, A, env, env', σ, r, hA, hp, he, hn => by
    simp only [ParR] at hp
    obtain ⟨a, H1, rfl, g1, g2, g3, g4, g5, hp⟩ := hp
    simp only [putPar] at he
    replace he := (oi he).2
    rw [if_pos trivial] at he
    replace he := (oi he).2
    have na : ∀ j, A j ≠ some a := fun j z => hA j a z g1
    simp only [List.all_cons, Bool.and_eq_true, Bool.not_true, Bool.false_or, decide_eq_true_eq] at hn
    obtain ⟨A', k1, k2, k3, k4⟩ := par_store (r.new g4 na g5) (fun j b z => by
      rcases setA_cases z with ⟨_, h2⟩ | ⟨_, h2⟩
      · rw [h2]; exact g2
      · exact g3 b (hA j b h2)) hp he hn.2
    refine ⟨A', k1, fun j hj => by rw [k2 j hj]; exact setA_ne (by have := hn.1; omega), fun j hj => ?_, fun j b z => ?_⟩
    · simp only [List.any_cons, Bool.and_true, Bool.or_eq_false_iff] at hj
      rw [k3 j hj.2]
      refine setA_ne fun z => ?_
      rw [z] at hj
      simp at hj
    · rcases k4 j b z with z | z
      · rcases setA_cases z with ⟨_, h2⟩ | ⟨_, h2⟩
        · exact .inr (h2 ▸ g1)
        · exact .inl h2
      · refine .inr ?_
        cases q : H0 b with
        | none => rfl
        | some o => exact (g3 b (by rw [q]; exact fun z => nomatch z) z).elim
  | (i, false) :: is, d :: ds, v :: vs, H0, A, env, env', σ, r, hA, hp, he, hn => by
    simp only [ParR] at hp
    obtain ⟨H1, g3, g5, hp⟩ := hp
    simp only [putPar] at he
    replace he := (oi he).2
    rw [if_neg (by decide)] at he
    replace he := (oni he).2
    simp only [List.all_cons, Bool.and_eq_true] at hn
    obtain ⟨A', k1, k2, k3, k4⟩ := par_store (r.put g5) (fun j b z => g3 b (hA j b z)) hp he hn.2
    refine ⟨A', k1, k2, fun j hj => ?_, fun j b z => ?_⟩
    · simp only [List.any_cons, Bool.or_eq_false_iff] at hj
      exact k3 j hj.2
    · rcases k4 j b z with z | z
      · exact .inl z
      · refine .inr ?_
        cases q : H0 b with
        | none => rfl
        | some o => exact (g3 b (by rw [q]; exact fun z => nomatch z) z).elim
  | [], [], v :: vs, _, _, _, _, _, _, _, h, _, _ => by simp [ParR] at h
  | [], d :: ds, _, _, _, _, _, _, _, _, h, _, _ => by simp [ParR] at h
  | (i, true) :: is, [], _, _, _, _, _, _, _, _, h, _, _ => by simp [ParR] at h
  | (i, false) :: is, [], _, _, _, _, _, _, _, _, h, _, _ => by simp [ParR] at h
  | (i, true) :: is, d :: ds, [], _, _, _, _, _, _, _, h, _, _ => by simp [ParR] at h
  | (i, false) :: is, d :: ds, [], _, _, _, _, _, _, _, h, _, _ => by simp [ParR] at h
end
def tPv (S : Sx) (is : List (Nat × Bool)) (cs : List E) : TA := fun σ H Q => ∃ A m env ds env', RE S.G A m env σ H ∧ evEs S.Φ S.R cs env = some (ds, env') ∧ ownC is ds = true ∧
  ∀ vs H' M, Nx A H H' → RE S.G A M env' σ H' → (∀ a, m a → M a) → (∀ a, M a → m a ∨ H a = none) → ParR S.G M H' H is ds vs → Q vs H'
section
variable {S : Sx} {k : Nat} {sc : Scope} {X : Cx} {pos : Pos} {np : Nat} {fr : Bool}
theorem par_pa : ∀ {es : List Expr} {cs : List E} {is : List (Nat × Bool)}, Snds S X es cs → freshAll S.C.F is cs = true → PA X es (tPv S is cs)
  | _, _, [], .nil, _ => pa_nil.imp fun σ H Q ⟨A, m, env, ds, env', re, ev, oc, q⟩ => by
    simp only [evEs] at ev
    cases ev
    exact q [] H m .refl re (fun _ h => h) (fun _ h => .inl h) (by simp only [ParR])
  | _, _, (i, true) :: is, .cons st s t, hf => by
    simp only [freshAll, Bool.and_eq_true] at hf
    refine (pa_cons s.pe (par_pa t hf.2) (starEach_ok st)).imp fun σ H Q ⟨A, m, env, ds, env', re, ev, oc, q⟩ => ?_
    simp only [evEs] at ev
    obtain ⟨d, e1, ev1, ev⟩ := oD ev
    obtain ⟨ds', e2, ev2, ev⟩ := oL ev
    cases ev
    simp only [ownC, Bool.not_true, Bool.false_or, Bool.and_eq_true] at oc
    refine ⟨A, m, env, d, e1, re, ev1, fun v H1 p1 => ?_⟩
    obtain ⟨a, rfl, ha, r2, ho⟩ := p1.fr hf.1 oc.1
    refine ⟨A, ad m a, e1, ds', _, r2, ev2, oc.2, fun vs H2 M n2 r3 k1 k2 pr => ?_⟩
    have la : H1 a ≠ none := r2.live a (.inl rfl)
    have na : ∀ j, A j ≠ some a := fun j z => re.live a (re.mem j a z) ha
    have kp : Kp (ad m a) M H1 H2 := ⟨fun b o e z => n2.keep b o e fun j y => z (r2.mem j b y), k2⟩
    refine q _ H2 M (p1.nx.trans n2) r3 (fun b z => k1 b (.inr z)) (fun b z => (k2 b z).elim (fun z => z.elim (fun z => .inr (z ▸ ha)) .inl) fun z => .inr (p1.nx.free z)) ?_
    simp only [ParR]
    exact ⟨a, H1, rfl, ha, la, p1.nx.live, k1 a (.inl rfl), ho.mono kp fun o e => n2.keep a o e na, pr⟩
  | _, _, (i, false) :: is, .cons st s t, hf => by
    simp only [freshAll] at hf
    refine (pa_cons s.pe (par_pa t hf) (starEach_ok st)).imp fun σ H Q ⟨A, m, env, ds, env', re, ev, oc, q⟩ => ?_
    simp only [evEs] at ev
    obtain ⟨d, e1, ev1, ev⟩ := oD ev
    obtain ⟨ds', e2, ev2, ev⟩ := oL ev
    cases ev
    simp only [ownC, Bool.not_false, Bool.true_or, Bool.true_and] at oc
    refine ⟨A, m, env, d, e1, re, ev1, fun v H1 p1 => ⟨A, m, e1, ds', _, p1.re, ev2, oc, fun vs H2 M n2 r3 k1 k2 pr => ?_⟩⟩
    have kp : Kp m M H1 H2 := ⟨fun b o e z => n2.keep b o e fun j y => z (p1.re.mem j b y), k2⟩
    refine q _ H2 M (p1.nx.trans n2) r3 k1 (fun b z => (k2 b z).elim .inl fun z => .inr (p1.nx.free z)) ?_
    simp only [ParR]
    exact ⟨H1, p1.nx.live, p1.rep.mono kp, pr⟩
  | _, _, [], .cons st s t, hf => by simp [freshAll] at hf
  | _, _, p :: is, .nil, hf => by obtain ⟨i, b⟩ := p; cases b <;> simp [freshAll] at hf
/-- names to be stored in -/
inductive Nms (S : Sx) (sc : Scope) : List Expr → List (Nat × Bool) → Prop
  | nil : Nms S sc [] []
  | cons {x : Str} {p : Pos} {i : Nat} {b : Bool} {ts : List Expr} {is : List (Nat × Bool)} : isLoc sc x = true → ixOf S.C.N x = some i → Nms S sc ts is → Nms S sc (.Name x p :: ts) ((i, b) :: is)
theorem Nms.loc : ∀ {ts : List Expr} {is : List (Nat × Bool)}, Nms S sc ts is → (∀ t ∈ ts, ∀ id p, t = .Name id p → isLoc sc id = true) ∧ (∀ t ∈ ts, isStar t = false) ∧ ts.length = is.length
  | _, _, .nil => ⟨by simp, by simp, rfl⟩
  | _, _, .cons h1 h2 t => by
    obtain ⟨g1, g2, g3⟩ := t.loc
    refine ⟨fun t ht id p e => ?_, fun t ht => ?_, by simp [g3]⟩
    · rcases List.mem_cons.mp ht with rfl | ht
      · cases e; exact h1
      · exact g1 t ht id p e
    · rcases List.mem_cons.mp ht with rfl | ht
      · rfl
      · exact g2 t ht
def gAll : List (Nat × Bool) → TGs
  | [] => gNil
  | (i, _) :: is => gCons (gName i) (gAll is)
theorem Nms.pgs (h : Ct S k sc X) : ∀ {ts : List Expr} {is : List (Nat × Bool)}, Nms S sc ts is → PGs X ts (gAll is)
  | _, _, .nil => pgs_nil
  | _, _, .cons h1 h2 t => by
    obtain ⟨l1, l2⟩ := h.locL h1
    exact pgs_cons (pg_name (by rw [h.N]; exact h.nd) (h.ix h2) l1 l2) (t.pgs h) (by rw [assignEach_ok rfl]; rfl)
theorem gAll_run : ∀ {is : List (Nat × Bool)} {vs : List V} {σ : L2.St} {H : Hp} {Q : L2.St → Hp → Prop}, vs.length = is.length → Q (setAll σ is vs) H → gAll is vs σ H Q
  | [], [], σ, H, Q, _, q => ⟨rfl, q⟩
  | (i, b) :: is, v :: vs, σ, H, Q, l, q => ⟨v, vs, rfl, gAll_run (by simpa using l) q⟩
  | [], v :: vs, σ, H, Q, l, q => by simp at l
  | p :: is, [], σ, H, Q, l, q => by simp at l
def tParG (is : List (Nat × Bool)) (ta : TA) : L2.TS := fun D σ H => ta σ H fun vs H1 => vs.length = is.length ∧ vs.length ≤ sizeLine ∧ ∀ H2, Ex H1 H2 → D.nx (setAll σ is vs) H2
theorem sw1_names {ts vs : List Expr} {loc : Str → Bool} (h : swk true loc ts vs = 1) : (swNames loc ts).length = ts.length ∧ (swNames loc ts).eraseDups.length = (swNames loc ts).length ∧ vs.length = ts.length ∧ (ts.length = 2 ∨ ts.length = 3) := by
  unfold swk at h
  split at h
  · cases h
  · rename_i h1
    split at h
    · cases h
    · split at h
      · cases h
      · rename_i h3
        simp only [Bool.or_eq_true, Bool.not_eq_true', not_or, bne_iff_ne, ne_eq, Decidable.not_not, beq_iff_eq, Bool.not_eq_false, Bool.or_eq_true] at h1 h3
        refine ⟨h3.1, h3.2, h1.1.2, ?_⟩
        simpa using h1.1.1
theorem ne_of_dups {loc : Str → Bool} {x y : Str} {i j : Nat} (h : Ct S k sc X) (hi : ixOf S.C.N x = some i) (hj : ixOf S.C.N y = some j) (ne : x ≠ y) : i ≠ j := fun z => by
  subst z
  have a := ixOf_some hi
  rw [ixOf_some hj] at a
  exact ne (Option.some.inj a).symm
theorem locB_local (h : Ct S k sc X) {x : Str} (e : Qx.locB sc x = true) : X.env.scope.names.lookup x = some .local := by
  unfold Qx.locB at e
  split at e
  · rename_i q; exact h.loc x q
  · cases e
theorem fm_len {α β : Type} {f : α → Option β} : ∀ {l : List α}, (l.filterMap f).length ≤ l.length
  | [] => Nat.le_refl _
  | a :: l => by
    rw [List.filterMap_cons]
    split
    · exact Nat.le_succ_of_le fm_len
    · rw [List.length_cons, List.length_cons]
      exact Nat.succ_le_succ fm_len
theorem fm_all {α β : Type} {f : α → Option β} : ∀ {l : List α}, (l.filterMap f).length = l.length → ∀ a ∈ l, ∃ b, f a = some b
  | [], _, a, h => by cases h
  | a :: l, e, b, h => by
    rw [List.filterMap_cons] at e
    cases q : f a with
    | none =>
      rw [q] at e
      have := fm_len (f := f) (l := l)
      simp only [List.length_cons] at e
      omega
    | some c =>
      rw [q] at e
      rcases List.mem_cons.mp h with rfl | h
      · exact ⟨c, q⟩
      · exact fm_all (by simpa using e) b h
theorem swF_some {loc : Str → Bool} {l : Nat} {x b : Str} {p : Pos} (h : swF loc l (.Name x p) = some b) : loc x = true ∧ b = x := by
  simp only [swF] at h
  have h1 := (oi h).1
  have h2 := (oi h).2
  rw [Bool.and_eq_true] at h1
  exact ⟨h1.1, (Option.some.inj h2).symm⟩
theorem sw_name_ok {loc : Str → Bool} {ts : List Expr} (hl : (swNames loc ts).length = ts.length) {x : Str} {p : Pos} (hx : Expr.Name x p ∈ ts) : loc x = true := by
  obtain ⟨b, hb⟩ := fm_all hl _ hx
  exact (swF_some hb).1
theorem sw_names2 {loc : Str → Bool} {x y : Str} {px py : Pos} (hl : (swNames loc [.Name x px, .Name y py]).length = 2) : swNames loc [.Name x px, .Name y py] = [x, y] := by
  obtain ⟨b1, e1⟩ := fm_all hl _ List.mem_cons_self
  obtain ⟨b2, e2⟩ := fm_all hl _ (List.mem_cons_of_mem _ List.mem_cons_self)
  have c1 := (swF_some e1).2
  have c2 := (swF_some e2).2
  unfold swNames
  rw [List.filterMap_cons, List.filterMap_cons, List.filterMap_nil, e1, e2, c1, c2]
theorem sw_names3 {loc : Str → Bool} {x y z : Str} {px py pz : Pos} (hl : (swNames loc [.Name x px, .Name y py, .Name z pz]).length = 3) : swNames loc [.Name x px, .Name y py, .Name z pz] = [x, y, z] := by
  obtain ⟨b1, e1⟩ := fm_all hl _ List.mem_cons_self
  obtain ⟨b2, e2⟩ := fm_all hl _ (List.mem_cons_of_mem _ List.mem_cons_self)
  obtain ⟨b3, e3⟩ := fm_all hl _ (List.mem_cons_of_mem _ (List.mem_cons_of_mem _ List.mem_cons_self))
  have c1 := (swF_some e1).2
  have c2 := (swF_some e2).2
  have c3 := (swF_some e3).2
  unfold swNames
  rw [List.filterMap_cons, List.filterMap_cons, List.filterMap_cons, List.filterMap_nil, e1, e2, e3, c1, c2, c3]
theorem dups2 {x y : Str} (h : ([x, y] : List Str).eraseDups.length = 2) : x ≠ y := fun e => by
  subst e
  simp [List.eraseDups_cons] at h
theorem dups3 {x y z : Str} (h : ([x, y, z] : List Str).eraseDups.length = 3) : x ≠ y ∧ x ≠ z ∧ y ≠ z := by
  refine ⟨fun e => ?_, fun e => ?_, fun e => ?_⟩
  · subst e
    rw [List.eraseDups_cons] at h
    have : ((List.filter (fun b => !b == x) [x, z]).eraseDups).length ≤ 1 := by
      by_cases c : (!z == x) = true
      · simp [List.filter_cons, c, List.eraseDups_cons]
      · simp [List.filter_cons, c]
    simp only [List.length_cons] at h
    omega
  · subst e
    rw [List.eraseDups_cons] at h
    have : ((List.filter (fun b => !b == x) [y, x]).eraseDups).length ≤ 1 := by
      by_cases c : (!y == x) = true
      · simp [List.filter_cons, c, List.eraseDups_cons]
      · simp [List.filter_cons, c]
    simp only [List.length_cons] at h
    omega
  · subst e
    rw [List.eraseDups_cons] at h
    have : ((List.filter (fun b => !b == x) [y, y]).eraseDups).length ≤ 1 := by
      by_cases c : (!y == x) = true
      · simp [List.filter_cons, c, List.eraseDups_cons]
      · simp [List.filter_cons, c]
    simp only [List.length_cons] at h
    omega
theorem ps_row (h : Ct S k sc X) {ts vs : List Expr} {is : List (Nat × Bool)} {ta : TA} {kk k2 : Nat} {p p2 : Pos} (mono : ∀ σ H (Q Q' : List V → Hp → Prop), (∀ vs H, Q vs H → Q' vs H) → ta σ H Q → ta σ H Q') (nm : Nms S sc ts is) (ha : PA X vs ta)
    (hw : swk true (Qx.locB sc) ts vs = 0 ∨ swk true (Qx.locB sc) ts vs = 1) : PS X (.Assign [.Tuple ts kk p] (.Tuple vs k2 p2) pos) (tParG is ta) := by
  obtain ⟨hl, hst, hlen⟩ := nm.loc
  obtain ⟨w0, w1⟩ := sw_stat h (vs := vs) (kk := kk) (k2 := k2) (p := p) (p2 := p2) hl
  have nd : X.N.Nodup := by rw [h.N]; exact h.nd
  rcases hw with hw | hw
  · obtain ⟨g1, g2, _⟩ := each_ok (env := X.env) hst
    refine (ps_asg (pe_tup ha) (pg_tup h.calm (nm.pgs h) (n := ts.length) g1 g2) sole_tup (w0 hw) (by rw [assignEach_ok rfl]; rfl)).imp fun D σ H w => ?_
    refine mono σ H _ _ (fun us H1 q => ⟨q.2.1, fun pp hp => ?_⟩) w
    exact ⟨pp, us, rfl, .inl (.inl upd_same), q.1.trans hlen.symm, gAll_run q.1 (q.2.2 _ (Ex.laid hp))⟩
  · obtain ⟨s1, s2, s3, s4⟩ := sw1_names hw
    have w1 := w1 hw
    cases nm with
    | nil => rcases s4 with s4 | s4 <;> cases s4
    | @cons x px i b ts1 is1 h1 h2 nm1 =>
      cases nm1 with
      | nil => rcases s4 with s4 | s4 <;> cases s4
      | @cons y py j b2 ts2 is2 h3 h4 nm2 =>
        have lx := locB_local h (sw_name_ok s1 (x := x) (p := px) List.mem_cons_self)
        have ly := locB_local h (sw_name_ok s1 (x := y) (p := py) (List.mem_cons_of_mem _ List.mem_cons_self))
        cases nm2 with
        | nil =>
          have en := sw_names2 s1
          rw [en] at s2 w1
          obtain ⟨a, rr, rfl⟩ : ∃ a rr, vs = a :: rr := by cases vs with | nil => cases s3 | cons a r => exact ⟨a, r, rfl⟩
          obtain ⟨a2, rr2, rfl⟩ : ∃ a rr', rr = a :: rr' := by cases rr with | nil => cases s3 | cons a r => exact ⟨a, r, rfl⟩
          have : rr2 = [] := by cases rr2 with | nil => rfl | cons _ _ => simp at s3
          subst this
          refine (ps_par h.calm nd (h.ix h2) (h.ix h4) (ne_of_dups (loc := Qx.locB sc) h h2 h4 (dups2 s2)) lx ly ha w1 rfl).imp fun D σ H w => ?_
          refine mono σ H _ _ (fun us H1 q => ?_) w
          obtain ⟨q1, _, q3⟩ := q
          match us, q1 with
          | [v, w], _ => exact ⟨v, w, rfl, q3 H1 Ex.refl⟩
        | @cons z pz l b3 ts3 is3 h5 h6 nm3 =>
          have lz := locB_local h (sw_name_ok s1 (x := z) (p := pz) (List.mem_cons_of_mem _ (List.mem_cons_of_mem _ List.mem_cons_self)))
          cases nm3 with
          | cons _ _ _ =>
            exfalso
            rcases s4 with s4 | s4 <;> simp at s4
          | nil =>
            have en := sw_names3 s1
            rw [en] at s2 w1
            obtain ⟨d1, d2, d3⟩ := dups3 s2
            obtain ⟨a, rr, rfl⟩ : ∃ a rr, vs = a :: rr := by cases vs with | nil => cases s3 | cons a r => exact ⟨a, r, rfl⟩
            obtain ⟨a2, rr2, rfl⟩ : ∃ a rr', rr = a :: rr' := by cases rr with | nil => cases s3 | cons a r => exact ⟨a, r, rfl⟩
            obtain ⟨a3, rr3, rfl⟩ : ∃ a rr', rr2 = a :: rr' := by cases rr2 with | nil => cases s3 | cons a r => exact ⟨a, r, rfl⟩
            have : rr3 = [] := by cases rr3 with | nil => rfl | cons _ _ => simp at s3
            subst this
            refine (ps_par3 h.calm nd (h.ix h2) (h.ix h4) (h.ix h6) (ne_of_dups (loc := Qx.locB sc) h h2 h4 d1) (ne_of_dups (loc := Qx.locB sc) h h2 h6 d2) (ne_of_dups (loc := Qx.locB sc) h h4 h6 d3) lx ly lz ha w1 rfl).imp fun D σ H w => ?_
            refine mono σ H _ _ (fun us H1 q => ?_) w
            obtain ⟨q1, _, q3⟩ := q
            match us, q1 with
            | [u, v, w], _ => exact ⟨u, v, w, rfl, q3 H1 Ex.refl⟩
theorem sn_par (h : Ct S k sc X) {ts vs : List Expr} {is : List (Nat × Bool)} {cs : List E} {kk k2 : Nat} {p p2 : Pos} (nm : Nms S sc ts is) (s : Snds S X vs cs) (hf : freshAll S.C.F is cs = true)
    (hw : swk true (Qx.locB sc) ts vs = 0 ∨ swk true (Qx.locB sc) ts vs = 1) (hz : is.length ≤ 100) : PS X (.Assign [.Tuple ts kk p] (.Tuple vs k2 p2) pos) (tS S np fr (.par is cs)) := by
  refine (ps_row h (fun σ H Q Q' k w => ?_) nm (par_pa s hf) hw).imp fun D σ H ⟨A, m, env, fl, env', re, ev, o⟩ => ?_
  · obtain ⟨A, m, env, ds, env', re, ev, oc, q⟩ := w
    exact ⟨A, m, env, ds, env', re, ev, oc, fun vs H' M a b c d e => k _ _ (q vs H' M a b c d e)⟩
  · simp only [evS] at ev
    obtain ⟨ds, e1, ev1, ev⟩ := oL ev
    have hc := (oi ev).1
    replace ev := (oi ev).2
    obtain ⟨e2, hp, e0⟩ := omap ev
    cases e0
    rw [Bool.and_eq_true] at hc
    refine ⟨A, m, env, ds, e1, re, ev1, putPar_ownC hp, fun us H1 M n1 r1 k1 k2 pr => ?_⟩
    refine ⟨pr.len, by rw [pr.len, sizeLine_eq]; omega, fun H2 ex => ?_⟩
    have hA : ∀ i a, A i = some a → H a ≠ none := fun i a e => re.live a (re.mem i a e)
    obtain ⟨A', g1, g2, g3, g4⟩ := par_store r1 hA pr hp hc.2
    refine o A' M _ H2 ⟨fun a u e n => ex a u (n1.keep a u e n), fun a z => ex.nx (A := A) |>.live a (n1.live a z), k1, k2, g2, fun j hj => g3 j (by simpa only [newS] using hj), g4⟩ (g1.ex ex)
end
end Qx
set_option Elab.async false
set_option linter.all false
set_option maxRecDepth 100000
set_option maxHeartbeats 4000000
/-! QStm5: for a, b in d.items(). -/
namespace Qx
open PySem PySem.Spec PyProof.Rows L2

section
variable {S : Sx} {k : Nat} {sc : Scope} {X : Cx} {pos : Pos} {np : Nat} {fr : Bool}
def lockD (a : Addr) (od : Obj) (u : HO) (D : Ends) : Ends := ⟨fun σ' H' => H' a = some (.frz od u) ∧ D.nx σ' (upd H' a u), fun v H' => H' a = some (.frz od u) ∧ D.rt v (upd H' a u), fun σ' H' => H' a = some (.frz od u) ∧ D.bk σ' (upd H' a u), fun σ' H' => H' a = some (.frz od u) ∧ D.ct σ' (upd H' a u)⟩
section
variable {nw : Nat → Bool} {A A' : Slots} {m m' : AdP} {H H' : Hp} {a : Addr} {kvs : List (Key × V)} {od : Obj}
theorem step_unlock (h : H a = some (.dK kvs)) (nA : ∀ i, A i ≠ some a) (s : Step np nw A m (upd H a (.frz od (.dK kvs))) A' m' H') : H' a = some (.frz od (.dK kvs)) ∧ Step np nw A m H A' m' (upd H' a (.dK kvs)) := by
  have ha : H a ≠ none := by rw [h]; exact fun z => nomatch z
  refine ⟨s.keep a _ upd_same nA, ⟨fun b o e n => ?_, fun b e => live_upd (s.live b (live_upd e)), s.more, fun b z => (s.new b z).imp id fun z => free_upd ha z, s.par, s.same, fun i b z => (s.own i b z).imp id fun z => free_upd ha z⟩⟩
  by_cases c : b = a
  · rw [c] at e ⊢
    rw [upd_same, ← e, h]
  · rw [upd_ne c]
    exact s.keep b o (by rw [upd_ne c]; exact e) n
theorem out_lock {D : Ends} {env' : En} {fl : Fl} (h : H a = some (.dK kvs)) (nA : ∀ i, A i ≠ some a) (o : Out S np fr nw D A m H env' fl) : Out S np fr nw (lockD a od (.dK kvs) D) A m (upd H a (.frz od (.dK kvs))) env' fl := by
  have nA' : ∀ {A' : Slots} {m' : AdP} {H' : Hp}, Step np nw A m (upd H a (.frz od (.dK kvs))) A' m' H' → ∀ i, A' i ≠ some a := fun t i z => by
    rcases t.own i a z with z | z
    · exact nA i z
    · rw [upd_same] at z; cases z
  have reOf : ∀ {A' : Slots} {m' : AdP} {σ' : L2.St} {H' : Hp}, Step np nw A m (upd H a (.frz od (.dK kvs))) A' m' H' → H' a = some (.frz od (.dK kvs)) → RE S.G A' m' env' σ' H' → RE S.G A' m' env' σ' (upd H' a (.dK kvs)) := fun t e r => by
    refine r.tr (kr_unlock e) (fun i b z => ?_) fun b z => live_upd z
    by_cases c : b = a
    · subst c
      exact (nA' t i z).elim
    · rw [upd_ne c]
  cases fl with
  | nx => exact fun A' m' σ' H' t r => let ⟨g1, g2⟩ := step_unlock h nA t; ⟨g1, o A' m' σ' _ g2 (reOf t g1 r)⟩
  | brk => exact fun A' m' σ' H' t r => let ⟨g1, g2⟩ := step_unlock h nA t; ⟨g1, o A' m' σ' _ g2 (reOf t g1 r)⟩
  | ct => exact fun A' m' σ' H' t r => let ⟨g1, g2⟩ := step_unlock h nA t; ⟨g1, o A' m' σ' _ g2 (reOf t g1 r)⟩
  | ret d =>
    intro A' m' Hb H' v t r
    obtain ⟨g1, g2⟩ := step_unlock h nA t
    have g3 : H' a = some (.frz od (.dK kvs)) := r.nx.keep a _ g1 (nA' t)
    have hb : Hb a ≠ none := by rw [g1]; exact fun z => nomatch z
    refine ⟨g3, o A' m' _ _ v g2 ⟨⟨fun b u e n => ?_, fun b e => ?_⟩, ?_⟩⟩
    · by_cases c : b = a
      · rw [c] at e ⊢
        rw [upd_same] at e ⊢
        exact e
      · rw [upd_ne c] at e ⊢
        exact r.nx.keep b u e n
    · exact live_upd (r.nx.live b (by
        by_cases c : b = a
        · rw [c]; exact hb
        · rw [upd_ne c] at e; exact e))
    · obtain ⟨m2, k1, k2, k3, k4, k5⟩ := r.ex
      have kr : Kr m2 m2 H' (upd H' a (.dK kvs)) := kr_unlock g3
      have eqAt : ∀ {b : Addr} {d : Qx.D}, OwnAt S.G m2 H' b d → upd H' a (.dK kvs) b = H' b := fun {b d} ho => by
        by_cases c : b = a
        · subst c
          exfalso
          cases d with
          | lst ds => obtain ⟨xs, h1, _⟩ := ho; rw [g3] at h1; cases h1
          | dct t ks vs =>
            cases t with
            | false => obtain ⟨kvs, h1, _⟩ := ho; rw [g3] at h1; cases h1
            | true => obtain ⟨kvs, h1, _⟩ := ho; rw [g3] at h1; cases h1
          | non => exact ho
          | bl _ => exact ho
          | int _ => exact ho
          | str _ => exact ho
          | tup _ => exact ho
          | xtp _ => exact ho
          | fn _ => exact ho
        · rw [upd_ne c]
      refine ⟨m2, fun b z => (k1 b z).imp id fun z => ?_, k2, fun b z => live_upd (k3 b z), fun i oo hi e => ?_, ?_⟩
      · by_cases c : b = a
        · rw [c, g1] at z; cases z
        · rw [upd_ne c]; exact z
      · obtain ⟨b, e1, e2⟩ := k4 i oo hi e
        exact ⟨b, e1, e2.tr kr (eqAt e2)⟩
      · rcases k5 with ⟨b, e1, e2, e3, e4⟩ | ⟨e1, e2⟩
        · refine .inl ⟨b, e1, e2, e3.imp (fun z => ?_) id, e4.tr kr (eqAt e4)⟩
          by_cases c : b = a
          · rw [c, g1] at z; cases z
          · rw [upd_ne c]; exact z
        · exact .inr ⟨e1.tr kr, e2⟩
end

/-! ### the loop -/
theorem items_core {i : Nat} {t : TN} {b : List Qx.S} {D : Ends} {σ : L2.St} {H : Hp} {A : Slots} {m : AdP} {env env' : En} {fl : Fl} {d : Qx.D} {a : Addr} {o : Obj} {kvs : List (Key × V)} {vs : List Qx.D} (re : RE S.G A m env σ H) (hs : σ[i]? = some (some (.ref a)))
    (ha : H a = some (.frz o (.dK kvs))) (nm : ¬ m a) (hr : Reps S.G m H vs (kvs.map (·.2))) (ev : forL t (gd (.v d) d) (evSs S.Φ S.R np b) (itmsD (kvs.map fun p => dK p.1) vs) env = some (fl, env')) (oo : Out S np fr (fun i => newSs i b) D A m H env' fl) :
    tFor (iItems (tVar i)) (tG S t) (tSs S np fr b) D σ H :=
  ⟨.ref a, hs, a, o, kvs, rfl, ha, for_core re (it_items (d := d) ha nm hr) ev oo fun i e => nomatch e⟩
theorem sn_items (h : Ct S k sc X) {elts : List Expr} {kk : Nat} {tp p ap cp : Pos} {x : Str} {i : Nat} {body : List Stmt} {t : TN} {b : List Qx.S} (sn : seen sc x = true) (hi : ixOf S.C.N x = some i) (nm : okNm x = true) (hg : PG X (.Tuple elts kk tp) (tG S t)) (hb : PSs X body (tSs S np fr b)) (ln : (ap.endLine == cp.line) = true) :
    PS X (.For (.Tuple elts kk tp) (.Call (.Attribute (.Name x p) "items" ap) [] [] cp) body [] pos) (tS S np fr (.for_ t (.itms (.var i)) b)) := by
  obtain ⟨n1, n2, _⟩ := okNm_some nm
  have base := ps_for (pos := pos) (by rw [h.xe]; exact PassesOwn.never) h.calm (pi_items (X := X) (elts := elts) (kk := kk) (tpos := tp) (apos := ap) (cpos := cp) (pe_var (pos := p) (h.ix hi) (h.vis sn) n1 n2) rfl ln) hg hb (fun _ => rfl)
  refine PS.or base (ps_lock base) fun D σ H ⟨A, m, env, fl, env', re, ev, o⟩ => ?_
  simp only [evS] at ev
  obtain ⟨xs, g, e1, ev1, ev⟩ := oI ev
  simp only [evIt] at ev1
  obtain ⟨a0, e2, ev2, ev1⟩ := oA ev1
  obtain ⟨d, h1, h2, h3, h4⟩ := itOf_some ev1
  subst h3 h4
  obtain ⟨d', ev3, ea⟩ := opE_not rfl ev2
  subst ea
  cases h1
  simp only [evE] at ev3
  have ev3 : getV env i = some d ∧ e1 = env := by
    cases q : getV env i with
    | none => rw [q] at ev3; cases ev3
    | some d2 => rw [q] at ev3; cases ev3; exact ⟨rfl, rfl⟩
  obtain ⟨gv, e0⟩ := ev3
  subst e0
  obtain ⟨v, hs, rp⟩ := re.val i d (getV_some gv)
  unfold dirD at h2
  split at h2
  · rename_i ks vs
    replace h2 := (oi h2).2
    cases h2
    simp only [Rep] at rp
    obtain ⟨a, kvs, rfl, g1, g2, rfl, g4⟩ := rp
    have o1 : Out S np fr (fun i => newSs i b) D A m H env' fl := o.wk fun i z => by simpa only [newS] using z
    rcases g1 with g1 | ⟨od, g1⟩
    · refine .inr ⟨a, .dK kvs, g1, trivial, fun od => ?_⟩
      have nA : ∀ i, A i ≠ some a := fun i z => g2 (re.mem i a z)
      have rl : RE S.G A m e1 σ (upd H a (.frz od (.dK kvs))) := re.tr (kr_lock g1) (fun i b z => by rw [upd_ne (fun y => nA i (by rw [← y]; exact z))]) fun b z => live_upd z
      exact items_core (D := lockD a od (.dK kvs) D) rl hs upd_same g2 (g4.tr (kr_lock g1)) ev (out_lock g1 nA o1)
    · exact .inl (items_core re hs g1 g2 g4 ev o1)
  · cases h2
end
end Qx
set_option Elab.async false
set_option linter.all false
set_option maxRecDepth 100000
set_option maxHeartbeats 8000000
/-! QStm6: compiled statements do what the text does. -/
namespace Qx
open PySem PySem.Spec PyProof.Rows L2

section
variable {S : Sx} {k n : Nat} {sc : Scope} {X : Cx} {pos : Pos} {np : Nat}
theorem st_rv (ih : AllOk S k n) (h : Ct S k sc X) {e : Expr} {c : E} (hc : (match cE S.C n sc e with
    | some c => if isOwn c || isTupC c || (S.C.fr && !frE S.C.F c) then none else some c
    | none => none) = some c) : PE X e (tRv S np S.C.fr c) := by
  split at hc
  · rename_i c' h1
    have h2 := (oni hc).1
    have h3 := (oni hc).2
    cases h3
    simp only [Bool.or_eq_true, not_or, Bool.not_eq_true] at h2
    refine rv_val (ih.e sc X h _ _ h1).pe (fun es z => ?_) h2.1.1 fun z => ?_
    · subst z; exact Bool.noConfusion h2.1.2
    · have := h2.2
      rw [z, Bool.true_and] at this
      simpa using this
  · cases hc
theorem st_r (ih : AllOk S k n) (h : Ct S k sc X) {e : Expr} {c : E} (hc : cR S.C n sc e = some c) : PE X e (tRv S np S.C.fr c) := by
  unfold cR at hc
  split at hc
  · split at hc
    · rename_i h1
      simp only [Bool.and_eq_true] at h1
      obtain ⟨i, hi, e0⟩ := omap hc
      subst e0
      exact rv_own (own_pa h h1.1.2 hi h1.1.1)
    · exact st_rv ih h hc
  · obtain ⟨cs, h1, e0⟩ := omap hc
    subst e0
    exact rv_tup (ih.es sc X h _ _ h1)
  · exact st_rv ih h hc
theorem st_ts (ih : AllOk S k n) (h : Ct S k sc X) {e : Expr} {t : Qx.TS} (hc : cTS S.C n sc e = some t) : isStar e = false ∧ PG X e (tGS S t) := by
  unfold cTS at hc
  split at hc
  · have h1 := (oi hc).1
    simp only [Bool.and_eq_true] at h1
    obtain ⟨i, hi, e0⟩ := omap (oi hc).2
    subst e0
    exact ⟨rfl, gs_name h h1.1 hi⟩
  · split at hc
    · have h1 := (oi hc).1
      simp only [Bool.and_eq_true] at h1
      replace hc := (oi hc).2
      split at hc
      · rename_i hi hy
        cases hc
        exact ⟨rfl, gs_sub h (own_pa h h1.1.2 hi h1.1.1) (ih.e sc X h _ _ hy) (cE_node hy).2.2⟩
      · cases hc
    · cases hc
  · cases hc
theorem st_tgs (ih : AllOk S k n) (h : Ct S k sc X) : ∀ {ts : List Expr} {us : List Qx.TS}, allS (ts.map (cTS S.C n sc)) = some us → Tgs S X ts us
  | [], us, e => by
    simp only [List.map_nil, allS] at e
    cases e
    exact .nil
  | a :: ts, us, e => by
    rw [List.map_cons] at e
    cases q0 : cTS S.C n sc a with
    | none => rw [q0] at e; simp only [allS] at e; cases e
    | some u =>
      rw [q0] at e
      simp only [allS] at e
      obtain ⟨r, h1, e0⟩ := omap e
      subst e0
      obtain ⟨g1, g2⟩ := st_ts ih h q0
      exact .cons g1 g2 (st_tgs ih h h1)
theorem st_par : ∀ {ts : List Expr} {is : List (Nat × Bool)}, cPar S.C sc ts = some is → Nms S sc ts is
  | [], is, e => by
    simp only [cPar] at e
    cases e
    exact .nil
  | t :: ts, is, e => by
    simp only [cPar] at e
    split at e
    · have h1 := (oi e).1
      replace e := (oi e).2
      split at e
      · rename_i hi hr
        cases e
        exact .cons h1 hi (st_par hr)
      · cases e
    · cases e
theorem dict0_eq {e : Expr} (h : isDict0 e = true) : ∃ p, e = .Dict [] [] p := by
  unfold isDict0 at h
  split at h
  · rename_i ks vs p
    cases ks <;> cases vs <;> simp at h
    exact ⟨p, rfl⟩
  · cases h
theorem st_as (ih : AllOk S k n) (h : Ct S k sc X) {t e : Expr} {s : Qx.S} (hc : cAs S.C n sc t e = some s) : PS X (.Assign [t] e pos) (tS S np S.C.fr s) := by
  unfold cAs at hc
  split at hc
  · have hl := (oi hc).1
    replace hc := (oi hc).2
    split at hc
    · rename_i i hi
      split at hc
      · split at hc
        · rename_i hd
          cases hc
          obtain ⟨p, e0⟩ := dict0_eq hd
          subst e0
          exact sn_new h nd_dct0 rfl hl hi rfl
        · split at hc
          · rename_i y hy
            have hf := (oi hc).1
            have e0 := (oi hc).2
            cases e0
            rw [Bool.and_eq_true] at hf
            exact sn_new h (ih.e sc X h _ _ hy) hf.2 hl hi hf.1
          · cases hc
      · split at hc
        · rename_i y hy
          have hf := (oi hc).1
          have e0 := (oi hc).2
          cases e0
          exact sn_asg h (ih.e sc X h _ _ hy) hf hl hi
        · cases hc
    · cases hc
  · split at hc
    · rename_i hu hy
      cases hc
      unfold cTS at hu
      simp only at hu
      split at hu
      · have h1 := (oi hu).1
        simp only [Bool.and_eq_true] at h1
        replace hu := (oi hu).2
        split at hu
        · rename_i hi hix
          cases hu
          exact sn_sub h (ih.e sc X h _ _ hy) (own_pa h h1.1.2 hi h1.1.1) (ih.e sc X h _ _ hix) (cE_node hix).2.2
        · cases hu
      · cases hu
    · cases hc
  · split at hc
    · split at hc
      · rename_i hp
        split at hc
        · rename_i he
          have h1 := (oi hc).1
          have e0 := (oi hc).2
          cases e0
          simp only [Bool.and_eq_true, decide_eq_true_eq] at h1
          exact sn_par h (st_par hp) (ih.es sc X h _ _ he) h1.1.1 (by have := h1.1.2; omega) h1.2
        · cases hc
      · split at hc
        · rename_i hu he
          have h1 := (oi hc).1
          have e0 := (oi hc).2
          cases e0
          simp only [Bool.and_eq_true, decide_eq_true_eq] at h1
          refine sn_tps h (nd_tup (ih.es sc X h _ _ he)) (st_tgs ih h hu) ((sw_stat h fun t ht id p e => ?_).1 h1.1)
          have := List.all_eq_true.mp h1.2 t ht
          subst e
          exact this
        · cases hc
    · rename_i hne
      have nt : isTup e = false := by
        cases e <;> first | rfl | exact (hne _ _ _ rfl).elim
      split at hc
      · rename_i ht hy
        cases hc
        exact sn_tgt h (ih.e sc X h _ _ hy) ht nt
      · rename_i ht hy
        split at hc
        · rename_i hu
          cases hc
          exact sn_tps h (ih.e sc X h _ _ hy) (st_tgs ih h hu) (swst_tup nt)
        · cases hc
      · cases hc
  · cases hc
structure AllSt (S : Sx) (k np n : Nat) : Prop where
  s : ∀ sc X, Ct S k sc X → ∀ st s, cS S.C n sc st = some s → PS X st (tS S np S.C.fr s)
  ss : ∀ sc X, Ct S k sc X → ∀ st s, cSs S.C n sc st = some s → PSs X st (tSs S np S.C.fr s)
theorem st_s (ie : AllOk S k n) (ih : AllSt S k np n) (h : Ct S k sc X) : ∀ st s, cS S.C (n + 1) sc st = some s → PS X st (tS S np S.C.fr s) := fun st s hc => by
  cases st with
  | Expr e p =>
    simp only [cS] at hc
    have h1 := (oni hc).1
    obtain ⟨c, hy, e0⟩ := omap (oni hc).2
    subst e0
    exact sn_exp (ie.e sc X h _ _ hy) (by simpa using h1)
  | Return oe p =>
    simp only [cS] at hc
    split at hc
    · cases hc
      refine ps_retN.imp fun D σ H ⟨A, m, env, fl, env', re, ev, o⟩ => ?_
      simp only [evS, evR, evE] at ev
      cases ev
      exact o A m H H .non .refl ⟨.refl, m, fun a z => .inl z, fun a z => .inl z, re.live, fun i oo _ e => re.outs i oo e, .inr ⟨Rep.of_non, .inr rfl⟩⟩
    · obtain ⟨c, hy, e0⟩ := omap hc
      subst e0
      exact sn_ret (st_r ie h hy)
  | Assign ts e p =>
    simp only [cS] at hc
    split at hc
    · exact st_as ie h hc
    · cases hc
  | If c a b p =>
    simp only [cS] at hc
    split at hc
    · rename_i h1 h2 h3
      cases hc
      exact sn_if (ie.e sc X h _ _ h1) (ih.ss sc X h _ _ h2) (ih.ss sc X h _ _ h3)
    · cases hc
  | For t it b els p =>
    simp only [cS] at hc
    split at hc
    · split at hc
      · rename_i x hx
        have h1 := (oi hc).1
        simp only [Bool.and_eq_true] at h1
        replace hc := (oi hc).2
        split at hc
        · rename_i hi ht hb
          cases hc
          obtain ⟨p1, ap, cp, e0, e1⟩ := itmsOf_some hx
          subst e0
          have ht2 := h1.1.1.1
          cases t <;> simp [isTupE] at ht2
          exact sn_items h h1.1.2 hi h1.1.1.2 (tg_ok h 8 _ _ ht) (ih.ss sc X h _ _ hb) e1
        · cases hc
      · split at hc
        · rename_i t' it' b' ht hi hb
          have h1 := (oi hc).1
          have e0 := (oi hc).2
          cases e0
          rw [Bool.and_eq_true] at h1
          obtain ⟨h1, hni⟩ := h1
          obtain ⟨pi, ok⟩ := ie.it sc X h _ _ _ hi
          refine sn_for h (pi hni) ok (tg_ok h 8 _ _ ht) (ih.ss sc X h _ _ hb) (fun x z => by rw [z] at hni; cases hni) fun i e => ?_
          unfold noNew at h1
          rw [e] at h1
          simpa using h1
        · cases hc
    · cases hc
  | While c b els p =>
    simp only [cS] at hc
    split at hc
    · split at hc
      · rename_i h1 h2
        cases hc
        exact sn_while h (ie.e sc X h _ _ h1) (ih.ss sc X h _ _ h2)
      · cases hc
    · cases hc
  | Pass p => simp only [cS] at hc; cases hc; exact sn_pass
  | Break p => simp only [cS] at hc; cases hc; exact sn_brk
  | Continue p => simp only [cS] at hc; cases hc; exact sn_cnt
  | Raise a b p => simp only [cS] at hc; cases hc; exact sn_bad
  | _ => simp [cS] at hc
theorem st_ss (ih : AllSt S k np n) (h : Ct S k sc X) : ∀ st s, cSs S.C (n + 1) sc st = some s → PSs X st (tSs S np S.C.fr s) := fun st s hc => by
  simp only [cSs] at hc
  split at hc
  · cases hc; exact sq_nil
  · split at hc
    · rename_i h1 h2
      cases hc
      exact sq_cons (ih.s sc X h _ _ h1) (ih.ss sc X h _ _ h2)
    · cases hc
end
theorem all_st (S : Sx) (k np : Nat) : ∀ n, AllSt S k np n
  | 0 => ⟨fun _ _ _ e c h => by simp [cS] at h, fun _ _ _ e c h => by simp [cSs] at h⟩
  | n + 1 => ⟨fun sc X h => st_s (all_ok S k n) (all_st S k np n) h, fun sc X h => st_ss (all_st S k np n) h⟩
end Qx
set_option Elab.async false
set_option linter.all false
set_option maxRecDepth 100000
set_option maxHeartbeats 8000000
/-! QFun: a compiled def keeps its promise. -/
namespace Qx
open PySem PySem.Spec PyProof.Rows L2

/-- the world of a def's walk, at a level of the evaluator -/
def sxOf (hs : List Hint) (gl : List (Str × GV)) (ds : List Df) (G : Gd) (n : Nat) (h : Hint) : Sx := ⟨G, callD ds n, rfsOf ds, ccOf hs gl h⟩
/-- what is known of a def's object -/
structure DefOk (K : PySem.W.Frag) (b : List Stmt) (h : Hint) (f : Addr) : Prop where
  ex : ∃ (x qual : Str) (fd : FuncData), FunD K x qual (defArgs (topOf b h.at_)) (defBody (topOf b h.at_)) (defScope (topOf b h.at_)) [] [] f fd ∧ FnScope h.N (h.N.take h.np) (defScope (topOf b h.at_)) ∧ Binds K fd (h.N.take h.np) [] ∧ KwOk K fd (h.N.take h.np)
  np : h.np ≤ h.N.length
structure Wd (hs : List Hint) (gl : List (Str × GV)) (b : List Stmt) (ds : List Df) (G : Gd) (P : Program) (w : World) (K : PySem.W.Frag) (mg : Str → Option Value) (base : Heap) : Prop where
  hK : K = G.K
  prog : cProg hs gl b = some ds
  defs : ∀ g f, G.fa g = some f → ∃ h, hs[g]? = some h ∧ DefOk K b h f
  glo : ∀ x g, gl.lookup x = some (.fn g) → ∃ f, mg x = some (.ref f) ∧ G.fa g = some f
  cst : ∀ x d, gl.lookup x = some (.cst d) → ∃ v u, mg x = some u ∧ RelV v u ∧ ∀ m H, Rep G m H d v
  blt : ∀ x ∈ bltNames, gl.lookup x = none → mg x = none
theorem allS_get {α β : Type} {f : α → Option β} : ∀ {l : List α} {r : List β} {i : Nat} {a : α}, allS (l.map f) = some r → l[i]? = some a → ∃ b, f a = some b ∧ r[i]? = some b
  | [], r, i, a, h, e => by simp at e
  | x :: l, r, i, a, h, e => by
    rw [List.map_cons] at h
    cases q : f x with
    | none => rw [q] at h; simp only [allS] at h; cases h
    | some y =>
      rw [q] at h
      simp only [allS] at h
      obtain ⟨r', h1, e0⟩ := omap h
      subst e0
      cases i with
      | zero => simp at e; subst e; exact ⟨y, q, rfl⟩
      | succ i => simpa using allS_get h1 (by simpa using e)
theorem refsOf_lt {h : Hint} {i : Nat} (e : i ∈ refsOf h) : i < h.np := by
  unfold refsOf at e
  exact List.mem_range.mp (List.mem_filter.mp e).1
section
variable {hs : List Hint} {gl : List (Str × GV)} {b : List Stmt} {ds : List Df} {G : Gd} {P : Program} {w : World} {K : PySem.W.Frag} {mg : Str → Option Value} {base : Heap} {n g : Nat} {f : Addr} {h : Hint}
theorem df_some (pr : cProg hs gl b = some ds) (hg : hs[g]? = some h) : ∃ d, ds[g]? = some d ∧ d.np = h.np ∧ d.ns = h.N.length ∧ d.refs = refsOf h ∧ cSs (ccOf hs gl h) 200 (defScope (topOf b h.at_)) (defBody (topOf b h.at_)) = some d.body := by
  unfold cProg at pr
  obtain ⟨d, h1, h2⟩ := allS_get pr hg
  unfold cDf at h1
  split at h1
  · rename_i e
    obtain ⟨ss, h3, e0⟩ := omap h1
    subst e0
    refine ⟨_, h2, rfl, rfl, rfl, ?_⟩
    rw [e]
    exact h3
  · cases h1
theorem start_get {N : List Str} {vs : List V} {i : Nat} {v : V} (e : vs[i]? = some v) : (L2.start N vs)[i]? = some (some v) := by
  unfold L2.start
  have li := (List.getElem?_eq_some_iff.mp e).1
  rw [List.getElem?_append_left (by rw [List.length_map]; exact li), List.getElem?_map, e]
  rfl
theorem startE_get {d : Df} {args : List D} {i : Nat} {s : Sl} (e : (startE d args)[i]? = some s) (hs : s ≠ .no) : ∃ x, args[i]? = some x ∧ s = if d.refs.contains i then .own x else .val x := by
  unfold startE at e
  by_cases c : i < args.length
  · rw [List.getElem?_append_left (by simp; exact c)] at e
    rw [List.getElem?_map, List.getElem?_range c] at e
    refine ⟨args[i], List.getElem?_eq_getElem c, ?_⟩
    have := (Option.some.inj e).symm
    rw [this]
    show (if d.refs.contains i = true then Sl.own (args.getD i D.non) else Sl.val (args.getD i D.non)) = _
    rw [List.getD_eq_getElem?_getD, List.getElem?_eq_getElem c]
    rfl
  · rw [List.getElem?_append_right (by simp; omega)] at e
    have := List.mem_of_getElem? e
    exact (hs (List.eq_of_mem_replicate this)).elim
theorem re_start {m : AdP} {H : Hp} {B : Slots} {d : Df} {args : List D} {vs : List V} {N : List Str} (a : Args G m H B d.refs args vs) (hn : d.ns = N.length) : RE G B m (startE d args) (L2.start N vs) H := by
  refine ⟨?_, fun i x e => ?_, fun i x e => ?_, a.inj, a.mem, a.live⟩
  · unfold startE L2.start
    simp [a.len, hn]
  · obtain ⟨y, h1, h2⟩ := startE_get e (by simp)
    split at h2
    · cases h2
    · rename_i c
      cases h2
      obtain ⟨v, h3, h4⟩ := a.val i x h1 (fun z => c (List.contains_iff_mem.mpr z))
      exact ⟨v, start_get h3, h4⟩
  · obtain ⟨y, h1, h2⟩ := startE_get e (by simp)
    split at h2
    · rename_i c
      cases h2
      obtain ⟨ad, h3, h4, h5⟩ := a.own i x h1 (List.contains_iff_mem.mp c)
      exact ⟨ad, h3, start_get h4, h5⟩
    · cases h2
theorem outs_at {M : AdP} {H' : Hp} {B : Slots} {env : En} : ∀ {js : List Nat} {os : List D}, outsE env js = some os → (∀ i ∈ js, ∀ o, getO env i = some o → ∃ a, B i = some a ∧ OwnAt G M H' a o) → OutsAt G M H' B js os
  | [], os, e, _ => by
    simp only [outsE] at e
    cases e
    exact True.intro
  | i :: js, os, e, k => by
    simp only [outsE] at e
    split at e
    · rename_i o os' h1 h2
      cases e
      simp only [OutsAt]
      exact ⟨k i List.mem_cons_self o h1, outs_at h2 fun j hj => k j (List.mem_cons_of_mem _ hj)⟩
    · cases e
theorem ct_fun (W : Wd hs gl b ds G P w K mg base) (ih : ∀ g f, G.fa g = some f → FnAt (sxOf hs gl ds G n h) n P w K mg base g f) {sc : Scope} (fs : FnScope h.N (h.N.take h.np) sc) {qual : Str} {fa : Addr} {cdv : Value} {A : Around} {outer : List Env} {s : Shared} {H : Hp} {E : XK}
    (r : Room n (A.deeper (envOfC qual sc s.heap.objs.size fa cdv))) : Ct (sxOf hs gl ds G n h) n sc (cxOf CX0 P w K mg base h.N qual sc fa cdv A outer s H E).nox where
  N := rfl
  nd := fs.nd
  calm := rfl
  room := r
  hK := W.hK
  xe := rfl
  kind := fs.kind
  loc := fun x e => e
  cell := fun x e => ⟨e, rfl⟩
  free := fun x e => .inr e
  gl := fun x e => e
  prg := ⟨ih, W.glo, W.cst, W.blt⟩
theorem body_ok (W : Wd hs gl b ds G P w K mg base) (hg : hs[g]? = some h) (hn : h.np ≤ h.N.length) {X : Cx} {body : List Stmt} {d : Df} (hd : ds[g]? = some d) (d1 : d.np = h.np) (d2 : d.ns = h.N.length) (d3 : d.refs = refsOf h) (hp : PSs X body (tSs (sxOf hs gl ds G n h) h.np h.fresh d.body))
    {vs : List V} {H : Hp} {Q : VK} {E : XK} (sp : spOf (sxOf hs gl ds G (n + 1) h) g vs H Q E) : tSs (sxOf hs gl ds G n h) h.np h.fresh d.body { nx := fun _ H' => Q .non H', rt := Q } (L2.start h.N vs) H := by
  obtain ⟨m, B, args, r, outs, hf, ar, q⟩ := sp
  have hR : (sxOf hs gl ds G (n + 1) h).R g = d.refs := by
    show rfsOf ds g = d.refs
    unfold rfsOf
    rw [hd]
  have hF : (sxOf hs gl ds G (n + 1) h).C.F g = h.fresh := by
    show (match hs[g]? with | some g => g.fresh | none => false) = h.fresh
    rw [hg]
  rw [hR] at ar q
  rw [hF] at q
  have hf : callD ds (n + 1) g args = some (r, outs) := hf
  simp only [callD, hd, runD] at hf
  replace hf := (oi hf).2
  have rlt : ∀ i ∈ d.refs, i < h.np := fun i hi => refsOf_lt (by rw [← d3]; exact hi)
  have hB : ∀ i a, B i = some a → i < h.np := fun i a e => rlt i (ar.dom i a e)
  have re := re_start (N := h.N) ar d2
  cases ev : evSs (callD ds n) (rfsOf ds) d.np d.body (startE d args) with
  | none => rw [ev] at hf; cases hf
  | some rr =>
    obtain ⟨fl, env'⟩ := rr
    rw [ev] at hf
    refine ⟨B, m, _, fl, env', re, by rw [← d1]; exact ev, ?_⟩
    cases fl with
    | brk => cases hf
    | ct => cases hf
    | nx =>
      obtain ⟨os, ho, e0⟩ := omap hf
      cases e0
      intro A' m' σ' H' st r'
      refine q .non H' m' ⟨⟨st.keep, st.live⟩, st.more, st.new, outs_at ho fun i hi o e => ?_, .inr ⟨Rep.of_non, .inr rfl⟩, r'.live⟩
      obtain ⟨a, g1, g2⟩ := r'.outs i o e
      exact ⟨a, by rw [← st.par i (rlt i hi)]; exact g1, g2⟩
    | ret dd =>
      obtain ⟨os, ho, e0⟩ := omap hf
      cases e0
      intro A' m' Hb H' v st rt
      obtain ⟨m2, k1, k2, k3, k4, k5⟩ := rt.ex
      have fresh : ∀ i a, h.np ≤ i → A' i = some a → H a = none := fun i a hi e => by
        rcases st.own i a e with z | z
        · have := hB i a z; omega
        · exact z
      refine q v H' m2 ⟨⟨fun a o e na => rt.nx.keep a o (st.keep a o e na) fun i z => ?_, fun a e => rt.nx.live a (st.live a e)⟩, fun a z => ?_, fun a z => ?_, outs_at ho fun i hi o e => ?_, ?_, k3⟩
      · rcases st.own i a z with z | z
        · exact na i z
        · rw [e] at z; cases z
      · rcases k2 a (st.more a z) with y | ⟨i, hi, y⟩
        · exact y
        · exact (ar.live a z (fresh i a hi y)).elim
      · rcases k1 a z with y | y
        · exact st.new a y
        · exact .inr (st.back y)
      · obtain ⟨a, g1, g2⟩ := k4 i o (rlt i hi) e
        exact ⟨a, by rw [← st.par i (rlt i hi)]; exact g1, g2⟩
      · rcases k5 with ⟨a, e1, e2, e3, e4⟩ | e1
        · refine .inl ⟨a, e1, e2, ?_, e4⟩
          rcases e3 with y | ⟨i, hi, y⟩
          · exact st.back y
          · exact fresh i a hi y
        · exact .inr e1
/-- every def keeps its promise, at every level -/
theorem fn_all (W : Wd hs gl b ds G P w K mg base) : ∀ (n : Nat) (h0 : Hint) (g : Nat) (f : Addr), G.fa g = some f → FnAt (sxOf hs gl ds G n h0) n P w K mg base g f
  | 0, h0, g, f, hf => by
    obtain ⟨h, hg, ⟨x, qual, fd, F, fs, hb, hk⟩, hn⟩ := W.defs g f hf
    have eP : (sxOf hs gl ds G 0 h0).C.P g = h.N.take h.np := by
      show (match hs[g]? with | some g => g.N.take g.np | none => []) = _
      rw [hg]
    have vac : ∀ vs H Q E, ¬ spOf (sxOf hs gl ds G 0 h0) g vs H Q E := fun vs H Q E ⟨m, B, args, r, outs, z, _⟩ => by
      have z : callD ds 0 g args = some (r, outs) := z
      simp only [callD] at z
      cases z
    exact ⟨fd, h.N.take h.np, ⟨fun vs H Q E z => (vac _ _ _ _ z).elim, fun A outer s H args us vs Q E _ _ _ _ z => (vac _ _ _ _ z).elim⟩, F.kp, hb, eP.symm, hk⟩
  | n + 1, h0, g, f, hf => by
    obtain ⟨h, hg, ⟨x, qual, fd, F, fs, hb, hk⟩, hn⟩ := W.defs g f hf
    obtain ⟨d, hd, d1, d2, d3, hc⟩ := df_some W.prog hg
    have eP : (sxOf hs gl ds G (n + 1) h0).C.P g = h.N.take h.np := by
      show (match hs[g]? with | some g => g.N.take g.np | none => []) = _
      rw [hg]
    have lenN : (h.N.take h.np).length = h.np := by rw [List.length_take]; omega
    refine ⟨fd, h.N.take h.np, F.ok fs (fun vs H Q E z => ?_) (fun cdv A outer s H vs Q E r z => ?_), F.kp, hb, eP.symm, hk⟩
    · obtain ⟨m, B, args, r, outs, z, ar, _⟩ := z
      have z : callD ds (n + 1) g args = some (r, outs) := z
      simp only [callD, hd, runD] at z
      rw [← ar.len, (oi z).1, d1, lenN]
    · have ct := ct_fun (h := h) (qual := qual) (fa := f) (cdv := cdv) (A := A) (outer := outer) (s := s) (H := H) (E := E) W (fun g f e => fn_all W n h g f e) fs r
      have ps := (all_st (sxOf hs gl ds G n h) n h.np 200).ss _ _ ct _ _ hc
      exact ⟨_, PSs.nox ps, body_ok (E := E) W hg hn hd d1 d2 d3 ps z⟩
end
end Qx
set_option Elab.async false
set_option linter.all false
set_option maxRecDepth 100000
set_option maxHeartbeats 4000000
/-! QBind: plain parameters, by place and by name. -/
namespace Qx
open PySem PySem.Spec PyProof.Rows L2

theorem kw_loop {ps : List Str} {f : Str × Value → (List (Str × Value) × List (Str × Value)) → Sem (ForInStep (List (Str × Value) × List (Str × Value)))}
    (hf : ∀ k v sl ex, ps.contains k = true → sl.lookup k = none → f (k, v) (sl, ex) = pure (.yield (sl ++ [(k, v)], ex))) :
    ∀ (kws : List (Str × Value)) (sl ex : List (Str × Value)), (∀ p ∈ kws, ps.contains p.1 = true ∧ sl.lookup p.1 = none) → (kws.map (·.1)).Nodup → forIn kws (sl, ex) f = pure (sl ++ kws, ex)
  | [], sl, ex, _, _ => by rw [List.forIn_nil, List.append_nil]
  | (k, v) :: r, sl, ex, h, nd => by
    rw [List.forIn_cons]
    obtain ⟨h1, h2⟩ := h (k, v) List.mem_cons_self
    rw [hf k v sl ex h1 h2, pure_bind]
    simp only
    rw [List.map_cons, List.nodup_cons] at nd
    rw [kw_loop hf r (sl ++ [(k, v)]) ex (fun p hp => ?_) nd.2, List.append_assoc]
    · rfl
    · obtain ⟨g1, g2⟩ := h p (List.mem_cons_of_mem _ hp)
      refine ⟨g1, ?_⟩
      rw [List.lookup_append, g2]
      have : (p.1 == k) = false := by
        cases q : p.1 == k with
        | false => rfl
        | true =>
          have z := List.mem_map_of_mem (f := fun (x : Str × Value) => x.1) hp
          rw [eq_of_beq q] at z
          exact (nd.1 z).elim
      simp [List.lookup_cons, this]
theorem bind_plain (fd : FuncData) (h1 : fd.params.posonlyargs = []) (h2 : fd.params.kwonlyargs = []) (h3 : fd.params.vararg = none) (h4 : fd.params.kwarg = none) (h5 : fd.defaults = .none) (us : List Value) (kws : List (Str × Value))
    (hl : us.length ≤ (fd.params.args.map (·.arg)).length) (hk : ∀ p ∈ kws, (fd.params.args.map (·.arg)).contains p.1 = true ∧ ((fd.params.args.map (·.arg)).zip us).lookup p.1 = none) (nd : (kws.map (·.1)).Nodup)
    (hall : ∀ n ∈ fd.params.args.map (·.arg), (((fd.params.args.map (·.arg)).zip us ++ kws).lookup n).isSome = true) :
    bindArgs fd ⟨us, kws⟩ = pure ((fd.params.args.map (·.arg)).filterMap fun n => (((fd.params.args.map (·.arg)).zip us ++ kws).lookup n).map (n, ·)) := by
  unfold bindArgs
  simp only [h1, h2, h3, h4, h5, List.map_nil, List.nil_append, List.append_nil]
  rw [kw_loop (ps := fd.params.args.map (·.arg)) (fun k v sl ex g1 g2 => by
    simp only [g1, g2, Bool.true_or, if_pos, Option.isSome_none]
    rfl) kws _ _ hk nd]
  rw [pure_bind]
  have e : seqItems? Value.none = pure none := rfl
  rw [e, pure_bind]
  have g0 : ¬ (decide (us.length > (fd.params.args.map (·.arg)).length) && (none : Option Arg).isNone) = true := by
    simp; simpa using hl
  rw [if_neg g0]
  have e0 : ((none : Option (Array Value)).getD #[]).toList = [] := rfl
  have g1 : ((fd.params.args.map (·.arg)).take (fd.params.args.map (·.arg)).length).filter (fun n => (((fd.params.args.map (·.arg)).zip us ++ kws).lookup n).isNone) = [] := by
    rw [List.filter_eq_nil_iff]
    intro n hn
    have := hall n (List.mem_of_mem_take hn)
    simp only [Option.isNone_iff_eq_none]
    intro z
    rw [z] at this
    cases this
  simp only [e0, List.drop_nil, List.length_nil, Nat.sub_zero, List.zip_nil_right, List.forIn_nil, pure_bind, g1, List.isEmpty_nil, Bool.not_true, Bool.false_eq_true, if_false]
/-- lookups in a zip -/
theorem zip_look {α : Type} : ∀ {ps : List Str} {us : List α} {j : Nat} {x : Str}, ps.Nodup → ps[j]? = some x → (ps.zip us).lookup x = us[j]?
  | [], us, j, x, _, h => by simp at h
  | p :: ps, [], j, x, _, h => by simp
  | p :: ps, u :: us, 0, x, nd, h => by
    simp at h
    subst h
    simp [List.lookup_cons]
  | p :: ps, u :: us, j + 1, x, nd, h => by
    rw [List.nodup_cons] at nd
    have hx : ps[j]? = some x := by simpa using h
    have ne : (x == p) = false := by
      cases q : x == p with
      | false => rfl
      | true =>
        have := eq_of_beq q
        subst this
        exact (nd.1 (List.mem_of_getElem? hx)).elim
    rw [List.zip_cons_cons, List.lookup_cons, ne]
    simp only [List.getElem?_cons_succ]
    exact zip_look nd.2 hx
theorem ixOf_look {α : Type} : ∀ {ks : List Str} {ws : List α} {i : Nat} {x : Str}, ixOf ks x = some i → (ks.zip ws).lookup x = ws[i]?
  | [], ws, i, x, h => by simp [ixOf] at h
  | k :: ks, [], i, x, h => by simp
  | k :: ks, w :: ws, i, x, h => by
    unfold ixOf at h
    by_cases c : k = x
    · rw [if_pos c] at h
      cases h
      subst c
      simp [List.lookup_cons]
    · rw [if_neg c] at h
      obtain ⟨j, h1, e0⟩ := omap h
      subst e0
      have ne : (x == k) = false := by
        cases q : x == k with
        | false => rfl
        | true => exact (c (eq_of_beq q).symm).elim
      rw [List.zip_cons_cons, List.lookup_cons, ne]
      simp only [List.getElem?_cons_succ]
      exact ixOf_look h1
theorem pick_zip {xs : List Value} {L : Str → Option Value} : ∀ {ps : List Str} {pm : List Nat}, pm.length = ps.length → (∀ (j : Nat) (x : Str) (q : Nat), ps[j]? = some x → pm[j]? = some q → ∃ v, L x = some v ∧ xs[q]? = some v) →
    (ps.filterMap fun n => (L n).map (n, ·)) = ps.zip (pickV xs pm)
  | [], pm, _, _ => by simp
  | p :: ps, [], h, _ => by simp at h
  | p :: ps, q :: pm, h, k => by
    obtain ⟨v, h1, h2⟩ := k 0 p q rfl rfl
    have ih := pick_zip (xs := xs) (L := L) (ps := ps) (pm := pm) (by simpa using h) fun j x q a b => k (j + 1) x q (by simpa using a) (by simpa using b)
    have e1 : pickV xs (q :: pm) = v :: pickV xs pm := by unfold pickV; rw [List.filterMap_cons, h2]
    rw [List.filterMap_cons, h1, e1, List.zip_cons_cons]
    simp only [Option.map_some]
    rw [ih]
/-- plain parameters: no defaults, no stars -/
structure PlainP (fd : FuncData) (ps : List Str) : Prop where
  po : fd.params.posonlyargs = []
  kw : fd.params.kwonlyargs = []
  va : fd.params.vararg = none
  kg : fd.params.kwarg = none
  df : fd.defaults = .none
  as_ : fd.params.args.map (·.arg) = ps
  nd : ps.Nodup
theorem PlainP.bind {fd : FuncData} {ps : List Str} (p : PlainP fd ps) {n : Nat} {ks : List Str} {pm : List Nat} (hp : kwPos ps n ks = some pm) (nd : ks.Nodup) (hl : n + ks.length = ps.length) (hin : ∀ k ∈ ks, k ∈ ps.drop n) {us ws : List Value} (hu : us.length = n) (hw : ws.length = ks.length) :
    bindArgs fd ⟨us, ks.zip ws⟩ = pure (ps.zip (pickV (us ++ ws) pm)) := by
  have keys : (ks.zip ws).map (·.1) = ks := by
    rw [List.map_fst_zip]
    omega
  have pmAt : ∀ (j : Nat) (x : Str), ps[j]? = some x → ∃ q, pm[j]? = some q ∧ ((j < n ∧ q = j) ∨ (n ≤ j ∧ ∃ i, ixOf ks x = some i ∧ q = i + n)) := fun j x hj => by
    have lj : j < ps.length := (List.getElem?_eq_some_iff.mp hj).1
    unfold kwPos at hp
    obtain ⟨q, h1, h2⟩ := allS_get hp (List.getElem?_range lj)
    refine ⟨q, h2, ?_⟩
    by_cases c : j < n
    · rw [if_pos c] at h1
      exact .inl ⟨c, (Option.some.inj h1).symm⟩
    · rw [if_neg c] at h1
      obtain ⟨i, h3, h4⟩ := omap h1
      rw [List.getD_eq_getElem?_getD, hj] at h3
      exact .inr ⟨by omega, i, h3, h4⟩
  have look : ∀ (j : Nat) (x : Str) (q : Nat), ps[j]? = some x → pm[j]? = some q → ∃ v, (ps.zip us ++ ks.zip ws).lookup x = some v ∧ (us ++ ws)[q]? = some v := fun j x q hj hq => by
    obtain ⟨q', h1, h2⟩ := pmAt j x hj
    rw [hq] at h1; cases h1
    rw [List.lookup_append, zip_look p.nd hj]
    rcases h2 with ⟨c, e0⟩ | ⟨c, i, hi, e0⟩
    · subst e0
      have lu : q < us.length := by omega
      exact ⟨us[q], by rw [List.getElem?_eq_getElem lu]; rfl, by rw [List.getElem?_append_left lu, List.getElem?_eq_getElem lu]⟩
    · subst e0
      have li : i < ks.length := (List.getElem?_eq_some_iff.mp (ixOf_some hi)).1
      have lw : i < ws.length := by omega
      refine ⟨ws[i], ?_, ?_⟩
      · rw [List.getElem?_eq_none (by omega), ixOf_look hi, List.getElem?_eq_getElem lw]; rfl
      · rw [List.getElem?_append_right (by omega), show i + n - us.length = i by omega, List.getElem?_eq_getElem lw]
  have lpm : pm.length = ps.length := by
    unfold kwPos at hp
    have : ∀ {α : Type} {l : List (Option α)} {r : List α}, allS l = some r → r.length = l.length := by
      intro α l
      induction l with
      | nil => intro r h; simp only [allS] at h; cases h; rfl
      | cons a l ih =>
        intro r h
        cases a with
        | none => simp only [allS] at h; cases h
        | some a =>
          simp only [allS] at h
          obtain ⟨r', h1, e0⟩ := omap h
          subst e0
          rw [List.length_cons, List.length_cons, ih h1]
    rw [this hp, List.length_map, List.length_range]
  have e := bind_plain fd p.po p.kw p.va p.kg p.df us (ks.zip ws) (by rw [p.as_]; omega) (fun q hq => ?_) (by rw [keys]; exact nd) fun x hx => ?_
  · rw [p.as_] at e
    rw [e, pick_zip lpm look]
  · rw [p.as_]
    have hk : q.1 ∈ ks := by
      rw [← keys]
      exact List.mem_map_of_mem hq
    have hd := hin q.1 hk
    obtain ⟨j, hj⟩ := List.mem_iff_getElem?.mp hd
    rw [List.getElem?_drop] at hj
    exact ⟨List.contains_iff_mem.mpr (List.mem_of_getElem? hj), by rw [zip_look p.nd hj, List.getElem?_eq_none (by omega)]⟩
  · rw [p.as_] at hx ⊢
    obtain ⟨j, hj⟩ := List.mem_iff_getElem?.mp hx
    obtain ⟨q, h1, _⟩ := pmAt j x hj
    obtain ⟨v, h2, _⟩ := look j x q hj h1
    rw [h2]; rfl
theorem PlainP.kwOk {K : PySem.W.Frag} {fd : FuncData} {ps : List Str} (p : PlainP fd ps) : KwOk K fd ps := fun n ks pm hp nd hl hin s us ws _ hu hw => .of_eq (p.bind hp nd hl hin hu hw)
theorem kwPos_all : ∀ (ps : List Str), kwPos ps ps.length [] = some (List.range ps.length) := fun ps => by
  unfold kwPos
  have : ∀ {l : List Nat}, (∀ j ∈ l, j < ps.length) → allS (l.map fun j => if j < ps.length then some j else (ixOf [] (ps.getD j "")).map (· + ps.length)) = some l := by
    intro l
    induction l with
    | nil => intro _; rfl
    | cons a l ih =>
      intro h
      rw [List.map_cons, if_pos (h a List.mem_cons_self)]
      simp only [allS]
      rw [ih fun j hj => h j (List.mem_cons_of_mem _ hj)]
      rfl
  exact this fun j hj => List.mem_range.mp hj
theorem pick_all {α : Type} (us : List α) : pickV us (List.range us.length) = us := by
  apply List.ext_getElem?
  intro i
  have : ∀ n, n ≤ us.length → pickV us (List.range n) = us.take n := by
    intro n
    induction n with
    | zero => intro _; simp [pickV]
    | succ n ih =>
      intro hn
      have h1 := ih (by omega)
      unfold pickV at h1 ⊢
      rw [List.range_succ, List.filterMap_append, h1, List.take_add_one]
      simp only [List.filterMap_cons, List.filterMap_nil]
      rw [List.getElem?_eq_getElem (by omega)]
      rfl
  rw [this _ (Nat.le_refl _), List.take_length]
theorem PlainP.binds {K : PySem.W.Frag} {fd : FuncData} {ps : List Str} (p : PlainP fd ps) : Binds K fd ps [] := fun s us _ hl => by
  rw [List.append_nil] at hl ⊢
  have e := p.bind (kwPos_all ps) List.nodup_nil (by simp) (by simp) hl (ws := []) rfl
  rw [List.append_nil, ← hl, pick_all] at e
  exact .of_eq e
end Qx
set_option Elab.async false
set_option linter.all false
set_option maxRecDepth 100000
set_option maxHeartbeats 4000000
/-! QHead: from a head's facts to the world of the defs. -/
namespace Qx
open PySem PySem.Spec PyProof.Rows L2

def defName (s : Stmt) : Str := match s with
  | .FunctionDef n _ _ _ _ _ _ _ _ _ => n
  | _ => ""
def ddOf (b : List Stmt) (h : Hint) : He.DefD := ⟨(defName (topOf b h.at_), none), defName (topOf b h.at_), defName (topOf b h.at_), defArgs (topOf b h.at_), defBody (topOf b h.at_), defScope (topOf b h.at_), [], []⟩
def nodupL : List Str → Bool
  | [] => true
  | a :: r => !(r.any fun b => decide (b = a)) && nodupL r
def scopeOk (N ps : List Str) (sc : Scope) : Bool := (match sc.kind with | .function => true | _ => false) && !sc.isCoroutine && !sc.isGenerator && nodupL N && decide (N.take ps.length = ps) &&
  (ps.all fun x => match sc.names.lookup x with | some .local => true | some .cell => true | _ => false) && (sc.names.all fun y => match y.2 with | .free => false | _ => true)
def argsOk' (a : Arguments) (ps : List Str) : Bool := a.posonlyargs.isEmpty && a.kwonlyargs.isEmpty && a.vararg.isNone && a.kwarg.isNone && decide (a.args.map (·.arg) = ps)
def hintOk (b : List Stmt) (h : Hint) : Bool := decide (h.np ≤ h.N.length) && scopeOk h.N (h.N.take h.np) (defScope (topOf b h.at_)) && argsOk' (defArgs (topOf b h.at_)) (h.N.take h.np)
def globOk (hs : List Hint) (b : List Stmt) (fa : List He.Fa) (p : Str × GV) : Bool := match p.2 with
  | .fn g => (match hs[g]? with | some h => decide (defName (topOf b h.at_) = p.1) | none => false) && fa.any fun f => match f with | .glo x => decide (x = p.1) | _ => false
  | .cst (.int i) => fa.any fun f => match f with | .int x j => decide (x = p.1) && decide (i = j) | _ => false
  | .cst (.str s) => fa.any fun f => match f with | .str x z => decide (x = p.1) && decide (z = s) | _ => false
  | _ => false
def bltOk (gl : List (Str × GV)) (fa : List He.Fa) : Bool := bltNames.all fun x => (gl.lookup x).isSome || fa.any fun f => match f with | .free y => decide (y = x) | _ => false
theorem nodupL_ok : ∀ {l : List Str}, nodupL l = true → l.Nodup
  | [], _ => List.nodup_nil
  | a :: r, h => by
    simp only [nodupL, Bool.and_eq_true, Bool.not_eq_true', List.any_eq_false, decide_eq_true_eq] at h
    exact List.nodup_cons.mpr ⟨fun z => h.1 a z rfl, nodupL_ok h.2⟩
theorem scopeOk_fs {N ps : List Str} {sc : Scope} (h : scopeOk N ps sc = true) : FnScope N ps sc := by
  unfold scopeOk at h
  simp only [Bool.and_eq_true, Bool.not_eq_true', decide_eq_true_eq] at h
  obtain ⟨⟨⟨⟨⟨⟨h1, h2⟩, h3⟩, h4⟩, h5⟩, h6⟩, h7⟩ := h
  refine ⟨?_, h2, h3, nodupL_ok h4, h5, fun x hx => ?_, fun y hy z => ?_⟩
  · cases q : sc.kind <;> rw [q] at h1 <;> first | rfl | cases h1
  · have := List.all_eq_true.mp h6 x hx
    split at this
    · rename_i q; exact .inl q
    · rename_i q; exact .inr q
    · cases this
  · have := List.all_eq_true.mp h7 y hy
    rw [z] at this
    cases this
theorem nodup_take {l : List Str} (h : l.Nodup) (n : Nat) : (l.take n).Nodup := h.sublist (List.take_sublist n l)
theorem plain_of {K : PySem.W.Frag} {x q : Str} {a : Arguments} {body : List Stmt} {sc : Scope} {f : Addr} {fd : FuncData} {ps : List Str} (F : FunD K x q a body sc [] [] f fd) (h : argsOk' a ps = true) (nd : ps.Nodup) : PlainP fd ps := by
  obtain ⟨oc, od, dV, kV, doc, pm, an, cdv, ct, osl, rfl, _, _, dv, _⟩ := F.ex
  unfold argsOk' at h
  simp only [Bool.and_eq_true, decide_eq_true_eq, List.isEmpty_iff, Option.isNone_iff_eq_none] at h
  obtain ⟨⟨⟨⟨h1, h2⟩, h3⟩, h4⟩, h5⟩ := h
  refine ⟨h1, h2, h3, h4, ?_, h5, nd⟩
  rcases dv with ⟨_, dv⟩ | ⟨dv, _⟩
  · exact dv
  · exact (dv rfl).elim
section
variable {hs : List Hint} {gl : List (Str × GV)} {b : List Stmt} {ds : List Df} {fa : List He.Fa} {P : Program} {w : World} {K : PySem.W.Frag} {mg : Str → Option Value} {base h : Heap}
theorem lookup_mem {α : Type} : ∀ {l : List (Str × α)} {x : Str} {v : α}, l.lookup x = some v → (x, v) ∈ l
  | [], x, v, h => by simp at h
  | (k, w) :: r, x, v, h => by
    rw [List.lookup_cons] at h
    cases q : x == k with
    | true =>
      rw [q] at h
      cases h
      rw [eq_of_beq q]
      exact List.mem_cons_self
    | false =>
      rw [q] at h
      exact List.mem_cons_of_mem _ (lookup_mem h)
theorem fact_mem {fn : List He.DefD} (c : He.SaysD fa fn K) {f : He.Fa} (h : f ∈ fa) : f.ok K = true := by
  obtain ⟨i, hi⟩ := List.mem_iff_getElem?.mp h
  exact c.fact i hi
def gdOf (hs : List Hint) (b : List Stmt) (K : PySem.W.Frag) : Gd := ⟨K, fun g => (hs[g]?).map fun h => He.fAd K (ddOf b h).at_⟩
theorem wd_of (X : K.In h) (G : h.Ns mainGlobals mg) (c : He.SaysD fa (hs.map (ddOf b)) K) (pr : cProg hs gl b = some ds) (ok : hs.all (hintOk b) = true) (og : gl.all (globOk hs b fa) = true) (ob : bltOk gl fa = true) : Wd hs gl b ds (gdOf hs b K) P w K mg base where
  hK := rfl
  prog := pr
  defs := fun g f e => by
    obtain ⟨hh, h1, rfl⟩ := omap e
    refine ⟨hh, h1, ?_⟩
    have o := List.all_eq_true.mp ok hh (List.mem_of_getElem? h1)
    unfold hintOk at o
    simp only [Bool.and_eq_true, decide_eq_true_eq] at o
    obtain ⟨⟨o1, o2⟩, o3⟩ := o
    obtain ⟨fd, F⟩ := c.def_ g (d := ddOf b hh) (by rw [List.getElem?_map, h1]; rfl)
    have fs := scopeOk_fs o2
    have p : PlainP fd (hh.N.take hh.np) := plain_of F o3 (nodup_take fs.nd _)
    exact ⟨⟨_, _, fd, F, fs, p.binds, p.kwOk⟩, o1⟩
  glo := fun x g e => by
    have o := List.all_eq_true.mp og _ (lookup_mem e)
    unfold globOk at o
    simp only [Bool.and_eq_true] at o
    obtain ⟨o1, o2⟩ := o
    split at o1
    · rename_i hh h1
      have en := of_decide_eq_true o1
      obtain ⟨f, hf, o3⟩ := List.any_eq_true.mp o2
      split at o3
      · rename_i y
        have ey := of_decide_eq_true o3
        subst ey
        refine ⟨_, He.glo_ok X G (fact_mem c hf), ?_⟩
        show (hs[g]?).map (fun h => He.fAd K (ddOf b h).at_) = _
        rw [h1]
        show some (He.ga K (defName (topOf b hh.at_))) = _
        rw [en]
      · cases o3
    · cases o1
  cst := fun x d e => by
    have o := List.all_eq_true.mp og _ (lookup_mem e)
    unfold globOk at o
    simp only at o
    split at o
    · rename_i q; cases q
    · rename_i i q
      cases q
      obtain ⟨f, hf, o3⟩ := List.any_eq_true.mp o
      split at o3
      · rw [Bool.and_eq_true, decide_eq_true_eq, decide_eq_true_eq] at o3
        obtain ⟨e1, e2⟩ := o3
        subst e1 e2
        obtain ⟨t, ht⟩ := He.int_ok X G (fact_mem c hf)
        exact ⟨.int _, _, ht, ⟨t, rfl⟩, fun m H => Rep.of_int⟩
      · cases o3
    · rename_i i q
      cases q
      obtain ⟨f, hf, o3⟩ := List.any_eq_true.mp o
      split at o3
      · rw [Bool.and_eq_true, decide_eq_true_eq, decide_eq_true_eq] at o3
        obtain ⟨e1, e2⟩ := o3
        subst e1 e2
        obtain ⟨t, ht⟩ := He.str_ok X G (fact_mem c hf)
        exact ⟨.str _, _, ht, ⟨t, rfl⟩, fun m H => Rep.of_str⟩
      · cases o3
    · cases o
  blt := fun x hx e => by
    have o := List.all_eq_true.mp ob x hx
    rw [e] at o
    simp only [Option.isSome_none, Bool.false_or] at o
    obtain ⟨f, hf, o3⟩ := List.any_eq_true.mp o
    split at o3
    · have ey := of_decide_eq_true o3
      subst ey
      exact He.free_ok X G (fact_mem c hf)
    · cases o3

/-- the law's promise, from what the evaluator answers -/
theorem law_sp {S : Sx} {g : Nat} {ns : List Int} {H : Hp} {a : Addr} {E : XK} (hR : S.R g = []) (hf : S.Φ g [.lst (ns.map .int)] = some (.bl true, [])) (hs : SqL S.G.K H a (ns.map V.int)) : spOf S g [.ref a] H (fun v _ => v = .bl true) E := by
  have ar : Args S.G (fun _ => False) H (fun _ => none) (S.R g) [.lst (ns.map .int)] [.ref a] := by
    refine ⟨rfl, fun _ z => z.elim, ?_, ?_, ?_, ?_, ?_⟩
    · intro j d _ hj
      rw [hR] at hj
      cases hj
    · intro j d e _
      cases j with
      | zero =>
        simp at e
        subst e
        refine ⟨.ref a, rfl, ?_⟩
        simp only [Rep]
        refine ⟨a, ns.map V.int, rfl, ?_, Reps.of_ints ns⟩
        rcases hs with hs | hs
        · exact .inl ⟨hs, fun z => z⟩
        · exact .inr hs
      | succ j => simp at e
    · intro i j a e; cases e
    · intro i a e; cases e
    · intro i a e; cases e
  refine ⟨fun _ => False, fun _ => none, [.lst (ns.map .int)], .bl true, [], hf, ar, fun v H' m2 bk => ?_⟩
  · rcases bk.res with ⟨_, _, _, _, z⟩ | ⟨z, _⟩
    · exact z.elim
    · simpa only [Rep] using z
end
end Qx
set_option Elab.async false
set_option linter.all false
set_option maxRecDepth 100000
set_option maxHeartbeats 4000000
/-! QTop: from the evaluator's answer to the law's walk. -/
namespace Qx
open PySem PySem.Spec PyProof.Rows L2
section
variable {hs : List Hint} {gl : List (Str × GV)} {b : List Stmt} {ds : List Df} {G : Gd} {P : Program} {w : World} {K : PySem.W.Frag} {mg : Str → Option Value} {base : Heap} {n g : Nat} {f : Addr} {h : Hint}
theorem PlainP.bind1 {fd : FuncData} {ps : List Str} {x : Str} (p : PlainP fd ps) (e : ps = [x]) (s : Shared) (u : Value) : BindsTo s fd ⟨[u], []⟩ [(x, u)] := by
  subst e
  have e := p.bind (kwPos_all [x]) List.nodup_nil (by simp) (by simp) (us := [u]) rfl (ws := []) rfl
  rw [List.append_nil, show [x].length = [u].length from rfl, pick_all] at e
  exact .of_eq e
theorem fn_one (W : Wd hs gl b ds G P w K mg base) (n : Nat) (h0 : Hint) (hg : hs[g]? = some h) {x qual : Str} {fd : FuncData} (F : FunD K x qual (defArgs (topOf b h.at_)) (defBody (topOf b h.at_)) (defScope (topOf b h.at_)) [] [] f fd) (fs : FnScope h.N (h.N.take h.np) (defScope (topOf b h.at_))) (hn : h.np ≤ h.N.length) : FnOk P w K mg base CX0 (n + 1) f fd (h.N.take h.np) (spOf (sxOf hs gl ds G (n + 1) h0) g) := by
  obtain ⟨d, hd, d1, d2, d3, hc⟩ := df_some W.prog hg
  have lenN : (h.N.take h.np).length = h.np := by rw [List.length_take]; omega
  refine F.ok fs (fun vs H Q E z => ?_) (fun cdv A outer s H vs Q E r z => ?_)
  · obtain ⟨m, B, args, r, outs, z, ar, _⟩ := z
    have z : callD ds (n + 1) g args = some (r, outs) := z
    simp only [callD, hd, runD] at z
    rw [← ar.len, (oi z).1, d1, lenN]
  · have ct := ct_fun (h := h) (qual := qual) (fa := f) (cdv := cdv) (A := A) (outer := outer) (s := s) (H := H) (E := E) W (fun g f e => fn_all W n h g f e) fs r
    have ps := (all_st (sxOf hs gl ds G n h) n h.np 200).ss _ _ ct _ _ hc
    exact ⟨_, PSs.nox ps, body_ok (E := E) W hg hn hd d1 d2 d3 ps z⟩
end
theorem top_facts {hs : List Hint} {gl : List (Str × GV)} {b : List Stmt} {ds : List Df} {fa : List He.Fa} {P : Program} {w : World} {K : PySem.W.Frag} {h : Heap} {mg : Str → Option Value} {f : Addr} {n g : Nat} {hh : Hint}
    (X : K.In h) (G : h.Ns mainGlobals mg) (hfa : mg ("law" : Str) = some (.ref f)) (c : He.SaysD fa (hs.map (ddOf b)) K) (pr : cProg hs gl b = some ds) (ok : hs.all (hintOk b) = true) (og : gl.all (globOk hs b fa) = true) (ob : bltOk gl fa = true)
    (hg : hs[g]? = some hh) (hnm : defName (topOf b hh.at_) = "law") (hps : hh.N.take hh.np = [("script" : Str)]) (hin : He.Fa.glo (defName (topOf b hh.at_)) ∈ fa) (hr : rfsOf ds g = [])
    (hpl : ∀ ns : List Int, ns.length ≤ 63 → callD ds (n + 1) g [.lst (ns.map .int)] = some (.bl true, [])) :
    ∃ (K : PySem.W.Frag) (fd : FuncData) (sp : L2.Sp), K.In h ∧ (∀ (s : Shared) (u : Value), BindsTo s fd ⟨[u], []⟩ [("script", u)]) ∧
        (∀ (H : L2.Hp) (a : Addr) (ns : List Int), ns.length ≤ 63 → L2.Only H → L2.SqL K H a (ns.map L2.V.int) → sp [.ref a] H (fun v _ => v = .bl true) fun _ _ _ => False) ∧
        ∀ base : Heap, K.In base → base.Ns mainGlobals mg → L2.FnOk P w K mg base L2.CX0 (n + 1) f fd ["script"] sp := by
  have e1 : He.fAd K (ddOf b hh).at_ = He.ga K "law" := by
    show He.ga K (defName (topOf b hh.at_)) = _
    rw [hnm]
  have e2 : f = He.ga K "law" := by
    have := hfa.symm.trans (He.glo_ok X G (fact_mem c (f := .glo "law") (by rw [← hnm]; exact hin)))
    cases this; rfl
  have e3 : f = He.fAd K (ddOf b hh).at_ := e2.trans e1.symm
  subst e3
  have wd : ∀ base : Heap, Wd hs gl b ds (gdOf hs b K) P w K mg base := fun base => wd_of X G c pr ok og ob
  have o := List.all_eq_true.mp ok hh (List.mem_of_getElem? hg)
  unfold hintOk at o
  simp only [Bool.and_eq_true, decide_eq_true_eq] at o
  obtain ⟨⟨o1, o2⟩, o3⟩ := o
  obtain ⟨fd, F⟩ := c.def_ g (d := ddOf b hh) (by rw [List.getElem?_map, hg]; rfl)
  have fs := scopeOk_fs o2
  have p : PlainP fd (hh.N.take hh.np) := plain_of F o3 (nodup_take fs.nd _)
  refine ⟨K, fd, spOf (sxOf hs gl ds (gdOf hs b K) (n + 1) hh) g, X, p.bind1 hps, fun H a ns hl _ hs' => law_sp hr (hpl ns hl) hs', fun base _ _ => ?_⟩
  have := fn_one (wd base) n hh hg F fs o1
  rw [hps] at this
  exact this
theorem room_of {n : Nat} (h : n ≤ 200) : L2.Room n callerA :=
  ⟨rfl, by have h1 : callerA.depth + 3 * 200 + 5 < recursionLimit := by decide
           omega, by have h1 : callerA.units + 16 * 200 + 200 < cLine := by decide
                     omega⟩
end Qx
set_option Elab.async false
set_option linter.all false
/-! QPl: rules of the evaluator, to be applied. -/
namespace Qx
open PySem
section
variable {Φ : Orc} {R : Rfs} {env e1 e2 e3 : En} {d dx dy dz : D}
/-! calls -/
theorem call_ret {ds : List Df} {n f : Nat} {args os : List D} {d : Df} {r : D} (hd : ds[f]? = some d) (ha : args.length = d.np) (h : evSs (callD ds n) (rfsOf ds) d.np d.body (startE d args) = some (.ret r, e1)) (ho : outsE e1 d.refs = some os) : callD ds (n + 1) f args = some (r, os) := by
  simp only [callD, hd, runD, if_pos ha, h, ho, Option.map_some]
theorem call_nx {ds : List Df} {n f : Nat} {args os : List D} {d : Df} (hd : ds[f]? = some d) (ha : args.length = d.np) (h : evSs (callD ds n) (rfsOf ds) d.np d.body (startE d args) = some (.nx, e1)) (ho : outsE e1 d.refs = some os) : callD ds (n + 1) f args = some (.non, os) := by
  simp only [callD, hd, runD, if_pos ha, h, ho, Option.map_some]
theorem callE_plain {f : Nat} {as : List A} {ds : List D} {r : D} (hr : R f = []) (ha : resAs env as = some ds) (h : Φ f ds = some (r, [])) (hl : lent as [] = false ∨ noL r = true) : callE Φ R f as env = some (r, env) := by
  unfold callE
  rw [ha, hr]
  simp only [refSlots, nodupB, List.contains_nil, Bool.not_false, h, List.length_nil, true_and, Bool.true_and]
  rw [if_pos (by simp), if_pos (by rcases hl with z | z
                                   · exact .inl z
                                   · exact .inr ⟨z, rfl⟩)]
  rfl
/-! expressions -/
theorem v_var {i : Nat} (h : getV env i = some d) : evE Φ R (.var i) env = some (d, env) := by
  simp only [evE, h]
theorem v_cst : evE Φ R (.cst d) env = some (d, env) := by
  simp only [evE]
theorem op_v {e : E} (h : evE Φ R e env = some (d, e1)) : opE e (evE Φ R e) env = some (.v d, e1) := by
  unfold opE
  split
  · simp only [evE] at h
    cases h
  · rw [h]
theorem op_o {i : Nat} {f : En → Option (D × En)} (h : isO env i = true) : opE (.own i) f env = some (.o i, env) := by
  simp only [opE, h, if_true]
theorem v_binA {op : Bop} {a b : E} {x y : A} (h1 : opE a (evE Φ R a) env = some (x, e1)) (h2 : opE b (evE Φ R b) e1 = some (y, e2)) (h3 : resA e2 x = some dx) (h4 : resA e2 y = some dy) (h : binD op dx dy = some d) : evE Φ R (.bin op a b) env = some (d, e2) := by
  simp only [evE, h1, h2, h3, h4, h]
theorem v_bin {op : Bop} {a b : E} (h1 : evE Φ R a env = some (dx, e1)) (h2 : evE Φ R b e1 = some (dy, e2)) (h : binD op dx dy = some d) : evE Φ R (.bin op a b) env = some (d, e2) :=
  v_binA (op_v h1) (op_v h2) rfl rfl h
theorem v_neg {a : E} {i : Int} (h : evE Φ R a env = some (.int i, e1)) : evE Φ R (.neg a) env = some (.int (-i), e1) := by
  simp only [evE, h]
theorem v_nt {a : E} {p : Bool} (h : evE Φ R a env = some (.bl p, e1)) : evE Φ R (.nt a) env = some (.bl (!p), e1) := by
  simp only [evE, h, asB]
theorem v_an {a b : E} {p q : Bool} (h1 : evE Φ R a env = some (.bl p, e1)) (h2 : p = true → evE Φ R b e1 = some (.bl q, e1)) : evE Φ R (.an a b) env = some (.bl (p && q), e1) := by
  cases p <;> simp only [evE, h1, asB]
  · rfl
  · rw [h2 rfl]; rfl
theorem v_or {a b : E} {p q : Bool} (h1 : evE Φ R a env = some (.bl p, e1)) (h2 : p = false → evE Φ R b e1 = some (.bl q, e1)) : evE Φ R (.or a b) env = some (.bl (p || q), e1) := by
  cases p <;> simp only [evE, h1, asB]
  · rw [h2 rfl]; rfl
  · rfl
theorem v_ite {c a b : E} {p : Bool} {r : Option (D × En)} (h1 : evE Φ R c env = some (.bl p, e1)) (h2 : p = true → evE Φ R a e1 = r) (h3 : p = false → evE Φ R b e1 = r) : evE Φ R (.ite c a b) env = r := by
  cases p <;> simp only [evE, h1, asB]
  · exact h3 rfl
  · exact h2 rfl
theorem v_cmpA {op : Cop} {a b : E} {x y : A} {k : Bool} (h1 : opE a (evE Φ R a) env = some (x, e1)) (h2 : opE b (evE Φ R b) e1 = some (y, e2)) (h3 : resA e2 x = some dx) (h4 : resA e2 y = some dy) (h : cmpD op dx dy = some k) : evE Φ R (.cmp op a b) env = some (.bl k, e2) := by
  simp only [evE, h1, h2, h3, h4, h]
theorem v_cmp {op : Cop} {a b : E} {k : Bool} (h1 : evE Φ R a env = some (dx, e1)) (h2 : evE Φ R b e1 = some (dy, e2)) (h : cmpD op dx dy = some k) : evE Φ R (.cmp op a b) env = some (.bl k, e2) :=
  v_cmpA (op_v h1) (op_v h2) rfl rfl h
theorem v_chn {op op' : Cop} {a b c : E} {k l : Bool} (h1 : evE Φ R a env = some (dx, env)) (h2 : evE Φ R b env = some (dy, env)) (h : cmpD op dx dy = some k) (h3 : k = true → evE Φ R c env = some (dz, env)) (h4 : k = true → cmpD op' dy dz = some l) : evE Φ R (.chn op op' a b c) env = some (.bl (k && l), env) := by
  cases k <;> simp only [evE, h1, h2, h]
  · rfl
  · simp only [h3 rfl, h4 rfl]; rfl
theorem vs_nil : evEs Φ R [] env = some ([], env) := by simp only [evEs]
theorem vs_cons {e : E} {es : List E} {ds : List D} (h1 : evE Φ R e env = some (d, e1)) (h2 : evEs Φ R es e1 = some (ds, e2)) : evEs Φ R (e :: es) env = some (d :: ds, e2) := by
  simp only [evEs, h1, h2]
theorem as_nil : evAs Φ R [] env = some ([], env) := by simp only [evAs]
theorem as_v {e : E} {es : List E} {as : List A} (h1 : evE Φ R e env = some (d, e1)) (h2 : evAs Φ R es e1 = some (as, e2)) : evAs Φ R (e :: es) env = some (.v d :: as, e2) := by
  simp only [evAs, op_v h1, h2]
theorem as_o {i : Nat} {es : List E} {as : List A} (h1 : isO env i = true) (h2 : evAs Φ R es env = some (as, e2)) : evAs Φ R (.own i :: es) env = some (.o i :: as, e2) := by
  simp only [evAs, op_o h1, h2]
theorem v_tup {es : List E} {ds : List D} (h1 : evEs Φ R es env = some (ds, e1)) (h2 : ds.length ≤ SZ) : evE Φ R (.tup es) env = some (.tup ds, e1) := by
  simp only [evE, h1, if_pos h2]
theorem v_lst {es : List E} {ds : List D} (h1 : evEs Φ R es env = some (ds, e1)) (h2 : ds.length ≤ SZ) : evE Φ R (.lst es) env = some (.lst ds, e1) := by
  simp only [evE, h1, if_pos h2]
theorem v_dct0 : evE Φ R (.dct false []) env = some (.dct false [] [], env) := by
  simp only [evE, vs_nil]
  rfl
/-- a call that changes nothing -/
theorem v_call {f : Nat} {es : List E} {as : List A} {ds : List D} {r : D} (h1 : evAs Φ R es env = some (as, e1)) (hr : R f = []) (ha : resAs e1 as = some ds) (h : Φ f ds = some (r, [])) (hl : lent as [] = false ∨ noL r = true) : evE Φ R (.call f es []) env = some (r, e1) := by
  simp only [evE, h1, permA]
  exact callE_plain hr ha h hl
theorem v_isi {a : E} {x : A} {ts : List Ty} {k : D} (h1 : opE a (evE Φ R a) env = some (x, e1)) (h2 : resA e1 x = some d) (h : isaD d ts = some k) : evE Φ R (.isi a ts) env = some (k, e1) := by
  simp only [evE, h1, h2, h]
theorem v_bi {b : Bi} {es : List E} {as : List A} {ds : List D} (h1 : evAs Φ R es env = some (as, e1)) (h2 : resAs e1 as = some ds) (h : biD b ds = some d) : evE Φ R (.bi b es) env = some (d, e1) := by
  simp only [evE, h1, h2, h]
theorem v_bi1 {b : Bi} {e : E} (h1 : evE Φ R e env = some (dx, e1)) (h : biD b [dx] = some d) : evE Φ R (.bi b [e]) env = some (d, e1) :=
  v_bi (as_v h1 as_nil) rfl h
theorem v_sub {a i : E} (h1 : evE Φ R a env = some (dx, e1)) (h2 : evE Φ R i e1 = some (dy, e2)) (h : subD dx dy = some d) : evE Φ R (.sub a i) env = some (d, e2) := by
  simp only [evE, op_v h1, h2, resA, h]
theorem v_subA {a i : E} {x : A} (h1 : opE a (evE Φ R a) env = some (x, e1)) (h2 : evE Φ R i e1 = some (dy, e2)) (h3 : resA e2 x = some dx) (h : subD dx dy = some d) : evE Φ R (.sub a i) env = some (d, e2) := by
  simp only [evE, h1, h2, h3, h]
theorem v_slc {a lo hi : E} {dl dh : D} (h1 : evE Φ R a env = some (dx, e1)) (h2 : evE Φ R lo e1 = some (dl, e2)) (h3 : evE Φ R hi e2 = some (dh, e3)) (h : slcD dx dl dh = some d) : evE Φ R (.slc a lo hi) env = some (d, e3) := by
  simp only [evE, op_v h1, h2, h3, resA, h]
theorem v_rev {a lo : E} {dl : D} (h1 : evE Φ R a env = some (dx, e1)) (h2 : evE Φ R lo e1 = some (dl, e2)) (h : revD dx dl = some d) : evE Φ R (.rev a lo) env = some (d, e2) := by
  simp only [evE, op_v h1, h2, resA, h]
theorem v_mm {m : Mm} {i : Nat} {es : List E} {ds l : List D} {o r d' : D} (h0 : getO env i = some (.lst l)) (h1 : evEs Φ R es env = some (ds, e1)) (h2 : getO e1 i = some o) (h : mmD m o ds = some (r, d')) : evE Φ R (.mm m i es) env = some (r, e1.set i (.own d')) := by
  simp only [evE, h0, h1, h2, h]
theorem v_mp {m : Mp} {o : E} {es : List E} {ds : List D} {x : A} {r : D} (h0 : opE o (evE Φ R o) env = some (x, e1)) (hd : isDctA e1 x = true) (h1 : evEs Φ R es e1 = some (ds, e2)) (h2 : resA e2 x = some dx) (h : mpD m dx ds = some r) : evE Φ R (.mp m o es) env = some (r, e2) := by
  simp only [evE, h0, hd, if_true, h1, h2, h]
/-! what is walked -/
theorem it_seq {e : E} {xs : List D} (h : evE Φ R e env = some (d, e1)) (hs : seqD d = some xs) : evIt Φ R (.seq e) env = some (xs, (.v d, d), e1) := by
  simp only [evIt, op_v h, itOf, resA, hs]
theorem it_seqO {i : Nat} {xs : List D} (h : getO env i = some d) (hs : seqD d = some xs) : evIt Φ R (.seq (.own i)) env = some (xs, (.o i, d), env) := by
  have : isO env i = true := by
    unfold getO at h
    unfold isO
    split at h
    · rename_i e; simp only [e]
    · cases h
  simp only [evIt, op_o this, itOf, resA, h, hs]
theorem it_rngP {es : List E} {ds xs : List D} (h : evEs Φ R es env = some (ds, e1)) (hs : rngD ds = some xs) : evIt Φ R (.rng es) env = some (xs, (.v .non, .non), e1) := by
  simp only [evIt, h, hs]
theorem it_enu {e : E} {xs : List D} (h : evE Φ R e env = some (d, e1)) (hs : seqD d = some xs) : evIt Φ R (.enu e) env = some (enuD xs, (.v d, d), e1) := by
  simp only [evIt, op_v h, itOf, resA, hs, Option.map_some]
theorem it_itms {e : E} {xs : List D} (h : evE Φ R e env = some (d, e1)) (hs : dirD d = some xs) : evIt Φ R (.itms e) env = some (xs, (.v d, d), e1) := by
  simp only [evIt, op_v h, itOf, resA, hs]
theorem gd_v {x : D} : gd (.v x) d env = true := rfl
/-! comprehensions -/
theorem wipe_len : ∀ (vs : List Nat) (e : En), (wipeE e vs).length = e.length
  | [], e => rfl
  | v :: vs, e => by simp [wipeE, wipe_len vs e]
theorem wipe_get : ∀ (vs : List Nat) (e : En) (i : Nat), i < e.length → (wipeE e vs)[i]? = if i ∈ vs then some .no else e[i]?
  | [], e, i, h => by simp [wipeE]
  | v :: vs, e, i, h => by
    simp only [wipeE, List.getElem?_set, wipe_len]
    by_cases c : v = i
    · subst c; simp [h]
    · have : ¬ i = v := fun z => c z.symm
      simp [c, this, wipe_get vs e i h]
theorem back_len : ∀ (vs : List Nat) (a b : En), (backE a b vs).length = b.length
  | [], a, b => rfl
  | v :: vs, a, b => by simp [backE, back_len vs a b]
theorem back_get : ∀ (vs : List Nat) (a b : En) (i : Nat), i < b.length → (backE a b vs)[i]? = if i ∈ vs then some (a.getD i .no) else b[i]?
  | [], a, b, i, h => by simp [backE]
  | v :: vs, a, b, i, h => by
    simp only [backE, List.getElem?_set, back_len]
    by_cases c : v = i
    · subst c; simp [h]
    · have : ¬ i = v := fun z => c z.symm
      simp [c, this, back_get vs a b i h]
/-- behind a comprehension all stands as ahead of it, where only its own names differ -/
theorem back_id {vs : List Nat} {a b : En} (h : wipeE b vs = wipeE a vs) : backE a b vs = a := by
  have hl : b.length = a.length := by rw [← wipe_len vs b, h, wipe_len]
  apply List.ext_getElem?
  intro i
  by_cases c : i < a.length
  · rw [back_get _ _ _ _ (by omega)]
    by_cases d : i ∈ vs
    · simp [d, List.getElem?_eq_getElem c]
    · have h1 := wipe_get vs a i c
      have h2 := wipe_get vs b i (by omega)
      rw [h] at h2
      simp only [d, if_false] at h1 h2 ⊢
      rw [← h2, h1]
  · rw [List.getElem?_eq_none (by rw [back_len]; omega), List.getElem?_eq_none (by omega)]
theorem compL_map {α : Type} {t : TN} {vs : List Nat} {g : En → Bool} {c elt : En → Option (D × En)} {F : α → D} {p : α → Bool} {f : α → D} {e0 : En} (hg : g e0 = true) : ∀ (ys : List α) (env : En), wipeE env vs = e0 →
    (∀ y ∈ ys, ∃ e1, putT t (F y) e0 = some e1 ∧ c e1 = some (.bl (p y), e1) ∧ (p y = true → elt e1 = some (f y, e1)) ∧ wipeE e1 vs = e0) →
    ∃ e2, compL t vs g c elt (ys.map F) env = some ((ys.filter p).map f, e2) ∧ wipeE e2 vs = e0
  | [], env, hw, _ => ⟨env, by simp only [List.map_nil, compL, hw, hg, if_true, List.filter_nil], hw⟩
  | y :: ys, env, hw, h => by
    obtain ⟨e1, h1, h2, h3, h4⟩ := h y (by simp)
    obtain ⟨e2, h5, h6⟩ := compL_map hg ys e1 h4 fun z hz => h z (List.mem_cons_of_mem _ hz)
    refine ⟨e2, ?_, h6⟩
    simp only [List.map_cons, compL, hw, hg, if_true, h1, h2, asB]
    cases q : p y with
    | false =>
      simp only [h5]
      rw [List.filter_cons_of_neg (by simp [q])]
    | true =>
      simp only [h3 q, h5]
      rw [List.filter_cons_of_pos q]
      rfl
theorem v_comp {α : Type} {elt c : E} {vs : List Nat} {t : TN} {it : It} {xs : List D} {g : A × D} (ys : List α) (F : α → D) (p : α → Bool) (f : α → D) (hi : evIt Φ R it env = some (xs, g, e1)) (hx : xs = ys.map F) (hn : noO e1 vs = true) (hg : gd g.1 g.2 (wipeE e1 vs) = true)
    (h : ∀ y ∈ ys, ∃ e2, putT t (F y) (wipeE e1 vs) = some e2 ∧ evE Φ R c e2 = some (.bl (p y), e2) ∧ (p y = true → evE Φ R elt e2 = some (f y, e2)) ∧ wipeE e2 vs = wipeE e1 vs) (hl : ys.length ≤ SZ) : evE Φ R (.comp elt vs t it c) env = some (.lst ((ys.filter p).map f), e1) := by
  subst hx
  obtain ⟨e2, h1, h2⟩ := compL_map hg ys e1 rfl h
  simp only [evE, hi, hn, if_true, h1]
  rw [if_pos (by rw [List.length_map]; exact Nat.le_trans (List.length_filter_le _ _) hl), back_id h2]
/-- without a condition -/
theorem v_compT {α : Type} {elt : E} {vs : List Nat} {t : TN} {it : It} {xs : List D} {g : A × D} (ys : List α) (F : α → D) (f : α → D) (hi : evIt Φ R it env = some (xs, g, e1)) (hx : xs = ys.map F) (hn : noO e1 vs = true) (hg : gd g.1 g.2 (wipeE e1 vs) = true)
    (h : ∀ y ∈ ys, ∃ e2, putT t (F y) (wipeE e1 vs) = some e2 ∧ evE Φ R elt e2 = some (f y, e2) ∧ wipeE e2 vs = wipeE e1 vs) (hl : ys.length ≤ SZ) : evE Φ R (.comp elt vs t it (.cst (.bl true))) env = some (.lst (ys.map f), e1) := by
  have := v_comp (Φ := Φ) (R := R) (c := .cst (.bl true)) ys F (fun _ => true) f hi hx hn hg (fun y hy => by
    obtain ⟨e2, h1, h2, h3⟩ := h y hy
    exact ⟨e2, h1, v_cst, fun _ => h2, h3⟩) hl
  rw [List.filter_eq_self.mpr (fun _ _ => rfl)] at this
  exact this
/-! statements -/
variable {np : Nat}
theorem ss_nil : evSs Φ R np [] env = some (.nx, env) := by simp only [evSs]
theorem ss_cons {s : S} {ss : List S} {r : Option (Fl × En)} (h1 : evS Φ R np s env = some (.nx, e1)) (h2 : evSs Φ R np ss e1 = r) : evSs Φ R np (s :: ss) env = r := by
  simp only [evSs, h1, h2]
theorem ss_ret {s : S} {ss : List S} (h1 : evS Φ R np s env = some (.ret d, e1)) : evSs Φ R np (s :: ss) env = some (.ret d, e1) := by
  simp only [evSs, h1]
theorem s_exp {e : E} (h : evE Φ R e env = some (d, e1)) : evS Φ R np (.exp e) env = some (.nx, e1) := by
  simp only [evS, h]
theorem s_asg {t : TN} {e : E} (h : evE Φ R e env = some (d, e1)) (hp : putT t d e1 = some e2) : evS Φ R np (.asg (.tn t) e) env = some (.nx, e2) := by
  simp only [evS, h, putS, hp, Option.map_some]
theorem s_new {i : Nat} {e : E} (h : evE Φ R e env = some (d, e1)) (hc : isC d = true) (hn : np ≤ i) (hi : i < e1.length) : evS Φ R np (.new i e) env = some (.nx, e1.set i (.own d)) := by
  simp only [evS, h, hc, hn, hi, decide_true, Bool.and_self, if_true]
theorem s_ret {e : E} (h : evR Φ R np e env = some (d, e1)) : evS Φ R np (.ret e) env = some (.ret d, e1) := by
  simp only [evS, h]
/-- where nothing of its own is handed back -/
theorem r_e {e : E} (h : evE Φ R e env = some (d, e1)) (h1 : ∀ i, e ≠ .own i) (h2 : ∀ es, e ≠ .tup es) : evR Φ R np e env = some (d, e1) := by
  unfold evR
  split
  · exact (h1 _ rfl).elim
  · exact (h2 _ rfl).elim
  · exact h
theorem r_own {i : Nat} (hn : np ≤ i) (h : getO env i = some d) : evR Φ R np (.own i) env = some (d, env) := by
  simp only [evR, if_pos hn, h, Option.map_some]
theorem s_iteT {c : E} {a b : List S} {r : Option (Fl × En)} (h : evE Φ R c env = some (.bl true, e1)) (h1 : evSs Φ R np a e1 = r) : evS Φ R np (.ite c a b) env = r := by
  simp only [evS, h, asB, h1]
theorem s_iteF {c : E} {a b : List S} {r : Option (Fl × En)} (h : evE Φ R c env = some (.bl false, e1)) (h1 : evSs Φ R np b e1 = r) : evS Φ R np (.ite c a b) env = r := by
  simp only [evS, h, asB, h1]
theorem s_for {t : TN} {it : It} {b : List S} {xs : List D} {g : A × D} {r : Option (Fl × En)} (h : evIt Φ R it env = some (xs, g, e1)) (h1 : forL t (gd g.1 g.2) (evSs Φ R np b) xs e1 = r) : evS Φ R np (.for_ t it b) env = r := by
  simp only [evS, h, h1]
/-- a loop that goes through: an invariant over what was walked -/
theorem for_all {α : Type} {t : TN} {g : En → Bool} {body : En → Option (Fl × En)} {F : α → D} (I : List α → En → Prop) : ∀ (ys zs : List α) (env : En), I zs env → (∀ zs e, I zs e → g e = true) →
    (∀ zs y e, y ∈ ys → I zs e → ∃ e1 e2, putT t (F y) e = some e1 ∧ (body e1 = some (.nx, e2) ∨ body e1 = some (.ct, e2)) ∧ I (zs ++ [y]) e2) →
    ∃ e2, forL t g body (ys.map F) env = some (.nx, e2) ∧ I (zs ++ ys) e2
  | [], zs, env, hi, hg, h => ⟨env, by simp only [List.map_nil, forL, hg _ _ hi, if_true], by simpa using hi⟩
  | y :: ys, zs, env, hi, hg, h => by
    obtain ⟨e1, e2, h1, h2, h3⟩ := h zs y env (by simp) hi
    obtain ⟨e3, h4, h5⟩ := for_all I ys (zs ++ [y]) e2 h3 hg fun zs' z e hz => h zs' z e (List.mem_cons_of_mem _ hz)
    refine ⟨e3, ?_, by simpa using h5⟩
    simp only [List.map_cons, forL, hg _ _ hi, if_true, h1]
    rcases h2 with h2 | h2 <;> simp only [h2, h4]
end
end Qx
set_option Elab.async false
set_option linter.all false
set_option maxRecDepth 100000
/-! QPl2: what the built-ins give on data of known form; calls and comprehensions that change something. -/
namespace Qx
open PySem
/-- no def, no dict with tuple keys -/
def okd : D → Bool
  | .fn _ => false
  | .xtp _ => false
  | .dct true _ _ => false
  | _ => true
def isInt : D → Bool
  | .int _ => true
  | .bl _ => true
  | _ => false
def isBl' : D → Bool
  | .bl _ => true
  | _ => false
def isTupP : D → Bool
  | .tup _ => true
  | _ => false
def isWh : D → Bool
  | .int _ => true
  | _ => false
theorem isa_int {d : D} (h : okd d = true) : isaD d [.int] = some (.bl (isInt d)) := by
  cases d with
  | dct t ks vs => cases t <;> first | rfl | cases h
  | fn f => cases h
  | xtp f => cases h
  | _ => rfl
theorem isa_bool {d : D} (h : okd d = true) : isaD d [.bool] = some (.bl (isBl' d)) := by
  cases d with
  | dct t ks vs => cases t <;> first | rfl | cases h
  | fn f => cases h
  | xtp f => cases h
  | _ => rfl
theorem isa_tup {d : D} (h : okd d = true) : isaD d [.tuple] = some (.bl (isTupP d)) := by
  cases d with
  | dct t ks vs => cases t <;> first | rfl | cases h
  | fn f => cases h
  | xtp f => cases h
  | _ => rfl
theorem isWh_eq (d : D) : (isInt d && !isBl' d) = isWh d := by cases d <;> rfl
theorem bls_map {α : Type} (f : α → Bool) : ∀ l : List α, blsD (l.map fun x => .bl (f x)) = some (l.map f)
  | [] => rfl
  | a :: l => by simp only [List.map_cons, blsD, bls_map f l, Option.map_some]
theorem all_map {α : Type} (f : α → Bool) (l : List α) : biD .all [.lst (l.map fun x => .bl (f x))] = some (.bl (l.all f)) := by
  simp only [biD, d1, overB, bls_map, List.all_map]
  rfl
theorem any_map {α : Type} (f : α → Bool) (l : List α) : biD .any [.lst (l.map fun x => .bl (f x))] = some (.bl (l.any f)) := by
  simp only [biD, d1, overB, bls_map, List.any_map]
  rfl
theorem ints_map {α : Type} (f : α → Int) : ∀ l : List α, intsD (l.map fun x => .int (f x)) = some (l.map f)
  | [] => rfl
  | a :: l => by simp only [List.map_cons, intsD, ints_map f l, Option.map_some]
theorem ints_int : ∀ l : List Int, intsD (l.map .int) = some l
  | [] => rfl
  | a :: l => by simp only [List.map_cons, intsD, ints_int l, Option.map_some]
theorem sub_tupN {ds : List D} {k : Nat} {d : D} (h : ds[k]? = some d) : subD (.tup ds) (.int (k : Int)) = some d := by
  have := (List.getElem?_eq_some_iff.mp h).1
  simp only [subD, ixD]
  rw [if_pos (by omega), if_pos (by omega)]
  simpa using h
theorem sub_lstN {ds : List D} {k : Nat} {d : D} (h : ds[k]? = some d) : subD (.lst ds) (.int (k : Int)) = some d := by
  have := (List.getElem?_eq_some_iff.mp h).1
  simp only [subD, ixD]
  rw [if_pos (by omega), if_pos (by omega)]
  simpa using h
theorem sub_lst_last {ds : List D} {d : D} (h : ds.getLast? = some d) : subD (.lst ds) (.int (-1)) = some d := by
  have hl : 0 < ds.length := by
    cases ds with
    | nil => simp at h
    | cons a l => simp
  simp only [subD, ixD]
  rw [if_neg (by omega), if_pos (by omega)]
  rw [List.getLast?_eq_getElem?] at h
  have : (-1 + (ds.length : Int)).toNat = ds.length - 1 := by omega
  simp only [Option.bind_some, this, h]
theorem sub_tup_last {ds : List D} {d : D} (h : ds.getLast? = some d) : subD (.tup ds) (.int (-1)) = some d := by
  have hl : 0 < ds.length := by
    cases ds with
    | nil => simp at h
    | cons a l => simp
  simp only [subD, ixD]
  rw [if_neg (by omega), if_pos (by omega)]
  rw [List.getLast?_eq_getElem?] at h
  have : (-1 + (ds.length : Int)).toNat = ds.length - 1 := by omega
  simp only [Option.bind_some, this, h]
theorem eqD_int (i j : Int) : eqD (.int i) (.int j) = decide (i = j) := by
  simp only [eqD]
  by_cases h : i = j <;> simp [h]
theorem eqQ_int (i j : Int) : eqQ (.int i) (.int j) = some (decide (i = j)) := by
  show some (eqD (.int i) (.int j)) = _
  rw [eqD_int]
theorem eqDs_int : ∀ l m : List Int, eqDs (l.map .int) (m.map .int) = decide (l = m)
  | [], [] => rfl
  | [], b :: m => by simp [eqDs]
  | a :: l, [] => by simp [eqDs]
  | a :: l, b :: m => by
    simp only [List.map_cons, eqDs, eqD_int, eqDs_int l m]
    by_cases h : a = b <;> by_cases h' : l = m <;> simp [h, h']
theorem dok_ints (k : Nat) (l : List Int) : (l.map D.int).all (dok k) = true := by
  rw [List.all_map, List.all_eq_true]
  intro x _
  cases k <;> rfl
theorem dok_lstP (k : Nat) (l : List Int) : dok (k + 1) (.lst (l.map .int)) = true := by
  simp only [dok]
  exact dok_ints k l
theorem dok_tupP (k : Nat) (l : List Int) : dok (k + 1) (.tup (l.map .int)) = true := by
  simp only [dok]
  exact dok_ints k l
theorem eqQ_lst (l m : List Int) : eqQ (.lst (l.map .int)) (.lst (m.map .int)) = some (decide (l = m)) := by
  unfold eqQ
  simp only [dok_lstP 39, Bool.and_self, if_true, eqD, eqDs_int]
theorem in_lst (i : Int) (l : List Int) : inD (.int i) (.lst (l.map .int)) = some (decide (i ∈ l)) := by
  simp only [inD, dok_ints, show dok 40 (D.int i) = true from rfl, Bool.and_self, if_true, List.any_map, Option.some.injEq]
  rw [Bool.eq_iff_iff]
  simp [eqD_int, List.any_eq_true]
theorem in_tup (i : Int) (l : List Int) : inD (.int i) (.tup (l.map .int)) = some (decide (i ∈ l)) := by
  simp only [inD, dok_ints, show dok 40 (D.int i) = true from rfl, Bool.and_self, if_true, List.any_map, Option.some.injEq]
  rw [Bool.eq_iff_iff]
  simp [eqD_int, List.any_eq_true]
theorem look_isSome : ∀ (ks : List Int) (vs : List D) (i : Int), ks.length ≤ vs.length → (lookD (.int i) (ks.map .int) vs).isSome = decide (i ∈ ks)
  | [], vs, i, h => by simp [lookD]
  | k :: ks, [], i, h => by simp at h
  | k :: ks, v :: vs, i, h => by
    simp only [List.map_cons, lookD, eqD_int]
    by_cases c : k = i
    · simp [c]
    · have : ¬ i = k := fun z => c z.symm
      simp only [c, decide_false, Bool.false_eq_true, if_false, look_isSome ks vs i (by simpa using h)]
      simp [this]
theorem in_dct (i : Int) (ks : List Int) (vs : List D) (h : ks.length ≤ vs.length) : inD (.int i) (.dct false (ks.map .int) vs) = some (decide (i ∈ ks)) := by
  simp only [inD, show keyOk false (D.int i) = true from rfl, if_true, look_isSome ks vs i h]
theorem len_tup (ds : List D) : biD .len [.tup ds] = some (.int (ds.length : Int)) := rfl
theorem len_lst (ds : List D) : biD .len [.lst ds] = some (.int (ds.length : Int)) := rfl
theorem rng1 (n : Nat) (h : n ≤ SZ) : rngD [.int (n : Int)] = some ((List.range n).map fun (i : Nat) => D.int i) := by
  have hs : (-(2 ^ 62) : Int) ≤ n ∧ (n : Int) ≤ SZ := ⟨by omega, by exact_mod_cast h⟩
  simp only [rngD]
  rw [if_pos hs]
  rfl
theorem lrange_nat (n : Nat) (h : n ≤ SZ) : biD .lrange [.int (n : Int)] = some (.lst ((List.range n).map fun (i : Nat) => D.int i)) := by
  have hs : (-(2 ^ 62) : Int) ≤ n ∧ (n : Int) ≤ SZ := ⟨by omega, by exact_mod_cast h⟩
  simp only [biD, d1, lrB]
  rw [if_pos hs]
  rfl
theorem trange_nat (n : Nat) (h : n ≤ SZ) : biD .trange [.int (n : Int)] = some (.tup ((List.range n).map fun (i : Nat) => D.int i)) := by
  have hs : (-(2 ^ 62) : Int) ≤ n ∧ (n : Int) ≤ SZ := ⟨by omega, by exact_mod_cast h⟩
  simp only [biD, d1, trB]
  rw [if_pos hs]
  rfl
theorem enu_eq (ds : List D) : enuD ds = (List.range ds.length).map fun (i : Nat) => D.xtp [.int i, ds.getD i .non] := rfl
theorem getD_mapI (l : List Int) (i : Nat) (h : i < l.length) : (l.map D.int).getD i .non = .int (l.getD i 0) := by
  rw [List.getD_eq_getElem?_getD, List.getD_eq_getElem?_getD, List.getElem?_map, List.getElem?_eq_getElem h]
  rfl
theorem get_mapI {l : List Int} {i : Nat} (h : i < l.length) : (l.map D.int)[i]? = some (.int (l.getD i 0)) := by
  rw [List.getElem?_map, List.getD_eq_getElem?_getD, List.getElem?_eq_getElem h]
  rfl
theorem get_mapN {l : List Nat} {i : Nat} (h : i < l.length) : (l.map fun (c : Nat) => D.int c)[i]? = some (.int (l.getD i 0 : Nat)) := by
  rw [List.getElem?_map, List.getD_eq_getElem?_getD, List.getElem?_eq_getElem h]
  rfl
theorem callL {ds : List Df} {n f : Nat} {args os : List D} {d : Df} {r : D} {e1 : En} (env0 : En) (hd : ds[f]? = some d) (ha : args.length = d.np) (hs : startE d args = env0) (h : evSs (callD ds n) (rfsOf ds) d.np d.body env0 = some (.ret r, e1)) (ho : outsE e1 d.refs = some os) : callD ds (n + 1) f args = some (r, os) := by
  subst hs
  exact call_ret hd ha h ho
theorem callLn {ds : List Df} {n f : Nat} {args os : List D} {d : Df} {e1 : En} (env0 : En) (hd : ds[f]? = some d) (ha : args.length = d.np) (hs : startE d args = env0) (h : evSs (callD ds n) (rfsOf ds) d.np d.body env0 = some (.nx, e1)) (ho : outsE e1 d.refs = some os) : callD ds (n + 1) f args = some (.non, os) := by
  subst hs
  exact call_nx hd ha h ho
/-! calls that change their first argument -/
section
variable {Φ : Orc} {R : Rfs} {env e1 e2 e3 : En} {d dx dy dz : D}
theorem v_eq {e : E} {d' : D} (h : evE Φ R e env = some (d, e1)) (q : d = d') : evE Φ R e env = some (d', e1) := q ▸ h
theorem v_callR {f i : Nat} {es : List E} {as : List A} {ds : List D} {r o o' : D} (h1 : evAs Φ R es env = some (.o i :: as, e1)) (hr : R f = [0]) (ha : resAs e1 as = some ds) (ho : getO e1 i = some o) (hl : lent (.o i :: as) [0] = false) (hs : readSlots (.o i :: as) [0] = []) (h : Φ f (o :: ds) = some (r, [o'])) : evE Φ R (.call f es []) env = some (r, e1.set i (.own o')) := by
  simp only [evE, h1, permA]
  unfold callE
  have : resAs e1 (.o i :: as) = some (o :: ds) := by
    simp only [resAs, resA, ho, Option.bind_some, ha, Option.map_some]
  rw [this, hr]
  simp only [refSlots, List.getElem?_cons_zero, Option.map_some, hs, List.all_nil, Bool.and_true]
  rw [if_pos (show nodupB [i] = true from rfl), h]
  simp only [List.length_singleton, hl, true_or, and_self, if_true, putOs]
theorem v_callP {f : Nat} {es : List E} {pm : List Nat} {as bs : List A} {ds : List D} {r : D} (h1 : evAs Φ R es env = some (as, e1)) (hp : permA pm as = some bs) (hr : R f = []) (ha : resAs e1 bs = some ds) (h : Φ f ds = some (r, [])) (hl : lent bs [] = false ∨ noL r = true) : evE Φ R (.call f es pm) env = some (r, e1) := by
  simp only [evE, h1, hp]
  exact callE_plain hr ha h hl
/-- a comprehension whose turns change other slots -/
theorem compL_st {α : Type} {t : TN} {vs : List Nat} {g : En → Bool} {elt : En → Option (D × En)} {F : α → D} (J : En → Prop) (Q : α → D → Prop) : ∀ (ys : List α) (env : En), J (wipeE env vs) → (∀ e, J e → g e = true) →
    (∀ y ∈ ys, ∀ e, J e → ∃ e1 d e2, putT t (F y) e = some e1 ∧ elt e1 = some (d, e2) ∧ Q y d ∧ J (wipeE e2 vs)) →
    ∃ (zs : List (α × D)) (e2 : En), compL t vs g (fun x => some (D.bl true, x)) elt (ys.map F) env = some (zs.map (·.2), e2) ∧ zs.map (·.1) = ys ∧ (∀ z ∈ zs, Q z.1 z.2) ∧ J (wipeE e2 vs)
  | [], env, hj, hg, _ => ⟨[], env, by simp only [List.map_nil, compL, hg _ hj, if_true], rfl, by simp, hj⟩
  | y :: ys, env, hj, hg, h => by
    obtain ⟨e1, d, e2, h1, h2, h3, h4⟩ := h y (by simp) _ hj
    obtain ⟨zs, e3, h5, h6, h7, h8⟩ := compL_st J Q ys e2 h4 hg fun z hz => h z (List.mem_cons_of_mem _ hz)
    refine ⟨(y, d) :: zs, e3, ?_, by simp [h6], ?_, h8⟩
    · simp only [List.map_cons, compL, hg _ hj, if_true, h1, asB, h2, h5]
    · intro z hz
      rcases List.mem_cons.mp hz with e | e
      · subst e; exact h3
      · exact h7 z e
theorem back_of {vs : List Nat} {a b c : En} (h : wipeE b vs = wipeE c vs) (hl : a.length = c.length) (hv : ∀ v ∈ vs, a.getD v .no = c.getD v .no) : backE a b vs = c := by
  have hlb : b.length = c.length := by rw [← wipe_len vs b, h, wipe_len]
  apply List.ext_getElem?
  intro i
  by_cases x : i < c.length
  · rw [back_get _ _ _ _ (by omega)]
    by_cases d : i ∈ vs
    · simp only [d, if_true, hv i d]
      rw [List.getD_eq_getElem?_getD, List.getElem?_eq_getElem x]
      rfl
    · have h1 := wipe_get vs c i x
      have h2 := wipe_get vs b i (by omega)
      rw [h] at h2
      simp only [d, if_false] at h1 h2 ⊢
      rw [← h2, h1]
  · rw [List.getElem?_eq_none (by rw [back_len]; omega), List.getElem?_eq_none (by omega)]
theorem v_compS {α : Type} {elt : E} {vs : List Nat} {t : TN} {it : It} {xs : List D} {g : A × D} (ys : List α) (F : α → D) (J : En → Prop) (Q : α → D → Prop) (hi : evIt Φ R it env = some (xs, g, e1)) (hx : xs = ys.map F) (hn : noO e1 vs = true) (hl : ys.length ≤ SZ)
    (hJ : J e1) (hv : ∀ e, J e → e.length = e1.length ∧ ∀ v ∈ vs, e1.getD v .no = e.getD v .no) (hg : ∀ e, J e → gd g.1 g.2 (wipeE e vs) = true)
    (h : ∀ y ∈ ys, ∀ e, J e → ∃ e3 d e2 e4, putT t (F y) (wipeE e vs) = some e3 ∧ evE Φ R elt e3 = some (d, e2) ∧ Q y d ∧ J e4 ∧ wipeE e2 vs = wipeE e4 vs) :
    ∃ (zs : List (α × D)) (e2 : En), evE Φ R (.comp elt vs t it (.cst (.bl true))) env = some (.lst (zs.map (·.2)), e2) ∧ zs.map (·.1) = ys ∧ (∀ z ∈ zs, Q z.1 z.2) ∧ J e2 := by
  subst hx
  obtain ⟨zs, e2, h1, h2, h3, e4, h4, h5⟩ := compL_st (t := t) (vs := vs) (g := gd g.1 g.2) (elt := evE Φ R elt) (F := F) (fun e => ∃ e', J e' ∧ wipeE e' vs = e) Q ys e1 ⟨e1, hJ, rfl⟩ (fun e ⟨e', j, z⟩ => by rw [← z]; exact hg e' j) (fun y hy e ⟨e', j, z⟩ => by
    obtain ⟨e3, d, e2, e4, k1, k2, k3, k4, k5⟩ := h y hy e' j
    exact ⟨e3, d, e2, by rw [← z]; exact k1, k2, k3, e4, k4, k5.symm⟩)
  refine ⟨zs, e4, ?_, h2, h3, h4⟩
  have hz : zs.length = ys.length := by rw [← h2, List.length_map]
  simp only [evE, hi, hn, if_true, h1]
  rw [if_pos (by rw [List.length_map]; omega), back_of (c := e4) h5.symm (hv e4 h4).1.symm (hv e4 h4).2]
/-! while -/
theorem while_all {c : En → Option (D × En)} {body : En → Option (Fl × En)} (I : En → Prop) (μ : En → Nat)
    (h : ∀ e, I e → ∃ p e1, c e = some (.bl p, e1) ∧ (p = true → ∃ e2, (body e1 = some (.nx, e2) ∨ body e1 = some (.ct, e2)) ∧ I e2 ∧ μ e2 < μ e)) :
    ∀ (n : Nat) (e : En), I e → μ e < n → ∃ e0 e1, whileL c body n e = some (.nx, e1) ∧ I e0 ∧ c e0 = some (.bl false, e1)
  | 0, e, _, hm => absurd hm (by omega)
  | n + 1, e, hi, hm => by
    obtain ⟨p, e1, h1, h2⟩ := h e hi
    cases p with
    | false => exact ⟨e, e1, by simp only [whileL, h1, asB], hi, h1⟩
    | true =>
      obtain ⟨e2, h3, h4, h5⟩ := h2 rfl
      obtain ⟨e0, e3, k1, k2, k3⟩ := while_all I μ h n e2 h4 (by omega)
      refine ⟨e0, e3, ?_, k2, k3⟩
      rcases h3 with h3 | h3 <;> simp only [whileL, h1, asB, h3, k1]
theorem s_whl {np : Nat} {c : E} {b : List S} {r : Option (Fl × En)} (h : whileL (evE Φ R c) (evSs Φ R np b) FUEL env = r) : evS Φ R np (.whl c b) env = r := by
  simp only [evS, h]
theorem s_sb {np i : Nat} {ix e : E} {o o' : D} (h : evE Φ R e env = some (d, e1)) (h0 : isO e1 i = true) (hi : evE Φ R ix e1 = some (dx, e2)) (ho : getO e2 i = some o) (hs : setD o dx d = some o') : evS Φ R np (.asg (.sb i ix) e) env = some (.nx, e2.set i (.own o')) := by
  simp only [evS, h, putS, h0, if_true, hi, ho, hs, Option.map_some]
theorem s_par {np : Nat} {ts : List (Nat × Bool)} {es : List E} {ds : List D} (h : evEs Φ R es env = some (ds, e1)) (hn : (nodupB (ts.map (·.1)) && ts.all (fun t => !t.2 || decide (np ≤ t.1))) = true) (hp : putPar ts ds e1 = some e2) : evS Φ R np (.par ts es) env = some (.nx, e2) := by
  simp only [evS, h, hn, if_true, hp, Option.map_some]
theorem s_ite {np : Nat} {c : E} {a b : List S} {p : Bool} {r : Option (Fl × En)} (h : evE Φ R c env = some (.bl p, e1)) (h1 : p = true → evSs Φ R np a e1 = r) (h2 : p = false → evSs Φ R np b e1 = r) : evS Φ R np (.ite c a b) env = r := by
  cases p
  · exact s_iteF h (h2 rfl)
  · exact s_iteT h (h1 rfl)
theorem r_tup {np : Nat} {es : List E} {as : List A} {ds : List D} (h : evAs Φ R es env = some (as, e1)) (h1 : as.all (retA np) = true) (h2 : resAs e1 as = some ds) (h3 : ds.length ≤ SZ) : evR Φ R np (.tup es) env = some (.tup ds, e1) := by
  simp only [evR, h, h1, if_true, h2, if_pos h3]
theorem v_dct {es : List E} {ds : List D} (h1 : evEs Φ R es env = some (ds, e1)) (h : mkDct false ds = some d) : evE Φ R (.dct false es) env = some (d, e1) := by
  simp only [evE, h1, h]
end
end Qx
set_option Elab.async false
set_option linter.all false
set_option maxRecDepth 100000
/-! QPl3: comprehensions of two turns; dicts of ints; bits. -/
namespace Qx
open PySem
section
variable {Φ : Orc} {R : Rfs} {env e1 e2 e3 : En} {d dx dy dz : D}
theorem wipe_subP {vs ws : List Nat} {a b : En} (h : wipeE a ws = wipeE b ws) (hs : ∀ v ∈ ws, v ∈ vs) : wipeE a vs = wipeE b vs := by
  have hl : a.length = b.length := by rw [← wipe_len ws a, h, wipe_len]
  apply List.ext_getElem?
  intro i
  by_cases c : i < a.length
  · rw [wipe_get _ _ _ c, wipe_get _ _ _ (by omega)]
    by_cases d : i ∈ vs
    · simp [d]
    · have h1 := wipe_get ws a i c
      have h2 := wipe_get ws b i (by omega)
      have : ¬ i ∈ ws := fun z => d (hs i z)
      simp only [this, if_false] at h1 h2
      simp only [d, if_false]
      rw [← h1, ← h2, h]
  · rw [List.getElem?_eq_none (by rw [wipe_len]; omega), List.getElem?_eq_none (by rw [wipe_len]; omega)]
theorem compB_map {α : Type} {t : TN} {vs : List Nat} {g : En → Bool} {elt : En → Option (List D × En)} {F : α → D} {f : α → List D} {e0 : En} (hg : g e0 = true) : ∀ (ys : List α) (env : En), wipeE env vs = e0 →
    (∀ y ∈ ys, ∃ e1 e2, putT t (F y) e0 = some e1 ∧ elt e1 = some (f y, e2) ∧ wipeE e2 vs = e0) →
    ∃ e2, compB t vs g (fun x => some (D.bl true, x)) elt (ys.map F) env = some (ys.flatMap f, e2) ∧ wipeE e2 vs = e0
  | [], env, hw, _ => ⟨env, by simp only [List.map_nil, compB, hw, hg, if_true, List.flatMap_nil], hw⟩
  | y :: ys, env, hw, h => by
    obtain ⟨e1, e2, h1, h2, h3⟩ := h y (by simp)
    obtain ⟨e3, h5, h6⟩ := compB_map hg ys e2 h3 fun z hz => h z (List.mem_cons_of_mem _ hz)
    refine ⟨e3, ?_, h6⟩
    simp only [List.map_cons, compB, hw, hg, if_true, h1, asB, h2, h5, List.flatMap_cons]
/-- two turns, no condition at the outer one -/
theorem v_comp2T {α β : Type} {elt c2 : E} {vs vs2 : List Nat} {t t2 : TN} {it it2 : It} {xs : List D} {g : A × D} (ys : List α) (F : α → D) (zs : α → List β) (G : α → β → D) (q : α → β → Bool) (f : α → β → D)
    (hi : evIt Φ R it env = some (xs, g, e1)) (hx : xs = ys.map F) (hn : noO e1 vs = true) (hg : gd g.1 g.2 (wipeE e1 vs) = true) (hs : ∀ v ∈ vs2, v ∈ vs)
    (h : ∀ y ∈ ys, ∃ e2 xs2 g2, putT t (F y) (wipeE e1 vs) = some e2 ∧ evIt Φ R it2 e2 = some (xs2, g2, e2) ∧ xs2 = (zs y).map (G y) ∧ gd g2.1 g2.2 (wipeE e2 vs2) = true ∧ wipeE e2 vs = wipeE e1 vs ∧
      ∀ z ∈ zs y, ∃ e3, putT t2 (G y z) (wipeE e2 vs2) = some e3 ∧ evE Φ R c2 e3 = some (.bl (q y z), e3) ∧ (q y z = true → evE Φ R elt e3 = some (f y z, e3)) ∧ wipeE e3 vs2 = wipeE e2 vs2)
    (hl : (ys.flatMap fun y => ((zs y).filter (q y)).map (f y)).length ≤ SZ) :
    evE Φ R (.comp2 elt vs t it (.cst (.bl true)) vs2 t2 it2 c2) env = some (.lst (ys.flatMap fun y => ((zs y).filter (q y)).map (f y)), e1) := by
  subst hx
  obtain ⟨e2, h1, h2⟩ := compB_map (t := t) (vs := vs) (elt := fun e => match evIt Φ R it2 e with
          | some (ys, g2, e') => compL t2 vs2 (gd g2.1 g2.2) (evE Φ R c2) (evE Φ R elt) ys e'
          | none => none) (F := F) (f := fun y => ((zs y).filter (q y)).map (f y)) hg ys e1 rfl (fun y hy => by
    obtain ⟨e2, xs2, g2, k1, k2, k3, k4, k5, k6⟩ := h y hy
    subst k3
    obtain ⟨e4, m1, m2⟩ := compL_map k4 (zs y) e2 rfl k6
    refine ⟨e2, e4, k1, ?_, ?_⟩
    · simp only [k2, m1]
    · rw [wipe_subP m2 hs, k5])
  simp only [evE, hi, hn, if_true]
  erw [h1]
  simp only [if_pos hl, back_id h2]
end
/-! bits -/
theorem shr_nat (m k : Nat) : binD .shr (.int (m : Int)) (.int (k : Int)) = some (.int ((m / 2 ^ k : Nat) : Int)) := by
  simp only [binD, shrB]
  rw [if_pos (by omega)]
  simp
theorem and1_nat (m : Nat) : binD .band (.int (m : Int)) (.int 1) = some (.int ((m % 2 : Nat) : Int)) := by
  simp only [binD, andB]
  rw [PyProof.Rows.bitAnd_m1]
  rfl
theorem shl1_nat (k : Nat) (h : k ≤ 1000000) : binD .shl (.int 1) (.int (k : Int)) = some (.int ((2 ^ k : Nat) : Int)) := by
  simp only [binD, shlB]
  rw [if_pos ⟨by omega, by omega, by decide⟩]
  simp
/-! dicts from ints to ints -/
theorem look_int : ∀ (ks ws : List Int) (k : Int), ∃ w, (lookD (.int k) (ks.map .int) (ws.map .int)).getD (.int 0) = .int w
  | [], ws, k => ⟨0, by simp [lookD]⟩
  | a :: ks, [], k => ⟨0, by simp [lookD]⟩
  | a :: ks, w :: ws, k => by
    simp only [List.map_cons, lookD]
    split
    · exact ⟨w, rfl⟩
    · exact look_int ks ws k
theorem rep_int (k v : Int) : ∀ (ks ws : List Int), ∃ us : List Int, repD (.int k) (.int v) (ks.map .int) (ws.map .int) = us.map .int ∧ us.length = ws.length
  | [], ws => ⟨ws, by simp [repD], rfl⟩
  | a :: ks, [] => ⟨[], by simp [repD], rfl⟩
  | a :: ks, w :: ws => by
    obtain ⟨us, h1, h2⟩ := rep_int k v ks ws
    simp only [List.map_cons, repD, h1]
    split
    · exact ⟨v :: us, rfl, by simp [h2]⟩
    · exact ⟨w :: us, rfl, by simp [h2]⟩
theorem put_int (k v : Int) (ks ws : List Int) (h : ks.length = ws.length) : ∃ us : List Int, putD (.int k) (.int v) (ks.map .int) (ws.map .int) = ((if k ∈ ks then ks else ks ++ [k]).map .int, us.map .int) ∧ us.length = (if k ∈ ks then ks else ks ++ [k]).length := by
  unfold putD
  rw [look_isSome ks _ k (by simp [h])]
  by_cases c : k ∈ ks
  · obtain ⟨us, h1, h2⟩ := rep_int k v ks ws
    simp only [c, decide_true, if_true, h1]
    exact ⟨us, rfl, by rw [h2, h]⟩
  · simp only [c, decide_false, Bool.false_eq_true, if_false]
    exact ⟨ws ++ [v], by simp, by simp [h]⟩
theorem set_dct_int (k v : Int) (ks ws : List Int) (h : ks.length = ws.length) (hs : ks.length < SZ) : ∃ us : List Int, setD (.dct false (ks.map .int) (ws.map .int)) (.int k) (.int v) = some (.dct false ((if k ∈ ks then ks else ks ++ [k]).map .int) (us.map .int)) ∧ us.length = (if k ∈ ks then ks else ks ++ [k]).length := by
  obtain ⟨us, h1, h2⟩ := put_int k v ks ws h
  refine ⟨us, ?_, h2⟩
  simp only [setD, show keyOk false (D.int k) = true from rfl, List.length_map, hs, decide_true, Bool.and_self, if_true, h1]
theorem itms_int (ks ws : List Int) (h : ks.length = ws.length) : dirD (.dct false (ks.map .int) (ws.map .int)) = some ((List.range ks.length).map fun i => .xtp [.int (ks.getD i 0), .int (ws.getD i 0)]) := by
  simp only [dirD, List.length_map, if_pos h, itmsD, Option.some.injEq]
  apply List.map_congr_left
  intro i hi
  have hi := List.mem_range.mp hi
  rw [getD_mapI _ _ hi, getD_mapI _ _ (by omega)]
end Qx
set_option Elab.async false
set_option linter.all false
set_option maxRecDepth 100000
/-! QWp: what holds behind a row of statements. -/
namespace Qx
open PySem
section
variable {Φ : Orc} {R : Rfs} {np : Nat} {env e1 e2 e3 : En} {d dx dy dz : D} {ss : List S} {P : Fl → En → Prop}
def Wp (Φ : Orc) (R : Rfs) (np : Nat) (ss : List S) (env : En) (P : Fl → En → Prop) : Prop := ∃ fl e, evSs Φ R np ss env = some (fl, e) ∧ P fl e
/-- then go on with ss -/
def Kn (Φ : Orc) (R : Rfs) (np : Nat) (ss : List S) (P : Fl → En → Prop) : Fl → En → Prop
  | .nx, e => Wp Φ R np ss e P
  | fl, e => P fl e
/-- the turn of a loop: I behind it, or out of it -/
def Kl (Φ : Orc) (R : Rfs) (np : Nat) (ss : List S) (P : Fl → En → Prop) (I : En → Prop) : Fl → En → Prop
  | .nx, e => I e
  | .ct, e => I e
  | .brk, e => Wp Φ R np ss e P
  | .ret d, e => P (.ret d) e
theorem Wp.mono {Q : Fl → En → Prop} (h : Wp Φ R np ss env P) (k : ∀ fl e, P fl e → Q fl e) : Wp Φ R np ss env Q := by
  obtain ⟨fl, e, h1, h2⟩ := h
  exact ⟨fl, e, h1, k _ _ h2⟩
theorem wp_nil (h : P .nx env) : Wp Φ R np [] env P := ⟨.nx, env, ss_nil, h⟩
theorem wp_of {s : S} (h1 : evS Φ R np s env = some (.nx, e1)) (h2 : Wp Φ R np ss e1 P) : Wp Φ R np (s :: ss) env P := by
  obtain ⟨fl, e, h3, h4⟩ := h2
  exact ⟨fl, e, ss_cons h1 h3, h4⟩
theorem wp_ret {e : E} (h : evR Φ R np e env = some (d, e1)) (hp : P (.ret d) e1) : Wp Φ R np (.ret e :: ss) env P := ⟨_, _, ss_ret (s_ret h), hp⟩
theorem wp_brk (hp : P .brk env) : Wp Φ R np (.brk :: ss) env P := ⟨.brk, env, by simp only [evSs, evS], hp⟩
theorem wp_cnt (hp : P .ct env) : Wp Φ R np (.cnt :: ss) env P := ⟨.ct, env, by simp only [evSs, evS], hp⟩
theorem wp_pass (h : Wp Φ R np ss env P) : Wp Φ R np (.pass :: ss) env P := wp_of (by simp only [evS]) h
theorem wp_exp {e : E} (h : evE Φ R e env = some (d, e1)) (h2 : Wp Φ R np ss e1 P) : Wp Φ R np (.exp e :: ss) env P := wp_of (s_exp h) h2
theorem wp_asg {t : TN} {e : E} (h : evE Φ R e env = some (d, e1)) (hp : putT t d e1 = some e2) (h2 : Wp Φ R np ss e2 P) : Wp Φ R np (.asg (.tn t) e :: ss) env P := wp_of (s_asg h hp) h2
theorem putN {i : Nat} (h0 : isO env i = false) (hi : i < env.length) : putT (.nm i) d env = some (env.set i (.val d)) := by
  simp only [putT, h0, Bool.false_eq_true, if_false, hi, if_true]
/-- two names that own nothing get their values -/
theorem put2 {i j : Nat} {x y : D} (h0 : isO env i = false) (hi : i < env.length) (h1 : isO (env.set i (.val x)) j = false) (hj : j < env.length) : putT (.tp [.nm i, .nm j]) (.tup [x, y]) env = some ((env.set i (.val x)).set j (.val y)) := by
  have e1 := putN (d := x) h0 hi
  have e2 := putN (d := y) (env := env.set i (.val x)) h1 (by rw [List.length_set]; exact hj)
  simp only [putT] at e1 e2
  simp only [putT, putTs, e1, e2, Option.bind_some]
/-- a name that owns nothing gets a value -/
theorem wp_set {i : Nat} {e : E} (h : evE Φ R e env = some (d, e1)) (h0 : isO e1 i = false) (hi : i < e1.length) (h2 : Wp Φ R np ss (e1.set i (.val d)) P) : Wp Φ R np (.asg (.tn (.nm i)) e :: ss) env P := wp_of (s_asg h (putN h0 hi)) h2
theorem wp_new {i : Nat} {e : E} (h : evE Φ R e env = some (d, e1)) (hc : isC d = true) (hn : np ≤ i) (hi : i < e1.length) (h2 : Wp Φ R np ss (e1.set i (.own d)) P) : Wp Φ R np (.new i e :: ss) env P := wp_of (s_new h hc hn hi) h2
theorem wp_sb {i : Nat} {ix e : E} {o o' : D} (h : evE Φ R e env = some (d, e1)) (h0 : isO e1 i = true) (hi : evE Φ R ix e1 = some (dx, e2)) (ho : getO e2 i = some o) (hs : setD o dx d = some o') (h2 : Wp Φ R np ss (e2.set i (.own o')) P) : Wp Φ R np (.asg (.sb i ix) e :: ss) env P := wp_of (s_sb h h0 hi ho hs) h2
theorem wp_par {ts : List (Nat × Bool)} {es : List E} {ds : List D} (h : evEs Φ R es env = some (ds, e1)) (hn : (nodupB (ts.map (·.1)) && ts.all (fun t => !t.2 || decide (np ≤ t.1))) = true) (hp : putPar ts ds e1 = some e2) (h2 : Wp Φ R np ss e2 P) : Wp Φ R np (.par ts es :: ss) env P := wp_of (s_par h hn hp) h2
theorem wp_ite {c : E} {a b : List S} {p : Bool} (h : evE Φ R c env = some (.bl p, e1)) (h1 : p = true → Wp Φ R np a e1 (Kn Φ R np ss P)) (h2 : p = false → Wp Φ R np b e1 (Kn Φ R np ss P)) : Wp Φ R np (.ite c a b :: ss) env P := by
  have go : ∀ x, evS Φ R np (.ite c a b) env = evSs Φ R np x e1 → Wp Φ R np x e1 (Kn Φ R np ss P) → Wp Φ R np (.ite c a b :: ss) env P := by
    rintro x hx ⟨fl, e, h3, h4⟩
    cases fl with
    | nx =>
      obtain ⟨fl', e', h5, h6⟩ := h4
      exact ⟨fl', e', ss_cons (hx.trans h3) h5, h6⟩
    | _ => exact ⟨_, e, by simp only [evSs, hx, h3], h4⟩
  cases p
  · exact go b (s_iteF h rfl) (h2 rfl)
  · exact go a (s_iteT h rfl) (h1 rfl)
/-- a condition known to fail / hold -/
theorem wp_iteF {c : E} {a b : List S} (h : evE Φ R c env = some (.bl false, e1)) (h2 : Wp Φ R np b e1 (Kn Φ R np ss P)) : Wp Φ R np (.ite c a b :: ss) env P := wp_ite h nofun fun _ => h2
theorem wp_iteT {c : E} {a b : List S} (h : evE Φ R c env = some (.bl true, e1)) (h2 : Wp Φ R np a e1 (Kn Φ R np ss P)) : Wp Φ R np (.ite c a b :: ss) env P := wp_ite h (fun _ => h2) nofun
theorem forL_wp {α : Type} {t : TN} {b : List S} {g : En → Bool} {F : α → D} {ys : List α} (I : List α → En → Prop) (hg : ∀ zs e, I zs e → g e = true)
    (hs : ∀ zs y ws e, ys = zs ++ y :: ws → I zs e → ∃ e1, putT t (F y) e = some e1 ∧ Wp Φ R np b e1 (Kl Φ R np ss P (I (zs ++ [y])))) (hr : ∀ e, I ys e → Wp Φ R np ss e P) :
    ∀ (xs zs : List α) (env : En), ys = zs ++ xs → I zs env → ∃ fl e, (forL t g (evSs Φ R np b) (xs.map F) env = some (fl, e)) ∧ Kn Φ R np ss P fl e ∧ fl ≠ .ct ∧ fl ≠ .brk
  | [], zs, env, e, hi => by
    rw [List.append_nil] at e
    subst e
    exact ⟨.nx, env, by simp only [List.map_nil, forL, hg _ _ hi, if_true], hr _ hi, nofun, nofun⟩
  | y :: xs, zs, env, e, hi => by
    obtain ⟨e1, h1, fl, e2, h2, h3⟩ := hs zs y xs env e hi
    have next : ∀ e2, I (zs ++ [y]) e2 → _ := fun e2 h => forL_wp I hg hs hr xs (zs ++ [y]) e2 (by rw [e]; simp) h
    cases fl with
    | nx =>
      obtain ⟨fl', e3, h4, h5⟩ := next e2 h3
      exact ⟨fl', e3, by simp only [List.map_cons, forL, hg _ _ hi, if_true, h1, h2, h4], h5⟩
    | ct =>
      obtain ⟨fl', e3, h4, h5⟩ := next e2 h3
      exact ⟨fl', e3, by simp only [List.map_cons, forL, hg _ _ hi, if_true, h1, h2, h4], h5⟩
    | brk => exact ⟨.nx, e2, by simp only [List.map_cons, forL, hg _ _ hi, if_true, h1, h2], h3, nofun, nofun⟩
    | ret d => exact ⟨.ret d, e2, by simp only [List.map_cons, forL, hg _ _ hi, if_true, h1, h2], h3, nofun, nofun⟩
theorem wp_for {α : Type} {t : TN} {it : It} {b : List S} {xs : List D} {g : A × D} {F : α → D} (ys : List α) (I : List α → En → Prop) (hit : evIt Φ R it env = some (xs, g, e1)) (hx : xs = ys.map F) (h0 : I [] e1) (hg : ∀ zs e, I zs e → gd g.1 g.2 e = true)
    (hs : ∀ zs y ws e, ys = zs ++ y :: ws → I zs e → ∃ e1, putT t (F y) e = some e1 ∧ Wp Φ R np b e1 (Kl Φ R np ss P (I (zs ++ [y])))) (hr : ∀ e, I ys e → Wp Φ R np ss e P) : Wp Φ R np (.for_ t it b :: ss) env P := by
  subst hx
  obtain ⟨fl, e, h1, h2, h3, h4⟩ := forL_wp (Φ := Φ) (R := R) (np := np) (t := t) (b := b) (g := gd g.1 g.2) I hg hs hr ys [] e1 rfl h0
  cases fl with
  | nx =>
    obtain ⟨fl', e', h5, h6⟩ := h2
    exact ⟨fl', e', ss_cons (s_for hit h1) h5, h6⟩
  | ret d => exact ⟨.ret d, e, by simp only [evSs, evS, hit, h1], h2⟩
  | brk => exact (h4 rfl).elim
  | ct => exact (h3 rfl).elim
theorem whileL_wp {c : E} {b : List S} (I : Nat → En → Prop)
    (h : ∀ k e, I k e → ∃ p e1, evE Φ R c e = some (.bl p, e1) ∧ (p = true → Wp Φ R np b e1 (Kl Φ R np ss P fun e2 => ∃ k', k' < k ∧ I k' e2)) ∧ (p = false → Wp Φ R np ss e1 P)) :
    ∀ (n k : Nat) (e : En), I k e → k < n → ∃ fl e1, whileL (evE Φ R c) (evSs Φ R np b) n e = some (fl, e1) ∧ Kn Φ R np ss P fl e1 ∧ fl ≠ .ct ∧ fl ≠ .brk
  | 0, k, e, _, hm => absurd hm (by omega)
  | n + 1, k, e, hi, hm => by
    obtain ⟨p, e1, h1, h2, h3⟩ := h k e hi
    cases p with
    | false => exact ⟨.nx, e1, by simp only [whileL, h1, asB], h3 rfl, nofun, nofun⟩
    | true =>
      obtain ⟨fl, e2, h4, h5⟩ := h2 rfl
      cases fl with
      | nx =>
        obtain ⟨k', hk, h5⟩ := h5
        obtain ⟨fl', e3, h6, h7⟩ := whileL_wp I h n k' e2 h5 (by omega)
        exact ⟨fl', e3, by simp only [whileL, h1, asB, h4, h6], h7⟩
      | ct =>
        obtain ⟨k', hk, h5⟩ := h5
        obtain ⟨fl', e3, h6, h7⟩ := whileL_wp I h n k' e2 h5 (by omega)
        exact ⟨fl', e3, by simp only [whileL, h1, asB, h4, h6], h7⟩
      | brk => exact ⟨.nx, e2, by simp only [whileL, h1, asB, h4], h5, nofun, nofun⟩
      | ret d => exact ⟨.ret d, e2, by simp only [whileL, h1, asB, h4], h5, nofun, nofun⟩
/-- while: I k, with at most k turns to come -/
theorem wp_whl {c : E} {b : List S} (I : Nat → En → Prop) (k : Nat) (h0 : I k env) (hm : k < 1099511627776)
    (h : ∀ k e, I k e → ∃ p e1, evE Φ R c e = some (.bl p, e1) ∧ (p = true → Wp Φ R np b e1 (Kl Φ R np ss P fun e2 => ∃ k', k' < k ∧ I k' e2)) ∧ (p = false → Wp Φ R np ss e1 P)) : Wp Φ R np (.whl c b :: ss) env P := by
  obtain ⟨fl, e, h1, h2, h3, h4⟩ := whileL_wp (ss := ss) (P := P) I h FUEL k env h0 hm
  cases fl with
  | nx =>
    obtain ⟨fl', e', h5, h6⟩ := h2
    exact ⟨fl', e', ss_cons (s_whl h1) h5, h6⟩
  | ret d => exact ⟨.ret d, e, by simp only [evSs, evS, h1], h2⟩
  | brk => exact (h4 rfl).elim
  | ct => exact (h3 rfl).elim
/-- what a call ends with -/
def Ends (rf : List Nat) (Q : D → List D → Prop) : Fl → En → Prop
  | .ret r, e => ∃ os, outsE e rf = some os ∧ Q r os
  | .nx, e => ∃ os, outsE e rf = some os ∧ Q .non os
  | _, _ => False
theorem call_wp {ds : List Df} {n f : Nat} {args : List D} {df : Df} {Q : D → List D → Prop} (env0 : En) (hd : ds[f]? = some df) (ha : args.length = df.np) (hs : startE df args = env0) (h : Wp (callD ds n) (rfsOf ds) df.np df.body env0 (Ends df.refs Q)) : ∃ r os, callD ds (n + 1) f args = some (r, os) ∧ Q r os := by
  subst hs
  obtain ⟨fl, e, h1, h2⟩ := h
  cases fl with
  | nx => obtain ⟨os, h3, h4⟩ := h2; exact ⟨_, os, call_nx hd ha h1 h3, h4⟩
  | ret d => obtain ⟨os, h3, h4⟩ := h2; exact ⟨_, os, call_ret hd ha h1 h3, h4⟩
  | brk => exact h2.elim
  | ct => exact h2.elim
/-- .. with one answer, nothing changed -/
theorem call_wp1 {ds : List Df} {n f : Nat} {args : List D} {df : Df} {Q : D → Prop} (env0 : En) (hd : ds[f]? = some df) (ha : args.length = df.np) (hs : startE df args = env0) (hr : df.refs = []) (h : Wp (callD ds n) (rfsOf ds) df.np df.body env0 (Ends [] fun r _ => Q r)) : ∃ r, callD ds (n + 1) f args = some (r, []) ∧ Q r := by
  obtain ⟨r, os, h1, h2, h3⟩ := call_wp (Q := fun r os => os = [] ∧ Q r) env0 hd ha hs (h.mono fun fl e k => by
    rw [hr]
    cases fl with
    | nx => exact ⟨[], rfl, rfl, k.choose_spec.2⟩
    | ret d => exact ⟨[], rfl, rfl, k.choose_spec.2⟩
    | brk => exact k
    | ct => exact k)
  subst h2
  exact ⟨r, h1, h3⟩
theorem end_ret {Q : D → Prop} (h : Q d) : Ends [] (fun r _ => Q r) (.ret d) env := ⟨[], rfl, h⟩
end
end Qx
set_option Elab.async false
set_option linter.all false
set_option maxRecDepth 100000
/-! QLaw: the helpers that the laws have in common. -/
namespace Qx
open PySem
def lPool : Df := ⟨(Str.ofString "_law_pool"), 2, 5, [], true, [
  .asg (.tn (.nm 2)) (.bin .add (.bin .mul (.cst (.int 7)) (.var 1)) (.bin .mul (.cst (.int 3)) (.bi .len [(.var 0)]))),
  .ite (.cmp .lt (.var 1) (.bi .len [(.var 0)])) [.asg (.tn (.nm 2)) (.sub (.var 0) (.var 1))] [],
  .asg (.tn (.nm 3)) (.bi .abs [(.var 2)]),
  .asg (.tn (.nm 4)) (.bin .mod (.bi .int [(.bin .add (.bin .add (.bin .add (.bin .mul (.var 3) (.cst (.int 48271))) (.bin .mul (.cst (.int 16807)) (.var 1))) (.bin .mul (.cst (.int 11)) (.bi .int [(.cmp .lt (.var 2) (.cst (.int 0)))]))) (.cst (.int 1)))]) (.cst (.int 2305843009213693951))),
  .ite (.cmp .ge (.var 3) (.cst (.int 1000000000000000000))) [.ret (.lst [(.bin .add (.bin .mul (.cst (.int 2)) (.bin .sub (.var 3) (.cst (.int 1000000000000000000)))) (.bi .int [(.cmp .lt (.var 2) (.cst (.int 0)))])), (.var 4)])] [],
  .ret (.lst [(.cst (.int 0)), (.var 4)])]⟩
def lTake : Df := ⟨(Str.ofString "_law_take"), 2, 4, [0], false, [
  .ite (.cmp .gt (.sub (.own 0) (.cst (.int 0))) (.cst (.int 1))) [.asg (.tn (.nm 2)) (.bin .mod (.bi .int [(.sub (.own 0) (.cst (.int 0)))]) (.var 1)), .asg (.sb 0 (.cst (.int 0))) (.bin .fdiv (.sub (.own 0) (.cst (.int 0))) (.var 1)), .ret (.var 2)] [],
  .asg (.tn (.nm 2)) (.cst (.int 0)),
  .asg (.tn (.nm 3)) (.cst (.int 1)),
  .whl (.cmp .lt (.var 3) (.bin .mul (.cst (.int 16777216)) (.var 1))) [.asg (.sb 0 (.cst (.int 1))) (.bin .mod (.bi .int [(.bin .add (.bin .mul (.sub (.own 0) (.cst (.int 1))) (.cst (.int 6364136223846793005))) (.cst (.int 1442695040888963407)))]) (.cst (.int 18446744073709551616))), .asg (.tn (.nm 2)) (.bin .add (.bin .mul (.var 2) (.cst (.int 16777216))) (.bin .fdiv (.sub (.own 0) (.cst (.int 1))) (.cst (.int 1099511627776)))), .asg (.tn (.nm 3)) (.bin .mul (.var 3) (.cst (.int 16777216)))],
  .ret (.bin .mod (.bi .int [(.var 2)]) (.var 1))]⟩
def lAlike (g : Nat) : Df := ⟨(Str.ofString "_law_alike"), 2, 3, [], false, [
  .ite (.or (.isi (.var 0) [.bool]) (.isi (.var 1) [.bool])) [.ret (.an (.isi (.var 0) [.bool]) (.an (.isi (.var 1) [.bool]) (.cmp .eq (.var 0) (.var 1))))] [],
  .ite (.or (.isi (.var 0) [.int]) (.isi (.var 1) [.int])) [.ret (.an (.isi (.var 0) [.int]) (.an (.isi (.var 1) [.int]) (.cmp .eq (.var 0) (.var 1))))] [],
  .ite (.or (.isi (.var 0) [.str]) (.isi (.var 1) [.str])) [.ret (.an (.isi (.var 0) [.str]) (.an (.isi (.var 1) [.str]) (.cmp .eq (.var 0) (.var 1))))] [],
  .ite (.or (.cmp .is (.var 0) (.cst .non)) (.cmp .is (.var 1) (.cst .non))) [.ret (.an (.cmp .is (.var 0) (.cst .non)) (.cmp .is (.var 1) (.cst .non)))] [],
  .ite (.or (.isi (.var 0) [.dict]) (.isi (.var 1) [.dict])) [.ret (.an (.isi (.var 0) [.dict]) (.an (.isi (.var 1) [.dict]) (.chn .eq .eq (.bi .len [(.var 0)]) (.bi .len [(.var 1)]) (.cst (.int 0)))))] [],
  .ite (.or (.cmp .ne (.isi (.var 0) [.tuple]) (.isi (.var 1) [.tuple])) (.cmp .ne (.isi (.var 0) [.list]) (.isi (.var 1) [.list]))) [.ret (.cst (.bl false))] [],
  .ite (.or (.nt (.isi (.var 0) [.tuple, .list])) (.cmp .ne (.bi .len [(.var 0)]) (.bi .len [(.var 1)]))) [.ret (.cst (.bl false))] [],
  .ret (.bi .all [(.comp (.call g [(.sub (.var 0) (.var 2)), (.sub (.var 1) (.var 2))] []) [2] (.nm 2) (.rng [(.bi .len [(.var 0)])]) (.cst (.bl true)))])]⟩
def lWhole : Df := ⟨(Str.ofString "_law_whole"), 1, 1, [], false, [
  .ret (.an (.isi (.var 0) [.int]) (.nt (.isi (.var 0) [.bool])))]⟩
def lSays : Df := ⟨(Str.ofString "_law_says"), 2, 2, [], false, [
  .ret (.an (.isi (.var 0) [.bool]) (.cmp .eq (.var 0) (.var 1)))]⟩
theorem mul_l {i j : Int} (h1 : -(2 ^ 64) < i) (h2 : i < 2 ^ 64) : binD .mul (.int i) (.int j) = some (.int (i * j)) := by
  show (if mulOk i j = true then _ else _) = _
  rw [if_pos (by unfold mulOk; rw [decide_eq_true h1, decide_eq_true h2]; rfl)]
theorem mul_r {i j : Int} (h1 : -(2 ^ 64) < j) (h2 : j < 2 ^ 64) : binD .mul (.int i) (.int j) = some (.int (i * j)) := by
  show (if mulOk i j = true then _ else _) = _
  rw [if_pos (by unfold mulOk; rw [decide_eq_true h1, decide_eq_true h2]; cases (decide (-2 ^ 64 < i) && decide (i < 2 ^ 64)) <;> rfl)]
theorem mod_pos {i j : Int} (h : 0 < j) : binD .mod (.int i) (.int j) = some (.int (i % j)) := by
  show (if 0 < j then _ else _) = _
  rw [if_pos h]
theorem div_pos {i j : Int} (h : 0 < j) (h2 : j < 2 ^ 64) : binD .fdiv (.int i) (.int j) = some (.int (i / j)) := by
  show (if 0 < j ∧ j < 2 ^ 64 then _ else _) = _
  rw [if_pos ⟨h, h2⟩]
theorem isa_ok {d : D} {ts : List Ty} (h : okd d = true) : isaD d ts = some (.bl (ts.any (isaT (tyD d)))) := by
  cases d with
  | dct t ks vs => cases t <;> first | rfl | cases h
  | fn f => cases h
  | xtp f => cases h
  | _ => rfl
section
variable {ds : List Df} {g n : Nat}
theorem whole_spec (hd : ds[g]? = some lWhole) (d : D) (h : okd d = true) : callD ds (n + 1) g [d] = some (.bl (isWh d), []) := by
  rw [← isWh_eq]
  exact call_ret hd rfl (ss_ret (s_ret (r_e (v_an (v_isi (op_v (v_var rfl)) rfl (isa_int h)) fun _ => v_nt (v_isi (op_v (v_var rfl)) rfl (isa_bool h))) nofun nofun))) rfl
theorem says_spec (hd : ds[g]? = some lSays) (a b : Bool) : callD ds (n + 1) g [.bl a, .bl b] = some (.bl (a == b), []) :=
  call_ret hd rfl (ss_ret (s_ret (r_e (v_an (p := true) (v_isi (op_v (v_var rfl)) rfl rfl) fun _ => v_cmp (v_var rfl) (v_var rfl) (k := a == b) rfl) nofun nofun))) rfl
theorem pool_spec (hd : ds[g]? = some lPool) (xs : List Int) (k : Nat) : ∃ a b, callD ds (n + 1) g [.lst (xs.map .int), .int k] = some (.lst [.int a, .int b], []) := by
  obtain ⟨r, h, a, b, e⟩ := call_wp1 (n := n) (ds := ds) (f := g) (args := [.lst (xs.map .int), .int k]) (Q := fun r => ∃ a b, r = .lst [.int a, .int b]) [.val (.lst (xs.map .int)), .val (.int k), .no, .no, .no] hd rfl rfl rfl (by
    refine wp_asg (e2 := [.val _, .val _, .val (.int _), .no, .no]) (v_bin (v_bin v_cst (v_var rfl) (mul_l (by decide) (by decide))) (v_bin v_cst (v_bi (as_v (v_var rfl) as_nil) rfl (d := _) (len_lst _)) (mul_l (by decide) (by decide))) rfl) rfl ?_
    have rest : ∀ c : Int, Wp (callD ds n) (rfsOf ds) 2 (lPool.body.drop 2) [.val (.lst (xs.map .int)), .val (.int k), .val (.int c), .no, .no] (Ends [] fun r _ => ∃ a b, r = .lst [.int a, .int b]) := by
      intro c
      refine wp_asg (e2 := [.val _, .val _, .val _, .val (.int _), .no]) (v_bi (as_v (v_var rfl) as_nil) rfl (d := .int _) rfl) rfl ?_
      refine wp_asg (e2 := [.val _, .val _, .val _, .val (.int _), .val (.int _)]) (v_bin (v_bi (as_v (v_bin (v_bin (v_bin (v_bin (v_var rfl) v_cst (mul_r (by decide) (by decide))) (v_bin v_cst (v_var rfl) (mul_l (by decide) (by decide))) rfl) (v_bin v_cst (v_bi (as_v (v_cmp (k := decide (c < 0)) (v_var rfl) v_cst rfl) as_nil) rfl (d := .int _) rfl) (mul_l (by decide) (by decide))) rfl) v_cst rfl) as_nil) rfl (d := .int _) rfl) v_cst (mod_pos (by decide))) rfl ?_
      refine wp_ite (v_cmp (k := decide _) (v_var rfl) v_cst rfl) (fun _ => ?_) (fun _ => wp_nil ?_)
      · exact wp_ret (r_e (v_lst (vs_cons (v_bin (v_bin v_cst (v_bin (v_var rfl) v_cst rfl) (mul_l (by decide) (by decide))) (v_bi (as_v (v_cmp (k := decide (c < 0)) (v_var rfl) v_cst rfl) as_nil) rfl (d := .int _) rfl) rfl) (vs_cons (v_var rfl) vs_nil)) (by show 2 ≤ 16777216; decide)) nofun nofun) ⟨[], rfl, _, _, rfl⟩
      · exact wp_ret (r_e (v_lst (vs_cons v_cst (vs_cons (v_var rfl) vs_nil)) (by show 2 ≤ 16777216; decide)) nofun nofun) ⟨[], rfl, _, _, rfl⟩
    refine wp_ite (v_cmp (k := decide _) (v_var rfl) (v_bi (as_v (v_var rfl) as_nil) rfl (d := _) (len_lst _)) rfl) (fun h => ?_) (fun _ => wp_nil (rest _))
    have h := of_decide_eq_true h
    rw [List.length_map] at h
    exact wp_asg (e2 := [.val _, .val _, .val (.int (xs.getD k 0)), .no, .no]) (v_sub (v_var rfl) (v_var rfl) (sub_lstN (get_mapI (by omega)))) rfl (wp_nil (rest _)))
  subst e
  exact ⟨a, b, h⟩
theorem take_spec (hd : ds[g]? = some lTake) (a b : Int) (m : Nat) (h1 : 1 ≤ m) (h2 : m ≤ 2 ^ 48) : ∃ (r : Nat) (a' b' : Int), callD ds (n + 1) g [.lst [.int a, .int b], .int m] = some (.int r, [.lst [.int a', .int b']]) ∧ r < m := by
  have hmod : ∀ x : Int, ∃ r : Nat, x % (m : Int) = r ∧ r < m := fun x => by
    have := Int.emod_nonneg x (b := (m : Int)) (by omega)
    have := Int.emod_lt_of_pos x (b := (m : Int)) (by omega)
    exact ⟨(x % (m : Int)).toNat, by omega, by omega⟩
  obtain ⟨r, os, h, k, a', b', e1, e2, e3⟩ := call_wp (n := n) (ds := ds) (f := g) (args := [.lst [.int a, .int b], .int m]) (Q := fun r os => ∃ (k : Nat) (a' b' : Int), r = .int k ∧ os = [.lst [.int a', .int b']] ∧ k < m) [.own (.lst [.int a, .int b]), .val (.int m), .no, .no] hd rfl rfl (by
    refine wp_ite (v_cmp (k := decide (1 < a)) (v_subA (op_o rfl) v_cst rfl rfl) v_cst rfl) (fun _ => ?_) (fun _ => wp_nil ?_)
    · obtain ⟨k, k1, k2⟩ := hmod a
      refine wp_asg (d := .int k) (e2 := [.own (.lst [.int a, .int b]), .val (.int m), .val (.int k), .no]) (v_bin (v_bi (as_v (v_subA (op_o rfl) v_cst rfl rfl) as_nil) rfl (d := .int a) rfl) (v_var rfl) (by rw [← k1]; exact mod_pos (by omega))) rfl ?_
      refine wp_sb (o' := .lst [.int (a / m), .int b]) (v_bin (v_subA (op_o rfl) v_cst rfl rfl) (v_var rfl) (div_pos (by omega) (by omega))) rfl v_cst rfl rfl ?_
      exact wp_ret (r_e (v_var rfl) nofun nofun) ⟨_, rfl, k, a / m, b, rfl, rfl, k2⟩
    · refine wp_asg (e2 := [.own (.lst [.int a, .int b]), .val (.int m), .val (.int 0), .no]) v_cst rfl ?_
      refine wp_asg (e2 := [.own (.lst [.int a, .int b]), .val (.int m), .val (.int 0), .val (.int ((2 ^ (24 * 0) : Nat) : Int))]) v_cst rfl ?_
      refine wp_whl (fun k e => ∃ (b' t : Int) (j : Nat), e = [.own (.lst [.int a, .int b']), .val (.int m), .val (.int t), .val (.int ((2 ^ (24 * j) : Nat) : Int))] ∧ k + j = 3) 3 ⟨b, 0, 0, rfl, rfl⟩ (by decide) ?_
      rintro k e ⟨b', t, j, he, hj⟩
      subst he
      refine ⟨decide (((2 ^ (24 * j) : Nat) : Int) < 16777216 * (m : Int)), _, v_cmp (v_var rfl) (v_bin v_cst (v_var rfl) (mul_l (by decide) (by decide))) rfl, fun hp => ?_, fun _ => ?_⟩
      · have hp := of_decide_eq_true hp
        have hj3 : j < 3 := by
          refine Nat.lt_of_not_le fun z => ?_
          have h3 : j = 3 := by omega
          subst h3
          have : ((2 ^ (24 * 3) : Nat) : Int) = 4722366482869645213696 := by decide
          omega
        refine wp_sb (o' := .lst [.int a, .int _]) (v_bin (v_bi (as_v (v_bin (v_bin (v_subA (op_o rfl) v_cst rfl rfl) v_cst (mul_r (by decide) (by decide))) v_cst rfl) as_nil) rfl (d := .int _) rfl) v_cst (mod_pos (by decide))) rfl v_cst rfl rfl ?_
        refine wp_asg (e2 := [.own (.lst [.int a, .int _]), .val (.int m), .val (.int _), .val _]) (v_bin (v_bin (v_var rfl) v_cst (mul_r (by decide) (by decide))) (v_bin (v_subA (op_o rfl) v_cst rfl rfl) v_cst (div_pos (by decide) (by decide))) rfl) rfl ?_
        refine wp_asg (d := .int ((2 ^ (24 * (j + 1)) : Nat) : Int)) (e2 := [.own (.lst [.int a, .int _]), .val (.int m), .val (.int _), .val (.int ((2 ^ (24 * (j + 1)) : Nat) : Int))]) (v_bin (v_var rfl) v_cst (by
          rw [mul_r (by decide) (by decide), Nat.mul_succ, Nat.pow_add]
          simp)) rfl (wp_nil ⟨2 - j, by omega, _, _, j + 1, rfl, by omega⟩)
      · obtain ⟨k, k1, k2⟩ := hmod t
        exact wp_ret (r_e (d := .int k) (v_bin (v_bi (as_v (v_var rfl) as_nil) rfl (d := .int t) rfl) (v_var rfl) (by rw [← k1]; exact mod_pos (by omega))) nofun nofun) ⟨_, rfl, k, a, b', rfl, rfl, k2⟩)
  subst e1 e2
  exact ⟨k, a', b', h, e3⟩
end
end Qx
set_option Elab.async false
set_option linter.all false
set_option maxRecDepth 100000
/-! QAlike: the laws' own equality. -/
namespace Qx
open PySem
theorem ne_int (i j : Int) : cmpD .ne (.int i) (.int j) = some (!decide (i = j)) := by
  have : cmpD .ne (.int i) (.int j) = (eqQ (.int i) (.int j)).map (! ·) := rfl
  rw [this, eqQ_int]; rfl
/-- plain things, at most k deep, not too wide -/
def pld : Nat → D → Bool
  | _, .non => true
  | _, .bl _ => true
  | _, .int _ => true
  | _, .str x => PyData.strOk x
  | k + 1, .tup ds => ds.all (pld k) && decide (ds.length ≤ SZ)
  | k + 1, .lst ds => ds.all (pld k) && decide (ds.length ≤ SZ)
  | _, _ => false
theorem pld_okd {k : Nat} {d : D} (h : pld k d = true) : okd d = true := by
  cases d with
  | dct t ks vs => cases k <;> cases h
  | fn f => cases k <;> cases h
  | xtp f => cases k <;> cases h
  | _ => rfl
def isStr : D → Bool
  | .str _ => true
  | _ => false
def isLst : D → Bool
  | .lst _ => true
  | _ => false
def isSq : D → Bool
  | .lst _ => true
  | .tup _ => true
  | _ => false
theorem sameDs_all : ∀ (xs ys : List D), xs.length = ys.length → sameDs xs ys = (List.range xs.length).all fun k => sameD (xs.getD k .non) (ys.getD k .non)
  | [], [], _ => rfl
  | x :: xs, [], h => by simp at h
  | [], y :: ys, h => by simp at h
  | x :: xs, y :: ys, h => by
    rw [sameDs, sameDs_all xs ys (by simpa using h), List.length_cons, List.range_succ_eq_map, List.all_cons, List.all_map]
    rfl
theorem sameDs_len : ∀ (xs ys : List D), xs.length ≠ ys.length → sameDs xs ys = false
  | [], [], h => (h rfl).elim
  | x :: xs, [], h => by simp [sameDs]
  | [], y :: ys, h => by simp [sameDs]
  | x :: xs, y :: ys, h => by
    rw [sameDs, sameDs_len xs ys (by simpa using h), Bool.and_false]
section
variable {ds : List Df} {g n : Nat}
theorem pld_get {k : Nat} {l : List D} (h : l.all (pld k) = true) {i : Nat} (hi : i < l.length) : ∃ d, l[i]? = some d ∧ l.getD i .non = d ∧ pld k d = true := by
  refine ⟨l[i], List.getElem?_eq_getElem hi, ?_, List.all_eq_true.mp h _ (List.getElem_mem hi)⟩
  rw [List.getD_eq_getElem?_getD, List.getElem?_eq_getElem hi]
  rfl
def tyB (t : Ty) (d : D) : Bool := [t].any (isaT (tyD d))
theorem v_is1 {Φ : Orc} {R : Rfs} {env : En} {i : Nat} {t : Ty} {d : D} (hv : getV env i = some d) (h : okd d = true) : evE Φ R (.isi (.var i) [t]) env = some (.bl (tyB t d), env) := v_isi (op_v (v_var hv)) rfl (isa_ok h)
theorem v_two {Φ : Orc} {R : Rfs} {env : En} {t : Ty} {x y : D} (hv : getV env 0 = some x) (hw : getV env 1 = some y) (hx : okd x = true) (hy : okd y = true) : evE Φ R (.or (.isi (.var 0) [t]) (.isi (.var 1) [t])) env = some (.bl (tyB t x || tyB t y), env) := v_or (v_is1 hv hx) fun _ => v_is1 hw hy
theorem alike_body {k : Nat} (hd : ds[g]? = some (lAlike g)) (hr : rfsOf ds g = []) (x y : D) (hx : pld k x = true) (hy : pld k y = true)
    (H : ∀ l m, seqD x = some l → seqD y = some m → l.length = m.length → l.length ≤ SZ ∧ ∀ i, i < l.length → callD ds n g [l.getD i .non, m.getD i .non] = some (.bl (sameD (l.getD i .non) (m.getD i .non)), [])) : callD ds (n + 1) g [x, y] = some (.bl (sameD x y), []) := by
  have ox := pld_okd hx
  have oy := pld_okd hy
  have hxd : tyB .dict x = false := by cases x <;> first | rfl | (cases k <;> cases hx)
  have hyd : tyB .dict y = false := by cases y <;> first | rfl | (cases k <;> cases hy)
  have hdx : ∀ s, x = .str s → PyData.strOk s = true := fun s e => by subst e; cases k <;> exact hx
  have hdy : ∀ s, y = .str s → PyData.strOk s = true := fun s e => by subst e; cases k <;> exact hy
  obtain ⟨r, h1, h2⟩ := call_wp1 (n := n) (ds := ds) (f := g) (args := [x, y]) (Q := fun r => r = .bl (sameD x y)) [.val x, .val y, .no] hd rfl rfl rfl (by
    refine wp_ite (v_two rfl rfl ox oy) (fun hp => wp_ret (r_e (v_an (v_is1 rfl ox) fun hb => v_an (q := sameD x y) (v_is1 rfl oy) fun hc => v_cmp (v_var rfl) (v_var rfl) ?_) nofun nofun) (end_ret ?_)) fun h1 => wp_nil ?_
    · cases x <;> first | (cases hb; done) | (cases y <;> first | (cases hc; done) | rfl)
    · cases x <;> cases y <;> first | (cases hp; done) | rfl | (simp [tyB, isaT, tyD, sameD])
    refine wp_ite (v_two rfl rfl ox oy) (fun hp => wp_ret (r_e (v_an (v_is1 rfl ox) fun hb => v_an (q := sameD x y) (v_is1 rfl oy) fun hc => v_cmp (v_var rfl) (v_var rfl) ?_) nofun nofun) (end_ret ?_)) fun h2 => wp_nil ?_
    · cases x <;> first | (cases hb; done) | (cases h1; done) | (cases y <;> first | (cases hc; done) | (cases h1; done) | rfl)
    · cases x <;> cases y <;> first | (cases hp; done) | (cases h1; done) | rfl | (simp [tyB, isaT, tyD, sameD])
    refine wp_ite (v_two rfl rfl ox oy) (fun hp => wp_ret (r_e (v_an (v_is1 rfl ox) fun hb => v_an (q := sameD x y) (v_is1 rfl oy) fun hc => v_cmp (v_var rfl) (v_var rfl) ?_) nofun nofun) (end_ret ?_)) fun h3 => wp_nil ?_
    · cases x <;> first | (cases hb; done) | (cases y <;> first | (cases hc; done) | skip)
      rename_i s t
      show (if dok 40 (D.str s) && dok 40 (D.str t) then _ else _) = _
      rw [if_pos]
      · rfl
      · show (PyData.strOk s && PyData.strOk t) = true
        rw [hdx s rfl, hdy t rfl]; rfl
    · cases x <;> cases y <;> first | (cases hp; done) | (cases h1; done) | (cases h2; done) | rfl | (simp [tyB, isaT, tyD, sameD])
    refine wp_ite (p := isNon x || isNon y) (v_or (v_cmp (v_var rfl) v_cst (by cases x <;> rfl)) fun _ => v_cmp (v_var rfl) v_cst (by cases y <;> rfl)) (fun hp => wp_ret (r_e (v_an (p := isNon x) (q := isNon y) (v_cmp (v_var rfl) v_cst (by cases x <;> rfl)) fun _ => v_cmp (v_var rfl) v_cst (by cases y <;> rfl)) nofun nofun) (end_ret ?_)) fun h4 => wp_nil ?_
    · cases x <;> cases y <;> first | (cases hp; done) | (cases h1; done) | (cases h2; done) | (cases h3; done) | rfl
    refine wp_iteF (by have := v_two (Φ := callD ds n) (R := rfsOf ds) (env := [.val x, .val y, .no]) (t := .dict) rfl rfl ox oy; rw [hxd, hyd] at this; exact this) (wp_nil ?_)
    cases x with
    | tup l =>
      cases y with
      | tup m =>
        refine wp_iteF (v_or (p := false) (q := false) (v_cmp (v_isi (op_v (v_var rfl)) rfl rfl) (v_isi (op_v (v_var rfl)) rfl rfl) rfl) fun _ => v_cmp (v_isi (op_v (v_var rfl)) rfl rfl) (v_isi (op_v (v_var rfl)) rfl rfl) rfl) (wp_nil ?_)
        refine wp_ite (v_or (p := false) (q := !decide ((l.length : Int) = m.length)) (v_nt (p := true) (v_isi (op_v (v_var rfl)) rfl rfl)) fun _ => v_cmp (v_bi (as_v (v_var rfl) as_nil) rfl (d := _) rfl) (v_bi (as_v (v_var rfl) as_nil) rfl (d := _) rfl) (ne_int _ _)) (fun hp => wp_ret (r_e v_cst nofun nofun) (end_ret ?_)) fun hp => wp_nil ?_
        · rw [sameD, sameDs_len]
          intro e; rw [e] at hp; simp at hp
        · have hl : l.length = m.length := by
            simp only [Bool.false_or, Bool.not_eq_false', decide_eq_true_eq] at hp; omega
          obtain ⟨hs, hi⟩ := H l m rfl rfl hl
          refine wp_ret (r_e (v_bi (as_v (v_compT (List.range l.length) (fun (i : Nat) => D.int i) (fun i => .bl (sameD (l.getD i .non) (m.getD i .non))) (it_rngP (vs_cons (v_bi (as_v (v_var rfl) as_nil) rfl (d := _) rfl) vs_nil) (rng1 _ hs)) rfl rfl rfl (fun i hi' => ⟨[.val (.tup l), .val (.tup m), .val (.int i)], rfl, v_call (as_v (v_sub (d := l.getD i .non) (v_var rfl) (v_var rfl) ?_) (as_v (v_sub (d := m.getD i .non) (v_var rfl) (v_var rfl) ?_) as_nil)) hr rfl (hi i (List.mem_range.mp hi')) (.inl rfl), rfl⟩) (by rw [List.length_range]; exact hs)) as_nil) rfl (d := _) (all_map _ _)) nofun nofun) (end_ret ?_)
          · have := List.mem_range.mp hi'
            exact sub_tupN (by rw [List.getD_eq_getElem?_getD, List.getElem?_eq_getElem this]; rfl)
          · have := List.mem_range.mp hi'
            exact sub_tupN (by rw [List.getD_eq_getElem?_getD, List.getElem?_eq_getElem (by omega)]; rfl)
          · rw [sameD, sameDs_all l m hl]
      | lst m => exact wp_iteT (v_or (p := true) (q := true) (v_cmp (v_isi (op_v (v_var rfl)) rfl rfl) (v_isi (op_v (v_var rfl)) rfl rfl) rfl) nofun) (wp_ret (r_e v_cst nofun nofun) (end_ret rfl))
      | _ => first | (cases h1; done) | (cases h2; done) | (cases h3; done) | (cases h4; done) | (cases k <;> cases hy)
    | lst l =>
      cases y with
      | tup m => exact wp_iteT (v_or (p := true) (q := true) (v_cmp (v_isi (op_v (v_var rfl)) rfl rfl) (v_isi (op_v (v_var rfl)) rfl rfl) rfl) nofun) (wp_ret (r_e v_cst nofun nofun) (end_ret rfl))
      | lst m =>
        refine wp_iteF (v_or (p := false) (q := false) (v_cmp (v_isi (op_v (v_var rfl)) rfl rfl) (v_isi (op_v (v_var rfl)) rfl rfl) rfl) fun _ => v_cmp (v_isi (op_v (v_var rfl)) rfl rfl) (v_isi (op_v (v_var rfl)) rfl rfl) rfl) (wp_nil ?_)
        refine wp_ite (v_or (p := false) (q := !decide ((l.length : Int) = m.length)) (v_nt (p := true) (v_isi (op_v (v_var rfl)) rfl rfl)) fun _ => v_cmp (v_bi (as_v (v_var rfl) as_nil) rfl (d := _) rfl) (v_bi (as_v (v_var rfl) as_nil) rfl (d := _) rfl) (ne_int _ _)) (fun hp => wp_ret (r_e v_cst nofun nofun) (end_ret ?_)) fun hp => wp_nil ?_
        · rw [sameD, sameDs_len]
          intro e; rw [e] at hp; simp at hp
        · have hl : l.length = m.length := by
            simp only [Bool.false_or, Bool.not_eq_false', decide_eq_true_eq] at hp; omega
          obtain ⟨hs, hi⟩ := H l m rfl rfl hl
          refine wp_ret (r_e (v_bi (as_v (v_compT (List.range l.length) (fun (i : Nat) => D.int i) (fun i => .bl (sameD (l.getD i .non) (m.getD i .non))) (it_rngP (vs_cons (v_bi (as_v (v_var rfl) as_nil) rfl (d := _) rfl) vs_nil) (rng1 _ hs)) rfl rfl rfl (fun i hi' => ⟨[.val (.lst l), .val (.lst m), .val (.int i)], rfl, v_call (as_v (v_sub (d := l.getD i .non) (v_var rfl) (v_var rfl) ?_) (as_v (v_sub (d := m.getD i .non) (v_var rfl) (v_var rfl) ?_) as_nil)) hr rfl (hi i (List.mem_range.mp hi')) (.inl rfl), rfl⟩) (by rw [List.length_range]; exact hs)) as_nil) rfl (d := _) (all_map _ _)) nofun nofun) (end_ret ?_)
          · have := List.mem_range.mp hi'
            exact sub_lstN (by rw [List.getD_eq_getElem?_getD, List.getElem?_eq_getElem this]; rfl)
          · have := List.mem_range.mp hi'
            exact sub_lstN (by rw [List.getD_eq_getElem?_getD, List.getElem?_eq_getElem (by omega)]; rfl)
          · rw [sameD, sameDs_all l m hl]
      | _ => first | (cases h1; done) | (cases h2; done) | (cases h3; done) | (cases h4; done) | (cases k <;> cases hy)
    | _ => first | (cases h1; done) | (cases h2; done) | (cases h3; done) | (cases h4; done) | (cases k <;> cases hx))
  subst h2
  exact h1
theorem alike_spec (hd : ds[g]? = some (lAlike g)) (hr : rfsOf ds g = []) : ∀ (k : Nat) (x y : D), pld k x = true → pld k y = true → callD ds (n + k + 1) g [x, y] = some (.bl (sameD x y), [])
  | 0, x, y, hx, hy => alike_body (k := 0) hd hr x y hx hy fun l m h1 h2 _ => by
    cases x <;> first | (cases h1; done) | (cases hx; done)
  | k + 1, x, y, hx, hy => alike_body (k := k + 1) hd hr x y hx hy fun l m h1 h2 hl => by
    have kx : l.all (pld k) = true ∧ l.length ≤ SZ := by
      cases x <;> first | (cases h1; done) | cases h1
      all_goals (simp only [pld, Bool.and_eq_true, decide_eq_true_eq] at hx; exact hx)
    have ky : m.all (pld k) = true ∧ m.length ≤ SZ := by
      cases y <;> first | (cases h2; done) | cases h2
      all_goals (simp only [pld, Bool.and_eq_true, decide_eq_true_eq] at hy; exact hy)
    refine ⟨kx.2, fun i hi => ?_⟩
    obtain ⟨a, _, e1, pa⟩ := pld_get kx.1 hi
    obtain ⟨b, _, e2, pb⟩ := pld_get ky.1 (i := i) (by omega)
    rw [e1, e2]
    exact alike_spec hd hr k a b pa pb
end
/-- the same, and plain: equal -/
theorem same_int {i j : Int} : sameD (.int i) (.int j) = decide (i = j) := by
  simp only [sameD]
  by_cases h : i = j <;> simp [h]
mutual
theorem sameD_refl : ∀ {k : Nat} (d : D), sameD d d = true
  | _, .non => rfl
  | _, .bl b => by simp [sameD]
  | _, .int i => by simp [sameD]
  | _, .str s => by simp [sameD]
  | k, .tup ds => by rw [sameD]; exact sameDs_refl (k := k) ds
  | k, .lst ds => by rw [sameD]; exact sameDs_refl (k := k) ds
  | k, .xtp ds => by rw [sameD]; exact sameDs_refl (k := k) ds
  | k, .dct t ks vs => by rw [sameD, sameDs_refl (k := k) ks, sameDs_refl (k := k) vs]; simp
  | _, .fn f => by simp [sameD]
theorem sameDs_refl : ∀ {k : Nat} (ds : List D), sameDs ds ds = true
  | _, [] => rfl
  | k, d :: ds => by rw [sameDs, sameD_refl (k := k) d, sameDs_refl (k := k) ds]; rfl
end
end Qx
set_option Elab.async false
set_option linter.all false
set_option maxRecDepth 100000
/-! QPl4: rules for function values, starred displays, zip, items, sorted rows, the least of data. -/
namespace Qx
open PySem
section
variable {Φ : Orc} {R : Rfs} {env e1 e2 e3 : En} {d dx dy dz : D}
theorem v_callv {i f : Nat} {es : List E} {as : List A} {ds : List D} {r : D} (h0 : getV env i = some (.fn f)) (h1 : evAs Φ R es env = some (as, e1)) (hr : R f = []) (ha : resAs e1 as = some ds) (h : Φ f ds = some (r, [])) (hl : lent as [] = false ∨ noL r = true) : evE Φ R (.callv i es) env = some (r, e1) := by
  simp only [evE, h0, h1]
  exact callE_plain hr ha h hl
theorem v_tups {es : List E} {st : List Bool} {ds xs : List D} (h1 : evEs Φ R es env = some (ds, e1)) (h2 : flatS ds st = some xs) (h3 : xs.length ≤ SZ) : evE Φ R (.tups es st) env = some (.tup xs, e1) := by
  simp only [evE, h1, h2, if_pos h3]
theorem v_dic {a : E} (h1 : evE Φ R a env = some (dx, e1)) (h2 : dictB dx = some d) : evE Φ R (.dic a) env = some (d, e1) := by
  simp only [evE, h1, h2]
theorem v_idx {a b : E} (h1 : evE Φ R a env = some (dx, e1)) (h2 : evE Φ R b e1 = some (dy, e2)) (h3 : idxD dx dy = some d) : evE Φ R (.idx a b) env = some (d, e2) := by
  simp only [evE, h1, h2, h3]
theorem v_cnt {a b : E} (h1 : evE Φ R a env = some (dx, e1)) (h2 : evE Φ R b e1 = some (dy, e2)) (h3 : cntD dx dy = some d) : evE Φ R (.cnt a b) env = some (d, e2) := by
  simp only [evE, h1, h2, h3]
theorem it_zip {a b : E} {xs : List D} (h1 : evE Φ R a env = some (dx, e1)) (h2 : evE Φ R b e1 = some (dy, e2)) (h3 : zipB dx dy = some xs) : evIt Φ R (.zip a b) env = some (xs, (.v .non, .non), e2) := by
  simp only [evIt, h1, h2, h3]
/-- a pair that a loop hands out -/
theorem putX2 {i j : Nat} {x y : D} (h0 : isO env i = false) (hi : i < env.length) (h1 : isO (env.set i (.val x)) j = false) (hj : j < env.length) : putT (.tp [.nm i, .nm j]) (.xtp [x, y]) env = some ((env.set i (.val x)).set j (.val y)) := by
  have e1 := putN (d := x) h0 hi
  have e2 := putN (d := y) (env := env.set i (.val x)) h1 (by rw [List.length_set]; exact hj)
  simp only [putT] at e1 e2
  simp only [putT, putTs, e1, e2, Option.bind_some]
end
/-- a def of one return -/
theorem call_e {ds : List Df} {n f : Nat} {args : List D} {df : Df} {e : E} {d : D} (env0 : En) (hd : ds[f]? = some df) (ha : args.length = df.np) (hs : startE df args = env0) (hr : df.refs = []) (hb : df.body = [.ret e]) (h : evE (callD ds n) (rfsOf ds) e env0 = some (d, env0)) (h1 : ∀ i, e ≠ .own i := by nofun) (h2 : ∀ es, e ≠ .tup es := by nofun) : callD ds (n + 1) f args = some (d, []) := by
  subst hs
  refine call_ret hd ha (e1 := startE df args) ?_ (by rw [hr]; rfl)
  rw [hb]
  exact ss_ret (s_ret (r_e h h1 h2))
/-! sorted -/
theorem sortI_sorted (l : List Int) : (sortI l).Pairwise (· ≤ ·) := by
  have := List.pairwise_mergeSort (le := fun a b : Int => decide (a ≤ b)) (fun a b c h1 h2 => by simp only [decide_eq_true_eq] at *; omega) (fun a b => by simp only [Bool.or_eq_true, decide_eq_true_eq]; omega) l
  exact this.imp fun h => of_decide_eq_true h
theorem sortI_permP (l : List Int) : (sortI l).Perm l := List.mergeSort_perm l _
theorem mem_sortI {l : List Int} {k : Int} : k ∈ sortI l ↔ k ∈ l := (sortI_permP l).mem_iff
theorem sorted_ints (l : List Int) : biD .sorted [.lst (l.map .int)] = some (.lst ((sortI l).map .int)) := by
  simp only [biD, d1, sortB, seqD, ints_int]
theorem sorted_intsT (l : List Int) : biD .sorted [.tup (l.map .int)] = some (.lst ((sortI l).map .int)) := by
  simp only [biD, d1, sortB, seqD, ints_int]
theorem mem_dedupP {k : Int} : ∀ {ns : List Int}, k ∈ dedup ns ↔ k ∈ ns
  | [] => Iff.rfl
  | a :: r => by
    simp only [dedup]
    split
    · rename_i hc
      rw [mem_dedupP, List.mem_cons]
      refine ⟨.inr, fun z => z.elim (fun e => by subst e; exact List.contains_iff_mem.mp hc) id⟩
    · rw [List.mem_cons, List.mem_cons, mem_dedupP]
theorem nodup_dedupP : ∀ {ns : List Int}, (dedup ns).Nodup
  | [] => List.nodup_nil
  | a :: r => by
    simp only [dedup]
    split
    · exact nodup_dedupP
    · rename_i hc
      refine List.nodup_cons.mpr ⟨fun z => hc (List.contains_iff_mem.mpr (mem_dedupP.mp z)), nodup_dedupP⟩
theorem sset_ints {l : List Int} (h : l.length < 64) : ∃ ms : List Int, biD .sortedSet [.lst (l.map .int)] = some (.lst (ms.map .int)) ∧ ms.Pairwise (· < ·) ∧ (∀ k, k ∈ ms ↔ k ∈ l) ∧ ms.length ≤ l.length := by
  refine ⟨sortI (dedup l), ?_, ?_, fun k => by rw [mem_sortI, mem_dedupP], ?_⟩
  · simp only [biD, d1, sortSetB, ints_int, if_pos h]
  · have h1 := sortI_sorted (dedup l)
    have h2 : (sortI (dedup l)).Nodup := (sortI_permP _).nodup_iff.mpr nodup_dedupP
    exact h1.imp₂ (fun a b => by omega) h2
  · rw [(sortI_permP _).length_eq]
    have : ∀ ns : List Int, (dedup ns).length ≤ ns.length := by
      intro ns
      induction ns with
      | nil => exact Nat.le_refl _
      | cons a r ih =>
        simp only [dedup]
        split <;> simp <;> omega
    exact this l
/-! rows of two ints, as Python compares them -/
def le2 (x y : Int × Int) : Bool := decide (x.1 < y.1 ∨ (x.1 = y.1 ∧ x.2 ≤ y.2))
def pD (x : Int × Int) : D := .tup [.int x.1, .int x.2]
theorem leD_pair (x y : Int × Int) : leD (pD x) (pD y) = le2 x y := by
  have := PySem.W.dataLe_ii (β := Int × Int) (fun p => p.1) (fun p => p.2)
  rw [PySem.W.dataLe_eq] at this
  have := congrFun (congrFun this x) y
  simp only [cond_false] at this
  exact this
theorem le2_trans (a b c : Int × Int) (h1 : le2 a b = true) (h2 : le2 b c = true) : le2 a c = true := by
  simp only [le2, decide_eq_true_eq] at *
  omega
theorem le2_total (a b : Int × Int) : (le2 a b || le2 b a) = true := by
  simp only [le2, Bool.or_eq_true, decide_eq_true_eq]
  omega
theorem pairs_alike (l : List (Int × Int)) : alikeL (l.map pD) = true := by
  unfold alikeL
  simp only [List.all_map, Bool.and_eq_true, List.all_eq_true]
  exact ⟨fun x _ => rfl, fun x _ => List.all_eq_true.mpr fun y _ => rfl⟩
theorem intsD_pair : ∀ (l : List (Int × Int)), l ≠ [] → intsD (l.map pD) = none
  | x :: l, _ => rfl
theorem sorted_pairs (l : List (Int × Int)) : biD .sorted [.lst (l.map pD)] = some (.lst ((l.mergeSort le2).map pD)) := by
  by_cases c : l = []
  · subst c
    have := sorted_ints []
    unfold sortI at this
    rw [List.mergeSort_nil] at this ⊢
    exact this
  · have h1 : (l.mergeSort le2).map pD = (l.map pD).mergeSort leD := List.map_mergeSort fun a _ b _ => (leD_pair a b).symm
    have h2 : srtOk (l.map pD) = true := by
      unfold srtOk
      rw [pairs_alike]
      simp only [List.all_map, Bool.true_and, Bool.or_eq_true, List.all_eq_true]
      exact .inl fun x _ => rfl
    simp only [biD, d1, sortB, seqD, intsD_pair l c, h2, if_true, h1]
theorem sort2_fst (l : List (Int × Int)) : (l.mergeSort le2).Pairwise fun x y => x.1 ≤ y.1 := by
  refine (List.pairwise_mergeSort (le := le2) le2_trans le2_total l).imp fun {a b} h => ?_
  simp only [le2, decide_eq_true_eq] at h
  omega
/-! the least of rows: (cost, persons) -/
def cD (x : Int × List Nat) : D := .tup [.int x.1, .tup (x.2.map fun (p : Nat) => D.int p)]
theorem pds_mapP : ∀ l : List D, pds l = l.map pd
  | [] => rfl
  | d :: l => by simp only [pds, List.map_cons, pds_mapP l]
theorem alike_nats : ∀ (a b : List Nat), PySem.W.alikeAll (pds (a.map fun (p : Nat) => D.int p)) (pds (b.map fun (p : Nat) => D.int p)) = true
  | [], b => by simp only [List.map_nil, pds, PySem.W.alikeAll]
  | x :: a, [] => by simp only [List.map_nil, List.map_cons, pds, PySem.W.alikeAll]
  | x :: a, y :: b => by
    simp only [List.map_cons, pds, pd, PySem.W.alikeAll, PySem.W.alike, Bool.true_and]
    exact alike_nats a b
theorem alike_cD (x y : Int × List Nat) : PySem.W.alike (pd (cD x)) (pd (cD y)) = true := by
  simp only [cD, pd, pds, PySem.W.alike, PySem.W.alikeAll, Bool.true_and, Bool.and_true]
  exact alike_nats _ _
theorem dok_cD (x : Int × List Nat) : dok 40 (cD x) = true := by
  simp only [cD, dok, List.all_cons, List.all_nil, Bool.and_true, Bool.true_and, List.all_map, List.all_eq_true]
  intro p _
  rfl
theorem alikeL_cD (l : List (Int × List Nat)) : alikeL (l.map cD) = true := by
  unfold alikeL
  simp only [List.all_map, Bool.and_eq_true, List.all_eq_true]
  exact ⟨fun x _ => dok_cD x, fun x _ => List.all_eq_true.mpr fun y _ => alike_cD x y⟩
theorem ltD_cD {x y : Int × List Nat} : (ltD (cD x) (cD y) = true → x.1 ≤ y.1) ∧ (ltD (cD x) (cD y) = false → y.1 ≤ x.1) := by
  have h := PySem.W.dataLt_pair (x := .int x.1) (x' := .int y.1) (y := pd (.tup (x.2.map fun (p : Nat) => D.int p))) (y' := pd (.tup (y.2.map fun (p : Nat) => D.int p))) (by simp only [PySem.W.alike]) (by simp only [pd, PySem.W.alike]; exact alike_nats _ _)
  have e : ltD (cD x) (cD y) = PySem.W.dataLt (.tuple [.int x.1, pd (.tup (x.2.map fun (p : Nat) => D.int p))]) (.tuple [.int y.1, pd (.tup (y.2.map fun (p : Nat) => D.int p))]) := rfl
  rw [e, h]
  by_cases c : x.1 = y.1
  · exact ⟨fun _ => by omega, fun _ => by omega⟩
  · have : PyData.eqv (.int x.1) (.int y.1) = false := by
      simp only [PyData.eqv]
      simpa using c
    rw [this, if_neg Bool.false_ne_true, PySem.W.dataLt_int]
    exact ⟨fun z => by have := of_decide_eq_true z; omega, fun z => by have := of_decide_eq_false z; omega⟩
theorem fold_least : ∀ (l : List (Int × List Nat)) (a : Int × List Nat), ∃ x ∈ a :: l, (l.map cD).foldl (fun a y => if ltD y a then y else a) (cD a) = cD x ∧ ∀ y ∈ a :: l, x.1 ≤ y.1
  | [], a => ⟨a, by simp, rfl, by simp⟩
  | b :: l, a => by
    simp only [List.map_cons, List.foldl_cons]
    cases c : ltD (cD b) (cD a) with
    | true =>
      have h := ltD_cD.1 c
      rw [if_pos rfl]
      obtain ⟨x, h1, h2, h3⟩ := fold_least l b
      refine ⟨x, List.mem_cons_of_mem _ h1, h2, fun y hy => ?_⟩
      rcases List.mem_cons.mp hy with e | e
      · subst e; exact Int.le_trans (h3 b (by simp)) h
      · exact h3 y e
    | false =>
      have h := ltD_cD.2 c
      rw [if_neg Bool.false_ne_true]
      obtain ⟨x, h1, h2, h3⟩ := fold_least l a
      refine ⟨x, ?_, h2, fun y hy => ?_⟩
      · rcases List.mem_cons.mp h1 with e | e
        · subst e; simp
        · exact List.mem_cons_of_mem _ (List.mem_cons_of_mem _ e)
      · rcases List.mem_cons.mp hy with e | e
        · subst e; exact h3 y (by simp)
        · rcases List.mem_cons.mp e with e | e
          · subst e; exact Int.le_trans (h3 a (by simp)) h
          · exact h3 y (List.mem_cons_of_mem _ e)
theorem min_cD {l : List (Int × List Nat)} (h : l ≠ []) : ∃ x ∈ l, biD .min [.lst (l.map cD)] = some (cD x) ∧ ∀ y ∈ l, x.1 ≤ y.1 := by
  cases l with
  | nil => exact (h rfl).elim
  | cons a l =>
    obtain ⟨x, h1, h2, h3⟩ := fold_least l a
    refine ⟨x, h1, ?_, h3⟩
    have e1 : intsD ((a :: l).map cD) = none := rfl
    have e2 : (alikeL ((a :: l).map cD) && ((a :: l).map cD).all isOthT) = true := by
      rw [alikeL_cD, Bool.true_and, List.all_map, List.all_eq_true]
      intro y _
      rfl
    simp only [biD, d1, minB, e1]
    rw [List.map_cons] at e2 ⊢
    simp only [minDs, e2, if_true, h2]
/-! min and max of ints -/
theorem min_ints {l : List Int} (h : l ≠ []) : ∃ k ∈ l, biD .min [.lst (l.map .int)] = some (.int k) ∧ ∀ j ∈ l, k ≤ j := by
  cases l with
  | nil => exact (h rfl).elim
  | cons a r =>
    have fold : ∀ (r : List Int) (a : Int), ∃ k ∈ a :: r, r.foldl (fun x y => if y < x then y else x) a = k ∧ ∀ j ∈ a :: r, k ≤ j := by
      intro r
      induction r with
      | nil => exact fun a => ⟨a, by simp, rfl, by simp⟩
      | cons b r ih =>
        intro a
        obtain ⟨k, h1, h2, h3⟩ := ih (if b < a then b else a)
        refine ⟨k, ?_, h2, fun j hj => ?_⟩
        · rcases List.mem_cons.mp h1 with e | e
          · rw [e]; split <;> simp
          · exact List.mem_cons_of_mem _ (List.mem_cons_of_mem _ e)
        · have hm := h3 _ (List.mem_cons_self)
          rcases List.mem_cons.mp hj with e | e
          · subst e; split at hm <;> omega
          · rcases List.mem_cons.mp e with e | e
            · subst e; split at hm <;> omega
            · exact h3 j (List.mem_cons_of_mem _ e)
    obtain ⟨k, h1, h2, h3⟩ := fold r a
    refine ⟨k, h1, ?_, h3⟩
    simp only [biD, d1, minB, ints_int, minI, h2, Option.map_some]
end Qx
set_option linter.all false
open PySem Qx
namespace K75
def k5is_whole : Df := ⟨(Str.ofString "is_whole"), 1, 1, [], false, [
  .ret (.an (.isi (.var 0) [.int]) (.nt (.isi (.var 0) [.bool])))]⟩
def k5is_between : Df := ⟨(Str.ofString "is_between"), 3, 3, [], false, [
  .ret (.an (.call 0 [(.var 0)] []) (.chn .le .le (.var 1) (.var 0) (.var 2)))]⟩
def k5is_tuple_of : Df := ⟨(Str.ofString "is_tuple_of"), 2, 2, [], false, [
  .ret (.an (.isi (.var 0) [.tuple]) (.cmp .eq (.bi .len [(.var 0)]) (.var 1)))]⟩
def k5are_between : Df := ⟨(Str.ofString "are_between"), 4, 5, [], false, [
  .ret (.an (.call 2 [(.var 0), (.var 1)] []) (.bi .all [(.comp (.call 1 [(.var 4), (.var 2), (.var 3)] []) [4] (.nm 4) (.seq (.var 0)) (.cst (.bl true)))]))]⟩
def k5are_rising : Df := ⟨(Str.ofString "are_rising"), 1, 2, [], false, [
  .ret (.bi .all [(.comp (.cmp .lt (.sub (.var 0) (.bin .sub (.var 1) (.cst (.int 1)))) (.sub (.var 0) (.var 1))) [1] (.nm 1) (.rng [(.cst (.int 1)), (.bi .len [(.var 0)])]) (.cst (.bl true)))])]⟩
def k5first_wrong : Df := ⟨(Str.ofString "first_wrong"), 5, 7, [], true, [
  .ite (.or (.nt (.isi (.var 0) [.tuple])) (.nt (.chn .le .le (.var 1) (.bi .len [(.var 0)]) (.var 2)))) [.ret (.lst [(.cst .non)])] [],
  .for_ (.tp [(.nm 5), (.nm 6)]) (.enu (.var 0)) [.ite (.or (.nt (.callv 3 [(.var 6)])) (.an (.var 4) (.an (.cmp .gt (.var 5) (.cst (.int 0))) (.cmp .le (.var 6) (.sub (.var 0) (.bin .sub (.var 5) (.cst (.int 1)))))))) [.ret (.lst [(.var 5)])] []],
  .ret (.lst [])]⟩
def k5is_stay : Df := ⟨(Str.ofString "is_stay"), 1, 1, [], false, [
  .ret (.an (.call 3 [(.var 0), (.cst (.int 2)), (.cst (.int 0)), (.cst (.int 9999))] []) (.cmp .le (.sub (.var 0) (.cst (.int 0))) (.sub (.var 0) (.cst (.int 1)))))]⟩
def k5wrong_in_stays : Df := ⟨(Str.ofString "wrong_in_stays"), 1, 1, [], false, [
  .ret (.call 5 [(.var 0), (.cst (.int 1)), (.cst (.int 9)), (.cst (.fn 6)), (.cst (.bl false))] [])]⟩
def k5has_moment : Df := ⟨(Str.ofString "has_moment"), 2, 2, [], false, [
  .ret (.chn .le .le (.sub (.var 0) (.cst (.int 0))) (.var 1) (.sub (.var 0) (.cst (.int 1))))]⟩
def k5is_moment : Df := ⟨(Str.ofString "is_moment"), 1, 1, [], false, [
  .ret (.call 1 [(.var 0), (.cst (.int 0)), (.cst (.int 9999))] [])]⟩
def k5price_within : Df := ⟨(Str.ofString "price_within"), 2, 4, [], false, [
  .ret (.bi .sum [(.comp (.var 3) [2, 3] (.tp [(.nm 2), (.nm 3)]) (.itms (.var 1)) (.call 8 [(.var 0), (.var 2)] []))])]⟩
def k5is_price : Df := ⟨(Str.ofString "is_price"), 1, 1, [], false, [
  .ret (.an (.call 2 [(.var 0), (.cst (.int 2))] []) (.an (.call 9 [(.sub (.var 0) (.cst (.int 0)))] []) (.an (.call 0 [(.sub (.var 0) (.cst (.int 1)))] []) (.cmp .gt (.sub (.var 0) (.cst (.int 1))) (.cst (.int 0))))))]⟩
def k5are_prices : Df := ⟨(Str.ofString "are_prices"), 1, 4, [], false, [
  .ite (.or (.nt (.isi (.var 0) [.tuple])) (.nt (.bi .all [(.comp (.call 11 [(.var 3)] []) [3] (.nm 3) (.seq (.var 0)) (.cst (.bl true)))]))) [.ret (.cst (.bl false))] [],
  .ret (.call 4 [(.comp (.var 1) [1, 2] (.tp [(.nm 1), (.nm 2)]) (.seq (.var 0)) (.cst (.bl true)))] [])]⟩
def k5is_cost : Df := ⟨(Str.ofString "is_cost"), 1, 1, [], false, [
  .ret (.call 1 [(.var 0), (.cst (.int 0)), (.cst (.int 9999))] [])]⟩
def k5wrong_in_costs : Df := ⟨(Str.ofString "wrong_in_costs"), 2, 2, [], false, [
  .ret (.call 5 [(.var 1), (.bi .len [(.var 0)]), (.bi .len [(.var 0)]), (.cst (.fn 13)), (.cst (.bl false))] [])]⟩
def k5are_fair_by : Df := ⟨(Str.ofString "are_fair_by"), 3, 5, [], false, [
  .ite (.nt (.call 12 [(.var 2)] [])) [.ret (.cst (.bl false))] [],
  .ret (.bi .all [(.comp (.cmp .le (.call 10 [(.var 3), (.dic (.var 2))] []) (.var 4)) [3, 4] (.tp [(.nm 3), (.nm 4)]) (.zip (.var 0) (.var 1)) (.cst (.bl true)))])]⟩
def k5moments_asked : Df := ⟨(Str.ofString "moments_asked"), 3, 7, [], true, [
  .new 3 (.lst [(.var 1), (.var 2)]),
  .for_ (.tp [(.nm 4), (.nm 5)]) (.seq (.var 0)) [.exp (.mm .extend 3 [(.lst [(.bin .sub (.var 4) (.cst (.int 1))), (.var 5), (.bin .add (.var 5) (.cst (.int 1)))])])],
  .ret (.comp (.var 6) [6] (.nm 6) (.seq (.bi .sortedSet [(.own 3)])) (.chn .le .le (.var 1) (.var 6) (.var 2)))]⟩
def k5covers_with : Df := ⟨(Str.ofString "covers_with"), 5, 6, [], true, [
  .asg (.tn (.nm 5)) (.ite (.cmp .gt (.sub (.sub (.var 0) (.var 3)) (.cst (.int 0))) (.var 2)) (.sub (.var 4) (.bin .sub (.sub (.sub (.var 0) (.var 3)) (.cst (.int 0))) (.cst (.int 1)))) (.tup [(.cst (.int 0)), (.tup [])])),
  .ret (.ite (.cmp .isn (.var 5) (.cst .non)) (.lst [(.tup [(.bin .add (.sub (.var 5) (.cst (.int 0))) (.sub (.var 1) (.var 3))), (.tups [(.sub (.var 5) (.cst (.int 1))), (.var 3)] [true, false])])]) (.lst []))]⟩
def k5cheapest_up_to : Df := ⟨(Str.ofString "cheapest_up_to"), 5, 8, [], false, [
  .new 5 (.lst []),
  .for_ (.tp [(.nm 6), (.nm 7)]) (.enu (.var 0)) [.ite (.call 8 [(.var 7), (.var 3)] []) [.exp (.mm .extend 5 [(.call 17 [(.var 0), (.var 1), (.var 2), (.var 6), (.var 4)] [])])] []],
  .ret (.ite (.cmp .ne (.own 5) (.lst [])) (.bi .min [(.own 5)]) (.cst .non))]⟩
def k5cheapest_covers : Df := ⟨(Str.ofString "cheapest_covers"), 4, 6, [], true, [
  .new 4 (.dct false []),
  .for_ (.nm 5) (.seq (.call 16 [(.var 0), (.var 2), (.var 3)] [])) [.asg (.sb 4 (.var 5)) (.call 18 [(.var 0), (.var 1), (.var 2), (.var 5), (.own 4)] [])],
  .ret (.own 4)]⟩
def k5least_cost_by : Df := ⟨(Str.ofString "least_cost_by"), 4, 5, [], false, [
  .asg (.tn (.nm 4)) (.sub (.call 19 [(.var 0), (.var 1), (.var 2), (.var 3)] []) (.var 3)),
  .ret (.ite (.cmp .isn (.var 4) (.cst .non)) (.sub (.var 4) (.cst (.int 0))) (.cst .non))]⟩
def k5cheapest_cover_by : Df := ⟨(Str.ofString "cheapest_cover_by"), 4, 5, [], false, [
  .asg (.tn (.nm 4)) (.sub (.call 19 [(.var 0), (.var 1), (.var 2), (.var 3)] []) (.var 3)),
  .ret (.ite (.cmp .isn (.var 4) (.cst .non)) (.bi .tuple [(.bi .sorted [(.sub (.var 4) (.cst (.int 1)))])]) (.cst .non))]⟩
def k5moments_priced : Df := ⟨(Str.ofString "moments_priced"), 3, 6, [], true, [
  .asg (.tn (.nm 3)) (.bi .sortedSet [(.bin .add (.lst [(.var 1)]) (.comp (.bin .add (.sub (.var 5) (.cst (.int 1))) (.cst (.int 1))) [5] (.nm 5) (.seq (.var 0)) (.cst (.bl true))))]),
  .ret (.comp (.var 4) [4] (.nm 4) (.seq (.var 3)) (.chn .le .le (.var 1) (.var 4) (.var 2)))]⟩
def k5moment_prices_by : Df := ⟨(Str.ofString "moment_prices_by"), 4, 8, [], false, [
  .asg (.tn (.nm 4)) (.call 19 [(.var 0), (.var 1), (.var 2), (.var 3)] []),
  .ite (.cmp .is (.sub (.var 4) (.var 3)) (.cst .non)) [.ret (.cst .non)] [],
  .new 5 (.lst []),
  .for_ (.nm 6) (.seq (.call 22 [(.var 0), (.var 2), (.var 3)] [])) [.asg (.tn (.nm 7)) (.bin .sub (.sub (.sub (.var 4) (.var 6)) (.cst (.int 0))) (.ite (.cmp .gt (.var 6) (.var 2)) (.sub (.sub (.var 4) (.bin .sub (.var 6) (.cst (.int 1)))) (.cst (.int 0))) (.cst (.int 0)))), .ite (.cmp .gt (.var 7) (.cst (.int 0))) [.exp (.mm .append 5 [(.tup [(.var 6), (.var 7)])])] []],
  .ret (.bi .tuple [(.own 5)])]⟩
def k5check_stays : Df := ⟨(Str.ofString "check_stays"), 1, 2, [], false, [
  .for_ (.nm 1) (.seq (.call 7 [(.var 0)] [])) [.bad]]⟩
def k5check_number : Df := ⟨(Str.ofString "check_number"), 3, 3, [], false, [
  .ite (.nt (.call 1 [(.var 0), (.var 1), (.var 2)] [])) [.bad] []]⟩
def k5check_costs : Df := ⟨(Str.ofString "check_costs"), 2, 3, [], false, [
  .exp (.call 24 [(.var 0)] []),
  .for_ (.nm 2) (.seq (.call 14 [(.var 0), (.var 1)] [])) [.bad]]⟩
def k5check_asked : Df := ⟨(Str.ofString "check_asked"), 4, 4, [], false, [
  .exp (.call 26 [(.var 0), (.var 1)] []),
  .exp (.call 25 [(.var 2), (.cst (.int 0)), (.cst (.int 9999))] []),
  .exp (.call 25 [(.var 3), (.var 2), (.cst (.int 9999))] [])]⟩
def k5least_cost : Df := ⟨(Str.ofString "least_cost"), 4, 4, [], false, [
  .exp (.call 27 [(.var 0), (.var 1), (.var 2), (.var 3)] []),
  .ret (.call 20 [(.var 0), (.var 1), (.var 2), (.var 3)] [])]⟩
def k5cheapest_cover : Df := ⟨(Str.ofString "cheapest_cover"), 4, 4, [], false, [
  .exp (.call 27 [(.var 0), (.var 1), (.var 2), (.var 3)] []),
  .ret (.call 21 [(.var 0), (.var 1), (.var 2), (.var 3)] [])]⟩
def k5moment_prices : Df := ⟨(Str.ofString "moment_prices"), 4, 4, [], false, [
  .exp (.call 27 [(.var 0), (.var 1), (.var 2), (.var 3)] []),
  .ret (.call 23 [(.var 0), (.var 1), (.var 2), (.var 3)] [])]⟩
def k5are_fair : Df := ⟨(Str.ofString "are_fair"), 3, 3, [], false, [
  .exp (.call 26 [(.var 0), (.var 1)] []),
  .ret (.call 15 [(.var 0), (.var 1), (.var 2)] [])]⟩
def k5_law_pool : Df := ⟨(Str.ofString "_law_pool"), 2, 5, [], true, [
  .asg (.tn (.nm 2)) (.bin .add (.bin .mul (.cst (.int 7)) (.var 1)) (.bin .mul (.cst (.int 3)) (.bi .len [(.var 0)]))),
  .ite (.cmp .lt (.var 1) (.bi .len [(.var 0)])) [.asg (.tn (.nm 2)) (.sub (.var 0) (.var 1))] [],
  .asg (.tn (.nm 3)) (.bi .abs [(.var 2)]),
  .asg (.tn (.nm 4)) (.bin .mod (.bi .int [(.bin .add (.bin .add (.bin .add (.bin .mul (.var 3) (.cst (.int 48271))) (.bin .mul (.cst (.int 16807)) (.var 1))) (.bin .mul (.cst (.int 11)) (.bi .int [(.cmp .lt (.var 2) (.cst (.int 0)))]))) (.cst (.int 1)))]) (.cst (.int 2305843009213693951))),
  .ite (.cmp .ge (.var 3) (.cst (.int 1000000000000000000))) [.ret (.lst [(.bin .add (.bin .mul (.cst (.int 2)) (.bin .sub (.var 3) (.cst (.int 1000000000000000000)))) (.bi .int [(.cmp .lt (.var 2) (.cst (.int 0)))])), (.var 4)])] [],
  .ret (.lst [(.cst (.int 0)), (.var 4)])]⟩
def k5_law_take : Df := ⟨(Str.ofString "_law_take"), 2, 4, [0], false, [
  .ite (.cmp .gt (.sub (.own 0) (.cst (.int 0))) (.cst (.int 1))) [.asg (.tn (.nm 2)) (.bin .mod (.bi .int [(.sub (.own 0) (.cst (.int 0)))]) (.var 1)), .asg (.sb 0 (.cst (.int 0))) (.bin .fdiv (.sub (.own 0) (.cst (.int 0))) (.var 1)), .ret (.var 2)] [],
  .asg (.tn (.nm 2)) (.cst (.int 0)),
  .asg (.tn (.nm 3)) (.cst (.int 1)),
  .whl (.cmp .lt (.var 3) (.bin .mul (.cst (.int 16777216)) (.var 1))) [.asg (.sb 0 (.cst (.int 1))) (.bin .mod (.bi .int [(.bin .add (.bin .mul (.sub (.own 0) (.cst (.int 1))) (.cst (.int 6364136223846793005))) (.cst (.int 1442695040888963407)))]) (.cst (.int 18446744073709551616))), .asg (.tn (.nm 2)) (.bin .add (.bin .mul (.var 2) (.cst (.int 16777216))) (.bin .fdiv (.sub (.own 0) (.cst (.int 1))) (.cst (.int 1099511627776)))), .asg (.tn (.nm 3)) (.bin .mul (.var 3) (.cst (.int 16777216)))],
  .ret (.bin .mod (.bi .int [(.var 2)]) (.var 1))]⟩
def k5_law_alike : Df := ⟨(Str.ofString "_law_alike"), 2, 3, [], false, [
  .ite (.or (.isi (.var 0) [.bool]) (.isi (.var 1) [.bool])) [.ret (.an (.isi (.var 0) [.bool]) (.an (.isi (.var 1) [.bool]) (.cmp .eq (.var 0) (.var 1))))] [],
  .ite (.or (.isi (.var 0) [.int]) (.isi (.var 1) [.int])) [.ret (.an (.isi (.var 0) [.int]) (.an (.isi (.var 1) [.int]) (.cmp .eq (.var 0) (.var 1))))] [],
  .ite (.or (.isi (.var 0) [.str]) (.isi (.var 1) [.str])) [.ret (.an (.isi (.var 0) [.str]) (.an (.isi (.var 1) [.str]) (.cmp .eq (.var 0) (.var 1))))] [],
  .ite (.or (.cmp .is (.var 0) (.cst .non)) (.cmp .is (.var 1) (.cst .non))) [.ret (.an (.cmp .is (.var 0) (.cst .non)) (.cmp .is (.var 1) (.cst .non)))] [],
  .ite (.or (.isi (.var 0) [.dict]) (.isi (.var 1) [.dict])) [.ret (.an (.isi (.var 0) [.dict]) (.an (.isi (.var 1) [.dict]) (.chn .eq .eq (.bi .len [(.var 0)]) (.bi .len [(.var 1)]) (.cst (.int 0)))))] [],
  .ite (.or (.cmp .ne (.isi (.var 0) [.tuple]) (.isi (.var 1) [.tuple])) (.cmp .ne (.isi (.var 0) [.list]) (.isi (.var 1) [.list]))) [.ret (.cst (.bl false))] [],
  .ite (.or (.nt (.isi (.var 0) [.tuple, .list])) (.cmp .ne (.bi .len [(.var 0)]) (.bi .len [(.var 1)]))) [.ret (.cst (.bl false))] [],
  .ret (.bi .all [(.comp (.call 34 [(.sub (.var 0) (.var 2)), (.sub (.var 1) (.var 2))] []) [2] (.nm 2) (.rng [(.bi .len [(.var 0)])]) (.cst (.bl true)))])]⟩
def k5_law_whole : Df := ⟨(Str.ofString "_law_whole"), 1, 1, [], false, [
  .ret (.an (.isi (.var 0) [.int]) (.nt (.isi (.var 0) [.bool])))]⟩
def k5_law_says : Df := ⟨(Str.ofString "_law_says"), 2, 2, [], false, [
  .ret (.an (.isi (.var 0) [.bool]) (.cmp .eq (.var 0) (.var 1)))]⟩
def k5_law_stays : Df := ⟨(Str.ofString "_law_stays"), 3, 7, [0], false, [
  .new 3 (.lst []),
  .for_ (.nm 4) (.rng [(.var 1)]) [.par [(5, false), (6, false)] [(.call 33 [(.own 0), (.var 2)] []), (.call 33 [(.own 0), (.var 2)] [])], .exp (.mm .append 3 [(.tup [(.bi .min2 [(.var 5), (.var 6)]), (.bi .max2 [(.var 5), (.var 6)])])])],
  .ret (.bi .tuple [(.own 3)])]⟩
def k5_law_is_number : Df := ⟨(Str.ofString "_law_is_number"), 2, 2, [], false, [
  .ret (.an (.call 35 [(.var 0)] []) (.chn .le .le (.cst (.int 0)) (.var 0) (.var 1)))]⟩
def k5_law_lots : Df := ⟨(Str.ofString "_law_lots"), 1, 4, [], false, [
  .asg (.tn (.nm 1)) (.lst [(.tup [])]),
  .for_ (.nm 2) (.rng [(.var 0)]) [.asg (.tn (.nm 1)) (.bin .add (.var 1) (.comp (.bin .add (.var 3) (.tup [(.var 2)])) [3] (.nm 3) (.seq (.var 1)) (.cst (.bl true))))],
  .ret (.var 1)]⟩
def k5_law_covers : Df := ⟨(Str.ofString "_law_covers"), 4, 8, [], false, [
  .asg (.tn (.nm 4)) (.var 2),
  .for_ (.tp [(.nm 5), (.nm 6)]) (.seq (.bi .sorted [(.comp (.sub (.var 0) (.var 7)) [7] (.nm 7) (.seq (.var 1)) (.cst (.bl true)))])) [.ite (.chn .le .le (.var 5) (.var 4) (.var 6)) [.asg (.tn (.nm 4)) (.bin .add (.var 6) (.cst (.int 1)))] []],
  .ret (.cmp .gt (.var 4) (.var 3))]⟩
def k5_law_are_fair : Df := ⟨(Str.ofString "_law_are_fair"), 3, 10, [], false, [
  .ite (.nt (.isi (.var 2) [.tuple])) [.ret (.cst (.bl false))] [],
  .asg (.tn (.nm 3)) (.neg (.cst (.int 1))),
  .for_ (.nm 4) (.seq (.var 2)) [.ite (.or (.nt (.isi (.var 4) [.tuple])) (.or (.cmp .ne (.bi .len [(.var 4)]) (.cst (.int 2))) (.or (.nt (.call 38 [(.sub (.var 4) (.cst (.int 0))), (.cst (.int 9999))] [])) (.or (.cmp .le (.sub (.var 4) (.cst (.int 0))) (.var 3)) (.or (.nt (.call 35 [(.sub (.var 4) (.cst (.int 1)))] [])) (.cmp .lt (.sub (.var 4) (.cst (.int 1))) (.cst (.int 1)))))))) [.ret (.cst (.bl false))] [], .asg (.tn (.nm 3)) (.sub (.var 4) (.cst (.int 0)))],
  .for_ (.tp [(.tp [(.nm 6), (.nm 7)]), (.nm 5)]) (.zip (.var 0) (.var 1)) [.ite (.cmp .gt (.bi .sum [(.comp (.var 9) [8, 9] (.tp [(.nm 8), (.nm 9)]) (.seq (.var 2)) (.chn .le .le (.var 6) (.var 8) (.var 7)))]) (.var 5)) [.ret (.cst (.bl false))] []],
  .ret (.cst (.bl true))]⟩
def k5_law_costs : Df := ⟨(Str.ofString "_law_costs"), 2, 4, [0], false, [
  .asg (.tn (.nm 2)) (.sub (.tup [(.cst (.int 2)), (.cst (.int 9)), (.cst (.int 9999))]) (.call 33 [(.own 0), (.cst (.int 3))] [])),
  .ret (.bi .tuple [(.comp (.sub (.tup [(.call 33 [(.own 0), (.bin .add (.var 2) (.cst (.int 1)))] []), (.bin .add (.cst (.int 1)) (.call 33 [(.own 0), (.var 2)] [])), (.cst (.int 0))]) (.bi .min2 [(.cst (.int 2)), (.bin .fdiv (.call 33 [(.own 0), (.cst (.int 6))] []) (.cst (.int 2)))])) [3] (.nm 3) (.rng [(.var 1)]) (.cst (.bl true)))])]⟩
def k5_law_chain : Df := ⟨(Str.ofString "_law_chain"), 3, 8, [0], false, [
  .par [(5, true), (6, false)] [(.lst []), (.cst (.int 0))],
  .for_ (.nm 3) (.rng [(.var 1)]) [.asg (.tn (.nm 7)) (.bin .add (.var 6) (.call 33 [(.own 0), (.var 2)] [])), .exp (.mm .append 5 [(.tup [(.bi .max2 [(.cst (.int 0)), (.bin .sub (.var 6) (.call 33 [(.own 0), (.var 2)] []))]), (.var 7)])]), .asg (.tn (.nm 6)) (.bin .add (.var 7) (.call 33 [(.own 0), (.cst (.int 2))] []))],
  .new 4 (.lst []),
  .whl (.cmp .ne (.own 5) (.lst [])) [.exp (.mm .append 4 [(.mm .pop1 5 [(.call 33 [(.own 0), (.bi .len [(.own 5)])] [])])])],
  .ret (.bi .tuple [(.own 4)])]⟩
def k5_law_bent : Df := ⟨(Str.ofString "_law_bent"), 2, 8, [0], true, [
  .new 2 (.lst [(.var 1), (.rev (.var 1) (.cst .non)), (.slc (.var 1) (.cst (.int 1)) (.cst .non)), (.bin .add (.var 1) (.slc (.var 1) (.cst .non) (.cst (.int 1)))), (.bi .list [(.var 1)]), (.tup []), (.cst .non), (.cst (.int 0)), (.cst (.str (Str.ofString "prices"))), (.tup [(.var 1)]), (.tup [(.tup [(.cst (.int 3)), (.cst (.int 5))])]), (.tup [(.tup [(.cst (.int 0)), (.cst (.int 1))]), (.tup [(.cst (.int 1)), (.cst (.int 1))]), (.tup [(.cst (.int 2)), (.cst (.int 1))])]), (.tup [(.tup [(.cst (.int 9999)), (.cst (.int 1))])]), (.tup [(.tup [(.cst (.int 10000)), (.cst (.int 1))])])]),
  .ite (.cmp .ne (.var 1) (.tup [])) [.asg (.tn (.nm 3)) (.call 33 [(.own 0), (.bi .len [(.var 1)])] []), .asg (.tn (.tp [(.nm 6), (.nm 7)])) (.sub (.var 1) (.var 3)), .asg (.tn (.nm 4)) (.lst [(.tup [(.var 6), (.bin .add (.var 7) (.cst (.int 1)))]), (.tup [(.var 6), (.cst (.int 0))]), (.tup [(.var 6), (.neg (.cst (.int 1)))]), (.tup [(.bin .add (.var 6) (.cst (.int 1))), (.var 7)]), (.tup [(.var 6), (.cst (.bl true))]), (.tup [(.cst (.bl true)), (.var 7)]), (.tup [(.var 6)])]), .for_ (.nm 5) (.seq (.bin .add (.var 4) (.lst [(.tup [(.var 6), (.var 7), (.cst (.int 0))]), (.lst [(.var 6), (.var 7)]), (.tup [(.bi .str [(.var 6)]), (.var 7)]), (.cst .non), (.tup [(.var 6), (.cst .non)]), (.tup [(.neg (.cst (.int 1))), (.var 7)])]))) [.exp (.mm .append 2 [(.bin .add (.bin .add (.slc (.var 1) (.cst .non) (.var 3)) (.tup [(.var 5)])) (.slc (.var 1) (.bin .add (.var 3) (.cst (.int 1))) (.cst .non)))])]] [],
  .ret (.own 2)]⟩
def k5_law_one : Df := ⟨(Str.ofString "_law_one"), 5, 16, [0], false, [
  .asg (.tn (.nm 5)) (.bi .len [(.var 1)]),
  .asg (.tn (.nm 6)) (.comp (.bi .sum [(.comp (.sub (.var 2) (.var 13)) [13] (.nm 13) (.seq (.var 11)) (.cst (.bl true)))]) [11] (.nm 11) (.seq (.call 39 [(.var 5)] [])) (.call 40 [(.var 1), (.var 11), (.var 3), (.var 4)] [])),
  .asg (.tn (.nm 7)) (.cst .non),
  .ite (.cmp .ne (.var 6) (.lst [])) [.asg (.tn (.nm 7)) (.bi .min [(.var 6)])] [],
  .ite (.nt (.call 34 [(.tup [(.call 28 [(.var 1), (.var 2), (.var 3), (.var 4)] []), (.call 28 [(.var 4), (.var 3), (.var 2), (.var 1)] [3, 2, 1, 0])]), (.tup [(.var 7), (.var 7)])] [])) [.ret (.cst (.bl false))] [],
  .par [(11, false), (12, false)] [(.call 29 [(.var 1), (.var 2), (.var 3), (.var 4)] []), (.call 30 [(.var 1), (.var 2), (.var 3), (.var 4)] [])],
  .ite (.cmp .is (.var 7) (.cst .non)) [.ret (.an (.cmp .is (.var 11) (.cst .non)) (.cmp .is (.var 12) (.cst .non)))] [],
  .ite (.or (.nt (.isi (.var 11) [.tuple])) (.or (.nt (.bi .all [(.comp (.call 38 [(.var 13), (.bin .sub (.var 5) (.cst (.int 1)))] []) [13] (.nm 13) (.seq (.var 11)) (.cst (.bl true)))])) (.or (.cmp .ne (.bi .sorted [(.var 11)]) (.bi .list [(.var 11)])) (.bi .any [(.comp (.cmp .gt (.cnt (.var 11) (.var 13)) (.cst (.int 1))) [13] (.nm 13) (.seq (.var 11)) (.cst (.bl true)))])))) [.ret (.cst (.bl false))] [],
  .ite (.or (.nt (.call 40 [(.var 1), (.var 11), (.var 3), (.var 4)] [])) (.cmp .ne (.bi .sum [(.comp (.sub (.var 2) (.var 13)) [13] (.nm 13) (.seq (.var 11)) (.cst (.bl true)))]) (.var 7))) [.ret (.cst (.bl false))] [],
  .ite (.or (.nt (.call 41 [(.var 1), (.var 2), (.var 12)] [])) (.or (.cmp .ne (.bi .sum [(.comp (.var 15) [14, 15] (.tp [(.nm 14), (.nm 15)]) (.seq (.var 12)) (.cst (.bl true)))]) (.var 7)) (.nt (.bi .all [(.comp (.chn .le .le (.var 3) (.var 14) (.var 4)) [14, 15] (.tp [(.nm 14), (.nm 15)]) (.seq (.var 12)) (.cst (.bl true)))])))) [.ret (.cst (.bl false))] [],
  .for_ (.nm 8) (.seq (.call 44 [(.own 0), (.var 12)] [])) [.ite (.nt (.call 36 [(.call 31 [(.var 1), (.var 2), (.var 8)] []), (.call 41 [(.var 1), (.var 2), (.var 8)] [])] [])) [.ret (.cst (.bl false))] []],
  .ite (.cmp .isn (.call 31 [(.var 12), (.var 2), (.var 1)] [2, 1, 0]) (.cst (.bl true))) [.ret (.cst (.bl false))] [],
  .asg (.tn (.nm 9)) (.call 33 [(.own 0), (.var 5)] []),
  .asg (.tn (.nm 10)) (.bin .add (.bin .add (.slc (.var 2) (.cst .non) (.var 9)) (.tup [(.bi .min2 [(.cst (.int 9999)), (.bin .add (.bin .add (.sub (.var 2) (.var 9)) (.cst (.int 1))) (.call 33 [(.own 0), (.cst (.int 5))] []))])])) (.slc (.var 2) (.bin .add (.var 9) (.cst (.int 1))) (.cst .non))),
  .ret (.chn .le .le (.var 7) (.call 28 [(.var 1), (.var 10), (.var 3), (.var 4)] []) (.bin .sub (.bin .add (.var 7) (.sub (.var 10) (.var 9))) (.sub (.var 2) (.var 9))))]⟩
def k5law : Df := ⟨(Str.ofString "law"), 1, 12, [], false, [
  .for_ (.nm 1) (.rng [(.bi .min2 [(.cst (.int 12)), (.bi .max2 [(.cst (.int 4)), (.bi .len [(.var 0)])])])]) [.new 2 (.call 32 [(.var 0), (.var 1)] []), .asg (.tn (.nm 3)) (.bin .add (.cst (.int 1)) (.call 33 [(.own 2), (.sub (.tup [(.cst (.int 5)), (.cst (.int 9))]) (.bi .int [(.cmp .eq (.var 1) (.cst (.int 0)))]))] [])), .asg (.tn (.nm 4)) (.sub (.tup [(.cst (.int 2)), (.cst (.int 4)), (.cst (.int 9)), (.cst (.int 1000))]) (.call 33 [(.own 2), (.cst (.int 4))] [])), .for_ (.nm 5) (.seq (.tup [(.call 43 [(.own 2), (.var 3), (.var 4)] []), (.call 37 [(.own 2), (.var 3), (.bin .mul (.cst (.int 2)) (.var 4))] [])])) [.par [(8, false), (9, false)] [(.call 42 [(.own 2), (.var 3)] []), (.bi .max [(.comp (.var 11) [10, 11] (.tp [(.nm 10), (.nm 11)]) (.seq (.var 5)) (.cst (.bl true)))])], .asg (.tn (.nm 6)) (.call 33 [(.own 2), (.bi .min2 [(.cst (.int 9)), (.bin .add (.var 9) (.cst (.int 1)))])] []), .asg (.tn (.nm 7)) (.sub (.tup [(.var 6), (.bi .min2 [(.cst (.int 9999)), (.bin .add (.var 6) (.call 33 [(.own 2), (.bin .add (.cst (.int 1)) (.var 9))] []))]), (.bi .max2 [(.var 6), (.var 9)])]) (.call 33 [(.own 2), (.cst (.int 3))] [])), .ite (.nt (.call 45 [(.own 2), (.var 5), (.var 8), (.var 6), (.var 7)] [])) [.ret (.cst (.bl false))] []]],
  .ret (.cst (.bl true))]⟩
def k5ds : List Df := [k5is_whole, k5is_between, k5is_tuple_of, k5are_between, k5are_rising, k5first_wrong, k5is_stay, k5wrong_in_stays, k5has_moment, k5is_moment, k5price_within, k5is_price, k5are_prices, k5is_cost, k5wrong_in_costs, k5are_fair_by, k5moments_asked, k5covers_with, k5cheapest_up_to, k5cheapest_covers, k5least_cost_by, k5cheapest_cover_by, k5moments_priced, k5moment_prices_by, k5check_stays, k5check_number, k5check_costs, k5check_asked, k5least_cost, k5cheapest_cover, k5moment_prices, k5are_fair, k5_law_pool, k5_law_take, k5_law_alike, k5_law_whole, k5_law_says, k5_law_stays, k5_law_is_number, k5_law_lots, k5_law_covers, k5_law_are_fair, k5_law_costs, k5_law_chain, k5_law_bent, k5_law_one, k5law]

end K75
set_option linter.all false
/-! K75M: plain mathematics of cheapest covers. -/
namespace CC
section
variable {B E C : Nat → Int} {n : Nat} {start stop : Int}
def covers (B E : Nat → Int) (L : List Nat) (a b : Int) : Prop := ∀ m, a ≤ m → m ≤ b → ∃ p ∈ L, B p ≤ m ∧ m ≤ E p
def cost (C : Nat → Int) (L : List Nat) : Int := (L.map C).sum
def lot (n : Nat) (L : List Nat) : Prop := ∀ p ∈ L, p < n
theorem cost_nil : cost C [] = 0 := rfl
theorem cost_cons {p : Nat} {L : List Nat} : cost C (p :: L) = C p + cost C L := by simp [cost]
theorem cost_snoc {p : Nat} {L : List Nat} : cost C (L ++ [p]) = cost C L + C p := by simp [cost]
theorem cost_nonneg (h0 : ∀ p, 0 ≤ C p) : ∀ L : List Nat, 0 ≤ cost C L
  | [] => Int.le_refl _
  | p :: L => by
    rw [cost_cons]
    have := cost_nonneg h0 L
    have := h0 p
    omega
theorem cost_filter (h0 : ∀ p, 0 ≤ C p) (q : Nat → Bool) : ∀ L : List Nat, cost C (L.filter q) ≤ cost C L
  | [] => Int.le_refl _
  | p :: L => by
    have h1 := cost_filter h0 q L
    have h2 := h0 p
    rw [List.filter_cons, cost_cons]
    split
    · rw [cost_cons]; omega
    · omega
theorem cost_less (h0 : ∀ p, 0 ≤ C p) {p : Nat} : ∀ {L : List Nat}, p ∈ L → cost C (L.filter fun q => !decide (q = p)) + C p ≤ cost C L
  | q :: L, h => by
    rw [cost_cons, List.filter_cons]
    by_cases c : q = p
    · subst c
      simp only [decide_true, Bool.not_true, Bool.false_eq_true, if_false]
      have := cost_filter h0 (fun r => !decide (r = q)) L
      omega
    · have hm : p ∈ L := by
        rcases List.mem_cons.mp h with z | z
        · exact (c z.symm).elim
        · exact z
      simp only [c, decide_false, Bool.not_false, if_true]
      rw [cost_cons]
      have := cost_less h0 hm
      omega
structure Best (B E C : Nat → Int) (n : Nat) (start m c : Int) (ps : List Nat) : Prop where
  lot : lot n ps
  nodup : ps.Nodup
  cov : covers B E ps start m
  cost : cost C ps = c
  beg : ∀ p ∈ ps, B p ≤ m
  least : ∀ L, CC.lot n L → covers B E L start m → c ≤ CC.cost C L
def Bad (B E : Nat → Int) (n : Nat) (start m : Int) : Prop := ∀ L, lot n L → ¬ covers B E L start m
def Good (B E C : Nat → Int) (n : Nat) (start m : Int) : Option (Int × List Nat) → Prop
  | some x => Best B E C n start m x.1 x.2
  | none => Bad B E n start m
/-- what is found for p -/
def cand (B C : Nat → Int) (start : Int) (known : Int → Option (Int × List Nat)) (p : Nat) : List (Int × List Nat) :=
  match (if start < B p then known (B p - 1) else some (0, [])) with
  | some x => [(x.1 + C p, x.2 ++ [p])]
  | none => []
def cands (B E C : Nat → Int) (n : Nat) (start m : Int) (known : Int → Option (Int × List Nat)) : List (Int × List Nat) :=
  (List.range n).flatMap fun p => if B p ≤ m ∧ m ≤ E p then cand B C start known p else []
theorem mem_cands {known : Int → Option (Int × List Nat)} {m : Int} {x : Int × List Nat} : x ∈ cands B E C n start m known ↔ ∃ p, p < n ∧ B p ≤ m ∧ m ≤ E p ∧ x ∈ cand B C start known p := by
  unfold cands
  rw [List.mem_flatMap]
  refine ⟨fun ⟨p, h1, h2⟩ => ?_, fun ⟨p, h1, h2, h3, h4⟩ => ⟨p, List.mem_range.mpr h1, by rw [if_pos ⟨h2, h3⟩]; exact h4⟩⟩
  split at h2
  · rename_i h3; exact ⟨p, List.mem_range.mp h1, h3.1, h3.2, h2⟩
  · simp at h2
variable {known : Int → Option (Int × List Nat)} {m : Int}
theorem cand_some {p : Nat} {x : Int × List Nat} (h : x ∈ cand B C start known p) : ∃ y, (if start < B p then known (B p - 1) else some (0, [])) = some y ∧ x = (y.1 + C p, y.2 ++ [p]) := by
  unfold cand at h
  split at h
  · rename_i y e; exact ⟨y, e, by simpa using h⟩
  · simp at h
theorem cand_sound (G : ∀ p, p < n → B p ≤ m → start < B p → Good B E C n start (B p - 1) (known (B p - 1))) {x : Int × List Nat} (hx : x ∈ cands B E C n start m known) :
    lot n x.2 ∧ x.2.Nodup ∧ covers B E x.2 start m ∧ cost C x.2 = x.1 ∧ ∀ p ∈ x.2, B p ≤ m := by
  obtain ⟨p, h1, h2, h3, h4⟩ := mem_cands.mp hx
  obtain ⟨y, hy, rfl⟩ := cand_some h4
  by_cases c : start < B p
  · rw [if_pos c] at hy
    have g := G p h1 h2 c
    rw [hy] at g
    have g : Best B E C n start (B p - 1) y.1 y.2 := g
    refine ⟨fun q hq => ?_, ?_, fun k hk1 hk2 => ?_, by rw [cost_snoc, g.cost], fun q hq => ?_⟩
    · rcases List.mem_append.mp hq with z | z
      · exact g.lot q z
      · have : q = p := by simpa using z
        rw [this]; exact h1
    · rw [List.nodup_append]
      refine ⟨g.nodup, by simp, fun a ha b hb e => ?_⟩
      have hb : b = p := by simpa using hb
      have := g.beg a ha
      rw [e, hb] at this
      omega
    · by_cases c2 : k ≤ B p - 1
      · obtain ⟨q, q1, q2⟩ := g.cov k hk1 c2
        exact ⟨q, List.mem_append_left _ q1, q2⟩
      · exact ⟨p, by simp, by omega, by omega⟩
    · rcases List.mem_append.mp hq with z | z
      · have := g.beg q z; omega
      · have : q = p := by simpa using z
        rw [this]; exact h2
  · rw [if_neg c] at hy
    cases hy
    refine ⟨fun q hq => ?_, by simp, fun k hk1 hk2 => ⟨p, by simp, by omega, by omega⟩, by simp [cost], fun q hq => ?_⟩
    · have : q = p := by simpa using hq
      rw [this]; exact h1
    · have : q = p := by simpa using hq
      rw [this]; exact h2
theorem cand_least (h0 : ∀ p, 0 ≤ C p) (hs : start ≤ m) (G : ∀ p, p < n → B p ≤ m → start < B p → Good B E C n start (B p - 1) (known (B p - 1))) {L : List Nat} (hl : lot n L) (hc : covers B E L start m) :
    ∃ x ∈ cands B E C n start m known, x.1 ≤ cost C L := by
  obtain ⟨p, h1, h2, h3⟩ := hc m hs (Int.le_refl _)
  have hp := hl p h1
  have less := cost_less h0 h1
  by_cases c : start < B p
  · have g := G p hp h2 c
    have hl' : lot n (L.filter fun q => !decide (q = p)) := fun q hq => hl q (List.mem_filter.mp hq).1
    have hc' : covers B E (L.filter fun q => !decide (q = p)) start (B p - 1) := fun k hk1 hk2 => by
      obtain ⟨q, q1, q2, q3⟩ := hc k hk1 (by omega)
      refine ⟨q, List.mem_filter.mpr ⟨q1, ?_⟩, q2, q3⟩
      have : q ≠ p := fun z => by rw [z] at q2; omega
      simp [this]
    cases e : known (B p - 1) with
    | none =>
      rw [e] at g
      exact (g _ hl' hc').elim
    | some y =>
      rw [e] at g
      have := g.least _ hl' hc'
      refine ⟨(y.1 + C p, y.2 ++ [p]), mem_cands.mpr ⟨p, hp, h2, h3, ?_⟩, by simp only; omega⟩
      unfold cand
      rw [if_pos c, e]
      simp
  · refine ⟨(0 + C p, [] ++ [p]), mem_cands.mpr ⟨p, hp, h2, h3, ?_⟩, ?_⟩
    · unfold cand
      rw [if_neg c]
      simp
    · have := cost_nonneg h0 (L.filter fun q => !decide (q = p))
      simp only
      omega
/-- the step -/
theorem step_none (h0 : ∀ p, 0 ≤ C p) (hs : start ≤ m) (G : ∀ p, p < n → B p ≤ m → start < B p → Good B E C n start (B p - 1) (known (B p - 1))) (h : cands B E C n start m known = []) : Bad B E n start m := fun L hl hc => by
  obtain ⟨x, hx, _⟩ := cand_least h0 hs G hl hc
  rw [h] at hx
  simp at hx
theorem step_some (h0 : ∀ p, 0 ≤ C p) (hs : start ≤ m) (G : ∀ p, p < n → B p ≤ m → start < B p → Good B E C n start (B p - 1) (known (B p - 1))) {x : Int × List Nat} (hx : x ∈ cands B E C n start m known) (hm : ∀ y ∈ cands B E C n start m known, x.1 ≤ y.1) : Best B E C n start m x.1 x.2 := by
  obtain ⟨a, b, c, d, e⟩ := cand_sound G hx
  refine ⟨a, b, c, d, e, fun L hl hc => ?_⟩
  obtain ⟨y, hy, hy2⟩ := cand_least h0 hs G hl hc
  exact Int.le_trans (hm y hy) hy2
theorem least_of : ∀ (l : List (Int × List Nat)), l ≠ [] → ∃ x ∈ l, ∀ y ∈ l, x.1 ≤ y.1
  | [x], _ => ⟨x, by simp, by simp⟩
  | x :: y :: l, _ => by
    obtain ⟨z, h1, h2⟩ := least_of (y :: l) (by simp)
    by_cases c : x.1 ≤ z.1
    · refine ⟨x, by simp, fun w hw => ?_⟩
      rcases List.mem_cons.mp hw with e | e
      · rw [e]; exact Int.le_refl _
      · exact Int.le_trans c (h2 w e)
    · refine ⟨z, List.mem_cons_of_mem _ h1, fun w hw => ?_⟩
      rcases List.mem_cons.mp hw with e | e
      · rw [e]; omega
      · exact h2 w e
open Classical in
theorem best_or (h0 : ∀ p, 0 ≤ C p) : ∀ (k : Nat) (m : Int), start ≤ m → (m - start).toNat = k → (∃ c ps, Best B E C n start m c ps) ∨ Bad B E n start m := by
  intro k
  induction k using Nat.strongRecOn with
  | ind k ih =>
    intro m hs hk
    let known : Int → Option (Int × List Nat) := fun x => if h : ∃ y : Int × List Nat, Best B E C n start x y.1 y.2 then some h.choose else none
    have G : ∀ p, p < n → B p ≤ m → start < B p → Good B E C n start (B p - 1) (known (B p - 1)) := fun p h1 h2 h3 => by
      show Good B E C n start (B p - 1) (if h : ∃ y : Int × List Nat, Best B E C n start (B p - 1) y.1 y.2 then some h.choose else none)
      by_cases h : ∃ y : Int × List Nat, Best B E C n start (B p - 1) y.1 y.2
      · rw [dif_pos h]
        exact h.choose_spec
      · rw [dif_neg h]
        rcases ih ((B p - 1 - start).toNat) (by omega) (B p - 1) (by omega) rfl with ⟨c, ps, z⟩ | z
        · exact (h ⟨(c, ps), z⟩).elim
        · exact z
    by_cases e : cands B E C n start m known = []
    · exact .inr (step_none h0 hs G e)
    · obtain ⟨x, hx, hm⟩ := least_of _ e
      exact .inl ⟨_, _, step_some h0 hs G hx hm⟩
theorem Best.uniq {c c' : Int} {ps ps' : List Nat} (h : Best B E C n start m c ps) (h' : Best B E C n start m c' ps') : c = c' := by
  have h1 := h.least _ h'.lot h'.cov
  have h2 := h'.least _ h.lot h.cov
  rw [h.cost] at h2
  rw [h'.cost] at h1
  omega
/-! ### the cost as a function of the moment -/
open Classical in
noncomputable def f (B E C : Nat → Int) (n : Nat) (start : Int) (m : Int) : Int := if h : start ≤ m ∧ ∃ c ps, Best B E C n start m c ps then h.2.choose else 0
theorem f_lo (h : m < start) : f B E C n start m = 0 := dif_neg fun z => by omega
theorem f_eq {c : Int} {ps : List Nat} (hs : start ≤ m) (h : Best B E C n start m c ps) : f B E C n start m = c := by
  have hex : start ≤ m ∧ ∃ c ps, Best B E C n start m c ps := ⟨hs, c, ps, h⟩
  unfold f
  rw [dif_pos hex]
  obtain ⟨ps', h'⟩ := hex.2.choose_spec
  exact h'.uniq h
theorem f_best (h0 : ∀ p, 0 ≤ C p) {L : List Nat} (hl : lot n L) (hc : covers B E L start m) (hs : start ≤ m) : ∃ ps, Best B E C n start m (f B E C n start m) ps := by
  rcases best_or (B := B) (E := E) (n := n) h0 _ m hs rfl with ⟨c, ps, h⟩ | h
  · exact ⟨ps, by rw [f_eq hs h]; exact h⟩
  · exact (h L hl hc).elim
theorem covers_mono {L : List Nat} {a b b' : Int} (h : covers B E L a b') (hb : b ≤ b') : covers B E L a b := fun m h1 h2 => h m h1 (by omega)
variable {L0 : List Nat}
theorem f_nonneg (h0 : ∀ p, 0 ≤ C p) (m : Int) : 0 ≤ f B E C n start m := by
  unfold f
  split
  · rename_i h
    obtain ⟨ps, hp⟩ := h.2.choose_spec
    rw [← hp.cost]
    exact cost_nonneg h0 _
  · exact Int.le_refl _
theorem f_mono (h0 : ∀ p, 0 ≤ C p) (hl : lot n L0) (hc : covers B E L0 start stop) {m m' : Int} (h : m ≤ m') (h' : m' ≤ stop) : f B E C n start m ≤ f B E C n start m' := by
  by_cases c : m < start
  · rw [f_lo c]; exact f_nonneg h0 _
  · obtain ⟨ps, hp⟩ := f_best h0 hl (covers_mono hc (by omega : m ≤ stop)) (by omega)
    obtain ⟨ps', hp'⟩ := f_best h0 hl (covers_mono hc h') (by omega : start ≤ m')
    have := hp.least _ hp'.lot (covers_mono hp'.cov h)
    rw [hp'.cost] at this
    exact this
theorem f_flat (h0 : ∀ p, 0 ≤ C p) (hl : lot n L0) (hc : covers B E L0 start stop) (h1 : start < m) (h2 : m ≤ stop) (h3 : ∀ p, p < n → E p + 1 ≠ m) : f B E C n start m = f B E C n start (m - 1) := by
  obtain ⟨ps, hp⟩ := f_best h0 hl (covers_mono hc (by omega : m - 1 ≤ stop)) (by omega : start ≤ m - 1)
  obtain ⟨ps', hp'⟩ := f_best h0 hl (covers_mono hc h2) (by omega : start ≤ m)
  have hcm : covers B E ps start m := fun k hk1 hk2 => by
    by_cases c : k ≤ m - 1
    · exact hp.cov k hk1 c
    · have ek : k = m := by omega
      obtain ⟨p, q1, q2, q3⟩ := hp.cov (m - 1) (by omega) (Int.le_refl _)
      have := h3 p (hp.lot p q1)
      exact ⟨p, q1, by omega, by omega⟩
  have := hp'.least _ hp.lot hcm
  rw [hp.cost] at this
  have := f_mono h0 hl hc (show m - 1 ≤ m by omega) h2
  omega
theorem f_fair (h0 : ∀ p, 0 ≤ C p) (hl : lot n L0) (hc : covers B E L0 start stop) {p : Nat} (hp : p < n) {lo hi : Int} (h1 : start ≤ lo) (h2 : B p ≤ lo) (h3 : lo ≤ hi) (h4 : hi ≤ E p) (h5 : hi ≤ stop) : f B E C n start hi ≤ f B E C n start (lo - 1) + C p := by
  obtain ⟨ps', hp'⟩ := f_best h0 hl (covers_mono hc h5) (by omega : start ≤ hi)
  by_cases c : start ≤ lo - 1
  · obtain ⟨ps, hb⟩ := f_best h0 hl (covers_mono hc (by omega : lo - 1 ≤ stop)) c
    have := hp'.least (ps ++ [p]) (fun q hq => by
      rcases List.mem_append.mp hq with z | z
      · exact hb.lot q z
      · have : q = p := by simpa using z
        rw [this]; exact hp) fun k hk1 hk2 => by
      by_cases c2 : k ≤ lo - 1
      · obtain ⟨q, q1, q2⟩ := hb.cov k hk1 c2
        exact ⟨q, List.mem_append_left _ q1, q2⟩
      · exact ⟨p, by simp, by omega, by omega⟩
    rw [cost_snoc, hb.cost] at this
    exact this
  · rw [f_lo (by omega : lo - 1 < start)]
    have := hp'.least [p] (fun q hq => by
      have : q = p := by simpa using hq
      rw [this]; exact hp) fun k hk1 hk2 => ⟨p, by simp, by omega, by omega⟩
    rw [cost_cons, cost_nil] at this
    omega
/-! ### prices -/
def sumF (g : Int → Int) (P : List Int) (q : Int → Bool) : Int := ((P.filter q).map g).sum
theorem sumF_congr {g : Int → Int} {P : List Int} {q q' : Int → Bool} (h : ∀ m ∈ P, q m = q' m) : sumF g P q = sumF g P q' := by
  unfold sumF
  rw [List.filter_congr h]
theorem sumF_cons {g : Int → Int} {P : List Int} {q : Int → Bool} {k : Int} : sumF g (k :: P) q = (if q k then g k else 0) + sumF g P q := by
  unfold sumF
  rw [List.filter_cons]
  split <;> simp
theorem sumF_add {g : Int → Int} {q : Int → Bool} {k : Int} (hq : q k = false) : ∀ {P : List Int}, P.Nodup → sumF g P (fun m => q m || decide (m = k)) = sumF g P q + if k ∈ P then g k else 0
  | [], _ => by simp [sumF]
  | a :: P, h => by
    have h1 := List.nodup_cons.mp h
    rw [sumF_cons, sumF_cons, sumF_add hq h1.2]
    by_cases c : a = k
    · subst c
      simp only [hq, decide_true, Bool.or_true, if_true, h1.1, if_false, List.mem_cons, true_or, Bool.false_eq_true]
      omega
    · have : k ∈ a :: P ↔ k ∈ P := by
        rw [List.mem_cons]
        exact ⟨fun z => z.elim (fun e => (c e.symm).elim) id, .inr⟩
      simp only [c, decide_false, Bool.or_false, this]
      split <;> split <;> omega
theorem tele {F : Int → Int} {P : List Int} (hn : P.Nodup) {lo : Int} : ∀ (k : Nat), (∀ m, lo ≤ m → m < lo + k → m ∉ P → F m = F (m - 1)) → sumF (fun m => F m - F (m - 1)) P (fun m => decide (lo ≤ m) && decide (m < lo + k)) = F (lo + k - 1) - F (lo - 1)
  | 0, _ => by
    have : sumF (fun m => F m - F (m - 1)) P (fun m => decide (lo ≤ m) && decide (m < lo + (0 : Nat))) = sumF (fun m => F m - F (m - 1)) P (fun _ => false) := sumF_congr fun m _ => by
      rw [Bool.eq_iff_iff]
      simp only [Bool.and_eq_true, decide_eq_true_eq, Bool.false_eq_true, iff_false]
      omega
    rw [this]
    have e : P.filter (fun _ => false) = [] := List.filter_eq_nil_iff.mpr fun _ _ => by simp
    unfold sumF
    rw [e]
    have e1 : lo + ((0 : Nat) : Int) - 1 = lo - 1 := by omega
    rw [e1]
    simp
  | k + 1, h => by
    have h1 := tele hn (F := F) k fun m h1 h2 => h m h1 (by omega)
    have h2 := sumF_add (g := fun m => F m - F (m - 1)) (q := fun m => decide (lo ≤ m) && decide (m < lo + (k : Int))) (k := lo + k) (by simp) hn
    have h3 : sumF (fun m => F m - F (m - 1)) P (fun m => decide (lo ≤ m) && decide (m < lo + ((k + 1 : Nat) : Int))) = sumF (fun m => F m - F (m - 1)) P (fun m => (decide (lo ≤ m) && decide (m < lo + (k : Int))) || decide (m = lo + k)) := sumF_congr fun m _ => by
      rw [Bool.eq_iff_iff]
      simp only [Bool.and_eq_true, Bool.or_eq_true, decide_eq_true_eq]
      omega
    rw [h3, h2, h1]
    have e1 : lo + ((k + 1 : Nat) : Int) - 1 = lo + k := by omega
    rw [e1]
    by_cases c : lo + (k : Int) ∈ P
    · rw [if_pos c]; omega
    · rw [if_neg c]
      have := h (lo + k) (by omega) (by omega) c
      omega
end
/-! ### the sweep -/
def sweep : Int → List (Int × Int) → Int
  | here, [] => here
  | here, s :: r => sweep (if s.1 ≤ here ∧ here ≤ s.2 then s.2 + 1 else here) r
theorem sweep_iff (stop : Int) : ∀ (l : List (Int × Int)) (start : Int), l.Pairwise (fun x y => x.1 ≤ y.1) → (stop < sweep start l ↔ ∀ m, start ≤ m → m ≤ stop → ∃ s ∈ l, s.1 ≤ m ∧ m ≤ s.2)
  | [], start, _ => by
    simp only [sweep, List.not_mem_nil, false_and, exists_false]
    exact ⟨fun h m h1 h2 => by omega, fun h => Int.not_le.mp fun z => h start (Int.le_refl _) z⟩
  | s :: r, start, hp => by
    obtain ⟨hp1, hp2⟩ := List.pairwise_cons.mp hp
    simp only [sweep]
    by_cases c : s.1 ≤ start ∧ start ≤ s.2
    · rw [if_pos c, sweep_iff stop r (s.2 + 1) hp2]
      refine ⟨fun h m h1 h2 => ?_, fun h m h1 h2 => ?_⟩
      · by_cases c2 : m ≤ s.2
        · exact ⟨s, by simp, by omega, c2⟩
        · obtain ⟨t, t1, t2⟩ := h m (by omega) h2
          exact ⟨t, List.mem_cons_of_mem _ t1, t2⟩
      · obtain ⟨t, t1, t2, t3⟩ := h m (by omega) h2
        rcases List.mem_cons.mp t1 with e | e
        · subst e; omega
        · exact ⟨t, e, t2, t3⟩
    · rw [if_neg c, sweep_iff stop r start hp2]
      refine ⟨fun h m h1 h2 => ?_, fun h m h1 h2 => ?_⟩
      · obtain ⟨t, t1, t2⟩ := h m h1 h2
        exact ⟨t, List.mem_cons_of_mem _ t1, t2⟩
      · obtain ⟨t, t1, t2, t3⟩ := h m h1 h2
        rcases List.mem_cons.mp t1 with e | e
        · subst e
          obtain ⟨u, u1, u2, u3⟩ := h start (Int.le_refl _) (by omega)
          rcases List.mem_cons.mp u1 with e | e
          · subst e; exact (c ⟨u2, u3⟩).elim
          · have := hp1 u e
            omega
        · exact ⟨t, e, t2, t3⟩
/-! ### all lots -/
def rows : Nat → List (List Nat)
  | 0 => [[]]
  | k + 1 => rows k ++ (rows k).map (· ++ [k])
def Asc (L : List Nat) : Prop := L.Pairwise (· < ·)
theorem rows_lot : ∀ {k : Nat} {L : List Nat}, L ∈ rows k → lot k L
  | 0, L, h => by
    have : L = [] := by simpa [rows] using h
    subst this
    intro p hp
    simp at hp
  | k + 1, L, h => by
    simp only [rows, List.mem_append, List.mem_map] at h
    rcases h with h | ⟨M, h1, rfl⟩
    · intro p hp
      have := rows_lot h p hp
      omega
    · intro p hp
      rcases List.mem_append.mp hp with z | z
      · have := rows_lot h1 p z; omega
      · have : p = k := by simpa using z
        omega
theorem mem_rows : ∀ {k : Nat} {L : List Nat}, Asc L → lot k L → L ∈ rows k
  | 0, L, h, hl => by
    cases L with
    | nil => simp [rows]
    | cons a L => have := hl a (by simp); omega
  | k + 1, L, h, hl => by
    simp only [rows, List.mem_append, List.mem_map]
    by_cases c : L = []
    · subst c
      exact .inl (mem_rows h fun p hp => by simp at hp)
    · have e := List.dropLast_concat_getLast c
      have h' := h
      rw [← e] at h'
      obtain ⟨a1, a2, a3⟩ := List.pairwise_append.mp h'
      by_cases ck : L.getLast c = k
      · refine .inr ⟨L.dropLast, mem_rows a1 fun p hp => ?_, by rw [← ck]; exact e⟩
        have := a3 p hp (L.getLast c) (by simp)
        omega
      · refine .inl (mem_rows h fun p hp => ?_)
        have h2 := hl (L.getLast c) (List.getLast_mem c)
        rw [← e] at hp
        rcases List.mem_append.mp hp with z | z
        · have := a3 p z (L.getLast c) (by simp)
          omega
        · have : p = L.getLast c := by simpa using z
          omega
theorem rows_len : ∀ k, (rows k).length = 2 ^ k
  | 0 => rfl
  | k + 1 => by
    simp only [rows, List.length_append, List.length_map, rows_len k]
    rw [Nat.pow_succ]; omega
theorem rows_mem_len {k : Nat} {L : List Nat} : L ∈ rows k → L.length ≤ k := by
  induction k generalizing L with
  | zero =>
    intro h
    have e : L = [] := by simpa [rows] using h
    rw [e]
    exact Nat.le_refl _
  | succ k ih =>
    intro h
    simp only [rows, List.mem_append, List.mem_map] at h
    rcases h with h | ⟨M, h1, rfl⟩
    · have := ih h; omega
    · have := ih h1; simp; omega
theorem cost_perm {C : Nat → Int} {L M : List Nat} (h : L.Perm M) : cost C L = cost C M := by
  induction h with
  | nil => rfl
  | cons x _ ih => rw [cost_cons, cost_cons, ih]
  | swap x y l => rw [cost_cons, cost_cons, cost_cons, cost_cons]; omega
  | trans _ _ h1 h2 => rw [h1, h2]
theorem covers_mem {B E : Nat → Int} {L M : List Nat} {a b : Int} (h : ∀ p, p ∈ L → p ∈ M) (hc : covers B E L a b) : covers B E M a b := fun m h1 h2 =>
  let ⟨p, q1, q2⟩ := hc m h1 h2; ⟨p, h p q1, q2⟩
/-- costs that are nowhere less, one of them more -/
theorem cost_le {C C' : Nat → Int} (h : ∀ p, C p ≤ C' p) : ∀ L : List Nat, cost C L ≤ cost C' L
  | [] => Int.le_refl _
  | p :: L => by
    rw [cost_cons, cost_cons]
    have := h p
    have := cost_le h L
    omega
theorem cost_more {C C' : Nat → Int} {a : Nat} {d : Int} (hd : 0 ≤ d) (h : ∀ p, p ≠ a → C' p = C p) (ha : C' a = C a + d) : ∀ L : List Nat, L.Nodup → cost C' L ≤ cost C L + d
  | [], _ => by simp [cost]; exact hd
  | p :: L, hn => by
    have h1 := List.nodup_cons.mp hn
    rw [cost_cons, cost_cons]
    by_cases c : p = a
    · subst c
      have : cost C' L = cost C L := by
        unfold cost
        congr 1
        exact List.map_congr_left fun q hq => h q fun z => h1.1 (z ▸ hq)
      omega
    · rw [h p c]
      have := cost_more hd h ha L h1.2
      omega
end CC
set_option linter.all false
/-! K75N: the prices are fair, and their sum is the least cost. -/
namespace CC
section
variable {B E C : Nat → Int} {n : Nat} {start stop : Int}
theorem Best.perm {m c : Int} {ps qs : List Nat} (h : Best B E C n start m c ps) (p : qs.Perm ps) : Best B E C n start m c qs :=
  ⟨fun q hq => h.lot q (p.mem_iff.mp hq), p.nodup_iff.mpr h.nodup, covers_mem (fun q hq => p.mem_iff.mpr hq) h.cov, by rw [cost_perm p, h.cost], fun q hq => h.beg q (p.mem_iff.mp hq), h.least⟩
theorem Best.not_bad {m c : Int} {ps : List Nat} (h : Best B E C n start m c ps) : ¬ Bad B E n start m := fun b => b _ h.lot h.cov
/-- the sum of the prices of the moments from b to e -/
def sumIn (pr : List (Int × Int)) (b e : Int) : Int := ((pr.filter fun x => decide (b ≤ x.1) && decide (x.1 ≤ e)).map (·.2)).sum
def total (pr : List (Int × Int)) : Int := (pr.map (·.2)).sum
structure Prices (pr : List (Int × Int)) : Prop where
  asc : pr.Pairwise fun a b => a.1 < b.1
  ok : ∀ x ∈ pr, 0 ≤ x.1 ∧ x.1 ≤ 9999 ∧ 1 ≤ x.2
def prOf (g : Int → Int) (P : List Int) : List (Int × Int) := (P.filter fun m => decide (0 < g m)).map fun m => (m, g m)
theorem prOf_cons {g : Int → Int} {a : Int} {P : List Int} : prOf g (a :: P) = if 0 < g a then (a, g a) :: prOf g P else prOf g P := by
  unfold prOf
  rw [List.filter_cons]
  by_cases c : 0 < g a
  · rw [if_pos c, decide_eq_true c]; rfl
  · rw [if_neg c, decide_eq_false c]; rfl
theorem sumIn_prOf {g : Int → Int} {b e : Int} : ∀ {P : List Int}, (∀ m ∈ P, 0 ≤ g m) → sumIn (prOf g P) b e = sumF g P fun m => decide (b ≤ m) && decide (m ≤ e)
  | [], _ => rfl
  | a :: P, h => by
    have ih := sumIn_prOf (g := g) (b := b) (e := e) (P := P) fun m hm => h m (List.mem_cons_of_mem _ hm)
    have ha := h a (by simp)
    rw [prOf_cons, sumF_cons, ← ih]
    by_cases c : 0 < g a
    · rw [if_pos c]
      unfold sumIn
      rw [List.filter_cons]
      by_cases d : (decide (b ≤ a) && decide (a ≤ e)) = true
      · simp only [d, if_true, List.map_cons, List.sum_cons]
      · simp only [d, Bool.false_eq_true, if_false]; omega
    · rw [if_neg c]
      have : g a = 0 := by omega
      rw [this]
      split <;> omega
theorem total_prOf {g : Int → Int} {P : List Int} (h : ∀ m ∈ P, 0 ≤ g m) : total (prOf g P) = sumF g P fun _ => true := by
  induction P with
  | nil => rfl
  | cons a P ih =>
    have ih := ih fun m hm => h m (List.mem_cons_of_mem _ hm)
    have ha := h a (by simp)
    rw [prOf_cons, sumF_cons, ← ih, if_pos rfl]
    by_cases c : 0 < g a
    · rw [if_pos c]
      unfold total
      simp
    · rw [if_neg c]
      omega
/-- the moments at which prices may stand -/
structure Pm (E : Nat → Int) (n : Nat) (start stop : Int) (P : List Int) : Prop where
  asc : P.Pairwise (· < ·)
  mem : ∀ m, m ∈ P ↔ start ≤ m ∧ m ≤ stop ∧ (m = start ∨ ∃ p, p < n ∧ m = E p + 1)
variable {P : List Int} {L0 : List Nat}
theorem Pm.nodup (h : Pm E n start stop P) : P.Nodup := h.asc.imp fun z => Int.ne_of_lt z
noncomputable abbrev gf (B E C : Nat → Int) (n : Nat) (start m : Int) : Int := f B E C n start m - f B E C n start (m - 1)
theorem gf_nonneg (h0 : ∀ p, 0 ≤ C p) (hl : lot n L0) (hc : covers B E L0 start stop) {m : Int} (hm : m ≤ stop) : 0 ≤ gf B E C n start m := by
  have := f_mono h0 hl hc (show m - 1 ≤ m by omega) hm
  show 0 ≤ f B E C n start m - f B E C n start (m - 1)
  omega
theorem sum_run (h0 : ∀ p, 0 ≤ C p) (hl : lot n L0) (hc : covers B E L0 start stop) (hP : Pm E n start stop P) {lo hi : Int} (h1 : start ≤ lo) (h2 : lo ≤ hi + 1) (h3 : hi ≤ stop) : sumF (gf B E C n start) P (fun m => decide (lo ≤ m) && decide (m ≤ hi)) = f B E C n start hi - f B E C n start (lo - 1) := by
  have key := tele (F := f B E C n start) hP.nodup (lo := lo) (hi + 1 - lo).toNat fun m m1 m2 m3 => by
    have hm : m ≤ stop := by omega
    have hns : m ≠ start := fun z => m3 ((hP.mem m).mpr ⟨by omega, hm, .inl z⟩)
    exact f_flat h0 hl hc (by omega) hm fun p hp z => m3 ((hP.mem m).mpr ⟨by omega, hm, .inr ⟨p, hp, z.symm⟩⟩)
  have e1 : lo + ((hi + 1 - lo).toNat : Int) = hi + 1 := by omega
  rw [e1] at key
  have e2 : hi + 1 - 1 = hi := by omega
  rw [e2] at key
  rw [← key]
  exact sumF_congr fun m _ => by
    rw [Bool.eq_iff_iff]
    simp only [Bool.and_eq_true, decide_eq_true_eq]
    omega
theorem prices_ok (h0 : ∀ p, 0 ≤ C p) (hl : lot n L0) (hc : covers B E L0 start stop) (hP : Pm E n start stop P) (hs : 0 ≤ start) (hle : start ≤ stop) (h9 : stop ≤ 9999) :
    Prices (prOf (gf B E C n start) P) ∧ (∀ x ∈ prOf (gf B E C n start) P, start ≤ x.1 ∧ x.1 ≤ stop) ∧ total (prOf (gf B E C n start) P) = f B E C n start stop ∧ ∀ p, p < n → sumIn (prOf (gf B E C n start) P) (B p) (E p) ≤ C p := by
  have g0 : ∀ m ∈ P, 0 ≤ gf B E C n start m := fun m hm => gf_nonneg h0 hl hc ((hP.mem m).mp hm).2.1
  have hin : ∀ x ∈ prOf (gf B E C n start) P, start ≤ x.1 ∧ x.1 ≤ stop ∧ 0 < x.2 := fun x hx => by
    obtain ⟨m, m1, rfl⟩ := List.mem_map.mp hx
    obtain ⟨m2, m3⟩ := List.mem_filter.mp m1
    have := (hP.mem m).mp m2
    exact ⟨this.1, this.2.1, of_decide_eq_true m3⟩
  refine ⟨⟨?_, fun x hx => ?_⟩, fun x hx => ⟨(hin x hx).1, (hin x hx).2.1⟩, ?_, fun p hp => ?_⟩
  · unfold prOf
    rw [List.pairwise_map]
    exact (hP.asc.filter _).imp fun z => z
  · have := hin x hx
    omega
  · rw [total_prOf g0]
    have h1 := sum_run h0 hl hc hP (Int.le_refl start) (by omega) (Int.le_refl stop)
    rw [f_lo (by omega : start - 1 < start)] at h1
    have : sumF (gf B E C n start) P (fun _ => true) = sumF (gf B E C n start) P fun m => decide (start ≤ m) && decide (m ≤ stop) := sumF_congr fun m hm => by
      have := (hP.mem m).mp hm
      rw [decide_eq_true this.1, decide_eq_true this.2.1]
      rfl
    rw [this, h1]
    omega
  · rw [sumIn_prOf g0]
    by_cases c : max (B p) start ≤ min (E p) stop
    · have h1 := sum_run h0 hl hc hP (lo := max (B p) start) (hi := min (E p) stop) (by omega) (by omega) (by omega)
      have h2 := f_fair h0 hl hc hp (lo := max (B p) start) (hi := min (E p) stop) (by omega) (by omega) c (by omega) (by omega)
      have : sumF (gf B E C n start) P (fun m => decide (B p ≤ m) && decide (m ≤ E p)) = sumF (gf B E C n start) P fun m => decide (max (B p) start ≤ m) && decide (m ≤ min (E p) stop) := sumF_congr fun m hm => by
        have q1 := ((hP.mem m).mp hm).1
        have q2 := ((hP.mem m).mp hm).2.1
        rw [Bool.eq_iff_iff]
        simp only [Bool.and_eq_true, decide_eq_true_eq]
        omega
      rw [this, h1]
      omega
    · have : sumF (gf B E C n start) P (fun m => decide (B p ≤ m) && decide (m ≤ E p)) = sumF (gf B E C n start) P fun _ => false := sumF_congr fun m hm => by
        have q1 := ((hP.mem m).mp hm).1
        have q2 := ((hP.mem m).mp hm).2.1
        rw [Bool.eq_iff_iff]
        simp only [Bool.and_eq_true, decide_eq_true_eq, Bool.false_eq_true, iff_false]
        omega
      rw [this]
      have e : P.filter (fun _ => false) = [] := List.filter_eq_nil_iff.mpr fun _ _ => by simp
      unfold sumF
      rw [e]
      exact h0 p
end
end CC
set_option Elab.async false
set_option linter.all false
set_option maxRecDepth 100000
/-! K75A: the small defs. -/
namespace K75
open PySem Qx
theorem whole (n : Nat) (d : D) (h : okd d = true) : callD k5ds (n + 1) 0 [d] = some (.bl (isWh d), []) := by
  rw [← isWh_eq]
  exact call_ret (ds := k5ds) (f := 0) rfl rfl (ss_ret (s_ret (r_e (v_an (v_isi (op_v (v_var rfl)) rfl (isa_int h)) fun _ => v_nt (v_isi (op_v (v_var rfl)) rfl (isa_bool h))) nofun nofun))) rfl
/-- an int from lo to hi -/
def isBt (lo hi : Int) : D → Bool
  | .int i => decide (lo ≤ i) && decide (i ≤ hi)
  | _ => false
theorem between (n : Nat) (d : D) (lo hi : Int) (h : okd d = true) : callD k5ds (n + 2) 1 [d, .int lo, .int hi] = some (.bl (isBt lo hi d), []) := by
  refine call_e (ds := k5ds) (f := 1) [.val d, .val (.int lo), .val (.int hi)] rfl rfl rfl rfl rfl ?_
  have h1 : ∀ env, getV env 0 = some d → evE (callD k5ds (n + 1)) (rfsOf k5ds) (.call 0 [(.var 0)] []) env = some (.bl (isWh d), env) := fun env hv => v_call (as_v (v_var hv) as_nil) rfl rfl (whole n d h) (.inl rfl)
  cases d with
  | int i =>
    have := v_an (Φ := callD k5ds (n + 1)) (R := rfsOf k5ds) (h1 [.val (.int i), .val (.int lo), .val (.int hi)] rfl) (b := .chn .le .le (.var 1) (.var 0) (.var 2)) (q := isBt lo hi (.int i)) fun _ => v_chn (k := decide (lo ≤ i)) (l := decide (i ≤ hi)) (v_var rfl) (v_var rfl) rfl (fun _ => v_var rfl) fun _ => rfl
    exact this
  | _ => exact v_an (p := false) (q := false) (h1 _ rfl) nofun
def isTn (k : Nat) : D → Bool
  | .tup ds => decide (ds.length = k)
  | _ => false
theorem tupleOf (n : Nat) (d : D) (k : Nat) (h : okd d = true) : callD k5ds (n + 1) 2 [d, .int k] = some (.bl (isTn k d), []) := by
  refine call_e (ds := k5ds) (f := 2) [.val d, .val (.int k)] rfl rfl rfl rfl rfl ?_
  have h1 : ∀ env, getV env 0 = some d → evE (callD k5ds n) (rfsOf k5ds) (.isi (.var 0) [.tuple]) env = some (.bl (isTupP d), env) := fun env hv => v_isi (op_v (v_var hv)) rfl (isa_tup h)
  cases d with
  | tup ds =>
    have e : cmpD .eq (.int (ds.length : Int)) (.int (k : Int)) = some (isTn k (.tup ds)) := (eqQ_int _ _).trans (by simp only [isTn, Option.some.injEq, decide_eq_decide]; omega)
    exact v_an (p := true) (h1 _ rfl) fun _ => v_cmp (v_bi1 (v_var rfl) (len_tup ds)) (v_var rfl) e
  | _ => exact v_an (p := false) (q := false) (h1 _ rfl) nofun
/-- the stays that may be given -/
def okS (x : Int × Int) : Prop := 0 ≤ x.1 ∧ x.1 ≤ x.2 ∧ x.2 ≤ 9999
theorem areBetween (n : Nat) (x : Int × Int) (h : okS x) : callD k5ds (n + 3) 3 [pD x, .int 2, .int 0, .int 9999] = some (.bl true, []) := by
  obtain ⟨h1, h2, h3⟩ := h
  refine call_e (ds := k5ds) (f := 3) [.val (pD x), .val (.int 2), .val (.int 0), .val (.int 9999), .no] rfl rfl rfl rfl rfl ?_
  refine v_an (p := true) (q := true) (v_call (as_v (v_var rfl) (as_v (v_var rfl) as_nil)) rfl rfl (tupleOf (n + 1) (pD x) 2 rfl) (.inl rfl)) fun _ => ?_
  have c := v_compT (Φ := callD k5ds (n + 2)) (R := rfsOf k5ds) (env := [.val (pD x), .val (.int 2), .val (.int 0), .val (.int 9999), .no]) (elt := .call 1 [(.var 4), (.var 2), (.var 3)] []) (vs := [4]) (t := .nm 4) (it := .seq (.var 0)) (xs := [.int x.1, .int x.2]) (g := (.v (pD x), pD x)) [x.1, x.2] D.int (fun _ => .bl true) (it_seq (v_var rfl) rfl) rfl rfl rfl
    (fun y hy => ⟨_, putN rfl (by show 4 < 5; decide), v_call (as_v (v_var rfl) (as_v (v_var rfl) (as_v (v_var rfl) as_nil))) rfl rfl (by
      have e : isBt 0 9999 (.int y) = true := by
        have : y = x.1 ∨ y = x.2 := by simpa using hy
        simp only [isBt, Bool.and_eq_true, decide_eq_true_eq]
        omega
      have := between n (.int y) 0 9999 rfl
      rw [e] at this
      exact this) (.inl rfl), rfl⟩) (by show 2 ≤ 16777216; decide)
  exact v_bi1 c rfl
theorem isStay (n : Nat) (x : Int × Int) (h : okS x) : callD k5ds (n + 4) 6 [pD x] = some (.bl true, []) := by
  refine call_e (ds := k5ds) (f := 6) [.val (pD x)] rfl rfl rfl rfl rfl ?_
  refine v_an (p := true) (q := true) (v_call (as_v (v_var rfl) (as_v v_cst (as_v v_cst (as_v v_cst as_nil)))) rfl rfl (areBetween n x h) (.inl rfl)) fun _ => ?_
  exact v_cmp (v_sub (v_var rfl) v_cst rfl) (v_sub (v_var rfl) v_cst rfl) (by
    show some (decide (x.1 ≤ x.2)) = _
    rw [decide_eq_true h.2.1])
theorem isCost (n : Nat) (c : Int) (h : 0 ≤ c ∧ c ≤ 9999) : callD k5ds (n + 3) 13 [.int c] = some (.bl true, []) := by
  refine call_e (ds := k5ds) (f := 13) [.val (.int c)] rfl rfl rfl rfl rfl ?_
  refine v_call (as_v (v_var rfl) (as_v v_cst (as_v v_cst as_nil))) rfl rfl ?_ (.inl rfl)
  have := between n (.int c) 0 9999 rfl
  rw [show isBt 0 9999 (.int c) = true from by simp only [isBt, Bool.and_eq_true, decide_eq_true_eq]; exact h] at this
  exact this
theorem firstWrong (n f : Nat) (hf : rfsOf k5ds f = []) (ds : List D) (lo hi : Int) (h1 : lo ≤ ds.length) (h2 : ds.length ≤ hi) (h : ∀ d ∈ ds, callD k5ds n f [d] = some (.bl true, [])) : callD k5ds (n + 1) 5 [.tup ds, .int lo, .int hi, .fn f, .bl false] = some (.lst [], []) := by
  obtain ⟨r, hr, e⟩ := call_wp1 (n := n) (ds := k5ds) (f := 5) (args := [.tup ds, .int lo, .int hi, .fn f, .bl false]) (Q := fun r => r = .lst []) [.val (.tup ds), .val (.int lo), .val (.int hi), .val (.fn f), .val (.bl false), .no, .no] rfl rfl rfl rfl (by
    refine wp_iteF (v_or (p := false) (q := false) (v_nt (p := true) (v_isi (op_v (v_var rfl)) rfl rfl)) fun _ => v_nt (p := true) (v_chn (k := true) (l := true) (v_var rfl) (v_bi1 (v_var rfl) (len_tup ds)) (by
      show some (decide (lo ≤ (ds.length : Int))) = _
      rw [decide_eq_true h1]) (fun _ => v_var rfl) fun _ => by
      show some (decide ((ds.length : Int) ≤ hi)) = _
      rw [decide_eq_true h2])) (wp_nil ?_)
    refine wp_for (F := fun i : Nat => D.xtp [.int i, ds.getD i .non]) (List.range ds.length) (fun _ e => ∃ s1 s2, e = [.val (.tup ds), .val (.int lo), .val (.int hi), .val (.fn f), .val (.bl false), s1, s2] ∧ isO e 5 = false ∧ isO e 6 = false) (it_enu (v_var rfl) rfl) rfl ⟨.no, .no, rfl, rfl, rfl⟩ (fun _ _ _ => rfl) ?_ ?_
    · rintro zs y ws e hy ⟨s1, s2, rfl, o1, o2⟩
      have hlt : y < ds.length := by
        have : y ∈ List.range ds.length := by rw [hy]; simp
        exact List.mem_range.mp this
      have hd : ds.getD y .non ∈ ds := by
        rw [List.getD_eq_getElem?_getD, List.getElem?_eq_getElem hlt]
        exact List.getElem_mem hlt
      refine ⟨_, putX2 o1 (by show 5 < 7; decide) o2 (by show 6 < 7; decide), ?_⟩
      refine wp_iteF (v_or (p := false) (q := false) (v_nt (p := true) (v_callv (f := f) rfl (as_v (v_var rfl) as_nil) hf rfl (h _ hd) (.inl rfl))) fun _ => v_an (p := false) (q := false) (v_var rfl) nofun) (wp_nil (wp_nil ?_))
      exact ⟨_, _, rfl, rfl, rfl⟩
    · rintro e ⟨s1, s2, rfl, _, _⟩
      exact wp_ret (r_e (v_lst vs_nil (by decide)) nofun nofun) ⟨[], rfl, rfl⟩)
  rw [hr, e]
theorem wrongStays (n : Nat) (st : List (Int × Int)) (h1 : 1 ≤ st.length) (h9 : st.length ≤ 9) (h : ∀ x ∈ st, okS x) : callD k5ds (n + 6) 7 [.tup (st.map pD)] = some (.lst [], []) := by
  refine call_e (ds := k5ds) (f := 7) [.val (.tup (st.map pD))] rfl rfl rfl rfl rfl ?_
  exact v_call (as_v (v_var rfl) (as_v v_cst (as_v v_cst (as_v v_cst (as_v v_cst as_nil))))) rfl rfl (firstWrong (n + 4) 6 rfl _ 1 9 (by rw [List.length_map]; omega) (by rw [List.length_map]; omega) fun d hd => by
    obtain ⟨x, hx, rfl⟩ := List.mem_map.mp hd
    exact isStay n x (h x hx)) (.inl rfl)
theorem wrongCosts (n : Nat) (st : List (Int × Int)) (cs : List Int) (hl : cs.length = st.length) (h : ∀ c ∈ cs, 0 ≤ c ∧ c ≤ 9999) : callD k5ds (n + 5) 14 [.tup (st.map pD), .tup (cs.map .int)] = some (.lst [], []) := by
  refine call_e (ds := k5ds) (f := 14) [.val (.tup (st.map pD)), .val (.tup (cs.map .int))] rfl rfl rfl rfl rfl ?_
  exact v_call (as_v (v_var rfl) (as_v (v_bi1 (v_var rfl) (len_tup _)) (as_v (v_bi1 (v_var rfl) (len_tup _)) (as_v v_cst (as_v v_cst as_nil))))) rfl rfl (firstWrong (n + 3) 13 rfl _ _ _ (by rw [List.length_map, List.length_map]; omega) (by rw [List.length_map, List.length_map]; omega) fun d hd => by
    obtain ⟨x, hx, rfl⟩ := List.mem_map.mp hd
    exact isCost n x (h x hx)) (.inl rfl)
theorem hasMoment (n : Nat) (x : Int × Int) (m : Int) : callD k5ds (n + 1) 8 [pD x, .int m] = some (.bl (decide (x.1 ≤ m) && decide (m ≤ x.2)), []) := by
  refine call_e (ds := k5ds) (f := 8) [.val (pD x), .val (.int m)] rfl rfl rfl rfl rfl ?_
  exact v_chn (v_sub (v_var rfl) v_cst rfl) (v_var rfl) rfl (fun _ => v_sub (v_var rfl) v_cst rfl) fun _ => rfl
/-! the checks -/
theorem checkStays (n : Nat) (st : List (Int × Int)) (h1 : 1 ≤ st.length) (h9 : st.length ≤ 9) (h : ∀ x ∈ st, okS x) : callD k5ds (n + 7) 24 [.tup (st.map pD)] = some (.non, []) := by
  exact call_nx (ds := k5ds) (f := 24) (e1 := [.val (.tup (st.map pD)), .no]) rfl rfl (ss_cons (s_for (it_seq (v_call (as_v (v_var rfl) as_nil) rfl rfl (wrongStays n st h1 h9 h) (.inl rfl)) rfl) rfl) ss_nil) rfl
theorem checkCosts (n : Nat) (st : List (Int × Int)) (cs : List Int) (h1 : 1 ≤ st.length) (h9 : st.length ≤ 9) (h : ∀ x ∈ st, okS x) (hl : cs.length = st.length) (hc : ∀ c ∈ cs, 0 ≤ c ∧ c ≤ 9999) : callD k5ds (n + 8) 26 [.tup (st.map pD), .tup (cs.map .int)] = some (.non, []) := by
  exact call_nx (ds := k5ds) (f := 26) (e1 := [.val (.tup (st.map pD)), .val (.tup (cs.map .int)), .no]) rfl rfl (ss_cons (s_exp (v_call (as_v (v_var rfl) as_nil) rfl rfl (checkStays n st h1 h9 h) (.inl rfl))) (ss_cons (s_for (it_seq (v_call (as_v (v_var rfl) (as_v (v_var rfl) as_nil)) rfl rfl (wrongCosts (n + 2) st cs hl hc) (.inl rfl)) rfl) rfl) ss_nil)) rfl
theorem checkNumber (n : Nat) (v lo hi : Int) (h1 : lo ≤ v) (h2 : v ≤ hi) : callD k5ds (n + 3) 25 [.int v, .int lo, .int hi] = some (.non, []) := by
  refine call_nx (ds := k5ds) (f := 25) (e1 := [.val (.int v), .val (.int lo), .val (.int hi)]) rfl rfl (ss_cons (s_iteF (v_nt (p := true) (v_call (as_v (v_var rfl) (as_v (v_var rfl) (as_v (v_var rfl) as_nil))) rfl rfl ?_ (.inl rfl))) ss_nil) ss_nil) rfl
  have := between n (.int v) lo hi rfl
  rw [show isBt lo hi (.int v) = true from by simp only [isBt, Bool.and_eq_true, decide_eq_true_eq]; exact ⟨h1, h2⟩] at this
  exact this
/-- what is given to all questions -/
structure Ok (st : List (Int × Int)) (cs : List Int) (start stop : Int) : Prop where
  one : 1 ≤ st.length
  nine : st.length ≤ 9
  ok : ∀ x ∈ st, okS x
  len : cs.length = st.length
  cost : ∀ c ∈ cs, 0 ≤ c ∧ c ≤ 9999
  lo : 0 ≤ start
  le : start ≤ stop
  hi : stop ≤ 9999
theorem checkAsked (n : Nat) {st : List (Int × Int)} {cs : List Int} {start stop : Int} (h : Ok st cs start stop) : callD k5ds (n + 9) 27 [.tup (st.map pD), .tup (cs.map .int), .int start, .int stop] = some (.non, []) :=
  call_nx (ds := k5ds) (f := 27) (e1 := [.val (.tup (st.map pD)), .val (.tup (cs.map .int)), .val (.int start), .val (.int stop)]) rfl rfl (ss_cons (s_exp (v_call (as_v (v_var rfl) (as_v (v_var rfl) as_nil)) rfl rfl (checkCosts n st cs h.one h.nine h.ok h.len h.cost) (.inl rfl)))
    (ss_cons (s_exp (v_call (as_v (v_var rfl) (as_v v_cst (as_v v_cst as_nil))) rfl rfl (checkNumber (n + 5) start 0 9999 h.lo (Int.le_trans h.le h.hi)) (.inl rfl)))
      (ss_cons (s_exp (v_call (as_v (v_var rfl) (as_v (v_var rfl) (as_v v_cst as_nil))) rfl rfl (checkNumber (n + 5) stop start 9999 h.le h.hi) (.inl rfl))) ss_nil))) rfl
end K75
set_option Elab.async false
set_option linter.all false
set_option maxRecDepth 100000
/-! K75B: the moments asked; what is found up to a moment. -/
namespace K75
open PySem Qx CC
abbrev stD (st : List (Int × Int)) : D := .tup (st.map pD)
abbrev csD (cs : List Int) : D := .tup (cs.map .int)
def ask (x : Int × Int) : List Int := [x.1 - 1, x.2, x.2 + 1]
theorem ask_len : ∀ zs : List (Int × Int), (zs.flatMap ask).length = 3 * zs.length
  | [] => rfl
  | a :: zs => by rw [List.flatMap_cons, List.length_append, ask_len zs]; simp [ask]; omega
/-- m is a moment asked -/
def Asked (st : List (Int × Int)) (start stop m : Int) : Prop := start ≤ m ∧ m ≤ stop ∧ (m = start ∨ m = stop ∨ ∃ x ∈ st, m = x.1 - 1 ∨ m = x.2 ∨ m = x.2 + 1)
theorem asked (n : Nat) {st : List (Int × Int)} {start stop : Int} (h9 : st.length ≤ 9) : ∃ ms : List Int, callD k5ds (n + 1) 16 [stD st, .int start, .int stop] = some (.lst (ms.map .int), []) ∧ ms.Pairwise (· < ·) ∧ (∀ m, m ∈ ms ↔ Asked st start stop m) ∧ ms.length ≤ 64 := by
  obtain ⟨r, hr, ms, e, h1, h2, h3⟩ := call_wp1 (n := n) (ds := k5ds) (f := 16) (args := [stD st, .int start, .int stop]) (Q := fun r => ∃ ms : List Int, r = .lst (ms.map .int) ∧ ms.Pairwise (· < ·) ∧ (∀ m, m ∈ ms ↔ Asked st start stop m) ∧ ms.length ≤ 64)
    [.val (stD st), .val (.int start), .val (.int stop), .no, .no, .no, .no] rfl rfl rfl rfl (by
    refine wp_new (v_lst (vs_cons (v_var rfl) (vs_cons (v_var rfl) vs_nil)) (by show 2 ≤ 16777216; decide)) rfl (by show 3 ≤ 3; decide) (by show 3 < 7; decide) ?_
    refine wp_for (F := pD) st (fun zs e => ∃ s4 s5, e = [.val (stD st), .val (.int start), .val (.int stop), .own (.lst ((start :: stop :: zs.flatMap ask).map D.int)), s4, s5, .no] ∧ isO e 4 = false ∧ isO e 5 = false) (it_seq (v_var rfl) rfl) rfl ⟨.no, .no, rfl, rfl, rfl⟩ (fun _ _ _ => rfl) ?_ ?_
    · rintro zs y ws e hy ⟨s4, s5, rfl, o4, o5⟩
      refine ⟨_, put2 o4 (by show 4 < 7; decide) o5 (by show 5 < 7; decide), ?_⟩
      refine wp_exp (v_mm (m := .extend) (i := 3) (ds := [.lst ((ask y).map D.int)]) (o := .lst ((start :: stop :: zs.flatMap ask).map D.int)) (d' := .lst ((start :: stop :: (zs ++ [y]).flatMap ask).map D.int)) (r := .non) rfl (vs_cons (v_lst (vs_cons (v_bin (v_var rfl) v_cst rfl) (vs_cons (v_var rfl) (vs_cons (v_bin (v_var rfl) v_cst rfl) vs_nil))) (by show 3 ≤ 16777216; decide)) vs_nil) rfl ?_) (wp_nil ⟨_, _, rfl, rfl, rfl⟩)
      have hlen : zs.length ≤ 9 := by
        have := congrArg List.length hy
        simp only [List.length_append, List.length_cons] at this
        omega
      have hf := ask_len zs
      show (if _ ≤ SZ then _ else _) = _
      rw [if_pos (by simp only [List.length_map, List.length_cons, hf, ask, List.length_nil, SZ]; omega), ← List.map_append, List.flatMap_append]
      simp
    · rintro e ⟨s4, s5, rfl, o4, o5⟩
      have hf := ask_len st
      obtain ⟨ms, k1, k2, k3, k4⟩ := sset_ints (l := start :: stop :: st.flatMap ask) (by simp only [List.length_cons, hf]; omega)
      refine wp_ret (r_e (v_comp (e1 := [.val (stD st), .val (.int start), .val (.int stop), .own (.lst ((start :: stop :: st.flatMap ask).map D.int)), s4, s5, .no]) ms D.int (fun m => decide (start ≤ m) && decide (m ≤ stop)) D.int (it_seq (v_bi (as_o rfl as_nil) rfl k1) rfl) rfl rfl rfl (fun y hy => ⟨_, putN rfl (by show 6 < 7; decide), v_chn (v_var rfl) (v_var rfl) rfl (fun _ => v_var rfl) (fun _ => rfl), fun _ => v_var rfl, rfl⟩) ?_) nofun nofun) ⟨[], rfl, _, rfl, ?_, ?_, ?_⟩
      · have := k4
        simp only [List.length_cons, hf] at this
        unfold SZ
        omega
      · exact k2.filter _
      · intro m
        rw [List.mem_filter, k3]
        unfold Asked
        simp only [List.mem_cons, List.mem_flatMap, ask, List.not_mem_nil, or_false, Bool.and_eq_true, decide_eq_true_eq]
        exact ⟨fun ⟨a, b, c⟩ => ⟨b, c, a⟩, fun ⟨b, c, a⟩ => ⟨a, b, c⟩⟩
      · refine Nat.le_trans (List.length_filter_le _ _) ?_
        simp only [List.length_cons, hf] at k4
        omega)
  subst e
  exact ⟨ms, hr, h1, h2, h3⟩
/-! what is known -/
def oD : Option (Int × List Nat) → D
  | some x => cD x
  | none => .non
/-- the table: moments and what was found there -/
abbrev tabD (ks : List Int) (known : Int → Option (Int × List Nat)) : D := .dct false (ks.map .int) (ks.map fun m => oD (known m))
theorem look_tab (known : Int → Option (Int × List Nat)) (m : Int) : ∀ (ks : List Int), m ∈ ks → lookD (.int m) (ks.map .int) (ks.map fun m => oD (known m)) = some (oD (known m))
  | a :: ks, h => by
    simp only [List.map_cons, lookD, eqD_int]
    by_cases c : a = m
    · subst c; simp
    · have : m ∈ ks := by
        rcases List.mem_cons.mp h with e | e
        · exact (c e.symm).elim
        · exact e
      simp only [c, decide_false, Bool.false_eq_true, if_false]
      exact look_tab known m ks this
theorem sub_tab {known : Int → Option (Int × List Nat)} {m : Int} {ks : List Int} (h : m ∈ ks) : subD (tabD ks known) (.int m) = some (oD (known m)) := by
  have e : subD (tabD ks known) (.int m) = lookD (.int m) (ks.map .int) (ks.map fun m => oD (known m)) := rfl
  rw [e]
  exact look_tab known m ks h
abbrev Bf (st : List (Int × Int)) (p : Nat) : Int := (st.getD p (0, 0)).1
abbrev Ef (st : List (Int × Int)) (p : Nat) : Int := (st.getD p (0, 0)).2
abbrev Cf (cs : List Int) (p : Nat) : Int := cs.getD p 0
theorem get_st {st : List (Int × Int)} {p : Nat} (h : p < st.length) : (st.map pD)[p]? = some (pD (st.getD p (0, 0))) := by
  rw [List.getElem?_map, List.getD_eq_getElem?_getD, List.getElem?_eq_getElem h]
  rfl
theorem coversWith (n : Nat) {st : List (Int × Int)} {cs : List Int} {start : Int} {p : Nat} {ks : List Int} {known : Int → Option (Int × List Nat)} (hp : p < st.length) (hl : cs.length = st.length) (hk : start < Bf st p → Bf st p - 1 ∈ ks) (hz : ∀ m x, known m = some x → x.2.length < 1000) :
    callD k5ds (n + 1) 17 [stD st, csD cs, .int start, .int p, tabD ks known] = some (.lst ((cand (Bf st) (Cf cs) start known p).map cD), []) := by
  obtain ⟨r, hr, e⟩ := call_wp1 (n := n) (ds := k5ds) (f := 17) (args := [stD st, csD cs, .int start, .int p, tabD ks known]) (Q := fun r => r = .lst ((cand (Bf st) (Cf cs) start known p).map cD))
    [.val (stD st), .val (csD cs), .val (.int start), .val (.int p), .val (tabD ks known), .no] rfl rfl rfl rfl (by
    have hs : ∀ env, getV env 0 = some (stD st) → getV env 3 = some (.int p) → evE (callD k5ds n) (rfsOf k5ds) (.sub (.sub (.var 0) (.var 3)) (.cst (.int 0))) env = some (.int (Bf st p), env) := fun env v0 v3 =>
      v_sub (v_sub (v_var v0) (v_var v3) (sub_tupN (get_st hp))) v_cst rfl
    refine wp_set (d := oD (if start < Bf st p then known (Bf st p - 1) else some (0, []))) (e1 := [.val (stD st), .val (csD cs), .val (.int start), .val (.int p), .val (tabD ks known), .no]) (v_ite (p := decide (start < Bf st p)) (v_cmp (hs _ rfl rfl) (v_var rfl) rfl) (fun h => ?_) (fun h => ?_)) rfl (by show 5 < 6; decide) ?_
    · have h := of_decide_eq_true h
      rw [if_pos h]
      exact v_sub (v_var rfl) (v_bin (hs _ rfl rfl) v_cst rfl) (sub_tab (hk h))
    · have h := of_decide_eq_false h
      rw [if_neg h]
      exact v_tup (vs_cons v_cst (vs_cons (v_tup vs_nil (by decide)) vs_nil)) (by show 2 ≤ 16777216; decide)
    · refine wp_ret (r_e (e1 := [.val (stD st), .val (csD cs), .val (.int start), .val (.int p), .val (tabD ks known), .val (oD (if start < Bf st p then known (Bf st p - 1) else some (0, [])))]) (d := .lst ((cand (Bf st) (Cf cs) start known p).map cD)) ?_ nofun nofun) ⟨[], rfl, rfl⟩
      have hx : ∀ x, (if start < Bf st p then known (Bf st p - 1) else some (0, [])) = some x → x.2.length < 1000 := fun x hx => by
        split at hx
        · exact hz _ _ hx
        · cases hx; show 0 < 1000; decide
      have hc : (csD cs) = .tup (cs.map .int) := rfl
      have hcp : (cs.map D.int)[p]? = some (.int (Cf cs p)) := get_mapI (by omega)
      unfold cand
      generalize (if start < Bf st p then known (Bf st p - 1) else some (0, [])) = o at hx ⊢
      cases o with
      | none => exact v_ite (p := false) (v_cmp (v_var rfl) v_cst rfl) nofun fun _ => v_lst (ds := []) vs_nil (by show 0 ≤ 16777216; decide)
      | some x =>
        have hlen := hx x rfl
        refine v_ite (p := true) (v_cmp (v_var rfl) v_cst rfl) (fun _ => ?_) nofun
        refine v_lst (vs_cons (v_tup (vs_cons (v_bin (v_sub (v_var rfl) v_cst rfl) (v_sub (v_var rfl) (v_var rfl) (sub_tupN hcp)) rfl) (vs_cons (v_tups (vs_cons (v_sub (v_var rfl) v_cst rfl) (vs_cons (v_var rfl) vs_nil)) (xs := (x.2 ++ [p]).map fun (q : Nat) => D.int q) ?_ ?_) vs_nil)) (by show 2 ≤ 16777216; decide)) vs_nil) (by show 1 ≤ 16777216; decide)
        · rw [List.map_append]
          rfl
        · rw [List.length_map, List.length_append]
          simp only [List.length_cons, List.length_nil, SZ]
          omega)
  rw [hr, e]
theorem ne_nilD (l : List D) (h : l.all (dok 39) = true) : cmpD .ne (.lst l) (.lst []) = some (!l.isEmpty) := by
  have e : eqQ (.lst l) (.lst []) = some (eqD (.lst l) (.lst [])) := by
    show (if (dok 40 (.lst l) && dok 40 (.lst [])) = true then _ else _) = _
    rw [if_pos]
    simp only [dok, h, List.all_nil, Bool.and_self]
  show (eqQ (.lst l) (.lst [])).map (!·) = _
  rw [e]
  cases l <;> simp [eqD, eqDs]
theorem dok_cD39 (l : List (Int × List Nat)) : (l.map cD).all (dok 39) = true := by
  rw [List.all_map, List.all_eq_true]
  intro x _
  simp only [Function.comp, cD, dok, List.all_cons, List.all_nil, Bool.and_true, Bool.true_and, List.all_map, List.all_eq_true]
  exact fun _ _ => trivial
def cnd (st : List (Int × Int)) (cs : List Int) (start m : Int) (known : Int → Option (Int × List Nat)) (p : Nat) : List (Int × List Nat) := if Bf st p ≤ m ∧ m ≤ Ef st p then cand (Bf st) (Cf cs) start known p else []
theorem cand_len {B C : Nat → Int} {start : Int} {known : Int → Option (Int × List Nat)} {p : Nat} : (cand B C start known p).length ≤ 1 := by
  unfold cand
  split <;> simp
theorem cnd_len (st : List (Int × Int)) (cs : List Int) (start m : Int) (known : Int → Option (Int × List Nat)) : ∀ zs : List Nat, (zs.flatMap (cnd st cs start m known)).length ≤ zs.length
  | [] => Nat.le_refl _
  | a :: zs => by
    rw [List.flatMap_cons, List.length_append, List.length_cons]
    have := cnd_len st cs start m known zs
    have : (cnd st cs start m known a).length ≤ 1 := by
      unfold cnd
      split
      · exact cand_len
      · simp
    omega
theorem range_split {n y : Nat} {zs ws : List Nat} (h : List.range n = zs ++ y :: ws) : y < n ∧ zs.length = y := by
  have h1 : (List.range n)[zs.length]? = some y := by rw [h]; simp
  obtain ⟨h2, h3⟩ := List.getElem?_eq_some_iff.mp h1
  rw [List.length_range] at h2
  rw [List.getElem_range] at h3
  omega
theorem upTo (n : Nat) {st : List (Int × Int)} {cs : List Int} {start m : Int} {ks : List Int} {known : Int → Option (Int × List Nat)} (h9 : st.length ≤ 9) (hl : cs.length = st.length) (hk : ∀ p, p < st.length → Bf st p ≤ m → start < Bf st p → Bf st p - 1 ∈ ks) (hz : ∀ m x, known m = some x → x.2.length < 1000) :
    ∃ o, callD k5ds (n + 2) 18 [stD st, csD cs, .int start, .int m, tabD ks known] = some (oD o, []) ∧ (cands (Bf st) (Ef st) (Cf cs) st.length start m known = [] → o = none) ∧ (cands (Bf st) (Ef st) (Cf cs) st.length start m known ≠ [] → ∃ x ∈ cands (Bf st) (Ef st) (Cf cs) st.length start m known, o = some x ∧ ∀ y ∈ cands (Bf st) (Ef st) (Cf cs) st.length start m known, x.1 ≤ y.1) := by
  obtain ⟨r, hr, o, e, h1, h2⟩ := call_wp1 (n := n + 1) (ds := k5ds) (f := 18) (args := [stD st, csD cs, .int start, .int m, tabD ks known]) (Q := fun r => ∃ o, r = oD o ∧ (cands (Bf st) (Ef st) (Cf cs) st.length start m known = [] → o = none) ∧ (cands (Bf st) (Ef st) (Cf cs) st.length start m known ≠ [] → ∃ x ∈ cands (Bf st) (Ef st) (Cf cs) st.length start m known, o = some x ∧ ∀ y ∈ cands (Bf st) (Ef st) (Cf cs) st.length start m known, x.1 ≤ y.1))
    [.val (stD st), .val (csD cs), .val (.int start), .val (.int m), .val (tabD ks known), .no, .no, .no] rfl rfl rfl rfl (by
    refine wp_new (v_lst vs_nil (by show 0 ≤ 16777216; decide)) rfl (by show 5 ≤ 5; decide) (by show 5 < 8; decide) ?_
    refine wp_for (F := fun i : Nat => D.xtp [.int i, (st.map pD).getD i .non]) (List.range (st.map pD).length) (fun zs e => ∃ s6 s7, e = [.val (stD st), .val (csD cs), .val (.int start), .val (.int m), .val (tabD ks known), .own (.lst ((zs.flatMap (cnd st cs start m known)).map cD)), s6, s7] ∧ isO e 6 = false ∧ isO e 7 = false) (it_enu (v_var rfl) rfl) rfl ⟨.no, .no, rfl, rfl, rfl⟩ (fun _ _ _ => rfl) ?_ ?_
    · rintro zs y ws e hy ⟨s6, s7, rfl, o6, o7⟩
      obtain ⟨hlt, hzl⟩ := range_split hy
      rw [List.length_map] at hlt
      have hg : (st.map pD).getD y .non = pD (st.getD y (0, 0)) := by
        rw [List.getD_eq_getElem?_getD, get_st hlt]; rfl
      refine ⟨_, putX2 o6 (by show 6 < 8; decide) o7 (by show 7 < 8; decide), ?_⟩
      rw [hg]
      have hc := cnd_len st cs start m known zs
      have hsn : (zs ++ [y]).flatMap (cnd st cs start m known) = zs.flatMap (cnd st cs start m known) ++ cnd st cs start m known y := by simp [List.flatMap_append]
      refine wp_ite (p := decide (Bf st y ≤ m) && decide (m ≤ Ef st y)) (e1 := [.val (stD st), .val (csD cs), .val (.int start), .val (.int m), .val (tabD ks known), .own (.lst ((zs.flatMap (cnd st cs start m known)).map cD)), .val (.int y), .val (pD (st.getD y (0, 0)))]) (v_call (as_v (v_var rfl) (as_v (v_var rfl) as_nil)) rfl rfl (hasMoment n (st.getD y (0, 0)) m) (.inl rfl)) (fun hh => ?_) (fun hh => wp_nil (wp_nil ⟨.val (.int y), .val (pD (st.getD y (0, 0))), ?_, rfl, rfl⟩))
      · simp only [Bool.and_eq_true, decide_eq_true_eq] at hh
        have ec : cnd st cs start m known y = cand (Bf st) (Cf cs) start known y := if_pos hh
        have hcl : (cand (Bf st) (Cf cs) start known y).length ≤ 1 := cand_len
        refine wp_exp (v_mm (m := .extend) (i := 5) (ds := [.lst ((cand (Bf st) (Cf cs) start known y).map cD)]) (o := .lst ((zs.flatMap (cnd st cs start m known)).map cD)) (d' := .lst (((zs ++ [y]).flatMap (cnd st cs start m known)).map cD)) (r := .non) rfl (vs_cons (v_call (as_v (v_var rfl) (as_v (v_var rfl) (as_v (v_var rfl) (as_v (v_var rfl) (as_v (v_var rfl) as_nil))))) rfl rfl (coversWith n hlt hl (hk y hlt hh.1) hz) (.inl rfl)) vs_nil) rfl ?_) (wp_nil (wp_nil ⟨_, _, rfl, rfl, rfl⟩))
        show (if _ ≤ SZ then _ else _) = _
        rw [if_pos (by simp only [List.length_map, SZ]; omega), hsn, ec, List.map_append]
      · rw [hsn]
        have ec : cnd st cs start m known y = [] := if_neg fun z => by
          simp only [z.1, z.2, decide_true, Bool.and_self] at hh
          cases hh
        rw [ec, List.append_nil]
    · rintro e ⟨s6, s7, rfl, o6, o7⟩
      have ecs : (List.range (st.map pD).length).flatMap (cnd st cs start m known) = cands (Bf st) (Ef st) (Cf cs) st.length start m known := by
        rw [List.length_map]; rfl
      rw [ecs]
      by_cases c : cands (Bf st) (Ef st) (Cf cs) st.length start m known = []
      · refine wp_ret (r_e (e1 := [.val (stD st), .val (csD cs), .val (.int start), .val (.int m), .val (tabD ks known), .own (.lst ((cands (Bf st) (Ef st) (Cf cs) st.length start m known).map cD)), s6, s7]) (d := .non) ?_ nofun nofun) ⟨[], rfl, none, rfl, fun _ => rfl, fun z => (z c).elim⟩
        refine v_ite (p := false) (v_cmpA (op_o rfl) (op_v (v_lst (ds := []) vs_nil (by show 0 ≤ 16777216; decide))) rfl rfl ?_) nofun fun _ => v_cst
        rw [ne_nilD _ (dok_cD39 _), c]
        rfl
      · obtain ⟨x, h1, h2, h3⟩ := min_cD c
        refine wp_ret (r_e (e1 := [.val (stD st), .val (csD cs), .val (.int start), .val (.int m), .val (tabD ks known), .own (.lst ((cands (Bf st) (Ef st) (Cf cs) st.length start m known).map cD)), s6, s7]) (d := cD x) ?_ nofun nofun) ⟨[], rfl, some x, rfl, fun z => (c z).elim, fun _ => ⟨x, h1, rfl, h3⟩⟩
        refine v_ite (p := true) (v_cmpA (op_o rfl) (op_v (v_lst (ds := []) vs_nil (by show 0 ≤ 16777216; decide))) rfl rfl ?_) (fun _ => v_bi (as_o rfl as_nil) rfl h2) nofun
        rw [ne_nilD _ (dok_cD39 _)]
        cases hq : cands (Bf st) (Ef st) (Cf cs) st.length start m known with
        | nil => exact (c hq).elim
        | cons a b => rfl)
  subst e
  exact ⟨o, hr, h1, h2⟩
theorem cost0 {cs : List Int} (h : ∀ c ∈ cs, 0 ≤ c ∧ c ≤ 9999) (p : Nat) : 0 ≤ Cf cs p := by
  show 0 ≤ cs.getD p 0
  rw [List.getD_eq_getElem?_getD]
  cases e : cs[p]? with
  | none => exact Int.le_refl _
  | some c => exact (h c (List.mem_of_getElem? e)).1
theorem look_not (known : Int → Option (Int × List Nat)) (m : Int) : ∀ (ks : List Int), m ∉ ks → lookD (.int m) (ks.map .int) (ks.map fun m => oD (known m)) = none
  | [], _ => rfl
  | a :: ks, h => by
    simp only [List.map_cons, lookD, eqD_int]
    have c : ¬ a = m := fun z => h (by rw [z]; simp)
    simp only [c, decide_false, Bool.false_eq_true, if_false]
    exact look_not known m ks fun z => h (List.mem_cons_of_mem _ z)
theorem set_tab {known : Int → Option (Int × List Nat)} {m : Int} {ks : List Int} {o : Option (Int × List Nat)} (h : m ∉ ks) (hl : ks.length < SZ) : setD (tabD ks known) (.int m) (oD o) = some (tabD (ks ++ [m]) fun k => if k = m then o else known k) := by
  have e : setD (tabD ks known) (.int m) (oD o) = if (keyOk false (.int m) && decide ((ks.map D.int).length < SZ)) = true then (let r := putD (.int m) (oD o) (ks.map .int) (ks.map fun m => oD (known m)); some (.dct false r.1 r.2)) else none := rfl
  rw [e, if_pos (by rw [List.length_map, decide_eq_true hl]; rfl)]
  unfold putD
  rw [look_not known m ks h]
  simp only [Option.isSome_none, Bool.false_eq_true, if_false, Option.some.injEq, tabD, List.map_append, List.map_cons, List.map_nil, if_true]
  have : (ks.map fun k => oD (if k = m then o else known k)) = ks.map fun k => oD (known k) := List.map_congr_left fun k hk => by
    have : k ≠ m := fun z => h (by rw [← z]; exact hk)
    rw [if_neg this]
  rw [this]
abbrev GoodK (st : List (Int × Int)) (cs : List Int) (start m : Int) (o : Option (Int × List Nat)) : Prop := Good (Bf st) (Ef st) (Cf cs) st.length start m o
theorem covers (n : Nat) {st : List (Int × Int)} {cs : List Int} {start stop : Int} (h : Ok st cs start stop) : ∃ (ms : List Int) (known : Int → Option (Int × List Nat)), callD k5ds (n + 3) 19 [stD st, csD cs, .int start, .int stop] = some (tabD ms known, []) ∧ (∀ m, m ∈ ms ↔ Asked st start stop m) ∧ ∀ m ∈ ms, GoodK st cs start m (known m) := by
  obtain ⟨ms, a1, a2, a3, a4⟩ := asked (n + 1) (st := st) (start := start) (stop := stop) h.nine
  obtain ⟨r, hr, known, e, k1⟩ := call_wp1 (n := n + 2) (ds := k5ds) (f := 19) (args := [stD st, csD cs, .int start, .int stop]) (Q := fun r => ∃ known, r = tabD ms known ∧ ∀ m ∈ ms, GoodK st cs start m (known m))
    [.val (stD st), .val (csD cs), .val (.int start), .val (.int stop), .no, .no] rfl rfl rfl rfl (by
    refine wp_new v_dct0 rfl (by show 4 ≤ 4; decide) (by show 4 < 6; decide) ?_
    refine wp_for (F := D.int) ms (fun zs e => ∃ known s5, e = [.val (stD st), .val (csD cs), .val (.int start), .val (.int stop), .own (tabD zs known), s5] ∧ isO e 5 = false ∧ (∀ m ∈ zs, GoodK st cs start m (known m)) ∧ ∀ m x, known m = some x → x.2.length ≤ zs.length) (it_seq (v_call (as_v (v_var rfl) (as_v (v_var rfl) (as_v (v_var rfl) as_nil))) rfl rfl a1 (.inl rfl)) rfl) rfl ⟨fun _ => none, .no, rfl, rfl, by simp, nofun⟩ (fun _ _ _ => rfl) ?_ ?_
    · rintro zs y ws e hy ⟨known, s5, rfl, o5, g1, g2⟩
      have hym : y ∈ ms := by rw [hy]; simp
      have hya := (a3 y).mp hym
      have hp := a2
      rw [hy] at hp
      obtain ⟨hp1, hp2, hp3⟩ := List.pairwise_append.mp hp
      have hp4 := (List.pairwise_cons.mp hp2).1
      have hyz : y ∉ zs := fun z => by
        have := hp3 y z y (by simp)
        omega
      have hzl : zs.length ≤ 64 := by
        have := congrArg List.length hy
        rw [List.length_append] at this
        omega
      have hk : ∀ p, p < st.length → Bf st p ≤ y → start < Bf st p → Bf st p - 1 ∈ zs := fun p q1 q2 q3 => by
        have hmem : st.getD p (0, 0) ∈ st := by
          rw [List.getD_eq_getElem?_getD, List.getElem?_eq_getElem q1]
          exact List.getElem_mem q1
        have : Bf st p - 1 ∈ ms := (a3 _).mpr ⟨by omega, by have := hya.2.1; omega, .inr (.inr ⟨_, hmem, .inl rfl⟩)⟩
        rw [hy] at this
        rcases List.mem_append.mp this with z | z
        · exact z
        · rcases List.mem_cons.mp z with e | e
          · omega
          · have := hp4 _ e
            omega
      obtain ⟨o, u1, u2, u3⟩ := upTo n (m := y) (ks := zs) (known := known) h.nine h.len hk fun m x hx => by
        have := g2 m x hx
        omega
      have G : ∀ p, p < st.length → Bf st p ≤ y → start < Bf st p → Good (Bf st) (Ef st) (Cf cs) st.length start (Bf st p - 1) (known (Bf st p - 1)) := fun p q1 q2 q3 => g1 _ (hk p q1 q2 q3)
      have go : GoodK st cs start y o := by
        by_cases c : cands (Bf st) (Ef st) (Cf cs) st.length start y known = []
        · rw [u2 c]
          exact step_none (cost0 h.cost) hya.1 G c
        · obtain ⟨x, x1, x2, x3⟩ := u3 c
          rw [x2]
          exact step_some (cost0 h.cost) hya.1 G x1 x3
      have ol : ∀ x, o = some x → x.2.length ≤ zs.length + 1 := fun x hx => by
        by_cases c : cands (Bf st) (Ef st) (Cf cs) st.length start y known = []
        · rw [u2 c] at hx; cases hx
        · obtain ⟨x', x1, x2, x3⟩ := u3 c
          rw [hx] at x2
          cases x2
          obtain ⟨p, _, _, _, p4⟩ := mem_cands.mp x1
          obtain ⟨w, w1, rfl⟩ := cand_some p4
          simp only [List.length_append, List.length_cons, List.length_nil]
          split at w1
          · have := g2 _ _ w1; omega
          · cases w1; simp
      have nl : noL (oD o) = true := by
        cases o with
        | none => rfl
        | some x =>
          simp only [oD, cD, noL, noLs, Bool.and_true, Bool.true_and]
          have : ∀ l : List Nat, noLs (l.map fun (p : Nat) => D.int p) = true := fun l => by
            induction l with
            | nil => rfl
            | cons a l ih => simp only [List.map_cons, noLs, noL, ih, Bool.and_self]
          exact this _
      refine ⟨_, putN o5 (by show 5 < 6; decide), ?_⟩
      refine wp_sb (d := oD o) (e1 := [.val (stD st), .val (csD cs), .val (.int start), .val (.int stop), .own (tabD zs known), .val (.int y)]) (v_call (as_v (v_var rfl) (as_v (v_var rfl) (as_v (v_var rfl) (as_v (v_var rfl) (as_o rfl as_nil))))) rfl rfl u1 (.inr nl)) rfl (v_var rfl) rfl (set_tab hyz (by unfold SZ; omega)) (wp_nil ⟨_, _, rfl, rfl, fun m hm => ?_, fun m x hx => ?_⟩)
      · by_cases c : m = y
        · subst c
          rw [if_pos rfl]
          exact go
        · rw [if_neg c]
          rcases List.mem_append.mp hm with z | z
          · exact g1 m z
          · exact (c (by simpa using z)).elim
      · rw [List.length_append]
        by_cases c : m = y
        · rw [if_pos c] at hx
          exact ol x hx
        · rw [if_neg c] at hx
          have := g2 m x hx
          omega
    · rintro e ⟨known, s5, rfl, o5, g1, g2⟩
      exact wp_ret (r_own (by show 4 ≤ 4; decide) rfl) ⟨[], rfl, known, rfl, g1⟩)
  subst e
  exact ⟨ms, known, hr, a3, k1⟩
end K75
set_option Elab.async false
set_option linter.all false
set_option maxRecDepth 100000
/-! K75C: the least cost, a cheapest cover, the prices. -/
namespace K75
open PySem Qx CC
section
variable {st : List (Int × Int)} {cs : List Int} {start stop : Int}
abbrev BestK (st : List (Int × Int)) (cs : List Int) (start m c : Int) (ps : List Nat) : Prop := Best (Bf st) (Ef st) (Cf cs) st.length start m c ps
/-- all that is asked is covered by some lot -/
def Covd (st : List (Int × Int)) (start stop : Int) : Prop := ∃ L, lot st.length L ∧ CC.covers (Bf st) (Ef st) L start stop
noncomputable abbrev fK (st : List (Int × Int)) (cs : List Int) (start m : Int) : Int := f (Bf st) (Ef st) (Cf cs) st.length start m
open Classical in
/-- what is due: the least cost, None where not all is covered -/
noncomputable def dueD (st : List (Int × Int)) (cs : List Int) (start stop : Int) : D := if Covd st start stop then .int (fK st cs start stop) else .non
theorem due_yes (h : Covd st start stop) : dueD st cs start stop = .int (fK st cs start stop) := if_pos h
theorem due_no (h : ¬ Covd st start stop) : dueD st cs start stop = .non := if_neg h
theorem good_yes {o : Option (Int × List Nat)} {m : Int} (hs : start ≤ m) (g : GoodK st cs start m o) (h : Covd st start m) : ∃ x, o = some x ∧ x.1 = fK st cs start m ∧ BestK st cs start m x.1 x.2 := by
  cases o with
  | none =>
    obtain ⟨L, l1, l2⟩ := h
    exact (g L l1 l2).elim
  | some x => exact ⟨x, rfl, (f_eq hs g).symm, g⟩
theorem good_no {o : Option (Int × List Nat)} {m : Int} (g : GoodK st cs start m o) (h : ¬ Covd st start m) : o = none := by
  cases o with
  | none => rfl
  | some x =>
    have g : BestK st cs start m x.1 x.2 := g
    exact (h ⟨_, g.lot, g.cov⟩).elim
/-- what the table says of a moment asked -/
theorem at_stop (h : Ok st cs start stop) : Asked st start stop stop := ⟨h.le, Int.le_refl _, .inr (.inl rfl)⟩
theorem leastBy (n : Nat) (h : Ok st cs start stop) : callD k5ds (n + 4) 20 [stD st, csD cs, .int start, .int stop] = some (dueD st cs start stop, []) := by
  obtain ⟨ms, known, c1, c2, c3⟩ := covers n h
  have hm := (c2 stop).mpr (at_stop h)
  have g := c3 _ hm
  have hs : evE (callD k5ds (n + 3)) (rfsOf k5ds) (.sub (.call 19 [(.var 0), (.var 1), (.var 2), (.var 3)] []) (.var 3)) [.val (stD st), .val (csD cs), .val (.int start), .val (.int stop), .no] = some (oD (known stop), [.val (stD st), .val (csD cs), .val (.int start), .val (.int stop), .no]) :=
    v_sub (v_call (as_v (v_var rfl) (as_v (v_var rfl) (as_v (v_var rfl) (as_v (v_var rfl) as_nil)))) rfl rfl c1 (.inl rfl)) (v_var rfl) (sub_tab hm)
  obtain ⟨r, hr, e⟩ := call_wp1 (n := n + 3) (ds := k5ds) (f := 20) (args := [stD st, csD cs, .int start, .int stop]) (Q := fun r => r = dueD st cs start stop)
    [.val (stD st), .val (csD cs), .val (.int start), .val (.int stop), .no] rfl rfl rfl rfl (by
    refine wp_set hs rfl (by show 4 < 5; decide) ?_
    refine wp_ret (r_e (e1 := [.val (stD st), .val (csD cs), .val (.int start), .val (.int stop), .val (oD (known stop))]) (d := dueD st cs start stop) ?_ nofun nofun) ⟨[], rfl, rfl⟩
    by_cases c : Covd st start stop
    · obtain ⟨x, x1, x2, x3⟩ := good_yes h.le g c
      rw [due_yes c, x1, ← x2]
      exact v_ite (p := true) (v_cmp (v_var rfl) v_cst rfl) (fun _ => v_sub (v_var rfl) v_cst rfl) nofun
    · rw [due_no c, good_no g c]
      exact v_ite (p := false) (v_cmp (v_var rfl) v_cst rfl) nofun fun _ => v_cst)
  rw [hr, e]
def natD (L : List Nat) : List D := L.map fun (p : Nat) => D.int p
theorem natD_ints (L : List Nat) : natD L = (L.map fun (p : Nat) => (p : Int)).map D.int := by
  unfold natD
  rw [List.map_map]; rfl
theorem sort_nat (L : List Nat) : ∃ M : List Nat, sortI (L.map fun (p : Nat) => (p : Int)) = M.map (fun (p : Nat) => (p : Int)) ∧ M.Perm L ∧ M.Pairwise (· ≤ ·) := by
  refine ⟨L.mergeSort fun a b => decide (a ≤ b), ?_, List.mergeSort_perm L _, ?_⟩
  · unfold sortI
    exact (List.map_mergeSort fun a _ b _ => by simp only [decide_eq_decide]; omega).symm
  · have := List.pairwise_mergeSort (le := fun a b : Nat => decide (a ≤ b)) (fun a b c h1 h2 => by simp only [decide_eq_true_eq] at *; omega) (fun a b => by simp only [Bool.or_eq_true, decide_eq_true_eq]; omega) L
    exact this.imp fun h => of_decide_eq_true h
/-- a cheapest cover: its persons ascending -/
def CoverD (st : List (Int × Int)) (cs : List Int) (start stop : Int) (d : D) : Prop := (Covd st start stop → ∃ L, d = .tup (natD L) ∧ Asc L ∧ BestK st cs start stop (fK st cs start stop) L) ∧ (¬ Covd st start stop → d = .non)
theorem coverBy (n : Nat) (h : Ok st cs start stop) : ∃ d, callD k5ds (n + 4) 21 [stD st, csD cs, .int start, .int stop] = some (d, []) ∧ CoverD st cs start stop d := by
  obtain ⟨ms, known, c1, c2, c3⟩ := covers n h
  have hm := (c2 stop).mpr (at_stop h)
  have g := c3 _ hm
  have hs : evE (callD k5ds (n + 3)) (rfsOf k5ds) (.sub (.call 19 [(.var 0), (.var 1), (.var 2), (.var 3)] []) (.var 3)) [.val (stD st), .val (csD cs), .val (.int start), .val (.int stop), .no] = some (oD (known stop), [.val (stD st), .val (csD cs), .val (.int start), .val (.int stop), .no]) :=
    v_sub (v_call (as_v (v_var rfl) (as_v (v_var rfl) (as_v (v_var rfl) (as_v (v_var rfl) as_nil)))) rfl rfl c1 (.inl rfl)) (v_var rfl) (sub_tab hm)
  refine call_wp1 (n := n + 3) (ds := k5ds) (f := 21) (args := [stD st, csD cs, .int start, .int stop]) (Q := CoverD st cs start stop)
    [.val (stD st), .val (csD cs), .val (.int start), .val (.int stop), .no] rfl rfl rfl rfl ?_
  refine wp_set hs rfl (by show 4 < 5; decide) ?_
  by_cases c : Covd st start stop
  · obtain ⟨x, x1, x2, x3⟩ := good_yes h.le g c
    obtain ⟨M, m1, m2, m3⟩ := sort_nat x.2
    refine wp_ret (r_e (e1 := [.val (stD st), .val (csD cs), .val (.int start), .val (.int stop), .val (oD (known stop))]) (d := .tup (natD M)) ?_ nofun nofun) ⟨[], rfl, fun _ => ⟨M, rfl, ?_, ?_⟩, fun z => (z c).elim⟩
    · rw [x1]
      refine v_ite (p := true) (v_cmp (v_var rfl) v_cst rfl) (fun _ => v_bi1 (v_bi1 (v_sub (v_var rfl) v_cst rfl) (d := .lst (natD M)) ?_) rfl) nofun
      have := sorted_intsT (x.2.map fun (p : Nat) => (p : Int))
      rw [m1, ← natD_ints, ← natD_ints] at this
      exact this
    · have hn : M.Nodup := m2.nodup_iff.mpr x3.nodup
      exact m3.imp₂ (fun a b => by omega) hn
    · rw [← x2]
      exact x3.perm m2
  · refine wp_ret (r_e (e1 := [.val (stD st), .val (csD cs), .val (.int start), .val (.int stop), .val (oD (known stop))]) (d := .non) ?_ nofun nofun) ⟨[], rfl, fun z => (c z).elim, fun _ => rfl⟩
    rw [good_no g c]
    exact v_ite (p := false) (v_cmp (v_var rfl) v_cst rfl) nofun fun _ => v_cst
theorem priced (n : Nat) (h : Ok st cs start stop) : ∃ P : List Int, callD k5ds (n + 1) 22 [stD st, .int start, .int stop] = some (.lst (P.map .int), []) ∧ Pm (Ef st) st.length start stop P ∧ P.length ≤ 10 := by
  obtain ⟨ms, k1, k2, k3, k4⟩ := sset_ints (l := start :: st.map fun x => x.2 + 1) (by have := h.nine; simp only [List.length_cons, List.length_map]; omega)
  have h9 := h.nine
  obtain ⟨r, hr, e⟩ := call_wp1 (n := n) (ds := k5ds) (f := 22) (args := [stD st, .int start, .int stop]) (Q := fun r => r = .lst ((ms.filter fun m => decide (start ≤ m) && decide (m ≤ stop)).map .int))
    [.val (stD st), .val (.int start), .val (.int stop), .no, .no, .no] rfl rfl rfl rfl (by
    refine wp_set (e1 := [.val (stD st), .val (.int start), .val (.int stop), .no, .no, .no]) (v_bi1 (v_bin (dx := .lst [.int start]) (dy := .lst ((st.map fun x => x.2 + 1).map .int)) (v_lst (vs_cons (v_var rfl) vs_nil) (by show 1 ≤ 16777216; decide)) ?_ ?_) k1) rfl (by show 3 < 6; decide) ?_
    · have := v_compT (Φ := callD k5ds n) (R := rfsOf k5ds) (env := [.val (stD st), .val (.int start), .val (.int stop), .no, .no, .no]) (elt := .bin .add (.sub (.var 5) (.cst (.int 1))) (.cst (.int 1))) (vs := [5]) (t := .nm 5) (it := .seq (.var 0)) st pD (fun x => .int (x.2 + 1)) (it_seq (v_var rfl) rfl) rfl rfl rfl (fun y hy => ⟨_, putN rfl (by show 5 < 6; decide), v_bin (v_sub (v_var rfl) v_cst rfl) v_cst rfl, rfl⟩) (by unfold SZ; omega)
      rw [List.map_map]
      exact this
    · show (if _ ≤ SZ then _ else _) = _
      rw [if_pos (by simp only [List.length_cons, List.length_nil, List.length_map, SZ]; omega)]
      rfl
    · exact wp_ret (r_e (v_comp ms D.int (fun m => decide (start ≤ m) && decide (m ≤ stop)) D.int (it_seq (v_var rfl) rfl) rfl rfl rfl (fun y hy => ⟨_, putN rfl (by show 4 < 6; decide), v_chn (v_var rfl) (v_var rfl) rfl (fun _ => v_var rfl) (fun _ => rfl), fun _ => v_var rfl, rfl⟩) (by
        simp only [List.length_cons, List.length_map] at k4
        unfold SZ
        omega)) nofun nofun) ⟨[], rfl, rfl⟩)
  subst e
  refine ⟨_, hr, ⟨k2.filter _, fun m => ?_⟩, Nat.le_trans (List.length_filter_le _ _) (by simp only [List.length_cons, List.length_map] at k4; omega)⟩
  rw [List.mem_filter, k3]
  simp only [List.mem_cons, List.mem_map, Bool.and_eq_true, decide_eq_true_eq]
  refine ⟨fun ⟨a, b, c⟩ => ⟨b, c, a.imp id fun ⟨x, x1, x2⟩ => ?_⟩, fun ⟨b, c, a⟩ => ⟨a.imp id fun ⟨p, p1, p2⟩ => ⟨st.getD p (0, 0), ?_, p2.symm⟩, b, c⟩⟩
  · obtain ⟨p, hp, e⟩ := List.getElem_of_mem x1
    refine ⟨p, hp, ?_⟩
    rw [← x2, ← e]
    show _ = (st.getD p (0, 0)).2 + 1
    rw [List.getD_eq_getElem?_getD, List.getElem?_eq_getElem hp]
    rfl
  · rw [List.getD_eq_getElem?_getD, List.getElem?_eq_getElem p1]
    exact List.getElem_mem p1
/-- the prices -/
def PriceD (st : List (Int × Int)) (cs : List Int) (start stop : Int) (d : D) : Prop := (Covd st start stop → ∃ pr, d = .tup (pr.map pD) ∧ pr.length ≤ 10 ∧ Prices pr ∧ (∀ x ∈ pr, start ≤ x.1 ∧ x.1 ≤ stop) ∧ total pr = fK st cs start stop ∧ ∀ p, p < st.length → sumIn pr (Bf st p) (Ef st p) ≤ Cf cs p) ∧ (¬ Covd st start stop → d = .non)
theorem prOf_snoc {g : Int → Int} {zs : List Int} {y : Int} : prOf g (zs ++ [y]) = if 0 < g y then prOf g zs ++ [(y, g y)] else prOf g zs := by
  unfold prOf
  rw [List.filter_append]
  by_cases c : 0 < g y
  · rw [if_pos c]
    simp [List.filter_cons, c]
  · rw [if_neg c]
    simp [List.filter_cons, c]
theorem pricesBy (n : Nat) (h : Ok st cs start stop) : ∃ d, callD k5ds (n + 4) 23 [stD st, csD cs, .int start, .int stop] = some (d, []) ∧ PriceD st cs start stop d := by
  obtain ⟨ms, known, c1, c2, c3⟩ := covers n h
  have hm := (c2 stop).mpr (at_stop h)
  have g := c3 _ hm
  have h0 := cost0 h.cost
  obtain ⟨P, p1, p2, hPl⟩ := priced (n + 2) h
  refine call_wp1 (n := n + 3) (ds := k5ds) (f := 23) (args := [stD st, csD cs, .int start, .int stop]) (Q := PriceD st cs start stop)
    [.val (stD st), .val (csD cs), .val (.int start), .val (.int stop), .no, .no, .no, .no] rfl rfl rfl rfl ?_
  refine wp_set (e1 := [.val (stD st), .val (csD cs), .val (.int start), .val (.int stop), .no, .no, .no, .no]) (v_call (as_v (v_var rfl) (as_v (v_var rfl) (as_v (v_var rfl) (as_v (v_var rfl) as_nil)))) rfl rfl c1 (.inl rfl)) rfl (by show 4 < 8; decide) ?_
  by_cases c : Covd st start stop
  · obtain ⟨x, x1, x2, x3⟩ := good_yes h.le g c
    obtain ⟨L, l1, l2⟩ := c
    have c : Covd st start stop := ⟨L, l1, l2⟩
    have at_ : ∀ m, Asked st start stop m → subD (tabD ms known) (.int m) = some (oD (known m)) ∧ ∃ x, known m = some x ∧ x.1 = fK st cs start m := fun m ha => by
      have hmm := (c2 m).mpr ha
      obtain ⟨x, x1, x2, _⟩ := good_yes ha.1 (c3 m hmm) ⟨L, l1, covers_mono l2 ha.2.1⟩
      exact ⟨sub_tab hmm, x, x1, x2⟩
    have cost_ : ∀ (m : Int) (e : E) (env : En), Asked st start stop m → getV env 4 = some (tabD ms known) → evE (callD k5ds (n + 3)) (rfsOf k5ds) e env = some (.int m, env) → evE (callD k5ds (n + 3)) (rfsOf k5ds) (.sub (.sub (.var 4) e) (.cst (.int 0))) env = some (.int (fK st cs start m), env) := fun m e env ha hv he => by
      obtain ⟨q1, y, q2, q3⟩ := at_ m ha
      rw [q2] at q1
      exact v_sub (v_sub (v_var hv) he q1) v_cst (by rw [← q3]; rfl)
    refine wp_iteF (e1 := [.val (stD st), .val (csD cs), .val (.int start), .val (.int stop), .val (tabD ms known), .no, .no, .no]) (v_cmp (v_sub (v_var rfl) (v_var rfl) (sub_tab hm)) v_cst (by rw [x1]; rfl)) (wp_nil ?_)
    refine wp_new (v_lst vs_nil (by show 0 ≤ 16777216; decide)) rfl (by show 4 ≤ 5; decide) (by show 5 < 8; decide) ?_
    refine wp_for (F := D.int) P (fun zs e => ∃ s6 s7, e = [.val (stD st), .val (csD cs), .val (.int start), .val (.int stop), .val (tabD ms known), .own (.lst ((prOf (gf (Bf st) (Ef st) (Cf cs) st.length start) zs).map pD)), s6, s7] ∧ isO e 6 = false ∧ isO e 7 = false) (it_seq (v_call (as_v (v_var rfl) (as_v (v_var rfl) (as_v (v_var rfl) as_nil))) rfl rfl p1 (.inl rfl)) rfl) rfl ⟨.no, .no, rfl, rfl, rfl⟩ (fun _ _ _ => rfl) ?_ ?_
    · rintro zs y ws e hy ⟨s6, s7, rfl, o6, o7⟩
      have hyP : y ∈ P := by rw [hy]; simp
      have hya := (p2.mem y).mp hyP
      have askY : Asked st start stop y := ⟨hya.1, hya.2.1, hya.2.2.imp id fun ⟨p, q1, q2⟩ => .inr ⟨st.getD p (0, 0), by
        rw [List.getD_eq_getElem?_getD, List.getElem?_eq_getElem q1]
        exact List.getElem_mem q1, .inr (.inr q2)⟩⟩
      have hzl : (prOf (gf (Bf st) (Ef st) (Cf cs) st.length start) zs).length ≤ P.length := by
        have := congrArg List.length hy
        rw [List.length_append] at this
        unfold prOf
        rw [List.length_map]
        have := List.length_filter_le (fun m => decide (0 < gf (Bf st) (Ef st) (Cf cs) st.length start m)) zs
        omega
      refine ⟨_, putN o6 (by show 6 < 8; decide), ?_⟩
      refine wp_set (d := .int (gf (Bf st) (Ef st) (Cf cs) st.length start y)) (e1 := [.val (stD st), .val (csD cs), .val (.int start), .val (.int stop), .val (tabD ms known), .own (.lst ((prOf (gf (Bf st) (Ef st) (Cf cs) st.length start) zs).map pD)), .val (.int y), s7]) (v_bin (dy := .int (fK st cs start (y - 1))) (cost_ y _ _ askY rfl (v_var rfl)) (v_ite (p := decide (start < y)) (v_cmp (v_var rfl) (v_var rfl) rfl) (fun z => ?_) fun z => ?_) rfl) o7 (by show 7 < 8; decide) ?_
      · have z := of_decide_eq_true z
        refine cost_ (y - 1) _ _ ⟨by omega, by omega, ?_⟩ rfl (v_bin (v_var rfl) v_cst rfl)
        rcases hya.2.2 with e | ⟨p, q1, q2⟩
        · omega
        · refine .inr (.inr ⟨st.getD p (0, 0), ?_, .inr (.inl ?_)⟩)
          · rw [List.getD_eq_getElem?_getD, List.getElem?_eq_getElem q1]
            exact List.getElem_mem q1
          · show y - 1 = Ef st p
            omega
      · have z := of_decide_eq_false z
        have : fK st cs start (y - 1) = 0 := f_lo (by omega)
        rw [this]
        exact v_cst
      · refine wp_ite (p := decide (0 < gf (Bf st) (Ef st) (Cf cs) st.length start y)) (v_cmp (v_var rfl) v_cst rfl) (fun z => ?_) (fun z => wp_nil (wp_nil ⟨.val (.int y), .val (.int (gf (Bf st) (Ef st) (Cf cs) st.length start y)), ?_, rfl, rfl⟩))
        · have z := of_decide_eq_true z
          refine wp_exp (v_mm (m := .append) (i := 5) (ds := [pD (y, gf (Bf st) (Ef st) (Cf cs) st.length start y)]) (o := .lst ((prOf (gf (Bf st) (Ef st) (Cf cs) st.length start) zs).map pD)) (d' := .lst ((prOf (gf (Bf st) (Ef st) (Cf cs) st.length start) (zs ++ [y])).map pD)) (r := .non) rfl (vs_cons (v_tup (vs_cons (v_var rfl) (vs_cons (v_var rfl) vs_nil)) (by show 2 ≤ 16777216; decide)) vs_nil) rfl ?_) (wp_nil (wp_nil ⟨.val (.int y), .val (.int (gf (Bf st) (Ef st) (Cf cs) st.length start y)), rfl, rfl, rfl⟩))
          show (if _ < SZ then _ else _) = _
          rw [if_pos (by rw [List.length_map]; unfold SZ; omega), prOf_snoc, if_pos z, List.map_append]
          rfl
        · have z := of_decide_eq_false z
          rw [prOf_snoc, if_neg z]
          rfl
    · rintro e ⟨s6, s7, rfl, o6, o7⟩
      obtain ⟨q1, q2, q3, q4⟩ := prices_ok h0 l1 l2 p2 h.lo h.le h.hi
      refine wp_ret (r_e (e1 := [.val (stD st), .val (csD cs), .val (.int start), .val (.int stop), .val (tabD ms known), .own (.lst ((prOf (gf (Bf st) (Ef st) (Cf cs) st.length start) P).map pD)), s6, s7]) (d := .tup ((prOf (gf (Bf st) (Ef st) (Cf cs) st.length start) P).map pD)) (v_bi (as_o rfl as_nil) rfl rfl) nofun nofun) ⟨[], rfl, fun _ => ⟨_, rfl, ?_, q1, q2, q3, q4⟩, fun z => (z c).elim⟩
      unfold prOf
      rw [List.length_map]
      have := List.length_filter_le (fun m => decide (0 < gf (Bf st) (Ef st) (Cf cs) st.length start m)) P
      omega
  · refine wp_iteT (e1 := [.val (stD st), .val (csD cs), .val (.int start), .val (.int stop), .val (tabD ms known), .no, .no, .no]) (v_cmp (v_sub (v_var rfl) (v_var rfl) (sub_tab hm)) v_cst (by rw [good_no g c]; rfl)) (wp_ret (r_e v_cst nofun nofun) ⟨[], rfl, fun z => (c z).elim, fun _ => rfl⟩)
/-! the questions -/
theorem least (n : Nat) (h : Ok st cs start stop) : callD k5ds (n + 10) 28 [stD st, csD cs, .int start, .int stop] = some (dueD st cs start stop, []) :=
  call_ret (ds := k5ds) (f := 28) (e1 := [.val (stD st), .val (csD cs), .val (.int start), .val (.int stop)]) rfl rfl (ss_cons (s_exp (v_call (as_v (v_var rfl) (as_v (v_var rfl) (as_v (v_var rfl) (as_v (v_var rfl) as_nil)))) rfl rfl (checkAsked n h) (.inl rfl)))
    (ss_ret (s_ret (r_e (v_call (as_v (v_var rfl) (as_v (v_var rfl) (as_v (v_var rfl) (as_v (v_var rfl) as_nil)))) rfl rfl (leastBy (n + 5) h) (.inl rfl)) nofun nofun)))) rfl
theorem cover (n : Nat) (h : Ok st cs start stop) : ∃ d, callD k5ds (n + 10) 29 [stD st, csD cs, .int start, .int stop] = some (d, []) ∧ CoverD st cs start stop d := by
  obtain ⟨d, h1, h2⟩ := coverBy (n + 5) h
  exact ⟨d, call_ret (ds := k5ds) (f := 29) (e1 := [.val (stD st), .val (csD cs), .val (.int start), .val (.int stop)]) rfl rfl (ss_cons (s_exp (v_call (as_v (v_var rfl) (as_v (v_var rfl) (as_v (v_var rfl) (as_v (v_var rfl) as_nil)))) rfl rfl (checkAsked n h) (.inl rfl)))
    (ss_ret (s_ret (r_e (v_call (as_v (v_var rfl) (as_v (v_var rfl) (as_v (v_var rfl) (as_v (v_var rfl) as_nil)))) rfl rfl h1 (.inl rfl)) nofun nofun)))) rfl, h2⟩
theorem prices (n : Nat) (h : Ok st cs start stop) : ∃ d, callD k5ds (n + 10) 30 [stD st, csD cs, .int start, .int stop] = some (d, []) ∧ PriceD st cs start stop d := by
  obtain ⟨d, h1, h2⟩ := pricesBy (n + 5) h
  exact ⟨d, call_ret (ds := k5ds) (f := 30) (e1 := [.val (stD st), .val (csD cs), .val (.int start), .val (.int stop)]) rfl rfl (ss_cons (s_exp (v_call (as_v (v_var rfl) (as_v (v_var rfl) (as_v (v_var rfl) (as_v (v_var rfl) as_nil)))) rfl rfl (checkAsked n h) (.inl rfl)))
    (ss_ret (s_ret (r_e (v_call (as_v (v_var rfl) (as_v (v_var rfl) (as_v (v_var rfl) (as_v (v_var rfl) as_nil)))) rfl rfl h1 (.inl rfl)) nofun nofun)))) rfl, h2⟩
end
end K75
set_option Elab.async false
set_option linter.all false
set_option maxRecDepth 100000
/-! K75F: fair prices, as the program and as the law tell them. -/
namespace K75
open PySem Qx CC
/-- a price: a moment, more than nothing -/
def isPrB : D → Bool
  | .tup [.int m, .int p] => decide (0 ≤ m) && decide (m ≤ 9999) && decide (0 < p)
  | _ => false
def toP : D → Int × Int
  | .tup [.int m, .int p] => (m, p)
  | _ => (0, 0)
def okFrom : Int → List D → Bool
  | _, [] => true
  | l, d :: ds => isPrB d && decide (l < (toP d).1) && okFrom (toP d).1 ds
def lastOf (l : Int) : List D → Int
  | [] => l
  | d :: ds => lastOf (toP d).1 ds
theorem pr_eq {d : D} (h : isPrB d = true) : d = pD (toP d) ∧ 0 ≤ (toP d).1 ∧ (toP d).1 ≤ 9999 ∧ 0 < (toP d).2 := by
  unfold isPrB at h
  split at h
  · simp only [Bool.and_eq_true, decide_eq_true_eq] at h
    exact ⟨rfl, h.1.1, h.1.2, h.2⟩
  · cases h
theorem toP_pD (x : Int × Int) : toP (pD x) = x := rfl
theorem isPr_pD (x : Int × Int) : isPrB (pD x) = (decide (0 ≤ x.1) && decide (x.1 ≤ 9999) && decide (0 < x.2)) := rfl
theorem okFrom_snoc : ∀ (l : Int) (zs : List D) (y : D), okFrom l (zs ++ [y]) = (okFrom l zs && (isPrB y && decide (lastOf l zs < (toP y).1)))
  | l, [], y => by
    simp only [List.nil_append, okFrom, lastOf, Bool.and_true, Bool.true_and]
    rfl
  | l, d :: zs, y => by
    simp only [List.cons_append, okFrom, lastOf, okFrom_snoc, Bool.and_assoc]
    rfl
theorem okFrom_pre : ∀ (l : Int) (zs ws : List D), okFrom l (zs ++ ws) = true → okFrom l zs = true
  | l, [], ws, h => rfl
  | l, d :: zs, ws, h => by
    simp only [List.cons_append, okFrom, Bool.and_eq_true] at h ⊢
    exact ⟨h.1, okFrom_pre _ zs ws h.2⟩
theorem lastOf_snoc : ∀ (l : Int) (zs : List D) (y : D), lastOf l (zs ++ [y]) = (toP y).1
  | l, [], y => rfl
  | l, d :: zs, y => by simp only [List.cons_append, lastOf, lastOf_snoc]
theorem okFrom_all : ∀ {l : Int} {ds : List D}, okFrom l ds = true → ∀ d ∈ ds, isPrB d = true
  | l, d :: ds, h, x, hx => by
    simp only [okFrom, Bool.and_eq_true] at h
    rcases List.mem_cons.mp hx with e | e
    · rw [e]; exact h.1.1
    · exact okFrom_all h.2 x e
def chain : Int → List Int → Bool
  | _, [] => true
  | l, m :: ms => decide (l < m) && chain m ms
theorem okFrom_chain : ∀ {l : Int} {ds : List D}, (∀ d ∈ ds, isPrB d = true) → okFrom l ds = chain l (ds.map fun d => (toP d).1)
  | l, [], _ => rfl
  | l, d :: ds, h => by
    simp only [okFrom, List.map_cons, chain, h d (by simp), Bool.true_and]
    rw [okFrom_chain fun x hx => h x (List.mem_cons_of_mem _ hx)]
def riseB (ms : List Int) : Bool := (List.range (ms.length - 1)).all fun i => decide (ms.getD i 0 < ms.getD (i + 1) 0)
theorem rise_chain : ∀ (m : Int) (ms : List Int), riseB (m :: ms) = chain m ms
  | m, [] => rfl
  | m, m' :: ms => by
    unfold riseB
    have e : (m :: m' :: ms).length - 1 = ms.length + 1 := rfl
    rw [e, List.range_succ_eq_map, List.all_cons, List.all_map]
    have ih := rise_chain m' ms
    unfold riseB at ih
    simp only [chain, ← ih]
    rfl
theorem okFrom_rise {ds : List D} (h : ∀ d ∈ ds, isPrB d = true) : okFrom (-1) ds = riseB (ds.map fun d => (toP d).1) := by
  rw [okFrom_chain h]
  cases ds with
  | nil => rfl
  | cons d ds =>
    have := (pr_eq (h d (by simp))).2.1
    rw [List.map_cons, rise_chain]
    simp only [chain]
    rw [decide_eq_true (by omega), Bool.true_and]
theorem map_toP {ds : List D} (h : ∀ d ∈ ds, isPrB d = true) : ds = (ds.map toP).map pD := by
  rw [List.map_map]
  conv => lhs; rw [← List.map_id ds]
  exact List.map_congr_left fun d hd => (pr_eq (h d hd)).1
theorem chain_pw : ∀ {l : Int} {ms : List Int}, chain l ms = true → ms.Pairwise (· < ·) ∧ ∀ m ∈ ms, l < m
  | l, [], _ => ⟨List.Pairwise.nil, by simp⟩
  | l, m :: ms, h => by
    simp only [chain, Bool.and_eq_true, decide_eq_true_eq] at h
    obtain ⟨h1, h2⟩ := chain_pw h.2
    refine ⟨List.pairwise_cons.mpr ⟨h2, h1⟩, fun k hk => ?_⟩
    rcases List.mem_cons.mp hk with e | e
    · omega
    · have := h2 k e; omega
def fairB (st : List (Int × Int)) (cs : List Int) : D → Bool
  | .tup ds => okFrom (-1) ds && (List.range st.length).all fun i => decide (sumIn (ds.map toP) (Bf st i) (Ef st i) ≤ Cf cs i)
  | _ => false
/-! the program -/
section
variable {k : Nat}
theorem pld_tup {ds : List D} (h : pld (k + 1) (.tup ds) = true) : (∀ d ∈ ds, pld k d = true) ∧ ds.length ≤ SZ := by
  simp only [pld, Bool.and_eq_true, List.all_eq_true, decide_eq_true_eq] at h
  exact h
theorem isPrice (n : Nat) (d : D) (h : pld (k + 1) d = true) : callD k5ds (n + 4) 11 [d] = some (.bl (isPrB d), []) := by
  refine call_e (ds := k5ds) (f := 11) [.val d] rfl rfl rfl rfl rfl ?_
  have h1 : evE (callD k5ds (n + 3)) (rfsOf k5ds) (.call 2 [(.var 0), (.cst (.int 2))] []) [.val d] = some (.bl (isTn 2 d), [.val d]) := v_call (as_v (v_var rfl) (as_v v_cst as_nil)) rfl rfl (tupleOf (n + 2) d 2 (pld_okd h)) (.inl rfl)
  by_cases c : isTn 2 d = true
  · rw [c] at h1
    cases d <;> simp only [isTn] at c <;> (first | (cases c; done) | skip)
    rename_i ds
    have c := of_decide_eq_true c
    match ds, c with
    | [a, b], _ =>
      obtain ⟨h2, _⟩ := pld_tup h
      have oa := pld_okd (h2 a (by simp))
      have ob := pld_okd (h2 b (by simp))
      have e1 : evE (callD k5ds (n + 3)) (rfsOf k5ds) (.call 9 [(.sub (.var 0) (.cst (.int 0)))] []) [.val (.tup [a, b])] = some (.bl (isBt 0 9999 a), [.val (.tup [a, b])]) :=
        v_call (as_v (v_sub (v_var rfl) v_cst rfl) as_nil) rfl rfl (call_e (ds := k5ds) (f := 9) [.val a] rfl rfl rfl rfl rfl (v_call (as_v (v_var rfl) (as_v v_cst (as_v v_cst as_nil))) rfl rfl (between n a 0 9999 oa) (.inl rfl))) (.inl rfl)
      have e2 : evE (callD k5ds (n + 3)) (rfsOf k5ds) (.call 0 [(.sub (.var 0) (.cst (.int 1)))] []) [.val (.tup [a, b])] = some (.bl (isWh b), [.val (.tup [a, b])]) :=
        v_call (as_v (v_sub (v_var rfl) v_cst rfl) as_nil) rfl rfl (whole (n + 2) b ob) (.inl rfl)
      have e3 : ∀ q, (isWh b = true → ∃ i, b = .int i ∧ q = decide (0 < i)) → evE (callD k5ds (n + 3)) (rfsOf k5ds) (.an (.call 0 [(.sub (.var 0) (.cst (.int 1)))] []) (.cmp .gt (.sub (.var 0) (.cst (.int 1))) (.cst (.int 0)))) [.val (.tup [a, b])] = some (.bl (isWh b && q), [.val (.tup [a, b])]) := fun q hq =>
        v_an e2 fun z => by
          obtain ⟨i, rfl, rfl⟩ := hq z
          exact v_cmp (v_sub (v_var rfl) v_cst rfl) v_cst rfl
      cases a with
      | int m =>
        cases b with
        | int p =>
          have := v_an (p := true) h1 fun _ => v_an (p := isBt 0 9999 (.int m)) (q := true && decide (0 < p)) e1 fun _ => e3 (decide (0 < p)) fun _ => ⟨p, rfl, rfl⟩
          rw [this]
          simp only [isBt, isPrB, Bool.true_and]
        | _ =>
          have := v_an (p := true) h1 fun _ => v_an (p := isBt 0 9999 (.int m)) (q := false && false) e1 fun _ => e3 false nofun
          rw [this]
          simp [isPrB]
      | _ =>
        have := v_an (p := true) (q := false && false) h1 fun _ => v_an (p := false) (q := false) (b := .an (.call 0 [(.sub (.var 0) (.cst (.int 1)))] []) (.cmp .gt (.sub (.var 0) (.cst (.int 1))) (.cst (.int 0)))) e1 nofun
        rw [this]
        rfl
  · have c : isTn 2 d = false := by simpa using c
    rw [c] at h1
    have := v_an (p := false) (q := false) h1 (b := .an (.call 9 [(.sub (.var 0) (.cst (.int 0)))] []) (.an (.call 0 [(.sub (.var 0) (.cst (.int 1)))] []) (.cmp .gt (.sub (.var 0) (.cst (.int 1))) (.cst (.int 0))))) nofun
    have e : isPrB d = false := by
      cases q : isPrB d with
      | false => rfl
      | true =>
        have := (pr_eq q).1
        rw [this] at c
        cases c
    rw [e]
    exact this
theorem rising (n : Nat) (ms : List Int) (h : ms.length ≤ SZ) : callD k5ds (n + 1) 4 [.lst (ms.map .int)] = some (.bl (riseB ms), []) := by
  refine call_e (ds := k5ds) (f := 4) [.val (.lst (ms.map .int)), .no] rfl rfl rfl rfl rfl ?_
  have hr : rngD [.int 1, .int ((ms.map D.int).length : Int)] = some ((List.range (ms.length - 1)).map fun (i : Nat) => D.int (1 + i)) := by
    unfold SZ at h
    simp only [rngD, List.length_map]
    rw [if_pos ⟨by decide, by decide, by omega, by omega, by unfold SZ; omega⟩]
    have : ((ms.length : Int) - 1).toNat = ms.length - 1 := by omega
    rw [this]
  have c := v_compT (Φ := callD k5ds n) (R := rfsOf k5ds) (env := [.val (.lst (ms.map .int)), .no]) (elt := .cmp .lt (.sub (.var 0) (.bin .sub (.var 1) (.cst (.int 1)))) (.sub (.var 0) (.var 1))) (vs := [1]) (t := .nm 1) (it := .rng [(.cst (.int 1)), (.bi .len [(.var 0)])]) (List.range (ms.length - 1)) (fun (i : Nat) => D.int (1 + i)) (fun i => .bl (decide (ms.getD i 0 < ms.getD (i + 1) 0)))
    (it_rngP (vs_cons v_cst (vs_cons (v_bi1 (v_var rfl) (len_lst _)) vs_nil)) hr) rfl rfl rfl (fun y hy => by
      have hy := List.mem_range.mp hy
      refine ⟨_, putN rfl (by show 1 < 2; decide), v_cmp (v_sub (v_var rfl) (v_bin (v_var rfl) v_cst rfl) (d := .int (ms.getD y 0)) ?_) (v_sub (v_var rfl) (v_var rfl) (d := .int (ms.getD (y + 1) 0)) ?_) rfl, rfl⟩
      · have e : (1 + (y : Int) - 1) = (y : Nat) := by omega
        show subD (.lst (ms.map .int)) (.int (1 + (y : Int) - 1)) = _
        rw [e]
        exact sub_lstN (get_mapI (by omega))
      · have e : (1 + (y : Int)) = ((y + 1 : Nat) : Int) := by omega
        rw [e]
        exact sub_lstN (get_mapI (by omega))) (by rw [List.length_range]; omega)
  exact v_bi1 c (all_map (fun i => decide (ms.getD i 0 < ms.getD (i + 1) 0)) (List.range (ms.length - 1)))
def okPr : D → Bool
  | .tup ds => okFrom (-1) ds
  | _ => false
theorem arePrices (n : Nat) (d : D) (h : pld (k + 2) d = true) : callD k5ds (n + 5) 12 [d] = some (.bl (okPr d), []) := by
  obtain ⟨r, hr, e⟩ := call_wp1 (n := n + 4) (ds := k5ds) (f := 12) (args := [d]) (Q := fun r => r = .bl (okPr d)) [.val d, .no, .no, .no] rfl rfl rfl rfl (by
    have h1 : evE (callD k5ds (n + 4)) (rfsOf k5ds) (.isi (.var 0) [.tuple]) [.val d, .no, .no, .no] = some (.bl (isTupP d), [.val d, .no, .no, .no]) := v_isi (op_v (v_var rfl)) rfl (isa_tup (pld_okd h))
    cases d with
    | tup ds =>
      obtain ⟨h2, h3⟩ := pld_tup h
      have c := v_compT (Φ := callD k5ds (n + 4)) (R := rfsOf k5ds) (env := [.val (.tup ds), .no, .no, .no]) (elt := .call 11 [(.var 3)] []) (vs := [3]) (t := .nm 3) (it := .seq (.var 0)) ds id (fun d => .bl (isPrB d)) (it_seq (v_var rfl) rfl) (List.map_id ds).symm rfl rfl (fun y hy => ⟨_, putN rfl (by show 3 < 4; decide), v_call (as_v (v_var rfl) as_nil) rfl rfl (isPrice n y (h2 y hy)) (.inl rfl), rfl⟩) h3
      have c2 := v_bi1 c (all_map isPrB ds)
      by_cases q : ds.all isPrB = true
      · rw [q] at c2
        have hall := List.all_eq_true.mp q
        refine wp_iteF (v_or (p := false) (q := false) (v_nt (p := true) h1) fun _ => v_nt (p := true) c2) (wp_nil ?_)
        have c3 := v_compT (Φ := callD k5ds (n + 4)) (R := rfsOf k5ds) (env := [.val (.tup ds), .no, .no, .no]) (elt := .var 1) (vs := [1, 2]) (t := .tp [(.nm 1), (.nm 2)]) (it := .seq (.var 0)) ds id (fun d => .int (toP d).1) (it_seq (v_var rfl) rfl) (List.map_id ds).symm rfl rfl (fun y hy => by
          have e := (pr_eq (hall y hy)).1
          refine ⟨[.val (.tup ds), .val (.int (toP y).1), .val (.int (toP y).2), .no], ?_, v_var rfl, rfl⟩
          show putT _ y _ = _
          rw [e]
          exact put2 rfl (by show 1 < 4; decide) rfl (by show 2 < 4; decide)) h3
        have e3 : (ds.map fun d => D.int (toP d).1) = (ds.map fun d => (toP d).1).map D.int := by rw [List.map_map]; rfl
        rw [e3] at c3
        refine wp_ret (r_e (v_call (as_v c3 as_nil) rfl rfl (rising (n + 3) _ (by rw [List.length_map]; exact h3)) (.inl rfl)) nofun nofun) ⟨[], rfl, ?_⟩
        show D.bl (riseB _) = D.bl (okFrom (-1) ds)
        rw [← okFrom_rise hall]
      · have q : ds.all isPrB = false := by simpa using q
        rw [q] at c2
        refine wp_iteT (v_or (p := false) (q := true) (v_nt (p := true) h1) fun _ => v_nt (p := false) c2) (wp_ret (r_e v_cst nofun nofun) ⟨[], rfl, ?_⟩)
        have : okFrom (-1) ds = false := by
          cases z : okFrom (-1) ds with
          | false => rfl
          | true =>
            rw [List.all_eq_true.mpr (okFrom_all z)] at q
            cases q
        show D.bl false = D.bl (okFrom (-1) ds)
        rw [this]
    | _ => exact wp_iteT (v_or (p := true) (q := true) (v_nt (p := false) h1) nofun) (wp_ret (r_e v_cst nofun nofun) ⟨[], rfl, rfl⟩))
  rw [hr, e]
end
end K75
set_option Elab.async false
set_option linter.all false
set_option maxRecDepth 100000
/-! K75F2: are_fair, _law_are_fair. -/
namespace K75
open PySem Qx CC
theorem look_none : ∀ (ks : List Int) (vs : List D) (m : Int), m ∉ ks → lookD (.int m) (ks.map .int) vs = none
  | [], vs, m, _ => by simp [lookD]
  | k :: ks, [], m, _ => by simp [lookD]
  | k :: ks, v :: vs, m, h => by
    simp only [List.map_cons, lookD, eqD_int]
    have c : ¬ k = m := fun z => h (by rw [z]; simp)
    simp only [c, decide_false, Bool.false_eq_true, if_false]
    exact look_none ks vs m fun z => h (List.mem_cons_of_mem _ z)
theorem foldPut_new : ∀ (pr : List (Int × Int)) (acc : List Int) (vs : List D), (acc ++ pr.map (·.1)).Nodup → foldPut (acc.map .int) vs (pr.map fun x => .int x.1) (pr.map fun x => .int x.2) = ((acc ++ pr.map (·.1)).map .int, vs ++ pr.map fun x => .int x.2)
  | [], acc, vs, _ => by simp [foldPut]
  | x :: pr, acc, vs, h => by
    have hx : x.1 ∉ acc := fun z => by
      have := (List.nodup_append.mp h).2.2 x.1 z x.1 (by simp)
      exact this rfl
    have e : putD (.int x.1) (.int x.2) (acc.map .int) vs = ((acc ++ [x.1]).map .int, vs ++ [.int x.2]) := by
      unfold putD
      rw [look_none acc vs x.1 hx]
      simp
    simp only [List.map_cons, foldPut, e]
    rw [foldPut_new pr (acc ++ [x.1]) (vs ++ [D.int x.2]) (by simpa using h)]
    simp
theorem pairs_pr : ∀ pr : List (Int × Int), pairsD (pr.map pD) = some (pr.map fun x => .int x.1, pr.map fun x => .int x.2)
  | [] => rfl
  | x :: pr => by
    have e : pairD (pD x) = some (.int x.1, .int x.2) := rfl
    simp only [List.map_cons, pairsD, e, pairs_pr pr]
abbrev prT (pr : List (Int × Int)) : D := .dct false ((pr.map (·.1)).map .int) (pr.map fun x => .int x.2)
theorem dict_pr {pr : List (Int × Int)} (h : (pr.map (·.1)).Nodup) : dictB (.tup (pr.map pD)) = some (prT pr) := by
  simp only [dictB, pairs_pr, Option.map_some]
  have := foldPut_new pr [] [] (by simpa using h)
  simp only [List.map_nil, List.nil_append] at this
  rw [this]
theorem itms_pr (pr : List (Int × Int)) : dirD (prT pr) = some (pr.map fun x => .xtp [.int x.1, .int x.2]) := by
  have e : dirD (prT pr) = if ((pr.map (·.1)).map D.int).length = (pr.map fun x => D.int x.2).length then some (itmsD ((pr.map (·.1)).map .int) (pr.map fun x => .int x.2)) else none := rfl
  rw [e, if_pos (by simp)]
  congr 1
  unfold itmsD
  apply List.ext_getElem
  · simp
  · intro i h1 h2
    have hi : i < pr.length := by simpa using h2
    simp [List.getD, hi]
theorem sum_map {α : Type} (f : α → Int) (l : List α) : biD .sum [.lst (l.map fun x => .int (f x))] = some (.int (l.map f).sum) := by
  simp only [biD, d1, overI, ints_map]
theorem priceWithin (n : Nat) (s : Int × Int) (pr : List (Int × Int)) (hl : pr.length ≤ SZ) : callD k5ds (n + 2) 10 [pD s, prT pr] = some (.int (sumIn pr s.1 s.2), []) := by
  refine call_e (ds := k5ds) (f := 10) [.val (pD s), .val (prT pr), .no, .no] rfl rfl rfl rfl rfl ?_
  have c := v_comp (Φ := callD k5ds (n + 1)) (R := rfsOf k5ds) (env := [.val (pD s), .val (prT pr), .no, .no]) (elt := .var 3) (c := .call 8 [(.var 0), (.var 2)] []) (vs := [2, 3]) (t := .tp [(.nm 2), (.nm 3)]) (it := .itms (.var 1)) pr (fun x => .xtp [.int x.1, .int x.2]) (fun x => decide (s.1 ≤ x.1) && decide (x.1 ≤ s.2)) (fun x => .int x.2)
    (it_itms (v_var rfl) (itms_pr pr)) rfl rfl rfl (fun y hy => ⟨[.val (pD s), .val (prT pr), .val (.int y.1), .val (.int y.2)], putX2 rfl (by show 2 < 4; decide) rfl (by show 3 < 4; decide), v_call (as_v (v_var rfl) (as_v (v_var rfl) as_nil)) rfl rfl (hasMoment n s y.1) (.inl rfl), fun _ => v_var rfl, rfl⟩) hl
  exact v_bi1 c (sum_map (fun x : Int × Int => x.2) _)
section
variable {st : List (Int × Int)} {cs : List Int}
theorem zip_sc (hl : cs.length = st.length) : zipB (stD st) (csD cs) = some ((List.range st.length).map fun i => .xtp [pD (st.getD i (0, 0)), .int (cs.getD i 0)]) := by
  have e : zipB (stD st) (csD cs) = if (st.map pD).length = (cs.map D.int).length then some (zipD (st.map pD) (cs.map .int)) else none := rfl
  rw [e, if_pos (by simp [hl])]
  congr 1
  unfold zipD
  rw [List.length_map, List.length_map, hl, Nat.min_self]
  refine List.map_congr_left fun i hi => ?_
  have hi := List.mem_range.mp hi
  rw [getD_mapI cs i (by omega), List.getD_eq_getElem?_getD, get_st hi]
  rfl
theorem pr_of {ds : List D} (h : okFrom (-1) ds = true) : ds = (ds.map toP).map pD ∧ ((ds.map toP).map (·.1)).Nodup := by
  have hall := okFrom_all h
  refine ⟨map_toP hall, ?_⟩
  rw [okFrom_chain hall] at h
  have := (chain_pw h).1
  rw [List.map_map]
  exact this.imp fun z => Int.ne_of_lt z
theorem fairBy (n : Nat) {k : Nat} (h9 : st.length ≤ 9) (hl : cs.length = st.length) (d : D) (h : pld (k + 2) d = true) : callD k5ds (n + 6) 15 [stD st, csD cs, d] = some (.bl (fairB st cs d), []) := by
  obtain ⟨r, hr, e⟩ := call_wp1 (n := n + 5) (ds := k5ds) (f := 15) (args := [stD st, csD cs, d]) (Q := fun r => r = .bl (fairB st cs d)) [.val (stD st), .val (csD cs), .val d, .no, .no] rfl rfl rfl rfl (by
    have h1 : evE (callD k5ds (n + 5)) (rfsOf k5ds) (.call 12 [(.var 2)] []) [.val (stD st), .val (csD cs), .val d, .no, .no] = some (.bl (okPr d), [.val (stD st), .val (csD cs), .val d, .no, .no]) := v_call (as_v (v_var rfl) as_nil) rfl rfl (arePrices n d h) (.inl rfl)
    by_cases c : okPr d = true
    · rw [c] at h1
      cases d <;> simp only [okPr] at c <;> (first | (cases c; done) | skip)
      rename_i ds
      obtain ⟨p1, p2⟩ := pr_of c
      obtain ⟨_, h3⟩ := pld_tup h
      have hd : dictB (.tup ds) = some (prT (ds.map toP)) := by
        conv => lhs; rw [p1]
        exact dict_pr p2
      refine wp_iteF (v_nt (p := true) h1) (wp_nil ?_)
      have c3 := v_compT (Φ := callD k5ds (n + 5)) (R := rfsOf k5ds) (env := [.val (stD st), .val (csD cs), .val (.tup ds), .no, .no]) (elt := .cmp .le (.call 10 [(.var 3), (.dic (.var 2))] []) (.var 4)) (vs := [3, 4]) (t := .tp [(.nm 3), (.nm 4)]) (it := .zip (.var 0) (.var 1)) (List.range st.length) (fun i => .xtp [pD (st.getD i (0, 0)), .int (cs.getD i 0)]) (fun i => .bl (decide (sumIn (ds.map toP) (Bf st i) (Ef st i) ≤ Cf cs i)))
        (it_zip (v_var rfl) (v_var rfl) (zip_sc hl)) rfl rfl rfl (fun y hy => ⟨[.val (stD st), .val (csD cs), .val (.tup ds), .val (pD (st.getD y (0, 0))), .val (.int (cs.getD y 0))], putX2 rfl (by show 3 < 5; decide) rfl (by show 4 < 5; decide), v_cmp (v_call (as_v (v_var rfl) (as_v (v_dic (v_var rfl) hd) as_nil)) rfl rfl (priceWithin (n + 3) _ _ (by rw [List.length_map]; exact h3)) (.inl rfl)) (v_var rfl) rfl, rfl⟩) (by rw [List.length_range]; unfold SZ; omega)
      refine wp_ret (r_e (v_bi1 c3 (all_map (fun i => decide (sumIn (ds.map toP) (Bf st i) (Ef st i) ≤ Cf cs i)) _)) nofun nofun) ⟨[], rfl, ?_⟩
      show _ = D.bl (okFrom (-1) ds && _)
      rw [c, Bool.true_and]
    · have c : okPr d = false := by simpa using c
      rw [c] at h1
      refine wp_iteT (v_nt (p := false) h1) (wp_ret (r_e v_cst nofun nofun) ⟨[], rfl, ?_⟩)
      cases d with
      | tup ds =>
        have c : okFrom (-1) ds = false := c
        show _ = D.bl (okFrom (-1) ds && _)
        rw [c, Bool.false_and]
      | _ => rfl)
  rw [hr, e]
theorem areFair (n : Nat) {k : Nat} {start stop : Int} (ok : Ok st cs start stop) (d : D) (h : pld (k + 2) d = true) : callD k5ds (n + 9) 31 [stD st, csD cs, d] = some (.bl (fairB st cs d), []) :=
  call_ret (ds := k5ds) (f := 31) (e1 := [.val (stD st), .val (csD cs), .val d]) rfl rfl (ss_cons (s_exp (v_call (as_v (v_var rfl) (as_v (v_var rfl) as_nil)) rfl rfl (checkCosts n st cs ok.one ok.nine ok.ok ok.len ok.cost) (.inl rfl)))
    (ss_ret (s_ret (r_e (v_call (as_v (v_var rfl) (as_v (v_var rfl) (as_v (v_var rfl) as_nil))) rfl rfl (fairBy (n + 2) ok.nine ok.len d h) (.inl rfl)) nofun nofun)))) rfl
end
/-! the law's own -/
theorem wholeL (n : Nat) (d : D) (h : okd d = true) : callD k5ds (n + 1) 35 [d] = some (.bl (isWh d), []) := whole_spec (ds := k5ds) rfl d h
theorem isNumber (n : Nat) (d : D) (m : Int) (h : okd d = true) : callD k5ds (n + 2) 38 [d, .int m] = some (.bl (isBt 0 m d), []) := by
  refine call_e (ds := k5ds) (f := 38) [.val d, .val (.int m)] rfl rfl rfl rfl rfl ?_
  have h1 : ∀ env, getV env 0 = some d → evE (callD k5ds (n + 1)) (rfsOf k5ds) (.call 35 [(.var 0)] []) env = some (.bl (isWh d), env) := fun env hv => v_call (as_v (v_var hv) as_nil) rfl rfl (wholeL n d h) (.inl rfl)
  cases d with
  | int i =>
    have := v_an (Φ := callD k5ds (n + 1)) (R := rfsOf k5ds) (h1 [.val (.int i), .val (.int m)] rfl) (b := .chn .le .le (.cst (.int 0)) (.var 0) (.var 1)) (q := isBt 0 m (.int i)) fun _ => v_chn (k := decide (0 ≤ i)) (l := decide (i ≤ m)) v_cst (v_var rfl) rfl (fun _ => v_var rfl) fun _ => rfl
    exact this
  | _ => exact v_an (p := false) (q := false) (h1 _ rfl) nofun
end K75
set_option Elab.async false
set_option linter.all false
set_option maxRecDepth 100000
/-! K75F3: _law_are_fair. -/
namespace K75
open PySem Qx CC
theorem putXX {t1 t2 : TN} {x y : D} {env e1 e2 : En} (h1 : putT t1 x env = some e1) (h2 : putT t2 y e1 = some e2) : putT (.tp [t1, t2]) (.xtp [x, y]) env = some e2 := by
  rw [putT]
  rw [putTs, h1, Option.bind_some, putTs, h2, Option.bind_some, putTs]
abbrev badE : E := .or (.nt (.isi (.var 4) [.tuple])) (.or (.cmp .ne (.bi .len [(.var 4)]) (.cst (.int 2))) (.or (.nt (.call 38 [(.sub (.var 4) (.cst (.int 0))), (.cst (.int 9999))] [])) (.or (.cmp .le (.sub (.var 4) (.cst (.int 0))) (.var 3)) (.or (.nt (.call 35 [(.sub (.var 4) (.cst (.int 1)))] [])) (.cmp .lt (.sub (.var 4) (.cst (.int 1))) (.cst (.int 1)))))))
theorem badEv (n k : Nat) (env : En) (l : Int) (y : D) (h : pld (k + 1) y = true) (g3 : getV env 3 = some (.int l)) (g4 : getV env 4 = some y) : evE (callD k5ds (n + 2)) (rfsOf k5ds) badE env = some (.bl (!(isPrB y && decide (l < (toP y).1))), env) := by
  have h1 : evE (callD k5ds (n + 2)) (rfsOf k5ds) (.isi (.var 4) [.tuple]) env = some (.bl (isTupP y), env) := v_isi (op_v (v_var g4)) rfl (isa_tup (pld_okd h))
  cases y with
  | tup ds =>
    obtain ⟨h2, _⟩ := pld_tup h
    have h3 : evE (callD k5ds (n + 2)) (rfsOf k5ds) (.cmp .ne (.bi .len [(.var 4)]) (.cst (.int 2))) env = some (.bl (!decide ((ds.length : Int) = 2)), env) := v_cmp (v_bi1 (v_var g4) (len_tup ds)) v_cst (ne_int _ _)
    by_cases c : ds.length = 2
    · match ds, c with
      | [a, b], _ =>
        have oa := pld_okd (h2 a (by simp))
        have ob := pld_okd (h2 b (by simp))
        have e1 : evE (callD k5ds (n + 2)) (rfsOf k5ds) (.call 38 [(.sub (.var 4) (.cst (.int 0))), (.cst (.int 9999))] []) env = some (.bl (isBt 0 9999 a), env) := v_call (as_v (v_sub (v_var g4) v_cst rfl) (as_v v_cst as_nil)) rfl rfl (isNumber n a 9999 oa) (.inl rfl)
        have e2 : evE (callD k5ds (n + 2)) (rfsOf k5ds) (.call 35 [(.sub (.var 4) (.cst (.int 1)))] []) env = some (.bl (isWh b), env) := v_call (as_v (v_sub (v_var g4) v_cst rfl) as_nil) rfl rfl (wholeL (n + 1) b ob) (.inl rfl)
        have s0 : evE (callD k5ds (n + 2)) (rfsOf k5ds) (.sub (.var 4) (.cst (.int 0))) env = some (a, env) := v_sub (v_var g4) v_cst rfl
        have s1 : evE (callD k5ds (n + 2)) (rfsOf k5ds) (.sub (.var 4) (.cst (.int 1))) env = some (b, env) := v_sub (v_var g4) v_cst rfl
        have go : ∀ q, evE (callD k5ds (n + 2)) (rfsOf k5ds) (.or (.nt (.call 38 [(.sub (.var 4) (.cst (.int 0))), (.cst (.int 9999))] [])) (.or (.cmp .le (.sub (.var 4) (.cst (.int 0))) (.var 3)) (.or (.nt (.call 35 [(.sub (.var 4) (.cst (.int 1)))] [])) (.cmp .lt (.sub (.var 4) (.cst (.int 1))) (.cst (.int 1)))))) env = some (.bl q, env) → evE (callD k5ds (n + 2)) (rfsOf k5ds) badE env = some (.bl q, env) := fun q hq => by
          have := v_or (p := false) (q := q) (v_nt (p := true) h1) fun _ => v_or (p := false) (q := q) h3 fun _ => hq
          exact this
        cases a with
        | int m =>
          have e3 : evE (callD k5ds (n + 2)) (rfsOf k5ds) (.cmp .le (.sub (.var 4) (.cst (.int 0))) (.var 3)) env = some (.bl (decide (m ≤ l)), env) := v_cmp s0 (v_var g3) rfl
          cases b with
          | int p =>
            have e4 : evE (callD k5ds (n + 2)) (rfsOf k5ds) (.cmp .lt (.sub (.var 4) (.cst (.int 1))) (.cst (.int 1))) env = some (.bl (decide (p < 1)), env) := v_cmp s1 v_cst rfl
            have := go _ (v_or (v_nt e1) fun _ => v_or e3 fun _ => v_or (p := false) (v_nt (p := true) e2) fun _ => e4)
            rw [this]
            congr 3
            have q1 : decide (l < m) = !decide (m ≤ l) := by
              rw [Bool.eq_iff_iff]
              simp only [decide_eq_true_eq, Bool.not_eq_true', decide_eq_false_iff_not]
              omega
            have q2 : decide (0 < p) = !decide (p < 1) := by
              rw [Bool.eq_iff_iff]
              simp only [decide_eq_true_eq, Bool.not_eq_true', decide_eq_false_iff_not]
              omega
            show (!(decide (0 ≤ m) && decide (m ≤ 9999)) || (decide (m ≤ l) || (false || decide (p < 1)))) = !((decide (0 ≤ m) && decide (m ≤ 9999) && decide (0 < p)) && decide (l < m))
            rw [q1, q2]
            cases decide (0 ≤ m) <;> cases decide (m ≤ 9999) <;> cases decide (m ≤ l) <;> cases decide (p < 1) <;> rfl
          | _ =>
            have := go _ (v_or (v_nt e1) fun _ => v_or e3 fun _ => v_or (p := true) (q := true) (v_nt (p := false) e2) nofun)
            rw [this]
            congr 3
            simp [isPrB]
        | _ =>
          have := go _ (v_or (p := true) (q := true) (v_nt (p := false) e1) nofun)
          rw [this]
          rfl
    · have e : decide ((ds.length : Int) = 2) = false := decide_eq_false (by omega)
      rw [e] at h3
      have := v_or (p := false) (q := true) (v_nt (p := true) h1) fun _ => v_or (p := true) (q := true) h3 (b := .or (.nt (.call 38 [(.sub (.var 4) (.cst (.int 0))), (.cst (.int 9999))] [])) (.or (.cmp .le (.sub (.var 4) (.cst (.int 0))) (.var 3)) (.or (.nt (.call 35 [(.sub (.var 4) (.cst (.int 1)))] [])) (.cmp .lt (.sub (.var 4) (.cst (.int 1))) (.cst (.int 1)))))) nofun
      have e2 : isPrB (.tup ds) = false := by
        cases q : isPrB (.tup ds) with
        | false => rfl
        | true =>
          have := (pr_eq q).1
          have e3 : ds = [.int (toP (.tup ds)).1, .int (toP (.tup ds)).2] := by
            unfold pD at this
            exact D.tup.inj this
          rw [e3] at c
          exact (c rfl).elim
      rw [e2]
      exact this
  | _ =>
    have := v_or (p := true) (q := true) (v_nt (p := false) h1) (b := .or (.cmp .ne (.bi .len [(.var 4)]) (.cst (.int 2))) (.or (.nt (.call 38 [(.sub (.var 4) (.cst (.int 0))), (.cst (.int 9999))] [])) (.or (.cmp .le (.sub (.var 4) (.cst (.int 0))) (.var 3)) (.or (.nt (.call 35 [(.sub (.var 4) (.cst (.int 1)))] [])) (.cmp .lt (.sub (.var 4) (.cst (.int 1))) (.cst (.int 1))))))) nofun
    exact this
section
variable {st : List (Int × Int)} {cs : List Int}
theorem fairL (n : Nat) {k : Nat} (h9 : st.length ≤ 9) (hl : cs.length = st.length) (d : D) (h : pld (k + 2) d = true) : callD k5ds (n + 3) 41 [stD st, csD cs, d] = some (.bl (fairB st cs d), []) := by
  obtain ⟨r, hr, e⟩ := call_wp1 (n := n + 2) (ds := k5ds) (f := 41) (args := [stD st, csD cs, d]) (Q := fun r => r = .bl (fairB st cs d)) [.val (stD st), .val (csD cs), .val d, .no, .no, .no, .no, .no, .no, .no] rfl rfl rfl rfl (by
    have h1 : evE (callD k5ds (n + 2)) (rfsOf k5ds) (.isi (.var 2) [.tuple]) [.val (stD st), .val (csD cs), .val d, .no, .no, .no, .no, .no, .no, .no] = some (.bl (isTupP d), [.val (stD st), .val (csD cs), .val d, .no, .no, .no, .no, .no, .no, .no]) := v_isi (op_v (v_var rfl)) rfl (isa_tup (pld_okd h))
    cases d with
    | tup ds =>
      obtain ⟨h2, h3⟩ := pld_tup h
      refine wp_iteF (v_nt (p := true) h1) (wp_nil ?_)
      refine wp_set (d := .int (-1)) (v_neg v_cst) rfl (by show 3 < 10; decide) ?_
      refine wp_for (F := id) ds (fun zs e => ∃ s4, e = [.val (stD st), .val (csD cs), .val (.tup ds), .val (.int (lastOf (-1) zs)), s4, .no, .no, .no, .no, .no] ∧ isO e 4 = false ∧ okFrom (-1) zs = true) (it_seq (v_var rfl) rfl) (List.map_id ds).symm ⟨.no, rfl, rfl, rfl⟩ (fun _ _ _ => rfl) ?_ ?_
      · rintro zs y ws e hy ⟨s4, rfl, o4, ho⟩
        have hym : y ∈ ds := by rw [hy]; simp
        refine ⟨_, putN o4 (by show 4 < 10; decide), ?_⟩
        refine wp_ite (e1 := [.val (stD st), .val (csD cs), .val (.tup ds), .val (.int (lastOf (-1) zs)), .val y, .no, .no, .no, .no, .no]) (badEv n k _ (lastOf (-1) zs) y (h2 y hym) rfl rfl) (fun z => ?_) fun z => wp_nil ?_
        · refine wp_ret (r_e v_cst nofun nofun) ⟨[], rfl, ?_⟩
          have hf : okFrom (-1) ds = false := by
            cases q : okFrom (-1) ds with
            | false => rfl
            | true =>
              have e1 : ds = (zs ++ [y]) ++ ws := by rw [hy]; simp
              rw [e1] at q
              have q2 := okFrom_pre _ _ _ q
              rw [okFrom_snoc, ho, Bool.true_and] at q2
              rw [q2] at z
              cases z
          show _ = D.bl (okFrom (-1) ds && _)
          rw [hf, Bool.false_and]
        · have z : (isPrB y && decide (lastOf (-1) zs < (toP y).1)) = true := by simpa using z
          have hp : isPrB y = true := by rw [Bool.and_eq_true] at z; exact z.1
          have ey := (pr_eq hp).1
          refine wp_set (d := .int (toP y).1) (e1 := [.val (stD st), .val (csD cs), .val (.tup ds), .val (.int (lastOf (-1) zs)), .val y, .no, .no, .no, .no, .no]) (v_sub (dx := y) (v_var rfl) v_cst (by rw [ey]; rfl)) rfl (by show 3 < 10; decide) (wp_nil ⟨.val y, ?_, rfl, ?_⟩)
          · rw [lastOf_snoc]; rfl
          · rw [okFrom_snoc, ho, z]; rfl
      · rintro e ⟨s4, rfl, o4, ho⟩
        obtain ⟨p1, p2⟩ := pr_of ho
        refine wp_for (F := fun i => .xtp [pD (st.getD i (0, 0)), .int (cs.getD i 0)]) (List.range st.length) (fun zs e => ∃ s5 s6 s7, e = [.val (stD st), .val (csD cs), .val (.tup ds), .val (.int (lastOf (-1) ds)), s4, s5, s6, s7, .no, .no] ∧ isO e 5 = false ∧ isO e 6 = false ∧ isO e 7 = false ∧ ∀ i ∈ zs, sumIn (ds.map toP) (Bf st i) (Ef st i) ≤ Cf cs i) (it_zip (v_var rfl) (v_var rfl) (zip_sc hl)) rfl ⟨.no, .no, .no, rfl, rfl, rfl, rfl, by simp⟩ (fun _ _ _ => rfl) ?_ ?_
        · rintro zs y ws e hy ⟨s5, s6, s7, rfl, o5, o6, o7, hz⟩
          have hlt := (range_split hy).1
          refine ⟨[.val (stD st), .val (csD cs), .val (.tup ds), .val (.int (lastOf (-1) ds)), s4, .val (.int (cs.getD y 0)), .val (.int (Bf st y)), .val (.int (Ef st y)), .no, .no], ?_, ?_⟩
          · exact putXX (e1 := [.val (stD st), .val (csD cs), .val (.tup ds), .val (.int (lastOf (-1) ds)), s4, s5, .val (.int (Bf st y)), .val (.int (Ef st y)), .no, .no]) (put2 (i := 6) (j := 7) (x := .int (Bf st y)) (y := .int (Ef st y)) o6 (by show 6 < 10; decide) o7 (by show 7 < 10; decide)) (putN (i := 5) (d := .int (cs.getD y 0)) o5 (by show 5 < 10; decide))
          · have c := v_comp (Φ := callD k5ds (n + 2)) (R := rfsOf k5ds) (env := [.val (stD st), .val (csD cs), .val (.tup ds), .val (.int (lastOf (-1) ds)), s4, .val (.int (cs.getD y 0)), .val (.int (Bf st y)), .val (.int (Ef st y)), .no, .no]) (elt := .var 9) (c := .chn .le .le (.var 6) (.var 8) (.var 7)) (vs := [8, 9]) (t := .tp [(.nm 8), (.nm 9)]) (it := .seq (.var 2)) (ds.map toP) pD (fun x => decide (Bf st y ≤ x.1) && decide (x.1 ≤ Ef st y)) (fun x => .int x.2)
              (it_seq (v_var rfl) rfl) p1 rfl rfl (fun x hx => ⟨[.val (stD st), .val (csD cs), .val (.tup ds), .val (.int (lastOf (-1) ds)), s4, .val (.int (cs.getD y 0)), .val (.int (Bf st y)), .val (.int (Ef st y)), .val (.int x.1), .val (.int x.2)], put2 rfl (by show 8 < 10; decide) rfl (by show 9 < 10; decide), v_chn (v_var rfl) (v_var rfl) rfl (fun _ => v_var rfl) (fun _ => rfl), fun _ => v_var rfl, rfl⟩) (by rw [List.length_map]; exact h3)
            refine wp_ite (p := decide (Cf cs y < sumIn (ds.map toP) (Bf st y) (Ef st y))) (v_cmp (v_bi1 c (sum_map (fun x : Int × Int => x.2) _)) (v_var rfl) rfl) (fun z => ?_) fun z => wp_nil (wp_nil ⟨.val (.int (cs.getD y 0)), .val (.int (Bf st y)), .val (.int (Ef st y)), rfl, rfl, rfl, rfl, fun i hi => ?_⟩)
            · have z := of_decide_eq_true z
              refine wp_ret (r_e v_cst nofun nofun) ⟨[], rfl, ?_⟩
              have : ((List.range st.length).all fun i => decide (sumIn (ds.map toP) (Bf st i) (Ef st i) ≤ Cf cs i)) = false := by
                rw [List.all_eq_false]
                refine ⟨y, List.mem_range.mpr hlt, ?_⟩
                simp only [decide_eq_true_eq]
                omega
              show _ = D.bl (_ && _)
              rw [this, Bool.and_false]
            · have z := of_decide_eq_false z
              rcases List.mem_append.mp hi with q | q
              · exact hz i q
              · have : i = y := by simpa using q
                subst this
                omega
        · rintro e ⟨s5, s6, s7, rfl, _, _, _, hz⟩
          refine wp_ret (r_e v_cst nofun nofun) ⟨[], rfl, ?_⟩
          have : ((List.range st.length).all fun i => decide (sumIn (ds.map toP) (Bf st i) (Ef st i) ≤ Cf cs i)) = true := by
            rw [List.all_eq_true]
            exact fun i hi => decide_eq_true (hz i hi)
          show _ = D.bl (okFrom (-1) ds && _)
          rw [this, ho]
          rfl
    | _ => exact wp_iteT (v_nt (p := false) h1) (wp_ret (r_e v_cst nofun nofun) ⟨[], rfl, rfl⟩))
  rw [hr, e]
end
end K75
set_option Elab.async false
set_option linter.all false
set_option maxRecDepth 100000
/-! K75G: what the law draws. -/
namespace K75
open PySem Qx CC
abbrev pl (a b : Int) : D := .lst [.int a, .int b]
/-- a drawn number below m -/
theorem takeEv (n m : Nat) (h1 : 1 ≤ m) (h2 : m ≤ 2 ^ 48) {a b : Int} {env : En} {e : E} (g : getO env 0 = some (pl a b)) (he : evE (callD k5ds (n + 1)) (rfsOf k5ds) e env = some (.int m, env)) :
    ∃ (r : Nat) (a' b' : Int), evE (callD k5ds (n + 1)) (rfsOf k5ds) (.call 33 [(.own 0), e] []) env = some (.int r, env.set 0 (.own (pl a' b'))) ∧ r < m := by
  obtain ⟨r, a', b', k1, k2⟩ := take_spec (ds := k5ds) (g := 33) (n := n) rfl a b m h1 h2
  have iso : isO env 0 = true := by
    unfold getO at g
    unfold isO
    split at g
    · rename_i e; simp only [e]
    · cases g
  exact ⟨r, a', b', v_callR (as_o iso (as_v he as_nil)) rfl rfl g rfl rfl k1, k2⟩
theorem par2 {env : En} {i j : Nat} {x y : D} (h0 : isO env i = false) (hi : i < env.length) (h1 : isO (env.set i (.val x)) j = false) (hj : j < env.length) : putPar [(i, false), (j, false)] [x, y] env = some ((env.set i (.val x)).set j (.val y)) := by
  simp only [putPar, hi, if_true, h0, Bool.false_eq_true, if_false, List.length_set, hj, h1]
theorem lstLen {l : List D} {x : D} (h : l.length < SZ) : mmD .append (.lst l) [x] = some (.non, .lst (l ++ [x])) := by
  show (if l.length < SZ then _ else _) = _
  rw [if_pos h]
theorem lawStays (n many wide : Nat) (hm : many ≤ 9) (h1 : 1 ≤ wide) (h2 : wide ≤ 2 ^ 48) (a b : Int) : ∃ (st : List (Int × Int)) (a' b' : Int), callD k5ds (n + 2) 37 [pl a b, .int many, .int wide] = some (stD st, [pl a' b']) ∧ st.length = many ∧ ∀ x ∈ st, 0 ≤ x.1 ∧ x.1 ≤ x.2 ∧ x.2 < wide := by
  obtain ⟨r, os, hr, st, a', b', e1, e2, e3⟩ := call_wp (n := n + 1) (ds := k5ds) (f := 37) (args := [pl a b, .int many, .int wide]) (Q := fun r os => ∃ (st : List (Int × Int)) (a' b' : Int), r = stD st ∧ os = [pl a' b'] ∧ st.length = many ∧ ∀ x ∈ st, 0 ≤ x.1 ∧ x.1 ≤ x.2 ∧ x.2 < wide)
    [.own (pl a b), .val (.int many), .val (.int wide), .no, .no, .no, .no] rfl rfl rfl (by
    refine wp_new (v_lst (ds := []) vs_nil (by show 0 ≤ 16777216; decide)) rfl (by show 3 ≤ 3; decide) (by show 3 < 7; decide) ?_
    refine wp_for (F := fun i : Nat => D.int i) (List.range many) (fun zs e => ∃ (a b : Int) (st : List (Int × Int)) (s4 s5 s6 : Sl), e = [.own (pl a b), .val (.int many), .val (.int wide), .own (.lst (st.map pD)), s4, s5, s6] ∧ isO e 4 = false ∧ isO e 5 = false ∧ isO e 6 = false ∧ st.length = zs.length ∧ ∀ x ∈ st, 0 ≤ x.1 ∧ x.1 ≤ x.2 ∧ x.2 < wide) (it_rngP (vs_cons (v_var rfl) vs_nil) (rng1 many (by unfold SZ; omega))) rfl ⟨a, b, [], .no, .no, .no, rfl, rfl, rfl, rfl, rfl, by simp⟩ (fun _ _ _ => rfl) ?_ ?_
    · rintro zs y ws e hy ⟨a, b, st, s4, s5, s6, rfl, o4, o5, o6, hl, hs⟩
      obtain ⟨hlt, hzl⟩ := range_split hy
      refine ⟨_, putN o4 (by show 4 < 7; decide), ?_⟩
      obtain ⟨r1, a1, b1, q1, q2⟩ := takeEv n wide h1 h2 (a := a) (b := b) (env := [.own (pl a b), .val (.int many), .val (.int wide), .own (.lst (st.map pD)), .val (.int y), s5, s6]) (e := .var 2) rfl (v_var rfl)
      obtain ⟨r2, a2, b2, q3, q4⟩ := takeEv n wide h1 h2 (a := a1) (b := b1) (env := [.own (pl a1 b1), .val (.int many), .val (.int wide), .own (.lst (st.map pD)), .val (.int y), s5, s6]) (e := .var 2) rfl (v_var rfl)
      refine wp_par (vs_cons q1 (vs_cons q3 vs_nil)) rfl (par2 (x := .int r1) (y := .int r2) (env := [.own (pl a2 b2), .val (.int many), .val (.int wide), .own (.lst (st.map pD)), .val (.int y), s5, s6]) o5 (by show 5 < 7; decide) o6 (by show 6 < 7; decide)) ?_
      refine wp_exp (v_mm (m := .append) (i := 3) (ds := [pD ((if (r2 : Int) < r1 then (r2 : Int) else r1), (if (r2 : Int) > r1 then (r2 : Int) else r1))]) (o := .lst (st.map pD)) (d' := .lst ((st ++ [((if (r2 : Int) < r1 then (r2 : Int) else r1), (if (r2 : Int) > r1 then (r2 : Int) else r1))]).map pD)) (r := .non) rfl (vs_cons (v_tup (vs_cons (v_bi (as_v (v_var rfl) (as_v (v_var rfl) as_nil)) rfl rfl) (vs_cons (v_bi (as_v (v_var rfl) (as_v (v_var rfl) as_nil)) rfl rfl) vs_nil)) (by show 2 ≤ 16777216; decide)) vs_nil) rfl ?_) (wp_nil ⟨a2, b2, _, .val (.int y), .val (.int r1), .val (.int r2), rfl, rfl, rfl, rfl, ?_, fun x hx => ?_⟩)
      · rw [lstLen (by rw [List.length_map]; unfold SZ; omega), List.map_append]
        rfl
      · simp [hl]
      · rcases List.mem_append.mp hx with z | z
        · exact hs x z
        · have : x = ((if (r2 : Int) < r1 then (r2 : Int) else r1), (if (r2 : Int) > r1 then (r2 : Int) else r1)) := by simpa using z
          subst this
          simp only
          split <;> split <;> omega
    · rintro e ⟨a, b, st, s4, s5, s6, rfl, o4, o5, o6, hl, hs⟩
      refine wp_ret (r_e (d := stD st) (v_bi (as_o rfl as_nil) rfl rfl) nofun nofun) ⟨_, rfl, st, a, b, rfl, rfl, ?_, hs⟩
      rw [hl, List.length_range])
  subst e1 e2
  exact ⟨st, a', b', hr, e3⟩
theorem min2_eq (i j : Int) : biD .min2 [.int i, .int j] = some (.int (if j < i then j else i)) := rfl
theorem max2_eq (i j : Int) : biD .max2 [.int i, .int j] = some (.int (if j > i then j else i)) := rfl
theorem lawCosts (n many : Nat) (hm : many ≤ 9) (a b : Int) : ∃ (cs : List Int) (a' b' : Int), callD k5ds (n + 2) 42 [pl a b, .int many] = some (csD cs, [pl a' b']) ∧ cs.length = many ∧ ∀ c ∈ cs, 0 ≤ c ∧ c ≤ 9999 := by
  obtain ⟨r, os, hr, cs, a', b', e1, e2, e3⟩ := call_wp (n := n + 1) (ds := k5ds) (f := 42) (args := [pl a b, .int many]) (Q := fun r os => ∃ (cs : List Int) (a' b' : Int), r = csD cs ∧ os = [pl a' b'] ∧ cs.length = many ∧ ∀ c ∈ cs, 0 ≤ c ∧ c ≤ 9999)
    [.own (pl a b), .val (.int many), .no, .no] rfl rfl rfl (by
    obtain ⟨r1, a1, b1, q1, q2⟩ := takeEv n 3 (by decide) (by decide) (a := a) (b := b) (env := [.own (pl a b), .val (.int many), .no, .no]) (e := .cst (.int 3)) rfl v_cst
    have most : ∃ m : Nat, subD (.tup [.int 2, .int 9, .int 9999]) (.int r1) = some (.int m) ∧ 1 ≤ m ∧ m ≤ 9999 := by
      match r1, q2 with
      | 0, _ => exact ⟨2, rfl, by decide, by decide⟩
      | 1, _ => exact ⟨9, rfl, by decide, by decide⟩
      | 2, _ => exact ⟨9999, rfl, by decide, by decide⟩
    obtain ⟨m, m1, m2, m3⟩ := most
    refine wp_set (d := .int m) (e1 := [.own (pl a1 b1), .val (.int many), .no, .no]) (v_sub (v_tup (vs_cons v_cst (vs_cons v_cst (vs_cons v_cst vs_nil))) (by show 3 ≤ 16777216; decide)) q1 m1) rfl (by show 2 < 4; decide) ?_
    obtain ⟨zs, e2, c1, c2, c3, a2, b2, c4⟩ := v_compS (Φ := callD k5ds (n + 1)) (R := rfsOf k5ds) (env := [.own (pl a1 b1), .val (.int many), .val (.int m), .no]) (e1 := [.own (pl a1 b1), .val (.int many), .val (.int m), .no]) (elt := .sub (.tup [(.call 33 [(.own 0), (.bin .add (.var 2) (.cst (.int 1)))] []), (.bin .add (.cst (.int 1)) (.call 33 [(.own 0), (.var 2)] [])), (.cst (.int 0))]) (.bi .min2 [(.cst (.int 2)), (.bin .fdiv (.call 33 [(.own 0), (.cst (.int 6))] []) (.cst (.int 2)))])) (vs := [3]) (t := .nm 3) (it := .rng [(.var 1)])
      (List.range many) (fun i : Nat => D.int i) (fun e => ∃ a b, e = [.own (pl a b), .val (.int many), .val (.int m), .no]) (fun _ d => ∃ c : Int, d = .int c ∧ 0 ≤ c ∧ c ≤ 9999) (it_rngP (vs_cons (v_var rfl) vs_nil) (rng1 many (by unfold SZ; omega))) rfl rfl (by rw [List.length_range]; unfold SZ; omega) ⟨a1, b1, rfl⟩ (fun e ⟨a, b, he⟩ => by subst he; exact ⟨rfl, fun v hv => by
        have : v = 3 := by simpa using hv
        subst this; rfl⟩) (fun _ _ => rfl) (fun y hy e ⟨a, b, he⟩ => by
        subst he
        obtain ⟨r1, a1, b1, q1, q2⟩ := takeEv n (m + 1) (by omega) (by omega) (a := a) (b := b) (env := [.own (pl a b), .val (.int many), .val (.int m), .val (.int y)]) (e := .bin .add (.var 2) (.cst (.int 1))) rfl (v_bin (v_var rfl) v_cst rfl)
        obtain ⟨r2, a2, b2, q3, q4⟩ := takeEv n m m2 (by omega) (a := a1) (b := b1) (env := [.own (pl a1 b1), .val (.int many), .val (.int m), .val (.int y)]) (e := .var 2) rfl (v_var rfl)
        obtain ⟨r3, a3, b3, q5, q6⟩ := takeEv n 6 (by decide) (by decide) (a := a2) (b := b2) (env := [.own (pl a2 b2), .val (.int many), .val (.int m), .val (.int y)]) (e := .cst (.int 6)) rfl v_cst
        have ix : ∃ (k : Nat) (c : Int), (if ((r3 : Int) / 2) < 2 then ((r3 : Int) / 2) else 2) = k ∧ subD (.tup [.int r1, .int (1 + (r2 : Int)), .int 0]) (.int k) = some (.int c) ∧ 0 ≤ c ∧ c ≤ 9999 := by
          have : (r3 : Int) / 2 = 0 ∨ (r3 : Int) / 2 = 1 ∨ (r3 : Int) / 2 = 2 := by omega
          rcases this with z | z | z
          · exact ⟨0, r1, by rw [z]; rfl, rfl, by omega, by omega⟩
          · exact ⟨1, 1 + (r2 : Int), by rw [z]; rfl, rfl, by omega, by omega⟩
          · exact ⟨2, 0, by rw [z]; rfl, rfl, by omega, by omega⟩
        obtain ⟨k, c, k1, k2, k3, k4⟩ := ix
        refine ⟨[.own (pl a b), .val (.int many), .val (.int m), .val (.int y)], .int c, [.own (pl a3 b3), .val (.int many), .val (.int m), .val (.int y)], [.own (pl a3 b3), .val (.int many), .val (.int m), .no], rfl, ?_, ⟨c, rfl, k3, k4⟩, ⟨a3, b3, rfl⟩, rfl⟩
        refine v_sub (dx := .tup [.int r1, .int (1 + (r2 : Int)), .int 0]) (e1 := [.own (pl a2 b2), .val (.int many), .val (.int m), .val (.int y)]) (v_tup (vs_cons q1 (vs_cons (v_bin v_cst q3 rfl) (vs_cons v_cst vs_nil))) (by show 3 ≤ 16777216; decide)) (v_bi (as_v v_cst (as_v (v_bin q5 v_cst (div_pos (by decide) (by decide))) as_nil)) rfl (min2_eq _ _)) ?_
        rw [k1]
        exact k2)
    subst c4
    have hzs : ∃ cs : List Int, zs.map (·.2) = cs.map D.int ∧ cs.length = zs.length ∧ ∀ c ∈ cs, 0 ≤ c ∧ c ≤ 9999 := by
      clear c1 c2
      induction zs with
      | nil => exact ⟨[], rfl, rfl, by simp⟩
      | cons z zs ih =>
        obtain ⟨cs, i1, i2, i3⟩ := ih fun w hw => c3 w (List.mem_cons_of_mem _ hw)
        obtain ⟨c, j1, j2, j3⟩ := c3 z (by simp)
        refine ⟨c :: cs, by simp [i1, j1], by simp [i2], fun x hx => ?_⟩
        rcases List.mem_cons.mp hx with e | e
        · subst e; exact ⟨j2, j3⟩
        · exact i3 x e
    obtain ⟨cs, i1, i2, i3⟩ := hzs
    rw [i1] at c1
    refine wp_ret (r_e (d := csD cs) (v_bi1 c1 rfl) nofun nofun) ⟨_, rfl, cs, a2, b2, rfl, rfl, ?_, i3⟩
    have := congrArg List.length c2
    rw [List.length_map, List.length_range] at this
    omega)
  subst e1 e2
  exact ⟨cs, a', b', hr, e3⟩
end K75
set_option Elab.async false
set_option linter.all false
set_option maxRecDepth 100000
/-! K75G2: chains of stays; all lots; what covers. -/
namespace K75
open PySem Qx CC
theorem dok_pD39 (l : List (Int × Int)) : (l.map pD).all (dok 39) = true := by
  rw [List.all_map, List.all_eq_true]
  intro x _
  rfl
theorem map_erase {α β : Type} (f : α → β) : ∀ (l : List α) (i : Nat), (l.map f).eraseIdx i = (l.eraseIdx i).map f
  | [], _ => rfl
  | a :: l, 0 => rfl
  | a :: l, i + 1 => by simp [map_erase f l i]
theorem pop1_pD {l : List (Int × Int)} {r : Nat} (h : r < l.length) (hl : l.length ≤ 1000) : mmD .pop1 (.lst (l.map pD)) [.int r] = some (pD l[r], .lst ((l.eraseIdx r).map pD)) := by
  have e : mmD .pop1 (.lst (l.map pD)) [.int r] = if 0 ≤ (r : Int) ∧ (r : Int) < 2 ^ 63 then ((l.map pD)[(r : Int).toNat]?).map (fun x => (x, .lst ((l.map pD).eraseIdx (r : Int).toNat))) else none := rfl
  rw [e, if_pos ⟨by omega, by omega⟩]
  simp only [Int.toNat_natCast]
  rw [List.getElem?_map, List.getElem?_eq_getElem h, map_erase]
  rfl
theorem lawChain (n many wide : Nat) (hm : many ≤ 9) (h1 : 1 ≤ wide) (h2 : wide ≤ 1000) (a b : Int) : ∃ (st : List (Int × Int)) (a' b' : Int), callD k5ds (n + 2) 43 [pl a b, .int many, .int wide] = some (stD st, [pl a' b']) ∧ st.length = many ∧ ∀ x ∈ st, 0 ≤ x.1 ∧ x.1 ≤ x.2 ∧ x.2 ≤ 9999 := by
  obtain ⟨r, os, hr, st, a', b', e1, e2, e3⟩ := call_wp (n := n + 1) (ds := k5ds) (f := 43) (args := [pl a b, .int many, .int wide]) (Q := fun r os => ∃ (st : List (Int × Int)) (a' b' : Int), r = stD st ∧ os = [pl a' b'] ∧ st.length = many ∧ ∀ x ∈ st, 0 ≤ x.1 ∧ x.1 ≤ x.2 ∧ x.2 ≤ 9999)
    [.own (pl a b), .val (.int many), .val (.int wide), .no, .no, .no, .no, .no] rfl rfl rfl (by
    refine wp_par (ds := [.lst [], .int 0]) (e2 := [.own (pl a b), .val (.int many), .val (.int wide), .no, .no, .own (.lst []), .val (.int 0), .no]) (vs_cons (v_lst (ds := []) vs_nil (by show 0 ≤ 16777216; decide)) (vs_cons v_cst vs_nil)) rfl rfl ?_
    refine wp_for (F := fun i : Nat => D.int i) (List.range many) (fun zs e => ∃ (a b : Int) (st : List (Int × Int)) (here : Nat) (s3 s7 : Sl), e = [.own (pl a b), .val (.int many), .val (.int wide), s3, .no, .own (.lst (st.map pD)), .val (.int here), s7] ∧ isO e 3 = false ∧ isO e 7 = false ∧ st.length = zs.length ∧ here ≤ zs.length * wide ∧ ∀ x ∈ st, 0 ≤ x.1 ∧ x.1 ≤ x.2 ∧ x.2 ≤ 9999) (it_rngP (vs_cons (v_var rfl) vs_nil) (rng1 many (by unfold SZ; omega))) rfl ⟨a, b, [], 0, .no, .no, rfl, rfl, rfl, rfl, Nat.zero_le _, by simp⟩ (fun _ _ _ => rfl) ?_ ?_
    · rintro zs y ws e hy ⟨a, b, st, here, s3, s7, rfl, o3, o7, hl, hh, hs⟩
      obtain ⟨hlt, hzl⟩ := range_split hy
      have hbd : zs.length * wide + wide ≤ 9000 := by
        have e1 : zs.length * wide + wide = (zs.length + 1) * wide := by rw [Nat.succ_mul]
        have e2 : (zs.length + 1) * wide ≤ 9 * 1000 := Nat.mul_le_mul (by omega) h2
        omega
      refine ⟨_, putN o3 (by show 3 < 8; decide), ?_⟩
      obtain ⟨r1, a1, b1, q1, q2⟩ := takeEv n wide h1 (by omega) (a := a) (b := b) (env := [.own (pl a b), .val (.int many), .val (.int wide), .val (.int y), .no, .own (.lst (st.map pD)), .val (.int here), s7]) (e := .var 2) rfl (v_var rfl)
      refine wp_set (d := .int ((here : Int) + r1)) (e1 := [.own (pl a1 b1), .val (.int many), .val (.int wide), .val (.int y), .no, .own (.lst (st.map pD)), .val (.int here), s7]) (v_bin (v_var rfl) q1 rfl) o7 (by show 7 < 8; decide) ?_
      obtain ⟨r2, a2, b2, q3, q4⟩ := takeEv n wide h1 (by omega) (a := a1) (b := b1) (env := [.own (pl a1 b1), .val (.int many), .val (.int wide), .val (.int y), .no, .own (.lst (st.map pD)), .val (.int here), .val (.int ((here : Int) + r1))]) (e := .var 2) rfl (v_var rfl)
      refine wp_exp (v_mm (m := .append) (i := 5) (ds := [pD ((if (here : Int) - r2 > 0 then (here : Int) - r2 else 0), (here : Int) + r1)]) (o := .lst (st.map pD)) (d' := .lst ((st ++ [((if (here : Int) - r2 > 0 then (here : Int) - r2 else 0), (here : Int) + r1)]).map pD)) (r := .non) (e1 := [.own (pl a2 b2), .val (.int many), .val (.int wide), .val (.int y), .no, .own (.lst (st.map pD)), .val (.int here), .val (.int ((here : Int) + r1))]) rfl (vs_cons (v_tup (vs_cons (v_bi (as_v v_cst (as_v (v_bin (v_var rfl) q3 rfl) as_nil)) rfl (max2_eq _ _)) (vs_cons (v_var rfl) vs_nil)) (by show 2 ≤ 16777216; decide)) vs_nil) rfl ?_) ?_
      · rw [lstLen (by rw [List.length_map]; unfold SZ; omega), List.map_append]
        rfl
      · obtain ⟨r3, a3, b3, q5, q6⟩ := takeEv n 2 (by decide) (by decide) (a := a2) (b := b2) (env := [.own (pl a2 b2), .val (.int many), .val (.int wide), .val (.int y), .no, .own (.lst ((st ++ [((if (here : Int) - r2 > 0 then (here : Int) - r2 else 0), (here : Int) + r1)]).map pD)), .val (.int here), .val (.int ((here : Int) + r1))]) (e := .cst (.int 2)) rfl v_cst
        refine wp_set (d := .int ((here : Int) + r1 + r3)) (e1 := [.own (pl a3 b3), .val (.int many), .val (.int wide), .val (.int y), .no, .own (.lst ((st ++ [((if (here : Int) - r2 > 0 then (here : Int) - r2 else 0), (here : Int) + r1)]).map pD)), .val (.int here), .val (.int ((here : Int) + r1))]) (v_bin (v_var rfl) q5 rfl) rfl (by show 6 < 8; decide) (wp_nil ⟨a3, b3, _, here + r1 + r3, .val (.int y), .val (.int ((here : Int) + r1)), rfl, rfl, rfl, ?_, ?_, fun x hx => ?_⟩)
        · simp [hl]
        · rw [List.length_append, List.length_singleton, Nat.succ_mul]
          omega
        · rcases List.mem_append.mp hx with z | z
          · exact hs x z
          · have : x = ((if (here : Int) - r2 > 0 then (here : Int) - r2 else 0), (here : Int) + r1) := by simpa using z
            subst this
            simp only
            split <;> omega
    · rintro e ⟨a, b, st, here, s3, s7, rfl, o3, o7, hl, hh, hs⟩
      rw [List.length_range] at hl
      refine wp_new (v_lst (ds := []) vs_nil (by show 0 ≤ 16777216; decide)) rfl (by show 3 ≤ 4; decide) (by show 4 < 8; decide) ?_
      refine wp_whl (fun k e => ∃ (a b : Int) (fd rw : List (Int × Int)), e = [.own (pl a b), .val (.int many), .val (.int wide), s3, .own (.lst (rw.map pD)), .own (.lst (fd.map pD)), .val (.int here), s7] ∧ fd.length = k ∧ rw.length + fd.length = many ∧ (∀ x ∈ fd, 0 ≤ x.1 ∧ x.1 ≤ x.2 ∧ x.2 ≤ 9999) ∧ ∀ x ∈ rw, 0 ≤ x.1 ∧ x.1 ≤ x.2 ∧ x.2 ≤ 9999) many ⟨a, b, st, [], rfl, hl, by simp [hl], hs, by simp⟩ (by omega) ?_
      rintro k e ⟨a, b, fd, rw, rfl, hk, hsum, hf, hrw⟩
      refine ⟨!(fd.map pD).isEmpty, _, v_cmpA (op_o rfl) (op_v (v_lst (ds := []) vs_nil (by show 0 ≤ 16777216; decide))) rfl rfl (ne_nilD _ (dok_pD39 fd)), fun hp => ?_, fun hp => ?_⟩
      · have hpos : 0 < fd.length := by
          cases fd with
          | nil => cases hp
          | cons x fd => simp
        obtain ⟨r1, a1, b1, q1, q2⟩ := takeEv n (fd.map pD).length (by rw [List.length_map]; exact hpos) (by rw [List.length_map]; omega) (a := a) (b := b) (env := [.own (pl a b), .val (.int many), .val (.int wide), s3, .own (.lst (rw.map pD)), .own (.lst (fd.map pD)), .val (.int here), s7]) (e := .bi .len [(.own 5)]) rfl (v_bi (as_o rfl as_nil) rfl (len_lst _))
        rw [List.length_map] at q2
        have c2 := v_mm (m := .pop1) (i := 5) (d' := .lst ((fd.eraseIdx r1).map pD)) (o := .lst (fd.map pD)) (r := pD fd[r1]) (l := fd.map pD) (env := [.own (pl a b), .val (.int many), .val (.int wide), s3, .own (.lst (rw.map pD)), .own (.lst (fd.map pD)), .val (.int here), s7]) (e1 := [.own (pl a1 b1), .val (.int many), .val (.int wide), s3, .own (.lst (rw.map pD)), .own (.lst (fd.map pD)), .val (.int here), s7]) rfl (vs_cons q1 vs_nil) rfl (pop1_pD q2 (by omega))
        refine wp_exp (v_mm (m := .append) (i := 4) (ds := [pD fd[r1]]) (o := .lst (rw.map pD)) (d' := .lst ((rw ++ [fd[r1]]).map pD)) (r := .non) (e1 := [.own (pl a1 b1), .val (.int many), .val (.int wide), s3, .own (.lst (rw.map pD)), .own (.lst ((fd.eraseIdx r1).map pD)), .val (.int here), s7]) rfl (vs_cons c2 vs_nil) rfl ?_) (wp_nil ⟨(fd.eraseIdx r1).length, ?_, a1, b1, _, _, rfl, rfl, ?_, fun x hx => hf x (List.mem_of_mem_eraseIdx hx), fun x hx => ?_⟩)
        · rw [lstLen (by rw [List.length_map]; unfold SZ; omega), List.map_append]
          rfl
        · rw [List.length_eraseIdx_of_lt q2]; omega
        · rw [List.length_eraseIdx_of_lt q2, List.length_append, List.length_singleton]; omega
        · rcases List.mem_append.mp hx with z | z
          · exact hrw x z
          · have : x = fd[r1] := by simpa using z
            subst this
            exact hf _ (List.getElem_mem q2)
      · have hnil : fd = [] := by
          cases fd with
          | nil => rfl
          | cons x fd => cases hp
        subst hnil
        refine wp_ret (r_e (d := stD rw) (v_bi (as_o rfl as_nil) rfl rfl) nofun nofun) ⟨_, rfl, rw, a, b, rfl, rfl, ?_, hrw⟩
        simpa using hsum)
  subst e1 e2
  exact ⟨st, a', b', hr, e3⟩
end K75
set_option Elab.async false
set_option linter.all false
set_option maxRecDepth 100000
/-! K75G3: all lots; what covers. -/
namespace K75
open PySem Qx CC
abbrev lD (L : List Nat) : D := .tup (natD L)
theorem catT {xs ys : List D} (h : xs.length + ys.length ≤ SZ) : binD .add (.tup xs) (.tup ys) = some (.tup (xs ++ ys)) := by
  show (if xs.length + ys.length ≤ SZ then _ else _) = _
  rw [if_pos h]
theorem catL {xs ys : List D} (h : xs.length + ys.length ≤ SZ) : binD .add (.lst xs) (.lst ys) = some (.lst (xs ++ ys)) := by
  show (if xs.length + ys.length ≤ SZ then _ else _) = _
  rw [if_pos h]
theorem lots (n many : Nat) (hm : many ≤ 9) : callD k5ds (n + 1) 39 [.int many] = some (.lst ((rows many).map lD), []) := by
  obtain ⟨r, hr, e⟩ := call_wp1 (n := n) (ds := k5ds) (f := 39) (args := [.int many]) (Q := fun r => r = .lst ((rows many).map lD)) [.val (.int many), .no, .no, .no] rfl rfl rfl rfl (by
    refine wp_set (d := .lst ((rows 0).map lD)) (v_lst (vs_cons (v_tup vs_nil (by show 0 ≤ 16777216; decide)) vs_nil) (by show 1 ≤ 16777216; decide)) rfl (by show 1 < 4; decide) ?_
    refine wp_for (F := fun i : Nat => D.int i) (List.range many) (fun zs e => ∃ s2, e = [.val (.int many), .val (.lst ((rows zs.length).map lD)), s2, .no] ∧ isO e 2 = false) (it_rngP (vs_cons (v_var rfl) vs_nil) (rng1 many (by unfold SZ; omega))) rfl ⟨.no, rfl, rfl⟩ (fun _ _ _ => rfl) ?_ ?_
    · rintro zs y ws e hy ⟨s2, rfl, o2⟩
      obtain ⟨hlt, hzl⟩ := range_split hy
      have hrl : (rows zs.length).length ≤ 2 ^ 9 := by
        rw [rows_len]
        exact Nat.pow_le_pow_right (by decide) (by omega)
      refine ⟨_, putN o2 (by show 2 < 4; decide), ?_⟩
      have c := v_compT (Φ := callD k5ds n) (R := rfsOf k5ds) (env := [.val (.int many), .val (.lst ((rows zs.length).map lD)), .val (.int y), .no]) (elt := .bin .add (.var 3) (.tup [(.var 2)])) (vs := [3]) (t := .nm 3) (it := .seq (.var 1)) (rows zs.length) lD (fun L => lD (L ++ [y])) (it_seq (v_var rfl) rfl) rfl rfl rfl (fun L hL => ⟨_, putN rfl (by show 3 < 4; decide), v_bin (v_var rfl) (v_tup (ds := [.int y]) (vs_cons (v_var rfl) vs_nil) (by show 1 ≤ 16777216; decide)) (by
        rw [catT (by
          have := rows_mem_len hL
          simp only [natD, List.length_map, List.length_singleton, SZ]; omega)]
        have e : natD (L ++ [y]) = natD L ++ [.int y] := by unfold natD; rw [List.map_append]; rfl
        show _ = some (D.tup (natD (L ++ [y])))
        rw [e]), rfl⟩) (by unfold SZ; omega)
      refine wp_set (d := .lst ((rows (zs ++ [y]).length).map lD)) (e1 := [.val (.int many), .val (.lst ((rows zs.length).map lD)), .val (.int y), .no]) (v_bin (v_var rfl) c ?_) rfl (by show 1 < 4; decide) (wp_nil ⟨_, rfl, rfl⟩)
      rw [catL (by simp only [List.length_map, SZ]; omega), List.length_append, List.length_singleton, rows, List.map_append, List.map_map, hzl]
      rfl
    · rintro e ⟨s2, rfl, o2⟩
      refine wp_ret (r_e (v_var rfl) nofun nofun) ⟨[], rfl, ?_⟩
      rw [List.length_range])
  rw [hr, e]
theorem get_nat {L : List Nat} {i : Nat} (h : i < L.length) : (natD L)[i]? = some (.int (L.getD i 0 : Nat)) := get_mapN h
section
variable {st : List (Int × Int)}
/-- the stays of a lot -/
def lotS (st : List (Int × Int)) (L : List Nat) : List (Int × Int) := L.map fun p => st.getD p (0, 0)
theorem lawCovers (n : Nat) {L : List Nat} (hl : lot st.length L) (hL : L.length ≤ 1000) (start stop : Int) : ∃ b : Bool, callD k5ds (n + 1) 40 [stD st, lD L, .int start, .int stop] = some (.bl b, []) ∧ (b = true ↔ CC.covers (Bf st) (Ef st) L start stop) := by
  have key : ∀ here : Int, True := fun _ => trivial
  obtain ⟨r, hr, e⟩ := call_wp1 (n := n) (ds := k5ds) (f := 40) (args := [stD st, lD L, .int start, .int stop]) (Q := fun r => r = .bl (decide (stop < sweep start ((lotS st L).mergeSort le2)))) [.val (stD st), .val (lD L), .val (.int start), .val (.int stop), .no, .no, .no, .no] rfl rfl rfl rfl (by
    refine wp_set (d := .int start) (v_var rfl) rfl (by show 4 < 8; decide) ?_
    have c := v_compT (Φ := callD k5ds n) (R := rfsOf k5ds) (env := [.val (stD st), .val (lD L), .val (.int start), .val (.int stop), .val (.int start), .no, .no, .no]) (elt := .sub (.var 0) (.var 7)) (vs := [7]) (t := .nm 7) (it := .seq (.var 1)) L (fun (p : Nat) => D.int p) (fun p => pD (st.getD p (0, 0))) (it_seq (v_var rfl) rfl) rfl rfl rfl (fun p hp => ⟨_, putN rfl (by show 7 < 8; decide), v_sub (v_var rfl) (v_var rfl) (sub_tupN (get_st (hl p hp))), rfl⟩) (by unfold SZ; omega)
    have e1 : (L.map fun p => pD (st.getD p (0, 0))) = (lotS st L).map pD := by unfold lotS; rw [List.map_map]; rfl
    rw [e1] at c
    refine wp_for (F := pD) ((lotS st L).mergeSort le2) (fun zs e => ∃ here s5 s6, e = [.val (stD st), .val (lD L), .val (.int start), .val (.int stop), .val (.int here), s5, s6, .no] ∧ isO e 5 = false ∧ isO e 6 = false ∧ ∀ ws, (lotS st L).mergeSort le2 = zs ++ ws → sweep start ((lotS st L).mergeSort le2) = sweep here ws) (it_seq (v_bi1 c (sorted_pairs _)) rfl) rfl ⟨start, .no, .no, rfl, rfl, rfl, fun ws h => by rw [List.nil_append] at h; rw [h]⟩ (fun _ _ _ => rfl) ?_ ?_
    · rintro zs y ws e hy ⟨here, s5, s6, rfl, o5, o6, hw⟩
      refine ⟨_, put2 o5 (by show 5 < 8; decide) o6 (by show 6 < 8; decide), ?_⟩
      have step := hw (y :: ws) hy
      have same : ∀ us, (lotS st L).mergeSort le2 = (zs ++ [y]) ++ us → us = ws := fun us h => by
        rw [hy] at h
        simp only [List.append_assoc, List.singleton_append] at h
        have := List.append_cancel_left h
        exact (List.cons.inj this).2.symm
      refine wp_ite (p := decide (y.1 ≤ here) && decide (here ≤ y.2)) (e1 := [.val (stD st), .val (lD L), .val (.int start), .val (.int stop), .val (.int here), .val (.int y.1), .val (.int y.2), .no]) (v_chn (v_var rfl) (v_var rfl) rfl (fun _ => v_var rfl) fun _ => rfl) (fun z => ?_) fun z => wp_nil (wp_nil ⟨here, .val (.int y.1), .val (.int y.2), rfl, rfl, rfl, fun us hu => ?_⟩)
      · simp only [Bool.and_eq_true, decide_eq_true_eq] at z
        refine wp_set (d := .int (y.2 + 1)) (e1 := [.val (stD st), .val (lD L), .val (.int start), .val (.int stop), .val (.int here), .val (.int y.1), .val (.int y.2), .no]) (v_bin (v_var rfl) v_cst rfl) rfl (by show 4 < 8; decide) (wp_nil (wp_nil ⟨y.2 + 1, .val (.int y.1), .val (.int y.2), rfl, rfl, rfl, fun us hu => ?_⟩))
        rw [step, same us hu, sweep, if_pos z]
      · have z : ¬ (y.1 ≤ here ∧ here ≤ y.2) := fun q => by
          rw [decide_eq_true q.1, decide_eq_true q.2] at z
          cases z
        rw [step, same us hu, sweep, if_neg z]
    · rintro e ⟨here, s5, s6, rfl, o5, o6, hw⟩
      have := hw [] (by simp)
      refine wp_ret (r_e (d := .bl (decide (stop < here))) (v_cmp (v_var rfl) (v_var rfl) rfl) nofun nofun) ⟨[], rfl, ?_⟩
      rw [this, sweep])
  subst e
  refine ⟨_, hr, ?_⟩
  rw [decide_eq_true_eq, sweep_iff stop _ start (sort2_fst _)]
  unfold CC.covers
  have hmem : ∀ s, s ∈ (lotS st L).mergeSort le2 ↔ ∃ p ∈ L, s = st.getD p (0, 0) := fun s => by
    rw [(List.mergeSort_perm _ _).mem_iff]
    unfold lotS
    rw [List.mem_map]
    exact ⟨fun ⟨p, h1, h2⟩ => ⟨p, h1, h2.symm⟩, fun ⟨p, h1, h2⟩ => ⟨p, h1, h2.symm⟩⟩
  refine ⟨fun h m m1 m2 => ?_, fun h m m1 m2 => ?_⟩
  · obtain ⟨s, h1, h2⟩ := h m m1 m2
    obtain ⟨p, p1, rfl⟩ := (hmem s).mp h1
    exact ⟨p, p1, h2⟩
  · obtain ⟨p, p1, p2⟩ := h m m1 m2
    exact ⟨_, (hmem _).mpr ⟨p, p1, rfl⟩, p2⟩
end
end K75
set_option Elab.async false
set_option linter.all false
set_option maxRecDepth 100000
/-! K75H: bent prices. -/
namespace K75
open PySem Qx CC
theorem strOk_of (s : String) : PyData.strOk (Str.ofString s) = true := by
  rw [Str.ofString_eq_toList]
  show Array.all _ _ = true
  rw [← Array.all_toList]
  simp only [List.all_map, List.all_eq_true]
  intro c _
  have h := c.valid
  show decide (c.toNat < 0x110000) = true
  have : c.toNat < 0x110000 := by
    rcases h with h | ⟨_, h⟩
    · exact Nat.lt_trans h (by decide)
    · exact h
  exact decide_eq_true this
theorem pld_mono : ∀ {k : Nat} {d : D}, pld k d = true → pld (k + 1) d = true
  | k, .non, _ => by simp [pld]
  | k, .bl _, _ => by simp [pld]
  | k, .int _, _ => by simp [pld]
  | k, .str x, h => by
    cases k <;> simpa only [pld] using h
  | 0, .tup ds, h => by simp [pld] at h
  | 0, .lst ds, h => by simp [pld] at h
  | k + 1, .tup ds, h => by
    simp only [pld, Bool.and_eq_true, List.all_eq_true, decide_eq_true_eq] at h ⊢
    exact ⟨fun x hx => pld_mono (h.1 x hx), h.2⟩
  | k + 1, .lst ds, h => by
    simp only [pld, Bool.and_eq_true, List.all_eq_true, decide_eq_true_eq] at h ⊢
    exact ⟨fun x hx => pld_mono (h.1 x hx), h.2⟩
  | 0, .dct _ _ _, h => by simp [pld] at h
  | 0, .fn _, h => by simp [pld] at h
  | 0, .xtp _, h => by simp [pld] at h
  | k + 1, .dct _ _ _, h => by simp [pld] at h
  | k + 1, .fn _, h => by simp [pld] at h
  | k + 1, .xtp _, h => by simp [pld] at h
theorem pld_tupI {k : Nat} {l : List D} (h : ∀ d ∈ l, pld k d = true) (hl : l.length ≤ SZ) : pld (k + 1) (.tup l) = true := by
  simp only [pld, Bool.and_eq_true, List.all_eq_true, decide_eq_true_eq]
  exact ⟨h, hl⟩
theorem pld_lstI {k : Nat} {l : List D} (h : ∀ d ∈ l, pld k d = true) (hl : l.length ≤ SZ) : pld (k + 1) (.lst l) = true := by
  simp only [pld, Bool.and_eq_true, List.all_eq_true, decide_eq_true_eq]
  exact ⟨h, hl⟩
theorem pld_int (k : Nat) (i : Int) : pld k (.int i) = true := by cases k <;> rfl
theorem pld_bl (k : Nat) (i : Bool) : pld k (.bl i) = true := by cases k <;> rfl
theorem pld_non (k : Nat) : pld k .non = true := by cases k <;> rfl
theorem pld_pD (k : Nat) (x : Int × Int) : pld (k + 1) (pD x) = true := pld_tupI (fun d hd => by
  have : d = .int x.1 ∨ d = .int x.2 := by simpa using hd
  rcases this with e | e <;> rw [e] <;> exact pld_int _ _) (by show 2 ≤ 16777216; decide)
theorem all2 {k : Nat} {a b : D} (ha : pld k a = true) (hb : pld k b = true) : pld (k + 1) (.tup [a, b]) = true := pld_tupI (fun d hd => by
  have : d = a ∨ d = b := by simpa using hd
  rcases this with e | e <;> rw [e] <;> assumption) (by show 2 ≤ 16777216; decide)
section
variable {pr : List (Int × Int)}
abbrev vD (pr : List (Int × Int)) : D := .tup (pr.map pD)
theorem sub_pld (ds : List D) (hs : ∀ d ∈ ds, d ∈ pr.map pD) : ∀ d ∈ ds, pld 4 d = true := fun d hd => by
  obtain ⟨x, _, rfl⟩ := List.mem_map.mp (hs d hd)
  exact pld_pD 3 x
theorem mem_cut {ds : List D} {a b : Nat} {d : D} (h : d ∈ (ds.drop a).take b) : d ∈ ds := List.mem_of_mem_drop (List.mem_of_mem_take h)
theorem cut_le {ds : List D} {a b : Nat} : ((ds.drop a).take b).length ≤ ds.length := by
  rw [List.length_take, List.length_drop]; omega
theorem ne_nilT (l : List D) (h : l.all (dok 39) = true) : cmpD .ne (.tup l) (.tup []) = some (!l.isEmpty) := by
  have e : eqQ (.tup l) (.tup []) = some (eqD (.tup l) (.tup [])) := by
    show (if (dok 40 (.tup l) && dok 40 (.tup [])) = true then _ else _) = _
    rw [if_pos]
    simp only [dok, h, List.all_nil, Bool.and_self]
  show (eqQ (.tup l) (.tup [])).map (!·) = _
  rw [e]
  cases l <;> simp [eqD, eqDs]
/-- t[lo:hi] is a part of t -/
theorem slc_part (ds : List D) (lo hi : D) (h1 : lo = .non ∨ ∃ i : Int, lo = .int i) (h2 : hi = .non ∨ ∃ i : Int, hi = .int i) : ∃ a b, slcD (.tup ds) lo hi = some (.tup ((ds.drop a).take b)) := by
  have b1 : ∀ (x : D) (n k : Nat), (x = .non ∨ ∃ i : Int, x = .int i) → ∃ l, bndD n k x = some l := fun x n k h => by
    rcases h with rfl | ⟨i, rfl⟩
    · exact ⟨k, rfl⟩
    · exact ⟨_, rfl⟩
  obtain ⟨l, e1⟩ := b1 lo ds.length 0 h1
  obtain ⟨u, e2⟩ := b1 hi ds.length ds.length h2
  refine ⟨l, u - l, ?_⟩
  simp only [slcD, cutD, e1, e2, Option.bind_some, Option.map_some]
abbrev kinds (m p : Int) : List D := [.tup [.int m, .int (p + 1)], .tup [.int m, .int 0], .tup [.int m, .int (-1)], .tup [.int (m + 1), .int p], .tup [.int m, .bl true], .tup [.bl true, .int p], .tup [.int m]]
abbrev kinds2 (m p : Int) : List D := [.tup [.int m, .int p, .int 0], .lst [.int m, .int p], .tup [.str (toString m), .int p], .non, .tup [.int m, .non], .tup [.int (-1), .int p]]
theorem kinds_pld (m p : Int) : ∀ d ∈ kinds m p ++ kinds2 m p, pld 4 d = true := by
  have hs : pld 3 (.str (toString m : String)) = true := by
    show PyData.strOk (Str.ofString (toString m)) = true
    exact strOk_of _
  intro d hd
  simp only [List.mem_append, List.mem_cons, List.not_mem_nil, or_false] at hd
  rcases hd with (rfl | rfl | rfl | rfl | rfl | rfl | rfl) | (rfl | rfl | rfl | rfl | rfl | rfl)
  · exact all2 rfl rfl
  · exact all2 rfl rfl
  · exact all2 rfl rfl
  · exact all2 rfl rfl
  · exact all2 rfl rfl
  · exact all2 rfl rfl
  · rfl
  · rfl
  · rfl
  · exact all2 hs rfl
  · rfl
  · exact all2 rfl rfl
  · exact all2 rfl rfl
theorem bent (n : Nat) (hp : pr.length ≤ 10) (hm : ∀ x ∈ pr, 0 ≤ x.1 ∧ x.1 ≤ 9999) (a b : Int) : ∃ (rs : List D) (a' b' : Int), callD k5ds (n + 2) 44 [pl a b, vD pr] = some (.lst rs, [pl a' b']) ∧ rs.length ≤ 64 ∧ ∀ d ∈ rs, pld 6 d = true := by
  obtain ⟨r, os, hr, rs, a', b', e1, e2, e3⟩ := call_wp (n := n + 1) (ds := k5ds) (f := 44) (args := [pl a b, vD pr]) (Q := fun r os => ∃ (rs : List D) (a' b' : Int), r = .lst rs ∧ os = [pl a' b'] ∧ rs.length ≤ 64 ∧ ∀ d ∈ rs, pld 6 d = true)
    [.own (pl a b), .val (vD pr), .no, .no, .no, .no, .no, .no] rfl rfl rfl (by
    have hlen : (pr.map pD).length ≤ 10 := by rw [List.length_map]; exact hp
    have part : ∀ u v : Nat, ∀ d ∈ (((pr.map pD).drop u).take v), pld 4 d = true := fun u v d hd => sub_pld _ (fun x hx => mem_cut hx) d hd
    have plen : ∀ u v : Nat, (((pr.map pD).drop u).take v).length ≤ 10 := fun u v => Nat.le_trans cut_le hlen
    obtain ⟨u1, v1, s1⟩ := slc_part (pr.map pD) (.int 1) .non (.inr ⟨1, rfl⟩) (.inl rfl)
    obtain ⟨u2, v2, s2⟩ := slc_part (pr.map pD) .non (.int 1) (.inl rfl) (.inr ⟨1, rfl⟩)
    have base : ∀ d ∈ pr.map pD, pld 4 d = true := sub_pld _ fun x hx => hx
    have up : ∀ {d : D}, pld 4 d = true → pld 5 d = true := fun h => pld_mono h
    have tupP : ∀ l : List D, (∀ d ∈ l, pld 4 d = true) → l.length ≤ 30 → pld 6 (.tup l) = true := fun l h1 h2 => pld_tupI (fun d hd => up (h1 d hd)) (by unfold SZ; omega)
    have fin : ∀ (rs : List D) (a b : Int) (s3 s4 s5 s6 s7 : Sl), rs.length ≤ 64 → (∀ d ∈ rs, pld 6 d = true) → Wp (callD k5ds (n + 1)) (rfsOf k5ds) 2 [.ret (.own 2)] [.own (pl a b), .val (vD pr), .own (.lst rs), s3, s4, s5, s6, s7] (Ends [0] fun r os => ∃ (rs : List D) (a' b' : Int), r = .lst rs ∧ os = [pl a' b'] ∧ rs.length ≤ 64 ∧ ∀ d ∈ rs, pld 6 d = true) := fun rs a b s3 s4 s5 s6 s7 h1 h2 => wp_ret (r_own (by show 2 ≤ 2; decide) rfl) ⟨_, rfl, rs, a, b, rfl, rfl, h1, h2⟩
    refine wp_new (d := .lst [vD pr, .tup (pr.map pD).reverse, .tup (((pr.map pD).drop u1).take v1), .tup (pr.map pD ++ ((pr.map pD).drop u2).take v2), .lst (pr.map pD), .tup [], .non, .int 0, .str (Str.ofString "prices"), .tup [vD pr], .tup [pD (3, 5)], .tup [pD (0, 1), pD (1, 1), pD (2, 1)], .tup [pD (9999, 1)], .tup [pD (10000, 1)]])
      (e1 := [.own (pl a b), .val (vD pr), .no, .no, .no, .no, .no, .no])
      (v_lst (vs_cons (v_var rfl) (vs_cons (v_rev (v_var rfl) v_cst rfl) (vs_cons (v_slc (v_var rfl) v_cst v_cst s1) (vs_cons (v_bin (v_var rfl) (v_slc (v_var rfl) v_cst v_cst s2) (catT (by have := plen u2 v2; unfold SZ; omega))) (vs_cons (v_bi1 (v_var rfl) rfl) (vs_cons (v_tup vs_nil (by show 0 ≤ 16777216; decide)) (vs_cons v_cst (vs_cons v_cst (vs_cons v_cst
        (vs_cons (v_tup (vs_cons (v_var rfl) vs_nil) (by show 1 ≤ 16777216; decide)) (vs_cons (v_tup (vs_cons (v_tup (vs_cons v_cst (vs_cons v_cst vs_nil)) (by show 2 ≤ 16777216; decide)) vs_nil) (by show 1 ≤ 16777216; decide))
        (vs_cons (v_tup (vs_cons (v_tup (vs_cons v_cst (vs_cons v_cst vs_nil)) (by show 2 ≤ 16777216; decide)) (vs_cons (v_tup (vs_cons v_cst (vs_cons v_cst vs_nil)) (by show 2 ≤ 16777216; decide)) (vs_cons (v_tup (vs_cons v_cst (vs_cons v_cst vs_nil)) (by show 2 ≤ 16777216; decide)) vs_nil))) (by show 3 ≤ 16777216; decide))
        (vs_cons (v_tup (vs_cons (v_tup (vs_cons v_cst (vs_cons v_cst vs_nil)) (by show 2 ≤ 16777216; decide)) vs_nil) (by show 1 ≤ 16777216; decide)) (vs_cons (v_tup (vs_cons (v_tup (vs_cons v_cst (vs_cons v_cst vs_nil)) (by show 2 ≤ 16777216; decide)) vs_nil) (by show 1 ≤ 16777216; decide)) vs_nil)))))))))))))) (by show 14 ≤ 16777216; decide)) rfl (by show 2 ≤ 2; decide) (by show 2 < 8; decide) ?_
    have hL0 : ∀ d ∈ [vD pr, .tup (pr.map pD).reverse, .tup (((pr.map pD).drop u1).take v1), .tup (pr.map pD ++ ((pr.map pD).drop u2).take v2), .lst (pr.map pD), .tup [], .non, .int 0, .str (Str.ofString "prices"), .tup [vD pr], .tup [pD (3, 5)], .tup [pD (0, 1), pD (1, 1), pD (2, 1)], .tup [pD (9999, 1)], .tup [pD (10000, 1)]], pld 6 d = true := by
      intro d hd
      simp only [List.mem_cons, List.not_mem_nil, or_false] at hd
      rcases hd with rfl | rfl | rfl | rfl | rfl | rfl | rfl | rfl | rfl | rfl | rfl | rfl | rfl | rfl
      · exact tupP _ base (by omega)
      · exact tupP _ (fun d hd => base d (List.mem_reverse.mp hd)) (by rw [List.length_reverse]; omega)
      · exact tupP _ (part u1 v1) (by have := plen u1 v1; omega)
      · exact tupP _ (fun d hd => (List.mem_append.mp hd).elim (base d) (part u2 v2 d)) (by rw [List.length_append]; have := plen u2 v2; omega)
      · exact pld_lstI (fun d hd => up (base d hd)) (by unfold SZ; omega)
      · rfl
      · rfl
      · rfl
      · show PyData.strOk (Str.ofString "prices") = true
        exact strOk_of _
      · refine pld_tupI (fun d hd => ?_) (by show 1 ≤ 16777216; decide)
        have : d = vD pr := by simpa using hd
        rw [this]
        exact pld_tupI base (by unfold SZ; omega)
      · rfl
      · rfl
      · rfl
      · rfl
    have hdk : (pr.map pD).all (dok 39) = true := dok_pD39 pr
    refine wp_ite (p := !(pr.map pD).isEmpty) (v_cmp (v_var rfl) (v_tup (ds := []) vs_nil (by show 0 ≤ 16777216; decide)) (ne_nilT _ hdk)) (fun hq => ?_) (fun _ => wp_nil (fin _ a b _ _ _ _ _ (by show 14 ≤ 64; decide) hL0))
    generalize hg : [vD pr, .tup (pr.map pD).reverse, .tup (((pr.map pD).drop u1).take v1), .tup (pr.map pD ++ ((pr.map pD).drop u2).take v2), .lst (pr.map pD), .tup [], .non, .int 0, .str (Str.ofString "prices"), .tup [vD pr], .tup [pD (3, 5)], .tup [pD (0, 1), pD (1, 1), pD (2, 1)], .tup [pD (9999, 1)], .tup [pD (10000, 1)]] = L0 at hL0 ⊢
    have hl0 : L0.length = 14 := by rw [← hg]; rfl
    have hpos : 0 < (pr.map pD).length := by
      cases h : pr.map pD with
      | nil => rw [h] at hq; cases hq
      | cons x l => simp
    obtain ⟨at_, a1, b1, q1, q2⟩ := takeEv n (pr.map pD).length hpos (by omega) (a := a) (b := b) (env := [.own (pl a b), .val (vD pr), .own (.lst L0), .no, .no, .no, .no, .no]) (e := .bi .len [(.var 1)]) rfl (v_bi1 (v_var rfl) (len_tup _))
    rw [List.length_map] at q2
    have hx : (pr.map pD)[at_]? = some (pD pr[at_]) := by rw [List.getElem?_map, List.getElem?_eq_getElem q2]; rfl
    have hxm := hm _ (List.getElem_mem q2)
    generalize hy : pr[at_] = y at hx hxm
    obtain ⟨m, p⟩ := y
    simp only at hxm
    refine wp_set (d := .int at_) (e1 := [.own (pl a1 b1), .val (vD pr), .own (.lst L0), .no, .no, .no, .no, .no]) q1 rfl (by show 3 < 8; decide) ?_
    refine wp_asg (d := pD (m, p)) (e1 := [.own (pl a1 b1), .val (vD pr), .own (.lst L0), .val (.int at_), .no, .no, .no, .no]) (e2 := [.own (pl a1 b1), .val (vD pr), .own (.lst L0), .val (.int at_), .no, .no, .val (.int m), .val (.int p)]) (v_sub (v_var rfl) (v_var rfl) (sub_tupN hx)) (put2 rfl (by show 6 < 8; decide) rfl (by show 7 < 8; decide)) ?_
    refine wp_set (d := .lst (kinds m p)) (e1 := [.own (pl a1 b1), .val (vD pr), .own (.lst L0), .val (.int at_), .no, .no, .val (.int m), .val (.int p)]) (v_lst
      (vs_cons (v_tup (vs_cons (v_var rfl) (vs_cons (v_bin (v_var rfl) v_cst rfl) vs_nil)) (by show 2 ≤ 16777216; decide)) (vs_cons (v_tup (vs_cons (v_var rfl) (vs_cons v_cst vs_nil)) (by show 2 ≤ 16777216; decide)) (vs_cons (v_tup (vs_cons (v_var rfl) (vs_cons (v_neg v_cst) vs_nil)) (by show 2 ≤ 16777216; decide))
      (vs_cons (v_tup (vs_cons (v_bin (v_var rfl) v_cst rfl) (vs_cons (v_var rfl) vs_nil)) (by show 2 ≤ 16777216; decide)) (vs_cons (v_tup (vs_cons (v_var rfl) (vs_cons v_cst vs_nil)) (by show 2 ≤ 16777216; decide)) (vs_cons (v_tup (vs_cons v_cst (vs_cons (v_var rfl) vs_nil)) (by show 2 ≤ 16777216; decide)) (vs_cons (v_tup (vs_cons (v_var rfl) vs_nil) (by show 1 ≤ 16777216; decide)) vs_nil))))))) (by show 7 ≤ 16777216; decide)) rfl (by show 4 < 8; decide) ?_
    have hstr : biD .str [.int m] = some (.str (toString m : String)) := by
      show (if m.natAbs.log2 < 1920 then _ else _) = _
      have : m.natAbs.log2 < 1920 := by
        by_cases z : m.natAbs = 0
        · rw [z]; decide
        · refine (Nat.log2_lt z).mpr (Nat.lt_of_le_of_lt (show m.natAbs ≤ 2 ^ 14 by omega) ?_)
          exact Nat.pow_lt_pow_right (by decide) (by decide)
      rw [if_pos this]
    have hpart : ∀ hi : D, (hi = .non ∨ ∃ i : Int, hi = .int i) → True := fun _ _ => trivial
    obtain ⟨u3, v3, s3⟩ := slc_part (pr.map pD) .non (.int at_) (.inl rfl) (.inr ⟨_, rfl⟩)
    obtain ⟨u4, v4, s4⟩ := slc_part (pr.map pD) (.int ((at_ : Int) + 1)) .non (.inr ⟨_, rfl⟩) (.inl rfl)
    refine wp_for (F := id) (kinds m p ++ kinds2 m p) (fun zs e => ∃ rs s5, e = [.own (pl a1 b1), .val (vD pr), .own (.lst rs), .val (.int at_), .val (.lst (kinds m p)), s5, .val (.int m), .val (.int p)] ∧ isO e 5 = false ∧ rs.length = 14 + zs.length ∧ ∀ d ∈ rs, pld 6 d = true) (it_seq (v_bin (dx := .lst (kinds m p)) (dy := .lst (kinds2 m p)) (v_var rfl) (v_lst
      (vs_cons (v_tup (vs_cons (v_var rfl) (vs_cons (v_var rfl) (vs_cons v_cst vs_nil))) (by show 3 ≤ 16777216; decide)) (vs_cons (v_lst (vs_cons (v_var rfl) (vs_cons (v_var rfl) vs_nil)) (by show 2 ≤ 16777216; decide)) (vs_cons (v_tup (vs_cons (v_bi1 (v_var rfl) hstr) (vs_cons (v_var rfl) vs_nil)) (by show 2 ≤ 16777216; decide)) (vs_cons v_cst (vs_cons (v_tup (vs_cons (v_var rfl) (vs_cons v_cst vs_nil)) (by show 2 ≤ 16777216; decide)) (vs_cons (v_tup (vs_cons (v_neg v_cst) (vs_cons (v_var rfl) vs_nil)) (by show 2 ≤ 16777216; decide)) vs_nil)))))) (by show 6 ≤ 16777216; decide)) (catL (by show 13 ≤ 16777216; decide))) rfl) (List.map_id _).symm ⟨L0, .no, rfl, rfl, hl0, hL0⟩ (fun _ _ _ => rfl) ?_ ?_
    · rintro zs y ws e hy2 ⟨rs, s5, rfl, o5, hrl, hrp⟩
      have hym : y ∈ kinds m p ++ kinds2 m p := by rw [hy2]; simp
      have hyp := kinds_pld m p y hym
      have hzl : zs.length ≤ 13 := by
        have := congrArg List.length hy2
        simp only [List.length_append, List.length_cons, List.length_nil] at this
        omega
      have l3 := plen u3 v3
      have l4 := plen u4 v4
      refine ⟨_, putN o5 (by show 5 < 8; decide), ?_⟩
      refine wp_exp (v_mm (m := .append) (i := 2) (ds := [.tup (((pr.map pD).drop u3).take v3 ++ [y] ++ ((pr.map pD).drop u4).take v4)]) (o := .lst rs) (d' := .lst (rs ++ [.tup (((pr.map pD).drop u3).take v3 ++ [y] ++ ((pr.map pD).drop u4).take v4)])) (r := .non) (l := rs) rfl (vs_cons (v_bin (v_bin (v_slc (v_var rfl) v_cst (v_var rfl) s3) (v_tup (ds := [y]) (vs_cons (v_var rfl) vs_nil) (by show 1 ≤ 16777216; decide)) (catT (by rw [List.length_singleton]; unfold SZ; omega))) (v_slc (v_var rfl) (v_bin (v_var rfl) v_cst rfl) v_cst s4) (catT (by rw [List.length_append, List.length_singleton]; unfold SZ; omega))) vs_nil) rfl (lstLen (by unfold SZ; omega))) (wp_nil ⟨_, .val y, rfl, rfl, ?_, fun d hd => ?_⟩)
      · rw [List.length_append, List.length_append, hrl]
        rfl
      · rcases List.mem_append.mp hd with z | z
        · exact hrp d z
        · have : d = .tup (((pr.map pD).drop u3).take v3 ++ [y] ++ ((pr.map pD).drop u4).take v4) := by simpa using z
          rw [this]
          refine tupP _ (fun x hx => ?_) (by rw [List.length_append, List.length_append, List.length_singleton]; omega)
          rcases List.mem_append.mp hx with z | z
          · rcases List.mem_append.mp z with z | z
            · exact part u3 v3 x z
            · have : x = y := by simpa using z
              rw [this]; exact hyp
          · exact part u4 v4 x z
    · rintro e ⟨rs, s5, rfl, o5, hrl, hrp⟩
      exact wp_nil (fin rs a1 b1 _ _ _ _ _ (by rw [hrl]; show 14 + 13 ≤ 64; decide) hrp))
  subst e1 e2
  exact ⟨rs, a', b', hr, e3⟩
end
end K75
set_option Elab.async false
set_option linter.all false
set_option maxRecDepth 100000
/-! K75I: what the law compares. -/
namespace K75
open PySem Qx CC
section
variable {st : List (Int × Int)} {cs : List Int} {start stop : Int}
open Classical in
noncomputable def covB (st : List (Int × Int)) (start stop : Int) (L : List Nat) : Bool := decide (CC.covers (Bf st) (Ef st) L start stop)
open Classical in
theorem covB_iff {L : List Nat} : covB st start stop L = true ↔ CC.covers (Bf st) (Ef st) L start stop := by
  unfold covB
  exact decide_eq_true_iff
theorem covEv (n : Nat) {L : List Nat} (hl : lot st.length L) (hL : L.length ≤ 1000) : callD k5ds (n + 1) 40 [stD st, lD L, .int start, .int stop] = some (.bl (covB st start stop L), []) := by
  obtain ⟨b, h1, h2⟩ := lawCovers n hl hL start stop
  have : b = covB st start stop L := Bool.eq_iff_iff.mpr (h2.trans covB_iff.symm)
  rw [← this]
  exact h1
/-- the costs of all lots that cover -/
noncomputable def someL (st : List (Int × Int)) (cs : List Int) (start stop : Int) : List Int := ((rows st.length).filter (covB st start stop)).map fun L => cost (Cf cs) L
theorem some_yes (ok : Ok st cs start stop) (h : Covd st start stop) : someL st cs start stop ≠ [] ∧ biD .min [.lst ((someL st cs start stop).map .int)] = some (.int (fK st cs start stop)) := by
  obtain ⟨L, l1, l2⟩ := h
  obtain ⟨ps, hp⟩ := f_best (cost0 ok.cost) l1 l2 ok.le
  obtain ⟨M, _, m2, m3⟩ := sort_nat ps
  have hb := hp.perm m2
  have hasc : Asc M := m3.imp₂ (fun a b => by omega) hb.nodup
  have hmem : fK st cs start stop ∈ someL st cs start stop := by
    unfold someL
    rw [List.mem_map]
    exact ⟨M, List.mem_filter.mpr ⟨mem_rows hasc hb.lot, covB_iff.mpr hb.cov⟩, hb.cost⟩
  have hne : someL st cs start stop ≠ [] := fun z => by rw [z] at hmem; cases hmem
  obtain ⟨k, k1, k2, k3⟩ := min_ints hne
  refine ⟨hne, ?_⟩
  rw [k2]
  have h1 := k3 _ hmem
  obtain ⟨M', q1, q2⟩ := List.mem_map.mp k1
  obtain ⟨q3, q4⟩ := List.mem_filter.mp q1
  have h2 := hp.least M' (rows_lot q3) (covB_iff.mp q4)
  have h2 : fK st cs start stop ≤ cost (Cf cs) M' := h2
  have : k = fK st cs start stop := by omega
  rw [this]
theorem some_no (h : ¬ Covd st start stop) : someL st cs start stop = [] := by
  unfold someL
  rw [List.map_eq_nil_iff, List.filter_eq_nil_iff]
  intro L hL hc
  exact h ⟨L, rows_lot hL, covB_iff.mp hc⟩
theorem sortI_asc {L : List Nat} (h : Asc L) : sortI (L.map fun (p : Nat) => (p : Int)) = L.map fun (p : Nat) => (p : Int) := by
  unfold sortI
  refine List.mergeSort_of_pairwise ?_
  rw [List.pairwise_map]
  exact h.imp fun z => by rw [decide_eq_true_eq]; omega
theorem fair_vD {pr : List (Int × Int)} (h : Prices pr) (hf : ∀ p, p < st.length → sumIn pr (Bf st p) (Ef st p) ≤ Cf cs p) : fairB st cs (vD pr) = true := by
  have e : (pr.map pD).map toP = pr := by
    rw [List.map_map]
    conv => rhs; rw [← List.map_id pr]
    exact List.map_congr_left fun x _ => toP_pD x
  have h1 : ∀ (l : Int) (pr : List (Int × Int)), (∀ x ∈ pr, 0 ≤ x.1 ∧ x.1 ≤ 9999 ∧ 1 ≤ x.2) → pr.Pairwise (fun a b => a.1 < b.1) → (∀ x ∈ pr, l < x.1) → okFrom l (pr.map pD) = true := by
    intro l pr
    induction pr generalizing l with
    | nil => intros; rfl
    | cons x pr ih =>
      intro h1 h2 h3
      obtain ⟨p1, p2⟩ := List.pairwise_cons.mp h2
      have hx := h1 x (by simp)
      have hl := h3 x (by simp)
      simp only [List.map_cons, okFrom, Bool.and_eq_true]
      refine ⟨⟨?_, decide_eq_true hl⟩, ih x.1 (fun y hy => h1 y (List.mem_cons_of_mem _ hy)) p2 p1⟩
      rw [isPr_pD]
      simp only [Bool.and_eq_true, decide_eq_true_eq]
      omega
  show (okFrom (-1) (pr.map pD) && (List.range st.length).all fun i => decide (sumIn ((pr.map pD).map toP) (Bf st i) (Ef st i) ≤ Cf cs i)) = true
  rw [e, h1 (-1) pr h.ok h.asc fun x hx => by have := h.ok x hx; omega, Bool.true_and, List.all_eq_true]
  exact fun i hi => decide_eq_true (hf i (List.mem_range.mp hi))
/-- a dearer person -/
theorem more_cost {cs' : List Int} {at_ : Nat} {d : Int} (ok : Ok st cs start stop) (ok' : Ok st cs' start stop) (h : Covd st start stop) (hd : 0 ≤ d) (h1 : ∀ p, p ≠ at_ → Cf cs' p = Cf cs p) (h2 : Cf cs' at_ = Cf cs at_ + d) : fK st cs start stop ≤ fK st cs' start stop ∧ fK st cs' start stop ≤ fK st cs start stop + d := by
  obtain ⟨L, l1, l2⟩ := h
  obtain ⟨ps, hp⟩ := f_best (cost0 ok.cost) l1 l2 ok.le
  obtain ⟨qs, hq⟩ := f_best (cost0 ok'.cost) l1 l2 ok'.le
  have e1 := hp.least _ hq.lot hq.cov
  have e2 := hq.least _ hp.lot hp.cov
  have e3 := cost_le (C := Cf cs) (C' := Cf cs') (fun p => by
    by_cases c : p = at_
    · rw [c, h2]; omega
    · rw [h1 p c]; exact Int.le_refl _) qs
  have e4 := cost_more hd h1 h2 ps hp.nodup
  have e5 := hq.cost
  have e6 := hp.cost
  refine ⟨?_, ?_⟩
  · show f (Bf st) (Ef st) (Cf cs) st.length start stop ≤ f (Bf st) (Ef st) (Cf cs') st.length start stop
    omega
  · show f (Bf st) (Ef st) (Cf cs') st.length start stop ≤ f (Bf st) (Ef st) (Cf cs) st.length start stop + d
    omega
end
/-! plain steps -/
theorem slc_to {ds : List D} {k : Nat} (h : k ≤ ds.length) : slcD (.tup ds) .non (.int k) = some (.tup (ds.take k)) := by
  simp only [slcD, cutD, bndD, Option.bind_some, Option.map_some]
  rw [if_neg (by omega)]
  have : min (k : Int).toNat ds.length - 0 = k := by omega
  rw [this, List.drop_zero]
theorem slc_from {ds : List D} {k : Nat} (h : k ≤ ds.length) : slcD (.tup ds) (.int k) .non = some (.tup (ds.drop k)) := by
  simp only [slcD, cutD, bndD, Option.bind_some, Option.map_some]
  rw [if_neg (by omega)]
  have : min (k : Int).toNat ds.length = k := by omega
  rw [this, List.take_of_length_le (by rw [List.length_drop]; exact Nat.le_refl _)]
/-- the law's sum over a lot -/
theorem sumLot (n : Nat) {cs : List Int} {L : List Nat} (hl : lot cs.length L) (hL : L.length ≤ 1000) {env : En} (h2 : getV env 2 = some (csD cs)) (hi : getV env 11 = some (lD L)) (hlen : 13 < env.length) (h13 : isO env 13 = false) :
    evE (callD k5ds n) (rfsOf k5ds) (.bi .sum [(.comp (.sub (.var 2) (.var 13)) [13] (.nm 13) (.seq (.var 11)) (.cst (.bl true)))]) env = some (.int (cost (Cf cs) L), env) := by
  have gv : ∀ {j : Nat} {d s : D}, j ≠ 13 → getV env j = some d → getV ((wipeE env [13]).set 13 (.val s)) j = some d := fun {j d s} hj hv => by
    unfold getV at hv ⊢
    simp only [wipeE]
    rw [List.getElem?_set_ne (fun z => hj z.symm), List.getElem?_set_ne (fun z => hj z.symm)]
    exact hv
  have c := v_compT (Φ := callD k5ds n) (R := rfsOf k5ds) (env := env) (elt := .sub (.var 2) (.var 13)) (vs := [13]) (t := .nm 13) (it := .seq (.var 11)) L (fun (p : Nat) => D.int p) (fun p => .int (Cf cs p)) (it_seq (v_var hi) rfl) rfl (by
      simp only [noO, List.all_cons, List.all_nil, Bool.and_true, h13, Bool.not_false, Bool.true_and, decide_eq_true_eq]
      exact hlen) rfl (fun p hp => by
    refine ⟨_, putN (i := 13) (d := .int p) (env := wipeE env [13]) ?_ ?_, v_sub (v_var (gv (by decide) h2)) (v_var (d := .int p) ?_) (sub_tupN (get_mapI (hl p hp))), ?_⟩
    · simp only [wipeE]
      unfold isO
      rw [List.getElem?_set_self hlen]
    · rw [wipe_len]; exact hlen
    · unfold getV
      rw [List.getElem?_set_self (by rw [wipe_len]; exact hlen)]
    · simp only [wipeE, List.set_set]) (by unfold SZ; omega)
  exact v_bi1 c (sum_map (fun p => Cf cs p) L)
end K75
set_option Elab.async false
set_option linter.all false
set_option maxRecDepth 100000
/-! K75J: the law at one question. -/
namespace K75
open PySem Qx CC
section
variable {st : List (Int × Int)} {cs : List Int} {start stop : Int}
abbrev E1 (st : List (Int × Int)) (cs : List Int) (start stop : Int) (a b : Int) (s5 s6 s7 s8 s9 s10 s11 s12 : Sl) : En := [.own (pl a b), .val (stD st), .val (csD cs), .val (.int start), .val (.int stop), s5, s6, s7, s8, s9, s10, s11, s12, .no, .no, .no]
theorem lot_len {n : Nat} {L : List Nat} (h : L ∈ rows n) (hn : n ≤ 9) : L.length ≤ 1000 := by have := rows_mem_len h; omega
theorem callLeast (n : Nat) (ok : Ok st cs start stop) {env : En} (h1 : getV env 1 = some (stD st)) (h2 : getV env 2 = some (csD cs)) (h3 : getV env 3 = some (.int start)) (h4 : getV env 4 = some (.int stop)) : evE (callD k5ds (n + 19)) (rfsOf k5ds) (.call 28 [(.var 1), (.var 2), (.var 3), (.var 4)] []) env = some (dueD st cs start stop, env) :=
  v_call (as_v (v_var h1) (as_v (v_var h2) (as_v (v_var h3) (as_v (v_var h4) as_nil)))) rfl rfl (least (n + 9) ok) (.inl rfl)
theorem pld_due : pld 1 (dueD st cs start stop) = true := by
  by_cases c : Covd st start stop
  · rw [due_yes c]; rfl
  · rw [due_no c]; rfl
theorem one_head (n : Nat) (ok : Ok st cs start stop) (a b : Int) {P : Fl → En → Prop} (h : Wp (callD k5ds (n + 19)) (rfsOf k5ds) 5 (k5_law_one.body.drop 4) (E1 st cs start stop a b (.val (.int st.length)) (.val (.lst ((someL st cs start stop).map .int))) (.val (dueD st cs start stop)) .no .no .no .no .no) P) :
    Wp (callD k5ds (n + 19)) (rfsOf k5ds) 5 k5_law_one.body (E1 st cs start stop a b .no .no .no .no .no .no .no .no) P := by
  have h9 := ok.nine
  refine wp_set (d := .int st.length) (e1 := E1 st cs start stop a b .no .no .no .no .no .no .no .no) (v_bi1 (v_var rfl) (by rw [len_tup, List.length_map])) rfl (by show 5 < 16; decide) ?_
  have c := v_comp (Φ := callD k5ds (n + 19)) (R := rfsOf k5ds) (env := E1 st cs start stop a b (.val (.int st.length)) .no .no .no .no .no .no .no) (elt := .bi .sum [(.comp (.sub (.var 2) (.var 13)) [13] (.nm 13) (.seq (.var 11)) (.cst (.bl true)))]) (c := .call 40 [(.var 1), (.var 11), (.var 3), (.var 4)] []) (vs := [11]) (t := .nm 11) (it := .seq (.call 39 [(.var 5)] [])) (rows st.length) lD (covB st start stop) (fun L => .int (cost (Cf cs) L))
    (it_seq (v_call (as_v (v_var rfl) as_nil) rfl rfl (lots (n + 18) st.length h9) (.inl rfl)) rfl) rfl rfl rfl (fun L hL => ⟨E1 st cs start stop a b (.val (.int st.length)) .no .no .no .no .no (.val (lD L)) .no, putN rfl (by show 11 < 16; decide),
      v_call (as_v (v_var rfl) (as_v (v_var rfl) (as_v (v_var rfl) (as_v (v_var rfl) as_nil)))) rfl rfl (covEv (n + 18) (rows_lot hL) (lot_len hL h9)) (.inl rfl),
      fun _ => sumLot (n + 19) (by rw [ok.len]; exact rows_lot hL) (lot_len hL h9) rfl rfl (by show 13 < 16; decide) rfl, rfl⟩) (by
      rw [rows_len]
      have : 2 ^ st.length ≤ 2 ^ 9 := Nat.pow_le_pow_right (by decide) h9
      unfold SZ
      omega)
  have ec : ((rows st.length).filter (covB st start stop)).map (fun L => D.int (cost (Cf cs) L)) = (someL st cs start stop).map D.int := by
    unfold someL
    rw [List.map_map]
    rfl
  rw [ec] at c
  refine wp_set c rfl (by show 6 < 16; decide) ?_
  refine wp_set (d := .non) (e1 := E1 st cs start stop a b (.val (.int st.length)) (.val (.lst ((someL st cs start stop).map .int))) .no .no .no .no .no .no) v_cst rfl (by show 7 < 16; decide) ?_
  have hq : evE (callD k5ds (n + 19)) (rfsOf k5ds) (.cmp .ne (.var 6) (.lst [])) (E1 st cs start stop a b (.val (.int st.length)) (.val (.lst ((someL st cs start stop).map .int))) (.val .non) .no .no .no .no .no) = some (.bl (!((someL st cs start stop).map D.int).isEmpty), E1 st cs start stop a b (.val (.int st.length)) (.val (.lst ((someL st cs start stop).map .int))) (.val .non) .no .no .no .no .no) :=
    v_cmp (v_var rfl) (v_lst (ds := []) vs_nil (by show 0 ≤ 16777216; decide)) (ne_nilD _ (dok_ints 39 _))
  by_cases cv : Covd st start stop
  · obtain ⟨s1, s2⟩ := some_yes ok cv
    have : ((someL st cs start stop).map D.int).isEmpty = false := by
      cases q : someL st cs start stop with
      | nil => exact (s1 q).elim
      | cons x l => rfl
    rw [this] at hq
    refine wp_iteT hq (wp_set (v_bi1 (v_var rfl) s2) rfl (by show 7 < 16; decide) (wp_nil ?_))
    rw [due_yes cv] at h
    exact h
  · have : ((someL st cs start stop).map D.int).isEmpty = true := by rw [some_no cv]; rfl
    rw [this] at hq
    refine wp_iteF hq (wp_nil ?_)
    rw [due_no cv] at h
    exact h
theorem due_alike (n : Nat) (ok : Ok st cs start stop) {env : En} (h1 : getV env 1 = some (stD st)) (h2 : getV env 2 = some (csD cs)) (h3 : getV env 3 = some (.int start)) (h4 : getV env 4 = some (.int stop)) (h7 : getV env 7 = some (dueD st cs start stop)) :
    evE (callD k5ds (n + 19)) (rfsOf k5ds) (.call 34 [(.tup [(.call 28 [(.var 1), (.var 2), (.var 3), (.var 4)] []), (.call 28 [(.var 4), (.var 3), (.var 2), (.var 1)] [3, 2, 1, 0])]), (.tup [(.var 7), (.var 7)])] []) env = some (.bl true, env) := by
  have k : evE (callD k5ds (n + 19)) (rfsOf k5ds) (.call 28 [(.var 4), (.var 3), (.var 2), (.var 1)] [3, 2, 1, 0]) env = some (dueD st cs start stop, env) :=
    v_callP (as_v (v_var h4) (as_v (v_var h3) (as_v (v_var h2) (as_v (v_var h1) as_nil)))) (bs := [.v (stD st), .v (csD cs), .v (.int start), .v (.int stop)]) rfl rfl rfl (least (n + 9) ok) (.inl rfl)
  have q := alike_spec (ds := k5ds) (g := 34) (n := n + 16) rfl rfl 2 (.tup [dueD st cs start stop, dueD st cs start stop]) (.tup [dueD st cs start stop, dueD st cs start stop]) (all2 pld_due pld_due) (all2 pld_due pld_due)
  rw [sameD_refl (k := 0)] at q
  exact v_call (as_v (v_tup (vs_cons (callLeast n ok h1 h2 h3 h4) (vs_cons k vs_nil)) (by show 2 ≤ 16777216; decide)) (as_v (v_tup (vs_cons (v_var h7) (vs_cons (v_var h7) vs_nil)) (by show 2 ≤ 16777216; decide)) as_nil)) rfl rfl q (.inl rfl)
theorem one_mid (n : Nat) (ok : Ok st cs start stop) (a b : Int) (s6 : Sl) {P : Fl → En → Prop} (hno : ¬ Covd st start stop → P (.ret (.bl true)) (E1 st cs start stop a b (.val (.int st.length)) s6 (.val .non) .no .no .no (.val .non) (.val .non)))
    (h : ∀ L pr, Covd st start stop → Asc L → BestK st cs start stop (fK st cs start stop) L → pr.length ≤ 10 → Prices pr → (∀ x ∈ pr, start ≤ x.1 ∧ x.1 ≤ stop) → total pr = fK st cs start stop → (∀ p, p < st.length → sumIn pr (Bf st p) (Ef st p) ≤ Cf cs p) →
      Wp (callD k5ds (n + 19)) (rfsOf k5ds) 5 (k5_law_one.body.drop 7) (E1 st cs start stop a b (.val (.int st.length)) s6 (.val (.int (fK st cs start stop))) .no .no .no (.val (lD L)) (.val (vD pr))) P) :
    Wp (callD k5ds (n + 19)) (rfsOf k5ds) 5 (k5_law_one.body.drop 4) (E1 st cs start stop a b (.val (.int st.length)) s6 (.val (dueD st cs start stop)) .no .no .no .no .no) P := by
  obtain ⟨d1, c1, c2⟩ := cover (n + 9) ok
  obtain ⟨d2, p1, p2⟩ := prices (n + 9) ok
  refine wp_iteF (v_nt (p := true) (due_alike n ok rfl rfl rfl rfl rfl)) (wp_nil ?_)
  refine wp_par (e1 := E1 st cs start stop a b (.val (.int st.length)) s6 (.val (dueD st cs start stop)) .no .no .no .no .no) (vs_cons (v_call (as_v (v_var rfl) (as_v (v_var rfl) (as_v (v_var rfl) (as_v (v_var rfl) as_nil)))) rfl rfl c1 (.inl rfl)) (vs_cons (v_call (as_v (v_var rfl) (as_v (v_var rfl) (as_v (v_var rfl) (as_v (v_var rfl) as_nil)))) rfl rfl p1 (.inl rfl)) vs_nil)) rfl (par2 rfl (by show 11 < 16; decide) rfl (by show 12 < 16; decide)) ?_
  by_cases cv : Covd st start stop
  · obtain ⟨L, e1, l1, l2⟩ := c2.1 cv
    obtain ⟨pr, e2, q0, q1, q2, q3, q4⟩ := p2.1 cv
    subst e1 e2
    rw [due_yes cv]
    refine wp_iteF (e1 := E1 st cs start stop a b (.val (.int st.length)) s6 (.val (.int (fK st cs start stop))) .no .no .no (.val (lD L)) (.val (vD pr))) (v_cmp (v_var rfl) v_cst rfl) (wp_nil ?_)
    exact h L pr cv l1 l2 q0 q1 q2 q3 q4
  · rw [due_no cv]
    have e1 := c2.2 cv
    have e2 := p2.2 cv
    subst e1 e2
    refine wp_iteT (e1 := E1 st cs start stop a b (.val (.int st.length)) s6 (.val .non) .no .no .no (.val .non) (.val .non)) (v_cmp (v_var rfl) v_cst rfl) (wp_ret (r_e (d := .bl true) (v_an (p := true) (q := true) (v_cmp (v_var rfl) v_cst rfl) fun _ => v_cmp (v_var rfl) v_cst rfl) nofun nofun) (hno cv))
end
end K75
set_option Elab.async false
set_option linter.all false
set_option maxRecDepth 100000
/-! K75K: the law at one question, the rest. -/
namespace K75
open PySem Qx CC
section
variable {st : List (Int × Int)} {cs : List Int} {start stop : Int}
/-- S8: the lot is written well -/
theorem lotBad (n : Nat) (ok : Ok st cs start stop) (a b : Int) (s6 s7 s12 : Sl) {L : List Nat} (hA : Asc L) (hl : lot st.length L) (hL : L.length ≤ 1000) :
    evE (callD k5ds (n + 19)) (rfsOf k5ds) (.or (.nt (.isi (.var 11) [.tuple])) (.or (.nt (.bi .all [(.comp (.call 38 [(.var 13), (.bin .sub (.var 5) (.cst (.int 1)))] []) [13] (.nm 13) (.seq (.var 11)) (.cst (.bl true)))])) (.or (.cmp .ne (.bi .sorted [(.var 11)]) (.bi .list [(.var 11)])) (.bi .any [(.comp (.cmp .gt (.cnt (.var 11) (.var 13)) (.cst (.int 1))) [13] (.nm 13) (.seq (.var 11)) (.cst (.bl true)))]))))
      (E1 st cs start stop a b (.val (.int st.length)) s6 s7 .no .no .no (.val (lD L)) s12) = some (.bl false, E1 st cs start stop a b (.val (.int st.length)) s6 s7 .no .no .no (.val (lD L)) s12) := by
  have c1 := v_compT (Φ := callD k5ds (n + 19)) (R := rfsOf k5ds) (env := E1 st cs start stop a b (.val (.int st.length)) s6 s7 .no .no .no (.val (lD L)) s12) (elt := .call 38 [(.var 13), (.bin .sub (.var 5) (.cst (.int 1)))] []) (vs := [13]) (t := .nm 13) (it := .seq (.var 11)) L (fun (p : Nat) => D.int p) (fun p => .bl (decide (p < st.length))) (it_seq (v_var rfl) rfl) rfl rfl rfl (fun p hp => ⟨_, putN rfl (by show 13 < 16; decide), v_call (as_v (v_var rfl) (as_v (v_bin (v_var rfl) v_cst rfl) as_nil)) rfl rfl (by
    have q := isNumber (n + 17) (.int p) ((st.length : Int) - 1) rfl
    have e : isBt 0 ((st.length : Int) - 1) (.int p) = decide (p < st.length) := by
      rw [Bool.eq_iff_iff]
      simp only [isBt, Bool.and_eq_true, decide_eq_true_eq]
      omega
    rw [e] at q
    exact q) (.inl rfl), rfl⟩) (by unfold SZ; omega)
  have c2 := v_bi1 c1 (all_map (fun p => decide (p < st.length)) L)
  have e2 : L.all (fun p => decide (p < st.length)) = true := List.all_eq_true.mpr fun p hp => decide_eq_true (hl p hp)
  rw [e2] at c2
  have c3 : evE (callD k5ds (n + 19)) (rfsOf k5ds) (.cmp .ne (.bi .sorted [(.var 11)]) (.bi .list [(.var 11)])) (E1 st cs start stop a b (.val (.int st.length)) s6 s7 .no .no .no (.val (lD L)) s12) = some (.bl false, E1 st cs start stop a b (.val (.int st.length)) s6 s7 .no .no .no (.val (lD L)) s12) := by
    refine v_cmp (dx := .lst ((L.map fun (p : Nat) => (p : Int)).map .int)) (dy := .lst ((L.map fun (p : Nat) => (p : Int)).map .int)) (v_bi1 (v_var rfl) ?_) (v_bi1 (v_var rfl) ?_) ?_
    · have := sorted_intsT (L.map fun (p : Nat) => (p : Int))
      rw [sortI_asc hA, ← natD_ints] at this
      rw [← natD_ints]
      exact this
    · rw [← natD_ints]
      rfl
    · show (eqQ _ _).map (!·) = _
      rw [eqQ_lst]
      simp
  have c4 := v_compT (Φ := callD k5ds (n + 19)) (R := rfsOf k5ds) (env := E1 st cs start stop a b (.val (.int st.length)) s6 s7 .no .no .no (.val (lD L)) s12) (elt := .cmp .gt (.cnt (.var 11) (.var 13)) (.cst (.int 1))) (vs := [13]) (t := .nm 13) (it := .seq (.var 11)) L (fun (p : Nat) => D.int p) (fun p => .bl false) (it_seq (v_var rfl) rfl) rfl rfl rfl (fun p hp => ⟨_, putN rfl (by show 13 < 16; decide), v_cmp (v_cnt (d := .int (((L.map fun (q : Nat) => (q : Int)).count (p : Int) : Nat) : Int)) (v_var rfl) (v_var rfl) (by
    show (match intsD (natD L) with | some ns => _ | none => _) = _
    rw [natD_ints, ints_int])) v_cst (by
    have hn : (L.map fun (q : Nat) => (q : Int)).Nodup := by
      unfold List.Nodup
      rw [List.pairwise_map]
      exact hA.imp fun z => by omega
    have := List.nodup_iff_count.mp hn (p : Int)
    show some (decide (1 < (((L.map fun (q : Nat) => (q : Int)).count (p : Int) : Nat) : Int))) = _
    rw [decide_eq_false (by omega)]), rfl⟩) (by unfold SZ; omega)
  have c5 := v_bi1 c4 (any_map (fun _ => false) L)
  have e5 : L.any (fun _ => false) = false := by simp
  rw [e5] at c5
  exact v_or (p := false) (q := false) (v_nt (p := true) (v_isi (op_v (v_var rfl)) rfl rfl)) fun _ => v_or (p := false) (q := false) (v_nt (p := true) c2) fun _ => v_or (p := false) (q := false) c3 fun _ => c5
/-- S10: the prices -/
theorem prBad (n : Nat) (ok : Ok st cs start stop) (a b : Int) (s6 s11 : Sl) {pr : List (Int × Int)} (h0 : pr.length ≤ 10) (h1 : Prices pr) (h2 : ∀ x ∈ pr, start ≤ x.1 ∧ x.1 ≤ stop) (h3 : total pr = fK st cs start stop) (h4 : ∀ p, p < st.length → sumIn pr (Bf st p) (Ef st p) ≤ Cf cs p) :
    evE (callD k5ds (n + 19)) (rfsOf k5ds) (.or (.nt (.call 41 [(.var 1), (.var 2), (.var 12)] [])) (.or (.cmp .ne (.bi .sum [(.comp (.var 15) [14, 15] (.tp [(.nm 14), (.nm 15)]) (.seq (.var 12)) (.cst (.bl true)))]) (.var 7)) (.nt (.bi .all [(.comp (.chn .le .le (.var 3) (.var 14) (.var 4)) [14, 15] (.tp [(.nm 14), (.nm 15)]) (.seq (.var 12)) (.cst (.bl true)))]))))
      (E1 st cs start stop a b (.val (.int st.length)) s6 (.val (.int (fK st cs start stop))) .no .no .no s11 (.val (vD pr))) = some (.bl false, E1 st cs start stop a b (.val (.int st.length)) s6 (.val (.int (fK st cs start stop))) .no .no .no s11 (.val (vD pr))) := by
  have hpl : pld (4 + 2) (vD pr) = true := pld_tupI (k := 5) (fun d hd => by
    obtain ⟨x, _, rfl⟩ := List.mem_map.mp hd
    exact pld_pD 4 x) (by rw [List.length_map]; unfold SZ; omega)
  have f1 := fairL (st := st) (cs := cs) (n + 16) ok.nine ok.len (vD pr) hpl
  rw [fair_vD h1 h4] at f1
  have c1 := v_compT (Φ := callD k5ds (n + 19)) (R := rfsOf k5ds) (env := E1 st cs start stop a b (.val (.int st.length)) s6 (.val (.int (fK st cs start stop))) .no .no .no s11 (.val (vD pr))) (elt := .var 15) (vs := [14, 15]) (t := .tp [(.nm 14), (.nm 15)]) (it := .seq (.var 12)) pr pD (fun x => .int x.2) (it_seq (v_var rfl) rfl) rfl rfl rfl (fun x hx => ⟨_, put2 rfl (by show 14 < 16; decide) rfl (by show 15 < 16; decide), v_var rfl, rfl⟩) (by unfold SZ; omega)
  have c2 := v_bi1 c1 (sum_map (fun x : Int × Int => x.2) pr)
  have c3 := v_compT (Φ := callD k5ds (n + 19)) (R := rfsOf k5ds) (env := E1 st cs start stop a b (.val (.int st.length)) s6 (.val (.int (fK st cs start stop))) .no .no .no s11 (.val (vD pr))) (elt := .chn .le .le (.var 3) (.var 14) (.var 4)) (vs := [14, 15]) (t := .tp [(.nm 14), (.nm 15)]) (it := .seq (.var 12)) pr pD (fun x => .bl (decide (start ≤ x.1) && decide (x.1 ≤ stop))) (it_seq (v_var rfl) rfl) rfl rfl rfl (fun x hx => ⟨_, put2 rfl (by show 14 < 16; decide) rfl (by show 15 < 16; decide), v_chn (v_var rfl) (v_var rfl) rfl (fun _ => v_var rfl) (fun _ => rfl), rfl⟩) (by unfold SZ; omega)
  have c4 := v_bi1 c3 (all_map (fun x : Int × Int => decide (start ≤ x.1) && decide (x.1 ≤ stop)) pr)
  have e4 : pr.all (fun x => decide (start ≤ x.1) && decide (x.1 ≤ stop)) = true := List.all_eq_true.mpr fun x hx => by
    rw [decide_eq_true (h2 x hx).1, decide_eq_true (h2 x hx).2]; rfl
  rw [e4] at c4
  have c5 : evE (callD k5ds (n + 19)) (rfsOf k5ds) (.cmp .ne (.bi .sum [(.comp (.var 15) [14, 15] (.tp [(.nm 14), (.nm 15)]) (.seq (.var 12)) (.cst (.bl true)))]) (.var 7)) (E1 st cs start stop a b (.val (.int st.length)) s6 (.val (.int (fK st cs start stop))) .no .no .no s11 (.val (vD pr))) = some (.bl false, E1 st cs start stop a b (.val (.int st.length)) s6 (.val (.int (fK st cs start stop))) .no .no .no s11 (.val (vD pr))) := by
    refine v_cmp c2 (v_var rfl) ?_
    rw [ne_int]
    have : (pr.map fun x => x.2).sum = fK st cs start stop := h3
    rw [this]
    simp
  exact v_or (p := false) (q := false) (v_nt (p := true) (v_call (as_v (v_var rfl) (as_v (v_var rfl) (as_v (v_var rfl) as_nil))) rfl rfl f1 (.inl rfl))) fun _ => v_or (p := false) (q := false) c5 fun _ => v_nt (p := true) c4
end
end K75
set_option Elab.async false
set_option linter.all false
set_option maxRecDepth 100000
/-! K75L: the law. -/
namespace K75
open PySem Qx CC
section
variable {st : List (Int × Int)} {cs : List Int} {start stop : Int}
theorem fairEv (n : Nat) (ok : Ok st cs start stop) {d : D} (h : pld 6 d = true) {env : En} (h1 : getV env 1 = some (stD st)) (h2 : getV env 2 = some (csD cs)) {i : Nat} (hi : getV env i = some d) :
    evE (callD k5ds (n + 19)) (rfsOf k5ds) (.call 31 [(.var 1), (.var 2), (.var i)] []) env = some (.bl (fairB st cs d), env) ∧ evE (callD k5ds (n + 19)) (rfsOf k5ds) (.call 41 [(.var 1), (.var 2), (.var i)] []) env = some (.bl (fairB st cs d), env) :=
  ⟨v_call (as_v (v_var h1) (as_v (v_var h2) (as_v (v_var hi) as_nil))) rfl rfl (areFair (k := 4) (n + 10) ok d h) (.inl rfl), v_call (as_v (v_var h1) (as_v (v_var h2) (as_v (v_var hi) as_nil))) rfl rfl (fairL (k := 4) (n + 16) ok.nine ok.len d h) (.inl rfl)⟩
theorem one (n : Nat) (ok : Ok st cs start stop) (a b : Int) : ∃ a' b', callD k5ds (n + 20) 45 [pl a b, stD st, csD cs, .int start, .int stop] = some (.bl true, [pl a' b']) := by
  obtain ⟨r, os, hr, e1, a', b', e2⟩ := call_wp (n := n + 19) (ds := k5ds) (f := 45) (args := [pl a b, stD st, csD cs, .int start, .int stop]) (Q := fun r os => r = .bl true ∧ ∃ a' b', os = [pl a' b'])
    (E1 st cs start stop a b .no .no .no .no .no .no .no .no) rfl rfl rfl (by
    refine one_head n ok a b (one_mid n ok a b _ (fun _ => ⟨_, rfl, rfl, a, b, rfl⟩) ?_)
    intro L pr cv hA hB h0 h1 h2 h3 h4
    have h9 := ok.nine
    have hL : L.length ≤ 1000 := by
      have := mem_rows hA hB.lot
      exact lot_len this h9
    have hpl : pld 6 (vD pr) = true := pld_tupI (fun d hd => by
      obtain ⟨x, _, rfl⟩ := List.mem_map.mp hd
      exact pld_pD 4 x) (by rw [List.length_map]; unfold SZ; omega)
    refine wp_iteF (lotBad n ok a b _ _ _ hA hB.lot hL) (wp_nil ?_)
    refine wp_iteF (e1 := E1 st cs start stop a b (.val (.int st.length)) _ (.val (.int (fK st cs start stop))) .no .no .no (.val (lD L)) (.val (vD pr))) (v_or (p := false) (q := false) (v_nt (p := true) (v_call (as_v (v_var rfl) (as_v (v_var rfl) (as_v (v_var rfl) (as_v (v_var rfl) as_nil)))) rfl rfl (by
      have q := covEv (st := st) (start := start) (stop := stop) (n + 18) hB.lot hL
      rw [covB_iff.mpr hB.cov] at q
      exact q) (.inl rfl))) fun _ => v_cmp (sumLot (n + 19) (by rw [ok.len]; exact hB.lot) hL rfl rfl (by show 13 < 16; decide) rfl) (v_var rfl) (by
      rw [ne_int, hB.cost]
      simp)) (wp_nil ?_)
    refine wp_iteF (prBad n ok a b _ _ h0 h1 h2 h3 h4) (wp_nil ?_)
    obtain ⟨rs, a1, b1, k1, k2, k3⟩ := bent (n + 17) h0 (fun x hx => ⟨(h1.ok x hx).1, (h1.ok x hx).2.1⟩) a b
    refine wp_for (F := id) rs (fun zs e => ∃ s8, e = E1 st cs start stop a1 b1 (.val (.int st.length)) (.val (.lst ((someL st cs start stop).map .int))) (.val (.int (fK st cs start stop))) s8 .no .no (.val (lD L)) (.val (vD pr)) ∧ isO e 8 = false) (e1 := E1 st cs start stop a1 b1 (.val (.int st.length)) (.val (.lst ((someL st cs start stop).map .int))) (.val (.int (fK st cs start stop))) .no .no .no (.val (lD L)) (.val (vD pr))) (it_seq (v_callR (as_o rfl (as_v (v_var rfl) as_nil)) rfl rfl rfl rfl rfl k1) rfl) (List.map_id rs).symm ⟨.no, rfl, rfl⟩ (fun _ _ _ => rfl) ?_ ?_
    · rintro zs y ws e hy ⟨s8, rfl, o8⟩
      have hyp := k3 y (by rw [hy]; simp)
      refine ⟨_, putN o8 (by show 8 < 16; decide), ?_⟩
      obtain ⟨q1, q2⟩ := fairEv n ok hyp (env := E1 st cs start stop a1 b1 (.val (.int st.length)) (.val (.lst ((someL st cs start stop).map .int))) (.val (.int (fK st cs start stop))) (.val y) .no .no (.val (lD L)) (.val (vD pr))) rfl rfl (i := 8) rfl
      refine wp_iteF (e1 := E1 st cs start stop a1 b1 (.val (.int st.length)) (.val (.lst ((someL st cs start stop).map .int))) (.val (.int (fK st cs start stop))) (.val y) .no .no (.val (lD L)) (.val (vD pr))) (v_nt (p := true) (v_call (as_v q1 (as_v q2 as_nil)) rfl rfl (by
        have := says_spec (ds := k5ds) (g := 36) (n := n + 18) rfl (fairB st cs y) (fairB st cs y)
        rw [beq_self_eq_true] at this
        exact this) (.inl rfl))) (wp_nil (wp_nil ⟨.val y, rfl, rfl⟩))
    · rintro e ⟨s8, rfl, o8⟩
      have f1 := areFair (st := st) (cs := cs) (k := 4) (n + 10) ok (vD pr) hpl
      rw [fair_vD h1 h4] at f1
      refine wp_iteF (e1 := E1 st cs start stop a1 b1 (.val (.int st.length)) (.val (.lst ((someL st cs start stop).map .int))) (.val (.int (fK st cs start stop))) s8 .no .no (.val (lD L)) (.val (vD pr))) (v_cmp (v_callP (as_v (v_var rfl) (as_v (v_var rfl) (as_v (v_var rfl) as_nil))) (bs := [.v (stD st), .v (csD cs), .v (vD pr)]) rfl rfl rfl f1 (.inl rfl)) v_cst rfl) (wp_nil ?_)
      obtain ⟨at_, a2, b2, q1, q2⟩ := takeEv (n + 18) st.length ok.one (by omega) (a := a1) (b := b1) (env := E1 st cs start stop a1 b1 (.val (.int st.length)) (.val (.lst ((someL st cs start stop).map .int))) (.val (.int (fK st cs start stop))) s8 .no .no (.val (lD L)) (.val (vD pr))) (e := .var 5) rfl (v_var rfl)
      refine wp_set (d := .int at_) (e1 := E1 st cs start stop a2 b2 (.val (.int st.length)) (.val (.lst ((someL st cs start stop).map .int))) (.val (.int (fK st cs start stop))) s8 .no .no (.val (lD L)) (.val (vD pr))) q1 rfl (by show 9 < 16; decide) ?_
      obtain ⟨rr, a3, b3, q3, q4⟩ := takeEv (n + 18) 5 (by decide) (by decide) (a := a2) (b := b2) (env := E1 st cs start stop a2 b2 (.val (.int st.length)) (.val (.lst ((someL st cs start stop).map .int))) (.val (.int (fK st cs start stop))) s8 (.val (.int at_)) .no (.val (lD L)) (.val (vD pr))) (e := .cst (.int 5)) rfl v_cst
      have hat : at_ < cs.length := by rw [ok.len]; exact q2
      have hcm : cs.getD at_ 0 ∈ cs := by
        rw [List.getD_eq_getElem?_getD, List.getElem?_eq_getElem hat]
        exact List.getElem_mem hat
      have hcb := ok.cost _ hcm
      have hv : ∃ v : Int, (if Cf cs at_ + 1 + (rr : Int) < 9999 then Cf cs at_ + 1 + (rr : Int) else 9999) = v ∧ Cf cs at_ ≤ v ∧ v ≤ 9999 := by
        refine ⟨_, rfl, ?_, ?_⟩
        · show cs.getD at_ 0 ≤ (if cs.getD at_ 0 + 1 + (rr : Int) < 9999 then cs.getD at_ 0 + 1 + (rr : Int) else 9999)
          split <;> omega
        · split <;> omega
      obtain ⟨v, v1, v2, v3⟩ := hv
      have hset : (cs.map D.int).take at_ ++ [D.int v] ++ (cs.map D.int).drop (at_ + 1) = (cs.set at_ v).map D.int := by
        rw [List.set_eq_take_append_cons_drop, if_pos hat, List.map_append, List.map_cons, List.map_take, List.map_drop]
        simp
      have hml : (cs.map D.int).length = cs.length := List.length_map ..
      have hcl : cs.length ≤ 9 := by rw [ok.len]; exact h9
      have hmore : evE (callD k5ds (n + 19)) (rfsOf k5ds) (.bin .add (.bin .add (.slc (.var 2) (.cst .non) (.var 9)) (.tup [(.bi .min2 [(.cst (.int 9999)), (.bin .add (.bin .add (.sub (.var 2) (.var 9)) (.cst (.int 1))) (.call 33 [(.own 0), (.cst (.int 5))] []))])])) (.slc (.var 2) (.bin .add (.var 9) (.cst (.int 1))) (.cst .non)))
          (E1 st cs start stop a2 b2 (.val (.int st.length)) (.val (.lst ((someL st cs start stop).map .int))) (.val (.int (fK st cs start stop))) s8 (.val (.int at_)) .no (.val (lD L)) (.val (vD pr))) = some (csD (cs.set at_ v), E1 st cs start stop a3 b3 (.val (.int st.length)) (.val (.lst ((someL st cs start stop).map .int))) (.val (.int (fK st cs start stop))) s8 (.val (.int at_)) .no (.val (lD L)) (.val (vD pr))) := by
        show _ = some (D.tup ((cs.set at_ v).map D.int), _)
        rw [← hset]
        refine v_bin (e1 := E1 st cs start stop a3 b3 (.val (.int st.length)) (.val (.lst ((someL st cs start stop).map .int))) (.val (.int (fK st cs start stop))) s8 (.val (.int at_)) .no (.val (lD L)) (.val (vD pr))) (dx := .tup ((cs.map D.int).take at_ ++ [D.int v])) (dy := .tup ((cs.map D.int).drop (at_ + 1))) (v_bin (dx := .tup ((cs.map D.int).take at_)) (dy := .tup [D.int v]) (v_slc (v_var rfl) v_cst (v_var rfl) (slc_to (by rw [hml]; omega))) (v_tup (vs_cons (v_bi (as_v v_cst (as_v (v_bin (v_bin (v_sub (v_var rfl) (v_var rfl) (sub_tupN (get_mapI hat))) v_cst rfl) q3 rfl) as_nil)) rfl ?_) vs_nil) (by show 1 ≤ 16777216; decide)) (catT ?_)) (v_slc (v_var rfl) (v_bin (v_var rfl) v_cst rfl) v_cst ?_) (catT ?_)
        · rw [min2_eq]
          exact congrArg (fun z => some (D.int z)) v1
        · rw [List.length_take, hml, List.length_singleton]; unfold SZ; omega
        · have e : ((at_ : Int) + 1) = ((at_ + 1 : Nat) : Int) := by omega
          rw [e]
          exact slc_from (by rw [hml]; omega)
        · rw [List.length_append, List.length_take, List.length_drop, hml, List.length_singleton]; unfold SZ; omega
      refine wp_set hmore rfl (by show 10 < 16; decide) ?_
      have ok' : Ok st (cs.set at_ v) start stop := ⟨ok.one, ok.nine, ok.ok, by rw [List.length_set]; exact ok.len, fun c hc => by
        rcases List.mem_or_eq_of_mem_set hc with z | z
        · exact ok.cost c z
        · rw [z]; exact ⟨Int.le_trans hcb.1 v2, v3⟩, ok.lo, ok.le, ok.hi⟩
      have c1 : ∀ p, p ≠ at_ → Cf (cs.set at_ v) p = Cf cs p := fun p hp => by
        show (cs.set at_ v).getD p 0 = cs.getD p 0
        rw [List.getD_eq_getElem?_getD, List.getD_eq_getElem?_getD, List.getElem?_set_ne (fun z => hp z.symm)]
      have c2 : Cf (cs.set at_ v) at_ = v := by
        show (cs.set at_ v).getD at_ 0 = v
        rw [List.getD_eq_getElem?_getD, List.getElem?_set_self hat]
        rfl
      obtain ⟨m1, m2⟩ := more_cost ok ok' cv (d := v - Cf cs at_) (by omega) c1 (by rw [c2]; omega)
      have hl := least (n + 9) ok'
      rw [due_yes cv] at hl
      refine wp_ret (r_e (e1 := E1 st cs start stop a3 b3 (.val (.int st.length)) (.val (.lst ((someL st cs start stop).map .int))) (.val (.int (fK st cs start stop))) s8 (.val (.int at_)) (.val (csD (cs.set at_ v))) (.val (lD L)) (.val (vD pr))) (d := .bl true) (v_chn (k := true) (l := true) (v_var rfl) (v_call (as_v (v_var rfl) (as_v (v_var rfl) (as_v (v_var rfl) (as_v (v_var rfl) as_nil)))) rfl rfl hl (.inl rfl)) ?_ (fun _ => v_bin (dx := .int (fK st cs start stop + v)) (dy := .int (Cf cs at_)) (v_bin (v_var rfl) (v_sub (d := .int v) (v_var rfl) (v_var rfl) (sub_tupN ?_)) rfl) (v_sub (v_var rfl) (v_var rfl) (sub_tupN (get_mapI hat))) rfl) fun _ => ?_) nofun nofun) ⟨_, rfl, rfl, a3, b3, rfl⟩
      · show some (decide (fK st cs start stop ≤ fK st (cs.set at_ v) start stop)) = _
        rw [decide_eq_true m1]
      · have := get_mapI (l := cs.set at_ v) (i := at_) (by rw [List.length_set]; exact hat)
        rw [this]
        exact congrArg (fun z => some (D.int z)) c2
      · show some (decide (fK st (cs.set at_ v) start stop ≤ fK st cs start stop + v - Cf cs at_)) = _
        rw [decide_eq_true (by omega)])
  subst e1 e2
  exact ⟨a', b', hr⟩
end
theorem takeAt (n m : Nat) (h1 : 1 ≤ m) (h2 : m ≤ 2 ^ 48) {a b : Int} {env : En} {e : E} {i : Nat} (g : getO env i = some (pl a b)) (he : evE (callD k5ds (n + 1)) (rfsOf k5ds) e env = some (.int m, env)) :
    ∃ (r : Nat) (a' b' : Int), evE (callD k5ds (n + 1)) (rfsOf k5ds) (.call 33 [(.own i), e] []) env = some (.int r, env.set i (.own (pl a' b'))) ∧ r < m := by
  obtain ⟨r, a', b', k1, k2⟩ := take_spec (ds := k5ds) (g := 33) (n := n) rfl a b m h1 h2
  have iso : isO env i = true := by
    unfold getO at g
    unfold isO
    split at g
    · rename_i e; simp only [e]
    · cases g
  have hl : lent (.o i :: [.v (.int m)]) [0] = false := rfl
  have hs : readSlots (.o i :: [.v (.int m)]) [0] = [] := rfl
  exact ⟨r, a', b', v_callR (as_o iso (as_v he as_nil)) rfl rfl g hl hs k1, k2⟩
theorem max_ints {l : List Int} (h : l ≠ []) : ∃ k ∈ l, biD .max [.lst (l.map .int)] = some (.int k) := by
  cases l with
  | nil => exact (h rfl).elim
  | cons a r =>
    have fold : ∀ (r : List Int) (a : Int), r.foldl (fun x y => if y > x then y else x) a ∈ a :: r := by
      intro r
      induction r with
      | nil => intro a; simp
      | cons b r ih =>
        intro a
        have := ih (if b > a then b else a)
        rw [List.foldl_cons]
        rcases List.mem_cons.mp this with e | e
        · rw [e]; split <;> simp
        · exact List.mem_cons_of_mem _ (List.mem_cons_of_mem _ e)
    refine ⟨_, fold r a, ?_⟩
    simp only [biD, d1, overI, ints_int, maxI, Option.map_some]
abbrev E2 (xs : List Int) (s1 s2 s3 s4 s5 s6 s7 s8 s9 : Sl) : En := [.val (.lst (xs.map .int)), s1, s2, s3, s4, s5, s6, s7, s8, s9, .no, .no]
theorem law_ok (n : Nat) (xs : List Int) : callD k5ds (n + 21) 46 [.lst (xs.map .int)] = some (.bl true, []) := by
  obtain ⟨r, hr, e⟩ := call_wp1 (n := n + 20) (ds := k5ds) (f := 46) (args := [.lst (xs.map .int)]) (Q := fun r => r = .bl true) (E2 xs .no .no .no .no .no .no .no .no .no) rfl rfl rfl rfl (by
    have hT : ∃ T : Nat, (if (if (((xs.map D.int).length : Nat) : Int) > 4 then (((xs.map D.int).length : Nat) : Int) else 4) < 12 then (if (((xs.map D.int).length : Nat) : Int) > 4 then (((xs.map D.int).length : Nat) : Int) else 4) else 12) = (T : Int) ∧ T ≤ 12 := by
      refine ⟨(if (if (((xs.map D.int).length : Nat) : Int) > 4 then (((xs.map D.int).length : Nat) : Int) else 4) < 12 then (if (((xs.map D.int).length : Nat) : Int) > 4 then (((xs.map D.int).length : Nat) : Int) else 4) else 12).toNat, ?_, ?_⟩
      · split <;> split <;> omega
      · split <;> split <;> omega
    obtain ⟨T, t1, t2⟩ := hT
    refine wp_for (F := fun i : Nat => D.int i) (List.range T) (fun _ e => ∃ s1 s2 s3 s4 s5 s6 s7 s8 s9, e = E2 xs s1 s2 s3 s4 s5 s6 s7 s8 s9 ∧ isO e 1 = false ∧ isO e 3 = false ∧ isO e 4 = false ∧ isO e 5 = false ∧ isO e 6 = false ∧ isO e 7 = false ∧ isO e 8 = false ∧ isO e 9 = false) (it_rngP (vs_cons (v_bi (d := .int T) (as_v v_cst (as_v (v_bi (as_v v_cst (as_v (v_bi1 (v_var rfl) (len_lst _)) as_nil)) rfl (max2_eq _ _)) as_nil)) rfl (by rw [min2_eq]; exact congrArg (fun z => some (D.int z)) t1)) vs_nil) (rng1 T (by unfold SZ; omega))) rfl ⟨_, _, _, _, _, _, _, _, _, rfl, rfl, rfl, rfl, rfl, rfl, rfl, rfl, rfl⟩ (fun _ _ _ => rfl) ?_ ?_
    · rintro zs y ws e hy ⟨s1, s2, s3, s4, s5, s6, s7, s8, s9, rfl, o1, o3, o4, o5, o6, o7, o8, o9⟩
      refine ⟨_, putN o1 (by show 1 < 12; decide), ?_⟩
      obtain ⟨a, b, hp⟩ := pool_spec (ds := k5ds) (g := 32) (n := n + 19) rfl xs y
      refine wp_new (d := pl a b) (e1 := E2 xs (.val (.int y)) s2 s3 s4 s5 s6 s7 s8 s9) (v_call (as_v (v_var rfl) (as_v (v_var rfl) as_nil)) rfl rfl hp (.inl rfl)) rfl (by show 1 ≤ 2; decide) (by show 2 < 12; decide) ?_
      have hm0 : ∃ m0 : Nat, subD (.tup [.int 5, .int 9]) (.int (if decide ((y : Int) = 0) then 1 else 0)) = some (.int m0) ∧ 1 ≤ m0 ∧ m0 ≤ 9 := by
        by_cases z : (y : Int) = 0
        · rw [decide_eq_true z]; exact ⟨9, rfl, by decide, by decide⟩
        · rw [decide_eq_false z]; exact ⟨5, rfl, by decide, by decide⟩
      obtain ⟨m0, u1, u2, u3⟩ := hm0
      obtain ⟨r1, a1, b1, q1, q2⟩ := takeAt (n + 19) m0 u2 (by omega) (a := a) (b := b) (i := 2) (env := E2 xs (.val (.int y)) (.own (pl a b)) s3 s4 s5 s6 s7 s8 s9) (e := .sub (.tup [(.cst (.int 5)), (.cst (.int 9))]) (.bi .int [(.cmp .eq (.var 1) (.cst (.int 0)))])) rfl (v_sub (v_tup (vs_cons v_cst (vs_cons v_cst vs_nil)) (by show 2 ≤ 16777216; decide)) (v_bi1 (v_cmp (k := decide ((y : Int) = 0)) (v_var rfl) v_cst (eqQ_int _ _)) rfl) u1)
      have hmany : ∃ many : Nat, (1 : Int) + r1 = many ∧ 1 ≤ many ∧ many ≤ 9 := ⟨1 + r1, by omega, by omega, by omega⟩
      obtain ⟨many, w1, w2, w3⟩ := hmany
      refine wp_set (d := .int many) (e1 := E2 xs (.val (.int y)) (.own (pl a1 b1)) s3 s4 s5 s6 s7 s8 s9) (v_bin v_cst q1 (by rw [← w1]; rfl)) o3 (by show 3 < 12; decide) ?_
      obtain ⟨r2, a2, b2, q3, q4⟩ := takeAt (n + 19) 4 (by decide) (by decide) (a := a1) (b := b1) (i := 2) (env := E2 xs (.val (.int y)) (.own (pl a1 b1)) (.val (.int many)) s4 s5 s6 s7 s8 s9) (e := .cst (.int 4)) rfl v_cst
      have hw : ∃ w : Nat, subD (.tup [.int 2, .int 4, .int 9, .int 1000]) (.int r2) = some (.int w) ∧ 1 ≤ w ∧ w ≤ 1000 := by
        match r2, q4 with
        | 0, _ => exact ⟨2, rfl, by decide, by decide⟩
        | 1, _ => exact ⟨4, rfl, by decide, by decide⟩
        | 2, _ => exact ⟨9, rfl, by decide, by decide⟩
        | 3, _ => exact ⟨1000, rfl, by decide, by decide⟩
      obtain ⟨w, x1, x2, x3⟩ := hw
      refine wp_set (d := .int w) (e1 := E2 xs (.val (.int y)) (.own (pl a2 b2)) (.val (.int many)) s4 s5 s6 s7 s8 s9) (v_sub (v_tup (vs_cons v_cst (vs_cons v_cst (vs_cons v_cst (vs_cons v_cst vs_nil)))) (by show 4 ≤ 16777216; decide)) q3 x1) o4 (by show 4 < 12; decide) ?_
      obtain ⟨st1, a3, b3, k1, k2, k3⟩ := lawChain (n + 18) many w w3 x2 x3 a2 b2
      obtain ⟨st2, a4, b4, k4, k5, k6⟩ := lawStays (n + 18) many (2 * w) w3 (by omega) (by omega) a3 b3
      have e2w : binD .mul (.int 2) (.int w) = some (.int ((2 * w : Nat) : Int)) := by
        rw [mul_l (by decide) (by decide)]
        exact congrArg (fun z => some (D.int z)) (by omega)
      refine wp_for (F := stD) [st1, st2] (fun _ e => ∃ a b s5 s6 s7 s8 s9, e = E2 xs (.val (.int y)) (.own (pl a b)) (.val (.int many)) (.val (.int w)) s5 s6 s7 s8 s9 ∧ isO e 5 = false ∧ isO e 6 = false ∧ isO e 7 = false ∧ isO e 8 = false ∧ isO e 9 = false) (e1 := E2 xs (.val (.int y)) (.own (pl a4 b4)) (.val (.int many)) (.val (.int w)) s5 s6 s7 s8 s9)
        (it_seq (v_tup (vs_cons (v_callR (e1 := E2 xs (.val (.int y)) (.own (pl a2 b2)) (.val (.int many)) (.val (.int w)) s5 s6 s7 s8 s9) (as_o rfl (as_v (v_var rfl) (as_v (v_var rfl) as_nil))) rfl rfl rfl rfl rfl k1) (vs_cons (v_callR (e1 := E2 xs (.val (.int y)) (.own (pl a3 b3)) (.val (.int many)) (.val (.int w)) s5 s6 s7 s8 s9) (as_o rfl (as_v (v_var rfl) (as_v (v_bin v_cst (v_var rfl) e2w) as_nil))) rfl rfl rfl rfl rfl k4) vs_nil)) (by show 2 ≤ 16777216; decide)) rfl) rfl ⟨a4, b4, _, _, _, _, _, rfl, o5, o6, o7, o8, o9⟩ (fun _ _ _ => rfl) ?_ ?_
      · rintro zs2 st ws2 e hy2 ⟨a, b, s5, s6, s7, s8, s9, rfl, o5, o6, o7, o8, o9⟩
        have hst : st.length = many ∧ ∀ x ∈ st, okS x := by
          have : st ∈ [st1, st2] := by rw [hy2]; simp
          rcases List.mem_cons.mp this with e | e
          · subst e; exact ⟨k2, fun x hx => k3 x hx⟩
          · have : st = st2 := by simpa using e
            subst this
            exact ⟨k5, fun x hx => by have := k6 x hx; exact ⟨this.1, this.2.1, by omega⟩⟩
        obtain ⟨hl, hok⟩ := hst
        refine ⟨_, putN o5 (by show 5 < 12; decide), ?_⟩
        obtain ⟨cs, a1, b1, j1, j2, j3⟩ := lawCosts (n + 18) many w3 a b
        have hne : st.map (·.2) ≠ [] := fun z => by
          have := congrArg List.length z
          rw [List.length_map] at this
          simp at this
          rw [this] at hl
          simp at hl
          omega
        obtain ⟨M, m1, m2⟩ := max_ints hne
        have hM : 0 ≤ M ∧ M ≤ 9999 := by
          obtain ⟨x, hx, rfl⟩ := List.mem_map.mp m1
          have := hok x hx
          exact ⟨Int.le_trans this.1 this.2.1, this.2.2⟩
        have cm := v_compT (Φ := callD k5ds (n + 20)) (R := rfsOf k5ds) (env := E2 xs (.val (.int y)) (.own (pl a1 b1)) (.val (.int many)) (.val (.int w)) (.val (stD st)) s6 s7 s8 s9) (elt := .var 11) (vs := [10, 11]) (t := .tp [(.nm 10), (.nm 11)]) (it := .seq (.var 5)) st pD (fun x => .int x.2) (it_seq (v_var rfl) rfl) rfl rfl rfl (fun x hx => ⟨_, put2 rfl (by show 10 < 12; decide) rfl (by show 11 < 12; decide), v_var rfl, rfl⟩) (by unfold SZ; omega)
        have em : (st.map fun x => D.int x.2) = (st.map (·.2)).map D.int := by rw [List.map_map]; rfl
        rw [em] at cm
        refine wp_par (e1 := E2 xs (.val (.int y)) (.own (pl a1 b1)) (.val (.int many)) (.val (.int w)) (.val (stD st)) s6 s7 s8 s9) (vs_cons (v_callR (e1 := E2 xs (.val (.int y)) (.own (pl a b)) (.val (.int many)) (.val (.int w)) (.val (stD st)) s6 s7 s8 s9) (as_o rfl (as_v (v_var rfl) as_nil)) rfl rfl rfl rfl rfl j1) (vs_cons (v_bi1 cm m2) vs_nil)) rfl (par2 o8 (by show 8 < 12; decide) o9 (by show 9 < 12; decide)) ?_
        have ht : ∃ t : Nat, (if M + 1 < 9 then M + 1 else 9) = (t : Int) ∧ 1 ≤ t ∧ t ≤ 9 ∧ (t : Int) ≤ M + 1 := by
          refine ⟨(if M + 1 < 9 then M + 1 else 9).toNat, ?_, ?_, ?_, ?_⟩ <;> split <;> omega
        obtain ⟨t, v1, v2, v3, v4⟩ := ht
        obtain ⟨start, a5, b5, q5, q6⟩ := takeAt (n + 19) t v2 (by omega) (a := a1) (b := b1) (i := 2) (env := E2 xs (.val (.int y)) (.own (pl a1 b1)) (.val (.int many)) (.val (.int w)) (.val (stD st)) s6 s7 (.val (csD cs)) (.val (.int M))) (e := .bi .min2 [(.cst (.int 9)), (.bin .add (.var 9) (.cst (.int 1)))]) rfl (v_bi (as_v v_cst (as_v (v_bin (v_var rfl) v_cst rfl) as_nil)) rfl (by rw [min2_eq]; exact congrArg (fun z => some (D.int z)) v1))
        refine wp_set (d := .int start) (e1 := E2 xs (.val (.int y)) (.own (pl a5 b5)) (.val (.int many)) (.val (.int w)) (.val (stD st)) s6 s7 (.val (csD cs)) (.val (.int M))) q5 o6 (by show 6 < 12; decide) ?_
        obtain ⟨r7, a7, b7, q7, q8⟩ := takeAt (n + 19) (1 + M.toNat) (by omega) (by omega) (a := a5) (b := b5) (i := 2) (env := E2 xs (.val (.int y)) (.own (pl a5 b5)) (.val (.int many)) (.val (.int w)) (.val (stD st)) (.val (.int start)) s7 (.val (csD cs)) (.val (.int M))) (e := .bin .add (.cst (.int 1)) (.var 9)) rfl (v_bin v_cst (v_var rfl) (by
          show some (D.int (1 + M)) = _
          exact congrArg (fun z => some (D.int z)) (by omega)))
        obtain ⟨r9, a9, b9, q9, q10⟩ := takeAt (n + 19) 3 (by decide) (by decide) (a := a7) (b := b7) (i := 2) (env := E2 xs (.val (.int y)) (.own (pl a7 b7)) (.val (.int many)) (.val (.int w)) (.val (stD st)) (.val (.int start)) s7 (.val (csD cs)) (.val (.int M))) (e := .cst (.int 3)) rfl v_cst
        have hstop : ∃ stop : Int, subD (.tup [.int start, .int (if (start : Int) + r7 < 9999 then (start : Int) + r7 else 9999), .int (if M > start then M else start)]) (.int r9) = some (.int stop) ∧ (start : Int) ≤ stop ∧ stop ≤ 9999 := by
          match r9, q10 with
          | 0, _ => exact ⟨_, rfl, Int.le_refl _, by omega⟩
          | 1, _ => exact ⟨_, rfl, by split <;> omega, by split <;> omega⟩
          | 2, _ => exact ⟨_, rfl, by split <;> omega, by split <;> omega⟩
        obtain ⟨stop, y1, y2, y3⟩ := hstop
        refine wp_set (d := .int stop) (e1 := E2 xs (.val (.int y)) (.own (pl a9 b9)) (.val (.int many)) (.val (.int w)) (.val (stD st)) (.val (.int start)) s7 (.val (csD cs)) (.val (.int M))) (v_sub (v_tup (vs_cons (v_var rfl) (vs_cons (v_bi (as_v v_cst (as_v (v_bin (v_var rfl) q7 rfl) as_nil)) rfl (min2_eq _ _)) (vs_cons (v_bi (as_v (v_var rfl) (as_v (v_var rfl) as_nil)) rfl (max2_eq _ _)) vs_nil))) (by show 3 ≤ 16777216; decide)) q9 y1) o7 (by show 7 < 12; decide) ?_
        have ok : Ok st cs start stop := ⟨by omega, by omega, hok, by omega, j3, by omega, y2, y3⟩
        obtain ⟨ax, bx, ho⟩ := one n ok a9 b9
        refine wp_iteF (e1 := E2 xs (.val (.int y)) (.own (pl ax bx)) (.val (.int many)) (.val (.int w)) (.val (stD st)) (.val (.int start)) (.val (.int stop)) (.val (csD cs)) (.val (.int M))) (v_nt (p := true) (v_callR (e1 := E2 xs (.val (.int y)) (.own (pl a9 b9)) (.val (.int many)) (.val (.int w)) (.val (stD st)) (.val (.int start)) (.val (.int stop)) (.val (csD cs)) (.val (.int M))) (as_o rfl (as_v (v_var rfl) (as_v (v_var rfl) (as_v (v_var rfl) (as_v (v_var rfl) as_nil))))) rfl rfl rfl rfl rfl ho)) (wp_nil (wp_nil ⟨ax, bx, _, _, _, _, _, rfl, rfl, rfl, rfl, rfl, rfl⟩))
      · rintro e ⟨a, b, s5, s6, s7, s8, s9, rfl, o5, o6, o7, o8, o9⟩
        exact wp_nil ⟨_, _, _, _, _, _, _, _, _, rfl, rfl, rfl, rfl, o5, o6, o7, o8, o9⟩
    · rintro e ⟨s1, s2, s3, s4, s5, s6, s7, s8, s9, rfl, _⟩
      exact wp_ret (r_e v_cst nofun nofun) ⟨[], rfl, rfl⟩)
  rw [hr, e]
end K75
set_option Elab.async false
set_option linter.all false
set_option maxRecDepth 100000
set_option maxHeartbeats 0
open PySem Qx
namespace H75
def hints : List Hint := [
  ⟨1, 1, [(Str.ofString "value")], [], [], false⟩,
  ⟨2, 3, [(Str.ofString "value"), (Str.ofString "low"), (Str.ofString "high")], [], [], false⟩,
  ⟨3, 2, [(Str.ofString "value"), (Str.ofString "many")], [], [], false⟩,
  ⟨4, 4, [(Str.ofString "value"), (Str.ofString "many"), (Str.ofString "low"), (Str.ofString "high"), (Str.ofString "each")], [], [], false⟩,
  ⟨5, 1, [(Str.ofString "value"), (Str.ofString "index")], [], [], false⟩,
  ⟨6, 5, [(Str.ofString "value"), (Str.ofString "low"), (Str.ofString "high"), (Str.ofString "is_one"), (Str.ofString "is_rising"), (Str.ofString "index"), (Str.ofString "each")], [], [], true⟩,
  ⟨12, 1, [(Str.ofString "value")], [], [], false⟩,
  ⟨13, 1, [(Str.ofString "value")], [], [], false⟩,
  ⟨14, 2, [(Str.ofString "stay"), (Str.ofString "moment")], [], [], false⟩,
  ⟨16, 1, [(Str.ofString "value")], [], [], false⟩,
  ⟨20, 2, [(Str.ofString "stay"), (Str.ofString "prices"), (Str.ofString "moment"), (Str.ofString "price")], [], [], false⟩,
  ⟨21, 1, [(Str.ofString "value")], [], [], false⟩,
  ⟨22, 1, [(Str.ofString "value"), (Str.ofString "moment"), (Str.ofString "price"), (Str.ofString "each")], [], [], false⟩,
  ⟨27, 1, [(Str.ofString "value")], [], [], false⟩,
  ⟨28, 2, [(Str.ofString "stays"), (Str.ofString "value")], [], [], false⟩,
  ⟨29, 3, [(Str.ofString "stays"), (Str.ofString "costs"), (Str.ofString "value"), (Str.ofString "stay"), (Str.ofString "cost")], [], [], false⟩,
  ⟨30, 3, [(Str.ofString "stays"), (Str.ofString "start"), (Str.ofString "stop"), (Str.ofString "found"), (Str.ofString "begin"), (Str.ofString "end"), (Str.ofString "moment")], [(Str.ofString "found")], [], true⟩,
  ⟨31, 5, [(Str.ofString "stays"), (Str.ofString "costs"), (Str.ofString "start"), (Str.ofString "person"), (Str.ofString "known"), (Str.ofString "ahead")], [], [], true⟩,
  ⟨32, 5, [(Str.ofString "stays"), (Str.ofString "costs"), (Str.ofString "start"), (Str.ofString "moment"), (Str.ofString "known"), (Str.ofString "found"), (Str.ofString "person"), (Str.ofString "stay")], [(Str.ofString "found")], [], false⟩,
  ⟨33, 4, [(Str.ofString "stays"), (Str.ofString "costs"), (Str.ofString "start"), (Str.ofString "stop"), (Str.ofString "found"), (Str.ofString "moment")], [(Str.ofString "found")], [], true⟩,
  ⟨34, 4, [(Str.ofString "stays"), (Str.ofString "costs"), (Str.ofString "start"), (Str.ofString "stop"), (Str.ofString "found")], [], [], false⟩,
  ⟨35, 4, [(Str.ofString "stays"), (Str.ofString "costs"), (Str.ofString "start"), (Str.ofString "stop"), (Str.ofString "found")], [], [], false⟩,
  ⟨36, 3, [(Str.ofString "stays"), (Str.ofString "start"), (Str.ofString "stop"), (Str.ofString "moments"), (Str.ofString "moment"), (Str.ofString "stay")], [], [], true⟩,
  ⟨37, 4, [(Str.ofString "stays"), (Str.ofString "costs"), (Str.ofString "start"), (Str.ofString "stop"), (Str.ofString "covers"), (Str.ofString "found"), (Str.ofString "moment"), (Str.ofString "price")], [(Str.ofString "found")], [], false⟩,
  ⟨44, 1, [(Str.ofString "value"), (Str.ofString "index")], [], [], false⟩,
  ⟨45, 3, [(Str.ofString "value"), (Str.ofString "low"), (Str.ofString "high")], [], [], false⟩,
  ⟨47, 2, [(Str.ofString "stays"), (Str.ofString "costs"), (Str.ofString "index")], [], [], false⟩,
  ⟨48, 4, [(Str.ofString "stays"), (Str.ofString "costs"), (Str.ofString "start"), (Str.ofString "stop")], [], [], false⟩,
  ⟨49, 4, [(Str.ofString "stays"), (Str.ofString "costs"), (Str.ofString "start"), (Str.ofString "stop")], [], [], false⟩,
  ⟨50, 4, [(Str.ofString "stays"), (Str.ofString "costs"), (Str.ofString "start"), (Str.ofString "stop")], [], [], false⟩,
  ⟨51, 4, [(Str.ofString "stays"), (Str.ofString "costs"), (Str.ofString "start"), (Str.ofString "stop")], [], [], false⟩,
  ⟨52, 3, [(Str.ofString "stays"), (Str.ofString "costs"), (Str.ofString "value")], [], [], false⟩,
  ⟨54, 2, [(Str.ofString "script"), (Str.ofString "k"), (Str.ofString "cell"), (Str.ofString "size"), (Str.ofString "stir")], [], [], true⟩,
  ⟨55, 2, [(Str.ofString "pool"), (Str.ofString "many"), (Str.ofString "told"), (Str.ofString "reach")], [(Str.ofString "pool")], [], false⟩,
  ⟨56, 2, [(Str.ofString "one"), (Str.ofString "two"), (Str.ofString "k")], [], [], false⟩,
  ⟨57, 1, [(Str.ofString "value")], [], [], false⟩,
  ⟨58, 2, [(Str.ofString "told"), (Str.ofString "due")], [], [], false⟩,
  ⟨59, 3, [(Str.ofString "pool"), (Str.ofString "many"), (Str.ofString "wide"), (Str.ofString "found"), (Str.ofString "person"), (Str.ofString "one"), (Str.ofString "two")], [(Str.ofString "pool"), (Str.ofString "found")], [], false⟩,
  ⟨60, 2, [(Str.ofString "value"), (Str.ofString "most")], [], [], false⟩,
  ⟨61, 1, [(Str.ofString "many"), (Str.ofString "rows"), (Str.ofString "person"), (Str.ofString "row")], [], [], false⟩,
  ⟨62, 4, [(Str.ofString "stays"), (Str.ofString "lot"), (Str.ofString "start"), (Str.ofString "stop"), (Str.ofString "here"), (Str.ofString "begin"), (Str.ofString "end"), (Str.ofString "person")], [], [], false⟩,
  ⟨63, 3, [(Str.ofString "stays"), (Str.ofString "costs"), (Str.ofString "value"), (Str.ofString "last"), (Str.ofString "pair"), (Str.ofString "cost"), (Str.ofString "begin"), (Str.ofString "end"), (Str.ofString "moment"), (Str.ofString "price")], [], [], false⟩,
  ⟨64, 2, [(Str.ofString "pool"), (Str.ofString "many"), (Str.ofString "most"), (Str.ofString "person")], [(Str.ofString "pool")], [], false⟩,
  ⟨65, 3, [(Str.ofString "pool"), (Str.ofString "many"), (Str.ofString "wide"), (Str.ofString "person"), (Str.ofString "row"), (Str.ofString "found"), (Str.ofString "here"), (Str.ofString "end")], [(Str.ofString "pool"), (Str.ofString "row"), (Str.ofString "found")], [], false⟩,
  ⟨66, 2, [(Str.ofString "pool"), (Str.ofString "value"), (Str.ofString "rows"), (Str.ofString "at"), (Str.ofString "some"), (Str.ofString "odd"), (Str.ofString "moment"), (Str.ofString "price")], [(Str.ofString "pool"), (Str.ofString "rows")], [], true⟩,
  ⟨67, 5, [(Str.ofString "pool"), (Str.ofString "stays"), (Str.ofString "costs"), (Str.ofString "start"), (Str.ofString "stop"), (Str.ofString "many"), (Str.ofString "some"), (Str.ofString "due"), (Str.ofString "value"), (Str.ofString "at"), (Str.ofString "more"), (Str.ofString "lot"), (Str.ofString "told"), (Str.ofString "person"), (Str.ofString "moment"), (Str.ofString "price")], [(Str.ofString "pool")], [], false⟩,
  ⟨68, 1, [(Str.ofString "script"), (Str.ofString "turn"), (Str.ofString "pool"), (Str.ofString "many"), (Str.ofString "wide"), (Str.ofString "stays"), (Str.ofString "start"), (Str.ofString "stop"), (Str.ofString "costs"), (Str.ofString "last"), (Str.ofString "begin"), (Str.ofString "end")], [(Str.ofString "pool")], [], false⟩]
def glob : List (Str × GV) := [(Str.ofString "is_whole", GV.fn 0),
  (Str.ofString "is_between", GV.fn 1),
  (Str.ofString "is_tuple_of", GV.fn 2),
  (Str.ofString "are_between", GV.fn 3),
  (Str.ofString "are_rising", GV.fn 4),
  (Str.ofString "first_wrong", GV.fn 5),
  (Str.ofString "is_stay", GV.fn 6),
  (Str.ofString "wrong_in_stays", GV.fn 7),
  (Str.ofString "has_moment", GV.fn 8),
  (Str.ofString "is_moment", GV.fn 9),
  (Str.ofString "price_within", GV.fn 10),
  (Str.ofString "is_price", GV.fn 11),
  (Str.ofString "are_prices", GV.fn 12),
  (Str.ofString "is_cost", GV.fn 13),
  (Str.ofString "wrong_in_costs", GV.fn 14),
  (Str.ofString "are_fair_by", GV.fn 15),
  (Str.ofString "moments_asked", GV.fn 16),
  (Str.ofString "covers_with", GV.fn 17),
  (Str.ofString "cheapest_up_to", GV.fn 18),
  (Str.ofString "cheapest_covers", GV.fn 19),
  (Str.ofString "least_cost_by", GV.fn 20),
  (Str.ofString "cheapest_cover_by", GV.fn 21),
  (Str.ofString "moments_priced", GV.fn 22),
  (Str.ofString "moment_prices_by", GV.fn 23),
  (Str.ofString "check_stays", GV.fn 24),
  (Str.ofString "check_number", GV.fn 25),
  (Str.ofString "check_costs", GV.fn 26),
  (Str.ofString "check_asked", GV.fn 27),
  (Str.ofString "least_cost", GV.fn 28),
  (Str.ofString "cheapest_cover", GV.fn 29),
  (Str.ofString "moment_prices", GV.fn 30),
  (Str.ofString "are_fair", GV.fn 31),
  (Str.ofString "_law_pool", GV.fn 32),
  (Str.ofString "_law_take", GV.fn 33),
  (Str.ofString "_law_alike", GV.fn 34),
  (Str.ofString "_law_whole", GV.fn 35),
  (Str.ofString "_law_says", GV.fn 36),
  (Str.ofString "_law_stays", GV.fn 37),
  (Str.ofString "_law_is_number", GV.fn 38),
  (Str.ofString "_law_lots", GV.fn 39),
  (Str.ofString "_law_covers", GV.fn 40),
  (Str.ofString "_law_are_fair", GV.fn 41),
  (Str.ofString "_law_costs", GV.fn 42),
  (Str.ofString "_law_chain", GV.fn 43),
  (Str.ofString "_law_bent", GV.fn 44),
  (Str.ofString "_law_one", GV.fn 45),
  (Str.ofString "law", GV.fn 46),
  (Str.ofString "MOST_PERSONS", GV.cst (D.int 9)),
  (Str.ofString "MOST_MOMENT", GV.cst (D.int 9999)),
  (Str.ofString "BEGIN", GV.cst (D.int 0)),
  (Str.ofString "END", GV.cst (D.int 1)),
  (Str.ofString "MOMENT", GV.cst (D.int 0)),
  (Str.ofString "PRICE", GV.cst (D.int 1)),
  (Str.ofString "MOST_COST", GV.cst (D.int 9999)),
  (Str.ofString "COST", GV.cst (D.int 0)),
  (Str.ofString "PERSONS", GV.cst (D.int 1))]
abbrev bd : List Stmt := PySem.Challenge.pw_stayrows_k75_whole_cheapest_covers_and_f.main.body
def fa : List He.Fa := (hints.map fun h => He.Fa.glo (defName (topOf bd h.at_))) ++ (bltNames.map He.Fa.free) ++ [.int "MOST_PERSONS" 9, .int "MOST_MOMENT" 9999, .int "BEGIN" 0, .int "END" 1, .int "MOMENT" 0, .int "PRICE" 1, .int "MOST_COST" 9999, .int "COST" 0, .int "PERSONS" 1]
def fn : List He.DefD := hints.map (ddOf bd)
abbrev R : PySem.W.OpenRow := PySem.W.OpenLaw.row PySem.Challenge.rw_stayrows_k75_whole_cheapest_covers_and_f
abbrev hk : PySem.W.Hook := He.hookD 4 fa fn
def ob (s : PySem.W.SharedT) : He.AlD := He.obsDG 4 fa fn (HandSHeadRun.getT s)
theorem ob_eq (s : PySem.W.SharedT) : ob s = hk.obs s.abs := He.obsDG_eq (HandSHeadRun.getT_eq s)
def names : List Str := (["__name__", "StayError", "InvalidNumber", "InvalidStays", "InvalidCosts", "MOST_PERSONS", "MOST_MOMENT", "BEGIN", "END", "MOMENT", "PRICE", "MOST_COST", "COST", "PERSONS"] : List Str) ++ (((hints.take 46).map fun h => defName (topOf bd h.at_)))
theorem run (w : World) : HandSHeadRun.RunEq R (PySem.W.view R.prog [68]) hk ob 6000 names w := by
  intro os
  kernel_rfl

theorem ok1 : hints.all (hintOk bd) = true := by kernel_rfl
theorem ok2 : glob.all (globOk hints bd fa) = true := by kernel_rfl
theorem ok3 : bltOk glob fa = true := by kernel_rfl
theorem prog : cProg hints glob bd = some K75.k5ds := by kernel_rfl
theorem at46 : hints[46]? = some (hints.getD 46 ⟨0, 0, [], [], [], false⟩) := by rfl
theorem nm46 : defName (topOf bd (hints.getD 46 ⟨0, 0, [], [], [], false⟩).at_) = "law" := by kernel_rfl
theorem ps46 : (hints.getD 46 ⟨0, 0, [], [], [], false⟩).N.take (hints.getD 46 ⟨0, 0, [], [], [], false⟩).np = [("script" : Str)] := by kernel_rfl
theorem in46 : He.Fa.glo (defName (topOf bd (hints.getD 46 ⟨0, 0, [], [], [], false⟩).at_)) ∈ fa := List.mem_append_left _ (List.mem_append_left _ (List.mem_map_of_mem (List.mem_of_getElem? at46)))
end H75
open PySem PySem.W PySem.Calls PyProof.Rows
theorem PySem.Challenge.cw_stayrows_k75_whole_cheapest_covers_and_f_holds : PySem.Challenge.rw_stayrows_k75_whole_cheapest_covers_and_f.Holds := by
  w_on; o_law
  refine HandSHeadRun.head_any (r := H75.R) (q := view H75.R.prog [68]) (H := H75.hk) (ob := H75.ob) (M := 6000) (loose := H75.names) (d := HandSHeadRun.topDef H75.R.prog 68) (kwd := []) H75.ob_eq
    (by kernel_rfl) (fun s => by kernel_rfl) H75.run (by kernel_rfl) (by kernel_rfl) (by kernel_rfl) (by rfl) (by first | assumption | decide +kernel) (by decide +kernel) ⟨rfl, rfl, rfl, rfl, rfl, by decide +kernel⟩ ?hw ?hc
  case hw => w_witness2
  case hc =>
    refine L2.walk_ofE (l := PySem.Challenge.rw_stayrows_k75_whole_cheapest_covers_and_f) (n := 63) (k := 21) (x := "script") (CX := L2.CX0) rfl (by decide) (by kernel_rfl) (room_of (by decide)) ?F (fun _ _ _ _ z => z)
    intro w mg fa h Y G hmg0
    obtain ⟨K, KX, c⟩ := Y
    have hmg : mg ("law" : PySem.Str) = some (.ref fa) := by
      have e : (HandSHeadRun.topDef H75.R.prog 68).name = ("law" : PySem.Str) := by kernel_rfl
      rw [← e]
      exact hmg0
    exact top_facts (n := 20) (g := 46) KX G hmg c H75.prog H75.ok1 H75.ok2 H75.ok3 H75.at46 H75.nm46 H75.ps46 H75.in46 rfl fun ns _ => K75.law_ok 0 ns
