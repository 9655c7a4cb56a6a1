import PyProof.Rows.All
import HandS.Comp
import HandS.ForMost
import HandS.TupAny
import HandS.Walk
import HandS.Deep
import HandS.Wide
import HandS.TupMul
import HandS.TupLe
import HandS.IsInst
import HandS.SortInts
import HandS.Conv
import HandS.Style
import HandS.SortOrd
import HandS.Zip
import KE.KRevSl
import HandS.Words
import KE.GoesEnum
import KE.GoesMore
import HandS.Small
import HandS.Defaults
import HandS.HeadHook2
import HandS.HeadEnd
import KE.BitLaws
import HandS.Head0
import HandS.Head1
import HandS.Head2
import HandS.HeadHook1
import Wide.All
import OpenK.AllK
import Wide.FinOn
import KE.KStateDown
import PySem.Challenge.RW_stayrows_k76_whole_line_ups_by_all_order
set_option Elab.async false
set_option linter.all false
/-! QCore: plain data, an own small syntax, its evaluator. -/
namespace Qx
open PySem

/-- plain data -/
inductive D where
  | non | bl (b : Bool) | int (i : Int) | str (s : Str)
  | tup (ds : List D) | lst (ds : List D)
  | dct (t : Bool) (ks vs : List D)
  | fn (f : Nat)

inductive Bop where | add | sub | mul | fdiv | mod | pow | shl | shr | band | bor
  deriving DecidableEq
inductive Cop where | eq | ne | lt | le | gt | ge | is | isn | inn | nin
  deriving DecidableEq
inductive Ty where | int | bool | str | tuple | list | dict
  deriving DecidableEq
inductive Bi where | len | abs | int | str | tuple | list | sorted | sum | all | any | max | min | max2 | min2 | lrange | trange | divmod | sortedSet | lenSet | dict
  deriving DecidableEq
/-- methods that change their receiver; methods that do not -/
inductive Mm where | append | pop0 | pop1 | extend | remove
  deriving DecidableEq
inductive Mp where | get1 | get2 | index | count
  deriving DecidableEq

/-- names to be stored in -/
inductive TN where
  | nm (i : Nat)
  | tp (ts : List TN)

mutual
inductive E where
  | var (i : Nat) | own (i : Nat) | cst (d : D)
  | tup (es : List E) | lst (es : List E) | dct (t : Bool) (kvs : List E)
  | bin (op : Bop) (a b : E) | neg (a : E) | nt (a : E) | an (a b : E) | or (a b : E) | ite (c a b : E)
  | cmp (op : Cop) (a b : E) | chn (op op' : Cop) (a b c : E)
  | call (f : Nat) (es : List E) (pm : List Nat) | callv (i : Nat) (es : List E)
  | isi (a : E) (ts : List Ty)
  | bi (b : Bi) (es : List E)
  | mm (m : Mm) (i : Nat) (es : List E) | mp (m : Mp) (o : E) (es : List E)
  | sub (a i : E) | slc (a lo hi : E) | rev (a lo : E)
  | comp (elt : E) (vs : List Nat) (t : TN) (it : It) (c : E)
  | comp2 (elt : E) (vs : List Nat) (t : TN) (it : It) (c : E) (vs2 : List Nat) (t2 : TN) (it2 : It) (c2 : E)
  | dcomp (tk : Bool) (k v : E) (vs : List Nat) (t : TN) (it : It) (c : E)
inductive It where
  | seq (e : E) | rng (es : List E) | enu (e : E) | zip (a b : E) | itms (e : E)
end

/-- targets of an assignment -/
inductive TS where
  | tn (t : TN) | sb (i : Nat) (ix : E) | tps (ts : List TS)

inductive S where
  | exp (e : E)
  | asg (t : TS) (e : E)
  | new (i : Nat) (e : E)
  | par (ts : List (Nat × Bool)) (es : List E)
  | ret (e : E)
  | ite (c : E) (a b : List S)
  | for_ (t : TN) (it : It) (b : List S)
  | whl (c : E) (b : List S)
  | pass | brk | cnt | bad

/-! ### data -/
mutual
/-- no list, no dict within -/
def noL : D → Bool
  | .tup ds => noLs ds
  | .lst _ => false
  | .dct _ _ _ => false
  | _ => true
def noLs : List D → Bool
  | [] => true
  | d :: ds => noL d && noLs ds
end
/-- .. within the list, the dict itself -/
def noLc : D → Bool
  | .lst ds => noLs ds
  | .dct _ _ vs => noLs vs
  | _ => false
/-! == -/
mutual
def eqD : D → D → Bool
  | .non, .non => true
  | .bl a, .bl b => a == b
  | .bl a, .int j => (if a then 1 else 0) == j
  | .int i, .bl b => i == (if b then 1 else 0)
  | .int i, .int j => i == j
  | .str x, .str y => x == y
  | .lst xs, .lst ys => eqDs xs ys
  | .tup xs, .tup ys => eqDs xs ys
  | _, _ => false
def eqDs : List D → List D → Bool
  | [], [] => true
  | x :: xs, y :: ys => eqD x y && eqDs xs ys
  | _, _ => false
end
/-- None, bools, ints, texts, tuples and lists of these, at most n deep -/
def dok : Nat → D → Bool
  | _, .non => true
  | _, .bl _ => true
  | _, .int _ => true
  | _, .str x => PyData.strOk x
  | n + 1, .tup ds => ds.all (dok n)
  | n + 1, .lst ds => ds.all (dok n)
  | _, _ => false

def isKey : D → Bool
  | .int _ => true
  | .str _ => true
  | _ => false
/-- what may be a key: an int or a text; a tuple of such -/
def keyOk (t : Bool) : D → Bool
  | .tup ds => t && ds.all isKey
  | .int _ => !t
  | .str _ => !t
  | _ => false
def lookD (k : D) : List D → List D → Option D
  | a :: ks, v :: vs => if eqD a k then some v else lookD k ks vs
  | _, _ => none
def repD (k v : D) : List D → List D → List D
  | a :: ks, w :: vs => (if eqD a k then v else w) :: repD k v ks vs
  | _, vs => vs
def putD (k v : D) (ks vs : List D) : List D × List D := if (lookD k ks vs).isSome then (ks, repD k v ks vs) else (ks ++ [k], vs ++ [v])

def SZ : Nat := 16777216
def mulOk (i j : Int) : Bool := (decide (-(2 ^ 64) < i) && decide (i < 2 ^ 64)) || (decide (-(2 ^ 64) < j) && decide (j < 2 ^ 64)) || (decide (i.natAbs < 2 ^ 4000) && decide (j.natAbs < 2 ^ 4000))
def addB : D → D → Option D
  | .int i, .int j => some (.int (i + j))
  | .str x, .str y => if x.length + y.length ≤ SZ then some (.str (x ++ y)) else none
  | .tup xs, .tup ys => if xs.length + ys.length ≤ SZ then some (.tup (xs ++ ys)) else none
  | .lst xs, .lst ys => if xs.length + ys.length ≤ SZ then some (.lst (xs ++ ys)) else none
  | _, _ => none
def subB : D → D → Option D
  | .int i, .int j => some (.int (i - j))
  | _, _ => none
def mulB : D → D → Option D
  | .int i, .int j => if mulOk i j then some (.int (i * j)) else none
  | .tup xs, .int k => if 2 ≤ k ∧ k ≤ 1000 ∧ xs ≠ [] ∧ xs.length ≤ 1000 then some (.tup (List.replicate k.toNat xs).flatten) else none
  | _, _ => none
def divB : D → D → Option D
  | .int i, .int j => if 0 < j ∧ j < 2 ^ 64 then some (.int (i / j)) else none
  | _, _ => none
def modB : D → D → Option D
  | .int i, .int j => if 0 < j then some (.int (i % j)) else none
  | _, _ => none
def powB : D → D → Option D
  | .int i, .int j => if 0 ≤ j ∧ j ≤ 1000000 ∧ i.natAbs < 2 ^ 64 then some (.int (i ^ j.toNat)) else none
  | _, _ => none
def shlB : D → D → Option D
  | .int i, .int j => if 0 ≤ j ∧ j ≤ 1000000 ∧ i.natAbs < 2 ^ 64 then some (.int (i * 2 ^ j.toNat)) else none
  | _, _ => none
def shrB : D → D → Option D
  | .int i, .int j => if 0 ≤ j then some (.int (i / 2 ^ j.toNat)) else none
  | _, _ => none
def andB : D → D → Option D
  | .int i, .int j => some (.int (Builtin.bitAnd i j))
  | _, _ => none
def orB : D → D → Option D
  | .int i, .int j => some (.int (Builtin.bitOr i j))
  | _, _ => none
def binD : Bop → D → D → Option D
  | .add => addB | .sub => subB | .mul => mulB | .fdiv => divB | .mod => modB | .pow => powB | .shl => shlB | .shr => shrB | .band => andB | .bor => orB
def isNon : D → Bool
  | .non => true
  | _ => false
def inD (x : D) : D → Option Bool
  | .tup ds => if dok 40 x && ds.all (dok 40) then some (ds.any fun y => eqD y x) else none
  | .lst ds => if dok 40 x && ds.all (dok 40) then some (ds.any fun y => eqD y x) else none
  | .dct t ks vs => if keyOk t x then some (lookD x ks vs).isSome else none
  | _ => none
def eqQ : D → D → Option Bool
  | .dct false ks _, .dct false [] [] => some ks.isEmpty
  | x, y => if dok 40 x && dok 40 y then some (eqD x y) else none
def ordC (f : Int → Int → Bool) : D → D → Option Bool
  | .int i, .int j => some (f i j)
  | _, _ => none
def isC' : D → D → Option Bool
  | x, .non => some (isNon x)
  | .bl a, .bl b => some (a == b)
  | _, _ => none
def cmpD : Cop → D → D → Option Bool
  | .eq => eqQ
  | .ne => fun x y => (eqQ x y).map (!·)
  | .lt => ordC fun i j => decide (i < j)
  | .le => ordC fun i j => decide (i ≤ j)
  | .gt => ordC fun i j => decide (j < i)
  | .ge => ordC fun i j => decide (j ≤ i)
  | .is => isC'
  | .isn => fun x y => (isC' x y).map (!·)
  | .inn => inD
  | .nin => fun x y => (inD x y).map (!·)
def tyD : D → Option Ty
  | .bl _ => some .bool
  | .int _ => some .int
  | .str _ => some .str
  | .tup _ => some .tuple
  | .lst _ => some .list
  | .dct _ _ _ => some .dict
  | _ => none
/-- bool is below int -/
def isaT : Option Ty → Ty → Bool
  | some .bool, .int => true
  | some t, u => decide (t = u)
  | none, _ => false
def isaD : D → List Ty → Option D
  | .fn _, _ => none
  | .dct true _ _, _ => none
  | d, ts => some (.bl (ts.any (isaT (tyD d))))
def intsD : List D → Option (List Int)
  | [] => some []
  | .int i :: r => (intsD r).map (i :: ·)
  | _ => none
def blsD : List D → Option (List Bool)
  | [] => some []
  | .bl b :: r => (blsD r).map (b :: ·)
  | _ => none
def seqD : D → Option (List D)
  | .tup ds => some ds
  | .lst ds => some ds
  | _ => none
def lenD : D → Option Nat
  | .str x => if x.length ≤ SZ then some x.length else none
  | .tup ds => some ds.length
  | .lst ds => some ds.length
  | .dct false ks _ => some ks.length
  | _ => none
def sortI (l : List Int) : List Int := l.mergeSort (fun a b => decide (a ≤ b))
def maxI : List Int → Option Int
  | [] => none
  | a :: r => some (r.foldl (fun x y => if y > x then y else x) a)
def minI : List Int → Option Int
  | [] => none
  | a :: r => some (r.foldl (fun x y => if y < x then y else x) a)
def d1 (f : D → Option D) : List D → Option D
  | [d] => f d
  | _ => none
def lenB (d : D) : Option D := match lenD d with
  | some n => some (.int (n : Int))
  | none => none
def absB : D → Option D
  | .int i => some (.int (if i < 0 then -i else i))
  | _ => none
def intB : D → Option D
  | .int i => some (.int i)
  | .bl b => some (.int (if b then 1 else 0))
  | _ => none
def tupB (d : D) : Option D := (seqD d).map .tup
def lstB (d : D) : Option D := (seqD d).map .lst
def sortB (d : D) : Option D := match seqD d with
  | some ds => match intsD ds with
    | some ns => some (.lst ((sortI ns).map .int))
    | none => none
  | none => none
def overI (f : List Int → Option D) : D → Option D
  | .lst ds => match intsD ds with
    | some ns => f ns
    | none => none
  | _ => none
def overB (f : List Bool → Option D) : D → Option D
  | .lst ds => match blsD ds with
    | some ns => f ns
    | none => none
  | _ => none
def twoI (f : Int → Int → Option D) : List D → Option D
  | [.int i, .int j] => f i j
  | _ => none
def lrB : D → Option D
  | .int n => if -(2 ^ 62) ≤ n ∧ n ≤ SZ then some (.lst ((List.range n.toNat).map fun (i : Nat) => D.int i)) else none
  | _ => none
def trB : D → Option D
  | .int n => if -(2 ^ 62) ≤ n ∧ n ≤ SZ then some (.tup ((List.range n.toNat).map fun (i : Nat) => D.int i)) else none
  | _ => none
def biD : Bi → List D → Option D
  | .len => d1 lenB
  | .abs => d1 absB
  | .int => d1 intB
  | .tuple => d1 tupB
  | .list => d1 lstB
  | .sorted => d1 sortB
  | .sum => d1 (overI fun ns => some (.int ns.sum))
  | .all => d1 (overB fun bs => some (.bl (bs.all id)))
  | .any => d1 (overB fun bs => some (.bl (bs.any id)))
  | .max => d1 (overI fun ns => (maxI ns).map .int)
  | .min => d1 (overI fun ns => (minI ns).map .int)
  | .max2 => twoI fun i j => some (.int (if j > i then j else i))
  | .min2 => twoI fun i j => some (.int (if j < i then j else i))
  | .lrange => d1 lrB
  | .trange => d1 trB
  | _ => fun _ => none
def ixD (n : Nat) (i : Int) : Option Nat := if 0 ≤ i then (if i < n then some i.toNat else none) else if -(n : Int) ≤ i then some (i + n).toNat else none
def subD : D → D → Option D
  | .tup ds, .int i => (ixD ds.length i).bind fun j => ds[j]?
  | .lst ds, .int i => (ixD ds.length i).bind fun j => ds[j]?
  | .dct t ks vs, k => if keyOk t k then lookD k ks vs else none
  | _, _ => none
def bndD (n d : Nat) : D → Option Nat
  | .non => some d
  | .int v => some (if v < 0 then (v + (n : Int)).toNat else min v.toNat n)
  | _ => none
def cutD (ds : List D) (lo hi : D) : Option (List D) :=
  (bndD ds.length 0 lo).bind fun l => (bndD ds.length ds.length hi).map fun h => (ds.drop l).take (h - l)
def slcD : D → D → D → Option D
  | .tup ds, lo, hi => (cutD ds lo hi).map .tup
  | .lst ds, lo, hi => (cutD ds lo hi).map .lst
  | _, _, _ => none
/-- x[lo::-1], lo None or negative -/
def revD : D → D → Option D
  | .tup ds, .non => some (.tup ds.reverse)
  | .lst ds, .non => some (.lst ds.reverse)
  | .lst ds, .int k => if k < 0 ∧ -k ≤ ds.length then some (.lst (ds.take (ds.length + 1 - k.natAbs)).reverse) else none
  | _, _ => none
def get1M : D → List D → Option D
  | .dct t ks vs, [k] => if keyOk t k then some ((lookD k ks vs).getD .non) else none
  | _, _ => none
def get2M : D → List D → Option D
  | .dct t ks vs, [k, x] => if keyOk t k then some ((lookD k ks vs).getD x) else none
  | _, _ => none
def mpD : Mp → D → List D → Option D
  | .get1 => get1M
  | .get2 => get2M
  | _ => fun _ _ => none
/-- the method's value, what the receiver is then -/
def appM : D → List D → Option (D × D)
  | .lst ds, [x] => if ds.length < SZ then some (.non, .lst (ds ++ [x])) else none
  | _, _ => none
def pop0M : D → List D → Option (D × D)
  | .lst ds, [] => ds.getLast?.map fun x => (x, .lst ds.dropLast)
  | _, _ => none
def pop1M : D → List D → Option (D × D)
  | .lst ds, [.int i] => if 0 ≤ i ∧ i < 2 ^ 63 then (ds[i.toNat]?).map fun x => (x, .lst (ds.eraseIdx i.toNat)) else none
  | _, _ => none
def extM : D → List D → Option (D × D)
  | .lst ds, [.lst xs] => if ds.length + xs.length ≤ SZ then some (.non, .lst (ds ++ xs)) else none
  | _, _ => none
def mmD : Mm → D → List D → Option (D × D)
  | .append => appM
  | .pop0 => pop0M
  | .pop1 => pop1M
  | .extend => extM
  | _ => fun _ _ => none
/-- o[k] = v: what o is then -/
def setD : D → D → D → Option D
  | .lst ds, .int i, v => (ixD ds.length i).map fun j => .lst (ds.set j v)
  | .dct t ks vs, k, v => if keyOk t k && decide (ks.length < SZ) then let r := putD k v ks vs; some (.dct t r.1 r.2) else none
  | _, _, _ => none

/-! ### frames -/
inductive Sl where | no | val (d : D) | own (d : D)
abbrev En := List Sl
def getV (env : En) (i : Nat) : Option D := match env[i]? with
  | some (.val d) => some d
  | _ => none
def getO (env : En) (i : Nat) : Option D := match env[i]? with
  | some (.own d) => some d
  | _ => none
def isO (env : En) (i : Nat) : Bool := match env[i]? with
  | some (.own _) => true
  | _ => false
def wipeE (env : En) : List Nat → En
  | [] => env
  | v :: vs => (wipeE env vs).set v .no
/-- the slots vs as they stand in a -/
def backE (a : En) (b : En) : List Nat → En
  | [] => b
  | v :: vs => (backE a b vs).set v (a.getD v .no)
mutual
def putT : TN → D → En → Option En
  | .nm i, d, env => if isO env i then none else if i < env.length then some (env.set i (.val d)) else none
  | .tp ts, .tup ds, env => putTs ts ds env
  | .tp _, _, _ => none
def putTs : List TN → List D → En → Option En
  | [], [], env => some env
  | t :: ts, d :: ds, env => (putT t d env).bind (putTs ts ds)
  | _, _, _ => none
end

/-- an operand: a value, or the thing that a slot owns -/
inductive A where | v (d : D) | o (i : Nat)
def resA (env : En) : A → Option D
  | .v d => some d
  | .o i => getO env i
def resAs (env : En) : List A → Option (List D)
  | [] => some []
  | a :: r => (resA env a).bind fun d => (resAs env r).map (d :: ·)

def isDctA (env : En) (a : A) : Bool := match resA env a with
  | some (.dct _ _ _) => true
  | _ => false

abbrev Orc := Nat → List D → Option (D × List D)
/-- which parameters a def changes -/
abbrev Rfs := Nat → List Nat

/-- the slots that stand at the changed parameters -/
def refSlots (as : List A) : List Nat → Option (List Nat)
  | [] => some []
  | j :: js => match as[j]? with
    | some (.o i) => (refSlots as js).map (i :: ·)
    | _ => none
def isOw : A → Bool
  | .o _ => true
  | .v _ => false
/-- some thing that a slot owns is only read by the callee -/
def lent (as : List A) (js : List Nat) : Bool := (List.range as.length).any fun j => (match as[j]? with | some a => isOw a | none => false) && !js.contains j
def readSlots (as : List A) (js : List Nat) : List Nat := (List.range as.length).filterMap fun j => if js.contains j then none else match as[j]? with
  | some (.o i) => some i
  | _ => none
def putOs (env : En) : List Nat → List D → En
  | i :: is, d :: ds => putOs (env.set i (.own d)) is ds
  | _, _ => env
def nodupB : List Nat → Bool
  | [] => true
  | a :: r => !r.contains a && nodupB r
def callE (Φ : Orc) (R : Rfs) (f : Nat) (as : List A) (env : En) : Option (D × En) :=
  match resAs env as, refSlots as (R f) with
  | some ds, some is =>
    if nodupB is && (readSlots as (R f)).all (fun i => !is.contains i) then
      match Φ f ds with
      | some (r, outs) => if outs.length = is.length ∧ (lent as (R f) = false ∨ (noL r = true ∧ outs.all noLc = true)) then some (r, putOs env is outs) else none
      | none => none
    else none
  | _, _ => none

def asB : Option (D × En) → Option (Bool × En)
  | some (.bl b, env) => some (b, env)
  | _ => none

def rngD : List D → Option (List D)
  | [.int n] => if -(2 ^ 62) ≤ n ∧ n ≤ SZ then some ((List.range n.toNat).map fun (i : Nat) => D.int i) else none
  | [.int a, .int b] => if -(2 ^ 62) ≤ a ∧ a < 2 ^ 62 ∧ -(2 ^ 62) ≤ b ∧ b < 2 ^ 62 ∧ b - a ≤ SZ then some ((List.range (b - a).toNat).map fun (i : Nat) => D.int (a + i)) else none
  | [.int a, .int b, .int c] => if c = -1 ∧ -(2 ^ 62) ≤ a ∧ a < 2 ^ 62 ∧ -(2 ^ 62) ≤ b ∧ b < 2 ^ 62 ∧ a - b ≤ SZ then some ((List.range (a - b).toNat).map fun (i : Nat) => D.int (a - i)) else none
  | _ => none
def enuD (ds : List D) : List D := (List.range ds.length).map fun (i : Nat) => D.tup [.int i, ds.getD i .non]
def zipD (xs ys : List D) : List D := (List.range (min xs.length ys.length)).map fun (i : Nat) => D.tup [xs.getD i .non, ys.getD i .non]
def itmsD (ks vs : List D) : List D := (List.range ks.length).map fun (i : Nat) => D.tup [ks.getD i .non, vs.getD i .non]
mutual
def sameD : D → D → Bool
  | .non, .non => true
  | .bl a, .bl b => a == b
  | .int i, .int j => i == j
  | .str x, .str y => x == y
  | .tup xs, .tup ys => sameDs xs ys
  | .lst xs, .lst ys => sameDs xs ys
  | .dct t ks vs, .dct u ls ws => t == u && sameDs ks ls && sameDs vs ws
  | .fn f, .fn g => f == g
  | _, _ => false
def sameDs : List D → List D → Bool
  | [], [] => true
  | x :: xs, y :: ys => sameD x y && sameDs xs ys
  | _, _ => false
end
/-- the thing walked stands as it stood -/
def gd (a : A) (d : D) (env : En) : Bool := match a with
  | .v _ => true
  | .o i => match getO env i with
    | some e => sameD d e
    | none => false

def opE (e : E) (f : En → Option (D × En)) (env : En) : Option (A × En) := match e with
  | .own i => if isO env i then some (.o i, env) else none
  | _ => match f env with
    | some (d, e1) => some (.v d, e1)
    | none => none
/-- a comprehension's turns -/
def compL (t : TN) (vs : List Nat) (g : En → Bool) (c elt : En → Option (D × En)) : List D → En → Option (List D × En)
  | [], env => if g (wipeE env vs) then some ([], env) else none
  | x :: xs, env =>
    if g (wipeE env vs) then
      match putT t x (wipeE env vs) with
      | none => none
      | some e1 => match asB (c e1) with
        | some (true, e2) => match elt e2 with
          | some (d, e3) => match compL t vs g c elt xs e3 with
            | some (ds, e4) => some (d :: ds, e4)
            | none => none
          | none => none
        | some (false, e2) => compL t vs g c elt xs e2
        | none => none
    else none
/-- .. whose turn is a loop of its own -/
def compB (t : TN) (vs : List Nat) (g : En → Bool) (c : En → Option (D × En)) (elt : En → Option (List D × En)) : List D → En → Option (List D × En)
  | [], env => if g (wipeE env vs) then some ([], env) else none
  | x :: xs, env =>
    if g (wipeE env vs) then
      match putT t x (wipeE env vs) with
      | none => none
      | some e1 => match asB (c e1) with
        | some (true, e2) => match elt e2 with
          | some (d, e3) => match compB t vs g c elt xs e3 with
            | some (ds, e4) => some (d ++ ds, e4)
            | none => none
          | none => none
        | some (false, e2) => compB t vs g c elt xs e2
        | none => none
    else none
def noO (env : En) (vs : List Nat) : Bool := vs.all fun i => !isO env i && decide (i < env.length)
abbrev ItR := Option (List D × (A × D) × En)
def itOf (a : A) (env : En) (f : D → Option (List D)) : ItR := match resA env a with
  | some d => match f d with
    | some ds => some (ds, (a, d), env)
    | none => none
  | none => none
def keysD : D → Option (List D)
  | .tup ds => some ds
  | .lst ds => some ds
  | .dct _ ks _ => some ks
  | .str x => some (x.cps.toList.map fun c => .str ⟨#[c]⟩)
  | _ => none
def dirD : D → Option (List D)
  | .dct false ks vs => if ks.length = vs.length then some (itmsD ks vs) else none
  | _ => none
def foldPut (ks vs : List D) : List D → List D → List D × List D
  | a :: as, b :: bs => let r := putD a b ks vs; foldPut r.1 r.2 as bs
  | _, _ => (ks, vs)
/-- written arguments in the parameters' order; [] where they stand so -/
def pickA (as : List A) : List Nat → Option (List A)
  | [] => some []
  | j :: js => match as[j]?, pickA as js with
    | some a, some r => some (a :: r)
    | _, _ => none
def permA (pm : List Nat) (as : List A) : Option (List A) := match pm with
  | [] => some as
  | _ => pickA as pm
def evens : List D → List D
  | a :: _ :: r => a :: evens r
  | _ => []
def odds : List D → List D
  | _ :: b :: r => b :: odds r
  | _ => []
/-- a display: keys and values by turns -/
def mkDct (t : Bool) (ds : List D) : Option D :=
  let ks := evens ds
  if ks.all (keyOk t) && decide (ks.length ≤ 15) && (ks.isEmpty || !t) then let r := foldPut [] [] ks (odds ds); some (.dct t r.1 r.2) else none
mutual
def evE (Φ : Orc) (R : Rfs) : E → En → Option (D × En)
  | .var i, env => match getV env i with
    | some d => some (d, env)
    | none => none
  | .own _, _ => none
  | .cst d, env => some (d, env)
  | .tup es, env => match evEs Φ R es env with
    | some (ds, e1) => if ds.length ≤ SZ then some (.tup ds, e1) else none
    | none => none
  | .lst es, env => match evEs Φ R es env with
    | some (ds, e1) => if ds.length ≤ SZ then some (.lst ds, e1) else none
    | none => none
  | .dct t kvs, env => match evEs Φ R kvs env with
    | some (ds, e1) => match mkDct t ds with
      | some d => some (d, e1)
      | none => none
    | none => none
  | .bin op a b, env => match opE a (evE Φ R a) env with
    | some (x, e1) => match opE b (evE Φ R b) e1 with
      | some (y, e2) => match resA e2 x, resA e2 y with
        | some dx, some dy => match binD op dx dy with
          | some d => some (d, e2)
          | none => none
        | _, _ => none
      | none => none
    | none => none
  | .neg a, env => match evE Φ R a env with
    | some (.int i, e1) => some (.int (-i), e1)
    | _ => none
  | .nt a, env => match asB (evE Φ R a env) with
    | some (b, e1) => some (.bl (!b), e1)
    | none => none
  | .an a b, env => match asB (evE Φ R a env) with
    | some (true, e1) => evE Φ R b e1
    | some (false, e1) => some (.bl false, e1)
    | none => none
  | .or a b, env => match asB (evE Φ R a env) with
    | some (true, e1) => some (.bl true, e1)
    | some (false, e1) => evE Φ R b e1
    | none => none
  | .ite c a b, env => match asB (evE Φ R c env) with
    | some (true, e1) => evE Φ R a e1
    | some (false, e1) => evE Φ R b e1
    | none => none
  | .cmp op a b, env => match opE a (evE Φ R a) env with
    | some (x, e1) => match opE b (evE Φ R b) e1 with
      | some (y, e2) => match resA e2 x, resA e2 y with
        | some dx, some dy => match cmpD op dx dy with
          | some k => some (.bl k, e2)
          | none => none
        | _, _ => none
      | none => none
    | none => none
  | .chn op op' a b c, env => match evE Φ R a env with
    | some (x, e1) => match evE Φ R b e1 with
      | some (y, e2) => match cmpD op x y with
        | some true => match evE Φ R c e2 with
          | some (z, e3) => match cmpD op' y z with
            | some k => some (.bl k, e3)
            | none => none
          | none => none
        | some false => some (.bl false, e2)
        | none => none
      | none => none
    | none => none
  | .call f es pm, env => match evAs Φ R es env with
    | some (as, e1) => match permA pm as with
      | some bs => callE Φ R f bs e1
      | none => none
    | none => none
  | .callv i es, env => match getV env i with
    | some (.fn f) => match evAs Φ R es env with
      | some (as, e1) => callE Φ R f as e1
      | none => none
    | _ => none
  | .isi a ts, env => match opE a (evE Φ R a) env with
    | some (x, e1) => match resA e1 x with
      | some d => match isaD d ts with
        | some k => some (k, e1)
        | none => none
      | none => none
    | none => none
  | .bi b es, env => match evAs Φ R es env with
    | some (as, e1) => match resAs e1 as with
      | some ds => match biD b ds with
        | some d => some (d, e1)
        | none => none
      | none => none
    | none => none
  | .mm m i es, env => match getO env i with
    | some (.lst _) => match evEs Φ R es env with
      | some (ds, e1) => match getO e1 i with
        | some d => match mmD m d ds with
          | some (r, d') => some (r, e1.set i (.own d'))
          | none => none
        | none => none
      | none => none
    | _ => none
  | .mp m o es, env => match opE o (evE Φ R o) env with
    | some (x, e1) => if isDctA e1 x then match evEs Φ R es e1 with
      | some (ds, e2) => match resA e2 x with
        | some d => match mpD m d ds with
          | some r => some (r, e2)
          | none => none
        | none => none
      | none => none
      else none
    | none => none
  | .sub a i, env => match opE a (evE Φ R a) env with
    | some (x, e1) => match evE Φ R i e1 with
      | some (k, e2) => match resA e2 x with
        | some d => match subD d k with
          | some r => some (r, e2)
          | none => none
        | none => none
      | none => none
    | none => none
  | .slc a lo hi, env => match opE a (evE Φ R a) env with
    | some (x, e1) => match evE Φ R lo e1 with
      | some (l, e2) => match evE Φ R hi e2 with
        | some (h, e3) => match resA e3 x with
          | some d => match slcD d l h with
            | some r => some (r, e3)
            | none => none
          | none => none
        | none => none
      | none => none
    | none => none
  | .rev a lo, env => match opE a (evE Φ R a) env with
    | some (x, e1) => match evE Φ R lo e1 with
      | some (l, e2) => match resA e2 x with
        | some d => match revD d l with
          | some r => some (r, e2)
          | none => none
        | none => none
      | none => none
    | none => none
  | .comp elt vs t it c, env => match evIt Φ R it env with
    | some (xs, g, e1) => if noO e1 vs then
        match compL t vs (gd g.1 g.2) (evE Φ R c) (evE Φ R elt) xs e1 with
        | some (ds, e2) => if ds.length ≤ SZ then some (.lst ds, backE e1 e2 vs) else none
        | none => none
      else none
    | none => none
  | .comp2 elt vs t it c vs2 t2 it2 c2, env => match evIt Φ R it env with
    | some (xs, g, e1) => if noO e1 vs then
        match compB t vs (gd g.1 g.2) (evE Φ R c) (fun e => match evIt Φ R it2 e with
          | some (ys, g2, e') => compL t2 vs2 (gd g2.1 g2.2) (evE Φ R c2) (evE Φ R elt) ys e'
          | none => none) xs e1 with
        | some (ds, e2) => if ds.length ≤ SZ then some (.lst ds, backE e1 e2 vs) else none
        | none => none
      else none
    | none => none
  | .dcomp tk k v vs t it c, env => none
def evEs (Φ : Orc) (R : Rfs) : List E → En → Option (List D × En)
  | [], env => some ([], env)
  | e :: es, env => match evE Φ R e env with
    | some (d, e1) => match evEs Φ R es e1 with
      | some (ds, e2) => some (d :: ds, e2)
      | none => none
    | none => none
def evAs (Φ : Orc) (R : Rfs) : List E → En → Option (List A × En)
  | [], env => some ([], env)
  | e :: es, env => match opE e (evE Φ R e) env with
    | some (a, e1) => match evAs Φ R es e1 with
      | some (as, e2) => some (a :: as, e2)
      | none => none
    | none => none
def evIt (Φ : Orc) (R : Rfs) : It → En → ItR
  | .seq e, env => match opE e (evE Φ R e) env with
    | some (a, e1) => itOf a e1 seqD
    | none => none
  | .rng es, env => match evEs Φ R es env with
    | some (ds, e1) => match rngD ds with
      | some xs => some (xs, (.v .non, .non), e1)
      | none => none
    | none => none
  | .enu e, env => match opE e (evE Φ R e) env with
    | some (a, e1) => itOf a e1 fun d => (seqD d).map enuD
    | none => none
  | .zip a b, env => match evE Φ R a env with
    | some (x, e1) => match evE Φ R b e1 with
      | some (y, e2) => match x, y with
        | .tup xs, .tup ys => some (zipD xs ys, (.v .non, .non), e2)
        | .lst xs, .lst ys => some (zipD xs ys, (.v .non, .non), e2)
        | _, _ => none
      | none => none
    | none => none
  | .itms e, env => match opE e (evE Φ R e) env with
    | some (a, e1) => itOf a e1 dirD
    | none => none
end

/-! ### statements -/
inductive Fl where | nx | ret (d : D) | brk | ct
def forL (t : TN) (g : En → Bool) (body : En → Option (Fl × En)) : List D → En → Option (Fl × En)
  | [], env => if g env then some (.nx, env) else none
  | x :: xs, env => if g env then
      match putT t x env with
      | none => none
      | some e1 => match body e1 with
        | some (.nx, e2) => forL t g body xs e2
        | some (.ct, e2) => forL t g body xs e2
        | some (.brk, e2) => some (.nx, e2)
        | some (.ret d, e2) => some (.ret d, e2)
        | none => none
    else none
def whileL (c : En → Option (D × En)) (body : En → Option (Fl × En)) : Nat → En → Option (Fl × En)
  | 0, _ => none
  | n + 1, env => match asB (c env) with
    | some (false, e1) => some (.nx, e1)
    | some (true, e1) => match body e1 with
      | some (.nx, e2) => whileL c body n e2
      | some (.ct, e2) => whileL c body n e2
      | some (.brk, e2) => some (.nx, e2)
      | some (.ret d, e2) => some (.ret d, e2)
      | none => none
    | none => none
def FUEL : Nat := 1099511627776
def isC : D → Bool
  | .lst _ => true
  | .dct _ _ _ => true
  | _ => false
def putS (Φ : Orc) (R : Rfs) : TS → D → En → Option En
  | .tn t, d, env => putT t d env
  | .sb i ix, d, env => if isO env i then match evE Φ R ix env with
    | some (k, e1) => match getO e1 i with
      | some o => match setD o k d with
        | some o' => some (e1.set i (.own o'))
        | none => none
      | none => none
    | none => none
    else none
  | .tps _, _, _ => none
def putSs (Φ : Orc) (R : Rfs) : List TS → List D → En → Option En
  | [], [], env => some env
  | t :: ts, d :: ds, env => match putS Φ R t d env with
    | some e1 => putSs Φ R ts ds e1
    | none => none
  | _, _, _ => none
def putPar : List (Nat × Bool) → List D → En → Option En
  | [], [], env => some env
  | (i, b) :: ts, d :: ds, env => if i < env.length then
      (if b then (if isC d then putPar ts ds (env.set i (.own d)) else none)
       else if isO env i then none else putPar ts ds (env.set i (.val d))) else none
  | _, _, _ => none
/-- what is handed back: own things, and pairs of such, too; not those of the caller -/
def retA (np : Nat) : A → Bool
  | .v _ => true
  | .o i => decide (np ≤ i)
def evR (Φ : Orc) (R : Rfs) (np : Nat) : E → En → Option (D × En)
  | .own i, env => if np ≤ i then (getO env i).map fun d => (d, env) else none
  | .tup es, env => match evAs Φ R es env with
    | some (as, e1) => if as.all (retA np) then match resAs e1 as with
      | some ds => if ds.length ≤ SZ then some (.tup ds, e1) else none
      | none => none
      else none
    | none => none
  | e, env => evE Φ R e env
mutual
def evS (Φ : Orc) (R : Rfs) (np : Nat) : S → En → Option (Fl × En)
  | .exp e, env => match evE Φ R e env with
    | some (_, e1) => some (.nx, e1)
    | none => none
  | .asg (.tps ts) e, env => match evE Φ R e env with
    | some (.tup ds, e1) => (putSs Φ R ts ds e1).map fun e2 => (.nx, e2)
    | _ => none
  | .asg t e, env => match evE Φ R e env with
    | some (d, e1) => (putS Φ R t d e1).map fun e2 => (.nx, e2)
    | none => none
  | .new i e, env => match evE Φ R e env with
    | some (d, e1) => if isC d && decide (np ≤ i) && decide (i < e1.length) then some (.nx, e1.set i (.own d)) else none
    | none => none
  | .par ts es, env => match evEs Φ R es env with
    | some (ds, e1) => if nodupB (ts.map (·.1)) && ts.all (fun t => !t.2 || decide (np ≤ t.1)) then (putPar ts ds e1).map fun e2 => (.nx, e2) else none
    | none => none
  | .ret e, env => match evR Φ R np e env with
    | some (d, e1) => some (.ret d, e1)
    | none => none
  | .ite c a b, env => match asB (evE Φ R c env) with
    | some (true, e1) => evSs Φ R np a e1
    | some (false, e1) => evSs Φ R np b e1
    | none => none
  | .for_ t it b, env => match evIt Φ R it env with
    | some (xs, g, e1) => forL t (gd g.1 g.2) (evSs Φ R np b) xs e1
    | none => none
  | .whl c b, env => whileL (evE Φ R c) (evSs Φ R np b) FUEL env
  | .pass, env => some (.nx, env)
  | .brk, env => some (.brk, env)
  | .cnt, env => some (.ct, env)
  | .bad, _ => none
def evSs (Φ : Orc) (R : Rfs) (np : Nat) : List S → En → Option (Fl × En)
  | [], env => some (.nx, env)
  | s :: ss, env => match evS Φ R np s env with
    | some (.nx, e1) => evSs Φ R np ss e1
    | r => r
end

/-! ### defs -/
structure Df where
  name : Str
  np : Nat
  ns : Nat
  refs : List Nat
  fresh : Bool
  body : List S
def startE (d : Df) (args : List D) : En := ((List.range args.length).map fun i => if d.refs.contains i then Sl.own (args.getD i .non) else .val (args.getD i .non)) ++ List.replicate (d.ns - args.length) .no
def outsE (env : En) : List Nat → Option (List D)
  | [] => some []
  | i :: is => match getO env i, outsE env is with
    | some d, some ds => some (d :: ds)
    | _, _ => none
def rfsOf (ds : List Df) : Rfs := fun f => match ds[f]? with
  | some d => d.refs
  | none => []
def runD (ds : List Df) (Φ : Orc) (d : Df) (args : List D) : Option (D × List D) :=
  if args.length = d.np then
    match evSs Φ (rfsOf ds) d.np d.body (startE d args) with
    | some (.ret r, env) => (outsE env d.refs).map fun os => (r, os)
    | some (.nx, env) => (outsE env d.refs).map fun os => (.non, os)
    | _ => none
  else none
def callD (ds : List Df) : Nat → Orc
  | 0 => fun _ _ => none
  | n + 1 => fun f args => match ds[f]? with
    | some d => runD ds (callD ds n) d args
    | none => none
end Qx
set_option Elab.async false
set_option linter.all false
/-! QComp: from the text to the own syntax. -/
namespace Qx
open PySem
inductive GV where | fn (i : Nat) | cst (d : D)
structure Cc where
  /-- names by slot; those whose things the def changes in place; dicts with tuple keys -/
  N : List Str
  O : List Str
  T : List Str
  G : List (Str × GV)
  /-- which defs hand back a new thing of their own -/
  F : Nat → Bool
  /-- the parameters of the defs -/
  P : Nat → List Str
  /-- does this def hand back a new thing? -/
  fr : Bool
def ixOf (N : List Str) (x : Str) : Option Nat := match N with
  | [] => none
  | y :: r => if y = x then some 0 else (ixOf r x).map (· + 1)
/-- a name of the def that a scope sees -/
def seen (sc : Scope) (x : Str) : Bool := match sc.names.lookup x with
  | some .local => true
  | some .cell => true
  | some .free => true
  | _ => false
def isGl (sc : Scope) (x : Str) : Bool := match sc.names.lookup x with
  | some .globalImplicit => true
  | _ => false
def cName (C : Cc) (sc : Scope) (x : Str) : Option E :=
  if seen sc x then (ixOf C.N x).map fun i => if C.O.contains x then .own i else .var i
  else if isGl sc x then match C.G.lookup x with
    | some (.fn i) => some (.cst (.fn i))
    | some (.cst d) => some (.cst d)
    | none => none
  else none
/-- a built-in's name -/
def isBl (C : Cc) (sc : Scope) (x : Str) : Bool := isGl sc x && (C.G.lookup x).isNone
def cBop : Operator → Option Bop
  | .Add => some .add | .Sub => some .sub | .Mult => some .mul | .FloorDiv => some .fdiv | .Mod => some .mod | .Pow => some .pow
  | .LShift => some .shl | .RShift => some .shr | .BitAnd => some .band | .BitOr => some .bor
  | _ => none
def cCop : CmpOp → Cop
  | .Eq => .eq | .NotEq => .ne | .Lt => .lt | .LtE => .le | .Gt => .gt | .GtE => .ge
  | .Is => .is | .IsNot => .isn | .In => .inn | .NotIn => .nin
def cTyN (x : Str) : Option Ty := if x = "int" then some .int else if x = "bool" then some .bool else if x = "str" then some .str else if x = "tuple" then some .tuple else if x = "list" then some .list else if x = "dict" then some .dict else none
def cTy (C : Cc) (sc : Scope) : Expr → Option Ty
  | .Name x _ => if isBl C sc x then cTyN x else none
  | _ => none
def okNm (x : Str) : Bool := !(x == ("__debug__" : Str)) && !(x == ("__classdict__" : Str)) && !(x == ("__name__" : Str))
def cBi (x : Str) : Nat → Option Bi
  | 1 => if x = "len" then some .len else if x = "abs" then some .abs else if x = "int" then some .int else if x = "tuple" then some .tuple else if x = "list" then some .list
    else if x = "sorted" then some .sorted else if x = "sum" then some .sum else if x = "all" then some .all else if x = "any" then some .any else if x = "max" then some .max else if x = "min" then some .min else none
  | 2 => if x = "max" then some .max2 else if x = "min" then some .min2 else none
  | _ => none
def nodupS : List Str → Bool
  | [] => true
  | a :: r => !r.contains a && nodupS r
/-- all or none -/
def allS {α : Type} : List (Option α) → Option (List α)
  | [] => some []
  | some a :: r => (allS r).map (a :: ·)
  | none :: _ => none
def isLoc (sc : Scope) (x : Str) : Bool := match sc.names.lookup x with
  | some .local => true
  | some .cell => true
  | _ => false
def cTN (C : Cc) (sc : Scope) : Nat → Expr → Option TN
  | 0, _ => none
  | n + 1, .Name x _ => if isLoc sc x && !C.O.contains x then (ixOf C.N x).map .nm else none
  | n + 1, .Tuple es _ _ => (allS (es.map (cTN C sc n))).map .tp
  | _, _ => none
mutual
def namesT : TN → List Nat
  | .nm i => [i]
  | .tp ts => namesTs ts
def namesTs : List TN → List Nat
  | [] => []
  | t :: ts => namesT t ++ namesTs ts
end
def kwPos (ps : List Str) (npos : Nat) (kws : List Str) : Option (List Nat) :=
  allS ((List.range ps.length).map fun j => if j < npos then some j else (ixOf kws (ps.getD j "")).map (· + npos))
def isTupE : Expr → Bool
  | .Tuple _ _ _ => true
  | _ => false
def okNode : Expr → Bool
  | .Starred _ _ => false
  | .Set _ _ _ => false
  | _ => true
def isSup : Expr → Bool
  | .Call _ _ _ _ => true
  | _ => false
def cBool (op : BoolOp) (x : E) : List E → E
  | [] => x
  | y :: r => match op with | .And => .an x (cBool op y r) | .Or => .or x (cBool op y r)
def cBools (op : BoolOp) : List E → Option E
  | x :: y :: r => some (cBool op x (y :: r))
  | _ => none
def cConst : Const → Option E
  | .int i => some (.cst (.int i))
  | .bool b => some (.cst (.bl b))
  | .str s => some (.cst (.str s))
  | .none => some (.cst .non)
  | _ => none
/-- the argument of range, in list(range(a)) -/
def rgArg (C : Cc) (sc : Scope) : List Expr → Option Expr
  | [.Call (.Name g _) [a] [] _] => if isBl C sc g && g = "range" then some a else none
  | _ => none
def cTys (C : Cc) (sc : Scope) : Expr → Option (List Ty)
  | .Tuple ts _ _ => if ts.length ≤ 10 then allS (ts.map (cTy C sc)) else none
  | t => (cTy C sc t).map fun u => [u]
/-- 1: range(..), 2: enumerate(..) -/
def itKind (C : Cc) (sc : Scope) : Expr → Nat
  | .Call (.Name f _) _ [] _ => if isBl C sc f then (if f = "range" then 1 else if f = "enumerate" then 2 else 0) else 0
  | _ => 0
def itArgs : Expr → List Expr
  | .Call _ args _ _ => args
  | _ => []
def names1 (N : List Str) (t : TN) : List (Str × Nat) := (namesT t).map fun i => (N.getD i "", i)
mutual
def cE (C : Cc) : Nat → Scope → Expr → Option E
  | 0, _, _ => none
  | n + 1, sc, e => match e with
    | .Name x _ => if okNm x then cName C sc x else none
    | .Constant c _ _ => cConst c
    | .Tuple es _ _ => (cEs C n sc es).map .tup
    | .List es _ => (cEs C n sc es).map .lst
    | .Dict ks vs _ => if ks.length ≤ 15 then (match ks, vs with
      | [], [] => some (.dct false [])
      | _, _ => (cKs C n sc ks vs).map (.dct false)) else none
    | .BinOp a op b _ => match cBop op, cE C n sc a, cE C n sc b with
      | some o, some x, some y => some (.bin o x y)
      | _, _, _ => none
    | .UnaryOp op a _ => match op with
      | .USub => (cE C n sc a).map .neg
      | .Not => (cE C n sc a).map .nt
      | _ => none
    | .BoolOp op es _ => (cEs C n sc es).bind (cBools op)
    | .IfExp c a b _ => match cE C n sc c, cE C n sc a, cE C n sc b with
      | some z, some x, some y => some (.ite z x y)
      | _, _, _ => none
    | .Compare a ops bs _ => match ops, bs with
      | [op], [b] => (match cE C n sc a, cE C n sc b with
        | some x, some y => some (.cmp (cCop op) x y)
        | _, _ => none)
      | [op, op'], [b, c] => (match cE C n sc a, cE C n sc b, cE C n sc c with
        | some x, some y, some z => some (.chn (cCop op) (cCop op') x y z)
        | _, _, _ => none)
      | _, _ => none
    | .Subscript a i _ => match i with
      | .Slice lo hi st _ => (match st with
        | none => (match cE C n sc a, cO C n sc lo, cO C n sc hi with
          | some x, some l, some h => some (.slc x l h)
          | _, _, _ => none)
        | some (.UnaryOp .USub (.Constant (.int 1) _ _) _) => (match hi with
          | none => (match cE C n sc a, cO C n sc lo with
            | some x, some l => some (.rev x l)
            | _, _ => none)
          | some _ => none)
        | some _ => none)
      | _ => match cE C n sc a, cE C n sc i with
        | some x, some y => some (.sub x y)
        | _, _ => none
    | .ListComp elt gs s2 _ => match gs with
      | [⟨t, it, ifs, 0⟩] => (match cTN C s2 8 t, cIt C n sc t it, cIf C n s2 ifs, cE C n s2 elt with
        | some t', some it', some c, some x => if L2.blkC C.N sc s2 (names1 C.N t') then some (.comp x (namesT t') t' it' c) else none
        | _, _, _, _ => none)
      | [⟨t, it, ifs, 0⟩, ⟨t2, it2, ifs2, 0⟩] => (match cTN C s2 8 t, cIt C n sc t it, cIf C n s2 ifs with
        | some t', some it', some c => (match cTN C s2 8 t2, cIt C n s2 t2 it2, cIf C n s2 ifs2, cE C n s2 elt with
          | some t2', some it2', some c2, some x => if L2.blkC C.N sc s2 (names1 C.N t' ++ names1 C.N t2') then some (.comp2 x (namesT t' ++ namesT t2') t' it' c (namesT t2') t2' it2' c2) else none
          | _, _, _, _ => none)
        | _, _, _ => none)
      | _ => none
    | .Call fe args kws pos => match fe with
      | .Name f _ => if okNm f && isGl sc f then (match C.G.lookup f with
        | some (.fn g) => (match kws with
          | [] => (cEs C n sc args).map fun es => .call g es []
          | _ => match args with
            | [] => (match cKw C n sc kws, kwPos (C.P g) 0 (kws.filterMap (·.arg)) with
              | some es, some pm => if nodupS (kws.filterMap (·.arg)) && decide ((kws.filterMap (·.arg)).length = (C.P g).length) && !pm.isEmpty && ((kws.filterMap (·.arg)).all fun k => (C.P g).contains k) then some (.call g es pm) else none
              | _, _ => none)
            | _ => none)
        | some (.cst _) => none
        | none => match kws with
          | [] => if f = "isinstance" then (match args with
              | [a, t] => (match cE C n sc a, cTys C sc t with
                | some x, some us => some (.isi x us)
                | _, _ => none)
              | _ => none)
            else (match rgArg C sc args with
              | some a => if f = "list" then (cE C n sc a).map fun x => .bi .lrange [x] else if f = "tuple" then (cE C n sc a).map fun x => .bi .trange [x] else none
              | none => (match cBi f args.length with
                | some b => (cEs C n sc args).map (.bi b)
                | none => none))
          | _ => none)
        else none
      | .Attribute o m apos => if apos.endLine == pos.line && kws.isEmpty then (match args with
        | [] => if m = "pop" then (match o with
            | .Name x _ => if okNm x && seen sc x && C.O.contains x then (ixOf C.N x).map fun i => .mm .pop0 i [] else none
            | _ => none) else none
        | [a] => if m = "append" then (match o, cE C n sc a with
            | .Name x _, some y => if okNm x && seen sc x && C.O.contains x then (ixOf C.N x).map fun i => .mm .append i [y] else none
            | _, _ => none)
          else if m = "pop" then (match o, cE C n sc a with
            | .Name x _, some y => if okNm x && seen sc x && C.O.contains x then (ixOf C.N x).map fun i => .mm .pop1 i [y] else none
            | _, _ => none)
          else if m = "get" && !isSup o then (match cE C n sc o, cE C n sc a with
            | some x, some y => some (.mp .get1 x [y])
            | _, _ => none)
          else none
        | [a, b] => if m = "get" && !isSup o then (match cE C n sc o, cE C n sc a, cE C n sc b with
            | some x, some y, some z => some (.mp .get2 x [y, z])
            | _, _, _ => none)
          else none
        | _ => none)
        else none
      | _ => none
    | _ => none
def cEs (C : Cc) : Nat → Scope → List Expr → Option (List E)
  | 0, _, _ => none
  | n + 1, sc, es => match es with
    | [] => some []
    | e :: r => match cE C n sc e, cEs C n sc r with
        | some x, some xs => some (x :: xs)
        | _, _ => none
def cKs (C : Cc) : Nat → Scope → List (Option Expr) → List Expr → Option (List E)
  | 0, _, _, _ => none
  | n + 1, sc, ks, vs => match ks, vs with
    | [], [] => some []
    | some k :: ks, v :: vs => (match cE C n sc k, cE C n sc v, cKs C n sc ks vs with
      | some a, some b, some r => some (a :: b :: r)
      | _, _, _ => none)
    | _, _ => none
def cKw (C : Cc) : Nat → Scope → List Keyword → Option (List E)
  | 0, _, _ => none
  | n + 1, sc, ks => match ks with
    | [] => some []
    | ⟨some _, e, _⟩ :: r => (match cE C n sc e, cKw C n sc r with
      | some x, some xs => some (x :: xs)
      | _, _ => none)
    | _ => none
def cO (C : Cc) : Nat → Scope → Option Expr → Option E
  | 0, _, _ => none
  | n + 1, sc, none => some (.cst .non)
  | n + 1, sc, some e => cE C n sc e
def cIf (C : Cc) : Nat → Scope → List Expr → Option E
  | 0, _, _ => none
  | n + 1, sc, [] => some (.cst (.bl true))
  | n + 1, sc, [e] => cE C n sc e
  | _, _, _ => none
def cIt (C : Cc) : Nat → Scope → Expr → Expr → Option It
  | 0, _, _, _ => none
  | n + 1, sc, t, e => match itKind C sc e with
    | 1 => (match itArgs e with
      | [a] => (cE C n sc a).map fun x => .rng [x]
      | [a, b] => (match cE C n sc a, cE C n sc b with
        | some x, some y => some (.rng [x, y])
        | _, _ => none)
      | [a, b, c] => (match cE C n sc a, cE C n sc b, cE C n sc c with
        | some x, some y, some z => some (.rng [x, y, z])
        | _, _, _ => none)
      | _ => none)
    | 2 => if isTupE t then (match itArgs e with
      | [a] => (cE C n sc a).map .enu
      | _ => none) else none
    | _ => (cE C n sc e).map .seq
end

def swF (loc : Str → Bool) (line : Nat) : Expr → Option Str
  | .Name id pos => if loc id && pos.line == line then some id else none
  | _ => none
def swNames (loc : Str → Bool) (ts : List Expr) : List Str := ts.filterMap (swF loc ((ts.head?.map (·.pos.line)).getD 0))
def isStarB : Expr → Bool
  | .Starred _ _ => true
  | _ => false
def swk (fn : Bool) (loc : Str → Bool) (ts vs : List Expr) : Nat :=
  if !(ts.length == 2 || ts.length == 3) || vs.length != ts.length || !fn then 0
  else if vs.any isStarB then 0
  else if (swNames loc ts).length != ts.length || (swNames loc ts).eraseDups.length != (swNames loc ts).length then 0
  else if vs.all (foldedForSure 8) then 0 else if vs.all (constantsAlone 8) then 2 else 1
def locB (sc : Scope) (x : Str) : Bool := match sc.names.lookup x with
  | some .local => true
  | _ => false
/-- what makes a list or dict of its own -/
def frE (F : Nat → Bool) : E → Bool
  | .lst _ => true
  | .dct _ _ => true
  | .comp _ _ _ _ _ => true
  | .comp2 _ _ _ _ _ _ _ _ _ => true
  | .bi .list _ => true
  | .bi .sorted _ => true
  | .bi .lrange _ => true
  | .bin .add _ _ => true
  | .slc _ _ _ => true
  | .rev _ _ => true
  | .call f _ _ => F f
  | .ite _ a b => frE F a && frE F b
  | _ => false
def isLC : Expr → Bool
  | .ListComp _ _ _ _ => true
  | .SetComp _ _ _ _ => true
  | .DictComp _ _ _ _ _ => true
  | _ => false
def cTS (C : Cc) (n : Nat) (sc : Scope) : Expr → Option TS
  | .Name x _ => if isLoc sc x && !C.O.contains x then (ixOf C.N x).map fun i => .tn (.nm i) else none
  | .Subscript o ix _ => match o with
    | .Name x _ => if okNm x && seen sc x && C.O.contains x then (match ixOf C.N x, cE C n sc ix with
      | some i, some y => some (.sb i y)
      | _, _ => none)
      else none
    | _ => none
  | _ => none
/-- plain names, each with whether it owns -/
def cPar (C : Cc) (sc : Scope) : List Expr → Option (List (Nat × Bool))
  | [] => some []
  | t :: r => match t with
    | .Name x _ => if isLoc sc x then (match ixOf C.N x, cPar C sc r with
      | some i, some is => some ((i, C.O.contains x) :: is)
      | _, _ => none)
      else none
    | _ => none
def freshAll (F : Nat → Bool) : List (Nat × Bool) → List E → Bool
  | (_, true) :: ts, e :: es => frE F e && freshAll F ts es
  | (_, false) :: ts, _ :: es => freshAll F ts es
  | [], [] => true
  | _, _ => false
def namesLoc (sc : Scope) (ts : List Expr) : Bool := ts.all fun t => match t with
  | .Name x _ => isLoc sc x
  | _ => true
def isOwn : E → Bool
  | .own _ => true
  | _ => false
def isTupC : E → Bool
  | .tup _ => true
  | _ => false
mutual
/-- may slot i get a new thing of its own? -/
def newS (i : Nat) : S → Bool
  | .new j _ => i == j
  | .par ts _ => ts.any fun t => t.1 == i && t.2
  | .ite _ a b => newSs i a || newSs i b
  | .for_ _ _ b => newSs i b
  | .whl _ b => newSs i b
  | _ => false
def newSs (i : Nat) : List S → Bool
  | [] => false
  | s :: r => newS i s || newSs i r
end
def itOwn : It → Option Nat
  | .seq (.own i) => some i
  | .enu (.own i) => some i
  | _ => none
def noNew (it : It) (b : List S) : Bool := match itOwn it with
  | some i => !newSs i b
  | none => true
/-- x, in x.items() -/
def itmsOf : Expr → Option Str
  | .Call f args kws cp => match f, args, kws with
    | .Attribute o m ap, [], [] => (match o with
      | .Name x _ => if m = "items" && ap.endLine == cp.line then some x else none
      | _ => none)
    | _, _, _ => none
  | _ => none
def isDict0 : Expr → Bool
  | .Dict ks vs _ => ks.isEmpty && vs.isEmpty
  | _ => false
def cR (C : Cc) (n : Nat) (sc : Scope) (e : Expr) : Option E := match e with
  | .Name x _ => if okNm x && seen sc x && C.O.contains x then (ixOf C.N x).map .own else (match cE C n sc e with
    | some c => if isOwn c || isTupC c || (C.fr && !frE C.F c) then none else some c
    | none => none)
  | .Tuple es _ _ => (cEs C n sc es).map .tup
  | _ => (match cE C n sc e with
    | some c => if isOwn c || isTupC c || (C.fr && !frE C.F c) then none else some c
    | none => none)
def cAs (C : Cc) (n : Nat) (sc : Scope) (t e : Expr) : Option S := match t with
  | .Name x _ => if isLoc sc x then (match ixOf C.N x with
    | some i => if C.O.contains x then
        (if isDict0 e then some (.new i (.dct (C.T.contains x) [])) else (match cE C n sc e with
          | some y => if frE C.F y then some (.new i y) else none
          | none => none))
      else (cE C n sc e).map (.asg (.tn (.nm i)))
    | none => none)
    else none
  | .Subscript _ _ _ => (match cTS C n sc t, cE C n sc e with
    | some u, some y => some (.asg u y)
    | _, _ => none)
  | .Tuple ts _ _ => (match e with
    | .Tuple vs _ _ => (match cPar C sc ts with
      | some is => (match cEs C n sc vs with
        | some es => if freshAll C.F is es && decide (swk true (locB sc) ts vs ≤ 1) && decide (is.length ≤ 100) then some (.par is es) else none
        | none => none)
      | none => (match allS (ts.map (cTS C n sc)), cEs C n sc vs with
        | some us, some es => if decide (swk true (locB sc) ts vs = 0) && namesLoc sc ts then some (.asg (.tps us) (.tup es)) else none
        | _, _ => none))
    | _ => (match cTN C sc 8 t, cE C n sc e with
      | some (.tp us), some y => some (.asg (.tn (.tp us)) y)
      | none, some y => (match allS (ts.map (cTS C n sc)) with
        | some us => some (.asg (.tps us) y)
        | none => none)
      | _, _ => none))
  | _ => none
mutual
def cS (C : Cc) : Nat → Scope → Stmt → Option S
  | 0, _, _ => none
  | n + 1, sc, st => match st with
    | .Expr e _ => if isLC e then none else (cE C n sc e).map .exp
    | .Return oe _ => (match oe with
      | none => some (.ret (.cst .non))
      | some e => (cR C n sc e).map .ret)
    | .Assign ts e _ => (match ts with
      | [t] => cAs C n sc t e
      | _ => none)
    | .If c a b _ => (match cE C n sc c, cSs C n sc a, cSs C n sc b with
      | some x, some y, some z => some (.ite x y z)
      | _, _, _ => none)
    | .For t it b els _ => (match els with
      | [] => (match itmsOf it with
        | some x => if isTupE t && okNm x && seen sc x && !C.O.contains x then (match ixOf C.N x, cTN C sc 8 t, cSs C n sc b with
          | some i, some t', some b' => some (.for_ t' (.itms (.var i)) b')
          | _, _, _ => none)
          else none
        | none => (match cTN C sc 8 t, cIt C n sc t it, cSs C n sc b with
          | some t', some it', some b' => if noNew it' b' then some (.for_ t' it' b') else none
          | _, _, _ => none))
      | _ => none)
    | .While c b els _ => (match els with
      | [] => (match cE C n sc c, cSs C n sc b with
        | some x, some y => some (.whl x y)
        | _, _ => none)
      | _ => none)
    | .Pass _ => some .pass
    | .Break _ => some .brk
    | .Continue _ => some .cnt
    | .Raise _ _ _ => some .bad
    | _ => none
def cSs (C : Cc) : Nat → Scope → List Stmt → Option (List S)
  | 0, _, _ => none
  | n + 1, sc, ss => match ss with
    | [] => some []
    | s :: r => (match cS C n sc s, cSs C n sc r with
      | some x, some xs => some (x :: xs)
      | _, _ => none)
end
/-! ### a program -/
structure Hint where
  /-- the def's place among the top's statements, its names by slot (parameters first), the owned ones, dicts with tuple keys -/
  at_ : Nat
  np : Nat
  N : List Str
  O : List Str
  T : List Str
  fresh : Bool
def topOf (b : List Stmt) (i : Nat) : Stmt := b.getD i (.Pass ⟨0, 0, 0, 0⟩)
def refsOf (h : Hint) : List Nat := (List.range h.np).filter fun i => h.O.contains (h.N.getD i "")
def ccOf (hs : List Hint) (G : List (Str × GV)) (h : Hint) : Cc :=
  ⟨h.N, h.O, h.T, G, fun f => match hs[f]? with | some g => g.fresh | none => false, fun f => match hs[f]? with | some g => g.N.take g.np | none => [], h.fresh⟩
def cDf (hs : List Hint) (G : List (Str × GV)) (b : List Stmt) (h : Hint) : Option Df := match topOf b h.at_ with
  | .FunctionDef name _ body _ _ _ sc _ _ _ => (cSs (ccOf hs G h) 200 sc body).map fun ss => ⟨name, h.np, h.N.length, refsOf h, h.fresh, ss⟩
  | _ => none
def cProg (hs : List Hint) (G : List (Str × GV)) (b : List Stmt) : Option (List Df) := allS (hs.map (cDf hs G b))
end Qx
set_option Elab.async false
set_option linter.all false
set_option maxRecDepth 100000
/-! QRel: how plain data stand in the abstract heap. -/
namespace Qx
open PySem PySem.Spec L2

def dK : Key → D
  | .inl i => .int i
  | .inr x => .str x
def dKs (k : List Key) : D := .tup (k.map dK)
/-- the part of the ground that data hang on: the written part, where the defs stand -/
structure Gd where
  K : PySem.W.Frag
  fa : Nat → Option Addr
abbrev AdP := Addr → Prop
/-- a list, a tuple that stands still -/
def KL (K : PySem.W.Frag) (a : Addr) (xs : List V) : Prop := ∃ (o : Obj) (its : Array Value) (n : Nat), K.lookup a = some o ∧ o.cls = .type "list" ∧ o.dict = none ∧ o.data = .seq its n ∧ its.size ≤ sizeLine ∧ Vals xs its.toList
def SqLm (G : Gd) (m : AdP) (H : Hp) (a : Addr) (xs : List V) : Prop := (Rd H a (.lst xs) ∧ ¬ m a) ∨ KL G.K a xs
def SqTm (G : Gd) (m : AdP) (H : Hp) (a : Addr) (xs : List V) : Prop := H a = some (.tup xs) ∧ ¬ m a
theorem SqLm.sq {G : Gd} {m : AdP} {H : Hp} {a : Addr} {xs : List V} (h : SqLm G m H a xs) : SqL G.K H a xs := h.imp (fun z => z.1) id
theorem SqTm.sq {G : Gd} {m : AdP} {H : Hp} {a : Addr} {xs : List V} (h : SqTm G m H a xs) : SqT G.K H a xs := .inl (.inl h.1)
mutual
def Rep (G : Gd) (m : AdP) (H : Hp) : D → V → Prop
  | .non, v => v = .non
  | .bl b, v => v = .bl b
  | .int i, v => v = .int i
  | .str x, v => v = .str x
  | .fn f, v => ∃ a, v = .ref a ∧ G.fa f = some a
  | .tup ds, v => ∃ a xs, v = .ref a ∧ SqTm G m H a xs ∧ Reps G m H ds xs
  | .lst ds, v => ∃ a xs, v = .ref a ∧ SqLm G m H a xs ∧ Reps G m H ds xs
  | .dct false ks vs, v => ∃ a kvs, v = .ref a ∧ Rd H a (.dK kvs) ∧ ¬ m a ∧ ks = kvs.map (fun p => dK p.1) ∧ Reps G m H vs (kvs.map (·.2))
  | .dct true ks vs, v => ∃ a kvs, v = .ref a ∧ Rd H a (.dT kvs) ∧ ¬ m a ∧ ks = kvs.map (fun p => dKs p.1) ∧ Reps G m H vs (kvs.map (·.2))
def Reps (G : Gd) (m : AdP) (H : Hp) : List D → List V → Prop
  | [], xs => xs = []
  | d :: ds, xs => ∃ v vs, xs = v :: vs ∧ Rep G m H d v ∧ Reps G m H ds vs
end
/-- what a slot owns stands at a -/
def OwnAt (G : Gd) (m : AdP) (H : Hp) (a : Addr) : D → Prop
  | .lst ds => ∃ xs, H a = some (.lst xs) ∧ Reps G m H ds xs
  | .dct false ks vs => ∃ kvs, H a = some (.dK kvs) ∧ ks = kvs.map (fun p => dK p.1) ∧ Reps G m H vs (kvs.map (·.2))
  | .dct true ks vs => ∃ kvs, H a = some (.dT kvs) ∧ ks = kvs.map (fun p => dKs p.1) ∧ Reps G m H vs (kvs.map (·.2))
  | _ => False
/-- an operand's thing, still or owned -/
def Vw (G : Gd) (m : AdP) (H : Hp) (d : D) (v : V) : Prop := Rep G m H d v ∨ ∃ a, v = .ref a ∧ OwnAt G m H a d

section
variable {G : Gd} {m m' : AdP} {H H' : Hp}
theorem Rd.sqL {K : PySem.W.Frag} {a : Addr} {xs : List V} (h : Rd H a (.lst xs)) : SqL K H a xs := .inl h
/-- what a step leaves: things that are not to be changed stand; the new marks are of new things -/
structure Kp (m m' : AdP) (H H' : Hp) : Prop where
  keep : ∀ a o, H a = some o → ¬ m a → H' a = some o
  new : ∀ a, m' a → m a ∨ H a = none
theorem Kp.refl : Kp m m H H := ⟨fun _ _ h _ => h, fun _ h => .inl h⟩
theorem Rd.live {a : Addr} {o : HO} (h : Rd H a o) : H a ≠ none := by
  rcases h with h | ⟨o, h⟩ <;> rw [h] <;> exact fun z => nomatch z
theorem Kp.rd {a : Addr} {o : HO} (k : Kp m m' H H') (h : Rd H a o) (n : ¬ m a) : Rd H' a o ∧ ¬ m' a := by
  refine ⟨?_, fun z => ?_⟩
  · rcases h with h | ⟨ob, h⟩
    · exact .inl (k.keep _ _ h n)
    · exact .inr ⟨ob, k.keep _ _ h n⟩
  · rcases k.new a z with z | z
    · exact n z
    · exact Rd.live h z
theorem Kp.sqL {a : Addr} {xs : List V} (k : Kp m m' H H') (h : SqLm G m H a xs) : SqLm G m' H' a xs := h.imp (fun z => k.rd z.1 z.2) id
theorem Kp.sqT {a : Addr} {xs : List V} (k : Kp m m' H H') (h : SqTm G m H a xs) : SqTm G m' H' a xs := ⟨k.keep _ _ h.1 h.2, (k.rd (.inl h.1) h.2).2⟩
mutual
theorem Rep.mono (k : Kp m m' H H') : ∀ (d : D) (v : V), Rep G m H d v → Rep G m' H' d v
  | .non, _, h => by simpa only [Rep] using h
  | .bl _, _, h => by simpa only [Rep] using h
  | .int _, _, h => by simpa only [Rep] using h
  | .str _, _, h => by simpa only [Rep] using h
  | .fn _, _, h => by simpa only [Rep] using h
  | .tup ds, _, h => by
    simp only [Rep] at h ⊢
    obtain ⟨a, xs, e, h1, h2⟩ := h
    exact ⟨a, xs, e, k.sqT h1, Reps.mono k ds xs h2⟩
  | .lst ds, _, h => by
    simp only [Rep] at h ⊢
    obtain ⟨a, xs, e, h1, h2⟩ := h
    exact ⟨a, xs, e, k.sqL h1, Reps.mono k ds xs h2⟩
  | .dct false ks vs, _, h => by
    simp only [Rep] at h ⊢
    obtain ⟨a, kvs, e, h1, h2, h3, h4⟩ := h
    exact ⟨a, kvs, e, (k.rd h1 h2).1, (k.rd h1 h2).2, h3, Reps.mono k vs _ h4⟩
  | .dct true ks vs, _, h => by
    simp only [Rep] at h ⊢
    obtain ⟨a, kvs, e, h1, h2, h3, h4⟩ := h
    exact ⟨a, kvs, e, (k.rd h1 h2).1, (k.rd h1 h2).2, h3, Reps.mono k vs _ h4⟩
theorem Reps.mono (k : Kp m m' H H') : ∀ (ds : List D) (xs : List V), Reps G m H ds xs → Reps G m' H' ds xs
  | [], _, h => by simpa only [Reps] using h
  | d :: ds, _, h => by
    simp only [Reps] at h ⊢
    obtain ⟨v, vs, e, h1, h2⟩ := h
    exact ⟨v, vs, e, Rep.mono k d v h1, Reps.mono k ds vs h2⟩
end

/-! ### rows of data -/
theorem Reps.nil : Reps G m H [] [] := by simp only [Reps]
theorem Reps.cons {d : D} {v : V} {ds : List D} {vs : List V} (h : Rep G m H d v) (t : Reps G m H ds vs) : Reps G m H (d :: ds) (v :: vs) := by
  simp only [Reps]
  exact ⟨v, vs, rfl, h, t⟩
theorem Reps.inv {d : D} {ds : List D} {xs : List V} (h : Reps G m H (d :: ds) xs) : ∃ v vs, xs = v :: vs ∧ Rep G m H d v ∧ Reps G m H ds vs := by
  simpa only [Reps] using h
theorem Reps.inv0 {xs : List V} (h : Reps G m H [] xs) : xs = [] := by simpa only [Reps] using h
theorem Reps.length : ∀ {ds : List D} {xs : List V}, Reps G m H ds xs → ds.length = xs.length
  | [], xs, h => by rw [h.inv0]; rfl
  | d :: ds, xs, h => by
    obtain ⟨v, vs, rfl, _, t⟩ := h.inv
    rw [List.length_cons, List.length_cons, t.length]
theorem Reps.get : ∀ {ds : List D} {xs : List V} {i : Nat} {d : D}, Reps G m H ds xs → ds[i]? = some d → ∃ v, xs[i]? = some v ∧ Rep G m H d v
  | [], _, _, _, _, e => by simp at e
  | d :: ds, xs, 0, d', h, e => by
    obtain ⟨v, vs, rfl, r, t⟩ := h.inv
    simp at e; subst e
    exact ⟨v, rfl, r⟩
  | d :: ds, xs, i + 1, d', h, e => by
    obtain ⟨v, vs, rfl, r, t⟩ := h.inv
    obtain ⟨v', e', r'⟩ := t.get (i := i) (d := d') (by simpa using e)
    exact ⟨v', by simpa using e', r'⟩
theorem Reps.getV : ∀ {ds : List D} {xs : List V} {i : Nat} {v : V}, Reps G m H ds xs → xs[i]? = some v → ∃ d, ds[i]? = some d ∧ Rep G m H d v
  | [], _, _, _, h, e => by rw [h.inv0] at e; simp at e
  | d :: ds, xs, 0, d', h, e => by
    obtain ⟨v, vs, rfl, r, t⟩ := h.inv
    simp at e; subst e
    exact ⟨d, rfl, r⟩
  | d :: ds, xs, i + 1, d', h, e => by
    obtain ⟨v, vs, rfl, r, t⟩ := h.inv
    obtain ⟨v', e', r'⟩ := t.getV (i := i) (v := d') (by simpa using e)
    exact ⟨v', by simpa using e', r'⟩
theorem Reps.append : ∀ {ds es : List D} {xs ys : List V}, Reps G m H ds xs → Reps G m H es ys → Reps G m H (ds ++ es) (xs ++ ys)
  | [], es, xs, ys, h, t => by rw [h.inv0]; exact t
  | d :: ds, es, xs, ys, h, t => by
    obtain ⟨v, vs, rfl, r, t'⟩ := h.inv
    exact .cons r (t'.append t)
theorem Reps.take : ∀ {ds : List D} {xs : List V} (n : Nat), Reps G m H ds xs → Reps G m H (ds.take n) (xs.take n)
  | ds, xs, 0, h => by simp only [List.take_zero]; exact .nil
  | [], xs, n + 1, h => by rw [h.inv0]; exact .nil
  | d :: ds, xs, n + 1, h => by
    obtain ⟨v, vs, rfl, r, t'⟩ := h.inv
    exact .cons r (t'.take n)
theorem Reps.drop : ∀ {ds : List D} {xs : List V} (n : Nat), Reps G m H ds xs → Reps G m H (ds.drop n) (xs.drop n)
  | ds, xs, 0, h => h
  | [], xs, n + 1, h => by rw [h.inv0]; exact .nil
  | d :: ds, xs, n + 1, h => by
    obtain ⟨v, vs, rfl, r, t'⟩ := h.inv
    exact t'.drop n
theorem Reps.reverse : ∀ {ds : List D} {xs : List V}, Reps G m H ds xs → Reps G m H ds.reverse xs.reverse
  | [], xs, h => by rw [h.inv0]; exact .nil
  | d :: ds, xs, h => by
    obtain ⟨v, vs, rfl, r, t'⟩ := h.inv
    rw [List.reverse_cons, List.reverse_cons]
    exact t'.reverse.append (.cons r .nil)
theorem Reps.set : ∀ {ds : List D} {xs : List V} {d : D} {v : V} (i : Nat), Reps G m H ds xs → Rep G m H d v → Reps G m H (ds.set i d) (xs.set i v)
  | [], xs, _, _, i, h, _ => by rw [h.inv0]; exact .nil
  | d :: ds, xs, _, _, 0, h, r => by
    obtain ⟨v, vs, rfl, _, t'⟩ := h.inv
    exact .cons r t'
  | d :: ds, xs, _, _, i + 1, h, r => by
    obtain ⟨v, vs, rfl, r', t'⟩ := h.inv
    exact .cons r' (t'.set i r)
theorem Reps.eraseIdx : ∀ {ds : List D} {xs : List V} (i : Nat), Reps G m H ds xs → Reps G m H (ds.eraseIdx i) (xs.eraseIdx i)
  | [], xs, i, h => by rw [h.inv0]; exact .nil
  | d :: ds, xs, 0, h => by
    obtain ⟨v, vs, rfl, r, t'⟩ := h.inv
    exact t'
  | d :: ds, xs, i + 1, h => by
    obtain ⟨v, vs, rfl, r, t'⟩ := h.inv
    exact .cons r (t'.eraseIdx i)
theorem Reps.dropLast : ∀ {ds : List D} {xs : List V}, Reps G m H ds xs → Reps G m H ds.dropLast xs.dropLast
  | [], xs, h => by rw [h.inv0]; exact .nil
  | [d], xs, h => by
    obtain ⟨v, vs, rfl, r, t'⟩ := h.inv
    rw [t'.inv0]; exact .nil
  | d :: e :: ds, xs, h => by
    obtain ⟨v, vs, rfl, r, t'⟩ := h.inv
    obtain ⟨v', vs', rfl, r', t''⟩ := t'.inv
    exact .cons r (Reps.dropLast t')
theorem Reps.flat {ds : List D} {xs : List V} (h : Reps G m H ds xs) : ∀ k : Nat, Reps G m H (List.replicate k ds).flatten (List.replicate k xs).flatten
  | 0 => .nil
  | k + 1 => by
    rw [List.replicate_succ, List.replicate_succ, List.flatten_cons, List.flatten_cons]
    exact h.append (h.flat k)
theorem Reps.ints : ∀ {ns : List Int} {xs : List V}, Reps G m H (ns.map D.int) xs → xs = ns.map V.int
  | [], xs, h => h.inv0
  | n :: ns, xs, h => by
    obtain ⟨v, vs, rfl, r, t'⟩ := h.inv
    simp only [Rep] at r
    rw [r, t'.ints]; rfl
theorem Reps.of_ints : ∀ (ns : List Int), Reps G m H (ns.map D.int) (ns.map V.int)
  | [] => .nil
  | n :: ns => .cons (by simp only [Rep]) (Reps.of_ints ns)
theorem intsD_eq : ∀ {ds : List D} {ns : List Int}, intsD ds = some ns → ds = ns.map D.int
  | [], ns, h => by simp only [intsD] at h; cases h; rfl
  | .int i :: r, ns, h => by
    simp only [intsD] at h
    cases e : intsD r with
    | none => rw [e] at h; cases h
    | some ms => rw [e] at h; cases h; rw [intsD_eq e]; rfl
  | .non :: r, ns, h | .bl _ :: r, ns, h | .str _ :: r, ns, h | .tup _ :: r, ns, h | .lst _ :: r, ns, h | .dct _ _ _ :: r, ns, h | .fn _ :: r, ns, h => by simp only [intsD] at h; cases h
theorem blsD_eq : ∀ {ds : List D} {ns : List Bool}, blsD ds = some ns → ds = ns.map D.bl
  | [], ns, h => by simp only [blsD] at h; cases h; rfl
  | .bl i :: r, ns, h => by
    simp only [blsD] at h
    cases e : blsD r with
    | none => rw [e] at h; cases h
    | some ms => rw [e] at h; cases h; rw [blsD_eq e]; rfl
  | .non :: r, ns, h | .int _ :: r, ns, h | .str _ :: r, ns, h | .tup _ :: r, ns, h | .lst _ :: r, ns, h | .dct _ _ _ :: r, ns, h | .fn _ :: r, ns, h => by simp only [blsD] at h; cases h
theorem Reps.bls : ∀ {ns : List Bool} {xs : List V}, Reps G m H (ns.map D.bl) xs → xs = ns.map V.bl
  | [], xs, h => h.inv0
  | n :: ns, xs, h => by
    obtain ⟨v, vs, rfl, r, t'⟩ := h.inv
    simp only [Rep] at r
    rw [r, t'.bls]; rfl
theorem OwnAt.mono (k : Kp m m' H H') {a : Addr} {d : D} (e : ∀ o, H a = some o → H' a = some o) (h : OwnAt G m H a d) : OwnAt G m' H' a d := by
  cases d with
  | lst ds => obtain ⟨xs, h1, h2⟩ := h; exact ⟨xs, e _ h1, h2.mono k⟩
  | dct t ks vs =>
    cases t with
    | false => obtain ⟨kvs, h1, h2, h3⟩ := h; exact ⟨kvs, e _ h1, h2, h3.mono k⟩
    | true => obtain ⟨kvs, h1, h2, h3⟩ := h; exact ⟨kvs, e _ h1, h2, h3.mono k⟩
  | non => exact h
  | bl b => exact h
  | int b => exact h
  | str b => exact h
  | tup b => exact h
  | fn b => exact h
/-! ### views -/
theorem Vw.int {i : Int} {v : V} (h : Vw G m H (.int i) v) : v = .int i := by
  rcases h with h | ⟨a, _, h⟩
  · simpa only [Rep] using h
  · exact h.elim
theorem Vw.bl {i : Bool} {v : V} (h : Vw G m H (.bl i) v) : v = .bl i := by
  rcases h with h | ⟨a, _, h⟩
  · simpa only [Rep] using h
  · exact h.elim
theorem Vw.str {i : Str} {v : V} (h : Vw G m H (.str i) v) : v = .str i := by
  rcases h with h | ⟨a, _, h⟩
  · simpa only [Rep] using h
  · exact h.elim
theorem Vw.non {v : V} (h : Vw G m H .non v) : v = .non := by
  rcases h with h | ⟨a, _, h⟩
  · simpa only [Rep] using h
  · exact h.elim
theorem Vw.tup {ds : List D} {v : V} (h : Vw G m H (.tup ds) v) : ∃ a xs, v = .ref a ∧ SqTm G m H a xs ∧ Reps G m H ds xs := by
  rcases h with h | ⟨a, _, h⟩
  · simpa only [Rep] using h
  · exact h.elim
theorem Vw.lst {ds : List D} {v : V} (h : Vw G m H (.lst ds) v) : ∃ a xs, v = .ref a ∧ SqL G.K H a xs ∧ Reps G m H ds xs := by
  rcases h with h | ⟨a, e, xs, h1, h2⟩
  · simp only [Rep] at h
    obtain ⟨a, xs, e, h1, h2⟩ := h
    exact ⟨a, xs, e, h1.sq, h2⟩
  · exact ⟨a, xs, e, .inl (.inl h1), h2⟩
theorem Vw.dctK {ks vs : List D} {v : V} (h : Vw G m H (.dct false ks vs) v) : ∃ a kvs, v = .ref a ∧ Rd H a (.dK kvs) ∧ ks = kvs.map (fun p => dK p.1) ∧ Reps G m H vs (kvs.map (·.2)) := by
  rcases h with h | ⟨a, e, kvs, h1, h2, h3⟩
  · simp only [Rep] at h
    obtain ⟨a, kvs, e, h1, _, h2, h3⟩ := h
    exact ⟨a, kvs, e, h1, h2, h3⟩
  · exact ⟨a, kvs, e, .inl h1, h2, h3⟩
theorem Vw.dctT {ks vs : List D} {v : V} (h : Vw G m H (.dct true ks vs) v) : ∃ a kvs, v = .ref a ∧ Rd H a (.dT kvs) ∧ ks = kvs.map (fun p => dKs p.1) ∧ Reps G m H vs (kvs.map (·.2)) := by
  rcases h with h | ⟨a, e, kvs, h1, h2, h3⟩
  · simp only [Rep] at h
    obtain ⟨a, kvs, e, h1, _, h2, h3⟩ := h
    exact ⟨a, kvs, e, h1, h2, h3⟩
  · exact ⟨a, kvs, e, .inl h1, h2, h3⟩

/-! ### frames -/
structure RE (G : Gd) (A : Nat → Option Addr) (m : AdP) (env : En) (σ : L2.St) (H : Hp) : Prop where
  len : env.length = σ.length
  val : ∀ (i : Nat) (d : D), env[i]? = some (Sl.val d) → ∃ v, σ[i]? = some (some v) ∧ Rep G m H d v
  own : ∀ (i : Nat) (d : D), env[i]? = some (Sl.own d) → ∃ a, A i = some a ∧ σ[i]? = some (some (V.ref a)) ∧ OwnAt G m H a d
  inj : ∀ (i j : Nat) (a : Addr), A i = some a → A j = some a → i = j
  mem : ∀ i a, A i = some a → m a
  live : ∀ a, m a → H a ≠ none
/-- a step of an expression: the owned things may be changed, nothing else -/
structure Nx (A : Nat → Option Addr) (H H' : Hp) : Prop where
  keep : ∀ a o, H a = some o → (∀ i, A i ≠ some a) → H' a = some o
  live : ∀ a, H a ≠ none → H' a ≠ none
theorem Nx.refl {A : Nat → Option Addr} : Nx A H H := ⟨fun _ _ h _ => h, fun _ h => h⟩
theorem Nx.trans {A : Nat → Option Addr} {H1 : Hp} (a : Nx A H H1) (b : Nx A H1 H') : Nx A H H' :=
  ⟨fun x o h n => b.keep x o (a.keep x o h n) n, fun x h => b.live x (a.live x h)⟩
theorem RE.kp {A : Nat → Option Addr} {env : En} {σ : L2.St} (r : RE G A m env σ H) (n : Nx A H H') : Kp m m H H' :=
  ⟨fun a o h z => n.keep a o h fun i e => z (r.mem i a e), fun _ h => .inl h⟩
/-- a new thing that no slot owns -/
theorem Nx.laid {A : Nat → Option Addr} {p : Addr} {o : HO} (h : H p = none) : Nx A H (upd H p o) :=
  ⟨fun a u e _ => by rw [upd_ne (ne_of_none e h)]; exact e, fun a e => by
    by_cases z : a = p
    · subst z; rw [upd_same]; exact fun z => nomatch z
    · rw [upd_ne z]; exact e⟩
theorem RE.same {A : Nat → Option Addr} {env : En} {σ : L2.St} (r : RE G A m env σ H) (n : Nx A H H') (k : ∀ i a o, A i = some a → H a = some o → H' a = some o) : RE G A m env σ H' :=
  ⟨r.len, fun i d e => let ⟨v, h1, h2⟩ := r.val i d e; ⟨v, h1, h2.mono (r.kp n)⟩,
   fun i d e => let ⟨a, h1, h2, h3⟩ := r.own i d e; ⟨a, h1, h2, h3.mono (r.kp n) fun o h => k i a o h1 h⟩, r.inj, r.mem, fun a h => n.live a (r.live a h)⟩
theorem RE.laid {A : Nat → Option Addr} {env : En} {σ : L2.St} {p : Addr} {o : HO} (r : RE G A m env σ H) (h : H p = none) : RE G A m env σ (upd H p o) :=
  r.same (Nx.laid h) fun i a u _ e => by rw [upd_ne (ne_of_none e h)]; exact e
/-- what an operand is -/
def ARep (G : Gd) (A : Nat → Option Addr) (m : AdP) (H : Hp) : Qx.A → V → Prop
  | .v d, v => Rep G m H d v
  | .o i, v => ∃ a, A i = some a ∧ v = .ref a
theorem ARep.mono {A : Nat → Option Addr} (k : Kp m m H H') {a : Qx.A} {v : V} (h : ARep G A m H a v) : ARep G A m H' a v := by
  cases a with
  | v d => exact Rep.mono k d v h
  | o i => exact h
theorem getO_some {env : En} {i : Nat} {d : D} (h : getO env i = some d) : env[i]? = some (Sl.own d) := by
  unfold getO at h
  split at h
  · rename_i e; cases h; exact e
  · cases h
theorem getV_some {env : En} {i : Nat} {d : D} (h : getV env i = some d) : env[i]? = some (Sl.val d) := by
  unfold getV at h
  split at h
  · rename_i e; cases h; exact e
  · cases h
theorem isO_some {env : En} {i : Nat} (h : isO env i = true) : ∃ d, env[i]? = some (Sl.own d) := by
  unfold isO at h
  split at h
  · rename_i d e; exact ⟨d, e⟩
  · cases h
theorem RE.vw {A : Nat → Option Addr} {env : En} {σ : L2.St} (r : RE G A m env σ H) {a : Qx.A} {v : V} {d : D} (h : ARep G A m H a v) (e : resA env a = some d) : Vw G m H d v := by
  cases a with
  | v d' => cases e; exact .inl h
  | o i =>
    obtain ⟨a, h1, h2⟩ := h
    obtain ⟨a', h1', _, h3⟩ := r.own i d (getO_some e)
    rw [h1] at h1'; cases h1'
    exact .inr ⟨a, h2, h3⟩
end
end Qx
set_option Elab.async false
set_option linter.all false
set_option maxRecDepth 100000
set_option maxHeartbeats 4000000
/-! QOps: what the operators, comparisons, subscripts, built-ins do, by plain data. -/
namespace Qx
open PySem PySem.Spec L2

section
variable {G : Gd} {m : AdP} {H H' : Hp}
/-- all that stood stands -/
def Ex (H H' : Hp) : Prop := ∀ a o, H a = some o → H' a = some o
theorem Ex.refl : Ex H H := fun _ _ h => h
theorem Ex.laid {p : Addr} {o : HO} (h : H p = none) : Ex H (upd H p o) := fun a u e => by rw [upd_ne (ne_of_none e h)]; exact e
theorem Ex.kp (e : Ex H H') : Kp m m H H' := ⟨fun a o h _ => e a o h, fun _ h => .inl h⟩
theorem Ex.nx {A : Nat → Option Addr} (e : Ex H H') : Nx A H H' := ⟨fun a o h _ => e a o h, fun a h => by
  cases q : H a with
  | none => exact absurd q h
  | some o => rw [e a o q]; exact fun z => nomatch z⟩
theorem RE.ex {A : Nat → Option Addr} {env : En} {σ : L2.St} (r : RE G A m env σ H) (e : Ex H H') : RE G A m env σ H' := r.same e.nx fun i a o _ h => e a o h
abbrev Live (m : AdP) (H : Hp) : Prop := ∀ a, m a → H a ≠ none
theorem rep_tup {ds : List D} {xs : List V} {p : Addr} (l : Live m H) (hp : H p = none) (h : Reps G m H ds xs) : Rep G m (upd H p (.tup xs)) (.tup ds) (.ref p) := by
  simp only [Rep]
  exact ⟨p, xs, rfl, ⟨upd_same, fun z => l p z hp⟩, h.mono (Ex.laid hp).kp⟩
theorem rep_lst {ds : List D} {xs : List V} {p : Addr} (l : Live m H) (hp : H p = none) (h : Reps G m H ds xs) : Rep G m (upd H p (.lst xs)) (.lst ds) (.ref p) := by
  simp only [Rep]
  exact ⟨p, xs, rfl, .inl ⟨.inl upd_same, fun z => l p z hp⟩, h.mono (Ex.laid hp).kp⟩
theorem Rep.of_int {i : Int} : Rep G m H (.int i) (.int i) := by simp only [Rep]
theorem Rep.of_bl {i : Bool} : Rep G m H (.bl i) (.bl i) := by simp only [Rep]
theorem Rep.of_str {i : Str} : Rep G m H (.str i) (.str i) := by simp only [Rep]
theorem Rep.of_non : Rep G m H .non .non := by simp only [Rep]

/-- what is wanted of an operation's value -/
def NewL (G : Gd) (m : AdP) (H H' : Hp) (d : D) (v : V) : Prop := isC d = true → ∃ ds p xs, d = .lst ds ∧ v = .ref p ∧ H p = none ∧ H' = upd H p (.lst xs) ∧ Reps G m H ds xs
def Gives (G : Gd) (m : AdP) (H : Hp) (d : D) (Q : VK) : Prop := ∀ v H', Ex H H' → Rep G m H' d v → NewL G m H H' d v → Q v H'
theorem NewL.not {v : V} {d : D} (h : isC d = false) : NewL G m H H' d v := fun z => by rw [h] at z; cases z
theorem Gives.tup {ds : List D} {xs : List V} {Q : VK} (l : Live m H) (h : Reps G m H ds xs) (g : Gives G m H (.tup ds) Q) : ∀ p, H p = none → Q (.ref p) (upd H p (.tup xs)) :=
  fun p hp => g _ _ (Ex.laid hp) (rep_tup l hp h) (.not rfl)
theorem Gives.lst {ds : List D} {xs : List V} {Q : VK} (l : Live m H) (h : Reps G m H ds xs) (g : Gives G m H (.lst ds) Q) : ∀ p, H p = none → Q (.ref p) (upd H p (.lst xs)) :=
  fun p hp => g _ _ (Ex.laid hp) (rep_lst l hp h) fun _ => ⟨ds, p, xs, rfl, rfl, hp, rfl, h⟩

/-! ### binary operators -/
theorem sz_eq : SZ = sizeLine := by rw [sizeLine_eq]; rfl
def rCatL (K : PySem.W.Frag) : R2 := fun x y H Q => ∃ l b xs zs, x = .ref l ∧ y = .ref b ∧ SqL K H l xs ∧ SqL K H b zs ∧ xs.length + zs.length ≤ sizeLine ∧ ∀ p, H p = none → Q (.ref p) (upd H p (.lst (xs ++ zs)))
end
section
variable {X : Cx}
theorem op_catL : OpR X (binaryOp .Add) (rCatL X.K) := by
  intro pins s σ H x y v u Q I rx ry h
  obtain ⟨l, b, xs, zs, rfl, rfl, hH, hB, hz, q⟩ := h
  cases rx
  cases ry
  obtain ⟨its, r, ⟨⟨cls, dd, data, sl⟩, n, ho, hc, hdd, hd⟩, _⟩ := I.list hH
  obtain ⟨its2, r2, ⟨⟨cls2, dd2, data2, sl2⟩, n2, ho2, hc2, hdd2, hd2⟩, _⟩ := I.list hB
  simp only at hc hdd hd hc2 hdd2 hd2
  subst hc hdd hd hc2 hdd2 hd2
  have z1 := r.length
  have z2 := r2.length
  have ea : its.toArray ++ its2.toArray = (its ++ its2).toArray := by simp
  refine concat_meets ⟨_, ho, rfl⟩ ⟨_, ho2, rfl⟩ PySem.noFill_list_add PySem.seq_list_add PySem.F.slot_list_add PySem.F.entry_list_add (PySem.F.args_list_add_2 _ _) (PyProof.Rows.list_addW l b its.toArray its2.toArray n n2 none none sl sl2 (by rw [List.size_toArray, List.size_toArray]; omega)) ⟨ho, ho2, ?_⟩
  rw [ea]
  exact ⟨.ref _, _, I.lnew (t' := s.toks) (r.append r2) (by rw [List.length_append]; omega), rfl, q _ I.fresh⟩
end

def opr : Bop → Operator
  | .add => .Add | .sub => .Sub | .mul => .Mult | .fdiv => .FloorDiv | .mod => .Mod | .pow => .Pow | .shl => .LShift | .shr => .RShift | .band => .BitAnd | .bor => .BitOr
/-- a rule by values tells a function of data -/
def Tells (G : Gd) (r : R2) (f : D → D → Option D) : Prop :=
  ∀ (m : AdP) (H : Hp) (dx dy d : D) (x y : V) (Q : VK), Live m H → Vw G m H dx x → Vw G m H dy y → f dx dy = some d → Gives G m H d Q → r x y H Q
theorem gives_int {G : Gd} {m : AdP} {H : Hp} {i : Int} {Q : VK} (g : Gives G m H (.int i) Q) : Q (.int i) H := g _ _ Ex.refl Rep.of_int (.not rfl)
theorem gives_bl {G : Gd} {m : AdP} {H : Hp} {i : Bool} {Q : VK} (g : Gives G m H (.bl i) Q) : Q (.bl i) H := g _ _ Ex.refl Rep.of_bl (.not rfl)
theorem gives_str {G : Gd} {m : AdP} {H : Hp} {i : Str} {Q : VK} (g : Gives G m H (.str i) Q) : Q (.str i) H := g _ _ Ex.refl Rep.of_str (.not rfl)
section
variable {X : Cx} {G : Gd}
theorem log_of_lt {n : Nat} (h : n < 2 ^ 4000) : n.log2 < 4000 := by
  by_cases z : n = 0
  · subst z; decide
  · exact (Nat.log2_lt z).mpr h
theorem bin_add (hK : X.K = G.K) : ∃ r : R2, OpR X (binaryOp .Add) r ∧ Tells G r addB := by
  refine ⟨_, (op_add.or op_add_str).or (op_catA.or op_catL), fun m H dx dy d x y Q l hx hy e g => ?_⟩
  rw [hK]
  unfold addB at e
  split at e <;> (try cases e)
  case h_1 => exact .inl (.inl ⟨_, _, hx.int, hy.int, gives_int g⟩)
  case h_2 =>
    split at e <;> cases e
    rename_i hz
    exact .inl (.inr ⟨_, _, hx.str, hy.str, sz_eq ▸ hz, gives_str g⟩)
  case h_3 _ _ xs ys =>
    split at e <;> cases e
    rename_i hz
    obtain ⟨a, vs, rfl, h1, h2⟩ := hx.tup
    obtain ⟨b, ws, rfl, h3, h4⟩ := hy.tup
    have e1 := h2.length
    have e2 := h4.length
    refine .inr (.inl ⟨a, b, vs, ws, rfl, rfl, h1.sq, h3.sq, by rw [← e1, ← e2]; exact sz_eq ▸ hz, fun z => ?_, fun z z' => ?_, fun _ _ => g.tup l (h2.append h4)⟩)
    · rw [z] at e1
      have e3 : xs = [] := List.eq_nil_of_length_eq_zero e1
      subst e3
      refine g _ _ Ex.refl ?_ (.not rfl)
      simp only [Rep]
      exact ⟨b, ws, rfl, h3, h4⟩
    · rw [z'] at e2
      have e3 : ys = [] := List.eq_nil_of_length_eq_zero e2
      subst e3
      refine g _ _ Ex.refl ?_ (.not rfl)
      simp only [Rep, List.append_nil]
      exact ⟨a, vs, rfl, h1, h2⟩
  case h_4 _ _ xs ys =>
    split at e <;> cases e
    rename_i hz
    obtain ⟨a, vs, rfl, h1, h2⟩ := hx.lst
    obtain ⟨b, ws, rfl, h3, h4⟩ := hy.lst
    exact .inr (.inr ⟨a, b, vs, ws, rfl, rfl, h1, h3, by rw [← h2.length, ← h4.length]; exact sz_eq ▸ hz, g.lst l (h2.append h4)⟩)
theorem bin_sub : ∃ r : R2, OpR X (binaryOp .Sub) r ∧ Tells G r subB := by
  refine ⟨_, op_sub, fun m H dx dy d x y Q l hx hy e g => ?_⟩
  unfold subB at e
  split at e <;> (try cases e)
  exact ⟨_, _, hx.int, hy.int, gives_int g⟩
theorem bin_mul (hK : X.K = G.K) : ∃ r : R2, OpR X (binaryOp .Mult) r ∧ Tells G r mulB := by
  refine ⟨_, (op_mul.or op_mulW).or op_repT, fun m H dx dy d x y Q l hx hy e g => ?_⟩
  rw [hK]
  unfold mulB at e
  split at e <;> (try cases e)
  · split at e <;> cases e
    rename_i i j hm
    simp only [mulOk, Bool.or_eq_true, Bool.and_eq_true, decide_eq_true_eq] at hm
    rcases hm with (h | h) | ⟨h1, h2⟩
    · exact .inl (.inl ⟨_, _, hx.int, hy.int, .inl h, gives_int g⟩)
    · exact .inl (.inl ⟨_, _, hx.int, hy.int, .inr h, gives_int g⟩)
    · refine .inl (.inr ⟨_, _, hx.int, hy.int, ?_, gives_int g⟩)
      have a1 := log_of_lt h1
      have a2 := log_of_lt h2
      show i.natAbs.log2 + j.natAbs.log2 < 1000000
      omega
  · split at e <;> cases e
    rename_i hz
    obtain ⟨h1, h2, h3, h4⟩ := hz
    obtain ⟨a, vs, rfl, k1, k2⟩ := hx.tup
    have e1 := k2.length
    refine .inr ⟨a, _, vs, rfl, hy.int, k1.sq, fun z => h3 ?_, h1, h2, by omega, g.tup l (k2.flat _)⟩
    rw [z] at e1
    exact List.eq_nil_of_length_eq_zero e1
theorem bin_fdiv : ∃ r : R2, OpR X (binaryOp .FloorDiv) r ∧ Tells G r divB := by
  refine ⟨_, op_fdivW, fun m H dx dy d x y Q l hx hy e g => ?_⟩
  unfold divB at e
  split at e <;> (try cases e)
  split at e <;> cases e
  rename_i hz
  exact ⟨_, _, hx.int, hy.int, wide_div (b := 64) hz.1 (by have := hz.2; have := hz.1; omega) (by decide) (by decide), gives_int g⟩
theorem bin_mod : ∃ r : R2, OpR X (binaryOp .Mod) r ∧ Tells G r modB := by
  refine ⟨_, op_mod, fun m H dx dy d x y Q l hx hy e g => ?_⟩
  unfold modB at e
  split at e <;> (try cases e)
  split at e <;> cases e
  rename_i hz
  exact ⟨_, _, hx.int, hy.int, hz, gives_int g⟩
theorem bin_pow : ∃ r : R2, OpR X (binaryOp .Pow) r ∧ Tells G r powB := by
  refine ⟨_, op_pow, fun m H dx dy d x y Q l hx hy e g => ?_⟩
  unfold powB at e
  split at e <;> (try cases e)
  split at e <;> cases e
  rename_i hz
  exact ⟨_, _, hx.int, hy.int, hz, gives_int g⟩
theorem bin_shl : ∃ r : R2, OpR X (binaryOp .LShift) r ∧ Tells G r shlB := by
  refine ⟨_, op_shl, fun m H dx dy d x y Q l hx hy e g => ?_⟩
  unfold shlB at e
  split at e <;> (try cases e)
  split at e <;> cases e
  rename_i hz
  exact ⟨_, _, hx.int, hy.int, hz, gives_int g⟩
theorem bin_shr : ∃ r : R2, OpR X (binaryOp .RShift) r ∧ Tells G r shrB := by
  refine ⟨_, op_shr, fun m H dx dy d x y Q l hx hy e g => ?_⟩
  unfold shrB at e
  split at e <;> (try cases e)
  split at e <;> cases e
  rename_i hz
  exact ⟨_, _, hx.int, hy.int, hz, gives_int g⟩
theorem bin_and : ∃ r : R2, OpR X (binaryOp .BitAnd) r ∧ Tells G r andB := by
  refine ⟨_, op_and, fun m H dx dy d x y Q l hx hy e g => ?_⟩
  unfold andB at e
  split at e <;> (try cases e)
  exact ⟨_, _, hx.int, hy.int, gives_int g⟩
theorem bin_or : ∃ r : R2, OpR X (binaryOp .BitOr) r ∧ Tells G r orB := by
  refine ⟨_, op_or, fun m H dx dy d x y Q l hx hy e g => ?_⟩
  unfold orB at e
  split at e <;> (try cases e)
  exact ⟨_, _, hx.int, hy.int, gives_int g⟩
theorem bin_ok (hK : X.K = G.K) : ∀ op : Bop, ∃ r : R2, OpR X (binaryOp (opr op)) r ∧ Tells G r (binD op)
  | .add => bin_add hK | .sub => bin_sub | .mul => bin_mul hK | .fdiv => bin_fdiv | .mod => bin_mod | .pow => bin_pow | .shl => bin_shl | .shr => bin_shr | .band => bin_and | .bor => bin_or
end

/-! ### comparisons -/
mutual
def pd : D → PyData
  | .bl b => .bool b
  | .int i => .int i
  | .str x => .str x
  | .tup ds => .tuple (pds ds)
  | .lst ds => .list (pds ds)
  | _ => .none
def pds : List D → List PyData
  | [] => []
  | d :: ds => pd d :: pds ds
end
theorem pds_map : ∀ ds : List D, pds ds = ds.map pd
  | [] => rfl
  | d :: ds => by rw [pds, pds_map ds]; rfl
mutual
theorem eqv_pd : ∀ (n k : Nat) (x y : D), dok n x = true → dok k y = true → PyData.eqv (pd x) (pd y) = eqD x y
  | n, k, .non, y, _, hy => by
    cases y <;> simp only [pd, PyData.eqv, eqD] <;> (try (cases k <;> simp [dok] at hy))
  | n, k, .bl a, y, _, hy => by
    cases y <;> simp only [pd, PyData.eqv, eqD] <;> (try (cases k <;> simp [dok] at hy))
  | n, k, .int a, y, _, hy => by
    cases y <;> simp only [pd, PyData.eqv, eqD] <;> (try (cases k <;> simp [dok] at hy))
  | n, k, .str a, y, _, hy => by
    cases y <;> simp only [pd, PyData.eqv, eqD] <;> (try (cases k <;> simp [dok] at hy))
  | n + 1, k, .tup xs, y, hx, hy => by
    cases y <;> simp only [pd, PyData.eqv, eqD]
    rename_i ys
    cases k with
    | zero => simp [dok] at hy
    | succ k =>
      simp only [dok] at hx hy
      exact eqv_pds n k xs ys hx hy
  | n + 1, k, .lst xs, y, hx, hy => by
    cases y <;> simp only [pd, PyData.eqv, eqD]
    rename_i ys
    cases k with
    | zero => simp [dok] at hy
    | succ k =>
      simp only [dok] at hx hy
      exact eqv_pds n k xs ys hx hy
  | 0, k, .tup xs, y, hx, hy => by simp [dok] at hx
  | 0, k, .lst xs, y, hx, hy => by simp [dok] at hx
  | n, k, .dct _ _ _, y, hx, hy => by cases n <;> simp [dok] at hx
  | n, k, .fn _, y, hx, hy => by cases n <;> simp [dok] at hx
theorem eqv_pds : ∀ (n k : Nat) (xs ys : List D), xs.all (dok n) = true → ys.all (dok k) = true → PyData.eqvAll (pds xs) (pds ys) = eqDs xs ys
  | n, k, [], [], _, _ => by simp only [pds, PyData.eqvAll, eqDs]
  | n, k, [], y :: ys, _, _ => by simp only [pds, PyData.eqvAll, eqDs]
  | n, k, x :: xs, [], _, _ => by simp only [pds, PyData.eqvAll, eqDs]
  | n, k, x :: xs, y :: ys, hx, hy => by
    simp only [List.all_cons, Bool.and_eq_true] at hx hy
    simp only [pds, PyData.eqvAll, eqDs]
    rw [eqv_pd n k x y hx.1 hy.1, eqv_pds n k xs ys hx.2 hy.2]
end
mutual
theorem lay_pd : ∀ (n : Nat) (x : D), dok n x = true → PyData.canLay0 (pd x) = true ∧ (pd x).depth ≤ n
  | n, .non, _ => by simp [pd, PyData.canLay0, PyData.depth]
  | n, .bl _, _ => by simp [pd, PyData.canLay0, PyData.depth]
  | n, .int _, _ => by simp [pd, PyData.canLay0, PyData.depth]
  | n, .str s, h => by
    have h' : PyData.strOk s = true := by cases n <;> simpa [dok] using h
    simp [pd, PyData.canLay0, PyData.depth, h']
  | n + 1, .tup xs, h => by
    simp only [dok] at h
    have := lay_pds n xs h
    simp only [pd, PyData.canLay0, PyData.depth]
    exact ⟨this.1, by omega⟩
  | n + 1, .lst xs, h => by
    simp only [dok] at h
    have := lay_pds n xs h
    simp only [pd, PyData.canLay0, PyData.depth]
    exact ⟨this.1, by omega⟩
  | 0, .tup xs, h => by simp [dok] at h
  | 0, .lst xs, h => by simp [dok] at h
  | n, .dct _ _ _, h => by cases n <;> simp [dok] at h
  | n, .fn _, h => by cases n <;> simp [dok] at h
theorem lay_pds : ∀ (n : Nat) (xs : List D), xs.all (dok n) = true → PyData.canLayAll0 (pds xs) = true ∧ PyData.depthAll (pds xs) ≤ n
  | n, [], _ => by simp [pds, PyData.canLayAll0, PyData.depthAll]
  | n, x :: xs, h => by
    simp only [List.all_cons, Bool.and_eq_true] at h
    have a := lay_pd n x h.1
    have b := lay_pds n xs h.2
    simp only [pds, PyData.canLayAll0, PyData.depthAll, Bool.and_eq_true]
    exact ⟨⟨a.1, b.1⟩, by omega⟩
end
theorem shaped_pd {n : Nat} {x : D} (h : dok n x = true) (hn : n ≤ 64) : SeqAt.shaped (pd x) = true := by
  have a := lay_pd n x h
  unfold SeqAt.shaped
  rw [a.1, Bool.true_and]
  exact decide_eq_true (by omega)
section
variable {G : Gd} {m : AdP} {H : Hp}
mutual
theorem dp_rep : ∀ (n : Nat) (x : D) (v : V), dok n x = true → Rep G m H x v → Dp G.K H v (pd x)
  | n, .non, v, _, r => by simp only [Rep] at r; subst r; simp only [pd]; exact .non
  | n, .bl _, v, _, r => by simp only [Rep] at r; subst r; simp only [pd]; exact .bl _
  | n, .int _, v, _, r => by simp only [Rep] at r; subst r; simp only [pd]; exact .int _
  | n, .str _, v, _, r => by simp only [Rep] at r; subst r; simp only [pd]; exact .str _
  | n + 1, .tup xs, v, h, r => by
    simp only [Rep] at r
    simp only [dok] at h
    obtain ⟨a, vs, rfl, h1, h2⟩ := r
    simp only [pd]
    exact .tup h1.sq (dp_reps n xs vs h h2)
  | n + 1, .lst xs, v, h, r => by
    simp only [Rep] at r
    simp only [dok] at h
    obtain ⟨a, vs, rfl, h1, h2⟩ := r
    simp only [pd]
    exact .lst h1.sq (dp_reps n xs vs h h2)
  | 0, .tup xs, _, h, _ => by simp [dok] at h
  | 0, .lst xs, _, h, _ => by simp [dok] at h
  | n, .dct _ _ _, _, h, _ => by cases n <;> simp [dok] at h
  | n, .fn _, _, h, _ => by cases n <;> simp [dok] at h
theorem dp_reps : ∀ (n : Nat) (xs : List D) (vs : List V), xs.all (dok n) = true → Reps G m H xs vs → DpAll G.K H vs (pds xs)
  | n, [], vs, _, r => by rw [r.inv0]; simp only [pds]; exact .nil
  | n, x :: xs, vs, h, r => by
    simp only [List.all_cons, Bool.and_eq_true] at h
    obtain ⟨v, ws, rfl, h1, h2⟩ := r.inv
    simp only [pds]
    exact .cons (dp_rep n x v h.1 h1) (dp_reps n xs ws h.2 h2)
end
theorem dp_vw {n : Nat} {x : D} {v : V} (h : dok n x = true) (r : Vw G m H x v) : Dp G.K H v (pd x) := by
  rcases r with r | ⟨a, rfl, r⟩
  · exact dp_rep n x v h r
  · cases x with
    | lst ds =>
      obtain ⟨xs, h1, h2⟩ := r
      cases n with
      | zero => simp [dok] at h
      | succ n =>
        simp only [dok] at h
        simp only [pd]
        exact .lst (.of h1) (dp_reps n ds xs h h2)
    | dct t ks vs => cases n <;> simp [dok] at h
    | _ => exact r.elim
end
def rEq0 (neg : Bool) : R2 := fun x y H Q => ∃ a b ks, x = .ref a ∧ y = .ref b ∧ Rd H a (.dK ks) ∧ Rd H b (.dK []) ∧ Q (.bl (if neg then !ks.isEmpty else ks.isEmpty)) H
section
variable {X : Cx} {G : Gd}
theorem op_eq0 (hu : X.A.units < cLine) : OpR X (compareOp .Eq) (rEq0 false) := by
  intro pins s σ H x y v u Q I rx ry h
  obtain ⟨a, b, ks, rfl, rfl, ea, eb, q⟩ := h
  obtain rfl : v = Value.ref a := rx
  obtain rfl : u = Value.ref b := ry
  obtain ⟨_, ya, va, ra, da⟩ := dk_rd I.hok ea
  obtain ⟨_, yb, vb, rb, db⟩ := dk_rd I.hok eb
  cases rb
  refine PySem.W.keq_eq (knd := mixKind X.prog X.w) (r := true) ya yb da db hu (fun e => ?_) (fin_bl I q ?_)
  · have : va = [] := List.eq_nil_of_length_eq_zero e
    subst this
    exact .nil
  · have := ra.length
    cases va with
    | nil => rw [List.eq_nil_of_length_eq_zero this]; rfl
    | cons p r => cases ks with
      | nil => simp at this
      | cons q r' => rfl
theorem op_ne0 (hu : X.A.units < cLine) : OpR X (compareOp .NotEq) (rEq0 true) := by
  intro pins s σ H x y v u Q I rx ry h
  obtain ⟨a, b, ks, rfl, rfl, ea, eb, q⟩ := h
  obtain rfl : v = Value.ref a := rx
  obtain rfl : u = Value.ref b := ry
  obtain ⟨_, ya, va, ra, da⟩ := dk_rd I.hok ea
  obtain ⟨_, yb, vb, rb, db⟩ := dk_rd I.hok eb
  cases rb
  refine PySem.W.keq_ne (knd := mixKind X.prog X.w) (r := true) ya yb da db hu (fun e => ?_) (fin_bl I q ?_)
  · have : va = [] := List.eq_nil_of_length_eq_zero e
    subst this
    exact .nil
  · have := ra.length
    cases va with
    | nil => rw [List.eq_nil_of_length_eq_zero this]; rfl
    | cons p r => cases ks with
      | nil => simp at this
      | cons q r' => rfl
end

/-! ### keys -/
theorem key_of_ok {x : D} (h : keyOk false x = true) : ∃ k, x = dK k := by
  cases x <;> simp [keyOk] at h
  · exact ⟨.inl _, rfl⟩
  · exact ⟨.inr _, rfl⟩
theorem isKey_of {x : D} (h : isKey x = true) : ∃ k, x = dK k := by
  cases x <;> simp [isKey] at h
  · exact ⟨.inl _, rfl⟩
  · exact ⟨.inr _, rfl⟩
theorem keys_of_all : ∀ {ds : List D}, ds.all isKey = true → ∃ ks : List Key, ds = ks.map dK
  | [], _ => ⟨[], rfl⟩
  | d :: ds, h => by
    simp only [List.all_cons, Bool.and_eq_true] at h
    obtain ⟨k, rfl⟩ := isKey_of h.1
    obtain ⟨ks, rfl⟩ := keys_of_all h.2
    exact ⟨k :: ks, rfl⟩
theorem keys_of_ok {x : D} (h : keyOk true x = true) : ∃ ks, x = dKs ks := by
  cases x <;> simp [keyOk] at h
  rename_i ds
  obtain ⟨ks, rfl⟩ := keys_of_all (ds := ds) (List.all_eq_true.mpr h)
  exact ⟨ks, rfl⟩
theorem eqD_dK (a b : Key) : eqD (dK a) (dK b) = decide (a = b) := by
  cases a <;> cases b <;> simp [dK, eqD]
  · rw [Bool.eq_iff_iff]; simp
  · rw [Bool.eq_iff_iff]; simp
theorem eqDs_dK : ∀ (a b : List Key), eqDs (a.map dK) (b.map dK) = decide (a = b)
  | [], [] => by simp [eqDs]
  | [], b :: bs => by simp [eqDs]
  | a :: as, [] => by simp [eqDs]
  | a :: as, b :: bs => by
    simp only [List.map_cons, eqDs]
    rw [eqD_dK, eqDs_dK as bs, Bool.eq_iff_iff]
    simp
theorem eqD_dKs (a b : List Key) : eqD (dKs a) (dKs b) = decide (a = b) := by
  unfold dKs
  simp only [eqD]
  exact eqDs_dK a b
section
variable {G : Gd} {m : AdP} {H : Hp}
theorem Rep.dK {k : Key} {v : V} (h : Rep G m H (dK k) v) : v = kV k := by
  cases k <;> simpa only [Qx.dK, Rep, kV] using h
theorem Rep.of_dK {k : Key} : Rep G m H (Qx.dK k) (kV k) := by
  cases k <;> simp only [Qx.dK, Rep, kV]
theorem Reps.dKs : ∀ {ks : List Key} {xs : List V}, Reps G m H (ks.map Qx.dK) xs → xs = ks.map kV
  | [], xs, h => h.inv0
  | k :: ks, xs, h => by
    obtain ⟨v, vs, rfl, h1, h2⟩ := h.inv
    rw [h1.dK, h2.dKs]; rfl
theorem Rep.dKs {k : List Key} {v : V} (h : Rep G m H (dKs k) v) : ∃ b, v = .ref b ∧ H b = some (.tup (k.map kV)) := by
  simp only [Qx.dKs, Rep] at h
  obtain ⟨a, xs, rfl, h1, h2⟩ := h
  rw [h2.dKs] at h1
  exact ⟨a, rfl, h1.1⟩
theorem Vw.rep {d : D} {v : V} (h : Vw G m H d v) (n : ∀ a, ¬ OwnAt G m H a d) : Rep G m H d v := h.elim id fun ⟨a, _, h⟩ => (n a h).elim
theorem Vw.dK {k : Key} {v : V} (h : Vw G m H (Qx.dK k) v) : v = kV k := (h.rep fun a z => by cases k <;> exact z).dK
theorem Vw.dKs {k : List Key} {v : V} (h : Vw G m H (Qx.dKs k) v) : ∃ b, v = .ref b ∧ H b = some (.tup (k.map kV)) := (h.rep fun a z => z).dKs
/-- found here, found there -/
def LookR (G : Gd) (m : AdP) (H : Hp) : Option D → Option V → Prop
  | some d, some v => Rep G m H d v
  | none, none => True
  | _, _ => False
theorem look_val {κ : Type} [DecidableEq κ] {f : κ → D} (hf : ∀ a b, eqD (f a) (f b) = decide (a = b)) (k : κ) : ∀ {kvs : List (κ × V)} {vs : List D}, Reps G m H vs (kvs.map (·.2)) →
    LookR G m H (lookD (f k) (kvs.map fun p => f p.1) vs) (valV kvs k)
  | [], vs, h => by
    rw [List.map_nil] at h
    have := h.length
    cases vs with
    | nil => exact True.intro
    | cons d ds => simp at this
  | p :: kvs, [], h => by have := h.length; simp at this
  | p :: kvs, d :: ds, h => by
    rw [List.map_cons] at h
    obtain ⟨v, ws, e, h1, h2⟩ := h.inv
    cases e
    rw [List.map_cons]
    simp only [lookD]
    rw [hf]
    by_cases e : p.1 = k
    · rw [decide_eq_true e, if_pos rfl, valV_pos e]
      exact h1
    · rw [decide_eq_false e, if_neg (by decide), valV_neg e]
      exact look_val hf k h2
/-- the dict's answer for a key, by data -/
theorem dget_vw {t : Bool} {ks vs : List D} {k : D} {x y : V} (hx : Vw G m H (.dct t ks vs) x) (hy : Vw G m H k y) (hk : keyOk t k = true) :
    ∃ a o, x = .ref a ∧ DGet H a y o ∧ LookR G m H (lookD k ks vs) o ∧ IsD H a := by
  cases t with
  | false =>
    obtain ⟨q, rfl⟩ := key_of_ok hk
    obtain ⟨a, kvs, rfl, h1, rfl, h3⟩ := hx.dctK
    exact ⟨a, _, rfl, .inl ⟨kvs, q, h1, hy.dK, rfl⟩, look_val eqD_dK q h3, .inl ⟨kvs, h1⟩⟩
  | true =>
    obtain ⟨q, rfl⟩ := keys_of_ok hk
    obtain ⟨a, kvs, rfl, h1, rfl, h3⟩ := hx.dctT
    obtain ⟨b, rfl, h4⟩ := hy.dKs
    exact ⟨a, _, rfl, .inr ⟨kvs, q, b, h1, rfl, h4, rfl⟩, look_val eqD_dKs q h3, .inr ⟨kvs, h1⟩⟩
end

/-! ### in, the comparisons -/
def rInT (K : PySem.W.Frag) (neg : Bool) : R2 := fun x y H Q => ∃ d ds, Dp K H x d ∧ Dp K H y (.tuple ds) ∧ SeqAt.shaped d = true ∧ SeqAt.shaped (.tuple ds) = true ∧ Q (.bl (if neg then !ds.any fun z => PyData.eqv z d else ds.any fun z => PyData.eqv z d)) H
def rInDt (neg : Bool) : R2 := fun x y H Q => ∃ a o, y = .ref a ∧ DGet H a x o ∧ Q (.bl (if neg then !o.isSome else o.isSome)) H
section
variable {X : Cx} {G : Gd}
theorem lay_tup {ds : List PyData} (h : SeqAt.shaped (.tuple ds) = true) : PyData.canLayAll0 ds = true := by
  unfold SeqAt.shaped at h
  rw [Bool.and_eq_true] at h
  simpa only [PyData.canLay0] using h.1
theorem op_inT (hu : X.A.units + 65 < cLine) : OpR X (compareOp .In) (rInT X.K false) := by
  intro pins s σ H x y v u Q I rx ry h
  obtain ⟨d, ds, hd, he, sd, se, q⟩ := h
  obtain ⟨as, r1⟩ := Dp.reads I d x v hd rx
  obtain ⟨bs, r2⟩ := Dp.reads I (.tuple ds) y u he ry
  exact SeqAt.in_tuple_reads r2 r1 (lay_tup se) (SeqAt.canLay_of_shaped sd) (PyProof.Rows.room_in_shaped sd hu) ⟨.bl _, H, I, rfl, q⟩
theorem op_notInT (hu : X.A.units + 65 < cLine) : OpR X (compareOp .NotIn) (rInT X.K true) := by
  intro pins s σ H x y v u Q I rx ry h
  obtain ⟨d, ds, hd, he, sd, se, q⟩ := h
  obtain ⟨as, r1⟩ := Dp.reads I d x v hd rx
  obtain ⟨bs, r2⟩ := Dp.reads I (.tuple ds) y u he ry
  exact SeqAt.notIn_tuple_reads r2 r1 (lay_tup se) (SeqAt.canLay_of_shaped sd) (PyProof.Rows.room_in_shaped sd hu) ⟨.bl _, H, I, rfl, q⟩
theorem op_inDt (hu : X.A.units + 1 < cLine) : OpR X (compareOp .In) (rInDt false) := by
  intro pins s σ H x y v u Q I rx ry h
  obtain ⟨a, o, rfl, g, q⟩ := h
  cases ry
  exact d_in hu I g rx fun s' I' => ⟨.bl _, H, I', rfl, q⟩
theorem op_notInDt (hu : X.A.units + 1 < cLine) : OpR X (compareOp .NotIn) (rInDt true) := by
  intro pins s σ H x y v u Q I rx ry h
  obtain ⟨a, o, rfl, g, q⟩ := h
  cases ry
  exact d_notIn hu I g rx fun s' I' => ⟨.bl _, H, I', rfl, q⟩
/-- a rule by values tells a question -/
def TellsB (G : Gd) (r : R2) (f : D → D → Option Bool) : Prop :=
  ∀ (m : AdP) (H : Hp) (dx dy : D) (b : Bool) (x y : V) (Q : VK), Live m H → Vw G m H dx x → Vw G m H dy y → f dx dy = some b → Q (.bl b) H → r x y H Q
theorem dok_lst {n : Nat} {ds : List D} (h : ds.all (dok n) = true) : dok (n + 1) (.lst ds) = true := by simpa only [dok] using h
theorem dok_tup {n : Nat} {ds : List D} (h : ds.all (dok n) = true) : dok (n + 1) (.tup ds) = true := by simpa only [dok] using h
theorem any_pd {n : Nat} {x : D} (hx : dok n x = true) : ∀ {ds : List D}, ds.all (dok n) = true → ((pds ds).any fun z => PyData.eqv z (pd x)) = ds.any fun y => eqD y x
  | [], _ => rfl
  | d :: ds, h => by
    simp only [List.all_cons, Bool.and_eq_true] at h
    simp only [pds, List.any_cons]
    rw [eqv_pd n n d x h.1 hx, any_pd hx h.2]
theorem LookR.some_eq {m : AdP} {H : Hp} {o : Option D} {p : Option V} (h : LookR G m H o p) : o.isSome = p.isSome := by
  cases o <;> cases p <;> first | rfl | exact h.elim
theorem c_in (hK : X.K = G.K) (hu : X.A.units + 65 < cLine) : ∃ r : R2, OpR X (compareOp .In) r ∧ TellsB G r inD := by
  refine ⟨_, ((op_inD hu).or (op_inT hu)).or (op_inDt (by omega)), fun m H dx dy b x y Q l hx hy e q => ?_⟩
  rw [hK]
  unfold inD at e
  split at e <;> (try cases e)
  · split at e <;> cases e
    rename_i ds hd
    rw [Bool.and_eq_true] at hd
    refine .inl (.inr ⟨pd dx, pds ds, dp_vw hd.1 hx, ?_, shaped_pd hd.1 (by decide), ?_, ?_⟩)
    · have := dp_vw (dok_tup hd.2) hy
      simpa only [pd] using this
    · have := shaped_pd (dok_tup hd.2) (by decide)
      simpa only [pd] using this
    · rw [if_neg (by decide), any_pd hd.1 hd.2]; exact q
  · split at e <;> cases e
    rename_i ds hd
    rw [Bool.and_eq_true] at hd
    refine .inl (.inl ⟨pd dx, pds ds, dp_vw hd.1 hx, ?_, shaped_pd hd.1 (by decide), ?_, ?_⟩)
    · have := dp_vw (dok_lst hd.2) hy
      simpa only [pd] using this
    · have := shaped_pd (dok_lst hd.2) (by decide)
      simpa only [pd] using this
    · rw [any_pd hd.1 hd.2]; exact q
  · split at e <;> cases e
    rename_i hk
    obtain ⟨a, o, rfl, h1, h2, _⟩ := dget_vw hy hx hk
    refine .inr ⟨a, o, rfl, h1, ?_⟩
    rw [if_neg (by decide), ← h2.some_eq]; exact q
theorem map_not {o : Option Bool} {b : Bool} (h : o.map (!·) = some b) : ∃ c, o = some c ∧ b = !c := by
  cases o with
  | none => cases h
  | some c => cases h; exact ⟨c, rfl, rfl⟩
theorem c_nin (hK : X.K = G.K) (hu : X.A.units + 65 < cLine) : ∃ r : R2, OpR X (compareOp .NotIn) r ∧ TellsB G r (fun x y => (inD x y).map (!·)) := by
  refine ⟨_, ((op_notInD hu).or (op_notInT hu)).or (op_notInDt (by omega)), fun m H dx dy b x y Q l hx hy e q => ?_⟩
  rw [hK]
  obtain ⟨c, e2, rfl⟩ := map_not e
  clear e
  have e := e2
  clear e2
  unfold inD at e
  split at e <;> (try cases e)
  · split at e <;> cases e
    rename_i ds hd
    rw [Bool.and_eq_true] at hd
    refine .inl (.inr ⟨pd dx, pds ds, dp_vw hd.1 hx, ?_, shaped_pd hd.1 (by decide), ?_, ?_⟩)
    · have := dp_vw (dok_tup hd.2) hy
      simpa only [pd] using this
    · have := shaped_pd (dok_tup hd.2) (by decide)
      simpa only [pd] using this
    · rw [if_pos rfl, any_pd hd.1 hd.2]; exact q
  · split at e <;> cases e
    rename_i ds hd
    rw [Bool.and_eq_true] at hd
    refine .inl (.inl ⟨pd dx, pds ds, dp_vw hd.1 hx, ?_, shaped_pd hd.1 (by decide), ?_, ?_⟩)
    · have := dp_vw (dok_lst hd.2) hy
      simpa only [pd] using this
    · have := shaped_pd (dok_lst hd.2) (by decide)
      simpa only [pd] using this
    · rw [any_pd hd.1 hd.2]; exact q
  · split at e <;> cases e
    rename_i hk
    obtain ⟨a, o, rfl, h1, h2, _⟩ := dget_vw hy hx hk
    refine .inr ⟨a, o, rfl, h1, ?_⟩
    rw [if_pos rfl, ← h2.some_eq]; exact q
theorem eqQ_cases {x y : D} {b : Bool} (e : eqQ x y = some b) : (∃ ks vs, x = .dct false ks vs ∧ y = .dct false [] [] ∧ b = ks.isEmpty) ∨ (dok 40 x = true ∧ dok 40 y = true ∧ b = eqD x y) := by
  unfold eqQ at e
  split at e
  · cases e
    exact .inl ⟨_, _, rfl, rfl, rfl⟩
  · split at e <;> cases e
    rename_i h
    rw [Bool.and_eq_true] at h
    exact .inr ⟨h.1, h.2, rfl⟩
theorem isEmpty_dK {kvs : List (Key × V)} : (kvs.map fun p => dK p.1).isEmpty = kvs.isEmpty := by cases kvs <;> rfl
theorem c_eq (hK : X.K = G.K) (hu : X.A.units + 65 < cLine) : ∃ r : R2, OpR X (compareOp .Eq) r ∧ TellsB G r eqQ := by
  refine ⟨_, (op_eqD (by omega)).or (op_eq0 (by omega)), fun m H dx dy b x y Q l hx hy e q => ?_⟩
  rw [hK]
  rcases eqQ_cases e with ⟨ks, vs, rfl, rfl, rfl⟩ | ⟨h1, h2, rfl⟩
  · obtain ⟨a, kvs, rfl, k1, rfl, _⟩ := hx.dctK
    obtain ⟨b, kvs2, rfl, k2, k3, _⟩ := hy.dctK
    have : kvs2 = [] := List.map_eq_nil_iff.mp k3.symm
    subst this
    refine .inr ⟨a, b, kvs, rfl, rfl, k1, k2, ?_⟩
    rw [if_neg (by decide)]
    rw [isEmpty_dK] at q
    exact q
  · refine .inl ⟨pd dx, pd dy, dp_vw h1 hx, dp_vw h2 hy, shaped_pd h1 (by decide), shaped_pd h2 (by decide), ?_⟩
    rw [eqv_pd 40 40 dx dy h1 h2]; exact q
theorem c_ne (hK : X.K = G.K) (hu : X.A.units + 65 < cLine) : ∃ r : R2, OpR X (compareOp .NotEq) r ∧ TellsB G r (fun x y => (eqQ x y).map (!·)) := by
  refine ⟨_, (op_neD (by omega)).or (op_ne0 (by omega)), fun m H dx dy b x y Q l hx hy e q => ?_⟩
  rw [hK]
  obtain ⟨c, e2, rfl⟩ := map_not e
  clear e
  have e := e2
  clear e2
  rcases eqQ_cases e with ⟨ks, vs, rfl, rfl, rfl⟩ | ⟨h1, h2, rfl⟩
  · obtain ⟨a, kvs, rfl, k1, rfl, _⟩ := hx.dctK
    obtain ⟨b, kvs2, rfl, k2, k3, _⟩ := hy.dctK
    have : kvs2 = [] := List.map_eq_nil_iff.mp k3.symm
    subst this
    refine .inr ⟨a, b, kvs, rfl, rfl, k1, k2, ?_⟩
    rw [if_pos rfl]
    rw [isEmpty_dK] at q
    exact q
  · refine .inl ⟨pd dx, pd dy, dp_vw h1 hx, dp_vw h2 hy, shaped_pd h1 (by decide), shaped_pd h2 (by decide), ?_⟩
    rw [eqv_pd 40 40 dx dy h1 h2]; exact q
theorem ordC_eq {f : Int → Int → Bool} {x y : D} {b : Bool} (e : ordC f x y = some b) : ∃ i j, x = .int i ∧ y = .int j ∧ b = f i j := by
  unfold ordC at e
  split at e <;> cases e
  exact ⟨_, _, rfl, rfl, rfl⟩
theorem Vw.isNon {m : AdP} {H : Hp} {d : D} {v : V} (h : Vw G m H d v) : decide (v = V.non) = Qx.isNon d := by
  cases d with
  | non => rw [h.non]; rfl
  | int i => rw [h.int]; rfl
  | bl i => rw [h.bl]; rfl
  | str i => rw [h.str]; rfl
  | tup ds => obtain ⟨a, xs, rfl, _⟩ := h.tup; rfl
  | lst ds => obtain ⟨a, xs, rfl, _⟩ := h.lst; rfl
  | dct t ks vs =>
    cases t with
    | false => obtain ⟨a, xs, rfl, _⟩ := h.dctK; rfl
    | true => obtain ⟨a, xs, rfl, _⟩ := h.dctT; rfl
  | fn f =>
    rcases h with h | ⟨a, rfl, h⟩
    · simp only [Rep] at h
      obtain ⟨a, rfl, _⟩ := h
      rfl
    · exact h.elim
theorem c_is : ∃ r : R2, OpR X (compareOp .Is) r ∧ TellsB G r isC' := by
  refine ⟨_, op_isN.or op_is_bl, fun m H dx dy b x y Q l hx hy e q => ?_⟩
  unfold isC' at e
  split at e <;> cases e
  · exact .inl ⟨hy.non, by rw [hx.isNon]; exact q⟩
  · rename_i a b
    refine .inr ⟨a, b, hx.bl, hy.bl, ?_⟩
    rw [Bool.beq_eq_decide_eq] at q; exact q
theorem c_isn : ∃ r : R2, OpR X (compareOp .IsNot) r ∧ TellsB G r (fun x y => (isC' x y).map (!·)) := by
  refine ⟨_, op_notN.or op_isnot_bl, fun m H dx dy b x y Q l hx hy e q => ?_⟩
  obtain ⟨c, e2, rfl⟩ := map_not e
  clear e
  have e := e2
  clear e2
  unfold isC' at e
  split at e <;> cases e
  · exact .inl ⟨hy.non, by rw [hx.isNon]; exact q⟩
  · rename_i a b
    refine .inr ⟨a, b, hx.bl, hy.bl, ?_⟩
    rw [Bool.beq_eq_decide_eq] at q; exact q
def cpr : Cop → CmpOp
  | .eq => .Eq | .ne => .NotEq | .lt => .Lt | .le => .LtE | .gt => .Gt | .ge => .GtE | .is => .Is | .isn => .IsNot | .inn => .In | .nin => .NotIn
theorem cmp_ok (hK : X.K = G.K) (hu : X.A.units + 65 < cLine) : ∀ op : Cop, ∃ r : R2, OpR X (compareOp (cpr op)) r ∧ TellsB G r (cmpD op)
  | .eq => c_eq hK hu
  | .ne => c_ne hK hu
  | .lt => ⟨_, op_lt, fun m H dx dy b x y Q l hx hy e q => by obtain ⟨i, j, rfl, rfl, rfl⟩ := ordC_eq e; exact ⟨i, j, hx.int, hy.int, q⟩⟩
  | .le => ⟨_, op_le, fun m H dx dy b x y Q l hx hy e q => by obtain ⟨i, j, rfl, rfl, rfl⟩ := ordC_eq e; exact ⟨i, j, hx.int, hy.int, q⟩⟩
  | .gt => ⟨_, op_gt, fun m H dx dy b x y Q l hx hy e q => by obtain ⟨i, j, rfl, rfl, rfl⟩ := ordC_eq e; exact ⟨i, j, hx.int, hy.int, q⟩⟩
  | .ge => ⟨_, op_ge, fun m H dx dy b x y Q l hx hy e q => by obtain ⟨i, j, rfl, rfl, rfl⟩ := ordC_eq e; exact ⟨i, j, hx.int, hy.int, q⟩⟩
  | .is => c_is
  | .isn => c_isn
  | .inn => c_in hK hu
  | .nin => c_nin hK hu
end
end Qx
set_option Elab.async false
set_option linter.all false
set_option maxRecDepth 100000
set_option maxHeartbeats 4000000
/-! QBi: built-ins, subscripts, slices, methods, by plain data. -/
namespace Qx
open PySem PySem.Spec L2

/-! ### isinstance -/
def tyS : D → String
  | .non => "NoneType" | .bl _ => "bool" | .int _ => "int" | .str _ => "str" | .tup _ => "tuple" | .lst _ => "list" | .dct _ _ _ => "dict" | .fn _ => ""
def tyN : Ty → String
  | .int => "int" | .bool => "bool" | .str => "str" | .tuple => "tuple" | .list => "list" | .dict => "dict"
def noFn : D → Bool
  | .fn _ => false
  | .dct true _ _ => false
  | _ => true
theorem kit_all (d : D) (t : Ty) (h : noFn d = true) : kitB (tyS d) (tyN t) = some (isaT (tyD d) t) := by
  cases d with
  | fn f => cases h
  | non => cases t <;> decide +kernel
  | bl b => cases t <;> (simp only [tyS, tyN, tyD, isaT]; decide +kernel)
  | int b => cases t <;> (simp only [tyS, tyN, tyD, isaT]; decide +kernel)
  | str b => cases t <;> (simp only [tyS, tyN, tyD, isaT]; decide +kernel)
  | tup b => cases t <;> (simp only [tyS, tyN, tyD, isaT]; decide +kernel)
  | lst b => cases t <;> (simp only [tyS, tyN, tyD, isaT]; decide +kernel)
  | dct b c e => cases t <;> (simp only [tyS, tyN, tyD, isaT]; decide +kernel)
section
variable {G : Gd} {m : AdP} {H : Hp}
theorem ty_vw {d : D} {v : V} (h : Vw G m H d v) (n : noFn d = true) : TyX G.K H v (.type (tyS d)) := by
  cases d with
  | fn f => cases n
  | non => rw [h.non]; exact .base .non
  | bl b => rw [h.bl]; exact .base (.bl _)
  | int b => rw [h.int]; exact .base (.int _)
  | str b => rw [h.str]; exact .base (.str _)
  | tup b => obtain ⟨a, xs, rfl, h1, _⟩ := h.tup; exact .base (.tup h1.1)
  | lst b =>
    obtain ⟨a, xs, rfl, h1, _⟩ := h.lst
    rcases h1 with (h1 | ⟨o, h1⟩) | ⟨o, its, n, h1, h2, _⟩
    · exact .base (.lst h1)
    · exact .base (.frz h1)
    · exact .kList h1 h2
  | dct t c e =>
    cases t with
    | true => cases n
    | false =>
      obtain ⟨a, kvs, rfl, h1, _⟩ := h.dctK
      rcases h1 with h1 | ⟨o, h1⟩
      · exact .base (.dK h1)
      · exact .fDict h1
theorem isa_noFn {d k : D} {ts : List Ty} (h : isaD d ts = some k) : noFn d = true ∧ k = .bl (ts.any (isaT (tyD d))) := by
  cases d with
  | fn f => cases h
  | dct t a b =>
    cases t with
    | true => cases h
    | false => cases h; exact ⟨rfl, rfl⟩
  | _ => cases h; exact ⟨rfl, rfl⟩
theorem kit_any {K : PySem.W.Frag} {d : D} (n : noFn d = true) : ∀ ts : List Ty, PySem.W.kitAny K (.type (tyS d)) (ts.map fun t => Value.type (tyN t)) = some (ts.any (isaT (tyD d)))
  | [] => kitAny_nil
  | t :: ts => by
    rw [List.map_cons, List.any_cons]
    refine kitAny_cons (kit_ty (kit_all d t n)) (fun e => ?_) fun e => by rw [e]; rfl
    rw [e, Bool.false_or]
    exact kit_any n ts
theorem cls_all : ∀ ts : List Ty, Paired ClsV (ts.map fun t => V.ty (tyN t)) (ts.map fun t => Value.type (tyN t))
  | [] => .nil
  | t :: ts => .cons (.ty _) (cls_all ts)
end
/-! ### calls of built-ins -/
inductive Vws (G : Gd) (m : AdP) (H : Hp) : List D → List V → Prop
  | nil : Vws G m H [] []
  | cons {d : D} {v : V} {ds : List D} {vs : List V} : Vw G m H d v → Vws G m H ds vs → Vws G m H (d :: ds) (v :: vs)
def TellsC (G : Gd) (r : List V → Hp → VK → Prop) (f : List D → Option D) : Prop :=
  ∀ (m : AdP) (H : Hp) (ds : List D) (d : D) (xs : List V) (Q : VK), Live m H → Vws G m H ds xs → f ds = some d → Gives G m H d Q → r xs H Q
theorem d1_eq {f : D → Option D} {ds : List D} {d : D} (h : d1 f ds = some d) : ∃ x, ds = [x] ∧ f x = some d := by
  unfold d1 at h
  split at h
  · exact ⟨_, rfl, h⟩
  · cases h
theorem twoI_eq {f : Int → Int → Option D} {ds : List D} {d : D} (h : twoI f ds = some d) : ∃ i j, ds = [.int i, .int j] ∧ f i j = some d := by
  unfold twoI at h
  split at h
  · exact ⟨_, _, rfl, h⟩
  · cases h
theorem Vws.one {G : Gd} {m : AdP} {H : Hp} {d : D} {xs : List V} (h : Vws G m H [d] xs) : ∃ v, xs = [v] ∧ Vw G m H d v := by
  cases h with
  | cons a b => cases b; exact ⟨_, rfl, a⟩
theorem Vws.two {G : Gd} {m : AdP} {H : Hp} {d e : D} {xs : List V} (h : Vws G m H [d, e] xs) : ∃ v w, xs = [v, w] ∧ Vw G m H d v ∧ Vw G m H e w := by
  cases h with
  | cons a b =>
    obtain ⟨w, rfl, q⟩ := b.one
    exact ⟨_, _, rfl, a, q⟩
theorem overI_eq {f : List Int → Option D} {x d : D} (h : overI f x = some d) : ∃ ns, x = .lst (ns.map .int) ∧ f ns = some d := by
  unfold overI at h
  split at h
  · split at h
    · rename_i e
      exact ⟨_, by rw [intsD_eq e], h⟩
    · cases h
  · cases h
theorem overB_eq {f : List Bool → Option D} {x d : D} (h : overB f x = some d) : ∃ ns, x = .lst (ns.map .bl) ∧ f ns = some d := by
  unfold overB at h
  split at h
  · split at h
    · rename_i e
      exact ⟨_, by rw [blsD_eq e], h⟩
    · cases h
  · cases h
section
variable {G : Gd} {m : AdP} {H : Hp}
theorem Vw.ints {ns : List Int} {v : V} (h : Vw G m H (.lst (ns.map .int)) v) : ∃ a, v = .ref a ∧ SqL G.K H a (ns.map V.int) := by
  obtain ⟨a, xs, rfl, h1, h2⟩ := h.lst
  rw [h2.ints] at h1
  exact ⟨a, rfl, h1⟩
theorem Vw.bls {ns : List Bool} {v : V} (h : Vw G m H (.lst (ns.map .bl)) v) : ∃ a, v = .ref a ∧ SqL G.K H a (ns.map V.bl) := by
  obtain ⟨a, xs, rfl, h1, h2⟩ := h.lst
  rw [h2.bls] at h1
  exact ⟨a, rfl, h1⟩
theorem fold_max : ∀ (r : List Int) (a : Int), (r.foldl (fun x y => if y > x then y else x) a = a ∨ r.foldl (fun x y => if y > x then y else x) a ∈ r) ∧ a ≤ r.foldl (fun x y => if y > x then y else x) a ∧ ∀ y ∈ r, y ≤ r.foldl (fun x y => if y > x then y else x) a
  | [], a => ⟨.inl rfl, Int.le_refl _, by simp⟩
  | b :: r, a => by
    rw [List.foldl_cons]
    obtain ⟨h1, h2, h3⟩ := fold_max r (if b > a then b else a)
    refine ⟨?_, ?_, fun y hy => ?_⟩
    · rcases h1 with h1 | h1
      · rw [h1]
        split
        · exact .inr List.mem_cons_self
        · exact .inl rfl
      · exact .inr (List.mem_cons_of_mem _ h1)
    · refine Int.le_trans ?_ h2
      split <;> omega
    · rcases List.mem_cons.mp hy with rfl | hy
      · refine Int.le_trans ?_ h2
        split <;> omega
      · exact h3 y hy
theorem fold_min : ∀ (r : List Int) (a : Int), (r.foldl (fun x y => if y < x then y else x) a = a ∨ r.foldl (fun x y => if y < x then y else x) a ∈ r) ∧ r.foldl (fun x y => if y < x then y else x) a ≤ a ∧ ∀ y ∈ r, r.foldl (fun x y => if y < x then y else x) a ≤ y
  | [], a => ⟨.inl rfl, Int.le_refl _, by simp⟩
  | b :: r, a => by
    rw [List.foldl_cons]
    obtain ⟨h1, h2, h3⟩ := fold_min r (if b < a then b else a)
    refine ⟨?_, ?_, fun y hy => ?_⟩
    · rcases h1 with h1 | h1
      · rw [h1]
        split
        · exact .inr List.mem_cons_self
        · exact .inl rfl
      · exact .inr (List.mem_cons_of_mem _ h1)
    · refine Int.le_trans h2 ?_
      split <;> omega
    · rcases List.mem_cons.mp hy with rfl | hy
      · refine Int.le_trans h2 ?_
        split <;> omega
      · exact h3 y hy
theorem maxI_spec {ns : List Int} {M : Int} (h : maxI ns = some M) : M ∈ ns ∧ ∀ y ∈ ns, y ≤ M := by
  cases ns with
  | nil => cases h
  | cons a r =>
    obtain ⟨h1, h2, h3⟩ := fold_max r a
    cases h
    refine ⟨?_, fun y hy => ?_⟩
    · rcases h1 with h1 | h1
      · exact List.mem_cons.mpr (.inl h1)
      · exact List.mem_cons_of_mem _ h1
    · rcases List.mem_cons.mp hy with rfl | hy
      · exact h2
      · exact h3 y hy
theorem minI_spec {ns : List Int} {M : Int} (h : minI ns = some M) : M ∈ ns ∧ ∀ y ∈ ns, M ≤ y := by
  cases ns with
  | nil => cases h
  | cons a r =>
    obtain ⟨h1, h2, h3⟩ := fold_min r a
    cases h
    refine ⟨?_, fun y hy => ?_⟩
    · rcases h1 with h1 | h1
      · exact List.mem_cons.mpr (.inl h1)
      · exact List.mem_cons_of_mem _ h1
    · rcases List.mem_cons.mp hy with rfl | hy
      · exact h2
      · exact h3 y hy
theorem sortI_perm (ns : List Int) : (sortI ns).Perm ns := List.mergeSort_perm _ _
theorem sortI_up (ns : List Int) : (sortI ns).Pairwise (· ≤ ·) := by
  have := List.pairwise_mergeSort (le := fun (a b : Int) => decide (a ≤ b)) (fun a b c h1 h2 => by simp at h1 h2 ⊢; omega) (fun a b => by simp; omega) ns
  exact this.imp fun h => by simpa using h
theorem sortI_the {ns ms : List Int} (p : ms.Perm ns) (u : ms.Pairwise (· ≤ ·)) : ms = sortI ns :=
  (p.trans (sortI_perm ns).symm).eq_of_pairwise (fun a b _ _ h1 h2 => Int.le_antisymm h1 h2) u (sortI_up ns)
end

/-! ### len, tuple, list, sums .. -/
section
variable {X : Cx} {G : Gd}
def rLenD : List V → Hp → VK → Prop := fun xs H Q => ∃ a kvs, xs = [V.ref a] ∧ Rd H a (.dK kvs) ∧ Q (.int kvs.length) H
theorem call_lenRd : CallR X (.builtin "len") rLenD := by
  intro pins s σ H xs us Q I r h
  obtain ⟨a, kvs, rfl, ha, q⟩ := h
  obtain ⟨u, rfl, ru⟩ := vals1 r
  cases ru
  exact d_len I ha fun t s' I' => ⟨.int kvs.length, H, I', ⟨t, rfl⟩, q⟩
theorem b_len (hK : X.K = G.K) : ∃ r, CallR X (.builtin "len") r ∧ TellsC G r (d1 lenB) := by
  refine ⟨_, (call_len_seq.or call_len_str).or call_lenRd, fun m H ds d xs Q l hx e0 g => ?_⟩
  rw [hK]
  obtain ⟨x, rfl, e⟩ := d1_eq e0
  obtain ⟨v, rfl, hv⟩ := hx.one
  unfold lenB at e
  split at e <;> cases e
  rename_i n e
  unfold lenD at e
  split at e
  · split at e <;> cases e
    rename_i z
    exact .inl (.inr ⟨_, by rw [hv.str], sz_eq ▸ z, gives_int g⟩)
  · cases e
    obtain ⟨a, ys, rfl, h1, h2⟩ := hv.tup
    exact .inl (.inl ⟨a, ys, rfl, .inr h1.sq, by rw [← h2.length]; exact gives_int g⟩)
  · cases e
    obtain ⟨a, ys, rfl, h1, h2⟩ := hv.lst
    exact .inl (.inl ⟨a, ys, rfl, .inl h1, by rw [← h2.length]; exact gives_int g⟩)
  · cases e
    obtain ⟨a, kvs, rfl, h1, rfl, _⟩ := hv.dctK
    exact .inr ⟨a, kvs, rfl, h1, by rw [List.length_map] at g; exact gives_int g⟩
  · cases e
theorem b_abs : ∃ r, CallR X (.builtin "abs") r ∧ TellsC G r (d1 absB) := by
  refine ⟨_, call_abs, fun m H ds d xs Q l hx e0 g => ?_⟩
  obtain ⟨x, rfl, e⟩ := d1_eq e0
  obtain ⟨v, rfl, hv⟩ := hx.one
  unfold absB at e
  split at e <;> cases e
  exact ⟨_, by rw [hv.int], gives_int g⟩
theorem b_int : ∃ r, CallR X (.type "int") r ∧ TellsC G r (d1 intB) := by
  refine ⟨_, call_int1, fun m H ds d xs Q l hx e0 g => ?_⟩
  obtain ⟨x, rfl, e⟩ := d1_eq e0
  obtain ⟨v, rfl, hv⟩ := hx.one
  unfold intB at e
  split at e <;> cases e
  · exact .inl ⟨_, by rw [hv.int], gives_int g⟩
  · exact .inr ⟨_, by rw [hv.bl], gives_int g⟩
theorem seqD_vw {m : AdP} {H : Hp} {d : D} {ds : List D} {v : V} (e : seqD d = some ds) (h : Vw G m H d v) :
    ∃ a xs, v = .ref a ∧ Reps G m H ds xs ∧ ((d = .tup ds ∧ SqTm G m H a xs) ∨ (d = .lst ds ∧ SqL G.K H a xs)) := by
  unfold seqD at e
  split at e <;> cases e
  · obtain ⟨a, ys, rfl, h1, h2⟩ := h.tup
    exact ⟨a, ys, rfl, h2, .inl ⟨rfl, h1⟩⟩
  · obtain ⟨a, ys, rfl, h1, h2⟩ := h.lst
    exact ⟨a, ys, rfl, h2, .inr ⟨rfl, h1⟩⟩
theorem omap {α β : Type} {o : Option α} {f : α → β} {b : β} (h : o.map f = some b) : ∃ a, o = some a ∧ b = f a := by
  cases o with
  | none => cases h
  | some a => cases h; exact ⟨a, rfl, rfl⟩
theorem b_tup (hK : X.K = G.K) : ∃ r, CallR X (.type "tuple") r ∧ TellsC G r (d1 tupB) := by
  refine ⟨_, call_tuple_of, fun m H ds d xs Q l hx e0 g => ?_⟩
  rw [hK]
  obtain ⟨x, rfl, e⟩ := d1_eq e0
  obtain ⟨v, rfl, hv⟩ := hx.one
  obtain ⟨ys, e1, rfl⟩ := omap e
  obtain ⟨a, zs, rfl, h1, h2⟩ := seqD_vw e1 hv
  rcases h2 with ⟨rfl, h2⟩ | ⟨rfl, h2⟩
  · refine ⟨a, zs, rfl, .inr ⟨h2.sq, g _ _ Ex.refl ?_ (.not rfl)⟩⟩
    simp only [Rep]
    exact ⟨a, zs, rfl, h2, h1⟩
  · exact ⟨a, zs, rfl, .inl ⟨h2, g.tup l h1⟩⟩
theorem b_lst (hK : X.K = G.K) : ∃ r, CallR X (.type "list") r ∧ TellsC G r (d1 lstB) := by
  refine ⟨_, call_list_of, fun m H ds d xs Q l hx e0 g => ?_⟩
  rw [hK]
  obtain ⟨x, rfl, e⟩ := d1_eq e0
  obtain ⟨v, rfl, hv⟩ := hx.one
  obtain ⟨ys, e1, rfl⟩ := omap e
  obtain ⟨a, zs, rfl, h1, h2⟩ := seqD_vw e1 hv
  rcases h2 with ⟨rfl, h2⟩ | ⟨rfl, h2⟩
  · exact ⟨a, zs, rfl, .inr h2.sq, g.lst l h1⟩
  · exact ⟨a, zs, rfl, .inl h2, g.lst l h1⟩
theorem b_sum (hK : X.K = G.K) (hc : X.calm = true) : ∃ r, CallR X (.builtin "sum") r ∧ TellsC G r (d1 (overI fun ns => some (.int ns.sum))) := by
  refine ⟨_, cr_sum hc, fun m H ds d xs Q l hx e0 g => ?_⟩
  rw [hK]
  obtain ⟨x, rfl, e⟩ := d1_eq e0
  obtain ⟨v, rfl, hv⟩ := hx.one
  obtain ⟨ns, rfl, e2⟩ := overI_eq e
  cases e2
  obtain ⟨a, rfl, h1⟩ := hv.ints
  exact ⟨a, ns, rfl, h1, gives_int g⟩
theorem b_max (hK : X.K = G.K) (hc : X.calm = true) : ∃ r, CallR X (.builtin "max") r ∧ TellsC G r (d1 (overI fun ns => (maxI ns).map .int)) := by
  refine ⟨_, cr_max hc, fun m H ds d xs Q l hx e0 g => ?_⟩
  rw [hK]
  obtain ⟨x, rfl, e⟩ := d1_eq e0
  obtain ⟨v, rfl, hv⟩ := hx.one
  obtain ⟨ns, rfl, e2⟩ := overI_eq e
  obtain ⟨M, e3, rfl⟩ := omap e2
  obtain ⟨a, rfl, h1⟩ := hv.ints
  have sp := maxI_spec e3
  refine ⟨a, ns, rfl, h1, List.length_pos_of_mem sp.1, fun k hk hm => ?_⟩
  have : k = M := Int.le_antisymm (sp.2 k hk) (hm M sp.1)
  subst this
  exact gives_int g
theorem b_min (hK : X.K = G.K) (hc : X.calm = true) : ∃ r, CallR X (.builtin "min") r ∧ TellsC G r (d1 (overI fun ns => (minI ns).map .int)) := by
  refine ⟨_, cr_min hc, fun m H ds d xs Q l hx e0 g => ?_⟩
  rw [hK]
  obtain ⟨x, rfl, e⟩ := d1_eq e0
  obtain ⟨v, rfl, hv⟩ := hx.one
  obtain ⟨ns, rfl, e2⟩ := overI_eq e
  obtain ⟨M, e3, rfl⟩ := omap e2
  obtain ⟨a, rfl, h1⟩ := hv.ints
  have sp := minI_spec e3
  refine ⟨a, ns, rfl, h1, List.length_pos_of_mem sp.1, fun k hk hm => ?_⟩
  have : k = M := Int.le_antisymm (hm M sp.1) (sp.2 k hk)
  subst this
  exact gives_int g
theorem b_max2 (hc : X.calm = true) : ∃ r, CallR X (.builtin "max") r ∧ TellsC G r (twoI fun i j => some (.int (if j > i then j else i))) := by
  refine ⟨_, call_max2 hc, fun m H ds d xs Q l hx e0 g => ?_⟩
  obtain ⟨i, j, rfl, e⟩ := twoI_eq e0
  cases e
  obtain ⟨v, w, rfl, h1, h2⟩ := hx.two
  exact ⟨i, j, by rw [h1.int, h2.int], gives_int g⟩
theorem b_min2 (hc : X.calm = true) : ∃ r, CallR X (.builtin "min") r ∧ TellsC G r (twoI fun i j => some (.int (if j < i then j else i))) := by
  refine ⟨_, call_min2 hc, fun m H ds d xs Q l hx e0 g => ?_⟩
  obtain ⟨i, j, rfl, e⟩ := twoI_eq e0
  cases e
  obtain ⟨v, w, rfl, h1, h2⟩ := hx.two
  exact ⟨i, j, by rw [h1.int, h2.int], gives_int g⟩
theorem b_all (hK : X.K = G.K) (hc : X.calm = true) : ∃ r, CallR X (.builtin "all") r ∧ TellsC G r (d1 (overB fun bs => some (.bl (bs.all id)))) := by
  refine ⟨_, cr_all hc, fun m H ds d xs Q l hx e0 g => ?_⟩
  rw [hK]
  obtain ⟨x, rfl, e⟩ := d1_eq e0
  obtain ⟨v, rfl, hv⟩ := hx.one
  obtain ⟨ns, rfl, e2⟩ := overB_eq e
  cases e2
  obtain ⟨a, rfl, h1⟩ := hv.bls
  exact ⟨a, ns, rfl, h1, gives_bl g⟩
theorem b_any (hK : X.K = G.K) (hc : X.calm = true) : ∃ r, CallR X (.builtin "any") r ∧ TellsC G r (d1 (overB fun bs => some (.bl (bs.any id)))) := by
  refine ⟨_, cr_any hc, fun m H ds d xs Q l hx e0 g => ?_⟩
  rw [hK]
  obtain ⟨x, rfl, e⟩ := d1_eq e0
  obtain ⟨v, rfl, hv⟩ := hx.one
  obtain ⟨ns, rfl, e2⟩ := overB_eq e
  cases e2
  obtain ⟨a, rfl, h1⟩ := hv.bls
  exact ⟨a, ns, rfl, h1, gives_bl g⟩
end
end Qx

/-! ### sorted of a tuple -/
namespace Qx
open PySem PySem.Spec PyProof.Rows SrtO
section
variable {prog : Program} {w : World} {A : Around} {E : Value → Shared → Prop} {s : Shared}
/-- the items of a tuple, gathered -/
theorem gather_tup {t : Addr} {vs : List Value} {Q : List Value → Shared → Prop} (ht : IsTup s.heap t vs.toArray) (hz : vs.length ≤ sizeLine)
    (h : Q vs { s with heap := (s.heap.push (seqObj "list" #[] 0)).update s.heap.objs.size (Obj.mapSeq (· ++ vs.toArray)) }) : wpAny (model prog w) A (collect (.ref t)) Q E s := by
  obtain ⟨ob, hob, hcl, n, hda⟩ := id ht
  unfold collect
  refine wpAny_bind (wpAny_runValue (codeAny_builtin entry_proto_collect' ?_))
  refine wpAny_bind (wpAny_newList (wpAny_pure ⟨Code.quiet_builtin _ (by decide +kernel), codeAny_builtin entry_list_iadd' ?_⟩))
  show wpAny _ _ (Builtin.List.listExtendWith (.ref s.heap.objs.size) (.ref t) (.ref s.heap.objs.size)) _ _ { s with heap := s.heap.push (seqObj "list" #[] 0) }
  unfold Builtin.List.listExtendWith
  have hob' : (s.heap.push (seqObj "list" #[] 0)).get? t = some ob := Heap.get?_push_of_some _ hob
  refine wpAny_bind (wpAny_typeOf (T := "tuple") ⟨ob, hob', hcl⟩ ?_)
  rw [if_pos (by rw [show (Value.type "tuple" == Value.type "tuple") = true from rfl]; simp)]
  refine wpAny_bind (listItems_at hob' hda ?_)
  refine wpAny_bind (listItems_at (xs := #[]) (n := 0) (Heap.get?_push_size _ rfl) rfl ?_)
  rw [if_neg (by simp)]
  have hsz : (#[] ++ vs.toArray).size ≤ sizeLine + 1 := by simp only [Array.size_append, List.size_toArray, List.length_nil]; omega
  refine wpAny_bind (listUpdate_at (xs := #[]) (n := 0) (Heap.get?_push_size _ rfl) rfl ?_ (Nat.zero_le _) hsz)
  refine wpAny_pure ?_
  refine wpAny_bind (wpAny_load (get?_update_seq (Heap.get?_push_size _ rfl) _) ?_)
  show wpAny _ _ (pure ((#[] : Array Value) ++ vs.toArray).toList) Q E _
  have e : ((#[] : Array Value) ++ vs.toArray).toList = vs := by simp
  rw [e]
  exact wpAny_pure h
theorem sorted_tup {l : Addr} {vs : List Value} {ltv : Value → Value → Bool} {Q : Value → Shared → Prop} (O : Swo ltv) (hl : IsTup s.heap l vs.toArray) (hz : vs.length ≤ sizeLine)
    (hS : 2 ≤ vs.length → ∀ (h₁ : Heap) (a : Addr), h₁.get? a = some (seqObj "list" vs.toArray 0) → (∀ b o, s.heap.get? b = some o → b ≠ a ∧ h₁.get? b = some o) → SortableO prog w A.in1.in1 { s with heap := h₁ } a vs ltv)
    (h : ∀ out : List Value, Srtd ltv out → Stb ltv out vs → Q (.ref (s.heap.objs.size + 1)) { s with heap := sortedAll s.heap vs out.toArray }) : wpAny (model prog w) A (call (.builtin "sorted") [.ref l]) Q E s := by
  refine Calls.call_function_entry kind_sorted plain_sorted entry_sorted (args_sorted1 _) ?_
  unfold Builtin.«sorted»
  refine wpAny_bind (m := checkCount "sorted" 1 1 _) (wpAny_pure ?_)
  refine wpAny_bind (gather_tup hl hz ?_)
  refine wpAny_bind (wpAny_newList ?_ hz)
  have z1 : ((s.heap.push (seqObj "list" #[] 0)).update s.heap.objs.size (Obj.mapSeq (· ++ vs.toArray))).objs.size = s.heap.objs.size + 1 := by
    rw [Heap.size_update, size_push']
  have z2 : (((s.heap.push (seqObj "list" #[] 0)).update s.heap.objs.size (Obj.mapSeq (· ++ vs.toArray))).push (seqObj "list" vs.toArray 0)).get? (s.heap.objs.size + 1) = some (seqObj "list" vs.toArray 0) := by
    rw [← z1]; exact Heap.get?_push_size _ rfl
  have kept : ∀ b o, s.heap.get? b = some o → b ≠ s.heap.objs.size + 1 ∧ (((s.heap.push (seqObj "list" #[] 0)).update s.heap.objs.size (Obj.mapSeq (· ++ vs.toArray))).push (seqObj "list" vs.toArray 0)).get? b = some o := fun b o q => by
    have lt : b < s.heap.objs.size := Heap.lt_size q
    refine ⟨Nat.ne_of_lt (Nat.lt_succ_of_lt lt), Heap.get?_push_of_some _ ?_⟩
    rw [Heap.get?_update_ne _ _ _ _ (Nat.ne_of_lt lt)]
    exact Heap.get?_push_of_some _ q
  show wpAny _ _ _ _ _ { s with heap := ((s.heap.push (seqObj "list" #[] 0)).update s.heap.objs.size (Obj.mapSeq (· ++ vs.toArray))).push (seqObj "list" vs.toArray 0) }
  rw [z1]
  refine wpAny_bind (wpAny_holding (wpAny_call_entry slot_list_sort ⟨_, z2, rfl⟩ entry_list_sort (list_sort_ord O z2 hz (fun h2 => hS h2 _ _ z2 kept) fun out hs hb => ⟨_, rfl, ?_⟩) (args_list_sort _)))
  exact wpAny_pure ⟨_, rfl, h out hs hb⟩
end
end Qx
namespace Qx
open PySem PySem.Spec L2
section
variable {X : Cx} {G : Gd}
def rSortT (K : PySem.W.Frag) : List V → Hp → VK → Prop := fun vs H Q => ∃ (a : Addr) (ns : List Int), vs = [V.ref a] ∧ SqT K H a (ns.map V.int) ∧
  ∀ (ns' : List Int) (p : Addr), ns'.Perm ns → ns'.Pairwise (· ≤ ·) → H p = none → Q (.ref p) (upd H p (.lst (ns'.map V.int)))
theorem cr_sortT : CallR X (.builtin "sorted") (rSortT X.K) := by
  intro pins s σ H vs us Q I r h
  obtain ⟨a, ns, rfl, hs, q⟩ := h
  obtain ⟨its, rv, hl, hz⟩ := I.tuple hs
  rw [Vals.ref1 r]
  have hi := rv.ints
  refine sorted_tup SrtO.swo_int hl (by rw [← rv.length]; exact hz) (fun h2 h₁ a' _ _ => SrtO.ints_sortable hi h2) fun out h1 h2 => ?_
  obtain ⟨k1, k2, k3⟩ := SrtO.ints_out hi h1 h2
  obtain ⟨ep, he'⟩ := PyProof.Rows.sortedAll_at s.heap its out.toArray
  have hlen : ((out.map SrtO.iv).map V.int).length ≤ sizeLine := by
    rw [List.length_map, k2.length_eq]
    rw [List.length_map] at hz
    exact hz
  refine ⟨.ref _, upd H (s.heap.objs.size + 1) (.lst ((out.map SrtO.iv).map V.int)), ?_, rfl, q _ _ k2 k3 (I.hok.fresh (Nat.le_succ _))⟩
  exact I.laid (t' := s.toks) (fun _ _ => PyProof.Rows.sortedAll_old) (Nat.le_succ _) ⟨hlen, out, ep, vals_of_ints k1, he'⟩
theorem b_sort (hK : X.K = G.K) : ∃ r, CallR X (.builtin "sorted") r ∧ TellsC G r (d1 sortB) := by
  refine ⟨_, cr_sortedI.or cr_sortT, fun m H ds d xs Q l hx e0 g => ?_⟩
  rw [hK]
  obtain ⟨x, rfl, e⟩ := d1_eq e0
  obtain ⟨v, rfl, hv⟩ := hx.one
  unfold sortB at e
  split at e
  · split at e <;> cases e
    rename_i _ ys e1 _ ns e2
    obtain ⟨a, zs, rfl, h1, h2⟩ := seqD_vw e1 hv
    rw [intsD_eq e2] at h1
    have h3 := h1.ints
    have fin : ∀ (ns' : List Int) (p : Addr), ns'.Perm ns → ns'.Pairwise (· ≤ ·) → H p = none → Q (.ref p) (upd H p (.lst (ns'.map V.int))) := fun ns' p h4 h5 hp => by
      rw [sortI_the h4 h5]
      exact g.lst l (Reps.of_ints _) p hp
    rcases h2 with ⟨_, h2⟩ | ⟨_, h2⟩
    · exact .inr ⟨a, ns, rfl, by rw [← h3]; exact h2.sq, fin⟩
    · exact .inl ⟨a, ns, rfl, by rw [← h3]; exact h2, fin⟩
  · cases e
end
end Qx

/-! ### subscripts and slices -/
namespace Qx
open PySem PySem.Spec PyProof.Rows HT
section
variable {prog : Program} {w : World} {A : Around} {E : Value → Shared → Prop} {s : Shared}
/-- t[::-1] -/
theorem back_tup {t sl : Addr} {items : Array Value} {vl vu vs : Value} {Q : Value → Shared → Prop} (ht : IsTup s.heap t items) (hs : s.heap.IsSliceOf sl vl vu vs) (pl : IsPart vl none) (pu : IsPart vu none) (ps : IsPart vs (some (-1)))
    (h : Q (.ref s.heap.objs.size) { s with heap := s.heap.push { cls := .type "tuple", data := .seq items.toList.reverse.toArray } }) (hsz : items.size ≤ sizeLine) : wpAny (model prog w) A (getItem (.ref t) (.ref sl)) Q E s := by
  have fits : sizeOk (.seq items.toList.reverse.toArray) := by
    show items.toList.reverse.toArray.size ≤ sizeLine
    rw [List.size_toArray, List.length_reverse, Array.length_toList]
    exact hsz
  obtain ⟨os, hos, hcs, hds⟩ := id hs
  have hTs : s.TypeIs (.ref sl) "slice" := ⟨os, hos, hcs⟩
  unfold getItem
  try with_reducible refine wpAny_holding ?_
  first | refine wpAny_bind (wpAny_pure ?_) | skip
  refine wpAny_bind (wpAny_sequenceKey ht.typeIs (by decide) ?_)
  refine wpAny_bind (wpAny_callSpecial?_slot (name := Str.ofString "__getitem__") ht.typeIs slot_tuple_getitem (wpAny_call_entry slot_tuple_getitem ht.typeIs entry_tuple_getitem ?_ (args_tuple_getitem _ _)))
  show wpAny _ _ (Builtin.Tuple.tupleItemsOf (.ref t) >>= _) _ _ s
  refine wpAny_bind (tupleItemsOf_ ht ?_)
  refine wpAny_bind (wpAny_typeOf hTs ?_)
  rw [if_pos (by decide)]
  have app : ∀ {A' : Around} {E' : Value → Shared → Prop} {R : Int × Int × Nat → Shared → Prop}, R ((items.size : Int) - 1, -1, items.size) s → wpAny (model prog w) A' (Builtin.Slice.sliceApplied (.ref sl) (pure (items.size : Int))) R E' s := fun {A' E' R} hR => by
    unfold Builtin.Slice.sliceApplied Builtin.Slice.sliceFields
    refine wpAny_bind (wpAny_bind (wpAny_field hos hds (x := vl) rfl (wpAny_bind (wpAny_field hos hds (x := vu) rfl (wpAny_bind (wpAny_field hos hds (x := vs) rfl (wpAny_pure ?_)))))))
    refine wpAny_bind (slicePart_ ps ?_)
    show wpAny _ _ (if ((-1 : Int) == 0) = true then _ else _) _ _ s
    rw [if_neg (by decide)]
    refine wpAny_bind (slicePart_ pl (wpAny_bind (slicePart_ pu (wpAny_bind (wpAny_pure ?_)))))
    show wpAny _ _ (pure ((items.size : Int) - 1, (-1 : Int), Builtin.Slice.slicePlaces ((items.size : Int) - 1) (-1) (-1))) _ _ s
    have e : Builtin.Slice.slicePlaces ((items.size : Int) - 1) (-1) (-1) = items.size := by
      unfold Builtin.Slice.slicePlaces
      rw [if_neg (by decide)]
      by_cases z : items.size = 0
      · rw [z]; rfl
      · rw [if_pos (by omega), show (-(-1 : Int)) = 1 from rfl, Int.ediv_one]
        omega
    rw [e]
    exact wpAny_pure hR
  refine wpAny_bind (app ?_)
  show wpAny _ _ (if ((((items.size : Int) - 1) == 0 && (-1 : Int) == 1 && items.size == items.size) = true) then _ else _) _ _ s
  rw [if_neg (by rw [show ((-1 : Int) == 1) = false from rfl, Bool.and_false, Bool.false_and]; exact Bool.false_ne_true)]
  have pick : ((List.range items.size).filterMap fun (k : Nat) => items[(((items.size : Int) - 1) + (k : Int) * (-1)).toNat]?).toArray = items.toList.reverse.toArray := by
    congr 1
    apply List.ext_getElem?
    intro i
    have step : ∀ (n : Nat), n ≤ items.size → (List.range n).filterMap (fun (k : Nat) => items[(((items.size : Int) - 1) + (k : Int) * (-1)).toNat]?) = items.toList.reverse.take n := by
      intro n
      induction n with
      | zero => intro _; simp
      | succ n ih =>
        intro hn
        rw [List.range_succ, List.filterMap_append, ih (by omega)]
        have e1 : (((items.size : Int) - 1) + (n : Int) * (-1)).toNat = items.size - 1 - n := by omega
        have lt : items.size - 1 - n < items.size := by omega
        have e2 : items.toList.reverse[n]? = some items[items.size - 1 - n] := by
          rw [List.getElem?_reverse (by rw [Array.length_toList]; omega), Array.length_toList]
          rw [Array.getElem?_toList, Array.getElem?_eq_getElem lt]
        rw [List.take_add_one, e2]
        simp only [List.filterMap_cons, List.filterMap_nil, e1, Array.getElem?_eq_getElem lt]
        rfl
    rw [step items.size (Nat.le_refl _), List.take_of_length_le (by rw [List.length_reverse, Array.length_toList]; exact Nat.le_refl _)]
  rw [pick]
  first
    | exact wpAny_bind (m := Builtin.Tuple.tupleExact _) (wpAny_newObj_type (wpAny_pure ⟨_, rfl, wpAny_pure h⟩) fits)
    | exact wpAny_bind (m := Builtin.Tuple.tupleExact _) (wpAny_newObj_type (wpAny_bind (wpAny_pure (wpAny_pure ⟨_, rfl, wpAny_pure h⟩))) fits)
    | exact wpAny_bind (wpAny_bind (m := Builtin.Tuple.tupleExact _) (wpAny_newObj_type (wpAny_pure (wpAny_pure ⟨_, rfl, wpAny_pure h⟩)) fits))
    | exact wpAny_bind (wpAny_bind (m := Builtin.Tuple.tupleExact _) (wpAny_newObj_type (wpAny_pure ⟨_, rfl, wpAny_pure h⟩) fits))
end
end Qx
set_option Elab.async false
set_option linter.all false
set_option maxRecDepth 100000
set_option maxHeartbeats 4000000
/-! QBi2: subscripts, slices, methods, by plain data. -/
namespace Qx
open PySem PySem.Spec PyProof.Rows L2

/-! ### shapes of nodes -/
def isSlc : Expr → Bool
  | .Slice _ _ _ _ => true
  | _ => false
def isStar : Expr → Bool
  | .Starred _ _ => true
  | _ => false
theorem starEach_ok {e : Expr} {es : List Expr} {env : Env} (h : isStar e = false) : starEach (e :: es) env = (false, eval e env) :: starEach es env := by
  cases e <;> first | rfl | cases h
theorem sub_ok {e : Expr} {o i : Value} (h : isSlc e = false) : subscripted e false o i = operate [o, i] (getItem o i) := by
  cases e <;> first | rfl | cases h
theorem fold_ok {e : Expr} {env : Env} {x : Value} (h : okNode e = true) : foldedSetIterable e env x = pure x := by
  cases e <;> first | rfl | cases h
theorem beh_ok {e : Expr} {op : CmpOp} (h : okNode e = true) : behindInMarks op e = false := by
  cases e <;> first | rfl | cases h
theorem okNode_star {e : Expr} (h : okNode e = true) : isStar e = false := by
  cases e <;> first | rfl | cases h
theorem swaps_ok {e : Expr} {t : Option Expr} {l : Nat} {env : Env} (h : isLC e = false) : swapsWith e t l env = pure false := by
  cases e <;> first | rfl | cases h
theorem assignEach_ok {e : Expr} {es : List Expr} {env : Env} (h : isStar e = false) : assignEach (e :: es) env = (false, assign e env) :: assignEach es env := by
  cases e <;> first | rfl | cases h
theorem assignSub_ok {o i : Expr} {pos : Pos} {env : Env} (h : isSlc i = false) (v : Value) : assign (.Subscript o i pos) env v = (do
      let ov ← holding [v] (eval o env)
      let iv ← holding [v, ov] (eval i env)
      standAt pos
      holding [v, ov, iv] (setItem ov iv v)
      release [v, ov, iv] []) := by
  cases i <;> first | rfl | cases h
/-- a call of super: no such node here -/
theorem base_ok {o : Expr} {a : Str} {env : Env} (h : isSup o = false) : attributeBase o a env (eval o env) = eval o env := by
  cases o <;> first | rfl | cases h

section
variable {X : Cx} {e : Expr}
theorem _root_.L2.PE.imp {t t' : TE} (h : PE X e t) (k : ∀ σ H Q, t' σ H Q → t σ H Q) : PE X e t' := ⟨fun pins s σ H Q I w => h.run pins s σ H Q I (k σ H Q w)⟩
theorem _root_.L2.PE.or {t t' t'' : TE} (h : PE X e t) (h' : PE X e t') (k : ∀ σ H Q, t'' σ H Q → t σ H Q ∨ t' σ H Q) : PE X e t'' :=
  ⟨fun pins s σ H Q I w => (k σ H Q w).elim (h.run pins s σ H Q I) (h'.run pins s σ H Q I)⟩
theorem _root_.L2.PT.imp {t t' : TT} (h : PT X e t) (k : ∀ σ H Q, t' σ H Q → t σ H Q) : PT X e t' := ⟨fun pins s σ H Q I w => h.run pins s σ H Q I (k σ H Q w)⟩
theorem _root_.L2.PW.imp {t t' : TT} (h : PW X e t) (k : ∀ σ H Q, t' σ H Q → t σ H Q) : PW X e t' := ⟨fun wh pins s σ H Q I w => h.run wh pins s σ H Q I (k σ H Q w)⟩
theorem _root_.L2.PA.imp {es : List Expr} {t t' : TA} (h : PA X es t) (k : ∀ σ H Q, t' σ H Q → t σ H Q) : PA X es t' := ⟨fun pos pins s σ H Q I w => h.run pos pins s σ H Q I (k σ H Q w)⟩
theorem _root_.L2.PS.imp {st : Stmt} {t t' : L2.TS} (h : PS X st t) (k : ∀ D σ H, t' D σ H → t D σ H) : PS X st t' := ⟨fun pins s σ H D I w => h.run pins s σ H D I (k D σ H w)⟩
theorem _root_.L2.PS.or {st : Stmt} {t t' t'' : L2.TS} (h : PS X st t) (h' : PS X st t') (k : ∀ D σ H, t'' D σ H → t D σ H ∨ t' D σ H) : PS X st t'' :=
  ⟨fun pins s σ H D I w => (k D σ H w).elim (h.run pins s σ H D I) (h'.run pins s σ H D I)⟩
theorem _root_.L2.PSs.imp {st : List Stmt} {t t' : L2.TS} (h : PSs X st t) (k : ∀ D σ H, t' D σ H → t D σ H) : PSs X st t' := ⟨fun pins s σ H D I w => h.run pins s σ H D I (k D σ H w)⟩
theorem _root_.L2.PG.imp {t t' : TG} (h : PG X e t) (k : ∀ v σ H Q, t' v σ H Q → t v σ H Q) : PG X e t' := ⟨fun pins s σ H v u Q I r w => h.run pins s σ H v u Q I r (k v σ H Q w)⟩
theorem _root_.L2.PI.imp {tg : Expr} {t t' : TI} (h : PI X tg e t) (k : ∀ σ H R, t' σ H R → t σ H R) : PI X tg e t' := ⟨fun pins s σ H R I w => h.run pins s σ H R I (k σ H R w)⟩
theorem _root_.L2.PI.or {tg : Expr} {t t' t'' : TI} (h : PI X tg e t) (h' : PI X tg e t') (k : ∀ σ H R, t'' σ H R → t σ H R ∨ t' σ H R) : PI X tg e t'' :=
  ⟨fun pins s σ H R I w => (k σ H R w).elim (h.run pins s σ H R I) (h'.run pins s σ H R I)⟩
end

/-! ### subscripts -/
theorem ixD_eq {n : Nat} {i : Int} : ixD n i = ixN n i := rfl
section
variable {G : Gd} {m : AdP} {H : Hp}
theorem Reps.at {ds : List D} {xs : List V} {i : Int} {d : D} (h : Reps G m H ds xs) (e : ((ixD ds.length i).bind fun j => ds[j]?) = some d) : ∃ v, atI xs i = some v ∧ Rep G m H d v := by
  unfold atI
  rw [← h.length, ← ixD_eq]
  cases q : ixD ds.length i with
  | none => rw [q] at e; cases e
  | some j =>
    rw [q] at e
    exact h.get e
def isDct : D → Bool
  | .dct _ _ _ => true
  | _ => false
theorem sub_seq {x y : V} {dx dk d : D} (n : isDct dx = false) (hx : Vw G m H dx x) (hy : Rep G m H dk y) (e : subD dx dk = some d) :
    ∃ v, Rep G m H d v ∧ ∀ Q : VK, Q v H → rIxL G.K x y H Q ∨ rIxT G.K x y H Q := by
  unfold subD at e
  split at e
  · obtain ⟨a, xs, rfl, h1, h2⟩ := hx.tup
    obtain ⟨v, h3, h4⟩ := h2.at e
    simp only [Rep] at hy
    exact ⟨v, h4, fun Q q => .inr ⟨a, xs, _, v, rfl, hy, h1.sq, h3, q⟩⟩
  · obtain ⟨a, xs, rfl, h1, h2⟩ := hx.lst
    obtain ⟨v, h3, h4⟩ := h2.at e
    simp only [Rep] at hy
    exact ⟨v, h4, fun Q q => .inl ⟨a, xs, _, v, rfl, hy, h1, h3, q⟩⟩
  · cases n
  · cases e
theorem sub_dct {x y : V} {dx dk d : D} (n : isDct dx = true) (hx : Vw G m H dx x) (hy : Rep G m H dk y) (e : subD dx dk = some d) :
    ∃ a v, x = .ref a ∧ DGet H a y (some v) ∧ Rep G m H d v := by
  cases dx <;> simp only [isDct] at n <;> (try cases n)
  simp only [subD] at e
  split at e
  · rename_i hk
    obtain ⟨a, o, rfl, h1, h2, _⟩ := dget_vw hx (.inl hy) hk
    rw [e] at h2
    cases o with
    | none => exact h2.elim
    | some v => exact ⟨a, v, rfl, h1, h2⟩
  · cases e
end

/-! ### slices -/
def partD : D → Option (Option Int)
  | .non => some none
  | .int i => some (some i)
  | _ => none
theorem bnd_part {n d : Nat} {x : D} {k : Nat} (h : bndD n d x = some k) : ∃ o, partD x = some o ∧ k = HT.sIx n d o := by
  unfold bndD at h
  split at h <;> cases h
  · exact ⟨none, rfl, rfl⟩
  · exact ⟨some _, rfl, rfl⟩
def tPart2 (t : TE) : TO := fun σ H Q => t σ H fun x H1 => (∃ i, x = .int i ∧ Q (some i) H1) ∨ (x = .non ∧ Q none H1)
theorem po_some2 {X : Cx} {e : Expr} {te : TE} (h : PE X e te) : PO X (some e) (tPart2 te) := by
  refine ⟨fun pins s σ H Q I hw => ?_⟩
  rw [evalPart_some]
  refine thn (h.run pins s σ H _ I hw) fun u s1 ⟨x, H1, I1, r1, q1⟩ => ?_
  rcases q1 with ⟨i, rfl, q⟩ | ⟨rfl, q⟩
  · obtain ⟨t, rfl⟩ := r1
    exact ⟨some i, H1, I1, .int i t, q⟩
  · cases r1
    exact ⟨none, H1, I1, by first | exact .none | constructor, q⟩
/-- what a slice of lists and tuples gives, by data -/
def rCut (K : PySem.W.Frag) : V → Option Int → Option Int → Hp → VK → Prop := fun x lo hi H Q => rSlL K x lo hi H Q ∨ rSlA K x lo hi H Q
theorem sl_cut {X : Cx} : SlR X (rCut X.K) := sl_list.or sl_tupA
section
variable {G : Gd} {m : AdP} {H : Hp}
theorem cut_eq {ds es : List D} {lo hi : D} {xs : List V} (h : cutD ds lo hi = some es) (r : Reps G m H ds xs) : ∃ l u, partD lo = some l ∧ partD hi = some u ∧ Reps G m H es (cutV xs l u) ∧ es.length = (cutV xs l u).length := by
  unfold cutD at h
  cases e1 : bndD ds.length 0 lo with
  | none => rw [e1] at h; cases h
  | some a =>
    cases e2 : bndD ds.length ds.length hi with
    | none => rw [e1, e2] at h; cases h
    | some b =>
      rw [e1, e2] at h
      cases h
      obtain ⟨l, p1, q1⟩ := bnd_part e1
      obtain ⟨u, p2, q2⟩ := bnd_part e2
      have rr : Reps G m H ((ds.drop a).take (b - a)) (cutV xs l u) := by
        unfold cutV
        rw [← r.length, ← q1, ← q2]
        exact (r.drop a).take _
      exact ⟨l, u, p1, p2, rr, rr.length⟩
theorem slc_vw {x : V} {dx lo hi d : D} {Q : VK} (l : Live m H) (hx : Vw G m H dx x) (e : slcD dx lo hi = some d) (g : Gives G m H d Q) :
    ∃ a b, partD lo = some a ∧ partD hi = some b ∧ rCut G.K x a b H Q := by
  unfold slcD at e
  split at e
  · obtain ⟨es, e1, rfl⟩ := omap e
    obtain ⟨a, xs, rfl, h1, h2⟩ := hx.tup
    obtain ⟨lo', hi', p1, p2, r, _⟩ := cut_eq e1 h2
    refine ⟨lo', hi', p1, p2, .inr ⟨a, xs, rfl, h1.sq, fun w => ?_, fun _ => g.tup l r⟩⟩
    refine g _ _ Ex.refl ?_ (.not rfl)
    simp only [Rep]
    refine ⟨a, xs, rfl, h1, ?_⟩
    have e2 : cutV xs lo' hi' = xs := by
      unfold cutV
      rw [w.1, w.2]
      simp
    rw [e2] at r
    exact r
  · obtain ⟨es, e1, rfl⟩ := omap e
    obtain ⟨a, xs, rfl, h1, h2⟩ := hx.lst
    obtain ⟨lo', hi', p1, p2, r, _⟩ := cut_eq e1 h2
    exact ⟨lo', hi', p1, p2, .inl ⟨a, xs, rfl, h1, g.lst l r⟩⟩
  · cases e
end
/-- picks of items[k::-1], k negative -/
theorem pick_back (items : Array Value) (k : Int) (h0 : k < 0) (h1 : -k ≤ items.size) : slicePick items (some k) none (some (-1)) = (items.toList.take (items.size + 1 - k.natAbs)).reverse.toArray := by
  have eb : sliceBounds (some k) none (some (-1)) items.size = (k + (items.size : Int), -1, -1) := by
    show ((if ((-1 : Int) > 0) then max 0 (min (if k < 0 then k + (items.size : Int) else k) (items.size : Int)) else max (-1) (min (if k < 0 then k + (items.size : Int) else k) ((items.size : Int) - 1))), (if ((-1 : Int) > 0) then (items.size : Int) else -1), (-1 : Int)) = _
    rw [if_neg (by decide : ¬ ((-1 : Int) > 0)), if_neg (by decide : ¬ ((-1 : Int) > 0)), if_pos h0]
    congr 1
    omega
  unfold slicePick
  rw [eb]
  have er : sliceRange (k + (items.size : Int)) (-1) (-1) = (List.range (items.size + 1 - k.natAbs)).map fun i => (items.size - k.natAbs) - i := by
    unfold sliceRange
    rw [if_neg (by decide)]
    have : (if k + (items.size : Int) > -1 then (k + (items.size : Int) - -1 - -1 - 1) / - -1 else 0) = ((items.size + 1 - k.natAbs : Nat) : Int) := by
      rw [if_pos (by omega), show (- -1 : Int) = 1 from rfl, Int.ediv_one]
      omega
    show (List.range (if k + (items.size : Int) > -1 then (k + (items.size : Int) - -1 - -1 - 1) / - -1 else 0).toNat).map _ = _
    rw [this, Int.toNat_natCast]
    refine List.map_congr_left fun i hi => ?_
    have := List.mem_range.mp hi
    show (k + (items.size : Int) + -1 * (i : Int)).toNat = _
    omega
  show ((sliceRange (k + (items.size : Int)) (-1) (-1)).filterMap (items[·]?)).toArray = _
  rw [er]
  congr 1
  have step : ∀ (n : Nat), n ≤ items.size + 1 - k.natAbs → ((List.range n).map fun i => (items.size - k.natAbs) - i).filterMap (items[·]?) = (items.toList.take (items.size + 1 - k.natAbs)).reverse.take n := by
    intro n
    induction n with
    | zero => intro _; simp
    | succ n ih =>
      intro hn
      rw [List.range_succ, List.map_append, List.filterMap_append, ih (by omega)]
      have lt : items.size - k.natAbs - n < items.size := by omega
      have ln : (items.toList.take (items.size + 1 - k.natAbs)).length = items.size + 1 - k.natAbs := by
        rw [List.length_take, Array.length_toList]; omega
      have e2 : (items.toList.take (items.size + 1 - k.natAbs)).reverse[n]? = some items[items.size - k.natAbs - n] := by
        rw [List.getElem?_reverse (by rw [ln]; omega), ln, List.getElem?_take, if_pos (by omega)]
        have e3 : items.size + 1 - k.natAbs - 1 - n = items.size - k.natAbs - n := by omega
        rw [e3, Array.getElem?_toList, Array.getElem?_eq_getElem lt]
      rw [List.take_add_one, e2]
      simp only [List.map_cons, List.map_nil, List.filterMap_cons, List.filterMap_nil, Array.getElem?_eq_getElem lt]
      rfl
  rw [step _ (Nat.le_refl _), List.take_of_length_le]
  rw [List.length_reverse, List.length_take, Array.length_toList]
  omega
def rBack (K : PySem.W.Frag) : V → Option Int → Hp → VK → Prop := fun x lo H Q =>
  (∃ a xs, x = .ref a ∧ SqT K H a xs ∧ lo = none ∧ ∀ p, H p = none → Q (.ref p) (upd H p (.tup xs.reverse))) ∨
  (∃ a xs, x = .ref a ∧ SqL K H a xs ∧ lo = none ∧ ∀ p, H p = none → Q (.ref p) (upd H p (.lst xs.reverse))) ∨
  (∃ a xs k, x = .ref a ∧ SqL K H a xs ∧ lo = some k ∧ k < 0 ∧ -k ≤ xs.length ∧ ∀ p, H p = none → Q (.ref p) (upd H p (.lst (xs.take (xs.length + 1 - k.natAbs)).reverse)))
def tBack (K : PySem.W.Frag) (te : TE) (tl : TO) : TE := fun σ H Q => te σ H fun x H1 => tl σ H1 fun lo H2 => rBack K x lo H2 Q
theorem pe_back {X : Cx} {e : Expr} {te : TE} {lo : Option Expr} {tl : TO} {k : Nat} {p1 p2 p3 pos : Pos} (he : PE X e te) (hl : PO X lo tl) : PE X (.Subscript e (.Slice lo none (some (.UnaryOp .USub (.Constant (.int 1) k p1) p2)) p3) pos) (tBack X.K te tl) := by
  refine ⟨fun pins s σ H Q I h => ?_⟩
  refine Subscript_ (thn (he.run pins s σ H _ I h) fun v s1 ⟨x, H1, I1, r1, q1⟩ => ?_)
  have hst : PO X (some (.UnaryOp .USub (.Constant (.int 1) k p1) p2)) (tPart (tUn (rU fun i => .int (-i)) (tC (.int 1)))) := po_some (pe_un un_neg pe_int)
  refine wpAny_Slice (thn (hl.run pins s1 σ H1 _ I1 q1) fun vl s2 ⟨l, H2, I2, pl, q2⟩ => ?_)
  refine thn (po_none.run pins s2 σ H2 (fun o H3 => o = none ∧ H3 = H2) I2 ⟨rfl, rfl⟩) fun vu s3 ⟨u, H3, I3, pu, eu, e3⟩ => ?_
  subst eu e3
  refine thn (hst.run pins s3 σ H3 (fun o H4 => o = some (-1) ∧ H4 = H3) I3 ⟨1, rfl, -1, rfl, rfl, rfl⟩) fun vs s4 ⟨o, H4, I4, ps, eo, e4⟩ => ?_
  subst eo e4
  have I5 : Inv X pins σ H4 { s4 with heap := s4.heap.push { cls := .type "slice", data := .fields #[vl, vu, vs] } } := I4.kept (t' := s4.toks) fun b ob q => Heap.get?_push_of_some _ q
  show wpAny (model X.prog X.w) X.A (subscriptTail e (.Slice lo none (some (.UnaryOp .USub (.Constant (.int 1) k p1) p2)) p3) v (.ref s4.heap.objs.size)) (EP X pins σ Q) X.xe { s4 with heap := s4.heap.push { cls := .type "slice", data := .fields #[vl, vu, vs] } }
  rcases q2 with ⟨a, xs, rfl, hx, rfl, q⟩ | ⟨a, xs, rfl, hx, rfl, q⟩ | ⟨a, xs, kk, rfl, hx, rfl, hk0, hk1, q⟩
  · cases r1
    obtain ⟨its, r, ht, hz⟩ := I5.tuple hx
    have hlen := r.length
    refine tail_any (ops := [.ref a, .ref s4.heap.objs.size]) ht.typeIs (PyProof.Rows.slot_tuple_getitem.lookup) ?_ (by with_unfolding_all rfl)
    refine back_tup ht (Heap.IsSliceOf.new _ vl vu vs) pl pu ps ?_ (by rw [List.size_toArray]; omega)
    refine ⟨.ref _, _, I5.laid (t' := s4.toks) (o := .tup xs.reverse) (fun b ob q => Heap.get?_push_of_some _ q) (Nat.le_refl _) ?_, rfl, q _ (I5.hok.fresh (Nat.le_refl _))⟩
    exact ⟨by rw [List.length_reverse]; exact hz, _, r.reverse, ⟨_, Heap.get?_push_size _ rfl, rfl, 0, rfl⟩⟩
  · cases r1
    obtain ⟨its, r, ht, hz⟩ := I5.list hx
    have hlen := r.length
    refine tail_any (ops := [.ref a, .ref s4.heap.objs.size]) ht.isList.typeIs (PySem.slot_list_getitem.lookup) ?_ (by with_unfolding_all rfl)
    refine wpAny_getItem_list_slice ht.isList (Heap.IsSliceOf.new _ vl vu vs) pl pu ps (by decide) ?_ (by rw [List.size_toArray]; omega)
    rw [PySem.W.krv_pick]
    refine ⟨.ref _, _, I5.laid (t' := s4.toks) (o := .lst xs.reverse) (fun b ob q => Heap.get?_push_of_some _ q) (Nat.le_refl _) ?_, rfl, q _ (I5.hok.fresh (Nat.le_refl _))⟩
    exact ⟨by rw [List.length_reverse]; exact hz, _, 0, r.reverse, Heap.get?_push_size _ rfl⟩
  · cases r1
    obtain ⟨its, r, ht, hz⟩ := I5.list hx
    have hlen := r.length
    refine tail_any (ops := [.ref a, .ref s4.heap.objs.size]) ht.isList.typeIs (PySem.slot_list_getitem.lookup) ?_ (by with_unfolding_all rfl)
    refine wpAny_getItem_list_slice ht.isList (Heap.IsSliceOf.new _ vl vu vs) pl pu ps (by decide) ?_ (by rw [List.size_toArray]; omega)
    rw [pick_back _ _ hk0 (by rw [List.size_toArray]; omega)]
    have e6 : its.toArray.size = xs.length := by rw [List.size_toArray]; exact hlen.symm
    rw [e6]
    refine ⟨.ref _, _, I5.laid (t' := s4.toks) (o := .lst (xs.take (xs.length + 1 - kk.natAbs)).reverse) (fun b ob q => Heap.get?_push_of_some _ q) (Nat.le_refl _) ?_, rfl, q _ (I5.hok.fresh (Nat.le_refl _))⟩
    refine ⟨?_, _, 0, (r.take _).reverse, Heap.get?_push_size _ rfl⟩
    rw [List.length_reverse, List.length_take]
    exact Nat.le_trans (Nat.min_le_right _ _) hz
section
variable {G : Gd} {m : AdP} {H : Hp}
theorem rev_vw {x : V} {dx lo d : D} {Q : VK} (l : Live m H) (hx : Vw G m H dx x) (e : revD dx lo = some d) (g : Gives G m H d Q) :
    ∃ a, partD lo = some a ∧ rBack G.K x a H Q := by
  unfold revD at e
  split at e
  · cases e
    obtain ⟨a, xs, rfl, h1, h2⟩ := hx.tup
    exact ⟨none, rfl, .inl ⟨a, xs, rfl, h1.sq, rfl, g.tup l h2.reverse⟩⟩
  · cases e
    obtain ⟨a, xs, rfl, h1, h2⟩ := hx.lst
    exact ⟨none, rfl, .inr (.inl ⟨a, xs, rfl, h1, rfl, g.lst l h2.reverse⟩)⟩
  · split at e <;> cases e
    rename_i hk
    obtain ⟨a, xs, rfl, h1, h2⟩ := hx.lst
    have hl := h2.length
    refine ⟨some _, rfl, .inr (.inr ⟨a, xs, _, rfl, h1, rfl, hk.1, by rw [← hl]; exact hk.2, ?_⟩)⟩
    rw [← hl]
    exact g.lst l (h2.take _).reverse
  · cases e
end
end Qx
set_option Elab.async false
set_option linter.all false
set_option maxRecDepth 100000
set_option maxHeartbeats 4000000
/-! QBi3: methods, dicts, ranges, by plain data. -/
namespace Qx
open PySem PySem.Spec PyProof.Rows L2

/-! ### methods that change a list -/
def MGives (G : Gd) (m : AdP) (H : Hp) (a : Addr) (r d' : D) (Q : VK) : Prop := ∀ v ds' xs', d' = .lst ds' → Rep G m H r v → Reps G m H ds' xs' → Q v (upd H a (.lst xs'))
section
variable {G : Gd} {m : AdP} {H : Hp} {a : Addr} {xs vs : List V} {ds es : List D} {r d' : D} {Q : VK}
theorem app_vw (h0 : H a = some (.lst xs)) (hr : Reps G m H ds xs) (ha : Reps G m H es vs) (e : appM (.lst ds) es = some (r, d')) (g : MGives G m H a r d' Q) : rAppend (.ref a) vs H Q := by
  unfold appM at e
  split at e
  · rename_i d x _
    split at e <;> cases e
    rename_i hz
    rename_i e0
    cases e0
    obtain ⟨v, ws, rfl, h1, h2⟩ := ha.inv
    have := h2.inv0
    subst this
    exact ⟨a, xs, v, rfl, rfl, h0, by rw [← hr.length]; exact sz_eq ▸ hz, g _ _ _ rfl Rep.of_non (hr.append (.cons h1 .nil))⟩
  · cases e
theorem pop0_vw (h0 : H a = some (.lst xs)) (hr : Reps G m H ds xs) (ha : Reps G m H es vs) (e : pop0M (.lst ds) es = some (r, d')) (g : MGives G m H a r d' Q) : rPop (.ref a) vs H Q := by
  unfold pop0M at e
  split at e
  · rename_i e0
    cases e0
    obtain ⟨x, e1, e2⟩ := omap e
    cases e2
    have := ha.inv0
    subst this
    rw [List.getLast?_eq_getElem?] at e1
    obtain ⟨v, h1, h2⟩ := hr.get e1
    rw [hr.length] at h1
    exact ⟨a, xs, v, rfl, rfl, h0, h1, g _ _ _ rfl h2 hr.dropLast⟩
  · cases e
theorem pop1_vw (h0 : H a = some (.lst xs)) (hr : Reps G m H ds xs) (ha : Reps G m H es vs) (e : pop1M (.lst ds) es = some (r, d')) (g : MGives G m H a r d' Q) : rPopAt (.ref a) vs H Q := by
  unfold pop1M at e
  split at e
  · rename_i i e0
    cases e0
    split at e
    · rename_i hi
      obtain ⟨x, e1, e2⟩ := omap e
      cases e2
      obtain ⟨w, ws, rfl, h1, h2⟩ := ha.inv
      have := h2.inv0
      subst this
      simp only [Rep] at h1
      subst h1
      obtain ⟨v, h3, h4⟩ := hr.get e1
      have lt : i.toNat < xs.length := by
        have := List.getElem?_eq_some_iff.mp h3
        exact this.1
      refine ⟨a, xs, i, i.toNat, v, rfl, rfl, h0, by have := hi.1; omega, hi.2, ?_, h3, g _ _ _ rfl h4 (hr.eraseIdx _)⟩
      have h0' := hi.1
      unfold seqIndex?
      simp only [if_neg (show ¬ i < 0 by omega)]
      have : (decide (0 ≤ i) && decide (i < (xs.length : Int))) = true := by
        rw [Bool.and_eq_true, decide_eq_true_eq, decide_eq_true_eq]
        exact ⟨h0', by omega⟩
      rw [if_pos this]
    · cases e
  · cases e
end

/-! ### dicts: get, put -/
section
variable {G : Gd} {m : AdP} {H : Hp}
theorem LookR.getD {o : Option D} {p : Option V} {d : D} {v : V} (h : LookR G m H o p) (hd : Rep G m H d v) : Rep G m H (o.getD d) (p.getD v) := by
  cases o <;> cases p <;> first | exact hd | exact h | exact h.elim
theorem rep_val {κ : Type} [DecidableEq κ] {f : κ → D} (hf : ∀ a b, eqD (f a) (f b) = decide (a = b)) (k : κ) {d : D} {v : V} (hd : Rep G m H d v) : ∀ {kvs : List (κ × V)} {vs : List D}, Reps G m H vs (kvs.map (·.2)) →
    Reps G m H (repD (f k) d (kvs.map fun p => f p.1) vs) ((kvs.map fun kv => if kv.1 = k then (kv.1, v) else kv).map (·.2))
  | [], vs, h => by
    rw [List.map_nil] at h ⊢
    have := h.length
    cases vs with
    | nil => exact .nil
    | cons d ds => simp at this
  | p :: kvs, [], h => by have := h.length; simp at this
  | p :: kvs, d' :: ds, h => by
    rw [List.map_cons] at h
    obtain ⟨w, ws, e, h1, h2⟩ := h.inv
    cases e
    rw [List.map_cons, List.map_cons, List.map_cons]
    simp only [repD]
    rw [hf]
    refine .cons ?_ (rep_val hf k hd h2)
    by_cases e : p.1 = k
    · rw [decide_eq_true e, if_pos rfl, if_pos e]; exact hd
    · rw [decide_eq_false e, if_neg (by decide), if_neg e]; exact h1
theorem keys_rep {κ : Type} [DecidableEq κ] {f : κ → D} (k : κ) {v : V} : ∀ kvs : List (κ × V), ((kvs.map fun kv => if kv.1 = k then (kv.1, v) else kv).map fun p => f p.1) = kvs.map fun p => f p.1
  | [] => rfl
  | p :: kvs => by
    rw [List.map_cons, List.map_cons, List.map_cons, keys_rep k kvs]
    congr 1
    by_cases e : p.1 = k
    · rw [if_pos e]
    · rw [if_neg e]
theorem put_val {κ : Type} [DecidableEq κ] {f : κ → D} (hf : ∀ a b, eqD (f a) (f b) = decide (a = b)) (k : κ) {d : D} {v : V} (hd : Rep G m H d v) {kvs : List (κ × V)} {vs : List D} (h : Reps G m H vs (kvs.map (·.2))) :
    (putD (f k) d (kvs.map fun p => f p.1) vs).1 = ((putK kvs k v).map fun p => f p.1) ∧ Reps G m H (putD (f k) d (kvs.map fun p => f p.1) vs).2 ((putK kvs k v).map (·.2)) := by
  unfold putD putK
  have e := (look_val hf k h).some_eq
  rw [e, ← valV_any]
  by_cases c : (kvs.any fun kv => decide (kv.1 = k)) = true
  · rw [if_pos c, if_pos c]
    exact ⟨(keys_rep k kvs).symm, rep_val hf k hd h⟩
  · rw [if_neg c, if_neg c]
    refine ⟨by simp, ?_⟩
    rw [List.map_append]
    exact h.append (.cons hd .nil)
/-- a store into an owned thing -/
theorem set_vw {a : Addr} {o o' dk dv : D} {k v : V} (hm : m a) (lv : Live m H) (ho : OwnAt G m H a o) (hk : Rep G m H dk k) (hv : Rep G m H dv v) (e : setD o dk dv = some o') :
    ∃ h, OwnAt G m (upd H a h) a o' ∧ ((∀ Q : Hp → Prop, Q (upd H a h) → rSetL (.ref a) k v H Q) ∨ DPut H a k v (upd H a h)) := by
  have kp : ∀ h, Kp m m H (upd H a h) := fun h => ⟨fun b u q n => by
    rw [upd_ne (fun z => n (by rw [z]; exact hm))]; exact q, fun _ z => .inl z⟩
  unfold setD at e
  split at e
  · rename_i ds i
    obtain ⟨j, e1, rfl⟩ := omap e
    obtain ⟨xs, h1, h2⟩ := ho
    simp only [Rep] at hk
    subst hk
    refine ⟨.lst (xs.set j v), ⟨_, upd_same, (h2.set j hv).mono (kp _)⟩, .inl fun Q q => ⟨a, xs, i, j, rfl, rfl, h1, ?_, q⟩⟩
    rw [← h2.length]; exact e1
  · rename_i t ks vs
    split at e <;> cases e
    rename_i hz
    rw [Bool.and_eq_true, decide_eq_true_eq] at hz
    obtain ⟨hok, hz⟩ := hz
    cases t with
    | false =>
      obtain ⟨q, rfl⟩ := key_of_ok hok
      obtain ⟨kvs, h1, rfl, h3⟩ := ho
      obtain ⟨p1, p2⟩ := put_val eqD_dK q hv h3
      refine ⟨.dK (putK kvs q v), ⟨_, upd_same, p1, p2.mono (kp _)⟩, .inr (.inl ⟨kvs, q, h1, hk.dK, ?_, rfl⟩)⟩
      rw [List.length_map] at hz
      exact sz_eq ▸ hz
    | true =>
      obtain ⟨q, rfl⟩ := keys_of_ok hok
      obtain ⟨kvs, h1, rfl, h3⟩ := ho
      obtain ⟨b, rfl, h4⟩ := hk.dKs
      obtain ⟨p1, p2⟩ := put_val eqD_dKs q hv h3
      refine ⟨.dT (putK kvs q v), ⟨_, upd_same, p1, p2.mono (kp _)⟩, .inr (.inr ⟨kvs, q, b, h1, rfl, h4, ?_, rfl⟩)⟩
      rw [List.length_map] at hz
      exact sz_eq ▸ hz
  · cases e
end

/-! ### ranges -/
theorem Reps.of_fn {G : Gd} {m : AdP} {H : Hp} {f : Nat → D} {g : Nat → V} (h : ∀ i, Rep G m H (f i) (g i)) : ∀ l : List Nat, Reps G m H (l.map f) (l.map g)
  | [] => .nil
  | i :: l => .cons (h i) (Reps.of_fn h l)
theorem rg_vw {G : Gd} {m : AdP} {H : Hp} (n : Int) : Reps G m H ((List.range n.toNat).map fun (i : Nat) => D.int i) (rgV 0 n) := by
  unfold rgV
  rw [Int.sub_zero]
  refine Reps.of_fn (fun i => ?_) _
  rw [Int.zero_add]
  exact Rep.of_int
theorem rgOk_of {n : Int} (h1 : -(2 ^ 62) ≤ n) (h2 : n ≤ SZ) : RgOk 0 n := by
  have : (SZ : Int) = 16777216 := rfl
  rw [this] at h2
  exact ⟨by decide, by decide, h1, Int.lt_of_le_of_lt h2 (by decide), by
    show (n - 0).toNat ≤ 16777216
    omega⟩
end Qx
set_option Elab.async false
set_option linter.all false
set_option maxRecDepth 100000
set_option maxHeartbeats 4000000
/-! QSnd: readings of the own syntax; one lemma for each kind of node. -/
namespace Qx
open PySem PySem.Spec PyProof.Rows L2

/-- the world of one def's walk -/
structure Sx where
  G : Gd
  Φ : Orc
  R : Rfs
  C : Cc
def ad (m : AdP) (a : Addr) : AdP := fun b => b = a ∨ m b
abbrev Slots := Nat → Option Addr
theorem Nx.free {A : Slots} {H H' : Hp} (n : Nx A H H') {a : Addr} (h : H' a = none) : H a = none := by
  cases q : H a with
  | none => rfl
  | some o => exact (n.live a (by rw [q]; exact fun z => nomatch z) h).elim

section
variable {G : Gd} {m m' : AdP} {H H' : Hp} {A : Slots} {env : En} {σ : L2.St}
theorem Kp.weak (h : ∀ a, m' a → m a) : Kp m m' H H := ⟨fun _ _ h _ => h, fun a z => .inl (h a z)⟩
theorem Kp.add {p : Addr} (hp : H p = none) {o : HO} : Kp m (ad m p) H (upd H p o) := ⟨fun a u e _ => by rw [upd_ne (ne_of_none e hp)]; exact e, fun a z => z.elim (fun z => .inr (z ▸ hp)) .inl⟩
theorem RE.add {p : Addr} {o : HO} (r : RE G A m env σ H) (hp : H p = none) : RE G A (ad m p) env σ (upd H p o) :=
  ⟨r.len, fun i d e => let ⟨v, h1, h2⟩ := r.val i d e; ⟨v, h1, h2.mono (Kp.add hp)⟩,
   fun i d e => let ⟨a, h1, h2, h3⟩ := r.own i d e; ⟨a, h1, h2, h3.mono (Kp.add hp) fun u h => by rw [upd_ne (ne_of_none h hp)]; exact h⟩, r.inj, fun i a e => .inr (r.mem i a e),
   fun a z => z.elim (fun z => by rw [z, upd_same]; exact fun z => nomatch z) fun z => by
    by_cases c : a = p
    · rw [c, upd_same]; exact fun z => nomatch z
    · rw [upd_ne c]; exact r.live a z⟩
mutual
/-- what holds no list, no dict may be read under more marks -/
theorem Rep.relent (t : ∀ b xs, H b = some (.tup xs) → m' b → m b) : ∀ (d : D) (v : V), noL d = true → Rep G m H d v → Rep G m' H d v
  | .non, _, _, h => by simpa only [Rep] using h
  | .bl _, _, _, h => by simpa only [Rep] using h
  | .int _, _, _, h => by simpa only [Rep] using h
  | .str _, _, _, h => by simpa only [Rep] using h
  | .fn _, _, _, h => by simpa only [Rep] using h
  | .tup ds, _, n, h => by
    simp only [Rep] at h ⊢
    simp only [noL] at n
    obtain ⟨a, xs, e, h1, h2⟩ := h
    exact ⟨a, xs, e, ⟨h1.1, fun z => h1.2 (t a xs h1.1 z)⟩, Reps.relent t ds xs n h2⟩
  | .lst ds, _, n, h => by simp [noL] at n
  | .dct false ks vs, _, n, h => by simp [noL] at n
  | .dct true ks vs, _, n, h => by simp [noL] at n
theorem Reps.relent (t : ∀ b xs, H b = some (.tup xs) → m' b → m b) : ∀ (ds : List D) (xs : List V), noLs ds = true → Reps G m H ds xs → Reps G m' H ds xs
  | [], _, _, h => by simpa only [Reps] using h
  | d :: ds, _, n, h => by
    simp only [Reps] at h ⊢
    simp only [noLs, Bool.and_eq_true] at n
    obtain ⟨v, vs, e, h1, h2⟩ := h
    exact ⟨v, vs, e, Rep.relent t d v n.1 h1, Reps.relent t ds vs n.2 h2⟩
end
theorem OwnAt.relent {a : Addr} {d : D} (t : ∀ b xs, H b = some (.tup xs) → m' b → m b) (n : noLc d = true) (h : OwnAt G m H a d) : OwnAt G m' H a d := by
  cases d with
  | lst ds => obtain ⟨xs, h1, h2⟩ := h; exact ⟨xs, h1, Reps.relent t ds xs n h2⟩
  | dct b ks vs =>
    cases b with
    | false => obtain ⟨kvs, h1, h2, h3⟩ := h; exact ⟨kvs, h1, h2, Reps.relent t vs _ n h3⟩
    | true => obtain ⟨kvs, h1, h2, h3⟩ := h; exact ⟨kvs, h1, h2, Reps.relent t vs _ n h3⟩
  | non => exact h
  | bl b => exact h
  | int b => exact h
  | str b => exact h
  | tup b => exact h
  | fn b => exact h
/-- an owned thing that is not marked stands still -/
theorem OwnAt.rep {a : Addr} {d : D} (h : OwnAt G m H a d) (n : ¬ m a) : Rep G m H d (.ref a) := by
  cases d with
  | lst ds => obtain ⟨xs, h1, h2⟩ := h; simp only [Rep]; exact ⟨a, xs, rfl, .inl ⟨.inl h1, n⟩, h2⟩
  | dct b ks vs =>
    cases b with
    | false => obtain ⟨kvs, h1, h2, h3⟩ := h; simp only [Rep]; exact ⟨a, kvs, rfl, .inl h1, n, h2, h3⟩
    | true => obtain ⟨kvs, h1, h2, h3⟩ := h; simp only [Rep]; exact ⟨a, kvs, rfl, .inl h1, n, h2, h3⟩
  | non => exact h.elim
  | bl b => exact h.elim
  | int b => exact h.elim
  | str b => exact h.elim
  | tup b => exact h.elim
  | fn b => exact h.elim
theorem OwnAt.weak {a : Addr} {d : D} (k : ∀ a, m' a → m a) (h : OwnAt G m H a d) : OwnAt G m' H a d := h.mono (Kp.weak k) fun _ h => h
theorem OwnAt.isC {a : Addr} {d : D} (h : OwnAt G m H a d) : isC d = true := by
  cases d <;> first | rfl | exact h.elim
theorem OwnAt.noTup {a : Addr} {d : D} (h : OwnAt G m H a d) : ∀ xs, H a ≠ some (.tup xs) := fun xs z => by
  cases d with
  | lst ds => obtain ⟨xs, h1, h2⟩ := h; rw [h1] at z; cases z
  | dct b ks vs =>
    cases b with
    | false => obtain ⟨kvs, h1, h2, h3⟩ := h; rw [h1] at z; cases z
    | true => obtain ⟨kvs, h1, h2, h3⟩ := h; rw [h1] at z; cases z
  | non => exact h.elim
  | bl b => exact h.elim
  | int b => exact h.elim
  | str b => exact h.elim
  | tup b => exact h.elim
  | fn b => exact h.elim
end

/-! ### readings -/
structure Post (S : Sx) (c : E) (A : Slots) (m : AdP) (env' : En) (σ : L2.St) (H H' : Hp) (d : D) (v : V) : Prop where
  nx : Nx A H H'
  re : RE S.G A m env' σ H'
  rep : Rep S.G m H' d v
  fr : frE S.C.F c = true → isC d = true → ∃ a, v = .ref a ∧ H a = none ∧ RE S.G A (ad m a) env' σ H' ∧ OwnAt S.G (ad m a) H' a d
def tV (S : Sx) (c : E) : TE := fun σ H Q => ∃ A m env d env', RE S.G A m env σ H ∧ evE S.Φ S.R c env = some (d, env') ∧ ∀ v H', Post S c A m env' σ H H' d v → Q v H'
def tA (S : Sx) (c : E) : TE := fun σ H Q => ∃ A m env a env', RE S.G A m env σ H ∧ opE c (evE S.Φ S.R c) env = some (a, env') ∧ ∀ v H', Nx A H H' → RE S.G A m env' σ H' → ARep S.G A m H' a v → Q v H'
def tT (S : Sx) (c : E) : TT := fun σ H Q => ∃ A m env b env', RE S.G A m env σ H ∧ asB (evE S.Φ S.R c env) = some (b, env') ∧ ∀ H', Nx A H H' → RE S.G A m env' σ H' → Q b H'
def AReps (G : Gd) (A : Slots) (m : AdP) (H : Hp) : List Qx.A → List V → Prop := Paired (ARep G A m H)
def tVs (S : Sx) (cs : List E) : TA := fun σ H Q => ∃ A m env ds env', RE S.G A m env σ H ∧ evEs S.Φ S.R cs env = some (ds, env') ∧ ∀ vs H', Nx A H H' → RE S.G A m env' σ H' → Reps S.G m H' ds vs → Q vs H'
def tAs (S : Sx) (cs : List E) : TA := fun σ H Q => ∃ A m env as env', RE S.G A m env σ H ∧ evAs S.Φ S.R cs env = some (as, env') ∧ ∀ vs H', Nx A H H' → RE S.G A m env' σ H' → AReps S.G A m H' as vs → Q vs H'
theorem AReps.mono {G : Gd} {A : Slots} {m : AdP} {H H' : Hp} (k : Kp m m H H') {as : List Qx.A} {vs : List V} (h : AReps G A m H as vs) : AReps G A m H' as vs := Paired.mapP h fun _ _ r => r.mono k

section
variable {S : Sx} {A : Slots} {m : AdP} {env env' : En} {σ : L2.St} {H H2 : Hp} {c : E} {d : D} {Q : VK}
theorem post_gives (re : RE S.G A m env' σ H2) (n : Nx A H H2) (q : ∀ v H', Post S c A m env' σ H H' d v → Q v H') : Gives S.G m H2 d Q := fun v H' ex rp nl => by
  refine q v H' ⟨n.trans ex.nx, re.ex ex, rp, fun _ hc => ?_⟩
  obtain ⟨ds, p, xs, rfl, rfl, hp, rfl, hr⟩ := nl hc
  exact ⟨p, rfl, n.free hp, re.add hp, ⟨xs, upd_same, hr.mono (Kp.add hp)⟩⟩
/-- a value that is no list, no dict, or a node that makes no new one -/
theorem Post.of (n : Nx A H H2) (re : RE S.G A m env' σ H2) {v : V} (rp : Rep S.G m H2 d v) (k : frE S.C.F c = false ∨ isC d = false) : Post S c A m env' σ H H2 d v :=
  ⟨n, re, rp, fun a b => by
    rcases k with k | k
    · rw [k] at a; cases a
    · rw [k] at b; cases b⟩
end

/-- the facts of the program: where its defs stand, what calls of them do -/
def OutsAt (G : Gd) (m : AdP) (H : Hp) (B : Slots) : List Nat → List D → Prop
  | [], [] => True
  | i :: is, d :: ds => (∃ a, B i = some a ∧ OwnAt G m H a d) ∧ OutsAt G m H B is ds
  | _, _ => False
structure Args (G : Gd) (m : AdP) (H : Hp) (B : Slots) (js : List Nat) (ds : List D) (vs : List V) : Prop where
  len : ds.length = vs.length
  live : Live m H
  own : ∀ j d, ds[j]? = some d → j ∈ js → ∃ a, B j = some a ∧ vs[j]? = some (.ref a) ∧ OwnAt G m H a d
  val : ∀ j d, ds[j]? = some d → j ∉ js → ∃ v, vs[j]? = some v ∧ Rep G m H d v
  inj : ∀ i j a, B i = some a → B j = some a → i = j
  mem : ∀ i a, B i = some a → m a
  dom : ∀ i a, B i = some a → i ∈ js
structure Back (G : Gd) (fr : Bool) (m : AdP) (H : Hp) (B : Slots) (js : List Nat) (r : D) (outs : List D) (v : V) (H' : Hp) (m2 : AdP) : Prop where
  nx : Nx B H H'
  more : ∀ a, m a → m2 a
  new : ∀ a, m2 a → m a ∨ H a = none
  outs : OutsAt G m2 H' B js outs
  res : (∃ a, v = .ref a ∧ m2 a ∧ H a = none ∧ OwnAt G m2 H' a r) ∨ (Rep G m2 H' r v ∧ (fr = false ∨ isC r = false))
  live : ∀ a, m2 a → H' a ≠ none
def spOf (S : Sx) (g : Nat) : Sp := fun vs H Q _ => ∃ m B ds r outs, S.Φ g ds = some (r, outs) ∧ Args S.G m H B (S.R g) ds vs ∧
  ∀ v H' m2, Back S.G (S.C.F g) m H B (S.R g) r outs v H' m2 → Q v H'
def pickV {α : Type} (xs : List α) (pm : List Nat) : List α := pm.filterMap fun j => xs[j]?
/-- calls with names -/
def KwOk (K : PySem.W.Frag) (fd : FuncData) (ps : List Str) : Prop := ∀ (n : Nat) (ks : List Str) (pm : List Nat), kwPos ps n ks = some pm → ks.Nodup → n + ks.length = ps.length → (∀ k ∈ ks, k ∈ ps.drop n) →
  ∀ (s : Shared) (us ws : List Value), K.In s.heap → us.length = n → ws.length = ks.length → BindsTo s fd ⟨us, ks.zip ws⟩ (ps.zip (pickV (us ++ ws) pm))
structure FnAt (S : Sx) (k : Nat) (P : Program) (w : World) (K : PySem.W.Frag) (mg : Str → Option Value) (base : Heap) (g : Nat) (f : Addr) : Prop where
  ex : ∃ (fd : FuncData) (ps : List Str), FnOk P w K mg base CX0 k f fd ps (spOf S g) ∧ PySem.W.keepIn K (.ref f) = true ∧ Binds K fd ps [] ∧ ps = S.C.P g ∧ KwOk K fd ps
def bltNames : List Str := ["len", "abs", "int", "tuple", "list", "sorted", "sum", "all", "any", "max", "min", "isinstance", "range", "enumerate", "zip", "bool", "str", "dict"]
structure Prg (S : Sx) (k : Nat) (P : Program) (w : World) (K : PySem.W.Frag) (mg : Str → Option Value) (base : Heap) : Prop where
  fns : ∀ g f, S.G.fa g = some f → FnAt S k P w K mg base g f
  glo : ∀ x g, S.C.G.lookup x = some (.fn g) → ∃ f, mg x = some (.ref f) ∧ S.G.fa g = some f
  cst : ∀ x d, S.C.G.lookup x = some (.cst d) → ∃ v u, mg x = some u ∧ RelV v u ∧ ∀ m H, Rep S.G m H d v
  blt : ∀ x ∈ bltNames, S.C.G.lookup x = none → mg x = none
structure Ct (S : Sx) (k : Nat) (sc : Scope) (X : Cx) : Prop where
  N : X.N = S.C.N
  nd : S.C.N.Nodup
  calm : X.calm = true
  room : Room k X.A
  hK : X.K = S.G.K
  xe : X.xe = fun _ _ => False
  kind : X.env.scope.kind = .function
  loc : ∀ x, sc.names.lookup x = some .local → X.env.scope.names.lookup x = some .local
  cell : ∀ x, sc.names.lookup x = some .cell → X.env.scope.names.lookup x = some .cell ∧ X.fn x = true
  free : ∀ x, sc.names.lookup x = some .free → X.env.scope.names.lookup x = some .cell ∨ X.env.scope.names.lookup x = some .free
  gl : ∀ x, sc.names.lookup x = some .globalImplicit → Gl X x
  prg : Prg S k X.prog X.w X.K X.mg X.base

section
variable {S : Sx} {k : Nat} {sc : Scope} {X : Cx}
theorem Ct.vis (h : Ct S k sc X) {x : Str} (e : seen sc x = true) : Vis X.env.scope x := by
  unfold seen at e
  split at e
  · rename_i q; exact .inl (h.loc x q)
  · rename_i q; exact .inr (.inl (h.cell x q).1)
  · rename_i q; exact (h.free x q).elim (fun z => .inr (.inl z)) fun z => .inr (.inr z)
  · cases e
theorem Ct.glo (h : Ct S k sc X) {x : Str} (e : isGl sc x = true) : Gl X x := by
  unfold isGl at e
  split at e
  · rename_i q; exact h.gl x q
  · cases e
theorem Ct.un (h : Ct S k sc X) : X.A.units + 65 < cLine := by have := h.room.un; omega
theorem ixOf_some : ∀ {N : List Str} {x : Str} {i : Nat}, ixOf N x = some i → N[i]? = some x
  | [], _, _, h => by simp [ixOf] at h
  | y :: r, x, i, h => by
    unfold ixOf at h
    split at h
    · cases h; rename_i e; simp [e]
    · obtain ⟨j, e, rfl⟩ := omap h
      simpa using ixOf_some e
theorem Ct.ix (h : Ct S k sc X) {x : Str} {i : Nat} (e : ixOf S.C.N x = some i) : X.N[i]? = some x := by rw [h.N]; exact ixOf_some e
end

/-- a node with its readings -/
structure Snd (S : Sx) (X : Cx) (e : Expr) (c : E) : Prop where
  pe : PE X e (tV S c)
  pa : PE X e (tA S c)
  pt : PT X e (tT S c)
  sw : isLC e = true → ∀ (i : Nat) (y : Str) (py spos : Pos), X.N[i]? = some y → X.env.scope.names.lookup y = some .local → swapsWith e (some (.Name y py)) spos.line X.env = pure true → PS X (.Assign [.Name y py] e spos) (tAsg (tV S c) (gName i))
section
variable {S : Sx} {k : Nat} {sc : Scope} {X : Cx} {e : Expr} {c : E}
theorem opE_not {c : E} {f : En → Option (D × En)} {env env' : En} {a : Qx.A} (n : isOwn c = false) (h : opE c f env = some (a, env')) : ∃ d, f env = some (d, env') ∧ a = .v d := by
  unfold opE at h
  split at h
  · cases n
  · split at h
    · rename_i d e1 q
      cases h
      exact ⟨d, q, rfl⟩
    · cases h
theorem opE_own {i : Nat} {f : En → Option (D × En)} {env env' : En} {a : Qx.A} (h : opE (.own i) f env = some (a, env')) : isO env i = true ∧ a = .o i ∧ env' = env := by
  simp only [opE] at h
  split at h
  · rename_i e; cases h; exact ⟨e, rfl, rfl⟩
  · cases h
theorem pa_of (n : isOwn c = false) (h : PE X e (tV S c)) : PE X e (tA S c) := h.imp fun σ H Q ⟨A, m, env, a, env', re, ev, q⟩ => by
  obtain ⟨d, e1, rfl⟩ := opE_not n ev
  exact ⟨A, m, env, d, env', re, e1, fun v H' p => q v H' p.nx p.re p.rep⟩
theorem asB_some {o : Option (D × En)} {b : Bool} {env' : En} (h : asB o = some (b, env')) : o = some (.bl b, env') := by
  unfold asB at h
  split at h
  · cases h; rfl
  · cases h
theorem tT_of (σ : L2.St) (H : Hp) (Q : Bool → Hp → Prop) (h : tT S c σ H Q) : tB (tV S c) σ H Q := by
  obtain ⟨A, m, env, b, env', re, ev, q⟩ := h
  refine ⟨A, m, env, _, env', re, asB_some ev, fun v H' p => ?_⟩
  have := p.rep
  simp only [Rep] at this
  exact ⟨b, this, q H' p.nx p.re⟩
theorem pt_of (h : PE X e (tV S c)) (he : ∀ whole, isTrue e X.env whole = (do let v ← whole; standAt e.pos; holding [v] (truthy v))) : PT X e (tT S c) := (pt_val h he).imp tT_of
/-- a node without roads of its own -/
theorem Snd.mk' (n : isOwn c = false) (h : PE X e (tV S c)) (he : ∀ whole, isTrue e X.env whole = (do let v ← whole; standAt e.pos; holding [v] (truthy v)) := by intro _; rfl) (nl : isLC e = false := by rfl) : Snd S X e c := ⟨h, pa_of n h, pt_of h he, fun z => by rw [nl] at z; cases z⟩
end

/-! ### names, constants -/
section
variable {S : Sx} {k : Nat} {sc : Scope} {X : Cx} {pos : Pos}
theorem nd_var (h : Ct S k sc X) {x : Str} {i : Nat} (sn : seen sc x = true) (e : ixOf S.C.N x = some i) (hd : (x == ("__debug__" : Str)) = false) (hcd : (x == ("__classdict__" : Str)) = false) : Snd S X (.Name x pos) (.var i) :=
  Snd.mk' rfl ((pe_var (h.ix e) (h.vis sn) hd hcd).imp fun σ H Q ⟨A, m, env, d, env', re, ev, q⟩ => by
    simp only [evE] at ev
    split at ev <;> cases ev
    rename_i e1
    obtain ⟨v, h1, h2⟩ := re.val i _ (getV_some e1)
    exact ⟨v, h1, q v H (.of .refl re h2 (.inl rfl))⟩)
theorem nd_own (h : Ct S k sc X) {x : Str} {i : Nat} (sn : seen sc x = true) (e : ixOf S.C.N x = some i) (hd : (x == ("__debug__" : Str)) = false) (hcd : (x == ("__classdict__" : Str)) = false) : Snd S X (.Name x pos) (.own i) := by
  have hv := pe_var (pos := pos) (h.ix e) (h.vis sn) hd hcd
  refine ⟨hv.imp fun σ H Q w => ?_, hv.imp fun σ H Q w => ?_, (pt_val hv).imp fun σ H Q w => ?_, fun z => nomatch z⟩
  · obtain ⟨A, m, env, d, env', re, ev, q⟩ := w
    simp only [evE] at ev
    cases ev
  · obtain ⟨A, m, env, a, env', re, ev, q⟩ := w
    obtain ⟨e1, rfl, rfl⟩ := opE_own ev
    obtain ⟨d, e2⟩ := isO_some e1
    obtain ⟨a, h1, h2, h3⟩ := re.own i d e2
    exact ⟨.ref a, h2, q _ H .refl re ⟨a, h1, rfl⟩⟩
  · obtain ⟨A, m, env, b, env', re, ev, q⟩ := w
    have := asB_some ev
    simp only [evE] at this
    cases this
theorem nd_cst {e : Expr} {v : V} {d : D} (he : PE X e (tC v)) (hr : ∀ m H, Rep S.G m H d v) (hi : ∀ whole, isTrue e X.env whole = (do let v ← whole; standAt e.pos; holding [v] (truthy v)) := by intro _; rfl) (nl : isLC e = false := by rfl) : Snd S X e (.cst d) :=
  Snd.mk' rfl (he.imp fun σ H Q ⟨A, m, env, d', env', re, ev, q⟩ => by
    simp only [evE] at ev
    cases ev
    exact q v H (.of .refl re (hr m H) (.inl rfl))) hi nl
theorem nd_name (h : Ct S k sc X) {x : Str} {c : E} (e : cName S.C sc x = some c) (hd : (x == ("__debug__" : Str)) = false) (hcd : (x == ("__classdict__" : Str)) = false) : Snd S X (.Name x pos) c := by
  unfold cName at e
  split at e
  · rename_i sn
    obtain ⟨i, e1, rfl⟩ := omap e
    split
    · exact nd_own h sn e1 hd hcd
    · exact nd_var h sn e1 hd hcd
  · split at e
    · rename_i gl
      split at e <;> cases e
      · rename_i g e1
        obtain ⟨f, h1, h2⟩ := h.prg.glo x g e1
        exact nd_cst (pe_glob (v := .ref f) (h.glo gl) h1 rfl hd) fun m H => by simp only [Rep]; exact ⟨f, rfl, h2⟩
      · rename_i d e1
        obtain ⟨v, u, h1, h2, h3⟩ := h.prg.cst x d e1
        exact nd_cst (pe_glob (h.glo gl) h1 h2 hd) h3
    · cases e
end
end Qx
set_option Elab.async false
set_option linter.all false
/-! QInv: what a successful step of the evaluator tells. -/
namespace Qx
open PySem
theorem oD {γ : Type} {o : Option (D × En)} {f : D → En → Option γ} {c : γ} (h : (match o with | some (a, b) => f a b | none => none) = some c) : ∃ a b, o = some (a, b) ∧ f a b = some c := by
  split at h
  · exact ⟨_, _, rfl, h⟩
  · cases h
theorem oL {γ : Type} {o : Option (List D × En)} {f : List D → En → Option γ} {c : γ} (h : (match o with | some (a, b) => f a b | none => none) = some c) : ∃ a b, o = some (a, b) ∧ f a b = some c := by
  split at h
  · exact ⟨_, _, rfl, h⟩
  · cases h
theorem oA {γ : Type} {o : Option (Qx.A × En)} {f : Qx.A → En → Option γ} {c : γ} (h : (match o with | some (a, b) => f a b | none => none) = some c) : ∃ a b, o = some (a, b) ∧ f a b = some c := by
  split at h
  · exact ⟨_, _, rfl, h⟩
  · cases h
theorem oR {γ : Type} {o : Option (List Qx.A × En)} {f : List Qx.A → En → Option γ} {c : γ} (h : (match o with | some (a, b) => f a b | none => none) = some c) : ∃ a b, o = some (a, b) ∧ f a b = some c := by
  split at h
  · exact ⟨_, _, rfl, h⟩
  · cases h
theorem oP {γ : Type} {o : Option (D × D)} {f : D → D → Option γ} {c : γ} (h : (match o with | some (a, b) => f a b | none => none) = some c) : ∃ a b, o = some (a, b) ∧ f a b = some c := by
  split at h
  · exact ⟨_, _, rfl, h⟩
  · cases h
theorem oO {γ : Type} {o : Option (D × List D)} {f : D → List D → Option γ} {c : γ} (h : (match o with | some (a, b) => f a b | none => none) = some c) : ∃ a b, o = some (a, b) ∧ f a b = some c := by
  split at h
  · exact ⟨_, _, rfl, h⟩
  · cases h
theorem o1 {γ : Type} {o : Option (D)} {f : D → Option γ} {c : γ} (h : (match o with | some a => f a | none => none) = some c) : ∃ a, o = some a ∧ f a = some c := by
  split at h
  · exact ⟨_, rfl, h⟩
  · cases h
theorem o1L {γ : Type} {o : Option (List D)} {f : List D → Option γ} {c : γ} (h : (match o with | some a => f a | none => none) = some c) : ∃ a, o = some a ∧ f a = some c := by
  split at h
  · exact ⟨_, rfl, h⟩
  · cases h
theorem o1B {γ : Type} {o : Option (Bool)} {f : Bool → Option γ} {c : γ} (h : (match o with | some a => f a | none => none) = some c) : ∃ a, o = some a ∧ f a = some c := by
  split at h
  · exact ⟨_, rfl, h⟩
  · cases h
theorem o1R {γ : Type} {o : Option (List Qx.A)} {f : List Qx.A → Option γ} {c : γ} (h : (match o with | some a => f a | none => none) = some c) : ∃ a, o = some a ∧ f a = some c := by
  split at h
  · exact ⟨_, rfl, h⟩
  · cases h
theorem o1E {γ : Type} {o : Option (En)} {f : En → Option γ} {c : γ} (h : (match o with | some a => f a | none => none) = some c) : ∃ a, o = some a ∧ f a = some c := by
  split at h
  · exact ⟨_, rfl, h⟩
  · cases h
theorem o1N {γ : Type} {o : Option En} {f : En → Option γ} {c : γ} (h : (match o with | none => none | some a => f a) = some c) : ∃ a, o = some a ∧ f a = some c := by
  split at h
  · cases h
  · exact ⟨_, rfl, h⟩
theorem o11 {γ : Type} {o p : Option D} {f : D → D → Option γ} {c : γ} (h : (match o, p with | some a, some b => f a b | _, _ => none) = some c) : ∃ a b, o = some a ∧ p = some b ∧ f a b = some c := by
  split at h
  · exact ⟨_, _, rfl, rfl, h⟩
  · cases h
theorem o11N {γ : Type} {o : Option (List D)} {p : Option (List Nat)} {f : List D → List Nat → Option γ} {c : γ} (h : (match o, p with | some a, some b => f a b | _, _ => none) = some c) : ∃ a b, o = some a ∧ p = some b ∧ f a b = some c := by
  split at h
  · exact ⟨_, _, rfl, rfl, h⟩
  · cases h
theorem oI {γ : Type} {o : ItR} {f : List D → Qx.A × D → En → Option γ} {c : γ} (h : (match o with | some (a, b, e) => f a b e | none => none) = some c) : ∃ a b e, o = some (a, b, e) ∧ f a b e = some c := by
  split at h
  · exact ⟨_, _, _, rfl, h⟩
  · cases h
theorem ob {γ : Type} {o : Option (Bool × En)} {f g : En → Option γ} {c : γ} (h : (match o with | some (true, e) => f e | some (false, e) => g e | none => none) = some c) : (∃ e, o = some (true, e) ∧ f e = some c) ∨ ∃ e, o = some (false, e) ∧ g e = some c := by
  split at h
  · exact .inl ⟨_, rfl, h⟩
  · exact .inr ⟨_, rfl, h⟩
  · cases h
theorem obB {γ : Type} {o : Option (Bool × En)} {f : Bool → En → Option γ} {c : γ} (h : (match o with | some (b, e) => f b e | none => none) = some c) : ∃ b e, o = some (b, e) ∧ f b e = some c := by
  split at h
  · exact ⟨_, _, rfl, h⟩
  · cases h
theorem oi {γ : Type} {p : Prop} [Decidable p] {f : Option γ} {c : γ} (h : (if p then f else none) = some c) : p ∧ f = some c := by
  split at h
  · exact ⟨by assumption, h⟩
  · cases h
theorem oni {γ : Type} {p : Prop} [Decidable p] {f : Option γ} {c : γ} (h : (if p then none else f) = some c) : ¬ p ∧ f = some c := by
  split at h
  · cases h
  · exact ⟨by assumption, h⟩
end Qx
set_option Elab.async false
set_option linter.all false
set_option maxRecDepth 100000
set_option maxHeartbeats 4000000
/-! QSnd2: one lemma for each kind of node. -/
namespace Qx
open PySem PySem.Spec PyProof.Rows L2

inductive Snds (S : Sx) (X : Cx) : List Expr → List E → Prop
  | nil : Snds S X [] []
  | cons {e : Expr} {c : E} {es : List Expr} {cs : List E} : isStar e = false → Snd S X e c → Snds S X es cs → Snds S X (e :: es) (c :: cs)
section
variable {S : Sx} {k : Nat} {sc : Scope} {X : Cx} {pos : Pos} {e : Expr} {c : E} {es : List Expr} {cs : List E}
theorem Snds.as : ∀ {es : List Expr} {cs : List E}, Snds S X es cs → PA X es (tAs S cs)
  | _, _, .nil => pa_nil.imp fun σ H Q ⟨A, m, env, as, env', re, ev, q⟩ => by
    simp only [evAs] at ev
    cases ev
    exact q [] H .refl re .nil
  | _, _, .cons st s r => (pa_cons s.pa r.as (starEach_ok st)).imp fun σ H Q ⟨A, m, env, as, env', re, ev, q⟩ => by
    simp only [evAs] at ev
    split at ev <;> (try cases ev)
    split at ev <;> cases ev
    rename_i a e1 ev1 _ bs ev2
    refine ⟨A, m, env, a, e1, re, ev1, fun v H1 n1 r1 a1 => ⟨A, m, e1, bs, _, r1, ev2, fun vs H2 n2 r2 a2 => ?_⟩⟩
    exact q _ H2 (n1.trans n2) r2 (.cons (a1.mono (r1.kp n2)) a2)
theorem Snds.vs : ∀ {es : List Expr} {cs : List E}, Snds S X es cs → PA X es (tVs S cs)
  | _, _, .nil => pa_nil.imp fun σ H Q ⟨A, m, env, as, env', re, ev, q⟩ => by
    simp only [evEs] at ev
    cases ev
    exact q [] H .refl re .nil
  | _, _, .cons st s r => (pa_cons s.pe r.vs (starEach_ok st)).imp fun σ H Q ⟨A, m, env, as, env', re, ev, q⟩ => by
    simp only [evEs] at ev
    split at ev <;> (try cases ev)
    split at ev <;> cases ev
    rename_i a e1 ev1 _ bs ev2
    refine ⟨A, m, env, a, e1, re, ev1, fun v H1 p1 => ⟨A, m, e1, bs, _, p1.re, ev2, fun vs H2 n2 r2 a2 => ?_⟩⟩
    exact q _ H2 (p1.nx.trans n2) r2 (.cons (p1.rep.mono (p1.re.kp n2)) a2)

theorem paired_len {G : Gd} {A : Slots} {m : AdP} {H : Hp} {as : List Qx.A} {vs : List V} (h : AReps G A m H as vs) : as.length = vs.length := Paired.length h

/-! ### displays, operators -/
theorem nd_tup (s : Snds S X es cs) {x1 : Nat} : Snd S X (.Tuple es x1 pos) (.tup cs) :=
  Snd.mk' rfl ((pe_tup (x1 := x1) s.vs).imp fun σ H Q ⟨A, m, env, d, env', re, ev, q⟩ => by
    simp only [evE] at ev
    obtain ⟨ds, e1, ev1, ev⟩ := oL ev
    obtain ⟨hz, ev⟩ := oi ev
    cases ev
    refine ⟨A, m, env, ds, _, re, ev1, fun vs H1 n1 r1 a1 => ⟨by rw [← a1.length]; exact sz_eq ▸ hz, fun p hp => ?_⟩⟩
    exact (post_gives r1 n1 q).tup r1.live a1 p hp)
theorem nd_lst (s : Snds S X es cs) : Snd S X (.List es pos) (.lst cs) :=
  Snd.mk' rfl ((pe_lst s.vs).imp fun σ H Q ⟨A, m, env, d, env', re, ev, q⟩ => by
    simp only [evE] at ev
    obtain ⟨ds, e1, ev1, ev⟩ := oL ev
    obtain ⟨hz, ev⟩ := oi ev
    cases ev
    refine ⟨A, m, env, ds, _, re, ev1, fun vs H1 n1 r1 a1 => ⟨by rw [← a1.length]; exact sz_eq ▸ hz, fun p hp => ?_⟩⟩
    exact (post_gives r1 n1 q).lst r1.live a1 p hp)
section
variable {a b t : Expr} {x y z : E}
theorem nd_bin (h : Ct S k sc X) {op : Bop} (sa : Snd S X a x) (sb : Snd S X b y) : Snd S X (.BinOp a (opr op) b pos) (.bin op x y) := by
  obtain ⟨r, ho, tl⟩ := bin_ok h.hK op
  refine Snd.mk' rfl ((pe_op ho sa.pa sb.pa).imp fun σ H Q ⟨A, m, env, d, env', re, ev, q⟩ => ?_)
  simp only [evE] at ev
  obtain ⟨u, e1, ev1, ev⟩ := oA ev
  obtain ⟨w, e2, ev2, ev⟩ := oA ev
  obtain ⟨dx, dy, hx, hy, ev⟩ := o11 ev
  obtain ⟨d', hd, ev⟩ := o1 ev
  cases ev
  refine ⟨A, m, env, u, e1, re, ev1, fun v H1 n1 r1 a1 => ⟨A, m, e1, w, _, r1, ev2, fun v2 H2 n2 r2 a2 => ?_⟩⟩
  exact tl m H2 dx dy _ v v2 Q r2.live (r2.vw (a1.mono (r1.kp n2)) hx) (r2.vw a2 hy) hd (post_gives r2 (n1.trans n2) q)
theorem nd_neg (sa : Snd S X a x) : Snd S X (.UnaryOp .USub a pos) (.neg x) :=
  Snd.mk' rfl ((pe_un un_neg sa.pe).imp fun σ H Q ⟨A, m, env, d, env', re, ev, q⟩ => by
    simp only [evE] at ev
    split at ev <;> cases ev
    rename_i i ev1
    refine ⟨A, m, env, _, _, re, ev1, fun v H1 p1 => ?_⟩
    have := p1.rep
    simp only [Rep] at this
    exact ⟨i, this, q _ H1 (.of p1.nx p1.re Rep.of_int (.inl rfl))⟩)
theorem nd_nt (sa : Snd S X a x) : Snd S X (.UnaryOp .Not a pos) (.nt x) := by
  have hp : PE X (.UnaryOp .Not a pos) (tV S (.nt x)) := (pe_not sa.pe).imp fun σ H Q ⟨A, m, env, d, env', re, ev, q⟩ => by
    simp only [evE] at ev
    split at ev <;> cases ev
    rename_i b ev1
    refine ⟨A, m, env, _, _, re, asB_some ev1, fun v H1 p1 => ?_⟩
    have := p1.rep
    simp only [Rep] at this
    exact ⟨b, this, q _ H1 (.of p1.nx p1.re Rep.of_bl (.inl rfl))⟩
  refine ⟨hp, pa_of rfl hp, (pt_not sa.pt).imp fun σ H Q ⟨A, m, env, b, env', re, ev, q⟩ => ?_, fun z => nomatch z⟩
  have ev := asB_some ev
  simp only [evE] at ev
  split at ev <;> cases ev
  rename_i b ev1
  exact ⟨A, m, env, b, _, re, ev1, fun H1 n1 r1 => q H1 n1 r1⟩
theorem nd_cmp (h : Ct S k sc X) {op : Cop} (sa : Snd S X a x) (sb : Snd S X b y) (ok : okNode b = true) : Snd S X (.Compare a [cpr op] [b] pos) (.cmp op x y) := by
  obtain ⟨r, ho, tl⟩ := cmp_ok h.hK h.un op
  have key : ∀ (σ : L2.St) (H : Hp) (Q : VK) (A : Slots) (m : AdP) (env : En) (d : D) (env' : En), RE S.G A m env σ H → evE S.Φ S.R (.cmp op x y) env = some (d, env') →
      (∀ v H', Post S (.cmp op x y) A m env' σ H H' d v → Q v H') → tOp r (tA S x) (tA S y) σ H Q := fun σ H Q A m env d env' re ev q => by
    simp only [evE] at ev
    obtain ⟨u, e1, ev1, ev⟩ := oA ev
    obtain ⟨w, e2, ev2, ev⟩ := oA ev
    obtain ⟨dx, dy, hx, hy, ev⟩ := o11 ev
    obtain ⟨d', hd, ev⟩ := o1B ev
    cases ev
    refine ⟨A, m, env, u, e1, re, ev1, fun v H1 n1 r1 a1 => ⟨A, m, e1, w, _, r1, ev2, fun v2 H2 n2 r2 a2 => ?_⟩⟩
    exact tl m H2 dx dy _ v v2 Q r2.live (r2.vw (a1.mono (r1.kp n2)) hx) (r2.vw a2 hy) hd (q _ H2 (.of (n1.trans n2) r2 Rep.of_bl (.inl rfl)))
  have hp : PE X (.Compare a [cpr op] [b] pos) (tV S (.cmp op x y)) := (pe_cmpR ho sa.pa sb.pa (beh_ok ok)).imp fun σ H Q ⟨A, m, env, d, env', re, ev, q⟩ => key σ H Q A m env d env' re ev q
  refine ⟨hp, pa_of rfl hp, (pt_cmpR ho sa.pa sb.pa (beh_ok ok)).imp fun σ H Q ⟨A, m, env, b, env', re, ev, q⟩ => ?_, fun z => nomatch z⟩
  refine key σ H _ A m env _ env' re (asB_some ev) fun v H' p => ?_
  have := p.rep
  simp only [Rep] at this
  exact ⟨b, this, q H' p.nx p.re⟩
theorem nd_chn (h : Ct S k sc X) {op op' : Cop} (sa : Snd S X a x) (sb : Snd S X b y) (sc' : Snd S X t z) (ok : okNode t = true) : Snd S X (.Compare a [cpr op, cpr op'] [b, t] pos) (.chn op op' x y z) := by
  obtain ⟨r, ho, tl⟩ := cmp_ok h.hK h.un op
  obtain ⟨r', ho', tl'⟩ := cmp_ok h.hK h.un op'
  have lm : lastMarks [cpr op, cpr op'] [b, t] = false := by
    show behindInMarks (cpr op') t = false
    exact beh_ok ok
  have key : ∀ (σ : L2.St) (H : Hp) (Q : VK) (A : Slots) (m : AdP) (env : En) (d : D) (env' : En), RE S.G A m env σ H → evE S.Φ S.R (.chn op op' x y z) env = some (d, env') →
      (∀ v H', Post S (.chn op op' x y z) A m env' σ H H' d v → Q v H') → tChain r r' (tV S x) (tV S y) (tV S z) σ H Q := fun σ H Q A m env d env' re ev q => by
    simp only [evE] at ev
    obtain ⟨dx, e1, ev1, ev⟩ := oD ev
    obtain ⟨dy, e2, ev2, ev⟩ := oD ev
    refine ⟨A, m, env, dx, e1, re, ev1, fun v H1 p1 => ⟨A, m, e1, dy, e2, p1.re, ev2, fun v2 H2 p2 => ?_⟩⟩
    split at ev
    · rename_i hc
      refine tl m H2 dx dy true v v2 _ p2.re.live (.inl (p1.rep.mono (p1.re.kp p2.nx))) (.inl p2.rep) hc ⟨true, rfl, ?_⟩
      rw [if_pos rfl]
      obtain ⟨dz, e3, ev3, ev⟩ := oD ev
      obtain ⟨kk, hk, ev⟩ := o1B ev
      cases ev
      refine ⟨A, m, e2, dz, _, p2.re, ev3, fun v3 H3 p3 => ?_⟩
      exact tl' m H3 dy dz kk v2 v3 _ p3.re.live (.inl (p2.rep.mono (p2.re.kp p3.nx))) (.inl p3.rep) hk (q _ H3 (.of (p1.nx.trans (p2.nx.trans p3.nx)) p3.re Rep.of_bl (.inl rfl)))
    · rename_i hc
      cases ev
      refine tl m H2 dx dy false v v2 _ p2.re.live (.inl (p1.rep.mono (p1.re.kp p2.nx))) (.inl p2.rep) hc ⟨false, rfl, ?_⟩
      rw [if_neg (by decide)]
      exact q _ H2 (.of (p1.nx.trans p2.nx) p2.re Rep.of_bl (.inl rfl))
    · cases ev
  have hp : PE X (.Compare a [cpr op, cpr op'] [b, t] pos) (tV S (.chn op op' x y z)) := (pe_chain ho ho' sa.pe sb.pe sc'.pe lm).imp fun σ H Q ⟨A, m, env, d, env', re, ev, q⟩ => key σ H Q A m env d env' re ev q
  refine ⟨hp, pa_of rfl hp, (pt_chain ho ho' sa.pe sb.pe sc'.pe lm).imp fun σ H Q ⟨A, m, env, b, env', re, ev, q⟩ => ?_, fun z => nomatch z⟩
  refine key σ H _ A m env _ env' re (asB_some ev) fun v H' p => ?_
  have := p.rep
  simp only [Rep] at this
  exact ⟨b, this, q H' p.nx p.re⟩
/-- and, or -/
structure Bools (S : Sx) (X : Cx) (op : BoolOp) (pos : Pos) (es : List Expr) (c : E) : Prop where
  pe : PE X (.BoolOp op es pos) (tV S c)
  pw : PW X (.BoolOp op es pos) (tT S c)
theorem bo_one {op : BoolOp} (sa : Snd S X a x) : Bools S X op pos [a] x := ⟨pe_one sa.pe, by
  cases op with
  | And => exact pw_and1 sa.pt
  | Or => exact pw_or1 sa.pt⟩
theorem bo_and {rest : List Expr} (sa : Snd S X a x) (h : Bools S X .And pos (b :: rest) y) : Bools S X .And pos (a :: b :: rest) (.an x y) := by
  refine ⟨(pe_and sa.pe h.pe).imp fun σ H Q ⟨A, m, env, d, env', re, ev, q⟩ => ?_, (pw_and sa.pt h.pw).imp fun σ H Q ⟨A, m, env, b, env', re, ev, q⟩ => ?_⟩
  · simp only [evE] at ev
    split at ev <;> (try cases ev)
    · rename_i e1 ev1
      refine ⟨A, m, env, _, e1, re, asB_some ev1, fun v H1 p1 => ?_⟩
      have := p1.rep
      simp only [Rep] at this
      refine ⟨true, this, ?_⟩
      rw [if_pos rfl]
      exact ⟨A, m, e1, d, env', p1.re, ev, fun v2 H2 p2 => q v2 H2 ⟨p1.nx.trans p2.nx, p2.re, p2.rep, fun a => nomatch a⟩⟩
    · rename_i ev1
      refine ⟨A, m, env, _, _, re, asB_some ev1, fun v H1 p1 => ?_⟩
      have := p1.rep
      simp only [Rep] at this
      refine ⟨false, this, ?_⟩
      rw [if_neg (by decide)]
      exact q _ H1 (.of p1.nx p1.re Rep.of_bl (.inl rfl))
  · have ev := asB_some ev
    simp only [evE] at ev
    split at ev <;> (try cases ev)
    · rename_i e1 ev1
      refine ⟨A, m, env, _, e1, re, ev1, fun H1 n1 r1 => ?_⟩
      refine iteT ?_
      exact ⟨A, m, e1, b, env', r1, by rw [ev]; rfl, fun H2 n2 r2 => q H2 (n1.trans n2) r2⟩
    · rename_i ev1
      refine ⟨A, m, env, _, _, re, ev1, fun H1 n1 r1 => ?_⟩
      refine iteF ?_
      exact q H1 n1 r1
theorem bo_or {rest : List Expr} (sa : Snd S X a x) (h : Bools S X .Or pos (b :: rest) y) : Bools S X .Or pos (a :: b :: rest) (.or x y) := by
  refine ⟨(pe_or sa.pe h.pe).imp fun σ H Q ⟨A, m, env, d, env', re, ev, q⟩ => ?_, (pw_or sa.pt h.pw).imp fun σ H Q ⟨A, m, env, b, env', re, ev, q⟩ => ?_⟩
  · simp only [evE] at ev
    split at ev <;> (try cases ev)
    · rename_i ev1
      refine ⟨A, m, env, _, _, re, asB_some ev1, fun v H1 p1 => ?_⟩
      have := p1.rep
      simp only [Rep] at this
      refine ⟨true, this, ?_⟩
      rw [if_pos rfl]
      exact q _ H1 (.of p1.nx p1.re Rep.of_bl (.inl rfl))
    · rename_i e1 ev1
      refine ⟨A, m, env, _, e1, re, asB_some ev1, fun v H1 p1 => ?_⟩
      have := p1.rep
      simp only [Rep] at this
      refine ⟨false, this, ?_⟩
      rw [if_neg (by decide)]
      exact ⟨A, m, e1, d, env', p1.re, ev, fun v2 H2 p2 => q v2 H2 ⟨p1.nx.trans p2.nx, p2.re, p2.rep, fun a => nomatch a⟩⟩
  · have ev := asB_some ev
    simp only [evE] at ev
    split at ev <;> (try cases ev)
    · rename_i ev1
      refine ⟨A, m, env, _, _, re, ev1, fun H1 n1 r1 => ?_⟩
      refine iteT ?_
      exact q H1 n1 r1
    · rename_i e1 ev1
      refine ⟨A, m, env, _, e1, re, ev1, fun H1 n1 r1 => ?_⟩
      refine iteF ?_
      exact ⟨A, m, e1, b, env', r1, by rw [ev]; rfl, fun H2 n2 r2 => q H2 (n1.trans n2) r2⟩
theorem Bools.snd {op : BoolOp} (h : Bools S X op pos es c) (n : isOwn c = false) : Snd S X (.BoolOp op es pos) c := ⟨h.pe, pa_of n h.pe, h.pw.pt, fun z => nomatch z⟩
theorem nd_ite (s : Snd S X t z) (sa : Snd S X a x) (sb : Snd S X b y) : Snd S X (.IfExp t a b pos) (.ite z x y) := by
  have hp : PE X (.IfExp t a b pos) (tV S (.ite z x y)) := (pe_ifExp s.pt sa.pe sb.pe).imp fun σ H Q ⟨A, m, env, d, env', re, ev, q⟩ => by
    simp only [evE] at ev
    split at ev <;> (try cases ev)
    · rename_i e1 ev1
      refine ⟨A, m, env, _, e1, re, ev1, fun H1 n1 r1 => ?_⟩
      refine iteT ?_
      exact ⟨A, m, e1, d, env', r1, ev, fun v2 H2 p2 => q v2 H2 ⟨n1.trans p2.nx, p2.re, p2.rep, fun a b => by
        have : (frE S.C.F x && frE S.C.F y) = true := a
        rw [Bool.and_eq_true] at this
        obtain ⟨p, g1, g2, g3⟩ := p2.fr this.1 b
        exact ⟨p, g1, n1.free g2, g3⟩⟩⟩
    · rename_i e1 ev1
      refine ⟨A, m, env, _, e1, re, ev1, fun H1 n1 r1 => ?_⟩
      refine iteF ?_
      exact ⟨A, m, e1, d, env', r1, ev, fun v2 H2 p2 => q v2 H2 ⟨n1.trans p2.nx, p2.re, p2.rep, fun a b => by
        have : (frE S.C.F x && frE S.C.F y) = true := a
        rw [Bool.and_eq_true] at this
        obtain ⟨p, g1, g2, g3⟩ := p2.fr this.2 b
        exact ⟨p, g1, n1.free g2, g3⟩⟩⟩
  refine ⟨hp, pa_of rfl hp, ⟨fun pins s' σ H Q I w => ?_⟩, fun z => nomatch z⟩
  obtain ⟨A, m, env, b, env', re, ev, q⟩ := w
  have ev := asB_some ev
  simp only [evE] at ev
  refine isTrue_IfExp ?_
  split at ev <;> (try cases ev)
  · rename_i e1 ev1
    refine thn (s.pt.run pins s' σ H (fun bb H1 => bb = true ∧ tT S x σ H1 Q) I ⟨A, m, env, _, e1, re, ev1, fun H1 n1 r1 => ⟨rfl, A, m, e1, b, env', r1, by rw [ev]; rfl, fun H2 n2 r2 => q H2 (n1.trans n2) r2⟩⟩) ?_
    rintro cc s1 ⟨H1, I1, rfl, w1⟩
    exact sa.pt.run pins s1 σ H1 Q I1 w1
  · rename_i e1 ev1
    refine thn (s.pt.run pins s' σ H (fun bb H1 => bb = false ∧ tT S y σ H1 Q) I ⟨A, m, env, _, e1, re, ev1, fun H1 n1 r1 => ⟨rfl, A, m, e1, b, env', r1, by rw [ev]; rfl, fun H2 n2 r2 => q H2 (n1.trans n2) r2⟩⟩) ?_
    rintro cc s1 ⟨H1, I1, rfl, w1⟩
    exact sb.pt.run pins s1 σ H1 Q I1 w1
end
end
end Qx
set_option Elab.async false
set_option linter.all false
set_option maxRecDepth 100000
set_option maxHeartbeats 4000000
/-! QSnd3: built-ins, subscripts, methods. -/
namespace Qx
open PySem PySem.Spec PyProof.Rows L2

section
variable {G : Gd} {A : Slots} {m : AdP} {env : En} {σ : L2.St} {H : Hp}
theorem vws_of (re : RE G A m env σ H) : ∀ {as : List Qx.A} {vs : List V} {ds : List D}, AReps G A m H as vs → resAs env as = some ds → Vws G m H ds vs
  | _, _, _, .nil, e => by
    simp only [resAs] at e
    cases e
    exact .nil
  | _, _, _, .cons r rs, e => by
    simp only [resAs] at e
    rw [Option.bind_eq_some_iff] at e
    obtain ⟨d, e1, e2⟩ := e
    obtain ⟨ds, e3, e4⟩ := omap e2
    cases e4
    exact .cons (re.vw r e1) (vws_of re rs e3)
end
section
variable {S : Sx} {k : Nat} {sc : Scope} {X : Cx} {p pos : Pos} {e : Expr} {c : E} {es : List Expr} {cs : List E}
theorem bi_key {r : List V → Hp → VK → Prop} {b : Bi} (tl : TellsC S.G r (biD b)) (σ : L2.St) (H : Hp) (Q : VK) (w : tV S (.bi b cs) σ H Q) : tCB r (tAs S cs) σ H Q := by
  obtain ⟨A, m, env, d, env', re, ev, q⟩ := w
  simp only [evE] at ev
  obtain ⟨as, e1, ev1, ev⟩ := oR ev
  obtain ⟨ds, hd, ev⟩ := o1L ev
  obtain ⟨d', hb, ev⟩ := o1 ev
  cases ev
  refine ⟨A, m, env, as, _, re, ev1, fun vs H1 n1 r1 a1 => ?_⟩
  exact tl m H1 ds _ vs Q r1.live (vws_of r1 a1 hd) hb (post_gives r1 n1 q)
theorem nd_biB {b : Bi} {x : Str} {id : String} (hb : ∃ r, CallR X (.builtin id) r ∧ TellsC S.G r (biD b)) (gl : Gl X x) (hm : X.mg x = none) (hv : bootBuiltins x = some (.builtin id)) (hn : x ≠ "__name__") (hdb : (x == ("__debug__" : Str)) = false)
    (st : isStar e = false) (s : Snds S X (e :: es) cs) (pl : (backTo pos (starEach es X.env)).any (·.1) = false) : Snd S X (.Call (.Name x p) (e :: es) [] pos) (.bi b cs) := by
  obtain ⟨r, hc, tl⟩ := hb
  exact Snd.mk' rfl ((pe_callB hc gl hm hv s.as hn hdb (starEach_ok st) pl).imp (bi_key tl))
theorem nd_biT {b : Bi} {x : Str} {id : String} (hb : ∃ r, CallR X (.type id) r ∧ TellsC S.G r (biD b)) (gl : Gl X x) (hm : X.mg x = none) (hv : bootBuiltins x = some (.type id)) (hn : x ≠ "__name__") (hdb : (x == ("__debug__" : Str)) = false)
    (st : isStar e = false) (s : Snds S X (e :: es) cs) (pl : (backTo pos (starEach es X.env)).any (·.1) = false) : Snd S X (.Call (.Name x p) (e :: es) [] pos) (.bi b cs) := by
  obtain ⟨r, hc, tl⟩ := hb
  exact Snd.mk' rfl ((pe_callTy hc gl hm hv s.as hn hdb (starEach_ok st) pl).imp (bi_key tl))
theorem plain_all : ∀ {es : List Expr} {cs : List E} {pos : Pos}, Snds S X es cs → (backTo pos (starEach es X.env)).any (·.1) = false
  | _, _, _, .nil => rfl
  | _, _, pos, .cons st s r => by
    rw [starEach_ok st]
    show (false || (backTo pos (starEach _ X.env)).any (·.1)) = false
    rw [plain_all r]; rfl

/-! ### subscripts -/
section
variable {a b i : Expr} {x y z : E}
theorem nd_sub (h : Ct S k sc X) (sa : Snd S X a x) (si : Snd S X i y) (ok : isSlc i = false) : Snd S X (.Subscript a i pos) (.sub x y) := by
  have hu : X.A.units + 1 < cLine := by have := h.un; omega
  refine Snd.mk' rfl (PE.or (pe_ix (ix_list.or ix_tup) sa.pa si.pe (fun o i => sub_ok ok)) (pe_dget hu sa.pa si.pe (fun o i => sub_ok ok)) fun σ H Q ⟨A, m, env, d, env', re, ev, q⟩ => ?_)
  simp only [evE] at ev
  obtain ⟨u, e1, ev1, ev⟩ := oA ev
  obtain ⟨dk, e2, ev2, ev⟩ := oD ev
  obtain ⟨dx, hx, ev⟩ := o1 ev
  obtain ⟨d', hd, ev⟩ := o1 ev
  cases ev
  cases hh : isDct dx with
  | true =>
    refine .inr ⟨A, m, env, u, e1, re, ev1, fun v H1 n1 r1 a1 => ⟨A, m, e1, dk, _, r1, ev2, fun w H2 p2 => ?_⟩⟩
    obtain ⟨r, o, h1, h2, h3⟩ := sub_dct hh (p2.re.vw (a1.mono (r1.kp p2.nx)) hx) p2.rep hd
    exact ⟨r, o, h1, h2, q _ H2 (.of (n1.trans p2.nx) p2.re h3 (.inl rfl))⟩
  | false =>
    refine .inl ⟨A, m, env, u, e1, re, ev1, fun v H1 n1 r1 a1 => ⟨A, m, e1, dk, _, r1, ev2, fun w H2 p2 => ?_⟩⟩
    obtain ⟨r, h1, h2⟩ := sub_seq hh (p2.re.vw (a1.mono (r1.kp p2.nx)) hx) p2.rep hd
    rw [h.hK]
    exact h2 Q (q _ H2 (.of (n1.trans p2.nx) p2.re h1 (.inl rfl)))
/-- what stands at a bound of a slice -/
structure SndO (S : Sx) (X : Cx) (e : Option Expr) (c : E) : Prop where
  po : PO X e (fun σ H Q => ∃ A m env d o env', RE S.G A m env σ H ∧ evE S.Φ S.R c env = some (d, env') ∧ partD d = some o ∧ ∀ H', Nx A H H' → RE S.G A m env' σ H' → Q o H')
theorem po_imp {e : Option Expr} {t t' : TO} (h : PO X e t) (k : ∀ σ H Q, t' σ H Q → t σ H Q) : PO X e t' := ⟨fun pins s σ H Q I w => h.run pins s σ H Q I (k σ H Q w)⟩
theorem so_none : SndO S X none (.cst .non) := ⟨po_imp po_none fun σ H Q ⟨A, m, env, d, o, env', re, ev, hp, q⟩ => by
  simp only [evE] at ev
  cases ev
  cases hp
  exact q H .refl re⟩
theorem so_some (sa : Snd S X a x) : SndO S X (some a) x := ⟨po_imp (po_some2 sa.pe) fun σ H Q ⟨A, m, env, d, o, env', re, ev, hp, q⟩ => by
  refine ⟨A, m, env, d, env', re, ev, fun v H1 p1 => ?_⟩
  have hr := p1.rep
  cases d <;> simp only [partD] at hp <;> cases hp
  · simp only [Rep] at hr
    exact .inr ⟨hr, q H1 p1.nx p1.re⟩
  · simp only [Rep] at hr
    exact .inl ⟨_, hr, q H1 p1.nx p1.re⟩⟩
theorem nd_slc (h : Ct S k sc X) {lo hi : Option Expr} {p2 : Pos} (sa : Snd S X a x) (sl : SndO S X lo y) (su : SndO S X hi z) : Snd S X (.Subscript a (.Slice lo hi none p2) pos) (.slc x y z) :=
  Snd.mk' rfl ((pe_slice sl_cut sa.pa sl.po su.po).imp fun σ H Q ⟨A, m, env, d, env', re, ev, q⟩ => by
    simp only [evE] at ev
    obtain ⟨u, e1, ev1, ev⟩ := oA ev
    obtain ⟨dl, e2, ev2, ev⟩ := oD ev
    obtain ⟨dh, e3, ev3, ev⟩ := oD ev
    obtain ⟨dx, hx, ev⟩ := o1 ev
    obtain ⟨d', hd, ev⟩ := o1 ev
    cases ev
    have parts : ∃ o o', partD dl = some o ∧ partD dh = some o' := by
      cases dx <;> simp only [slcD] at hd <;> (try cases hd)
      all_goals
        obtain ⟨es, e0, _⟩ := omap hd
        unfold cutD at e0
        rw [Option.bind_eq_some_iff] at e0
        obtain ⟨l, e4, e5⟩ := e0
        obtain ⟨l2, e6, e7⟩ := omap e5
        obtain ⟨o, p1, _⟩ := bnd_part e4
        obtain ⟨o', p2, _⟩ := bnd_part e6
        exact ⟨o, o', p1, p2⟩
    obtain ⟨o, o', h1, h2⟩ := parts
    refine ⟨A, m, env, u, e1, re, ev1, fun v H1 n1 r1 a1 => ⟨A, m, e1, dl, o, e2, r1, ev2, h1, fun H2 n2 r2 => ⟨A, m, e2, dh, o', _, r2, ev3, h2, fun H3 n3 r3 => ?_⟩⟩⟩
    obtain ⟨l, l', g1, g2, g3⟩ := slc_vw r3.live (r3.vw (a1.mono (r1.kp (n2.trans n3))) hx) hd (post_gives (c := .slc x y z) (Q := Q) r3 (n1.trans (n2.trans n3)) q)
    rw [h1] at g1; cases g1
    rw [h2] at g2; cases g2
    rw [h.hK]
    exact g3)
theorem nd_rev (h : Ct S k sc X) {lo : Option Expr} {kk : Nat} {p1 p2 p3 : Pos} (sa : Snd S X a x) (sl : SndO S X lo y) : Snd S X (.Subscript a (.Slice lo none (some (.UnaryOp .USub (.Constant (.int 1) kk p1) p2)) p3) pos) (.rev x y) :=
  Snd.mk' rfl ((pe_back sa.pa sl.po).imp fun σ H Q ⟨A, m, env, d, env', re, ev, q⟩ => by
    simp only [evE] at ev
    obtain ⟨u, e1, ev1, ev⟩ := oA ev
    obtain ⟨dl, e2, ev2, ev⟩ := oD ev
    obtain ⟨dx, hx, ev⟩ := o1 ev
    obtain ⟨d', hd, ev⟩ := o1 ev
    cases ev
    have parts : ∃ o, partD dl = some o := by
      unfold revD at hd
      split at hd <;> (try cases hd)
      · exact ⟨_, rfl⟩
      · exact ⟨_, rfl⟩
      · exact ⟨_, rfl⟩
    obtain ⟨o, h1⟩ := parts
    refine ⟨A, m, env, u, e1, re, ev1, fun v H1 n1 r1 a1 => ⟨A, m, e1, dl, o, _, r1, ev2, h1, fun H2 n2 r2 => ?_⟩⟩
    obtain ⟨l, g1, g3⟩ := rev_vw r2.live (r2.vw (a1.mono (r1.kp n2)) hx) hd (post_gives (c := .rev x y) (Q := Q) r2 (n1.trans n2) q)
    rw [h1] at g1; cases g1
    rw [h.hK]
    exact g3)

/-! ### ranges -/
theorem lrB_int {dx d : D} (h : lrB dx = some d) : ∃ n : Int, dx = .int n ∧ (-(2 ^ 62) ≤ n ∧ n ≤ SZ) ∧ d = .lst ((List.range n.toNat).map fun (i : Nat) => D.int i) := by
  unfold lrB at h
  split at h
  · obtain ⟨h1, h2⟩ := oi h
    cases h2
    exact ⟨_, rfl, h1, rfl⟩
  · cases h
theorem trB_int {dx d : D} (h : trB dx = some d) : ∃ n : Int, dx = .int n ∧ (-(2 ^ 62) ≤ n ∧ n ≤ SZ) ∧ d = .tup ((List.range n.toNat).map fun (i : Nat) => D.int i) := by
  unfold trB at h
  split at h
  · obtain ⟨h1, h2⟩ := oi h
    cases h2
    exact ⟨_, rfl, h1, rfl⟩
  · cases h
theorem bi1_ev {b : Bi} {f : D → Option D} (hb : biD b = d1 f) {env env' : En} {d : D} (ev : evE S.Φ S.R (.bi b [x]) env = some (d, env')) : ∃ u dx, opE x (evE S.Φ S.R x) env = some (u, env') ∧ resA env' u = some dx ∧ f dx = some d := by
  simp only [evE, evAs] at ev
  obtain ⟨as, e1, ev1, ev⟩ := oR ev
  obtain ⟨ds, hd, ev⟩ := o1L ev
  obtain ⟨d', hb', ev⟩ := o1 ev
  cases ev
  obtain ⟨u, e2, ev2, ev3⟩ := oA ev1
  cases ev3
  simp only [resAs] at hd
  rw [Option.bind_eq_some_iff] at hd
  obtain ⟨dx, h1, h2⟩ := hd
  cases h2
  rw [hb] at hb'
  simp only [d1] at hb'
  exact ⟨u, dx, ev2, h1, hb'⟩
theorem nd_lrg (h : Ct S k sc X) {p1 p2 : Pos} (sa : Snd S X a x) (st : isStar a = false) (gl : Gl X "list") (hm : X.mg "list" = none) (gr : Gl X "range") (hr : X.mg "range" = none) :
    Snd S X (.Call (.Name "list" p1) [.Call (.Name "range" p) [a] [] p2] [] pos) (.bi .lrange [x]) :=
  Snd.mk' rfl ((pe_listRg h.calm gl hm (prg_1 gr hr sa.pa (starEach_ok st))).imp fun σ H Q ⟨A, m, env, d, env', re, ev, q⟩ => by
    obtain ⟨u, dx, ev2, h1, hb⟩ := bi1_ev rfl ev
    obtain ⟨n, rfl, hn, rfl⟩ := lrB_int hb
    refine ⟨A, m, env, u, _, re, ev2, fun v H1 n1 r1 a1 => ?_⟩
    exact ⟨n, (r1.vw a1 h1).int, rgOk_of hn.1 hn.2, (post_gives r1 n1 q).lst r1.live (rg_vw n)⟩)
theorem nd_trg (h : Ct S k sc X) {p1 p2 : Pos} (sa : Snd S X a x) (st : isStar a = false) (gl : Gl X "tuple") (hm : X.mg "tuple" = none) (gr : Gl X "range") (hr : X.mg "range" = none) :
    Snd S X (.Call (.Name "tuple" p1) [.Call (.Name "range" p) [a] [] p2] [] pos) (.bi .trange [x]) :=
  Snd.mk' rfl ((pe_tupRg h.calm gl hm (prg_1 gr hr sa.pa (starEach_ok st))).imp fun σ H Q ⟨A, m, env, d, env', re, ev, q⟩ => by
    obtain ⟨u, dx, ev2, h1, hb⟩ := bi1_ev rfl ev
    obtain ⟨n, rfl, hn, rfl⟩ := trB_int hb
    refine ⟨A, m, env, u, _, re, ev2, fun v H1 n1 r1 a1 => ?_⟩
    exact ⟨n, (r1.vw a1 h1).int, rgOk_of hn.1 hn.2, (post_gives r1 n1 q).tup r1.live (rg_vw n)⟩)

/-! ### isinstance -/
theorem isi_key {r : List V → Hp → VK → Prop} {tt : TE} {ts : List Ty} (ht : ∀ (σ : L2.St) (H : Hp) (A : Slots) (m : AdP) (env : En) (d kk : D) (v : V) (Q : VK), RE S.G A m env σ H → Vw S.G m H d v → isaD d ts = some kk → Q = Q → (∀ H', Ex H H' → ∀ w b, kk = .bl b → w = V.bl b → Q w H') →
      tt σ H fun y H1 => tNil σ H1 fun ys H2 => r (v :: y :: ys) H2 Q) (σ : L2.St) (H : Hp) (Q : VK) (w : tV S (.isi x ts) σ H Q) : tCB r (tCons (tA S x) (tCons tt tNil)) σ H Q := by
  obtain ⟨A, m, env, d, env', re, ev, q⟩ := w
  simp only [evE] at ev
  obtain ⟨u, e1, ev1, ev⟩ := oA ev
  obtain ⟨dx, hx, ev⟩ := o1 ev
  obtain ⟨kk, hk, ev⟩ := o1 ev
  cases ev
  refine ⟨A, m, env, u, _, re, ev1, fun v H1 n1 r1 a1 => ?_⟩
  refine ht σ H1 A m _ dx _ v Q r1 (r1.vw a1 hx) hk rfl fun H2 ex w b e1 e2 => ?_
  subst e1 e2
  exact q _ H2 (.of (n1.trans ex.nx) (r1.ex ex) Rep.of_bl (.inl rfl))
theorem nd_isi1 (h : Ct S k sc X) {t : Ty} {tn : Str} {p1 p2 : Pos} (sa : Snd S X a x) (st : isStar a = false) (gl : Gl X "isinstance") (hm : X.mg "isinstance" = none) (gt : Gl X tn) (hmt : X.mg tn = none) (hv : bootBuiltins tn = some (.type (tyN t))) (hn : tn ≠ "__name__") (hd : (tn == ("__debug__" : Str)) = false) :
    Snd S X (.Call (.Name "isinstance" p1) [a, .Name tn p2] [] pos) (.isi x [t]) :=
  Snd.mk' rfl ((pe_callB (id := "isinstance") call_isi gl hm (by decide +kernel) (pa_cons sa.pa (pa_cons (pe_bltn (v := .ty (tyN t)) gt hmt hv rfl hn hd) pa_nil) (starEach_ok st)) (by decide) (by decide) (starEach_ok st) rfl).imp (isi_key fun σ H A m env d kk v Q re hvw hk _ q => by
    obtain ⟨nf, rfl⟩ := isa_noFn hk
    refine ⟨v, .ty (tyN t), .type (tyS d), .type (tyN t), _, rfl, .ty _, h.hK ▸ ty_vw hvw nf, kit_ty (kit_all d t nf), ?_⟩
    refine q H Ex.refl _ _ rfl ?_
    simp))
theorem nd_isiT (h : Ct S k sc X) {ts : List Ty} {te : Expr} {p1 : Pos} (sa : Snd S X a x) (st : isStar a = false) (st2 : isStar te = false) (gl : Gl X "isinstance") (hm : X.mg "isinstance" = none)
    (ht : PE X te (fun _ H Q => ∀ p, H p = none → Q (.ref p) (upd H p (.tup (ts.map fun t => V.ty (tyN t)))))) :
    Snd S X (.Call (.Name "isinstance" p1) [a, te] [] pos) (.isi x ts) :=
  Snd.mk' rfl ((pe_callB (id := "isinstance") call_isiT gl hm (by decide +kernel) (pa_cons sa.pa (pa_cons ht pa_nil (starEach_ok st2)) (starEach_ok st)) (by decide) (by decide) (starEach_ok st) (by
      rw [starEach_ok st2]; rfl)).imp (isi_key fun σ H A m env d kk v Q re hvw hk _ q => by
    obtain ⟨nf, rfl⟩ := isa_noFn hk
    refine fun p hp => ?_
    have hvw' : Vw S.G m (upd H p (.tup (ts.map fun t => V.ty (tyN t)))) d v := by
      rcases hvw with z | ⟨a', rfl, z⟩
      · exact .inl (z.mono (Ex.laid hp).kp)
      · exact .inr ⟨a', rfl, z.mono (Ex.laid hp).kp fun o g => Ex.laid hp _ _ g⟩
    exact ⟨v, p, _, .type (tyS d), _, _, rfl, upd_same, cls_all ts, h.hK ▸ ty_vw hvw' nf, kit_any nf ts, q _ (Ex.laid hp) _ _ rfl rfl⟩))
end
end
end Qx
set_option Elab.async false
set_option linter.all false
set_option maxRecDepth 100000
set_option maxHeartbeats 4000000
/-! QSnd4: methods, dict displays. -/
namespace Qx
open PySem PySem.Spec PyProof.Rows L2

section
variable {G : Gd} {A : Slots} {m : AdP} {env : En} {σ : L2.St} {H : Hp}
/-- the thing of an owned slot is changed -/
theorem RE.upd {i : Nat} {a : Addr} {o : HO} {d : D} (r : RE G A m env σ H) (hi : i < env.length) (ha : A i = some a) (hs : σ[i]? = some (some (V.ref a))) (ho : OwnAt G m (upd H a o) a d) : RE G A m (env.set i (.own d)) σ (upd H a o) := by
  have hm := r.mem i a ha
  have kp : Kp m m H (L2.upd H a o) := ⟨fun b u e n => by rw [upd_ne (fun z => n (by rw [z]; exact hm))]; exact e, fun _ z => .inl z⟩
  refine ⟨by rw [List.length_set]; exact r.len, fun j d' e => ?_, fun j d' e => ?_, r.inj, r.mem, fun b z => ?_⟩
  · by_cases c : i = j
    · subst c
      rw [List.getElem?_set_self hi] at e
      cases e
    · rw [List.getElem?_set_ne c] at e
      obtain ⟨v, h1, h2⟩ := r.val j d' e
      exact ⟨v, h1, h2.mono kp⟩
  · by_cases c : i = j
    · subst c
      rw [List.getElem?_set_self hi] at e
      cases e
      exact ⟨a, ha, hs, ho⟩
    · rw [List.getElem?_set_ne c] at e
      obtain ⟨b, h1, h2, h3⟩ := r.own j d' e
      have nb : b ≠ a := fun z => c (r.inj i j a ha (z ▸ h1))
      exact ⟨b, h1, h2, h3.mono kp fun u g => by rw [upd_ne nb]; exact g⟩
  · by_cases c : b = a
    · rw [c, upd_same]; exact fun z => nomatch z
    · rw [upd_ne c]; exact r.live b z
theorem Nx.upd {i : Nat} {a : Addr} {o : HO} (ha : A i = some a) : Nx A H (upd H a o) :=
  ⟨fun b u e n => by rw [upd_ne (fun z => n i (by rw [z]; exact ha))]; exact e, fun b e => by
    by_cases c : b = a
    · rw [c, upd_same]; exact fun z => nomatch z
    · rw [upd_ne c]; exact e⟩
theorem getO_lt {i : Nat} {d : D} (h : getO env i = some d) : i < env.length := by
  have := getO_some h
  exact (List.getElem?_eq_some_iff.mp this).1
end
section
variable {S : Sx} {k : Nat} {sc : Scope} {X : Cx} {pos apos : Pos} {e : Expr} {c : E} {es : List Expr} {cs : List E}
theorem mm_key {mt : Mm} {i : Nat} {r : V → List V → Hp → VK → Prop} (hK : X.K = S.G.K)
    (hr : ∀ {m : AdP} {H : Hp} {a : Addr} {xs vs : List V} {ds es : List D} {rr d' : D} {Q : VK}, H a = some (.lst xs) → Reps S.G m H ds xs → Reps S.G m H es vs → mmD mt (.lst ds) es = some (rr, d') → MGives S.G m H a rr d' Q → r (.ref a) vs H Q)
    (hl : ∀ {d d' rr : D} {es : List D}, mmD mt d es = some (rr, d') → (∃ ds, d = .lst ds) ∧ ∃ ds', d' = .lst ds')
    (σ : L2.St) (H : Hp) (Q : VK) (w : tV S (.mm mt i cs) σ H Q) :
    tA S (.own i) σ H fun x H1 => tyV X.K "list" x H1 ∧ tVs S cs σ H1 fun xs H2 => r x xs H2 Q := by
  obtain ⟨A, m, env, d, env', re, ev, q⟩ := w
  simp only [evE] at ev
  split at ev <;> (try cases ev)
  rename_i ds0 h0
  obtain ⟨ds, e1, ev1, ev⟩ := oL ev
  obtain ⟨d1, h1, ev⟩ := o1 ev
  obtain ⟨rr, d', h2, ev⟩ := oP ev
  cases ev
  refine ⟨A, m, env, .o i, env, re, ?_, fun v H1 n1 r1 a1 => ?_⟩
  · simp only [opE]
    rw [if_pos (by unfold isO; rw [getO_some h0])]
  · obtain ⟨a, ha, rfl⟩ := a1
    obtain ⟨a', ha', hs, ho⟩ := r1.own i _ (getO_some h0)
    rw [ha] at ha'; cases ha'
    obtain ⟨ys, g1, g2⟩ := ho
    refine ⟨.inl ⟨rfl, ys, .inl (.inl g1)⟩, A, m, env, ds, e1, r1, ev1, fun vs H2 n2 r2 a2 => ?_⟩
    obtain ⟨a', ha', hs, ho⟩ := r2.own i _ (getO_some h1)
    rw [ha] at ha'; cases ha'
    obtain ⟨⟨ds2, rfl⟩, ds3, rfl⟩ := hl h2
    obtain ⟨zs, k1, k2⟩ := ho
    refine hr k1 k2 a2 h2 fun v ds' xs' e3 rv rs => ?_
    cases e3
    have kp : Kp m m H2 (upd H2 a (.lst xs')) := ⟨fun b u e n => by rw [upd_ne (fun z => n (by rw [z]; exact r2.mem i a ha))]; exact e, fun _ z => .inl z⟩
    have re3 : RE S.G A m (e1.set i (.own (.lst ds3))) σ (upd H2 a (.lst xs')) := r2.upd (getO_lt h1) ha hs ⟨_, upd_same, rs.mono kp⟩
    exact q _ _ (.of (n1.trans (n2.trans (Nx.upd ha))) re3 (rv.mono kp) (.inl rfl))
theorem app_l {d d' rr : D} {es : List D} (h : appM d es = some (rr, d')) : (∃ ds, d = .lst ds) ∧ ∃ ds', d' = .lst ds' := by
  unfold appM at h
  split at h
  · obtain ⟨_, h⟩ := oi h; cases h; exact ⟨⟨_, rfl⟩, _, rfl⟩
  · cases h
theorem pop0_l {d d' rr : D} {es : List D} (h : pop0M d es = some (rr, d')) : (∃ ds, d = .lst ds) ∧ ∃ ds', d' = .lst ds' := by
  unfold pop0M at h
  split at h
  · obtain ⟨_, _, h⟩ := omap h; cases h; exact ⟨⟨_, rfl⟩, _, rfl⟩
  · cases h
theorem pop1_l {d d' rr : D} {es : List D} (h : pop1M d es = some (rr, d')) : (∃ ds, d = .lst ds) ∧ ∃ ds', d' = .lst ds' := by
  unfold pop1M at h
  split at h
  · obtain ⟨_, h⟩ := oi h
    obtain ⟨_, _, h⟩ := omap h
    cases h; exact ⟨⟨_, rfl⟩, _, rfl⟩
  · cases h
theorem few_ok {env : Env} (st : isStar e = false) : ((backTo pos (starEach [e] env)).all (fun x => !x.1) && (backToKw pos (keywordEach [] env)).all (fun x => x.1.isSome)
      && decide (([e] : List Expr).length + ([] : List Keyword).length + (if ([] : List Keyword).isEmpty then 0 else 1) < 30)) = true := by
  rw [starEach_ok st]; rfl
theorem nd_app (h : Ct S k sc X) {x : Str} {p : Pos} {i : Nat} (so : PE X (.Name x p) (tA S (.own i))) (sa : Snd S X e c) (st : isStar e = false) (ln : (apos.endLine == pos.line) = true) :
    Snd S X (.Call (.Attribute (.Name x p) "append" apos) [e] [] pos) (.mm .append i [c]) :=
  Snd.mk' rfl ((pe_bm PySem.F.plainAttrs_list PySem.F.slot_list_append PySem.F.type_list_append mt_append so (Snds.cons st sa .nil).vs (by rfl) (few_ok st) ln (starEach_ok st) rfl).imp (mm_key h.hK app_vw app_l))
theorem nd_pop1 (h : Ct S k sc X) {x : Str} {p : Pos} {i : Nat} (so : PE X (.Name x p) (tA S (.own i))) (sa : Snd S X e c) (st : isStar e = false) (ln : (apos.endLine == pos.line) = true) :
    Snd S X (.Call (.Attribute (.Name x p) "pop" apos) [e] [] pos) (.mm .pop1 i [c]) :=
  Snd.mk' rfl ((pe_bm PySem.F.plainAttrs_list PySem.F.slot_list_pop PySem.F.type_list_pop mt_popAt so (Snds.cons st sa .nil).vs (by rfl) (few_ok st) ln (starEach_ok st) rfl).imp (mm_key h.hK pop1_vw pop1_l))
theorem nd_pop0 (h : Ct S k sc X) {x : Str} {p : Pos} {i : Nat} (so : PE X (.Name x p) (tA S (.own i))) (ln : (apos.endLine == pos.line) = true) :
    Snd S X (.Call (.Attribute (.Name x p) "pop" apos) [] [] pos) (.mm .pop0 i []) :=
  Snd.mk' rfl ((pe_bm0 PySem.F.plainAttrs_list PySem.F.slot_list_pop PySem.F.type_list_pop mt_pop so (by rfl) ln).imp fun σ H Q w => by
    obtain ⟨A, m, env, a, env', re, ev, q⟩ := mm_key (mt := .pop0) (r := rPop) h.hK pop0_vw pop0_l σ H Q w
    refine ⟨A, m, env, a, env', re, ev, fun v H1 n1 r1 a1 => ?_⟩
    obtain ⟨g1, g2⟩ := q v H1 n1 r1 a1
    refine ⟨g1, ?_⟩
    obtain ⟨A, m, env, ds, env', re, ev, q⟩ := g2
    simp only [evEs] at ev
    cases ev
    exact q [] H1 .refl re .nil)

/-! ### get -/
theorem isDctA_some {env : En} {a : Qx.A} (h : isDctA env a = true) : ∃ t ks vs, resA env a = some (.dct t ks vs) := by
  unfold isDctA at h
  split at h
  · rename_i t ks vs e; exact ⟨t, ks, vs, e⟩
  · cases h
theorem isD_vw {G : Gd} {m : AdP} {H : Hp} {t : Bool} {ks vs : List D} {v : V} (h : Vw G m H (.dct t ks vs) v) : ∃ a, v = .ref a ∧ IsD H a := by
  cases t with
  | false => obtain ⟨a, kvs, rfl, h1, _⟩ := h.dctK; exact ⟨a, rfl, .inl ⟨kvs, h1⟩⟩
  | true => obtain ⟨a, kvs, rfl, h1, _⟩ := h.dctT; exact ⟨a, rfl, .inr ⟨kvs, h1⟩⟩
section
variable {o f : Expr} {x y z : E}
theorem nd_get1 (h : Ct S k sc X) (so : Snd S X o x) (sa : Snd S X e y) (no : isSup o = false) (st : isStar e = false) (ln : (apos.endLine == pos.line) = true) :
    Snd S X (.Call (.Attribute o "get" apos) [e] [] pos) (.mp .get1 x [y]) := by
  have hu : X.A.units + 1 < cLine := by have := h.un; omega
  refine Snd.mk' rfl ((pe_dget1 hu so.pa sa.pe ⟨base_ok no, few_ok st, ln, by rw [starEach_ok st]; rfl⟩).imp fun σ H Q ⟨A, m, env, d, env', re, ev, q⟩ => ?_)
  simp only [evE, evEs] at ev
  obtain ⟨u, e1, ev1, ev⟩ := oA ev
  obtain ⟨h0, ev⟩ := oi ev
  obtain ⟨ds, e2, ev2, ev⟩ := oL ev
  obtain ⟨dx, hx, ev⟩ := o1 ev
  obtain ⟨r, hd, ev⟩ := o1 ev
  cases ev
  obtain ⟨dk, e3, ev3, ev2⟩ := oD ev2
  cases ev2
  simp only [mpD] at hd
  unfold get1M at hd
  split at hd
  · rename_i t ks vs kk e0
    cases e0
    obtain ⟨hk, hd⟩ := oi hd
    cases hd
    refine ⟨A, m, env, u, e1, re, ev1, fun v H1 n1 r1 a1 => ?_⟩
    obtain ⟨t0, ks0, vs0, g0⟩ := isDctA_some h0
    obtain ⟨a, rfl, ia⟩ := isD_vw (r1.vw a1 g0)
    refine ⟨a, rfl, ia, A, m, e1, dk, _, r1, ev3, fun w H2 p2 => ?_⟩
    obtain ⟨a', o', g1, g2, g3, _⟩ := dget_vw (p2.re.vw (a1.mono (r1.kp p2.nx)) hx) (.inl p2.rep) hk
    cases g1
    exact ⟨o', g2, q _ H2 (.of (n1.trans p2.nx) p2.re (g3.getD Rep.of_non) (.inl rfl))⟩
  · cases hd
theorem nd_get2 (h : Ct S k sc X) (so : Snd S X o x) (sa : Snd S X e y) (sf : Snd S X f z) (no : isSup o = false) (st : isStar e = false) (st2 : isStar f = false) (ln : (apos.endLine == pos.line) = true) :
    Snd S X (.Call (.Attribute o "get" apos) [e, f] [] pos) (.mp .get2 x [y, z]) := by
  have hu : X.A.units + 1 < cLine := by have := h.un; omega
  refine Snd.mk' rfl ((pe_dget2 hu so.pa sa.pe sf.pe ⟨base_ok no, by rw [starEach_ok st, starEach_ok st2]; rfl, ln, by rw [starEach_ok st, starEach_ok st2]; rfl⟩).imp fun σ H Q ⟨A, m, env, d, env', re, ev, q⟩ => ?_)
  simp only [evE, evEs] at ev
  obtain ⟨u, e1, ev1, ev⟩ := oA ev
  obtain ⟨h0, ev⟩ := oi ev
  obtain ⟨ds, e2, ev2, ev⟩ := oL ev
  obtain ⟨dx, hx, ev⟩ := o1 ev
  obtain ⟨r, hd, ev⟩ := o1 ev
  cases ev
  obtain ⟨dk, e3, ev3, ev2⟩ := oD ev2
  obtain ⟨dl, e4, ev4, ev2⟩ := oL ev2
  cases ev2
  obtain ⟨dz, e5, ev5, ev6⟩ := oD ev4
  cases ev6
  simp only [mpD] at hd
  unfold get2M at hd
  split at hd
  · rename_i t ks vs kk xx e0
    cases e0
    obtain ⟨hk, hd⟩ := oi hd
    cases hd
    refine ⟨A, m, env, u, e1, re, ev1, fun v H1 n1 r1 a1 => ?_⟩
    obtain ⟨t0, ks0, vs0, g0⟩ := isDctA_some h0
    obtain ⟨a, rfl, ia⟩ := isD_vw (r1.vw a1 g0)
    refine ⟨a, rfl, ia, A, m, e1, dk, _, r1, ev3, fun w H2 p2 => ⟨A, m, _, dz, _, p2.re, ev5, fun w2 H3 p3 => ?_⟩⟩
    obtain ⟨a', o', g1, g2, g3, _⟩ := dget_vw (p3.re.vw (a1.mono (r1.kp (p2.nx.trans p3.nx))) hx) (.inl (p2.rep.mono (p2.re.kp p3.nx))) hk
    cases g1
    exact ⟨o', g2, q _ H3 (.of (n1.trans (p2.nx.trans p3.nx)) p3.re (g3.getD p3.rep) (.inl rfl))⟩
  · cases hd
end
end
end Qx
set_option Elab.async false
set_option linter.all false
set_option maxRecDepth 100000
set_option maxHeartbeats 4000000
/-! QSnd5: dict displays. -/
namespace Qx
open PySem PySem.Spec PyProof.Rows L2

section
variable {G : Gd} {m m' : AdP} {H : Hp} {A : Slots} {env : En} {σ : L2.St} {p : Addr} {o : HO}
theorem Kp.chg (h : m p) : Kp m m H (upd H p o) := ⟨fun b u e n => by rw [upd_ne (fun z => n (by rw [z]; exact h))]; exact e, fun _ z => .inl z⟩
/-- a marked thing that no slot owns is changed -/
theorem RE.chg (r : RE G A m env σ H) (h : m p) (nA : ∀ i, A i ≠ some p) : RE G A m env σ (L2.upd H p o) :=
  ⟨r.len, fun i d e => let ⟨v, h1, h2⟩ := r.val i d e; ⟨v, h1, h2.mono (Kp.chg h)⟩,
   fun i d e => let ⟨a, h1, h2, h3⟩ := r.own i d e; ⟨a, h1, h2, h3.mono (Kp.chg h) fun u g => by rw [upd_ne (fun z => nA i (by rw [← z]; exact h1))]; exact g⟩, r.inj, r.mem,
   fun b z => by
    by_cases c : b = p
    · rw [c, upd_same]; exact fun z => nomatch z
    · rw [upd_ne c]; exact r.live b z⟩
theorem RE.wk (r : RE G A m' env σ H) (h : ∀ a, m a → m' a) (hm : ∀ i a, A i = some a → m a) : RE G A m env σ H :=
  ⟨r.len, fun i d e => let ⟨v, h1, h2⟩ := r.val i d e; ⟨v, h1, h2.mono (Kp.weak h)⟩,
   fun i d e => let ⟨a, h1, h2, h3⟩ := r.own i d e; ⟨a, h1, h2, h3.weak h⟩, r.inj, hm, fun b z => r.live b (h b z)⟩
end
section
variable {S : Sx} {k : Nat} {sc : Scope} {X : Cx} {pos : Pos}
theorem nd_dct0 {t : Bool} : Snd S X (.Dict [] [] pos) (.dct t []) := by
  cases t with
  | false =>
    refine Snd.mk' rfl (pe_dnewK.imp fun σ H Q ⟨A, m, env, d, env', re, ev, q⟩ => fun p hp => ?_)
    simp only [evE, evEs] at ev
    have ev : some (D.dct false [] [], env) = some (d, env') := ev
    cases ev
    have ho : OwnAt S.G (ad m p) (upd H p (.dK [])) p (.dct false [] []) := ⟨[], upd_same, rfl, .nil⟩
    have np : ¬ m p := fun z => re.live p z hp
    exact q _ _ ⟨Nx.laid hp, re.laid hp, (ho.weak fun a z => .inr z).rep np, fun _ _ => ⟨p, rfl, hp, re.add hp, ho⟩⟩
  | true =>
    refine Snd.mk' rfl (pe_dnewT.imp fun σ H Q ⟨A, m, env, d, env', re, ev, q⟩ => fun p hp => ?_)
    simp only [evE, evEs] at ev
    have ev : some (D.dct true [] [], env) = some (d, env') := ev
    cases ev
    have ho : OwnAt S.G (ad m p) (upd H p (.dT [])) p (.dct true [] []) := ⟨[], upd_same, rfl, .nil⟩
    have np : ¬ m p := fun z => re.live p z hp
    exact q _ _ ⟨Nx.laid hp, re.laid hp, (ho.weak fun a z => .inr z).rep np, fun _ _ => ⟨p, rfl, hp, re.add hp, ho⟩⟩
inductive Prs (S : Sx) (X : Cx) : List (Option Expr) → List Expr → List E → Prop
  | nil : Prs S X [] [] []
  | cons {e f : Expr} {x y : E} {ks : List (Option Expr)} {vs : List Expr} {cs : List E} : Snd S X e x → Snd S X f y → Prs S X ks vs cs → Prs S X (some e :: ks) (f :: vs) (x :: y :: cs)
def trsOf (S : Sx) : List E → List (TE × TE)
  | x :: y :: r => (tV S x, tV S y) :: trsOf S r
  | _ => []
theorem Prs.pps {ks : List (Option Expr)} {vs : List Expr} {cs : List E} (h : Prs S X ks vs cs) : PPs X pos ks vs (trsOf S cs) := by
  induction h with
  | nil => exact pps_nil
  | cons a b _ ih => exact pps_cons a.pe b.pe ih
theorem Prs.all {ks : List (Option Expr)} {vs : List Expr} {cs : List E} (h : Prs S X ks vs cs) : ks.all (·.isSome) = true ∧ ks.length = vs.length := by
  induction h with
  | nil => exact ⟨rfl, rfl⟩
  | cons a b _ ih => exact ⟨by simpa using ih.1, by simpa using ih.2⟩
theorem Prs.evn {ks : List (Option Expr)} {vs : List Expr} {cs : List E} (h : Prs S X ks vs cs) : ∀ {env env' : En} {ds : List D}, evEs S.Φ S.R cs env = some (ds, env') → (evens ds).length = ks.length ∧ (odds ds).length = ks.length := by
  induction h with
  | nil => intro env env' ds ev; simp only [evEs] at ev; cases ev; exact ⟨rfl, rfl⟩
  | cons a b _ ih =>
    intro env env' ds ev
    simp only [evEs] at ev
    obtain ⟨d1, e1, ev1, ev⟩ := oD ev
    obtain ⟨d2, e2, ev2, ev⟩ := oL ev
    cases ev
    obtain ⟨d3, e3, ev3, ev2⟩ := oD ev2
    obtain ⟨d4, e4, ev4, ev2⟩ := oL ev2
    cases ev2
    have := ih ev4
    exact ⟨by simp only [evens, List.length_cons]; rw [this.1], by simp only [odds, List.length_cons]; rw [this.2]⟩
theorem Prs.run {ks : List (Option Expr)} {vs : List Expr} {cs : List E} (h : Prs S X ks vs cs) : ∀ (σ : L2.St) (H : Hp) (Q : List (V × V) → Hp → Prop) (A : Slots) (m : AdP) (env env' : En) (ds : List D), RE S.G A m env σ H → evEs S.Φ S.R cs env = some (ds, env') →
    (∀ ps H', Nx A H H' → RE S.G A m env' σ H' → Reps S.G m H' (evens ds) (ps.map (·.1)) → Reps S.G m H' (odds ds) (ps.map (·.2)) → Q ps H') → tPairs (trsOf S cs) σ H Q := by
  induction h with
  | nil =>
    intro σ H Q A m env env' ds re ev q
    simp only [evEs] at ev
    cases ev
    exact q [] H .refl re .nil .nil
  | cons a b _ ih =>
    intro σ H Q A m env env' ds re ev q
    simp only [evEs] at ev
    obtain ⟨d1, e1, ev1, ev⟩ := oD ev
    obtain ⟨d2, e2, ev2, ev⟩ := oL ev
    cases ev
    obtain ⟨d3, e3, ev3, ev2⟩ := oD ev2
    obtain ⟨d4, e4, ev4, ev2⟩ := oL ev2
    cases ev2
    refine ⟨A, m, env, d1, e1, re, ev1, fun v H1 p1 => ⟨A, m, e1, d3, e3, p1.re, ev3, fun w H2 p2 => ?_⟩⟩
    refine ih σ H2 _ A m e3 _ d4 p2.re ev4 fun ps H3 n3 r3 g1 g2 => ?_
    refine q _ H3 (p1.nx.trans (p2.nx.trans n3)) r3 ?_ ?_
    · simp only [evens, List.map_cons]
      exact .cons (p1.rep.mono (p1.re.kp (p2.nx.trans n3))) g1
    · simp only [odds, List.map_cons]
      exact .cons (p2.rep.mono (p2.re.kp n3)) g2
theorem kvs_of {G : Gd} {m : AdP} {H : Hp} : ∀ {ds es : List D} {ps : List (V × V)}, ds.all (keyOk false) = true → Reps G m H ds (ps.map (·.1)) → Reps G m H es (ps.map (·.2)) →
    ∃ kvs : List (Key × V), ps = kvs.map (fun kv => (kV kv.1, kv.2)) ∧ ds = kvs.map (fun kv => dK kv.1) ∧ Reps G m H es (kvs.map (·.2))
  | [], es, [], _, _, h => ⟨[], rfl, rfl, h⟩
  | [], es, p :: ps, _, h, _ => by have := h.length; simp at this
  | d :: ds, es, [], _, h, _ => by have := h.length; simp at this
  | d :: ds, [], p :: ps, _, _, h => by have := h.length; simp at this
  | d :: ds, e :: es, p :: ps, ok, h, h' => by
    simp only [List.all_cons, Bool.and_eq_true] at ok
    rw [List.map_cons] at h h'
    obtain ⟨v, vs, ee, h1, h2⟩ := h.inv
    cases ee
    obtain ⟨w, ws, ee, h3, h4⟩ := h'.inv
    cases ee
    obtain ⟨q, rfl⟩ := key_of_ok ok.1
    obtain ⟨kvs, g1, g2, g3⟩ := kvs_of ok.2 h2 h4
    refine ⟨(q, p.2) :: kvs, ?_, by rw [List.map_cons, g2], .cons h3 g3⟩
    rw [List.map_cons, ← g1]
    have := h1.dK
    rw [← this]
theorem fold_put {G : Gd} {m : AdP} {H : Hp} : ∀ {kvs kvs0 : List (Key × V)} {es vs : List D}, Reps G m H es (kvs.map (·.2)) → Reps G m H vs (kvs0.map (·.2)) →
    (foldPut (kvs0.map fun p => dK p.1) vs (kvs.map fun p => dK p.1) es).1 = ((mergeK kvs0 kvs).map fun p => dK p.1) ∧ Reps G m H (foldPut (kvs0.map fun p => dK p.1) vs (kvs.map fun p => dK p.1) es).2 ((mergeK kvs0 kvs).map (·.2))
  | [], kvs0, es, vs, h, h0 => by
    simp only [List.map_nil, foldPut]
    exact ⟨rfl, h0⟩
  | kv :: kvs, kvs0, [], vs, h, h0 => by have := h.length; simp at this
  | kv :: kvs, kvs0, e :: es, vs, h, h0 => by
    rw [List.map_cons] at h
    obtain ⟨w, ws, ee, h3, h4⟩ := h.inv
    cases ee
    obtain ⟨p1, p2⟩ := put_val eqD_dK kv.1 h3 h0
    simp only [List.map_cons, foldPut]
    rw [p1]
    exact fold_put (kvs0 := putK kvs0 kv.1 kv.2) h4 p2
theorem nd_dct {ks : List (Option Expr)} {vs : List Expr} {cs : List E} (s : Prs S X ks vs cs) (n0 : ks ≠ []) (n15 : ks.length ≤ 15) : Snd S X (.Dict ks vs pos) (.dct false cs) :=
  Snd.mk' rfl ((pe_disp s.pps s.all.1 s.all.2 n0 n15).imp fun σ H Q ⟨A, m, env, d, env', re, ev, q⟩ => fun p hp => by
    simp only [evE] at ev
    obtain ⟨ds, e1, ev1, ev⟩ := oL ev
    obtain ⟨d', h1, ev⟩ := o1 ev
    cases ev
    unfold mkDct at h1
    have h1 := oi h1
    obtain ⟨hk, h1⟩ := h1
    cases h1
    simp only [Bool.and_eq_true] at hk
    have np : ¬ m p := fun z => re.live p z hp
    have nA : ∀ i, A i ≠ some p := fun i z => np (re.mem i p z)
    refine s.run σ _ _ A (ad m p) env _ ds (re.add hp) ev1 fun ps H2 n2 r2 g1 g2 => ?_
    have hp2 : H2 p = some (.dK []) := n2.keep p _ upd_same nA
    obtain ⟨kvs, rfl, g3, g4⟩ := kvs_of hk.1.1 g1 g2
    have hl := (s.evn ev1).1
    refine ⟨hp2, kvs, rfl, ?_, ?_⟩
    · have := congrArg List.length g3
      rw [List.length_map] at this
      omega
    · have kp : Kp (ad m p) (ad m p) H2 (upd H2 p (.dK (mergeK [] kvs))) := Kp.chg (.inl rfl)
      have fp := fold_put (kvs0 := []) g4 .nil
      rw [← g3] at fp
      have re3 : RE S.G A (ad m p) env' σ (upd H2 p (.dK (mergeK [] kvs))) := r2.chg (.inl rfl) nA
      have re4 : RE S.G A m env' σ (upd H2 p (.dK (mergeK [] kvs))) := re3.wk (fun a z => .inr z) re.mem
      have nx3 : Nx A H (upd H2 p (.dK (mergeK [] kvs))) := ⟨fun b u e n => by
          rw [upd_ne (ne_of_none e hp)]
          exact n2.keep b u (by rw [upd_ne (ne_of_none e hp)]; exact e) n, fun b e => by
          by_cases c : b = p
          · rw [c, upd_same]; exact fun z => nomatch z
          · rw [upd_ne c]; exact n2.live b (by rw [upd_ne c]; exact e)⟩
      have ho : OwnAt S.G (ad m p) (upd H2 p (.dK (mergeK [] kvs))) p (.dct false (foldPut [] [] (evens ds) (odds ds)).1 (foldPut [] [] (evens ds) (odds ds)).2) := ⟨mergeK [] kvs, upd_same, fp.1, fp.2.mono kp⟩
      exact q _ _ ⟨nx3, re4, (ho.weak fun a z => .inr z).rep np, fun _ _ => ⟨p, rfl, hp, re3, ho⟩⟩)
end
end Qx
set_option Elab.async false
set_option linter.all false
set_option maxRecDepth 100000
set_option maxHeartbeats 4000000
/-! QSnd6: calls of defs. -/
namespace Qx
open PySem PySem.Spec PyProof.Rows L2

/-! ### plain facts of operands -/
theorem resAs_get {env : En} : ∀ {as : List Qx.A} {ds : List D} {j : Nat} {d : D}, resAs env as = some ds → ds[j]? = some d → ∃ a, as[j]? = some a ∧ resA env a = some d
  | [], ds, j, d, e, g => by
    simp only [resAs] at e
    cases e
    simp at g
  | a :: as, ds, j, d, e, g => by
    simp only [resAs] at e
    rw [Option.bind_eq_some_iff] at e
    obtain ⟨x, e1, e2⟩ := e
    obtain ⟨xs, e3, rfl⟩ := omap e2
    cases j with
    | zero => simp at g; subst g; exact ⟨a, rfl, e1⟩
    | succ j => simpa using resAs_get (j := j) e3 (by simpa using g)
theorem resAs_len {env : En} : ∀ {as : List Qx.A} {ds : List D}, resAs env as = some ds → ds.length = as.length
  | [], ds, e => by
    simp only [resAs] at e
    cases e; rfl
  | a :: as, ds, e => by
    simp only [resAs] at e
    rw [Option.bind_eq_some_iff] at e
    obtain ⟨x, e1, e2⟩ := e
    obtain ⟨xs, e3, rfl⟩ := omap e2
    simp [resAs_len e3]
theorem refSlots_mem {as : List Qx.A} : ∀ {js is : List Nat} {j : Nat}, refSlots as js = some is → j ∈ js → ∃ i, as[j]? = some (.o i) ∧ i ∈ is
  | [], is, j, e, h => by cases h
  | j0 :: js, is, j, e, h => by
    simp only [refSlots] at e
    split at e
    · rename_i i ei
      obtain ⟨r, er, rfl⟩ := omap e
      rcases List.mem_cons.mp h with rfl | h
      · exact ⟨i, ei, List.mem_cons_self⟩
      · obtain ⟨i', h1, h2⟩ := refSlots_mem er h
        exact ⟨i', h1, List.mem_cons_of_mem _ h2⟩
    · cases e
theorem nodupB_cons {a : Nat} {r : List Nat} (h : nodupB (a :: r) = true) : a ∉ r ∧ nodupB r = true := by
  simp only [nodupB, Bool.and_eq_true, Bool.not_eq_true'] at h
  refine ⟨fun z => ?_, h.2⟩
  have := List.contains_iff_mem.mpr z
  rw [h.1] at this
  cases this
/-- one slot, one parameter -/
theorem refSlots_inj {as : List Qx.A} : ∀ {js is : List Nat} {j j' i : Nat}, refSlots as js = some is → nodupB is = true → j ∈ js → j' ∈ js → as[j]? = some (.o i) → as[j']? = some (.o i) → j = j'
  | [], is, j, j', i, e, n, h, h', _, _ => by cases h
  | j0 :: js, is, j, j', i, e, n, h, h', g, g' => by
    simp only [refSlots] at e
    split at e
    · rename_i i0 ei
      obtain ⟨r, er, rfl⟩ := omap e
      obtain ⟨n1, n2⟩ := nodupB_cons n
      rcases List.mem_cons.mp h with q1 | q1
      · rcases List.mem_cons.mp h' with q2 | q2
        · rw [q1, q2]
        · exfalso
          obtain ⟨i', h1, h2⟩ := refSlots_mem er q2
          rw [q1, ei] at g; cases g
          rw [h1] at g'; cases g'
          exact n1 h2
      · rcases List.mem_cons.mp h' with q2 | q2
        · exfalso
          obtain ⟨i', h1, h2⟩ := refSlots_mem er q1
          rw [q2, ei] at g'; cases g'
          rw [h1] at g; cases g
          exact n1 h2
        · exact refSlots_inj er n2 q1 q2 g g'
    · cases e
def Lent (A : Slots) (bs : List Qx.A) (js : List Nat) (a : Addr) : Prop := ∃ j i : Nat, bs[j]? = some (Qx.A.o i) ∧ j ∉ js ∧ A i = some a
theorem lent_no {A : Slots} {bs : List Qx.A} {js : List Nat} (h : lent bs js = false) (a : Addr) : ¬ Lent A bs js a := fun ⟨j, i, h1, h2, h3⟩ => by
  unfold lent at h
  rw [List.any_eq_false] at h
  have lt : j < bs.length := (List.getElem?_eq_some_iff.mp h1).1
  have := h j (List.mem_range.mpr lt)
  rw [h1] at this
  simp only [isOw, Bool.true_and, Bool.not_eq_true', Bool.not_eq_false'] at this
  have c : js.contains j = false := by
    cases q : js.contains j with
    | false => rfl
    | true => exact (h2 (List.contains_iff_mem.mp q)).elim
  rw [c] at this
  exact this rfl
theorem read_mem {bs : List Qx.A} {js : List Nat} {j i : Nat} (h1 : bs[j]? = some (Qx.A.o i)) (h2 : j ∉ js) : i ∈ readSlots bs js := by
  unfold readSlots
  rw [List.mem_filterMap]
  refine ⟨j, List.mem_range.mpr (List.getElem?_eq_some_iff.mp h1).1, ?_⟩
  have c : js.contains j = false := by
    cases q : js.contains j with
    | false => rfl
    | true => exact (h2 (List.contains_iff_mem.mp q)).elim
  rw [c, h1]
  rfl
theorem putOs_len : ∀ {is : List Nat} {ds : List D} {env : En}, (putOs env is ds).length = env.length
  | [], ds, env => by cases ds <;> rfl
  | i :: is, [], env => rfl
  | i :: is, d :: ds, env => by simp only [putOs]; rw [putOs_len, List.length_set]
theorem putOs_out : ∀ {is : List Nat} {ds : List D} {env : En} {i : Nat}, i ∉ is → (putOs env is ds)[i]? = env[i]?
  | [], ds, env, i, h => by cases ds <;> rfl
  | i0 :: is, [], env, i, h => rfl
  | i0 :: is, d :: ds, env, i, h => by
    simp only [putOs]
    rw [putOs_out (fun z => h (List.mem_cons_of_mem _ z)), List.getElem?_set_ne (fun z => h (by rw [z]; exact List.mem_cons_self))]
/-- what the changed parameters' slots hold after -/
theorem putOs_in {G : Gd} {m : AdP} {H : Hp} {B A : Slots} {as : List Qx.A} : ∀ {js is : List Nat} {ds : List D} {env : En} {i : Nat}, refSlots as js = some is → nodupB is = true → ds.length = is.length → OutsAt G m H B js ds → (∀ j ∈ js, ∀ i, as[j]? = some (Qx.A.o i) → B j = A i) → (∀ i ∈ is, i < env.length) → i ∈ is →
    ∃ d a, (putOs env is ds)[i]? = some (.own d) ∧ A i = some a ∧ OwnAt G m H a d
  | [], is, ds, env, i, e, n, hl, ho, hb, he, hi => by
    simp only [refSlots] at e
    cases e
    cases hi
  | j0 :: js, is, ds, env, i, e, n, hl, ho, hb, he, hi => by
    simp only [refSlots] at e
    split at e
    · rename_i i0 ei
      obtain ⟨r, er, rfl⟩ := omap e
      obtain ⟨n1, n2⟩ := nodupB_cons n
      cases ds with
      | nil => simp at hl
      | cons d ds =>
        simp only [OutsAt] at ho
        obtain ⟨⟨a, h1, h2⟩, ho⟩ := ho
        simp only [putOs]
        rcases List.mem_cons.mp hi with rfl | hi
        · refine ⟨d, a, ?_, ?_, h2⟩
          · rw [putOs_out n1, List.getElem?_set_self (he _ List.mem_cons_self)]
          · rw [← hb j0 List.mem_cons_self _ ei]; exact h1
        · exact putOs_in er n2 (by simpa using hl) ho (fun j hj => hb j (List.mem_cons_of_mem _ hj)) (fun i hi => by rw [List.length_set]; exact he i (List.mem_cons_of_mem _ hi)) hi
    · cases e

section
variable {S : Sx} {f : Nat} {A : Slots} {m : AdP} {env env' : En} {σ : L2.St} {H : Hp} {bs : List Qx.A} {vs : List V} {d : D} {Q : VK}
theorem call_core {E : XK} (re : RE S.G A m env σ H) (ar : AReps S.G A m H bs vs) (ev : callE S.Φ S.R f bs env = some (d, env'))
    (q : ∀ v H', Nx A H H' → RE S.G A m env' σ H' → Rep S.G m H' d v → (S.C.F f = true → isC d = true → ∃ a, v = .ref a ∧ H a = none ∧ RE S.G A (ad m a) env' σ H' ∧ OwnAt S.G (ad m a) H' a d) → Q v H') : spOf S f vs H Q E := by
  unfold callE at ev
  obtain ⟨ds, is, hd, hi, ev⟩ := o11N ev
  obtain ⟨hc, ev⟩ := oi ev
  obtain ⟨r, outs, hf, ev⟩ := oO ev
  obtain ⟨hc2, ev⟩ := oi ev
  cases ev
  rw [Bool.and_eq_true] at hc
  obtain ⟨hn, hrd⟩ := hc
  obtain ⟨hol, hlent⟩ := hc2
  have hrd : ∀ i ∈ readSlots bs (S.R f), i ∉ is := fun i h z => by
    have := List.all_eq_true.mp hrd i h
    rw [List.contains_iff_mem.mpr z] at this
    cases this
  let lt : Addr → Prop := Lent A bs (S.R f)
  let mc : AdP := fun a => m a ∧ ¬ lt a
  let B : Slots := fun j => if j ∈ S.R f then (match bs[j]? with | some (.o i) => A i | _ => none) else none
  have hB : ∀ j ∈ S.R f, ∀ i, bs[j]? = some (Qx.A.o i) → B j = A i := fun j hj i e => by
    show (if j ∈ S.R f then _ else _) = _
    rw [if_pos hj, e]
  have hB2 : ∀ j a, B j = some a → ∃ i, j ∈ S.R f ∧ bs[j]? = some (Qx.A.o i) ∧ i ∈ is ∧ A i = some a := fun j a e => by
    by_cases hj : j ∈ S.R f
    · obtain ⟨i, h1, h2⟩ := refSlots_mem hi hj
      rw [hB j hj i h1] at e
      exact ⟨i, hj, h1, h2, e⟩
    · have : B j = none := if_neg hj
      rw [this] at e; cases e
  have hlm : ∀ a, lt a → m a := fun a ⟨j, i, _, _, e⟩ => re.mem i a e
  have hlB : ∀ a, lt a → ∀ j, B j ≠ some a := fun a ⟨j, i, h1, h2, h3⟩ j' z => by
    obtain ⟨i', g1, g2, g3, g4⟩ := hB2 j' a z
    have := re.inj i i' a h3 g4
    subst this
    exact hrd i (read_mem h1 h2) g3
  have hBm : ∀ j a, B j = some a → mc a := fun j a e => by
    obtain ⟨i, g1, g2, g3, g4⟩ := hB2 j a e
    exact ⟨re.mem i a g4, fun z => hlB a z j e⟩
  refine ⟨mc, B, ds, d, outs, hf, ⟨?_, fun a z => re.live a z.1, fun j dd e hj => ?_, fun j dd e hj => ?_, fun i j a e1 e2 => ?_, hBm, fun i a e => (hB2 i a e).choose_spec.1⟩, fun v H' m2 bk => ?_⟩
  · rw [resAs_len hd]; exact paired_len ar
  · obtain ⟨i, h1, h2⟩ := refSlots_mem hi hj
    obtain ⟨x, h3, h4⟩ := resAs_get hd e
    rw [h1] at h3; cases h3
    obtain ⟨v, h5, h6⟩ := paired_get ar h1
    obtain ⟨a, h7, rfl⟩ := h6
    obtain ⟨a', h7', _, h8⟩ := re.own i dd (getO_some h4)
    rw [h7] at h7'; cases h7'
    exact ⟨a, by rw [hB j hj i h1]; exact h7, h5, h8.weak fun b z => z.1⟩
  · obtain ⟨x, h3, h4⟩ := resAs_get hd e
    obtain ⟨v, h5, h6⟩ := paired_get ar h3
    refine ⟨v, h5, ?_⟩
    cases x with
    | v d' =>
      cases h4
      exact Rep.mono (Kp.weak fun b z => z.1) _ _ h6
    | o i =>
      obtain ⟨a, h7, rfl⟩ := h6
      obtain ⟨a', h7', _, h8⟩ := re.own i dd (getO_some h4)
      rw [h7] at h7'; cases h7'
      exact (h8.weak (m' := mc) fun b z => z.1).rep fun z => z.2 ⟨j, i, h3, hj, h7⟩
  · obtain ⟨i1, g1, g2, g3, g4⟩ := hB2 i a e1
    obtain ⟨i2, k1, k2, k3, k4⟩ := hB2 j a e2
    have := re.inj i1 i2 a g4 k4
    subst this
    exact refSlots_inj hi hn g1 k1 g2 k2
  · -- after
    have ntup : ∀ b xs, H' b = some (.tup xs) → ¬ lt b := fun b xs e z => by
      obtain ⟨j, i, h1, h2, h3⟩ := id z
      have lj : j < ds.length := by rw [resAs_len hd]; exact (List.getElem?_eq_some_iff.mp h1).1
      obtain ⟨x, k1, k2⟩ := resAs_get hd (List.getElem?_eq_getElem lj)
      rw [h1] at k1; cases k1
      obtain ⟨a', h7', _, h8⟩ := re.own i _ (getO_some k2)
      rw [h3] at h7'; cases h7'
      cases q0 : H b with
      | none => exact re.live b (hlm b z) q0
      | some o =>
        have := bk.nx.keep b o q0 fun j' => hlB b z j'
        rw [e] at this; cases this
        exact h8.noTup xs q0
    have key : ∀ m' : AdP, (∀ a, m a → m' a) → (∀ a, m' a → m2 a ∨ lt a) → RE S.G A m' (putOs env is outs) σ H' := fun m' k1 k2 => by
      have kp : Kp m m' H H' := ⟨fun a o e n => bk.nx.keep a o e fun j z => n (hBm j a z).1, fun a z => by
        rcases k2 a z with z | z
        · exact (bk.new a z).imp (fun z => z.1) id
        · exact .inl (hlm a z)⟩
      have ilt : ∀ i ∈ is, i < env.length := fun i h => by
        -- an index of a changed slot
        have : ∀ {js is : List Nat}, refSlots bs js = some is → i ∈ is → ∃ j, j ∈ js ∧ bs[j]? = some (Qx.A.o i) := by
          intro js
          induction js with
          | nil => intro is e h; simp only [refSlots] at e; cases e; cases h
          | cons j0 js ih =>
            intro is e h
            simp only [refSlots] at e
            split at e
            · rename_i i0 ei
              obtain ⟨r, er, rfl⟩ := omap e
              rcases List.mem_cons.mp h with rfl | h
              · exact ⟨j0, List.mem_cons_self, ei⟩
              · obtain ⟨j, h1, h2⟩ := ih er h
                exact ⟨j, List.mem_cons_of_mem _ h1, h2⟩
            · cases e
        obtain ⟨j, h1, h2⟩ := this hi h
        have lj : j < ds.length := by rw [resAs_len hd]; exact (List.getElem?_eq_some_iff.mp h2).1
        obtain ⟨x, g1, g2⟩ := resAs_get hd (List.getElem?_eq_getElem lj)
        rw [h2] at g1; cases g1
        exact getO_lt g2
      refine ⟨by rw [putOs_len]; exact re.len, fun i dd e => ?_, fun i dd e => ?_, re.inj, fun i a e => k1 a (re.mem i a e), fun a z => ?_⟩
      · by_cases c : i ∈ is
        · obtain ⟨d1, a, h1, _⟩ := putOs_in hi hn hol bk.outs hB ilt c
          rw [h1] at e; cases e
        · rw [putOs_out c] at e
          obtain ⟨v, h1, h2⟩ := re.val i dd e
          exact ⟨v, h1, h2.mono kp⟩
      · by_cases c : i ∈ is
        · obtain ⟨d1, a, h1, h2, h3⟩ := putOs_in hi hn hol bk.outs hB ilt c
          rw [h1] at e; cases e
          have hsig : σ[i]? = some (some (V.ref a)) := by
            have li := ilt i c
            -- the slot was owned before
            have : ∀ {js is : List Nat}, refSlots bs js = some is → i ∈ is → ∃ j, j ∈ js ∧ bs[j]? = some (Qx.A.o i) := by
              intro js
              induction js with
              | nil => intro is e h; simp only [refSlots] at e; cases e; cases h
              | cons j0 js ih =>
                intro is e h
                simp only [refSlots] at e
                split at e
                · rename_i i0 ei
                  obtain ⟨r, er, rfl⟩ := omap e
                  rcases List.mem_cons.mp h with rfl | h
                  · exact ⟨j0, List.mem_cons_self, ei⟩
                  · obtain ⟨j, h1, h2⟩ := ih er h
                    exact ⟨j, List.mem_cons_of_mem _ h1, h2⟩
                · cases e
            obtain ⟨j, g1, g2⟩ := this hi c
            have lj : j < ds.length := by rw [resAs_len hd]; exact (List.getElem?_eq_some_iff.mp g2).1
            obtain ⟨x, g3, g4⟩ := resAs_get hd (List.getElem?_eq_getElem lj)
            rw [g2] at g3; cases g3
            obtain ⟨a', h7', h8, _⟩ := re.own i _ (getO_some g4)
            rw [h2] at h7'; cases h7'
            exact h8
          refine ⟨a, h2, hsig, ?_⟩
          rcases hlent with hlent | ⟨_, hlent⟩
          · exact h3.weak fun b z => (k2 b z).elim id fun z => (lent_no hlent b z).elim
          · refine h3.relent (fun b xs eb z => (k2 b z).elim id fun z => (ntup b xs eb z).elim) ?_
            have : ∀ {is : List Nat} {outs : List D} {env : En}, outs.all noLc = true → outs.length = is.length → nodupB is = true → (∀ i ∈ is, i < env.length) → i ∈ is → (putOs env is outs)[i]? = some (.own dd) → noLc dd = true := by
              intro is
              induction is with
              | nil => intro outs env _ _ _ _ h _; cases h
              | cons i0 is ih =>
                intro outs env ha hl hn he h hp
                cases outs with
                | nil => simp at hl
                | cons o outs =>
                  simp only [List.all_cons, Bool.and_eq_true] at ha
                  obtain ⟨n1, n2⟩ := nodupB_cons hn
                  simp only [putOs] at hp
                  rcases List.mem_cons.mp h with rfl | h
                  · rw [putOs_out n1, List.getElem?_set_self (he _ List.mem_cons_self)] at hp
                    cases hp
                    exact ha.1
                  · exact ih ha.2 (by simpa using hl) n2 (fun i hi => by rw [List.length_set]; exact he i (List.mem_cons_of_mem _ hi)) h hp
            exact this hlent hol hn ilt c h1
        · rw [putOs_out c] at e
          obtain ⟨a, h1, h2, h3⟩ := re.own i dd e
          refine ⟨a, h1, h2, h3.mono kp fun o g => bk.nx.keep a o g fun j z => ?_⟩
          obtain ⟨i', g1, g2, g3, g4⟩ := hB2 j a z
          have := re.inj i i' a h1 g4
          subst this
          exact c g3
      · rcases k2 a z with z | z
        · exact bk.live a z
        · exact bk.nx.live a (re.live a (hlm a z))
    have cl : ∀ a, m a → m2 a ∨ lt a := fun a z => by
      by_cases c : lt a
      · exact .inr c
      · exact .inl (bk.more a ⟨z, c⟩)
    have nx : Nx A H H' := ⟨fun a o e n => bk.nx.keep a o e fun j z => by
      obtain ⟨i, _, _, _, g⟩ := hB2 j a z
      exact n i g, bk.nx.live⟩
    rcases bk.res with ⟨a, rfl, h1, h2, h3⟩ | ⟨h1, h2⟩
    · have nm : ¬ m a := fun z => re.live a z h2
      have nl : lent bs (S.R f) = false := by
        rcases hlent with z | ⟨z, _⟩
        · exact z
        · have := h3.isC
          cases d <;> simp [isC] at this <;> simp [noL] at z
      have nol : ∀ b, ¬ lt b := lent_no nl
      have k2 : ∀ b, ad m a b → m2 b ∨ lt b := fun b z => z.elim (fun z => .inl (z ▸ h1)) (cl b)
      refine q _ H' nx (key m (fun _ z => z) cl) ((h3.weak fun b z => (cl b z).elim id fun z => (nol b z).elim).rep nm) fun _ _ => ⟨a, rfl, h2, key (ad m a) (fun _ z => .inr z) k2, h3.weak fun b z => (k2 b z).elim id fun z => (nol b z).elim⟩
    · refine q v H' nx (key m (fun _ z => z) cl) ?_ fun z1 z2 => ?_
      · rcases hlent with hlent | ⟨hlent, _⟩
        · exact h1.mono (Kp.weak fun b z => (cl b z).elim id fun z => (lent_no hlent b z).elim)
        · exact Rep.relent (fun b xs eb z => (cl b z).elim id fun z => (ntup b xs eb z).elim) _ _ hlent h1
      · rcases h2 with h2 | h2
        · rw [h2] at z1; cases z1
        · rw [h2] at z2; cases z2
end
end Qx
set_option Elab.async false
set_option linter.all false
set_option maxRecDepth 100000
set_option maxHeartbeats 4000000
/-! QSnd7: calls of defs, as nodes. -/
namespace Qx
open PySem PySem.Spec PyProof.Rows L2

section
variable {S : Sx} {k : Nat} {sc : Scope} {X : Cx} {p pos : Pos} {e : Expr} {c : E} {es : List Expr} {cs : List E} {g : Nat} {x : Str}
theorem nd_call (h : Ct S k sc X) (hx : S.C.G.lookup x = some (.fn g)) (gl : Gl X x) (hdb : (x == ("__debug__" : Str)) = false) (st : isStar e = false) (s : Snds S X (e :: es) cs) (sr : (backTo pos (starEach es X.env)).any (·.1) = false) :
    Snd S X (.Call (.Name x p) (e :: es) [] pos) (.call g cs []) := by
  obtain ⟨f, hm, hf⟩ := h.prg.glo x g hx
  obtain ⟨fd, ps, F, hk, hb, _⟩ := (h.prg.fns g f hf).ex
  refine Snd.mk' rfl ((pe_call F h.room gl hm hk hb .nil pass0 s.as hdb (starEach_ok st) sr).imp fun σ H Q ⟨A, m, env, d, env', re, ev, q⟩ => ?_)
  simp only [evE] at ev
  obtain ⟨as, e1, ev1, ev⟩ := oR ev
  simp only [permA] at ev
  refine ⟨A, m, env, as, e1, re, ev1, fun vs H1 n1 r1 a1 => ?_⟩
  show spOf S g (vs ++ []) H1 Q E0
  rw [List.append_nil]
  exact call_core r1 a1 ev fun v H' n2 r2 rp fr => q v H' ⟨n1.trans n2, r2, rp, fun z1 z2 => by
    obtain ⟨p, g1, g2, g3⟩ := fr z1 z2
    exact ⟨p, g1, n1.free g2, g3⟩⟩
theorem nd_call0 (h : Ct S k sc X) (hx : S.C.G.lookup x = some (.fn g)) (gl : Gl X x) (hdb : (x == ("__debug__" : Str)) = false) : Snd S X (.Call (.Name x p) [] [] pos) (.call g [] []) := by
  obtain ⟨f, hm, hf⟩ := h.prg.glo x g hx
  obtain ⟨fd, ps, F, hk, hb, _⟩ := (h.prg.fns g f hf).ex
  refine Snd.mk' rfl ((pe_call0 F h.room gl hm hk hb .nil pass0 hdb).imp fun σ H Q ⟨A, m, env, d, env', re, ev, q⟩ => ?_)
  simp only [evE, evAs, permA] at ev
  show spOf S g ([] ++ []) H Q E0
  exact call_core re .nil ev fun v H' n2 r2 rp fr => q v H' ⟨n2, r2, rp, fr⟩

/-! ### with names -/
inductive Kws (S : Sx) (X : Cx) : List Keyword → List E → Prop
  | nil : Kws S X [] []
  | cons {n : Str} {e : Expr} {kp : Pos} {c : E} {ks : List Keyword} {cs : List E} : Snd S X e c → Kws S X ks cs → Kws S X (⟨some n, e, kp⟩ :: ks) (c :: cs)
theorem Kws.pk : ∀ {ks : List Keyword} {cs : List E}, Kws S X ks cs → PK X ks (tAs S cs)
  | _, _, .nil => ⟨fun pos pins s' σ H Q I ⟨A, m, env, as, env', re, ev, q⟩ => by
    simp only [evAs] at ev
    cases ev
    exact pk_nil.run pos pins s' σ H Q I (q [] H .refl re .nil)⟩
  | _, _, .cons s r => ⟨fun pos pins s' σ H Q I ⟨A, m, env, as, env', re, ev, q⟩ => by
    simp only [evAs] at ev
    obtain ⟨a, e1, ev1, ev⟩ := oA ev
    obtain ⟨bs, e2, ev2, ev⟩ := oR ev
    cases ev
    refine (pk_cons s.pa r.pk).run pos pins s' σ H Q I ⟨A, m, env, a, e1, re, ev1, fun v H1 n1 r1 a1 => ⟨A, m, e1, bs, _, r1, ev2, fun vs H2 n2 r2 a2 => ?_⟩⟩
    exact q _ H2 (n1.trans n2) r2 (.cons (a1.mono (r1.kp n2)) a2)⟩
theorem Kws.some {ks : List Keyword} {cs : List E} {pos : Pos} (h : Kws S X ks cs) : (backToKw pos (keywordEach ks X.env)).all (·.1.isSome) = true ∧ (backToKw pos (keywordEach ks X.env)).any (·.1.isNone) = false ∧ (backToKw pos (keywordEach ks X.env)).filterMap (·.1) = ks.filterMap (·.arg) := by
  induction h with
  | nil => exact ⟨rfl, rfl, rfl⟩
  | @cons n e kp c ks cs a _ ih =>
    obtain ⟨i1, i2, i3⟩ := ih
    refine ⟨?_, ?_, ?_⟩
    · show (true && (backToKw pos (keywordEach ks X.env)).all (·.1.isSome)) = true
      rw [i1]; rfl
    · show (false || (backToKw pos (keywordEach ks X.env)).any (·.1.isNone)) = false
      rw [i2]; rfl
    · show n :: (backToKw pos (keywordEach ks X.env)).filterMap (·.1) = n :: ks.filterMap (·.arg)
      rw [i3]
theorem Kws.len {ks : List Keyword} {cs : List E} (h : Kws S X ks cs) : (ks.filterMap (·.arg)).length = cs.length := by
  induction h with
  | nil => rfl
  | @cons n e kp c ks cs a _ ih =>
    show (n :: ks.filterMap (·.arg)).length = _
    rw [List.length_cons, List.length_cons, ih]
theorem evAs_app {Φ : Orc} {R : Rfs} : ∀ {es fs : List E} {env env' : En} {as : List Qx.A}, evAs Φ R (es ++ fs) env = some (as, env') → ∃ as1 as2 e1, evAs Φ R es env = some (as1, e1) ∧ evAs Φ R fs e1 = some (as2, env') ∧ as = as1 ++ as2
  | [], fs, env, env', as, h => ⟨[], as, env, by simp only [evAs], h, rfl⟩
  | e :: es, fs, env, env', as, h => by
    simp only [List.cons_append, evAs] at h
    obtain ⟨a, e1, ev1, h⟩ := oA h
    obtain ⟨bs, e2, ev2, h⟩ := oR h
    cases h
    obtain ⟨as1, as2, e3, h1, h2, rfl⟩ := evAs_app ev2
    exact ⟨a :: as1, as2, e3, by simp only [evAs]; rw [ev1]; simp only [h1], h2, rfl⟩
theorem evAs_len {Φ : Orc} {R : Rfs} : ∀ {es : List E} {env env' : En} {as : List Qx.A}, evAs Φ R es env = some (as, env') → as.length = es.length
  | [], env, env', as, h => by simp only [evAs] at h; cases h; rfl
  | e :: es, env, env', as, h => by
    simp only [evAs] at h
    obtain ⟨a, e1, ev1, h⟩ := oA h
    obtain ⟨bs, e2, ev2, h⟩ := oR h
    cases h
    rw [List.length_cons, List.length_cons, evAs_len ev2]
theorem pickA_eq {G : Gd} {A : Slots} {m : AdP} {H : Hp} {as : List Qx.A} {vs : List V} (r : AReps G A m H as vs) : ∀ {pm : List Nat} {bs : List Qx.A}, pickA as pm = some bs → AReps G A m H bs (pickV vs pm)
  | [], bs, h => by
    simp only [pickA] at h
    cases h
    exact .nil
  | j :: pm, bs, h => by
    simp only [pickA] at h
    split at h
    · rename_i a r' e1 e2
      cases h
      obtain ⟨v, g1, g2⟩ := paired_get r e1
      have : pickV vs (j :: pm) = v :: pickV vs pm := by
        unfold pickV
        rw [List.filterMap_cons, g1]
      rw [this]
      exact .cons g2 (pickA_eq r e2)
    · cases h
theorem vals_pick {vs : List V} {us : List Value} (r : Vals vs us) : ∀ pm : List Nat, Vals (pickV vs pm) (pickV us pm)
  | [] => .nil
  | j :: pm => by
    cases e : vs[j]? with
    | none =>
      have e2 := Vals.none_of r e
      have h1 : pickV vs (j :: pm) = pickV vs pm := by unfold pickV; rw [List.filterMap_cons, e]
      have h2 : pickV us (j :: pm) = pickV us pm := by unfold pickV; rw [List.filterMap_cons, e2]
      rw [h1, h2]
      exact vals_pick r pm
    | some v =>
      obtain ⟨u, e2, g⟩ := Vals.get r e
      have h1 : pickV vs (j :: pm) = v :: pickV vs pm := by unfold pickV; rw [List.filterMap_cons, e]
      have h2 : pickV us (j :: pm) = u :: pickV us pm := by unfold pickV; rw [List.filterMap_cons, e2]
      rw [h1, h2]
      exact .cons g (vals_pick r pm)
/-- f(k = v, ..) -/
theorem nd_callK0 (h : Ct S k sc X) {kws : List Keyword} {ks : List E} {pm : List Nat} (hx : S.C.G.lookup x = some (.fn g)) (gl : Gl X x) (hdb : (x == ("__debug__" : Str)) = false) (s : Kws S X kws ks)
    (hp : kwPos (S.C.P g) 0 (kws.filterMap (·.arg)) = some pm) (pn : pm ≠ []) (nd : (kws.filterMap (·.arg)).Nodup) (hl : (kws.filterMap (·.arg)).length = (S.C.P g).length) (hin : ∀ k ∈ kws.filterMap (·.arg), k ∈ S.C.P g) : Snd S X (.Call (.Name x p) [] kws pos) (.call g ks pm) := by
  obtain ⟨f, hm, hf⟩ := h.prg.glo x g hx
  obtain ⟨fd, ps, F, hk, hb, rfl, hkw⟩ := (h.prg.fns g f hf).ex
  obtain ⟨s1, s2, s3⟩ := s.some (pos := pos)
  refine Snd.mk' rfl ⟨fun pins sh σ H Q I ⟨A, m, env, d, env', re, ev, q⟩ => ?_⟩
  simp only [evE] at ev
  obtain ⟨as, e1, ev1, ev⟩ := oR ev
  obtain ⟨bs, hbs, ev⟩ := o1R ev
  have hbs : pickA as pm = some bs := by
    unfold permA at hbs
    split at hbs
    · exact (pn rfl).elim
    · exact hbs
  refine wpAny_Call_Name_kw (ld_glob I gl hm ?_ hdb)
  refine PySem.W.callWith_KW0 (h₀ := X.base) I.ok.mod.kin hk s1 (thn (s.pk.run pos pins sh σ H (fun zs H2 => spOf S g (pickV zs pm) H2 Q E0 ∧ zs.length = ks.length) I ⟨A, m, env, as, e1, re, ev1, fun vs H1 n1 r1 a1 => ⟨?_, ?_⟩⟩) fun ws sh2 ⟨zs, H2, I2, rz, q2, ql⟩ => ⟨I2.kIn, ?_⟩) (by rw [s2]; rfl)
  · exact call_core r1 (pickA_eq a1 hbs) ev fun v H' n2 r2 rp fr => q v H' ⟨n1.trans n2, r2, rp, fun z1 z2 => by
    obtain ⟨p, g1, g2, g3⟩ := fr z1 z2
    exact ⟨p, g1, n1.free g2, g3⟩⟩
  · rw [← paired_len a1, evAs_len ev1]
  · rw [s3]
    show wpAny (model X.prog X.w) X.A (call (.ref f) [] ((kws.filterMap (·.arg)).zip ws)) (EP X pins σ Q) X.xe sh2
    have hw : ws.length = (kws.filterMap (·.arg)).length := by rw [← rz.length, ql, s.len]
    have hbt := hkw 0 _ pm hp nd (by rw [hl]; simp) (by simpa using hin) sh2 [] ws I2.kIn rfl hw
    have r2 : Vals (pickV zs pm) (pickV ws pm) := vals_pick rz pm
    refine wpAny_call (codeAny_mono (F.run X.A X.stack sh2 H2 ⟨[], _⟩ (pickV ws pm) (pickV zs pm) Q E0 h.room I2.env0 hbt r2 q2) fun r s' hq => ?_)
    cases r with
    | error e => exact hq.elim
    | ok fl =>
      cases fl with
      | ret u => exact I2.after hq
      | next => exact False.elim hq
      | brk => exact False.elim hq
      | cont => exact False.elim hq
end
end Qx
set_option Elab.async false
set_option linter.all false
set_option maxRecDepth 100000
set_option maxHeartbeats 4000000
/-! QEnu: enumerate over a tuple. -/
namespace Qx
open PySem PySem.Spec PyProof.Rows L2

theorem en_meets {src : Value} {cell : Obj} {Pre : Heap → Prop} (bg : Begins src cell Pre) :
    Meets (Builtin.«enumerate.__new__» ⟨[.type "enumerate", src], []⟩) (fun _ R st => Pre st.heap ∧
      R (.ok (.ret (.ref (st.heap.push cell).objs.size))) { st with heap := (st.heap.push cell).push { cls := .type "enumerate", data := .fields #[.none, .bool false, .ref st.heap.objs.size, rawInt 0, .none, .none] } }) :=
  Meets.of_wp fun prog w A R st hyp => by
    obtain ⟨hp, gs, dr, tk, os⟩ := st
    obtain ⟨pre, hyp⟩ := hyp
    have sub := sub_enumerate
    have walk : ∀ {A' : Around} {E' : Value → Shared → Prop} {Q' : Value → Shared → Prop}, Q' (.ref hp.objs.size) ⟨hp.push cell, gs, dr, tk, os⟩ → wpAny (model prog w) A' (pyIter src) Q' E' ⟨hp, gs, dr, tk, os⟩ :=
      fun z => bg.iter prog w _ _ ⟨hp, gs, dr, tk, os⟩ _ pre z
    wp_walk using walk
    refine wpAny_stack_any fun fr => wpAny_pure ?_
    split
    · rename_i cl _ _ _ _ _
      cases (cl == Value.type "enumerate") <;>
        (wp_walk using walk
         exact ⟨_, rfl, hyp⟩)
    · wp_walk using walk
      exact ⟨_, rfl, hyp⟩
section
variable {prog : Program} {w : World} {A : Around} {E : Value → Shared → Prop} {s : Shared}
theorem en_make {src : Value} {cell : Obj} {Pre : Heap → Prop} {Q : Value → Shared → Prop} (bg : Begins src cell Pre) (pre : Pre s.heap)
    (q : ∀ h', IsEnum h' (s.heap.objs.size + 1) s.heap.objs.size 0 .none → h'.get? s.heap.objs.size = some cell → (∀ b ob, s.heap.get? b = some ob → h'.get? b = some ob) → Q (.ref (s.heap.objs.size + 1)) { s with heap := h' }) :
    wpAny (model prog w) A (call (.type "enumerate") [src]) Q E s := by
  refine callType_new F.called_enumerate (by decide) (F.typeCall_enumerate_1 _) (F.newCall_enumerate_1 _) (fun ob => F.args_object_init_2 ob _) F.entry_enumerate_new (en_meets bg) ⟨pre, ?_⟩
  have sz : (s.heap.push cell).objs.size = s.heap.objs.size + 1 := Heap.size_push ..
  show _ ∧ _
  rw [sz]
  have isE : IsEnum ((s.heap.push cell).push { cls := .type "enumerate", data := .fields #[.none, .bool false, .ref s.heap.objs.size, rawInt 0, .none, .none] }) (s.heap.objs.size + 1) s.heap.objs.size 0 .none := by
    have z := Heap.get?_push_size (s.heap.push cell) (o := { cls := .type "enumerate", data := .fields #[.none, .bool false, .ref s.heap.objs.size, rawInt 0, .none, .none] }) rfl
    rw [sz] at z
    exact z
  exact ⟨⟨_, isE, rfl⟩, q _ isE (Heap.get?_push_of_some _ (Heap.get?_push_size _ bg.free)) fun b ob z => Heap.get?_push_of_some _ (Heap.get?_push_of_some _ z)⟩
end
/-- the tuple at a, each item with its number, in new pairs -/
def ItEt (K : PySem.W.Frag) (a : Addr) : L2.It :=
  ⟨fun i H => ∃ (xs : List V) (x : V), SqT K H a xs ∧ xs[i]? = some x, fun i H v H' => ∃ T x, v = .ref T ∧ H T = none ∧ H' = upd H T (.tup [.int (i : Nat), x]) ∧ ∀ xs, SqT K H a xs → xs[i]? = some x, fun i H => ∃ xs : List V, SqT K H a xs ∧ xs.length ≤ i⟩
theorem en_turn {P : Program} {w : World} {K : PySem.W.Frag} {elts : List Expr} {kk : Nat} {tpos : Pos} (a e it : Addr) :
    Turn P w K (.Tuple elts kk tpos) (ItEt K a) [e, it] e (fun i h => (∃ old, IsEnum h e it ((i : Nat) : Int) old) ∧ h.IsTupleIter it a i ∧ e ≠ it ∧ a ≠ it ∧ e ≠ a) where
  mem := by simp
  obj := fun i h st b hb => by
    obtain ⟨⟨old, isE⟩, ⟨ob, g1, g2, g3⟩, _⟩ := st
    rcases (by simpa using hb : b = e ∨ b = it) with rfl | rfl
    · exact ⟨_, isE, fun v z => nomatch z⟩
    · exact ⟨ob, g1, fun v z => by rw [g3] at z; cases z⟩
  keep := fun i h h' st kp => by
    obtain ⟨⟨old, isE⟩, g, ne⟩ := st
    exact ⟨⟨old, kp e (by simp) _ isE⟩, g.at fun ob z => kp it (by simp) ob z, ne⟩
  item := by
    intro X hP hw hK hc i pins s σ H E I hf st hg
    subst hP hw hK
    obtain ⟨⟨old, isE⟩, g, ne, na, ea⟩ := st
    obtain ⟨xs, x, hq, hx⟩ := hg
    obtain ⟨its, rv, isT, hz⟩ := I.tuple hq
    have le : e < s.heap.objs.size := Heap.lt_size isE
    have li : it < s.heap.objs.size := by obtain ⟨_, z, _⟩ := g; exact Heap.lt_size z
    have lt : i < its.toArray.size := by
      rw [List.size_toArray, ← rv.length]
      exact (List.getElem?_eq_some_iff.mp hx).1
    refine wpAny_pyNext_enum_itemD (Draws.tuple (A := X.A.in1) (I.ok.hd hc) it a na its.toArray) isE (show _ ∧ _ from ⟨g, isT⟩) lt ne (by simp [ne, ea]) fun u h' tk hu out st' hT hsz kp => ?_
    obtain ⟨u', hu', ru⟩ := rv.get hx
    have eu : u = u' := by
      have : its[i]? = some u := by simpa using hu
      rw [hu'] at this
      exact (Option.some.inj this).symm
    subst eu
    refine ⟨_, rfl, wpAny_letOwnedTupleGo_enum (s := { s with heap := h', toks := tk + 1 }) out fun h2 isE2 sb => ?_⟩
    have hT2 : h2.get? s.heap.objs.size = some { cls := .type "tuple", data := .seq #[.int i tk, u] } := (sb.2 _ (Nat.ne_of_gt le)).trans hT
    have ok2 : ObjOk X.prog X.w (upd H s.heap.objs.size (.tup [.int (i : Nat), x])) h2 s.heap.objs.size (.tup [.int (i : Nat), x]) :=
      ⟨by show 2 ≤ sizeLine; decide, [.int i tk, u], .cons ⟨_, rfl⟩ (.cons ru .nil), ⟨_, hT2, rfl, _, rfl⟩⟩
    have I2 : Inv X pins σ (upd H s.heap.objs.size (.tup [.int (i : Nat), x])) { s with heap := h2, toks := tk + 1 } :=
      I.turnedNew (t' := tk + 1) (ch := [e, it]) (fun b ob hb z => (sb.2 b (fun y => hb (by simp [y]))).trans (kp b ob (fun y => hb (by simp [y])) (fun y => hb (by simp [y])) z)) hf (Nat.le_refl _) ok2
    refine ⟨.ref s.heap.objs.size, _, I2, rfl, ⟨_, x, rfl, I.hok.fresh (Nat.le_refl _), rfl, fun ys hy => by rw [I.tuple_inj hy hq]; exact hx⟩, ⟨⟨u, ?_⟩, st'.1.at fun ob z => (sb.2 it (Ne.symm ne)).trans z, ne, na, ea⟩, fun b hb => ?_⟩
    · rw [show ((i + 1 : Nat) : Int) = (i : Int) + 1 by omega]
      exact isE2
    · have lb : b < s.heap.objs.size := by
        rcases (by simpa using hb : b = e ∨ b = it) with rfl | rfl
        · exact le
        · exact li
      rw [upd_ne (Nat.ne_of_lt lb)]
      exact (hf b hb).1
  done := by
    intro X hP hw hK hc i pins s σ H E I hf st hg
    subst hP hw hK
    obtain ⟨⟨old, isE⟩, g, ne, na, ea⟩ := st
    obtain ⟨xs, hq, hx⟩ := hg
    obtain ⟨its, rv, isT, hz⟩ := I.tuple hq
    obtain ⟨f0, f1, f2, f3, f4, f5⟩ := hf it (by simp)
    have hl := rv.length
    have hT : s.TypeIs (.ref e) "enumerate" := ⟨_, isE, rfl⟩
    unfold pyNext
    refine wpAny_bind (wpAny_attempt (wpAny_callSpecial?_slot (name := Str.ofString "__next__") hT F.slot_enumerate_next (wpAny_call_entry F.slot_enumerate_next hT F.entry_enumerate_next ?_ (F.args_enumerate_next_1 _))))
    show wpAny _ _ (field (.ref e) 2 >>= _) _ _ _
    refine wpAny_bind (wpAny_field isE rfl (x := .ref it) rfl ?_)
    refine wpAny_bind (wpAny_nextOf_tuple_end (I.ok.hd hc) g (show s.heap.IsTuple a its.toArray from isT) (by simp; omega) fun h' x eb hx' => ?_)
    obtain ⟨ob, ho, hcl⟩ := hx'
    refine wpAny_bind (wpAny_isInstance (T := "StopIteration") (b := true) ⟨ob, ho, hcl⟩ isSubtype_stop ?_)
    exact wpAny_pure ⟨rfl, I.turned (t' := s.toks) (fun b o hb z => eb b o hb z) f0 f1 f3 f4 f5⟩
  self := fun A i s Q E st h => let ⟨⟨_, isE⟩, _⟩ := st; wpAny_pyIter_enum isE h
def iEnumT (K : PySem.W.Frag) (ta : TA) : TI := fun σ H R => ta σ H fun vs H1 => ∃ a xs, vs = [.ref a] ∧ SqT K H1 a xs ∧ R (ItEt K a) H1
theorem pi_enumT {X : Cx} {e : Expr} {ta : TA} {p pos tpos : Pos} {elts : List Expr} {kk : Nat} (hg : Gl X "enumerate") (hm : X.mg "enumerate" = none) (ha : PA X [e] ta) (st : isStar e = false) :
    PI X (.Tuple elts kk tpos) (.Call (.Name "enumerate" p) [e] [] pos) (iEnumT X.K ta) := by
  refine ⟨fun pins s σ H R I h => ?_⟩
  refine Call_ (ld_blt I hg hm boot_enumerate (PyProof.Rows.callWith_type1 (thn (ha.run pos pins s σ H _ I h) fun us s1 ⟨vs, H1, I1, r1, q1⟩ => ?_) (starEach_ok st) rfl))
  obtain ⟨a, xs, rfl, hq, q⟩ := q1
  obtain ⟨u, rfl, r⟩ := vals1 r1
  cases r
  obtain ⟨its, rv, isT, hz⟩ := I1.tuple hq
  refine en_make (begins_tuple a its.toArray) isT fun h' isE cell kp => wpAny_pyIter_enum isE ?_
  have I2 : Inv X pins σ H1 { s1 with heap := h' } := I1.kept (t' := s1.toks) kp
  have la : a < s1.heap.objs.size := by obtain ⟨_, z, _⟩ := isT; exact Heap.lt_size z
  refine ⟨s1.heap.objs.size + 1, [s1.heap.objs.size + 1, s1.heap.objs.size], _, _, H1, rfl, I2, en_turn a (s1.heap.objs.size + 1) s1.heap.objs.size, ⟨⟨.none, isE⟩, ⟨_, cell, rfl, rfl⟩, Nat.succ_ne_self _, Nat.ne_of_lt la, Nat.ne_of_gt (Nat.lt_succ_of_lt la)⟩, fun b hb => ?_, q⟩
  have hle : s1.heap.objs.size ≤ b := by
    rcases (by simpa using hb : b = s1.heap.objs.size + 1 ∨ b = s1.heap.objs.size) with rfl | rfl
    · exact Nat.le_add_right _ _
    · exact Nat.le_refl _
  exact I1.fpOk hle (I1.hok.fresh hle)
end Qx
set_option Elab.async false
set_option linter.all false
set_option maxRecDepth 100000
set_option maxHeartbeats 4000000
/-! QSnd8: targets, iterators. -/
namespace Qx
open PySem PySem.Spec PyProof.Rows L2

/-! ### targets -/
section
variable {G : Gd} {A : Slots} {m : AdP} {env : En} {σ : L2.St} {H : Hp}
theorem RE.put {i : Nat} {d : D} {v : V} (r : RE G A m env σ H) (h : Rep G m H d v) : RE G A m (env.set i (.val d)) (σ.set i (some v)) H := by
  refine ⟨by rw [List.length_set, List.length_set]; exact r.len, fun j d' e => ?_, fun j d' e => ?_, r.inj, r.mem, r.live⟩
  · by_cases c : i = j
    · subst c
      have li : i < env.length := by
        have := (List.getElem?_eq_some_iff.mp e).1
        rwa [List.length_set] at this
      rw [List.getElem?_set_self li] at e
      cases e
      exact ⟨v, List.getElem?_set_self (by rw [← r.len]; exact li), h⟩
    · rw [List.getElem?_set_ne c] at e ⊢
      exact r.val j d' e
  · by_cases c : i = j
    · subst c
      have li : i < env.length := by
        have := (List.getElem?_eq_some_iff.mp e).1
        rwa [List.length_set] at this
      rw [List.getElem?_set_self li] at e
      cases e
    · rw [List.getElem?_set_ne c] at e ⊢
      exact r.own j d' e
end
def tG (S : Sx) (t : TN) : TG := fun v σ H Q => ∃ A m env d env', RE S.G A m env σ H ∧ Rep S.G m H d v ∧ putT t d env = some env' ∧ ∀ σ', RE S.G A m env' σ' H → σ'.length = σ.length → (∀ i, i ∉ namesT t → σ'[i]? = σ[i]?) → Q σ' H
def tGs (S : Sx) (ts : List TN) : TGs := fun vs σ H Q => ∃ A m env ds env', RE S.G A m env σ H ∧ Reps S.G m H ds vs ∧ putTs ts ds env = some env' ∧ ∀ σ', RE S.G A m env' σ' H → σ'.length = σ.length → (∀ i, i ∉ namesTs ts → σ'[i]? = σ[i]?) → Q σ' H
theorem putTs_len : ∀ {ts : List TN} {ds : List D} {env env' : En}, putTs ts ds env = some env' → ts.length = ds.length
  | [], [], env, env', h => rfl
  | t :: ts, d :: ds, env, env', h => by
    simp only [putTs] at h
    rw [Option.bind_eq_some_iff] at h
    obtain ⟨e1, h1, h2⟩ := h
    rw [List.length_cons, List.length_cons, putTs_len h2]
  | [], d :: ds, env, env', h => by simp [putTs] at h
  | t :: ts, [], env, env', h => by simp [putTs] at h
section
variable {S : Sx} {k : Nat} {sc : Scope} {X : Cx}
theorem Ct.locL (h : Ct S k sc X) {x : Str} (e : isLoc sc x = true) : Loc X.env.scope x ∧ (X.fn x = true ∨ X.env.scope.names.lookup x = some .local) := by
  unfold isLoc at e
  split at e
  · rename_i q; exact ⟨.inl (h.loc x q), .inr (h.loc x q)⟩
  · rename_i q; exact ⟨.inr (h.cell x q).1, .inl (h.cell x q).2⟩
  · cases e
theorem tg_name (h : Ct S k sc X) {x : Str} {i : Nat} {pos : Pos} (hl : isLoc sc x = true) (hi : ixOf S.C.N x = some i) : PG X (.Name x pos) (tG S (.nm i)) := by
  obtain ⟨l1, l2⟩ := h.locL hl
  refine (pg_name (by rw [h.N]; exact h.nd) (h.ix hi) l1 l2).imp fun v σ H Q ⟨A, m, env, d, env', re, rp, hp, q⟩ => ?_
  simp only [putT] at hp
  obtain ⟨h1, hp⟩ := oni hp
  obtain ⟨h2, hp⟩ := oi hp
  cases hp
  exact q _ (re.put rp) (List.length_set ..) fun j hj => List.getElem?_set_ne (fun z => hj (by simp [namesT, z]))
theorem noStar {n : Nat} : ∀ {es : List Expr} {ts : List TN}, allS (es.map (cTN S.C sc n)) = some ts → (∀ e ∈ es, isStar e = false) ∧ es.length = ts.length
  | [], ts, h => by simp only [List.map_nil, allS] at h; cases h; exact ⟨by simp, rfl⟩
  | e :: es, ts, h => by
    rw [List.map_cons] at h
    cases q : cTN S.C sc n e with
    | none => rw [q] at h; simp only [allS] at h; cases h
    | some t =>
      rw [q] at h
      simp only [allS] at h
      obtain ⟨r, h1, rfl⟩ := omap h
      obtain ⟨g1, g2⟩ := noStar h1
      refine ⟨fun x hx => ?_, by simp [g2]⟩
      rcases List.mem_cons.mp hx with rfl | hx
      · cases n with
        | zero => simp [cTN] at q
        | succ n => cases x <;> first | rfl | simp [cTN] at q
      · exact g1 x hx
theorem each_ok {env : Env} : ∀ {es : List Expr}, (∀ e ∈ es, isStar e = false) → (assignEach es env).length = es.length ∧ (assignEach es env).findIdx? (·.1) = none ∧ (assignEach es env).map (·.2) = es.map fun e => assign e env
  | [], _ => ⟨rfl, rfl, rfl⟩
  | e :: es, h => by
    obtain ⟨h1, h2, h3⟩ := each_ok (es := es) (env := env) fun x hx => h x (List.mem_cons_of_mem _ hx)
    rw [assignEach_ok (h e List.mem_cons_self)]
    refine ⟨by simp [h1], ?_, by simp [h3]⟩
    rw [List.findIdx?_cons]
    simp [h2]
theorem tgs_of {ctn : Expr → Option TN} (ih : ∀ e t, ctn e = some t → PG X e (tG S t)) : ∀ {es : List Expr} {ts : List TN}, (∀ e ∈ es, isStar e = false) → allS (es.map ctn) = some ts → PGs X es (tGs S ts)
  | [], ts, _, h => by
    simp only [List.map_nil, allS] at h
    cases h
    refine ⟨fun pins s σ H vs us Q I r w => pgs_nil.run pins s σ H vs us Q I r ?_⟩
    obtain ⟨A, m, env, ds, env', re, rp, hp, q⟩ := w
    cases ds with
    | nil =>
      simp only [putTs] at hp
      cases hp
      exact ⟨rp.inv0, q σ re rfl fun _ _ => rfl⟩
    | cons d ds => simp [putTs] at hp
  | e :: es, ts, st, h => by
    rw [List.map_cons] at h
    cases q0 : ctn e with
    | none => rw [q0] at h; simp only [allS] at h; cases h
    | some t =>
      rw [q0] at h
      simp only [allS] at h
      obtain ⟨r', h1, rfl⟩ := omap h
      have st' : ∀ x ∈ es, isStar x = false := fun x hx => st x (List.mem_cons_of_mem _ hx)
      refine ⟨fun pins s σ H vs us Q I r w => (pgs_cons (ih e t q0) (tgs_of ih st' h1) (by rw [assignEach_ok (st e List.mem_cons_self)]; rfl)).run pins s σ H vs us Q I r ?_⟩
      obtain ⟨A, m, env, ds, env', re, rp, hp, q⟩ := w
      cases ds with
      | nil => simp [putTs] at hp
      | cons d ds =>
        simp only [putTs] at hp
        rw [Option.bind_eq_some_iff] at hp
        obtain ⟨e1, hp1, hp2⟩ := hp
        obtain ⟨v, vs', rfl, g1, g2⟩ := rp.inv
        refine ⟨v, vs', rfl, A, m, env, d, e1, re, g1, hp1, fun σ1 r1 l1 o1 => ⟨A, m, e1, ds, env', r1, g2, hp2, fun σ2 r2 l2 o2 => q σ2 r2 (l2.trans l1) fun j hj => ?_⟩⟩
        simp only [namesTs, List.mem_append, not_or] at hj
        rw [o2 j hj.2, o1 j hj.1]
theorem tg_ok (h : Ct S k sc X) : ∀ (n : Nat) (e : Expr) (t : TN), cTN S.C sc n e = some t → PG X e (tG S t)
  | 0, e, t, c => by simp [cTN] at c
  | n + 1, e, t, c => by
    cases e with
    | Name x p =>
      simp only [cTN] at c
      obtain ⟨hc, c⟩ := oi c
      obtain ⟨i, hi, rfl⟩ := omap c
      simp only [Bool.and_eq_true] at hc
      exact tg_name h hc.1 hi
    | Tuple es kk p =>
      simp only [cTN] at c
      obtain ⟨ts, hc, rfl⟩ := omap c
      obtain ⟨st, hl⟩ := noStar hc
      obtain ⟨g1, g2, _⟩ := each_ok (env := X.env) st
      refine (pg_tup h.calm (tgs_of (tg_ok h n) st hc) (n := es.length) g1 g2).imp fun v σ H Q ⟨A, m, env, d, env', re, rp, hp, q⟩ => ?_
      cases d <;> simp only [putT] at hp <;> (try cases hp)
      rename_i ds
      simp only [Rep] at rp
      obtain ⟨a, xs, rfl, h1, h2⟩ := rp
      refine ⟨a, xs, rfl, by rw [h.hK]; exact h1.sq, by rw [← h2.length, ← putTs_len hp, hl], A, m, env, ds, env', re, h2, hp, fun σ' r' l' o' => q σ' r' l' fun i hi => o' i ?_⟩
      simpa only [namesT] using hi
    | _ => simp [cTN] at c
end

/-! ### what a loop walks -/
mutual
theorem sameD_eq : ∀ (x y : D), sameD x y = true → x = y
  | .non, y, h => by cases y <;> simp [sameD] at h; rfl
  | .bl a, y, h => by cases y <;> simp [sameD] at h; rw [h]
  | .int a, y, h => by cases y <;> simp [sameD] at h; rw [h]
  | .str a, y, h => by cases y <;> simp [sameD] at h; rw [h]
  | .tup a, y, h => by
    cases y <;> simp [sameD] at h
    rw [sameDs_eq _ _ h]
  | .lst a, y, h => by
    cases y <;> simp [sameD] at h
    rw [sameDs_eq _ _ h]
  | .dct t a b, y, h => by
    cases y <;> simp [sameD] at h
    rw [h.1.1, sameDs_eq _ _ h.1.2, sameDs_eq _ _ h.2]
  | .fn a, y, h => by cases y <;> simp [sameD] at h; rw [h]
theorem sameDs_eq : ∀ (x y : List D), sameDs x y = true → x = y
  | [], y, h => by cases y <;> simp [sameDs] at h; rfl
  | a :: x, y, h => by
    cases y <;> simp [sameDs] at h
    rw [sameD_eq _ _ h.1, sameDs_eq _ _ h.2]
end
/-- a loop's frame later on: what it walks stands as it stood -/
structure Later (S : Sx) (A : Slots) (m : AdP) (g : Qx.A × D) (H1 : Hp) (A' : Slots) (m' : AdP) (env2 : En) (σ2 : L2.St) (H2 : Hp) : Prop where
  re : RE S.G A' m' env2 σ2 H2
  kp : Kp m m' H1 H2
  same : ∀ i, g.1 = .o i → A' i = A i
  gd : gd g.1 g.2 env2 = true
structure ItOk (S : Sx) (J : L2.It) (A : Slots) (m : AdP) (g : Qx.A × D) (H1 : Hp) (xs : List D) : Prop where
  ok : ∃ (W : Hp → Prop) (Y : Nat → Hp → V → Hp → Prop), Walk J xs.length W Y ∧ ∀ A' m' env2 σ2 H2, Later S A m g H1 A' m' env2 σ2 H2 →
    W H2 ∧ ∀ i x H3, i < xs.length → Y i H2 x H3 → ∃ d, xs[i]? = some d ∧ Ex H2 H3 ∧ Rep S.G m' H3 d x
def tI (S : Sx) (it : Qx.It) : TI := fun σ H R => ∃ A m env xs g env', RE S.G A m env σ H ∧ evIt S.Φ S.R it env = some (xs, g, env') ∧
  ∀ J H1, Nx A H H1 → RE S.G A m env' σ H1 → ItOk S J A m g H1 xs → R J H1
section
variable {S : Sx} {A : Slots} {m : AdP} {env1 : En} {σ1 : L2.St} {H1 : Hp} {o : Qx.A} {d : D} {v : V}
theorem vw_later (re : RE S.G A m env1 σ1 H1) (ar : ARep S.G A m H1 o v) (e : resA env1 o = some d) {A' : Slots} {m' : AdP} {env2 : En} {σ2 : L2.St} {H2 : Hp} (l : Later S A m (o, d) H1 A' m' env2 σ2 H2) : Vw S.G m' H2 d v := by
  cases o with
  | v d' =>
    cases e
    exact .inl (Rep.mono l.kp _ _ ar)
  | o i =>
    obtain ⟨a, h1, rfl⟩ := ar
    have gd0 := l.gd
    simp only [Qx.gd] at gd0
    split at gd0
    · rename_i d2 e2
      have := sameD_eq _ _ gd0
      subst this
      obtain ⟨a', h2, _, h3⟩ := l.re.own i _ (getO_some e2)
      rw [l.same i rfl, h1] at h2
      cases h2
      exact .inr ⟨a, rfl, h3⟩
    · cases gd0
theorem itOf_some {f : D → Option (List D)} {env env' : En} {xs : List D} {g : Qx.A × D} (h : itOf o env f = some (xs, g, env')) : ∃ d, resA env o = some d ∧ f d = some xs ∧ g = (o, d) ∧ env' = env := by
  unfold itOf at h
  obtain ⟨d, h1, h⟩ := o1 h
  obtain ⟨ds, h2, h⟩ := o1L h
  cases h
  exact ⟨d, h1, h2, rfl, rfl⟩
/-- a list is walked -/
theorem it_list (re : RE S.G A m env1 σ1 H1) {ds : List D} {K : PySem.W.Frag} (hK : K = S.G.K) {a : Addr} (ar : ARep S.G A m H1 o (.ref a)) (e : resA env1 o = some (.lst ds)) : ItOk S (Itl K a) A m (o, .lst ds) H1 ds := by
  subst hK
  refine ⟨⟨fun H => ∃ vs, SqL S.G.K H a vs ∧ vs.length = ds.length, fun i H x H' => H' = H ∧ ∀ vs, SqL S.G.K H a vs → vs[i]? = some x, ⟨fun i H hi ⟨vs, h1, h2⟩ => ⟨vs, vs[i], h1, by simp⟩, fun H ⟨vs, h1, h2⟩ => ⟨vs, h1, by omega⟩, fun i H x H' hi hw h => h⟩, fun A' m' env2 σ2 H2 l => ?_⟩⟩
  obtain ⟨a', vs, ea, h1, h2⟩ := (vw_later re ar e l).lst
  cases ea
  refine ⟨⟨vs, h1, h2.length.symm⟩, fun i x H3 hi ⟨e3, hx⟩ => ?_⟩
  subst e3
  obtain ⟨v, g1, g2⟩ := h2.get (List.getElem?_eq_getElem hi)
  have := hx vs h1
  rw [g1] at this
  cases this
  exact ⟨_, List.getElem?_eq_getElem hi, Ex.refl, g2⟩
theorem it_tup (re : RE S.G A m env1 σ1 H1) {ds : List D} {K : PySem.W.Frag} (hK : K = S.G.K) {a : Addr} (ar : ARep S.G A m H1 o (.ref a)) (e : resA env1 o = some (.tup ds)) : ItOk S (Itt K a) A m (o, .tup ds) H1 ds := by
  subst hK
  refine ⟨⟨fun H => ∃ vs, SqT S.G.K H a vs ∧ vs.length = ds.length, fun i H x H' => H' = H ∧ ∀ vs, SqT S.G.K H a vs → vs[i]? = some x, ⟨fun i H hi ⟨vs, h1, h2⟩ => ⟨vs, vs[i], h1, by simp⟩, fun H ⟨vs, h1, h2⟩ => ⟨vs, h1, by omega⟩, fun i H x H' hi hw h => h⟩, fun A' m' env2 σ2 H2 l => ?_⟩⟩
  obtain ⟨a', vs, ea, h1, h2⟩ := (vw_later re ar e l).tup
  cases ea
  refine ⟨⟨vs, h1.sq, h2.length.symm⟩, fun i x H3 hi ⟨e3, hx⟩ => ?_⟩
  subst e3
  obtain ⟨v, g1, g2⟩ := h2.get (List.getElem?_eq_getElem hi)
  have := hx vs h1.sq
  rw [g1] at this
  cases this
  exact ⟨_, List.getElem?_eq_getElem hi, Ex.refl, g2⟩
theorem enu_get {ds : List D} {i : Nat} {d : D} (h : ds[i]? = some d) : (enuD ds)[i]? = some (.tup [.int i, d]) := by
  have li := (List.getElem?_eq_some_iff.mp h).1
  unfold enuD
  rw [List.getElem?_map, List.getElem?_range li]
  simp [List.getD, h]
theorem enu_len {ds : List D} : (enuD ds).length = ds.length := by unfold enuD; simp
theorem it_enum (re : RE S.G A m env1 σ1 H1) {ds : List D} {K : PySem.W.Frag} (hK : K = S.G.K) {a : Addr} (ar : ARep S.G A m H1 o (.ref a)) (e : resA env1 o = some (.lst ds)) : ItOk S (Ite K a) A m (o, .lst ds) H1 (enuD ds) := by
  subst hK
  refine ⟨⟨fun H => ∃ vs, SqL S.G.K H a vs ∧ vs.length = ds.length, fun i H v H' => ∃ T x, v = .ref T ∧ H T = none ∧ H' = upd H T (.tup [.int (i : Nat), x]) ∧ ∀ xs, SqL S.G.K H a xs → xs[i]? = some x, ?_, fun A' m' env2 σ2 H2 l => ?_⟩⟩
  · rw [enu_len]
    exact ⟨fun i H hi ⟨vs, h1, h2⟩ => ⟨vs, vs[i], h1, by simp⟩, fun H ⟨vs, h1, h2⟩ => ⟨vs, h1, by omega⟩, fun i H x H' hi hw h => h⟩
  · obtain ⟨a', vs, ea, h1, h2⟩ := (vw_later re ar e l).lst
    cases ea
    refine ⟨⟨vs, h1, h2.length.symm⟩, fun i x H3 hi ⟨T, y, e1, hT, e3, hx⟩ => ?_⟩
    subst e1 e3
    rw [enu_len] at hi
    obtain ⟨v, g1, g2⟩ := h2.get (List.getElem?_eq_getElem hi)
    have := hx vs h1
    rw [g1] at this
    cases this
    exact ⟨_, enu_get (List.getElem?_eq_getElem hi), Ex.laid hT, rep_tup l.re.live hT (.cons Rep.of_int (.cons g2 .nil))⟩
theorem it_enumT (re : RE S.G A m env1 σ1 H1) {ds : List D} {K : PySem.W.Frag} (hK : K = S.G.K) {a : Addr} (ar : ARep S.G A m H1 o (.ref a)) (e : resA env1 o = some (.tup ds)) : ItOk S (ItEt K a) A m (o, .tup ds) H1 (enuD ds) := by
  subst hK
  refine ⟨⟨fun H => ∃ vs, SqT S.G.K H a vs ∧ vs.length = ds.length, fun i H v H' => ∃ T x, v = .ref T ∧ H T = none ∧ H' = upd H T (.tup [.int (i : Nat), x]) ∧ ∀ xs, SqT S.G.K H a xs → xs[i]? = some x, ?_, fun A' m' env2 σ2 H2 l => ?_⟩⟩
  · rw [enu_len]
    exact ⟨fun i H hi ⟨vs, h1, h2⟩ => ⟨vs, vs[i], h1, by simp⟩, fun H ⟨vs, h1, h2⟩ => ⟨vs, h1, by omega⟩, fun i H x H' hi hw h => h⟩
  · obtain ⟨a', vs, ea, h1, h2⟩ := (vw_later re ar e l).tup
    cases ea
    refine ⟨⟨vs, h1.sq, h2.length.symm⟩, fun i x H3 hi ⟨T, y, e1, hT, e3, hx⟩ => ?_⟩
    subst e1 e3
    rw [enu_len] at hi
    obtain ⟨v, g1, g2⟩ := h2.get (List.getElem?_eq_getElem hi)
    have := hx vs h1.sq
    rw [g1] at this
    cases this
    exact ⟨_, enu_get (List.getElem?_eq_getElem hi), Ex.laid hT, rep_tup l.re.live hT (.cons Rep.of_int (.cons g2 .nil))⟩
end
section
variable {S : Sx} {k : Nat} {sc : Scope} {X : Cx} {e : Expr} {c : E} {tg : Expr} {p pos tpos : Pos}
theorem ti_seq (h : Ct S k sc X) (s : Snd S X e c) : PI X tg e (tI S (.seq c)) := by
  refine PI.or (pi_list s.pa) (pi_tup s.pa) fun σ H R ⟨A, m, env, xs, g, env', re, ev, q⟩ => ?_
  simp only [evIt] at ev
  obtain ⟨a, e1, ev1, ev⟩ := oA ev
  obtain ⟨d, h1, h2, rfl, rfl⟩ := itOf_some ev
  cases d <;> simp only [seqD] at h2 <;> (try cases h2)
  · refine .inr ⟨A, m, env, a, _, re, ev1, fun v H1 n1 r1 a1 => ?_⟩
    obtain ⟨b, vs, rfl, g1, g2⟩ := (r1.vw a1 h1).tup
    exact ⟨b, rfl, ⟨vs, by rw [h.hK]; exact g1.sq⟩, q _ H1 n1 r1 (it_tup r1 h.hK a1 h1)⟩
  · refine .inl ⟨A, m, env, a, _, re, ev1, fun v H1 n1 r1 a1 => ?_⟩
    obtain ⟨b, vs, rfl, g1, g2⟩ := (r1.vw a1 h1).lst
    exact ⟨b, rfl, ⟨vs, by rw [h.hK]; exact g1⟩, q _ H1 n1 r1 (it_list r1 h.hK a1 h1)⟩
theorem ti_enu (h : Ct S k sc X) (s : Snd S X e c) (st : isStar e = false) (gl : Gl X "enumerate") (hm : X.mg "enumerate" = none) {elts : List Expr} {kk : Nat} : PI X (.Tuple elts kk tpos) (.Call (.Name "enumerate" p) [e] [] pos) (tI S (.enu c)) := by
  have sa := (Snds.cons st s .nil).as
  refine PI.or (pi_enum gl hm sa (starEach_ok st)) (pi_enumT gl hm sa st) fun σ H R ⟨A, m, env, xs, g, env', re, ev, q⟩ => ?_
  simp only [evIt] at ev
  obtain ⟨a, e1, ev1, ev⟩ := oA ev
  obtain ⟨d, h1, h2, rfl, rfl⟩ := itOf_some ev
  have ev1' : evAs S.Φ S.R [c] env = some ([a], env') := by simp only [evAs]; rw [ev1]
  obtain ⟨ds, h3, rfl⟩ := omap h2
  cases d <;> simp only [seqD] at h3 <;> (try cases h3)
  · refine .inr ⟨A, m, env, [a], _, re, ev1', fun vs H1 n1 r1 a1 => ?_⟩
    cases a1 with
    | cons a1 z =>
      cases z
      obtain ⟨b, vs, rfl, g1, g2⟩ := (r1.vw a1 h1).tup
      exact ⟨b, vs, rfl, by rw [h.hK]; exact g1.sq, q _ H1 n1 r1 (it_enumT r1 h.hK a1 h1)⟩
  · refine .inl ⟨A, m, env, [a], _, re, ev1', fun vs H1 n1 r1 a1 => ?_⟩
    cases a1 with
    | cons a1 z =>
      cases z
      obtain ⟨b, vs, rfl, g1, g2⟩ := (r1.vw a1 h1).lst
      exact ⟨b, vs, rfl, by rw [h.hK]; exact g1, q _ H1 n1 r1 (it_enum r1 h.hK a1 h1)⟩
theorem rngD1 {d : D} {xs : List D} (h : rngD [d] = some xs) : ∃ n : Int, d = .int n ∧ (-(2 ^ 62) ≤ n ∧ n ≤ SZ) ∧ xs = (List.range n.toNat).map fun (i : Nat) => D.int i := by
  cases d <;> simp only [rngD] at h <;> (first | cases h; done | skip)
  obtain ⟨h1, h2⟩ := oi h
  cases h2
  exact ⟨_, rfl, h1, rfl⟩
theorem rngD2 {d e : D} {xs : List D} (h : rngD [d, e] = some xs) : ∃ a b : Int, d = .int a ∧ e = .int b ∧ (-(2 ^ 62) ≤ a ∧ a < 2 ^ 62 ∧ -(2 ^ 62) ≤ b ∧ b < 2 ^ 62 ∧ b - a ≤ SZ) ∧ xs = (List.range (b - a).toNat).map fun (i : Nat) => D.int (a + i) := by
  cases d <;> cases e <;> simp only [rngD] at h <;> (first | cases h; done | skip)
  obtain ⟨h1, h2⟩ := oi h
  cases h2
  exact ⟨_, _, rfl, rfl, h1, rfl⟩
theorem rngD3 {d e f : D} {xs : List D} (h : rngD [d, e, f] = some xs) : ∃ a b c : Int, d = .int a ∧ e = .int b ∧ f = .int c ∧ (c = -1 ∧ -(2 ^ 62) ≤ a ∧ a < 2 ^ 62 ∧ -(2 ^ 62) ≤ b ∧ b < 2 ^ 62 ∧ a - b ≤ SZ) ∧ xs = (List.range (a - b).toNat).map fun (i : Nat) => D.int (a - i) := by
  cases d <;> cases e <;> cases f <;> simp only [rngD] at h <;> (first | cases h; done | skip)
  obtain ⟨h1, h2⟩ := oi h
  cases h2
  exact ⟨_, _, _, rfl, rfl, rfl, h1, rfl⟩
/-- a range -/
theorem it_rng {A : Slots} {m : AdP} {g : Qx.A × D} {H1 : Hp} {lo : Int} {n : Nat} : ItOk S (Itr lo n) A m g H1 ((List.range n).map fun (i : Nat) => D.int (lo + i)) := by
  refine ⟨⟨fun _ => True, YFn fun i => .int (lo + i), by rw [List.length_map, List.length_range]; exact walk_range, fun A' m' env2 σ2 H2 l => ⟨trivial, fun i x H3 hi ⟨e1, e2⟩ => ?_⟩⟩⟩
  subst e1 e2
  rw [List.length_map, List.length_range] at hi
  exact ⟨.int (lo + i), by rw [List.getElem?_map, List.getElem?_range hi]; rfl, Ex.refl, Rep.of_int⟩
theorem it_rngC {A : Slots} {m : AdP} {g : Qx.A × D} {H1 : Hp} {lo : Int} {n : Nat} : ItOk S (Itc lo (-1) n) A m g H1 ((List.range n).map fun (i : Nat) => D.int (lo - i)) := by
  refine ⟨⟨fun _ => True, YFn fun i => .int (lo + (i : Nat) * -1), by rw [List.length_map, List.length_range]; exact walk_rangeC, fun A' m' env2 σ2 H2 l => ⟨trivial, fun i x H3 hi ⟨e1, e2⟩ => ?_⟩⟩⟩
  subst e1 e2
  rw [List.length_map, List.length_range] at hi
  refine ⟨.int (lo - i), by rw [List.getElem?_map, List.getElem?_range hi]; rfl, Ex.refl, ?_⟩
  show Rep S.G m' H3 (D.int (lo - i)) (V.int (lo + (i : Int) * -1))
  rw [show lo + (i : Int) * -1 = lo - i by omega]
  exact Rep.of_int
theorem ti_rng1 {a : Expr} {x : E} (sa : Snd S X a x) (st : isStar a = false) (gl : Gl X "range") (hm : X.mg "range" = none) : PI X tg (.Call (.Name "range" p) [a] [] pos) (tI S (.rng [x])) := by
  refine (pi_range1 gl hm (Snds.cons st sa .nil).vs (starEach_ok st)).imp fun σ H R ⟨A, m, env, xs, g, env', re, ev, q⟩ => ?_
  simp only [evIt] at ev
  obtain ⟨ds, e1, ev1, ev⟩ := oL ev
  obtain ⟨ys, h1, ev⟩ := o1L ev
  cases ev
  refine ⟨A, m, env, ds, _, re, ev1, fun vs H1 n1 r1 a1 => ?_⟩
  have ev1' := ev1
  simp only [evEs] at ev1'
  obtain ⟨d, e2, _, ev2⟩ := oD ev1'
  cases ev2
  obtain ⟨j, rfl, hb, rfl⟩ := rngD1 h1
  obtain ⟨v, vs', rfl, g1, g2⟩ := a1.inv
  have := g2.inv0
  subst this
  simp only [Rep] at g1
  subst g1
  refine ⟨j, rfl, hb.1, Int.lt_of_le_of_lt hb.2 (by decide), q _ H1 n1 r1 ?_⟩
  have := it_rng (S := S) (A := A) (m := m) (g := (.v .non, .non)) (H1 := H1) (lo := 0) (n := j.toNat)
  simpa only [Int.zero_add] using this
theorem ti_rng2 {a b : Expr} {x y : E} (sa : Snd S X a x) (sb : Snd S X b y) (st : isStar a = false) (st2 : isStar b = false) (gl : Gl X "range") (hm : X.mg "range" = none) : PI X tg (.Call (.Name "range" p) [a, b] [] pos) (tI S (.rng [x, y])) := by
  refine (pi_range2 gl hm (Snds.cons st sa (.cons st2 sb .nil)).vs (by rw [starEach_ok st, starEach_ok st2]; rfl) (by rw [starEach_ok st2]; rfl)).imp fun σ H R ⟨A, m, env, xs, g, env', re, ev, q⟩ => ?_
  simp only [evIt] at ev
  obtain ⟨ds, e1, ev1, ev⟩ := oL ev
  obtain ⟨ys, h1, ev⟩ := o1L ev
  cases ev
  refine ⟨A, m, env, ds, _, re, ev1, fun vs H1 n1 r1 a1 => ?_⟩
  have ev1' := ev1
  simp only [evEs] at ev1'
  obtain ⟨d, e2, _, ev2⟩ := oD ev1'
  obtain ⟨dl, e3, ev3, ev2⟩ := oL ev2
  cases ev2
  obtain ⟨d2, e4, _, ev4⟩ := oD ev3
  cases ev4
  obtain ⟨i, j, rfl, rfl, hb, rfl⟩ := rngD2 h1
  obtain ⟨v, vs', rfl, g1, g2⟩ := a1.inv
  obtain ⟨v2, vs2, rfl, g3, g4⟩ := g2.inv
  have := g4.inv0
  subst this
  simp only [Rep] at g1 g3
  subst g1 g3
  exact ⟨i, j, rfl, ⟨hb.1, hb.2.1, hb.2.2.1, hb.2.2.2.1⟩, q _ H1 n1 r1 it_rng⟩
theorem ti_rng3 {a b t : Expr} {x y z : E} (sa : Snd S X a x) (sb : Snd S X b y) (sc' : Snd S X t z) (st : isStar a = false) (st2 : isStar b = false) (st3 : isStar t = false) (gl : Gl X "range") (hm : X.mg "range" = none) : PI X tg (.Call (.Name "range" p) [a, b, t] [] pos) (tI S (.rng [x, y, z])) := by
  refine (pi_range3 gl hm (Snds.cons st sa (.cons st2 sb (.cons st3 sc' .nil))).vs (by rw [starEach_ok st]) (by rw [starEach_ok st2, starEach_ok st3]; rfl)).imp fun σ H R ⟨A, m, env, xs, g, env', re, ev, q⟩ => ?_
  simp only [evIt] at ev
  obtain ⟨ds, e1, ev1, ev⟩ := oL ev
  obtain ⟨ys, h1, ev⟩ := o1L ev
  cases ev
  refine ⟨A, m, env, ds, _, re, ev1, fun vs H1 n1 r1 a1 => ?_⟩
  have ev1' := ev1
  simp only [evEs] at ev1'
  obtain ⟨d, e2, _, ev2⟩ := oD ev1'
  obtain ⟨dl, e3, ev3, ev2⟩ := oL ev2
  cases ev2
  obtain ⟨d2, e4, _, ev4⟩ := oD ev3
  obtain ⟨dl2, e5, ev5, ev4⟩ := oL ev4
  cases ev4
  obtain ⟨d3, e6, _, ev6⟩ := oD ev5
  cases ev6
  obtain ⟨i, j, c, rfl, rfl, rfl, hb, rfl⟩ := rngD3 h1
  obtain ⟨v, vs', rfl, g1, g2⟩ := a1.inv
  obtain ⟨v2, vs2, rfl, g3, g4⟩ := g2.inv
  obtain ⟨v3, vs3, rfl, g5, g6⟩ := g4.inv
  have := g6.inv0
  subst this
  simp only [Rep] at g1 g3 g5
  subst g1 g3 g5
  obtain ⟨hc, b1, b2, b3, b4, b5⟩ := hb
  subst hc
  exact ⟨i, j, -1, _, rfl, RgC.neg b1 b2 b3 b4, q _ H1 n1 r1 it_rngC⟩
end
end Qx
set_option Elab.async false
set_option linter.all false
set_option maxRecDepth 100000
set_option maxHeartbeats 4000000
/-! QSnd9: comprehensions. -/
namespace Qx
open PySem PySem.Spec PyProof.Rows L2

/-! ### the block's frame -/
theorem relab_keep {P : Str × NameKind → Bool} : ∀ {names : List (Str × NameKind)} {x : Str} {k : NameKind}, k ≠ .free → (∀ n j, P (n, j) = true → j = .free) → names.lookup x = some k → (names.map fun (n, j) => if P (n, j) then (n, NameKind.cell) else (n, j)).lookup x = some k
  | [], x, k, hk, hP, h => by simp at h
  | (n, j) :: r, x, k, hk, hP, h => by
    rw [List.map_cons]
    by_cases c : P (n, j) = true
    · have e := hP n j c
      subst e
      rw [show (match ((n, NameKind.free) : Str × NameKind) with | (n, j) => if P (n, j) then (n, NameKind.cell) else (n, j)) = (n, NameKind.cell) from if_pos c]
      rw [List.lookup_cons] at h ⊢
      split
      · rename_i hx
        rw [hx] at h
        cases h
        exact (hk rfl).elim
      · rename_i hx
        rw [hx] at h
        exact relab_keep hk hP h
    · rw [show (match ((n, j) : Str × NameKind) with | (n, j) => if P (n, j) then (n, NameKind.cell) else (n, j)) = (n, j) from if_neg c]
      rw [List.lookup_cons] at h ⊢
      split
      · rename_i hx
        rw [hx] at h
        exact h
      · rename_i hx
        rw [hx] at h
        exact relab_keep hk hP h
theorem relab_free {P : Str × NameKind → Bool} : ∀ {names : List (Str × NameKind)} {x : Str}, names.lookup x = some .free → (names.map fun (n, j) => if P (n, j) then (n, NameKind.cell) else (n, j)).lookup x = some .cell ∨ (names.map fun (n, j) => if P (n, j) then (n, NameKind.cell) else (n, j)).lookup x = some .free
  | [], x, h => by simp at h
  | (n, j) :: r, x, h => by
    rw [List.map_cons]
    by_cases c : P (n, j) = true
    · rw [show (match ((n, j) : Str × NameKind) with | (n, j) => if P (n, j) then (n, NameKind.cell) else (n, j)) = (n, NameKind.cell) from if_pos c]
      rw [List.lookup_cons] at h ⊢
      cases hx : x == n with
      | true => exact .inl rfl
      | false =>
        rw [hx] at h
        exact relab_free h
    · rw [show (match ((n, j) : Str × NameKind) with | (n, j) => if P (n, j) then (n, NameKind.cell) else (n, j)) = (n, j) from if_neg c]
      rw [List.lookup_cons] at h ⊢
      cases hx : x == n with
      | true =>
        rw [hx] at h
        cases h
        exact .inr rfl
      | false =>
        rw [hx] at h
        exact relab_free h
section
variable {S : Sx} {k : Nat} {sc scope : Scope} {X : Cx} {own : List (Str × Nat)}
theorem Ct.blkOk (h : Ct S k sc X) (b : blkC S.C.N sc scope own = true) : BlkOk X.N X.env.scope scope own := by
  have o := blkOk_by b
  refine ⟨o.kind, o.uniq, by rw [h.N]; exact o.ix, fun y hy hf => ?_, by rw [h.N]; exact o.own⟩
  rcases o.free y hy hf with z | z
  · exact .inl (h.cell _ z).1
  · exact h.free _ z
theorem Ct.blk (h : Ct S k sc X) (hk : scope.kind = .function) (s : Shared) (H : Hp) (C : Addr) (cl : List (Str × Addr)) (fp : List Addr) : Ct S k scope (X.blk s H scope (compEnvC scope cl C X.env) fp) where
  N := h.N
  nd := h.nd
  calm := h.calm
  room := h.room
  hK := h.hK
  xe := rfl
  kind := hk
  loc := fun x e => relab_keep (P := fun y => (y.2 == .free && X.env.scope.kind == .function && X.env.kindOf y.1 == some .cell)) (by decide) (fun n j z => by
    simp only [Bool.and_eq_true] at z
    exact eq_of_beq z.1.1) e
  cell := fun x e => ⟨relab_keep (P := fun y => (y.2 == .free && X.env.scope.kind == .function && X.env.kindOf y.1 == some .cell)) (by decide) (fun n j z => by
    simp only [Bool.and_eq_true] at z
    exact eq_of_beq z.1.1) e, by
      show (scope.names.lookup x == some .cell) = true
      rw [e]; rfl⟩
  free := fun x e => relab_free (P := fun y => (y.2 == .free && X.env.scope.kind == .function && X.env.kindOf y.1 == some .cell)) e
  gl := fun x e => relab_keep (P := fun y => (y.2 == .free && X.env.scope.kind == .function && X.env.kindOf y.1 == some .cell)) (by decide) (fun n j z => by
    simp only [Bool.and_eq_true] at z
    exact eq_of_beq z.1.1) e
  prg := h.prg
end

/-! ### slots wiped, put back -/
theorem wipeE_len (env : En) : ∀ vs : List Nat, (wipeE env vs).length = env.length
  | [] => rfl
  | v :: vs => by simp only [wipeE]; rw [List.length_set, wipeE_len env vs]
theorem wipeE_out {env : En} {i : Nat} : ∀ {vs : List Nat}, i ∉ vs → (wipeE env vs)[i]? = env[i]?
  | [], _ => rfl
  | v :: vs, h => by
    simp only [wipeE]
    rw [List.getElem?_set_ne (fun z => h (by rw [z]; exact List.mem_cons_self)), wipeE_out fun z => h (List.mem_cons_of_mem _ z)]
theorem wipeE_in {env : En} {i : Nat} {s : Sl} : ∀ {vs : List Nat}, i ∈ vs → (wipeE env vs)[i]? = some s → s = .no
  | [], h, _ => by cases h
  | v :: vs, h, e => by
    simp only [wipeE] at e
    by_cases c : v = i
    · subst c
      have li : v < (wipeE env vs).length := by
        have := (List.getElem?_eq_some_iff.mp e).1
        rwa [List.length_set] at this
      rw [List.getElem?_set_self li] at e
      exact (Option.some.inj e).symm
    · rw [List.getElem?_set_ne c] at e
      rcases List.mem_cons.mp h with z | z
      · exact (c z.symm).elim
      · exact wipeE_in z e
theorem backE_len (a b : En) : ∀ vs : List Nat, (backE a b vs).length = b.length
  | [] => rfl
  | v :: vs => by simp only [backE]; rw [List.length_set, backE_len a b vs]
theorem backE_out {a b : En} {i : Nat} : ∀ {vs : List Nat}, i ∉ vs → (backE a b vs)[i]? = b[i]?
  | [], _ => rfl
  | v :: vs, h => by
    simp only [backE]
    rw [List.getElem?_set_ne (fun z => h (by rw [z]; exact List.mem_cons_self)), backE_out fun z => h (List.mem_cons_of_mem _ z)]
theorem backE_in {a b : En} {i : Nat} {s : Sl} : ∀ {vs : List Nat}, i ∈ vs → (backE a b vs)[i]? = some s → s = a.getD i .no
  | [], h, _ => by cases h
  | v :: vs, h, e => by
    simp only [backE] at e
    by_cases c : v = i
    · subst c
      have li : v < (backE a b vs).length := by
        have := (List.getElem?_eq_some_iff.mp e).1
        rwa [List.length_set] at this
      rw [List.getElem?_set_self li] at e
      exact (Option.some.inj e).symm
    · rw [List.getElem?_set_ne c] at e
      rcases List.mem_cons.mp h with z | z
      · exact (c z.symm).elim
      · exact backE_in z e
theorem wipe_in {σ : L2.St} {i : Nat} : ∀ {vs : List Nat}, i ∈ vs → i < σ.length → (wipe σ vs)[i]? = some none
  | [], h, _ => by cases h
  | v :: vs, h, l => by
    show ((wipe σ vs).set v none)[i]? = some none
    by_cases c : v = i
    · subst c
      rw [List.getElem?_set_self (by rw [wipe_length]; exact l)]
    · rw [List.getElem?_set_ne c]
      rcases List.mem_cons.mp h with z | z
      · exact (c z.symm).elim
      · exact wipe_in z l
theorem wipe_eq {σ τ : L2.St} {vs : List Nat} (l : τ.length = σ.length) (h : ∀ i, i ∉ vs → τ[i]? = σ[i]?) : wipe τ vs = wipe σ vs := by
  apply List.ext_getElem?
  intro i
  by_cases c : i ∈ vs
  · by_cases lt : i < σ.length
    · rw [wipe_in c lt, wipe_in c (by rw [l]; exact lt)]
    · rw [List.getElem?_eq_none (by rw [wipe_length, l]; omega), List.getElem?_eq_none (by rw [wipe_length]; omega)]
  · rw [wipe_out c, wipe_out c, h i c]
theorem wipe_wipe {σ : L2.St} {vs : List Nat} : wipe (wipe σ vs) vs = wipe σ vs := wipe_eq (wipe_length _ _) fun i hi => wipe_out hi
section
variable {G : Gd} {A : Slots} {m m' : AdP} {env e1 : En} {σ : L2.St} {H H1 : Hp} {vs : List Nat}
theorem RE.wipe (r : RE G A m env σ H) : RE G A m (wipeE env vs) (L2.wipe σ vs) H := by
  refine ⟨by rw [wipeE_len, wipe_length]; exact r.len, fun i d e => ?_, fun i d e => ?_, r.inj, r.mem, r.live⟩
  · by_cases c : i ∈ vs
    · have := wipeE_in c e; cases this
    · rw [wipeE_out c] at e
      rw [wipe_out c]
      exact r.val i d e
  · by_cases c : i ∈ vs
    · have := wipeE_in c e; cases this
    · rw [wipeE_out c] at e
      rw [wipe_out c]
      exact r.own i d e
theorem noO_some (h : noO env vs = true) {i : Nat} (hi : i ∈ vs) : isO env i = false ∧ i < env.length := by
  have := List.all_eq_true.mp h i hi
  simp only [Bool.and_eq_true, Bool.not_eq_true', decide_eq_true_eq] at this
  exact this
theorem RE.back (r : RE G A m' (wipeE env vs) (L2.wipe σ vs) H) (r1 : RE G A m e1 σ H1) (kp : Kp m m' H1 H) (no : noO e1 vs = true) : RE G A m' (backE e1 env vs) σ H := by
  have len : env.length = σ.length := by
    have := r.len
    rwa [wipeE_len, wipe_length] at this
  refine ⟨by rw [backE_len]; exact len, fun i d e => ?_, fun i d e => ?_, r.inj, r.mem, r.live⟩
  · by_cases c : i ∈ vs
    · have := backE_in c e
      obtain ⟨h1, h2⟩ := noO_some no c
      have e3 : e1[i]? = some (.val d) := by
        rw [List.getD_eq_getElem?_getD, List.getElem?_eq_getElem h2] at this
        rw [List.getElem?_eq_getElem h2, this]
        rfl
      obtain ⟨v, g1, g2⟩ := r1.val i d e3
      exact ⟨v, g1, g2.mono kp⟩
    · rw [backE_out c] at e
      obtain ⟨v, g1, g2⟩ := r.val i d (by rw [wipeE_out c]; exact e)
      rw [wipe_out c] at g1
      exact ⟨v, g1, g2⟩
  · by_cases c : i ∈ vs
    · have := backE_in c e
      obtain ⟨h1, h2⟩ := noO_some no c
      have e3 : e1[i]? = some (.own d) := by
        rw [List.getD_eq_getElem?_getD, List.getElem?_eq_getElem h2] at this
        rw [List.getElem?_eq_getElem h2, this]
        rfl
      unfold isO at h1
      rw [e3] at h1
      cases h1
    · rw [backE_out c] at e
      obtain ⟨a, g1, g2, g3⟩ := r.own i d (by rw [wipeE_out c]; exact e)
      rw [wipe_out c] at g2
      exact ⟨a, g1, g2, g3⟩
theorem Nx.upd1 {D : Addr} {o : HO} {H0 : Hp} (n : Nx A H0 H) (hD : H0 D = none) : Nx A H0 (L2.upd H D o) :=
  ⟨fun a u e z => by rw [upd_ne (ne_of_none e hD)]; exact n.keep a u e z, fun a e => by
    by_cases c : a = D
    · rw [c, upd_same]; exact fun z => nomatch z
    · rw [upd_ne c]; exact n.live a e⟩
end
theorem compL_gd {t : TN} {vs : List Nat} {g : En → Bool} {c x : En → Option (D × En)} {xs : List D} {env : En} {r : List D × En} (h : compL t vs g c x xs env = some r) : g (wipeE env vs) = true := by
  cases xs <;> simp only [compL] at h <;> exact (oi h).1
section
variable {S : Sx} {k : Nat} {sc scope : Scope} {X : Cx}
/-- one comprehension, in plain data, as the library reads it -/
theorem comp_key {x c : E} {t : TN} {it : Qx.It} (σ : L2.St) (H : Hp) (Q : VK) (w : tV S (.comp x (namesT t) t it c) σ H Q) : tLc (tI S it) (tG S t) (tT S c) (tV S x) (namesT t) σ H Q := by
  obtain ⟨A, m, env, d, env', re, ev, q⟩ := w
  simp only [evE] at ev
  obtain ⟨xs, g, e1, ev1, ev⟩ := oI ev
  obtain ⟨no, ev⟩ := oi ev
  obtain ⟨ds, e2, ev2, ev⟩ := oL ev
  obtain ⟨hz, ev⟩ := oi ev
  cases ev
  refine ⟨A, m, env, xs, g, e1, re, ev1, fun J H1 n1 r1 iok => fun D hD => ?_⟩
  obtain ⟨W, Y, wk, later⟩ := iok.ok
  have nmD : ¬ m D := fun z => r1.live D z hD
  have nA : ∀ i, A i ≠ some D := fun i z => nmD (r1.mem i D z)
  let vs := namesT t
  let Pv : Nat → Hp → Prop := fun i H' => ∃ e don rest acc, compL t vs (gd g.1 g.2) (evE S.Φ S.R c) (evE S.Φ S.R x) (xs.drop i) e = some (rest, e2) ∧ don ++ rest = ds ∧ RE S.G A (ad m D) (wipeE e vs) (wipe σ vs) H' ∧
    H' D = some (.lst acc) ∧ Reps S.G (ad m D) H' don acc ∧ Nx A H1 H'
  have kpOf : ∀ {H' : Hp}, Nx A H1 H' → Kp m (ad m D) H1 H' := fun n => ⟨fun a o e z => n.keep a o e fun i y => z (r1.mem i a y), fun a z => z.elim (fun z => .inr (z ▸ hD)) .inl⟩
  have lat : ∀ {i : Nat} {H' : Hp} {e : En} {rest : List Qx.D}, compL t vs (gd g.1 g.2) (evE S.Φ S.R c) (evE S.Φ S.R x) (xs.drop i) e = some (rest, e2) → RE S.G A (ad m D) (wipeE e vs) (wipe σ vs) H' → Nx A H1 H' → Later S A m g H1 A (ad m D) (wipeE e vs) (wipe σ vs) H' := fun hc r n => ⟨r, kpOf n, fun _ _ => rfl, compL_gd hc⟩
  refine lc_it wk Pv ?_ ?_ ?_ ?_
  · refine ⟨e1, [], ds, [], ?_, rfl, (r1.add hD).wipe, upd_same, .nil, Nx.laid hD⟩
    rw [List.drop_zero]; exact ev2
  · rintro i H' _ ⟨e, don, rest, acc, hc, _, r, _, _, n⟩
    exact (later _ _ _ _ _ (lat hc r n)).1
  · rintro i v H' H'' hi ⟨e, don, rest, acc, hc, hds, r, hacc, rd, n⟩ hY
    obtain ⟨dx, hx, ex, rx⟩ := (later _ _ _ _ _ (lat hc r n)).2 i v H'' hi hY
    rw [List.drop_eq_getElem_cons hi] at hc
    have hdx : xs[i] = dx := by
      rw [List.getElem?_eq_getElem hi] at hx
      exact Option.some.inj hx
    rw [hdx] at hc
    simp only [compL] at hc
    obtain ⟨_, hc⟩ := oi hc
    obtain ⟨e3, hp, hc⟩ := o1N hc
    refine ⟨A, ad m D, wipeE e vs, dx, e3, r.ex ex, rx, hp, fun σ2 r2 l2 o2 => ⟨?_, ?_⟩⟩
    · rw [wipe_eq l2 o2, wipe_wipe]
    · have weq : wipe σ2 vs = wipe σ vs := by rw [wipe_eq l2 o2, wipe_wipe]
      rcases ob hc with ⟨e4, hb, hc⟩ | ⟨e4, hb, hc⟩
      · obtain ⟨dy, e5, hy, hc⟩ := oD hc
        obtain ⟨rest', e6, hr, hc⟩ := oL hc
        cases hc
        refine ⟨A, ad m D, e3, true, e4, r2, hb, fun H3 n3 r3 => iteT ?_⟩
        refine ⟨A, ad m D, e4, dy, e5, r3, hy, fun y H4 p4 => ⟨acc, ?_, ?_, ?_⟩⟩
        · exact p4.nx.keep D _ (n3.keep D _ (ex D _ hacc) nA) nA
        · rw [← rd.length]
          have := congrArg List.length hds
          rw [List.length_append, List.length_cons] at this
          rw [← sz_eq]
          omega
        · have nx4 : Nx A H1 H4 := n.trans (ex.nx.trans (n3.trans p4.nx))
          refine ⟨e5, don ++ [dy], rest', acc ++ [y], hr, by simpa using hds, ?_, upd_same, ?_, nx4.upd1 hD⟩
          · rw [← weq]
            exact (p4.re.chg (.inl rfl) nA).wipe
          · refine Reps.append ?_ (.cons (p4.rep.mono (Kp.chg (.inl rfl))) .nil)
            have k1 : Kp (ad m D) (ad m D) H' H4 := r.kp (ex.nx.trans (n3.trans p4.nx))
            exact (rd.mono k1).mono (Kp.chg (.inl rfl))
      · refine ⟨A, ad m D, e3, false, e4, r2, hb, fun H3 n3 r3 => iteF ?_⟩
        refine ⟨e4, don, rest, acc, hc, hds, ?_, n3.keep D _ (ex D _ hacc) nA, ?_, n.trans (ex.nx.trans n3)⟩
        · rw [← weq]
          exact r3.wipe
        · exact rd.mono (r.kp (ex.nx.trans n3))
  · rintro H' ⟨e, don, rest, acc, hc, hds, r, hacc, rd, n⟩
    rw [List.drop_length] at hc
    simp only [compL] at hc
    obtain ⟨_, hc⟩ := oi hc
    cases hc
    rw [List.append_nil] at hds
    subst hds
    have rb := r.back r1 (kpOf n) no
    have ho : OwnAt S.G (ad m D) H' D (.lst don) := ⟨acc, hacc, rd⟩
    exact q _ H' ⟨n1.trans n, rb.wk (fun a z => .inr z) r1.mem, (ho.weak fun a z => .inr z).rep nmD, fun _ _ => ⟨D, rfl, n1.free hD, rb, ho⟩⟩
end
end Qx
set_option Elab.async false
set_option linter.all false
set_option maxRecDepth 100000
set_option maxHeartbeats 4000000
/-! QSndA: comprehensions with two loops; the nodes. -/
namespace Qx
open PySem PySem.Spec PyProof.Rows L2

theorem compB_gd {t : TN} {vs : List Nat} {g : En → Bool} {c : En → Option (D × En)} {x : En → Option (List D × En)} {xs : List D} {env : En} {r : List D × En} (h : compB t vs g c x xs env = some r) : g (wipeE env vs) = true := by
  cases xs <;> simp only [compB] at h <;> exact (oi h).1
theorem wipeE_sub {env : En} {vs ws : List Nat} (h : ∀ i ∈ ws, i ∈ vs) : wipeE (wipeE env ws) vs = wipeE env vs := by
  have inn : ∀ {e : En} {i : Nat} {us : List Nat}, i ∈ us → i < e.length → (wipeE e us)[i]? = some .no := by
    intro e i us
    induction us with
    | nil => intro h _; cases h
    | cons u us ih =>
      intro hi hl
      simp only [wipeE]
      by_cases c : u = i
      · subst c
        rw [List.getElem?_set_self (by rw [wipeE_len]; exact hl)]
      · rw [List.getElem?_set_ne c]
        rcases List.mem_cons.mp hi with z | z
        · exact (c z.symm).elim
        · exact ih z hl
  apply List.ext_getElem?
  intro i
  by_cases c : i ∈ vs
  · by_cases lt : i < env.length
    · rw [inn c (by rw [wipeE_len]; exact lt), inn c lt]
    · rw [List.getElem?_eq_none (by rw [wipeE_len, wipeE_len]; omega), List.getElem?_eq_none (by rw [wipeE_len]; omega)]
  · rw [wipeE_out c, wipeE_out c, wipeE_out fun z => c (h i z)]
theorem wipe_sub {σ : L2.St} {vs ws : List Nat} (h : ∀ i ∈ ws, i ∈ vs) : wipe (wipe σ ws) vs = wipe σ vs :=
  wipe_eq (wipe_length _ _) fun i hi => wipe_out fun z => hi (h i z)
section
variable {S : Sx} {k : Nat} {sc scope : Scope} {X : Cx}
theorem comp2_key {x c c2 : E} {t t2 : TN} {it it2 : Qx.It} (σ : L2.St) (H : Hp) (Q : VK) (w : tV S (.comp2 x (namesT t ++ namesT t2) t it c (namesT t2) t2 it2 c2) σ H Q) :
    tLc2 (tI S it) (tG S t) (tT S c) (tI S it2) (tG S t2) (tT S c2) (tV S x) (namesT t ++ namesT t2) (namesT t2) σ H Q := by
  obtain ⟨A, m, env, d, env', re, ev, q⟩ := w
  simp only [evE] at ev
  obtain ⟨xs, g, e1, ev1, ev⟩ := oI ev
  obtain ⟨no, ev⟩ := oi ev
  obtain ⟨ds, e2, ev2, ev⟩ := oL ev
  obtain ⟨hz, ev⟩ := oi ev
  cases ev
  refine ⟨A, m, env, xs, g, e1, re, ev1, fun J H1 n1 r1 iok => fun D hD => ?_⟩
  obtain ⟨W, Y, wk, later⟩ := iok.ok
  have nmD : ¬ m D := fun z => r1.live D z hD
  have nA : ∀ i, A i ≠ some D := fun i z => nmD (r1.mem i D z)
  generalize hvs : namesT t ++ namesT t2 = vs at *
  have sub1 : ∀ i ∈ namesT t, i ∈ vs := fun i hi => by rw [← hvs]; exact List.mem_append_left _ hi
  have sub2 : ∀ i ∈ namesT t2, i ∈ vs := fun i hi => by rw [← hvs]; exact List.mem_append_right _ hi
  let inr : En → Option (List Qx.D × En) := fun e => match evIt S.Φ S.R it2 e with
    | some (ys, g2, e') => compL t2 (namesT t2) (gd g2.1 g2.2) (evE S.Φ S.R c2) (evE S.Φ S.R x) ys e'
    | none => none
  let Pv : Nat → Hp → Prop := fun i H' => ∃ e don rest acc, compB t vs (gd g.1 g.2) (evE S.Φ S.R c) inr (xs.drop i) e = some (rest, e2) ∧ don ++ rest = ds ∧ RE S.G A (ad m D) (wipeE e vs) (wipe σ vs) H' ∧
    H' D = some (.lst acc) ∧ Reps S.G (ad m D) H' don acc ∧ Nx A H1 H'
  have kpOf : ∀ {H' : Hp}, Nx A H1 H' → Kp m (ad m D) H1 H' := fun n => ⟨fun a o e z => n.keep a o e fun i y => z (r1.mem i a y), fun a z => z.elim (fun z => .inr (z ▸ hD)) .inl⟩
  have lat : ∀ {i : Nat} {H' : Hp} {e : En} {rest : List Qx.D}, compB t vs (gd g.1 g.2) (evE S.Φ S.R c) inr (xs.drop i) e = some (rest, e2) → RE S.G A (ad m D) (wipeE e vs) (wipe σ vs) H' → Nx A H1 H' → Later S A m g H1 A (ad m D) (wipeE e vs) (wipe σ vs) H' := fun hc r n => ⟨r, kpOf n, fun _ _ => rfl, compB_gd hc⟩
  refine ⟨fun i k H' => k = xs.length - i ∧ i ≤ xs.length ∧ Pv i H', ⟨xs.length, by simp, Nat.zero_le _, ?_⟩, ?_⟩
  · refine ⟨e1, [], ds, [], ?_, rfl, (r1.add hD).wipe, upd_same, .nil, Nx.laid hD⟩
    rw [List.drop_zero]; exact ev2
  rintro i kk H' ⟨rfl, hi, pv⟩
  have gW : W H' := by
    obtain ⟨e, don, rest, acc, hc, _, r, _, _, n⟩ := pv
    exact (later _ _ _ _ _ (lat hc r n)).1
  by_cases hlt : i < xs.length
  · refine .inr ⟨wk.goes i H' hlt gW, Pv (i + 1), fun H3 p3 => ⟨xs.length - (i + 1), by omega, rfl, hlt, p3⟩, fun v H'' hy => ?_⟩
    have hY := wk.yields i H' v H'' hlt gW hy
    obtain ⟨e, don, rest, acc, hc, hds, r, hacc, rd, n⟩ := pv
    obtain ⟨dx, hx, ex, rx⟩ := (later _ _ _ _ _ (lat hc r n)).2 i v H'' hlt hY
    rw [List.drop_eq_getElem_cons hlt] at hc
    have hdx : xs[i] = dx := by
      rw [List.getElem?_eq_getElem hlt] at hx
      exact Option.some.inj hx
    rw [hdx] at hc
    simp only [compB] at hc
    obtain ⟨_, hc⟩ := oi hc
    obtain ⟨e3, hp, hc⟩ := o1N hc
    refine ⟨A, ad m D, wipeE e vs, dx, e3, r.ex ex, rx, hp, fun σ2 r2 l2 o2 => ?_⟩
    have weq : wipe σ2 vs = wipe σ vs := by rw [wipe_eq l2 fun i hi => o2 i fun z => hi (sub1 i z), wipe_wipe]
    refine ⟨weq, ?_⟩
    rcases ob hc with ⟨e4, hb, hc⟩ | ⟨e4, hb, hc⟩
    · obtain ⟨dy, e5, hy', hc⟩ := oL hc
      obtain ⟨rest', e6, hr, hc⟩ := oL hc
      cases hc
      refine ⟨A, ad m D, e3, true, e4, r2, hb, fun H3 n3 r3 => iteT ?_⟩
      obtain ⟨ys, g2, e7, hi2, hin⟩ := oI hy'
      refine ⟨A, ad m D, e4, ys, g2, e7, r3, hi2, fun J1 H4 n4 r4 iok1 => ?_⟩
      obtain ⟨W1, Y1, wk1, later1⟩ := iok1.ok
      have nA4 : Nx A H1 H4 := n.trans (ex.nx.trans (n3.trans n4))
      let Pw : Nat → Hp → Prop := fun j H5 => ∃ e don1 rest1 acc, compL t2 (namesT t2) (gd g2.1 g2.2) (evE S.Φ S.R c2) (evE S.Φ S.R x) (ys.drop j) e = some (rest1, e5) ∧ don1 ++ rest1 = dy ∧ RE S.G A (ad m D) (wipeE e (namesT t2)) (wipe σ2 (namesT t2)) H5 ∧
        H5 D = some (.lst acc) ∧ Reps S.G (ad m D) H5 (don ++ don1) acc ∧ Nx A H1 H5 ∧ (∀ a o, H4 a = some o → a ≠ D → (∀ i, A i ≠ some a) → H5 a = some o)
      have lat1 : ∀ {j : Nat} {H5 : Hp} {e : En} {rest1 : List Qx.D}, compL t2 (namesT t2) (gd g2.1 g2.2) (evE S.Φ S.R c2) (evE S.Φ S.R x) (ys.drop j) e = some (rest1, e5) → RE S.G A (ad m D) (wipeE e (namesT t2)) (wipe σ2 (namesT t2)) H5 → (∀ a o, H4 a = some o → a ≠ D → (∀ i, A i ≠ some a) → H5 a = some o) →
          Later S A (ad m D) g2 H4 A (ad m D) (wipeE e (namesT t2)) (wipe σ2 (namesT t2)) H5 := fun hc r kd => ⟨r, ⟨fun a o e z => kd a o e (fun y => z (.inl y)) fun i y => z (r4.mem i a y), fun a z => .inl z⟩, fun _ _ => rfl, compL_gd hc⟩
      refine ⟨fun j k5 H5 => k5 = ys.length - j ∧ j ≤ ys.length ∧ Pw j H5, ⟨ys.length, by simp, Nat.zero_le _, ?_⟩, ?_⟩
      · refine ⟨e7, [], dy, acc, ?_, rfl, r4.wipe, n4.keep D _ (n3.keep D _ (ex D _ hacc) nA) nA, ?_, nA4, fun a o e _ _ => e⟩
        · rw [List.drop_zero]; exact hin
        · rw [List.append_nil]
          exact rd.mono (r.kp (ex.nx.trans (n3.trans n4)))
      rintro j k5 H5 ⟨rfl, hj, pw⟩
      have gW1 : W1 H5 := by
        obtain ⟨e, don1, rest1, acc, hc, _, r, _, _, _, kd⟩ := pw
        exact (later1 _ _ _ _ _ (lat1 hc r kd)).1
      by_cases hlt1 : j < ys.length
      · refine .inr ⟨wk1.goes j H5 hlt1 gW1, Pw (j + 1), fun H6 p6 => ⟨ys.length - (j + 1), by omega, rfl, hlt1, p6⟩, fun v1 H6 hy1 => ?_⟩
        have hY1 := wk1.yields j H5 v1 H6 hlt1 gW1 hy1
        obtain ⟨f, don1, rest1, acc1, hc1, hdy, r5, hacc1, rd1, nn, kd⟩ := pw
        obtain ⟨dx1, hx1, ex1, rx1⟩ := (later1 _ _ _ _ _ (lat1 hc1 r5 kd)).2 j v1 H6 hlt1 hY1
        rw [List.drop_eq_getElem_cons hlt1] at hc1
        have hdx1 : ys[j] = dx1 := by
          rw [List.getElem?_eq_getElem hlt1] at hx1
          exact Option.some.inj hx1
        rw [hdx1] at hc1
        simp only [compL] at hc1
        obtain ⟨_, hc1⟩ := oi hc1
        obtain ⟨f3, hp1, hc1⟩ := o1N hc1
        refine ⟨A, ad m D, wipeE f (namesT t2), dx1, f3, r5.ex ex1, rx1, hp1, fun σ3 r6 l3 o3 => ?_⟩
        have weq1 : wipe σ3 (namesT t2) = wipe σ2 (namesT t2) := by rw [wipe_eq l3 o3, wipe_wipe]
        refine ⟨weq1, ?_⟩
        rcases ob hc1 with ⟨f4, hb1, hc1⟩ | ⟨f4, hb1, hc1⟩
        · obtain ⟨dz, f5, hz1, hc1⟩ := oD hc1
          obtain ⟨rest2, f6, hr1, hc1⟩ := oL hc1
          cases hc1
          refine ⟨A, ad m D, f3, true, f4, r6, hb1, fun H7 n7 r7 => iteT ?_⟩
          refine ⟨A, ad m D, f4, dz, f5, r7, hz1, fun y H8 p8 => ⟨acc1, ?_, ?_, ?_⟩⟩
          · exact p8.nx.keep D _ (n7.keep D _ (ex1 D _ hacc1) nA) nA
          · rw [← rd1.length]
            have g1 := congrArg List.length hds
            have g2 := congrArg List.length hdy
            rw [List.length_append, List.length_append] at g1
            rw [List.length_append, List.length_cons] at g2
            rw [List.length_append, ← sz_eq]
            omega
          · have nx8 : Nx A H5 H8 := ex1.nx.trans (n7.trans p8.nx)
            refine ⟨f5, don1 ++ [dz], rest2, acc1 ++ [y], hr1, by simpa using hdy, ?_, upd_same, ?_, (nn.trans nx8).upd1 hD, fun a o e1 e2 e3 => ?_⟩
            · rw [← weq1]
              exact (p8.re.chg (.inl rfl) nA).wipe
            · rw [← List.append_assoc]
              refine Reps.append ?_ (.cons (p8.rep.mono (Kp.chg (.inl rfl))) .nil)
              exact (rd1.mono (r5.kp nx8)).mono (Kp.chg (.inl rfl))
            · rw [upd_ne e2]
              exact nx8.keep a o (kd a o e1 e2 e3) e3
        · refine ⟨A, ad m D, f3, false, f4, r6, hb1, fun H7 n7 r7 => iteF ?_⟩
          have nx7 : Nx A H5 H7 := ex1.nx.trans n7
          refine ⟨f4, don1, rest1, acc1, hc1, hdy, ?_, n7.keep D _ (ex1 D _ hacc1) nA, rd1.mono (r5.kp nx7), nn.trans nx7, fun a o e1 e2 e3 => nx7.keep a o (kd a o e1 e2 e3) e3⟩
          rw [← weq1]
          exact r7.wipe
      · have ej : j = ys.length := by omega
        subst ej
        obtain ⟨f, don1, rest1, acc1, hc1, hdy, r5, hacc1, rd1, nn, kd⟩ := pw
        refine .inl ⟨wk1.stops H5 gW1, ?_⟩
        rw [List.drop_length] at hc1
        simp only [compL] at hc1
        obtain ⟨_, hc1⟩ := oi hc1
        cases hc1
        rw [List.append_nil] at hdy
        subst hdy
        refine ⟨_, don ++ don1, rest', acc1, hr, by simpa using hds, ?_, hacc1, rd1, nn⟩
        have rw5 := r5.wipe (vs := vs)
        rw [wipeE_sub sub2, wipe_sub sub2, weq] at rw5
        exact rw5
    · refine ⟨A, ad m D, e3, false, e4, r2, hb, fun H3 n3 r3 => iteF ?_⟩
      refine ⟨e4, don, rest, acc, hc, hds, ?_, n3.keep D _ (ex D _ hacc) nA, ?_, n.trans (ex.nx.trans n3)⟩
      · rw [← weq]
        exact r3.wipe
      · exact rd.mono (r.kp (ex.nx.trans n3))
  · have ei : i = xs.length := by omega
    subst ei
    refine .inl ⟨wk.stops H' gW, ?_⟩
    obtain ⟨e, don, rest, acc, hc, hds, r, hacc, rd, n⟩ := pv
    rw [List.drop_length] at hc
    simp only [compB] at hc
    obtain ⟨_, hc⟩ := oi hc
    cases hc
    rw [List.append_nil] at hds
    subst hds
    have rb := r.back r1 (kpOf n) no
    have ho : OwnAt S.G (ad m D) H' D (.lst don) := ⟨acc, hacc, rd⟩
    exact q _ H' ⟨n1.trans n, rb.wk (fun a z => .inr z) r1.mem, (ho.weak fun a z => .inr z).rep nmD, fun _ _ => ⟨D, rfl, n1.free hD, rb, ho⟩⟩
end
end Qx
set_option Elab.async false
set_option linter.all false
set_option maxRecDepth 100000
set_option maxHeartbeats 4000000
/-! QSndB: the compiled expression does what the text does. -/
namespace Qx
open PySem PySem.Spec PyProof.Rows L2

theorem names1_snd (N : List Str) (t : TN) : (names1 N t).map (·.2) = namesT t := by
  unfold names1
  rw [List.map_map]
  have : ((fun (x : Str × Nat) => x.2) ∘ fun i => (N.getD i "", i)) = id := rfl
  rw [this, List.map_id]
theorem blkC_kind {N : List Str} {sc scope : Scope} {own : List (Str × Nat)} (h : blkC N sc scope own = true) : scope.kind = .function := (blkOk_by h).kind
section
variable {S : Sx} {k : Nat} {sc scope : Scope} {X : Cx} {pos : Pos}
theorem nd_comp (h : Ct S k sc X) {elt tg iter : Expr} {ifs : List Expr} {t : TN} {it : Qx.It} {c x : E} (hb : blkC S.C.N sc scope (names1 S.C.N t) = true) (hi : PI X tg iter (tI S it))
    (inn : ∀ X', Ct S k scope X' → PG X' tg (tG S t) ∧ PTs X' ifs (tT S c) ∧ PE X' elt (tV S x)) (ok : okNode iter = true) : Snd S X (.ListComp elt [⟨tg, iter, ifs, 0⟩] scope pos) (.comp x (namesT t) t it c) := by
  have hk := blkC_kind hb
  have nd : X.N.Nodup := by rw [h.N]; exact h.nd
  have hp : PE X (.ListComp elt [⟨tg, iter, ifs, 0⟩] scope pos) (tV S (.comp x (namesT t) t it c)) :=
    (pe_lc h.calm nd hi (h.blkOk hb) (fun s H C cl fp => (inn _ (h.blk hk s H C cl fp)).1) (fun s H C cl fp => (inn _ (h.blk hk s H C cl fp)).2.1) (fun s H C cl fp => (inn _ (h.blk hk s H C cl fp)).2.2) (fun _ => fold_ok ok)).imp fun σ H Q w => by
      rw [names1_snd]
      exact comp_key σ H Q w
  refine ⟨hp, pa_of rfl hp, pt_of hp (by intro _; rfl), fun _ i y py spos hy hl hsw => ?_⟩
  refine (ps_setLc h.calm nd hy hl hsw hi (h.blkOk hb) (fun s H C cl fp => (inn _ (h.blk hk s H C cl fp)).1) (fun s H C cl fp => (inn _ (h.blk hk s H C cl fp)).2.1) (fun s H C cl fp => (inn _ (h.blk hk s H C cl fp)).2.2) (fun _ => fold_ok ok)).imp fun D σ H w => ?_
  rw [names1_snd]
  exact comp_key σ H _ w
theorem nd_comp2 (h : Ct S k sc X) {elt tg iter tg2 iter2 : Expr} {ifs ifs2 : List Expr} {t t2 : TN} {it it2 : Qx.It} {c c2 x : E} (hb : blkC S.C.N sc scope (names1 S.C.N t ++ names1 S.C.N t2) = true) (hi : PI X tg iter (tI S it))
    (inn : ∀ X', Ct S k scope X' → PG X' tg (tG S t) ∧ PTs X' ifs (tT S c) ∧ PI X' tg2 iter2 (tI S it2) ∧ PG X' tg2 (tG S t2) ∧ PTs X' ifs2 (tT S c2) ∧ PE X' elt (tV S x)) (ok : okNode iter = true) (ok2 : okNode iter2 = true) :
    Snd S X (.ListComp elt [⟨tg, iter, ifs, 0⟩, ⟨tg2, iter2, ifs2, 0⟩] scope pos) (.comp2 x (namesT t ++ namesT t2) t it c (namesT t2) t2 it2 c2) := by
  have hk := blkC_kind hb
  have nd : X.N.Nodup := by rw [h.N]; exact h.nd
  have ev : (names1 S.C.N t ++ names1 S.C.N t2).map (·.2) = namesT t ++ namesT t2 := by rw [List.map_append, names1_snd, names1_snd]
  have hv : ∀ i ∈ namesT t2, i ∈ (names1 S.C.N t ++ names1 S.C.N t2).map (·.2) := fun i hi => by rw [ev]; exact List.mem_append_right _ hi
  have hp : PE X (.ListComp elt [⟨tg, iter, ifs, 0⟩, ⟨tg2, iter2, ifs2, 0⟩] scope pos) (tV S (.comp2 x (namesT t ++ namesT t2) t it c (namesT t2) t2 it2 c2)) :=
    (pe_lc2 h.calm nd hi (h.blkOk hb) hv (fun s H C cl fp => (inn _ (h.blk hk s H C cl fp)).1) (fun s H C cl fp => (inn _ (h.blk hk s H C cl fp)).2.1) (fun s H C cl fp => (inn _ (h.blk hk s H C cl fp)).2.2.1)
      (fun s H C cl fp => (inn _ (h.blk hk s H C cl fp)).2.2.2.1) (fun s H C cl fp => (inn _ (h.blk hk s H C cl fp)).2.2.2.2.1) (fun s H C cl fp => (inn _ (h.blk hk s H C cl fp)).2.2.2.2.2) (fun _ => fold_ok ok) (fun _ _ => fold_ok ok2)).imp fun σ H Q w => by
      rw [ev]
      exact comp2_key σ H Q w
  refine ⟨hp, pa_of rfl hp, pt_of hp (by intro _; rfl), fun _ i y py spos hy hl hsw => ?_⟩
  refine (ps_setLc2 h.calm nd hy hl hsw hi (h.blkOk hb) hv (fun s H C cl fp => (inn _ (h.blk hk s H C cl fp)).1) (fun s H C cl fp => (inn _ (h.blk hk s H C cl fp)).2.1) (fun s H C cl fp => (inn _ (h.blk hk s H C cl fp)).2.2.1)
      (fun s H C cl fp => (inn _ (h.blk hk s H C cl fp)).2.2.2.1) (fun s H C cl fp => (inn _ (h.blk hk s H C cl fp)).2.2.2.2.1) (fun s H C cl fp => (inn _ (h.blk hk s H C cl fp)).2.2.2.2.2) (fun _ => fold_ok ok) (fun _ _ => fold_ok ok2)).imp fun D σ H w => ?_
  rw [ev]
  exact comp2_key σ H _ w

/-! ### tables -/
theorem cBop_eq {op : Operator} {o : Bop} (h : cBop op = some o) : op = opr o := by
  cases op <;> simp [cBop] at h <;> subst h <;> rfl
theorem cCop_eq (op : CmpOp) : op = cpr (cCop op) := by cases op <;> rfl
theorem okNm_some {x : Str} (h : okNm x = true) : (x == ("__debug__" : Str)) = false ∧ (x == ("__classdict__" : Str)) = false ∧ x ≠ "__name__" := by
  unfold okNm at h
  simp only [Bool.and_eq_true, Bool.not_eq_true'] at h
  exact ⟨h.1.1, h.1.2, fun z => by rw [z] at h; exact absurd h.2 (by decide)⟩
theorem cTyN_boot {x : Str} {t : Ty} (h : cTyN x = some t) : bootBuiltins x = some (.type (tyN t)) ∧ x ∈ bltNames := by
  unfold cTyN at h
  repeat (split at h; · (cases h; rename_i e; subst e; exact ⟨by decide +kernel, by decide⟩))
  cases h
/-- a built-in function or type with its rule -/
def BiOk (S : Sx) (X : Cx) (x : Str) (b : Bi) : Prop := x ∈ bltNames ∧
  ((∃ id, bootBuiltins x = some (.builtin id) ∧ ∃ r, CallR X (.builtin id) r ∧ TellsC S.G r (biD b)) ∨ ∃ id, bootBuiltins x = some (.type id) ∧ ∃ r, CallR X (.type id) r ∧ TellsC S.G r (biD b))
theorem cBi_ok (h : Ct S k sc X) {x : Str} {n : Nat} {b : Bi} (e : cBi x n = some b) : BiOk S X x b ∧ 0 < n := by
  unfold cBi at e
  split at e
  · refine ⟨?_, by decide⟩
    split at e
    · cases e; rename_i q; subst q
      exact ⟨by decide, .inl ⟨"len", by decide +kernel, b_len h.hK⟩⟩
    split at e
    · cases e; rename_i q; subst q
      exact ⟨by decide, .inl ⟨"abs", by decide +kernel, b_abs⟩⟩
    split at e
    · cases e; rename_i q; subst q
      exact ⟨by decide, .inr ⟨"int", by decide +kernel, b_int⟩⟩
    split at e
    · cases e; rename_i q; subst q
      exact ⟨by decide, .inr ⟨"tuple", by decide +kernel, b_tup h.hK⟩⟩
    split at e
    · cases e; rename_i q; subst q
      exact ⟨by decide, .inr ⟨"list", by decide +kernel, b_lst h.hK⟩⟩
    split at e
    · cases e; rename_i q; subst q
      exact ⟨by decide, .inl ⟨"sorted", by decide +kernel, b_sort h.hK⟩⟩
    split at e
    · cases e; rename_i q; subst q
      exact ⟨by decide, .inl ⟨"sum", by decide +kernel, b_sum h.hK h.calm⟩⟩
    split at e
    · cases e; rename_i q; subst q
      exact ⟨by decide, .inl ⟨"all", by decide +kernel, b_all h.hK h.calm⟩⟩
    split at e
    · cases e; rename_i q; subst q
      exact ⟨by decide, .inl ⟨"any", by decide +kernel, b_any h.hK h.calm⟩⟩
    split at e
    · cases e; rename_i q; subst q
      exact ⟨by decide, .inl ⟨"max", by decide +kernel, b_max h.hK h.calm⟩⟩
    split at e
    · cases e; rename_i q; subst q
      exact ⟨by decide, .inl ⟨"min", by decide +kernel, b_min h.hK h.calm⟩⟩
    cases e
  · refine ⟨?_, by decide⟩
    split at e
    · cases e; rename_i q; subst q
      exact ⟨by decide, .inl ⟨"max", by decide +kernel, b_max2 h.calm⟩⟩
    split at e
    · cases e; rename_i q; subst q
      exact ⟨by decide, .inl ⟨"min", by decide +kernel, b_min2 h.calm⟩⟩
    cases e
  · cases e
end
end Qx
set_option Elab.async false
set_option linter.all false
set_option maxRecDepth 100000
set_option maxHeartbeats 8000000
/-! QSndC: the compiled expression does what the text does (the induction). -/
namespace Qx
open PySem PySem.Spec PyProof.Rows L2

theorem cE_node {C : Cc} {n : Nat} {sc : Scope} {e : Expr} {c : E} (h : cE C n sc e = some c) : isStar e = false ∧ okNode e = true ∧ isSlc e = false := by
  cases n with
  | zero => simp [cE] at h
  | succ n => cases e <;> first | exact ⟨rfl, rfl, rfl⟩ | simp [cE] at h
theorem bind2 {α β : Type} {o : Option α} {f : α → Option β} {b : β} (h : o.bind f = some b) : ∃ a, o = some a ∧ f a = some b := Option.bind_eq_some_iff.mp h
structure AllOk (S : Sx) (k n : Nat) : Prop where
  e : ∀ sc X, Ct S k sc X → ∀ e c, cE S.C n sc e = some c → Snd S X e c
  es : ∀ sc X, Ct S k sc X → ∀ es cs, cEs S.C n sc es = some cs → Snds S X es cs
  ks : ∀ sc X, Ct S k sc X → ∀ ks vs cs, cKs S.C n sc ks vs = some cs → Prs S X ks vs cs
  kw : ∀ sc X, Ct S k sc X → ∀ ks cs, cKw S.C n sc ks = some cs → Kws S X ks cs
  o : ∀ sc X, Ct S k sc X → ∀ e c, cO S.C n sc e = some c → SndO S X e c
  f : ∀ sc X, Ct S k sc X → ∀ es c, cIf S.C n sc es = some c → PTs X es (tT S c)
  it : ∀ sc X, Ct S k sc X → ∀ t e i, cIt S.C n sc t e = some i → PI X t e (tI S i) ∧ okNode e = true
section
variable {S : Sx} {k n : Nat} {sc : Scope} {X : Cx}
theorem pts_imp {es : List Expr} {t t' : TT} (h : PTs X es t) (w : ∀ σ H Q, t' σ H Q → t σ H Q) : PTs X es t' := ⟨fun pins s σ H Q I z => h.run pins s σ H Q I (w σ H Q z)⟩
theorem st_es (ih : AllOk S k n) (h : Ct S k sc X) : ∀ es cs, cEs S.C (n + 1) sc es = some cs → Snds S X es cs := fun es cs c => by
  simp only [cEs] at c
  split at c
  · cases c; exact .nil
  · split at c
    · cases c
      rename_i x xs h1 h2
      exact .cons (cE_node h1).1 (ih.e sc X h _ _ h1) (ih.es sc X h _ _ h2)
    · cases c
theorem st_ks (ih : AllOk S k n) (h : Ct S k sc X) : ∀ ks vs cs, cKs S.C (n + 1) sc ks vs = some cs → Prs S X ks vs cs := fun ks vs cs c => by
  simp only [cKs] at c
  split at c
  · cases c; exact .nil
  · split at c
    · cases c
      rename_i h1 h2 h3
      exact .cons (ih.e sc X h _ _ h1) (ih.e sc X h _ _ h2) (ih.ks sc X h _ _ _ h3)
    · cases c
  · cases c
theorem st_kw (ih : AllOk S k n) (h : Ct S k sc X) : ∀ ks cs, cKw S.C (n + 1) sc ks = some cs → Kws S X ks cs := fun ks cs c => by
  simp only [cKw] at c
  split at c
  · cases c; exact .nil
  · split at c
    · cases c
      rename_i h1 h2
      exact .cons (ih.e sc X h _ _ h1) (ih.kw sc X h _ _ h2)
    · cases c
  · cases c
theorem st_o (ih : AllOk S k n) (h : Ct S k sc X) : ∀ e c, cO S.C (n + 1) sc e = some c → SndO S X e c := fun e c q => by
  cases e with
  | none => simp only [cO] at q; cases q; exact so_none
  | some e => simp only [cO] at q; exact so_some (ih.e sc X h _ _ q)
theorem st_f (ih : AllOk S k n) (h : Ct S k sc X) : ∀ es c, cIf S.C (n + 1) sc es = some c → PTs X es (tT S c) := fun es c q => by
  cases es with
  | nil =>
    simp only [cIf] at q
    cases q
    refine pts_imp pts_nil fun σ H Q ⟨A, m, env, b, env', re, ev, q⟩ => ?_
    have ev := asB_some ev
    simp only [evE] at ev
    cases ev
    exact q H .refl re
  | cons e r =>
    cases r with
    | nil => simp only [cIf] at q; exact pts_one (ih.e sc X h _ _ q).pt
    | cons => simp [cIf] at q
theorem isBl_some {C : Cc} {x : Str} (h : isBl C sc x = true) : isGl sc x = true ∧ C.G.lookup x = none := by
  unfold isBl at h
  rw [Bool.and_eq_true, Option.isNone_iff_eq_none] at h
  exact h
theorem itKind_1 {C : Cc} {e : Expr} (h : itKind C sc e = 1) : ∃ p args pos, e = .Call (.Name "range" p) args [] pos ∧ isGl sc "range" = true ∧ C.G.lookup ("range" : Str) = none := by
  unfold itKind at h
  split at h
  · rename_i f p args pos
    by_cases hb : isBl C sc f = true
    · rw [if_pos hb] at h
      by_cases h1 : f = "range"
      · subst h1
        exact ⟨_, _, _, rfl, isBl_some hb⟩
      · rw [if_neg h1] at h
        by_cases h2 : f = "enumerate"
        · rw [if_pos h2] at h; cases h
        · rw [if_neg h2] at h; cases h
    · rw [if_neg hb] at h; cases h
  · cases h
theorem itKind_2 {C : Cc} {e : Expr} (h : itKind C sc e = 2) : ∃ p args pos, e = .Call (.Name "enumerate" p) args [] pos ∧ isGl sc "enumerate" = true ∧ C.G.lookup ("enumerate" : Str) = none := by
  unfold itKind at h
  split at h
  · rename_i f p args pos
    by_cases hb : isBl C sc f = true
    · rw [if_pos hb] at h
      by_cases h1 : f = "range"
      · rw [if_pos h1] at h; cases h
      · rw [if_neg h1] at h
        by_cases h2 : f = "enumerate"
        · subst h2
          exact ⟨_, _, _, rfl, isBl_some hb⟩
        · rw [if_neg h2] at h; cases h
    · rw [if_neg hb] at h; cases h
  · cases h
theorem st_it (ih : AllOk S k n) (h : Ct S k sc X) : ∀ t e i, cIt S.C (n + 1) sc t e = some i → PI X t e (tI S i) ∧ okNode e = true := fun t e i c => by
  simp only [cIt] at c
  split at c
  · rename_i hk
    obtain ⟨p, args, pos, rfl, g1, g2⟩ := itKind_1 hk
    have hm := h.prg.blt "range" (by decide) g2
    have hg := h.glo g1
    simp only [itArgs] at c
    refine ⟨?_, rfl⟩
    split at c
    · obtain ⟨x, h1, rfl⟩ := omap c
      exact ti_rng1 (ih.e sc X h _ _ h1) (cE_node h1).1 hg hm
    · split at c
      · cases c
        rename_i h1 h2
        exact ti_rng2 (ih.e sc X h _ _ h1) (ih.e sc X h _ _ h2) (cE_node h1).1 (cE_node h2).1 hg hm
      · cases c
    · split at c
      · cases c
        rename_i h1 h2 h3
        exact ti_rng3 (ih.e sc X h _ _ h1) (ih.e sc X h _ _ h2) (ih.e sc X h _ _ h3) (cE_node h1).1 (cE_node h2).1 (cE_node h3).1 hg hm
      · cases c
    · cases c
  · rename_i hk
    obtain ⟨p, args, pos, rfl, g1, g2⟩ := itKind_2 hk
    have hm := h.prg.blt "enumerate" (by decide) g2
    have hg := h.glo g1
    simp only [itArgs] at c
    refine ⟨?_, rfl⟩
    obtain ⟨ht, c⟩ := oi c
    split at c
    · obtain ⟨x, h1, rfl⟩ := omap c
      cases t <;> simp [isTupE] at ht
      exact ti_enu h (ih.e sc X h _ _ h1) (cE_node h1).1 hg hm
    · cases c
  · obtain ⟨x, h1, rfl⟩ := omap c
    exact ⟨ti_seq h (ih.e sc X h _ _ h1), (cE_node h1).2.1⟩
end
end Qx
set_option Elab.async false
set_option linter.all false
set_option maxRecDepth 100000
set_option maxHeartbeats 8000000
/-! QSndD: the compiled expression does what the text does. -/
namespace Qx
open PySem PySem.Spec PyProof.Rows L2

section
variable {S : Sx} {k n : Nat} {sc : Scope} {X : Cx} {pos : Pos}
theorem st_const (h : Ct S k sc X) {q : Const} {j : Nat} {c : E} (e : cConst q = some c) : Snd S X (.Constant q j pos) c := by
  cases q <;> simp only [cConst] at e <;> (first | (cases e; done) | skip)
  all_goals cases e
  · exact nd_cst pe_non fun m H => Rep.of_non
  · exact nd_cst pe_bl fun m H => Rep.of_bl
  · exact nd_cst pe_int fun m H => Rep.of_int
  · exact nd_cst pe_str fun m H => Rep.of_str
theorem st_bool (h : Ct S k sc X) {op : BoolOp} : ∀ {es : List Expr} {x : E} {cs : List E}, Snds S X es (x :: cs) → Bools S X op pos es (cBool op x cs)
  | _, x, [], .cons st s .nil => bo_one s
  | _, x, y :: r, .cons st s (.cons st2 s2 t) => by
    have ih := st_bool h (op := op) (Snds.cons st2 s2 t)
    cases op with
    | And => exact bo_and s ih
    | Or => exact bo_or s ih
theorem st_bools (h : Ct S k sc X) {op : BoolOp} {es : List Expr} {cs : List E} {c : E} (s : Snds S X es cs) (e : cBools op cs = some c) : Snd S X (.BoolOp op es pos) c := by
  unfold cBools at e
  split at e
  · cases e
    refine (st_bool h s).snd ?_
    simp only [cBool]
    cases op <;> rfl
  · cases e
theorem allS_len {α : Type} : ∀ {l : List (Option α)} {r : List α}, allS l = some r → r.length = l.length
  | [], r, h => by simp only [allS] at h; cases h; rfl
  | some a :: l, r, h => by
    simp only [allS] at h
    obtain ⟨r', h1, rfl⟩ := omap h
    rw [List.length_cons, List.length_cons, allS_len h1]
  | none :: l, r, h => by simp only [allS] at h; cases h
theorem cTy_some {C : Cc} {e : Expr} {t : Ty} (h : cTy C sc e = some t) : ∃ x p, e = .Name x p ∧ isGl sc x = true ∧ C.G.lookup x = none ∧ cTyN x = some t := by
  unfold cTy at h
  split at h
  · obtain ⟨h1, h2⟩ := oi h
    obtain ⟨h3, h4⟩ := isBl_some h1
    exact ⟨_, _, rfl, h3, h4, h2⟩
  · cases h
theorem st_tys (h : Ct S k sc X) : ∀ {ts : List Expr} {us : List Ty}, allS (ts.map (cTy S.C sc)) = some us → ∃ t, PA X ts t ∧ ∀ (σ : L2.St) (H : Hp) (Q : List V → Hp → Prop), Q (us.map fun u => V.ty (tyN u)) H → t σ H Q
  | [], us, e => by
    simp only [List.map_nil, allS] at e
    cases e
    exact ⟨_, pa_nil, fun σ H Q q => q⟩
  | a :: ts, us, e => by
    rw [List.map_cons] at e
    cases q0 : cTy S.C sc a with
    | none => rw [q0] at e; simp only [allS] at e; cases e
    | some u =>
      rw [q0] at e
      simp only [allS] at e
      obtain ⟨r, h1, rfl⟩ := omap e
      obtain ⟨x, p, rfl, g1, g2, g3⟩ := cTy_some q0
      obtain ⟨hb, hn⟩ := cTyN_boot g3
      obtain ⟨t, pt, ht⟩ := st_tys h h1
      refine ⟨_, pa_cons (pe_bltn (v := .ty (tyN u)) (h.glo g1) (h.prg.blt x hn g2) hb rfl (by intro z; subst z; exact absurd hn (by decide)) ?_) pt (by rfl), fun σ H Q q => ht σ H _ q⟩
      cases z : (x == ("__debug__" : Str)) with
      | false => rfl
      | true => have := eq_of_beq z; subst this; exact absurd hn (by decide)
theorem st_call_fn (ih : AllOk S k n) (h : Ct S k sc X) {f : Str} {p : Pos} {g : Nat} {args : List Expr} {es : List E} (nm : okNm f = true) (gl : isGl sc f = true) (lk : S.C.G.lookup f = some (.fn g)) (he : cEs S.C n sc args = some es) :
    Snd S X (.Call (.Name f p) args [] pos) (.call g es []) := by
  have s := ih.es sc X h _ _ he
  cases s with
  | nil => exact nd_call0 h lk (h.glo gl) (okNm_some nm).1
  | cons st a b => exact nd_call h lk (h.glo gl) (okNm_some nm).1 st (.cons st a b) (plain_all b)
theorem nodupS_ok : ∀ {l : List Str}, nodupS l = true → l.Nodup
  | [], _ => List.nodup_nil
  | a :: r, h => by
    simp only [nodupS, Bool.and_eq_true, Bool.not_eq_true'] at h
    refine List.nodup_cons.mpr ⟨fun z => ?_, nodupS_ok h.2⟩
    rw [List.contains_iff_mem.mpr z] at h
    cases h.1
theorem st_isi (ih : AllOk S k n) (h : Ct S k sc X) {p : Pos} {a t : Expr} {x : E} {us : List Ty} (gl : isGl sc "isinstance" = true) (lk : S.C.G.lookup ("isinstance" : Str) = none) (ha : cE S.C n sc a = some x) (ht : cTys S.C sc t = some us) :
    Snd S X (.Call (.Name "isinstance" p) [a, t] [] pos) (.isi x us) := by
  have hm := h.prg.blt "isinstance" (by decide) lk
  have sa := ih.e sc X h _ _ ha
  have st := (cE_node ha).1
  unfold cTys at ht
  split at ht
  · obtain ⟨hl, ht⟩ := oi ht
    obtain ⟨t0, pt, hq⟩ := st_tys h ht
    exact nd_isiT h sa st rfl (h.glo gl) hm ((pe_tup pt).imp fun σ H Q w => hq σ H _ ⟨by
      have := allS_len ht
      rw [List.length_map] at this
      rw [List.length_map, sizeLine_eq, this]; omega, w⟩)
  · obtain ⟨u, h1, rfl⟩ := omap ht
    obtain ⟨y, p2, rfl, g1, g2, g3⟩ := cTy_some h1
    obtain ⟨hb, hn⟩ := cTyN_boot g3
    refine nd_isi1 h sa st (h.glo gl) hm (h.glo g1) (h.prg.blt y hn g2) hb (by intro z; subst z; exact absurd hn (by decide)) ?_
    cases z : (y == ("__debug__" : Str)) with
    | false => rfl
    | true => have := eq_of_beq z; subst this; exact absurd hn (by decide)
theorem rgArg_some {C : Cc} {args : List Expr} {a : Expr} (h : rgArg C sc args = some a) : ∃ p p2, args = [.Call (.Name "range" p) [a] [] p2] ∧ isGl sc "range" = true ∧ C.G.lookup ("range" : Str) = none := by
  unfold rgArg at h
  split at h
  · have h1 := (oi h).1
    have h2 := (oi h).2
    cases h2
    rw [Bool.and_eq_true, decide_eq_true_eq] at h1
    obtain ⟨hb, h3⟩ := h1
    subst h3
    exact ⟨_, _, rfl, isBl_some hb⟩
  · cases h
theorem st_blt (ih : AllOk S k n) (h : Ct S k sc X) {f : Str} {p : Pos} {args : List Expr} {b : Bi} {es : List E} (nm : okNm f = true) (gl : isGl sc f = true) (lk : S.C.G.lookup f = none) (hb : cBi f args.length = some b) (he : cEs S.C n sc args = some es) :
    Snd S X (.Call (.Name f p) args [] pos) (.bi b es) := by
  obtain ⟨⟨hn, ok⟩, pos0⟩ := cBi_ok h hb
  have hm := h.prg.blt f hn lk
  have s := ih.es sc X h _ _ he
  obtain ⟨n1, n2, n3⟩ := okNm_some nm
  cases s with
  | nil => simp at pos0
  | cons st a b =>
    rcases ok with ⟨id, hv, r⟩ | ⟨id, hv, r⟩
    · exact nd_biB r (h.glo gl) hm hv n3 n1 st (.cons st a b) (plain_all b)
    · exact nd_biT r (h.glo gl) hm hv n3 n1 st (.cons st a b) (plain_all b)
theorem st_kwcall (ih : AllOk S k n) (h : Ct S k sc X) {f : Str} {p : Pos} {g : Nat} {kws : List Keyword} {es : List E} {pm : List Nat} (nm : okNm f = true) (gl : isGl sc f = true) (lk : S.C.G.lookup f = some (.fn g)) (he : cKw S.C n sc kws = some es)
    (hp : kwPos (S.C.P g) 0 (kws.filterMap (·.arg)) = some pm) (hc : (nodupS (kws.filterMap (·.arg)) && decide ((kws.filterMap (·.arg)).length = (S.C.P g).length) && !pm.isEmpty && ((kws.filterMap (·.arg)).all fun k => (S.C.P g).contains k)) = true) : Snd S X (.Call (.Name f p) [] kws pos) (.call g es pm) := by
  simp only [Bool.and_eq_true, decide_eq_true_eq, Bool.not_eq_true'] at hc
  exact nd_callK0 h lk (h.glo gl) (okNm_some nm).1 (ih.kw sc X h _ _ he) hp (by intro z; rw [z] at hc; exact absurd hc.1.2 (by decide)) (nodupS_ok hc.1.1.1) hc.1.1.2 fun k hk => List.contains_iff_mem.mp (List.all_eq_true.mp hc.2 k hk)
theorem st_bcall (ih : AllOk S k n) (h : Ct S k sc X) {f : Str} {p : Pos} {args : List Expr} {c : E} (nm : okNm f = true) (gl : isGl sc f = true) (lk : S.C.G.lookup f = none)
    (hc : (if f = "isinstance" then (match args with
              | [a, t] => (match cE S.C n sc a, cTys S.C sc t with
                | some x, some us => some (.isi x us)
                | _, _ => none)
              | _ => none)
            else (match rgArg S.C sc args with
              | some a => if f = "list" then (cE S.C n sc a).map fun x => .bi .lrange [x] else if f = "tuple" then (cE S.C n sc a).map fun x => .bi .trange [x] else none
              | none => (match cBi f args.length with
                | some b => (cEs S.C n sc args).map (E.bi b)
                | none => none))) = some c) : Snd S X (.Call (.Name f p) args [] pos) c := by
  by_cases hi : f = "isinstance"
  · rw [if_pos hi] at hc
    subst hi
    split at hc
    · split at hc
      · rename_i x us ha ht
        cases hc
        exact st_isi ih h gl lk ha ht
      · cases hc
    · cases hc
  · rw [if_neg hi] at hc
    split at hc
    · rename_i a hr
      obtain ⟨p1, p2, e0, g1, g2⟩ := rgArg_some hr
      subst e0
      have hmr := h.prg.blt "range" (by decide) g2
      by_cases hl : f = "list"
      · rw [if_pos hl] at hc
        subst hl
        obtain ⟨x, ha, e0⟩ := omap hc
        subst e0
        exact nd_lrg h (ih.e sc X h _ _ ha) (cE_node ha).1 (h.glo gl) (h.prg.blt "list" (by decide) lk) (h.glo g1) hmr
      · rw [if_neg hl] at hc
        by_cases ht : f = "tuple"
        · rw [if_pos ht] at hc
          subst ht
          obtain ⟨x, ha, e0⟩ := omap hc
          subst e0
          exact nd_trg h (ih.e sc X h _ _ ha) (cE_node ha).1 (h.glo gl) (h.prg.blt "tuple" (by decide) lk) (h.glo g1) hmr
        · rw [if_neg ht] at hc; cases hc
    · split at hc
      · rename_i b hb
        obtain ⟨es, he, e0⟩ := omap hc
        subst e0
        exact st_blt ih h nm gl lk hb he
      · cases hc
theorem st_call (ih : AllOk S k n) (h : Ct S k sc X) {f : Str} {p : Pos} {args : List Expr} {kws : List Keyword} {c : E} (hc : cE S.C (n + 1) sc (.Call (.Name f p) args kws pos) = some c) : Snd S X (.Call (.Name f p) args kws pos) c := by
  simp only [cE] at hc
  have h1 := (oi hc).1
  replace hc := (oi hc).2
  rw [Bool.and_eq_true] at h1
  have nm := h1.1
  have gl := h1.2
  clear h1
  split at hc
  · rename_i g lk
    split at hc
    · obtain ⟨es, he, e0⟩ := omap hc
      subst e0
      exact st_call_fn ih h nm gl lk he
    · split at hc
      · split at hc
        · rename_i es pm he hp
          have h2 := (oi hc).1
          have e0 := (oi hc).2
          cases e0
          exact st_kwcall ih h nm gl lk he hp h2
        · cases hc
      · cases hc
  · cases hc
  · rename_i lk
    split at hc
    · exact st_bcall ih h nm gl lk hc
    · cases hc
theorem own_pa (h : Ct S k sc X) {x : Str} {p : Pos} {i : Nat} (sn : seen sc x = true) (e : ixOf S.C.N x = some i) (nm : okNm x = true) : PE X (.Name x p) (tA S (.own i)) := by
  obtain ⟨n1, n2, _⟩ := okNm_some nm
  exact (nd_own h sn e n1 n2).pa
theorem st_meth (ih : AllOk S k n) (h : Ct S k sc X) {o : Expr} {m : Str} {ap : Pos} {args : List Expr} {kws : List Keyword} {c : E} (hc : cE S.C (n + 1) sc (.Call (.Attribute o m ap) args kws pos) = some c) : Snd S X (.Call (.Attribute o m ap) args kws pos) c := by
  simp only [cE] at hc
  have h1 := (oi hc).1; replace hc := (oi hc).2
  rw [Bool.and_eq_true] at h1
  obtain ⟨ln, hk⟩ := h1
  have hk : kws = [] := by cases kws <;> first | rfl | cases hk
  subst hk
  split at hc
  · have hm := (oi hc).1; replace hc := (oi hc).2
    subst hm
    split at hc
    · have h2 := (oi hc).1; replace hc := (oi hc).2
      simp only [Bool.and_eq_true] at h2
      obtain ⟨i, hi, e0⟩ := omap hc; subst e0
      exact nd_pop0 h (own_pa h h2.1.2 hi h2.1.1) ln
    · cases hc
  · by_cases m1 : m = "append"
    · rw [if_pos m1] at hc
      subst m1
      split at hc
      · rename_i ha
        have h2 := (oi hc).1; replace hc := (oi hc).2
        simp only [Bool.and_eq_true] at h2
        obtain ⟨i, hi, e0⟩ := omap hc; subst e0
        exact nd_app h (own_pa h h2.1.2 hi h2.1.1) (ih.e sc X h _ _ ha) (cE_node ha).1 ln
      · cases hc
    · rw [if_neg m1] at hc
      by_cases m2 : m = "pop"
      · rw [if_pos m2] at hc
        subst m2
        split at hc
        · rename_i ha
          have h2 := (oi hc).1; replace hc := (oi hc).2
          simp only [Bool.and_eq_true] at h2
          obtain ⟨i, hi, e0⟩ := omap hc; subst e0
          exact nd_pop1 h (own_pa h h2.1.2 hi h2.1.1) (ih.e sc X h _ _ ha) (cE_node ha).1 ln
        · cases hc
      · rw [if_neg m2] at hc
        have h2 := (oi hc).1; replace hc := (oi hc).2
        rw [Bool.and_eq_true, decide_eq_true_eq] at h2
        have h3 := h2.2; have e1 := h2.1; subst e1
        split at hc
        · rename_i ho ha
          cases hc
          exact nd_get1 h (ih.e sc X h _ _ ho) (ih.e sc X h _ _ ha) (by simpa using h3) (cE_node ha).1 ln
        · cases hc
  · have h2 := (oi hc).1; replace hc := (oi hc).2
    rw [Bool.and_eq_true, decide_eq_true_eq] at h2
    have h3 := h2.2; have e1 := h2.1; subst e1
    split at hc
    · rename_i ho ha hb
      cases hc
      exact nd_get2 h (ih.e sc X h _ _ ho) (ih.e sc X h _ _ ha) (ih.e sc X h _ _ hb) (by simpa using h3) (cE_node ha).1 (cE_node hb).1 ln
    · cases hc
  · cases hc
theorem st_lc (ih : AllOk S k n) (h : Ct S k sc X) {elt : Expr} {gs : List Comprehension} {s2 : Scope} {c : E} (hc : cE S.C (n + 1) sc (.ListComp elt gs s2 pos) = some c) : Snd S X (.ListComp elt gs s2 pos) c := by
  simp only [cE] at hc
  split at hc
  · split at hc
    · rename_i t' it' c' x ht hi hf hx
      have hb := (oi hc).1; replace hc := (oi hc).2
      cases hc
      obtain ⟨pi, ok⟩ := ih.it sc X h _ _ _ hi
      exact nd_comp h hb pi (fun X' h' => ⟨tg_ok h' 8 _ _ ht, ih.f s2 X' h' _ _ hf, (ih.e s2 X' h' _ _ hx).pe⟩) ok
    · cases hc
  · split at hc
    · rename_i t' it' c' ht hi hf
      split at hc
      · rename_i t2' it2' c2 x ht2 hi2 hf2 hx
        have hb := (oi hc).1; replace hc := (oi hc).2
        cases hc
        obtain ⟨pi, ok⟩ := ih.it sc X h _ _ _ hi
        have ok2 := (ih.it s2 _ (h.blk (blkC_kind hb) X.s_0 X.H_0 0 [] []) _ _ _ hi2).2
        exact nd_comp2 h hb pi (fun X' h' => ⟨tg_ok h' 8 _ _ ht, ih.f s2 X' h' _ _ hf, (ih.it s2 X' h' _ _ _ hi2).1, tg_ok h' 8 _ _ ht2, ih.f s2 X' h' _ _ hf2, (ih.e s2 X' h' _ _ hx).pe⟩) ok ok2
      · cases hc
    · cases hc
  · cases hc
theorem st_sub (ih : AllOk S k n) (h : Ct S k sc X) {a i : Expr} {c : E} (hc : cE S.C (n + 1) sc (.Subscript a i pos) = some c) : Snd S X (.Subscript a i pos) c := by
  simp only [cE] at hc
  split at hc
  · split at hc
    · split at hc
      · rename_i h1 h2 h3
        cases hc
        exact nd_slc h (ih.e sc X h _ _ h1) (ih.o sc X h _ _ h2) (ih.o sc X h _ _ h3)
      · cases hc
    · split at hc
      · split at hc
        · rename_i h1 h2
          cases hc
          exact nd_rev h (ih.e sc X h _ _ h1) (ih.o sc X h _ _ h2)
        · cases hc
      · cases hc
    · cases hc
  · split at hc
    · rename_i h1 h2
      cases hc
      exact nd_sub h (ih.e sc X h _ _ h1) (ih.e sc X h _ _ h2) (cE_node h2).2.2
    · cases hc
theorem st_e (ih : AllOk S k n) (h : Ct S k sc X) : ∀ e c, cE S.C (n + 1) sc e = some c → Snd S X e c := fun e c hc => by
  cases e with
  | Name x p =>
    simp only [cE] at hc
    have nm := (oi hc).1; replace hc := (oi hc).2
    obtain ⟨n1, n2, _⟩ := okNm_some nm
    exact nd_name h hc n1 n2
  | Constant q j p => simp only [cE] at hc; exact st_const h hc
  | Tuple es x1 p =>
    simp only [cE] at hc
    obtain ⟨cs, h1, e0⟩ := omap hc; subst e0
    exact nd_tup (ih.es sc X h _ _ h1)
  | List es p =>
    simp only [cE] at hc
    obtain ⟨cs, h1, e0⟩ := omap hc; subst e0
    exact nd_lst (ih.es sc X h _ _ h1)
  | Dict ks vs p =>
    simp only [cE] at hc
    have hl := (oi hc).1; replace hc := (oi hc).2
    split at hc
    · cases hc; exact nd_dct0
    · rename_i hne
      obtain ⟨cs, h1, e0⟩ := omap hc; subst e0
      have s := ih.ks sc X h _ _ _ h1
      refine nd_dct s ?_ hl
      intro z
      subst z
      cases s
      exact hne rfl rfl
  | BinOp a op b p =>
    simp only [cE] at hc
    split at hc
    · rename_i h1 h2 h3
      cases hc
      rw [cBop_eq h1]
      exact nd_bin h (ih.e sc X h _ _ h2) (ih.e sc X h _ _ h3)
    · cases hc
  | UnaryOp op a p =>
    simp only [cE] at hc
    split at hc
    · obtain ⟨x, h1, e0⟩ := omap hc; subst e0
      exact nd_neg (ih.e sc X h _ _ h1)
    · obtain ⟨x, h1, e0⟩ := omap hc; subst e0
      exact nd_nt (ih.e sc X h _ _ h1)
    · cases hc
  | BoolOp op es p =>
    simp only [cE] at hc
    obtain ⟨cs, h1, h2⟩ := bind2 hc
    exact st_bools h (ih.es sc X h _ _ h1) h2
  | IfExp t a b p =>
    simp only [cE] at hc
    split at hc
    · rename_i h1 h2 h3
      cases hc
      exact nd_ite (ih.e sc X h _ _ h1) (ih.e sc X h _ _ h2) (ih.e sc X h _ _ h3)
    · cases hc
  | Compare a ops bs p =>
    simp only [cE] at hc
    split at hc
    · rename_i op b'
      split at hc
      · rename_i h1 h2
        cases hc
        have e1 := cCop_eq op
        generalize cCop op = o1 at *
        subst e1
        exact nd_cmp h (ih.e sc X h _ _ h1) (ih.e sc X h _ _ h2) (cE_node h2).2.1
      · cases hc
    · rename_i op op' b' c'
      split at hc
      · rename_i h1 h2 h3
        cases hc
        have e1 := cCop_eq op
        have e2 := cCop_eq op'
        generalize cCop op = o1 at *
        generalize cCop op' = o2 at *
        subst e1 e2
        exact nd_chn h (ih.e sc X h _ _ h1) (ih.e sc X h _ _ h2) (ih.e sc X h _ _ h3) (cE_node h3).2.1
      · cases hc
    · cases hc
  | Subscript a i p => exact st_sub ih h hc
  | ListComp elt gs s2 p => exact st_lc ih h hc
  | Call fe args kws p =>
    cases fe with
    | Name f p2 => exact st_call ih h hc
    | Attribute o m ap => exact st_meth ih h hc
    | _ => simp [cE] at hc
  | _ => simp [cE] at hc
end
/-- the compiled expressions do what the text does -/
theorem all_ok (S : Sx) (k : Nat) : ∀ n, AllOk S k n
  | 0 => ⟨fun _ _ _ e c h => by simp [cE] at h, fun _ _ _ e c h => by simp [cEs] at h, fun _ _ _ e v c h => by simp [cKs] at h, fun _ _ _ e c h => by simp [cKw] at h, fun _ _ _ e c h => by cases e <;> simp [cO] at h, fun _ _ _ e c h => by simp [cIf] at h, fun _ _ _ t e c h => by simp [cIt] at h⟩
  | n + 1 => ⟨fun sc X h => st_e (all_ok S k n) h, fun sc X h => st_es (all_ok S k n) h, fun sc X h => st_ks (all_ok S k n) h, fun sc X h => st_kw (all_ok S k n) h, fun sc X h => st_o (all_ok S k n) h, fun sc X h => st_f (all_ok S k n) h, fun sc X h => st_it (all_ok S k n) h⟩
end Qx
set_option Elab.async false
set_option linter.all false
set_option maxRecDepth 100000
set_option maxHeartbeats 4000000
/-! QStm: statements. -/
namespace Qx
open PySem PySem.Spec PyProof.Rows L2

/-! ### steps -/
structure Step (np : Nat) (nw : Nat → Bool) (A : Slots) (m : AdP) (H : Hp) (A' : Slots) (m' : AdP) (H' : Hp) : Prop where
  keep : ∀ a o, H a = some o → (∀ i, A i ≠ some a) → H' a = some o
  live : ∀ a, H a ≠ none → H' a ≠ none
  more : ∀ a, m a → m' a
  new : ∀ a, m' a → m a ∨ H a = none
  par : ∀ i, i < np → A' i = A i
  same : ∀ i, nw i = false → A' i = A i
  own : ∀ i a, A' i = some a → A i = some a ∨ H a = none
section
variable {np : Nat} {nw nw' : Nat → Bool} {A A' A2 : Slots} {m m' m2 : AdP} {H H' H2 : Hp}
theorem Step.refl : Step np nw A m H A m H := ⟨fun _ _ h _ => h, fun _ h => h, fun _ h => h, fun _ h => .inl h, fun _ _ => rfl, fun _ _ => rfl, fun _ _ h => .inl h⟩
theorem Step.nx (n : Nx A H H') : Step np nw A m H A m H' := ⟨n.keep, n.live, fun _ h => h, fun _ h => .inl h, fun _ _ => rfl, fun _ _ => rfl, fun _ _ h => .inl h⟩
theorem Step.back {a : Addr} (s : Step np nw A m H A' m' H') (h : H' a = none) : H a = none := by
  cases q : H a with
  | none => rfl
  | some o => exact (s.live a (by rw [q]; exact fun z => nomatch z) h).elim
theorem Step.trans (s : Step np nw A m H A' m' H') (t : Step np nw A' m' H' A2 m2 H2) : Step np nw A m H A2 m2 H2 where
  keep := fun a o e n => t.keep a o (s.keep a o e n) fun i z => (s.own i a z).elim (n i) fun z => by rw [e] at z; cases z
  live := fun a h => t.live a (s.live a h)
  more := fun a h => t.more a (s.more a h)
  new := fun a h => (t.new a h).elim (s.new a) fun z => .inr (s.back z)
  par := fun i h => (t.par i h).trans (s.par i h)
  same := fun i h => (t.same i h).trans (s.same i h)
  own := fun i a h => (t.own i a h).elim (s.own i a) fun z => .inr (s.back z)
theorem Step.wk (s : Step np nw A m H A' m' H') (h : ∀ i, nw' i = false → nw i = false) : Step np nw' A m H A' m' H' := ⟨s.keep, s.live, s.more, s.new, s.par, fun i e => s.same i (h i e), s.own⟩
theorem Step.kp {G : Gd} {env : En} {σ : L2.St} (r : RE G A m env σ H) (s : Step np nw A m H A' m' H') : Kp m m' H H' := ⟨fun a o e n => s.keep a o e fun i z => n (r.mem i a z), s.new⟩
end
/-- what is handed back -/
structure RetR (S : Sx) (fr : Bool) (np : Nat) (A : Slots) (m : AdP) (Hb H : Hp) (env' : En) (d : D) (v : V) : Prop where
  nx : Nx A Hb H
  ex : ∃ m2 : AdP, (∀ a, m2 a → m a ∨ Hb a = none) ∧ (∀ a, m a → m2 a ∨ ∃ i, np ≤ i ∧ A i = some a) ∧ (∀ a, m2 a → H a ≠ none) ∧
    (∀ i o, i < np → getO env' i = some o → ∃ a, A i = some a ∧ OwnAt S.G m2 H a o) ∧
    ((∃ a, v = .ref a ∧ m2 a ∧ (Hb a = none ∨ ∃ i, np ≤ i ∧ A i = some a) ∧ OwnAt S.G m2 H a d) ∨ (Rep S.G m2 H d v ∧ (fr = false ∨ isC d = false)))
def Out (S : Sx) (np : Nat) (fr : Bool) (nw : Nat → Bool) (D : Ends) (A : Slots) (m : AdP) (H : Hp) (env' : En) : Fl → Prop
  | .nx => ∀ A' m' σ' H', Step np nw A m H A' m' H' → RE S.G A' m' env' σ' H' → D.nx σ' H'
  | .brk => ∀ A' m' σ' H', Step np nw A m H A' m' H' → RE S.G A' m' env' σ' H' → D.bk σ' H'
  | .ct => ∀ A' m' σ' H', Step np nw A m H A' m' H' → RE S.G A' m' env' σ' H' → D.ct σ' H'
  | .ret d => ∀ A' m' Hb H' v, Step np nw A m H A' m' Hb → RetR S fr np A' m' Hb H' env' d v → D.rt v H'
section
variable {S : Sx} {np : Nat} {fr : Bool} {nw nw' : Nat → Bool} {D : Ends} {A A1 : Slots} {m m1 : AdP} {H H1 : Hp} {env' : En} {fl : Fl}
theorem Out.later (o : Out S np fr nw D A m H env' fl) (s : Step np nw A m H A1 m1 H1) : Out S np fr nw D A1 m1 H1 env' fl := by
  cases fl with
  | nx => exact fun A' m' σ' H' t r => o A' m' σ' H' (s.trans t) r
  | brk => exact fun A' m' σ' H' t r => o A' m' σ' H' (s.trans t) r
  | ct => exact fun A' m' σ' H' t r => o A' m' σ' H' (s.trans t) r
  | ret d => exact fun A' m' Hb H' v t r => o A' m' Hb H' v (s.trans t) r
theorem Out.wk (o : Out S np fr nw D A m H env' fl) (h : ∀ i, nw i = false → nw' i = false) : Out S np fr nw' D A m H env' fl := by
  cases fl with
  | nx => exact fun A' m' σ' H' t r => o A' m' σ' H' (t.wk h) r
  | brk => exact fun A' m' σ' H' t r => o A' m' σ' H' (t.wk h) r
  | ct => exact fun A' m' σ' H' t r => o A' m' σ' H' (t.wk h) r
  | ret d => exact fun A' m' Hb H' v t r => o A' m' Hb H' v (t.wk h) r
end
def tS (S : Sx) (np : Nat) (fr : Bool) (s : Qx.S) : L2.TS := fun D σ H => ∃ A m env fl env', RE S.G A m env σ H ∧ evS S.Φ S.R np s env = some (fl, env') ∧ Out S np fr (fun i => newS i s) D A m H env' fl
def tSs (S : Sx) (np : Nat) (fr : Bool) (ss : List Qx.S) : L2.TS := fun D σ H => ∃ A m env fl env', RE S.G A m env σ H ∧ evSs S.Φ S.R np ss env = some (fl, env') ∧ Out S np fr (fun i => newSs i ss) D A m H env' fl
theorem oF {γ : Type} {o : Option (Fl × En)} {f : Fl → En → Option γ} {c : γ} (h : (match o with | some (a, b) => f a b | none => none) = some c) : ∃ a b, o = some (a, b) ∧ f a b = some c := by
  split at h
  · exact ⟨_, _, rfl, h⟩
  · cases h
section
variable {S : Sx} {k : Nat} {sc : Scope} {X : Cx} {pos : Pos} {np : Nat} {fr : Bool}
/-! ### rows of statements -/
theorem sq_nil : PSs X [] (tSs S np fr []) := pss_nil.imp fun D σ H ⟨A, m, env, fl, env', re, ev, o⟩ => by
  simp only [evSs] at ev
  cases ev
  exact o A m σ H .refl re
theorem sq_cons {st : Stmt} {rest : List Stmt} {s : Qx.S} {ss : List Qx.S} (h1 : PS X st (tS S np fr s)) (h2 : PSs X rest (tSs S np fr ss)) : PSs X (st :: rest) (tSs S np fr (s :: ss)) :=
  (pss_cons h1 h2).imp fun D σ H ⟨A, m, env, fl, env', re, ev, o⟩ => by
    simp only [evSs] at ev
    cases q : evS S.Φ S.R np s env with
    | none => rw [q] at ev; cases ev
    | some r =>
      obtain ⟨fl1, e1⟩ := r
      rw [q] at ev
      have w1 : ∀ i, newSs i (s :: ss) = false → newS i s = false := fun i z => by
        simp only [newSs, Bool.or_eq_false_iff] at z; exact z.1
      have w2 : ∀ i, newSs i (s :: ss) = false → newSs i ss = false := fun i z => by
        simp only [newSs, Bool.or_eq_false_iff] at z; exact z.2
      refine ⟨A, m, env, fl1, e1, re, q, ?_⟩
      cases fl1 with
      | nx =>
        refine fun A1 m1 σ1 H1 s1 r1 => ⟨A1, m1, e1, fl, env', r1, ev, ?_⟩
        have o1 := o.later (s1.wk w1)
        cases fl with
        | nx => exact fun A' m' σ' H' t r => o1 A' m' σ' H' (t.wk w2) r
        | brk => exact fun A' m' σ' H' t r => o1 A' m' σ' H' (t.wk w2) r
        | ct => exact fun A' m' σ' H' t r => o1 A' m' σ' H' (t.wk w2) r
        | ret d => exact fun A' m' Hb H' v t r => o1 A' m' Hb H' v (t.wk w2) r
      | brk =>
        cases ev
        exact fun A' m' σ' H' t r => o A' m' σ' H' (t.wk w1) r
      | ct =>
        cases ev
        exact fun A' m' σ' H' t r => o A' m' σ' H' (t.wk w1) r
      | ret d =>
        cases ev
        exact fun A' m' Hb H' v t r => o A' m' Hb H' v (t.wk w1) r
theorem sn_pass : PS X (.Pass pos) (tS S np fr .pass) := ps_pass.imp fun D σ H ⟨A, m, env, fl, env', re, ev, o⟩ => by
  simp only [evS] at ev
  cases ev
  exact o A m σ H .refl re
theorem sn_brk : PS X (.Break pos) (tS S np fr .brk) := ps_break.imp fun D σ H ⟨A, m, env, fl, env', re, ev, o⟩ => by
  simp only [evS] at ev
  cases ev
  exact o A m σ H .refl re
theorem sn_cnt : PS X (.Continue pos) (tS S np fr .cnt) := ps_continue.imp fun D σ H ⟨A, m, env, fl, env', re, ev, o⟩ => by
  simp only [evS] at ev
  cases ev
  exact o A m σ H .refl re
theorem sn_bad {st : Stmt} : PS X st (tS S np fr .bad) := ps_never.imp fun D σ H ⟨A, m, env, fl, env', re, ev, o⟩ => by
  simp only [evS] at ev
  cases ev
theorem sn_exp {e : Expr} {c : E} (s : Snd S X e c) (n : isLC e = false) : PS X (.Expr e pos) (tS S np fr (.exp c)) := (ps_expr s.pe (swaps_ok n)).imp fun D σ H ⟨A, m, env, fl, env', re, ev, o⟩ => by
  simp only [evS] at ev
  obtain ⟨d, e1, ev1, ev⟩ := oD ev
  cases ev
  exact ⟨A, m, env, d, _, re, ev1, fun v H1 p => o A m σ H1 (.nx p.nx) p.re⟩
theorem sn_if {c : Expr} {a b : List Stmt} {x : E} {ya yb : List Qx.S} (s : Snd S X c x) (sa : PSs X a (tSs S np fr ya)) (sb : PSs X b (tSs S np fr yb)) : PS X (.If c a b pos) (tS S np fr (.ite x ya yb)) :=
  (ps_if s.pt sa sb).imp fun D σ H ⟨A, m, env, fl, env', re, ev, o⟩ => by
    simp only [evS] at ev
    rcases ob ev with ⟨e1, ev1, ev⟩ | ⟨e1, ev1, ev⟩
    · refine ⟨A, m, env, true, e1, re, ev1, fun H1 n1 r1 => iteT ⟨A, m, e1, fl, env', r1, ev, (o.later (.nx n1)).wk fun i z => ?_⟩⟩
      simp only [newS, Bool.or_eq_false_iff] at z
      exact z.1
    · refine ⟨A, m, env, false, e1, re, ev1, fun H1 n1 r1 => iteF ⟨A, m, e1, fl, env', r1, ev, (o.later (.nx n1)).wk fun i z => ?_⟩⟩
      simp only [newS, Bool.or_eq_false_iff] at z
      exact z.2

/-! ### loops -/
theorem opE_o {c : E} {f : En → Option (D × En)} {env e1 : En} {i : Nat} (h : opE c f env = some (.o i, e1)) : c = .own i := by
  cases hc : isOwn c with
  | true =>
    cases c <;> simp [isOwn] at hc
    obtain ⟨_, h2, _⟩ := opE_own h
    cases h2; rfl
  | false =>
    obtain ⟨d, _, h2⟩ := opE_not hc h
    cases h2
theorem evIt_own {Φ : Orc} {R : Rfs} {it : Qx.It} {env e1 : En} {xs : List Qx.D} {g : Qx.A × Qx.D} {i : Nat} (h : evIt Φ R it env = some (xs, g, e1)) (hg : g.1 = .o i) (ni : ∀ e, it ≠ .itms e) : itOwn it = some i := by
  cases it with
  | seq e =>
    simp only [evIt] at h
    obtain ⟨a, e2, ev1, h⟩ := oA h
    obtain ⟨d, h1, h2, h3, h4⟩ := itOf_some h
    rw [h3] at hg
    cases hg
    rw [opE_o ev1]; rfl
  | enu e =>
    simp only [evIt] at h
    obtain ⟨a, e2, ev1, h⟩ := oA h
    obtain ⟨d, h1, h2, h3, h4⟩ := itOf_some h
    rw [h3] at hg
    cases hg
    rw [opE_o ev1]; rfl
  | rng es =>
    simp only [evIt] at h
    obtain ⟨ds, e2, ev1, h⟩ := oL h
    obtain ⟨ys, h1, h⟩ := o1L h
    cases h
    cases hg
  | zip a b =>
    simp only [evIt] at h
    obtain ⟨x, e2, ev1, h⟩ := oD h
    obtain ⟨y, e3, ev2, h⟩ := oD h
    split at h
    · cases h; cases hg
    · cases h; cases hg
    · cases h
  | itms e => exact (ni e rfl).elim
theorem forL_gd {t : TN} {g : En → Bool} {body : En → Option (Fl × En)} {xs : List Qx.D} {env : En} {r : Fl × En} (h : forL t g body xs env = some r) : g env = true := by
  cases xs <;> simp only [forL] at h <;> exact (oi h).1
theorem for_core {t : TN} {b : List Qx.S} {J : L2.It} {A : Slots} {m : AdP} {g : Qx.A × Qx.D} {H1 : Hp} {xs : List Qx.D} {e1 env' : En} {σ : L2.St} {D : Ends} {fl : Fl} (r1 : RE S.G A m e1 σ H1) (iok : ItOk S J A m g H1 xs) (ev : forL t (gd g.1 g.2) (evSs S.Φ S.R np b) xs e1 = some (fl, env'))
    (o1 : Out S np fr (fun i => newSs i b) D A m H1 env' fl) (own0 : ∀ i, g.1 = .o i → newSs i b = false) :
    ∃ W : Nat → Nat → L2.St → Hp → Prop, (∃ m, W 0 m σ H1) ∧ ∀ i m σ H, W i m σ H →
      (J.stop i H ∧ D.nx σ H) ∨ (J.go i H ∧ ∃ N : L2.St → Hp → Prop, (∀ σ' H', N σ' H' → ∃ m', m' < m ∧ W (i + 1) m' σ' H') ∧ ∀ x H', J.yld i H x H' → tG S t x σ H' fun σ2 H2 => tSs S np fr b { D with nx := N, ct := N, bk := D.nx } σ2 H2) := by
  obtain ⟨W, Y, wk, later⟩ := iok.ok
  let Pv : Nat → L2.St → Hp → Prop := fun i σ' H' => ∃ A' m' env2, Step np (fun i => newSs i b) A m H1 A' m' H' ∧ RE S.G A' m' env2 σ' H' ∧ forL t (gd g.1 g.2) (evSs S.Φ S.R np b) (xs.drop i) env2 = some (fl, env')
  have lat : ∀ {i : Nat} {A' : Slots} {m' : AdP} {env2 : En} {σ' : L2.St} {H' : Hp}, Step np (fun i => newSs i b) A m H1 A' m' H' → RE S.G A' m' env2 σ' H' → forL t (gd g.1 g.2) (evSs S.Φ S.R np b) (xs.drop i) env2 = some (fl, env') → Later S A m g H1 A' m' env2 σ' H' :=
    fun s r h => ⟨r, s.kp r1, fun i e => s.same i (own0 i e), forL_gd h⟩
  refine for_it wk Pv ⟨A, m, e1, .refl, r1, by rw [List.drop_zero]; exact ev⟩ ?_ ?_ ?_
  · rintro i σ' H' _ ⟨A', m', env2, s, r, h⟩
    exact (later _ _ _ _ _ (lat s r h)).1
  · rintro i v σ' H' H'' hi ⟨A', m', env2, s, r, h⟩ hY
    obtain ⟨dx, hx, ex, rx⟩ := (later _ _ _ _ _ (lat s r h)).2 i v H'' hi hY
    rw [List.drop_eq_getElem_cons hi] at h
    have hdx : xs[i] = dx := by
      rw [List.getElem?_eq_getElem hi] at hx
      exact Option.some.inj hx
    rw [hdx] at h
    simp only [forL] at h
    replace h := (oi h).2
    obtain ⟨e3, hp, h⟩ := o1N h
    refine ⟨A', m', env2, dx, e3, r.ex ex, rx, hp, fun σ2 r2 _ _ => ?_⟩
    have s2 : Step np (fun i => newSs i b) A m H1 A' m' H'' := s.trans (.nx ex.nx)
    cases q : evSs S.Φ S.R np b e3 with
    | none => rw [q] at h; cases h
    | some rr =>
      obtain ⟨fl1, e4⟩ := rr
      rw [q] at h
      refine ⟨A', m', e3, fl1, e4, r2, q, ?_⟩
      cases fl1 with
      | nx => exact fun A3 m3 σ3 H3 t3 r3 => ⟨A3, m3, e4, s2.trans t3, r3, h⟩
      | ct => exact fun A3 m3 σ3 H3 t3 r3 => ⟨A3, m3, e4, s2.trans t3, r3, h⟩
      | brk =>
        cases h
        exact fun A3 m3 σ3 H3 t3 r3 => o1 A3 m3 σ3 H3 (s2.trans t3) r3
      | ret d =>
        cases h
        exact fun A3 m3 Hb H3 v t3 r3 => o1 A3 m3 Hb H3 v (s2.trans t3) r3
  · rintro σ' H' ⟨A', m', env2, s, r, h⟩
    rw [List.drop_length] at h
    simp only [forL] at h
    replace h := (oi h).2
    cases h
    exact o1 A' m' σ' H' s r
theorem for_key {t : TN} {it : Qx.It} {b : List Qx.S} (ni : ∀ e, it ≠ .itms e) (nn : ∀ i, itOwn it = some i → newSs i b = false) (D : Ends) (σ : L2.St) (H : Hp) (w : tS S np fr (.for_ t it b) D σ H) : tFor (tI S it) (tG S t) (tSs S np fr b) D σ H := by
  obtain ⟨A, m, env, fl, env', re, ev, o⟩ := w
  simp only [evS] at ev
  obtain ⟨xs, g, e1, ev1, ev⟩ := oI ev
  refine ⟨A, m, env, xs, g, e1, re, ev1, fun J H1 n1 r1 iok => ?_⟩
  have o1 : Out S np fr (fun i => newSs i b) D A m H1 env' fl := (o.later (.nx n1)).wk fun i z => by simpa only [newS] using z
  exact for_core r1 iok ev o1 fun i e => nn i (evIt_own ev1 e ni)
theorem sn_for (h : Ct S k sc X) {tg iter : Expr} {body : List Stmt} {t : TN} {it : Qx.It} {b : List Qx.S} (hi : PI X tg iter (tI S it)) (ok : okNode iter = true) (hg : PG X tg (tG S t)) (hb : PSs X body (tSs S np fr b)) (ni : ∀ e, it ≠ .itms e) (nn : ∀ i, itOwn it = some i → newSs i b = false) :
    PS X (.For tg iter body [] pos) (tS S np fr (.for_ t it b)) :=
  (ps_for (by rw [h.xe]; exact PassesOwn.never) h.calm hi hg hb (fun _ => fold_ok ok)).imp (for_key ni nn)
theorem sn_while (h : Ct S k sc X) {c : Expr} {body : List Stmt} {x : E} {b : List Qx.S} (s : Snd S X c x) (hb : PSs X body (tSs S np fr b)) : PS X (.While c body [] pos) (tS S np fr (.whl x b)) := by
  refine (ps_while (by rw [h.xe]; exact PassesOwn.never) s.pt hb).imp fun D σ H ⟨A, m, env, fl, env', re, ev, o⟩ => ?_
  simp only [evS] at ev
  have o1 : Out S np fr (fun i => newSs i b) D A m H env' fl := o.wk fun i z => by simpa only [newS] using z
  let W : Nat → L2.St → Hp → Prop := fun n σ' H' => ∃ A' m' env2, Step np (fun i => newSs i b) A m H A' m' H' ∧ RE S.G A' m' env2 σ' H' ∧ whileL (evE S.Φ S.R x) (evSs S.Φ S.R np b) n env2 = some (fl, env')
  refine ⟨W, ⟨FUEL, A, m, env, .refl, re, ev⟩, ?_⟩
  rintro n σ' H' ⟨A', m', env2, st, r, hw⟩
  cases n with
  | zero => simp only [whileL] at hw; cases hw
  | succ n =>
    simp only [whileL] at hw
    cases q0 : asB (evE S.Φ S.R x env2) with
    | none => rw [q0] at hw; cases hw
    | some rr =>
      obtain ⟨bb, e1⟩ := rr
      rw [q0] at hw
      refine ⟨A', m', env2, bb, e1, r, q0, fun H1 n1 r1 => ?_⟩
      have s2 : Step np (fun i => newSs i b) A m H A' m' H1 := st.trans (.nx n1)
      cases bb with
      | false =>
        refine iteF ?_
        cases hw
        exact o1 A' m' σ' H1 s2 r1
      | true =>
        refine iteT ⟨W n, fun σ2 H2 w2 => ⟨n, Nat.lt_succ_self n, w2⟩, ?_⟩
        cases q : evSs S.Φ S.R np b e1 with
        | none => simp only [q] at hw; cases hw
        | some rr =>
          obtain ⟨fl1, e4⟩ := rr
          simp only [q] at hw
          refine ⟨A', m', e1, fl1, e4, r1, q, ?_⟩
          cases fl1 with
          | nx => exact fun A3 m3 σ3 H3 t3 r3 => ⟨A3, m3, e4, s2.trans t3, r3, hw⟩
          | ct => exact fun A3 m3 σ3 H3 t3 r3 => ⟨A3, m3, e4, s2.trans t3, r3, hw⟩
          | brk =>
            cases hw
            exact fun A3 m3 σ3 H3 t3 r3 => o1 A3 m3 σ3 H3 (s2.trans t3) r3
          | ret d =>
            cases hw
            exact fun A3 m3 Hb H3 v t3 r3 => o1 A3 m3 Hb H3 v (s2.trans t3) r3
end
end Qx
set_option Elab.async false
set_option linter.all false
set_option maxRecDepth 100000
set_option maxHeartbeats 4000000
/-! QStm2: returns, assignments. -/
namespace Qx
open PySem PySem.Spec PyProof.Rows L2

section
variable {S : Sx} {k : Nat} {sc : Scope} {X : Cx} {pos : Pos} {np : Nat} {fr : Bool}
/-! ### return -/
def tRv (S : Sx) (np : Nat) (fr : Bool) (c : E) : TE := fun σ H Q => ∃ A m env d env', RE S.G A m env σ H ∧ evR S.Φ S.R np c env = some (d, env') ∧ ∀ v H', RetR S fr np A m H H' env' d v → Q v H'
theorem sn_ret {e : Expr} {c : E} (h : PE X e (tRv S np fr c)) : PS X (.Return (some e) pos) (tS S np fr (.ret c)) := (ps_ret h).imp fun D σ H ⟨A, m, env, fl, env', re, ev, o⟩ => by
  simp only [evS] at ev
  obtain ⟨d, e1, ev1, ev⟩ := oD ev
  cases ev
  exact ⟨A, m, env, d, _, re, ev1, fun v H' r => o A m H H' v .refl r⟩
section
variable {G : Gd} {A : Slots} {m : AdP} {env : En} {σ : L2.St} {H : Hp}
theorem RE.outs (r : RE G A m env σ H) (i : Nat) (o : D) (e : getO env i = some o) : ∃ a, A i = some a ∧ OwnAt G m H a o := by
  obtain ⟨a, h1, _, h3⟩ := r.own i o (getO_some e)
  exact ⟨a, h1, h3⟩
end
theorem rv_own {x : Expr} {i : Nat} (h : PE X x (tA S (.own i))) : PE X x (tRv S np fr (.own i)) := h.imp fun σ H Q ⟨A, m, env, d, env', re, ev, q⟩ => by
  simp only [evR] at ev
  have hn := (oi ev).1
  obtain ⟨d', h1, h2⟩ := omap (oi ev).2
  cases h2
  refine ⟨A, m, env, .o i, env, re, ?_, fun v H1 n1 r1 a1 => ?_⟩
  · simp only [opE]
    rw [if_pos (by unfold isO; rw [getO_some h1])]
  · obtain ⟨a, ha, rfl⟩ := a1
    obtain ⟨a', h2, h3⟩ := r1.outs i d h1
    rw [ha] at h2; cases h2
    exact q _ H1 ⟨n1, m, fun a z => .inl z, fun a z => .inl z, r1.live, fun j o _ e => r1.outs j o e, .inl ⟨a, rfl, r1.mem i a ha, .inr ⟨i, hn, ha⟩, h3⟩⟩
theorem rv_val {x : Expr} {c : E} (h : PE X x (tV S c)) (nc : ∀ es, c ≠ .tup es) (no : isOwn c = false) (hf : fr = true → frE S.C.F c = true) : PE X x (tRv S np fr c) := h.imp fun σ H Q ⟨A, m, env, d, env', re, ev, q⟩ => by
  have ev : evE S.Φ S.R c env = some (d, env') := by
    unfold evR at ev
    split at ev
    · cases no
    · exact (nc _ rfl).elim
    · exact ev
  refine ⟨A, m, env, d, env', re, ev, fun v H1 p => ?_⟩
  by_cases hc : fr = true ∧ isC d = true
  · obtain ⟨a, rfl, ha, r2, ho⟩ := p.fr (hf hc.1) hc.2
    exact q _ H1 ⟨p.nx, ad m a, fun b z => z.elim (fun z => .inr (z ▸ ha)) .inl, fun b z => .inl (.inr z), r2.live, fun j o _ e => r2.outs j o e, .inl ⟨a, rfl, .inl rfl, .inl ha, ho⟩⟩
  · refine q _ H1 ⟨p.nx, m, fun a z => .inl z, fun a z => .inl z, p.re.live, fun j o _ e => p.re.outs j o e, .inr ⟨p.rep, ?_⟩⟩
    cases fr with
    | false => exact .inl rfl
    | true =>
      cases hd : isC d with
      | false => exact .inr rfl
      | true => exact (hc ⟨rfl, hd⟩).elim

theorem rv_tup {es : List Expr} {cs : List E} {x1 : Nat} (s : Snds S X es cs) : PE X (.Tuple es x1 pos) (tRv S np fr (.tup cs)) := (pe_tup (x1 := x1) s.as).imp fun σ H Q ⟨A, m, env, d, env', re, ev, q⟩ => by
  simp only [evR] at ev
  obtain ⟨as, e1, ev1, ev⟩ := oR ev
  have hall := (oi ev).1
  replace ev := (oi ev).2
  obtain ⟨ds, hds, ev⟩ := o1L ev
  have hz := (oi ev).1
  replace ev := (oi ev).2
  cases ev
  refine ⟨A, m, env, as, _, re, ev1, fun vs H1 n1 r1 a1 => ⟨?_, fun p hp => ?_⟩⟩
  · rw [← paired_len a1, ← resAs_len hds]
    exact sz_eq ▸ hz
  · let giv : Addr → Prop := fun a => ∃ j i : Nat, as[j]? = some (Qx.A.o i) ∧ A i = some a
    let m2 : AdP := fun a => m a ∧ ¬ giv a
    have r2 : RE S.G A m env' σ (upd H1 p (.tup vs)) := r1.laid hp
    have rs : ∀ {as : List Qx.A} {vs : List V} {ds : List D}, AReps S.G A m H1 as vs → resAs env' as = some ds → (∀ j i : Nat, as[j]? = some (Qx.A.o i) → ∃ j', (∃ a, A i = some a → giv a) ∧ j' = j) → (∀ (j i : Nat) (a : Addr), as[j]? = some (Qx.A.o i) → A i = some a → giv a) → Reps S.G m2 H1 ds vs := by
      intro as
      induction as with
      | nil =>
        intro vs ds ar e _ _
        cases ar
        simp only [resAs] at e
        cases e
        exact .nil
      | cons a as ih =>
        intro vs ds ar e w1 w2
        cases ar with
        | cons x xs =>
          simp only [resAs] at e
          rw [Option.bind_eq_some_iff] at e
          obtain ⟨d, g1, g2⟩ := e
          obtain ⟨ds', g3, g4⟩ := omap g2
          subst g4
          refine .cons ?_ (ih xs g3 (fun j i z => ⟨j, ⟨0, fun y => w2 (j + 1) i 0 (by simpa using z) y⟩, rfl⟩) fun j i b z y => w2 (j + 1) i b (by simpa using z) y)
          cases a with
          | v d' =>
            cases g1
            exact Rep.mono (Kp.weak fun b z => z.1) _ _ x
          | o i =>
            obtain ⟨b, g5, rfl⟩ := x
            obtain ⟨b', g6, g7⟩ := r1.outs i d g1
            rw [g5] at g6; cases g6
            exact (g7.weak (m' := m2) fun b z => z.1).rep fun z => z.2 (w2 0 i b rfl g5)
    have lv2 : ∀ a, m2 a → upd H1 p (.tup vs) a ≠ none := fun a z => r2.live a z.1
    refine q _ _ ⟨n1.trans (Nx.laid hp), m2, fun a z => .inl z.1, fun a z => ?_, lv2, fun i o _ e => ?_, .inr ⟨?_, .inr rfl⟩⟩
    · by_cases c : giv a
      · obtain ⟨j, i, g1, g2⟩ := c
        have := List.all_eq_true.mp hall _ (List.mem_of_getElem? g1)
        simp only [retA, decide_eq_true_eq] at this
        exact .inr ⟨i, this, g2⟩
      · exact .inl ⟨z, c⟩
    · obtain ⟨a, g1, g2⟩ := r2.outs i o e
      exact ⟨a, g1, g2.weak fun b z => z.1⟩
    · have hr := rs a1 hds (fun j i z => ⟨j, ⟨0, fun y => ⟨j, i, z, y⟩⟩, rfl⟩) fun j i a z y => ⟨j, i, z, y⟩
      simp only [Rep]
      exact ⟨p, vs, rfl, ⟨upd_same, fun z => r1.live p z.1 hp⟩, hr.mono (Ex.laid hp).kp⟩
end

/-! ### stores -/
theorem sw_eq (ts vs : List Expr) (k k2 : Nat) (p p2 : Pos) (env : Env) : swappedStores [.Tuple ts k p] (.Tuple vs k2 p2) env = match swk (env.blockKind == .function) (fun id => env.kindOf id == some .local) ts vs with
    | 0 => pure none
    | 1 => pure (some (swNames (fun id => env.kindOf id == some .local) ts))
    | _ => swappedStores [.Tuple ts k p] (.Tuple vs k2 p2) env := by
  unfold swk
  have e : swNames (fun id => env.kindOf id == some .local) ts = ts.filterMap fun
    | .Name id pos => if env.kindOf id == some .local && pos.line == (ts.head?.map (·.pos.line)).getD 0 then some id else none
    | _ => none := rfl
  have e2 : (vs.any isStarB) = vs.any fun | .Starred .. => true | _ => false := rfl
  unfold swappedStores
  dsimp only
  split
  · rename_i h
    have h' : (!(ts.length == 2 || ts.length == 3) || vs.length != ts.length || !(env.blockKind == .function)) = true := by simpa [bne] using h
    rw [if_pos h']
    rfl
  · rename_i h
    have h' : ¬ (!(ts.length == 2 || ts.length == 3) || vs.length != ts.length || !(env.blockKind == .function)) = true := by simpa [bne] using h
    rw [if_neg h']
    split
    · rename_i h2
      rw [if_pos (show vs.any isStarB = true from by rw [e2]; exact h2)]
      rfl
    · rename_i h2
      rw [if_neg (show ¬ vs.any isStarB = true from by rw [e2]; exact h2)]
      split
      · rename_i h3
        have h3' : ((swNames (fun id => env.kindOf id == some .local) ts).length != ts.length || (swNames (fun id => env.kindOf id == some .local) ts).eraseDups.length != (swNames (fun id => env.kindOf id == some .local) ts).length) = true := h3
        rw [if_pos h3']
        rfl
      · rename_i h3
        have h3' : ¬ ((swNames (fun id => env.kindOf id == some .local) ts).length != ts.length || (swNames (fun id => env.kindOf id == some .local) ts).eraseDups.length != (swNames (fun id => env.kindOf id == some .local) ts).length) = true := h3
        rw [if_neg h3']
        split
        · rfl
        · split
          · rfl
          · rfl

section
variable {S : Sx} {k : Nat} {sc : Scope} {X : Cx} {pos : Pos} {np : Nat} {fr : Bool}
theorem Ct.block (h : Ct S k sc X) : (X.env.blockKind == .function) = true := by
  unfold Env.blockKind
  rw [h.kind]
  rfl
theorem Ct.locB (h : Ct S k sc X) {x : Str} (e : isLoc sc x = true) : (X.env.kindOf x == some .local) = Qx.locB sc x := by
  unfold isLoc at e
  unfold Qx.locB
  split at e
  · rename_i q
    have : X.env.kindOf x = some .local := h.loc x q
    rw [this, q]; rfl
  · rename_i q
    have : X.env.kindOf x = some .cell := (h.cell x q).1
    rw [this, q]; rfl
  · cases e
theorem fm_congr {α β : Type} {f g : α → Option β} : ∀ {l : List α}, (∀ x ∈ l, f x = g x) → l.filterMap f = l.filterMap g
  | [], _ => rfl
  | a :: l, h => by
    rw [List.filterMap_cons, List.filterMap_cons, h a List.mem_cons_self, fm_congr fun x hx => h x (List.mem_cons_of_mem _ hx)]
theorem sw_names (h : Ct S k sc X) {ts : List Expr} (hl : ∀ t ∈ ts, ∀ id p, t = .Name id p → isLoc sc id = true) : swNames (fun id => X.env.kindOf id == some .local) ts = swNames (Qx.locB sc) ts := by
  unfold swNames
  refine fm_congr fun t ht => ?_
  cases t with
  | Name id p => simp only [swF, h.locB (hl _ ht id p rfl)]
  | _ => rfl
theorem sw_stat (h : Ct S k sc X) {ts vs : List Expr} {kk k2 : Nat} {p p2 : Pos} (hl : ∀ t ∈ ts, ∀ id p, t = .Name id p → isLoc sc id = true) :
    (swk true (Qx.locB sc) ts vs = 0 → swappedStores [.Tuple ts kk p] (.Tuple vs k2 p2) X.env = pure none) ∧ (swk true (Qx.locB sc) ts vs = 1 → swappedStores [.Tuple ts kk p] (.Tuple vs k2 p2) X.env = pure (some (swNames (Qx.locB sc) ts))) := by
  have e := sw_eq ts vs kk k2 p p2 X.env
  have e2 : swk (X.env.blockKind == .function) (fun id => X.env.kindOf id == some .local) ts vs = swk true (Qx.locB sc) ts vs := by
    unfold swk
    rw [sw_names h hl, h.block]
  rw [e2, sw_names h hl] at e
  exact ⟨fun z => by rw [z] at e; exact e, fun z => by rw [z] at e; exact e⟩
/-- name = e, whatever e is -/
theorem set_name (h : Ct S k sc X) {e : Expr} {c : E} (s : Snd S X e c) {x : Str} {i : Nat} {py spos : Pos} (hl : isLoc sc x = true) (hi : ixOf S.C.N x = some i) : PS X (.Assign [.Name x py] e spos) (tAsg (tV S c) (gName i)) := by
  obtain ⟨l1, l2⟩ := h.locL hl
  have nd : X.N.Nodup := by rw [h.N]; exact h.nd
  cases lc : isLC e with
  | false => exact ps_set nd (h.ix hi) l1 s.pe (swaps_ok lc) l2
  | true =>
    have key : ∃ b, swapsWith e (some (.Name x py)) spos.line X.env = pure b ∧ (b = true → X.env.kindOf x = some .local) := by
      cases e <;> simp only [isLC] at lc <;> (first | cases lc; done | skip)
      all_goals
        refine ⟨_, rfl, fun z => ?_⟩
        simp only [Bool.and_eq_true] at z
        exact eq_of_beq z.1.1.2
    obtain ⟨b, hb, hk⟩ := key
    cases b with
    | false => exact ps_set nd (h.ix hi) l1 s.pe hb l2
    | true => exact s.sw lc i x py spos (h.ix hi) (hk rfl) hb
theorem sn_asg (h : Ct S k sc X) {e : Expr} {c : E} (s : Snd S X e c) {x : Str} {i : Nat} {py : Pos} (hl : isLoc sc x = true) (hi : ixOf S.C.N x = some i) : PS X (.Assign [.Name x py] e pos) (tS S np fr (.asg (.tn (.nm i)) c)) :=
  (set_name h s hl hi).imp fun D σ H ⟨A, m, env, fl, env', re, ev, o⟩ => by
    simp only [evS] at ev
    obtain ⟨d, e1, ev1, ev⟩ := oD ev
    obtain ⟨e2, hp, e0⟩ := omap ev
    cases e0
    simp only [putS, putT] at hp
    replace hp := (oni hp).2
    have hp2 := (oi hp).2
    cases hp2
    exact ⟨A, m, env, d, e1, re, ev1, fun v H1 p => o A m _ H1 (.nx p.nx) (p.re.put p.rep)⟩
end
end Qx
set_option Elab.async false
set_option linter.all false
set_option maxRecDepth 100000
set_option maxHeartbeats 4000000
/-! QStm3: new things of one's own; stores into things; rows of names. -/
namespace Qx
open PySem PySem.Spec PyProof.Rows L2

def setA (A : Slots) (i : Nat) (a : Addr) : Slots := fun j => if j = i then some a else A j
section
variable {G : Gd} {A : Slots} {m : AdP} {env : En} {σ : L2.St} {H : Hp}
theorem setA_same {i : Nat} {a : Addr} : setA A i a i = some a := if_pos rfl
theorem setA_ne {i j : Nat} {a : Addr} (h : j ≠ i) : setA A i a j = A j := if_neg h
theorem setA_cases {i j : Nat} {a b : Addr} (h : setA A i a j = some b) : (j = i ∧ b = a) ∨ (j ≠ i ∧ A j = some b) := by
  by_cases c : j = i
  · subst c
    rw [setA_same] at h
    exact .inl ⟨rfl, (Option.some.inj h).symm⟩
  · rw [setA_ne c] at h
    exact .inr ⟨c, h⟩
/-- a slot gets a new thing -/
theorem RE.new {i : Nat} {a : Addr} {d : D} (r : RE G A m env σ H) (hm : m a) (na : ∀ j, A j ≠ some a) (ho : OwnAt G m H a d) : RE G (setA A i a) m (env.set i (.own d)) (σ.set i (some (.ref a))) H := by
  refine ⟨by rw [List.length_set, List.length_set]; exact r.len, fun j d' e => ?_, fun j d' e => ?_, fun j l b e1 e2 => ?_, fun j b e => ?_, r.live⟩
  · by_cases c : i = j
    · subst c
      have li : i < env.length := by
        have := (List.getElem?_eq_some_iff.mp e).1
        rwa [List.length_set] at this
      rw [List.getElem?_set_self li] at e
      cases e
    · rw [List.getElem?_set_ne c] at e ⊢
      exact r.val j d' e
  · by_cases c : i = j
    · subst c
      have li : i < env.length := by
        have := (List.getElem?_eq_some_iff.mp e).1
        rwa [List.length_set] at this
      rw [List.getElem?_set_self li] at e
      cases e
      exact ⟨a, setA_same, List.getElem?_set_self (by rw [← r.len]; exact li), ho⟩
    · rw [List.getElem?_set_ne c] at e ⊢
      obtain ⟨b, g1, g2, g3⟩ := r.own j d' e
      exact ⟨b, by rw [setA_ne (fun z => c z.symm)]; exact g1, g2, g3⟩
  · rcases setA_cases e1 with ⟨h1, h2⟩ | ⟨h1, h2⟩
    · rcases setA_cases e2 with ⟨h3, h4⟩ | ⟨h3, h4⟩
      · rw [h1, h3]
      · rw [h2] at h4
        exact (na l h4).elim
    · rcases setA_cases e2 with ⟨h3, h4⟩ | ⟨h3, h4⟩
      · rw [h4] at h2
        exact (na j h2).elim
      · exact r.inj j l b h2 h4
  · rcases setA_cases e with ⟨h1, h2⟩ | ⟨h1, h2⟩
    · rw [h2]; exact hm
    · exact r.mem j b h2
end
section
variable {S : Sx} {k : Nat} {sc : Scope} {X : Cx} {pos : Pos} {np : Nat} {fr : Bool}
theorem sn_new (h : Ct S k sc X) {e : Expr} {c : E} (s : Snd S X e c) {x : Str} {i : Nat} {py : Pos} (hl : isLoc sc x = true) (hi : ixOf S.C.N x = some i) (hf : frE S.C.F c = true) : PS X (.Assign [.Name x py] e pos) (tS S np fr (.new i c)) :=
  (set_name h s hl hi).imp fun D σ H ⟨A, m, env, fl, env', re, ev, o⟩ => by
    simp only [evS] at ev
    obtain ⟨d, e1, ev1, ev⟩ := oD ev
    have hc := (oi ev).1
    have e0 := (oi ev).2
    cases e0
    simp only [Bool.and_eq_true, decide_eq_true_eq] at hc
    refine ⟨A, m, env, d, e1, re, ev1, fun v H1 p => ?_⟩
    obtain ⟨a, rfl, ha, r2, ho⟩ := p.fr hf hc.1.1
    have na : ∀ j, A j ≠ some a := fun j z => re.live a (re.mem j a z) ha
    refine o (setA A i a) (ad m a) _ H1 ⟨p.nx.keep, p.nx.live, fun b z => .inr z, fun b z => z.elim (fun z => .inr (z ▸ ha)) .inl, fun j hj => setA_ne (by have := hc.1.2; omega), fun j hj => setA_ne ?_, fun j b z => ?_⟩ (r2.new (.inl rfl) na ho)
    · intro z
      subst z
      simp [newS] at hj
    · rcases setA_cases z with ⟨h1, h2⟩ | ⟨h1, h2⟩
      · exact .inr (h2 ▸ ha)
      · exact .inl h2

/-! ### stores into owned things; rows of targets -/
def tGS (S : Sx) (t : Qx.TS) : TG := fun v σ H Q => ∃ A m env d env', RE S.G A m env σ H ∧ Rep S.G m H d v ∧ putS S.Φ S.R t d env = some env' ∧ ∀ σ' H', Nx A H H' → RE S.G A m env' σ' H' → Q σ' H'
def tGSs (S : Sx) (ts : List Qx.TS) : TGs := fun vs σ H Q => ∃ A m env ds env', RE S.G A m env σ H ∧ Reps S.G m H ds vs ∧ putSs S.Φ S.R ts ds env = some env' ∧ ∀ σ' H', Nx A H H' → RE S.G A m env' σ' H' → Q σ' H'
theorem pset_or {t t' : TSet} (h : PSet X t) (h' : PSet X t') : PSet X (fun o i v H Q => t o i v H Q ∨ t' o i v H Q) :=
  fun pins s σ H o i v ov iv u Q I r1 r2 r3 w => w.elim (h pins s σ H o i v ov iv u Q I r1 r2 r3) (h' pins s σ H o i v ov iv u Q I r1 r2 r3)
theorem gs_name (h : Ct S k sc X) {x : Str} {i : Nat} {p : Pos} (hl : isLoc sc x = true) (hi : ixOf S.C.N x = some i) : PG X (.Name x p) (tGS S (.tn (.nm i))) :=
  (tg_name h hl hi).imp fun v σ H Q ⟨A, m, env, d, env', re, rp, hp, q⟩ => ⟨A, m, env, d, env', re, rp, by simpa only [putS] using hp, fun σ' r _ _ => q σ' H .refl r⟩
theorem gs_sub (h : Ct S k sc X) {x : Str} {ix : Expr} {i : Nat} {p p2 : Pos} {y : E} (so : PE X (.Name x p) (tA S (.own i))) (si : Snd S X ix y) (ns : isSlc ix = false) : PG X (.Subscript (.Name x p) ix p2) (tGS S (.sb i y)) := by
  have hu : X.A.units + 1 < cLine := by have := h.un; omega
  refine (pg_sub so si.pe (pset_or set_list (set_dict hu)) (assignSub_ok ns)).imp fun v σ H Q ⟨A, m, env, d, env', re, rp, hp, q⟩ => ?_
  simp only [putS] at hp
  have hio := (oi hp).1
  replace hp := (oi hp).2
  obtain ⟨kd, e1, ev1, hp⟩ := oD hp
  obtain ⟨oo, ho, hp⟩ := o1 hp
  obtain ⟨o', hs, hp⟩ := o1 hp
  cases hp
  refine ⟨A, m, env, .o i, env, re, by simp only [opE]; rw [if_pos hio], fun ov H1 n1 r1 a1 => ⟨A, m, env, kd, e1, r1, ev1, fun iv H2 p2 => ?_⟩⟩
  obtain ⟨a, ha, rfl⟩ := a1
  obtain ⟨a', ha', hsg, hown⟩ := p2.re.own i _ (getO_some ho)
  rw [ha] at ha'; cases ha'
  have rv : Rep S.G m H2 d v := rp.mono (re.kp (n1.trans p2.nx))
  obtain ⟨ob, hw, hh⟩ := set_vw (p2.re.mem i a ha) p2.re.live hown p2.rep rv hs
  have fin : Q σ (upd H2 a ob) := q σ _ (n1.trans (p2.nx.trans (Nx.upd ha))) (p2.re.upd (getO_lt ho) ha hsg hw)
  rcases hh with hh | hh
  · exact .inl (hh (fun H3 => Q σ H3) fin)
  · exact .inr ⟨a, _, rfl, hh, fin⟩
theorem putSs_len {Φ : Orc} {R : Rfs} : ∀ {ts : List Qx.TS} {ds : List Qx.D} {env env' : En}, putSs Φ R ts ds env = some env' → ts.length = ds.length
  | [], [], env, env', h => rfl
  | t :: ts, d :: ds, env, env', h => by
    simp only [putSs] at h
    obtain ⟨e1, h1, h2⟩ := o1E h
    rw [List.length_cons, List.length_cons, putSs_len h2]
  | [], d :: ds, env, env', h => by simp [putSs] at h
  | t :: ts, [], env, env', h => by simp [putSs] at h
/-- targets with their readings -/
inductive Tgs (S : Sx) (X : Cx) : List Expr → List Qx.TS → Prop
  | nil : Tgs S X [] []
  | cons {e : Expr} {t : Qx.TS} {es : List Expr} {ts : List Qx.TS} : isStar e = false → PG X e (tGS S t) → Tgs S X es ts → Tgs S X (e :: es) (t :: ts)
theorem Tgs.pgs : ∀ {es : List Expr} {ts : List Qx.TS}, Tgs S X es ts → PGs X es (tGSs S ts)
  | _, _, .nil => ⟨fun pins s σ H vs us Q I r w => pgs_nil.run pins s σ H vs us Q I r (by
    obtain ⟨A, m, env, ds, env', re, rp, hp, q⟩ := w
    cases ds with
    | nil =>
      simp only [putSs] at hp
      cases hp
      exact ⟨rp.inv0, q σ H .refl re⟩
    | cons d ds => simp [putSs] at hp)⟩
  | _, _, .cons st h1 t => ⟨fun pins s σ H vs us Q I r w => (pgs_cons h1 t.pgs (by rw [assignEach_ok st]; rfl)).run pins s σ H vs us Q I r (by
    obtain ⟨A, m, env, ds, env', re, rp, hp, q⟩ := w
    cases ds with
    | nil => simp [putSs] at hp
    | cons d ds =>
      simp only [putSs] at hp
      obtain ⟨e1, hp1, hp2⟩ := o1E hp
      obtain ⟨v, vs', rfl, g1, g2⟩ := rp.inv
      exact ⟨v, vs', rfl, A, m, env, d, e1, re, g1, hp1, fun σ1 H1 n1 r1 => ⟨A, m, e1, ds, env', r1, g2.mono (re.kp n1), hp2, fun σ2 H2 n2 r2 => q σ2 H2 (n1.trans n2) r2⟩⟩)⟩
theorem Tgs.star : ∀ {es : List Expr} {ts : List Qx.TS}, Tgs S X es ts → (∀ e ∈ es, isStar e = false) ∧ es.length = ts.length
  | _, _, .nil => ⟨by simp, rfl⟩
  | _, _, .cons st h1 t => by
    obtain ⟨g1, g2⟩ := t.star
    refine ⟨fun e he => ?_, by simp [g2]⟩
    rcases List.mem_cons.mp he with rfl | he
    · exact st
    · exact g1 e he
theorem gs_tup (h : Ct S k sc X) {es : List Expr} {ts : List Qx.TS} {kk : Nat} {p : Pos} (t : Tgs S X es ts) : PG X (.Tuple es kk p) (fun v σ H Q => ∃ A m env ds env', RE S.G A m env σ H ∧ Rep S.G m H (.tup ds) v ∧ putSs S.Φ S.R ts ds env = some env' ∧ ∀ σ' H', Nx A H H' → RE S.G A m env' σ' H' → Q σ' H') := by
  obtain ⟨st, hl⟩ := t.star
  obtain ⟨g1, g2, _⟩ := each_ok (env := X.env) st
  refine (pg_tup h.calm t.pgs (n := es.length) g1 g2).imp fun v σ H Q ⟨A, m, env, ds, env', re, rp, hp, q⟩ => ?_
  simp only [Rep] at rp
  obtain ⟨a, xs, rfl, h1, h2⟩ := rp
  exact ⟨a, xs, rfl, by rw [h.hK]; exact h1.sq, by rw [← h2.length, ← putSs_len hp, hl], A, m, env, ds, env', re, h2, hp, q⟩
def isTup : Expr → Bool
  | .Tuple _ _ _ => true
  | _ => false
theorem sole_tup {ts : List Expr} {kk : Nat} {p : Pos} {e : Expr} {l : Nat} {env : Env} : swapsWithSole [.Tuple ts kk p] e l env = pure false := by cases e <;> rfl
theorem sole_sub {o i : Expr} {p : Pos} {e : Expr} {l : Nat} {env : Env} : swapsWithSole [.Subscript o i p] e l env = pure false := by cases e <;> rfl
theorem swst_tup {ts : List Expr} {kk : Nat} {p : Pos} {e : Expr} {env : Env} (n : isTup e = false) : swappedStores [.Tuple ts kk p] e env = pure none := by cases e <;> first | rfl | cases n
theorem sn_sub (h : Ct S k sc X) {e : Expr} {c : E} (s : Snd S X e c) {x : Str} {ix : Expr} {i : Nat} {p p2 : Pos} {y : E} (so : PE X (.Name x p) (tA S (.own i))) (si : Snd S X ix y) (ns : isSlc ix = false) :
    PS X (.Assign [.Subscript (.Name x p) ix p2] e pos) (tS S np fr (.asg (.sb i y) c)) :=
  (ps_asg s.pe (gs_sub h so si ns) sole_sub (by cases e <;> rfl) (by rw [assignEach_ok rfl]; rfl)).imp fun D σ H ⟨A, m, env, fl, env', re, ev, o⟩ => by
    simp only [evS] at ev
    obtain ⟨d, e1, ev1, ev⟩ := oD ev
    obtain ⟨e2, hp, e0⟩ := omap ev
    cases e0
    exact ⟨A, m, env, d, e1, re, ev1, fun v H1 q => ⟨A, m, e1, d, _, q.re, q.rep, hp, fun σ' H' n' r' => o A m σ' H' (.nx (q.nx.trans n')) r'⟩⟩
theorem sn_tgt (h : Ct S k sc X) {e : Expr} {c : E} (s : Snd S X e c) {es : List Expr} {kk : Nat} {p : Pos} {ts : List TN} (ht : cTN S.C sc 8 (.Tuple es kk p) = some (.tp ts)) (n : isTup e = false) :
    PS X (.Assign [.Tuple es kk p] e pos) (tS S np fr (.asg (.tn (.tp ts)) c)) :=
  (ps_asg s.pe (tg_ok h 8 _ _ ht) sole_tup (swst_tup n) (by rw [assignEach_ok rfl]; rfl)).imp fun D σ H ⟨A, m, env, fl, env', re, ev, o⟩ => by
    simp only [evS] at ev
    obtain ⟨d, e1, ev1, ev⟩ := oD ev
    obtain ⟨e2, hp, e0⟩ := omap ev
    cases e0
    simp only [putS] at hp
    exact ⟨A, m, env, d, e1, re, ev1, fun v H1 q => ⟨A, m, e1, d, _, q.re, q.rep, hp, fun σ' r' _ _ => o A m σ' H1 (.nx q.nx) r'⟩⟩
theorem sn_tps (h : Ct S k sc X) {e : Expr} {c : E} (s : Snd S X e c) {es : List Expr} {kk : Nat} {p : Pos} {ts : List Qx.TS} (t : Tgs S X es ts) (hw : swappedStores [.Tuple es kk p] e X.env = pure none) :
    PS X (.Assign [.Tuple es kk p] e pos) (tS S np fr (.asg (.tps ts) c)) :=
  (ps_asg s.pe (gs_tup h t) sole_tup hw (by rw [assignEach_ok rfl]; rfl)).imp fun D σ H ⟨A, m, env, fl, env', re, ev, o⟩ => by
    simp only [evS] at ev
    cases q0 : evE S.Φ S.R c env with
    | none => rw [q0] at ev; cases ev
    | some r =>
      obtain ⟨d, e1⟩ := r
      rw [q0] at ev
      cases d <;> (first | (simp only at ev; cases ev; done) | skip)
      rename_i ds
      simp only at ev
      obtain ⟨e2, hp, e0⟩ := omap ev
      cases e0
      exact ⟨A, m, env, _, e1, re, q0, fun v H1 q => ⟨A, m, e1, ds, _, q.re, q.rep, hp, fun σ' H' n' r' => o A m σ' H' (.nx (q.nx.trans n')) r'⟩⟩
end
end Qx
set_option Elab.async false
set_option linter.all false
set_option maxRecDepth 100000
set_option maxHeartbeats 4000000
/-! QStm4: a, b = x, y. -/
namespace Qx
open PySem PySem.Spec PyProof.Rows L2

def setAll : L2.St → List (Nat × Bool) → List V → L2.St
  | σ, (i, _) :: is, v :: vs => setAll (σ.set i (some v)) is vs
  | σ, _, _ => σ
def ParR (G : Gd) (M : AdP) (H' : Hp) : Hp → List (Nat × Bool) → List D → List V → Prop
  | _, [], [], [] => True
  | H0, (_, true) :: is, d :: ds, v :: vs => ∃ a H1, v = .ref a ∧ H0 a = none ∧ H1 a ≠ none ∧ (∀ x, H0 x ≠ none → H1 x ≠ none) ∧ M a ∧ OwnAt G M H' a d ∧ ParR G M H' H1 is ds vs
  | H0, (_, false) :: is, d :: ds, v :: vs => ∃ H1, (∀ x, H0 x ≠ none → H1 x ≠ none) ∧ Rep G M H' d v ∧ ParR G M H' H1 is ds vs
  | _, _, _, _ => False
def ownC : List (Nat × Bool) → List D → Bool
  | (_, b) :: is, d :: ds => (!b || isC d) && ownC is ds
  | _, _ => true
theorem ParR.len {G : Gd} {M : AdP} {H' : Hp} : ∀ {is : List (Nat × Bool)} {ds : List D} {vs : List V} {H0 : Hp}, ParR G M H' H0 is ds vs → vs.length = is.length
  | [], [], [], _, _ => rfl
  | (_, true) :: is, d :: ds, v :: vs, H0, h => by
    simp only [ParR] at h
    obtain ⟨a, H1, _, _, _, _, _, _, h⟩ := h
    simp [h.len]
  | (_, false) :: is, d :: ds, v :: vs, H0, h => by
    simp only [ParR] at h
    obtain ⟨H1, _, _, h⟩ := h
    simp [h.len]
  | [], [], v :: vs, _, h => by simp [ParR] at h
  | [], d :: ds, _, _, h => by simp [ParR] at h
  | p :: is, [], _, _, h => by obtain ⟨i, b⟩ := p; cases b <;> simp [ParR] at h
  | p :: is, d :: ds, [], _, h => by obtain ⟨i, b⟩ := p; cases b <;> simp [ParR] at h
theorem putPar_ownC : ∀ {is : List (Nat × Bool)} {ds : List D} {env env' : En}, putPar is ds env = some env' → ownC is ds = true
  | [], [], env, env', h => rfl
  | [], d :: ds, env, env', h => rfl
  | p :: is, [], env, env', h => rfl
  | (i, b) :: is, d :: ds, env, env', h => by
    simp only [putPar] at h
    replace h := (oi h).2
    cases b with
    | true =>
      rw [if_pos rfl] at h
      have hc := (oi h).1
      simp only [ownC, hc, Bool.or_true, Bool.true_and]
      exact putPar_ownC (oi h).2
    | false =>
      rw [if_neg (by decide)] at h
      simp only [ownC, Bool.not_false, Bool.true_or, Bool.true_and]
      exact putPar_ownC (oni h).2
section
variable {G : Gd} {M : AdP} {H' : Hp} {np : Nat}
theorem par_store : ∀ {is : List (Nat × Bool)} {ds : List D} {vs : List V} {H0 : Hp} {A : Slots} {env env' : En} {σ : L2.St}, RE G A M env σ H' → (∀ i a, A i = some a → H0 a ≠ none) → ParR G M H' H0 is ds vs → putPar is ds env = some env' → (is.all fun t => !t.2 || decide (np ≤ t.1)) = true →
    ∃ A', RE G A' M env' (setAll σ is vs) H' ∧ (∀ j, j < np → A' j = A j) ∧ (∀ j, (is.any fun t => t.1 == j && t.2) = false → A' j = A j) ∧ ∀ j a, A' j = some a → A j = some a ∨ H0 a = none
  | [], [], [], H0, A, env, env', σ, r, hA, hp, he, hn => by
    simp only [putPar] at he
    cases he
    exact ⟨A, r, fun _ _ => rfl, fun _ _ => rfl, fun _ _ h => .inl h⟩
  | (i, true) :: is, d :: ds, v :: vs, H0, A, env, env', σ, r, hA, hp, he, hn => by
    simp only [ParR] at hp
    obtain ⟨a, H1, rfl, g1, g2, g3, g4, g5, hp⟩ := hp
    simp only [putPar] at he
    replace he := (oi he).2
    rw [if_pos trivial] at he
    replace he := (oi he).2
    have na : ∀ j, A j ≠ some a := fun j z => hA j a z g1
    simp only [List.all_cons, Bool.and_eq_true, Bool.not_true, Bool.false_or, decide_eq_true_eq] at hn
    obtain ⟨A', k1, k2, k3, k4⟩ := par_store (r.new g4 na g5) (fun j b z => by
      rcases setA_cases z with ⟨_, h2⟩ | ⟨_, h2⟩
      · rw [h2]; exact g2
      · exact g3 b (hA j b h2)) hp he hn.2
    refine ⟨A', k1, fun j hj => by rw [k2 j hj]; exact setA_ne (by have := hn.1; omega), fun j hj => ?_, fun j b z => ?_⟩
    · simp only [List.any_cons, Bool.and_true, Bool.or_eq_false_iff] at hj
      rw [k3 j hj.2]
      refine setA_ne fun z => ?_
      rw [z] at hj
      simp at hj
    · rcases k4 j b z with z | z
      · rcases setA_cases z with ⟨_, h2⟩ | ⟨_, h2⟩
        · exact .inr (h2 ▸ g1)
        · exact .inl h2
      · refine .inr ?_
        cases q : H0 b with
        | none => rfl
        | some o => exact (g3 b (by rw [q]; exact fun z => nomatch z) z).elim
  | (i, false) :: is, d :: ds, v :: vs, H0, A, env, env', σ, r, hA, hp, he, hn => by
    simp only [ParR] at hp
    obtain ⟨H1, g3, g5, hp⟩ := hp
    simp only [putPar] at he
    replace he := (oi he).2
    rw [if_neg (by decide)] at he
    replace he := (oni he).2
    simp only [List.all_cons, Bool.and_eq_true] at hn
    obtain ⟨A', k1, k2, k3, k4⟩ := par_store (r.put g5) (fun j b z => g3 b (hA j b z)) hp he hn.2
    refine ⟨A', k1, k2, fun j hj => ?_, fun j b z => ?_⟩
    · simp only [List.any_cons, Bool.or_eq_false_iff] at hj
      exact k3 j hj.2
    · rcases k4 j b z with z | z
      · exact .inl z
      · refine .inr ?_
        cases q : H0 b with
        | none => rfl
        | some o => exact (g3 b (by rw [q]; exact fun z => nomatch z) z).elim
  | [], [], v :: vs, _, _, _, _, _, _, _, h, _, _ => by simp [ParR] at h
  | [], d :: ds, _, _, _, _, _, _, _, _, h, _, _ => by simp [ParR] at h
  | (i, true) :: is, [], _, _, _, _, _, _, _, _, h, _, _ => by simp [ParR] at h
  | (i, false) :: is, [], _, _, _, _, _, _, _, _, h, _, _ => by simp [ParR] at h
  | (i, true) :: is, d :: ds, [], _, _, _, _, _, _, _, h, _, _ => by simp [ParR] at h
  | (i, false) :: is, d :: ds, [], _, _, _, _, _, _, _, h, _, _ => by simp [ParR] at h
end
def tPv (S : Sx) (is : List (Nat × Bool)) (cs : List E) : TA := fun σ H Q => ∃ A m env ds env', RE S.G A m env σ H ∧ evEs S.Φ S.R cs env = some (ds, env') ∧ ownC is ds = true ∧
  ∀ vs H' M, Nx A H H' → RE S.G A M env' σ H' → (∀ a, m a → M a) → (∀ a, M a → m a ∨ H a = none) → ParR S.G M H' H is ds vs → Q vs H'
section
variable {S : Sx} {k : Nat} {sc : Scope} {X : Cx} {pos : Pos} {np : Nat} {fr : Bool}
theorem par_pa : ∀ {es : List Expr} {cs : List E} {is : List (Nat × Bool)}, Snds S X es cs → freshAll S.C.F is cs = true → PA X es (tPv S is cs)
  | _, _, [], .nil, _ => pa_nil.imp fun σ H Q ⟨A, m, env, ds, env', re, ev, oc, q⟩ => by
    simp only [evEs] at ev
    cases ev
    exact q [] H m .refl re (fun _ h => h) (fun _ h => .inl h) (by simp only [ParR])
  | _, _, (i, true) :: is, .cons st s t, hf => by
    simp only [freshAll, Bool.and_eq_true] at hf
    refine (pa_cons s.pe (par_pa t hf.2) (starEach_ok st)).imp fun σ H Q ⟨A, m, env, ds, env', re, ev, oc, q⟩ => ?_
    simp only [evEs] at ev
    obtain ⟨d, e1, ev1, ev⟩ := oD ev
    obtain ⟨ds', e2, ev2, ev⟩ := oL ev
    cases ev
    simp only [ownC, Bool.not_true, Bool.false_or, Bool.and_eq_true] at oc
    refine ⟨A, m, env, d, e1, re, ev1, fun v H1 p1 => ?_⟩
    obtain ⟨a, rfl, ha, r2, ho⟩ := p1.fr hf.1 oc.1
    refine ⟨A, ad m a, e1, ds', _, r2, ev2, oc.2, fun vs H2 M n2 r3 k1 k2 pr => ?_⟩
    have la : H1 a ≠ none := r2.live a (.inl rfl)
    have na : ∀ j, A j ≠ some a := fun j z => re.live a (re.mem j a z) ha
    have kp : Kp (ad m a) M H1 H2 := ⟨fun b o e z => n2.keep b o e fun j y => z (r2.mem j b y), k2⟩
    refine q _ H2 M (p1.nx.trans n2) r3 (fun b z => k1 b (.inr z)) (fun b z => (k2 b z).elim (fun z => z.elim (fun z => .inr (z ▸ ha)) .inl) fun z => .inr (p1.nx.free z)) ?_
    simp only [ParR]
    exact ⟨a, H1, rfl, ha, la, p1.nx.live, k1 a (.inl rfl), ho.mono kp fun o e => n2.keep a o e na, pr⟩
  | _, _, (i, false) :: is, .cons st s t, hf => by
    simp only [freshAll] at hf
    refine (pa_cons s.pe (par_pa t hf) (starEach_ok st)).imp fun σ H Q ⟨A, m, env, ds, env', re, ev, oc, q⟩ => ?_
    simp only [evEs] at ev
    obtain ⟨d, e1, ev1, ev⟩ := oD ev
    obtain ⟨ds', e2, ev2, ev⟩ := oL ev
    cases ev
    simp only [ownC, Bool.not_false, Bool.true_or, Bool.true_and] at oc
    refine ⟨A, m, env, d, e1, re, ev1, fun v H1 p1 => ⟨A, m, e1, ds', _, p1.re, ev2, oc, fun vs H2 M n2 r3 k1 k2 pr => ?_⟩⟩
    have kp : Kp m M H1 H2 := ⟨fun b o e z => n2.keep b o e fun j y => z (p1.re.mem j b y), k2⟩
    refine q _ H2 M (p1.nx.trans n2) r3 k1 (fun b z => (k2 b z).elim .inl fun z => .inr (p1.nx.free z)) ?_
    simp only [ParR]
    exact ⟨H1, p1.nx.live, p1.rep.mono kp, pr⟩
  | _, _, [], .cons st s t, hf => by simp [freshAll] at hf
  | _, _, p :: is, .nil, hf => by obtain ⟨i, b⟩ := p; cases b <;> simp [freshAll] at hf
/-- names to be stored in -/
inductive Nms (S : Sx) (sc : Scope) : List Expr → List (Nat × Bool) → Prop
  | nil : Nms S sc [] []
  | cons {x : Str} {p : Pos} {i : Nat} {b : Bool} {ts : List Expr} {is : List (Nat × Bool)} : isLoc sc x = true → ixOf S.C.N x = some i → Nms S sc ts is → Nms S sc (.Name x p :: ts) ((i, b) :: is)
theorem Nms.loc : ∀ {ts : List Expr} {is : List (Nat × Bool)}, Nms S sc ts is → (∀ t ∈ ts, ∀ id p, t = .Name id p → isLoc sc id = true) ∧ (∀ t ∈ ts, isStar t = false) ∧ ts.length = is.length
  | _, _, .nil => ⟨by simp, by simp, rfl⟩
  | _, _, .cons h1 h2 t => by
    obtain ⟨g1, g2, g3⟩ := t.loc
    refine ⟨fun t ht id p e => ?_, fun t ht => ?_, by simp [g3]⟩
    · rcases List.mem_cons.mp ht with rfl | ht
      · cases e; exact h1
      · exact g1 t ht id p e
    · rcases List.mem_cons.mp ht with rfl | ht
      · rfl
      · exact g2 t ht
def gAll : List (Nat × Bool) → TGs
  | [] => gNil
  | (i, _) :: is => gCons (gName i) (gAll is)
theorem Nms.pgs (h : Ct S k sc X) : ∀ {ts : List Expr} {is : List (Nat × Bool)}, Nms S sc ts is → PGs X ts (gAll is)
  | _, _, .nil => pgs_nil
  | _, _, .cons h1 h2 t => by
    obtain ⟨l1, l2⟩ := h.locL h1
    exact pgs_cons (pg_name (by rw [h.N]; exact h.nd) (h.ix h2) l1 l2) (t.pgs h) (by rw [assignEach_ok rfl]; rfl)
theorem gAll_run : ∀ {is : List (Nat × Bool)} {vs : List V} {σ : L2.St} {H : Hp} {Q : L2.St → Hp → Prop}, vs.length = is.length → Q (setAll σ is vs) H → gAll is vs σ H Q
  | [], [], σ, H, Q, _, q => ⟨rfl, q⟩
  | (i, b) :: is, v :: vs, σ, H, Q, l, q => ⟨v, vs, rfl, gAll_run (by simpa using l) q⟩
  | [], v :: vs, σ, H, Q, l, q => by simp at l
  | p :: is, [], σ, H, Q, l, q => by simp at l
def tParG (is : List (Nat × Bool)) (ta : TA) : L2.TS := fun D σ H => ta σ H fun vs H1 => vs.length = is.length ∧ vs.length ≤ sizeLine ∧ ∀ H2, Ex H1 H2 → D.nx (setAll σ is vs) H2
theorem sw1_names {ts vs : List Expr} {loc : Str → Bool} (h : swk true loc ts vs = 1) : (swNames loc ts).length = ts.length ∧ (swNames loc ts).eraseDups.length = (swNames loc ts).length ∧ vs.length = ts.length ∧ (ts.length = 2 ∨ ts.length = 3) := by
  unfold swk at h
  split at h
  · cases h
  · rename_i h1
    split at h
    · cases h
    · split at h
      · cases h
      · rename_i h3
        simp only [Bool.or_eq_true, Bool.not_eq_true', not_or, bne_iff_ne, ne_eq, Decidable.not_not, beq_iff_eq, Bool.not_eq_false, Bool.or_eq_true] at h1 h3
        refine ⟨h3.1, h3.2, h1.1.2, ?_⟩
        simpa using h1.1.1
theorem ne_of_dups {loc : Str → Bool} {x y : Str} {i j : Nat} (h : Ct S k sc X) (hi : ixOf S.C.N x = some i) (hj : ixOf S.C.N y = some j) (ne : x ≠ y) : i ≠ j := fun z => by
  subst z
  have a := ixOf_some hi
  rw [ixOf_some hj] at a
  exact ne (Option.some.inj a).symm
theorem locB_local (h : Ct S k sc X) {x : Str} (e : Qx.locB sc x = true) : X.env.scope.names.lookup x = some .local := by
  unfold Qx.locB at e
  split at e
  · rename_i q; exact h.loc x q
  · cases e
theorem fm_len {α β : Type} {f : α → Option β} : ∀ {l : List α}, (l.filterMap f).length ≤ l.length
  | [] => Nat.le_refl _
  | a :: l => by
    rw [List.filterMap_cons]
    split
    · exact Nat.le_succ_of_le fm_len
    · rw [List.length_cons, List.length_cons]
      exact Nat.succ_le_succ fm_len
theorem fm_all {α β : Type} {f : α → Option β} : ∀ {l : List α}, (l.filterMap f).length = l.length → ∀ a ∈ l, ∃ b, f a = some b
  | [], _, a, h => by cases h
  | a :: l, e, b, h => by
    rw [List.filterMap_cons] at e
    cases q : f a with
    | none =>
      rw [q] at e
      have := fm_len (f := f) (l := l)
      simp only [List.length_cons] at e
      omega
    | some c =>
      rw [q] at e
      rcases List.mem_cons.mp h with rfl | h
      · exact ⟨c, q⟩
      · exact fm_all (by simpa using e) b h
theorem swF_some {loc : Str → Bool} {l : Nat} {x b : Str} {p : Pos} (h : swF loc l (.Name x p) = some b) : loc x = true ∧ b = x := by
  simp only [swF] at h
  have h1 := (oi h).1
  have h2 := (oi h).2
  rw [Bool.and_eq_true] at h1
  exact ⟨h1.1, (Option.some.inj h2).symm⟩
theorem sw_name_ok {loc : Str → Bool} {ts : List Expr} (hl : (swNames loc ts).length = ts.length) {x : Str} {p : Pos} (hx : Expr.Name x p ∈ ts) : loc x = true := by
  obtain ⟨b, hb⟩ := fm_all hl _ hx
  exact (swF_some hb).1
theorem sw_names2 {loc : Str → Bool} {x y : Str} {px py : Pos} (hl : (swNames loc [.Name x px, .Name y py]).length = 2) : swNames loc [.Name x px, .Name y py] = [x, y] := by
  obtain ⟨b1, e1⟩ := fm_all hl _ List.mem_cons_self
  obtain ⟨b2, e2⟩ := fm_all hl _ (List.mem_cons_of_mem _ List.mem_cons_self)
  have c1 := (swF_some e1).2
  have c2 := (swF_some e2).2
  unfold swNames
  rw [List.filterMap_cons, List.filterMap_cons, List.filterMap_nil, e1, e2, c1, c2]
theorem sw_names3 {loc : Str → Bool} {x y z : Str} {px py pz : Pos} (hl : (swNames loc [.Name x px, .Name y py, .Name z pz]).length = 3) : swNames loc [.Name x px, .Name y py, .Name z pz] = [x, y, z] := by
  obtain ⟨b1, e1⟩ := fm_all hl _ List.mem_cons_self
  obtain ⟨b2, e2⟩ := fm_all hl _ (List.mem_cons_of_mem _ List.mem_cons_self)
  obtain ⟨b3, e3⟩ := fm_all hl _ (List.mem_cons_of_mem _ (List.mem_cons_of_mem _ List.mem_cons_self))
  have c1 := (swF_some e1).2
  have c2 := (swF_some e2).2
  have c3 := (swF_some e3).2
  unfold swNames
  rw [List.filterMap_cons, List.filterMap_cons, List.filterMap_cons, List.filterMap_nil, e1, e2, e3, c1, c2, c3]
theorem dups2 {x y : Str} (h : ([x, y] : List Str).eraseDups.length = 2) : x ≠ y := fun e => by
  subst e
  simp [List.eraseDups_cons] at h
theorem dups3 {x y z : Str} (h : ([x, y, z] : List Str).eraseDups.length = 3) : x ≠ y ∧ x ≠ z ∧ y ≠ z := by
  refine ⟨fun e => ?_, fun e => ?_, fun e => ?_⟩
  · subst e
    rw [List.eraseDups_cons] at h
    have : ((List.filter (fun b => !b == x) [x, z]).eraseDups).length ≤ 1 := by
      by_cases c : (!z == x) = true
      · simp [List.filter_cons, c, List.eraseDups_cons]
      · simp [List.filter_cons, c]
    simp only [List.length_cons] at h
    omega
  · subst e
    rw [List.eraseDups_cons] at h
    have : ((List.filter (fun b => !b == x) [y, x]).eraseDups).length ≤ 1 := by
      by_cases c : (!y == x) = true
      · simp [List.filter_cons, c, List.eraseDups_cons]
      · simp [List.filter_cons, c]
    simp only [List.length_cons] at h
    omega
  · subst e
    rw [List.eraseDups_cons] at h
    have : ((List.filter (fun b => !b == x) [y, y]).eraseDups).length ≤ 1 := by
      by_cases c : (!y == x) = true
      · simp [List.filter_cons, c, List.eraseDups_cons]
      · simp [List.filter_cons, c]
    simp only [List.length_cons] at h
    omega
theorem ps_row (h : Ct S k sc X) {ts vs : List Expr} {is : List (Nat × Bool)} {ta : TA} {kk k2 : Nat} {p p2 : Pos} (mono : ∀ σ H (Q Q' : List V → Hp → Prop), (∀ vs H, Q vs H → Q' vs H) → ta σ H Q → ta σ H Q') (nm : Nms S sc ts is) (ha : PA X vs ta)
    (hw : swk true (Qx.locB sc) ts vs = 0 ∨ swk true (Qx.locB sc) ts vs = 1) : PS X (.Assign [.Tuple ts kk p] (.Tuple vs k2 p2) pos) (tParG is ta) := by
  obtain ⟨hl, hst, hlen⟩ := nm.loc
  obtain ⟨w0, w1⟩ := sw_stat h (vs := vs) (kk := kk) (k2 := k2) (p := p) (p2 := p2) hl
  have nd : X.N.Nodup := by rw [h.N]; exact h.nd
  rcases hw with hw | hw
  · obtain ⟨g1, g2, _⟩ := each_ok (env := X.env) hst
    refine (ps_asg (pe_tup ha) (pg_tup h.calm (nm.pgs h) (n := ts.length) g1 g2) sole_tup (w0 hw) (by rw [assignEach_ok rfl]; rfl)).imp fun D σ H w => ?_
    refine mono σ H _ _ (fun us H1 q => ⟨q.2.1, fun pp hp => ?_⟩) w
    exact ⟨pp, us, rfl, .inl (.inl upd_same), q.1.trans hlen.symm, gAll_run q.1 (q.2.2 _ (Ex.laid hp))⟩
  · obtain ⟨s1, s2, s3, s4⟩ := sw1_names hw
    have w1 := w1 hw
    cases nm with
    | nil => rcases s4 with s4 | s4 <;> cases s4
    | @cons x px i b ts1 is1 h1 h2 nm1 =>
      cases nm1 with
      | nil => rcases s4 with s4 | s4 <;> cases s4
      | @cons y py j b2 ts2 is2 h3 h4 nm2 =>
        have lx := locB_local h (sw_name_ok s1 (x := x) (p := px) List.mem_cons_self)
        have ly := locB_local h (sw_name_ok s1 (x := y) (p := py) (List.mem_cons_of_mem _ List.mem_cons_self))
        cases nm2 with
        | nil =>
          have en := sw_names2 s1
          rw [en] at s2 w1
          obtain ⟨a, rr, rfl⟩ : ∃ a rr, vs = a :: rr := by cases vs with | nil => cases s3 | cons a r => exact ⟨a, r, rfl⟩
          obtain ⟨a2, rr2, rfl⟩ : ∃ a rr', rr = a :: rr' := by cases rr with | nil => cases s3 | cons a r => exact ⟨a, r, rfl⟩
          have : rr2 = [] := by cases rr2 with | nil => rfl | cons _ _ => simp at s3
          subst this
          refine (ps_par h.calm nd (h.ix h2) (h.ix h4) (ne_of_dups (loc := Qx.locB sc) h h2 h4 (dups2 s2)) lx ly ha w1 rfl).imp fun D σ H w => ?_
          refine mono σ H _ _ (fun us H1 q => ?_) w
          obtain ⟨q1, _, q3⟩ := q
          match us, q1 with
          | [v, w], _ => exact ⟨v, w, rfl, q3 H1 Ex.refl⟩
        | @cons z pz l b3 ts3 is3 h5 h6 nm3 =>
          have lz := locB_local h (sw_name_ok s1 (x := z) (p := pz) (List.mem_cons_of_mem _ (List.mem_cons_of_mem _ List.mem_cons_self)))
          cases nm3 with
          | cons _ _ _ =>
            exfalso
            rcases s4 with s4 | s4 <;> simp at s4
          | nil =>
            have en := sw_names3 s1
            rw [en] at s2 w1
            obtain ⟨d1, d2, d3⟩ := dups3 s2
            obtain ⟨a, rr, rfl⟩ : ∃ a rr, vs = a :: rr := by cases vs with | nil => cases s3 | cons a r => exact ⟨a, r, rfl⟩
            obtain ⟨a2, rr2, rfl⟩ : ∃ a rr', rr = a :: rr' := by cases rr with | nil => cases s3 | cons a r => exact ⟨a, r, rfl⟩
            obtain ⟨a3, rr3, rfl⟩ : ∃ a rr', rr2 = a :: rr' := by cases rr2 with | nil => cases s3 | cons a r => exact ⟨a, r, rfl⟩
            have : rr3 = [] := by cases rr3 with | nil => rfl | cons _ _ => simp at s3
            subst this
            refine (ps_par3 h.calm nd (h.ix h2) (h.ix h4) (h.ix h6) (ne_of_dups (loc := Qx.locB sc) h h2 h4 d1) (ne_of_dups (loc := Qx.locB sc) h h2 h6 d2) (ne_of_dups (loc := Qx.locB sc) h h4 h6 d3) lx ly lz ha w1 rfl).imp fun D σ H w => ?_
            refine mono σ H _ _ (fun us H1 q => ?_) w
            obtain ⟨q1, _, q3⟩ := q
            match us, q1 with
            | [u, v, w], _ => exact ⟨u, v, w, rfl, q3 H1 Ex.refl⟩
theorem sn_par (h : Ct S k sc X) {ts vs : List Expr} {is : List (Nat × Bool)} {cs : List E} {kk k2 : Nat} {p p2 : Pos} (nm : Nms S sc ts is) (s : Snds S X vs cs) (hf : freshAll S.C.F is cs = true)
    (hw : swk true (Qx.locB sc) ts vs = 0 ∨ swk true (Qx.locB sc) ts vs = 1) (hz : is.length ≤ 100) : PS X (.Assign [.Tuple ts kk p] (.Tuple vs k2 p2) pos) (tS S np fr (.par is cs)) := by
  refine (ps_row h (fun σ H Q Q' k w => ?_) nm (par_pa s hf) hw).imp fun D σ H ⟨A, m, env, fl, env', re, ev, o⟩ => ?_
  · obtain ⟨A, m, env, ds, env', re, ev, oc, q⟩ := w
    exact ⟨A, m, env, ds, env', re, ev, oc, fun vs H' M a b c d e => k _ _ (q vs H' M a b c d e)⟩
  · simp only [evS] at ev
    obtain ⟨ds, e1, ev1, ev⟩ := oL ev
    have hc := (oi ev).1
    replace ev := (oi ev).2
    obtain ⟨e2, hp, e0⟩ := omap ev
    cases e0
    rw [Bool.and_eq_true] at hc
    refine ⟨A, m, env, ds, e1, re, ev1, putPar_ownC hp, fun us H1 M n1 r1 k1 k2 pr => ?_⟩
    refine ⟨pr.len, by rw [pr.len, sizeLine_eq]; omega, fun H2 ex => ?_⟩
    have hA : ∀ i a, A i = some a → H a ≠ none := fun i a e => re.live a (re.mem i a e)
    obtain ⟨A', g1, g2, g3, g4⟩ := par_store r1 hA pr hp hc.2
    refine o A' M _ H2 ⟨fun a u e n => ex a u (n1.keep a u e n), fun a z => ex.nx (A := A) |>.live a (n1.live a z), k1, k2, g2, fun j hj => g3 j (by simpa only [newS] using hj), g4⟩ (g1.ex ex)
end
end Qx
set_option Elab.async false
set_option linter.all false
set_option maxRecDepth 100000
set_option maxHeartbeats 4000000
/-! QStm5: for a, b in d.items(). -/
namespace Qx
open PySem PySem.Spec PyProof.Rows L2

/-! ### a dict is locked, unlocked -/
structure Kr (m m' : AdP) (H H' : Hp) : Prop where
  rd : ∀ b u, (∀ o w, u ≠ .frz o w) → Rd H b u → ¬ m b → Rd H' b u ∧ ¬ m' b
  tup : ∀ b xs, H b = some (.tup xs) → H' b = some (.tup xs)
section
variable {G : Gd} {m m' : AdP} {H H' : Hp}
mutual
theorem Rep.tr (k : Kr m m' H H') : ∀ (d : D) (v : V), Rep G m H d v → Rep G m' H' d v
  | .non, _, h => by simpa only [Rep] using h
  | .bl _, _, h => by simpa only [Rep] using h
  | .int _, _, h => by simpa only [Rep] using h
  | .str _, _, h => by simpa only [Rep] using h
  | .fn _, _, h => by simpa only [Rep] using h
  | .tup ds, _, h => by
    simp only [Rep] at h ⊢
    obtain ⟨a, xs, e, h1, h2⟩ := h
    exact ⟨a, xs, e, ⟨k.tup a xs h1.1, (k.rd a _ (fun _ _ z => by cases z) (.inl h1.1) h1.2).2⟩, Reps.tr k ds xs h2⟩
  | .lst ds, _, h => by
    simp only [Rep] at h ⊢
    obtain ⟨a, xs, e, h1, h2⟩ := h
    exact ⟨a, xs, e, h1.imp (fun z => k.rd a _ (fun _ _ z => by cases z) z.1 z.2) id, Reps.tr k ds xs h2⟩
  | .dct false ks vs, _, h => by
    simp only [Rep] at h ⊢
    obtain ⟨a, kvs, e, h1, h2, h3, h4⟩ := h
    exact ⟨a, kvs, e, (k.rd a _ (fun _ _ z => by cases z) h1 h2).1, (k.rd a _ (fun _ _ z => by cases z) h1 h2).2, h3, Reps.tr k vs _ h4⟩
  | .dct true ks vs, _, h => by
    simp only [Rep] at h ⊢
    obtain ⟨a, kvs, e, h1, h2, h3, h4⟩ := h
    exact ⟨a, kvs, e, (k.rd a _ (fun _ _ z => by cases z) h1 h2).1, (k.rd a _ (fun _ _ z => by cases z) h1 h2).2, h3, Reps.tr k vs _ h4⟩
theorem Reps.tr (k : Kr m m' H H') : ∀ (ds : List D) (xs : List V), Reps G m H ds xs → Reps G m' H' ds xs
  | [], _, h => by simpa only [Reps] using h
  | d :: ds, _, h => by
    simp only [Reps] at h ⊢
    obtain ⟨v, vs, e, h1, h2⟩ := h
    exact ⟨v, vs, e, Rep.tr k d v h1, Reps.tr k ds vs h2⟩
end
theorem OwnAt.tr {a : Addr} {d : D} (k : Kr m m' H H') (e : H' a = H a) (h : OwnAt G m H a d) : OwnAt G m' H' a d := by
  cases d with
  | lst ds => obtain ⟨xs, h1, h2⟩ := h; exact ⟨xs, e.trans h1, h2.tr k⟩
  | dct t ks vs =>
    cases t with
    | false => obtain ⟨kvs, h1, h2, h3⟩ := h; exact ⟨kvs, e.trans h1, h2, h3.tr k⟩
    | true => obtain ⟨kvs, h1, h2, h3⟩ := h; exact ⟨kvs, e.trans h1, h2, h3.tr k⟩
  | non => exact h
  | bl b => exact h
  | int b => exact h
  | str b => exact h
  | tup b => exact h
  | fn b => exact h
theorem RE.tr {A : Slots} {env : En} {σ : L2.St} (r : RE G A m env σ H) (k : Kr m m H H') (e : ∀ i a, A i = some a → H' a = H a) (l : ∀ a, H a ≠ none → H' a ≠ none) : RE G A m env σ H' :=
  ⟨r.len, fun i d q => let ⟨v, h1, h2⟩ := r.val i d q; ⟨v, h1, h2.tr k⟩, fun i d q => let ⟨a, h1, h2, h3⟩ := r.own i d q; ⟨a, h1, h2, h3.tr k (e i a h1)⟩, r.inj, r.mem, fun a z => l a (r.live a z)⟩
theorem kr_lock {a : Addr} {kvs : List (Key × V)} {od : Obj} (h : H a = some (.dK kvs)) : Kr m m H (upd H a (.frz od (.dK kvs))) where
  rd := fun b w nf hw n => by
    refine ⟨?_, n⟩
    by_cases c : b = a
    · subst c
      rcases hw with hw | ⟨o2, hw⟩
      · rw [h] at hw; cases hw
        exact .inr ⟨od, upd_same⟩
      · rw [h] at hw; cases hw
    · rcases hw with hw | ⟨o2, hw⟩
      · exact .inl (by rw [upd_ne c]; exact hw)
      · exact .inr ⟨o2, by rw [upd_ne c]; exact hw⟩
  tup := fun b xs hb => by
    rw [upd_ne (fun z => by subst z; rw [h] at hb; cases hb)]; exact hb
theorem kr_unlock {a : Addr} {kvs : List (Key × V)} {od : Obj} (h : H a = some (.frz od (.dK kvs))) : Kr m m H (upd H a (.dK kvs)) where
  rd := fun b w nf hw n => by
    refine ⟨?_, n⟩
    by_cases c : b = a
    · subst c
      rcases hw with hw | ⟨o2, hw⟩
      · rw [h] at hw; cases hw
        exact (nf _ _ rfl).elim
      · rw [h] at hw; cases hw
        exact .inl upd_same
    · rcases hw with hw | ⟨o2, hw⟩
      · exact .inl (by rw [upd_ne c]; exact hw)
      · exact .inr ⟨o2, by rw [upd_ne c]; exact hw⟩
  tup := fun b xs hb => by
    rw [upd_ne (fun z => by subst z; rw [h] at hb; cases hb)]; exact hb
theorem live_upd {a : Addr} {o : HO} {b : Addr} (h : H b ≠ none) : upd H a o b ≠ none := by
  by_cases c : b = a
  · rw [c, upd_same]; exact fun z => nomatch z
  · rw [upd_ne c]; exact h
theorem free_upd {a : Addr} {o : HO} {b : Addr} (ha : H a ≠ none) (h : upd H a o b = none) : H b = none := by
  by_cases c : b = a
  · rw [c, upd_same] at h; cases h
  · rw [upd_ne c] at h; exact h
end
section
variable {S : Sx} {k : Nat} {sc : Scope} {X : Cx} {pos : Pos} {np : Nat} {fr : Bool}
def lockD (a : Addr) (od : Obj) (u : HO) (D : Ends) : Ends := ⟨fun σ' H' => H' a = some (.frz od u) ∧ D.nx σ' (upd H' a u), fun v H' => H' a = some (.frz od u) ∧ D.rt v (upd H' a u), fun σ' H' => H' a = some (.frz od u) ∧ D.bk σ' (upd H' a u), fun σ' H' => H' a = some (.frz od u) ∧ D.ct σ' (upd H' a u)⟩
section
variable {nw : Nat → Bool} {A A' : Slots} {m m' : AdP} {H H' : Hp} {a : Addr} {kvs : List (Key × V)} {od : Obj}
theorem step_unlock (h : H a = some (.dK kvs)) (nA : ∀ i, A i ≠ some a) (s : Step np nw A m (upd H a (.frz od (.dK kvs))) A' m' H') : H' a = some (.frz od (.dK kvs)) ∧ Step np nw A m H A' m' (upd H' a (.dK kvs)) := by
  have ha : H a ≠ none := by rw [h]; exact fun z => nomatch z
  refine ⟨s.keep a _ upd_same nA, ⟨fun b o e n => ?_, fun b e => live_upd (s.live b (live_upd e)), s.more, fun b z => (s.new b z).imp id fun z => free_upd ha z, s.par, s.same, fun i b z => (s.own i b z).imp id fun z => free_upd ha z⟩⟩
  by_cases c : b = a
  · rw [c] at e ⊢
    rw [upd_same, ← e, h]
  · rw [upd_ne c]
    exact s.keep b o (by rw [upd_ne c]; exact e) n
theorem out_lock {D : Ends} {env' : En} {fl : Fl} (h : H a = some (.dK kvs)) (nA : ∀ i, A i ≠ some a) (o : Out S np fr nw D A m H env' fl) : Out S np fr nw (lockD a od (.dK kvs) D) A m (upd H a (.frz od (.dK kvs))) env' fl := by
  have nA' : ∀ {A' : Slots} {m' : AdP} {H' : Hp}, Step np nw A m (upd H a (.frz od (.dK kvs))) A' m' H' → ∀ i, A' i ≠ some a := fun t i z => by
    rcases t.own i a z with z | z
    · exact nA i z
    · rw [upd_same] at z; cases z
  have reOf : ∀ {A' : Slots} {m' : AdP} {σ' : L2.St} {H' : Hp}, Step np nw A m (upd H a (.frz od (.dK kvs))) A' m' H' → H' a = some (.frz od (.dK kvs)) → RE S.G A' m' env' σ' H' → RE S.G A' m' env' σ' (upd H' a (.dK kvs)) := fun t e r => by
    refine r.tr (kr_unlock e) (fun i b z => ?_) fun b z => live_upd z
    by_cases c : b = a
    · subst c
      exact (nA' t i z).elim
    · rw [upd_ne c]
  cases fl with
  | nx => exact fun A' m' σ' H' t r => let ⟨g1, g2⟩ := step_unlock h nA t; ⟨g1, o A' m' σ' _ g2 (reOf t g1 r)⟩
  | brk => exact fun A' m' σ' H' t r => let ⟨g1, g2⟩ := step_unlock h nA t; ⟨g1, o A' m' σ' _ g2 (reOf t g1 r)⟩
  | ct => exact fun A' m' σ' H' t r => let ⟨g1, g2⟩ := step_unlock h nA t; ⟨g1, o A' m' σ' _ g2 (reOf t g1 r)⟩
  | ret d =>
    intro A' m' Hb H' v t r
    obtain ⟨g1, g2⟩ := step_unlock h nA t
    have g3 : H' a = some (.frz od (.dK kvs)) := r.nx.keep a _ g1 (nA' t)
    have hb : Hb a ≠ none := by rw [g1]; exact fun z => nomatch z
    refine ⟨g3, o A' m' _ _ v g2 ⟨⟨fun b u e n => ?_, fun b e => ?_⟩, ?_⟩⟩
    · by_cases c : b = a
      · rw [c] at e ⊢
        rw [upd_same] at e ⊢
        exact e
      · rw [upd_ne c] at e ⊢
        exact r.nx.keep b u e n
    · exact live_upd (r.nx.live b (by
        by_cases c : b = a
        · rw [c]; exact hb
        · rw [upd_ne c] at e; exact e))
    · obtain ⟨m2, k1, k2, k3, k4, k5⟩ := r.ex
      have kr : Kr m2 m2 H' (upd H' a (.dK kvs)) := kr_unlock g3
      have eqAt : ∀ {b : Addr} {d : Qx.D}, OwnAt S.G m2 H' b d → upd H' a (.dK kvs) b = H' b := fun {b d} ho => by
        by_cases c : b = a
        · subst c
          exfalso
          cases d with
          | lst ds => obtain ⟨xs, h1, _⟩ := ho; rw [g3] at h1; cases h1
          | dct t ks vs =>
            cases t with
            | false => obtain ⟨kvs, h1, _⟩ := ho; rw [g3] at h1; cases h1
            | true => obtain ⟨kvs, h1, _⟩ := ho; rw [g3] at h1; cases h1
          | non => exact ho
          | bl _ => exact ho
          | int _ => exact ho
          | str _ => exact ho
          | tup _ => exact ho
          | fn _ => exact ho
        · rw [upd_ne c]
      refine ⟨m2, fun b z => (k1 b z).imp id fun z => ?_, k2, fun b z => live_upd (k3 b z), fun i oo hi e => ?_, ?_⟩
      · by_cases c : b = a
        · rw [c, g1] at z; cases z
        · rw [upd_ne c]; exact z
      · obtain ⟨b, e1, e2⟩ := k4 i oo hi e
        exact ⟨b, e1, e2.tr kr (eqAt e2)⟩
      · rcases k5 with ⟨b, e1, e2, e3, e4⟩ | ⟨e1, e2⟩
        · refine .inl ⟨b, e1, e2, e3.imp (fun z => ?_) id, e4.tr kr (eqAt e4)⟩
          by_cases c : b = a
          · rw [c, g1] at z; cases z
          · rw [upd_ne c]; exact z
        · exact .inr ⟨e1.tr kr, e2⟩
end

/-! ### the loop -/
theorem itms_get {ks vs : List D} {i : Nat} {a b : D} (h1 : ks[i]? = some a) (h2 : vs[i]? = some b) : (itmsD ks vs)[i]? = some (.tup [a, b]) := by
  have li := (List.getElem?_eq_some_iff.mp h1).1
  unfold itmsD
  rw [List.getElem?_map, List.getElem?_range li]
  simp [List.getD, h1, h2]
theorem it_items {A : Slots} {m : AdP} {H1 : Hp} {d : D} {a : Addr} {o : Obj} {kvs : List (Key × V)} {vs : List D} (ha : H1 a = some (.frz o (.dK kvs))) (nm : ¬ m a) (hr : Reps S.G m H1 vs (kvs.map (·.2))) : ItOk S (Iti a o kvs) A m (.v d, d) H1 (itmsD (kvs.map fun p => dK p.1) vs) := by
  have hlen : (itmsD (kvs.map fun p => dK p.1) vs).length = kvs.length := by unfold itmsD; simp
  refine ⟨⟨fun H => H a = some (.frz o (.dK kvs)), YPair (fun i => kvs[i]?.map fun kv => kV kv.1) (fun i => kvs[i]?.map Prod.snd), by rw [hlen]; exact walk_items, fun A' m' env2 σ2 H2 l => ⟨l.kp.keep a _ ha nm, fun i x H3 hi ⟨T, y, z, e1, hT, e3, h1, h2⟩ => ?_⟩⟩⟩
  subst e1 e3
  rw [hlen] at hi
  obtain ⟨kv, g1, g2⟩ := omap h1
  obtain ⟨kv2, g3, g4⟩ := omap h2
  rw [g1] at g3; cases g3
  subst g2 g4
  have hr2 : Reps S.G m' H2 vs (kvs.map (·.2)) := hr.mono l.kp
  have hv : (kvs.map (·.2))[i]? = some kv.2 := by rw [List.getElem?_map, g1]; rfl
  obtain ⟨dv, k1, k2⟩ := hr2.getV hv
  exact ⟨.tup [dK kv.1, dv], itms_get (by rw [List.getElem?_map, g1]; rfl) k1, Ex.laid hT, rep_tup l.re.live hT (.cons Rep.of_dK (.cons k2 .nil))⟩
theorem items_core {i : Nat} {t : TN} {b : List Qx.S} {D : Ends} {σ : L2.St} {H : Hp} {A : Slots} {m : AdP} {env env' : En} {fl : Fl} {d : Qx.D} {a : Addr} {o : Obj} {kvs : List (Key × V)} {vs : List Qx.D} (re : RE S.G A m env σ H) (hs : σ[i]? = some (some (.ref a)))
    (ha : H a = some (.frz o (.dK kvs))) (nm : ¬ m a) (hr : Reps S.G m H vs (kvs.map (·.2))) (ev : forL t (gd (.v d) d) (evSs S.Φ S.R np b) (itmsD (kvs.map fun p => dK p.1) vs) env = some (fl, env')) (oo : Out S np fr (fun i => newSs i b) D A m H env' fl) :
    tFor (iItems (tVar i)) (tG S t) (tSs S np fr b) D σ H :=
  ⟨.ref a, hs, a, o, kvs, rfl, ha, for_core re (it_items (d := d) ha nm hr) ev oo fun i e => nomatch e⟩
theorem sn_items (h : Ct S k sc X) {elts : List Expr} {kk : Nat} {tp p ap cp : Pos} {x : Str} {i : Nat} {body : List Stmt} {t : TN} {b : List Qx.S} (sn : seen sc x = true) (hi : ixOf S.C.N x = some i) (nm : okNm x = true) (hg : PG X (.Tuple elts kk tp) (tG S t)) (hb : PSs X body (tSs S np fr b)) (ln : (ap.endLine == cp.line) = true) :
    PS X (.For (.Tuple elts kk tp) (.Call (.Attribute (.Name x p) "items" ap) [] [] cp) body [] pos) (tS S np fr (.for_ t (.itms (.var i)) b)) := by
  obtain ⟨n1, n2, _⟩ := okNm_some nm
  have base := ps_for (pos := pos) (by rw [h.xe]; exact PassesOwn.never) h.calm (pi_items (X := X) (elts := elts) (kk := kk) (tpos := tp) (apos := ap) (cpos := cp) (pe_var (pos := p) (h.ix hi) (h.vis sn) n1 n2) rfl ln) hg hb (fun _ => rfl)
  refine PS.or base (ps_lock base) fun D σ H ⟨A, m, env, fl, env', re, ev, o⟩ => ?_
  simp only [evS] at ev
  obtain ⟨xs, g, e1, ev1, ev⟩ := oI ev
  simp only [evIt] at ev1
  obtain ⟨a0, e2, ev2, ev1⟩ := oA ev1
  obtain ⟨d, h1, h2, h3, h4⟩ := itOf_some ev1
  subst h3 h4
  obtain ⟨d', ev3, ea⟩ := opE_not rfl ev2
  subst ea
  cases h1
  simp only [evE] at ev3
  have ev3 : getV env i = some d ∧ e1 = env := by
    cases q : getV env i with
    | none => rw [q] at ev3; cases ev3
    | some d2 => rw [q] at ev3; cases ev3; exact ⟨rfl, rfl⟩
  obtain ⟨gv, e0⟩ := ev3
  subst e0
  obtain ⟨v, hs, rp⟩ := re.val i d (getV_some gv)
  unfold dirD at h2
  split at h2
  · rename_i ks vs
    replace h2 := (oi h2).2
    cases h2
    simp only [Rep] at rp
    obtain ⟨a, kvs, rfl, g1, g2, rfl, g4⟩ := rp
    have o1 : Out S np fr (fun i => newSs i b) D A m H env' fl := o.wk fun i z => by simpa only [newS] using z
    rcases g1 with g1 | ⟨od, g1⟩
    · refine .inr ⟨a, .dK kvs, g1, trivial, fun od => ?_⟩
      have nA : ∀ i, A i ≠ some a := fun i z => g2 (re.mem i a z)
      have rl : RE S.G A m e1 σ (upd H a (.frz od (.dK kvs))) := re.tr (kr_lock g1) (fun i b z => by rw [upd_ne (fun y => nA i (by rw [← y]; exact z))]) fun b z => live_upd z
      exact items_core (D := lockD a od (.dK kvs) D) rl hs upd_same g2 (g4.tr (kr_lock g1)) ev (out_lock g1 nA o1)
    · exact .inl (items_core re hs g1 g2 g4 ev o1)
  · cases h2
end
end Qx
set_option Elab.async false
set_option linter.all false
set_option maxRecDepth 100000
set_option maxHeartbeats 8000000
/-! QStm6: compiled statements do what the text does. -/
namespace Qx
open PySem PySem.Spec PyProof.Rows L2

theorem cIt_itms {C : Cc} {n : Nat} {sc : Scope} {t e : Expr} {i : Qx.It} (h : cIt C n sc t e = some i) : ∀ x, i ≠ .itms x := by
  intro x z
  subst z
  cases n with
  | zero => simp [cIt] at h
  | succ n =>
    simp only [cIt] at h
    split at h
    · split at h
      · obtain ⟨_, _, h⟩ := omap h; cases h
      · split at h <;> cases h
      · split at h <;> cases h
      · cases h
    · replace h := (oi h).2
      split at h
      · obtain ⟨_, _, h⟩ := omap h; cases h
      · cases h
    · obtain ⟨_, _, h⟩ := omap h; cases h
section
variable {S : Sx} {k n : Nat} {sc : Scope} {X : Cx} {pos : Pos} {np : Nat}
theorem st_rv (ih : AllOk S k n) (h : Ct S k sc X) {e : Expr} {c : E} (hc : (match cE S.C n sc e with
    | some c => if isOwn c || isTupC c || (S.C.fr && !frE S.C.F c) then none else some c
    | none => none) = some c) : PE X e (tRv S np S.C.fr c) := by
  split at hc
  · rename_i c' h1
    have h2 := (oni hc).1
    have h3 := (oni hc).2
    cases h3
    simp only [Bool.or_eq_true, not_or, Bool.not_eq_true] at h2
    refine rv_val (ih.e sc X h _ _ h1).pe (fun es z => ?_) h2.1.1 fun z => ?_
    · subst z; exact Bool.noConfusion h2.1.2
    · have := h2.2
      rw [z, Bool.true_and] at this
      simpa using this
  · cases hc
theorem st_r (ih : AllOk S k n) (h : Ct S k sc X) {e : Expr} {c : E} (hc : cR S.C n sc e = some c) : PE X e (tRv S np S.C.fr c) := by
  unfold cR at hc
  split at hc
  · split at hc
    · rename_i h1
      simp only [Bool.and_eq_true] at h1
      obtain ⟨i, hi, e0⟩ := omap hc
      subst e0
      exact rv_own (own_pa h h1.1.2 hi h1.1.1)
    · exact st_rv ih h hc
  · obtain ⟨cs, h1, e0⟩ := omap hc
    subst e0
    exact rv_tup (ih.es sc X h _ _ h1)
  · exact st_rv ih h hc
theorem st_ts (ih : AllOk S k n) (h : Ct S k sc X) {e : Expr} {t : Qx.TS} (hc : cTS S.C n sc e = some t) : isStar e = false ∧ PG X e (tGS S t) := by
  unfold cTS at hc
  split at hc
  · have h1 := (oi hc).1
    simp only [Bool.and_eq_true] at h1
    obtain ⟨i, hi, e0⟩ := omap (oi hc).2
    subst e0
    exact ⟨rfl, gs_name h h1.1 hi⟩
  · split at hc
    · have h1 := (oi hc).1
      simp only [Bool.and_eq_true] at h1
      replace hc := (oi hc).2
      split at hc
      · rename_i hi hy
        cases hc
        exact ⟨rfl, gs_sub h (own_pa h h1.1.2 hi h1.1.1) (ih.e sc X h _ _ hy) (cE_node hy).2.2⟩
      · cases hc
    · cases hc
  · cases hc
theorem st_tgs (ih : AllOk S k n) (h : Ct S k sc X) : ∀ {ts : List Expr} {us : List Qx.TS}, allS (ts.map (cTS S.C n sc)) = some us → Tgs S X ts us
  | [], us, e => by
    simp only [List.map_nil, allS] at e
    cases e
    exact .nil
  | a :: ts, us, e => by
    rw [List.map_cons] at e
    cases q0 : cTS S.C n sc a with
    | none => rw [q0] at e; simp only [allS] at e; cases e
    | some u =>
      rw [q0] at e
      simp only [allS] at e
      obtain ⟨r, h1, e0⟩ := omap e
      subst e0
      obtain ⟨g1, g2⟩ := st_ts ih h q0
      exact .cons g1 g2 (st_tgs ih h h1)
theorem st_par : ∀ {ts : List Expr} {is : List (Nat × Bool)}, cPar S.C sc ts = some is → Nms S sc ts is
  | [], is, e => by
    simp only [cPar] at e
    cases e
    exact .nil
  | t :: ts, is, e => by
    simp only [cPar] at e
    split at e
    · have h1 := (oi e).1
      replace e := (oi e).2
      split at e
      · rename_i hi hr
        cases e
        exact .cons h1 hi (st_par hr)
      · cases e
    · cases e
theorem dict0_eq {e : Expr} (h : isDict0 e = true) : ∃ p, e = .Dict [] [] p := by
  unfold isDict0 at h
  split at h
  · rename_i ks vs p
    cases ks <;> cases vs <;> simp at h
    exact ⟨p, rfl⟩
  · cases h
theorem st_as (ih : AllOk S k n) (h : Ct S k sc X) {t e : Expr} {s : Qx.S} (hc : cAs S.C n sc t e = some s) : PS X (.Assign [t] e pos) (tS S np S.C.fr s) := by
  unfold cAs at hc
  split at hc
  · have hl := (oi hc).1
    replace hc := (oi hc).2
    split at hc
    · rename_i i hi
      split at hc
      · split at hc
        · rename_i hd
          cases hc
          obtain ⟨p, e0⟩ := dict0_eq hd
          subst e0
          exact sn_new h nd_dct0 hl hi rfl
        · split at hc
          · rename_i y hy
            have hf := (oi hc).1
            have e0 := (oi hc).2
            cases e0
            exact sn_new h (ih.e sc X h _ _ hy) hl hi hf
          · cases hc
      · obtain ⟨y, hy, e0⟩ := omap hc
        subst e0
        exact sn_asg h (ih.e sc X h _ _ hy) hl hi
    · cases hc
  · split at hc
    · rename_i hu hy
      cases hc
      unfold cTS at hu
      simp only at hu
      split at hu
      · have h1 := (oi hu).1
        simp only [Bool.and_eq_true] at h1
        replace hu := (oi hu).2
        split at hu
        · rename_i hi hix
          cases hu
          exact sn_sub h (ih.e sc X h _ _ hy) (own_pa h h1.1.2 hi h1.1.1) (ih.e sc X h _ _ hix) (cE_node hix).2.2
        · cases hu
      · cases hu
    · cases hc
  · split at hc
    · split at hc
      · rename_i hp
        split at hc
        · rename_i he
          have h1 := (oi hc).1
          have e0 := (oi hc).2
          cases e0
          simp only [Bool.and_eq_true, decide_eq_true_eq] at h1
          exact sn_par h (st_par hp) (ih.es sc X h _ _ he) h1.1.1 (by have := h1.1.2; omega) h1.2
        · cases hc
      · split at hc
        · rename_i hu he
          have h1 := (oi hc).1
          have e0 := (oi hc).2
          cases e0
          simp only [Bool.and_eq_true, decide_eq_true_eq] at h1
          refine sn_tps h (nd_tup (ih.es sc X h _ _ he)) (st_tgs ih h hu) ((sw_stat h fun t ht id p e => ?_).1 h1.1)
          have := List.all_eq_true.mp h1.2 t ht
          subst e
          exact this
        · cases hc
    · rename_i hne
      have nt : isTup e = false := by
        cases e <;> first | rfl | exact (hne _ _ _ rfl).elim
      split at hc
      · rename_i ht hy
        cases hc
        exact sn_tgt h (ih.e sc X h _ _ hy) ht nt
      · rename_i ht hy
        split at hc
        · rename_i hu
          cases hc
          exact sn_tps h (ih.e sc X h _ _ hy) (st_tgs ih h hu) (swst_tup nt)
        · cases hc
      · cases hc
  · cases hc
structure AllSt (S : Sx) (k np n : Nat) : Prop where
  s : ∀ sc X, Ct S k sc X → ∀ st s, cS S.C n sc st = some s → PS X st (tS S np S.C.fr s)
  ss : ∀ sc X, Ct S k sc X → ∀ st s, cSs S.C n sc st = some s → PSs X st (tSs S np S.C.fr s)
theorem itmsOf_some {e : Expr} {x : Str} (h : itmsOf e = some x) : ∃ p ap cp, e = .Call (.Attribute (.Name x p) "items" ap) [] [] cp ∧ (ap.endLine == cp.line) = true := by
  unfold itmsOf at h
  split at h
  · split at h
    · split at h
      · have h1 := (oi h).1
        have h2 := (oi h).2
        cases h2
        rw [Bool.and_eq_true, decide_eq_true_eq] at h1
        obtain ⟨e0, e1⟩ := h1
        subst e0
        exact ⟨_, _, _, rfl, e1⟩
      · cases h
    · cases h
  · cases h
theorem st_s (ie : AllOk S k n) (ih : AllSt S k np n) (h : Ct S k sc X) : ∀ st s, cS S.C (n + 1) sc st = some s → PS X st (tS S np S.C.fr s) := fun st s hc => by
  cases st with
  | Expr e p =>
    simp only [cS] at hc
    have h1 := (oni hc).1
    obtain ⟨c, hy, e0⟩ := omap (oni hc).2
    subst e0
    exact sn_exp (ie.e sc X h _ _ hy) (by simpa using h1)
  | Return oe p =>
    simp only [cS] at hc
    split at hc
    · cases hc
      refine ps_retN.imp fun D σ H ⟨A, m, env, fl, env', re, ev, o⟩ => ?_
      simp only [evS, evR, evE] at ev
      cases ev
      exact o A m H H .non .refl ⟨.refl, m, fun a z => .inl z, fun a z => .inl z, re.live, fun i oo _ e => re.outs i oo e, .inr ⟨Rep.of_non, .inr rfl⟩⟩
    · obtain ⟨c, hy, e0⟩ := omap hc
      subst e0
      exact sn_ret (st_r ie h hy)
  | Assign ts e p =>
    simp only [cS] at hc
    split at hc
    · exact st_as ie h hc
    · cases hc
  | If c a b p =>
    simp only [cS] at hc
    split at hc
    · rename_i h1 h2 h3
      cases hc
      exact sn_if (ie.e sc X h _ _ h1) (ih.ss sc X h _ _ h2) (ih.ss sc X h _ _ h3)
    · cases hc
  | For t it b els p =>
    simp only [cS] at hc
    split at hc
    · split at hc
      · rename_i x hx
        have h1 := (oi hc).1
        simp only [Bool.and_eq_true] at h1
        replace hc := (oi hc).2
        split at hc
        · rename_i hi ht hb
          cases hc
          obtain ⟨p1, ap, cp, e0, e1⟩ := itmsOf_some hx
          subst e0
          have ht2 := h1.1.1.1
          cases t <;> simp [isTupE] at ht2
          exact sn_items h h1.1.2 hi h1.1.1.2 (tg_ok h 8 _ _ ht) (ih.ss sc X h _ _ hb) e1
        · cases hc
      · split at hc
        · rename_i t' it' b' ht hi hb
          have h1 := (oi hc).1
          have e0 := (oi hc).2
          cases e0
          obtain ⟨pi, ok⟩ := ie.it sc X h _ _ _ hi
          refine sn_for h pi ok (tg_ok h 8 _ _ ht) (ih.ss sc X h _ _ hb) (cIt_itms hi) fun i e => ?_
          unfold noNew at h1
          rw [e] at h1
          simpa using h1
        · cases hc
    · cases hc
  | While c b els p =>
    simp only [cS] at hc
    split at hc
    · split at hc
      · rename_i h1 h2
        cases hc
        exact sn_while h (ie.e sc X h _ _ h1) (ih.ss sc X h _ _ h2)
      · cases hc
    · cases hc
  | Pass p => simp only [cS] at hc; cases hc; exact sn_pass
  | Break p => simp only [cS] at hc; cases hc; exact sn_brk
  | Continue p => simp only [cS] at hc; cases hc; exact sn_cnt
  | Raise a b p => simp only [cS] at hc; cases hc; exact sn_bad
  | _ => simp [cS] at hc
theorem st_ss (ih : AllSt S k np n) (h : Ct S k sc X) : ∀ st s, cSs S.C (n + 1) sc st = some s → PSs X st (tSs S np S.C.fr s) := fun st s hc => by
  simp only [cSs] at hc
  split at hc
  · cases hc; exact sq_nil
  · split at hc
    · rename_i h1 h2
      cases hc
      exact sq_cons (ih.s sc X h _ _ h1) (ih.ss sc X h _ _ h2)
    · cases hc
end
theorem all_st (S : Sx) (k np : Nat) : ∀ n, AllSt S k np n
  | 0 => ⟨fun _ _ _ e c h => by simp [cS] at h, fun _ _ _ e c h => by simp [cSs] at h⟩
  | n + 1 => ⟨fun sc X h => st_s (all_ok S k n) (all_st S k np n) h, fun sc X h => st_ss (all_st S k np n) h⟩
end Qx
set_option Elab.async false
set_option linter.all false
set_option maxRecDepth 100000
set_option maxHeartbeats 8000000
/-! QFun: a compiled def keeps its promise. -/
namespace Qx
open PySem PySem.Spec PyProof.Rows L2

/-- the world of a def's walk, at a level of the evaluator -/
def sxOf (hs : List Hint) (gl : List (Str × GV)) (ds : List Df) (G : Gd) (n : Nat) (h : Hint) : Sx := ⟨G, callD ds n, rfsOf ds, ccOf hs gl h⟩
/-- what is known of a def's object -/
structure DefOk (K : PySem.W.Frag) (b : List Stmt) (h : Hint) (f : Addr) : Prop where
  ex : ∃ (x qual : Str) (fd : FuncData), FunD K x qual (defArgs (topOf b h.at_)) (defBody (topOf b h.at_)) (defScope (topOf b h.at_)) [] [] f fd ∧ FnScope h.N (h.N.take h.np) (defScope (topOf b h.at_)) ∧ Binds K fd (h.N.take h.np) [] ∧ KwOk K fd (h.N.take h.np)
  np : h.np ≤ h.N.length
structure Wd (hs : List Hint) (gl : List (Str × GV)) (b : List Stmt) (ds : List Df) (G : Gd) (P : Program) (w : World) (K : PySem.W.Frag) (mg : Str → Option Value) (base : Heap) : Prop where
  hK : K = G.K
  prog : cProg hs gl b = some ds
  defs : ∀ g f, G.fa g = some f → ∃ h, hs[g]? = some h ∧ DefOk K b h f
  glo : ∀ x g, gl.lookup x = some (.fn g) → ∃ f, mg x = some (.ref f) ∧ G.fa g = some f
  cst : ∀ x d, gl.lookup x = some (.cst d) → ∃ v u, mg x = some u ∧ RelV v u ∧ ∀ m H, Rep G m H d v
  blt : ∀ x ∈ bltNames, gl.lookup x = none → mg x = none
theorem allS_get {α β : Type} {f : α → Option β} : ∀ {l : List α} {r : List β} {i : Nat} {a : α}, allS (l.map f) = some r → l[i]? = some a → ∃ b, f a = some b ∧ r[i]? = some b
  | [], r, i, a, h, e => by simp at e
  | x :: l, r, i, a, h, e => by
    rw [List.map_cons] at h
    cases q : f x with
    | none => rw [q] at h; simp only [allS] at h; cases h
    | some y =>
      rw [q] at h
      simp only [allS] at h
      obtain ⟨r', h1, e0⟩ := omap h
      subst e0
      cases i with
      | zero => simp at e; subst e; exact ⟨y, q, rfl⟩
      | succ i => simpa using allS_get h1 (by simpa using e)
theorem refsOf_lt {h : Hint} {i : Nat} (e : i ∈ refsOf h) : i < h.np := by
  unfold refsOf at e
  exact List.mem_range.mp (List.mem_filter.mp e).1
section
variable {hs : List Hint} {gl : List (Str × GV)} {b : List Stmt} {ds : List Df} {G : Gd} {P : Program} {w : World} {K : PySem.W.Frag} {mg : Str → Option Value} {base : Heap} {n g : Nat} {f : Addr} {h : Hint}
theorem df_some (pr : cProg hs gl b = some ds) (hg : hs[g]? = some h) : ∃ d, ds[g]? = some d ∧ d.np = h.np ∧ d.ns = h.N.length ∧ d.refs = refsOf h ∧ cSs (ccOf hs gl h) 200 (defScope (topOf b h.at_)) (defBody (topOf b h.at_)) = some d.body := by
  unfold cProg at pr
  obtain ⟨d, h1, h2⟩ := allS_get pr hg
  unfold cDf at h1
  split at h1
  · rename_i e
    obtain ⟨ss, h3, e0⟩ := omap h1
    subst e0
    refine ⟨_, h2, rfl, rfl, rfl, ?_⟩
    rw [e]
    exact h3
  · cases h1
theorem start_get {N : List Str} {vs : List V} {i : Nat} {v : V} (e : vs[i]? = some v) : (L2.start N vs)[i]? = some (some v) := by
  unfold L2.start
  have li := (List.getElem?_eq_some_iff.mp e).1
  rw [List.getElem?_append_left (by rw [List.length_map]; exact li), List.getElem?_map, e]
  rfl
theorem startE_get {d : Df} {args : List D} {i : Nat} {s : Sl} (e : (startE d args)[i]? = some s) (hs : s ≠ .no) : ∃ x, args[i]? = some x ∧ s = if d.refs.contains i then .own x else .val x := by
  unfold startE at e
  by_cases c : i < args.length
  · rw [List.getElem?_append_left (by simp; exact c)] at e
    rw [List.getElem?_map, List.getElem?_range c] at e
    refine ⟨args[i], List.getElem?_eq_getElem c, ?_⟩
    have := (Option.some.inj e).symm
    rw [this]
    show (if d.refs.contains i = true then Sl.own (args.getD i D.non) else Sl.val (args.getD i D.non)) = _
    rw [List.getD_eq_getElem?_getD, List.getElem?_eq_getElem c]
    rfl
  · rw [List.getElem?_append_right (by simp; omega)] at e
    have := List.mem_of_getElem? e
    exact (hs (List.eq_of_mem_replicate this)).elim
theorem re_start {m : AdP} {H : Hp} {B : Slots} {d : Df} {args : List D} {vs : List V} {N : List Str} (a : Args G m H B d.refs args vs) (hn : d.ns = N.length) : RE G B m (startE d args) (L2.start N vs) H := by
  refine ⟨?_, fun i x e => ?_, fun i x e => ?_, a.inj, a.mem, a.live⟩
  · unfold startE L2.start
    simp [a.len, hn]
  · obtain ⟨y, h1, h2⟩ := startE_get e (by simp)
    split at h2
    · cases h2
    · rename_i c
      cases h2
      obtain ⟨v, h3, h4⟩ := a.val i x h1 (fun z => c (List.contains_iff_mem.mpr z))
      exact ⟨v, start_get h3, h4⟩
  · obtain ⟨y, h1, h2⟩ := startE_get e (by simp)
    split at h2
    · rename_i c
      cases h2
      obtain ⟨ad, h3, h4, h5⟩ := a.own i x h1 (List.contains_iff_mem.mp c)
      exact ⟨ad, h3, start_get h4, h5⟩
    · cases h2
theorem outs_at {M : AdP} {H' : Hp} {B : Slots} {env : En} : ∀ {js : List Nat} {os : List D}, outsE env js = some os → (∀ i ∈ js, ∀ o, getO env i = some o → ∃ a, B i = some a ∧ OwnAt G M H' a o) → OutsAt G M H' B js os
  | [], os, e, _ => by
    simp only [outsE] at e
    cases e
    exact True.intro
  | i :: js, os, e, k => by
    simp only [outsE] at e
    split at e
    · rename_i o os' h1 h2
      cases e
      simp only [OutsAt]
      exact ⟨k i List.mem_cons_self o h1, outs_at h2 fun j hj => k j (List.mem_cons_of_mem _ hj)⟩
    · cases e
theorem ct_fun (W : Wd hs gl b ds G P w K mg base) (ih : ∀ g f, G.fa g = some f → FnAt (sxOf hs gl ds G n h) n P w K mg base g f) {sc : Scope} (fs : FnScope h.N (h.N.take h.np) sc) {qual : Str} {fa : Addr} {cdv : Value} {A : Around} {outer : List Env} {s : Shared} {H : Hp} {E : XK}
    (r : Room n (A.deeper (envOfC qual sc s.heap.objs.size fa cdv))) : Ct (sxOf hs gl ds G n h) n sc (cxOf CX0 P w K mg base h.N qual sc fa cdv A outer s H E).nox where
  N := rfl
  nd := fs.nd
  calm := rfl
  room := r
  hK := W.hK
  xe := rfl
  kind := fs.kind
  loc := fun x e => e
  cell := fun x e => ⟨e, rfl⟩
  free := fun x e => .inr e
  gl := fun x e => e
  prg := ⟨ih, W.glo, W.cst, W.blt⟩
theorem body_ok (W : Wd hs gl b ds G P w K mg base) (hg : hs[g]? = some h) (hn : h.np ≤ h.N.length) {X : Cx} {body : List Stmt} {d : Df} (hd : ds[g]? = some d) (d1 : d.np = h.np) (d2 : d.ns = h.N.length) (d3 : d.refs = refsOf h) (hp : PSs X body (tSs (sxOf hs gl ds G n h) h.np h.fresh d.body))
    {vs : List V} {H : Hp} {Q : VK} {E : XK} (sp : spOf (sxOf hs gl ds G (n + 1) h) g vs H Q E) : tSs (sxOf hs gl ds G n h) h.np h.fresh d.body { nx := fun _ H' => Q .non H', rt := Q } (L2.start h.N vs) H := by
  obtain ⟨m, B, args, r, outs, hf, ar, q⟩ := sp
  have hR : (sxOf hs gl ds G (n + 1) h).R g = d.refs := by
    show rfsOf ds g = d.refs
    unfold rfsOf
    rw [hd]
  have hF : (sxOf hs gl ds G (n + 1) h).C.F g = h.fresh := by
    show (match hs[g]? with | some g => g.fresh | none => false) = h.fresh
    rw [hg]
  rw [hR] at ar q
  rw [hF] at q
  have hf : callD ds (n + 1) g args = some (r, outs) := hf
  simp only [callD, hd, runD] at hf
  replace hf := (oi hf).2
  have rlt : ∀ i ∈ d.refs, i < h.np := fun i hi => refsOf_lt (by rw [← d3]; exact hi)
  have hB : ∀ i a, B i = some a → i < h.np := fun i a e => rlt i (ar.dom i a e)
  have re := re_start (N := h.N) ar d2
  cases ev : evSs (callD ds n) (rfsOf ds) d.np d.body (startE d args) with
  | none => rw [ev] at hf; cases hf
  | some rr =>
    obtain ⟨fl, env'⟩ := rr
    rw [ev] at hf
    refine ⟨B, m, _, fl, env', re, by rw [← d1]; exact ev, ?_⟩
    cases fl with
    | brk => cases hf
    | ct => cases hf
    | nx =>
      obtain ⟨os, ho, e0⟩ := omap hf
      cases e0
      intro A' m' σ' H' st r'
      refine q .non H' m' ⟨⟨st.keep, st.live⟩, st.more, st.new, outs_at ho fun i hi o e => ?_, .inr ⟨Rep.of_non, .inr rfl⟩, r'.live⟩
      obtain ⟨a, g1, g2⟩ := r'.outs i o e
      exact ⟨a, by rw [← st.par i (rlt i hi)]; exact g1, g2⟩
    | ret dd =>
      obtain ⟨os, ho, e0⟩ := omap hf
      cases e0
      intro A' m' Hb H' v st rt
      obtain ⟨m2, k1, k2, k3, k4, k5⟩ := rt.ex
      have fresh : ∀ i a, h.np ≤ i → A' i = some a → H a = none := fun i a hi e => by
        rcases st.own i a e with z | z
        · have := hB i a z; omega
        · exact z
      refine q v H' m2 ⟨⟨fun a o e na => rt.nx.keep a o (st.keep a o e na) fun i z => ?_, fun a e => rt.nx.live a (st.live a e)⟩, fun a z => ?_, fun a z => ?_, outs_at ho fun i hi o e => ?_, ?_, k3⟩
      · rcases st.own i a z with z | z
        · exact na i z
        · rw [e] at z; cases z
      · rcases k2 a (st.more a z) with y | ⟨i, hi, y⟩
        · exact y
        · exact (ar.live a z (fresh i a hi y)).elim
      · rcases k1 a z with y | y
        · exact st.new a y
        · exact .inr (st.back y)
      · obtain ⟨a, g1, g2⟩ := k4 i o (rlt i hi) e
        exact ⟨a, by rw [← st.par i (rlt i hi)]; exact g1, g2⟩
      · rcases k5 with ⟨a, e1, e2, e3, e4⟩ | e1
        · refine .inl ⟨a, e1, e2, ?_, e4⟩
          rcases e3 with y | ⟨i, hi, y⟩
          · exact st.back y
          · exact fresh i a hi y
        · exact .inr e1
/-- every def keeps its promise, at every level -/
theorem fn_all (W : Wd hs gl b ds G P w K mg base) : ∀ (n : Nat) (h0 : Hint) (g : Nat) (f : Addr), G.fa g = some f → FnAt (sxOf hs gl ds G n h0) n P w K mg base g f
  | 0, h0, g, f, hf => by
    obtain ⟨h, hg, ⟨x, qual, fd, F, fs, hb, hk⟩, hn⟩ := W.defs g f hf
    have eP : (sxOf hs gl ds G 0 h0).C.P g = h.N.take h.np := by
      show (match hs[g]? with | some g => g.N.take g.np | none => []) = _
      rw [hg]
    have vac : ∀ vs H Q E, ¬ spOf (sxOf hs gl ds G 0 h0) g vs H Q E := fun vs H Q E ⟨m, B, args, r, outs, z, _⟩ => by
      have z : callD ds 0 g args = some (r, outs) := z
      simp only [callD] at z
      cases z
    exact ⟨fd, h.N.take h.np, ⟨fun vs H Q E z => (vac _ _ _ _ z).elim, fun A outer s H args us vs Q E _ _ _ _ z => (vac _ _ _ _ z).elim⟩, F.kp, hb, eP.symm, hk⟩
  | n + 1, h0, g, f, hf => by
    obtain ⟨h, hg, ⟨x, qual, fd, F, fs, hb, hk⟩, hn⟩ := W.defs g f hf
    obtain ⟨d, hd, d1, d2, d3, hc⟩ := df_some W.prog hg
    have eP : (sxOf hs gl ds G (n + 1) h0).C.P g = h.N.take h.np := by
      show (match hs[g]? with | some g => g.N.take g.np | none => []) = _
      rw [hg]
    have lenN : (h.N.take h.np).length = h.np := by rw [List.length_take]; omega
    refine ⟨fd, h.N.take h.np, F.ok fs (fun vs H Q E z => ?_) (fun cdv A outer s H vs Q E r z => ?_), F.kp, hb, eP.symm, hk⟩
    · obtain ⟨m, B, args, r, outs, z, ar, _⟩ := z
      have z : callD ds (n + 1) g args = some (r, outs) := z
      simp only [callD, hd, runD] at z
      rw [← ar.len, (oi z).1, d1, lenN]
    · have ct := ct_fun (h := h) (qual := qual) (fa := f) (cdv := cdv) (A := A) (outer := outer) (s := s) (H := H) (E := E) W (fun g f e => fn_all W n h g f e) fs r
      have ps := (all_st (sxOf hs gl ds G n h) n h.np 200).ss _ _ ct _ _ hc
      exact ⟨_, PSs.nox ps, body_ok (E := E) W hg hn hd d1 d2 d3 ps z⟩
end
end Qx
set_option Elab.async false
set_option linter.all false
set_option maxRecDepth 100000
set_option maxHeartbeats 4000000
/-! QBind: plain parameters, by place and by name. -/
namespace Qx
open PySem PySem.Spec PyProof.Rows L2

theorem kw_loop {ps : List Str} {f : Str × Value → (List (Str × Value) × List (Str × Value)) → Sem (ForInStep (List (Str × Value) × List (Str × Value)))}
    (hf : ∀ k v sl ex, ps.contains k = true → sl.lookup k = none → f (k, v) (sl, ex) = pure (.yield (sl ++ [(k, v)], ex))) :
    ∀ (kws : List (Str × Value)) (sl ex : List (Str × Value)), (∀ p ∈ kws, ps.contains p.1 = true ∧ sl.lookup p.1 = none) → (kws.map (·.1)).Nodup → forIn kws (sl, ex) f = pure (sl ++ kws, ex)
  | [], sl, ex, _, _ => by rw [List.forIn_nil, List.append_nil]
  | (k, v) :: r, sl, ex, h, nd => by
    rw [List.forIn_cons]
    obtain ⟨h1, h2⟩ := h (k, v) List.mem_cons_self
    rw [hf k v sl ex h1 h2, pure_bind]
    simp only
    rw [List.map_cons, List.nodup_cons] at nd
    rw [kw_loop hf r (sl ++ [(k, v)]) ex (fun p hp => ?_) nd.2, List.append_assoc]
    · rfl
    · obtain ⟨g1, g2⟩ := h p (List.mem_cons_of_mem _ hp)
      refine ⟨g1, ?_⟩
      rw [List.lookup_append, g2]
      have : (p.1 == k) = false := by
        cases q : p.1 == k with
        | false => rfl
        | true =>
          have z := List.mem_map_of_mem (f := fun (x : Str × Value) => x.1) hp
          rw [eq_of_beq q] at z
          exact (nd.1 z).elim
      simp [List.lookup_cons, this]
theorem bind_plain (fd : FuncData) (h1 : fd.params.posonlyargs = []) (h2 : fd.params.kwonlyargs = []) (h3 : fd.params.vararg = none) (h4 : fd.params.kwarg = none) (h5 : fd.defaults = .none) (us : List Value) (kws : List (Str × Value))
    (hl : us.length ≤ (fd.params.args.map (·.arg)).length) (hk : ∀ p ∈ kws, (fd.params.args.map (·.arg)).contains p.1 = true ∧ ((fd.params.args.map (·.arg)).zip us).lookup p.1 = none) (nd : (kws.map (·.1)).Nodup)
    (hall : ∀ n ∈ fd.params.args.map (·.arg), (((fd.params.args.map (·.arg)).zip us ++ kws).lookup n).isSome = true) :
    bindArgs fd ⟨us, kws⟩ = pure ((fd.params.args.map (·.arg)).filterMap fun n => (((fd.params.args.map (·.arg)).zip us ++ kws).lookup n).map (n, ·)) := by
  unfold bindArgs
  simp only [h1, h2, h3, h4, h5, List.map_nil, List.nil_append, List.append_nil]
  rw [kw_loop (ps := fd.params.args.map (·.arg)) (fun k v sl ex g1 g2 => by
    simp only [g1, g2, Bool.true_or, if_pos, Option.isSome_none]
    rfl) kws _ _ hk nd]
  rw [pure_bind]
  have e : seqItems? Value.none = pure none := rfl
  rw [e, pure_bind]
  have g0 : ¬ (decide (us.length > (fd.params.args.map (·.arg)).length) && (none : Option Arg).isNone) = true := by
    simp; simpa using hl
  rw [if_neg g0]
  have e0 : ((none : Option (Array Value)).getD #[]).toList = [] := rfl
  have g1 : ((fd.params.args.map (·.arg)).take (fd.params.args.map (·.arg)).length).filter (fun n => (((fd.params.args.map (·.arg)).zip us ++ kws).lookup n).isNone) = [] := by
    rw [List.filter_eq_nil_iff]
    intro n hn
    have := hall n (List.mem_of_mem_take hn)
    simp only [Option.isNone_iff_eq_none]
    intro z
    rw [z] at this
    cases this
  simp only [e0, List.drop_nil, List.length_nil, Nat.sub_zero, List.zip_nil_right, List.forIn_nil, pure_bind, g1, List.isEmpty_nil, Bool.not_true, Bool.false_eq_true, if_false]
/-- lookups in a zip -/
theorem zip_look {α : Type} : ∀ {ps : List Str} {us : List α} {j : Nat} {x : Str}, ps.Nodup → ps[j]? = some x → (ps.zip us).lookup x = us[j]?
  | [], us, j, x, _, h => by simp at h
  | p :: ps, [], j, x, _, h => by simp
  | p :: ps, u :: us, 0, x, nd, h => by
    simp at h
    subst h
    simp [List.lookup_cons]
  | p :: ps, u :: us, j + 1, x, nd, h => by
    rw [List.nodup_cons] at nd
    have hx : ps[j]? = some x := by simpa using h
    have ne : (x == p) = false := by
      cases q : x == p with
      | false => rfl
      | true =>
        have := eq_of_beq q
        subst this
        exact (nd.1 (List.mem_of_getElem? hx)).elim
    rw [List.zip_cons_cons, List.lookup_cons, ne]
    simp only [List.getElem?_cons_succ]
    exact zip_look nd.2 hx
theorem ixOf_look {α : Type} : ∀ {ks : List Str} {ws : List α} {i : Nat} {x : Str}, ixOf ks x = some i → (ks.zip ws).lookup x = ws[i]?
  | [], ws, i, x, h => by simp [ixOf] at h
  | k :: ks, [], i, x, h => by simp
  | k :: ks, w :: ws, i, x, h => by
    unfold ixOf at h
    by_cases c : k = x
    · rw [if_pos c] at h
      cases h
      subst c
      simp [List.lookup_cons]
    · rw [if_neg c] at h
      obtain ⟨j, h1, e0⟩ := omap h
      subst e0
      have ne : (x == k) = false := by
        cases q : x == k with
        | false => rfl
        | true => exact (c (eq_of_beq q).symm).elim
      rw [List.zip_cons_cons, List.lookup_cons, ne]
      simp only [List.getElem?_cons_succ]
      exact ixOf_look h1
theorem pick_zip {xs : List Value} {L : Str → Option Value} : ∀ {ps : List Str} {pm : List Nat}, pm.length = ps.length → (∀ (j : Nat) (x : Str) (q : Nat), ps[j]? = some x → pm[j]? = some q → ∃ v, L x = some v ∧ xs[q]? = some v) →
    (ps.filterMap fun n => (L n).map (n, ·)) = ps.zip (pickV xs pm)
  | [], pm, _, _ => by simp
  | p :: ps, [], h, _ => by simp at h
  | p :: ps, q :: pm, h, k => by
    obtain ⟨v, h1, h2⟩ := k 0 p q rfl rfl
    have ih := pick_zip (xs := xs) (L := L) (ps := ps) (pm := pm) (by simpa using h) fun j x q a b => k (j + 1) x q (by simpa using a) (by simpa using b)
    have e1 : pickV xs (q :: pm) = v :: pickV xs pm := by unfold pickV; rw [List.filterMap_cons, h2]
    rw [List.filterMap_cons, h1, e1, List.zip_cons_cons]
    simp only [Option.map_some]
    rw [ih]
/-- plain parameters: no defaults, no stars -/
structure PlainP (fd : FuncData) (ps : List Str) : Prop where
  po : fd.params.posonlyargs = []
  kw : fd.params.kwonlyargs = []
  va : fd.params.vararg = none
  kg : fd.params.kwarg = none
  df : fd.defaults = .none
  as_ : fd.params.args.map (·.arg) = ps
  nd : ps.Nodup
theorem PlainP.bind {fd : FuncData} {ps : List Str} (p : PlainP fd ps) {n : Nat} {ks : List Str} {pm : List Nat} (hp : kwPos ps n ks = some pm) (nd : ks.Nodup) (hl : n + ks.length = ps.length) (hin : ∀ k ∈ ks, k ∈ ps.drop n) {us ws : List Value} (hu : us.length = n) (hw : ws.length = ks.length) :
    bindArgs fd ⟨us, ks.zip ws⟩ = pure (ps.zip (pickV (us ++ ws) pm)) := by
  have keys : (ks.zip ws).map (·.1) = ks := by
    rw [List.map_fst_zip]
    omega
  have pmAt : ∀ (j : Nat) (x : Str), ps[j]? = some x → ∃ q, pm[j]? = some q ∧ ((j < n ∧ q = j) ∨ (n ≤ j ∧ ∃ i, ixOf ks x = some i ∧ q = i + n)) := fun j x hj => by
    have lj : j < ps.length := (List.getElem?_eq_some_iff.mp hj).1
    unfold kwPos at hp
    obtain ⟨q, h1, h2⟩ := allS_get hp (List.getElem?_range lj)
    refine ⟨q, h2, ?_⟩
    by_cases c : j < n
    · rw [if_pos c] at h1
      exact .inl ⟨c, (Option.some.inj h1).symm⟩
    · rw [if_neg c] at h1
      obtain ⟨i, h3, h4⟩ := omap h1
      rw [List.getD_eq_getElem?_getD, hj] at h3
      exact .inr ⟨by omega, i, h3, h4⟩
  have look : ∀ (j : Nat) (x : Str) (q : Nat), ps[j]? = some x → pm[j]? = some q → ∃ v, (ps.zip us ++ ks.zip ws).lookup x = some v ∧ (us ++ ws)[q]? = some v := fun j x q hj hq => by
    obtain ⟨q', h1, h2⟩ := pmAt j x hj
    rw [hq] at h1; cases h1
    rw [List.lookup_append, zip_look p.nd hj]
    rcases h2 with ⟨c, e0⟩ | ⟨c, i, hi, e0⟩
    · subst e0
      have lu : q < us.length := by omega
      exact ⟨us[q], by rw [List.getElem?_eq_getElem lu]; rfl, by rw [List.getElem?_append_left lu, List.getElem?_eq_getElem lu]⟩
    · subst e0
      have li : i < ks.length := (List.getElem?_eq_some_iff.mp (ixOf_some hi)).1
      have lw : i < ws.length := by omega
      refine ⟨ws[i], ?_, ?_⟩
      · rw [List.getElem?_eq_none (by omega), ixOf_look hi, List.getElem?_eq_getElem lw]; rfl
      · rw [List.getElem?_append_right (by omega), show i + n - us.length = i by omega, List.getElem?_eq_getElem lw]
  have lpm : pm.length = ps.length := by
    unfold kwPos at hp
    have : ∀ {α : Type} {l : List (Option α)} {r : List α}, allS l = some r → r.length = l.length := by
      intro α l
      induction l with
      | nil => intro r h; simp only [allS] at h; cases h; rfl
      | cons a l ih =>
        intro r h
        cases a with
        | none => simp only [allS] at h; cases h
        | some a =>
          simp only [allS] at h
          obtain ⟨r', h1, e0⟩ := omap h
          subst e0
          rw [List.length_cons, List.length_cons, ih h1]
    rw [this hp, List.length_map, List.length_range]
  have e := bind_plain fd p.po p.kw p.va p.kg p.df us (ks.zip ws) (by rw [p.as_]; omega) (fun q hq => ?_) (by rw [keys]; exact nd) fun x hx => ?_
  · rw [p.as_] at e
    rw [e, pick_zip lpm look]
  · rw [p.as_]
    have hk : q.1 ∈ ks := by
      rw [← keys]
      exact List.mem_map_of_mem hq
    have hd := hin q.1 hk
    obtain ⟨j, hj⟩ := List.mem_iff_getElem?.mp hd
    rw [List.getElem?_drop] at hj
    exact ⟨List.contains_iff_mem.mpr (List.mem_of_getElem? hj), by rw [zip_look p.nd hj, List.getElem?_eq_none (by omega)]⟩
  · rw [p.as_] at hx ⊢
    obtain ⟨j, hj⟩ := List.mem_iff_getElem?.mp hx
    obtain ⟨q, h1, _⟩ := pmAt j x hj
    obtain ⟨v, h2, _⟩ := look j x q hj h1
    rw [h2]; rfl
theorem PlainP.kwOk {K : PySem.W.Frag} {fd : FuncData} {ps : List Str} (p : PlainP fd ps) : KwOk K fd ps := fun n ks pm hp nd hl hin s us ws _ hu hw => .of_eq (p.bind hp nd hl hin hu hw)
theorem kwPos_all : ∀ (ps : List Str), kwPos ps ps.length [] = some (List.range ps.length) := fun ps => by
  unfold kwPos
  have : ∀ {l : List Nat}, (∀ j ∈ l, j < ps.length) → allS (l.map fun j => if j < ps.length then some j else (ixOf [] (ps.getD j "")).map (· + ps.length)) = some l := by
    intro l
    induction l with
    | nil => intro _; rfl
    | cons a l ih =>
      intro h
      rw [List.map_cons, if_pos (h a List.mem_cons_self)]
      simp only [allS]
      rw [ih fun j hj => h j (List.mem_cons_of_mem _ hj)]
      rfl
  exact this fun j hj => List.mem_range.mp hj
theorem pick_all {α : Type} (us : List α) : pickV us (List.range us.length) = us := by
  apply List.ext_getElem?
  intro i
  have : ∀ n, n ≤ us.length → pickV us (List.range n) = us.take n := by
    intro n
    induction n with
    | zero => intro _; simp [pickV]
    | succ n ih =>
      intro hn
      have h1 := ih (by omega)
      unfold pickV at h1 ⊢
      rw [List.range_succ, List.filterMap_append, h1, List.take_add_one]
      simp only [List.filterMap_cons, List.filterMap_nil]
      rw [List.getElem?_eq_getElem (by omega)]
      rfl
  rw [this _ (Nat.le_refl _), List.take_length]
theorem PlainP.binds {K : PySem.W.Frag} {fd : FuncData} {ps : List Str} (p : PlainP fd ps) : Binds K fd ps [] := fun s us _ hl => by
  rw [List.append_nil] at hl ⊢
  have e := p.bind (kwPos_all ps) List.nodup_nil (by simp) (by simp) hl (ws := []) rfl
  rw [List.append_nil, ← hl, pick_all] at e
  exact .of_eq e
end Qx
set_option Elab.async false
set_option linter.all false
set_option maxRecDepth 100000
set_option maxHeartbeats 4000000
/-! QHead: from a head's facts to the world of the defs. -/
namespace Qx
open PySem PySem.Spec PyProof.Rows L2

def defName (s : Stmt) : Str := match s with
  | .FunctionDef n _ _ _ _ _ _ _ _ _ => n
  | _ => ""
def ddOf (b : List Stmt) (h : Hint) : He.DefD := ⟨(defName (topOf b h.at_), none), defName (topOf b h.at_), defName (topOf b h.at_), defArgs (topOf b h.at_), defBody (topOf b h.at_), defScope (topOf b h.at_), [], []⟩
def nodupL : List Str → Bool
  | [] => true
  | a :: r => !(r.any fun b => decide (b = a)) && nodupL r
def scopeOk (N ps : List Str) (sc : Scope) : Bool := (match sc.kind with | .function => true | _ => false) && !sc.isCoroutine && !sc.isGenerator && nodupL N && decide (N.take ps.length = ps) &&
  (ps.all fun x => match sc.names.lookup x with | some .local => true | some .cell => true | _ => false) && (sc.names.all fun y => match y.2 with | .free => false | _ => true)
def argsOk' (a : Arguments) (ps : List Str) : Bool := a.posonlyargs.isEmpty && a.kwonlyargs.isEmpty && a.vararg.isNone && a.kwarg.isNone && decide (a.args.map (·.arg) = ps)
def hintOk (b : List Stmt) (h : Hint) : Bool := decide (h.np ≤ h.N.length) && scopeOk h.N (h.N.take h.np) (defScope (topOf b h.at_)) && argsOk' (defArgs (topOf b h.at_)) (h.N.take h.np)
def globOk (hs : List Hint) (b : List Stmt) (fa : List He.Fa) (p : Str × GV) : Bool := match p.2 with
  | .fn g => (match hs[g]? with | some h => decide (defName (topOf b h.at_) = p.1) | none => false) && fa.any fun f => match f with | .glo x => decide (x = p.1) | _ => false
  | .cst (.int i) => fa.any fun f => match f with | .int x j => decide (x = p.1) && decide (i = j) | _ => false
  | .cst (.str s) => fa.any fun f => match f with | .str x z => decide (x = p.1) && decide (z = s) | _ => false
  | _ => false
def bltOk (gl : List (Str × GV)) (fa : List He.Fa) : Bool := bltNames.all fun x => (gl.lookup x).isSome || fa.any fun f => match f with | .free y => decide (y = x) | _ => false
theorem nodupL_ok : ∀ {l : List Str}, nodupL l = true → l.Nodup
  | [], _ => List.nodup_nil
  | a :: r, h => by
    simp only [nodupL, Bool.and_eq_true, Bool.not_eq_true', List.any_eq_false, decide_eq_true_eq] at h
    exact List.nodup_cons.mpr ⟨fun z => h.1 a z rfl, nodupL_ok h.2⟩
theorem scopeOk_fs {N ps : List Str} {sc : Scope} (h : scopeOk N ps sc = true) : FnScope N ps sc := by
  unfold scopeOk at h
  simp only [Bool.and_eq_true, Bool.not_eq_true', decide_eq_true_eq] at h
  obtain ⟨⟨⟨⟨⟨⟨h1, h2⟩, h3⟩, h4⟩, h5⟩, h6⟩, h7⟩ := h
  refine ⟨?_, h2, h3, nodupL_ok h4, h5, fun x hx => ?_, fun y hy z => ?_⟩
  · cases q : sc.kind <;> rw [q] at h1 <;> first | rfl | cases h1
  · have := List.all_eq_true.mp h6 x hx
    split at this
    · rename_i q; exact .inl q
    · rename_i q; exact .inr q
    · cases this
  · have := List.all_eq_true.mp h7 y hy
    rw [z] at this
    cases this
theorem nodup_take {l : List Str} (h : l.Nodup) (n : Nat) : (l.take n).Nodup := h.sublist (List.take_sublist n l)
theorem plain_of {K : PySem.W.Frag} {x q : Str} {a : Arguments} {body : List Stmt} {sc : Scope} {f : Addr} {fd : FuncData} {ps : List Str} (F : FunD K x q a body sc [] [] f fd) (h : argsOk' a ps = true) (nd : ps.Nodup) : PlainP fd ps := by
  obtain ⟨oc, od, dV, kV, doc, pm, an, cdv, ct, osl, rfl, _, _, dv, _⟩ := F.ex
  unfold argsOk' at h
  simp only [Bool.and_eq_true, decide_eq_true_eq, List.isEmpty_iff, Option.isNone_iff_eq_none] at h
  obtain ⟨⟨⟨⟨h1, h2⟩, h3⟩, h4⟩, h5⟩ := h
  refine ⟨h1, h2, h3, h4, ?_, h5, nd⟩
  rcases dv with ⟨_, dv⟩ | ⟨dv, _⟩
  · exact dv
  · exact (dv rfl).elim
section
variable {hs : List Hint} {gl : List (Str × GV)} {b : List Stmt} {ds : List Df} {fa : List He.Fa} {P : Program} {w : World} {K : PySem.W.Frag} {mg : Str → Option Value} {base h : Heap}
theorem lookup_mem {α : Type} : ∀ {l : List (Str × α)} {x : Str} {v : α}, l.lookup x = some v → (x, v) ∈ l
  | [], x, v, h => by simp at h
  | (k, w) :: r, x, v, h => by
    rw [List.lookup_cons] at h
    cases q : x == k with
    | true =>
      rw [q] at h
      cases h
      rw [eq_of_beq q]
      exact List.mem_cons_self
    | false =>
      rw [q] at h
      exact List.mem_cons_of_mem _ (lookup_mem h)
theorem fact_mem {fn : List He.DefD} (c : He.SaysD fa fn K) {f : He.Fa} (h : f ∈ fa) : f.ok K = true := by
  obtain ⟨i, hi⟩ := List.mem_iff_getElem?.mp h
  exact c.fact i hi
def gdOf (hs : List Hint) (b : List Stmt) (K : PySem.W.Frag) : Gd := ⟨K, fun g => (hs[g]?).map fun h => He.fAd K (ddOf b h).at_⟩
theorem wd_of (X : K.In h) (G : h.Ns mainGlobals mg) (c : He.SaysD fa (hs.map (ddOf b)) K) (pr : cProg hs gl b = some ds) (ok : hs.all (hintOk b) = true) (og : gl.all (globOk hs b fa) = true) (ob : bltOk gl fa = true) : Wd hs gl b ds (gdOf hs b K) P w K mg base where
  hK := rfl
  prog := pr
  defs := fun g f e => by
    obtain ⟨hh, h1, rfl⟩ := omap e
    refine ⟨hh, h1, ?_⟩
    have o := List.all_eq_true.mp ok hh (List.mem_of_getElem? h1)
    unfold hintOk at o
    simp only [Bool.and_eq_true, decide_eq_true_eq] at o
    obtain ⟨⟨o1, o2⟩, o3⟩ := o
    obtain ⟨fd, F⟩ := c.def_ g (d := ddOf b hh) (by rw [List.getElem?_map, h1]; rfl)
    have fs := scopeOk_fs o2
    have p : PlainP fd (hh.N.take hh.np) := plain_of F o3 (nodup_take fs.nd _)
    exact ⟨⟨_, _, fd, F, fs, p.binds, p.kwOk⟩, o1⟩
  glo := fun x g e => by
    have o := List.all_eq_true.mp og _ (lookup_mem e)
    unfold globOk at o
    simp only [Bool.and_eq_true] at o
    obtain ⟨o1, o2⟩ := o
    split at o1
    · rename_i hh h1
      have en := of_decide_eq_true o1
      obtain ⟨f, hf, o3⟩ := List.any_eq_true.mp o2
      split at o3
      · rename_i y
        have ey := of_decide_eq_true o3
        subst ey
        refine ⟨_, He.glo_ok X G (fact_mem c hf), ?_⟩
        show (hs[g]?).map (fun h => He.fAd K (ddOf b h).at_) = _
        rw [h1]
        show some (He.ga K (defName (topOf b hh.at_))) = _
        rw [en]
      · cases o3
    · cases o1
  cst := fun x d e => by
    have o := List.all_eq_true.mp og _ (lookup_mem e)
    unfold globOk at o
    simp only at o
    split at o
    · rename_i q; cases q
    · rename_i i q
      cases q
      obtain ⟨f, hf, o3⟩ := List.any_eq_true.mp o
      split at o3
      · rw [Bool.and_eq_true, decide_eq_true_eq, decide_eq_true_eq] at o3
        obtain ⟨e1, e2⟩ := o3
        subst e1 e2
        obtain ⟨t, ht⟩ := He.int_ok X G (fact_mem c hf)
        exact ⟨.int _, _, ht, ⟨t, rfl⟩, fun m H => Rep.of_int⟩
      · cases o3
    · rename_i i q
      cases q
      obtain ⟨f, hf, o3⟩ := List.any_eq_true.mp o
      split at o3
      · rw [Bool.and_eq_true, decide_eq_true_eq, decide_eq_true_eq] at o3
        obtain ⟨e1, e2⟩ := o3
        subst e1 e2
        obtain ⟨t, ht⟩ := He.str_ok X G (fact_mem c hf)
        exact ⟨.str _, _, ht, ⟨t, rfl⟩, fun m H => Rep.of_str⟩
      · cases o3
    · cases o
  blt := fun x hx e => by
    have o := List.all_eq_true.mp ob x hx
    rw [e] at o
    simp only [Option.isSome_none, Bool.false_or] at o
    obtain ⟨f, hf, o3⟩ := List.any_eq_true.mp o
    split at o3
    · have ey := of_decide_eq_true o3
      subst ey
      exact He.free_ok X G (fact_mem c hf)
    · cases o3

/-- the law's promise, from what the evaluator answers -/
theorem law_sp {S : Sx} {g : Nat} {ns : List Int} {H : Hp} {a : Addr} {E : XK} (hR : S.R g = []) (hf : S.Φ g [.lst (ns.map .int)] = some (.bl true, [])) (hs : SqL S.G.K H a (ns.map V.int)) : spOf S g [.ref a] H (fun v _ => v = .bl true) E := by
  have ar : Args S.G (fun _ => False) H (fun _ => none) (S.R g) [.lst (ns.map .int)] [.ref a] := by
    refine ⟨rfl, fun _ z => z.elim, ?_, ?_, ?_, ?_, ?_⟩
    · intro j d _ hj
      rw [hR] at hj
      cases hj
    · intro j d e _
      cases j with
      | zero =>
        simp at e
        subst e
        refine ⟨.ref a, rfl, ?_⟩
        simp only [Rep]
        refine ⟨a, ns.map V.int, rfl, ?_, Reps.of_ints ns⟩
        rcases hs with hs | hs
        · exact .inl ⟨hs, fun z => z⟩
        · exact .inr hs
      | succ j => simp at e
    · intro i j a e; cases e
    · intro i a e; cases e
    · intro i a e; cases e
  refine ⟨fun _ => False, fun _ => none, [.lst (ns.map .int)], .bl true, [], hf, ar, fun v H' m2 bk => ?_⟩
  · rcases bk.res with ⟨_, _, _, _, z⟩ | ⟨z, _⟩
    · exact z.elim
    · simpa only [Rep] using z
end
end Qx
set_option Elab.async false
set_option linter.all false
set_option maxRecDepth 100000
set_option maxHeartbeats 4000000
/-! QTop: from the evaluator's answer to the law's walk. -/
namespace Qx
open PySem PySem.Spec PyProof.Rows L2
section
variable {hs : List Hint} {gl : List (Str × GV)} {b : List Stmt} {ds : List Df} {G : Gd} {P : Program} {w : World} {K : PySem.W.Frag} {mg : Str → Option Value} {base : Heap} {n g : Nat} {f : Addr} {h : Hint}
theorem PlainP.bind1 {fd : FuncData} {ps : List Str} {x : Str} (p : PlainP fd ps) (e : ps = [x]) (s : Shared) (u : Value) : BindsTo s fd ⟨[u], []⟩ [(x, u)] := by
  subst e
  have e := p.bind (kwPos_all [x]) List.nodup_nil (by simp) (by simp) (us := [u]) rfl (ws := []) rfl
  rw [List.append_nil, show [x].length = [u].length from rfl, pick_all] at e
  exact .of_eq e
theorem fn_one (W : Wd hs gl b ds G P w K mg base) (n : Nat) (h0 : Hint) (hg : hs[g]? = some h) {x qual : Str} {fd : FuncData} (F : FunD K x qual (defArgs (topOf b h.at_)) (defBody (topOf b h.at_)) (defScope (topOf b h.at_)) [] [] f fd) (fs : FnScope h.N (h.N.take h.np) (defScope (topOf b h.at_))) (hn : h.np ≤ h.N.length) : FnOk P w K mg base CX0 (n + 1) f fd (h.N.take h.np) (spOf (sxOf hs gl ds G (n + 1) h0) g) := by
  obtain ⟨d, hd, d1, d2, d3, hc⟩ := df_some W.prog hg
  have lenN : (h.N.take h.np).length = h.np := by rw [List.length_take]; omega
  refine F.ok fs (fun vs H Q E z => ?_) (fun cdv A outer s H vs Q E r z => ?_)
  · obtain ⟨m, B, args, r, outs, z, ar, _⟩ := z
    have z : callD ds (n + 1) g args = some (r, outs) := z
    simp only [callD, hd, runD] at z
    rw [← ar.len, (oi z).1, d1, lenN]
  · have ct := ct_fun (h := h) (qual := qual) (fa := f) (cdv := cdv) (A := A) (outer := outer) (s := s) (H := H) (E := E) W (fun g f e => fn_all W n h g f e) fs r
    have ps := (all_st (sxOf hs gl ds G n h) n h.np 200).ss _ _ ct _ _ hc
    exact ⟨_, PSs.nox ps, body_ok (E := E) W hg hn hd d1 d2 d3 ps z⟩
end
theorem top_facts {hs : List Hint} {gl : List (Str × GV)} {b : List Stmt} {ds : List Df} {fa : List He.Fa} {P : Program} {w : World} {K : PySem.W.Frag} {h : Heap} {mg : Str → Option Value} {f : Addr} {n g : Nat} {hh : Hint}
    (X : K.In h) (G : h.Ns mainGlobals mg) (hfa : mg ("law" : Str) = some (.ref f)) (c : He.SaysD fa (hs.map (ddOf b)) K) (pr : cProg hs gl b = some ds) (ok : hs.all (hintOk b) = true) (og : gl.all (globOk hs b fa) = true) (ob : bltOk gl fa = true)
    (hg : hs[g]? = some hh) (hnm : defName (topOf b hh.at_) = "law") (hps : hh.N.take hh.np = [("script" : Str)]) (hin : He.Fa.glo (defName (topOf b hh.at_)) ∈ fa) (hr : rfsOf ds g = [])
    (hpl : ∀ ns : List Int, ns.length ≤ 63 → callD ds (n + 1) g [.lst (ns.map .int)] = some (.bl true, [])) :
    ∃ (K : PySem.W.Frag) (fd : FuncData) (sp : L2.Sp), K.In h ∧ (∀ (s : Shared) (u : Value), BindsTo s fd ⟨[u], []⟩ [("script", u)]) ∧
        (∀ (H : L2.Hp) (a : Addr) (ns : List Int), ns.length ≤ 63 → L2.Only H → L2.SqL K H a (ns.map L2.V.int) → sp [.ref a] H (fun v _ => v = .bl true) fun _ _ _ => False) ∧
        ∀ base : Heap, K.In base → base.Ns mainGlobals mg → L2.FnOk P w K mg base L2.CX0 (n + 1) f fd ["script"] sp := by
  have e1 : He.fAd K (ddOf b hh).at_ = He.ga K "law" := by
    show He.ga K (defName (topOf b hh.at_)) = _
    rw [hnm]
  have e2 : f = He.ga K "law" := by
    have := hfa.symm.trans (He.glo_ok X G (fact_mem c (f := .glo "law") (by rw [← hnm]; exact hin)))
    cases this; rfl
  have e3 : f = He.fAd K (ddOf b hh).at_ := e2.trans e1.symm
  subst e3
  have wd : ∀ base : Heap, Wd hs gl b ds (gdOf hs b K) P w K mg base := fun base => wd_of X G c pr ok og ob
  have o := List.all_eq_true.mp ok hh (List.mem_of_getElem? hg)
  unfold hintOk at o
  simp only [Bool.and_eq_true, decide_eq_true_eq] at o
  obtain ⟨⟨o1, o2⟩, o3⟩ := o
  obtain ⟨fd, F⟩ := c.def_ g (d := ddOf b hh) (by rw [List.getElem?_map, hg]; rfl)
  have fs := scopeOk_fs o2
  have p : PlainP fd (hh.N.take hh.np) := plain_of F o3 (nodup_take fs.nd _)
  refine ⟨K, fd, spOf (sxOf hs gl ds (gdOf hs b K) (n + 1) hh) g, X, p.bind1 hps, fun H a ns hl _ hs' => law_sp hr (hpl ns hl) hs', fun base _ _ => ?_⟩
  have := fn_one (wd base) n hh hg F fs o1
  rw [hps] at this
  exact this
theorem room_of {n : Nat} (h : n ≤ 200) : L2.Room n callerA :=
  ⟨rfl, by have h1 : callerA.depth + 3 * 200 + 5 < recursionLimit := by decide
           omega, by have h1 : callerA.units + 16 * 200 + 200 < cLine := by decide
                     omega⟩
end Qx
set_option Elab.async false
set_option linter.all false
/-! QPl: rules of the evaluator, to be applied. -/
namespace Qx
open PySem
section
variable {Φ : Orc} {R : Rfs} {env e1 e2 e3 : En} {d dx dy dz : D}
/-! calls -/
theorem call_ret {ds : List Df} {n f : Nat} {args os : List D} {d : Df} {r : D} (hd : ds[f]? = some d) (ha : args.length = d.np) (h : evSs (callD ds n) (rfsOf ds) d.np d.body (startE d args) = some (.ret r, e1)) (ho : outsE e1 d.refs = some os) : callD ds (n + 1) f args = some (r, os) := by
  simp only [callD, hd, runD, if_pos ha, h, ho, Option.map_some]
theorem call_nx {ds : List Df} {n f : Nat} {args os : List D} {d : Df} (hd : ds[f]? = some d) (ha : args.length = d.np) (h : evSs (callD ds n) (rfsOf ds) d.np d.body (startE d args) = some (.nx, e1)) (ho : outsE e1 d.refs = some os) : callD ds (n + 1) f args = some (.non, os) := by
  simp only [callD, hd, runD, if_pos ha, h, ho, Option.map_some]
theorem callE_plain {f : Nat} {as : List A} {ds : List D} {r : D} (hr : R f = []) (ha : resAs env as = some ds) (h : Φ f ds = some (r, [])) (hl : lent as [] = false ∨ noL r = true) : callE Φ R f as env = some (r, env) := by
  unfold callE
  rw [ha, hr]
  simp only [refSlots, nodupB, List.contains_nil, Bool.not_false, h, List.length_nil, true_and, Bool.true_and]
  rw [if_pos (by simp), if_pos (by rcases hl with z | z
                                   · exact .inl z
                                   · exact .inr ⟨z, rfl⟩)]
  rfl
/-! expressions -/
theorem v_var {i : Nat} (h : getV env i = some d) : evE Φ R (.var i) env = some (d, env) := by
  simp only [evE, h]
theorem v_cst : evE Φ R (.cst d) env = some (d, env) := by
  simp only [evE]
theorem op_v {e : E} (h : evE Φ R e env = some (d, e1)) : opE e (evE Φ R e) env = some (.v d, e1) := by
  unfold opE
  split
  · simp only [evE] at h
    cases h
  · rw [h]
theorem op_o {i : Nat} {f : En → Option (D × En)} (h : isO env i = true) : opE (.own i) f env = some (.o i, env) := by
  simp only [opE, h, if_true]
theorem v_binA {op : Bop} {a b : E} {x y : A} (h1 : opE a (evE Φ R a) env = some (x, e1)) (h2 : opE b (evE Φ R b) e1 = some (y, e2)) (h3 : resA e2 x = some dx) (h4 : resA e2 y = some dy) (h : binD op dx dy = some d) : evE Φ R (.bin op a b) env = some (d, e2) := by
  simp only [evE, h1, h2, h3, h4, h]
theorem v_bin {op : Bop} {a b : E} (h1 : evE Φ R a env = some (dx, e1)) (h2 : evE Φ R b e1 = some (dy, e2)) (h : binD op dx dy = some d) : evE Φ R (.bin op a b) env = some (d, e2) :=
  v_binA (op_v h1) (op_v h2) rfl rfl h
theorem v_neg {a : E} {i : Int} (h : evE Φ R a env = some (.int i, e1)) : evE Φ R (.neg a) env = some (.int (-i), e1) := by
  simp only [evE, h]
theorem v_nt {a : E} {p : Bool} (h : evE Φ R a env = some (.bl p, e1)) : evE Φ R (.nt a) env = some (.bl (!p), e1) := by
  simp only [evE, h, asB]
theorem v_an {a b : E} {p q : Bool} (h1 : evE Φ R a env = some (.bl p, e1)) (h2 : p = true → evE Φ R b e1 = some (.bl q, e1)) : evE Φ R (.an a b) env = some (.bl (p && q), e1) := by
  cases p <;> simp only [evE, h1, asB]
  · rfl
  · rw [h2 rfl]; rfl
theorem v_or {a b : E} {p q : Bool} (h1 : evE Φ R a env = some (.bl p, e1)) (h2 : p = false → evE Φ R b e1 = some (.bl q, e1)) : evE Φ R (.or a b) env = some (.bl (p || q), e1) := by
  cases p <;> simp only [evE, h1, asB]
  · rw [h2 rfl]; rfl
  · rfl
theorem v_ite {c a b : E} {p : Bool} {r : Option (D × En)} (h1 : evE Φ R c env = some (.bl p, e1)) (h2 : p = true → evE Φ R a e1 = r) (h3 : p = false → evE Φ R b e1 = r) : evE Φ R (.ite c a b) env = r := by
  cases p <;> simp only [evE, h1, asB]
  · exact h3 rfl
  · exact h2 rfl
theorem v_cmpA {op : Cop} {a b : E} {x y : A} {k : Bool} (h1 : opE a (evE Φ R a) env = some (x, e1)) (h2 : opE b (evE Φ R b) e1 = some (y, e2)) (h3 : resA e2 x = some dx) (h4 : resA e2 y = some dy) (h : cmpD op dx dy = some k) : evE Φ R (.cmp op a b) env = some (.bl k, e2) := by
  simp only [evE, h1, h2, h3, h4, h]
theorem v_cmp {op : Cop} {a b : E} {k : Bool} (h1 : evE Φ R a env = some (dx, e1)) (h2 : evE Φ R b e1 = some (dy, e2)) (h : cmpD op dx dy = some k) : evE Φ R (.cmp op a b) env = some (.bl k, e2) :=
  v_cmpA (op_v h1) (op_v h2) rfl rfl h
theorem v_chn {op op' : Cop} {a b c : E} {k l : Bool} (h1 : evE Φ R a env = some (dx, env)) (h2 : evE Φ R b env = some (dy, env)) (h : cmpD op dx dy = some k) (h3 : k = true → evE Φ R c env = some (dz, env)) (h4 : k = true → cmpD op' dy dz = some l) : evE Φ R (.chn op op' a b c) env = some (.bl (k && l), env) := by
  cases k <;> simp only [evE, h1, h2, h]
  · rfl
  · simp only [h3 rfl, h4 rfl]; rfl
theorem vs_nil : evEs Φ R [] env = some ([], env) := by simp only [evEs]
theorem vs_cons {e : E} {es : List E} {ds : List D} (h1 : evE Φ R e env = some (d, e1)) (h2 : evEs Φ R es e1 = some (ds, e2)) : evEs Φ R (e :: es) env = some (d :: ds, e2) := by
  simp only [evEs, h1, h2]
theorem as_nil : evAs Φ R [] env = some ([], env) := by simp only [evAs]
theorem as_v {e : E} {es : List E} {as : List A} (h1 : evE Φ R e env = some (d, e1)) (h2 : evAs Φ R es e1 = some (as, e2)) : evAs Φ R (e :: es) env = some (.v d :: as, e2) := by
  simp only [evAs, op_v h1, h2]
theorem as_o {i : Nat} {es : List E} {as : List A} (h1 : isO env i = true) (h2 : evAs Φ R es env = some (as, e2)) : evAs Φ R (.own i :: es) env = some (.o i :: as, e2) := by
  simp only [evAs, op_o h1, h2]
theorem v_tup {es : List E} {ds : List D} (h1 : evEs Φ R es env = some (ds, e1)) (h2 : ds.length ≤ SZ) : evE Φ R (.tup es) env = some (.tup ds, e1) := by
  simp only [evE, h1, if_pos h2]
theorem v_lst {es : List E} {ds : List D} (h1 : evEs Φ R es env = some (ds, e1)) (h2 : ds.length ≤ SZ) : evE Φ R (.lst es) env = some (.lst ds, e1) := by
  simp only [evE, h1, if_pos h2]
theorem v_dct0 : evE Φ R (.dct false []) env = some (.dct false [] [], env) := by
  simp only [evE, vs_nil]
  rfl
/-- a call that changes nothing -/
theorem v_call {f : Nat} {es : List E} {as : List A} {ds : List D} {r : D} (h1 : evAs Φ R es env = some (as, e1)) (hr : R f = []) (ha : resAs e1 as = some ds) (h : Φ f ds = some (r, [])) (hl : lent as [] = false ∨ noL r = true) : evE Φ R (.call f es []) env = some (r, e1) := by
  simp only [evE, h1, permA]
  exact callE_plain hr ha h hl
theorem v_isi {a : E} {x : A} {ts : List Ty} {k : D} (h1 : opE a (evE Φ R a) env = some (x, e1)) (h2 : resA e1 x = some d) (h : isaD d ts = some k) : evE Φ R (.isi a ts) env = some (k, e1) := by
  simp only [evE, h1, h2, h]
theorem v_bi {b : Bi} {es : List E} {as : List A} {ds : List D} (h1 : evAs Φ R es env = some (as, e1)) (h2 : resAs e1 as = some ds) (h : biD b ds = some d) : evE Φ R (.bi b es) env = some (d, e1) := by
  simp only [evE, h1, h2, h]
theorem v_bi1 {b : Bi} {e : E} (h1 : evE Φ R e env = some (dx, e1)) (h : biD b [dx] = some d) : evE Φ R (.bi b [e]) env = some (d, e1) :=
  v_bi (as_v h1 as_nil) rfl h
theorem v_sub {a i : E} (h1 : evE Φ R a env = some (dx, e1)) (h2 : evE Φ R i e1 = some (dy, e2)) (h : subD dx dy = some d) : evE Φ R (.sub a i) env = some (d, e2) := by
  simp only [evE, op_v h1, h2, resA, h]
theorem v_subA {a i : E} {x : A} (h1 : opE a (evE Φ R a) env = some (x, e1)) (h2 : evE Φ R i e1 = some (dy, e2)) (h3 : resA e2 x = some dx) (h : subD dx dy = some d) : evE Φ R (.sub a i) env = some (d, e2) := by
  simp only [evE, h1, h2, h3, h]
theorem v_slc {a lo hi : E} {dl dh : D} (h1 : evE Φ R a env = some (dx, e1)) (h2 : evE Φ R lo e1 = some (dl, e2)) (h3 : evE Φ R hi e2 = some (dh, e3)) (h : slcD dx dl dh = some d) : evE Φ R (.slc a lo hi) env = some (d, e3) := by
  simp only [evE, op_v h1, h2, h3, resA, h]
theorem v_rev {a lo : E} {dl : D} (h1 : evE Φ R a env = some (dx, e1)) (h2 : evE Φ R lo e1 = some (dl, e2)) (h : revD dx dl = some d) : evE Φ R (.rev a lo) env = some (d, e2) := by
  simp only [evE, op_v h1, h2, resA, h]
theorem v_mm {m : Mm} {i : Nat} {es : List E} {ds l : List D} {o r d' : D} (h0 : getO env i = some (.lst l)) (h1 : evEs Φ R es env = some (ds, e1)) (h2 : getO e1 i = some o) (h : mmD m o ds = some (r, d')) : evE Φ R (.mm m i es) env = some (r, e1.set i (.own d')) := by
  simp only [evE, h0, h1, h2, h]
theorem v_mp {m : Mp} {o : E} {es : List E} {ds : List D} {x : A} {r : D} (h0 : opE o (evE Φ R o) env = some (x, e1)) (hd : isDctA e1 x = true) (h1 : evEs Φ R es e1 = some (ds, e2)) (h2 : resA e2 x = some dx) (h : mpD m dx ds = some r) : evE Φ R (.mp m o es) env = some (r, e2) := by
  simp only [evE, h0, hd, if_true, h1, h2, h]
/-! what is walked -/
theorem it_seq {e : E} {xs : List D} (h : evE Φ R e env = some (d, e1)) (hs : seqD d = some xs) : evIt Φ R (.seq e) env = some (xs, (.v d, d), e1) := by
  simp only [evIt, op_v h, itOf, resA, hs]
theorem it_seqO {i : Nat} {xs : List D} (h : getO env i = some d) (hs : seqD d = some xs) : evIt Φ R (.seq (.own i)) env = some (xs, (.o i, d), env) := by
  have : isO env i = true := by
    unfold getO at h
    unfold isO
    split at h
    · rename_i e; simp only [e]
    · cases h
  simp only [evIt, op_o this, itOf, resA, h, hs]
theorem it_rngP {es : List E} {ds xs : List D} (h : evEs Φ R es env = some (ds, e1)) (hs : rngD ds = some xs) : evIt Φ R (.rng es) env = some (xs, (.v .non, .non), e1) := by
  simp only [evIt, h, hs]
theorem it_enu {e : E} {xs : List D} (h : evE Φ R e env = some (d, e1)) (hs : seqD d = some xs) : evIt Φ R (.enu e) env = some (enuD xs, (.v d, d), e1) := by
  simp only [evIt, op_v h, itOf, resA, hs, Option.map_some]
theorem it_itms {e : E} {xs : List D} (h : evE Φ R e env = some (d, e1)) (hs : dirD d = some xs) : evIt Φ R (.itms e) env = some (xs, (.v d, d), e1) := by
  simp only [evIt, op_v h, itOf, resA, hs]
theorem gd_v {x : D} : gd (.v x) d env = true := rfl
/-! comprehensions -/
theorem wipe_len : ∀ (vs : List Nat) (e : En), (wipeE e vs).length = e.length
  | [], e => rfl
  | v :: vs, e => by simp [wipeE, wipe_len vs e]
theorem wipe_get : ∀ (vs : List Nat) (e : En) (i : Nat), i < e.length → (wipeE e vs)[i]? = if i ∈ vs then some .no else e[i]?
  | [], e, i, h => by simp [wipeE]
  | v :: vs, e, i, h => by
    simp only [wipeE, List.getElem?_set, wipe_len]
    by_cases c : v = i
    · subst c; simp [h]
    · have : ¬ i = v := fun z => c z.symm
      simp [c, this, wipe_get vs e i h]
theorem back_len : ∀ (vs : List Nat) (a b : En), (backE a b vs).length = b.length
  | [], a, b => rfl
  | v :: vs, a, b => by simp [backE, back_len vs a b]
theorem back_get : ∀ (vs : List Nat) (a b : En) (i : Nat), i < b.length → (backE a b vs)[i]? = if i ∈ vs then some (a.getD i .no) else b[i]?
  | [], a, b, i, h => by simp [backE]
  | v :: vs, a, b, i, h => by
    simp only [backE, List.getElem?_set, back_len]
    by_cases c : v = i
    · subst c; simp [h]
    · have : ¬ i = v := fun z => c z.symm
      simp [c, this, back_get vs a b i h]
/-- behind a comprehension all stands as ahead of it, where only its own names differ -/
theorem back_id {vs : List Nat} {a b : En} (h : wipeE b vs = wipeE a vs) : backE a b vs = a := by
  have hl : b.length = a.length := by rw [← wipe_len vs b, h, wipe_len]
  apply List.ext_getElem?
  intro i
  by_cases c : i < a.length
  · rw [back_get _ _ _ _ (by omega)]
    by_cases d : i ∈ vs
    · simp [d, List.getElem?_eq_getElem c]
    · have h1 := wipe_get vs a i c
      have h2 := wipe_get vs b i (by omega)
      rw [h] at h2
      simp only [d, if_false] at h1 h2 ⊢
      rw [← h2, h1]
  · rw [List.getElem?_eq_none (by rw [back_len]; omega), List.getElem?_eq_none (by omega)]
theorem compL_map {α : Type} {t : TN} {vs : List Nat} {g : En → Bool} {c elt : En → Option (D × En)} {F : α → D} {p : α → Bool} {f : α → D} {e0 : En} (hg : g e0 = true) : ∀ (ys : List α) (env : En), wipeE env vs = e0 →
    (∀ y ∈ ys, ∃ e1, putT t (F y) e0 = some e1 ∧ c e1 = some (.bl (p y), e1) ∧ (p y = true → elt e1 = some (f y, e1)) ∧ wipeE e1 vs = e0) →
    ∃ e2, compL t vs g c elt (ys.map F) env = some ((ys.filter p).map f, e2) ∧ wipeE e2 vs = e0
  | [], env, hw, _ => ⟨env, by simp only [List.map_nil, compL, hw, hg, if_true, List.filter_nil], hw⟩
  | y :: ys, env, hw, h => by
    obtain ⟨e1, h1, h2, h3, h4⟩ := h y (by simp)
    obtain ⟨e2, h5, h6⟩ := compL_map hg ys e1 h4 fun z hz => h z (List.mem_cons_of_mem _ hz)
    refine ⟨e2, ?_, h6⟩
    simp only [List.map_cons, compL, hw, hg, if_true, h1, h2, asB]
    cases q : p y with
    | false =>
      simp only [h5]
      rw [List.filter_cons_of_neg (by simp [q])]
    | true =>
      simp only [h3 q, h5]
      rw [List.filter_cons_of_pos q]
      rfl
theorem v_comp {α : Type} {elt c : E} {vs : List Nat} {t : TN} {it : It} {xs : List D} {g : A × D} (ys : List α) (F : α → D) (p : α → Bool) (f : α → D) (hi : evIt Φ R it env = some (xs, g, e1)) (hx : xs = ys.map F) (hn : noO e1 vs = true) (hg : gd g.1 g.2 (wipeE e1 vs) = true)
    (h : ∀ y ∈ ys, ∃ e2, putT t (F y) (wipeE e1 vs) = some e2 ∧ evE Φ R c e2 = some (.bl (p y), e2) ∧ (p y = true → evE Φ R elt e2 = some (f y, e2)) ∧ wipeE e2 vs = wipeE e1 vs) (hl : ys.length ≤ SZ) : evE Φ R (.comp elt vs t it c) env = some (.lst ((ys.filter p).map f), e1) := by
  subst hx
  obtain ⟨e2, h1, h2⟩ := compL_map hg ys e1 rfl h
  simp only [evE, hi, hn, if_true, h1]
  rw [if_pos (by rw [List.length_map]; exact Nat.le_trans (List.length_filter_le _ _) hl), back_id h2]
/-- without a condition -/
theorem v_compT {α : Type} {elt : E} {vs : List Nat} {t : TN} {it : It} {xs : List D} {g : A × D} (ys : List α) (F : α → D) (f : α → D) (hi : evIt Φ R it env = some (xs, g, e1)) (hx : xs = ys.map F) (hn : noO e1 vs = true) (hg : gd g.1 g.2 (wipeE e1 vs) = true)
    (h : ∀ y ∈ ys, ∃ e2, putT t (F y) (wipeE e1 vs) = some e2 ∧ evE Φ R elt e2 = some (f y, e2) ∧ wipeE e2 vs = wipeE e1 vs) (hl : ys.length ≤ SZ) : evE Φ R (.comp elt vs t it (.cst (.bl true))) env = some (.lst (ys.map f), e1) := by
  have := v_comp (Φ := Φ) (R := R) (c := .cst (.bl true)) ys F (fun _ => true) f hi hx hn hg (fun y hy => by
    obtain ⟨e2, h1, h2, h3⟩ := h y hy
    exact ⟨e2, h1, v_cst, fun _ => h2, h3⟩) hl
  rw [List.filter_eq_self.mpr (fun _ _ => rfl)] at this
  exact this
/-! statements -/
variable {np : Nat}
theorem ss_nil : evSs Φ R np [] env = some (.nx, env) := by simp only [evSs]
theorem ss_cons {s : S} {ss : List S} {r : Option (Fl × En)} (h1 : evS Φ R np s env = some (.nx, e1)) (h2 : evSs Φ R np ss e1 = r) : evSs Φ R np (s :: ss) env = r := by
  simp only [evSs, h1, h2]
theorem ss_ret {s : S} {ss : List S} (h1 : evS Φ R np s env = some (.ret d, e1)) : evSs Φ R np (s :: ss) env = some (.ret d, e1) := by
  simp only [evSs, h1]
theorem s_exp {e : E} (h : evE Φ R e env = some (d, e1)) : evS Φ R np (.exp e) env = some (.nx, e1) := by
  simp only [evS, h]
theorem s_asg {t : TN} {e : E} (h : evE Φ R e env = some (d, e1)) (hp : putT t d e1 = some e2) : evS Φ R np (.asg (.tn t) e) env = some (.nx, e2) := by
  simp only [evS, h, putS, hp, Option.map_some]
theorem s_new {i : Nat} {e : E} (h : evE Φ R e env = some (d, e1)) (hc : isC d = true) (hn : np ≤ i) (hi : i < e1.length) : evS Φ R np (.new i e) env = some (.nx, e1.set i (.own d)) := by
  simp only [evS, h, hc, hn, hi, decide_true, Bool.and_self, if_true]
theorem s_ret {e : E} (h : evR Φ R np e env = some (d, e1)) : evS Φ R np (.ret e) env = some (.ret d, e1) := by
  simp only [evS, h]
/-- where nothing of its own is handed back -/
theorem r_e {e : E} (h : evE Φ R e env = some (d, e1)) (h1 : ∀ i, e ≠ .own i) (h2 : ∀ es, e ≠ .tup es) : evR Φ R np e env = some (d, e1) := by
  unfold evR
  split
  · exact (h1 _ rfl).elim
  · exact (h2 _ rfl).elim
  · exact h
theorem r_own {i : Nat} (hn : np ≤ i) (h : getO env i = some d) : evR Φ R np (.own i) env = some (d, env) := by
  simp only [evR, if_pos hn, h, Option.map_some]
theorem s_iteT {c : E} {a b : List S} {r : Option (Fl × En)} (h : evE Φ R c env = some (.bl true, e1)) (h1 : evSs Φ R np a e1 = r) : evS Φ R np (.ite c a b) env = r := by
  simp only [evS, h, asB, h1]
theorem s_iteF {c : E} {a b : List S} {r : Option (Fl × En)} (h : evE Φ R c env = some (.bl false, e1)) (h1 : evSs Φ R np b e1 = r) : evS Φ R np (.ite c a b) env = r := by
  simp only [evS, h, asB, h1]
theorem s_for {t : TN} {it : It} {b : List S} {xs : List D} {g : A × D} {r : Option (Fl × En)} (h : evIt Φ R it env = some (xs, g, e1)) (h1 : forL t (gd g.1 g.2) (evSs Φ R np b) xs e1 = r) : evS Φ R np (.for_ t it b) env = r := by
  simp only [evS, h, h1]
/-- a loop that goes through: an invariant over what was walked -/
theorem for_all {α : Type} {t : TN} {g : En → Bool} {body : En → Option (Fl × En)} {F : α → D} (I : List α → En → Prop) : ∀ (ys zs : List α) (env : En), I zs env → (∀ zs e, I zs e → g e = true) →
    (∀ zs y e, y ∈ ys → I zs e → ∃ e1 e2, putT t (F y) e = some e1 ∧ (body e1 = some (.nx, e2) ∨ body e1 = some (.ct, e2)) ∧ I (zs ++ [y]) e2) →
    ∃ e2, forL t g body (ys.map F) env = some (.nx, e2) ∧ I (zs ++ ys) e2
  | [], zs, env, hi, hg, h => ⟨env, by simp only [List.map_nil, forL, hg _ _ hi, if_true], by simpa using hi⟩
  | y :: ys, zs, env, hi, hg, h => by
    obtain ⟨e1, e2, h1, h2, h3⟩ := h zs y env (by simp) hi
    obtain ⟨e3, h4, h5⟩ := for_all I ys (zs ++ [y]) e2 h3 hg fun zs' z e hz => h zs' z e (List.mem_cons_of_mem _ hz)
    refine ⟨e3, ?_, by simpa using h5⟩
    simp only [List.map_cons, forL, hg _ _ hi, if_true, h1]
    rcases h2 with h2 | h2 <;> simp only [h2, h4]
end
end Qx
set_option Elab.async false
set_option linter.all false
set_option maxRecDepth 100000
/-! QPl2: what the built-ins give on data of known form; calls and comprehensions that change something. -/
namespace Qx
open PySem
/-- no def, no dict with tuple keys -/
def okd : D → Bool
  | .fn _ => false
  | .dct true _ _ => false
  | _ => true
def isInt : D → Bool
  | .int _ => true
  | .bl _ => true
  | _ => false
def isBl' : D → Bool
  | .bl _ => true
  | _ => false
def isTupP : D → Bool
  | .tup _ => true
  | _ => false
def isWh : D → Bool
  | .int _ => true
  | _ => false
theorem isa_int {d : D} (h : okd d = true) : isaD d [.int] = some (.bl (isInt d)) := by
  cases d with
  | dct t ks vs => cases t <;> first | rfl | cases h
  | fn f => cases h
  | _ => rfl
theorem isa_bool {d : D} (h : okd d = true) : isaD d [.bool] = some (.bl (isBl' d)) := by
  cases d with
  | dct t ks vs => cases t <;> first | rfl | cases h
  | fn f => cases h
  | _ => rfl
theorem isa_tup {d : D} (h : okd d = true) : isaD d [.tuple] = some (.bl (isTupP d)) := by
  cases d with
  | dct t ks vs => cases t <;> first | rfl | cases h
  | fn f => cases h
  | _ => rfl
theorem isWh_eq (d : D) : (isInt d && !isBl' d) = isWh d := by cases d <;> rfl
theorem bls_map {α : Type} (f : α → Bool) : ∀ l : List α, blsD (l.map fun x => .bl (f x)) = some (l.map f)
  | [] => rfl
  | a :: l => by simp only [List.map_cons, blsD, bls_map f l, Option.map_some]
theorem all_map {α : Type} (f : α → Bool) (l : List α) : biD .all [.lst (l.map fun x => .bl (f x))] = some (.bl (l.all f)) := by
  simp only [biD, d1, overB, bls_map, List.all_map]
  rfl
theorem any_map {α : Type} (f : α → Bool) (l : List α) : biD .any [.lst (l.map fun x => .bl (f x))] = some (.bl (l.any f)) := by
  simp only [biD, d1, overB, bls_map, List.any_map]
  rfl
theorem ints_map {α : Type} (f : α → Int) : ∀ l : List α, intsD (l.map fun x => .int (f x)) = some (l.map f)
  | [] => rfl
  | a :: l => by simp only [List.map_cons, intsD, ints_map f l, Option.map_some]
theorem ints_int : ∀ l : List Int, intsD (l.map .int) = some l
  | [] => rfl
  | a :: l => by simp only [List.map_cons, intsD, ints_int l, Option.map_some]
theorem sub_tupN {ds : List D} {k : Nat} {d : D} (h : ds[k]? = some d) : subD (.tup ds) (.int (k : Int)) = some d := by
  have := (List.getElem?_eq_some_iff.mp h).1
  simp only [subD, ixD]
  rw [if_pos (by omega), if_pos (by omega)]
  simpa using h
theorem sub_lstN {ds : List D} {k : Nat} {d : D} (h : ds[k]? = some d) : subD (.lst ds) (.int (k : Int)) = some d := by
  have := (List.getElem?_eq_some_iff.mp h).1
  simp only [subD, ixD]
  rw [if_pos (by omega), if_pos (by omega)]
  simpa using h
theorem sub_lst_last {ds : List D} {d : D} (h : ds.getLast? = some d) : subD (.lst ds) (.int (-1)) = some d := by
  have hl : 0 < ds.length := by
    cases ds with
    | nil => simp at h
    | cons a l => simp
  simp only [subD, ixD]
  rw [if_neg (by omega), if_pos (by omega)]
  rw [List.getLast?_eq_getElem?] at h
  have : (-1 + (ds.length : Int)).toNat = ds.length - 1 := by omega
  simp only [Option.bind_some, this, h]
theorem sub_tup_last {ds : List D} {d : D} (h : ds.getLast? = some d) : subD (.tup ds) (.int (-1)) = some d := by
  have hl : 0 < ds.length := by
    cases ds with
    | nil => simp at h
    | cons a l => simp
  simp only [subD, ixD]
  rw [if_neg (by omega), if_pos (by omega)]
  rw [List.getLast?_eq_getElem?] at h
  have : (-1 + (ds.length : Int)).toNat = ds.length - 1 := by omega
  simp only [Option.bind_some, this, h]
theorem eqD_int (i j : Int) : eqD (.int i) (.int j) = decide (i = j) := by
  simp only [eqD]
  by_cases h : i = j <;> simp [h]
theorem eqQ_int (i j : Int) : eqQ (.int i) (.int j) = some (decide (i = j)) := by
  show some (eqD (.int i) (.int j)) = _
  rw [eqD_int]
theorem eqDs_int : ∀ l m : List Int, eqDs (l.map .int) (m.map .int) = decide (l = m)
  | [], [] => rfl
  | [], b :: m => by simp [eqDs]
  | a :: l, [] => by simp [eqDs]
  | a :: l, b :: m => by
    simp only [List.map_cons, eqDs, eqD_int, eqDs_int l m]
    by_cases h : a = b <;> by_cases h' : l = m <;> simp [h, h']
theorem dok_ints (k : Nat) (l : List Int) : (l.map D.int).all (dok k) = true := by
  rw [List.all_map, List.all_eq_true]
  intro x _
  cases k <;> rfl
theorem dok_lstP (k : Nat) (l : List Int) : dok (k + 1) (.lst (l.map .int)) = true := by
  simp only [dok]
  exact dok_ints k l
theorem dok_tupP (k : Nat) (l : List Int) : dok (k + 1) (.tup (l.map .int)) = true := by
  simp only [dok]
  exact dok_ints k l
theorem eqQ_lst (l m : List Int) : eqQ (.lst (l.map .int)) (.lst (m.map .int)) = some (decide (l = m)) := by
  unfold eqQ
  simp only [dok_lstP 39, Bool.and_self, if_true, eqD, eqDs_int]
theorem in_lst (i : Int) (l : List Int) : inD (.int i) (.lst (l.map .int)) = some (decide (i ∈ l)) := by
  simp only [inD, dok_ints, show dok 40 (D.int i) = true from rfl, Bool.and_self, if_true, List.any_map, Option.some.injEq]
  rw [Bool.eq_iff_iff]
  simp [eqD_int, List.any_eq_true]
theorem in_tup (i : Int) (l : List Int) : inD (.int i) (.tup (l.map .int)) = some (decide (i ∈ l)) := by
  simp only [inD, dok_ints, show dok 40 (D.int i) = true from rfl, Bool.and_self, if_true, List.any_map, Option.some.injEq]
  rw [Bool.eq_iff_iff]
  simp [eqD_int, List.any_eq_true]
theorem look_isSome : ∀ (ks : List Int) (vs : List D) (i : Int), ks.length ≤ vs.length → (lookD (.int i) (ks.map .int) vs).isSome = decide (i ∈ ks)
  | [], vs, i, h => by simp [lookD]
  | k :: ks, [], i, h => by simp at h
  | k :: ks, v :: vs, i, h => by
    simp only [List.map_cons, lookD, eqD_int]
    by_cases c : k = i
    · simp [c]
    · have : ¬ i = k := fun z => c z.symm
      simp only [c, decide_false, Bool.false_eq_true, if_false, look_isSome ks vs i (by simpa using h)]
      simp [this]
theorem in_dct (i : Int) (ks : List Int) (vs : List D) (h : ks.length ≤ vs.length) : inD (.int i) (.dct false (ks.map .int) vs) = some (decide (i ∈ ks)) := by
  simp only [inD, show keyOk false (D.int i) = true from rfl, if_true, look_isSome ks vs i h]
theorem len_tup (ds : List D) : biD .len [.tup ds] = some (.int (ds.length : Int)) := rfl
theorem len_lst (ds : List D) : biD .len [.lst ds] = some (.int (ds.length : Int)) := rfl
theorem rng1 (n : Nat) (h : n ≤ SZ) : rngD [.int (n : Int)] = some ((List.range n).map fun (i : Nat) => D.int i) := by
  have hs : (-(2 ^ 62) : Int) ≤ n ∧ (n : Int) ≤ SZ := ⟨by omega, by exact_mod_cast h⟩
  simp only [rngD]
  rw [if_pos hs]
  rfl
theorem lrange_nat (n : Nat) (h : n ≤ SZ) : biD .lrange [.int (n : Int)] = some (.lst ((List.range n).map fun (i : Nat) => D.int i)) := by
  have hs : (-(2 ^ 62) : Int) ≤ n ∧ (n : Int) ≤ SZ := ⟨by omega, by exact_mod_cast h⟩
  simp only [biD, d1, lrB]
  rw [if_pos hs]
  rfl
theorem trange_nat (n : Nat) (h : n ≤ SZ) : biD .trange [.int (n : Int)] = some (.tup ((List.range n).map fun (i : Nat) => D.int i)) := by
  have hs : (-(2 ^ 62) : Int) ≤ n ∧ (n : Int) ≤ SZ := ⟨by omega, by exact_mod_cast h⟩
  simp only [biD, d1, trB]
  rw [if_pos hs]
  rfl
theorem enu_eq (ds : List D) : enuD ds = (List.range ds.length).map fun (i : Nat) => D.tup [.int i, ds.getD i .non] := rfl
theorem getD_mapI (l : List Int) (i : Nat) (h : i < l.length) : (l.map D.int).getD i .non = .int (l.getD i 0) := by
  rw [List.getD_eq_getElem?_getD, List.getD_eq_getElem?_getD, List.getElem?_map, List.getElem?_eq_getElem h]
  rfl
theorem get_mapI {l : List Int} {i : Nat} (h : i < l.length) : (l.map D.int)[i]? = some (.int (l.getD i 0)) := by
  rw [List.getElem?_map, List.getD_eq_getElem?_getD, List.getElem?_eq_getElem h]
  rfl
theorem get_mapN {l : List Nat} {i : Nat} (h : i < l.length) : (l.map fun (c : Nat) => D.int c)[i]? = some (.int (l.getD i 0 : Nat)) := by
  rw [List.getElem?_map, List.getD_eq_getElem?_getD, List.getElem?_eq_getElem h]
  rfl
theorem callL {ds : List Df} {n f : Nat} {args os : List D} {d : Df} {r : D} {e1 : En} (env0 : En) (hd : ds[f]? = some d) (ha : args.length = d.np) (hs : startE d args = env0) (h : evSs (callD ds n) (rfsOf ds) d.np d.body env0 = some (.ret r, e1)) (ho : outsE e1 d.refs = some os) : callD ds (n + 1) f args = some (r, os) := by
  subst hs
  exact call_ret hd ha h ho
theorem callLn {ds : List Df} {n f : Nat} {args os : List D} {d : Df} {e1 : En} (env0 : En) (hd : ds[f]? = some d) (ha : args.length = d.np) (hs : startE d args = env0) (h : evSs (callD ds n) (rfsOf ds) d.np d.body env0 = some (.nx, e1)) (ho : outsE e1 d.refs = some os) : callD ds (n + 1) f args = some (.non, os) := by
  subst hs
  exact call_nx hd ha h ho
/-! calls that change their first argument -/
section
variable {Φ : Orc} {R : Rfs} {env e1 e2 e3 : En} {d dx dy dz : D}
theorem v_eq {e : E} {d' : D} (h : evE Φ R e env = some (d, e1)) (q : d = d') : evE Φ R e env = some (d', e1) := q ▸ h
theorem v_callR {f i : Nat} {es : List E} {as : List A} {ds : List D} {r o o' : D} (h1 : evAs Φ R es env = some (.o i :: as, e1)) (hr : R f = [0]) (ha : resAs e1 as = some ds) (ho : getO e1 i = some o) (hl : lent (.o i :: as) [0] = false) (hs : readSlots (.o i :: as) [0] = []) (h : Φ f (o :: ds) = some (r, [o'])) : evE Φ R (.call f es []) env = some (r, e1.set i (.own o')) := by
  simp only [evE, h1, permA]
  unfold callE
  have : resAs e1 (.o i :: as) = some (o :: ds) := by
    simp only [resAs, resA, ho, Option.bind_some, ha, Option.map_some]
  rw [this, hr]
  simp only [refSlots, List.getElem?_cons_zero, Option.map_some, hs, List.all_nil, Bool.and_true]
  rw [if_pos (show nodupB [i] = true from rfl), h]
  simp only [List.length_singleton, hl, true_or, and_self, if_true, putOs]
theorem v_callP {f : Nat} {es : List E} {pm : List Nat} {as bs : List A} {ds : List D} {r : D} (h1 : evAs Φ R es env = some (as, e1)) (hp : permA pm as = some bs) (hr : R f = []) (ha : resAs e1 bs = some ds) (h : Φ f ds = some (r, [])) (hl : lent bs [] = false ∨ noL r = true) : evE Φ R (.call f es pm) env = some (r, e1) := by
  simp only [evE, h1, hp]
  exact callE_plain hr ha h hl
/-- a comprehension whose turns change other slots -/
theorem compL_st {α : Type} {t : TN} {vs : List Nat} {g : En → Bool} {elt : En → Option (D × En)} {F : α → D} (J : En → Prop) (Q : α → D → Prop) : ∀ (ys : List α) (env : En), J (wipeE env vs) → (∀ e, J e → g e = true) →
    (∀ y ∈ ys, ∀ e, J e → ∃ e1 d e2, putT t (F y) e = some e1 ∧ elt e1 = some (d, e2) ∧ Q y d ∧ J (wipeE e2 vs)) →
    ∃ (zs : List (α × D)) (e2 : En), compL t vs g (fun x => some (D.bl true, x)) elt (ys.map F) env = some (zs.map (·.2), e2) ∧ zs.map (·.1) = ys ∧ (∀ z ∈ zs, Q z.1 z.2) ∧ J (wipeE e2 vs)
  | [], env, hj, hg, _ => ⟨[], env, by simp only [List.map_nil, compL, hg _ hj, if_true], rfl, by simp, hj⟩
  | y :: ys, env, hj, hg, h => by
    obtain ⟨e1, d, e2, h1, h2, h3, h4⟩ := h y (by simp) _ hj
    obtain ⟨zs, e3, h5, h6, h7, h8⟩ := compL_st J Q ys e2 h4 hg fun z hz => h z (List.mem_cons_of_mem _ hz)
    refine ⟨(y, d) :: zs, e3, ?_, by simp [h6], ?_, h8⟩
    · simp only [List.map_cons, compL, hg _ hj, if_true, h1, asB, h2, h5]
    · intro z hz
      rcases List.mem_cons.mp hz with e | e
      · subst e; exact h3
      · exact h7 z e
theorem back_of {vs : List Nat} {a b c : En} (h : wipeE b vs = wipeE c vs) (hl : a.length = c.length) (hv : ∀ v ∈ vs, a.getD v .no = c.getD v .no) : backE a b vs = c := by
  have hlb : b.length = c.length := by rw [← wipe_len vs b, h, wipe_len]
  apply List.ext_getElem?
  intro i
  by_cases x : i < c.length
  · rw [back_get _ _ _ _ (by omega)]
    by_cases d : i ∈ vs
    · simp only [d, if_true, hv i d]
      rw [List.getD_eq_getElem?_getD, List.getElem?_eq_getElem x]
      rfl
    · have h1 := wipe_get vs c i x
      have h2 := wipe_get vs b i (by omega)
      rw [h] at h2
      simp only [d, if_false] at h1 h2 ⊢
      rw [← h2, h1]
  · rw [List.getElem?_eq_none (by rw [back_len]; omega), List.getElem?_eq_none (by omega)]
theorem v_compS {α : Type} {elt : E} {vs : List Nat} {t : TN} {it : It} {xs : List D} {g : A × D} (ys : List α) (F : α → D) (J : En → Prop) (Q : α → D → Prop) (hi : evIt Φ R it env = some (xs, g, e1)) (hx : xs = ys.map F) (hn : noO e1 vs = true) (hl : ys.length ≤ SZ)
    (hJ : J e1) (hv : ∀ e, J e → e.length = e1.length ∧ ∀ v ∈ vs, e1.getD v .no = e.getD v .no) (hg : ∀ e, J e → gd g.1 g.2 (wipeE e vs) = true)
    (h : ∀ y ∈ ys, ∀ e, J e → ∃ e3 d e2 e4, putT t (F y) (wipeE e vs) = some e3 ∧ evE Φ R elt e3 = some (d, e2) ∧ Q y d ∧ J e4 ∧ wipeE e2 vs = wipeE e4 vs) :
    ∃ (zs : List (α × D)) (e2 : En), evE Φ R (.comp elt vs t it (.cst (.bl true))) env = some (.lst (zs.map (·.2)), e2) ∧ zs.map (·.1) = ys ∧ (∀ z ∈ zs, Q z.1 z.2) ∧ J e2 := by
  subst hx
  obtain ⟨zs, e2, h1, h2, h3, e4, h4, h5⟩ := compL_st (t := t) (vs := vs) (g := gd g.1 g.2) (elt := evE Φ R elt) (F := F) (fun e => ∃ e', J e' ∧ wipeE e' vs = e) Q ys e1 ⟨e1, hJ, rfl⟩ (fun e ⟨e', j, z⟩ => by rw [← z]; exact hg e' j) (fun y hy e ⟨e', j, z⟩ => by
    obtain ⟨e3, d, e2, e4, k1, k2, k3, k4, k5⟩ := h y hy e' j
    exact ⟨e3, d, e2, by rw [← z]; exact k1, k2, k3, e4, k4, k5.symm⟩)
  refine ⟨zs, e4, ?_, h2, h3, h4⟩
  have hz : zs.length = ys.length := by rw [← h2, List.length_map]
  simp only [evE, hi, hn, if_true, h1]
  rw [if_pos (by rw [List.length_map]; omega), back_of (c := e4) h5.symm (hv e4 h4).1.symm (hv e4 h4).2]
/-! while -/
theorem while_all {c : En → Option (D × En)} {body : En → Option (Fl × En)} (I : En → Prop) (μ : En → Nat)
    (h : ∀ e, I e → ∃ p e1, c e = some (.bl p, e1) ∧ (p = true → ∃ e2, (body e1 = some (.nx, e2) ∨ body e1 = some (.ct, e2)) ∧ I e2 ∧ μ e2 < μ e)) :
    ∀ (n : Nat) (e : En), I e → μ e < n → ∃ e0 e1, whileL c body n e = some (.nx, e1) ∧ I e0 ∧ c e0 = some (.bl false, e1)
  | 0, e, _, hm => absurd hm (by omega)
  | n + 1, e, hi, hm => by
    obtain ⟨p, e1, h1, h2⟩ := h e hi
    cases p with
    | false => exact ⟨e, e1, by simp only [whileL, h1, asB], hi, h1⟩
    | true =>
      obtain ⟨e2, h3, h4, h5⟩ := h2 rfl
      obtain ⟨e0, e3, k1, k2, k3⟩ := while_all I μ h n e2 h4 (by omega)
      refine ⟨e0, e3, ?_, k2, k3⟩
      rcases h3 with h3 | h3 <;> simp only [whileL, h1, asB, h3, k1]
theorem s_whl {np : Nat} {c : E} {b : List S} {r : Option (Fl × En)} (h : whileL (evE Φ R c) (evSs Φ R np b) FUEL env = r) : evS Φ R np (.whl c b) env = r := by
  simp only [evS, h]
theorem s_sb {np i : Nat} {ix e : E} {o o' : D} (h : evE Φ R e env = some (d, e1)) (h0 : isO e1 i = true) (hi : evE Φ R ix e1 = some (dx, e2)) (ho : getO e2 i = some o) (hs : setD o dx d = some o') : evS Φ R np (.asg (.sb i ix) e) env = some (.nx, e2.set i (.own o')) := by
  simp only [evS, h, putS, h0, if_true, hi, ho, hs, Option.map_some]
theorem s_par {np : Nat} {ts : List (Nat × Bool)} {es : List E} {ds : List D} (h : evEs Φ R es env = some (ds, e1)) (hn : (nodupB (ts.map (·.1)) && ts.all (fun t => !t.2 || decide (np ≤ t.1))) = true) (hp : putPar ts ds e1 = some e2) : evS Φ R np (.par ts es) env = some (.nx, e2) := by
  simp only [evS, h, hn, if_true, hp, Option.map_some]
theorem s_ite {np : Nat} {c : E} {a b : List S} {p : Bool} {r : Option (Fl × En)} (h : evE Φ R c env = some (.bl p, e1)) (h1 : p = true → evSs Φ R np a e1 = r) (h2 : p = false → evSs Φ R np b e1 = r) : evS Φ R np (.ite c a b) env = r := by
  cases p
  · exact s_iteF h (h2 rfl)
  · exact s_iteT h (h1 rfl)
theorem r_tup {np : Nat} {es : List E} {as : List A} {ds : List D} (h : evAs Φ R es env = some (as, e1)) (h1 : as.all (retA np) = true) (h2 : resAs e1 as = some ds) (h3 : ds.length ≤ SZ) : evR Φ R np (.tup es) env = some (.tup ds, e1) := by
  simp only [evR, h, h1, if_true, h2, if_pos h3]
theorem v_dct {es : List E} {ds : List D} (h1 : evEs Φ R es env = some (ds, e1)) (h : mkDct false ds = some d) : evE Φ R (.dct false es) env = some (d, e1) := by
  simp only [evE, h1, h]
end
end Qx
set_option Elab.async false
set_option linter.all false
set_option maxRecDepth 100000
/-! QPl3: comprehensions of two turns; dicts of ints; bits. -/
namespace Qx
open PySem
section
variable {Φ : Orc} {R : Rfs} {env e1 e2 e3 : En} {d dx dy dz : D}
theorem wipe_subP {vs ws : List Nat} {a b : En} (h : wipeE a ws = wipeE b ws) (hs : ∀ v ∈ ws, v ∈ vs) : wipeE a vs = wipeE b vs := by
  have hl : a.length = b.length := by rw [← wipe_len ws a, h, wipe_len]
  apply List.ext_getElem?
  intro i
  by_cases c : i < a.length
  · rw [wipe_get _ _ _ c, wipe_get _ _ _ (by omega)]
    by_cases d : i ∈ vs
    · simp [d]
    · have h1 := wipe_get ws a i c
      have h2 := wipe_get ws b i (by omega)
      have : ¬ i ∈ ws := fun z => d (hs i z)
      simp only [this, if_false] at h1 h2
      simp only [d, if_false]
      rw [← h1, ← h2, h]
  · rw [List.getElem?_eq_none (by rw [wipe_len]; omega), List.getElem?_eq_none (by rw [wipe_len]; omega)]
theorem compB_map {α : Type} {t : TN} {vs : List Nat} {g : En → Bool} {elt : En → Option (List D × En)} {F : α → D} {f : α → List D} {e0 : En} (hg : g e0 = true) : ∀ (ys : List α) (env : En), wipeE env vs = e0 →
    (∀ y ∈ ys, ∃ e1 e2, putT t (F y) e0 = some e1 ∧ elt e1 = some (f y, e2) ∧ wipeE e2 vs = e0) →
    ∃ e2, compB t vs g (fun x => some (D.bl true, x)) elt (ys.map F) env = some (ys.flatMap f, e2) ∧ wipeE e2 vs = e0
  | [], env, hw, _ => ⟨env, by simp only [List.map_nil, compB, hw, hg, if_true, List.flatMap_nil], hw⟩
  | y :: ys, env, hw, h => by
    obtain ⟨e1, e2, h1, h2, h3⟩ := h y (by simp)
    obtain ⟨e3, h5, h6⟩ := compB_map hg ys e2 h3 fun z hz => h z (List.mem_cons_of_mem _ hz)
    refine ⟨e3, ?_, h6⟩
    simp only [List.map_cons, compB, hw, hg, if_true, h1, asB, h2, h5, List.flatMap_cons]
/-- two turns, no condition at the outer one -/
theorem v_comp2T {α β : Type} {elt c2 : E} {vs vs2 : List Nat} {t t2 : TN} {it it2 : It} {xs : List D} {g : A × D} (ys : List α) (F : α → D) (zs : α → List β) (G : α → β → D) (q : α → β → Bool) (f : α → β → D)
    (hi : evIt Φ R it env = some (xs, g, e1)) (hx : xs = ys.map F) (hn : noO e1 vs = true) (hg : gd g.1 g.2 (wipeE e1 vs) = true) (hs : ∀ v ∈ vs2, v ∈ vs)
    (h : ∀ y ∈ ys, ∃ e2 xs2 g2, putT t (F y) (wipeE e1 vs) = some e2 ∧ evIt Φ R it2 e2 = some (xs2, g2, e2) ∧ xs2 = (zs y).map (G y) ∧ gd g2.1 g2.2 (wipeE e2 vs2) = true ∧ wipeE e2 vs = wipeE e1 vs ∧
      ∀ z ∈ zs y, ∃ e3, putT t2 (G y z) (wipeE e2 vs2) = some e3 ∧ evE Φ R c2 e3 = some (.bl (q y z), e3) ∧ (q y z = true → evE Φ R elt e3 = some (f y z, e3)) ∧ wipeE e3 vs2 = wipeE e2 vs2)
    (hl : (ys.flatMap fun y => ((zs y).filter (q y)).map (f y)).length ≤ SZ) :
    evE Φ R (.comp2 elt vs t it (.cst (.bl true)) vs2 t2 it2 c2) env = some (.lst (ys.flatMap fun y => ((zs y).filter (q y)).map (f y)), e1) := by
  subst hx
  obtain ⟨e2, h1, h2⟩ := compB_map (t := t) (vs := vs) (elt := fun e => match evIt Φ R it2 e with
          | some (ys, g2, e') => compL t2 vs2 (gd g2.1 g2.2) (evE Φ R c2) (evE Φ R elt) ys e'
          | none => none) (F := F) (f := fun y => ((zs y).filter (q y)).map (f y)) hg ys e1 rfl (fun y hy => by
    obtain ⟨e2, xs2, g2, k1, k2, k3, k4, k5, k6⟩ := h y hy
    subst k3
    obtain ⟨e4, m1, m2⟩ := compL_map k4 (zs y) e2 rfl k6
    refine ⟨e2, e4, k1, ?_, ?_⟩
    · simp only [k2, m1]
    · rw [wipe_subP m2 hs, k5])
  simp only [evE, hi, hn, if_true]
  erw [h1]
  simp only [if_pos hl, back_id h2]
end
/-! bits -/
theorem shr_nat (m k : Nat) : binD .shr (.int (m : Int)) (.int (k : Int)) = some (.int ((m / 2 ^ k : Nat) : Int)) := by
  simp only [binD, shrB]
  rw [if_pos (by omega)]
  simp
theorem and1_nat (m : Nat) : binD .band (.int (m : Int)) (.int 1) = some (.int ((m % 2 : Nat) : Int)) := by
  simp only [binD, andB]
  rw [PyProof.Rows.bitAnd_m1]
  rfl
theorem shl1_nat (k : Nat) (h : k ≤ 1000000) : binD .shl (.int 1) (.int (k : Int)) = some (.int ((2 ^ k : Nat) : Int)) := by
  simp only [binD, shlB]
  rw [if_pos ⟨by omega, by omega, by decide⟩]
  simp
/-! dicts from ints to ints -/
theorem look_int : ∀ (ks ws : List Int) (k : Int), ∃ w, (lookD (.int k) (ks.map .int) (ws.map .int)).getD (.int 0) = .int w
  | [], ws, k => ⟨0, by simp [lookD]⟩
  | a :: ks, [], k => ⟨0, by simp [lookD]⟩
  | a :: ks, w :: ws, k => by
    simp only [List.map_cons, lookD]
    split
    · exact ⟨w, rfl⟩
    · exact look_int ks ws k
theorem rep_int (k v : Int) : ∀ (ks ws : List Int), ∃ us : List Int, repD (.int k) (.int v) (ks.map .int) (ws.map .int) = us.map .int ∧ us.length = ws.length
  | [], ws => ⟨ws, by simp [repD], rfl⟩
  | a :: ks, [] => ⟨[], by simp [repD], rfl⟩
  | a :: ks, w :: ws => by
    obtain ⟨us, h1, h2⟩ := rep_int k v ks ws
    simp only [List.map_cons, repD, h1]
    split
    · exact ⟨v :: us, rfl, by simp [h2]⟩
    · exact ⟨w :: us, rfl, by simp [h2]⟩
theorem put_int (k v : Int) (ks ws : List Int) (h : ks.length = ws.length) : ∃ us : List Int, putD (.int k) (.int v) (ks.map .int) (ws.map .int) = ((if k ∈ ks then ks else ks ++ [k]).map .int, us.map .int) ∧ us.length = (if k ∈ ks then ks else ks ++ [k]).length := by
  unfold putD
  rw [look_isSome ks _ k (by simp [h])]
  by_cases c : k ∈ ks
  · obtain ⟨us, h1, h2⟩ := rep_int k v ks ws
    simp only [c, decide_true, if_true, h1]
    exact ⟨us, rfl, by rw [h2, h]⟩
  · simp only [c, decide_false, Bool.false_eq_true, if_false]
    exact ⟨ws ++ [v], by simp, by simp [h]⟩
theorem set_dct_int (k v : Int) (ks ws : List Int) (h : ks.length = ws.length) (hs : ks.length < SZ) : ∃ us : List Int, setD (.dct false (ks.map .int) (ws.map .int)) (.int k) (.int v) = some (.dct false ((if k ∈ ks then ks else ks ++ [k]).map .int) (us.map .int)) ∧ us.length = (if k ∈ ks then ks else ks ++ [k]).length := by
  obtain ⟨us, h1, h2⟩ := put_int k v ks ws h
  refine ⟨us, ?_, h2⟩
  simp only [setD, show keyOk false (D.int k) = true from rfl, List.length_map, hs, decide_true, Bool.and_self, if_true, h1]
theorem itms_int (ks ws : List Int) (h : ks.length = ws.length) : dirD (.dct false (ks.map .int) (ws.map .int)) = some ((List.range ks.length).map fun i => .tup [.int (ks.getD i 0), .int (ws.getD i 0)]) := by
  simp only [dirD, List.length_map, if_pos h, itmsD, Option.some.injEq]
  apply List.map_congr_left
  intro i hi
  have hi := List.mem_range.mp hi
  rw [getD_mapI _ _ hi, getD_mapI _ _ (by omega)]
end Qx
set_option Elab.async false
set_option linter.all false
set_option maxRecDepth 100000
/-! QWp: what holds behind a row of statements. -/
namespace Qx
open PySem
section
variable {Φ : Orc} {R : Rfs} {np : Nat} {env e1 e2 e3 : En} {d dx dy dz : D} {ss : List S} {P : Fl → En → Prop}
def Wp (Φ : Orc) (R : Rfs) (np : Nat) (ss : List S) (env : En) (P : Fl → En → Prop) : Prop := ∃ fl e, evSs Φ R np ss env = some (fl, e) ∧ P fl e
/-- then go on with ss -/
def Kn (Φ : Orc) (R : Rfs) (np : Nat) (ss : List S) (P : Fl → En → Prop) : Fl → En → Prop
  | .nx, e => Wp Φ R np ss e P
  | fl, e => P fl e
/-- the turn of a loop: I behind it, or out of it -/
def Kl (Φ : Orc) (R : Rfs) (np : Nat) (ss : List S) (P : Fl → En → Prop) (I : En → Prop) : Fl → En → Prop
  | .nx, e => I e
  | .ct, e => I e
  | .brk, e => Wp Φ R np ss e P
  | .ret d, e => P (.ret d) e
theorem Wp.mono {Q : Fl → En → Prop} (h : Wp Φ R np ss env P) (k : ∀ fl e, P fl e → Q fl e) : Wp Φ R np ss env Q := by
  obtain ⟨fl, e, h1, h2⟩ := h
  exact ⟨fl, e, h1, k _ _ h2⟩
theorem wp_nil (h : P .nx env) : Wp Φ R np [] env P := ⟨.nx, env, ss_nil, h⟩
theorem wp_of {s : S} (h1 : evS Φ R np s env = some (.nx, e1)) (h2 : Wp Φ R np ss e1 P) : Wp Φ R np (s :: ss) env P := by
  obtain ⟨fl, e, h3, h4⟩ := h2
  exact ⟨fl, e, ss_cons h1 h3, h4⟩
theorem wp_ret {e : E} (h : evR Φ R np e env = some (d, e1)) (hp : P (.ret d) e1) : Wp Φ R np (.ret e :: ss) env P := ⟨_, _, ss_ret (s_ret h), hp⟩
theorem wp_brk (hp : P .brk env) : Wp Φ R np (.brk :: ss) env P := ⟨.brk, env, by simp only [evSs, evS], hp⟩
theorem wp_cnt (hp : P .ct env) : Wp Φ R np (.cnt :: ss) env P := ⟨.ct, env, by simp only [evSs, evS], hp⟩
theorem wp_pass (h : Wp Φ R np ss env P) : Wp Φ R np (.pass :: ss) env P := wp_of (by simp only [evS]) h
theorem wp_exp {e : E} (h : evE Φ R e env = some (d, e1)) (h2 : Wp Φ R np ss e1 P) : Wp Φ R np (.exp e :: ss) env P := wp_of (s_exp h) h2
theorem wp_asg {t : TN} {e : E} (h : evE Φ R e env = some (d, e1)) (hp : putT t d e1 = some e2) (h2 : Wp Φ R np ss e2 P) : Wp Φ R np (.asg (.tn t) e :: ss) env P := wp_of (s_asg h hp) h2
theorem putN {i : Nat} (h0 : isO env i = false) (hi : i < env.length) : putT (.nm i) d env = some (env.set i (.val d)) := by
  simp only [putT, h0, Bool.false_eq_true, if_false, hi, if_true]
/-- two names that own nothing get their values -/
theorem put2 {i j : Nat} {x y : D} (h0 : isO env i = false) (hi : i < env.length) (h1 : isO (env.set i (.val x)) j = false) (hj : j < env.length) : putT (.tp [.nm i, .nm j]) (.tup [x, y]) env = some ((env.set i (.val x)).set j (.val y)) := by
  have e1 := putN (d := x) h0 hi
  have e2 := putN (d := y) (env := env.set i (.val x)) h1 (by rw [List.length_set]; exact hj)
  simp only [putT] at e1 e2
  simp only [putT, putTs, e1, e2, Option.bind_some]
/-- a name that owns nothing gets a value -/
theorem wp_set {i : Nat} {e : E} (h : evE Φ R e env = some (d, e1)) (h0 : isO e1 i = false) (hi : i < e1.length) (h2 : Wp Φ R np ss (e1.set i (.val d)) P) : Wp Φ R np (.asg (.tn (.nm i)) e :: ss) env P := wp_of (s_asg h (putN h0 hi)) h2
theorem wp_new {i : Nat} {e : E} (h : evE Φ R e env = some (d, e1)) (hc : isC d = true) (hn : np ≤ i) (hi : i < e1.length) (h2 : Wp Φ R np ss (e1.set i (.own d)) P) : Wp Φ R np (.new i e :: ss) env P := wp_of (s_new h hc hn hi) h2
theorem wp_sb {i : Nat} {ix e : E} {o o' : D} (h : evE Φ R e env = some (d, e1)) (h0 : isO e1 i = true) (hi : evE Φ R ix e1 = some (dx, e2)) (ho : getO e2 i = some o) (hs : setD o dx d = some o') (h2 : Wp Φ R np ss (e2.set i (.own o')) P) : Wp Φ R np (.asg (.sb i ix) e :: ss) env P := wp_of (s_sb h h0 hi ho hs) h2
theorem wp_par {ts : List (Nat × Bool)} {es : List E} {ds : List D} (h : evEs Φ R es env = some (ds, e1)) (hn : (nodupB (ts.map (·.1)) && ts.all (fun t => !t.2 || decide (np ≤ t.1))) = true) (hp : putPar ts ds e1 = some e2) (h2 : Wp Φ R np ss e2 P) : Wp Φ R np (.par ts es :: ss) env P := wp_of (s_par h hn hp) h2
theorem wp_ite {c : E} {a b : List S} {p : Bool} (h : evE Φ R c env = some (.bl p, e1)) (h1 : p = true → Wp Φ R np a e1 (Kn Φ R np ss P)) (h2 : p = false → Wp Φ R np b e1 (Kn Φ R np ss P)) : Wp Φ R np (.ite c a b :: ss) env P := by
  have go : ∀ x, evS Φ R np (.ite c a b) env = evSs Φ R np x e1 → Wp Φ R np x e1 (Kn Φ R np ss P) → Wp Φ R np (.ite c a b :: ss) env P := by
    rintro x hx ⟨fl, e, h3, h4⟩
    cases fl with
    | nx =>
      obtain ⟨fl', e', h5, h6⟩ := h4
      exact ⟨fl', e', ss_cons (hx.trans h3) h5, h6⟩
    | _ => exact ⟨_, e, by simp only [evSs, hx, h3], h4⟩
  cases p
  · exact go b (s_iteF h rfl) (h2 rfl)
  · exact go a (s_iteT h rfl) (h1 rfl)
/-- a condition known to fail / hold -/
theorem wp_iteF {c : E} {a b : List S} (h : evE Φ R c env = some (.bl false, e1)) (h2 : Wp Φ R np b e1 (Kn Φ R np ss P)) : Wp Φ R np (.ite c a b :: ss) env P := wp_ite h nofun fun _ => h2
theorem wp_iteT {c : E} {a b : List S} (h : evE Φ R c env = some (.bl true, e1)) (h2 : Wp Φ R np a e1 (Kn Φ R np ss P)) : Wp Φ R np (.ite c a b :: ss) env P := wp_ite h (fun _ => h2) nofun
theorem forL_wp {α : Type} {t : TN} {b : List S} {g : En → Bool} {F : α → D} {ys : List α} (I : List α → En → Prop) (hg : ∀ zs e, I zs e → g e = true)
    (hs : ∀ zs y ws e, ys = zs ++ y :: ws → I zs e → ∃ e1, putT t (F y) e = some e1 ∧ Wp Φ R np b e1 (Kl Φ R np ss P (I (zs ++ [y])))) (hr : ∀ e, I ys e → Wp Φ R np ss e P) :
    ∀ (xs zs : List α) (env : En), ys = zs ++ xs → I zs env → ∃ fl e, (forL t g (evSs Φ R np b) (xs.map F) env = some (fl, e)) ∧ Kn Φ R np ss P fl e ∧ fl ≠ .ct ∧ fl ≠ .brk
  | [], zs, env, e, hi => by
    rw [List.append_nil] at e
    subst e
    exact ⟨.nx, env, by simp only [List.map_nil, forL, hg _ _ hi, if_true], hr _ hi, nofun, nofun⟩
  | y :: xs, zs, env, e, hi => by
    obtain ⟨e1, h1, fl, e2, h2, h3⟩ := hs zs y xs env e hi
    have next : ∀ e2, I (zs ++ [y]) e2 → _ := fun e2 h => forL_wp I hg hs hr xs (zs ++ [y]) e2 (by rw [e]; simp) h
    cases fl with
    | nx =>
      obtain ⟨fl', e3, h4, h5⟩ := next e2 h3
      exact ⟨fl', e3, by simp only [List.map_cons, forL, hg _ _ hi, if_true, h1, h2, h4], h5⟩
    | ct =>
      obtain ⟨fl', e3, h4, h5⟩ := next e2 h3
      exact ⟨fl', e3, by simp only [List.map_cons, forL, hg _ _ hi, if_true, h1, h2, h4], h5⟩
    | brk => exact ⟨.nx, e2, by simp only [List.map_cons, forL, hg _ _ hi, if_true, h1, h2], h3, nofun, nofun⟩
    | ret d => exact ⟨.ret d, e2, by simp only [List.map_cons, forL, hg _ _ hi, if_true, h1, h2], h3, nofun, nofun⟩
theorem wp_for {α : Type} {t : TN} {it : It} {b : List S} {xs : List D} {g : A × D} {F : α → D} (ys : List α) (I : List α → En → Prop) (hit : evIt Φ R it env = some (xs, g, e1)) (hx : xs = ys.map F) (h0 : I [] e1) (hg : ∀ zs e, I zs e → gd g.1 g.2 e = true)
    (hs : ∀ zs y ws e, ys = zs ++ y :: ws → I zs e → ∃ e1, putT t (F y) e = some e1 ∧ Wp Φ R np b e1 (Kl Φ R np ss P (I (zs ++ [y])))) (hr : ∀ e, I ys e → Wp Φ R np ss e P) : Wp Φ R np (.for_ t it b :: ss) env P := by
  subst hx
  obtain ⟨fl, e, h1, h2, h3, h4⟩ := forL_wp (Φ := Φ) (R := R) (np := np) (t := t) (b := b) (g := gd g.1 g.2) I hg hs hr ys [] e1 rfl h0
  cases fl with
  | nx =>
    obtain ⟨fl', e', h5, h6⟩ := h2
    exact ⟨fl', e', ss_cons (s_for hit h1) h5, h6⟩
  | ret d => exact ⟨.ret d, e, by simp only [evSs, evS, hit, h1], h2⟩
  | brk => exact (h4 rfl).elim
  | ct => exact (h3 rfl).elim
theorem whileL_wp {c : E} {b : List S} (I : Nat → En → Prop)
    (h : ∀ k e, I k e → ∃ p e1, evE Φ R c e = some (.bl p, e1) ∧ (p = true → Wp Φ R np b e1 (Kl Φ R np ss P fun e2 => ∃ k', k' < k ∧ I k' e2)) ∧ (p = false → Wp Φ R np ss e1 P)) :
    ∀ (n k : Nat) (e : En), I k e → k < n → ∃ fl e1, whileL (evE Φ R c) (evSs Φ R np b) n e = some (fl, e1) ∧ Kn Φ R np ss P fl e1 ∧ fl ≠ .ct ∧ fl ≠ .brk
  | 0, k, e, _, hm => absurd hm (by omega)
  | n + 1, k, e, hi, hm => by
    obtain ⟨p, e1, h1, h2, h3⟩ := h k e hi
    cases p with
    | false => exact ⟨.nx, e1, by simp only [whileL, h1, asB], h3 rfl, nofun, nofun⟩
    | true =>
      obtain ⟨fl, e2, h4, h5⟩ := h2 rfl
      cases fl with
      | nx =>
        obtain ⟨k', hk, h5⟩ := h5
        obtain ⟨fl', e3, h6, h7⟩ := whileL_wp I h n k' e2 h5 (by omega)
        exact ⟨fl', e3, by simp only [whileL, h1, asB, h4, h6], h7⟩
      | ct =>
        obtain ⟨k', hk, h5⟩ := h5
        obtain ⟨fl', e3, h6, h7⟩ := whileL_wp I h n k' e2 h5 (by omega)
        exact ⟨fl', e3, by simp only [whileL, h1, asB, h4, h6], h7⟩
      | brk => exact ⟨.nx, e2, by simp only [whileL, h1, asB, h4], h5, nofun, nofun⟩
      | ret d => exact ⟨.ret d, e2, by simp only [whileL, h1, asB, h4], h5, nofun, nofun⟩
/-- while: I k, with at most k turns to come -/
theorem wp_whl {c : E} {b : List S} (I : Nat → En → Prop) (k : Nat) (h0 : I k env) (hm : k < 1099511627776)
    (h : ∀ k e, I k e → ∃ p e1, evE Φ R c e = some (.bl p, e1) ∧ (p = true → Wp Φ R np b e1 (Kl Φ R np ss P fun e2 => ∃ k', k' < k ∧ I k' e2)) ∧ (p = false → Wp Φ R np ss e1 P)) : Wp Φ R np (.whl c b :: ss) env P := by
  obtain ⟨fl, e, h1, h2, h3, h4⟩ := whileL_wp (ss := ss) (P := P) I h FUEL k env h0 hm
  cases fl with
  | nx =>
    obtain ⟨fl', e', h5, h6⟩ := h2
    exact ⟨fl', e', ss_cons (s_whl h1) h5, h6⟩
  | ret d => exact ⟨.ret d, e, by simp only [evSs, evS, h1], h2⟩
  | brk => exact (h4 rfl).elim
  | ct => exact (h3 rfl).elim
/-- what a call ends with -/
def Ends (rf : List Nat) (Q : D → List D → Prop) : Fl → En → Prop
  | .ret r, e => ∃ os, outsE e rf = some os ∧ Q r os
  | .nx, e => ∃ os, outsE e rf = some os ∧ Q .non os
  | _, _ => False
theorem call_wp {ds : List Df} {n f : Nat} {args : List D} {df : Df} {Q : D → List D → Prop} (env0 : En) (hd : ds[f]? = some df) (ha : args.length = df.np) (hs : startE df args = env0) (h : Wp (callD ds n) (rfsOf ds) df.np df.body env0 (Ends df.refs Q)) : ∃ r os, callD ds (n + 1) f args = some (r, os) ∧ Q r os := by
  subst hs
  obtain ⟨fl, e, h1, h2⟩ := h
  cases fl with
  | nx => obtain ⟨os, h3, h4⟩ := h2; exact ⟨_, os, call_nx hd ha h1 h3, h4⟩
  | ret d => obtain ⟨os, h3, h4⟩ := h2; exact ⟨_, os, call_ret hd ha h1 h3, h4⟩
  | brk => exact h2.elim
  | ct => exact h2.elim
/-- .. with one answer, nothing changed -/
theorem call_wp1 {ds : List Df} {n f : Nat} {args : List D} {df : Df} {Q : D → Prop} (env0 : En) (hd : ds[f]? = some df) (ha : args.length = df.np) (hs : startE df args = env0) (hr : df.refs = []) (h : Wp (callD ds n) (rfsOf ds) df.np df.body env0 (Ends [] fun r _ => Q r)) : ∃ r, callD ds (n + 1) f args = some (r, []) ∧ Q r := by
  obtain ⟨r, os, h1, h2, h3⟩ := call_wp (Q := fun r os => os = [] ∧ Q r) env0 hd ha hs (h.mono fun fl e k => by
    rw [hr]
    cases fl with
    | nx => exact ⟨[], rfl, rfl, k.choose_spec.2⟩
    | ret d => exact ⟨[], rfl, rfl, k.choose_spec.2⟩
    | brk => exact k
    | ct => exact k)
  subst h2
  exact ⟨r, h1, h3⟩
theorem end_ret {Q : D → Prop} (h : Q d) : Ends [] (fun r _ => Q r) (.ret d) env := ⟨[], rfl, h⟩
end
end Qx
set_option Elab.async false
set_option linter.all false
set_option maxRecDepth 100000
/-! QLaw: the helpers that the laws have in common. -/
namespace Qx
open PySem
def lPool : Df := ⟨(Str.ofString "_law_pool"), 2, 5, [], true, [
  .asg (.tn (.nm 2)) (.bin .add (.bin .mul (.cst (.int 7)) (.var 1)) (.bin .mul (.cst (.int 3)) (.bi .len [(.var 0)]))),
  .ite (.cmp .lt (.var 1) (.bi .len [(.var 0)])) [.asg (.tn (.nm 2)) (.sub (.var 0) (.var 1))] [],
  .asg (.tn (.nm 3)) (.bi .abs [(.var 2)]),
  .asg (.tn (.nm 4)) (.bin .mod (.bi .int [(.bin .add (.bin .add (.bin .add (.bin .mul (.var 3) (.cst (.int 48271))) (.bin .mul (.cst (.int 16807)) (.var 1))) (.bin .mul (.cst (.int 11)) (.bi .int [(.cmp .lt (.var 2) (.cst (.int 0)))]))) (.cst (.int 1)))]) (.cst (.int 2305843009213693951))),
  .ite (.cmp .ge (.var 3) (.cst (.int 1000000000000000000))) [.ret (.lst [(.bin .add (.bin .mul (.cst (.int 2)) (.bin .sub (.var 3) (.cst (.int 1000000000000000000)))) (.bi .int [(.cmp .lt (.var 2) (.cst (.int 0)))])), (.var 4)])] [],
  .ret (.lst [(.cst (.int 0)), (.var 4)])]⟩
def lTake : Df := ⟨(Str.ofString "_law_take"), 2, 4, [0], false, [
  .ite (.cmp .gt (.sub (.own 0) (.cst (.int 0))) (.cst (.int 1))) [.asg (.tn (.nm 2)) (.bin .mod (.bi .int [(.sub (.own 0) (.cst (.int 0)))]) (.var 1)), .asg (.sb 0 (.cst (.int 0))) (.bin .fdiv (.sub (.own 0) (.cst (.int 0))) (.var 1)), .ret (.var 2)] [],
  .asg (.tn (.nm 2)) (.cst (.int 0)),
  .asg (.tn (.nm 3)) (.cst (.int 1)),
  .whl (.cmp .lt (.var 3) (.bin .mul (.cst (.int 16777216)) (.var 1))) [.asg (.sb 0 (.cst (.int 1))) (.bin .mod (.bi .int [(.bin .add (.bin .mul (.sub (.own 0) (.cst (.int 1))) (.cst (.int 6364136223846793005))) (.cst (.int 1442695040888963407)))]) (.cst (.int 18446744073709551616))), .asg (.tn (.nm 2)) (.bin .add (.bin .mul (.var 2) (.cst (.int 16777216))) (.bin .fdiv (.sub (.own 0) (.cst (.int 1))) (.cst (.int 1099511627776)))), .asg (.tn (.nm 3)) (.bin .mul (.var 3) (.cst (.int 16777216)))],
  .ret (.bin .mod (.bi .int [(.var 2)]) (.var 1))]⟩
def lAlike (g : Nat) : Df := ⟨(Str.ofString "_law_alike"), 2, 3, [], false, [
  .ite (.or (.isi (.var 0) [.bool]) (.isi (.var 1) [.bool])) [.ret (.an (.isi (.var 0) [.bool]) (.an (.isi (.var 1) [.bool]) (.cmp .eq (.var 0) (.var 1))))] [],
  .ite (.or (.isi (.var 0) [.int]) (.isi (.var 1) [.int])) [.ret (.an (.isi (.var 0) [.int]) (.an (.isi (.var 1) [.int]) (.cmp .eq (.var 0) (.var 1))))] [],
  .ite (.or (.isi (.var 0) [.str]) (.isi (.var 1) [.str])) [.ret (.an (.isi (.var 0) [.str]) (.an (.isi (.var 1) [.str]) (.cmp .eq (.var 0) (.var 1))))] [],
  .ite (.or (.cmp .is (.var 0) (.cst .non)) (.cmp .is (.var 1) (.cst .non))) [.ret (.an (.cmp .is (.var 0) (.cst .non)) (.cmp .is (.var 1) (.cst .non)))] [],
  .ite (.or (.isi (.var 0) [.dict]) (.isi (.var 1) [.dict])) [.ret (.an (.isi (.var 0) [.dict]) (.an (.isi (.var 1) [.dict]) (.chn .eq .eq (.bi .len [(.var 0)]) (.bi .len [(.var 1)]) (.cst (.int 0)))))] [],
  .ite (.or (.cmp .ne (.isi (.var 0) [.tuple]) (.isi (.var 1) [.tuple])) (.cmp .ne (.isi (.var 0) [.list]) (.isi (.var 1) [.list]))) [.ret (.cst (.bl false))] [],
  .ite (.or (.nt (.isi (.var 0) [.tuple, .list])) (.cmp .ne (.bi .len [(.var 0)]) (.bi .len [(.var 1)]))) [.ret (.cst (.bl false))] [],
  .ret (.bi .all [(.comp (.call g [(.sub (.var 0) (.var 2)), (.sub (.var 1) (.var 2))] []) [2] (.nm 2) (.rng [(.bi .len [(.var 0)])]) (.cst (.bl true)))])]⟩
def lWhole : Df := ⟨(Str.ofString "_law_whole"), 1, 1, [], false, [
  .ret (.an (.isi (.var 0) [.int]) (.nt (.isi (.var 0) [.bool])))]⟩
def lSays : Df := ⟨(Str.ofString "_law_says"), 2, 2, [], false, [
  .ret (.an (.isi (.var 0) [.bool]) (.cmp .eq (.var 0) (.var 1)))]⟩
theorem mul_l {i j : Int} (h1 : -(2 ^ 64) < i) (h2 : i < 2 ^ 64) : binD .mul (.int i) (.int j) = some (.int (i * j)) := by
  show (if mulOk i j = true then _ else _) = _
  rw [if_pos (by unfold mulOk; rw [decide_eq_true h1, decide_eq_true h2]; rfl)]
theorem mul_r {i j : Int} (h1 : -(2 ^ 64) < j) (h2 : j < 2 ^ 64) : binD .mul (.int i) (.int j) = some (.int (i * j)) := by
  show (if mulOk i j = true then _ else _) = _
  rw [if_pos (by unfold mulOk; rw [decide_eq_true h1, decide_eq_true h2]; cases (decide (-2 ^ 64 < i) && decide (i < 2 ^ 64)) <;> rfl)]
theorem mod_pos {i j : Int} (h : 0 < j) : binD .mod (.int i) (.int j) = some (.int (i % j)) := by
  show (if 0 < j then _ else _) = _
  rw [if_pos h]
theorem div_pos {i j : Int} (h : 0 < j) (h2 : j < 2 ^ 64) : binD .fdiv (.int i) (.int j) = some (.int (i / j)) := by
  show (if 0 < j ∧ j < 2 ^ 64 then _ else _) = _
  rw [if_pos ⟨h, h2⟩]
theorem isa_ok {d : D} {ts : List Ty} (h : okd d = true) : isaD d ts = some (.bl (ts.any (isaT (tyD d)))) := by
  cases d with
  | dct t ks vs => cases t <;> first | rfl | cases h
  | fn f => cases h
  | _ => rfl
section
variable {ds : List Df} {g n : Nat}
theorem whole_spec (hd : ds[g]? = some lWhole) (d : D) (h : okd d = true) : callD ds (n + 1) g [d] = some (.bl (isWh d), []) := by
  rw [← isWh_eq]
  exact call_ret hd rfl (ss_ret (s_ret (r_e (v_an (v_isi (op_v (v_var rfl)) rfl (isa_int h)) fun _ => v_nt (v_isi (op_v (v_var rfl)) rfl (isa_bool h))) nofun nofun))) rfl
theorem says_spec (hd : ds[g]? = some lSays) (a b : Bool) : callD ds (n + 1) g [.bl a, .bl b] = some (.bl (a == b), []) :=
  call_ret hd rfl (ss_ret (s_ret (r_e (v_an (p := true) (v_isi (op_v (v_var rfl)) rfl rfl) fun _ => v_cmp (v_var rfl) (v_var rfl) (k := a == b) rfl) nofun nofun))) rfl
theorem pool_spec (hd : ds[g]? = some lPool) (xs : List Int) (k : Nat) : ∃ a b, callD ds (n + 1) g [.lst (xs.map .int), .int k] = some (.lst [.int a, .int b], []) := by
  obtain ⟨r, h, a, b, e⟩ := call_wp1 (n := n) (ds := ds) (f := g) (args := [.lst (xs.map .int), .int k]) (Q := fun r => ∃ a b, r = .lst [.int a, .int b]) [.val (.lst (xs.map .int)), .val (.int k), .no, .no, .no] hd rfl rfl rfl (by
    refine wp_asg (e2 := [.val _, .val _, .val (.int _), .no, .no]) (v_bin (v_bin v_cst (v_var rfl) (mul_l (by decide) (by decide))) (v_bin v_cst (v_bi (as_v (v_var rfl) as_nil) rfl (d := _) (len_lst _)) (mul_l (by decide) (by decide))) rfl) rfl ?_
    have rest : ∀ c : Int, Wp (callD ds n) (rfsOf ds) 2 (lPool.body.drop 2) [.val (.lst (xs.map .int)), .val (.int k), .val (.int c), .no, .no] (Ends [] fun r _ => ∃ a b, r = .lst [.int a, .int b]) := by
      intro c
      refine wp_asg (e2 := [.val _, .val _, .val _, .val (.int _), .no]) (v_bi (as_v (v_var rfl) as_nil) rfl (d := .int _) rfl) rfl ?_
      refine wp_asg (e2 := [.val _, .val _, .val _, .val (.int _), .val (.int _)]) (v_bin (v_bi (as_v (v_bin (v_bin (v_bin (v_bin (v_var rfl) v_cst (mul_r (by decide) (by decide))) (v_bin v_cst (v_var rfl) (mul_l (by decide) (by decide))) rfl) (v_bin v_cst (v_bi (as_v (v_cmp (k := decide (c < 0)) (v_var rfl) v_cst rfl) as_nil) rfl (d := .int _) rfl) (mul_l (by decide) (by decide))) rfl) v_cst rfl) as_nil) rfl (d := .int _) rfl) v_cst (mod_pos (by decide))) rfl ?_
      refine wp_ite (v_cmp (k := decide _) (v_var rfl) v_cst rfl) (fun _ => ?_) (fun _ => wp_nil ?_)
      · exact wp_ret (r_e (v_lst (vs_cons (v_bin (v_bin v_cst (v_bin (v_var rfl) v_cst rfl) (mul_l (by decide) (by decide))) (v_bi (as_v (v_cmp (k := decide (c < 0)) (v_var rfl) v_cst rfl) as_nil) rfl (d := .int _) rfl) rfl) (vs_cons (v_var rfl) vs_nil)) (by show 2 ≤ 16777216; decide)) nofun nofun) ⟨[], rfl, _, _, rfl⟩
      · exact wp_ret (r_e (v_lst (vs_cons v_cst (vs_cons (v_var rfl) vs_nil)) (by show 2 ≤ 16777216; decide)) nofun nofun) ⟨[], rfl, _, _, rfl⟩
    refine wp_ite (v_cmp (k := decide _) (v_var rfl) (v_bi (as_v (v_var rfl) as_nil) rfl (d := _) (len_lst _)) rfl) (fun h => ?_) (fun _ => wp_nil (rest _))
    have h := of_decide_eq_true h
    rw [List.length_map] at h
    exact wp_asg (e2 := [.val _, .val _, .val (.int (xs.getD k 0)), .no, .no]) (v_sub (v_var rfl) (v_var rfl) (sub_lstN (get_mapI (by omega)))) rfl (wp_nil (rest _)))
  subst e
  exact ⟨a, b, h⟩
theorem take_spec (hd : ds[g]? = some lTake) (a b : Int) (m : Nat) (h1 : 1 ≤ m) (h2 : m ≤ 2 ^ 48) : ∃ (r : Nat) (a' b' : Int), callD ds (n + 1) g [.lst [.int a, .int b], .int m] = some (.int r, [.lst [.int a', .int b']]) ∧ r < m := by
  have hmod : ∀ x : Int, ∃ r : Nat, x % (m : Int) = r ∧ r < m := fun x => by
    have := Int.emod_nonneg x (b := (m : Int)) (by omega)
    have := Int.emod_lt_of_pos x (b := (m : Int)) (by omega)
    exact ⟨(x % (m : Int)).toNat, by omega, by omega⟩
  obtain ⟨r, os, h, k, a', b', e1, e2, e3⟩ := call_wp (n := n) (ds := ds) (f := g) (args := [.lst [.int a, .int b], .int m]) (Q := fun r os => ∃ (k : Nat) (a' b' : Int), r = .int k ∧ os = [.lst [.int a', .int b']] ∧ k < m) [.own (.lst [.int a, .int b]), .val (.int m), .no, .no] hd rfl rfl (by
    refine wp_ite (v_cmp (k := decide (1 < a)) (v_subA (op_o rfl) v_cst rfl rfl) v_cst rfl) (fun _ => ?_) (fun _ => wp_nil ?_)
    · obtain ⟨k, k1, k2⟩ := hmod a
      refine wp_asg (d := .int k) (e2 := [.own (.lst [.int a, .int b]), .val (.int m), .val (.int k), .no]) (v_bin (v_bi (as_v (v_subA (op_o rfl) v_cst rfl rfl) as_nil) rfl (d := .int a) rfl) (v_var rfl) (by rw [← k1]; exact mod_pos (by omega))) rfl ?_
      refine wp_sb (o' := .lst [.int (a / m), .int b]) (v_bin (v_subA (op_o rfl) v_cst rfl rfl) (v_var rfl) (div_pos (by omega) (by omega))) rfl v_cst rfl rfl ?_
      exact wp_ret (r_e (v_var rfl) nofun nofun) ⟨_, rfl, k, a / m, b, rfl, rfl, k2⟩
    · refine wp_asg (e2 := [.own (.lst [.int a, .int b]), .val (.int m), .val (.int 0), .no]) v_cst rfl ?_
      refine wp_asg (e2 := [.own (.lst [.int a, .int b]), .val (.int m), .val (.int 0), .val (.int ((2 ^ (24 * 0) : Nat) : Int))]) v_cst rfl ?_
      refine wp_whl (fun k e => ∃ (b' t : Int) (j : Nat), e = [.own (.lst [.int a, .int b']), .val (.int m), .val (.int t), .val (.int ((2 ^ (24 * j) : Nat) : Int))] ∧ k + j = 3) 3 ⟨b, 0, 0, rfl, rfl⟩ (by decide) ?_
      rintro k e ⟨b', t, j, he, hj⟩
      subst he
      refine ⟨decide (((2 ^ (24 * j) : Nat) : Int) < 16777216 * (m : Int)), _, v_cmp (v_var rfl) (v_bin v_cst (v_var rfl) (mul_l (by decide) (by decide))) rfl, fun hp => ?_, fun _ => ?_⟩
      · have hp := of_decide_eq_true hp
        have hj3 : j < 3 := by
          refine Nat.lt_of_not_le fun z => ?_
          have h3 : j = 3 := by omega
          subst h3
          have : ((2 ^ (24 * 3) : Nat) : Int) = 4722366482869645213696 := by decide
          omega
        refine wp_sb (o' := .lst [.int a, .int _]) (v_bin (v_bi (as_v (v_bin (v_bin (v_subA (op_o rfl) v_cst rfl rfl) v_cst (mul_r (by decide) (by decide))) v_cst rfl) as_nil) rfl (d := .int _) rfl) v_cst (mod_pos (by decide))) rfl v_cst rfl rfl ?_
        refine wp_asg (e2 := [.own (.lst [.int a, .int _]), .val (.int m), .val (.int _), .val _]) (v_bin (v_bin (v_var rfl) v_cst (mul_r (by decide) (by decide))) (v_bin (v_subA (op_o rfl) v_cst rfl rfl) v_cst (div_pos (by decide) (by decide))) rfl) rfl ?_
        refine wp_asg (d := .int ((2 ^ (24 * (j + 1)) : Nat) : Int)) (e2 := [.own (.lst [.int a, .int _]), .val (.int m), .val (.int _), .val (.int ((2 ^ (24 * (j + 1)) : Nat) : Int))]) (v_bin (v_var rfl) v_cst (by
          rw [mul_r (by decide) (by decide), Nat.mul_succ, Nat.pow_add]
          simp)) rfl (wp_nil ⟨2 - j, by omega, _, _, j + 1, rfl, by omega⟩)
      · obtain ⟨k, k1, k2⟩ := hmod t
        exact wp_ret (r_e (d := .int k) (v_bin (v_bi (as_v (v_var rfl) as_nil) rfl (d := .int t) rfl) (v_var rfl) (by rw [← k1]; exact mod_pos (by omega))) nofun nofun) ⟨_, rfl, k, a, b', rfl, rfl, k2⟩)
  subst e1 e2
  exact ⟨k, a', b', h, e3⟩
end
end Qx
set_option Elab.async false
set_option linter.all false
set_option maxRecDepth 100000
/-! QAlike: the laws' own equality. -/
namespace Qx
open PySem
theorem ne_int (i j : Int) : cmpD .ne (.int i) (.int j) = some (!decide (i = j)) := by
  have : cmpD .ne (.int i) (.int j) = (eqQ (.int i) (.int j)).map (! ·) := rfl
  rw [this, eqQ_int]; rfl
/-- plain things, at most k deep, not too wide -/
def pld : Nat → D → Bool
  | _, .non => true
  | _, .bl _ => true
  | _, .int _ => true
  | _, .str x => PyData.strOk x
  | k + 1, .tup ds => ds.all (pld k) && decide (ds.length ≤ SZ)
  | k + 1, .lst ds => ds.all (pld k) && decide (ds.length ≤ SZ)
  | _, _ => false
theorem pld_okd {k : Nat} {d : D} (h : pld k d = true) : okd d = true := by
  cases d with
  | dct t ks vs => cases k <;> cases h
  | fn f => cases k <;> cases h
  | _ => rfl
def isStr : D → Bool
  | .str _ => true
  | _ => false
def isLst : D → Bool
  | .lst _ => true
  | _ => false
def isSq : D → Bool
  | .lst _ => true
  | .tup _ => true
  | _ => false
theorem sameDs_all : ∀ (xs ys : List D), xs.length = ys.length → sameDs xs ys = (List.range xs.length).all fun k => sameD (xs.getD k .non) (ys.getD k .non)
  | [], [], _ => rfl
  | x :: xs, [], h => by simp at h
  | [], y :: ys, h => by simp at h
  | x :: xs, y :: ys, h => by
    rw [sameDs, sameDs_all xs ys (by simpa using h), List.length_cons, List.range_succ_eq_map, List.all_cons, List.all_map]
    rfl
theorem sameDs_len : ∀ (xs ys : List D), xs.length ≠ ys.length → sameDs xs ys = false
  | [], [], h => (h rfl).elim
  | x :: xs, [], h => by simp [sameDs]
  | [], y :: ys, h => by simp [sameDs]
  | x :: xs, y :: ys, h => by
    rw [sameDs, sameDs_len xs ys (by simpa using h), Bool.and_false]
section
variable {ds : List Df} {g n : Nat}
theorem pld_get {k : Nat} {l : List D} (h : l.all (pld k) = true) {i : Nat} (hi : i < l.length) : ∃ d, l[i]? = some d ∧ l.getD i .non = d ∧ pld k d = true := by
  refine ⟨l[i], List.getElem?_eq_getElem hi, ?_, List.all_eq_true.mp h _ (List.getElem_mem hi)⟩
  rw [List.getD_eq_getElem?_getD, List.getElem?_eq_getElem hi]
  rfl
def tyB (t : Ty) (d : D) : Bool := [t].any (isaT (tyD d))
theorem v_is1 {Φ : Orc} {R : Rfs} {env : En} {i : Nat} {t : Ty} {d : D} (hv : getV env i = some d) (h : okd d = true) : evE Φ R (.isi (.var i) [t]) env = some (.bl (tyB t d), env) := v_isi (op_v (v_var hv)) rfl (isa_ok h)
theorem v_two {Φ : Orc} {R : Rfs} {env : En} {t : Ty} {x y : D} (hv : getV env 0 = some x) (hw : getV env 1 = some y) (hx : okd x = true) (hy : okd y = true) : evE Φ R (.or (.isi (.var 0) [t]) (.isi (.var 1) [t])) env = some (.bl (tyB t x || tyB t y), env) := v_or (v_is1 hv hx) fun _ => v_is1 hw hy
theorem alike_body {k : Nat} (hd : ds[g]? = some (lAlike g)) (hr : rfsOf ds g = []) (x y : D) (hx : pld k x = true) (hy : pld k y = true)
    (H : ∀ l m, seqD x = some l → seqD y = some m → l.length = m.length → l.length ≤ SZ ∧ ∀ i, i < l.length → callD ds n g [l.getD i .non, m.getD i .non] = some (.bl (sameD (l.getD i .non) (m.getD i .non)), [])) : callD ds (n + 1) g [x, y] = some (.bl (sameD x y), []) := by
  have ox := pld_okd hx
  have oy := pld_okd hy
  have hxd : tyB .dict x = false := by cases x <;> first | rfl | (cases k <;> cases hx)
  have hyd : tyB .dict y = false := by cases y <;> first | rfl | (cases k <;> cases hy)
  have hdx : ∀ s, x = .str s → PyData.strOk s = true := fun s e => by subst e; cases k <;> exact hx
  have hdy : ∀ s, y = .str s → PyData.strOk s = true := fun s e => by subst e; cases k <;> exact hy
  obtain ⟨r, h1, h2⟩ := call_wp1 (n := n) (ds := ds) (f := g) (args := [x, y]) (Q := fun r => r = .bl (sameD x y)) [.val x, .val y, .no] hd rfl rfl rfl (by
    refine wp_ite (v_two rfl rfl ox oy) (fun hp => wp_ret (r_e (v_an (v_is1 rfl ox) fun hb => v_an (q := sameD x y) (v_is1 rfl oy) fun hc => v_cmp (v_var rfl) (v_var rfl) ?_) nofun nofun) (end_ret ?_)) fun h1 => wp_nil ?_
    · cases x <;> first | (cases hb; done) | (cases y <;> first | (cases hc; done) | rfl)
    · cases x <;> cases y <;> first | (cases hp; done) | rfl | (simp [tyB, isaT, tyD, sameD])
    refine wp_ite (v_two rfl rfl ox oy) (fun hp => wp_ret (r_e (v_an (v_is1 rfl ox) fun hb => v_an (q := sameD x y) (v_is1 rfl oy) fun hc => v_cmp (v_var rfl) (v_var rfl) ?_) nofun nofun) (end_ret ?_)) fun h2 => wp_nil ?_
    · cases x <;> first | (cases hb; done) | (cases h1; done) | (cases y <;> first | (cases hc; done) | (cases h1; done) | rfl)
    · cases x <;> cases y <;> first | (cases hp; done) | (cases h1; done) | rfl | (simp [tyB, isaT, tyD, sameD])
    refine wp_ite (v_two rfl rfl ox oy) (fun hp => wp_ret (r_e (v_an (v_is1 rfl ox) fun hb => v_an (q := sameD x y) (v_is1 rfl oy) fun hc => v_cmp (v_var rfl) (v_var rfl) ?_) nofun nofun) (end_ret ?_)) fun h3 => wp_nil ?_
    · cases x <;> first | (cases hb; done) | (cases y <;> first | (cases hc; done) | skip)
      rename_i s t
      show (if dok 40 (D.str s) && dok 40 (D.str t) then _ else _) = _
      rw [if_pos]
      · rfl
      · show (PyData.strOk s && PyData.strOk t) = true
        rw [hdx s rfl, hdy t rfl]; rfl
    · cases x <;> cases y <;> first | (cases hp; done) | (cases h1; done) | (cases h2; done) | rfl | (simp [tyB, isaT, tyD, sameD])
    refine wp_ite (p := isNon x || isNon y) (v_or (v_cmp (v_var rfl) v_cst (by cases x <;> rfl)) fun _ => v_cmp (v_var rfl) v_cst (by cases y <;> rfl)) (fun hp => wp_ret (r_e (v_an (p := isNon x) (q := isNon y) (v_cmp (v_var rfl) v_cst (by cases x <;> rfl)) fun _ => v_cmp (v_var rfl) v_cst (by cases y <;> rfl)) nofun nofun) (end_ret ?_)) fun h4 => wp_nil ?_
    · cases x <;> cases y <;> first | (cases hp; done) | (cases h1; done) | (cases h2; done) | (cases h3; done) | rfl
    refine wp_iteF (by have := v_two (Φ := callD ds n) (R := rfsOf ds) (env := [.val x, .val y, .no]) (t := .dict) rfl rfl ox oy; rw [hxd, hyd] at this; exact this) (wp_nil ?_)
    cases x with
    | tup l =>
      cases y with
      | tup m =>
        refine wp_iteF (v_or (p := false) (q := false) (v_cmp (v_isi (op_v (v_var rfl)) rfl rfl) (v_isi (op_v (v_var rfl)) rfl rfl) rfl) fun _ => v_cmp (v_isi (op_v (v_var rfl)) rfl rfl) (v_isi (op_v (v_var rfl)) rfl rfl) rfl) (wp_nil ?_)
        refine wp_ite (v_or (p := false) (q := !decide ((l.length : Int) = m.length)) (v_nt (p := true) (v_isi (op_v (v_var rfl)) rfl rfl)) fun _ => v_cmp (v_bi (as_v (v_var rfl) as_nil) rfl (d := _) rfl) (v_bi (as_v (v_var rfl) as_nil) rfl (d := _) rfl) (ne_int _ _)) (fun hp => wp_ret (r_e v_cst nofun nofun) (end_ret ?_)) fun hp => wp_nil ?_
        · rw [sameD, sameDs_len]
          intro e; rw [e] at hp; simp at hp
        · have hl : l.length = m.length := by
            simp only [Bool.false_or, Bool.not_eq_false', decide_eq_true_eq] at hp; omega
          obtain ⟨hs, hi⟩ := H l m rfl rfl hl
          refine wp_ret (r_e (v_bi (as_v (v_compT (List.range l.length) (fun (i : Nat) => D.int i) (fun i => .bl (sameD (l.getD i .non) (m.getD i .non))) (it_rngP (vs_cons (v_bi (as_v (v_var rfl) as_nil) rfl (d := _) rfl) vs_nil) (rng1 _ hs)) rfl rfl rfl (fun i hi' => ⟨[.val (.tup l), .val (.tup m), .val (.int i)], rfl, v_call (as_v (v_sub (d := l.getD i .non) (v_var rfl) (v_var rfl) ?_) (as_v (v_sub (d := m.getD i .non) (v_var rfl) (v_var rfl) ?_) as_nil)) hr rfl (hi i (List.mem_range.mp hi')) (.inl rfl), rfl⟩) (by rw [List.length_range]; exact hs)) as_nil) rfl (d := _) (all_map _ _)) nofun nofun) (end_ret ?_)
          · have := List.mem_range.mp hi'
            exact sub_tupN (by rw [List.getD_eq_getElem?_getD, List.getElem?_eq_getElem this]; rfl)
          · have := List.mem_range.mp hi'
            exact sub_tupN (by rw [List.getD_eq_getElem?_getD, List.getElem?_eq_getElem (by omega)]; rfl)
          · rw [sameD, sameDs_all l m hl]
      | lst m => exact wp_iteT (v_or (p := true) (q := true) (v_cmp (v_isi (op_v (v_var rfl)) rfl rfl) (v_isi (op_v (v_var rfl)) rfl rfl) rfl) nofun) (wp_ret (r_e v_cst nofun nofun) (end_ret rfl))
      | _ => first | (cases h1; done) | (cases h2; done) | (cases h3; done) | (cases h4; done) | (cases k <;> cases hy)
    | lst l =>
      cases y with
      | tup m => exact wp_iteT (v_or (p := true) (q := true) (v_cmp (v_isi (op_v (v_var rfl)) rfl rfl) (v_isi (op_v (v_var rfl)) rfl rfl) rfl) nofun) (wp_ret (r_e v_cst nofun nofun) (end_ret rfl))
      | lst m =>
        refine wp_iteF (v_or (p := false) (q := false) (v_cmp (v_isi (op_v (v_var rfl)) rfl rfl) (v_isi (op_v (v_var rfl)) rfl rfl) rfl) fun _ => v_cmp (v_isi (op_v (v_var rfl)) rfl rfl) (v_isi (op_v (v_var rfl)) rfl rfl) rfl) (wp_nil ?_)
        refine wp_ite (v_or (p := false) (q := !decide ((l.length : Int) = m.length)) (v_nt (p := true) (v_isi (op_v (v_var rfl)) rfl rfl)) fun _ => v_cmp (v_bi (as_v (v_var rfl) as_nil) rfl (d := _) rfl) (v_bi (as_v (v_var rfl) as_nil) rfl (d := _) rfl) (ne_int _ _)) (fun hp => wp_ret (r_e v_cst nofun nofun) (end_ret ?_)) fun hp => wp_nil ?_
        · rw [sameD, sameDs_len]
          intro e; rw [e] at hp; simp at hp
        · have hl : l.length = m.length := by
            simp only [Bool.false_or, Bool.not_eq_false', decide_eq_true_eq] at hp; omega
          obtain ⟨hs, hi⟩ := H l m rfl rfl hl
          refine wp_ret (r_e (v_bi (as_v (v_compT (List.range l.length) (fun (i : Nat) => D.int i) (fun i => .bl (sameD (l.getD i .non) (m.getD i .non))) (it_rngP (vs_cons (v_bi (as_v (v_var rfl) as_nil) rfl (d := _) rfl) vs_nil) (rng1 _ hs)) rfl rfl rfl (fun i hi' => ⟨[.val (.lst l), .val (.lst m), .val (.int i)], rfl, v_call (as_v (v_sub (d := l.getD i .non) (v_var rfl) (v_var rfl) ?_) (as_v (v_sub (d := m.getD i .non) (v_var rfl) (v_var rfl) ?_) as_nil)) hr rfl (hi i (List.mem_range.mp hi')) (.inl rfl), rfl⟩) (by rw [List.length_range]; exact hs)) as_nil) rfl (d := _) (all_map _ _)) nofun nofun) (end_ret ?_)
          · have := List.mem_range.mp hi'
            exact sub_lstN (by rw [List.getD_eq_getElem?_getD, List.getElem?_eq_getElem this]; rfl)
          · have := List.mem_range.mp hi'
            exact sub_lstN (by rw [List.getD_eq_getElem?_getD, List.getElem?_eq_getElem (by omega)]; rfl)
          · rw [sameD, sameDs_all l m hl]
      | _ => first | (cases h1; done) | (cases h2; done) | (cases h3; done) | (cases h4; done) | (cases k <;> cases hy)
    | _ => first | (cases h1; done) | (cases h2; done) | (cases h3; done) | (cases h4; done) | (cases k <;> cases hx))
  subst h2
  exact h1
theorem alike_spec (hd : ds[g]? = some (lAlike g)) (hr : rfsOf ds g = []) : ∀ (k : Nat) (x y : D), pld k x = true → pld k y = true → callD ds (n + k + 1) g [x, y] = some (.bl (sameD x y), [])
  | 0, x, y, hx, hy => alike_body (k := 0) hd hr x y hx hy fun l m h1 h2 _ => by
    cases x <;> first | (cases h1; done) | (cases hx; done)
  | k + 1, x, y, hx, hy => alike_body (k := k + 1) hd hr x y hx hy fun l m h1 h2 hl => by
    have kx : l.all (pld k) = true ∧ l.length ≤ SZ := by
      cases x <;> first | (cases h1; done) | cases h1
      all_goals (simp only [pld, Bool.and_eq_true, decide_eq_true_eq] at hx; exact hx)
    have ky : m.all (pld k) = true ∧ m.length ≤ SZ := by
      cases y <;> first | (cases h2; done) | cases h2
      all_goals (simp only [pld, Bool.and_eq_true, decide_eq_true_eq] at hy; exact hy)
    refine ⟨kx.2, fun i hi => ?_⟩
    obtain ⟨a, _, e1, pa⟩ := pld_get kx.1 hi
    obtain ⟨b, _, e2, pb⟩ := pld_get ky.1 (i := i) (by omega)
    rw [e1, e2]
    exact alike_spec hd hr k a b pa pb
end
/-- the same, and plain: equal -/
theorem same_int {i j : Int} : sameD (.int i) (.int j) = decide (i = j) := by
  simp only [sameD]
  by_cases h : i = j <;> simp [h]
mutual
theorem sameD_refl : ∀ {k : Nat} (d : D), sameD d d = true
  | _, .non => rfl
  | _, .bl b => by simp [sameD]
  | _, .int i => by simp [sameD]
  | _, .str s => by simp [sameD]
  | k, .tup ds => by rw [sameD]; exact sameDs_refl (k := k) ds
  | k, .lst ds => by rw [sameD]; exact sameDs_refl (k := k) ds
  | k, .dct t ks vs => by rw [sameD, sameDs_refl (k := k) ks, sameDs_refl (k := k) vs]; simp
  | _, .fn f => by simp [sameD]
theorem sameDs_refl : ∀ {k : Nat} (ds : List D), sameDs ds ds = true
  | _, [] => rfl
  | k, d :: ds => by rw [sameDs, sameD_refl (k := k) d, sameDs_refl (k := k) ds]; rfl
end
end Qx
set_option linter.all false
open PySem Qx
namespace K76
def dis_whole : Df := ⟨(Str.ofString "is_whole"), 1, 1, [], false, [
  .ret (.an (.isi (.var 0) [.int]) (.nt (.isi (.var 0) [.bool])))]⟩
def dis_between : Df := ⟨(Str.ofString "is_between"), 3, 3, [], false, [
  .ret (.an (.call 0 [(.var 0)] []) (.chn .le .le (.var 1) (.var 0) (.var 2)))]⟩
def dis_tuple_of : Df := ⟨(Str.ofString "is_tuple_of"), 2, 2, [], false, [
  .ret (.an (.isi (.var 0) [.tuple]) (.cmp .eq (.bi .len [(.var 0)]) (.var 1)))]⟩
def dare_between : Df := ⟨(Str.ofString "are_between"), 4, 5, [], false, [
  .ret (.an (.call 2 [(.var 0), (.var 1)] []) (.bi .all [(.comp (.call 1 [(.var 4), (.var 2), (.var 3)] []) [4] (.nm 4) (.seq (.var 0)) (.cst (.bl true)))]))]⟩
def dare_unlike : Df := ⟨(Str.ofString "are_unlike"), 1, 3, [], false, [
  .ret (.bi .all [(.comp (.cmp .nin (.var 2) (.slc (.var 0) (.cst .non) (.var 1))) [1, 2] (.tp [(.nm 1), (.nm 2)]) (.enu (.var 0)) (.cst (.bl true)))])]⟩
def dare_unlike_persons : Df := ⟨(Str.ofString "are_unlike_persons"), 2, 3, [], false, [
  .ite (.or (.nt (.isi (.var 1) [.tuple])) (.nt (.bi .all [(.comp (.call 1 [(.var 2), (.cst (.int 0)), (.bin .sub (.var 0) (.cst (.int 1)))] []) [2] (.nm 2) (.seq (.var 1)) (.cst (.bl true)))]))) [.ret (.cst (.bl false))] [],
  .ret (.call 4 [(.var 1)] [])]⟩
def dis_put : Df := ⟨(Str.ofString "is_put"), 2, 2, [], false, [
  .ret (.cmp .eq (.bin .band (.bin .shr (.var 0) (.var 1)) (.cst (.int 1))) (.cst (.int 1)))]⟩
def dpersons_open : Df := ⟨(Str.ofString "persons_open"), 2, 7, [], true, [
  .asg (.tn (.nm 2)) (.comp2 (.var 4) [5, 6, 4] (.tp [(.nm 5), (.nm 6)]) (.enu (.var 0)) (.cst (.bl true)) [4] (.nm 4) (.seq (.var 6)) (.call 6 [(.var 1), (.var 5)] [])),
  .asg (.tn (.nm 3)) (.comp2 (.var 4) [5, 6, 4] (.tp [(.nm 5), (.nm 6)]) (.enu (.var 0)) (.cst (.bl true)) [4] (.nm 4) (.seq (.var 6)) (.nt (.call 6 [(.var 1), (.var 5)] []))),
  .ret (.comp (.var 4) [4] (.nm 4) (.seq (.var 2)) (.cmp .inn (.var 4) (.var 3)))]⟩
def dnexts_of : Df := ⟨(Str.ofString "nexts_of"), 2, 6, [], true, [
  .asg (.tn (.nm 2)) (.call 7 [(.var 0), (.var 1)] []),
  .asg (.tn (.nm 3)) (.comp (.var 4) [4] (.nm 4) (.rng [(.bi .len [(.var 0)])]) (.nt (.call 6 [(.var 1), (.var 4)] []))),
  .ret (.comp (.var 4) [4] (.nm 4) (.seq (.var 3)) (.bi .all [(.comp (.cmp .inn (.var 5) (.sub (.var 0) (.var 4))) [5] (.nm 5) (.seq (.var 2)) (.cst (.bl true)))]))]⟩
def dwith_next : Df := ⟨(Str.ofString "with_next"), 2, 7, [], true, [
  .new 2 (.dct false []),
  .for_ (.tp [(.nm 3), (.nm 4)]) (.itms (.var 1)) [.for_ (.nm 5) (.seq (.call 8 [(.var 0), (.var 3)] [])) [.asg (.tn (.nm 6)) (.bin .add (.var 3) (.bin .shl (.cst (.int 1)) (.var 5))), .asg (.sb 2 (.var 6)) (.bin .add (.mp .get2 (.own 2) [(.var 6), (.cst (.int 0))]) (.var 4))]],
  .ret (.own 2)]⟩
def dlayers_of : Df := ⟨(Str.ofString "layers_of"), 1, 3, [], true, [
  .new 1 (.lst [(.dct false [(.cst (.int 0)), (.cst (.int 1))])]),
  .for_ (.nm 2) (.seq (.var 0)) [.exp (.mm .append 1 [(.call 9 [(.var 0), (.sub (.own 1) (.neg (.cst (.int 1))))] [])])],
  .ret (.own 1)]⟩
def dlast_put : Df := ⟨(Str.ofString "last_put"), 3, 5, [], false, [
  .asg (.tn (.nm 3)) (.comp (.var 4) [4] (.nm 4) (.rng [(.bi .len [(.var 0)])]) (.an (.call 6 [(.var 2), (.var 4)] []) (.cmp .inn (.bin .sub (.var 2) (.bin .shl (.cst (.int 1)) (.var 4))) (.var 1)))),
  .ret (.sub (.comp (.var 4) [4] (.nm 4) (.seq (.var 3)) (.cmp .inn (.var 4) (.call 8 [(.var 0), (.bin .sub (.var 2) (.bin .shl (.cst (.int 1)) (.var 4)))] []))) (.cst (.int 0)))]⟩
def drow_back : Df := ⟨(Str.ofString "row_back"), 2, 5, [], true, [
  .par [(3, true), (4, false)] [(.lst []), (.bin .sub (.bin .shl (.cst (.int 1)) (.bi .len [(.var 0)])) (.cst (.int 1)))],
  .for_ (.nm 2) (.seq (.rev (.var 1) (.neg (.cst (.int 2))))) [.exp (.mm .append 3 [(.call 11 [(.var 0), (.var 2), (.var 4)] [])]), .asg (.tn (.nm 4)) (.bin .sub (.var 4) (.bin .shl (.cst (.int 1)) (.sub (.own 3) (.neg (.cst (.int 1))))))],
  .ret (.own 3)]⟩
def dis_table_row : Df := ⟨(Str.ofString "is_table_row"), 1, 1, [], false, [
  .ret (.an (.isi (.var 0) [.tuple]) (.an (.chn .le .le (.cst (.int 1)) (.bi .len [(.var 0)]) (.cst (.int 9))) (.call 3 [(.var 0), (.bi .len [(.var 0)]), (.cst (.int 0)), (.cst (.int 1))] [])))]⟩
def dwrong_in_table : Df := ⟨(Str.ofString "wrong_in_table"), 1, 3, [], true, [
  .ite (.or (.nt (.isi (.var 0) [.tuple])) (.nt (.chn .le .le (.cst (.int 1)) (.bi .len [(.var 0)]) (.cst (.int 9))))) [.ret (.lst [(.cst .non)])] [],
  .for_ (.tp [(.nm 1), (.nm 2)]) (.enu (.var 0)) [.ite (.or (.nt (.call 13 [(.var 2)] [])) (.cmp .ne (.bi .len [(.var 2)]) (.bi .len [(.sub (.var 0) (.cst (.int 0)))]))) [.ret (.lst [(.var 1)])] []],
  .ret (.lst [])]⟩
def dare_together : Df := ⟨(Str.ofString "are_together"), 2, 5, [], false, [
  .asg (.tn (.nm 2)) (.comp (.var 3) [3, 4] (.tp [(.nm 3), (.nm 4)]) (.enu (.var 1)) (.cmp .eq (.sub (.var 0) (.var 4)) (.cst (.int 1)))),
  .ret (.or (.cmp .eq (.var 2) (.lst [])) (.cmp .eq (.bin .sub (.sub (.var 2) (.neg (.cst (.int 1)))) (.sub (.var 2) (.cst (.int 0)))) (.bin .sub (.bi .len [(.var 2)]) (.cst (.int 1)))))]⟩
def dis_line_up_by : Df := ⟨(Str.ofString "is_line_up_by"), 2, 3, [], false, [
  .ite (.or (.nt (.call 5 [(.bi .len [(.sub (.var 0) (.cst (.int 0)))]), (.var 1)] [])) (.cmp .ne (.bi .len [(.var 1)]) (.bi .len [(.sub (.var 0) (.cst (.int 0)))]))) [.ret (.cst (.bl false))] [],
  .ret (.bi .all [(.comp (.call 15 [(.var 2), (.var 1)] []) [2] (.nm 2) (.seq (.var 0)) (.cst (.bl true)))])]⟩
def drows_in : Df := ⟨(Str.ofString "rows_in"), 2, 4, [], false, [
  .ret (.bi .tuple [(.comp (.var 2) [2, 3] (.tp [(.nm 2), (.nm 3)]) (.enu (.var 0)) (.cmp .eq (.sub (.var 3) (.var 1)) (.cst (.int 1))))])]⟩
def dline_up_by : Df := ⟨(Str.ofString "line_up_by"), 1, 4, [], false, [
  .asg (.tn (.nm 1)) (.comp (.call 17 [(.var 0), (.var 3)] []) [3] (.nm 3) (.rng [(.bi .len [(.sub (.var 0) (.cst (.int 0)))])]) (.cst (.bl true))),
  .asg (.tn (.nm 2)) (.call 10 [(.var 1)] []),
  .ret (.ite (.cmp .ne (.sub (.var 2) (.neg (.cst (.int 1)))) (.dct false [])) (.bi .tuple [(.rev (.call 12 [(.var 1), (.var 2)] []) (.cst .non))]) (.cst .non))]⟩
def dcheck_table : Df := ⟨(Str.ofString "check_table"), 1, 2, [], false, [
  .for_ (.nm 1) (.seq (.call 14 [(.var 0)] [])) [.bad]]⟩
def dline_up : Df := ⟨(Str.ofString "line_up"), 1, 1, [], false, [
  .exp (.call 19 [(.var 0)] []),
  .ret (.call 18 [(.var 0)] [])]⟩
def dis_line_up : Df := ⟨(Str.ofString "is_line_up"), 2, 2, [], false, [
  .exp (.call 19 [(.var 0)] []),
  .ret (.call 16 [(.var 0), (.var 1)] [])]⟩
def d_law_pool : Df := ⟨(Str.ofString "_law_pool"), 2, 5, [], true, [
  .asg (.tn (.nm 2)) (.bin .add (.bin .mul (.cst (.int 7)) (.var 1)) (.bin .mul (.cst (.int 3)) (.bi .len [(.var 0)]))),
  .ite (.cmp .lt (.var 1) (.bi .len [(.var 0)])) [.asg (.tn (.nm 2)) (.sub (.var 0) (.var 1))] [],
  .asg (.tn (.nm 3)) (.bi .abs [(.var 2)]),
  .asg (.tn (.nm 4)) (.bin .mod (.bi .int [(.bin .add (.bin .add (.bin .add (.bin .mul (.var 3) (.cst (.int 48271))) (.bin .mul (.cst (.int 16807)) (.var 1))) (.bin .mul (.cst (.int 11)) (.bi .int [(.cmp .lt (.var 2) (.cst (.int 0)))]))) (.cst (.int 1)))]) (.cst (.int 2305843009213693951))),
  .ite (.cmp .ge (.var 3) (.cst (.int 1000000000000000000))) [.ret (.lst [(.bin .add (.bin .mul (.cst (.int 2)) (.bin .sub (.var 3) (.cst (.int 1000000000000000000)))) (.bi .int [(.cmp .lt (.var 2) (.cst (.int 0)))])), (.var 4)])] [],
  .ret (.lst [(.cst (.int 0)), (.var 4)])]⟩
def d_law_take : Df := ⟨(Str.ofString "_law_take"), 2, 4, [0], false, [
  .ite (.cmp .gt (.sub (.own 0) (.cst (.int 0))) (.cst (.int 1))) [.asg (.tn (.nm 2)) (.bin .mod (.bi .int [(.sub (.own 0) (.cst (.int 0)))]) (.var 1)), .asg (.sb 0 (.cst (.int 0))) (.bin .fdiv (.sub (.own 0) (.cst (.int 0))) (.var 1)), .ret (.var 2)] [],
  .asg (.tn (.nm 2)) (.cst (.int 0)),
  .asg (.tn (.nm 3)) (.cst (.int 1)),
  .whl (.cmp .lt (.var 3) (.bin .mul (.cst (.int 16777216)) (.var 1))) [.asg (.sb 0 (.cst (.int 1))) (.bin .mod (.bi .int [(.bin .add (.bin .mul (.sub (.own 0) (.cst (.int 1))) (.cst (.int 6364136223846793005))) (.cst (.int 1442695040888963407)))]) (.cst (.int 18446744073709551616))), .asg (.tn (.nm 2)) (.bin .add (.bin .mul (.var 2) (.cst (.int 16777216))) (.bin .fdiv (.sub (.own 0) (.cst (.int 1))) (.cst (.int 1099511627776)))), .asg (.tn (.nm 3)) (.bin .mul (.var 3) (.cst (.int 16777216)))],
  .ret (.bin .mod (.bi .int [(.var 2)]) (.var 1))]⟩
def d_law_alike : Df := ⟨(Str.ofString "_law_alike"), 2, 3, [], false, [
  .ite (.or (.isi (.var 0) [.bool]) (.isi (.var 1) [.bool])) [.ret (.an (.isi (.var 0) [.bool]) (.an (.isi (.var 1) [.bool]) (.cmp .eq (.var 0) (.var 1))))] [],
  .ite (.or (.isi (.var 0) [.int]) (.isi (.var 1) [.int])) [.ret (.an (.isi (.var 0) [.int]) (.an (.isi (.var 1) [.int]) (.cmp .eq (.var 0) (.var 1))))] [],
  .ite (.or (.isi (.var 0) [.str]) (.isi (.var 1) [.str])) [.ret (.an (.isi (.var 0) [.str]) (.an (.isi (.var 1) [.str]) (.cmp .eq (.var 0) (.var 1))))] [],
  .ite (.or (.cmp .is (.var 0) (.cst .non)) (.cmp .is (.var 1) (.cst .non))) [.ret (.an (.cmp .is (.var 0) (.cst .non)) (.cmp .is (.var 1) (.cst .non)))] [],
  .ite (.or (.isi (.var 0) [.dict]) (.isi (.var 1) [.dict])) [.ret (.an (.isi (.var 0) [.dict]) (.an (.isi (.var 1) [.dict]) (.chn .eq .eq (.bi .len [(.var 0)]) (.bi .len [(.var 1)]) (.cst (.int 0)))))] [],
  .ite (.or (.cmp .ne (.isi (.var 0) [.tuple]) (.isi (.var 1) [.tuple])) (.cmp .ne (.isi (.var 0) [.list]) (.isi (.var 1) [.list]))) [.ret (.cst (.bl false))] [],
  .ite (.or (.nt (.isi (.var 0) [.tuple, .list])) (.cmp .ne (.bi .len [(.var 0)]) (.bi .len [(.var 1)]))) [.ret (.cst (.bl false))] [],
  .ret (.bi .all [(.comp (.call 24 [(.sub (.var 0) (.var 2)), (.sub (.var 1) (.var 2))] []) [2] (.nm 2) (.rng [(.bi .len [(.var 0)])]) (.cst (.bl true)))])]⟩
def d_law_whole : Df := ⟨(Str.ofString "_law_whole"), 1, 1, [], false, [
  .ret (.an (.isi (.var 0) [.int]) (.nt (.isi (.var 0) [.bool])))]⟩
def d_law_says : Df := ⟨(Str.ofString "_law_says"), 2, 2, [], false, [
  .ret (.an (.isi (.var 0) [.bool]) (.cmp .eq (.var 0) (.var 1)))]⟩
def d_law_orders : Df := ⟨(Str.ofString "_law_orders"), 1, 6, [], false, [
  .asg (.tn (.nm 1)) (.lst [(.tup [])]),
  .for_ (.nm 2) (.rng [(.var 0)]) [.asg (.tn (.nm 3)) (.lst []), .for_ (.nm 4) (.seq (.var 1)) [.asg (.tn (.nm 3)) (.bin .add (.var 3) (.comp (.bin .add (.var 4) (.tup [(.var 5)])) [5] (.nm 5) (.rng [(.var 0)]) (.cmp .nin (.var 5) (.var 4))))], .asg (.tn (.nm 1)) (.var 3)],
  .ret (.var 1)]⟩
def d_law_stand : Df := ⟨(Str.ofString "_law_stand"), 2, 5, [], false, [
  .for_ (.nm 2) (.seq (.var 0)) [.asg (.tn (.nm 3)) (.comp (.var 4) [4] (.nm 4) (.rng [(.bi .len [(.var 1)])]) (.cmp .eq (.sub (.var 2) (.sub (.var 1) (.var 4))) (.cst (.int 1)))), .ite (.an (.cmp .ne (.var 3) (.lst [])) (.cmp .ne (.bin .add (.bin .sub (.sub (.var 3) (.bin .sub (.bi .len [(.var 3)]) (.cst (.int 1)))) (.sub (.var 3) (.cst (.int 0)))) (.cst (.int 1))) (.bi .len [(.var 3)]))) [.ret (.cst (.bl false))] []],
  .ret (.cst (.bl true))]⟩
def d_law_is_line_up : Df := ⟨(Str.ofString "_law_is_line_up"), 2, 4, [], false, [
  .asg (.tn (.nm 2)) (.bi .len [(.sub (.var 0) (.cst (.int 0)))]),
  .ite (.or (.nt (.isi (.var 1) [.tuple])) (.or (.cmp .ne (.bi .len [(.var 1)]) (.var 2)) (.or (.nt (.bi .all [(.comp (.call 25 [(.var 3)] []) [3] (.nm 3) (.seq (.var 1)) (.cst (.bl true)))])) (.cmp .ne (.bi .sorted [(.var 1)]) (.bi .lrange [(.var 2)]))))) [.ret (.cst (.bl false))] [],
  .ret (.call 28 [(.var 0), (.var 1)] [])]⟩
def d_law_lined : Df := ⟨(Str.ofString "_law_lined"), 3, 11, [0], false, [
  .par [(5, true), (6, true)] [(.bi .lrange [(.var 2)]), (.lst [])],
  .whl (.cmp .ne (.own 5) (.lst [])) [.exp (.mm .append 6 [(.mm .pop1 5 [(.call 23 [(.own 0), (.bi .len [(.own 5)])] [])])])],
  .new 3 (.lst []),
  .for_ (.nm 4) (.rng [(.var 1)]) [.par [(8, false), (9, false)] [(.call 23 [(.own 0), (.bin .add (.var 2) (.cst (.int 1)))] []), (.call 23 [(.own 0), (.bin .add (.var 2) (.cst (.int 1)))] [])], .asg (.tn (.nm 7)) (.comp (.bi .int [(.chn .le .lt (.bi .min2 [(.var 8), (.var 9)]) (.var 10) (.bi .max2 [(.var 8), (.var 9)]))]) [10] (.nm 10) (.rng [(.var 2)]) (.cst (.bl true))), .exp (.mm .append 3 [(.bi .tuple [(.comp (.sub (.var 7) (.sub (.own 6) (.var 10))) [10] (.nm 10) (.rng [(.var 2)]) (.cst (.bl true)))])])],
  .ret (.bi .tuple [(.own 3)])]⟩
def d_law_table : Df := ⟨(Str.ofString "_law_table"), 3, 6, [0], false, [
  .asg (.tn (.nm 3)) (.bin .add (.cst (.int 1)) (.call 23 [(.own 0), (.cst (.int 4))] [])),
  .ret (.bi .tuple [(.comp (.bi .tuple [(.comp (.bi .int [(.cmp .lt (.call 23 [(.own 0), (.cst (.int 5))] []) (.var 3))]) [5] (.nm 5) (.rng [(.var 2)]) (.cst (.bl true)))]) [4] (.nm 4) (.rng [(.var 1)]) (.cst (.bl true)))])]⟩
def d_law_bent : Df := ⟨(Str.ofString "_law_bent"), 3, 7, [0], false, [
  .asg (.tn (.nm 3)) (.call 23 [(.own 0), (.var 2)] []),
  .new 4 (.lst [(.var 1), (.rev (.var 1) (.cst .non)), (.slc (.var 1) (.cst (.int 1)) (.cst .non)), (.bin .add (.var 1) (.tup [(.var 2)])), (.bi .list [(.var 1)]), (.tup []), (.cst .non), (.cst (.int 0)), (.cst (.str (Str.ofString "line"))), (.tup [(.var 1)]), (.bin .add (.slc (.var 1) (.var 3) (.cst .non)) (.slc (.var 1) (.cst .non) (.var 3)))]),
  .for_ (.nm 5) (.seq (.tup [(.var 2), (.neg (.cst (.int 1))), (.cst .non), (.cst (.bl true)), (.cst (.str (Str.ofString "0"))), (.tup [(.cst (.int 0))]), (.sub (.var 1) (.bin .sub (.var 3) (.cst (.int 1)))), (.call 23 [(.own 0), (.var 2)] [])])) [.exp (.mm .append 4 [(.bin .add (.bin .add (.slc (.var 1) (.cst .non) (.var 3)) (.tup [(.var 5)])) (.slc (.var 1) (.bin .add (.var 3) (.cst (.int 1))) (.cst .non)))])],
  .new 6 (.bi .list [(.var 1)]),
  .asg (.tps [(.sb 6 (.var 3)), (.sb 6 (.bin .sub (.var 3) (.cst (.int 1))))]) (.tup [(.sub (.own 6) (.bin .sub (.var 3) (.cst (.int 1)))), (.sub (.own 6) (.var 3))]),
  .ret (.bin .add (.own 4) (.lst [(.bi .tuple [(.own 6)])]))]⟩
def d_law_right : Df := ⟨(Str.ofString "_law_right"), 3, 12, [0], false, [
  .asg (.tn (.nm 3)) (.bi .len [(.sub (.var 1) (.cst (.int 0)))]),
  .asg (.tn (.nm 4)) (.call 20 [(.var 1)] []),
  .ite (.or (.cmp .ne (.cmp .isn (.var 4) (.cst .non)) (.var 2)) (.nt (.call 24 [(.call 20 [(.var 1)] [0]), (.var 4)] []))) [.ret (.cst (.bl false))] [],
  .par [(8, true), (9, true)] [(.bi .lrange [(.var 3)]), (.lst [])],
  .whl (.cmp .ne (.own 8) (.lst [])) [.exp (.mm .append 9 [(.mm .pop1 8 [(.call 23 [(.own 0), (.bi .len [(.own 8)])] [])])])],
  .asg (.tn (.nm 5)) (.bi .tuple [(.own 9)]),
  .ite (.cmp .isn (.var 4) (.cst .non)) [.ite (.nt (.call 29 [(.var 1), (.var 4)] [])) [.ret (.cst (.bl false))] [], .asg (.tn (.nm 5)) (.var 4)] [],
  .for_ (.nm 6) (.seq (.bin .add (.call 32 [(.own 0), (.var 5), (.var 3)] []) (.lst [(.bi .tuple [(.own 9)]), (.bi .trange [(.var 3)])]))) [.ite (.nt (.call 26 [(.call 21 [(.var 1), (.var 6)] []), (.call 29 [(.var 1), (.var 6)] [])] [])) [.ret (.cst (.bl false))] []],
  .ite (.nt (.call 26 [(.call 21 [(.var 5), (.var 1)] [1, 0]), (.call 29 [(.var 1), (.var 5)] [])] [])) [.ret (.cst (.bl false))] [],
  .asg (.tn (.nm 7)) (.bi .tuple [(.comp (.bi .tuple [(.comp (.sub (.var 10) (.var 11)) [11] (.nm 11) (.seq (.own 9)) (.cst (.bl true)))]) [10] (.nm 10) (.seq (.var 1)) (.cst (.bl true)))]),
  .ret (.cmp .eq (.cmp .isn (.call 20 [(.var 7)] []) (.cst .non)) (.var 2))]⟩
def dlaw : Df := ⟨(Str.ofString "law"), 1, 15, [], false, [
  .for_ (.nm 1) (.rng [(.bi .min2 [(.cst (.int 10)), (.bi .max2 [(.cst (.int 3)), (.bi .len [(.var 0)])])])]) [.new 2 (.call 22 [(.var 0), (.var 1)] []), .asg (.tn (.nm 3)) (.bin .add (.cst (.int 1)) (.call 23 [(.own 2), (.sub (.tup [(.cst (.int 5)), (.cst (.int 6))]) (.bi .int [(.cmp .eq (.var 1) (.cst (.int 0)))]))] [])), .asg (.tn (.nm 4)) (.bin .add (.cst (.int 1)) (.call 23 [(.own 2), (.cst (.int 9))] [])), .asg (.tn (.nm 5)) (.call 30 [(.own 2), (.var 4), (.var 3)] []), .par [(12, false), (13, false)] [(.call 23 [(.own 2), (.var 4)] []), (.call 23 [(.own 2), (.var 3)] [])], .asg (.tn (.nm 6)) (.bin .add (.bin .add (.slc (.var 5) (.cst .non) (.var 12)) (.tup [(.bin .add (.bin .add (.slc (.sub (.var 5) (.var 12)) (.cst .non) (.var 13)) (.tup [(.bin .sub (.cst (.int 1)) (.sub (.sub (.var 5) (.var 12)) (.var 13)))])) (.slc (.sub (.var 5) (.var 12)) (.bin .add (.var 13) (.cst (.int 1))) (.cst .non)))])) (.slc (.var 5) (.bin .add (.var 12) (.cst (.int 1))) (.cst .non))), .asg (.tn (.nm 7)) (.call 27 [(.var 3)] []), .for_ (.nm 8) (.seq (.tup [(.var 5), (.var 6), (.call 31 [(.own 2), (.bin .add (.cst (.int 1)) (.call 23 [(.own 2), (.cst (.int 5))] [])), (.var 3)] [])])) [.ite (.nt (.call 33 [(.own 2), (.var 8), (.bi .any [(.comp (.call 28 [(.var 8), (.var 14)] []) [14] (.nm 14) (.seq (.var 7)) (.cst (.bl true)))])] [])) [.ret (.cst (.bl false))] []], .asg (.tn (.nm 9)) (.call 30 [(.own 2), (.cst (.int 9)), (.bin .add (.cst (.int 7)) (.call 23 [(.own 2), (.cst (.int 3))] []))] []), .asg (.tn (.nm 10)) (.bin .mul (.tup [(.cst (.int 0))]) (.bin .sub (.bi .len [(.sub (.var 9) (.cst (.int 0)))]) (.cst (.int 3)))), .asg (.tn (.nm 11)) (.tup [(.bin .add (.tup [(.cst (.int 1)), (.cst (.int 1)), (.cst (.int 0))]) (.var 10)), (.bin .add (.tup [(.cst (.int 0)), (.cst (.int 1)), (.cst (.int 1))]) (.var 10)), (.bin .add (.tup [(.cst (.int 1)), (.cst (.int 0)), (.cst (.int 1))]) (.var 10))]), .ite (.nt (.call 33 [(.own 2), (.var 9), (.cst (.bl true))] [])) [.ret (.cst (.bl false))] [], .ite (.or (.nt (.call 33 [(.own 2), (.var 11), (.cst (.bl false))] [])) (.cmp .isn (.call 20 [(.bin .add (.slc (.var 9) (.cst .non) (.cst (.int 6))) (.var 11))] []) (.cst .non))) [.ret (.cst (.bl false))] []],
  .ret (.cst (.bl true))]⟩
def dds : List Df := [dis_whole, dis_between, dis_tuple_of, dare_between, dare_unlike, dare_unlike_persons, dis_put, dpersons_open, dnexts_of, dwith_next, dlayers_of, dlast_put, drow_back, dis_table_row, dwrong_in_table, dare_together, dis_line_up_by, drows_in, dline_up_by, dcheck_table, dline_up, dis_line_up, d_law_pool, d_law_take, d_law_alike, d_law_whole, d_law_says, d_law_orders, d_law_stand, d_law_is_line_up, d_law_lined, d_law_table, d_law_bent, d_law_right, dlaw]
end K76
set_option linter.all false
/-! K76M: plain mathematics of line-ups. -/
namespace LU
theorem tb_add (a : Nat) : ∀ (m c : Nat), m.testBit a = false → (m + 2 ^ a).testBit c = (decide (c = a) || m.testBit c) := by
  induction a with
  | zero =>
    intro m c h
    have h0 : m % 2 = 0 := by
      rw [Nat.testBit_zero] at h
      have := of_decide_eq_false h
      omega
    cases c with
    | zero =>
      rw [Nat.testBit_zero]
      simp
      omega
    | succ c =>
      rw [Nat.testBit_succ, Nat.testBit_succ]
      have : (m + 2 ^ 0) / 2 = m / 2 := by simp; omega
      rw [this]
      simp
  | succ a ih =>
    intro m c h
    rw [Nat.testBit_succ] at h
    cases c with
    | zero =>
      rw [Nat.testBit_zero, Nat.testBit_zero]
      have : (m + 2 ^ (a + 1)) % 2 = m % 2 := by rw [Nat.pow_succ]; omega
      rw [this]
      simp
    | succ c =>
      rw [Nat.testBit_succ, Nat.testBit_succ]
      have : (m + 2 ^ (a + 1)) / 2 = m / 2 + 2 ^ a := by rw [Nat.pow_succ]; omega
      rw [this, ih _ _ h]
      simp
/-- a table's ones: M i c, R rows, n columns; may column a be put behind those of the mask m? -/
def nx (M : Nat → Nat → Bool) (R n m a : Nat) : Prop := a < n ∧ m.testBit a = false ∧ ∀ i, i < R → (∃ c, c < n ∧ m.testBit c = true ∧ M i c = true) → (∃ c, c < n ∧ m.testBit c = false ∧ M i c = true) → M i a = true
def Good (M : Nat → Nat → Bool) (R n : Nat) : Nat → List Nat → Prop
  | _, [] => True
  | m, a :: l => nx M R n m a ∧ Good M R n (m + 2 ^ a) l
def mask (l : List Nat) : Nat := (l.map fun a => 2 ^ a).sum
variable {M : Nat → Nat → Bool} {R n : Nat}
theorem good_snoc : ∀ {l : List Nat} {m a : Nat}, Good M R n m (l ++ [a]) ↔ Good M R n m l ∧ nx M R n (m + mask l) a
  | [], m, a => by simp [Good, mask]
  | b :: l, m, a => by
    simp only [List.cons_append, Good, good_snoc, mask, List.map_cons, List.sum_cons, and_assoc]
    rw [show m + 2 ^ b + (l.map fun a => 2 ^ a).sum = m + (2 ^ b + (l.map fun a => 2 ^ a).sum) from by omega]
theorem good_bits : ∀ {l : List Nat} {m : Nat}, Good M R n m l → ∀ c, (m + mask l).testBit c = (decide (c ∈ l) || m.testBit c)
  | [], m, h, c => by simp [mask]
  | a :: l, m, h, c => by
    have := good_bits h.2 c
    rw [tb_add a m c h.1.2.1] at this
    simp only [mask, List.map_cons, List.sum_cons] at this ⊢
    rw [show m + (2 ^ a + (l.map fun a => 2 ^ a).sum) = m + 2 ^ a + (l.map fun a => 2 ^ a).sum from by omega, this]
    by_cases e : c = a <;> by_cases e' : c ∈ l <;> simp [e, e']
theorem good_nodup : ∀ {l : List Nat} {m : Nat}, Good M R n m l → l.Nodup ∧ ∀ a ∈ l, a < n ∧ m.testBit a = false
  | [], m, h => by simp
  | a :: l, m, h => by
    obtain ⟨h1, h2⟩ := good_nodup h.2
    refine ⟨List.nodup_cons.mpr ⟨fun z => ?_, h1⟩, fun b hb => ?_⟩
    · have := (h2 a z).2
      rw [tb_add a m a h.1.2.1] at this
      simp at this
    · rcases List.mem_cons.mp hb with e | e
      · subst e; exact ⟨h.1.1, h.1.2.1⟩
      · have := h2 b e
        refine ⟨this.1, ?_⟩
        have h3 := this.2
        rw [tb_add a m b h.1.2.1] at h3
        simp at h3
        exact h3.2
/-- the columns in an order: what lies between two ones is a one -/
def Conv (f : Nat → Bool) (n : Nat) : Prop := ∀ a b c, a < b → b < c → c < n → f a = true → f c = true → f b = true
/-- a tuple of all columns, each once -/
def IsP (n : Nat) (p : List Nat) : Prop := p.length = n ∧ p.Nodup ∧ ∀ a ∈ p, a < n
theorem nodup_lt : ∀ (n : Nat) (l : List Nat), l.Nodup → (∀ a ∈ l, a < n) → l.length ≤ n
  | 0, l, h, k => by
    cases l with
    | nil => simp
    | cons a l => exact absurd (k a (by simp)) (by omega)
  | n + 1, l, h, k => by
    have h1 : (l.erase n).Nodup := h.sublist List.erase_sublist
    have h2 := nodup_lt n (l.erase n) h1 fun a ha => by
      have := (h.mem_erase_iff).mp ha
      have := k a this.2
      omega
    by_cases c : n ∈ l
    · rw [List.length_erase_of_mem c] at h2; omega
    · rw [List.erase_of_not_mem c] at h2; omega
theorem IsP.mem {p : List Nat} (h : IsP n p) : ∀ c, c < n → c ∈ p := by
  obtain ⟨h1, h2, h3⟩ := h
  intro c hc
  refine Classical.byContradiction fun z => ?_
  have := nodup_lt n (c :: p) (List.nodup_cons.mpr ⟨z, h2⟩) fun a ha => by
    rcases List.mem_cons.mp ha with e | e
    · omega
    · exact h3 a e
  simp at this; omega
def Stand (M : Nat → Nat → Bool) (R n : Nat) (p : List Nat) : Prop := ∀ i, i < R → Conv (fun k => M i (p.getD k 0)) n
theorem good_take : ∀ {l : List Nat} {m : Nat}, Good M R n m l ↔ ∀ k, k < l.length → nx M R n (m + mask (l.take k)) (l.getD k 0)
  | [], m => by simp [Good]
  | a :: l, m => by
    constructor
    · intro h k hk
      cases k with
      | zero => simpa [mask] using h.1
      | succ k =>
        have := (good_take.mp h.2) k (by simpa using hk)
        simp only [List.take_succ_cons, mask, List.map_cons, List.sum_cons, List.getD_cons_succ] at this ⊢
        rw [show m + (2 ^ a + ((l.take k).map fun a => 2 ^ a).sum) = m + 2 ^ a + ((l.take k).map fun a => 2 ^ a).sum from by omega]
        exact this
    · intro h
      refine ⟨by simpa [mask] using h 0 (by simp), good_take.mpr fun k hk => ?_⟩
      have := h (k + 1) (by simpa using hk)
      simp only [List.take_succ_cons, mask, List.map_cons, List.sum_cons, List.getD_cons_succ] at this ⊢
      rw [show m + (2 ^ a + ((l.take k).map fun a => 2 ^ a).sum) = m + 2 ^ a + ((l.take k).map fun a => 2 ^ a).sum from by omega] at this
      exact this
theorem mask_bits : ∀ {l : List Nat}, l.Nodup → ∀ c, (mask l).testBit c = decide (c ∈ l)
  | [], h, c => by simp [mask]
  | a :: l, h, c => by
    have hn := List.nodup_cons.mp h
    have ih := mask_bits hn.2
    have : mask (a :: l) = mask l + 2 ^ a := by simp [mask]; omega
    rw [this, tb_add a (mask l) c (by rw [ih]; simpa using hn.1), ih]
    simp
theorem getD_mem {l : List Nat} {k : Nat} (h : k < l.length) : l.getD k 0 ∈ l := by
  rw [List.getD_eq_getElem?_getD, List.getElem?_eq_getElem h]
  exact List.getElem_mem h
theorem getD_inj {l : List Nat} (h : l.Nodup) {i j : Nat} (hi : i < l.length) (hj : j < l.length) (e : l.getD i 0 = l.getD j 0) : i = j := by
  rw [List.getD_eq_getElem?_getD, List.getElem?_eq_getElem hi, List.getD_eq_getElem?_getD, List.getElem?_eq_getElem hj] at e
  exact (List.getElem_inj h).mp e
theorem mem_take_getD {l : List Nat} {k c : Nat} : c ∈ l.take k → ∃ j, j < k ∧ j < l.length ∧ l.getD j 0 = c := by
  intro h
  obtain ⟨j, hj, e⟩ := List.getElem_of_mem h
  rw [List.length_take] at hj
  have h1 : j < k := by omega
  have h2 : j < l.length := by omega
  refine ⟨j, h1, h2, ?_⟩
  rw [List.getD_eq_getElem?_getD, List.getElem?_eq_getElem h2]
  simpa using e
theorem getD_mem_take {l : List Nat} {k j : Nat} (h : j < k) (hj : j < l.length) : l.getD j 0 ∈ l.take k := by
  rw [List.getD_eq_getElem?_getD, List.getElem?_eq_getElem hj]
  exact List.mem_take_iff_getElem.mpr ⟨j, by omega, rfl⟩
theorem idx_of {l : List Nat} {c : Nat} (h : c ∈ l) : ∃ j, j < l.length ∧ l.getD j 0 = c := by
  obtain ⟨j, hj, e⟩ := List.getElem_of_mem h
  exact ⟨j, hj, by rw [List.getD_eq_getElem?_getD, List.getElem?_eq_getElem hj]; simpa using e⟩
/-- THE MAIN POINT: a good row of puttings is a line-up, and each line-up is one -/
theorem good_iff {p : List Nat} : (Good M R n 0 p ∧ p.length = n) ↔ (IsP n p ∧ Stand M R n p) := by
  constructor
  · rintro ⟨h, hl⟩
    have hn := good_nodup h
    have hp : IsP n p := ⟨hl, hn.1, fun a ha => (hn.2 a ha).1⟩
    refine ⟨hp, fun i hi a b c hab hbc hc h1 h2 => ?_⟩
    have := (good_take.mp h b (by omega)).2.2 i hi
    have ht : (p.take b).Nodup := hn.1.sublist (List.take_sublist _ _)
    refine this ⟨p.getD a 0, (hn.2 _ (getD_mem (by omega))).1, ?_, h1⟩ ⟨p.getD c 0, (hn.2 _ (getD_mem (by omega))).1, ?_, h2⟩
    · rw [Nat.zero_add, mask_bits ht]
      exact decide_eq_true (getD_mem_take hab (by omega))
    · rw [Nat.zero_add, mask_bits ht]
      refine decide_eq_false fun z => ?_
      obtain ⟨j, h3, h4, h5⟩ := mem_take_getD z
      have := getD_inj hn.1 h4 (by omega) h5
      omega
  · rintro ⟨hp, hs⟩
    refine ⟨good_take.mpr fun k hk => ?_, hp.1⟩
    have ht : (p.take k).Nodup := hp.2.1.sublist (List.take_sublist _ _)
    refine ⟨hp.2.2 _ (getD_mem hk), ?_, fun i hi h1 h2 => ?_⟩
    · rw [Nat.zero_add, mask_bits ht]
      refine decide_eq_false fun z => ?_
      obtain ⟨j, h3, h4, h5⟩ := mem_take_getD z
      have := getD_inj hp.2.1 h4 hk h5
      omega
    · obtain ⟨c, c1, c2, c3⟩ := h1
      obtain ⟨d, d1, d2, d3⟩ := h2
      rw [Nat.zero_add, mask_bits ht] at c2 d2
      obtain ⟨j, h3, h4, h5⟩ := mem_take_getD (of_decide_eq_true c2)
      obtain ⟨l, h6, h7⟩ := idx_of (hp.mem d d1)
      have hlk : k ≤ l := by
        refine Nat.le_of_not_lt fun z => ?_
        have := of_decide_eq_false d2
        rw [← h7] at this
        exact this (getD_mem_take z h6)
      rcases Nat.lt_or_ge k l with z | z
      · exact hs i hi j k l h3 z (by have := hp.1; omega) (by simpa only [h5] using c3) (by simpa only [h7] using d3)
      · have : k = l := by omega
        subst this
        rw [h7]; exact d3
/-! ones next to one another, as the code looks -/
def contig (l : List Int) : Bool := match l with
  | [] => true
  | a :: r => decide ((a :: r).getLast (by simp) - a = (r.length : Int))
def places (f : Nat → Bool) (n : Nat) : List Int := ((List.range n).filter f).map fun (k : Nat) => (k : Int)
theorem gap (a : Nat) : ∀ (l : List Nat), (a :: l).Pairwise (· < ·) → a + l.length ≤ (a :: l).getLast (by simp) ∧ (((a :: l).getLast (by simp) = a + l.length) → ∀ b, a ≤ b → b ≤ (a :: l).getLast (by simp) → b ∈ a :: l) ∧ ((∀ b, a ≤ b → b ≤ (a :: l).getLast (by simp) → b ∈ a :: l) → (a :: l).getLast (by simp) = a + l.length)
  | [], h => by simp; intro b h1 h2; omega
  | b :: l, h => by
    have h' := List.pairwise_cons.mp h
    obtain ⟨i1, i2, i3⟩ := gap b l h'.2
    have hab := h'.1 b (by simp)
    have hlast : (a :: b :: l).getLast (by simp) = (b :: l).getLast (by simp) := by simp
    rw [hlast]
    refine ⟨by simp only [List.length_cons]; omega, fun e c hc1 hc2 => ?_, fun e => ?_⟩
    · simp only [List.length_cons] at e
      have hb : b = a + 1 := by omega
      rcases Nat.lt_or_ge a c with z | z
      · exact List.mem_cons_of_mem _ (i2 (by omega) c (by omega) hc2)
      · have : c = a := by omega
        subst this; simp
    · have hb : b = a + 1 := by
        have := e (a + 1) (by omega) (by omega)
        rcases List.mem_cons.mp this with z | z
        · omega
        · rcases List.mem_cons.mp z with y | y
          · omega
          · have := (List.pairwise_cons.mp h'.2).1 _ y
            omega
      have := i3 fun c hc1 hc2 => by
        have := e c (by omega) hc2
        rcases List.mem_cons.mp this with z | z
        · omega
        · exact z
      simp only [List.length_cons]
      omega
theorem contig_places (f : Nat → Bool) (n : Nat) : contig (places f n) = true ↔ Conv f n := by
  have hp : ((List.range n).filter f).Pairwise (· < ·) := List.Pairwise.filter _ List.pairwise_lt_range
  have hm : ∀ b, b ∈ (List.range n).filter f ↔ b < n ∧ f b = true := fun b => by simp [List.mem_filter]
  unfold places
  cases e : (List.range n).filter f with
  | nil =>
    simp only [List.map_nil, contig, true_iff]
    intro a b c hab hbc hc h1 h2
    have := (hm a).mpr ⟨by omega, h1⟩
    rw [e] at this; cases this
  | cons a l =>
    rw [e] at hp hm
    obtain ⟨i1, i2, i3⟩ := gap a l hp
    have hl : ((a :: l).map fun (k : Nat) => (k : Int)).getLast (by simp) = (((a :: l).getLast (by simp) : Nat) : Int) := by
      rw [List.getLast_map]
    have hc : contig ((a :: l).map fun (k : Nat) => (k : Int)) = true ↔ (a :: l).getLast (by simp) = a + l.length := by
      simp only [List.map_cons, contig, decide_eq_true_iff]
      simp only [List.map_cons] at hl
      rw [hl]
      simp only [List.length_map]
      omega
    rw [hc]
    have hmx : ∀ b ∈ a :: l, a ≤ b ∧ b ≤ (a :: l).getLast (by simp) := by
      intro b hb
      constructor
      · rcases List.mem_cons.mp hb with z | z
        · omega
        · have := (List.pairwise_cons.mp hp).1 b z; omega
      · obtain ⟨j, hj, ej⟩ := List.getElem_of_mem hb
        rw [List.getLast_eq_getElem, ← ej]
        rcases Nat.lt_or_ge j ((a :: l).length - 1) with z | z
        · exact Nat.le_of_lt (List.pairwise_iff_getElem.mp hp j _ hj (by omega) z)
        · have hj' : j = (a :: l).length - 1 := by omega
          subst hj'
          exact Nat.le_refl _
    constructor
    · intro h x y z hxy hyz hz h1 h2
      have g1 := hmx x ((hm x).mpr ⟨by omega, h1⟩)
      have g2 := hmx z ((hm z).mpr ⟨hz, h2⟩)
      exact ((hm y).mp (i2 h y (by omega) (by omega))).2
    · intro h
      refine i3 fun b h1 h2 => ?_
      have ga := (hm a).mp (by simp)
      have gz := (hm ((a :: l).getLast (by simp))).mp (List.getLast_mem _)
      refine (hm b).mpr ⟨by omega, ?_⟩
      rcases Nat.lt_or_ge a b with z | z
      · rcases Nat.lt_or_ge b ((a :: l).getLast (by simp)) with y | y
        · exact h a b _ z y gz.1 ga.2 gz.2
        · rw [show b = (a :: l).getLast (by simp) from by omega]; exact gz.2
      · rw [show b = a from by omega]; exact ga.2
/-! tables with a line-up -/
def HasL (M : Nat → Nat → Bool) (R n : Nat) : Prop := ∃ p, IsP n p ∧ Stand M R n p
theorem getD_map {l : List Nat} {f : Nat → Nat} {k : Nat} (h : k < l.length) : (l.map f).getD k 0 = f (l.getD k 0) := by
  rw [List.getD_eq_getElem?_getD, List.getD_eq_getElem?_getD, List.getElem?_map, List.getElem?_eq_getElem h]
  rfl
theorem nodup_map {l : List Nat} {f : Nat → Nat} (h : l.Nodup) (hf : ∀ a ∈ l, ∀ b ∈ l, f a = f b → a = b) : (l.map f).Nodup := by
  induction l with
  | nil => simp
  | cons a l ih =>
    have hn := List.nodup_cons.mp h
    rw [List.map_cons]
    refine List.nodup_cons.mpr ⟨fun z => ?_, ih hn.2 fun x hx y hy => hf x (List.mem_cons_of_mem _ hx) y (List.mem_cons_of_mem _ hy)⟩
    obtain ⟨b, hb, e⟩ := List.mem_map.mp z
    have := hf b (List.mem_cons_of_mem _ hb) a (by simp) e
    subst this
    exact hn.1 hb
theorem getD_idxOf {l : List Nat} {c : Nat} (h : c ∈ l) : l.getD (l.idxOf c) 0 = c := by
  have hj := List.idxOf_lt_length_iff.mpr h
  rw [List.getD_eq_getElem?_getD, List.getElem?_eq_getElem hj]
  simp
theorem hasL_moved {d : List Nat} (hd : IsP n d) : HasL (fun i k => M i (d.getD k 0)) R n ↔ HasL M R n := by
  constructor
  · rintro ⟨p, hp, hs⟩
    refine ⟨p.map fun k => d.getD k 0, ⟨by simp [hp.1], nodup_map hp.2.1 fun a ha b hb e => getD_inj hd.2.1 (by rw [hd.1]; exact hp.2.2 a ha) (by rw [hd.1]; exact hp.2.2 b hb) e, fun a ha => ?_⟩, fun i hi a b c hab hbc hc => ?_⟩
    · obtain ⟨k, hk, e⟩ := List.mem_map.mp ha
      subst e
      exact hd.2.2 _ (getD_mem (by rw [hd.1]; exact hp.2.2 k hk))
    · simp only [getD_map (l := p) (f := fun k => d.getD k 0) (k := a) (by rw [hp.1]; omega), getD_map (l := p) (f := fun k => d.getD k 0) (k := b) (by rw [hp.1]; omega), getD_map (l := p) (f := fun k => d.getD k 0) (k := c) (by rw [hp.1]; omega)]
      exact hs i hi a b c hab hbc hc
  · rintro ⟨p, hp, hs⟩
    refine ⟨p.map fun c => d.idxOf c, ⟨by simp [hp.1], nodup_map hp.2.1 fun a ha b hb e => ?_, fun a ha => ?_⟩, fun i hi a b c hab hbc hc => ?_⟩
    · have h1 := getD_idxOf (hd.mem a (hp.2.2 a ha))
      have h2 := getD_idxOf (hd.mem b (hp.2.2 b hb))
      rw [← h1, ← h2, e]
    · obtain ⟨k, hk, e⟩ := List.mem_map.mp ha
      subst e
      have := List.idxOf_lt_length_iff.mpr (hd.mem k (hp.2.2 k hk))
      rw [hd.1] at this
      exact this
    · have key : ∀ k, k < n → M i (d.getD ((p.map fun c => d.idxOf c).getD k 0) 0) = M i (p.getD k 0) := fun k hk => by
        rw [getD_map (by rw [hp.1]; exact hk), getD_idxOf (hd.mem _ (hp.2.2 _ (getD_mem (by rw [hp.1]; exact hk))))]
      simp only [key a (by omega), key b (by omega), key c hc]
      exact hs i hi a b c hab hbc hc
theorem range_isP : IsP n (List.range n) := ⟨by simp, List.nodup_range, fun a ha => List.mem_range.mp ha⟩
theorem getD_range {k : Nat} (h : k < n) : (List.range n).getD k 0 = k := by
  rw [List.getD_eq_getElem?_getD, List.getElem?_eq_getElem (by simpa using h)]
  simp
theorem hasL_runs {lo hi : Nat → Int} {d : List Nat} (hd : IsP n d) (h : ∀ i, i < R → ∀ k, k < n → M i k = decide (lo i ≤ (d.getD k 0 : Int) ∧ (d.getD k 0 : Int) < hi i)) : HasL M R n := by
  have h1 : HasL (fun i k => decide (lo i ≤ (k : Int) ∧ (k : Int) < hi i)) R n := by
    refine ⟨List.range n, range_isP, fun i hi a b c hab hbc hc h1 h2 => ?_⟩
    simp only [getD_range (n := n) (k := a) (by omega), getD_range (n := n) (k := b) (by omega), getD_range (n := n) (k := c) (by omega)] at h1 h2 ⊢
    have h1 := of_decide_eq_true h1
    have h2 := of_decide_eq_true h2
    exact decide_eq_true ⟨by omega, by omega⟩
  obtain ⟨p, hp, hs⟩ := (hasL_moved (R := R) hd).mpr h1
  refine ⟨p, hp, fun i hi a b c hab hbc hc h1 h2 => ?_⟩
  have key : ∀ k, k < n → M i (p.getD k 0) = decide (lo i ≤ (d.getD (p.getD k 0) 0 : Int) ∧ (d.getD (p.getD k 0) 0 : Int) < _) := fun k hk => h i hi _ (hp.2.2 _ (getD_mem (by rw [hp.1]; exact hk)))
  have := hs i hi a b c hab hbc hc
  simp only [← key a (by omega), ← key b (by omega), ← key c hc] at this
  exact this h1 h2
/-- a ring of three -/
theorem no_ring (hn : 3 ≤ n) {i j k : Nat} (hi : i < R) (hj : j < R) (hk : k < R) (a0 : M i 0 = true) (a1 : M i 1 = true) (a2 : M i 2 = false)
    (b0 : M j 0 = false) (b1 : M j 1 = true) (b2 : M j 2 = true) (c0 : M k 0 = true) (c1 : M k 1 = false) (c2 : M k 2 = true) : ¬ HasL M R n := by
  rintro ⟨p, hp, hs⟩
  obtain ⟨x, x1, x2⟩ := idx_of (hp.mem 0 (by omega))
  obtain ⟨y, y1, y2⟩ := idx_of (hp.mem 1 (by omega))
  obtain ⟨z, z1, z2⟩ := idx_of (hp.mem 2 (by omega))
  rw [hp.1] at x1 y1 z1
  have d1 : x ≠ y := fun e => by rw [e, y2] at x2; cases x2
  have d2 : y ≠ z := fun e => by rw [e, z2] at y2; cases y2
  have d3 : x ≠ z := fun e => by rw [e, z2] at x2; cases x2
  have ki : ∀ r, r < R → ∀ a b c, a < b → b < c → c < n → M r (p.getD a 0) = true → M r (p.getD c 0) = true → M r (p.getD b 0) = true := fun r hr a b c => hs r hr a b c
  have bad : ∀ {P : Bool}, P = true → P = false → False := fun h h' => by rw [h] at h'; cases h'
  rcases Nat.lt_or_gt_of_ne d1 with e1 | e1 <;> rcases Nat.lt_or_gt_of_ne d2 with e2 | e2 <;> rcases Nat.lt_or_gt_of_ne d3 with e3 | e3
  · exact bad (ki k hk x y z e1 e2 z1 (by rw [x2]; exact c0) (by rw [z2]; exact c2)) (by rw [y2]; exact c1)
  · omega
  · exact bad (ki i hi x z y e3 e2 y1 (by rw [x2]; exact a0) (by rw [y2]; exact a1)) (by rw [z2]; exact a2)
  · exact bad (ki j hj z x y e3 e1 y1 (by rw [z2]; exact b2) (by rw [y2]; exact b1)) (by rw [x2]; exact b0)
  · exact bad (ki j hj y x z e1 e3 z1 (by rw [y2]; exact b1) (by rw [z2]; exact b2)) (by rw [x2]; exact b0)
  · exact bad (ki i hi y z x e2 e3 x1 (by rw [y2]; exact a1) (by rw [x2]; exact a0)) (by rw [z2]; exact a2)
  · omega
  · exact bad (ki k hk z y x e2 e1 x1 (by rw [z2]; exact c2) (by rw [x2]; exact c0)) (by rw [y2]; exact c1)
end LU
set_option Elab.async false
set_option linter.all false
set_option maxRecDepth 100000
/-! QDraw: a drawn order of the numbers below w: the loop that takes them out of a list. -/
namespace Qx
open PySem LU
theorem getO_eq {env : En} {i : Nat} {d : D} (h : i < env.length) : getO (env.set i (.own d)) i = some d := by
  unfold getO
  rw [List.getElem?_set_self h]
theorem getO_ne {env : En} {i j : Nat} {s : Sl} (h : i ≠ j) : getO (env.set i s) j = getO env j := by
  unfold getO
  rw [List.getElem?_set_ne h]
theorem getO_ltP {env : En} {i : Nat} {d : D} (h : getO env i = some d) : i < env.length := by
  unfold getO at h
  rcases Nat.lt_or_ge i env.length with c | c
  · exact c
  · rw [List.getElem?_eq_none c] at h; cases h
theorem isO_getO {env : En} {i : Nat} {d : D} (h : getO env i = some d) : isO env i = true := by
  unfold getO at h
  unfold isO
  split at h
  · rename_i e; simp only [e]
  · cases h
def nI (l : List Nat) : List D := l.map fun (c : Nat) => D.int c
def poolD (a b : Int) : D := .lst [.int a, .int b]
theorem set3 {env : En} {i j k : Nat} {a b c a' b' c' : Sl} (h1 : i ≠ j) (h2 : i ≠ k) (h3 : j ≠ k) : (((((env.set i a).set j b).set k c).set i a').set j b').set k c' = ((env.set i a').set j b').set k c' := by
  rw [List.set_comm (i := k) (j := i) _ _ (Ne.symm h2), List.set_comm (i := j) (j := i) _ _ (Ne.symm h1), List.set_set, List.set_comm (i := k) (j := j) _ _ (Ne.symm h3), List.set_set, List.set_set]
theorem nodup_mid {o l : List Nat} {r : Nat} (hr : r < l.length) : (o ++ l).Perm ((o ++ [l[r]]) ++ l.eraseIdx r) := by
  rw [List.append_assoc]
  refine List.Perm.append_left o ?_
  have h1 : l = l.take r ++ l[r] :: l.drop (r + 1) := by
    rw [List.getElem_cons_drop, List.take_append_drop]
  have h2 : l.eraseIdx r = l.take r ++ l.drop (r + 1) := List.eraseIdx_eq_take_drop_succ _ _
  rw [h2]
  conv => lhs; rw [h1]
  exact List.perm_middle
theorem rfs_take {ds : List Df} {tk : Nat} (h : ds[tk]? = some lTake) : rfsOf ds tk = [0] := by
  unfold rfsOf
  rw [h]
  rfl
theorem ne_nilN (l : List Nat) : cmpD .ne (.lst (nI l)) (.lst []) = some (!decide (l = [])) := by
  have : cmpD .ne (.lst (nI l)) (.lst []) = (eqQ (.lst ((l.map fun (c : Nat) => (c : Int)).map .int)) (.lst (([] : List Int).map .int))).map (! ·) := by
    unfold nI
    rw [List.map_map]; rfl
  rw [this, eqQ_lst]
  cases l <;> simp
theorem wp_draw {ds : List Df} {tk n np ip il io w : Nat} {ss : List S} {P : Fl → En → Prop} {env : En} {a b : Int} (htk : ds[tk]? = some lTake) (h1 : ip ≠ il) (h2 : ip ≠ io) (h3 : il ≠ io) (hw : w ≤ 1000)
    (hp : getO env ip = some (poolD a b)) (hl : getO env il = some (.lst (nI (List.range w)))) (ho : getO env io = some (.lst []))
    (hr : ∀ a' b' p, IsP w p → Wp (callD ds (n + 1)) (rfsOf ds) np ss (((env.set ip (.own (poolD a' b'))).set il (.own (.lst []))).set io (.own (.lst (nI p)))) P) :
    Wp (callD ds (n + 1)) (rfsOf ds) np (.whl (.cmp .ne (.own il) (.lst [])) [.exp (.mm .append io [(.mm .pop1 il [(.call tk [(.own ip), (.bi .len [(.own il)])] [])])])] :: ss) env P := by
  have lp := getO_ltP hp
  have ll := getO_ltP hl
  have lo := getO_ltP ho
  have e0 : env = ((env.set ip (.own (poolD a b))).set il (.own (.lst (nI (List.range w))))).set io (.own (.lst (nI []))) := by
    have st : ∀ {i : Nat} {d : D}, getO env i = some d → env.set i (.own d) = env := fun {i d} h => by
      have hi := getO_ltP h
      unfold getO at h
      apply List.ext_getElem?
      intro j
      by_cases c : i = j
      · subst c
        rw [List.getElem?_set_self hi]
        split at h
        · rename_i e; cases h; exact e.symm
        · cases h
      · rw [List.getElem?_set_ne c]
    rw [st hp, st hl]
    exact (st ho).symm
  refine wp_whl (fun k e => ∃ a b l o, e = ((env.set ip (.own (poolD a b))).set il (.own (.lst (nI l)))).set io (.own (.lst (nI o))) ∧ l.length = k ∧ IsP w (o ++ l)) w ⟨a, b, List.range w, [], e0, by simp, range_isP⟩ (by omega) ?_
  rintro k e ⟨a, b, l, o, he, hlk, hip⟩
  have gl : getO e il = some (.lst (nI l)) := by rw [he, getO_ne (Ne.symm h3), getO_eq (by simpa using ll)]
  have gp : getO e ip = some (poolD a b) := by rw [he, getO_ne (Ne.symm h2), getO_ne (Ne.symm h1), getO_eq lp]
  have go : getO e io = some (.lst (nI o)) := by rw [he, getO_eq (by simpa using lo)]
  refine ⟨!decide (l = []), e, v_cmpA (op_o (isO_getO gl)) (op_v (v_lst vs_nil (by decide))) gl rfl (ne_nilN l), fun hq => ?_, fun hq => ?_⟩
  · have hne : l ≠ [] := by simpa using hq
    have hpos : 0 < l.length := List.length_pos_iff.mpr hne
    have hlw : l.length ≤ w := by have := hip.1; simp at this; omega
    obtain ⟨r, a', b', k1, k2⟩ := take_spec (n := n) htk a b l.length hpos (by omega)
    have hlen : biD .len [.lst (nI l)] = some (.int (l.length : Nat)) := by
      show some (D.int ((l.map fun (c : Nat) => D.int c).length : Int)) = _
      rw [List.length_map]
    have c1 : evE (callD ds (n + 1)) (rfsOf ds) (.call tk [(.own ip), (.bi .len [(.own il)])] []) e = some (.int (r : Nat), e.set ip (.own (poolD a' b'))) :=
      v_callR (as_o (isO_getO gp) (as_v (v_bi (as_o (isO_getO gl) as_nil) (by simp only [resAs, resA, gl, Option.bind_some, Option.map_some]) hlen) as_nil)) (rfs_take htk) rfl gp rfl rfl k1
    have gl2 : getO (e.set ip (.own (poolD a' b'))) il = some (.lst (nI l)) := by rw [getO_ne h1]; exact gl
    have c2 : evE (callD ds (n + 1)) (rfsOf ds) (.mm .pop1 il [(.call tk [(.own ip), (.bi .len [(.own il)])] [])]) e = some (.int (l[r] : Nat), (e.set ip (.own (poolD a' b'))).set il (.own (.lst (nI (l.eraseIdx r))))) := by
      refine v_mm gl (vs_cons c1 vs_nil) gl2 ?_
      simp only [mmD, pop1M]
      rw [if_pos ⟨by omega, by omega⟩]
      unfold nI
      simp only [Int.toNat_natCast]
      rw [List.getElem?_map, List.getElem?_eq_getElem k2, List.eraseIdx_eq_take_drop_succ, List.eraseIdx_eq_take_drop_succ, List.map_append, List.map_take, List.map_drop]
      rfl
    have go2 : getO ((e.set ip (.own (poolD a' b'))).set il (.own (.lst (nI (l.eraseIdx r))))) io = some (.lst (nI o)) := by
      rw [getO_ne h3, getO_ne h2]; exact go
    have hol : o.length < SZ := by have := hip.1; simp at this; unfold SZ; omega
    have c3 : mmD .append (.lst (nI o)) [.int (l[r] : Nat)] = some (.non, .lst (nI (o ++ [l[r]]))) := by
      show (if (nI o).length < SZ then _ else _) = _
      rw [if_pos (by unfold nI; rw [List.length_map]; exact hol)]
      unfold nI
      rw [List.map_append]; rfl
    refine wp_exp (v_mm go (vs_cons c2 vs_nil) go2 c3) (wp_nil ⟨(l.eraseIdx r).length, by rw [List.length_eraseIdx_of_lt k2]; omega, a', b', l.eraseIdx r, o ++ [l[r]], ?_, rfl, ?_⟩)
    · rw [he]
      exact set3 h1 h2 h3
    · have hpm := nodup_mid (o := o) k2
      exact ⟨by rw [← hpm.length_eq]; exact hip.1, hpm.nodup_iff.mp hip.2.1, fun x hx => hip.2.2 x (hpm.mem_iff.mpr hx)⟩
  · have : l = [] := by simpa using hq
    subst this
    rw [he]
    exact hr a b o (by simpa using hip)
end Qx
set_option Elab.async false
set_option linter.all false
set_option maxRecDepth 100000
namespace K76
open PySem Qx LU
theorem sp_is_whole (n : Nat) (d : D) (h : okd d = true) : callD dds (n + 1) 0 [d] = some (.bl (isWh d), []) := by
  rw [← isWh_eq]
  exact call_ret rfl rfl (ss_ret (s_ret (r_e (v_an (v_isi (op_v (v_var rfl)) rfl (isa_int h)) fun _ => v_nt (v_isi (op_v (v_var rfl)) rfl (isa_bool h))) nofun nofun))) rfl
theorem sp__law_whole (n : Nat) (d : D) (h : okd d = true) : callD dds (n + 1) 25 [d] = some (.bl (isWh d), []) := by
  rw [← isWh_eq]
  exact call_ret rfl rfl (ss_ret (s_ret (r_e (v_an (v_isi (op_v (v_var rfl)) rfl (isa_int h)) fun _ => v_nt (v_isi (op_v (v_var rfl)) rfl (isa_bool h))) nofun nofun))) rfl
def isBt (d : D) (lo hi : Int) : Bool := match d with
  | .int i => decide (lo ≤ i) && decide (i ≤ hi)
  | _ => false
theorem sp_is_between (n : Nat) (d : D) (lo hi : Int) (h : okd d = true) : callD dds (n + 2) 1 [d, .int lo, .int hi] = some (.bl (isBt d lo hi), []) := by
  have h1 : isBt d lo hi = (isWh d && isBt d lo hi) := by cases d <;> rfl
  rw [h1]
  refine call_ret rfl rfl (ss_ret (s_ret (r_e (v_an (v_call (as_v (v_var rfl) as_nil) rfl rfl (sp_is_whole n d h) (.inl rfl)) fun hw => ?_) nofun nofun))) rfl
  cases d with
  | int i => exact v_chn (v_var rfl) (v_var rfl) rfl (fun _ => v_var rfl) (fun _ => rfl)
  | _ => cases hw
theorem sp_is_tuple_of (n : Nat) (ds : List D) (m : Int) : callD dds (n + 1) 2 [.tup ds, .int m] = some (.bl (decide ((ds.length : Int) = m)), []) :=
  call_ret rfl rfl (
  (ss_ret (s_ret (r_e (v_an (p := true) (v_isi (op_v (v_var rfl)) rfl rfl) fun _ => (v_cmp (v_bi (as_v (v_var rfl) as_nil) rfl (d := _) rfl) (v_var rfl) (eqQ_int _ _))) nofun nofun)))) rfl
theorem sp_are_between (n : Nat) (ds : List D) (m lo hi : Int) (hd : ∀ d ∈ ds, okd d = true) (hl : ds.length ≤ SZ) : callD dds (n + 3) 3 [.tup ds, .int m, .int lo, .int hi] = some (.bl (decide ((ds.length : Int) = m) && ds.all fun d => isBt d lo hi), []) :=
  call_ret rfl rfl (
  (ss_ret (s_ret (r_e (v_an (v_call (as_v (v_var rfl) (as_v (v_var rfl) as_nil)) rfl rfl (sp_is_tuple_of ..) (.inl rfl)) fun _ => (v_bi (as_v (v_compT ds id (fun d => .bl (isBt d lo hi)) (it_seq (v_var rfl) rfl) (by simp) rfl rfl (fun y hy => ⟨_, rfl, (v_call (as_v (v_var rfl) (as_v (v_var rfl) (as_v (v_var rfl) as_nil))) rfl rfl (sp_is_between n y lo hi (hd y hy)) (.inl rfl)), rfl⟩) hl) as_nil) rfl (d := _) (all_map _ _))) nofun nofun)))) rfl
/-- all unlike -/
def unl (is : List Int) : Bool := (List.range is.length).all fun k => !decide (is.getD k 0 ∈ is.take k)
theorem slc_to {l : List Int} {k : Nat} (h : k ≤ l.length) : slcD (.tup (l.map .int)) .non (.int (k : Int)) = some (.tup ((l.take k).map .int)) := by
  simp only [slcD, cutD, bndD, Option.bind_some, Option.map_some, List.drop_zero, List.length_map]
  rw [if_neg (by omega)]
  simp only [Int.toNat_natCast, Nat.min_eq_left h, Nat.sub_zero, List.map_take]
theorem sp_are_unlike (n : Nat) (is : List Int) (hl : is.length ≤ SZ) : callD dds (n + 1) 4 [.tup (is.map .int)] = some (.bl (unl is), []) :=
  call_ret rfl rfl (
  (ss_ret (s_ret (r_e (v_bi (as_v (v_compT (List.range is.length) (fun (i : Nat) => D.tup [.int i, (is.map D.int).getD i .non]) (fun k => .bl (!decide (is.getD k 0 ∈ is.take k))) (it_enu (v_var rfl) rfl) (by rw [enu_eq, List.length_map]) rfl rfl (fun y hy => by
    have hy : y < is.length := List.mem_range.mp hy
    rw [getD_mapI is y hy]
    exact ⟨_, rfl, (v_cmp (v_var rfl) (v_slc (v_var rfl) v_cst (v_var rfl) (slc_to (Nat.le_of_lt hy))) (by
      show (inD _ _).map (! ·) = _
      rw [in_tup]; rfl)), rfl⟩) (by rw [List.length_range]; exact hl)) as_nil) rfl (d := _) (all_map _ _)) nofun nofun)))) rfl
theorem unl_iff (is : List Int) : unl is = true ↔ is.Nodup := by
  unfold unl
  rw [List.all_eq_true]
  constructor
  · intro h
    rw [List.Nodup, List.pairwise_iff_getElem]
    intro i j hi hj hij e
    have := h j (by simpa using hj)
    simp only [Bool.not_eq_true', decide_eq_false_iff_not] at this
    refine this ?_
    rw [List.getD_eq_getElem?_getD, List.getElem?_eq_getElem hj]
    show is[j] ∈ _
    rw [← e]
    exact List.mem_take_iff_getElem.mpr ⟨i, by omega, rfl⟩
  · intro h k hk
    have hk : k < is.length := by simpa using hk
    simp only [Bool.not_eq_true', decide_eq_false_iff_not]
    intro z
    rw [List.getD_eq_getElem?_getD, List.getElem?_eq_getElem hk] at z
    obtain ⟨j, hj, e⟩ := List.mem_take_iff_getElem.mp z
    have := List.pairwise_iff_getElem.mp h j k (by omega) hk (by omega)
    exact this e
/-- are the things whole numbers from lo up to hi? -/
theorem all_bt {lo hi : Int} : ∀ {ds : List D}, ds.all (fun d => isBt d lo hi) = true → ∃ is : List Int, ds = is.map .int ∧ ∀ i ∈ is, lo ≤ i ∧ i ≤ hi
  | [], _ => ⟨[], rfl, by simp⟩
  | d :: ds, h => by
    rw [List.all_cons, Bool.and_eq_true] at h
    obtain ⟨is, e, h2⟩ := all_bt h.2
    cases d with
    | int i =>
      have := h.1
      simp only [isBt, Bool.and_eq_true, decide_eq_true_eq] at this
      refine ⟨i :: is, by rw [e]; rfl, fun j hj => ?_⟩
      rcases List.mem_cons.mp hj with z | z
      · subst z; exact this
      · exact h2 j z
    | _ => cases h.1
/-- what may be handed in: of any sort -/
def okv : D → Bool
  | .tup ds => ds.all okd && decide (ds.length ≤ 100)
  | d => okd d
theorem okv_okd {d : D} (h : okv d = true) : okd d = true := by
  cases d <;> first | rfl | exact h
theorem sp_are_unlike_persons (n : Nat) (m : Int) (d : D) (h : okv d = true) : ∃ b, callD dds (n + 3) 5 [.int m, d] = some (.bl b, []) ∧ (b = true ↔ ∃ is : List Int, d = .tup (is.map .int) ∧ is.Nodup ∧ ∀ i ∈ is, 0 ≤ i ∧ i < m) := by
  by_cases ht : isTupP d = true
  · cases d with
    | tup ds =>
      simp only [okv, Bool.and_eq_true, decide_eq_true_eq, List.all_eq_true] at h
      have hsz : ds.length ≤ SZ := by have := h.2; unfold SZ; omega
      have hc : ∀ n, evE (callD dds (n + 2)) (rfsOf dds) (.or (.nt (.isi (.var 1) [.tuple])) (.nt (.bi .all [(.comp (.call 1 [(.var 2), (.cst (.int 0)), (.bin .sub (.var 0) (.cst (.int 1)))] []) [2] (.nm 2) (.seq (.var 1)) (.cst (.bl true)))]))) [.val (.int m), .val (.tup ds), .no] = some (.bl (!(ds.all fun d => isBt d 0 (m - 1))), [.val (.int m), .val (.tup ds), .no]) := fun n =>
        v_or (p := false) (v_nt (p := true) (v_isi (op_v (v_var rfl)) rfl rfl)) fun _ => (v_nt (v_bi (as_v (v_compT ds id (fun d => .bl (isBt d 0 (m - 1))) (it_seq (v_var rfl) rfl) (by simp) rfl rfl (fun y hy => ⟨_, rfl, (v_call (as_v (v_var rfl) (as_v v_cst (as_v (v_bin (v_var rfl) v_cst rfl) as_nil))) rfl rfl (sp_is_between n y 0 (m - 1) (h.1 y hy)) (.inl rfl)), rfl⟩) hsz) as_nil) rfl (d := _) (all_map _ _)))
      cases hb : ds.all (fun d => isBt d 0 (m - 1)) with
      | false =>
        refine ⟨false, call_ret rfl rfl (ss_ret (s_iteT ((hc n).trans (by rw [hb]; rfl)) (ss_ret (s_ret (r_e v_cst nofun nofun))))) rfl, ?_⟩
        refine ⟨nofun, fun ⟨is, e, _, h2⟩ => ?_⟩
        cases e
        have : (is.map D.int).all (fun d => isBt d 0 (m - 1)) = true := by
          rw [List.all_map, List.all_eq_true]
          intro i hi
          have := h2 i hi
          simp [isBt]; omega
        rw [this] at hb; cases hb
      | true =>
        obtain ⟨is, e, h2⟩ := all_bt hb
        subst e
        refine ⟨unl is, call_ret rfl rfl (ss_cons (s_iteF ((hc n).trans (by rw [hb]; rfl)) ss_nil) (ss_ret (s_ret (r_e (v_call (as_v (v_var rfl) as_nil) rfl rfl (sp_are_unlike _ is (by simpa using hsz)) (.inl rfl)) nofun nofun)))) rfl, ?_⟩
        rw [unl_iff]
        refine ⟨fun z => ⟨is, rfl, z, fun i hi => ?_⟩, fun ⟨js, e, z, _⟩ => ?_⟩
        · have := h2 i hi; omega
        · have : is = js := by
            have := congrArg (fun d => match d with | .tup ds => intsD ds | _ => none) e
            simp only [ints_int] at this
            exact Option.some.inj this
          rw [this]; exact z
    | _ => cases ht
  · have ht : isTupP d = false := by cases q : isTupP d <;> simp_all
    refine ⟨false, call_ret rfl rfl (ss_ret (s_iteT (v_or (p := true) (q := false) (v_nt (p := false) (v_isi (op_v (v_var rfl)) rfl ((isa_tup (okv_okd h)).trans (by rw [ht])))) nofun) (ss_ret (s_ret (r_e v_cst nofun nofun))))) rfl, nofun, fun ⟨is, e, _⟩ => ?_⟩
    subst e
    cases ht
end K76
set_option Elab.async false
set_option linter.all false
set_option maxRecDepth 100000
namespace K76
open PySem Qx LU
def tN (l : List Nat) : D := .tup (l.map fun (c : Nat) => D.int c)
theorem in_tupN (i : Nat) (l : List Nat) : inD (.int i) (.tup (l.map fun (c : Nat) => D.int c)) = some (decide (i ∈ l)) := by
  have := in_tup i (l.map fun (c : Nat) => (c : Int))
  rw [List.map_map] at this
  refine this.trans ?_
  rw [Option.some.injEq, decide_eq_decide]
  simp only [List.mem_map]
  constructor
  · rintro ⟨a, ha, e⟩
    have : a = i := by omega
    subst this; exact ha
  · exact fun z => ⟨i, z, rfl⟩
theorem in_lstN (i : Nat) (l : List Nat) : inD (.int i) (.lst (l.map fun (c : Nat) => D.int c)) = some (decide (i ∈ l)) := by
  have := in_lst i (l.map fun (c : Nat) => (c : Int))
  rw [List.map_map] at this
  refine this.trans ?_
  rw [Option.some.injEq, decide_eq_decide]
  simp only [List.mem_map]
  constructor
  · rintro ⟨a, ha, e⟩
    have : a = i := by omega
    subst this; exact ha
  · exact fun z => ⟨i, z, rfl⟩
theorem sp_is_put (n m k : Nat) : callD dds (n + 1) 6 [.int m, .int k] = some (.bl (m.testBit k), []) :=
  call_ret rfl rfl (
  (ss_ret (s_ret (r_e (v_cmp (v_bin (v_bin (v_var rfl) (v_var rfl) (shr_nat m k)) v_cst (and1_nat _)) v_cst (by
    refine (eqQ_int _ _).trans ?_
    rw [Nat.testBit_eq_decide_div_mod_eq, Option.some.injEq, decide_eq_decide]
    omega)) nofun nofun)))) rfl
theorem flat_len {α β : Type} {f : α → List β} {k : Nat} : ∀ (ys : List α), (∀ y ∈ ys, (f y).length ≤ k) → (ys.flatMap f).length ≤ ys.length * k
  | [], _ => by simp
  | y :: ys, h => by
    have := flat_len ys fun z hz => h z (List.mem_cons_of_mem _ hz)
    have := h y (by simp)
    simp only [List.flatMap_cons, List.length_append, List.length_cons, Nat.succ_mul]
    omega
def putP (lots : List (List Nat)) (m : Nat) (b : Bool) : List Nat := (List.range lots.length).flatMap fun i => (lots.getD i []).filter fun _ => m.testBit i == b
def opn (lots : List (List Nat)) (m : Nat) : List Nat := (putP lots m true).filter fun i => decide (i ∈ putP lots m false)
/-- few rows, few columns -/
def Small (lots : List (List Nat)) : Prop := lots.length ≤ 9 ∧ ∀ l ∈ lots, l.length ≤ 9
theorem Small.get {lots : List (List Nat)} (h : Small lots) (i : Nat) : (lots.getD i []).length ≤ 9 := by
  rw [List.getD_eq_getElem?_getD]
  cases e : lots[i]? with
  | none => simp
  | some l => exact h.2 l (List.mem_of_getElem? e)
theorem put_len {lots : List (List Nat)} (h : Small lots) (m : Nat) (b : Bool) : (putP lots m b).length ≤ 81 := by
  have := flat_len (f := fun i => (lots.getD i []).filter fun _ => m.testBit i == b) (k := 9) (List.range lots.length) fun y hy => Nat.le_trans (List.length_filter_le _ _) (h.get y)
  rw [List.length_range] at this
  have := h.1
  unfold putP
  omega
theorem getD_lots (lots : List (List Nat)) {i : Nat} (h : i < lots.length) : (lots.map tN).getD i .non = tN (lots.getD i []) := by
  rw [List.getD_eq_getElem?_getD, List.getD_eq_getElem?_getD, List.getElem?_map, List.getElem?_eq_getElem h]
  rfl
theorem put_D (lots : List (List Nat)) (m : Nat) (b : Bool) : ((List.range lots.length).flatMap fun i => ((lots.getD i []).filter fun _ => m.testBit i == b).map fun (c : Nat) => D.int c) = (putP lots m b).map fun (c : Nat) => D.int c := by
  unfold putP
  rw [List.map_flatMap]
theorem sp_persons_open (n : Nat) (lots : List (List Nat)) (m : Nat) (h : Small lots) : callD dds (n + 2) 7 [.lst (lots.map tN), .int m] = some (.lst ((opn lots m).map fun (c : Nat) => D.int c), []) := by
  have hsz : ∀ b, ((List.range lots.length).flatMap fun i => ((lots.getD i []).filter fun _ => m.testBit i == b).map fun (c : Nat) => D.int c).length ≤ SZ := fun b => by
    rw [put_D, List.length_map]
    have := put_len h m b
    unfold SZ; omega
  refine call_ret rfl rfl (
    ss_cons (s_asg (e2 := [.val _, .val _, .val _, .no, .no, .no, .no]) (d := .lst ((putP lots m true).map fun (c : Nat) => D.int c)) (v_eq (v_comp2T (List.range lots.length) (fun (i : Nat) => D.tup [.int i, (lots.map tN).getD i .non]) (fun i => lots.getD i []) (fun _ (z : Nat) => .int z) (fun i _ => m.testBit i == true) (fun _ (z : Nat) => .int z) (it_enu (v_var rfl) rfl) (by rw [enu_eq, List.length_map]) rfl rfl (by decide) (fun y hy => ?_) (hsz true)) (by rw [put_D])) rfl) <|
    ss_cons (s_asg (e2 := [.val _, .val _, .val _, .val _, .no, .no, .no]) (d := .lst ((putP lots m false).map fun (c : Nat) => D.int c)) (v_eq (v_comp2T (List.range lots.length) (fun (i : Nat) => D.tup [.int i, (lots.map tN).getD i .non]) (fun i => lots.getD i []) (fun _ (z : Nat) => .int z) (fun i _ => m.testBit i == false) (fun _ (z : Nat) => .int z) (it_enu (v_var rfl) rfl) (by rw [enu_eq, List.length_map]) rfl rfl (by decide) (fun y hy => ?_) (hsz false)) (by rw [put_D])) rfl) <|
    (ss_ret (s_ret (r_e (v_comp (putP lots m true) (fun (c : Nat) => D.int c) (fun i => decide (i ∈ putP lots m false)) (fun (c : Nat) => D.int c) (it_seq (v_var rfl) rfl) rfl rfl rfl (fun y hy => ⟨_, rfl, (v_cmp (v_var rfl) (v_var rfl) (in_lstN y _)), fun _ => (v_var rfl), rfl⟩) ?_) nofun nofun)))) rfl
  · have hy : y < lots.length := List.mem_range.mp hy
    rw [getD_lots lots hy]
    exact ⟨_, _, _, rfl, it_seq (v_var rfl) rfl, rfl, rfl, rfl, fun z hz => ⟨_, rfl, by
      have := sp_is_put n m y
      rw [show (m.testBit y == true) = m.testBit y from by cases m.testBit y <;> rfl]
      exact v_call (as_v (v_var rfl) (as_v (v_var rfl) as_nil)) rfl rfl this (.inl rfl), fun _ => (v_var rfl), rfl⟩⟩
  · have hy : y < lots.length := List.mem_range.mp hy
    rw [getD_lots lots hy]
    exact ⟨_, _, _, rfl, it_seq (v_var rfl) rfl, rfl, rfl, rfl, fun z hz => ⟨_, rfl, by
      have := sp_is_put n m y
      rw [show (m.testBit y == false) = !m.testBit y from by cases m.testBit y <;> rfl]
      exact v_nt (v_call (as_v (v_var rfl) (as_v (v_var rfl) as_nil)) rfl rfl this (.inl rfl)), fun _ => (v_var rfl), rfl⟩⟩
  · have := put_len h m true
    unfold SZ; omega
def nextsL (lots : List (List Nat)) (m : Nat) : List Nat := ((List.range lots.length).filter fun a => !m.testBit a).filter fun a => (opn lots m).all fun i => decide (i ∈ lots.getD a [])
theorem sp_nexts_of (n : Nat) (lots : List (List Nat)) (m : Nat) (h : Small lots) : callD dds (n + 3) 8 [.lst (lots.map tN), .int m] = some (.lst ((nextsL lots m).map fun (c : Nat) => D.int c), []) := by
  have h9 : lots.length ≤ SZ := by have := h.1; unfold SZ; omega
  refine call_ret rfl rfl (
    ss_cons (s_asg (e2 := [.val _, .val _, .val _, .no, .no, .no]) (v_call (as_v (v_var rfl) (as_v (v_var rfl) as_nil)) rfl rfl (sp_persons_open n lots m h) (.inl rfl)) rfl) <|
    ss_cons (s_asg (e2 := [.val _, .val _, .val _, .val _, .no, .no]) (v_comp (List.range lots.length) (fun (c : Nat) => D.int c) (fun a => !m.testBit a) (fun (c : Nat) => D.int c) (it_rngP (vs_cons (v_bi (as_v (v_var rfl) as_nil) rfl (d := _) (len_lst _)) vs_nil) (by rw [List.length_map]; exact rng1 _ h9)) rfl rfl rfl (fun y hy => ⟨_, rfl, (v_nt (v_call (as_v (v_var rfl) (as_v (v_var rfl) as_nil)) rfl rfl (sp_is_put (n + 1) m y) (.inl rfl))), fun _ => (v_var rfl), rfl⟩) (by rw [List.length_range]; exact h9)) rfl) <|
    (ss_ret (s_ret (r_e (v_comp ((List.range lots.length).filter fun a => !m.testBit a) (fun (c : Nat) => D.int c) (fun a => (opn lots m).all fun i => decide (i ∈ lots.getD a [])) (fun (c : Nat) => D.int c) (it_seq (v_var rfl) rfl) rfl rfl rfl (fun y hy => ⟨_, rfl,
      (v_bi (as_v (v_compT (opn lots m) (fun (c : Nat) => D.int c) (fun i => .bl (decide (i ∈ lots.getD y []))) (it_seq (v_var rfl) rfl) rfl rfl rfl (fun z hz => ⟨_, rfl, (v_cmp (v_var rfl) (v_sub (v_var rfl) (v_var rfl) (sub_lstN (d := tN (lots.getD y [])) ?_)) (in_tupN z _)), rfl⟩) ?_) as_nil) rfl (d := _) (all_map _ _)), fun _ => (v_var rfl), rfl⟩) ?_) nofun nofun)))) rfl
  · have hy : y < lots.length := by simpa using (List.mem_filter.mp hy).1
    rw [List.getElem?_map, List.getD_eq_getElem?_getD, List.getElem?_eq_getElem hy]
    rfl
  · have := put_len h m true
    have : (opn lots m).length ≤ (putP lots m true).length := List.length_filter_le _ _
    unfold SZ; omega
  · refine Nat.le_trans (List.length_filter_le _ _) ?_
    rw [List.length_range]; exact h9
end K76
set_option Elab.async false
set_option linter.all false
set_option maxRecDepth 100000
namespace K76
open PySem Qx LU
/-- the keys of a dict of marks -/
def dN (ks : List Nat) (ws : List Int) : D := .dct false ((ks.map fun (k : Nat) => (k : Int)).map .int) (ws.map .int)
def LDct (ks : List Nat) (ws : List Int) (N : Nat) : Prop := ks.length = ws.length ∧ ks.Nodup ∧ ∀ k ∈ ks, k < 2 ^ N
theorem mem_castN {k : Nat} {ks : List Nat} : (k : Int) ∈ ks.map (fun (k : Nat) => (k : Int)) ↔ k ∈ ks := by
  simp only [List.mem_map]
  constructor
  · rintro ⟨a, ha, e⟩
    have : a = k := by omega
    subst this; exact ha
  · exact fun z => ⟨k, z, rfl⟩
theorem LDct.len {ks : List Nat} {ws : List Int} {N : Nat} (h : LDct ks ws N) (hN : N ≤ 9) : ks.length ≤ 512 := by
  have h1 := nodup_lt _ _ h.2.1 h.2.2
  have h2 : 2 ^ N ≤ 2 ^ 9 := Nat.pow_le_pow_right (by decide) hN
  exact Nat.le_trans h1 h2
theorem dN_set {ks : List Nat} {ws : List Int} {N k : Nat} (v : Int) (h : LDct ks ws N) (hN : N ≤ 9) (hk : k < 2 ^ N) : ∃ ks' ws', setD (dN ks ws) (.int (k : Int)) (.int v) = some (dN ks' ws') ∧ LDct ks' ws' N ∧ ∀ x, x ∈ ks' ↔ x ∈ ks ∨ x = k := by
  obtain ⟨us, h1, h2⟩ := set_dct_int k v (ks.map fun (k : Nat) => (k : Int)) ws (by simp [h.1]) (by rw [List.length_map]; have := h.len hN; unfold SZ; omega)
  refine ⟨if k ∈ ks then ks else ks ++ [k], us, ?_, ⟨?_, ?_, ?_⟩, fun x => ?_⟩
  · unfold dN
    rw [h1]
    by_cases c : k ∈ ks
    · simp only [mem_castN, c, if_true]
    · simp only [mem_castN, c, if_false, List.map_append, List.map_cons, List.map_nil]
  · rw [h2]
    by_cases c : k ∈ ks <;> simp only [mem_castN, c, if_true, if_false, List.length_map, List.length_append, List.length_cons, List.length_nil]
  · by_cases c : k ∈ ks
    · simp only [c, if_true]; exact h.2.1
    · simp only [c, if_false]
      rw [List.nodup_append]
      refine ⟨h.2.1, by simp, fun a ha b hb => ?_⟩
      simp at hb
      subst hb
      exact fun e => c (e ▸ ha)
  · intro x hx
    by_cases c : k ∈ ks
    · simp only [c, if_true] at hx; exact h.2.2 x hx
    · simp only [c, if_false, List.mem_append, List.mem_singleton] at hx
      rcases hx with hx | hx
      · exact h.2.2 x hx
      · subst hx; exact hk
  · by_cases c : k ∈ ks
    · simp only [c, if_true]
      exact ⟨.inl, fun z => z.elim id fun e => e ▸ c⟩
    · simp only [c, if_false, List.mem_append, List.mem_singleton]
theorem dN_get (ks : List Nat) (ws : List Int) (k : Nat) : ∃ w, mpD .get2 (dN ks ws) [.int (k : Int), .int 0] = some (.int w) := by
  obtain ⟨w, h⟩ := look_int (ks.map fun (k : Nat) => (k : Int)) ws k
  refine ⟨w, ?_⟩
  simp only [mpD, dN, get2M, show keyOk false (D.int (k : Int)) = true from rfl, if_true, h]
theorem nextsL_lt {lots : List (List Nat)} {m a : Nat} (h : a ∈ nextsL lots m) : a < lots.length ∧ m.testBit a = false := by
  unfold nextsL at h
  have := (List.mem_filter.mp (List.mem_filter.mp h).1)
  exact ⟨by simpa using this.1, by simpa using this.2⟩
theorem add_lt {m a N : Nat} (hm : m < 2 ^ N) (ha : a < N) (hb : m.testBit a = false) : m + 2 ^ a < 2 ^ N := by
  refine Nat.lt_pow_two_of_testBit _ fun i hi => ?_
  rw [tb_add a m i hb, Nat.testBit_lt_two_pow (Nat.lt_of_lt_of_le hm (Nat.pow_le_pow_right (by decide) hi))]
  simp; omega
theorem sp_with_next (n : Nat) (lots : List (List Nat)) (ks : List Nat) (ws : List Int) (h : Small lots) (hk : LDct ks ws lots.length) : ∃ ks' ws', callD dds (n + 4) 9 [.lst (lots.map tN), dN ks ws] = some (dN ks' ws', []) ∧ LDct ks' ws' lots.length ∧ ∀ x, x ∈ ks' ↔ ∃ m ∈ ks, ∃ a ∈ nextsL lots m, x = m + 2 ^ a := by
  have inner : ∀ (m : Nat) (w : Int) (s5 s6 : Sl) (hm : m < 2 ^ lots.length) (h5 : ∀ d, s5 ≠ .own d) (h6 : ∀ d, s6 ≠ .own d) (ks1 : List Nat) (ws1 : List Int), LDct ks1 ws1 lots.length →
      ∃ s5' s6' ks2 ws2, forL (.nm 5) (gd (.v (.lst ((nextsL lots m).map fun (c : Nat) => D.int c))) (.lst ((nextsL lots m).map fun (c : Nat) => D.int c))) (evSs (callD dds (n + 3)) (rfsOf dds) 2 [.asg (.tn (.nm 6)) (.bin .add (.var 3) (.bin .shl (.cst (.int 1)) (.var 5))), .asg (.sb 2 (.var 6)) (.bin .add (.mp .get2 (.own 2) [(.var 6), (.cst (.int 0))]) (.var 4))]) ((nextsL lots m).map fun (c : Nat) => D.int c)
        [.val (.lst (lots.map tN)), .val (dN ks ws), .own (dN ks1 ws1), .val (.int m), .val (.int w), s5, s6] = some (.nx, [.val (.lst (lots.map tN)), .val (dN ks ws), .own (dN ks2 ws2), .val (.int m), .val (.int w), s5', s6']) ∧ (∀ d, s5' ≠ .own d) ∧ (∀ d, s6' ≠ .own d) ∧ LDct ks2 ws2 lots.length ∧ ∀ x, x ∈ ks2 ↔ x ∈ ks1 ∨ ∃ a ∈ nextsL lots m, x = m + 2 ^ a := by
    intro m w s5 s6 hm h5 h6 ks1 ws1 hl
    obtain ⟨e2, h1, s5', s6', ks2, ws2, h2, h3, h4, h7, h8⟩ := for_all (t := .nm 5) (g := gd (.v (.lst ((nextsL lots m).map fun (c : Nat) => D.int c))) (.lst ((nextsL lots m).map fun (c : Nat) => D.int c))) (body := evSs (callD dds (n + 3)) (rfsOf dds) 2 [.asg (.tn (.nm 6)) (.bin .add (.var 3) (.bin .shl (.cst (.int 1)) (.var 5))), .asg (.sb 2 (.var 6)) (.bin .add (.mp .get2 (.own 2) [(.var 6), (.cst (.int 0))]) (.var 4))]) (F := fun (c : Nat) => D.int c)
      (fun zs e => ∃ s5' s6' ks2 ws2, e = [.val (.lst (lots.map tN)), .val (dN ks ws), .own (dN ks2 ws2), .val (.int m), .val (.int w), s5', s6'] ∧ (∀ d, s5' ≠ .own d) ∧ (∀ d, s6' ≠ .own d) ∧ LDct ks2 ws2 lots.length ∧ ∀ x, x ∈ ks2 ↔ x ∈ ks1 ∨ ∃ a ∈ zs, x = m + 2 ^ a)
      (nextsL lots m) [] [.val (.lst (lots.map tN)), .val (dN ks ws), .own (dN ks1 ws1), .val (.int m), .val (.int w), s5, s6] ⟨s5, s6, ks1, ws1, rfl, h5, h6, hl, fun x => by simp⟩ (fun _ _ _ => rfl) (fun zs a e ha hi => by
        obtain ⟨s5', s6', ks2, ws2, h2, h3, h4, h7, h8⟩ := hi
        subst h2
        obtain ⟨la, lb⟩ := nextsL_lt ha
        obtain ⟨w2, hw⟩ := dN_get ks2 ws2 (m + 2 ^ a)
        obtain ⟨ks3, ws3, hs, hl3, hx⟩ := dN_set (k := m + 2 ^ a) (w2 + w) h7 h.1 (add_lt hm la lb)
        have p5 : putT (.nm 5) (.int (a : Int)) [.val (.lst (lots.map tN)), .val (dN ks ws), .own (dN ks2 ws2), .val (.int m), .val (.int w), s5', s6'] = some [.val (.lst (lots.map tN)), .val (dN ks ws), .own (dN ks2 ws2), .val (.int m), .val (.int w), .val (.int a), s6'] := by
          cases s5' with
          | own d => exact (h3 d rfl).elim
          | _ => rfl
        have p6 : putT (.nm 6) (.int ((m + 2 ^ a : Nat) : Int)) [.val (.lst (lots.map tN)), .val (dN ks ws), .own (dN ks2 ws2), .val (.int m), .val (.int w), .val (.int a), s6'] = some [.val (.lst (lots.map tN)), .val (dN ks ws), .own (dN ks2 ws2), .val (.int m), .val (.int w), .val (.int a), .val (.int ((m + 2 ^ a : Nat) : Int))] := by
          cases s6' with
          | own d => exact (h4 d rfl).elim
          | _ => rfl
        refine ⟨_, [.val (.lst (lots.map tN)), .val (dN ks ws), .own (dN ks3 ws3), .val (.int m), .val (.int w), .val (.int a), .val (.int ((m + 2 ^ a : Nat) : Int))], p5, .inl ?_, _, _, ks3, ws3, rfl, nofun, nofun, hl3, fun x => ?_⟩
        · exact ss_cons (s_asg (v_bin (v_var rfl) (v_bin v_cst (v_var rfl) (shl1_nat a (by have := h.1; omega))) (by show some (D.int ((m : Int) + (2 ^ a : Nat))) = _; rw [← Int.natCast_add])) p6) <|
            ss_cons (s_sb (v_bin (v_mp (op_o rfl) rfl (vs_cons (v_var rfl) (vs_cons v_cst vs_nil)) rfl hw) (v_var rfl) rfl) rfl (v_var rfl) rfl hs) ss_nil
        · rw [hx, h8]
          simp only [List.mem_append, List.mem_singleton]
          constructor
          · rintro ((z | ⟨b, hb, e⟩) | e)
            · exact .inl z
            · exact .inr ⟨b, .inl hb, e⟩
            · exact .inr ⟨a, .inr rfl, e⟩
          · rintro (z | ⟨b, hb | hb, e⟩)
            · exact .inl (.inl z)
            · exact .inl (.inr ⟨b, hb, e⟩)
            · subst hb; exact .inr e)
    subst h2
    exact ⟨s5', s6', ks2, ws2, h1, h3, h4, h7, by simpa using h8⟩
  obtain ⟨e2, h1, s3, s4, s5, s6, ks2, ws2, h2, n3, n4, n5, n6, h7, h8⟩ := for_all (t := .tp [.nm 3, .nm 4]) (g := gd (.v (dN ks ws)) (dN ks ws)) (body := evSs (callD dds (n + 3)) (rfsOf dds) 2 [.for_ (.nm 5) (.seq (.call 8 [(.var 0), (.var 3)] [])) [.asg (.tn (.nm 6)) (.bin .add (.var 3) (.bin .shl (.cst (.int 1)) (.var 5))), .asg (.sb 2 (.var 6)) (.bin .add (.mp .get2 (.own 2) [(.var 6), (.cst (.int 0))]) (.var 4))]]) (F := fun (i : Nat) => D.tup [.int ((ks.map fun (k : Nat) => (k : Int)).getD i 0), .int (ws.getD i 0)])
    (fun zs e => ∃ s3 s4 s5 s6 ks2 ws2, e = [.val (.lst (lots.map tN)), .val (dN ks ws), .own (dN ks2 ws2), s3, s4, s5, s6] ∧ (∀ d, s3 ≠ .own d) ∧ (∀ d, s4 ≠ .own d) ∧ (∀ d, s5 ≠ .own d) ∧ (∀ d, s6 ≠ .own d) ∧ LDct ks2 ws2 lots.length ∧ ∀ x, x ∈ ks2 ↔ ∃ i ∈ zs, ∃ a ∈ nextsL lots (ks.getD i 0), x = ks.getD i 0 + 2 ^ a)
    (List.range ks.length) [] [.val (.lst (lots.map tN)), .val (dN ks ws), .own (.dct false [] []), .no, .no, .no, .no] ⟨.no, .no, .no, .no, [], [], rfl, nofun, nofun, nofun, nofun, ⟨rfl, by simp, by simp⟩, by simp⟩ (fun _ _ _ => rfl) (fun zs i e hi ih => by
      obtain ⟨s3, s4, s5, s6, ks2, ws2, h2, n3, n4, n5, n6, h7, h8⟩ := ih
      subst h2
      have hi : i < ks.length := List.mem_range.mp hi
      have ek : (ks.map fun (k : Nat) => (k : Int)).getD i 0 = ((ks.getD i 0 : Nat) : Int) := by
        rw [List.getD_eq_getElem?_getD, List.getD_eq_getElem?_getD, List.getElem?_map, List.getElem?_eq_getElem hi]
        rfl
      rw [ek]
      have hm : ks.getD i 0 < 2 ^ lots.length := hk.2.2 _ (getD_mem hi)
      obtain ⟨s5', s6', ks3, ws3, k1, k2, k3, k4, k5⟩ := inner (ks.getD i 0) (ws.getD i 0) s5 s6 hm n5 n6 ks2 ws2 h7
      have p : putT (.tp [.nm 3, .nm 4]) (.tup [.int ((ks.getD i 0 : Nat) : Int), .int (ws.getD i 0)]) [.val (.lst (lots.map tN)), .val (dN ks ws), .own (dN ks2 ws2), s3, s4, s5, s6] = some [.val (.lst (lots.map tN)), .val (dN ks ws), .own (dN ks2 ws2), .val (.int ((ks.getD i 0 : Nat) : Int)), .val (.int (ws.getD i 0)), s5, s6] := by
        cases s3 with
        | own d => exact (n3 d rfl).elim
        | _ => cases s4 with
          | own d => exact (n4 d rfl).elim
          | _ => rfl
      refine ⟨_, _, p, .inl (ss_cons (s_for (it_seq (v_call (as_v (v_var rfl) (as_v (v_var rfl) as_nil)) rfl rfl (sp_nexts_of n lots (ks.getD i 0) h) (.inl rfl)) rfl) k1) ss_nil), _, _, _, _, ks3, ws3, rfl, nofun, nofun, k2, k3, k4, fun x => ?_⟩
      rw [k5, h8]
      simp only [List.mem_append, List.mem_singleton]
      constructor
      · rintro (⟨j, hj, z⟩ | z)
        · exact ⟨j, .inl hj, z⟩
        · exact ⟨i, .inr rfl, z⟩
      · rintro ⟨j, hj | hj, z⟩
        · exact .inl ⟨j, hj, z⟩
        · subst hj; exact .inr z)
  subst h2
  refine ⟨ks2, ws2, callL [.val (.lst (lots.map tN)), .val (dN ks ws), .no, .no, .no, .no, .no] rfl rfl rfl (
    ss_cons (s_new (e1 := [.val (.lst (lots.map tN)), .val (dN ks ws), .no, .no, .no, .no, .no]) v_dct0 rfl (by decide) (by show 2 < 7; decide)) <|
    ss_cons (s_for (it_itms (v_var rfl) ((itms_int _ ws (by simp [hk.1])).trans (by rw [List.length_map]))) h1) <|
    (ss_ret (s_ret (r_own (by decide) rfl)))) rfl, h7, fun x => ?_⟩
  rw [h8]
  simp only [List.nil_append, List.mem_range]
  constructor
  · rintro ⟨i, hi, z⟩
    exact ⟨ks.getD i 0, getD_mem hi, z⟩
  · rintro ⟨m, hm, z⟩
    obtain ⟨i, hi, e⟩ := idx_of hm
    exact ⟨i, hi, by rw [e]; exact z⟩
end K76
set_option Elab.async false
set_option linter.all false
set_option maxRecDepth 100000
namespace K76
open PySem Qx LU
def Mo (lots : List (List Nat)) (i c : Nat) : Bool := decide (i ∈ lots.getD c [])
theorem mem_putP {lots : List (List Nat)} {m : Nat} {b : Bool} {i : Nat} : i ∈ putP lots m b ↔ ∃ c, c < lots.length ∧ m.testBit c = b ∧ i ∈ lots.getD c [] := by
  unfold putP
  simp only [List.mem_flatMap, List.mem_range, List.mem_filter, beq_iff_eq]
  constructor
  · rintro ⟨c, h1, h2, h3⟩; exact ⟨c, h1, h3, h2⟩
  · rintro ⟨c, h1, h2, h3⟩; exact ⟨c, h1, h3, h2⟩
theorem mem_nextsL {lots : List (List Nat)} {R : Nat} (hR : ∀ c i, i ∈ lots.getD c [] → i < R) {m a : Nat} : a ∈ nextsL lots m ↔ nx (Mo lots) R lots.length m a := by
  unfold nextsL nx opn
  simp only [List.mem_filter, List.mem_range, List.all_eq_true, decide_eq_true_eq, mem_putP, Mo, Bool.not_eq_true', and_assoc]
  constructor
  · rintro ⟨h1, h2, h3⟩
    exact ⟨h1, h2, fun i hi ⟨c, c1, c2, c3⟩ ⟨d, d1, d2, d3⟩ => h3 i ⟨⟨c, c1, c2, c3⟩, ⟨d, d1, d2, d3⟩⟩⟩
  · rintro ⟨h1, h2, h3⟩
    refine ⟨h1, h2, fun i ⟨⟨c, c1, c2, c3⟩, ⟨d, d1, d2, d3⟩⟩ => h3 i (hR c i c3) ⟨c, c1, c2, c3⟩ ⟨d, d1, d2, d3⟩⟩
/-- the marks that j puttings may lead to -/
def Rch (lots : List (List Nat)) (R j x : Nat) : Prop := ∃ p, p.length = j ∧ Good (Mo lots) R lots.length 0 p ∧ mask p = x
theorem rch_succ {lots : List (List Nat)} {R j x : Nat} : Rch lots R (j + 1) x ↔ ∃ m, Rch lots R j m ∧ ∃ a, nx (Mo lots) R lots.length m a ∧ x = m + 2 ^ a := by
  have mk : ∀ (p : List Nat) (a : Nat), mask (p ++ [a]) = mask p + 2 ^ a := fun p a => by simp [mask]
  constructor
  · rintro ⟨p, h1, h2, h3⟩
    have hp : p ≠ [] := fun e => by subst e; simp at h1
    have e := List.dropLast_concat_getLast hp
    rw [← e] at h2
    have h4 := good_snoc.mp h2
    rw [Nat.zero_add] at h4
    refine ⟨mask p.dropLast, ⟨p.dropLast, by simp [h1], h4.1, rfl⟩, p.getLast hp, h4.2, ?_⟩
    rw [← mk, e, h3]
  · rintro ⟨m, ⟨p, h1, h2, h3⟩, a, h4, h5⟩
    refine ⟨p ++ [a], by simp [h1], good_snoc.mpr ⟨h2, by rw [Nat.zero_add, h3]; exact h4⟩, ?_⟩
    rw [mk, h3, h5]
abbrev Lay := List Nat × List Int
def dL (l : Lay) : D := dN l.1 l.2
def LayOk (lots : List (List Nat)) (R k : Nat) (L : List Lay) : Prop := L.length = k + 1 ∧ ∀ j, j ≤ k → LDct (L.getD j ([], [])).1 (L.getD j ([], [])).2 lots.length ∧ ∀ x, x ∈ (L.getD j ([], [])).1 ↔ Rch lots R j x
theorem getLast_map_getD {α β : Type} {f : α → β} {l : List α} {d : α} {k : Nat} (h : l.length = k + 1) : (l.map f).getLast? = some (f (l.getD k d)) := by
  rw [List.getLast?_eq_getElem?, List.length_map, h, List.getElem?_map, List.getD_eq_getElem?_getD, Nat.add_sub_cancel, List.getElem?_eq_getElem (by omega)]
  rfl
theorem sp_layers_of (n : Nat) (lots : List (List Nat)) (R : Nat) (h : Small lots) (hR : ∀ c i, i ∈ lots.getD c [] → i < R) : ∃ L, callD dds (n + 5) 10 [.lst (lots.map tN)] = some (.lst (L.map dL), []) ∧ LayOk lots R lots.length L := by
  obtain ⟨r, h1, L, h2, h3⟩ := call_wp1 (n := n + 4) (ds := dds) (f := 10) (args := [.lst (lots.map tN)]) (Q := fun r => ∃ L, r = .lst (L.map dL) ∧ LayOk lots R lots.length L) [.val (.lst (lots.map tN)), .no, .no] rfl rfl rfl rfl (by
    refine wp_new (v_lst (vs_cons (v_dct (vs_cons v_cst (vs_cons v_cst vs_nil)) rfl) vs_nil) (by decide)) rfl (by decide) (by show 1 < 3; decide) ?_
    refine wp_for (F := tN) lots (fun zs e => ∃ s L, e = [.val (.lst (lots.map tN)), .own (.lst (L.map dL)), s] ∧ isO [s] 0 = false ∧ LayOk lots R zs.length L) (it_seq (v_var rfl) rfl) rfl ⟨.no, [([0], [1])], rfl, rfl, rfl, ?_⟩ (fun _ _ _ => rfl) ?_ ?_
    · intro j hj
      have : j = 0 := by simpa using hj
      subst this
      refine ⟨⟨rfl, by simp, fun k hk => ?_⟩, fun x => ?_⟩
      · simp at hk; subst hk; exact Nat.two_pow_pos _
      · constructor
        · intro z
          simp at z
          exact ⟨[], rfl, trivial, by simp [mask, z]⟩
        · rintro ⟨p, p1, p2, p3⟩
          have : p = [] := List.length_eq_zero_iff.mp p1
          subst this
          simp [mask] at p3
          simp [p3]
    · rintro zs y ws e hy ⟨s, L, he, hs, hL⟩
      subst he
      have hlen : zs.length + 1 ≤ lots.length := by rw [hy]; simp
      have hj := hL.2 zs.length (Nat.le_refl _)
      obtain ⟨ks', ws', k1, k2, k3⟩ := sp_with_next n lots _ _ h hj.1
      refine ⟨_, putN hs (by show 2 < 3; decide), wp_exp (v_mm rfl (vs_cons (v_call (as_v (v_var rfl) (as_v (v_subA (op_o rfl) (v_neg v_cst) rfl (sub_lst_last (getLast_map_getD (d := ([], [])) hL.1))) as_nil)) rfl rfl k1 (.inl rfl)) vs_nil) rfl (r := .non) (d' := .lst (L.map dL ++ [dN ks' ws'])) ?_) (wp_nil ?_)⟩
      · show (if (L.map dL).length < SZ then _ else _) = _
        rw [if_pos (by rw [List.length_map, hL.1]; have := h.1; unfold SZ; omega)]
      · refine ⟨.val (tN y), L ++ [(ks', ws')], ?_, rfl, ?_, fun j hj' => ?_⟩
        · rw [List.map_append]; rfl
        · simp [hL.1]
        · simp only [List.length_append, List.length_cons, List.length_nil] at hj'
          rcases Nat.lt_or_ge j (zs.length + 1) with c | c
          · have : (L ++ [(ks', ws')]).getD j ([], []) = L.getD j ([], []) := by
              rw [List.getD_eq_getElem?_getD, List.getD_eq_getElem?_getD, List.getElem?_append_left (by rw [hL.1]; exact c)]
            rw [this]
            exact hL.2 j (by omega)
          · have e : j = zs.length + 1 := by omega
            have : (L ++ [(ks', ws')]).getD j ([], []) = (ks', ws') := by
              rw [List.getD_eq_getElem?_getD, List.getElem?_append_right (by rw [hL.1]; exact c), hL.1, e]
              simp
            rw [this, e]
            refine ⟨k2, fun x => ?_⟩
            show x ∈ ks' ↔ _
            rw [k3, rch_succ]
            constructor
            · rintro ⟨m, hm, a, ha, q⟩
              exact ⟨m, (hj.2 m).mp hm, a, (mem_nextsL hR).mp ha, q⟩
            · rintro ⟨m, hm, a, ha, q⟩
              exact ⟨m, (hj.2 m).mpr hm, a, (mem_nextsL hR).mpr ha, q⟩
    · rintro e ⟨s, L, he, hs, hL⟩
      subst he
      exact wp_ret (r_own (by decide) rfl) (end_ret ⟨L, rfl, hL⟩))
  subst h2
  exact ⟨L, h1, h3⟩
/-- what was put last, and may have been -/
theorem sp_last_put (n : Nat) (lots : List (List Nat)) (ks : List Nat) (ws : List Int) (m : Nat) (h : Small lots) (hl : ks.length = ws.length) (hm : ∃ a ∈ List.range lots.length, m.testBit a = true ∧ m - 2 ^ a ∈ ks ∧ a ∈ nextsL lots (m - 2 ^ a)) :
    ∃ a, callD dds (n + 4) 11 [.lst (lots.map tN), dN ks ws, .int m] = some (.int (a : Nat), []) ∧ a < lots.length ∧ m.testBit a = true ∧ m - 2 ^ a ∈ ks ∧ a ∈ nextsL lots (m - 2 ^ a) := by
  have h9 : lots.length ≤ SZ := by have := h.1; unfold SZ; omega
  have hsub : ∀ a, a < lots.length → m.testBit a = true → ∀ e : En, getV e 2 = some (.int (m : Int)) → getV e 4 = some (.int (a : Int)) → evE (callD dds (n + 3)) (rfsOf dds) (.bin .sub (.var 2) (.bin .shl (.cst (.int 1)) (.var 4))) e = some (.int ((m - 2 ^ a : Nat) : Int), e) := fun a ha hb e e1 e2 =>
    v_bin (v_var e1) (v_bin v_cst (v_var e2) (shl1_nat a (by have := h.1; omega))) (by
      show some (D.int ((m : Int) - (2 ^ a : Nat))) = _
      have := Nat.ge_two_pow_of_testBit hb
      rw [Int.natCast_sub this])
  let q1 : Nat → Bool := fun a => m.testBit a && decide (m - 2 ^ a ∈ ks)
  let q2 : Nat → Bool := fun a => decide (a ∈ nextsL lots (m - 2 ^ a))
  have key : ∃ a, (((List.range lots.length).filter q1).filter q2)[0]? = some a ∧ a < lots.length ∧ m.testBit a = true ∧ m - 2 ^ a ∈ ks ∧ a ∈ nextsL lots (m - 2 ^ a) := by
    cases e : ((List.range lots.length).filter q1).filter q2 with
    | nil =>
      obtain ⟨a, h1, h2, h3, h4⟩ := hm
      have : a ∈ ((List.range lots.length).filter q1).filter q2 := List.mem_filter.mpr ⟨List.mem_filter.mpr ⟨h1, by simp [q1, h2, h3]⟩, by simp [q2, h4]⟩
      rw [e] at this; cases this
    | cons a l =>
      have : a ∈ ((List.range lots.length).filter q1).filter q2 := by rw [e]; simp
      obtain ⟨h1, h2⟩ := List.mem_filter.mp this
      obtain ⟨h1, h3⟩ := List.mem_filter.mp h1
      simp only [q1, q2, Bool.and_eq_true, decide_eq_true_eq] at h2 h3
      exact ⟨a, rfl, List.mem_range.mp h1, h3.1, h3.2, h2⟩
  obtain ⟨a, ha, hrest⟩ := key
  refine ⟨a, callL [.val (.lst (lots.map tN)), .val (dN ks ws), .val (.int m), .no, .no] rfl rfl rfl (
    ss_cons (s_asg (e2 := [.val _, .val _, .val _, .val _, .no]) (v_comp (List.range lots.length) (fun (c : Nat) => D.int c) q1 (fun (c : Nat) => D.int c) (it_rngP (vs_cons (v_bi (as_v (v_var rfl) as_nil) rfl (d := _) (len_lst _)) vs_nil) (by rw [List.length_map]; exact rng1 _ h9)) rfl rfl rfl (fun y hy => ⟨[.val _, .val _, .val _, .no, .val _], rfl, (v_an (v_call (as_v (v_var rfl) (as_v (v_var rfl) as_nil)) rfl rfl (sp_is_put (n + 2) m y) (.inl rfl)) fun hb => (v_cmp (hsub y (List.mem_range.mp hy) hb _ rfl rfl) (v_var rfl) (by
        refine (in_dct (m - 2 ^ y : Nat) (ks.map fun (k : Nat) => (k : Int)) (ws.map .int) (by simp [hl])).trans ?_
        rw [Option.some.injEq, decide_eq_decide]
        exact mem_castN))), fun _ => (v_var rfl), rfl⟩) (by rw [List.length_range]; exact h9)) rfl) <|
    (ss_ret (s_ret (r_e (v_sub (v_comp ((List.range lots.length).filter q1) (fun (c : Nat) => D.int c) q2 (fun (c : Nat) => D.int c) (it_seq (v_var rfl) rfl) rfl rfl rfl (fun y hy => ⟨[.val _, .val _, .val _, .val _, .val _], rfl, (v_cmp (v_var rfl) (v_call (as_v (v_var rfl) (as_v (hsub y ?_ ?_ _ rfl rfl) as_nil)) rfl rfl (sp_nexts_of n lots (m - 2 ^ y) h) (.inl rfl)) (in_lstN y _)), fun _ => (v_var rfl), rfl⟩) ?_) v_cst ?_) nofun nofun)))) rfl, hrest⟩
  · exact List.mem_range.mp (List.mem_filter.mp hy).1
  · have := (List.mem_filter.mp hy).2
    simp only [q1, Bool.and_eq_true] at this
    exact this.1
  · refine Nat.le_trans (List.length_filter_le _ _) ?_
    rw [List.length_range]; exact h9
  · refine sub_lstN (k := 0) ?_
    rw [List.getElem?_map, ha]
    rfl
end K76
set_option Elab.async false
set_option linter.all false
set_option maxRecDepth 100000
namespace K76
open PySem Qx LU
theorem mask_full {n : Nat} {p : List Nat} (h : IsP n p) : mask p = 2 ^ n - 1 := by
  apply Nat.eq_of_testBit_eq
  intro i
  rw [mask_bits h.2.1, Nat.testBit_two_pow_sub_one, decide_eq_decide]
  exact ⟨h.2.2 i, h.mem i⟩
theorem rev_take {L : List Lay} {N : Nat} (hL : L.length = N + 1) (hN : 1 ≤ N) : revD (.lst (L.map dL)) (.int (-2)) = some (.lst ((L.take N).reverse.map dL)) := by
  simp only [revD]
  rw [if_pos ⟨by omega, by rw [List.length_map]; omega⟩]
  have : (L.map dL).length + 1 - (-2 : Int).natAbs = N := by rw [List.length_map]; show L.length + 1 - 2 = N; omega
  rw [this, List.map_reverse, List.map_take]
theorem sp_row_back (n : Nat) (lots : List (List Nat)) (R : Nat) (L : List Lay) (h : Small lots) (h1 : 1 ≤ lots.length) (hR : ∀ c i, i ∈ lots.getD c [] → i < R) (hL : LayOk lots R lots.length L) (hx : ∃ x, Rch lots R lots.length x) :
    ∃ p, callD dds (n + 5) 12 [.lst (lots.map tN), .lst (L.map dL)] = some (.lst (p.reverse.map fun (c : Nat) => D.int c), []) ∧ Good (Mo lots) R lots.length 0 p ∧ p.length = lots.length := by
  have hfull : Rch lots R lots.length (2 ^ lots.length - 1) := by
    obtain ⟨x, p, p1, p2, p3⟩ := hx
    exact ⟨p, p1, p2, mask_full (good_iff.mp ⟨p2, p1⟩).1⟩
  obtain ⟨r, g1, p, g2, g3, g4⟩ := call_wp1 (n := n + 4) (ds := dds) (f := 12) (args := [.lst (lots.map tN), .lst (L.map dL)]) (Q := fun r => ∃ p : List Nat, r = .lst (p.reverse.map fun (c : Nat) => D.int c) ∧ Good (Mo lots) R lots.length 0 p ∧ p.length = lots.length) [.val (.lst (lots.map tN)), .val (.lst (L.map dL)), .no, .no, .no] rfl rfl rfl rfl (by
    refine wp_par (e2 := [.val _, .val _, .no, .own (.lst []), .val (.int ((2 ^ lots.length - 1 : Nat) : Int))]) (vs_cons (v_lst vs_nil (by decide)) (vs_cons (v_bin (v_bin v_cst (v_bi (as_v (v_var rfl) as_nil) rfl (d := _) (len_lst _)) (by rw [List.length_map]; exact shl1_nat _ (by have := h.1; omega))) v_cst (d := .int ((2 ^ lots.length - 1 : Nat) : Int)) (by
      show some (D.int (((2 ^ lots.length : Nat) : Int) - 1)) = _
      have := Nat.two_pow_pos lots.length
      rw [Option.some.injEq, D.int.injEq]
      omega)) vs_nil)) rfl rfl ?_
    refine wp_for (F := dL) (L.take lots.length).reverse (fun zs e => ∃ s f m, e = [.val (.lst (lots.map tN)), .val (.lst (L.map dL)), s, .own (.lst (f.map fun (c : Nat) => D.int c)), .val (.int (m : Nat))] ∧ isO [s] 0 = false ∧ f.length = zs.length ∧ Rch lots R (lots.length - zs.length) m ∧ Good (Mo lots) R lots.length m f.reverse) (it_seq (v_rev (v_var rfl) (v_neg v_cst) (rev_take hL.1 h1)) rfl) rfl ⟨.no, [], 2 ^ lots.length - 1, rfl, rfl, rfl, hfull, trivial⟩ (fun _ _ _ => rfl) ?_ ?_
    · rintro zs y ws e hy ⟨s, f, m, he, hs, hf, hm, hg⟩
      subst he
      have hlen : zs.length + 1 + ws.length = lots.length := by
        have := congrArg List.length hy
        simp [hL.1] at this
        omega
      obtain ⟨k, hk⟩ : ∃ k, lots.length - zs.length = k + 1 := ⟨lots.length - zs.length - 1, by omega⟩
      have hyk : y = L.getD k ([], []) := by
        have e1 : (L.take lots.length).reverse[zs.length]? = some y := by rw [hy]; simp
        rw [List.getElem?_reverse (by simp [hL.1]; omega), List.getElem?_take] at e1
        rw [if_pos (by simp [hL.1]; omega)] at e1
        have e2 : (L.take lots.length).length - 1 - zs.length = k := by simp [hL.1]; omega
        rw [e2] at e1
        rw [List.getD_eq_getElem?_getD, e1]
        rfl
      have hlay := hL.2 k (by omega)
      rw [← hyk] at hlay
      rw [hk, rch_succ] at hm
      obtain ⟨m0, hm0, a0, ha0, hma0⟩ := hm
      have hlast : ∃ a ∈ List.range lots.length, m.testBit a = true ∧ m - 2 ^ a ∈ y.1 ∧ a ∈ nextsL lots (m - 2 ^ a) := by
        have e1 : m - 2 ^ a0 = m0 := by omega
        refine ⟨a0, List.mem_range.mpr ha0.1, ?_, ?_, ?_⟩
        · rw [hma0, tb_add _ _ _ ha0.2.1]; simp
        · rw [e1]; exact (hlay.2 m0).mpr hm0
        · rw [e1]; exact (mem_nextsL hR).mpr ha0
      obtain ⟨a, k1, k2, k3, k4, k5⟩ := sp_last_put n lots y.1 y.2 m h hlay.1.1 hlast
      have hge := Nat.ge_two_pow_of_testBit k3
      refine ⟨[.val (.lst (lots.map tN)), .val (.lst (L.map dL)), .val (dL y), .own (.lst (f.map fun (c : Nat) => D.int c)), .val (.int (m : Nat))], putN (i := 2) hs (by show 2 < 5; decide), ?_⟩
      refine wp_exp (e1 := [.val (.lst (lots.map tN)), .val (.lst (L.map dL)), .val (dL y), .own (.lst (f.map (fun (c : Nat) => D.int c) ++ [.int (a : Nat)])), .val (.int (m : Nat))]) (v_mm rfl (vs_cons (v_call (as_v (v_var rfl) (as_v (v_var rfl) (as_v (v_var rfl) as_nil))) rfl rfl k1 (.inl rfl)) vs_nil) rfl (r := .non) ?_) ?_
      · show (if (f.map fun (c : Nat) => D.int c).length < SZ then _ else _) = _
        rw [if_pos (by rw [List.length_map, hf]; have := h.1; unfold SZ; omega)]
      refine wp_set (d := .int ((m - 2 ^ a : Nat) : Int)) (v_bin (v_var rfl) (v_bin v_cst (v_subA (op_o rfl) (v_neg v_cst) rfl (sub_lst_last (by rw [List.getLast?_concat]))) (shl1_nat a (by have := h.1; omega))) (by
        show some (D.int ((m : Int) - (2 ^ a : Nat))) = _
        rw [Int.natCast_sub hge])) rfl (by show 4 < 5; decide) (wp_nil ?_)
      refine ⟨.val (dL y), f ++ [a], m - 2 ^ a, ?_, rfl, by simp [hf], ?_, ?_⟩
      · rw [List.map_append]; rfl
      · have : lots.length - (zs ++ [y]).length = k := by simp; omega
        rw [this]
        exact (hlay.2 _).mp k4
      · rw [List.reverse_append]
        refine ⟨(mem_nextsL hR).mp k5, ?_⟩
        rw [Nat.sub_add_cancel hge]
        exact hg
    · rintro e ⟨s, f, m, he, hs, hf, hm, hg⟩
      subst he
      have hz : (L.take lots.length).reverse.length = lots.length := by simp [hL.1]
      rw [hz] at hf hm
      rw [Nat.sub_self] at hm
      obtain ⟨q, q1, _, q3⟩ := hm
      have : q = [] := List.length_eq_zero_iff.mp q1
      subst this
      have : m = 0 := by rw [← q3]; rfl
      subst this
      exact wp_ret (r_own (by decide) rfl) (end_ret ⟨f.reverse, by rw [List.reverse_reverse], hg, by simp [hf]⟩))
  subst g2
  exact ⟨p, g1, g3, g4⟩
/-! tables -/
def tI (r : List Int) : D := .tup (r.map .int)
def tabD (T : List (List Int)) : D := .tup (T.map tI)
def WF (T : List (List Int)) (w : Nat) : Prop := 1 ≤ T.length ∧ T.length ≤ 9 ∧ 1 ≤ w ∧ w ≤ 9 ∧ ∀ r ∈ T, r.length = w ∧ ∀ x ∈ r, x = 0 ∨ x = 1
def Mt (T : List (List Int)) (i c : Nat) : Bool := decide ((T.getD i []).getD c 0 = 1)
theorem WF.row {T : List (List Int)} {w i : Nat} (h : WF T w) (hi : i < T.length) : (T.getD i []).length = w := by
  rw [List.getD_eq_getElem?_getD, List.getElem?_eq_getElem hi]
  exact (h.2.2.2.2 _ (List.getElem_mem hi)).1
theorem tab_get {T : List (List Int)} {i : Nat} (hi : i < T.length) : (T.map tI)[i]? = some (tI (T.getD i [])) := by
  rw [List.getElem?_map, List.getD_eq_getElem?_getD, List.getElem?_eq_getElem hi]
  rfl
theorem tab_getD {T : List (List Int)} {i : Nat} (hi : i < T.length) : (T.map tI).getD i .non = tI (T.getD i []) := by
  rw [List.getD_eq_getElem?_getD, tab_get hi]
  rfl
theorem tab_sub {T : List (List Int)} {i : Nat} (hi : i < T.length) : subD (tabD T) (.int (i : Nat)) = some (tI (T.getD i [])) := sub_tupN (tab_get hi)
theorem row_sub {r : List Int} {c : Nat} (hc : c < r.length) : subD (tI r) (.int (c : Nat)) = some (.int (r.getD c 0)) := sub_tupN (get_mapI hc)
/-- len(table[0]) -/
theorem v_wide {Φ : Orc} {R : Rfs} {env : En} {T : List (List Int)} {w i : Nat} (h : WF T w) (hv : getV env i = some (tabD T)) : evE Φ R (.bi .len [(.sub (.var i) (.cst (.int 0)))]) env = some (.int (w : Nat), env) :=
  v_bi (as_v (v_sub (v_var hv) v_cst (tab_sub (i := 0) h.1)) as_nil) rfl (by
    show some (D.int (((T.getD 0 []).map D.int).length : Int)) = _
    rw [List.length_map, h.row h.1])
def rowsIn (T : List (List Int)) (c : Nat) : List Nat := (List.range T.length).filter fun i => Mt T i c
theorem sp_rows_in (n : Nat) (T : List (List Int)) (w c : Nat) (h : WF T w) (hc : c < w) : callD dds (n + 1) 17 [tabD T, .int (c : Nat)] = some (tN (rowsIn T c), []) :=
  callL [.val (tabD T), .val (.int (c : Nat)), .no, .no] rfl rfl rfl (
  (ss_ret (s_ret (r_e (v_bi (as_v (v_comp (List.range T.length) (fun (i : Nat) => D.tup [.int i, (T.map tI).getD i .non]) (fun i => Mt T i c) (fun (c : Nat) => D.int c) (it_enu (v_var rfl) rfl) (by rw [enu_eq, List.length_map]) rfl rfl (fun y hy => by
    have hy : y < T.length := List.mem_range.mp hy
    rw [tab_getD hy]
    exact ⟨[.val _, .val _, .val _, .val _], rfl, (v_cmp (v_sub (v_var rfl) (v_var rfl) (row_sub (by rw [h.row hy]; exact hc))) v_cst (eqQ_int _ _)), fun _ => (v_var rfl), rfl⟩) (by rw [List.length_range]; have := h.2.1; unfold SZ; omega)) as_nil) rfl (d := _) rfl) nofun nofun)))) rfl
def lotsOf (T : List (List Int)) (w : Nat) : List (List Nat) := (List.range w).map (rowsIn T)
theorem lots_getD {T : List (List Int)} {w c : Nat} (hc : c < w) : (lotsOf T w).getD c [] = rowsIn T c := by
  unfold lotsOf
  rw [List.getD_eq_getElem?_getD, List.getElem?_map, List.getElem?_range hc]
  rfl
theorem lots_small {T : List (List Int)} {w : Nat} (h : WF T w) : Small (lotsOf T w) := by
  refine ⟨by simp [lotsOf]; exact h.2.2.2.1, fun l hl => ?_⟩
  obtain ⟨c, _, e⟩ := List.mem_map.mp hl
  subst e
  have : (rowsIn T c).length ≤ (List.range T.length).length := List.length_filter_le _ _
  rw [List.length_range] at this
  exact Nat.le_trans this h.2.1
theorem stand_congr {M M' : Nat → Nat → Bool} {R w : Nat} {p : List Nat} (hp : IsP w p) (h : ∀ i c, i < R → c < w → M i c = M' i c) : Stand M R w p ↔ Stand M' R w p := by
  have key : ∀ i k, i < R → k < w → M i (p.getD k 0) = M' i (p.getD k 0) := fun i k hi hk => h i _ hi (hp.2.2 _ (getD_mem (by rw [hp.1]; exact hk)))
  constructor
  · intro hs i hi a b c hab hbc hc
    have := hs i hi a b c hab hbc hc
    simpa only [key i a hi (by omega), key i b hi (by omega), key i c hi hc] using this
  · intro hs i hi a b c hab hbc hc
    have := hs i hi a b c hab hbc hc
    simpa only [key i a hi (by omega), key i b hi (by omega), key i c hi hc] using this
/-- what line_up answers -/
def LineUp (T : List (List Int)) (w : Nat) (r : D) : Prop := (∃ p, r = tN p ∧ IsP w p ∧ Stand (Mt T) T.length w p) ∨ (r = .non ∧ ¬ HasL (Mt T) T.length w)
theorem sp_line_up_by (n : Nat) (T : List (List Int)) (w : Nat) (h : WF T w) : ∃ r, callD dds (n + 6) 18 [tabD T] = some (r, []) ∧ LineUp T w r := by
  have hw9 : w ≤ SZ := by have := h.2.2.2.1; unfold SZ; omega
  have hlen : (lotsOf T w).length = w := by simp [lotsOf]
  have hR : ∀ c i, i ∈ (lotsOf T w).getD c [] → i < T.length := fun c i hi => by
    rcases Nat.lt_or_ge c w with z | z
    · rw [lots_getD z] at hi
      exact List.mem_range.mp (List.mem_filter.mp hi).1
    · rw [List.getD_eq_getElem?_getD, List.getElem?_eq_none (by rw [hlen]; exact z)] at hi
      cases hi
  have hM : ∀ i c, i < T.length → c < w → Mo (lotsOf T w) i c = Mt T i c := fun i c hi hc => by
    unfold Mo
    rw [lots_getD hc]
    unfold rowsIn
    simp [List.mem_filter, hi]
  obtain ⟨L, g1, g2⟩ := sp_layers_of n (lotsOf T w) T.length (lots_small h) hR
  have g3 := g2.2 w (by rw [hlen]; exact Nat.le_refl _)
  have hlast : subD (.lst (L.map dL)) (.int (-1)) = some (dL (L.getD w ([], []))) := sub_lst_last (getLast_map_getD (d := ([], [])) (by rw [g2.1, hlen]))
  refine call_wp1 (n := n + 5) (ds := dds) (f := 18) (args := [tabD T]) [.val (tabD T), .no, .no, .no] rfl rfl rfl rfl ?_
  refine wp_asg (d := .lst ((lotsOf T w).map tN)) (e2 := [.val _, .val _, .no, .no]) (v_eq (v_compT (List.range w) (fun (c : Nat) => D.int c) (fun c => tN (rowsIn T c)) (it_rngP (vs_cons (v_wide h rfl) vs_nil) (rng1 w hw9)) rfl rfl rfl (fun y hy => ⟨[.val _, .no, .no, .val _], rfl, (v_call (as_v (v_var rfl) (as_v (v_var rfl) as_nil)) rfl rfl (sp_rows_in (n + 4) T w y h (List.mem_range.mp hy)) (.inl rfl)), rfl⟩) (by rw [List.length_range]; exact hw9)) (by unfold lotsOf; rw [List.map_map]; rfl)) rfl ?_
  refine wp_asg (e2 := [.val _, .val _, .val _, .no]) (v_call (as_v (v_var rfl) as_nil) rfl rfl g1 (.inl rfl)) rfl ?_
  cases e : (L.getD w ([], [])).1 with
  | nil =>
    refine wp_ret (r_e (v_ite (p := false) (v_cmp (v_sub (v_var rfl) (v_neg v_cst) hlast) v_dct0 (by
      unfold dL dN
      rw [e]; rfl)) nofun (fun _ => v_cst)) nofun nofun) (end_ret (.inr ⟨rfl, ?_⟩))
    rintro ⟨p, hp, hs⟩
    have := good_iff.mpr ⟨hp, (stand_congr hp hM).mpr hs⟩
    have hr : Rch (lotsOf T w) T.length w (mask p) := ⟨p, this.2, by rw [hlen]; exact this.1, rfl⟩
    have := (g3.2 _).mpr hr
    rw [e] at this; cases this
  | cons x ks =>
    have hx : Rch (lotsOf T w) T.length (lotsOf T w).length x := by
      rw [hlen]
      exact (g3.2 x).mp (by rw [e]; simp)
    obtain ⟨p, k1, k2, k3⟩ := sp_row_back n (lotsOf T w) T.length L (lots_small h) (by rw [hlen]; exact h.2.2.1) hR g2 ⟨x, hx⟩
    refine wp_ret (r_e (v_ite (p := true) (v_cmp (v_sub (v_var rfl) (v_neg v_cst) hlast) v_dct0 (by
      unfold dL dN
      rw [e]; rfl)) (fun _ => (v_bi (as_v (v_rev (v_call (as_v (v_var rfl) (as_v (v_var rfl) as_nil)) rfl rfl k1 (.inl rfl)) v_cst rfl) as_nil) rfl (d := .tup _) rfl)) nofun) nofun nofun) (end_ret (.inl ⟨p, ?_, ?_⟩))
    · unfold tN
      rw [← List.map_reverse, List.reverse_reverse]
    · have := good_iff.mp ⟨k2, k3⟩
      rw [hlen] at this
      exact ⟨this.1, (stand_congr this.1 hM).mp this.2⟩
end K76
set_option Elab.async false
set_option linter.all false
set_option maxRecDepth 100000
namespace K76
open PySem Qx LU
/-! tables as they should be -/
theorem row_okd (r : List Int) : ∀ d ∈ r.map D.int, okd d = true := fun d hd => by
  obtain ⟨i, _, e⟩ := List.mem_map.mp hd
  subst e; rfl
theorem le_int (i j : Int) : cmpD .le (.int i) (.int j) = some (decide (i ≤ j)) := rfl
theorem WF.mem {T : List (List Int)} {w i : Nat} (h : WF T w) (hi : i < T.length) : T.getD i [] ∈ T := by
  rw [List.getD_eq_getElem?_getD, List.getElem?_eq_getElem hi]
  exact List.getElem_mem hi
theorem sp_is_table_row (n : Nat) (r : List Int) (w : Nat) (hl : r.length = w) (h1 : 1 ≤ w) (h9 : w ≤ 9) (hx : ∀ x ∈ r, x = 0 ∨ x = 1) : callD dds (n + 4) 13 [tI r] = some (.bl true, []) := by
  have hb : (r.map D.int).all (fun d => isBt d 0 1) = true := by
    rw [List.all_map, List.all_eq_true]
    intro x hx'
    rcases hx x hx' with e | e <;> subst e <;> rfl
  have hlen : ((r.map D.int).length : Int) = w := by rw [List.length_map, hl]
  have h3 := sp_are_between n (r.map D.int) w 0 1 (row_okd r) (by rw [List.length_map, hl]; unfold SZ; omega)
  rw [hb, hlen, decide_eq_true rfl] at h3
  have e1 : biD .len [tI r] = some (.int (w : Nat)) := by rw [← hlen]; rfl
  have := @callL dds (n + 3) 13 [tI r] [] dis_table_row (.bl (true && (decide ((1 : Int) ≤ w) && decide ((w : Int) ≤ 9) && true))) [.val (tI r)] [.val (tI r)] rfl rfl rfl (
    (ss_ret (s_ret (r_e (v_an (v_isi (op_v (v_var rfl)) rfl rfl) fun _ => (v_an (v_chn v_cst (v_bi (as_v (v_var rfl) as_nil) rfl (d := _) e1) (le_int _ _) (fun _ => v_cst) (fun _ => le_int _ _)) fun _ => (v_call (as_v (v_var rfl) (as_v (v_bi (as_v (v_var rfl) as_nil) rfl (d := _) e1) (as_v v_cst (as_v v_cst as_nil)))) rfl rfl h3 (.inl rfl)))) nofun nofun)))) rfl
  rw [this, decide_eq_true (by omega : (1 : Int) ≤ w), decide_eq_true (by omega : (w : Int) ≤ 9)]
  rfl
theorem sp_wrong_in_table (n : Nat) (T : List (List Int)) (w : Nat) (h : WF T w) : callD dds (n + 5) 14 [tabD T] = some (.lst [], []) := by
  have e0 : biD .len [tabD T] = some (.int (T.length : Nat)) := by
    show some (D.int ((T.map tI).length : Int)) = _
    rw [List.length_map]
  have hc : (true && (decide ((1 : Int) ≤ T.length) && decide ((T.length : Int) ≤ 9))) = true := by
    rw [decide_eq_true (by have := h.1; omega), decide_eq_true (by have := h.2.1; omega)]; rfl
  obtain ⟨r, h1, h2⟩ := call_wp1 (n := n + 4) (ds := dds) (f := 14) (args := [tabD T]) (Q := fun r => r = .lst []) [.val (tabD T), .no, .no] rfl rfl rfl rfl (by
    refine wp_ite (v_or (v_nt (p := true) (v_isi (op_v (v_var rfl)) rfl rfl)) fun _ => v_nt (v_chn v_cst (v_bi (as_v (v_var rfl) as_nil) rfl (d := _) e0) (le_int _ _) (fun _ => v_cst) (fun _ => le_int _ _))) (fun hp => ?_) fun _ => wp_nil ?_
    · rw [decide_eq_true (by have := h.1; omega), decide_eq_true (by have := h.2.1; omega)] at hp
      cases hp
    refine wp_for (F := fun (i : Nat) => D.tup [.int i, (T.map tI).getD i .non]) (List.range T.length) (fun _ e => ∃ s t, e = [.val (tabD T), s, t] ∧ isO [s] 0 = false ∧ isO [t] 0 = false) (it_enu (v_var rfl) rfl) (by rw [enu_eq, List.length_map]) ⟨_, _, rfl, rfl, rfl⟩ (fun _ _ _ => rfl) ?_ ?_
    · rintro zs i ws e hz ⟨s, t, he, hs, ht⟩
      subst he
      have hi : i < T.length := by
        have : i ∈ List.range T.length := by rw [hz]; simp
        exact List.mem_range.mp this
      rw [tab_getD hi]
      refine ⟨[.val (tabD T), .val (.int i), .val (tI (T.getD i []))], ?_, ?_⟩
      · exact put2 (i := 1) (j := 2) hs (by show 1 < 3; decide) ht (by show 2 < 3; decide)
      have hr := h.2.2.2.2 _ (h.mem hi)
      refine wp_iteF (v_or (p := false) (q := false) (v_nt (p := true) (v_call (as_v (v_var rfl) as_nil) rfl rfl (sp_is_table_row n _ w hr.1 h.2.2.1 h.2.2.2.1 hr.2) (.inl rfl))) fun _ => (v_cmp (v_bi (as_v (v_var rfl) as_nil) rfl (d := .int w) ?_) (v_wide h rfl) ?_)) (wp_nil (wp_nil ⟨_, _, rfl, rfl, rfl⟩))
      · show some (D.int (((T.getD i []).map D.int).length : Int)) = _
        rw [List.length_map, hr.1]
      · rw [ne_int]; simp
    · rintro e ⟨s, t, he, hs, ht⟩
      subst he
      exact wp_ret (r_e (v_lst vs_nil (by decide)) nofun nofun) (end_ret rfl))
  subst h2
  exact h1
end K76
set_option Elab.async false
set_option linter.all false
set_option maxRecDepth 100000
namespace K76
open PySem Qx LU
theorem sp_check_table (n : Nat) (T : List (List Int)) (w : Nat) (h : WF T w) : callD dds (n + 6) 19 [tabD T] = some (.non, []) :=
  callLn [.val (tabD T), .no] rfl rfl rfl (ss_cons (s_for (it_seq (v_call (as_v (v_var rfl) as_nil) rfl rfl (sp_wrong_in_table n T w h) (.inl rfl)) rfl) rfl) ss_nil) rfl
theorem sp_line_up (n : Nat) (T : List (List Int)) (w : Nat) (h : WF T w) : ∃ r, callD dds (n + 7) 20 [tabD T] = some (r, []) ∧ LineUp T w r := by
  obtain ⟨r, h1, h2⟩ := sp_line_up_by n T w h
  exact ⟨r, callL [.val (tabD T)] rfl rfl rfl (
    ss_cons (s_exp (v_call (as_v (v_var rfl) as_nil) rfl rfl (sp_check_table n T w h) (.inl rfl))) <|
    (ss_ret (s_ret (r_e (v_call (as_v (v_var rfl) as_nil) rfl rfl h1 (.inl rfl)) nofun nofun)))) rfl, h2⟩
/-- where the ones of a row stand -/
def plc (r : List Int) (p : List Nat) : List Int := places (fun k => decide (r.getD (p.getD k 0) 0 = 1)) p.length
theorem plc_len (r : List Int) (p : List Nat) : (plc r p).length ≤ p.length := by
  unfold plc places
  rw [List.length_map]
  refine Nat.le_trans (List.length_filter_le _ _) ?_
  rw [List.length_range]
  exact Nat.le_refl _
theorem plc_conv (r : List Int) (p : List Nat) : contig (plc r p) = true ↔ Conv (fun k => decide (r.getD (p.getD k 0) 0 = 1)) p.length := contig_places _ _
theorem tN_get {p : List Nat} {k : Nat} (h : k < p.length) : subD (tN p) (.int (k : Nat)) = some (.int (p.getD k 0 : Nat)) := sub_tupN (get_mapN h)
/-- [k for k in range(len(order)) if row[order[k]] == 1], in the two ways of the code -/
theorem cond_row {Φ : Orc} {R : Rfs} {env : En} {i j : Nat} {r : List Int} {c : Nat} (hi : getV env i = some (tI r)) (hj : getV env j = some (.int (c : Nat))) (hc : c < r.length) : evE Φ R (.cmp .eq (.sub (.var i) (.var j)) (.cst (.int 1))) env = some (.bl (decide (r.getD c 0 = 1)), env) :=
  v_cmp (v_sub (v_var hi) (v_var hj) (row_sub hc)) v_cst (eqQ_int _ _)
theorem eq_nil (l : List Int) : cmpD .eq (.lst (l.map .int)) (.lst []) = some (decide (l = [])) := by
  have := eqQ_lst l []
  exact this
theorem ne_nil (l : List Int) : cmpD .ne (.lst (l.map .int)) (.lst []) = some (!decide (l = [])) := by
  have : cmpD .ne (.lst (l.map .int)) (.lst []) = (eqQ (.lst (l.map .int)) (.lst (([] : List Int).map .int))).map (! ·) := rfl
  rw [this, eqQ_lst]; rfl
theorem last_int {l : List Int} (h : l ≠ []) : (l.map D.int).getLast? = some (.int (l.getLast h)) := by
  rw [List.getLast?_map, List.getLast?_eq_some_getLast h]
  rfl
theorem sp_are_together (n : Nat) (r : List Int) (p : List Nat) (hp : ∀ c ∈ p, c < r.length) (h9 : p.length ≤ 9) : callD dds (n + 1) 15 [tI r, tN p] = some (.bl (contig (plc r p)), []) := by
  refine callL [.val (tI r), .val (tN p), .no, .no, .no] rfl rfl rfl (
    ss_cons (s_asg (d := .lst ((plc r p).map .int)) (e2 := [.val _, .val _, .val _, .no, .no]) (v_eq (v_comp (List.range p.length) (fun (i : Nat) => D.tup [.int i, (p.map fun (c : Nat) => D.int c).getD i .non]) (fun k => decide (r.getD (p.getD k 0) 0 = 1)) (fun (k : Nat) => .int k) (it_enu (v_var rfl) rfl) (by rw [enu_eq, List.length_map]) rfl rfl (fun k hk => ?_) ?_) ?_) rfl) <|
    (ss_ret (s_ret (r_e (e1 := [.val (tI r), .val (tN p), .val (.lst ((plc r p).map .int)), .no, .no]) ?_ nofun nofun)))) rfl
  · have hk : k < p.length := List.mem_range.mp hk
    have : (p.map fun (c : Nat) => D.int c).getD k .non = .int (p.getD k 0 : Nat) := by
      rw [List.getD_eq_getElem?_getD, get_mapN hk]; rfl
    rw [this]
    exact ⟨[.val _, .val _, .no, .val _, .val _], rfl, cond_row rfl rfl (hp _ (getD_mem hk)), fun _ => v_var rfl, rfl⟩
  · rw [List.length_range]; unfold SZ; omega
  · unfold plc places
    rw [List.map_map]; rfl
  · generalize plc r p = l
    cases l with
    | nil => exact v_or (p := true) (q := false) (v_cmp (v_var rfl) (v_lst vs_nil (by decide)) rfl) nofun
    | cons a l =>
      refine v_or (p := false) (q := contig (a :: l)) (v_cmp (v_var rfl) (v_lst vs_nil (by decide)) (eq_nil _)) fun _ => ?_
      refine v_cmp (v_bin (v_sub (v_var rfl) (v_neg v_cst) (sub_lst_last (last_int (by simp)))) (v_sub (v_var rfl) v_cst (sub_lstN (k := 0) rfl)) rfl) (v_bin (v_bi (as_v (v_var rfl) as_nil) rfl (d := _) (len_lst _)) v_cst rfl) ((eqQ_int _ _).trans ?_)
      unfold contig
      rw [Option.some.injEq, decide_eq_decide, List.length_map, List.length_cons]
      omega
/-- the columns of a table in the order p -/
theorem stand_iff {T : List (List Int)} {w : Nat} {p : List Nat} (hp : IsP w p) : Stand (Mt T) T.length w p ↔ ∀ i, i < T.length → contig (plc (T.getD i []) p) = true := by
  constructor
  · intro h i hi
    rw [plc_conv, hp.1]
    exact h i hi
  · intro h i hi
    have := (plc_conv _ _).mp (h i hi)
    rw [hp.1] at this
    exact this
/-- is this a line-up? -/
def LU (T : List (List Int)) (w : Nat) (v : D) : Prop := ∃ p, v = tN p ∧ IsP w p ∧ Stand (Mt T) T.length w p
theorem mapN_inj : ∀ {p q : List Nat}, p.map (fun (c : Nat) => D.int c) = q.map (fun (c : Nat) => D.int c) → p = q
  | [], [], _ => rfl
  | [], b :: q, h => by cases h
  | a :: p, [], h => by cases h
  | a :: p, b :: q, h => by
    simp only [List.map_cons, List.cons.injEq, D.int.injEq] at h
    have e : a = b := by omega
    rw [e, mapN_inj h.2]
theorem tN_inj {p q : List Nat} (h : tN p = tN q) : p = q := by
  unfold tN at h
  injection h with h
  exact mapN_inj h
theorem all_rows {T : List (List Int)} {f : List Int → Bool} : T.all f = true ↔ ∀ i, i < T.length → f (T.getD i []) = true := by
  rw [List.all_eq_true]
  constructor
  · intro h i hi
    refine h _ ?_
    rw [List.getD_eq_getElem?_getD, List.getElem?_eq_getElem hi]
    exact List.getElem_mem hi
  · intro h r hr
    obtain ⟨i, hi, e⟩ := List.getElem_of_mem hr
    have := h i hi
    rw [List.getD_eq_getElem?_getD, List.getElem?_eq_getElem hi] at this
    rw [← e]; exact this
theorem sp_is_line_up_by (n : Nat) (T : List (List Int)) (w : Nat) (v : D) (h : WF T w) (hv : okv v = true) : ∃ b, callD dds (n + 4) 16 [tabD T, v] = some (.bl b, []) ∧ (b = true ↔ LU T w v) := by
  obtain ⟨b0, g1, g2⟩ := sp_are_unlike_persons n w v hv
  obtain ⟨r, h1, b, h2, h3⟩ := call_wp1 (n := n + 3) (ds := dds) (f := 16) (args := [tabD T, v]) (Q := fun r => ∃ b, r = .bl b ∧ (b = true ↔ LU T w v)) [.val (tabD T), .val v, .no] rfl rfl rfl rfl (by
    have hno : ∀ b1 : Bool, b1 = false → (b1 = true → LU T w v) → (¬ LU T w v) → (b1 = true ↔ LU T w v) := fun b1 e _ z => ⟨fun y => (by rw [e] at y; cases y), fun y => (z y).elim⟩
    have hc : evE (callD dds (n + 3)) (rfsOf dds) (.call 5 [(.bi .len [(.sub (.var 0) (.cst (.int 0)))]), (.var 1)] []) [.val (tabD T), .val v, .no] = some (.bl b0, [.val (tabD T), .val v, .no]) := v_call (as_v (v_wide (i := 0) h rfl) (as_v (v_var rfl) as_nil)) rfl rfl g1 (.inl rfl)
    cases b0 with
    | false =>
      refine wp_iteT (v_or (p := true) (q := false) (v_nt (p := false) hc) nofun) (wp_ret (r_e v_cst nofun nofun) ⟨[], rfl, false, rfl, nofun, ?_⟩)
      rintro ⟨p, e, hp, _⟩
      have : false = true := g2.mpr ⟨p.map fun (c : Nat) => (c : Int), by rw [e]; unfold tN; rw [List.map_map]; rfl, ?_, ?_⟩
      · cases this
      · rw [List.Nodup, List.pairwise_map]
        exact hp.2.1.imp fun z e => z (by omega)
      · intro i hi
        obtain ⟨c, hc, e⟩ := List.mem_map.mp hi
        have := hp.2.2 c hc
        omega
    | true =>
      obtain ⟨is, e, hn, hr⟩ := g2.mp rfl
      obtain ⟨p, ep⟩ : ∃ p : List Nat, is = p.map fun (c : Nat) => (c : Int) := by
        refine ⟨is.map Int.toNat, ?_⟩
        rw [List.map_map]
        conv => lhs; rw [← List.map_id is]
        apply List.map_congr_left
        intro i hi
        have := hr i hi
        simp only [id, Function.comp]
        omega
      have ev : v = tN p := by rw [e, ep]; unfold tN; rw [List.map_map]; rfl
      have pn : p.Nodup := by
        rw [ep, List.Nodup, List.pairwise_map] at hn
        exact hn.imp fun z e => z (by rw [e])
      have pr : ∀ c ∈ p, c < w := fun c hc => by
        have := hr c (by rw [ep]; exact List.mem_map_of_mem hc)
        omega
      subst ev
      have plen : p.length ≤ 9 := Nat.le_trans (nodup_lt w p pn pr) h.2.2.2.1
      have e1 : biD .len [tN p] = some (.int (p.length : Nat)) := by
        show some (D.int ((p.map fun (c : Nat) => D.int c).length : Int)) = _
        rw [List.length_map]
      have h2 : cmpD .ne (.int (p.length : Nat)) (.int (w : Nat)) = some (!decide (p.length = w)) := by
        rw [ne_int]
        congr 2
        rw [decide_eq_decide]
        omega
      refine wp_ite (v_or (p := false) (q := !decide (p.length = w)) (v_nt (p := true) hc) fun _ => v_cmp (v_bi (as_v (v_var rfl) as_nil) rfl (d := _) e1) (v_wide h rfl) h2) (fun hq => wp_ret (r_e v_cst nofun nofun) ⟨[], rfl, false, rfl, nofun, ?_⟩) fun hq => wp_nil ?_
      · rintro ⟨q, e, hq', _⟩
        have := tN_inj e
        subst this
        rw [hq'.1] at hq
        simp at hq
      · have hw : p.length = w := by simpa using hq
        have hp : IsP w p := ⟨hw, pn, pr⟩
        refine wp_ret (r_e (v_bi (as_v (v_compT T tI (fun r => .bl (contig (plc r p))) (it_seq (v_var rfl) rfl) rfl rfl rfl (fun r hr => ⟨[.val _, .val _, .val _], rfl, (v_call (as_v (v_var rfl) (as_v (v_var rfl) as_nil)) rfl rfl (sp_are_together (n + 2) r p (fun c hc => by rw [(h.2.2.2.2 r hr).1]; exact pr c hc) plen) (.inl rfl)), rfl⟩) (by have := h.2.1; unfold SZ; omega)) as_nil) rfl (d := _) (all_map _ _)) nofun nofun) (end_ret ⟨_, rfl, ?_⟩)
        rw [all_rows, ← stand_iff hp]
        constructor
        · exact fun z => ⟨p, rfl, hp, z⟩
        · rintro ⟨q, e, hq', z⟩
          have := tN_inj e
          subst this
          exact z)
  subst h2
  exact ⟨b, h1, h3⟩
theorem sp_is_line_up (n : Nat) (T : List (List Int)) (w : Nat) (v : D) (h : WF T w) (hv : okv v = true) : ∃ b, callD dds (n + 7) 21 [tabD T, v] = some (.bl b, []) ∧ (b = true ↔ LU T w v) := by
  obtain ⟨b, h1, h2⟩ := sp_is_line_up_by (n + 2) T w v h hv
  exact ⟨b, callL [.val (tabD T), .val v] rfl rfl rfl (
    ss_cons (s_exp (v_call (as_v (v_var rfl) as_nil) rfl rfl (sp_check_table n T w h) (.inl rfl))) <|
    (ss_ret (s_ret (r_e (v_call (as_v (v_var rfl) (as_v (v_var rfl) as_nil)) rfl rfl h1 (.inl rfl)) nofun nofun)))) rfl, h2⟩
end K76
set_option Elab.async false
set_option linter.all false
set_option maxRecDepth 100000
namespace K76
open PySem Qx LU
/-- l[len(l) - 1] -/
theorem sub_last1 {l : List Int} (h : l ≠ []) : subD (.lst (l.map .int)) (.int (((l.map D.int).length : Int) - 1)) = some (.int (l.getLast h)) := by
  have hl : 0 < l.length := List.length_pos_iff.mpr h
  have : (((l.map D.int).length : Int) - 1) = ((l.length - 1 : Nat) : Int) := by rw [List.length_map]; omega
  rw [this]
  refine sub_lstN ?_
  rw [List.getElem?_map, List.getElem?_eq_getElem (by omega), List.getLast_eq_getElem]
  rfl
theorem isP_getD {w : Nat} {p : List Nat} (hp : IsP w p) {k : Nat} (hk : k < p.length) : p.getD k 0 < w := hp.2.2 _ (getD_mem hk)
theorem sp__law_stand (n : Nat) (T : List (List Int)) (w : Nat) (p : List Nat) (h : WF T w) (hp : IsP w p) : ∃ b, callD dds (n + 1) 28 [tabD T, tN p] = some (.bl b, []) ∧ (b = true ↔ Stand (Mt T) T.length w p) := by
  have hw : p.length ≤ SZ := by rw [hp.1]; have := h.2.2.2.1; unfold SZ; omega
  have e1 : biD .len [tN p] = some (.int (p.length : Nat)) := by
    show some (D.int ((p.map fun (c : Nat) => D.int c).length : Int)) = _
    rw [List.length_map]
  obtain ⟨r, h1, b, h2, h3⟩ := call_wp1 (n := n) (ds := dds) (f := 28) (args := [tabD T, tN p]) (Q := fun r => ∃ b, r = .bl b ∧ (b = true ↔ Stand (Mt T) T.length w p)) [.val (tabD T), .val (tN p), .no, .no, .no] rfl rfl rfl rfl (by
    refine wp_for (F := tI) T (fun zs e => ∃ s t, e = [.val (tabD T), .val (tN p), s, t, .no] ∧ isO [s] 0 = false ∧ isO [t] 0 = false ∧ ∀ i, i < zs.length → contig (plc (T.getD i []) p) = true) (it_seq (v_var rfl) rfl) rfl ⟨_, _, rfl, rfl, rfl, by simp⟩ (fun _ _ _ => rfl) ?_ ?_
    · rintro zs r ws e hz ⟨s, t, he, hs, ht, hi⟩
      subst he
      have hr : r ∈ T := by rw [hz]; simp
      have er : T.getD zs.length [] = r := by rw [hz, List.getD_eq_getElem?_getD]; simp
      have hzl : zs.length < T.length := by rw [hz]; simp
      refine ⟨[.val (tabD T), .val (tN p), .val (tI r), t, .no], putN (i := 2) hs (by show 2 < 5; decide), ?_⟩
      refine wp_asg (d := .lst ((plc r p).map .int)) (e2 := [.val (tabD T), .val (tN p), .val (tI r), .val (.lst ((plc r p).map .int)), .no]) (v_eq (v_comp (List.range p.length) (fun (k : Nat) => D.int k) (fun k => decide (r.getD (p.getD k 0) 0 = 1)) (fun (k : Nat) => .int k) (it_rngP (vs_cons (v_bi (as_v (v_var rfl) as_nil) rfl (d := _) e1) vs_nil) (rng1 _ hw)) rfl rfl rfl (fun k hk => ⟨[.val (tabD T), .val (tN p), .val (tI r), t, .val (.int k)], rfl, ?_, fun _ => v_var rfl, rfl⟩) (by rw [List.length_range]; exact hw)) ?_) (putN (i := 3) ht (by show 3 < 5; decide)) ?_
      · have hk := List.mem_range.mp hk
        exact v_cmp (v_sub (v_var rfl) (v_sub (v_var rfl) (v_var rfl) (tN_get hk)) (row_sub (by rw [(h.2.2.2.2 r hr).1]; exact isP_getD hp hk))) v_cst (eqQ_int _ _)
      · unfold plc places
        rw [List.map_map]; rfl
      have step : ∀ zs', zs' = zs ++ [r] → contig (plc r p) = true → ∀ i, i < zs'.length → contig (plc (T.getD i []) p) = true := fun zs' e hc i hi' => by
        subst e
        rcases Nat.lt_or_ge i zs.length with z | z
        · exact hi i z
        · have : i = zs.length := by simp at hi'; omega
          rw [this, er]; exact hc
      have bad : contig (plc r p) = false → ¬ Stand (Mt T) T.length w p := fun hc z => by
        have := (stand_iff hp).mp z zs.length hzl
        rw [er, hc] at this; cases this
      generalize hl : plc r p = l at step bad
      cases l with
      | nil =>
        refine wp_iteF (v_an (p := false) (q := false) (v_cmp (v_var rfl) (v_lst vs_nil (by decide)) rfl) nofun) (wp_nil (wp_nil ⟨_, _, rfl, rfl, rfl, step _ rfl rfl⟩))
      | cons a l =>
        have hq : (!decide ((a :: l) = [])) = true := rfl
        refine wp_ite (v_an (p := true) (q := !contig (a :: l)) (v_cmp (v_var rfl) (v_lst vs_nil (by decide)) (ne_nil _)) fun _ => v_cmp (v_bin (v_bin (v_sub (v_var rfl) (v_bin (v_bi (as_v (v_var rfl) as_nil) rfl (d := _) (len_lst _)) v_cst rfl) (sub_last1 (by simp))) (v_sub (v_var rfl) v_cst (sub_lstN (k := 0) rfl)) rfl) v_cst rfl) (v_bi (as_v (v_var rfl) as_nil) rfl (d := _) (len_lst _)) ((ne_int _ _).trans ?_)) (fun hc => wp_ret (r_e v_cst nofun nofun) ⟨[], rfl, false, rfl, nofun, ?_⟩) (fun hc => wp_nil (wp_nil ⟨_, _, rfl, rfl, rfl, step _ rfl ?_⟩))
        · unfold contig
          rw [Option.some.injEq, List.length_map, List.length_cons]
          congr 1
          rw [decide_eq_decide]
          omega
        · intro z
          exact (bad (by simpa using hc) z).elim
        · simpa using hc
    · rintro e ⟨s, t, he, hs, ht, hi⟩
      subst he
      exact wp_ret (r_e v_cst nofun nofun) ⟨[], rfl, true, rfl, fun _ => (stand_iff hp).mpr hi, fun _ => rfl⟩)
  subst h2
  exact ⟨b, h1, h3⟩
end K76
set_option Elab.async false
set_option linter.all false
set_option maxRecDepth 100000
namespace K76
open PySem Qx LU
theorem sortI_perm (l : List Int) : (sortI l).Perm l := List.mergeSort_perm _ _
theorem sortI_sorted (l : List Int) : (sortI l).Pairwise (· ≤ ·) := by
  have := List.pairwise_mergeSort (le := fun (a b : Int) => decide (a ≤ b)) (fun a b c h1 h2 => by simp at *; omega) (fun a b => by simp; omega) l
  exact this.imp fun h => by simpa using h
theorem sort_iff {is : List Int} {w : Nat} : sortI is = (List.range w).map (fun (c : Nat) => (c : Int)) ↔ ∃ p : List Nat, is = p.map (fun (c : Nat) => (c : Int)) ∧ IsP w p := by
  constructor
  · intro h
    have hp := sortI_perm is
    rw [h] at hp
    have hr : ∀ i ∈ is, 0 ≤ i ∧ i < w := fun i hi => by
      have := hp.mem_iff.mpr hi
      simp only [List.mem_map, List.mem_range] at this
      obtain ⟨c, hc, e⟩ := this
      omega
    have e : is = (is.map Int.toNat).map (fun (c : Nat) => (c : Int)) := by
      rw [List.map_map]
      conv => lhs; rw [← List.map_id is]
      apply List.map_congr_left
      intro i hi
      have := hr i hi
      simp only [id, Function.comp]
      omega
    refine ⟨is.map Int.toNat, e, ?_, ?_, ?_⟩
    · rw [List.length_map, ← hp.length_eq]; simp
    · have hn : is.Nodup := hp.nodup_iff.mp (by
        rw [List.Nodup, List.pairwise_map]
        exact List.nodup_range.imp fun z e => z (by omega))
      rw [e, List.Nodup, List.pairwise_map] at hn
      exact hn.imp fun z e => z (by rw [e])
    · intro a ha
      obtain ⟨i, hi, e⟩ := List.mem_map.mp ha
      have := hr i hi
      omega
  · rintro ⟨p, e, hp⟩
    have hpr : p.Perm (List.range w) := by
      apply (List.perm_iff_count).mpr
      intro a
      rw [hp.2.1.count, List.nodup_range.count]
      by_cases c : a < w
      · rw [if_pos (hp.mem a c), if_pos (List.mem_range.mpr c)]
      · rw [if_neg (fun z => c (hp.2.2 a z)), if_neg (fun z => c (List.mem_range.mp z))]
    refine List.Perm.eq_of_pairwise (le := (· ≤ ·)) (fun a b _ _ h1 h2 => by omega) (sortI_sorted is) ?_ ((sortI_perm is).trans ?_)
    · rw [List.pairwise_map]
      exact List.pairwise_lt_range.imp fun h => by omega
    · rw [e]; exact hpr.map _
theorem ne_lst (l m : List Int) : cmpD .ne (.lst (l.map .int)) (.lst (m.map .int)) = some (!decide (l = m)) := by
  have : cmpD .ne (.lst (l.map .int)) (.lst (m.map .int)) = (eqQ (.lst (l.map .int)) (.lst (m.map .int))).map (! ·) := rfl
  rw [this, eqQ_lst]; rfl
theorem all_wh : ∀ {ds : List D}, ds.all isWh = true → ∃ is : List Int, ds = is.map .int
  | [], _ => ⟨[], rfl⟩
  | d :: ds, h => by
    rw [List.all_cons, Bool.and_eq_true] at h
    obtain ⟨is, e⟩ := all_wh h.2
    cases d with
    | int i => exact ⟨i :: is, by rw [e]; rfl⟩
    | _ => cases h.1
theorem mapI_inj : ∀ {p q : List Int}, p.map D.int = q.map D.int → p = q
  | [], [], _ => rfl
  | [], b :: q, h => by cases h
  | a :: p, [], h => by cases h
  | a :: p, b :: q, h => by
    simp only [List.map_cons, List.cons.injEq, D.int.injEq] at h
    rw [h.1, mapI_inj h.2]
theorem tN_map (p : List Nat) : tN p = .tup ((p.map fun (c : Nat) => (c : Int)).map .int) := by
  unfold tN
  rw [List.map_map]
  rfl
theorem sp__law_is_line_up (n : Nat) (T : List (List Int)) (w : Nat) (v : D) (h : WF T w) (hv : okv v = true) : ∃ b, callD dds (n + 2) 29 [tabD T, v] = some (.bl b, []) ∧ (b = true ↔ LU T w v) := by
  have hw9 : w ≤ SZ := by have := h.2.2.2.1; unfold SZ; omega
  have hlr : biD .lrange [.int (w : Nat)] = some (.lst (((List.range w).map fun (c : Nat) => (c : Int)).map .int)) := by
    rw [lrange_nat w hw9, List.map_map]; rfl
  obtain ⟨r, h1, b, h2, h3⟩ := call_wp1 (n := n + 1) (ds := dds) (f := 29) (args := [tabD T, v]) (Q := fun r => ∃ b, r = .bl b ∧ (b = true ↔ LU T w v)) [.val (tabD T), .val v, .no, .no] rfl rfl rfl rfl (by
    refine wp_asg (e2 := [.val (tabD T), .val v, .val (.int w), .no]) (v_wide h rfl) rfl ?_
    by_cases ht : isTupP v = true
    · cases v with
      | tup ds =>
        simp only [okv, Bool.and_eq_true, decide_eq_true_eq, List.all_eq_true] at hv
        have hsz : ds.length ≤ SZ := by have := hv.2; unfold SZ; omega
        have c1 : ∀ q, (ds.length = w → evE (callD dds (n + 1)) (rfsOf dds) (.or (.nt (.bi .all [(.comp (.call 25 [(.var 3)] []) [3] (.nm 3) (.seq (.var 1)) (.cst (.bl true)))])) (.cmp .ne (.bi .sorted [(.var 1)]) (.bi .lrange [(.var 2)]))) [.val (tabD T), .val (.tup ds), .val (.int w), .no] = some (.bl q, [.val (tabD T), .val (.tup ds), .val (.int w), .no])) →
            evE (callD dds (n + 1)) (rfsOf dds) (.or (.nt (.isi (.var 1) [.tuple])) (.or (.cmp .ne (.bi .len [(.var 1)]) (.var 2)) (.or (.nt (.bi .all [(.comp (.call 25 [(.var 3)] []) [3] (.nm 3) (.seq (.var 1)) (.cst (.bl true)))])) (.cmp .ne (.bi .sorted [(.var 1)]) (.bi .lrange [(.var 2)]))))) [.val (tabD T), .val (.tup ds), .val (.int w), .no] = some (.bl (false || (!decide (ds.length = w) || q)), [.val (tabD T), .val (.tup ds), .val (.int w), .no]) := fun q hq =>
          v_or (v_nt (p := true) (v_isi (op_v (v_var rfl)) rfl rfl)) fun _ => v_or (v_cmp (v_bi (as_v (v_var rfl) as_nil) rfl (d := _) (len_tup _)) (v_var rfl) (by
            rw [ne_int]
            congr 2
            rw [decide_eq_decide]; omega)) fun z => hq (by simpa using z)
        have ca : evE (callD dds (n + 1)) (rfsOf dds) (.nt (.bi .all [(.comp (.call 25 [(.var 3)] []) [3] (.nm 3) (.seq (.var 1)) (.cst (.bl true)))])) [.val (tabD T), .val (.tup ds), .val (.int w), .no] = some (.bl (!ds.all isWh), [.val (tabD T), .val (.tup ds), .val (.int w), .no]) :=
          v_nt (v_bi (as_v (v_compT ds id (fun d => .bl (isWh d)) (it_seq (v_var rfl) rfl) (by simp) rfl rfl (fun y hy => ⟨[.val (tabD T), .val (.tup ds), .val (.int w), .val y], rfl, (v_call (as_v (v_var rfl) as_nil) rfl rfl (sp__law_whole n y (hv.1 y hy)) (.inl rfl)), rfl⟩) hsz) as_nil) rfl (d := _) (all_map _ _))
        cases ha : ds.all isWh with
        | false =>
          rw [ha] at ca
          refine wp_iteT (e1 := [.val (tabD T), .val (.tup ds), .val (.int w), .no]) ((c1 true fun _ => v_or (p := true) (q := false) ca nofun).trans (by rw [Bool.or_true, Bool.or_true])) (wp_ret (r_e v_cst nofun nofun) ⟨[], rfl, false, rfl, nofun, ?_⟩)
          rintro ⟨p, e, _⟩
          rw [tN_map] at e
          injection e with e
          rw [e] at ha
          simp [isWh] at ha
        | true =>
          rw [ha] at ca
          obtain ⟨is, e⟩ := all_wh ha
          subst e
          have cs := c1 (!decide (sortI is = (List.range w).map (fun (c : Nat) => (c : Int)))) fun _ => v_or (p := false) ca fun _ => v_cmp (v_bi (as_v (v_var rfl) as_nil) rfl (d := .lst ((sortI is).map .int)) (by
            simp only [biD, d1, sortB, seqD, ints_int])) (v_bi (as_v (v_var rfl) as_nil) rfl (d := _) hlr) (ne_lst _ _)
          refine wp_ite cs (fun hc => wp_ret (r_e v_cst nofun nofun) ⟨[], rfl, false, rfl, nofun, ?_⟩) (fun hc => wp_nil ?_)
          · rintro ⟨p, e, hp, _⟩
            rw [tN_map] at e
            injection e with e
            have e := mapI_inj e
            have h5 := sort_iff.mpr ⟨p, e, hp⟩
            rw [h5, e] at hc
            simp [hp.1] at hc
          · have h5 : sortI is = (List.range w).map (fun (c : Nat) => (c : Int)) := by
              simp only [Bool.false_or, Bool.or_eq_false_iff, Bool.not_eq_false', decide_eq_true_eq] at hc
              exact hc.2
            obtain ⟨p, e, hp⟩ := sort_iff.mp h5
            have ev : D.tup (is.map .int) = tN p := by rw [e, tN_map]
            rw [ev]
            obtain ⟨b, k1, k2⟩ := sp__law_stand n T w p h hp
            refine wp_ret (r_e (v_call (as_v (v_var rfl) (as_v (v_var rfl) as_nil)) rfl rfl k1 (.inl rfl)) nofun nofun) ⟨[], rfl, b, rfl, ?_⟩
            rw [k2]
            constructor
            · exact fun z => ⟨p, rfl, hp, z⟩
            · rintro ⟨q, e, _, z⟩
              rw [tN_inj e]; exact z
      | _ => cases ht
    · have ht : isTupP v = false := by cases q : isTupP v <;> simp_all
      refine wp_iteT (v_or (p := true) (q := false) (v_nt (p := false) (v_isi (op_v (v_var rfl)) rfl ((isa_tup (okv_okd hv)).trans (by rw [ht])))) nofun) (wp_ret (r_e v_cst nofun nofun) ⟨[], rfl, false, rfl, nofun, ?_⟩)
      rintro ⟨p, e, _⟩
      subst e
      cases ht)
  subst h2
  exact ⟨b, h1, h3⟩
/-! all orders -/
def OrdOk (w k : Nat) (O : List (List Nat)) : Prop := O.length ≤ w ^ k ∧ ∀ p, p ∈ O ↔ p.length = k ∧ p.Nodup ∧ ∀ a ∈ p, a < w
theorem nin_tupN (i : Nat) (l : List Nat) : cmpD .nin (.int i) (tN l) = some (!decide (i ∈ l)) := by
  have : cmpD .nin (.int i) (tN l) = (inD (.int i) (.tup (l.map fun (c : Nat) => D.int c))).map (! ·) := rfl
  rw [this, in_tupN]; rfl
theorem add_lst {A B : List D} (h : A.length + B.length ≤ SZ) : binD .add (.lst A) (.lst B) = some (.lst (A ++ B)) := by
  show (if A.length + B.length ≤ SZ then _ else _) = _
  rw [if_pos h]
theorem add_tup {A B : List D} (h : A.length + B.length ≤ SZ) : binD .add (.tup A) (.tup B) = some (.tup (A ++ B)) := by
  show (if A.length + B.length ≤ SZ then _ else _) = _
  rw [if_pos h]
theorem pow6 {w k : Nat} (hw : w ≤ 6) (hk : k ≤ 6) : w ^ k ≤ 46656 := by
  have h1 : w ^ k ≤ 6 ^ k := Nat.pow_le_pow_left hw k
  have h2 : 6 ^ k ≤ 6 ^ 6 := Nat.pow_le_pow_right (by decide) hk
  exact Nat.le_trans h1 h2
theorem sp__law_orders (n : Nat) (w : Nat) (h : w ≤ 6) : ∃ O, callD dds (n + 1) 27 [.int (w : Nat)] = some (.lst (O.map tN), []) ∧ OrdOk w w O := by
  have hsz : w ≤ SZ := by unfold SZ; omega
  obtain ⟨r, h1, O, h2, h3⟩ := call_wp1 (n := n) (ds := dds) (f := 27) (args := [.int (w : Nat)]) (Q := fun r => ∃ O, r = .lst (O.map tN) ∧ OrdOk w w O) [.val (.int w), .no, .no, .no, .no, .no] rfl rfl rfl rfl (by
    refine wp_asg (e2 := [.val (.int w), .val (.lst (([[]] : List (List Nat)).map tN)), .no, .no, .no, .no]) (v_lst (vs_cons (v_tup vs_nil (by decide)) vs_nil) (by decide)) rfl ?_
    refine wp_for (F := fun (k : Nat) => D.int k) (List.range w) (fun zs e => ∃ O s2 s3 s4, e = [.val (.int w), .val (.lst (O.map tN)), s2, s3, s4, .no] ∧ isO [s2] 0 = false ∧ isO [s3] 0 = false ∧ isO [s4] 0 = false ∧ OrdOk w zs.length O) (it_rngP (vs_cons (v_var rfl) vs_nil) (rng1 w hsz)) rfl ⟨[[]], _, _, _, rfl, rfl, rfl, rfl, ?_⟩ (fun _ _ _ => rfl) ?_ ?_
    · refine ⟨by simp, fun p => ?_⟩
      simp only [List.mem_singleton, List.length_nil]
      constructor
      · rintro rfl; simp
      · rintro ⟨e, _⟩; exact List.length_eq_zero_iff.mp e
    · rintro zs k ws e hz ⟨O, s2, s3, s4, he, h2, h3, h4, hO⟩
      subst he
      have hzl : zs.length < w := by
        have := congrArg List.length hz
        simp at this; omega
      refine ⟨[.val (.int w), .val (.lst (O.map tN)), .val (.int k), s3, s4, .no], putN (i := 2) h2 (by show 2 < 6; decide), ?_⟩
      refine wp_asg (e2 := [.val (.int w), .val (.lst (O.map tN)), .val (.int k), .val (.lst (([] : List (List Nat)).map tN)), s4, .no]) (v_lst vs_nil (by decide)) (putN (i := 3) h3 (by show 3 < 6; decide)) ?_
      refine wp_for (F := tN) O (fun ys e => ∃ M s4, e = [.val (.int w), .val (.lst (O.map tN)), .val (.int k), .val (.lst (M.map tN)), s4, .no] ∧ isO [s4] 0 = false ∧ M.length ≤ ys.length * w ∧ ∀ p, p ∈ M ↔ ∃ q ∈ ys, ∃ a, a < w ∧ a ∉ q ∧ p = q ++ [a]) (it_seq (v_var rfl) rfl) rfl ⟨[], _, rfl, h4, by simp, by simp⟩ (fun _ _ _ => rfl) ?_ ?_
      · rintro ys q vs e hy ⟨M, s4, he, h4, hM, hm⟩
        subst he
        have hq : q ∈ O := by rw [hy]; simp
        have hql : q.length ≤ 6 := by
          have := (hO.2 q).mp hq
          omega
        have hyl : ys.length + 1 ≤ O.length := by rw [hy]; simp
        have hOl : O.length ≤ 46656 := Nat.le_trans hO.1 (pow6 h (by omega))
        have hfl : ((List.range w).filter fun a => !decide (a ∈ q)).length ≤ w := by
          refine Nat.le_trans (List.length_filter_le _ _) ?_
          rw [List.length_range]; exact Nat.le_refl _
        have hbig : M.length + w ≤ O.length * w := by
          have : (ys.length + 1) * w ≤ O.length * w := Nat.mul_le_mul_right w hyl
          rw [Nat.succ_mul] at this
          omega
        have hbig2 : O.length * w ≤ 46656 * 6 := Nat.mul_le_mul hOl h
        refine ⟨[.val (.int w), .val (.lst (O.map tN)), .val (.int k), .val (.lst (M.map tN)), .val (tN q), .no], putN (i := 4) h4 (by show 4 < 6; decide), ?_⟩
        refine wp_asg (d := .lst ((M ++ ((List.range w).filter fun a => !decide (a ∈ q)).map fun a => q ++ [a]).map tN)) (e2 := [.val (.int w), .val (.lst (O.map tN)), .val (.int k), .val (.lst ((M ++ ((List.range w).filter fun a => !decide (a ∈ q)).map fun a => q ++ [a]).map tN)), .val (tN q), .no])
          (v_bin (v_var rfl) (v_comp (List.range w) (fun (a : Nat) => D.int a) (fun a => !decide (a ∈ q)) (fun a => tN (q ++ [a])) (it_rngP (vs_cons (v_var rfl) vs_nil) (rng1 w hsz)) rfl rfl rfl (fun a ha => ⟨[.val (.int w), .val (.lst (O.map tN)), .val (.int k), .val (.lst (M.map tN)), .val (tN q), .val (.int a)], rfl, v_cmp (v_var rfl) (v_var rfl) (nin_tupN a q), fun _ => v_bin (v_var rfl) (v_tup (vs_cons (v_var rfl) vs_nil) (by show 1 ≤ 16777216; decide)) ?_, rfl⟩) (by rw [List.length_range]; exact hsz)) ?_) rfl (wp_nil ?_)
        · refine (add_tup ?_).trans ?_
          · rw [List.length_map]; show q.length + 1 ≤ SZ; unfold SZ; omega
          · unfold tN
            rw [List.map_append]; rfl
        · rw [add_lst]
          · rw [List.map_append, List.map_map]; rfl
          · rw [List.length_map, List.length_map]
            unfold SZ; omega
        · refine ⟨_, _, rfl, rfl, ?_, fun p => ?_⟩
          · rw [List.length_append, List.length_map, List.length_append, Nat.add_mul]
            simp only [List.length_cons, List.length_nil]
            omega
          · rw [List.mem_append, hm]
            simp only [List.mem_map, List.mem_filter, List.mem_range, Bool.not_eq_true', decide_eq_false_iff_not, List.mem_append, List.mem_singleton]
            constructor
            · rintro (⟨q', h1, a, h2, h3, h4⟩ | ⟨a, ⟨h1, h2⟩, h3⟩)
              · exact ⟨q', .inl h1, a, h2, h3, h4⟩
              · exact ⟨q, .inr rfl, a, h1, h2, h3.symm⟩
            · rintro ⟨q', h1 | h1, a, h2, h3, h4⟩
              · exact .inl ⟨q', h1, a, h2, h3, h4⟩
              · subst h1; exact .inr ⟨a, ⟨h2, h3⟩, h4.symm⟩
      · rintro e ⟨M, s4, he, h4, hM, hm⟩
        subst he
        refine wp_asg (e2 := [.val (.int w), .val (.lst (M.map tN)), .val (.int k), .val (.lst (M.map tN)), s4, .no]) (v_var rfl) rfl (wp_nil ⟨M, _, _, _, rfl, rfl, rfl, h4, ?_, fun p => ?_⟩)
        · rw [List.length_append, List.length_singleton, Nat.pow_succ]
          exact Nat.le_trans hM (Nat.mul_le_mul_right w hO.1)
        · rw [hm]
          simp only [List.length_append, List.length_singleton]
          constructor
          · rintro ⟨q, hq, a, ha, haq, e⟩
            have := (hO.2 q).mp hq
            subst e
            refine ⟨by simp [this.1], ?_, fun b hb => ?_⟩
            · rw [List.nodup_append]
              refine ⟨this.2.1, by simp, fun x hx y hy => ?_⟩
              simp at hy; subst hy
              exact fun z => haq (z ▸ hx)
            · rcases List.mem_append.mp hb with z | z
              · exact this.2.2 b z
              · simp at z; subst z; exact ha
          · rintro ⟨p1, p2, p3⟩
            have hp : p ≠ [] := fun e => by subst e; simp at p1
            have e := List.dropLast_concat_getLast hp
            rw [← e] at p2
            have p2' := List.nodup_append.mp p2
            refine ⟨p.dropLast, (hO.2 _).mpr ⟨by simp [p1], p2'.1, fun a ha => p3 a (List.dropLast_subset _ ha)⟩, p.getLast hp, p3 _ (List.getLast_mem hp), fun z => ?_, e.symm⟩
            exact p2'.2.2 _ z _ (by simp) rfl
    · rintro e ⟨O, s2, s3, s4, he, h2, h3, h4, hO⟩
      subst he
      rw [List.length_range] at hO
      exact wp_ret (r_e (v_var rfl) nofun nofun) ⟨[], rfl, O, rfl, hO⟩)
  subst h2
  exact ⟨O, h1, h3⟩
end K76
set_option Elab.async false
set_option linter.all false
set_option maxRecDepth 100000
namespace K76
open PySem Qx LU
theorem putPar2 {env : En} {i j : Nat} {x y : D} (h0 : isO env i = false) (hi : i < env.length) (h1 : isO (env.set i (.val x)) j = false) (hj : j < env.length) : putPar [(i, false), (j, false)] [x, y] env = some ((env.set i (.val x)).set j (.val y)) := by
  simp only [putPar, hi, if_true, h0, Bool.false_eq_true, if_false, List.length_set, hj, h1]
theorem choose_map {α β : Type} {G : β → D} {P : β → Prop} : ∀ (zs : List (α × D)), (∀ z ∈ zs, ∃ x, z.2 = G x ∧ P x) → ∃ r : List β, zs.map (·.2) = r.map G ∧ r.length = zs.length ∧ ∀ x ∈ r, P x
  | [], _ => ⟨[], rfl, rfl, by simp⟩
  | z :: zs, h => by
    obtain ⟨r, h1, h2, h3⟩ := choose_map zs fun y hy => h y (List.mem_cons_of_mem _ hy)
    obtain ⟨x, h4, h5⟩ := h z (by simp)
    refine ⟨x :: r, by simp [h1, h4], by simp [h2], fun y hy => ?_⟩
    rcases List.mem_cons.mp hy with e | e
    · subst e; exact h5
    · exact h3 y e
def rn (lo hi : Int) (j : Nat) : Int := if (decide (lo ≤ (j : Int)) && decide ((j : Int) < hi)) = true then 1 else 0
theorem rn01 (lo hi : Int) (j : Nat) : rn lo hi j = 0 ∨ rn lo hi j = 1 := by
  unfold rn
  split
  · exact .inr rfl
  · exact .inl rfl
/-- the rows of a table led by runs -/
def RunRow (w : Nat) (p : List Nat) (r : List Int) : Prop := ∃ lo hi : Int, r = (List.range w).map fun j => rn lo hi (p.getD j 0)
theorem runs_ok {T : List (List Int)} {w m : Nat} {p : List Nat} (hp : IsP w p) (h1 : 1 ≤ m) (h9 : m ≤ 9) (w1 : 1 ≤ w) (w9 : w ≤ 9) (hT : T.length = m) (hr : ∀ r ∈ T, RunRow w p r) : WF T w ∧ HasL (Mt T) T.length w := by
  refine ⟨⟨by omega, by omega, w1, w9, fun r hr' => ?_⟩, ?_⟩
  · obtain ⟨lo, hi, e⟩ := hr r hr'
    subst e
    refine ⟨by simp, fun x hx => ?_⟩
    obtain ⟨j, _, e⟩ := List.mem_map.mp hx
    subst e
    exact rn01 _ _ _
  · have key : ∀ i, ∃ lo hi : Int, i < T.length → T.getD i [] = (List.range w).map fun j => rn lo hi (p.getD j 0) := fun i => by
      by_cases c : i < T.length
      · have : T.getD i [] ∈ T := by
          rw [List.getD_eq_getElem?_getD, List.getElem?_eq_getElem c]
          exact List.getElem_mem c
        obtain ⟨lo, hi, e⟩ := hr _ this
        exact ⟨lo, hi, fun _ => e⟩
      · exact ⟨0, 0, fun z => (c z).elim⟩
    obtain ⟨lo, key⟩ := Classical.skolem.mp key
    obtain ⟨hi, key⟩ := Classical.skolem.mp key
    refine hasL_runs (lo := lo) (hi := hi) hp fun i hi' k hk => ?_
    unfold Mt
    rw [key i hi']
    have : ((List.range w).map fun j => rn (lo i) (hi i) (p.getD j 0)).getD k 0 = rn (lo i) (hi i) (p.getD k 0) := by
      rw [List.getD_eq_getElem?_getD, List.getElem?_map, List.getElem?_range hk]
      rfl
    rw [this, decide_eq_decide]
    unfold rn
    simp only [Bool.and_eq_true, decide_eq_true_eq]
    split
    · rename_i z; exact ⟨fun _ => z, fun _ => rfl⟩
    · rename_i z; exact ⟨fun y => absurd y (by decide), fun y => (z y).elim⟩
theorem nI_sub {p : List Nat} {k : Nat} (h : k < p.length) : subD (.lst (nI p)) (.int (k : Nat)) = some (.int (p.getD k 0 : Nat)) := sub_lstN (get_mapN h)
theorem sp__law_lined (n : Nat) (a b : Int) (m w : Nat) (m1 : 1 ≤ m) (m9 : m ≤ 9) (w1 : 1 ≤ w) (w9 : w ≤ 9) : ∃ a' b' T, callD dds (n + 2) 30 [poolD a b, .int (m : Nat), .int (w : Nat)] = some (tabD T, [poolD a' b']) ∧ WF T w ∧ T.length = m ∧ HasL (Mt T) T.length w := by
  have hsz : w ≤ SZ := by unfold SZ; omega
  have hmz : m ≤ SZ := by unfold SZ; omega
  obtain ⟨r, os, h1, a', b', T, h2, h3, h4⟩ := call_wp (n := n + 1) (ds := dds) (f := 30) (args := [poolD a b, .int (m : Nat), .int (w : Nat)]) (Q := fun r os => ∃ a' b' T, r = tabD T ∧ os = [poolD a' b'] ∧ WF T w ∧ T.length = m ∧ HasL (Mt T) T.length w) [.own (poolD a b), .val (.int m), .val (.int w), .no, .no, .no, .no, .no, .no, .no, .no] rfl rfl rfl (by
    refine wp_par (e2 := [.own (poolD a b), .val (.int m), .val (.int w), .no, .no, .own (.lst (nI (List.range w))), .own (.lst []), .no, .no, .no, .no]) (vs_cons (v_bi (as_v (v_var rfl) as_nil) rfl (d := .lst (nI (List.range w))) (lrange_nat w hsz)) (vs_cons (v_lst vs_nil (by decide)) vs_nil)) rfl rfl ?_
    refine wp_draw (tk := 23) (w := w) rfl (by decide) (by decide) (by decide) (by omega) rfl rfl rfl fun a b p hp => ?_
    refine wp_new (e1 := [.own (poolD a b), .val (.int m), .val (.int w), .no, .no, .own (.lst []), .own (.lst (nI p)), .no, .no, .no, .no]) (v_lst vs_nil (by decide)) rfl (by decide) (by show 3 < 11; decide) ?_
    refine wp_for (F := fun (k : Nat) => D.int k) (List.range m) (fun zs e => ∃ a b T s4 s7 s8 s9, e = [.own (poolD a b), .val (.int m), .val (.int w), .own (.lst (T.map tI)), s4, .own (.lst []), .own (.lst (nI p)), s7, s8, s9, .no] ∧ isO [s4] 0 = false ∧ isO [s7] 0 = false ∧ isO [s8] 0 = false ∧ isO [s9] 0 = false ∧ T.length = zs.length ∧ ∀ r ∈ T, RunRow w p r) (it_rngP (vs_cons (v_var rfl) vs_nil) (rng1 m hmz)) rfl ⟨a, b, [], _, _, _, _, rfl, rfl, rfl, rfl, rfl, rfl, by simp⟩ (fun _ _ _ => rfl) ?_ ?_
    · rintro zs k ws e hz ⟨a, b, T, s4, s7, s8, s9, he, h4, h7, h8, h9, hT, hr⟩
      subst he
      have hzl : zs.length < m := by
        have := congrArg List.length hz
        simp at this; omega
      obtain ⟨x, a1, b1, t1, x1⟩ := take_spec (n := n) (ds := dds) (g := 23) rfl a b (w + 1) (by omega) (by omega)
      obtain ⟨y, a2, b2, t2, y1⟩ := take_spec (n := n) (ds := dds) (g := 23) rfl a1 b1 (w + 1) (by omega) (by omega)
      refine ⟨[.own (poolD a b), .val (.int m), .val (.int w), .own (.lst (T.map tI)), .val (.int k), .own (.lst []), .own (.lst (nI p)), s7, s8, s9, .no], putN (i := 4) h4 (by show 4 < 11; decide), ?_⟩
      refine wp_par (e2 := [.own (poolD a2 b2), .val (.int m), .val (.int w), .own (.lst (T.map tI)), .val (.int k), .own (.lst []), .own (.lst (nI p)), s7, .val (.int x), .val (.int y), .no])
        (vs_cons (e1 := [.own (poolD a1 b1), .val (.int m), .val (.int w), .own (.lst (T.map tI)), .val (.int k), .own (.lst []), .own (.lst (nI p)), s7, s8, s9, .no]) (v_callR (as_o rfl (as_v (v_bin (v_var rfl) v_cst rfl) as_nil)) rfl rfl rfl rfl rfl t1) (vs_cons (e1 := [.own (poolD a2 b2), .val (.int m), .val (.int w), .own (.lst (T.map tI)), .val (.int k), .own (.lst []), .own (.lst (nI p)), s7, s8, s9, .no]) (v_callR (as_o rfl (as_v (v_bin (v_var rfl) v_cst rfl) as_nil)) rfl rfl rfl rfl rfl t2) vs_nil)) rfl (putPar2 (i := 8) (j := 9) h8 (by show 8 < 11; decide) h9 (by show 9 < 11; decide)) ?_
      have hmin : biD .min2 [.int (x : Nat), .int (y : Nat)] = some (.int (if (y : Int) < x then (y : Int) else x)) := rfl
      have hmax : biD .max2 [.int (x : Nat), .int (y : Nat)] = some (.int (if (y : Int) > x then (y : Int) else x)) := rfl
      generalize (if (y : Int) < x then (y : Int) else x) = lo at hmin
      generalize (if (y : Int) > x then (y : Int) else x) = hi at hmax
      refine wp_asg (d := .lst (((List.range w).map fun j => rn lo hi j).map .int)) (e2 := [.own (poolD a2 b2), .val (.int m), .val (.int w), .own (.lst (T.map tI)), .val (.int k), .own (.lst []), .own (.lst (nI p)), .val (.lst (((List.range w).map fun j => rn lo hi j).map .int)), .val (.int x), .val (.int y), .no]) (v_eq (v_compT (List.range w) (fun (j : Nat) => D.int j) (fun j => .int (rn lo hi j)) (it_rngP (vs_cons (v_var rfl) vs_nil) (rng1 w hsz)) rfl rfl rfl (fun j hj => ⟨[.own (poolD a2 b2), .val (.int m), .val (.int w), .own (.lst (T.map tI)), .val (.int k), .own (.lst []), .own (.lst (nI p)), s7, .val (.int x), .val (.int y), .val (.int j)], rfl, v_bi (as_v (v_chn (k := decide (lo ≤ j)) (l := decide ((j : Int) < hi)) (v_bi (as_v (v_var rfl) (as_v (v_var rfl) as_nil)) rfl (d := _) hmin) (v_var rfl) rfl (fun _ => (v_bi (as_v (v_var rfl) (as_v (v_var rfl) as_nil)) rfl (d := _) hmax)) (fun _ => rfl)) as_nil) rfl rfl, rfl⟩) (by rw [List.length_range]; exact hsz)) (by rw [List.map_map]; rfl)) (putN (i := 7) h7 (by show 7 < 11; decide)) ?_
      refine wp_exp (e1 := [.own (poolD a2 b2), .val (.int m), .val (.int w), .own (.lst ((T ++ [(List.range w).map fun j => rn lo hi (p.getD j 0)]).map tI)), .val (.int k), .own (.lst []), .own (.lst (nI p)), .val (.lst (((List.range w).map fun j => rn lo hi j).map .int)), .val (.int x), .val (.int y), .no]) (v_mm (r := .non) (d' := .lst ((T ++ [(List.range w).map fun j => rn lo hi (p.getD j 0)]).map tI)) (ds := [tI ((List.range w).map fun j => rn lo hi (p.getD j 0))]) rfl (vs_cons (v_bi (as_v (v_compT (List.range w) (fun (j : Nat) => D.int j) (fun j => .int (rn lo hi (p.getD j 0))) (it_rngP (vs_cons (v_var rfl) vs_nil) (rng1 w hsz)) rfl rfl rfl (fun j hj => ⟨[.own (poolD a2 b2), .val (.int m), .val (.int w), .own (.lst (T.map tI)), .val (.int k), .own (.lst []), .own (.lst (nI p)), .val (.lst (((List.range w).map fun j => rn lo hi j).map .int)), .val (.int x), .val (.int y), .val (.int j)], rfl, v_sub (v_var rfl) (v_subA (op_o rfl) (v_var rfl) rfl (nI_sub (by rw [hp.1]; exact List.mem_range.mp hj))) ?_, rfl⟩) (by rw [List.length_range]; exact hsz)) as_nil) rfl (d := tI ((List.range w).map fun j => rn lo hi (p.getD j 0))) ?_) vs_nil) rfl ?_) (wp_nil ?_)
      · have hj : p.getD j 0 < w := isP_getD hp (by rw [hp.1]; exact List.mem_range.mp hj)
        refine sub_lstN ?_
        rw [List.getElem?_map, List.getElem?_map, List.getElem?_range hj]
        rfl
      · unfold tI
        rw [List.map_map]; rfl
      · show (if (T.map tI).length < SZ then _ else _) = _
        rw [if_pos (by rw [List.length_map, hT]; unfold SZ; omega), List.map_append]; rfl
      · refine ⟨a2, b2, _, _, _, _, _, rfl, rfl, rfl, rfl, rfl, by simp [hT], fun r hr' => ?_⟩
        rcases List.mem_append.mp hr' with z | z
        · exact hr r z
        · simp at z; exact ⟨lo, hi, z⟩
    · rintro e ⟨a, b, T, s4, s7, s8, s9, he, h4, h7, h8, h9, hT, hr⟩
      subst he
      rw [List.length_range] at hT
      obtain ⟨k1, k2⟩ := runs_ok hp m1 m9 w1 w9 hT hr
      exact wp_ret (r_e (v_bi (as_o rfl as_nil) rfl (d := tabD T) rfl) nofun nofun) ⟨_, rfl, a, b, T, rfl, rfl, k1, hT, k2⟩)
  subst h2 h3
  exact ⟨a', b', T, h1, h4⟩
theorem sp__law_table (n : Nat) (a b : Int) (m w : Nat) (m1 : 1 ≤ m) (m9 : m ≤ 9) (w1 : 1 ≤ w) (w9 : w ≤ 9) : ∃ a' b' T, callD dds (n + 2) 31 [poolD a b, .int (m : Nat), .int (w : Nat)] = some (tabD T, [poolD a' b']) ∧ WF T w ∧ T.length = m := by
  have hsz : w ≤ SZ := by unfold SZ; omega
  have hmz : m ≤ SZ := by unfold SZ; omega
  obtain ⟨r, os, h1, a', b', T, h2, h3, h4⟩ := call_wp (n := n + 1) (ds := dds) (f := 31) (args := [poolD a b, .int (m : Nat), .int (w : Nat)]) (Q := fun r os => ∃ a' b' T, r = tabD T ∧ os = [poolD a' b'] ∧ WF T w ∧ T.length = m) [.own (poolD a b), .val (.int m), .val (.int w), .no, .no, .no] rfl rfl rfl (by
    obtain ⟨x, a1, b1, t1, x1⟩ := take_spec (n := n) (ds := dds) (g := 23) rfl a b 4 (by omega) (by omega)
    refine wp_asg (d := .int (1 + (x : Int))) (e2 := [.own (poolD a1 b1), .val (.int m), .val (.int w), .val (.int (1 + (x : Int))), .no, .no]) (v_bin v_cst (v_callR (as_o rfl (as_v v_cst as_nil)) rfl rfl rfl rfl rfl t1) rfl) rfl ?_
    generalize hS : 1 + (x : Int) = S
    have row : ∀ (a b : Int) (k : Nat), ∃ a' b' r, evE (callD dds (n + 1)) (rfsOf dds) (.bi .tuple [(.comp (.bi .int [(.cmp .lt (.call 23 [(.own 0), (.cst (.int 5))] []) (.var 3))]) [5] (.nm 5) (.rng [(.var 2)]) (.cst (.bl true)))]) [.own (poolD a b), .val (.int m), .val (.int w), .val (.int S), .val (.int k), .no] = some (tI r, [.own (poolD a' b'), .val (.int m), .val (.int w), .val (.int S), .val (.int k), .no]) ∧ r.length = w ∧ ∀ x ∈ r, x = 0 ∨ x = 1 := by
      intro a b k
      obtain ⟨zs, e2, k1, k2, k3, a', b', k4⟩ := v_compS (Φ := callD dds (n + 1)) (R := rfsOf dds) (env := [.own (poolD a b), .val (.int m), .val (.int w), .val (.int S), .val (.int k), .no]) (it := .rng [.var 2]) (t := .nm 5) (vs := [5]) (elt := .bi .int [(.cmp .lt (.call 23 [(.own 0), (.cst (.int 5))] []) (.var 3))]) (List.range w) (fun (j : Nat) => D.int j) (fun e => ∃ a b, e = [.own (poolD a b), .val (.int m), .val (.int w), .val (.int S), .val (.int k), .no]) (fun _ d => ∃ x, d = D.int x ∧ (x = 0 ∨ x = 1)) (it_rngP (vs_cons (v_var rfl) vs_nil) (rng1 w hsz)) rfl rfl (by rw [List.length_range]; exact hsz) ⟨a, b, rfl⟩
        (by rintro e ⟨a, b, rfl⟩; exact ⟨rfl, fun v hv => by simp at hv; subst hv; rfl⟩) (fun _ _ => rfl) (by
        rintro j hj e ⟨a, b, rfl⟩
        obtain ⟨y, a1, b1, t1, y1⟩ := take_spec (n := n) (ds := dds) (g := 23) rfl a b 5 (by omega) (by omega)
        exact ⟨[.own (poolD a b), .val (.int m), .val (.int w), .val (.int S), .val (.int k), .val (.int j)], .int (if decide ((y : Int) < S) = true then 1 else 0), [.own (poolD a1 b1), .val (.int m), .val (.int w), .val (.int S), .val (.int k), .val (.int j)], [.own (poolD a1 b1), .val (.int m), .val (.int w), .val (.int S), .val (.int k), .no], rfl, v_bi (as_v (v_cmp (k := decide ((y : Int) < S)) (v_callR (as_o rfl (as_v v_cst as_nil)) rfl rfl rfl rfl rfl t1) (v_var rfl) rfl) as_nil) rfl rfl, ⟨_, rfl, by split; exact .inr rfl; exact .inl rfl⟩, ⟨a1, b1, rfl⟩, rfl⟩)
      subst k4
      obtain ⟨r, r1, r2, r3⟩ := choose_map (G := D.int) (P := fun x => x = 0 ∨ x = 1) zs fun z hz => k3 z hz
      have hzw : zs.length = w := by have := congrArg List.length k2; simpa using this
      rw [r1] at k1
      exact ⟨a', b', r, v_bi (as_v k1 as_nil) rfl rfl, by omega, r3⟩
    obtain ⟨zs, e2, k1, k2, k3, a', b', k4⟩ := v_compS (Φ := callD dds (n + 1)) (R := rfsOf dds) (env := [.own (poolD a1 b1), .val (.int m), .val (.int w), .val (.int S), .no, .no]) (it := .rng [.var 1]) (t := .nm 4) (vs := [4]) (elt := .bi .tuple [(.comp (.bi .int [(.cmp .lt (.call 23 [(.own 0), (.cst (.int 5))] []) (.var 3))]) [5] (.nm 5) (.rng [(.var 2)]) (.cst (.bl true)))]) (List.range m) (fun (j : Nat) => D.int j) (fun e => ∃ a b, e = [.own (poolD a b), .val (.int m), .val (.int w), .val (.int S), .no, .no]) (fun _ d => ∃ r, d = tI r ∧ r.length = w ∧ ∀ x ∈ r, x = 0 ∨ x = 1) (it_rngP (vs_cons (v_var rfl) vs_nil) (rng1 m hmz)) rfl rfl (by rw [List.length_range]; exact hmz) ⟨a1, b1, rfl⟩
        (by rintro e ⟨a, b, rfl⟩; exact ⟨rfl, fun v hv => by simp at hv; subst hv; rfl⟩) (fun _ _ => rfl) (by
        rintro k hk e ⟨a, b, rfl⟩
        obtain ⟨a', b', r, g1, g2, g3⟩ := row a b k
        exact ⟨[.own (poolD a b), .val (.int m), .val (.int w), .val (.int S), .val (.int k), .no], tI r, _, [.own (poolD a' b'), .val (.int m), .val (.int w), .val (.int S), .no, .no], rfl, g1, ⟨r, rfl, g2, g3⟩, ⟨a', b', rfl⟩, rfl⟩)
    subst k4
    obtain ⟨T, r1, r2, r3⟩ := choose_map (G := tI) (P := fun r => r.length = w ∧ ∀ x ∈ r, x = 0 ∨ x = 1) zs fun z hz => k3 z hz
    have hzw : zs.length = m := by have := congrArg List.length k2; simpa using this
    rw [r1] at k1
    exact wp_ret (r_e (v_bi (as_v k1 as_nil) rfl (d := tabD T) rfl) nofun nofun) ⟨_, rfl, a', b', T, rfl, rfl, ⟨by omega, by omega, w1, w9, r3⟩, by omega⟩)
  subst h2 h3
  exact ⟨a', b', T, h1, h4⟩
end K76
set_option Elab.async false
set_option linter.all false
set_option maxRecDepth 100000
namespace K76
open PySem Qx LU
theorem v_slcA {Φ : Orc} {R : Rfs} {env e1 e2 e3 : En} {a lo hi : E} {dx dl dh d : D} (h1 : evE Φ R a env = some (dx, e1)) (h2 : evE Φ R lo e1 = some (dl, e2)) (h3 : evE Φ R hi e2 = some (dh, e3)) (h : slcD dx dl dh = some d) : evE Φ R (.slc a lo hi) env = some (d, e3) := v_slc h1 h2 h3 h
def isNI : D → Bool
  | .non => true
  | .int _ => true
  | _ => false
theorem slc_any (ds : List D) {lo hi : D} (h1 : isNI lo = true) (h2 : isNI hi = true) : ∃ es, slcD (.tup ds) lo hi = some (.tup es) ∧ es.length ≤ ds.length ∧ ∀ d ∈ es, d ∈ ds := by
  have b : ∀ (n k : Nat) {x : D}, isNI x = true → ∃ j, bndD n k x = some j := fun n k x h => by
    cases x <;> first | (cases h; done) | exact ⟨_, rfl⟩
  obtain ⟨j, hj⟩ := b ds.length 0 h1
  obtain ⟨k, hk⟩ := b ds.length ds.length h2
  refine ⟨(ds.drop j).take (k - j), ?_, ?_, fun d hd => List.mem_of_mem_drop (List.mem_of_mem_take hd)⟩
  · simp only [slcD, cutD, hj, hk, Option.bind_some, Option.map_some]
  · rw [List.length_take, List.length_drop]; omega
theorem ix_pred {n k : Nat} (h : k < n) : ∃ j, ixD n ((k : Int) - 1) = some j ∧ j < n := by
  unfold ixD
  by_cases c : 1 ≤ k
  · rw [if_pos (by omega), if_pos (by omega)]
    exact ⟨_, rfl, by omega⟩
  · rw [if_neg (by omega), if_pos (by omega)]
    exact ⟨_, rfl, by omega⟩
theorem s_tps {Φ : Orc} {R : Rfs} {np : Nat} {env e1 e2 : En} {ts : List TS} {e : E} {ds : List D} (h : evE Φ R e env = some (.tup ds, e1)) (hp : putSs Φ R ts ds e1 = some e2) : evS Φ R np (.asg (.tps ts) e) env = some (.nx, e2) := by
  simp only [evS, h, hp, Option.map_some]
theorem okv_tup {ds : List D} (h1 : ∀ d ∈ ds, okd d = true) (h2 : ds.length ≤ 100) : okv (.tup ds) = true := by
  simp only [okv, Bool.and_eq_true, List.all_eq_true, decide_eq_true_eq]
  exact ⟨h1, h2⟩
theorem nI_ok {p : List Nat} : ∀ d ∈ nI p, okd d = true := fun d hd => by
  obtain ⟨c, _, e⟩ := List.mem_map.mp hd
  subst e; rfl
theorem nI_len (p : List Nat) : (nI p).length = p.length := by unfold nI; rw [List.length_map]
theorem sp__law_bent (n : Nat) (a b : Int) (p : List Nat) (w : Nat) (hp : p.length = w) (w1 : 1 ≤ w) (w9 : w ≤ 9) : ∃ a' b' vs, callD dds (n + 2) 32 [poolD a b, tN p, .int (w : Nat)] = some (.lst vs, [poolD a' b']) ∧ (∀ v ∈ vs, okv v = true) ∧ vs.length ≤ 50 := by
  obtain ⟨r, os, h1, a', b', vs, h2, h3, h4, h5⟩ := call_wp (n := n + 1) (ds := dds) (f := 32) (args := [poolD a b, tN p, .int (w : Nat)]) (Q := fun r os => ∃ a' b' vs, r = .lst vs ∧ os = [poolD a' b'] ∧ (∀ v ∈ vs, okv v = true) ∧ vs.length ≤ 50) [.own (poolD a b), .val (tN p), .val (.int w), .no, .no, .no, .no] rfl rfl rfl (by
    obtain ⟨at', a1, b1, t1, x1⟩ := take_spec (n := n) (ds := dds) (g := 23) rfl a b w (by omega) (by omega)
    refine wp_asg (e2 := [.own (poolD a1 b1), .val (tN p), .val (.int w), .val (.int at'), .no, .no, .no]) (v_callR (as_o rfl (as_v (v_var rfl) as_nil)) rfl rfl rfl rfl rfl t1) rfl ?_
    obtain ⟨c1, g1, l1, m1⟩ := slc_any (nI p) (lo := .int 1) (hi := .non) rfl rfl
    obtain ⟨c2, g2, l2, m2⟩ := slc_any (nI p) (lo := .int at') (hi := .non) rfl rfl
    obtain ⟨c3, g3, l3, m3⟩ := slc_any (nI p) (lo := .non) (hi := .int at') rfl rfl
    obtain ⟨c4, g4, l4, m4⟩ := slc_any (nI p) (lo := .int ((at' : Int) + 1)) (hi := .non) rfl rfl
    rw [nI_len] at l1 l2 l3 l4
    have hN := nI_len p
    have r1 : revD (tN p) .non = some (.tup (nI p).reverse) := rfl
    have a1' : binD .add (tN p) (.tup [.int (w : Nat)]) = some (.tup (nI p ++ [.int (w : Nat)])) := add_tup (by rw [List.length_map]; show p.length + 1 ≤ SZ; unfold SZ; omega)
    have a2' : binD .add (.tup c2) (.tup c3) = some (.tup (c2 ++ c3)) := add_tup (by unfold SZ; omega)
    obtain ⟨j, j1, j2⟩ := ix_pred (n := p.length) (k := at') (by omega)
    have sj : subD (tN p) (.int ((at' : Int) - 1)) = some (.int (p.getD j 0 : Nat)) := by
      show (ixD (p.map fun (c : Nat) => D.int c).length _).bind _ = _
      rw [List.length_map, j1]
      exact get_mapN j2
    refine wp_new (d := .lst [tN p, .tup (nI p).reverse, .tup c1, .tup (nI p ++ [.int (w : Nat)]), .lst (nI p), .tup [], .non, .int 0, .str (Str.ofString "line"), .tup [tN p], .tup (c2 ++ c3)]) (e1 := [.own (poolD a1 b1), .val (tN p), .val (.int w), .val (.int at'), .no, .no, .no])
      (v_lst (vs_cons (v_var rfl) (vs_cons (v_rev (v_var rfl) v_cst r1) (vs_cons (v_slc (v_var rfl) v_cst v_cst g1) (vs_cons (v_bin (v_var rfl) (v_tup (vs_cons (v_var rfl) vs_nil) (by show 1 ≤ 16777216; decide)) a1') (vs_cons (v_bi (as_v (v_var rfl) as_nil) rfl (d := .lst (nI p)) rfl) (vs_cons (v_tup vs_nil (by decide)) (vs_cons v_cst (vs_cons v_cst (vs_cons v_cst (vs_cons (v_tup (vs_cons (v_var rfl) vs_nil) (by show 1 ≤ 16777216; decide)) (vs_cons (v_bin (v_slc (v_var rfl) (v_var rfl) v_cst g2) (v_slc (v_var rfl) v_cst (v_var rfl) g3) a2') vs_nil))))))))))) (by show 11 ≤ 16777216; decide)) rfl (by decide) (by show 4 < 7; decide) ?_
    obtain ⟨x, a2, b2, t2, x2⟩ := take_spec (n := n) (ds := dds) (g := 23) rfl a1 b1 w (by omega) (by omega)
    let odds : List D := [.int (w : Nat), .int (-1), .non, .bl true, .str (Str.ofString "0"), .tup [.int 0], .int (p.getD j 0 : Nat), .int (x : Nat)]
    have hodd : ∀ d ∈ odds, okd d = true := by
      intro d hd
      simp only [odds, List.mem_cons, List.not_mem_nil, or_false] at hd
      rcases hd with e | e | e | e | e | e | e | e <;> subst e <;> rfl
    refine wp_for (e1 := [.own (poolD a2 b2), .val (tN p), .val (.int w), .val (.int at'), .own _, .no, .no]) (F := id) odds (fun zs e => ∃ R s5, e = [.own (poolD a2 b2), .val (tN p), .val (.int w), .val (.int at'), .own (.lst R), s5, .no] ∧ isO [s5] 0 = false ∧ (∀ v ∈ R, okv v = true) ∧ R.length ≤ 11 + zs.length)
      (it_seq (v_tup (ds := odds) (vs_cons (v_var rfl) (vs_cons (v_neg v_cst) (vs_cons v_cst (vs_cons v_cst (vs_cons v_cst (vs_cons (v_tup (vs_cons v_cst vs_nil) (by decide)) (vs_cons (v_sub (v_var rfl) (v_bin (v_var rfl) v_cst rfl) sj) (vs_cons (v_callR (as_o rfl (as_v (v_var rfl) as_nil)) rfl rfl rfl rfl rfl t2) vs_nil)))))))) (by show 8 ≤ 16777216; decide)) rfl) (by simp) ⟨_, _, rfl, rfl, ?_, by simp⟩ (fun _ _ _ => rfl) ?_ ?_
    · intro v hv
      have tin : ∀ (c : List D), (∀ d ∈ c, d ∈ nI p) → c.length ≤ p.length → okv (.tup c) = true := fun c m l => okv_tup (fun d hd => nI_ok d (m d hd)) (by omega)
      simp only [List.mem_cons, List.not_mem_nil, or_false] at hv
      rcases hv with e | e | e | e | e | e | e | e | e | e | e <;> subst e
      · exact okv_tup nI_ok (by rw [List.length_map]; omega)
      · exact okv_tup (fun d hd => nI_ok d (List.mem_reverse.mp hd)) (by rw [List.length_reverse]; omega)
      · exact tin _ m1 l1
      · refine okv_tup (fun d hd => ?_) (by rw [List.length_append]; simp only [List.length_cons, List.length_nil]; omega)
        rcases List.mem_append.mp hd with z | z
        · exact nI_ok d z
        · simp at z; subst z; rfl
      · rfl
      · rfl
      · rfl
      · rfl
      · rfl
      · rfl
      · refine okv_tup (fun d hd => ?_) (by rw [List.length_append]; omega)
        rcases List.mem_append.mp hd with z | z
        · exact nI_ok d (m2 d z)
        · exact nI_ok d (m3 d z)
    · rintro zs y ws e hz ⟨R, s5, he, h5, hR, hRl⟩
      subst he
      have hzl : zs.length + 1 ≤ 8 := by
        have := congrArg List.length hz
        simp [odds] at this; omega
      have hy : okd y = true := hodd y (by rw [hz]; simp)
      refine ⟨[.own (poolD a2 b2), .val (tN p), .val (.int w), .val (.int at'), .own (.lst R), .val y, .no], putN (i := 5) h5 (by show 5 < 7; decide), ?_⟩
      refine wp_exp (e1 := [.own (poolD a2 b2), .val (tN p), .val (.int w), .val (.int at'), .own (.lst (R ++ [.tup ((c3 ++ [y]) ++ c4)])), .val y, .no]) (v_mm (r := .non) (d' := .lst (R ++ [.tup ((c3 ++ [y]) ++ c4)])) rfl (vs_cons (v_bin (v_bin (v_slc (v_var rfl) v_cst (v_var rfl) g3) (v_tup (vs_cons (v_var rfl) vs_nil) (by show 1 ≤ 16777216; decide)) (add_tup ?_)) (v_slc (v_var rfl) (v_bin (v_var rfl) v_cst rfl) v_cst g4) (add_tup ?_)) vs_nil) rfl ?_) (wp_nil ⟨_, _, rfl, rfl, fun v hv => ?_, ?_⟩)
      · show c3.length + 1 ≤ SZ; unfold SZ; omega
      · rw [List.length_append]; show c3.length + 1 + c4.length ≤ SZ; unfold SZ; omega
      · show (if R.length < SZ then _ else _) = _
        rw [if_pos (by unfold SZ; omega)]
      · rcases List.mem_append.mp hv with z | z
        · exact hR v z
        · simp at z
          subst z
          refine okv_tup (fun d hd => ?_) (by simp only [List.length_append, List.length_cons, List.length_nil]; omega)
          simp only [List.mem_append, List.mem_cons, List.not_mem_nil, or_false] at hd
          rcases hd with z | z | z
          · exact nI_ok d (m3 d z)
          · subst z; exact hy
          · exact nI_ok d (m4 d z)
      · simp only [List.length_append, List.length_cons, List.length_nil]; omega
    · rintro e ⟨R, s5, he, h5, hR, hRl⟩
      subst he
      have hRl : R.length ≤ 19 := by simpa [odds] using hRl
      refine wp_new (e1 := [.own (poolD a2 b2), .val (tN p), .val (.int w), .val (.int at'), .own (.lst R), s5, .no]) (v_bi (as_v (v_var rfl) as_nil) rfl (d := .lst (nI p)) rfl) rfl (by decide) (by show 6 < 7; decide) ?_
      have s1 : subD (.lst (nI p)) (.int ((at' : Int) - 1)) = some (.int (p.getD j 0 : Nat)) := by
        show (ixD (nI p).length _).bind _ = _
        rw [nI_len, j1]
        exact get_mapN j2
      have s2 : subD (.lst (nI p)) (.int (at' : Int)) = some (.int (p.getD at' 0 : Nat)) := nI_sub (by omega)
      have k1 : setD (.lst (nI p)) (.int (at' : Int)) (.int (p.getD j 0 : Nat)) = some (.lst ((nI p).set at' (.int (p.getD j 0 : Nat)))) := by
        show (ixD (nI p).length _).map _ = _
        unfold ixD
        rw [if_pos (by omega), if_pos (by rw [nI_len]; omega)]
        rfl
      have k2 : setD (.lst ((nI p).set at' (.int (p.getD j 0 : Nat)))) (.int ((at' : Int) - 1)) (.int (p.getD at' 0 : Nat)) = some (.lst (((nI p).set at' (.int (p.getD j 0 : Nat))).set j (.int (p.getD at' 0 : Nat)))) := by
        show (ixD ((nI p).set at' _).length _).map _ = _
        rw [List.length_set, nI_len, j1]
        rfl
      let O := ((nI p).set at' (.int (p.getD j 0 : Nat))).set j (.int (p.getD at' 0 : Nat))
      refine wp_of (e1 := [.own (poolD a2 b2), .val (tN p), .val (.int w), .val (.int at'), .own (.lst R), s5, .own (.lst O)]) (s_tps (v_tup (vs_cons (v_subA (op_o rfl) (v_bin (v_var rfl) v_cst rfl) rfl s1) (vs_cons (v_subA (op_o rfl) (v_var rfl) rfl s2) vs_nil)) (by show 2 ≤ 16777216; decide)) ?_) ?_
      · have q1 : putS (callD dds (n + 1)) (rfsOf dds) (.sb 6 (.var 3)) (.int (p.getD j 0 : Nat)) [.own (poolD a2 b2), .val (tN p), .val (.int w), .val (.int at'), .own (.lst R), s5, .own (.lst (nI p))] = some [.own (poolD a2 b2), .val (tN p), .val (.int w), .val (.int at'), .own (.lst R), s5, .own (.lst ((nI p).set at' (.int (p.getD j 0 : Nat))))] := by
          simp only [putS, show isO [.own (poolD a2 b2), .val (tN p), .val (.int w), .val (.int at'), .own (.lst R), s5, .own (.lst (nI p))] 6 = true from rfl, if_true, v_var (show getV [.own (poolD a2 b2), .val (tN p), .val (.int w), .val (.int at'), .own (.lst R), s5, .own (.lst (nI p))] 3 = some (.int at') from rfl), show getO [.own (poolD a2 b2), .val (tN p), .val (.int w), .val (.int at'), .own (.lst R), s5, .own (.lst (nI p))] 6 = some (.lst (nI p)) from rfl, k1]
          rfl
        have q2 : putS (callD dds (n + 1)) (rfsOf dds) (.sb 6 (.bin .sub (.var 3) (.cst (.int 1)))) (.int (p.getD at' 0 : Nat)) [.own (poolD a2 b2), .val (tN p), .val (.int w), .val (.int at'), .own (.lst R), s5, .own (.lst ((nI p).set at' (.int (p.getD j 0 : Nat))))] = some [.own (poolD a2 b2), .val (tN p), .val (.int w), .val (.int at'), .own (.lst R), s5, .own (.lst O)] := by
          have hb : evE (callD dds (n + 1)) (rfsOf dds) (.bin .sub (.var 3) (.cst (.int 1))) [.own (poolD a2 b2), .val (tN p), .val (.int w), .val (.int at'), .own (.lst R), s5, .own (.lst ((nI p).set at' (.int (p.getD j 0 : Nat))))] = some (.int ((at' : Int) - 1), [.own (poolD a2 b2), .val (tN p), .val (.int w), .val (.int at'), .own (.lst R), s5, .own (.lst ((nI p).set at' (.int (p.getD j 0 : Nat))))]) := v_bin (v_var rfl) v_cst rfl
          simp only [putS, show isO [.own (poolD a2 b2), .val (tN p), .val (.int w), .val (.int at'), .own (.lst R), s5, .own (.lst ((nI p).set at' (.int (p.getD j 0 : Nat))))] 6 = true from rfl, if_true, hb, show getO [.own (poolD a2 b2), .val (tN p), .val (.int w), .val (.int at'), .own (.lst R), s5, .own (.lst ((nI p).set at' (.int (p.getD j 0 : Nat))))] 6 = some (.lst ((nI p).set at' (.int (p.getD j 0 : Nat)))) from rfl, k2]
          rfl
        simp only [putSs]
        erw [q1]
        simp only [q2]
      · refine wp_ret (d := .lst (R ++ [.tup O])) (r_e (v_binA (op_o rfl) (op_v (v_lst (vs_cons (v_bi (as_o rfl as_nil) rfl (d := .tup O) rfl) vs_nil) (by show 1 ≤ 16777216; decide))) rfl rfl (add_lst (by show R.length + 1 ≤ SZ; unfold SZ; omega))) nofun nofun) ⟨_, rfl, a2, b2, R ++ [.tup O], rfl, rfl, fun v hv => ?_, by simp only [List.length_append, List.length_cons, List.length_nil]; omega⟩
        rcases List.mem_append.mp hv with z | z
        · exact hR v z
        · simp at z
          subst z
          refine okv_tup (fun d hd => ?_) (by simp only [O, List.length_set, nI_len]; omega)
          rcases List.mem_or_eq_of_mem_set hd with z | z
          · rcases List.mem_or_eq_of_mem_set z with y | y
            · exact nI_ok d y
            · subst y; rfl
          · subst z; rfl)
  subst h2 h3
  exact ⟨a', b', vs, h1, h4, h5⟩
end K76
set_option Elab.async false
set_option linter.all false
set_option maxRecDepth 100000
namespace K76
open PySem Qx LU
theorem hasL_congr {M M' : Nat → Nat → Bool} {R w : Nat} (h : ∀ i c, i < R → c < w → M i c = M' i c) : HasL M R w ↔ HasL M' R w :=
  ⟨fun ⟨p, hp, hs⟩ => ⟨p, hp, (stand_congr hp h).mp hs⟩, fun ⟨p, hp, hs⟩ => ⟨p, hp, (stand_congr hp h).mpr hs⟩⟩
theorem lineUp_non {T : List (List Int)} {w : Nat} {r : D} (h : LineUp T w r) : isNon r = false ↔ HasL (Mt T) T.length w := by
  rcases h with ⟨p, e, hp, hs⟩ | ⟨e, hn⟩
  · subst e
    exact ⟨fun _ => ⟨p, hp, hs⟩, fun _ => rfl⟩
  · subst e
    exact ⟨fun z => (by cases z), fun z => (hn z).elim⟩
theorem lineUp_pld {T : List (List Int)} {w : Nat} {r : D} (hw : w ≤ 9) (h : LineUp T w r) : pld 1 r = true := by
  rcases h with ⟨p, e, hp, hs⟩ | ⟨e, hn⟩
  · subst e
    simp only [tN, pld, Bool.and_eq_true, List.all_map, List.all_eq_true, decide_eq_true_eq, List.length_map]
    refine ⟨fun x _ => rfl, by rw [hp.1]; unfold SZ; omega⟩
  · subst e; rfl
theorem eq_bl (x y : Bool) : cmpD .eq (.bl x) (.bl y) = some (x == y) := rfl
theorem ne_bl (x y : Bool) : cmpD .ne (.bl x) (.bl y) = some (!(x == y)) := rfl
theorem isn_non (r : D) : cmpD .isn r .non = some (!isNon r) := by cases r <;> rfl
def movedT (T : List (List Int)) (p : List Nat) : List (List Int) := T.map fun r => p.map fun k => r.getD k 0
theorem moved_ok {T : List (List Int)} {w : Nat} {p : List Nat} (h : WF T w) (hp : IsP w p) : WF (movedT T p) w ∧ (HasL (Mt (movedT T p)) (movedT T p).length w ↔ HasL (Mt T) T.length w) := by
  have hl : (movedT T p).length = T.length := by unfold movedT; rw [List.length_map]
  refine ⟨⟨by rw [hl]; exact h.1, by rw [hl]; exact h.2.1, h.2.2.1, h.2.2.2.1, fun r hr => ?_⟩, ?_⟩
  · obtain ⟨s, hs, e⟩ := List.mem_map.mp hr
    subst e
    have hs' := h.2.2.2.2 s hs
    refine ⟨by rw [List.length_map, hp.1], fun x hx => ?_⟩
    obtain ⟨k, hk, e⟩ := List.mem_map.mp hx
    subst e
    have hk : k < s.length := by rw [hs'.1]; exact hp.2.2 k hk
    refine hs'.2 _ ?_
    rw [List.getD_eq_getElem?_getD, List.getElem?_eq_getElem hk]
    exact List.getElem_mem hk
  · rw [hl, ← hasL_moved (M := Mt T) (R := T.length) hp]
    refine hasL_congr fun i c hi hc => ?_
    unfold Mt movedT
    have e1 : (T.map fun r => p.map fun k => r.getD k 0).getD i [] = p.map fun k => (T.getD i []).getD k 0 := by
      rw [List.getD_eq_getElem?_getD, List.getElem?_map, List.getD_eq_getElem?_getD, List.getElem?_eq_getElem hi]
      rfl
    have e2 : (p.map fun k => (T.getD i []).getD k 0).getD c 0 = (T.getD i []).getD (p.getD c 0) 0 := by
      have hc' : c < p.length := by rw [hp.1]; exact hc
      rw [List.getD_eq_getElem?_getD, List.getElem?_map, List.getElem?_eq_getElem hc']
      have : p.getD c 0 = p[c] := by rw [List.getD_eq_getElem?_getD, List.getElem?_eq_getElem hc']; rfl
      rw [this]; rfl
    rw [e1, e2]
theorem okv_tN {p : List Nat} (h : p.length ≤ 100) : okv (tN p) = true := okv_tup nI_ok (by rw [List.length_map]; exact h)
theorem bool_iff {a b : Bool} {P : Prop} (h1 : a = true ↔ P) (h2 : b = true ↔ P) : a = b := by
  cases a <;> cases b <;> simp_all
theorem sp__law_right (n : Nat) (a b : Int) (T : List (List Int)) (w : Nat) (has : Bool) (h : WF T w) (hh : has = true ↔ HasL (Mt T) T.length w) : ∃ a' b', callD dds (n + 8) 33 [poolD a b, tabD T, .bl has] = some (.bl true, [poolD a' b']) := by
  have w9 := h.2.2.2.1
  have w1 := h.2.2.1
  have hsz : w ≤ SZ := by unfold SZ; omega
  obtain ⟨told, L1, L2⟩ := sp_line_up n T w h
  have hnon : (!isNon told) = has := bool_iff (P := HasL (Mt T) T.length w) (by rw [Bool.not_eq_true']; exact lineUp_non L2) hh
  have hal := alike_spec (n := n + 5) (ds := dds) (g := 24) rfl rfl 1 told told (lineUp_pld w9 L2) (lineUp_pld w9 L2)
  rw [sameD_refl (k := 0)] at hal
  obtain ⟨r, os, h1, a', b', h2, h3⟩ := call_wp (n := n + 7) (ds := dds) (f := 33) (args := [poolD a b, tabD T, .bl has]) (Q := fun r os => ∃ a' b', r = .bl true ∧ os = [poolD a' b']) [.own (poolD a b), .val (tabD T), .val (.bl has), .no, .no, .no, .no, .no, .no, .no, .no, .no] rfl rfl rfl (by
    refine wp_asg (e2 := [.own (poolD a b), .val (tabD T), .val (.bl has), .val (.int w), .no, .no, .no, .no, .no, .no, .no, .no]) (v_wide h rfl) rfl ?_
    refine wp_asg (e2 := [.own (poolD a b), .val (tabD T), .val (.bl has), .val (.int w), .val told, .no, .no, .no, .no, .no, .no, .no]) (v_call (as_v (v_var rfl) as_nil) rfl rfl L1 (.inl rfl)) rfl ?_
    refine wp_iteF (v_or (p := false) (q := false) (v_cmp (v_cmp (v_var rfl) v_cst (isn_non _)) (v_var rfl) (by rw [ne_bl, hnon]; simp)) fun _ => (v_nt (p := true) (v_call (as_v (v_callP (as_v (v_var rfl) as_nil) rfl rfl rfl L1 (.inl rfl)) (as_v (v_var rfl) as_nil)) rfl rfl hal (.inl rfl)))) (wp_nil ?_)
    refine wp_par (e2 := [.own (poolD a b), .val (tabD T), .val (.bl has), .val (.int w), .val told, .no, .no, .no, .own (.lst (nI (List.range w))), .own (.lst []), .no, .no]) (vs_cons (v_bi (as_v (v_var rfl) as_nil) rfl (d := .lst (nI (List.range w))) (lrange_nat w hsz)) (vs_cons (v_lst vs_nil (by decide)) vs_nil)) rfl rfl ?_
    refine wp_draw (n := n + 6) (tk := 23) (w := w) rfl (by decide) (by decide) (by decide) (by omega) rfl rfl rfl fun a b p hp => ?_
    refine wp_asg (e1 := [.own (poolD a b), .val (tabD T), .val (.bl has), .val (.int w), .val told, .no, .no, .no, .own (.lst []), .own (.lst (nI p)), .no, .no]) (e2 := [.own (poolD a b), .val (tabD T), .val (.bl has), .val (.int w), .val told, .val (tN p), .no, .no, .own (.lst []), .own (.lst (nI p)), .no, .no]) (v_bi (as_o rfl as_nil) rfl (d := tN p) rfl) rfl ?_
    -- from the base on
    have rest : ∀ q : List Nat, q.length = w → Wp (callD dds (n + 7)) (rfsOf dds) 3 (d_law_right.body.drop 7) [.own (poolD a b), .val (tabD T), .val (.bl has), .val (.int w), .val told, .val (tN q), .no, .no, .own (.lst []), .own (.lst (nI p)), .no, .no] (Ends [0] fun r os => ∃ a' b', r = .bl true ∧ os = [poolD a' b']) := by
      intro q hq
      obtain ⟨a, b, vs, B1, B2, B3⟩ := sp__law_bent (n + 5) a b q w hq w1 w9
      refine wp_for (e1 := [.own (poolD a b), .val (tabD T), .val (.bl has), .val (.int w), .val told, .val (tN q), .no, .no, .own (.lst []), .own (.lst (nI p)), .no, .no]) (F := id) (vs ++ [tN p, tN (List.range w)]) (fun _ e => ∃ s6, e = [.own (poolD a b), .val (tabD T), .val (.bl has), .val (.int w), .val told, .val (tN q), s6, .no, .own (.lst []), .own (.lst (nI p)), .no, .no] ∧ isO [s6] 0 = false)
        (it_seq (v_bin (v_callR (as_o rfl (as_v (v_var rfl) (as_v (v_var rfl) as_nil))) rfl rfl rfl rfl rfl B1) (v_lst (vs_cons (v_bi (as_o rfl as_nil) rfl (d := tN p) rfl) (vs_cons (v_bi (as_v (v_var rfl) as_nil) rfl (d := tN (List.range w)) (trange_nat w hsz)) vs_nil)) (by show 2 ≤ 16777216; decide)) (add_lst (by show vs.length + 2 ≤ SZ; unfold SZ; omega))) rfl) (by simp) ⟨_, rfl, rfl⟩ (fun _ _ _ => rfl) ?_ ?_
      · rintro zs v ws e hz ⟨s6, he, h6⟩
        subst he
        have hv : okv v = true := by
          have : v ∈ vs ++ [tN p, tN (List.range w)] := by rw [hz]; simp
          rcases List.mem_append.mp this with z | z
          · exact B2 v z
          · simp only [List.mem_cons, List.not_mem_nil, or_false] at z
            rcases z with z | z <;> subst z
            · exact okv_tN (by rw [hp.1]; omega)
            · exact okv_tN (by rw [List.length_range]; omega)
        obtain ⟨x, x1, x2⟩ := sp_is_line_up n T w v h hv
        obtain ⟨y, y1, y2⟩ := sp__law_is_line_up (n + 5) T w v h hv
        have exy : x = y := bool_iff x2 y2
        subst exy
        refine ⟨[.own (poolD a b), .val (tabD T), .val (.bl has), .val (.int w), .val told, .val (tN q), .val v, .no, .own (.lst []), .own (.lst (nI p)), .no, .no], putN (i := 6) h6 (by show 6 < 12; decide), ?_⟩
        exact wp_iteF (v_nt (p := true) (v_eq (v_call (as_v (v_call (as_v (v_var rfl) (as_v (v_var rfl) as_nil)) rfl rfl x1 (.inl rfl)) (as_v (v_call (as_v (v_var rfl) (as_v (v_var rfl) as_nil)) rfl rfl y1 (.inl rfl)) as_nil)) rfl rfl (says_spec (n := n + 6) (ds := dds) (g := 26) rfl x x) (.inl rfl)) (by simp))) (wp_nil (wp_nil ⟨_, rfl, rfl⟩))
      · rintro e ⟨s6, he, h6⟩
        subst he
        obtain ⟨x, x1, x2⟩ := sp_is_line_up n T w (tN q) h (okv_tN (by omega))
        obtain ⟨y, y1, y2⟩ := sp__law_is_line_up (n + 5) T w (tN q) h (okv_tN (by omega))
        have exy : x = y := bool_iff x2 y2
        subst exy
        refine wp_iteF (v_nt (p := true) (v_eq (v_call (as_v (v_callP (bs := [.v (tabD T), .v (tN q)]) (as_v (v_var rfl) (as_v (v_var rfl) as_nil)) rfl rfl rfl x1 (.inl rfl)) (as_v (v_call (as_v (v_var rfl) (as_v (v_var rfl) as_nil)) rfl rfl y1 (.inl rfl)) as_nil)) rfl rfl (says_spec (n := n + 6) (ds := dds) (g := 26) rfl x x) (.inl rfl)) (by simp))) (wp_nil ?_)
        obtain ⟨m1, m2⟩ := moved_ok h hp
        have hcol : ∀ r ∈ T, ∀ s6 : Sl, evE (callD dds (n + 7)) (rfsOf dds) (.bi .tuple [(.comp (.sub (.var 10) (.var 11)) [11] (.nm 11) (.seq (.own 9)) (.cst (.bl true)))]) [.own (poolD a b), .val (tabD T), .val (.bl has), .val (.int w), .val told, .val (tN q), s6, .no, .own (.lst []), .own (.lst (nI p)), .val (tI r), .no] = some (tI (p.map fun k => r.getD k 0), [.own (poolD a b), .val (tabD T), .val (.bl has), .val (.int w), .val told, .val (tN q), s6, .no, .own (.lst []), .own (.lst (nI p)), .val (tI r), .no]) := by
          intro r hr s6
          refine v_bi (as_v (v_compT p (fun (c : Nat) => D.int c) (fun k => .int (r.getD k 0)) (it_seqO (d := .lst (nI p)) rfl rfl) rfl rfl (sameD_refl (k := 0) _) (fun k hk => ⟨[.own (poolD a b), .val (tabD T), .val (.bl has), .val (.int w), .val told, .val (tN q), s6, .no, .own (.lst []), .own (.lst (nI p)), .val (tI r), .val (.int k)], rfl, v_sub (v_var rfl) (v_var rfl) (row_sub (by rw [(h.2.2.2.2 r hr).1]; exact hp.2.2 k hk)), rfl⟩) (by rw [hp.1]; exact hsz)) as_nil) rfl ?_
          unfold tI
          rw [List.map_map]; rfl
        refine wp_asg (d := tabD (movedT T p)) (e2 := [.own (poolD a b), .val (tabD T), .val (.bl has), .val (.int w), .val told, .val (tN q), s6, .val (tabD (movedT T p)), .own (.lst []), .own (.lst (nI p)), .no, .no]) (v_bi (as_v (v_compT T tI (fun r => tI (p.map fun k => r.getD k 0)) (it_seq (v_var rfl) rfl) rfl rfl rfl (fun r hr => ⟨[.own (poolD a b), .val (tabD T), .val (.bl has), .val (.int w), .val told, .val (tN q), s6, .no, .own (.lst []), .own (.lst (nI p)), .val (tI r), .no], rfl, hcol r hr s6, rfl⟩) (by have := h.2.1; unfold SZ; omega)) as_nil) rfl ?_) rfl ?_
        · unfold tabD movedT
          rw [List.map_map]; rfl
        obtain ⟨r', k1, k2⟩ := sp_line_up n (movedT T p) w m1
        have hnon' : (!isNon r') = has := bool_iff (P := HasL (Mt T) T.length w) (by rw [Bool.not_eq_true', lineUp_non k2, m2]) hh
        refine wp_ret (d := .bl true) (r_e (v_cmp (v_cmp (v_call (as_v (v_var rfl) as_nil) rfl rfl k1 (.inl rfl)) v_cst (isn_non _)) (v_var rfl) (by rw [eq_bl, hnon']; simp)) nofun nofun) ⟨_, rfl, a, b, rfl, rfl⟩
    rcases L2 with ⟨q, e, hq, hs⟩ | ⟨e, hn⟩
    · subst e
      obtain ⟨y, y1, y2⟩ := sp__law_is_line_up (n + 5) T w (tN q) h (okv_tN (by rw [hq.1]; omega))
      have ey : y = true := y2.mpr ⟨q, rfl, hq, hs⟩
      subst ey
      refine wp_iteT (v_cmp (v_var rfl) v_cst (isn_non _)) ?_
      refine wp_iteF (v_nt (p := true) (v_call (as_v (v_var rfl) (as_v (v_var rfl) as_nil)) rfl rfl y1 (.inl rfl))) (wp_nil ?_)
      exact wp_asg (e2 := [.own (poolD a b), .val (tabD T), .val (.bl has), .val (.int w), .val (tN q), .val (tN q), .no, .no, .own (.lst []), .own (.lst (nI p)), .no, .no]) (v_var rfl) rfl (wp_nil (rest q hq.1))
    · subst e
      exact wp_iteF (v_cmp (v_var rfl) v_cst (isn_non _)) (wp_nil (rest p hp.1)))
  subst h2 
  obtain ⟨e1, e2⟩ := h3
  exact ⟨a', b', h1⟩
end K76
set_option Elab.async false
set_option linter.all false
set_option maxRecDepth 100000
namespace K76
open PySem Qx LU
theorem slc_to' {ds : List D} {k : Nat} (h : k ≤ ds.length) : slcD (.tup ds) .non (.int (k : Nat)) = some (.tup (ds.take k)) := by
  simp only [slcD, cutD, bndD, Option.bind_some, Option.map_some, List.drop_zero]
  rw [if_neg (by omega)]
  simp only [Int.toNat_natCast, Nat.min_eq_left h, Nat.sub_zero]
theorem slc_from {ds : List D} {k : Nat} (h : k ≤ ds.length) : slcD (.tup ds) (.int (k : Nat)) .non = some (.tup (ds.drop k)) := by
  simp only [slcD, cutD, bndD, Option.bind_some, Option.map_some]
  rw [if_neg (by omega)]
  simp only [Int.toNat_natCast, Nat.min_eq_left h]
  rw [List.take_of_length_le (by rw [List.length_drop]; omega)]
theorem rep_mul {k : Nat} (h1 : 2 ≤ k) (h2 : k ≤ 1000) : binD .mul (.tup [.int 0]) (.int (k : Nat)) = some (.tup ((List.replicate k (0 : Int)).map .int)) := by
  simp only [binD, mulB]
  rw [if_pos ⟨by omega, by omega, by simp, by decide⟩]
  simp only [Int.toNat_natCast, Option.some.injEq, D.tup.injEq]
  clear h1 h2
  induction k with
  | zero => rfl
  | succ k ih =>
    rw [List.replicate_succ, List.flatten_cons, ih, List.replicate_succ]
    rfl
noncomputable def stB (T : List (List Int)) (w : Nat) (p : List Nat) : Bool := @decide (Stand (Mt T) T.length w p) (Classical.propDecidable _)
theorem stB_iff {T : List (List Int)} {w : Nat} {p : List Nat} : stB T w p = true ↔ Stand (Mt T) T.length w p := by
  unfold stB
  exact @decide_eq_true_iff _ (Classical.propDecidable _)
def nearT (T : List (List Int)) (i c : Nat) : List (List Int) := (T.take i ++ [((T.getD i []).take c ++ [1 - (T.getD i []).getD c 0]) ++ (T.getD i []).drop (c + 1)]) ++ T.drop (i + 1)
theorem near_ok {T : List (List Int)} {w i c : Nat} (h : WF T w) (hi : i < T.length) (hc : c < w) : WF (nearT T i c) w := by
  have hrow := h.2.2.2.2 _ (h.mem hi)
  have hx : (T.getD i []).getD c 0 = 0 ∨ (T.getD i []).getD c 0 = 1 := by
    have hc' : c < (T.getD i []).length := by rw [hrow.1]; exact hc
    refine hrow.2 _ ?_
    rw [List.getD_eq_getElem?_getD (l := T.getD i []), List.getElem?_eq_getElem hc']
    exact List.getElem_mem hc'
  have hl : (nearT T i c).length = T.length := by
    unfold nearT
    simp only [List.length_append, List.length_take, List.length_cons, List.length_nil, List.length_drop]
    omega
  refine ⟨by rw [hl]; exact h.1, by rw [hl]; exact h.2.1, h.2.2.1, h.2.2.2.1, fun r hr => ?_⟩
  unfold nearT at hr
  rcases List.mem_append.mp hr with z | z
  · rcases List.mem_append.mp z with y | y
    · exact h.2.2.2.2 r (List.mem_of_mem_take y)
    · simp only [List.mem_cons, List.not_mem_nil, or_false] at y
      subst y
      refine ⟨?_, fun x hx' => ?_⟩
      · simp only [List.length_append, List.length_take, List.length_cons, List.length_nil, List.length_drop, hrow.1]
        omega
      · rcases List.mem_append.mp hx' with y | y
        · rcases List.mem_append.mp y with u | u
          · exact hrow.2 x (List.mem_of_mem_take u)
          · simp only [List.mem_cons, List.not_mem_nil, or_false] at u
            subst u
            rcases hx with e | e <;> rw [e] <;> simp
        · exact hrow.2 x (List.mem_of_mem_drop y)
  · exact h.2.2.2.2 r (List.mem_of_mem_drop z)
def plainT (k : Nat) : List (List Int) := [[1, 1, 0] ++ List.replicate k 0, [0, 1, 1] ++ List.replicate k 0, [1, 0, 1] ++ List.replicate k 0]
theorem plain_row {k : Nat} {r : List Int} (h : r ∈ plainT k) : r.length = 3 + k ∧ ∀ x ∈ r, x = 0 ∨ x = 1 := by
  simp only [plainT, List.mem_cons, List.not_mem_nil, or_false] at h
  rcases h with e | e | e <;> subst e <;> refine ⟨by simp; omega, fun x hx => ?_⟩ <;>
  · simp only [List.cons_append, List.nil_append, List.mem_cons, List.mem_replicate] at hx
    omega
theorem plain_ok {k : Nat} (hk : k ≤ 6) : WF (plainT k) (3 + k) ∧ ¬ HasL (Mt (plainT k)) (plainT k).length (3 + k) := by
  refine ⟨⟨by decide +revert, by show 3 ≤ 9; decide, by omega, by omega, fun r hr => plain_row hr⟩, ?_⟩
  exact no_ring (R := 3) (i := 0) (j := 1) (k := 2) (by omega) (by omega) (by omega) (by omega) rfl rfl rfl rfl rfl rfl rfl rfl rfl
theorem both_ok {G : List (List Int)} {k : Nat} (hk : k ≤ 6) (h : WF G (3 + k)) (h9 : G.length = 9) : WF (G.take 6 ++ plainT k) (3 + k) ∧ ¬ HasL (Mt (G.take 6 ++ plainT k)) (G.take 6 ++ plainT k).length (3 + k) := by
  have hl : (G.take 6 ++ plainT k).length = 9 := by simp [plainT, h9]
  have hg : ∀ j, (G.take 6 ++ plainT k).getD (6 + j) [] = (plainT k).getD j [] := fun j => by
    rw [List.getD_eq_getElem?_getD, List.getElem?_append_right (by simp [h9])]
    simp [h9]
  refine ⟨⟨by omega, by omega, h.2.2.1, h.2.2.2.1, fun r hr => ?_⟩, ?_⟩
  · rcases List.mem_append.mp hr with z | z
    · exact h.2.2.2.2 r (List.mem_of_mem_take z)
    · exact plain_row z
  · rw [hl]
    have m : ∀ j c, Mt (G.take 6 ++ plainT k) (6 + j) c = Mt (plainT k) j c := fun j c => by
      unfold Mt
      rw [hg j]
    refine no_ring (i := 6 + 0) (j := 6 + 1) (k := 6 + 2) (by omega) (by omega) (by omega) (by omega) ?_ ?_ ?_ ?_ ?_ ?_ ?_ ?_ ?_ <;> rw [m] <;> rfl
theorem sp_law (n : Nat) (xs : List Int) : callD dds (n + 9) 34 [.lst (xs.map .int)] = some (.bl true, []) := by
  obtain ⟨tn, ht1, ht2⟩ : ∃ t : Nat, biD .min2 [.int 10, .int (if (((xs.map D.int).length : Int)) > 3 then ((xs.map D.int).length : Int) else 3)] = some (.int (t : Nat)) ∧ t ≤ 10 := by
    have : biD .min2 [.int 10, .int (if (((xs.map D.int).length : Int)) > 3 then ((xs.map D.int).length : Int) else 3)] = some (.int (if (if (((xs.map D.int).length : Int)) > 3 then ((xs.map D.int).length : Int) else 3) < 10 then (if (((xs.map D.int).length : Int)) > 3 then ((xs.map D.int).length : Int) else 3) else 10)) := rfl
    rw [this]
    generalize (xs.map D.int).length = L
    by_cases c : (L : Int) > 3
    · simp only [if_pos c]
      by_cases c2 : (L : Int) < 10
      · simp only [if_pos c2]; exact ⟨L, rfl, by omega⟩
      · simp only [if_neg c2]; exact ⟨10, rfl, by omega⟩
    · simp only [if_neg c]; exact ⟨3, rfl, by omega⟩
  generalize hX : D.lst (xs.map .int) = X at *
  obtain ⟨r, h1, h2⟩ := call_wp1 (n := n + 8) (ds := dds) (f := 34) (args := [X]) (Q := fun r => r = .bl true) [.val X, .no, .no, .no, .no, .no, .no, .no, .no, .no, .no, .no, .no, .no, .no] rfl rfl rfl rfl (by
    refine wp_for (F := fun (k : Nat) => D.int k) (List.range tn) (fun _ e => ∃ s1 s2 s3 s4 s5 s6 s7 s8 s9 s10 s11 s12 s13, e = [.val X, s1, s2, s3, s4, s5, s6, s7, s8, s9, s10, s11, s12, s13, .no] ∧ isO [s1] 0 = false ∧ isO [s3] 0 = false ∧ isO [s4] 0 = false ∧ isO [s5] 0 = false ∧ isO [s6] 0 = false ∧ isO [s7] 0 = false ∧ isO [s8] 0 = false ∧ isO [s9] 0 = false ∧ isO [s10] 0 = false ∧ isO [s11] 0 = false ∧ isO [s12] 0 = false ∧ isO [s13] 0 = false)
      (it_rngP (vs_cons (v_bi (as_v v_cst (as_v (v_bi (as_v v_cst (as_v (v_bi (as_v (v_var rfl) as_nil) rfl (d := .int ((xs.map D.int).length : Int)) (by rw [← hX]; rfl)) as_nil)) rfl (d := _) rfl) as_nil)) rfl (d := _) ht1) vs_nil) (rng1 tn (by unfold SZ; omega))) rfl ⟨_, _, _, _, _, _, _, _, _, _, _, _, _, rfl, rfl, rfl, rfl, rfl, rfl, rfl, rfl, rfl, rfl, rfl, rfl, rfl⟩ (fun _ _ _ => rfl) ?_ ?_
    · rintro zs turn ws e hz ⟨s1, s2, s3, s4, s5, s6, s7, s8, s9, s10, s11, s12, s13, he, i1, i3, i4, i5, i6, i7, i8, i9, i10, i11, i12, i13⟩
      subst he
      refine ⟨[.val X, .val (.int turn), s2, s3, s4, s5, s6, s7, s8, s9, s10, s11, s12, s13, .no], putN (i := 1) i1 (by show 1 < 15; decide), ?_⟩
      obtain ⟨a, b, k1⟩ := pool_spec (n := n + 7) (ds := dds) (g := 22) rfl xs turn
      rw [hX] at k1
      refine wp_new (d := poolD a b) (e1 := [.val X, .val (.int turn), s2, s3, s4, s5, s6, s7, s8, s9, s10, s11, s12, s13, .no]) (v_call (as_v (v_var rfl) (as_v (v_var rfl) as_nil)) rfl rfl k1 (.inl rfl)) rfl (by decide) (by show 2 < 15; decide) ?_
      -- wide
      obtain ⟨q, q1, q2⟩ : ∃ q : Nat, subD (.tup [.int 5, .int 6]) (.int (if decide ((turn : Int) = 0) = true then 1 else 0)) = some (.int (q : Nat)) ∧ 1 ≤ q ∧ q ≤ 6 := by
        by_cases c : (turn : Int) = 0
        · rw [if_pos (decide_eq_true c)]; exact ⟨6, rfl, by omega, by omega⟩
        · rw [if_neg (by simpa using c)]; exact ⟨5, rfl, by omega, by omega⟩
      obtain ⟨r0, a, b, t1, x1⟩ := take_spec (n := n + 7) (ds := dds) (g := 23) rfl a b q q2.1 (by omega)
      obtain ⟨w, hw⟩ : ∃ w : Nat, w = 1 + r0 := ⟨_, rfl⟩
      have w1 : 1 ≤ w := by omega
      have w6 : w ≤ 6 := by omega
      refine wp_asg (d := .int (w : Nat)) (e1 := [.val X, .val (.int turn), .own (poolD a b), s3, s4, s5, s6, s7, s8, s9, s10, s11, s12, s13, .no]) (e2 := [.val X, .val (.int turn), .own (poolD a b), .val (.int w), s4, s5, s6, s7, s8, s9, s10, s11, s12, s13, .no])
        (v_bin v_cst (v_callR (as_o rfl (as_v (v_sub (v_tup (vs_cons v_cst (vs_cons v_cst vs_nil)) (by decide)) (v_bi (as_v (v_cmp (op := .eq) (dx := .int (turn : Nat)) (dy := .int 0) (v_var rfl) v_cst (eqQ_int _ _)) as_nil) rfl (d := .int (if decide ((turn : Int) = 0) = true then 1 else 0)) rfl) q1) as_nil)) rfl rfl rfl rfl rfl t1) (by rw [hw]; show some (D.int (1 + (r0 : Int))) = _; rw [Int.natCast_add]; rfl)) (putN (i := 3) i3 (by show 3 < 15; decide)) ?_
      -- many
      obtain ⟨r1, a, b, t2, x2⟩ := take_spec (n := n + 7) (ds := dds) (g := 23) rfl a b 9 (by omega) (by omega)
      obtain ⟨m, hm⟩ : ∃ m : Nat, m = 1 + r1 := ⟨_, rfl⟩
      have m1 : 1 ≤ m := by omega
      have m9 : m ≤ 9 := by omega
      refine wp_asg (d := .int (m : Nat)) (e1 := [.val X, .val (.int turn), .own (poolD a b), .val (.int w), s4, s5, s6, s7, s8, s9, s10, s11, s12, s13, .no]) (e2 := [.val X, .val (.int turn), .own (poolD a b), .val (.int w), .val (.int m), s5, s6, s7, s8, s9, s10, s11, s12, s13, .no])
        (v_bin v_cst (v_callR (as_o rfl (as_v v_cst as_nil)) rfl rfl rfl rfl rfl t2) (by rw [hm]; show some (D.int (1 + (r1 : Int))) = _; rw [Int.natCast_add]; rfl)) (putN (i := 4) i4 (by show 4 < 15; decide)) ?_
      -- lined
      obtain ⟨a, b, T, t3, hT, hTl, hTh⟩ := sp__law_lined (n + 6) a b m w m1 m9 w1 (by omega)
      refine wp_asg (d := tabD T) (e1 := [.val X, .val (.int turn), .own (poolD a b), .val (.int w), .val (.int m), s5, s6, s7, s8, s9, s10, s11, s12, s13, .no]) (e2 := [.val X, .val (.int turn), .own (poolD a b), .val (.int w), .val (.int m), .val (tabD T), s6, s7, s8, s9, s10, s11, s12, s13, .no])
        (v_callR (as_o rfl (as_v (v_var rfl) (as_v (v_var rfl) as_nil))) rfl rfl rfl rfl rfl t3) (putN (i := 5) i5 (by show 5 < 15; decide)) ?_
      -- at, to
      obtain ⟨at', a1, b1, t4, x4⟩ := take_spec (n := n + 7) (ds := dds) (g := 23) rfl a b m m1 (by omega)
      obtain ⟨to, a2, b2, t5, x5⟩ := take_spec (n := n + 7) (ds := dds) (g := 23) rfl a1 b1 w w1 (by omega)
      refine wp_par (e2 := [.val X, .val (.int turn), .own (poolD a2 b2), .val (.int w), .val (.int m), .val (tabD T), s6, s7, s8, s9, s10, s11, .val (.int at'), .val (.int to), .no])
        (vs_cons (e1 := [.val X, .val (.int turn), .own (poolD a1 b1), .val (.int w), .val (.int m), .val (tabD T), s6, s7, s8, s9, s10, s11, s12, s13, .no]) (v_callR (as_o rfl (as_v (v_var rfl) as_nil)) rfl rfl rfl rfl rfl t4) (vs_cons (e1 := [.val X, .val (.int turn), .own (poolD a2 b2), .val (.int w), .val (.int m), .val (tabD T), s6, s7, s8, s9, s10, s11, s12, s13, .no]) (v_callR (as_o rfl (as_v (v_var rfl) as_nil)) rfl rfl rfl rfl rfl t5) vs_nil)) rfl (putPar2 (i := 12) (j := 13) i12 (by show 12 < 15; decide) i13 (by show 13 < 15; decide)) ?_
      -- near
      have hat : at' < T.length := by omega
      have hrl : (T.getD at' []).length = w := hT.row hat
      have n1 : slcD (tabD T) .non (.int (at' : Nat)) = some (.tup ((T.take at').map tI)) := by
        rw [List.map_take]; exact slc_to' (by rw [List.length_map]; omega)
      have n2 : slcD (tI (T.getD at' [])) .non (.int (to : Nat)) = some (tI ((T.getD at' []).take to)) := by
        unfold tI
        rw [List.map_take]; exact slc_to' (by rw [List.length_map]; omega)
      have n3 : slcD (tI (T.getD at' [])) (.int ((to : Int) + 1)) .non = some (tI ((T.getD at' []).drop (to + 1))) := by
        unfold tI
        rw [List.map_drop]; exact slc_from (k := to + 1) (by rw [List.length_map]; omega)
      have n4 : slcD (tabD T) (.int ((at' : Int) + 1)) .non = some (.tup ((T.drop (at' + 1)).map tI)) := by
        rw [List.map_drop]; exact slc_from (k := at' + 1) (by rw [List.length_map]; omega)
      have g1 : subD (tabD T) (.int (at' : Nat)) = some (tI (T.getD at' [])) := tab_sub hat
      have g2 : subD (tI (T.getD at' [])) (.int (to : Nat)) = some (.int ((T.getD at' []).getD to 0)) := row_sub (by omega)
      have hTl9 := hT.2.1
      refine wp_asg (d := tabD (nearT T at' to)) (e2 := [.val X, .val (.int turn), .own (poolD a2 b2), .val (.int w), .val (.int m), .val (tabD T), .val (tabD (nearT T at' to)), s7, s8, s9, s10, s11, .val (.int at'), .val (.int to), .no])
        (v_bin (dx := .tup (((T.take at') ++ [((T.getD at' []).take to ++ [1 - (T.getD at' []).getD to 0]) ++ (T.getD at' []).drop (to + 1)]).map tI)) (v_bin (v_slc (v_var rfl) v_cst (v_var rfl) n1) (v_tup (vs_cons (v_bin (dx := tI ((T.getD at' []).take to ++ [1 - (T.getD at' []).getD to 0])) (v_bin (v_slc (v_sub (v_var rfl) (v_var rfl) g1) v_cst (v_var rfl) n2) (v_tup (vs_cons (v_bin v_cst (v_sub (v_sub (v_var rfl) (v_var rfl) g1) (v_var rfl) g2) rfl) vs_nil) (by show 1 ≤ 16777216; decide)) ?e1) (v_slc (v_sub (v_var rfl) (v_var rfl) g1) (v_bin (v_var rfl) v_cst rfl) v_cst n3) (d := tI (((T.getD at' []).take to ++ [1 - (T.getD at' []).getD to 0]) ++ (T.getD at' []).drop (to + 1))) ?e2) vs_nil) (by show 1 ≤ 16777216; decide)) ?e3) (v_slc (v_var rfl) (v_bin (v_var rfl) v_cst rfl) v_cst n4) ?e4) (putN (i := 6) i6 (by show 6 < 15; decide)) ?rest
      case e1 =>
        refine (add_tup ?_).trans ?_
        · simp only [List.length_map, List.length_take, List.length_cons, List.length_nil]; unfold SZ; omega
        · unfold tI; rw [List.map_append]; rfl
      case e2 =>
        refine (add_tup ?_).trans ?_
        · simp only [List.length_map, List.length_append, List.length_take, List.length_drop, List.length_cons, List.length_nil]; unfold SZ; omega
        · unfold tI; rw [← List.map_append]
      case e3 =>
        refine (add_tup ?_).trans ?_
        · simp only [List.length_map, List.length_take, List.length_cons, List.length_nil]; unfold SZ; omega
        · rw [List.map_append]; rfl
      case e4 =>
        refine (add_tup ?_).trans ?_
        · simp only [List.length_map, List.length_append, List.length_take, List.length_drop, List.length_cons, List.length_nil]; unfold SZ; omega
        · rw [← List.map_append]; rfl
      case rest =>
      have hN := near_ok hT hat x5
      -- orders
      obtain ⟨O, o1, o2⟩ := sp__law_orders (n + 7) w w6
      refine wp_asg (e2 := [.val X, .val (.int turn), .own (poolD a2 b2), .val (.int w), .val (.int m), .val (tabD T), .val (tabD (nearT T at' to)), .val (.lst (O.map tN)), s8, s9, s10, s11, .val (.int at'), .val (.int to), .no]) (v_call (as_v (v_var rfl) as_nil) rfl rfl o1 (.inl rfl)) (putN (i := 7) i7 (by show 7 < 15; decide)) ?_
      have hO46 : O.length ≤ 46656 := Nat.le_trans o2.1 (pow6 w6 w6)
      -- drawn table
      obtain ⟨r3, a3, b3, t6, x6⟩ := take_spec (n := n + 7) (ds := dds) (g := 23) rfl a2 b2 5 (by omega) (by omega)
      obtain ⟨a4, b4, U, t7, hU, hUl⟩ := sp__law_table (n + 6) a3 b3 (1 + r3) w (by omega) (by omega) w1 (by omega)
      refine wp_for (e1 := [.val X, .val (.int turn), .own (poolD a4 b4), .val (.int w), .val (.int m), .val (tabD T), .val (tabD (nearT T at' to)), .val (.lst (O.map tN)), s8, s9, s10, s11, .val (.int at'), .val (.int to), .no]) (F := tabD) [T, nearT T at' to, U] (fun _ e => ∃ a b s8, e = [.val X, .val (.int turn), .own (poolD a b), .val (.int w), .val (.int m), .val (tabD T), .val (tabD (nearT T at' to)), .val (.lst (O.map tN)), s8, s9, s10, s11, .val (.int at'), .val (.int to), .no] ∧ isO [s8] 0 = false)
        (it_seq (v_tup (ds := [tabD T, tabD (nearT T at' to), tabD U]) (vs_cons (v_var rfl) (vs_cons (v_var rfl) (vs_cons (v_callR (as_o rfl (as_v (v_bin (d := .int ((1 + r3 : Nat) : Int)) v_cst (v_callR (as_o rfl (as_v v_cst as_nil)) rfl rfl rfl rfl rfl t6) (by show some (D.int (1 + (r3 : Int))) = _; rw [Int.natCast_add]; rfl)) (as_v (v_var rfl) as_nil))) rfl rfl rfl rfl rfl t7) vs_nil))) (by show 3 ≤ 16777216; decide)) rfl) rfl ⟨a4, b4, s8, rfl, i8⟩ (fun _ _ _ => rfl) ?_ ?_
      · rintro zs V ws e hz ⟨a, b, s8, he, i8⟩
        subst he
        have hV : WF V w := by
          have : V ∈ [T, nearT T at' to, U] := by rw [hz]; simp
          simp only [List.mem_cons, List.not_mem_nil, or_false] at this
          rcases this with z | z | z <;> subst z <;> assumption
        refine ⟨[.val X, .val (.int turn), .own (poolD a b), .val (.int w), .val (.int m), .val (tabD T), .val (tabD (nearT T at' to)), .val (.lst (O.map tN)), .val (tabD V), s9, s10, s11, .val (.int at'), .val (.int to), .no], putN (i := 8) i8 (by show 8 < 15; decide), ?_⟩
        have hany : evE (callD dds (n + 8)) (rfsOf dds) (.bi .any [(.comp (.call 28 [(.var 8), (.var 14)] []) [14] (.nm 14) (.seq (.var 7)) (.cst (.bl true)))]) [.val X, .val (.int turn), .own (poolD a b), .val (.int w), .val (.int m), .val (tabD T), .val (tabD (nearT T at' to)), .val (.lst (O.map tN)), .val (tabD V), s9, s10, s11, .val (.int at'), .val (.int to), .no] = some (.bl (O.any (stB V w)), [.val X, .val (.int turn), .own (poolD a b), .val (.int w), .val (.int m), .val (tabD T), .val (tabD (nearT T at' to)), .val (.lst (O.map tN)), .val (tabD V), s9, s10, s11, .val (.int at'), .val (.int to), .no]) := by
          refine v_bi (as_v (v_compT O tN (fun p => .bl (stB V w p)) (it_seq (v_var rfl) rfl) rfl rfl rfl (fun p hp => ?_) (by unfold SZ; omega)) as_nil) rfl (any_map _ _)
          have hp' : IsP w p := by
            have := (o2.2 p).mp hp
            exact this
          obtain ⟨y, y1, y2⟩ := sp__law_stand (n + 7) V w p hV hp'
          have ey : y = stB V w p := bool_iff y2 stB_iff
          rw [ey] at y1
          exact ⟨[.val X, .val (.int turn), .own (poolD a b), .val (.int w), .val (.int m), .val (tabD T), .val (tabD (nearT T at' to)), .val (.lst (O.map tN)), .val (tabD V), s9, s10, s11, .val (.int at'), .val (.int to), .val (tN p)], rfl, v_call (as_v (v_var rfl) (as_v (v_var rfl) as_nil)) rfl rfl y1 (.inl rfl), rfl⟩
        have hhas : O.any (stB V w) = true ↔ HasL (Mt V) V.length w := by
          rw [List.any_eq_true]
          constructor
          · rintro ⟨p, hp, hs⟩
            exact ⟨p, (o2.2 p).mp hp, stB_iff.mp hs⟩
          · rintro ⟨p, hp, hs⟩
            exact ⟨p, (o2.2 p).mpr hp, stB_iff.mpr hs⟩
        obtain ⟨a', b', y1⟩ := sp__law_right n a b V w _ hV hhas
        exact wp_iteF (e1 := [.val X, .val (.int turn), .own (poolD a' b'), .val (.int w), .val (.int m), .val (tabD T), .val (tabD (nearT T at' to)), .val (.lst (O.map tN)), .val (tabD V), s9, s10, s11, .val (.int at'), .val (.int to), .no]) (v_nt (p := true) (v_callR (as_o rfl (as_v (v_var rfl) (as_v hany as_nil))) rfl rfl rfl rfl rfl y1)) (wp_nil (wp_nil ⟨a', b', _, rfl, rfl⟩))
      · rintro e ⟨a, b, s8, he, i8⟩
        subst he
        -- great
        obtain ⟨r4, a, b, t8, x8⟩ := take_spec (n := n + 7) (ds := dds) (g := 23) rfl a b 3 (by omega) (by omega)
        obtain ⟨k, hk⟩ : ∃ k : Nat, 7 + r4 = 3 + k := ⟨4 + r4, by omega⟩
        obtain ⟨a, b, G, t9, hG, hGl, hGh⟩ := sp__law_lined (n + 6) a b 9 (3 + k) (by omega) (by omega) (by omega) (by omega)
        refine wp_asg (d := tabD G) (e1 := [.val X, .val (.int turn), .own (poolD a b), .val (.int w), .val (.int m), .val (tabD T), .val (tabD (nearT T at' to)), .val (.lst (O.map tN)), s8, s9, s10, s11, .val (.int at'), .val (.int to), .no]) (e2 := [.val X, .val (.int turn), .own (poolD a b), .val (.int w), .val (.int m), .val (tabD T), .val (tabD (nearT T at' to)), .val (.lst (O.map tN)), s8, .val (tabD G), s10, s11, .val (.int at'), .val (.int to), .no])
          (v_callR (as_o rfl (as_v v_cst (as_v (v_bin (d := .int ((3 + k : Nat) : Int)) v_cst (v_callR (as_o rfl (as_v v_cst as_nil)) rfl rfl rfl rfl rfl t8) (by show some (D.int (7 + (r4 : Int))) = _; rw [Option.some.injEq, D.int.injEq]; omega)) as_nil))) rfl rfl rfl rfl rfl t9) (putN (i := 9) i9 (by show 9 < 15; decide)) ?_
        refine wp_asg (d := .tup ((List.replicate k (0 : Int)).map .int)) (e2 := [.val X, .val (.int turn), .own (poolD a b), .val (.int w), .val (.int m), .val (tabD T), .val (tabD (nearT T at' to)), .val (.lst (O.map tN)), s8, .val (tabD G), .val (.tup ((List.replicate k (0 : Int)).map .int)), s11, .val (.int at'), .val (.int to), .no])
          (v_bin (v_tup (vs_cons v_cst vs_nil) (by decide)) (v_bin (dx := .int ((3 + k : Nat) : Int)) (d := .int (k : Nat)) (v_wide hG rfl) v_cst (by show some (D.int (((3 + k : Nat) : Int) - 3)) = _; rw [Option.some.injEq, D.int.injEq]; omega)) (rep_mul (by omega) (by omega))) (putN (i := 10) i10 (by show 10 < 15; decide)) ?_
        have hadd : ∀ x y z : Int, binD .add (.tup [.int x, .int y, .int z]) (.tup ((List.replicate k (0 : Int)).map .int)) = some (tI ([x, y, z] ++ List.replicate k 0)) := fun x y z => by
          refine (add_tup ?_).trans ?_
          · simp only [List.length_cons, List.length_nil, List.length_map, List.length_replicate]; unfold SZ; omega
          · unfold tI; rw [List.map_append]; rfl
        refine wp_asg (d := tabD (plainT k)) (e2 := [.val X, .val (.int turn), .own (poolD a b), .val (.int w), .val (.int m), .val (tabD T), .val (tabD (nearT T at' to)), .val (.lst (O.map tN)), s8, .val (tabD G), .val (.tup ((List.replicate k (0 : Int)).map .int)), .val (tabD (plainT k)), .val (.int at'), .val (.int to), .no])
          (v_tup (ds := [tI ([1, 1, 0] ++ List.replicate k 0), tI ([0, 1, 1] ++ List.replicate k 0), tI ([1, 0, 1] ++ List.replicate k 0)]) (vs_cons (v_bin (v_tup (vs_cons v_cst (vs_cons v_cst (vs_cons v_cst vs_nil))) (by decide)) (v_var rfl) (hadd _ _ _)) (vs_cons (v_bin (v_tup (vs_cons v_cst (vs_cons v_cst (vs_cons v_cst vs_nil))) (by decide)) (v_var rfl) (hadd _ _ _)) (vs_cons (v_bin (v_tup (vs_cons v_cst (vs_cons v_cst (vs_cons v_cst vs_nil))) (by decide)) (v_var rfl) (hadd _ _ _)) vs_nil))) (by show 3 ≤ 16777216; decide)) (putN (i := 11) i11 (by show 11 < 15; decide)) ?_
        obtain ⟨p1, p2⟩ := plain_ok (k := k) (by omega)
        obtain ⟨p3, p4⟩ := both_ok (k := k) (by omega) hG hGl
        obtain ⟨a', b', y1⟩ := sp__law_right n a b G (3 + k) true hG ⟨fun _ => hGh, fun _ => rfl⟩
        refine wp_iteF (e1 := [.val X, .val (.int turn), .own (poolD a' b'), .val (.int w), .val (.int m), .val (tabD T), .val (tabD (nearT T at' to)), .val (.lst (O.map tN)), s8, .val (tabD G), .val (.tup ((List.replicate k (0 : Int)).map .int)), .val (tabD (plainT k)), .val (.int at'), .val (.int to), .no]) (v_nt (p := true) (v_callR (as_o rfl (as_v (v_var rfl) (as_v v_cst as_nil))) rfl rfl rfl rfl rfl y1)) (wp_nil ?_)
        obtain ⟨a'', b'', y2⟩ := sp__law_right n a' b' (plainT k) (3 + k) false p1 ⟨nofun, fun z => (p2 z).elim⟩
        obtain ⟨l0, l1, l2⟩ := sp_line_up (n + 1) (G.take 6 ++ plainT k) (3 + k) p3
        have l3 : l0 = .non := by
          rcases l2 with ⟨p, e, hp, hs⟩ | ⟨e, _⟩
          · exact (p4 ⟨p, hp, hs⟩).elim
          · exact e
        subst l3
        have sl : slcD (tabD G) .non (.int 6) = some (.tup ((G.take 6).map tI)) := by
          rw [List.map_take]; exact slc_to' (k := 6) (by rw [List.length_map]; omega)
        refine wp_iteF (e1 := [.val X, .val (.int turn), .own (poolD a'' b''), .val (.int w), .val (.int m), .val (tabD T), .val (tabD (nearT T at' to)), .val (.lst (O.map tN)), s8, .val (tabD G), .val (.tup ((List.replicate k (0 : Int)).map .int)), .val (tabD (plainT k)), .val (.int at'), .val (.int to), .no]) (v_or (p := false) (q := false) (v_nt (p := true) (v_callR (as_o rfl (as_v (v_var rfl) (as_v v_cst as_nil))) rfl rfl rfl rfl rfl y2)) fun _ => v_cmp (v_call (as_v (v_bin (d := tabD (G.take 6 ++ plainT k)) (v_slc (v_var rfl) v_cst v_cst sl) (v_var rfl) ?_) as_nil) rfl rfl l1 (.inl rfl)) v_cst rfl) (wp_nil (wp_nil ⟨_, _, _, _, _, _, _, _, _, _, _, _, _, rfl, rfl, rfl, rfl, rfl, rfl, rfl, i8, rfl, rfl, rfl, rfl, rfl⟩))
        refine (add_tup ?_).trans ?_
        · simp only [List.length_map, List.length_take, plainT, List.length_cons, List.length_nil]; unfold SZ; omega
        · unfold tabD; rw [List.map_append]
    · rintro e ⟨s1, s2, s3, s4, s5, s6, s7, s8, s9, s10, s11, s12, s13, he, _⟩
      subst he
      exact wp_ret (r_e v_cst nofun nofun) ⟨[], rfl, rfl⟩)
  subst h2
  exact h1
end K76
set_option Elab.async false
set_option linter.all false
set_option maxRecDepth 100000
set_option maxHeartbeats 0
open PySem Qx
namespace H76
def hints : List Hint := [
  ⟨4, 1, [(Str.ofString "value")], [], [], false⟩,
  ⟨5, 3, [(Str.ofString "value"), (Str.ofString "low"), (Str.ofString "high")], [], [], false⟩,
  ⟨6, 2, [(Str.ofString "value"), (Str.ofString "many")], [], [], false⟩,
  ⟨7, 4, [(Str.ofString "value"), (Str.ofString "many"), (Str.ofString "low"), (Str.ofString "high"), (Str.ofString "each")], [], [], false⟩,
  ⟨8, 1, [(Str.ofString "value"), (Str.ofString "index"), (Str.ofString "each")], [], [], false⟩,
  ⟨9, 2, [(Str.ofString "many"), (Str.ofString "value"), (Str.ofString "each")], [], [], false⟩,
  ⟨11, 2, [(Str.ofString "mark"), (Str.ofString "index")], [], [], false⟩,
  ⟨12, 2, [(Str.ofString "companies"), (Str.ofString "mark"), (Str.ofString "put"), (Str.ofString "left"), (Str.ofString "person"), (Str.ofString "at"), (Str.ofString "lot")], [], [], true⟩,
  ⟨13, 2, [(Str.ofString "companies"), (Str.ofString "mark"), (Str.ofString "needed"), (Str.ofString "left"), (Str.ofString "at"), (Str.ofString "person")], [], [], true⟩,
  ⟨14, 2, [(Str.ofString "companies"), (Str.ofString "counts"), (Str.ofString "found"), (Str.ofString "mark"), (Str.ofString "many"), (Str.ofString "at"), (Str.ofString "more")], [(Str.ofString "found")], [], true⟩,
  ⟨15, 1, [(Str.ofString "companies"), (Str.ofString "found"), (Str.ofString "_")], [(Str.ofString "found")], [], true⟩,
  ⟨16, 3, [(Str.ofString "companies"), (Str.ofString "layer"), (Str.ofString "mark"), (Str.ofString "found"), (Str.ofString "at")], [], [], false⟩,
  ⟨17, 2, [(Str.ofString "companies"), (Str.ofString "layers"), (Str.ofString "layer"), (Str.ofString "found"), (Str.ofString "mark")], [(Str.ofString "found")], [], true⟩,
  ⟨21, 1, [(Str.ofString "value")], [], [], false⟩,
  ⟨22, 1, [(Str.ofString "value"), (Str.ofString "index"), (Str.ofString "row")], [], [], true⟩,
  ⟨23, 2, [(Str.ofString "row"), (Str.ofString "columns"), (Str.ofString "places"), (Str.ofString "place"), (Str.ofString "column")], [], [], false⟩,
  ⟨24, 2, [(Str.ofString "table"), (Str.ofString "value"), (Str.ofString "row")], [], [], false⟩,
  ⟨25, 2, [(Str.ofString "table"), (Str.ofString "column"), (Str.ofString "index"), (Str.ofString "row")], [], [], false⟩,
  ⟨26, 1, [(Str.ofString "table"), (Str.ofString "lots"), (Str.ofString "layers"), (Str.ofString "column")], [], [], false⟩,
  ⟨28, 1, [(Str.ofString "value"), (Str.ofString "index")], [], [], false⟩,
  ⟨29, 1, [(Str.ofString "table")], [], [], false⟩,
  ⟨30, 2, [(Str.ofString "table"), (Str.ofString "value")], [], [], false⟩,
  ⟨32, 2, [(Str.ofString "script"), (Str.ofString "k"), (Str.ofString "cell"), (Str.ofString "size"), (Str.ofString "stir")], [], [], true⟩,
  ⟨33, 2, [(Str.ofString "pool"), (Str.ofString "many"), (Str.ofString "told"), (Str.ofString "reach")], [(Str.ofString "pool")], [], false⟩,
  ⟨34, 2, [(Str.ofString "one"), (Str.ofString "two"), (Str.ofString "k")], [], [], false⟩,
  ⟨35, 1, [(Str.ofString "value")], [], [], false⟩,
  ⟨36, 2, [(Str.ofString "told"), (Str.ofString "due")], [], [], false⟩,
  ⟨37, 1, [(Str.ofString "many"), (Str.ofString "rows"), (Str.ofString "k"), (Str.ofString "more"), (Str.ofString "row"), (Str.ofString "each")], [], [], false⟩,
  ⟨38, 2, [(Str.ofString "table"), (Str.ofString "order"), (Str.ofString "row"), (Str.ofString "some"), (Str.ofString "k")], [], [], false⟩,
  ⟨39, 2, [(Str.ofString "table"), (Str.ofString "value"), (Str.ofString "wide"), (Str.ofString "each")], [], [], false⟩,
  ⟨40, 3, [(Str.ofString "pool"), (Str.ofString "many"), (Str.ofString "wide"), (Str.ofString "table"), (Str.ofString "k"), (Str.ofString "left"), (Str.ofString "order"), (Str.ofString "run"), (Str.ofString "one"), (Str.ofString "two"), (Str.ofString "j")], [(Str.ofString "pool"), (Str.ofString "table"), (Str.ofString "left"), (Str.ofString "order")], [], false⟩,
  ⟨41, 3, [(Str.ofString "pool"), (Str.ofString "many"), (Str.ofString "wide"), (Str.ofString "share"), (Str.ofString "k"), (Str.ofString "j")], [(Str.ofString "pool")], [], false⟩,
  ⟨42, 3, [(Str.ofString "pool"), (Str.ofString "value"), (Str.ofString "wide"), (Str.ofString "at"), (Str.ofString "rows"), (Str.ofString "odd"), (Str.ofString "other")], [(Str.ofString "pool"), (Str.ofString "rows"), (Str.ofString "other")], [], false⟩,
  ⟨43, 3, [(Str.ofString "pool"), (Str.ofString "table"), (Str.ofString "has"), (Str.ofString "wide"), (Str.ofString "told"), (Str.ofString "base"), (Str.ofString "value"), (Str.ofString "moved"), (Str.ofString "left"), (Str.ofString "drawn"), (Str.ofString "row"), (Str.ofString "k")], [(Str.ofString "pool"), (Str.ofString "left"), (Str.ofString "drawn")], [], false⟩,
  ⟨44, 1, [(Str.ofString "script"), (Str.ofString "turn"), (Str.ofString "pool"), (Str.ofString "wide"), (Str.ofString "many"), (Str.ofString "lined"), (Str.ofString "near"), (Str.ofString "orders"), (Str.ofString "table"), (Str.ofString "great"), (Str.ofString "rest"), (Str.ofString "plain"), (Str.ofString "at"), (Str.ofString "to"), (Str.ofString "order")], [(Str.ofString "pool")], [], false⟩]
def glob : List (Str × GV) := [(Str.ofString "is_whole", GV.fn 0),
  (Str.ofString "is_between", GV.fn 1),
  (Str.ofString "is_tuple_of", GV.fn 2),
  (Str.ofString "are_between", GV.fn 3),
  (Str.ofString "are_unlike", GV.fn 4),
  (Str.ofString "are_unlike_persons", GV.fn 5),
  (Str.ofString "is_put", GV.fn 6),
  (Str.ofString "persons_open", GV.fn 7),
  (Str.ofString "nexts_of", GV.fn 8),
  (Str.ofString "with_next", GV.fn 9),
  (Str.ofString "layers_of", GV.fn 10),
  (Str.ofString "last_put", GV.fn 11),
  (Str.ofString "row_back", GV.fn 12),
  (Str.ofString "is_table_row", GV.fn 13),
  (Str.ofString "wrong_in_table", GV.fn 14),
  (Str.ofString "are_together", GV.fn 15),
  (Str.ofString "is_line_up_by", GV.fn 16),
  (Str.ofString "rows_in", GV.fn 17),
  (Str.ofString "line_up_by", GV.fn 18),
  (Str.ofString "check_table", GV.fn 19),
  (Str.ofString "line_up", GV.fn 20),
  (Str.ofString "is_line_up", GV.fn 21),
  (Str.ofString "_law_pool", GV.fn 22),
  (Str.ofString "_law_take", GV.fn 23),
  (Str.ofString "_law_alike", GV.fn 24),
  (Str.ofString "_law_whole", GV.fn 25),
  (Str.ofString "_law_says", GV.fn 26),
  (Str.ofString "_law_orders", GV.fn 27),
  (Str.ofString "_law_stand", GV.fn 28),
  (Str.ofString "_law_is_line_up", GV.fn 29),
  (Str.ofString "_law_lined", GV.fn 30),
  (Str.ofString "_law_table", GV.fn 31),
  (Str.ofString "_law_bent", GV.fn 32),
  (Str.ofString "_law_right", GV.fn 33),
  (Str.ofString "law", GV.fn 34),
  (Str.ofString "MOST_ROWS", GV.cst (D.int 9)),
  (Str.ofString "MOST_COLUMNS", GV.cst (D.int 9))]
abbrev bd : List Stmt := PySem.Challenge.pw_stayrows_k76_whole_line_ups_by_all_order.main.body
def fa : List He.Fa := (hints.map fun h => He.Fa.glo (defName (topOf bd h.at_))) ++ (bltNames.map He.Fa.free) ++ [.int "MOST_ROWS" 9, .int "MOST_COLUMNS" 9]
def fn : List He.DefD := hints.map (ddOf bd)
abbrev R : PySem.W.OpenRow := PySem.W.OpenLaw.row PySem.Challenge.rw_stayrows_k76_whole_line_ups_by_all_order
abbrev hk : PySem.W.Hook := He.hookD 4 fa fn
def ob (s : PySem.W.SharedT) : He.AlD := He.obsDG 4 fa fn (HandSHeadRun.getT s)
theorem ob_eq (s : PySem.W.SharedT) : ob s = hk.obs s.abs := He.obsDG_eq (HandSHeadRun.getT_eq s)
def names : List Str := (["__name__", "StayError", "InvalidTable", "MOST_ROWS", "MOST_COLUMNS"] : List Str) ++ (((hints.take 34).map fun h => defName (topOf bd h.at_)))
theorem run (w : World) : HandSHeadRun.RunEq R (PySem.W.view R.prog [44]) hk ob 6000 names w := by
  intro os
  kernel_rfl

theorem ok1 : hints.all (hintOk bd) = true := by kernel_rfl
theorem ok2 : glob.all (globOk hints bd fa) = true := by kernel_rfl
theorem ok3 : bltOk glob fa = true := by kernel_rfl
theorem prog : cProg hints glob bd = some K76.dds := by kernel_rfl
theorem at34 : hints[34]? = some (hints.getD 34 ⟨0, 0, [], [], [], false⟩) := by rfl
theorem nm34 : defName (topOf bd (hints.getD 34 ⟨0, 0, [], [], [], false⟩).at_) = "law" := by kernel_rfl
theorem ps34 : (hints.getD 34 ⟨0, 0, [], [], [], false⟩).N.take (hints.getD 34 ⟨0, 0, [], [], [], false⟩).np = [("script" : Str)] := by kernel_rfl
theorem in34 : He.Fa.glo (defName (topOf bd (hints.getD 34 ⟨0, 0, [], [], [], false⟩).at_)) ∈ fa := List.mem_append_left _ (List.mem_append_left _ (List.mem_map_of_mem (List.mem_of_getElem? at34)))
end H76
open PySem PySem.W PySem.Calls PyProof.Rows
theorem PySem.Challenge.cw_stayrows_k76_whole_line_ups_by_all_order_holds : PySem.Challenge.rw_stayrows_k76_whole_line_ups_by_all_order.Holds := by
  w_on; o_law
  refine HandSHeadRun.head_any (r := H76.R) (q := view H76.R.prog [44]) (H := H76.hk) (ob := H76.ob) (M := 6000) (loose := H76.names) (d := HandSHeadRun.topDef H76.R.prog 44) (kwd := []) H76.ob_eq
    (by kernel_rfl) (fun s => by kernel_rfl) H76.run (by kernel_rfl) (by kernel_rfl) (by kernel_rfl) (by rfl) (by first | assumption | decide +kernel) (by decide +kernel) ⟨rfl, rfl, rfl, rfl, rfl, by decide +kernel⟩ ?hw ?hc
  case hw => w_witness2
  case hc =>
    refine L2.walk_ofE (l := PySem.Challenge.rw_stayrows_k76_whole_line_ups_by_all_order) (n := 63) (k := 9) (x := "script") (CX := L2.CX0) rfl (by decide) (by kernel_rfl) (room_of (by decide)) ?F (fun _ _ _ _ z => z)
    intro w mg fa h Y G hmg0
    obtain ⟨K, KX, c⟩ := Y
    have hmg : mg ("law" : PySem.Str) = some (.ref fa) := by
      have e : (HandSHeadRun.topDef H76.R.prog 44).name = ("law" : PySem.Str) := by kernel_rfl
      rw [← e]
      exact hmg0
    exact top_facts (n := 8) (g := 34) KX G hmg c H76.prog H76.ok1 H76.ok2 H76.ok3 H76.at34 H76.nm34 H76.ps34 H76.in34 rfl fun ns _ => K76.sp_law 0 ns
