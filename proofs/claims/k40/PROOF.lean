import PyProof.Rows.All
import PyProof.EqLayable
import Wide.All
import OpenK.AllK
import Wide.FinOn
import HandS.ForMost
import HandS.More
import HandS.WordsExc
import HandS.Defaults
import HandS.CallSlots
import HandS.TupAny
import HandS.TupLe
import HandS.TupMul
import HandS.SortRule
import HandS.SortInts
import HandS.IsInst
import HandS.Conv
import HandS.Deep
import HandS.Style
import HandS.TupSets
import HandS.Comp
import HandS.Exc
import HandS.ExcOwn
import HandS.HeadEnd
import KE.KStateDown
import Lean
import HandS.Head0
import HandS.Head1
import HandS.Head2
import HandS.HeadHook1
import HandS.HeadHook2
import PySem.Challenge.RW_orderwise_k40_trees_of_joins_joined
set_option Elab.async false
set_option linter.all false
set_option maxRecDepth 100000
set_option maxHeartbeats 4000000
namespace MP
open PySem

/-- deep values -/
inductive D where
  | non | bl (b : Bool) | int (i : Int) | str (s : Str)
  | tup (xs : List D) | lst (xs : List D) | set (xs : List D) | dic (kvs : List (D × D))
  /-- the script -/
  | scr (xs : List D)

/-- a slot of a frame: unset; a value that is never changed any more; an object of this frame's own; the same while a loop walks it -/
inductive Sl where
  | un | fr (d : D) | ow (d : D) | lk (d : D)
abbrev Env := List Sl
def Env.fz (ρ : Env) (i : Nat) : Option D := match ρ[i]? with
  | some (.fr d) => some d
  | _ => none
def Env.bo (ρ : Env) (i : Nat) : Option D := match ρ[i]? with
  | some (.fr d) => some d
  | some (.ow d) => some d
  | some (.lk d) => some d
  | _ => none
def Env.own (ρ : Env) (i : Nat) : Option D := match ρ[i]? with
  | some (.ow d) => some d
  | _ => none

inductive Bop where
  | add | sub | mul | mod | fdiv | pow | shl | shr | band
inductive Cop where
  | eq | ne | lt | le | gt | ge | in_ | nin
inductive Ty where
  | int | bool | str | tup | lst | dict
inductive Bi where
  | len | int | str | tuple | all | any | sum | max1 | min1 | max2 | min2 | abs
inductive Mt where
  | index | join | split | part | get2
inductive Tg where
  | nm (i : Nat) | tp (ts : List Tg)

mutual
inductive E where
  | var (i : Nat)
  | con (d : D)
  | glo (x : Str)
  | tup (es : List E)
  | neg (e : E)
  | bin (op : Bop) (a b : T)
  | cmp (op : Cop) (a b : T)
  | chain (op op' : Cop) (a b c : T)
  | nt (e : E)
  | and_ (a b : E)
  | or_ (a b : E)
  | ite (c a b : E)
  | isN (neg : Bool) (e : E)
  | ix (a b : T)
  | sl (a : T) (lo hi : Option E)
  | rev (a : T)
  | call (f : Str) (es : List E)
  | bi (f : Bi) (ts : List T)
  | mt (m : Mt) (o : T) (ts : List T)
  | isi (a : T) (t : Ty)
  | tupR (it : It)
  | pop (i : Nat) (k : Option E)
  | fr (p : P)
inductive T where
  | b (i : Nat)
  | e (e : E)
inductive P where
  | lst (es : List E)
  | comp (elt : E) (tg : Tg) (it : It) (ifs : List E) (cls : List Cl) (own : List Nat)
  | list (t : T)
  | listR (it : It)
  | rep (a b : T)
  | cat (a b : T)
  | sorted (t : T)
  | set (t : T)
  | dict (ks vs : List E)
inductive It where
  | r1 (e : E)
  | r2 (a b : E)
  | t (t : T)
  | en (t : T)
inductive Cl where
  | mk (tg : Tg) (it : It) (ifs : List E)
end

inductive S where
  | set (tg : Tg) (e : E)
  | own (i : Nat) (p : P)
  | par2 (i j : Nat) (a b : E ⊕ P)
  | par3 (i j k : Nat) (a b c : E ⊕ P)
  | aug (i : Nat) (op : Bop) (e : E)
  | app (i : Nat) (e : E)
  | ext (i : Nat) (t : T)
  | add (i : Nat) (e : E)
  | sti (i : Nat) (k e : E)
  | expr (e : E)
  | iff (c : E) (a b : List S)
  | whl (c : E) (b : List S)
  | for_ (tg : Tg) (it : It) (b : List S)
  | ret (e : E)
  | retN
  | brk | ct | pass
  | raise (c : Str)
  | try_ (b : List S) (hs : List (Str × List S))
  | frz (i : Nat)
  | wall

/-! ### values -/
mutual
def ok : Nat → D → Bool
  | 0, _ => false
  | _ + 1, .non => true
  | _ + 1, .bl _ => true
  | _ + 1, .int _ => true
  | _ + 1, .str s => PyData.strOk s
  | n + 1, .tup xs => okL n xs
  | n + 1, .lst xs => okL n xs
  | _ + 1, .set _ => false
  | _ + 1, .dic _ => false
  | _ + 1, .scr _ => false
def okL : Nat → List D → Bool
  | _, [] => true
  | n, x :: xs => ok n x && okL n xs
end
def okD (d : D) : Bool := ok 40 d

mutual
def eqv : D → D → Bool
  | .non, .non => true
  | .bl a, .bl b => a == b
  | .bl a, .int j => (if a then 1 else 0) == j
  | .int i, .bl b => i == (if b then 1 else 0)
  | .int i, .int j => i == j
  | .str x, .str y => x == y
  | .lst xs, .lst ys => eqvL xs ys
  | .tup xs, .tup ys => eqvL xs ys
  | _, _ => false
def eqvL : List D → List D → Bool
  | [], [] => true
  | x :: xs, y :: ys => eqv x y && eqvL xs ys
  | _, _ => false
end

def isInt : D → Bool
  | .int _ => true
  | _ => false
def intsD : List D → Option (List Int)
  | [] => some []
  | .int i :: r => (intsD r).map (i :: ·)
  | _ :: _ => none
def boolsD : List D → Option (List Bool)
  | [] => some []
  | .bl i :: r => (boolsD r).map (i :: ·)
  | _ :: _ => none
def strsD : List D → Option (List Str)
  | [] => some []
  | .str i :: r => (strsD r).map (i :: ·)
  | _ :: _ => none
def lexLt : List Int → List Int → Bool
  | [], [] => false
  | [], _ :: _ => true
  | _ :: _, [] => false
  | x :: xs, y :: ys => if x = y then lexLt xs ys else decide (x < y)

/-- places of a list -/
def ixN (n : Nat) (i : Int) : Option Nat := if 0 ≤ i then (if i < n then some i.toNat else none) else if -(n : Int) ≤ i then some (i + n).toNat else none
def atI {α : Type} (xs : List α) (i : Int) : Option α := (ixN xs.length i).bind fun j => xs[j]?
def lim : Nat := 16777216
def smallI (i : Int) : Bool := decide (-(2 ^ 62) ≤ i) && decide (i < 2 ^ 62)
def mulOk (i j : Int) : Bool := (decide (-(2 ^ 64) < i) && decide (i < 2 ^ 64)) || (decide (-(2 ^ 64) < j) && decide (j < 2 ^ 64))

/-- the end of a cut at an index -/
def cutIx (n : Nat) (d : Nat) : Option Int → Nat
  | none => d
  | some i => if i < 0 then (i + n).toNat else min i.toNat n
def cut {α : Type} (xs : List α) (lo hi : Option Int) : List α := (xs.drop (cutIx xs.length 0 lo)).take (cutIx xs.length xs.length hi - cutIx xs.length 0 lo)

def addD : D → D → Option D
  | .int i, .int j => some (.int (i + j))
  | .str x, .str y => if x.length + y.length ≤ lim then some (.str (x ++ y)) else none
  | .tup xs, .tup ys => if xs.length + ys.length ≤ lim then some (.tup (xs ++ ys)) else none
  | .lst xs, .lst ys => if xs.length + ys.length ≤ lim then some (.lst (xs ++ ys)) else none
  | _, _ => none
def subD : D → D → Option D
  | .int i, .int j => some (.int (i - j))
  | _, _ => none
def mulD : D → D → Option D
  | .int i, .int j => if mulOk i j then some (.int (i * j)) else none
  | .lst xs, .int k => if smallI k && decide (xs.length * k.toNat ≤ lim) then some (.lst (List.replicate k.toNat xs).flatten) else none
  | _, _ => none
def modD : D → D → Option D
  | .int i, .int j => if 0 < j then some (.int (i % j)) else none
  | _, _ => none
def fdivD : D → D → Option D
  | .int i, .int j => if 0 < j ∧ j < 1073741824 then some (.int (i / j)) else none
  | _, _ => none
def powD : D → D → Option D
  | .int i, .int j => if 0 ≤ j ∧ j ≤ 1000000 ∧ i.natAbs < 2 ^ 64 then some (.int (i ^ j.toNat)) else none
  | _, _ => none
def shlD : D → D → Option D
  | .int i, .int j => if 0 ≤ j ∧ j ≤ 1000000 ∧ i.natAbs < 2 ^ 64 then some (.int (i * 2 ^ j.toNat)) else none
  | _, _ => none
def shrD : D → D → Option D
  | .int i, .int j => if 0 ≤ j then some (.int (i / 2 ^ j.toNat)) else none
  | _, _ => none
def bandD : D → D → Option D
  | .int i, .int j => some (.int (Builtin.bitAnd i j))
  | _, _ => none
def binD : Bop → D → D → Option D
  | .add => addD | .sub => subD | .mul => mulD | .mod => modD | .fdiv => fdivD | .pow => powD | .shl => shlD | .shr => shrD | .band => bandD

def memD (x : D) (xs : List D) : Bool := xs.any fun y => eqv y x
def inD : D → D → Option Bool
  | x, .tup xs => if okD x && okD (.tup xs) then some (memD x xs) else none
  | x, .lst xs => if okD x && okD (.lst xs) then some (memD x xs) else none
  | x, .set xs => if okD x && okD (.tup xs) then some (memD x xs) else none
  | x, .dic kvs => if okD x then some (memD x (kvs.map (·.1))) else none
  | _, _ => none
def eqD (x y : D) : Option Bool := if okD x && okD y then some (eqv x y) else none
def lexD (f : List Int → List Int → Bool) (xs ys : List D) : Option Bool := match intsD xs, intsD ys with
  | some a, some b => some (f a b)
  | _, _ => none
def cltD : D → D → Option Bool
  | .int i, .int j => some (decide (i < j))
  | .tup xs, .tup ys => lexD lexLt xs ys
  | _, _ => none
def cleD : D → D → Option Bool
  | .int i, .int j => some (decide (i ≤ j))
  | _, _ => none
def cgtD : D → D → Option Bool
  | .int i, .int j => some (decide (j < i))
  | _, _ => none
def cgeD : D → D → Option Bool
  | .int i, .int j => some (decide (j ≤ i))
  | .tup xs, .tup ys => lexD (fun a b => !lexLt a b) xs ys
  | _, _ => none
def cmpD : Cop → D → D → Option Bool
  | .eq, x, y => eqD x y
  | .ne, x, y => (eqD x y).map (!·)
  | .lt, x, y => cltD x y
  | .le, x, y => cleD x y
  | .gt, x, y => cgtD x y
  | .ge, x, y => cgeD x y
  | .in_, x, y => inD x y
  | .nin, x, y => (inD x y).map (!·)

def getK (kvs : List (D × D)) (k : D) : Option D := (kvs.find? fun kv => eqv kv.1 k).map (·.2)
def putK : List (D × D) → D → D → List (D × D)
  | [], k, v => [(k, v)]
  | (k', v') :: r, k, v => if eqv k' k then (k', v) :: r else (k', v') :: putK r k v
def ixD : D → D → Option D
  | .tup xs, .int i => atI xs i
  | .lst xs, .int i => atI xs i
  | .scr xs, .int i => atI xs i
  | .str s, .int i => if s.length ≤ lim then (atI s.cps.toList i).map fun c => .str ⟨#[c]⟩ else none
  | .dic kvs, k => if okD k then getK kvs k else none
  | _, _ => none
def slD : D → Option Int → Option Int → Option D
  | .tup xs, lo, hi => some (.tup (cut xs lo hi))
  | .lst xs, lo, hi => some (.lst (cut xs lo hi))
  | .str s, lo, hi => if s.length ≤ lim then some (.str ⟨(cut s.cps.toList lo hi).toArray⟩) else none
  | _, _, _ => none
def revD : D → Option D
  | .lst xs => some (.lst xs.reverse)
  | _ => none
def isiD : D → Ty → Option Bool
  | .non, _ => some false
  | .bl _, t => some (match t with | .int => true | .bool => true | _ => false)
  | .int _, t => some (match t with | .int => true | _ => false)
  | .str _, t => some (match t with | .str => true | _ => false)
  | .tup _, t => some (match t with | .tup => true | _ => false)
  | .lst _, t => some (match t with | .lst => true | _ => false)
  | .dic _, t => some (match t with | .dict => true | _ => false)
  | _, _ => none

def lenD : D → Option Int
  | .tup xs => some xs.length
  | .lst xs => some xs.length
  | .scr xs => some xs.length
  | .set xs => some xs.length
  | .dic xs => some xs.length
  | .str s => if s.length ≤ lim then some s.length else none
  | _ => none
def intC : D → Option D
  | .int i => some (.int i)
  | .bl b => some (.int (if b then 1 else 0))
  | _ => none
def tupC : D → Option D
  | .tup xs => some (.tup xs)
  | .lst xs => some (.tup xs)
  | _ => none
def allC : D → Option D
  | .lst xs => (boolsD xs).map fun bs => .bl (bs.all id)
  | _ => none
def anyC : D → Option D
  | .lst xs => (boolsD xs).map fun bs => .bl (bs.any id)
  | _ => none
def sumC : D → Option D
  | .lst xs => (intsD xs).map fun ns => .int ns.sum
  | _ => none
def absC : D → Option D
  | .int i => some (.int (if i < 0 then -i else i))
  | _ => none
def maxL : List Int → Option Int
  | [] => none
  | [x] => some x
  | x :: r => (maxL r).map (max x)
def minL : List Int → Option Int
  | [] => none
  | [x] => some x
  | x :: r => (minL r).map (min x)
def max1C : D → Option D
  | .lst xs => ((intsD xs).bind maxL).map .int
  | _ => none
def min1C : D → Option D
  | .lst xs => ((intsD xs).bind minL).map .int
  | _ => none
def max2C : D → D → Option D
  | .int i, .int j => some (.int (if j > i then j else i))
  | _, _ => none
def min2C : D → D → Option D
  | .int i, .int j => some (.int (if j < i then j else i))
  | _, _ => none
def biD : Bi → List D → Option D
  | .len, [x] => (lenD x).map .int
  | .int, [x] => intC x
  | .tuple, [x] => tupC x
  | .all, [x] => allC x
  | .any, [x] => anyC x
  | .sum, [x] => sumC x
  | .max1, [x] => max1C x
  | .min1, [x] => min1C x
  | .max2, [x, y] => max2C x y
  | .min2, [x, y] => min2C x y
  | .abs, [x] => absC x
  | _, _ => none
def idxD (y : D) (xs : List D) : Option D := if okD y && okD (.tup xs) then (xs.findIdx? fun z => eqv z y).map fun (j : Nat) => .int j else none
def idxC : D → D → Option D
  | .tup xs, y => idxD y xs
  | .lst xs, y => idxD y xs
  | _, _ => none
def get2C : D → D → D → Option D
  | .dic kvs, k, x => if okD k then some ((getK kvs k).getD x) else none
  | _, _, _ => none
def mtD : Mt → D → List D → Option D
  | .index, o, [y] => idxC o y
  | .get2, o, [k, x] => get2C o k x
  | _, _, _ => none

/-- what a for walks -/
def itemsD : D → Option (List D)
  | .tup xs => some xs
  | .lst xs => some xs
  | .dic kvs => some (kvs.map (·.1))
  | _ => none
def listC : D → Option (List D)
  | .tup xs => some xs
  | .lst xs => some xs
  | _ => none
def rng (lo hi : Int) : List D := (List.range (hi - lo).toNat).map fun (i : Nat) => .int (lo + i)
def enumD (xs : List D) : List D := xs.mapIdx fun i x => .tup [.int i, x]

def insB {α : Type} (le : α → α → Bool) (x : α) : List α → List α
  | [] => [x]
  | y :: r => if le x y then x :: y :: r else y :: insB le x r
def sortB {α : Type} (le : α → α → Bool) : List α → List α
  | [] => []
  | x :: r => insB le x (sortB le r)
def leI (i j : Int) : Bool := decide (i ≤ j)
def leP (x y : Int × Int) : Bool := decide (x.1 < y.1) || (decide (x.1 = y.1) && decide (x.2 ≤ y.2))
def pD (p : Int × Int) : D := .tup [.int p.1, .int p.2]
def pairsD : List D → Option (List (Int × Int))
  | [] => some []
  | .tup [.int a, .int b] :: r => (pairsD r).map ((a, b) :: ·)
  | _ :: _ => none
def sortC : D → Option (List D)
  | .lst xs => match intsD xs with
    | some ns => some ((sortB leI ns).map .int)
    | none => (pairsD xs).map fun ps => (sortB leP ps).map pD
  | _ => none
def dedup (xs : List D) : List D := xs.foldl (fun acc x => if memD x acc then acc else acc ++ [x]) []

/-! ### running -/
inductive R (α : Type) where
  | fail
  | exc (c : Str) (ρ : Env)
  | ok (a : α) (ρ : Env)
def R.bind {α β : Type} (r : R α) (f : α → Env → R β) : R β := match r with
  | .fail => .fail
  | .exc c ρ => .exc c ρ
  | .ok a ρ => f a ρ
def R.of {α : Type} (o : Option α) (ρ : Env) : R α := match o with
  | some a => .ok a ρ
  | none => .fail
inductive Out where
  | fail
  | exc (c : Str)
  | ok (d : D)
structure Cxt where
  cf : Str → List D → Out
  gl : Str → Option D
inductive SR where
  | fail
  | exc (c : Str) (ρ : Env)
  | nx (ρ : Env)
  | ret (d : D) (ρ : Env)
  | brk (ρ : Env)
  | ct (ρ : Env)

mutual
def Tg.asg : Tg → D → Env → Option Env
  | .nm i, d, ρ => if i < ρ.length then some (ρ.set i (.fr d)) else none
  | .tp ts, .tup ds, ρ => Tg.asgs ts ds ρ
  | .tp _, _, _ => none
def Tg.asgs : List Tg → List D → Env → Option Env
  | [], [], ρ => some ρ
  | t :: ts, d :: ds, ρ => (t.asg d ρ).bind fun ρ' => Tg.asgs ts ds ρ'
  | _, _, _ => none
end
def T.res : T → D → Env → Option D
  | .b i, _, ρ => ρ.bo i
  | .e _, d, _ => some d
def resL : List T → List D → Env → Option (List D)
  | [], [], _ => some []
  | t :: ts, d :: ds, ρ => (t.res d ρ).bind fun x => (resL ts ds ρ).map (x :: ·)
  | _, _, _ => none
/-- an object of the frame's own is locked while it is walked -/
def lock (ρ : Env) (i : Nat) : Env := match ρ[i]? with
  | some (.ow d) => ρ.set i (.lk d)
  | _ => ρ
def unlock (ρ0 : Env) (i : Nat) (ρ : Env) : Env := match ρ0[i]?, ρ[i]? with
  | some (.ow _), some (.lk d) => ρ.set i (.ow d)
  | _, _ => ρ
def lockT : It → Env → Env
  | .t (.b i), ρ => lock ρ i
  | .en (.b i), ρ => lock ρ i
  | _, ρ => ρ
def unlockT : It → Env → Env → Env
  | .t (.b i), ρ0, ρ => unlock ρ0 i ρ
  | .en (.b i), ρ0, ρ => unlock ρ0 i ρ
  | _, _, ρ => ρ
def R.mapEnv {α : Type} (f : Env → Env) : R α → R α
  | .fail => .fail
  | .exc c ρ => .exc c (f ρ)
  | .ok a ρ => .ok a (f ρ)
def SR.mapEnv (f : Env → Env) : SR → SR
  | .fail => .fail
  | .exc c ρ => .exc c (f ρ)
  | .nx ρ => .nx (f ρ)
  | .ret d ρ => .ret d (f ρ)
  | .brk ρ => .brk (f ρ)
  | .ct ρ => .ct (f ρ)
def wipe (ρ : Env) : List Nat → Env
  | [] => ρ
  | v :: vs => (wipe ρ vs).set v .un
def back1 (ρ0 : Env) (v : Nat) : Sl := match ρ0[v]? with
  | some (.fr d) => .fr d
  | _ => .un
def back (ρ0 ρ : Env) : List Nat → Env
  | [] => ρ
  | v :: vs => (back ρ0 ρ vs).set v (back1 ρ0 v)
def R.noX {α : Type} : R α → R α
  | .exc _ _ => .fail
  | r => r

/-- the turns of a comprehension's clause -/
def turns (f : D → List D → Env → R (List D)) : List D → List D → Env → R (List D)
  | [], acc, ρ => .ok acc ρ
  | x :: xs, acc, ρ => (f x acc ρ).bind fun acc' ρ' => turns f xs acc' ρ'

def emit (f : Env → R D) (acc : List D) (ρ : Env) : R (List D) := (f ρ).bind fun d ρ => if acc.length < lim then .ok (acc ++ [d]) ρ else .fail

def popR (i : Nat) (k : Option Int) (ρ : Env) : R D := match ρ.own i with
  | some (.lst xs) => match k with
    | none => match xs.getLast? with
      | some x => .ok x (ρ.set i (.ow (.lst xs.dropLast)))
      | none => .fail
    | some k => if xs.length ≤ lim then match ixN xs.length k with
      | some j => match xs[j]? with
        | some x => .ok x (ρ.set i (.ow (.lst (xs.eraseIdx j))))
        | none => .fail
      | none => .fail
      else .fail
  | _ => .fail
mutual
def ev (cx : Cxt) : E → Env → R D
  | .var i, ρ => .of (ρ.fz i) ρ
  | .con d, ρ => .ok d ρ
  | .glo x, ρ => .of (cx.gl x) ρ
  | .tup es, ρ => (evs cx es ρ).bind fun ds ρ => if ds.length ≤ lim then .ok (.tup ds) ρ else .fail
  | .neg e, ρ => (ev cx e ρ).bind fun d ρ => match d with
    | .int i => .ok (.int (-i)) ρ
    | _ => .fail
  | .bin op a b, ρ => (evT cx a ρ).bind fun x ρ => (evT cx b ρ).bind fun y ρ => match a.res x ρ, b.res y ρ with
    | some d, some e => .of (binD op d e) ρ
    | _, _ => .fail
  | .cmp op a b, ρ => (evT cx a ρ).bind fun x ρ => (evT cx b ρ).bind fun y ρ => match a.res x ρ, b.res y ρ with
    | some d, some e => .of ((cmpD op d e).map .bl) ρ
    | _, _ => .fail
  | .chain op op' a b c, ρ => (evT cx a ρ).bind fun x ρ => (evT cx b ρ).bind fun y ρ => match a.res x ρ, b.res y ρ with
    | some d, some e => match cmpD op d e with
      | some true => (evT cx c ρ).bind fun z ρ => match b.res y ρ, c.res z ρ with
        | some e', some f => .of ((cmpD op' e' f).map .bl) ρ
        | _, _ => .fail
      | some false => .ok (.bl false) ρ
      | none => .fail
    | _, _ => .fail
  | .nt e, ρ => (ev cx e ρ).bind fun d ρ => match d with
    | .bl b => .ok (.bl (!b)) ρ
    | _ => .fail
  | .and_ a b, ρ => (ev cx a ρ).bind fun d ρ => match d with
    | .bl true => ev cx b ρ
    | .bl false => .ok (.bl false) ρ
    | _ => .fail
  | .or_ a b, ρ => (ev cx a ρ).bind fun d ρ => match d with
    | .bl true => .ok (.bl true) ρ
    | .bl false => ev cx b ρ
    | _ => .fail
  | .ite c a b, ρ => (ev cx c ρ).bind fun d ρ => match d with
    | .bl true => ev cx a ρ
    | .bl false => ev cx b ρ
    | _ => .fail
  | .isN neg e, ρ => (ev cx e ρ).bind fun d ρ => match d with
    | .non => .ok (.bl (!neg)) ρ
    | _ => .ok (.bl neg) ρ
  | .ix a b, ρ => (evT cx a ρ).bind fun x ρ => (evT cx b ρ).bind fun y ρ => match a.res x ρ, b.res y ρ with
    | some d, some e => .of (ixD d e) ρ
    | _, _ => .fail
  | .sl a lo hi, ρ => (evT cx a ρ).bind fun x ρ => (evO cx lo ρ).bind fun i ρ => (evO cx hi ρ).bind fun j ρ => match a.res x ρ with
    | some d => .of (slD d i j) ρ
    | _ => .fail
  | .rev a, ρ => (evT cx a ρ).bind fun x ρ => match a.res x ρ with
    | some d => .of (revD d) ρ
    | _ => .fail
  | .call f es, ρ => (evs cx es ρ).bind fun ds ρ => match cx.cf f ds with
    | .fail => .fail
    | .exc c => .exc c ρ
    | .ok d => .ok d ρ
  | .bi f ts, ρ => (evTs cx ts ρ).bind fun xs ρ => match resL ts xs ρ with
    | some ds => .of (biD f ds) ρ
    | _ => .fail
  | .mt m o ts, ρ => (evT cx o ρ).bind fun x ρ => (evTs cx ts ρ).bind fun xs ρ => match o.res x ρ, resL ts xs ρ with
    | some d, some ds => .of (mtD m d ds) ρ
    | _, _ => .fail
  | .isi a t, ρ => (evT cx a ρ).bind fun x ρ => match a.res x ρ with
    | some d => .of ((isiD d t).map .bl) ρ
    | _ => .fail
  | .tupR it, ρ => (evIt cx it ρ).bind fun xs ρ => if xs.length ≤ lim then .ok (.tup xs) ρ else .fail
  | .pop i k, ρ => if (ρ.own i).isSome then (evO cx k ρ).bind fun k ρ => popR i k ρ else .fail
  | .fr p, ρ => evP cx p ρ
def evs (cx : Cxt) : List E → Env → R (List D)
  | [], ρ => .ok [] ρ
  | e :: es, ρ => (ev cx e ρ).bind fun d ρ => (evs cx es ρ).bind fun ds ρ => .ok (d :: ds) ρ
def evT (cx : Cxt) : T → Env → R D
  | .b i, ρ => match ρ.bo i with
    | some _ => .ok .non ρ
    | none => .fail
  | .e e, ρ => ev cx e ρ
def evTs (cx : Cxt) : List T → Env → R (List D)
  | [], ρ => .ok [] ρ
  | t :: ts, ρ => (evT cx t ρ).bind fun d ρ => (evTs cx ts ρ).bind fun ds ρ => .ok (d :: ds) ρ
def evO (cx : Cxt) : Option E → Env → R (Option Int)
  | none, ρ => .ok none ρ
  | some e, ρ => (ev cx e ρ).bind fun d ρ => match d with
    | .int i => .ok (some i) ρ
    | _ => .fail
def evP (cx : Cxt) : P → Env → R D
  | .lst es, ρ => (evs cx es ρ).bind fun ds ρ => if ds.length ≤ lim then .ok (.lst ds) ρ else .fail
  | .comp elt tg it ifs cls own, ρ => (evIt cx it ρ).bind fun xs ρ =>
    let ρ1 := lockT it ρ
    (R.mapEnv (fun ρ' => unlockT it ρ (back ρ1 ρ' own)) (turns (fun x acc ρ => match tg.asg x ρ with
      | some ρ => (evIfs cx ifs ρ).bind fun b ρ => if b then evCls cx (emit (ev cx elt)) cls acc ρ else .ok acc ρ
      | none => .fail) xs [] (wipe ρ1 own)).noX).bind fun acc ρ => .ok (.lst acc) ρ
  | .list t, ρ => (evT cx t ρ).bind fun x ρ => match t.res x ρ with
    | some d => .of ((listC d).map .lst) ρ
    | none => .fail
  | .listR it, ρ => (evIt cx it ρ).bind fun xs ρ => if xs.length ≤ lim then .ok (.lst xs) ρ else .fail
  | .rep a b, ρ => (evT cx a ρ).bind fun x ρ => (evT cx b ρ).bind fun y ρ => match a.res x ρ, b.res y ρ with
    | some (.lst xs), some (.int k) => .of (binD .mul (.lst xs) (.int k)) ρ
    | _, _ => .fail
  | .cat a b, ρ => (evT cx a ρ).bind fun x ρ => (evT cx b ρ).bind fun y ρ => match a.res x ρ, b.res y ρ with
    | some (.lst xs), some (.lst ys) => .of (binD .add (.lst xs) (.lst ys)) ρ
    | _, _ => .fail
  | .sorted t, ρ => (evT cx t ρ).bind fun x ρ => match t.res x ρ with
    | some d => .of ((sortC d).map .lst) ρ
    | none => .fail
  | .set t, ρ => (evT cx t ρ).bind fun x ρ => match (t.res x ρ).bind itemsD with
    | some xs => if okD (.tup xs) then .ok (.set (dedup xs)) ρ else .fail
    | none => .fail
  | .dict ks vs, ρ => (evs cx ks ρ).bind fun ks ρ => (evs cx vs ρ).bind fun vs ρ => .ok (.dic (ks.zip vs)) ρ
def evIfs (cx : Cxt) : List E → Env → R Bool
  | [], ρ => .ok true ρ
  | e :: es, ρ => (ev cx e ρ).bind fun d ρ => match d with
    | .bl true => evIfs cx es ρ
    | .bl false => .ok false ρ
    | _ => .fail
def evCls (cx : Cxt) (em : List D → Env → R (List D)) : List Cl → List D → Env → R (List D)
  | [], acc, ρ => em acc ρ
  | .mk tg it ifs :: cls, acc, ρ => (evIt cx it ρ).bind fun xs ρ =>
    R.mapEnv (unlockT it ρ) (turns (fun x acc ρ => match tg.asg x ρ with
      | some ρ => (evIfs cx ifs ρ).bind fun b ρ => if b then evCls cx em cls acc ρ else .ok acc ρ
      | none => .fail) xs acc (lockT it ρ))
def evIt (cx : Cxt) : It → Env → R (List D)
  | .r1 e, ρ => (ev cx e ρ).bind fun d ρ => match d with
    | .int n => if smallI n then .ok (rng 0 n) ρ else .fail
    | _ => .fail
  | .r2 a b, ρ => (ev cx a ρ).bind fun x ρ => (ev cx b ρ).bind fun y ρ => match x, y with
    | .int i, .int j => if smallI i && smallI j then .ok (rng i j) ρ else .fail
    | _, _ => .fail
  | .t t, ρ => (evT cx t ρ).bind fun x ρ => .of ((t.res x ρ).bind itemsD) ρ
  | .en t, ρ => (evT cx t ρ).bind fun x ρ => .of (((t.res x ρ).bind itemsD).map enumD) ρ
end

/-! ### statements -/
def whileL (c : Env → R D) (b : Env → SR) : Nat → Env → SR
  | 0, _ => .fail
  | n + 1, ρ => match c ρ with
    | .ok (.bl true) ρ => match b ρ with
      | .nx ρ => whileL c b n ρ
      | .ct ρ => whileL c b n ρ
      | .brk ρ => .nx ρ
      | r => r
    | .ok (.bl false) ρ => .nx ρ
    | .exc c ρ => .exc c ρ
    | _ => .fail
def forL (f : D → Env → SR) : List D → Env → SR
  | [], ρ => .nx ρ
  | x :: xs, ρ => match f x ρ with
    | .nx ρ => forL f xs ρ
    | .ct ρ => forL f xs ρ
    | .brk ρ => .nx ρ
    | r => r
def SR.ofR {α : Type} (r : R α) (f : α → Env → SR) : SR := match r with
  | .fail => .fail
  | .exc c ρ => .exc c ρ
  | .ok a ρ => f a ρ
def SR.ofO {α : Type} (o : Option α) (f : α → SR) : SR := match o with
  | some a => f a
  | none => .fail
def turnsMost : Nat := 1000000
def evS (cx : Cxt) : E ⊕ P → Env → R Sl
  | .inl e, ρ => (ev cx e ρ).bind fun d ρ => .ok (.fr d) ρ
  | .inr p, ρ => (evP cx p ρ).bind fun d ρ => .ok (.ow d) ρ
def setSl (i : Nat) (x : Sl) (ρ : Env) : Option Env := if i < ρ.length then some (ρ.set i x) else none
def appR (i : Nat) (d : D) (ρ : Env) : SR := match ρ.own i with
  | some (.lst xs) => if xs.length < lim then .nx (ρ.set i (.ow (.lst (xs ++ [d])))) else .fail
  | _ => .fail
def extR (i : Nat) (y : D) (ρ : Env) : SR := match ρ.own i with
  | some (.lst xs) => match y with
    | .lst ys => if xs.length + ys.length ≤ lim then .nx (ρ.set i (.ow (.lst (xs ++ ys)))) else .fail
    | _ => .fail
  | _ => .fail
mutual
def exS (cx : Cxt) : S → Env → SR
  | .set tg e, ρ => .ofR (ev cx e ρ) fun d ρ => .ofO (tg.asg d ρ) .nx
  | .own i p, ρ => .ofR (evP cx p ρ) fun d ρ => .ofO (setSl i (.ow d) ρ) .nx
  | .par2 i j a b, ρ => .ofR (evS cx a ρ) fun x ρ => .ofR (evS cx b ρ) fun y ρ => .ofO ((setSl i x ρ).bind (setSl j y)) .nx
  | .par3 i j k a b c, ρ => .ofR (evS cx a ρ) fun x ρ => .ofR (evS cx b ρ) fun y ρ => .ofR (evS cx c ρ) fun z ρ => .ofO (((setSl i x ρ).bind (setSl j y)).bind (setSl k z)) .nx
  | .aug i op e, ρ => .ofO (ρ.fz i) fun x => .ofR (ev cx e ρ) fun y ρ => .ofO (binD op x y) fun z => .ofO (setSl i (.fr z) ρ) .nx
  | .app i e, ρ => if (ρ.own i).isSome then .ofR (ev cx e ρ) fun d ρ => appR i d ρ else .fail
  | .ext i t, ρ => if (ρ.own i).isSome then .ofR (evT cx t ρ) fun x ρ => .ofO (t.res x ρ) fun y => extR i y ρ else .fail
  | .add i e, ρ => .ofR (ev cx e ρ) fun d ρ => match ρ.own i with
    | some (.set xs) => if okD d then .nx (ρ.set i (.ow (.set (if memD d xs then xs else xs ++ [d])))) else .fail
    | _ => .fail
  | .sti i k e, ρ => .ofR (ev cx e ρ) fun d ρ => .ofR (ev cx k ρ) fun k ρ => match ρ.own i, k with
    | some (.lst xs), .int k => if xs.length ≤ lim then .ofO (ixN xs.length k) fun j => .nx (ρ.set i (.ow (.lst (xs.set j d)))) else .fail
    | some (.dic kvs), k => if okD k && decide (kvs.length < lim) then .nx (ρ.set i (.ow (.dic (putK kvs k d)))) else .fail
    | _, _ => .fail
  | .expr e, ρ => .ofR (ev cx e ρ) fun _ ρ => .nx ρ
  | .iff c a b, ρ => .ofR (ev cx c ρ) fun d ρ => match d with
    | .bl true => exSs cx a ρ
    | .bl false => exSs cx b ρ
    | _ => .fail
  | .whl c b, ρ => whileL (ev cx c) (exSs cx b) turnsMost ρ
  | .for_ tg it b, ρ => .ofR (evIt cx it ρ) fun xs ρ => SR.mapEnv (unlockT it ρ) (forL (fun x ρ => .ofO (tg.asg x ρ) fun ρ => exSs cx b ρ) xs (lockT it ρ))
  | .ret e, ρ => .ofR (ev cx e ρ) fun d ρ => .ret d ρ
  | .retN, ρ => .ret .non ρ
  | .brk, ρ => .brk ρ
  | .ct, ρ => .ct ρ
  | .pass, ρ => .nx ρ
  | .raise c, ρ => .exc c ρ
  | .try_ b hs, ρ => match exSs cx b ρ with
    | .exc c ρ => exH cx hs c ρ
    | r => r
  | .frz i, ρ => match ρ.own i with
    | some d => .nx (ρ.set i (.fr d))
    | none => .fail
  | .wall, _ => .fail
def exSs (cx : Cxt) : List S → Env → SR
  | [], ρ => .nx ρ
  | s :: ss, ρ => match exS cx s ρ with
    | .nx ρ => exSs cx ss ρ
    | r => r
def exH (cx : Cxt) : List (Str × List S) → Str → Env → SR
  | [], c, ρ => .exc c ρ
  | (c', b) :: hs, c, ρ => if c = c' then exSs cx b ρ else exH cx hs c ρ
end
structure Fn where
  name : Str
  names : List Str
  nargs : Nat
  body : List S
def Fn.run (cx : Cxt) (f : Fn) (ds : List D) : Out :=
  if ds.length = f.nargs then
    match exSs cx f.body (ds.map .fr ++ List.replicate (f.names.length - f.nargs) .un) with
    | .ret d _ => .ok d
    | .nx _ => .ok .non
    | .exc c _ => .exc c
    | _ => .fail
  else .fail
structure Pr where
  fns : List Fn
  gls : List (Str × D)
def Pr.fn (p : Pr) (x : Str) : Option Fn := p.fns.find? fun f => f.name == x
def Pr.gl (p : Pr) (x : Str) : Option D := p.gls.lookup x
def Pr.cf (p : Pr) : Nat → Str → List D → Out
  | 0, _, _ => .fail
  | n + 1, x, ds => match p.fn x with
    | some f => f.run ⟨p.cf n, p.gl⟩ ds
    | none => .fail
end MP

namespace MP
open PySem PySem.Spec PyProof.Rows L2

theorem lim_eq : lim = sizeLine := by rw [sizeLine_eq]; rfl

/-! ### what a value stands for -/
def Sub (G H : Hp) : Prop := ∀ a o, G a = some o → H a = some o
theorem Sub.refl (G : Hp) : Sub G G := fun _ _ h => h
theorem Sub.trans {G H J : Hp} (a : Sub G H) (b : Sub H J) : Sub G J := fun x o h => b x o (a x o h)
theorem Sub.rd {G H : Hp} (s : Sub G H) {a : Addr} {u : HO} (h : Rd G a u) : Rd H a u := by
  rcases h with h | ⟨o, h⟩
  · exact .inl (s _ _ h)
  · exact .inr ⟨o, s _ _ h⟩
theorem Sub.sqT {K : PySem.W.Frag} {G H : Hp} (s : Sub G H) {a : Addr} {xs : List V} (h : SqT K G a xs) : SqT K H a xs := by
  rcases h with h | h
  · exact .inl (s.rd h)
  · exact .inr h
theorem Sub.sqL {K : PySem.W.Frag} {G H : Hp} (s : Sub G H) {a : Addr} {xs : List V} (h : SqL K G a xs) : SqL K H a xs := by
  rcases h with h | h
  · exact .inl (s.rd h)
  · exact .inr h

mutual
inductive Rep (K : PySem.W.Frag) (G : Hp) : V → D → Prop
  | non : Rep K G .non .non
  | bl (b : Bool) : Rep K G (.bl b) (.bl b)
  | int (i : Int) : Rep K G (.int i) (.int i)
  | str (s : Str) : Rep K G (.str s) (.str s)
  | tup {a : Addr} {vs : List V} {ds : List D} : SqT K G a vs → RepL K G vs ds → Rep K G (.ref a) (.tup ds)
  | lst {a : Addr} {vs : List V} {ds : List D} : G a = some (.lst vs) → RepL K G vs ds → Rep K G (.ref a) (.lst ds)
  | scr {a : Addr} {vs : List V} {ds : List D} : SqL K G a vs → RepL K G vs ds → Rep K G (.ref a) (.scr ds)
inductive RepL (K : PySem.W.Frag) (G : Hp) : List V → List D → Prop
  | nil : RepL K G [] []
  | cons {v : V} {d : D} {vs : List V} {ds : List D} : Rep K G v d → RepL K G vs ds → RepL K G (v :: vs) (d :: ds)
end

section
variable {K : PySem.W.Frag} {G H : Hp}
mutual
theorem Rep.mono (s : Sub G H) : ∀ {v : V} {d : D}, Rep K G v d → Rep K H v d
  | _, _, .non => .non
  | _, _, .bl b => .bl b
  | _, _, .int i => .int i
  | _, _, .str x => .str x
  | _, _, .tup h r => .tup (s.sqT h) (RepL.mono s r)
  | _, _, .lst h r => .lst (s _ _ h) (RepL.mono s r)
  | _, _, .scr h r => .scr (s.sqL h) (RepL.mono s r)
theorem RepL.mono (s : Sub G H) : ∀ {vs : List V} {ds : List D}, RepL K G vs ds → RepL K H vs ds
  | _, _, .nil => .nil
  | _, _, .cons h r => .cons (Rep.mono s h) (RepL.mono s r)
end
theorem RepL.length : ∀ {vs : List V} {ds : List D}, RepL K G vs ds → vs.length = ds.length
  | _, _, .nil => rfl
  | _, _, .cons _ r => by simp [RepL.length r]
theorem RepL.append : ∀ {vs ws : List V} {ds es : List D}, RepL K G vs ds → RepL K G ws es → RepL K G (vs ++ ws) (ds ++ es)
  | _, _, _, _, .nil, r => r
  | _, _, _, _, .cons h t, r => .cons h (RepL.append t r)
theorem RepL.get : ∀ {vs : List V} {ds : List D} {i : Nat} {d : D}, RepL K G vs ds → ds[i]? = some d → ∃ v, vs[i]? = some v ∧ Rep K G v d
  | _, _, _, _, .nil, e => by simp at e
  | _, _, 0, _, .cons h _, e => by simp at e; subst e; exact ⟨_, rfl, h⟩
  | _, _, i + 1, _, .cons _ t, e => by
    obtain ⟨v, h1, h2⟩ := RepL.get (i := i) t (by simpa using e)
    exact ⟨v, by simpa using h1, h2⟩
theorem RepL.getV : ∀ {vs : List V} {ds : List D} {i : Nat} {v : V}, RepL K G vs ds → vs[i]? = some v → ∃ d, ds[i]? = some d ∧ Rep K G v d
  | _, _, _, _, .nil, e => by simp at e
  | _, _, 0, _, .cons h _, e => by simp at e; subst e; exact ⟨_, rfl, h⟩
  | _, _, i + 1, _, .cons _ t, e => by
    obtain ⟨v, h1, h2⟩ := RepL.getV (i := i) t (by simpa using e)
    exact ⟨v, by simpa using h1, h2⟩
theorem RepL.drop : ∀ {vs : List V} {ds : List D} (n : Nat), RepL K G vs ds → RepL K G (vs.drop n) (ds.drop n)
  | _, _, 0, r => r
  | _, _, _ + 1, .nil => .nil
  | _, _, n + 1, .cons _ t => RepL.drop n t
theorem RepL.take : ∀ {vs : List V} {ds : List D} (n : Nat), RepL K G vs ds → RepL K G (vs.take n) (ds.take n)
  | _, _, 0, _ => .nil
  | _, _, _ + 1, .nil => .nil
  | _, _, n + 1, .cons h t => .cons h (RepL.take n t)
theorem RepL.reverse : ∀ {vs : List V} {ds : List D}, RepL K G vs ds → RepL K G vs.reverse ds.reverse
  | _, _, .nil => .nil
  | _, _, .cons h t => by
    rw [List.reverse_cons, List.reverse_cons]
    exact (RepL.reverse t).append (.cons h .nil)
theorem RepL.set {v : V} {d : D} (h : Rep K G v d) : ∀ {vs : List V} {ds : List D} (i : Nat), RepL K G vs ds → RepL K G (vs.set i v) (ds.set i d)
  | _, _, _, .nil => .nil
  | _, _, 0, .cons _ t => .cons h t
  | _, _, i + 1, .cons q t => .cons q (RepL.set h i t)
theorem RepL.eraseIdx : ∀ {vs : List V} {ds : List D} (i : Nat), RepL K G vs ds → RepL K G (vs.eraseIdx i) (ds.eraseIdx i)
  | _, _, _, .nil => .nil
  | _, _, 0, .cons _ t => t
  | _, _, i + 1, .cons q t => .cons q (RepL.eraseIdx i t)
theorem RepL.dropLast {vs : List V} {ds : List D} (r : RepL K G vs ds) : RepL K G vs.dropLast ds.dropLast := by
  rw [List.dropLast_eq_take, List.dropLast_eq_take, r.length]
  exact r.take _
theorem RepL.rep {vs : List V} {ds : List D} (r : RepL K G vs ds) : ∀ n : Nat, RepL K G (List.replicate n vs).flatten (List.replicate n ds).flatten
  | 0 => .nil
  | n + 1 => by
    rw [List.replicate_succ, List.replicate_succ, List.flatten_cons, List.flatten_cons]
    exact r.append (RepL.rep r n)
theorem RepL.cut {vs : List V} {ds : List D} (r : RepL K G vs ds) (lo hi : Option Int) : RepL K G (MP.cut vs lo hi) (MP.cut ds lo hi) := by
  unfold MP.cut
  rw [r.length]
  exact (r.drop _).take _
/-- lists of ints -/
theorem RepL.ints : ∀ {vs : List V} {ds : List D} {ns : List Int}, RepL K G vs ds → intsD ds = some ns → vs = ns.map V.int
  | _, [], ns, .nil, e => by
    simp only [intsD, Option.some.injEq] at e
    subst e; rfl
  | _, .int i :: ds, ns, .cons h t, e => by
    simp only [intsD, Option.map_eq_some_iff] at e
    obtain ⟨m, e1, rfl⟩ := e
    cases h
    rw [List.map_cons, RepL.ints t e1]
  | _, .non :: _, _, _, e => by simp [intsD] at e
  | _, .bl _ :: _, _, _, e => by simp [intsD] at e
  | _, .str _ :: _, _, _, e => by simp [intsD] at e
  | _, .tup _ :: _, _, _, e => by simp [intsD] at e
  | _, .lst _ :: _, _, _, e => by simp [intsD] at e
  | _, .set _ :: _, _, _, e => by simp [intsD] at e
  | _, .scr _ :: _, _, _, e => by simp [intsD] at e
  | _, .dic _ :: _, _, _, e => by simp [intsD] at e
theorem RepL.bools : ∀ {vs : List V} {ds : List D} {ns : List Bool}, RepL K G vs ds → boolsD ds = some ns → vs = ns.map V.bl
  | _, [], ns, .nil, e => by
    simp only [boolsD, Option.some.injEq] at e
    subst e; rfl
  | _, .bl i :: ds, ns, .cons h t, e => by
    simp only [boolsD, Option.map_eq_some_iff] at e
    obtain ⟨m, e1, rfl⟩ := e
    cases h
    rw [List.map_cons, RepL.bools t e1]
  | _, .non :: _, _, _, e => by simp [boolsD] at e
  | _, .int _ :: _, _, _, e => by simp [boolsD] at e
  | _, .str _ :: _, _, _, e => by simp [boolsD] at e
  | _, .tup _ :: _, _, _, e => by simp [boolsD] at e
  | _, .lst _ :: _, _, _, e => by simp [boolsD] at e
  | _, .set _ :: _, _, _, e => by simp [boolsD] at e
  | _, .scr _ :: _, _, _, e => by simp [boolsD] at e
  | _, .dic _ :: _, _, _, e => by simp [boolsD] at e

/-! ### as the library's data -/
mutual
def toPy : D → PyData
  | .non => .none
  | .bl b => .bool b
  | .int i => .int i
  | .str s => .str s
  | .tup xs => .tuple (toPyL xs)
  | .lst xs => .list (toPyL xs)
  | .set _ => .dict []
  | .dic _ => .dict []
  | .scr _ => .dict []
def toPyL : List D → List PyData
  | [] => []
  | x :: xs => toPy x :: toPyL xs
end
mutual
theorem Rep.dp : ∀ (n : Nat) {v : V} {d : D}, ok n d = true → Rep K G v d → Dp K G v (toPy d)
  | 0, _, _, h, _ => by simp [ok] at h
  | _ + 1, _, _, _, .non => .non
  | _ + 1, _, _, _, .bl b => .bl b
  | _ + 1, _, _, _, .int i => .int i
  | _ + 1, _, _, _, .str x => .str x
  | n + 1, _, _, o, .tup h r => .tup h (RepL.dp n (by simpa [ok] using o) r)
  | n + 1, _, _, o, .lst h r => .lst (SqL.of h) (RepL.dp n (by simpa [ok] using o) r)
  | _ + 1, _, _, o, .scr _ _ => by simp [ok] at o
theorem RepL.dp : ∀ (n : Nat) {vs : List V} {ds : List D}, okL n ds = true → RepL K G vs ds → DpAll K G vs (toPyL ds)
  | _, _, _, _, .nil => .nil
  | n, _, _, o, .cons h r => by
    rw [okL, Bool.and_eq_true] at o
    exact .cons (Rep.dp n o.1 h) (RepL.dp n o.2 r)
end
end
mutual
theorem ok_lay : ∀ (n : Nat) (d : D), ok n d = true → (toPy d).canLay0 = true ∧ (toPy d).depth ≤ n
  | 0, d, h => by simp [ok] at h
  | n + 1, .non, _ => by simp [toPy, PyData.canLay0, PyData.depth]
  | n + 1, .bl _, _ => by simp [toPy, PyData.canLay0, PyData.depth]
  | n + 1, .int _, _ => by simp [toPy, PyData.canLay0, PyData.depth]
  | n + 1, .str s, h => by simpa [toPy, PyData.canLay0, PyData.depth, ok] using h
  | n + 1, .tup xs, h => by
    have q := ok_layL n xs (by simpa [ok] using h)
    simp only [toPy, PyData.canLay0, PyData.depth]
    exact ⟨q.1, by omega⟩
  | n + 1, .lst xs, h => by
    have q := ok_layL n xs (by simpa [ok] using h)
    simp only [toPy, PyData.canLay0, PyData.depth]
    exact ⟨q.1, by omega⟩
  | n + 1, .set _, h => by simp [ok] at h
  | n + 1, .dic _, h => by simp [ok] at h
  | n + 1, .scr _, h => by simp [ok] at h
theorem ok_layL : ∀ (n : Nat) (ds : List D), okL n ds = true → PyData.canLayAll0 (toPyL ds) = true ∧ PyData.depthAll (toPyL ds) ≤ n
  | n, [], _ => by simp [toPyL, PyData.canLayAll0, PyData.depthAll]
  | n, d :: ds, h => by
    rw [okL, Bool.and_eq_true] at h
    have h1 := ok_lay n d h.1
    have h2 := ok_layL n ds h.2
    simp only [toPyL, PyData.canLayAll0, PyData.depthAll, h1.1, h2.1, Bool.and_self, true_and]
    omega
end
mutual
theorem eqv_py : ∀ (n : Nat) (d e : D), ok n d = true → eqv d e = PyData.eqv (toPy d) (toPy e)
  | 0, d, e, h => by simp [ok] at h
  | n + 1, .non, e, _ => by cases e <;> simp [eqv, toPy, PyData.eqv]
  | n + 1, .bl _, e, _ => by cases e <;> simp [eqv, toPy, PyData.eqv]
  | n + 1, .int _, e, _ => by cases e <;> simp [eqv, toPy, PyData.eqv]
  | n + 1, .str _, e, _ => by cases e <;> simp [eqv, toPy, PyData.eqv]
  | n + 1, .tup xs, e, h => by
    cases e <;> simp only [eqv, toPy, PyData.eqv]
    exact eqv_pyL n xs _ (by simpa [ok] using h)
  | n + 1, .lst xs, e, h => by
    cases e <;> simp only [eqv, toPy, PyData.eqv]
    exact eqv_pyL n xs _ (by simpa [ok] using h)
  | n + 1, .set _, e, h => by simp [ok] at h
  | n + 1, .dic _, e, h => by simp [ok] at h
  | n + 1, .scr _, e, h => by simp [ok] at h
theorem eqv_pyL : ∀ (n : Nat) (ds es : List D), okL n ds = true → eqvL ds es = PyData.eqvAll (toPyL ds) (toPyL es)
  | n, [], [], _ => by simp [eqvL, toPyL, PyData.eqvAll]
  | n, [], _ :: _, _ => by simp [eqvL, toPyL, PyData.eqvAll]
  | n, _ :: _, [], _ => by simp [eqvL, toPyL, PyData.eqvAll]
  | n, d :: ds, e :: es, h => by
    rw [okL, Bool.and_eq_true] at h
    simp only [eqvL, toPyL, PyData.eqvAll]
    rw [eqv_py n d e h.1, eqv_pyL n ds es h.2]
end
theorem okD_shaped {d : D} (h : okD d = true) : SeqAt.shaped (toPy d) = true := by
  obtain ⟨h1, h2⟩ := ok_lay 40 d h
  unfold SeqAt.shaped
  rw [h1, Bool.true_and]
  exact decide_eq_true (by omega)

/-! ### growth -/
/-- from the frozen part G of H to G' of H': nothing changes, what is newly frozen is new -/
structure Ext (G H G' H' : Hp) : Prop where
  gg : Sub G G'
  gh : Sub G' H'
  hh : Sub H H'
  new : ∀ a, G' a ≠ none → G a ≠ none ∨ H a = none
theorem Ext.refl {G H : Hp} (s : Sub G H) : Ext G H G H := ⟨Sub.refl _, s, Sub.refl _, fun _ h => .inl h⟩
theorem none_of_sub {H H' : Hp} (s : Sub H H') {a : Addr} (h : H' a = none) : H a = none := by
  cases q : H a with
  | none => rfl
  | some o => rw [s a o q] at h; cases h
theorem Ext.trans {G H G1 H1 G2 H2 : Hp} (x : Ext G H G1 H1) (y : Ext G1 H1 G2 H2) : Ext G H G2 H2 :=
  ⟨x.gg.trans y.gg, y.gh, x.hh.trans y.hh, fun a h => by
    rcases y.new a h with q | q
    · exact x.new a q
    · exact .inr (none_of_sub x.hh q)⟩
theorem sub_upd {H : Hp} {p : Addr} {o : HO} (h : H p = none) : Sub H (upd H p o) := fun a u e => by
  rw [upd_ne (ne_of_none e h)]; exact e
theorem Ext.laid {G H : Hp} (s : Sub G H) {p : Addr} (o : HO) (h : H p = none) : Ext G H (upd G p o) (upd H p o) := by
  have hg : G p = none := none_of_sub s h
  refine ⟨sub_upd hg, fun a u e => ?_, sub_upd h, fun a e => ?_⟩
  · by_cases q : a = p
    · subst q; rw [upd_same] at e ⊢; exact e
    · rw [upd_ne q] at e ⊢; exact s a u e
  · by_cases q : a = p
    · subst q; exact .inr h
    · rw [upd_ne q] at e; exact .inl e
/-- a new object beside, not frozen -/
theorem Ext.beside {G H : Hp} (s : Sub G H) {p : Addr} (o : HO) (h : H p = none) : Ext G H G (upd H p o) :=
  ⟨Sub.refl _, s.trans (sub_upd h), sub_upd h, fun _ e => .inl e⟩

/-! ### objects of one's own, and what may be read in passing -/
inductive Own (K : PySem.W.Frag) (G H : Hp) : Addr → D → Prop
  | lst {a : Addr} {vs : List V} {ds : List D} : H a = some (.lst vs) → RepL K G vs ds → Own K G H a (.lst ds)
def View (K : PySem.W.Frag) (G H : Hp) (v : V) (d : D) : Prop := Rep K G v d ∨ ∃ a, v = .ref a ∧ G a = none ∧ Own K G H a d
theorem View.of {K : PySem.W.Frag} {G H : Hp} {v : V} {d : D} (h : Rep K G v d) : View K G H v d := .inl h
theorem Own.ext {K : PySem.W.Frag} {G H G' H' : Hp} {a : Addr} {d : D} (o : Own K G H a d) (gg : Sub G G') (hh : ∀ u, H a = some u → H' a = some u) : Own K G' H' a d := by
  cases o with
  | lst h r => exact .lst (hh _ h) (r.mono gg)
theorem Own.there {K : PySem.W.Frag} {G H : Hp} {a : Addr} {d : D} (o : Own K G H a d) : ∃ u, H a = some u := by
  cases o with
  | lst h _ => exact ⟨_, h⟩
theorem View.ext {K : PySem.W.Frag} {G H G' H' : Hp} {v : V} {d : D} (h : View K G H v d) (x : Ext G H G' H') : View K G' H' v d := by
  rcases h with h | ⟨a, e, g, o⟩
  · exact .inl (h.mono x.gg)
  · refine .inr ⟨a, e, ?_, o.ext x.gg (x.hh a)⟩
    cases q : G' a with
    | none => rfl
    | some u =>
      rcases x.new a (by rw [q]; simp) with z | z
      · exact absurd g z
      · obtain ⟨w, hw⟩ := o.there
        rw [hw] at z; cases z
section
variable {K : PySem.W.Frag} {G H : Hp} {v : V}
theorem View.int {i : Int} (h : View K G H v (.int i)) : v = .int i := by
  rcases h with h | ⟨_, _, _, o⟩
  · cases h; rfl
  · cases o
theorem View.bl {i : Bool} (h : View K G H v (.bl i)) : v = .bl i := by
  rcases h with h | ⟨_, _, _, o⟩
  · cases h; rfl
  · cases o
theorem View.str {i : Str} (h : View K G H v (.str i)) : v = .str i := by
  rcases h with h | ⟨_, _, _, o⟩
  · cases h; rfl
  · cases o
theorem View.non (h : View K G H v .non) : v = .non := by
  rcases h with h | ⟨_, _, _, o⟩
  · cases h; rfl
  · cases o
theorem View.tup {ds : List D} (s : Sub G H) (h : View K G H v (.tup ds)) : ∃ a vs, v = .ref a ∧ SqT K G a vs ∧ SqT K H a vs ∧ RepL K G vs ds := by
  rcases h with h | ⟨_, _, _, o⟩
  · cases h with
    | tup h r => exact ⟨_, _, rfl, h, s.sqT h, r⟩
  · cases o
theorem View.lst {ds : List D} (s : Sub G H) (h : View K G H v (.lst ds)) : ∃ a vs, v = .ref a ∧ H a = some (.lst vs) ∧ RepL K G vs ds := by
  rcases h with h | ⟨_, rfl, _, o⟩
  · cases h with
    | lst h r => exact ⟨_, _, rfl, s _ _ h, r⟩
  · cases o with
    | lst h r => exact ⟨_, _, rfl, h, r⟩
theorem View.scr {ds : List D} (s : Sub G H) (h : View K G H v (.scr ds)) : ∃ a vs, v = .ref a ∧ SqL K H a vs ∧ RepL K G vs ds := by
  rcases h with h | ⟨_, rfl, _, o⟩
  · cases h with
    | scr h r => exact ⟨_, _, rfl, s.sqL h, r⟩
  · cases o
theorem View.dp {d : D} (s : Sub G H) (h : View K G H v d) (o : okD d = true) : Dp K H v (toPy d) := by
  rcases h with h | ⟨a, rfl, _, w⟩
  · exact (h.mono s).dp 40 o
  · cases w with
    | lst h r =>
      rw [toPy]
      exact .lst (SqL.of h) ((r.mono s).dp 39 (by simpa [okD, ok] using o))
end
end MP

namespace MP
open PySem PySem.Spec PyProof.Rows L2

def After (K : PySem.W.Frag) (G H : Hp) (Q : VK) (d : D) : Prop := ∀ G' H' v, Ext G H G' H' → Rep K G' v d → Q v H'
def Fresh (K : PySem.W.Frag) (G H : Hp) (Q : VK) (d : D) : Prop := ∀ G' H' a, Ext G H G' H' → H a = none → G' a = none → Own K G' H' a d → Q (.ref a) H'
theorem After.fresh {K : PySem.W.Frag} {G H : Hp} {Q : VK} {d : D} (h : After K G H Q d) : Fresh K G H Q d := fun G' H' a x ha hg o => by
  cases o with
  | @lst vs ds e r =>
    refine h (upd G' a (.lst vs)) H' (.ref a) ⟨x.gg.trans (sub_upd hg), fun b u q => ?_, x.hh, fun b q => ?_⟩ (.lst upd_same (r.mono (sub_upd hg)))
    · by_cases hb : b = a
      · subst hb; rw [upd_same] at q; rw [← q]; exact e
      · rw [upd_ne hb] at q; exact x.gh b u q
    · by_cases hb : b = a
      · subst hb; exact .inr ha
      · rw [upd_ne hb] at q; exact x.new b q
section
variable {K : PySem.W.Frag} {G H : Hp} {Q : VK}
theorem After.here {v : V} {d : D} (h : After K G H Q d) (s : Sub G H) (r : Rep K G v d) : Q v H := h G H v (.refl s) r
theorem After.tup {ds : List D} {vs : List V} {p : Addr} (h : After K G H Q (.tup ds)) (s : Sub G H) (r : RepL K G vs ds) (hp : H p = none) : Q (.ref p) (upd H p (.tup vs)) :=
  h _ _ _ (.laid s (.tup vs) hp) (.tup (SqT.of upd_same) (r.mono (sub_upd (none_of_sub s hp))))
theorem After.lst {ds : List D} {vs : List V} {p : Addr} (h : After K G H Q (.lst ds)) (s : Sub G H) (r : RepL K G vs ds) (hp : H p = none) : Q (.ref p) (upd H p (.lst vs)) :=
  h _ _ _ (.laid s (.lst vs) hp) (.lst upd_same (r.mono (sub_upd (none_of_sub s hp))))
theorem Fresh.lst {ds : List D} {vs : List V} {p : Addr} (h : Fresh K G H Q (.lst ds)) (s : Sub G H) (r : RepL K G vs ds) (hp : H p = none) : Q (.ref p) (upd H p (.lst vs)) :=
  h G _ p (.beside s (.lst vs) hp) hp (none_of_sub s hp) (.lst upd_same r)
end

/-- a two-place operation by values -/
def r2 (K : PySem.W.Frag) (f : D → D → Option D) : R2 := fun x y H Q => ∃ G d e r, Sub G H ∧ View K G H x d ∧ View K G H y e ∧ f d e = some r ∧ After K G H Q r
def r2F (K : PySem.W.Frag) (f : D → D → Option D) : R2 := fun x y H Q => ∃ G d e r, Sub G H ∧ View K G H x d ∧ View K G H y e ∧ f d e = some r ∧ Fresh K G H Q r
section
variable {X : Cx}
theorem mulOk_C {i j : Int} (h : mulOk i j = true) : CMul i j := by
  unfold mulOk at h
  rw [Bool.or_eq_true, Bool.and_eq_true, Bool.and_eq_true] at h
  rcases h with ⟨h1, h2⟩ | ⟨h1, h2⟩
  · exact .inl ⟨of_decide_eq_true h1, of_decide_eq_true h2⟩
  · exact .inr ⟨of_decide_eq_true h1, of_decide_eq_true h2⟩
theorem op_addM : OpR X (binaryOp .Add) (r2 X.K (addD)) := by
  intro pins s σ H x y v u Q I rx ry h
  obtain ⟨G, d, e, r, sb, vx, vy, hf, q⟩ := h
  unfold addD at hf
  split at hf <;> try (first | cases hf | contradiction)
  · obtain rfl := vx.int; obtain rfl := vy.int
    exact op_add pins s σ H _ _ v u Q I rx ry ⟨_, _, rfl, rfl, q.here sb (.int _)⟩
  · obtain rfl := vx.str; obtain rfl := vy.str
    split at hf <;> cases hf
    rename_i hl
    exact op_add_str pins s σ H _ _ v u Q I rx ry ⟨_, _, rfl, rfl, by rw [← lim_eq]; exact hl, q.here sb (.str _)⟩
  · obtain ⟨a, vs, rfl, h1, h1', r1⟩ := vx.tup sb
    obtain ⟨b, ws, rfl, h2, h2', r2⟩ := vy.tup sb
    split at hf <;> cases hf
    rename_i hl
    refine op_catA pins s σ H _ _ v u Q I rx ry ⟨a, b, vs, ws, rfl, rfl, h1', h2', by rw [r1.length, r2.length, ← lim_eq]; exact hl, fun e => ?_, fun _ e => ?_, fun _ _ p hp => ?_⟩
    · subst e
      cases r1
      exact q.here sb (.tup h2 r2)
    · subst e
      cases r2
      rw [List.append_nil] at q
      exact q.here sb (.tup h1 r1)
    · exact q.tup sb (r1.append r2) hp
  · obtain ⟨a, vs, rfl, h1, r1⟩ := vx.lst sb
    obtain ⟨b, ws, rfl, h2, r2⟩ := vy.lst sb
    split at hf <;> cases hf
    rename_i hl
    exact op_cat pins s σ H _ _ v u Q I rx ry ⟨a, b, vs, ws, rfl, rfl, h1, h2, by rw [r1.length, r2.length, ← lim_eq]; exact hl, fun p hp => q.lst sb (r1.append r2) hp⟩

theorem op_subM : OpR X (binaryOp .Sub) (r2 X.K subD) := by
  intro pins s σ H x y v u Q I rx ry h
  obtain ⟨G, d, e, r, sb, vx, vy, hf, q⟩ := h
  unfold subD at hf
  split at hf <;> cases hf
  obtain rfl := vx.int; obtain rfl := vy.int
  exact op_sub pins s σ H _ _ v u Q I rx ry ⟨_, _, rfl, rfl, q.here sb (.int _)⟩
theorem op_mulM : OpR X (binaryOp .Mult) (r2 X.K mulD) := by
  intro pins s σ H x y v u Q I rx ry h
  obtain ⟨G, d, e, r, sb, vx, vy, hf, q⟩ := h
  unfold mulD at hf
  split at hf
  · split at hf <;> cases hf
    rename_i hm
    obtain rfl := vx.int; obtain rfl := vy.int
    exact op_mul pins s σ H _ _ v u Q I rx ry ⟨_, _, rfl, rfl, mulOk_C hm, q.here sb (.int _)⟩
  · split at hf <;> cases hf
    rename_i hm
    obtain ⟨a, vs, rfl, h1, r1⟩ := vx.lst sb
    obtain rfl := vy.int
    rw [Bool.and_eq_true] at hm
    obtain ⟨m1, m2⟩ := hm
    unfold smallI at m1
    rw [Bool.and_eq_true] at m1
    have a1 := of_decide_eq_true m1.1
    have a2 := of_decide_eq_true m1.2
    have a3 := of_decide_eq_true m2
    exact op_rep pins s σ H _ _ v u Q I rx ry ⟨a, _, vs, rfl, rfl, h1, by omega, by omega, by rw [r1.length, ← lim_eq]; exact a3, fun p hp => q.lst sb (r1.rep _) hp⟩
  · cases hf
theorem op_modM : OpR X (binaryOp .Mod) (r2 X.K modD) := by
  intro pins s σ H x y v u Q I rx ry h
  obtain ⟨G, d, e, r, sb, vx, vy, hf, q⟩ := h
  unfold modD at hf
  split at hf
  · split at hf <;> cases hf
    obtain rfl := vx.int; obtain rfl := vy.int
    exact op_mod pins s σ H _ _ v u Q I rx ry ⟨_, _, rfl, rfl, by assumption, q.here sb (.int _)⟩
  · cases hf
theorem op_fdivM : OpR X (binaryOp .FloorDiv) (r2 X.K fdivD) := by
  intro pins s σ H x y v u Q I rx ry h
  obtain ⟨G, d, e, r, sb, vx, vy, hf, q⟩ := h
  unfold fdivD at hf
  split at hf
  · split at hf <;> cases hf
    obtain rfl := vx.int; obtain rfl := vy.int
    exact op_fdiv pins s σ H _ _ v u Q I rx ry ⟨_, _, rfl, rfl, by assumption, q.here sb (.int _)⟩
  · cases hf
theorem op_powM : OpR X (binaryOp .Pow) (r2 X.K powD) := by
  intro pins s σ H x y v u Q I rx ry h
  obtain ⟨G, d, e, r, sb, vx, vy, hf, q⟩ := h
  unfold powD at hf
  split at hf
  · split at hf <;> cases hf
    obtain rfl := vx.int; obtain rfl := vy.int
    exact op_pow pins s σ H _ _ v u Q I rx ry ⟨_, _, rfl, rfl, by assumption, q.here sb (.int _)⟩
  · cases hf
theorem op_shlM : OpR X (binaryOp .LShift) (r2 X.K shlD) := by
  intro pins s σ H x y v u Q I rx ry h
  obtain ⟨G, d, e, r, sb, vx, vy, hf, q⟩ := h
  unfold shlD at hf
  split at hf
  · split at hf <;> cases hf
    obtain rfl := vx.int; obtain rfl := vy.int
    exact op_shl pins s σ H _ _ v u Q I rx ry ⟨_, _, rfl, rfl, by assumption, q.here sb (.int _)⟩
  · cases hf
theorem op_shrM : OpR X (binaryOp .RShift) (r2 X.K shrD) := by
  intro pins s σ H x y v u Q I rx ry h
  obtain ⟨G, d, e, r, sb, vx, vy, hf, q⟩ := h
  unfold shrD at hf
  split at hf
  · split at hf <;> cases hf
    obtain rfl := vx.int; obtain rfl := vy.int
    exact op_shr pins s σ H _ _ v u Q I rx ry ⟨_, _, rfl, rfl, by assumption, q.here sb (.int _)⟩
  · cases hf
theorem op_bandM : OpR X (binaryOp .BitAnd) (r2 X.K bandD) := by
  intro pins s σ H x y v u Q I rx ry h
  obtain ⟨G, d, e, r, sb, vx, vy, hf, q⟩ := h
  unfold bandD at hf
  split at hf <;> cases hf
  obtain rfl := vx.int; obtain rfl := vy.int
  exact op_and pins s σ H _ _ v u Q I rx ry ⟨_, _, rfl, rfl, q.here sb (.int _)⟩
/-- the operators of the text -/
def bopP : Bop → Operator
  | .add => .Add | .sub => .Sub | .mul => .Mult | .mod => .Mod | .fdiv => .FloorDiv | .pow => .Pow | .shl => .LShift | .shr => .RShift | .band => .BitAnd
theorem op_binM : ∀ op : Bop, OpR X (binaryOp (bopP op)) (r2 X.K (binD op))
  | .add => op_addM | .sub => op_subM | .mul => op_mulM | .mod => op_modM | .fdiv => op_fdivM | .pow => op_powM | .shl => op_shlM | .shr => op_shrM | .band => op_bandM

/-! ### comparisons -/
def rc (K : PySem.W.Frag) (f : D → D → Option Bool) : R2 := fun x y H Q => ∃ G d e b, Sub G H ∧ View K G H x d ∧ View K G H y e ∧ f d e = some b ∧ Q (.bl b) H
theorem op_eqM (hu : X.A.units + 64 < cLine) : OpR X (compareOp .Eq) (rc X.K eqD) := by
  intro pins s σ H x y v u Q I rx ry h
  obtain ⟨G, d, e, r, sb, vx, vy, hf, q⟩ := h
  unfold eqD at hf
  split at hf <;> cases hf
  rename_i hk
  rw [Bool.and_eq_true] at hk
  refine op_eqD hu pins s σ H x y v u Q I rx ry ⟨_, _, vx.dp sb hk.1, vy.dp sb hk.2, okD_shaped hk.1, okD_shaped hk.2, ?_⟩
  rw [← eqv_py 40 d e hk.1]; exact q
theorem op_neM (hu : X.A.units + 64 < cLine) : OpR X (compareOp .NotEq) (rc X.K fun x y => (eqD x y).map (!·)) := by
  intro pins s σ H x y v u Q I rx ry h
  obtain ⟨G, d, e, r, sb, vx, vy, hf, q⟩ := h
  unfold eqD at hf
  dsimp only at hf
  split at hf <;> cases hf
  rename_i hk
  rw [Bool.and_eq_true] at hk
  refine op_neD hu pins s σ H x y v u Q I rx ry ⟨_, _, vx.dp sb hk.1, vy.dp sb hk.2, okD_shaped hk.1, okD_shaped hk.2, ?_⟩
  rw [← eqv_py 40 d e hk.1]; exact q
theorem lexLt_eq : ∀ a b : List Int, lexLt a b = HT.lexLt a b
  | [], [] => rfl
  | [], _ :: _ => rfl
  | _ :: _, [] => rfl
  | x :: xs, y :: ys => by rw [lexLt, HT.lexLt, lexLt_eq xs ys]
theorem lexD_of {f : List Int → List Int → Bool} {xs ys : List D} {b : Bool} (h : lexD f xs ys = some b) : ∃ ns ms, intsD xs = some ns ∧ intsD ys = some ms ∧ b = f ns ms := by
  unfold lexD at h
  split at h <;> cases h
  rename_i e1 e2
  exact ⟨_, _, e1, e2, rfl⟩
theorem op_ltM (hu : X.A.units + 64 < cLine) : OpR X (compareOp .Lt) (rc X.K cltD) := by
  intro pins s σ H x y v u Q I rx ry h
  obtain ⟨G, d, e, r, sb, vx, vy, hf, q⟩ := h
  unfold cltD at hf
  split at hf
  · cases hf
    obtain rfl := vx.int; obtain rfl := vy.int
    exact op_lt pins s σ H _ _ v u Q I rx ry ⟨_, _, rfl, rfl, q⟩
  · obtain ⟨ns, ms, e1, e2, rfl⟩ := lexD_of hf
    obtain ⟨a, vs, rfl, h1, h1', r1⟩ := vx.tup sb
    obtain ⟨b, ws, rfl, h2, h2', r2⟩ := vy.tup sb
    obtain rfl := r1.ints e1; obtain rfl := r2.ints e2
    exact op_ltT (by omega) pins s σ H _ _ v u Q I rx ry ⟨_, _, _, _, rfl, rfl, h1', h2', by rw [← lexLt_eq]; exact q⟩
  · cases hf
theorem op_leM : OpR X (compareOp .LtE) (rc X.K cleD) := by
  intro pins s σ H x y v u Q I rx ry h
  obtain ⟨G, d, e, r, sb, vx, vy, hf, q⟩ := h
  unfold cleD at hf
  split at hf <;> cases hf
  obtain rfl := vx.int; obtain rfl := vy.int
  exact op_le pins s σ H _ _ v u Q I rx ry ⟨_, _, rfl, rfl, q⟩
theorem op_gtM : OpR X (compareOp .Gt) (rc X.K cgtD) := by
  intro pins s σ H x y v u Q I rx ry h
  obtain ⟨G, d, e, r, sb, vx, vy, hf, q⟩ := h
  unfold cgtD at hf
  split at hf <;> cases hf
  obtain rfl := vx.int; obtain rfl := vy.int
  exact op_gt pins s σ H _ _ v u Q I rx ry ⟨_, _, rfl, rfl, q⟩
theorem lexAt_shift {e r : Nat → Bool} {z : Bool} : ∀ (k i : Nat), Ob.lexAt e r z (i + 1) k = Ob.lexAt (fun j => e (j + 1)) (fun j => r (j + 1)) z i k
  | 0, _ => rfl
  | k + 1, i => by rw [Ob.lexAt_succ, Ob.lexAt_succ, lexAt_shift k (i + 1)]
theorem lexAt_ge : ∀ a b : List Int, Ob.lexAt (fun j => decide (a.getD j 0 = b.getD j 0)) (fun j => decide (b.getD j 0 ≤ a.getD j 0)) (decide (a.length ≥ b.length)) 0 (min a.length b.length) = !lexLt a b
  | [], [] => rfl
  | [], y :: ys => by
    rw [show min ([] : List Int).length (y :: ys).length = 0 by simp, Ob.lexAt_zero, lexLt]
    exact decide_eq_false (by simp)
  | x :: xs, [] => by
    rw [show min (x :: xs).length ([] : List Int).length = 0 by simp, Ob.lexAt_zero, lexLt]
    exact decide_eq_true (by simp)
  | x :: xs, y :: ys => by
    have ih := lexAt_ge xs ys
    rw [show min (x :: xs).length (y :: ys).length = min xs.length ys.length + 1 by simp only [List.length_cons]; omega, Ob.lexAt_succ, lexAt_shift, lexLt]
    have e1 : (fun j => decide ((x :: xs).getD (j + 1) 0 = (y :: ys).getD (j + 1) 0)) = fun j => decide (xs.getD j 0 = ys.getD j 0) := by funext j; simp
    have e2 : (fun j => decide ((y :: ys).getD (j + 1) 0 ≤ (x :: xs).getD (j + 1) 0)) = fun j => decide (ys.getD j 0 ≤ xs.getD j 0) := by funext j; simp
    have e3 : decide ((x :: xs).length ≥ (y :: ys).length) = decide (xs.length ≥ ys.length) := by simp
    rw [e1, e2, e3, ih]
    by_cases h : x = y
    · subst h; simp
    · have e4 : decide ((x :: xs).getD 0 0 = (y :: ys).getD 0 0) = false := decide_eq_false (by simpa using h)
      rw [e4, if_neg h, if_neg (by decide)]
      by_cases h2 : x < y
      · rw [decide_eq_true h2]; exact decide_eq_false (by simp; omega)
      · rw [decide_eq_false h2]; exact decide_eq_true (by simp; omega)
theorem op_geM (hu : X.A.units + 64 < cLine) : OpR X (compareOp .GtE) (rc X.K cgeD) := by
  intro pins s σ H x y v u Q I rx ry h
  obtain ⟨G, d, e, r, sb, vx, vy, hf, q⟩ := h
  unfold cgeD at hf
  split at hf
  · cases hf
    obtain rfl := vx.int; obtain rfl := vy.int
    exact op_ge pins s σ H _ _ v u Q I rx ry ⟨_, _, rfl, rfl, q⟩
  · obtain ⟨ns, ms, e1, e2, rfl⟩ := lexD_of hf
    obtain ⟨a, vs, rfl, h1, h1', r1⟩ := vx.tup sb
    obtain ⟨b, ws, rfl, h2, h2', r2⟩ := vy.tup sb
    obtain rfl := r1.ints e1; obtain rfl := r2.ints e2
    cases rx
    cases ry
    obtain ⟨its, q1, p1, _⟩ := I.tuple h1'
    obtain ⟨its2, q2, p2, _⟩ := I.tuple h2'
    have i1 : IntsAre its ns := Vals.ints q1
    have i2 : IntsAre its2 ms := Vals.ints q2
    have s1 : its.toArray.size = ns.length := by rw [List.size_toArray]; exact i1.length
    have s2 : its2.toArray.size = ms.length := by rw [List.size_toArray]; exact i2.length
    have at1 : ∀ j (h1 : j < its.toArray.size), ∃ t, its.toArray[j] = .int (ns.getD j 0) t := fun j h1 => PyProof.Rows.IntsAre.int_at i1 _ _ (by simp at h1; simp [h1])
    have at2 : ∀ j (h1 : j < its2.toArray.size), ∃ t, its2.toArray[j] = .int (ms.getD j 0) t := fun j h1 => PyProof.Rows.IntsAre.int_at i2 _ _ (by simp at h1; simp [h1])
    have R := Ob.RcOp.tuples_ge (A := X.A) (s := s) (e := fun j => decide (ns.getD j 0 = ms.getD j 0)) (r := fun j => decide (ms.getD j 0 ≤ ns.getD j 0)) p1 p2 (by omega) (fun j g1 g2 => by
      obtain ⟨t, et⟩ := at1 j g1
      obtain ⟨t', et'⟩ := at2 j g2
      rw [et, et', show decide (ns.getD j 0 = ms.getD j 0) = (ns.getD j 0 == ms.getD j 0) from (Bool.beq_eq_decide_eq _ _).symm]
      exact SeqAt.EqAt.int_int _ _ _ _) (fun j g1 g2 _ => by
      obtain ⟨t, et⟩ := at1 j g1
      obtain ⟨t', et'⟩ := at2 j g2
      rw [et, et']
      exact Ob.RcOp.ge_int _ _ _ _)
    rw [s1, s2, lexAt_ge] at R
    have z : wpAny (model X.prog X.w) X.A (compareOp .GtE (.ref a) (.ref b)) (EP X pins σ Q) X.xe s := R X.prog X.w X.xe (EP X pins σ Q) ⟨.bl _, H, I, rfl, q⟩
    exact z
  · cases hf

/-! ### in -/
theorem memD_py {x : D} : ∀ {xs : List D} (n : Nat), okL n xs = true → memD x xs = (toPyL xs).any fun z => PyData.eqv z (toPy x)
  | [], _, _ => rfl
  | y :: ys, n, h => by
    rw [okL, Bool.and_eq_true] at h
    show (eqv y x || memD x ys) = (PyData.eqv (toPy y) (toPy x) || _)
    rw [eqv_py n y x h.1, memD_py n h.2]
theorem in_room {A : Around} {n : Nat} {e : PyData} (h : SeqAt.shaped e = true) (hu : A.units + 65 < cLine) : A.units + 1 + min n e.depth < cLine := by
  have := SeqAt.depth_of_shaped h
  have h2 : min n e.depth ≤ e.depth := Nat.min_le_right _ _
  omega
theorem op_inM (hu : X.A.units + 65 < cLine) : OpR X (compareOp .In) (rc X.K inD) := by
  intro pins s σ H x y v u Q I rx ry h
  obtain ⟨G, d, e, r, sb, vx, vy, hf, q⟩ := h
  unfold inD at hf
  split at hf
  · split at hf <;> cases hf
    rename_i hk
    rw [Bool.and_eq_true] at hk
    obtain ⟨as, r1⟩ := Dp.reads I _ x v (vx.dp sb hk.1) rx
    obtain ⟨bs, r2⟩ := Dp.reads I _ y u (vy.dp sb hk.2) ry
    have s1 := okD_shaped hk.1
    have s2 := okD_shaped hk.2
    rw [toPy] at r2 s2
    have hl := SeqAt.canLay_of_shaped s2
    rw [PyData.canLay0] at hl
    refine SeqAt.in_tuple_reads r2 r1 hl (SeqAt.canLay_of_shaped s1) (in_room s1 hu) ⟨.bl _, H, I, rfl, ?_⟩
    · rw [← memD_py 39 (by simpa [okD, ok] using hk.2)]; exact q
  · split at hf <;> cases hf
    rename_i hk
    rw [Bool.and_eq_true] at hk
    obtain ⟨as, r1⟩ := Dp.reads I _ x v (vx.dp sb hk.1) rx
    obtain ⟨bs, r2⟩ := Dp.reads I _ y u (vy.dp sb hk.2) ry
    have s1 := okD_shaped hk.1
    have s2 := okD_shaped hk.2
    rw [toPy] at r2 s2
    have hl := SeqAt.canLay_of_shaped s2
    rw [PyData.canLay0] at hl
    refine SeqAt.in_list_reads r2 r1 hl (SeqAt.canLay_of_shaped s1) (in_room s1 hu) ⟨.bl _, H, I, rfl, ?_⟩
    · rw [← memD_py 39 (by simpa [okD, ok] using hk.2)]; exact q
  · rcases vy with h | ⟨_, _, _, o⟩ <;> first | cases h | cases o
  · rcases vy with h | ⟨_, _, _, o⟩ <;> first | cases h | cases o
  · cases hf
theorem op_ninM (hu : X.A.units + 65 < cLine) : OpR X (compareOp .NotIn) (rc X.K fun x y => (inD x y).map (!·)) := by
  intro pins s σ H x y v u Q I rx ry h
  obtain ⟨G, d, e, r, sb, vx, vy, hf, q⟩ := h
  dsimp only at hf
  unfold inD at hf
  split at hf
  · split at hf <;> cases hf
    rename_i hk
    rw [Bool.and_eq_true] at hk
    obtain ⟨as, r1⟩ := Dp.reads I _ x v (vx.dp sb hk.1) rx
    obtain ⟨bs, r2⟩ := Dp.reads I _ y u (vy.dp sb hk.2) ry
    have s1 := okD_shaped hk.1
    have s2 := okD_shaped hk.2
    rw [toPy] at r2 s2
    have hl := SeqAt.canLay_of_shaped s2
    rw [PyData.canLay0] at hl
    refine SeqAt.notIn_tuple_reads r2 r1 hl (SeqAt.canLay_of_shaped s1) (in_room s1 hu) ⟨.bl _, H, I, rfl, ?_⟩
    · rw [← memD_py 39 (by simpa [okD, ok] using hk.2)]; exact q
  · split at hf <;> cases hf
    rename_i hk
    rw [Bool.and_eq_true] at hk
    obtain ⟨as, r1⟩ := Dp.reads I _ x v (vx.dp sb hk.1) rx
    obtain ⟨bs, r2⟩ := Dp.reads I _ y u (vy.dp sb hk.2) ry
    have s1 := okD_shaped hk.1
    have s2 := okD_shaped hk.2
    rw [toPy] at r2 s2
    have hl := SeqAt.canLay_of_shaped s2
    rw [PyData.canLay0] at hl
    refine SeqAt.notIn_list_reads r2 r1 hl (SeqAt.canLay_of_shaped s1) (in_room s1 hu) ⟨.bl _, H, I, rfl, ?_⟩
    · rw [← memD_py 39 (by simpa [okD, ok] using hk.2)]; exact q
  · rcases vy with h | ⟨_, _, _, o⟩ <;> first | cases h | cases o
  · rcases vy with h | ⟨_, _, _, o⟩ <;> first | cases h | cases o
  · cases hf
def copP : Cop → CmpOp
  | .eq => .Eq | .ne => .NotEq | .lt => .Lt | .le => .LtE | .gt => .Gt | .ge => .GtE | .in_ => .In | .nin => .NotIn
theorem op_cmpM (hu : X.A.units + 65 < cLine) : ∀ op : Cop, OpR X (compareOp (copP op)) (rc X.K (cmpD op))
  | .eq => op_eqM (by omega) | .ne => op_neM (by omega) | .lt => op_ltM (by omega) | .le => op_leM | .gt => op_gtM | .ge => op_geM (by omega) | .in_ => op_inM hu | .nin => op_ninM hu
end
end MP

namespace MP
open PySem PySem.Spec PyProof.Rows L2

theorem atI_eq {α : Type} (xs : List α) (i : Int) : MP.atI xs i = L2.atI xs i := rfl
theorem cutIx_eq (n d : Nat) (o : Option Int) : cutIx n d o = HT.sIx n d o := by cases o <;> rfl
theorem cut_eq (xs : List V) (lo hi : Option Int) : MP.cut xs lo hi = cutV xs lo hi := by unfold MP.cut cutV; rw [cutIx_eq, cutIx_eq]
theorem RepL.atI {K : PySem.W.Frag} {G : Hp} {vs : List V} {ds : List D} {i : Int} {d : D} (r : RepL K G vs ds) (h : MP.atI ds i = some d) : ∃ v, L2.atI vs i = some v ∧ Rep K G v d := by
  unfold MP.atI at h
  rw [← r.length] at h
  obtain ⟨j, h1, h2⟩ := Option.bind_eq_some_iff.mp h
  obtain ⟨v, h3, h4⟩ := r.get h2
  exact ⟨v, by show (L2.ixN vs.length i).bind _ = _; rw [show L2.ixN vs.length i = some j from h1]; exact h3, h4⟩

inductive ViewL (K : PySem.W.Frag) (G H : Hp) : List V → List D → Prop
  | nil : ViewL K G H [] []
  | cons {v : V} {d : D} {vs : List V} {ds : List D} : View K G H v d → ViewL K G H vs ds → ViewL K G H (v :: vs) (d :: ds)
theorem ViewL.one {K : PySem.W.Frag} {G H : Hp} {vs : List V} {d : D} (h : ViewL K G H vs [d]) : ∃ v, vs = [v] ∧ View K G H v d := by
  cases h with
  | cons a b => cases b; exact ⟨_, rfl, a⟩
theorem ViewL.two {K : PySem.W.Frag} {G H : Hp} {vs : List V} {d e : D} (h : ViewL K G H vs [d, e]) : ∃ v w, vs = [v, w] ∧ View K G H v d ∧ View K G H w e := by
  cases h with
  | cons a b => cases b with
    | cons c z => cases z; exact ⟨_, _, rfl, a, c⟩
theorem ViewL.ext {K : PySem.W.Frag} {G H G' H' : Hp} (x : Ext G H G' H') : ∀ {vs : List V} {ds : List D}, ViewL K G H vs ds → ViewL K G' H' vs ds
  | _, _, .nil => .nil
  | _, _, .cons a b => .cons (a.ext x) (ViewL.ext x b)

/-- a one-place, a many-place operation by values -/
def rn (K : PySem.W.Frag) (f : List D → Option D) : List V → Hp → VK → Prop := fun xs H Q => ∃ G ds r, Sub G H ∧ ViewL K G H xs ds ∧ f ds = some r ∧ After K G H Q r
def r1 (f : D → Option D) : List D → Option D
  | [x] => f x
  | _ => none
def r1o {K : PySem.W.Frag} {f : D → Option D} {xs : List V} {H : Hp} {Q : VK} (h : rn K (r1 f) xs H Q) : ∃ G x d r, xs = [x] ∧ Sub G H ∧ View K G H x d ∧ f d = some r ∧ After K G H Q r := by
  obtain ⟨G, ds, r, sb, vx, hf, q⟩ := h
  match ds, hf with
  | [d], hf =>
    obtain ⟨x, rfl, v⟩ := vx.one
    exact ⟨G, x, d, r, rfl, sb, v, hf, q⟩
def r2l (f : D → D → Option D) : List D → Option D
  | [x, y] => f x y
  | _ => none
def r2o {K : PySem.W.Frag} {f : D → D → Option D} {xs : List V} {H : Hp} {Q : VK} (h : rn K (r2l f) xs H Q) : ∃ G x y d e r, xs = [x, y] ∧ Sub G H ∧ View K G H x d ∧ View K G H y e ∧ f d e = some r ∧ After K G H Q r := by
  obtain ⟨G, ds, r, sb, vx, hf, q⟩ := h
  match ds, hf with
  | [d, e], hf =>
    obtain ⟨x, y, rfl, v, w⟩ := vx.two
    exact ⟨G, x, y, d, e, r, rfl, sb, v, w, hf, q⟩
section
variable {X : Cx}
theorem ca_len : CallR X (.builtin "len") (rn X.K (r1 fun x => (lenD x).map .int)) := by
  intro pins s σ H xs us Q I r h
  obtain ⟨G, x, d, z, rfl, sb, vx, hf, q⟩ := r1o h
  simp only [Option.map_eq_some_iff] at hf
  obtain ⟨n, hf, rfl⟩ := hf
  unfold lenD at hf
  split at hf
  · cases hf
    obtain ⟨a, vs, rfl, h1, h1', r1⟩ := vx.tup sb
    exact call_len_seq pins s σ H _ us Q I r ⟨_, _, rfl, .inr h1', by rw [r1.length]; exact q.here sb (.int _)⟩
  · cases hf
    obtain ⟨a, vs, rfl, h1, r1⟩ := vx.lst sb
    exact call_len_seq pins s σ H _ us Q I r ⟨_, _, rfl, .inl (SqL.of h1), by rw [r1.length]; exact q.here sb (.int _)⟩
  · cases hf
    obtain ⟨a, vs, rfl, h1, r1⟩ := vx.scr sb
    exact call_len_seq pins s σ H _ us Q I r ⟨_, _, rfl, .inl h1, by rw [r1.length]; exact q.here sb (.int _)⟩
  · rcases vx with hz | ⟨_, _, _, o⟩
    · cases hz
    · cases o
  · rcases vx with hz | ⟨_, _, _, o⟩
    · cases hz
    · cases o
  · split at hf <;> cases hf
    obtain rfl := vx.str
    rename_i hl
    exact call_len_str pins s σ H _ us Q I r ⟨_, rfl, by rw [← lim_eq]; exact hl, q.here sb (.int _)⟩
  · cases hf
theorem ca_int : CallR X (.type "int") (rn X.K (r1 intC)) := by
  intro pins s σ H xs us Q I r h
  obtain ⟨G, x, d, z, rfl, sb, vx, hf, q⟩ := r1o h
  unfold intC at hf
  split at hf <;> cases hf
  · obtain rfl := vx.int
    exact call_int1 pins s σ H _ us Q I r (.inl ⟨_, rfl, q.here sb (.int _)⟩)
  · obtain rfl := vx.bl
    exact call_int1 pins s σ H _ us Q I r (.inr ⟨_, rfl, q.here sb (.int _)⟩)
theorem ca_tuple : CallR X (.type "tuple") (rn X.K (r1 tupC)) := by
  intro pins s σ H xs us Q I r h
  obtain ⟨G, x, d, z, rfl, sb, vx, hf, q⟩ := r1o h
  unfold tupC at hf
  split at hf <;> cases hf
  · obtain ⟨a, vs, rfl, h1, h1', r1⟩ := vx.tup sb
    exact call_tuple_of pins s σ H _ us Q I r ⟨a, vs, rfl, .inr ⟨h1', q.here sb (.tup h1 r1)⟩⟩
  · obtain ⟨a, vs, rfl, h1, r1⟩ := vx.lst sb
    exact call_tuple_of pins s σ H _ us Q I r ⟨a, vs, rfl, .inl ⟨SqL.of h1, fun p hp => q.tup sb r1 hp⟩⟩
theorem ca_all (hc : X.calm = true) : CallR X (.builtin "all") (rn X.K (r1 allC)) := by
  intro pins s σ H xs us Q I r h
  obtain ⟨G, x, d, z, rfl, sb, vx, hf, q⟩ := r1o h
  unfold allC at hf
  split at hf
  · simp only [Option.map_eq_some_iff] at hf
    obtain ⟨bs, hf, rfl⟩ := hf
    obtain ⟨a, vs, rfl, h1, r1⟩ := vx.lst sb
    obtain rfl := r1.bools hf
    exact cr_all hc pins s σ H _ us Q I r ⟨a, bs, rfl, SqL.of h1, q.here sb (.bl _)⟩
  · cases hf
theorem ca_any (hc : X.calm = true) : CallR X (.builtin "any") (rn X.K (r1 anyC)) := by
  intro pins s σ H xs us Q I r h
  obtain ⟨G, x, d, z, rfl, sb, vx, hf, q⟩ := r1o h
  unfold anyC at hf
  split at hf
  · simp only [Option.map_eq_some_iff] at hf
    obtain ⟨bs, hf, rfl⟩ := hf
    obtain ⟨a, vs, rfl, h1, r1⟩ := vx.lst sb
    obtain rfl := r1.bools hf
    exact cr_any hc pins s σ H _ us Q I r ⟨a, bs, rfl, SqL.of h1, q.here sb (.bl _)⟩
  · cases hf
theorem ca_sum (hc : X.calm = true) : CallR X (.builtin "sum") (rn X.K (r1 sumC)) := by
  intro pins s σ H xs us Q I r h
  obtain ⟨G, x, d, z, rfl, sb, vx, hf, q⟩ := r1o h
  unfold sumC at hf
  split at hf
  · simp only [Option.map_eq_some_iff] at hf
    obtain ⟨bs, hf, rfl⟩ := hf
    obtain ⟨a, vs, rfl, h1, r1⟩ := vx.lst sb
    obtain rfl := r1.ints hf
    exact cr_sum hc pins s σ H _ us Q I r ⟨a, bs, rfl, SqL.of h1, q.here sb (.int _)⟩
  · cases hf
theorem ca_abs : CallR X (.builtin "abs") (rn X.K (r1 absC)) := by
  intro pins s σ H xs us Q I r h
  obtain ⟨G, x, d, z, rfl, sb, vx, hf, q⟩ := r1o h
  unfold absC at hf
  split at hf <;> cases hf
  obtain rfl := vx.int
  exact call_abs pins s σ H _ us Q I r ⟨_, rfl, q.here sb (.int _)⟩
theorem ca_max2 (hc : X.calm = true) : CallR X (.builtin "max") (rn X.K (r2l max2C)) := by
  intro pins s σ H xs us Q I r h
  obtain ⟨G, x, y, d, e, z, rfl, sb, vx, vy, hf, q⟩ := r2o h
  unfold max2C at hf
  split at hf <;> cases hf
  obtain rfl := vx.int; obtain rfl := vy.int
  exact call_max2 hc pins s σ H _ us Q I r ⟨_, _, rfl, q.here sb (.int _)⟩
theorem ca_min2 (hc : X.calm = true) : CallR X (.builtin "min") (rn X.K (r2l min2C)) := by
  intro pins s σ H xs us Q I r h
  obtain ⟨G, x, y, d, e, z, rfl, sb, vx, vy, hf, q⟩ := r2o h
  unfold min2C at hf
  split at hf <;> cases hf
  obtain rfl := vx.int; obtain rfl := vy.int
  exact call_min2 hc pins s σ H _ us Q I r ⟨_, _, rfl, q.here sb (.int _)⟩
theorem maxL_le : ∀ {ns : List Int} {m : Int}, maxL ns = some m → m ∈ ns ∧ ∀ y ∈ ns, y ≤ m
  | [x], m, h => by cases h; exact ⟨by simp, fun y hy => by simp at hy; omega⟩
  | x :: y :: r, m, h => by
    rw [maxL, Option.map_eq_some_iff] at h
    obtain ⟨k, h1, rfl⟩ := h
    obtain ⟨a, b⟩ := maxL_le h1
    constructor
    · by_cases q : x ≤ k
      · rw [Int.max_eq_right q]; exact List.mem_cons_of_mem _ a
      · rw [Int.max_eq_left (by omega)]; exact List.mem_cons_self
    · intro z hz
      rcases List.mem_cons.mp hz with rfl | hz
      · exact Int.le_max_left _ _
      · exact Int.le_trans (b z hz) (Int.le_max_right _ _)
    all_goals simp
theorem minL_le : ∀ {ns : List Int} {m : Int}, minL ns = some m → m ∈ ns ∧ ∀ y ∈ ns, m ≤ y
  | [x], m, h => by cases h; exact ⟨by simp, fun y hy => by simp at hy; omega⟩
  | x :: y :: r, m, h => by
    rw [minL, Option.map_eq_some_iff] at h
    obtain ⟨k, h1, rfl⟩ := h
    obtain ⟨a, b⟩ := minL_le h1
    constructor
    · by_cases q : k ≤ x
      · rw [Int.min_eq_right q]; exact List.mem_cons_of_mem _ a
      · rw [Int.min_eq_left (by omega)]; exact List.mem_cons_self
    · intro z hz
      rcases List.mem_cons.mp hz with rfl | hz
      · exact Int.min_le_left _ _
      · exact Int.le_trans (Int.min_le_right _ _) (b z hz)
    all_goals simp
theorem ca_max1 (hc : X.calm = true) : CallR X (.builtin "max") (rn X.K (r1 max1C)) := by
  intro pins s σ H xs us Q I r h
  obtain ⟨G, x, d, z, rfl, sb, vx, hf, q⟩ := r1o h
  unfold max1C at hf
  split at hf
  · simp only [Option.map_eq_some_iff, Option.bind_eq_some_iff] at hf
    obtain ⟨m, ⟨ns, e1, e2⟩, rfl⟩ := hf
    obtain ⟨a, vs, rfl, h1, r1⟩ := vx.lst sb
    obtain rfl := r1.ints e1
    obtain ⟨m1, m2⟩ := maxL_le e2
    refine cr_max hc pins s σ H _ us Q I r ⟨a, ns, rfl, SqL.of h1, List.length_pos_of_mem m1, fun k k1 k2 => ?_⟩
    obtain rfl : k = m := Int.le_antisymm (m2 k k1) (k2 m m1)
    exact q.here sb (.int _)
  · cases hf
theorem ca_min1 (hc : X.calm = true) : CallR X (.builtin "min") (rn X.K (r1 min1C)) := by
  intro pins s σ H xs us Q I r h
  obtain ⟨G, x, d, z, rfl, sb, vx, hf, q⟩ := r1o h
  unfold min1C at hf
  split at hf
  · simp only [Option.map_eq_some_iff, Option.bind_eq_some_iff] at hf
    obtain ⟨m, ⟨ns, e1, e2⟩, rfl⟩ := hf
    obtain ⟨a, vs, rfl, h1, r1⟩ := vx.lst sb
    obtain rfl := r1.ints e1
    obtain ⟨m1, m2⟩ := minL_le e2
    refine cr_min hc pins s σ H _ us Q I r ⟨a, ns, rfl, SqL.of h1, List.length_pos_of_mem m1, fun k k1 k2 => ?_⟩
    obtain rfl : k = m := Int.le_antisymm (k2 m m1) (m2 k k1)
    exact q.here sb (.int _)
  · cases hf

/-! ### places, cuts -/
theorem ix_M : IxR X (r2 X.K ixD) := by
  intro val sl pins s σ H x y v u Q I rx ry h hs
  obtain ⟨G, d, e, r, sb, vx, vy, hf, q⟩ := h
  unfold ixD at hf
  split at hf
  · obtain ⟨a, vs, rfl, h1, h1', r1⟩ := vx.tup sb
    obtain rfl := vy.int
    obtain ⟨w, h3, h4⟩ := r1.atI hf
    exact ix_tup val sl pins s σ H _ _ v u Q I rx ry ⟨a, vs, _, w, rfl, rfl, h1', h3, q.here sb h4⟩ hs
  · obtain ⟨a, vs, rfl, h1, r1⟩ := vx.lst sb
    obtain rfl := vy.int
    obtain ⟨w, h3, h4⟩ := r1.atI hf
    exact ix_list val sl pins s σ H _ _ v u Q I rx ry ⟨a, vs, _, w, rfl, rfl, SqL.of h1, h3, q.here sb h4⟩ hs
  · obtain ⟨a, vs, rfl, h1, r1⟩ := vx.scr sb
    obtain rfl := vy.int
    obtain ⟨w, h3, h4⟩ := r1.atI hf
    exact ix_list val sl pins s σ H _ _ v u Q I rx ry ⟨a, vs, _, w, rfl, rfl, h1, h3, q.here sb h4⟩ hs
  · split at hf
    · rename_i hl
      simp only [Option.map_eq_some_iff] at hf
      obtain ⟨c, hf, rfl⟩ := hf
      obtain rfl := vx.str
      obtain rfl := vy.int
      exact ix_str val sl pins s σ H _ _ v u Q I rx ry ⟨_, _, c, rfl, rfl, by rw [← lim_eq]; exact hl, hf, q.here sb (.str _)⟩ hs
    · cases hf
  · rcases vx with hz | ⟨_, _, _, o⟩
    · cases hz
    · cases o
  · cases hf
def rsl (K : PySem.W.Frag) : V → Option Int → Option Int → Hp → VK → Prop := fun x lo hi H Q => ∃ G d r, Sub G H ∧ View K G H x d ∧ slD d lo hi = some r ∧ After K G H Q r
theorem cut_all {α : Type} {xs : List α} {lo hi : Option Int} (h1 : HT.sIx xs.length 0 lo = 0) (h2 : HT.sIx xs.length xs.length hi = xs.length) : MP.cut xs lo hi = xs := by
  unfold MP.cut; rw [cutIx_eq, cutIx_eq, h1, h2]; simp
theorem sl_M : SlR X (rsl X.K) := by
  intro pins s σ H x v vl vu lo hi sl Q I rx hs pl pu h
  obtain ⟨G, d, r, sb, vx, hf, q⟩ := h
  unfold slD at hf
  split at hf
  · cases hf
    obtain ⟨a, vs, rfl, h1, h1', r1⟩ := vx.tup sb
    refine sl_tupA pins s σ H _ v vl vu lo hi sl Q I rx hs pl pu ⟨a, vs, rfl, h1', fun hw => ?_, fun _ p hp => ?_⟩
    · rw [r1.length] at hw
      rw [cut_all hw.1 hw.2] at q
      exact q.here sb (.tup h1 r1)
    · rw [← cut_eq]; exact q.tup sb (r1.cut lo hi) hp
  · cases hf
    obtain ⟨a, vs, rfl, h1, r1⟩ := vx.lst sb
    refine sl_list pins s σ H _ v vl vu lo hi sl Q I rx hs pl pu ⟨a, vs, rfl, SqL.of h1, fun p hp => ?_⟩
    rw [← cut_eq]; exact q.lst sb (r1.cut lo hi) hp
  · split at hf <;> cases hf
    rename_i hl
    obtain rfl := vx.str
    refine sl_str pins s σ H _ v vl vu lo hi sl Q I rx hs pl pu ⟨_, rfl, by rw [← lim_eq]; exact hl, ?_⟩
    have e : ∀ z : Str, cutS z lo hi = ⟨(MP.cut z.cps.toList lo hi).toArray⟩ := fun z => by
      unfold cutS MP.cut
      rw [cutIx_eq, cutIx_eq]
      rfl
    rw [e]; exact q.here sb (.str _)
  · cases hf
end
end MP

namespace MP
open PySem PySem.Spec PyProof.Rows L2

/-- the frame's slots σ, in the heap H with its frozen part G, stand for ρ -/
structure Good (K : PySem.W.Frag) (G H : Hp) (σ : L2.St) (ρ : Env) : Prop where
  len : σ.length = ρ.length
  sub : Sub G H
  fr : ∀ (i : Nat) (d : D), ρ[i]? = some (.fr d) → ∃ v, σ[i]? = some (some v) ∧ Rep K G v d
  ow : ∀ (i : Nat) (d : D), ρ[i]? = some (.ow d) ∨ ρ[i]? = some (.lk d) → ∃ a, σ[i]? = some (some (.ref a)) ∧ G a = none ∧ Own K G H a d
  sep : ∀ (i j : Nat) (a : Addr) (d e : D), (ρ[i]? = some (.ow d) ∨ ρ[i]? = some (.lk d)) → (ρ[j]? = some (.ow e) ∨ ρ[j]? = some (.lk e)) → σ[i]? = some (some (.ref a)) → σ[j]? = some (some (.ref a)) → i = j
/-- an address that the frame may change -/
def OwnAt (σ : L2.St) (ρ : Env) (a : Addr) : Prop := ∃ (i : Nat) (d : D), ρ[i]? = some (.ow d) ∧ σ[i]? = some (some (.ref a))
structure Fr (G H : Hp) (σ : L2.St) (ρ : Env) (G' H' : Hp) (σ' : L2.St) (ρ' : Env) : Prop where
  gg : Sub G G'
  keep : ∀ a o, H a = some o → ¬ OwnAt σ ρ a → H' a = some o
  dom : ∀ a, H a ≠ none → H' a ≠ none
  new : ∀ a, G' a ≠ none → G a ≠ none ∨ H a = none ∨ OwnAt σ ρ a
  own : ∀ a, OwnAt σ' ρ' a → OwnAt σ ρ a ∨ H a = none
  lk : ∀ (i : Nat) (d : D), ρ'[i]? = some (.lk d) → (∃ d', ρ[i]? = some (.lk d')) ∧ σ'[i]? = σ[i]?
theorem Fr.refl {G H : Hp} {σ : L2.St} {ρ : Env} : Fr G H σ ρ G H σ ρ := ⟨Sub.refl _, fun _ _ h _ => h, fun _ h => h, fun _ h => .inl h, fun _ h => .inl h, fun _ d h => ⟨⟨d, h⟩, rfl⟩⟩
theorem Fr.trans {G H : Hp} {σ : L2.St} {ρ : Env} {G1 H1 : Hp} {σ1 : L2.St} {ρ1 : Env} {G2 H2 : Hp} {σ2 : L2.St} {ρ2 : Env} (x : Fr G H σ ρ G1 H1 σ1 ρ1) (y : Fr G1 H1 σ1 ρ1 G2 H2 σ2 ρ2) : Fr G H σ ρ G2 H2 σ2 ρ2 := by
  have none1 : ∀ a, H1 a = none → H a = none := fun a h => Classical.byContradiction fun n => x.dom a n h
  refine ⟨x.gg.trans y.gg, fun a o h n => ?_, fun a h => y.dom a (x.dom a h), fun a h => ?_, fun a h => ?_, fun i d h => ?_⟩
  · refine y.keep a o (x.keep a o h n) fun q => ?_
    rcases x.own a q with z | z
    · exact n z
    · rw [h] at z; cases z
  · rcases y.new a h with z | z | z
    · exact x.new a z
    · exact .inr (.inl (none1 a z))
    · rcases x.own a z with z | z
      · exact .inr (.inr z)
      · exact .inr (.inl z)
  · rcases y.own a h with z | z
    · exact x.own a z
    · exact .inr (none1 a z)
  · obtain ⟨⟨d', h1⟩, e1⟩ := y.lk i d h
    obtain ⟨h2, e2⟩ := x.lk i d' h1
    exact ⟨h2, e1.trans e2⟩
section
variable {K : PySem.W.Frag} {G H G' H' : Hp} {σ : L2.St} {ρ : Env}
theorem Good.ext (g : Good K G H σ ρ) (x : Ext G H G' H') : Good K G' H' σ ρ := by
  refine ⟨g.len, x.gh, fun i d h => ?_, fun i d h => ?_, g.sep⟩
  · obtain ⟨v, e, r⟩ := g.fr i d h
    exact ⟨v, e, r.mono x.gg⟩
  · obtain ⟨a, e, n, o⟩ := g.ow i d h
    refine ⟨a, e, ?_, o.ext x.gg (x.hh a)⟩
    cases q : G' a with
    | none => rfl
    | some u =>
      rcases x.new a (by rw [q]; simp) with z | z
      · exact absurd n z
      · obtain ⟨w, hw⟩ := o.there
        rw [hw] at z; cases z
theorem Fr.ext (x : Ext G H G' H') : Fr G H σ ρ G' H' σ ρ :=
  ⟨x.gg, fun a o h _ => x.hh a o h, fun a h q => h (none_of_sub x.hh q), fun a h => (x.new a h).elim .inl fun z => .inr (.inl z), fun a h => .inl h, fun _ d h => ⟨⟨d, h⟩, rfl⟩⟩
/-- what a slot holds, in passing -/
theorem Good.view (g : Good K G H σ ρ) {i : Nat} {d : D} (h : ρ.bo i = some d) : ∃ v, σ[i]? = some (some v) ∧ View K G H v d := by
  unfold Env.bo at h
  split at h <;> cases h
  · rename_i e
    obtain ⟨v, h1, h2⟩ := g.fr i d e
    exact ⟨v, h1, .inl h2⟩
  · rename_i e
    obtain ⟨a, h1, h2, h3⟩ := g.ow i d (.inl e)
    exact ⟨_, h1, .inr ⟨a, rfl, h2, h3⟩⟩
  · rename_i e
    obtain ⟨a, h1, h2, h3⟩ := g.ow i d (.inr e)
    exact ⟨_, h1, .inr ⟨a, rfl, h2, h3⟩⟩
theorem Good.fz (g : Good K G H σ ρ) {i : Nat} {d : D} (h : ρ.fz i = some d) : ∃ v, σ[i]? = some (some v) ∧ Rep K G v d := by
  unfold Env.fz at h
  split at h <;> cases h
  rename_i e
  exact g.fr i d e
end

/-- wishes: what is wanted of an exception of the class c -/
abbrev Wish := Str → L2.St → Hp → Prop
def Ev {α : Type} (K : PySem.W.Frag) (W : Wish) (G H : Hp) (σ : L2.St) (ρ : Env) (r : R α) (P : α → Hp → Hp → Env → Prop) : Prop := match r with
  | .fail => False
  | .exc c ρ' => ∀ G' H', Good K G' H' σ ρ' → Fr G H σ ρ G' H' σ ρ' → W c σ H'
  | .ok a ρ' => ∀ G' H', Good K G' H' σ ρ' → Fr G H σ ρ G' H' σ ρ' → P a G' H' ρ'
section
variable {K : PySem.W.Frag} {W : Wish} {G H : Hp} {σ : L2.St} {ρ : Env} {α β : Type} {P : α → Hp → Hp → Env → Prop}
theorem Ev.bind {r : R β} {f : β → Env → R α} (h : Ev K W G H σ ρ (r.bind f) P) : Ev K W G H σ ρ r fun a G1 H1 ρ1 => Ev K W G1 H1 σ ρ1 (f a ρ1) P := by
  cases r with
  | fail => exact h
  | exc c ρ1 => exact h
  | ok a ρ1 =>
    intro G1 H1 g1 f1
    have h : Ev K W G H σ ρ (f a ρ1) P := h
    show Ev K W G1 H1 σ ρ1 (f a ρ1) P
    cases q : f a ρ1 with
    | fail => rw [q] at h; exact h
    | exc c ρ2 => rw [q] at h; exact fun G2 H2 g2 f2 => h G2 H2 g2 (f1.trans f2)
    | ok b ρ2 => rw [q] at h; exact fun G2 H2 g2 f2 => h G2 H2 g2 (f1.trans f2)
theorem Ev.mono {r : R α} {P' : α → Hp → Hp → Env → Prop} (h : Ev K W G H σ ρ r P) (k : ∀ a G' H' ρ', r = .ok a ρ' → Good K G' H' σ ρ' → Fr G H σ ρ G' H' σ ρ' → P a G' H' ρ' → P' a G' H' ρ') : Ev K W G H σ ρ r P' := by
  cases r with
  | fail => exact h
  | exc c ρ1 => exact h
  | ok a ρ1 => exact fun G1 H1 g1 f1 => k a G1 H1 ρ1 rfl g1 f1 (h G1 H1 g1 f1)
theorem Ev.ok {a : α} {ρ' : Env} (h : Ev K W G H σ ρ (.ok a ρ') P) (g : Good K G H σ ρ') (f : Fr G H σ ρ G H σ ρ') : P a G H ρ' := h G H g f
end
section
variable {K : PySem.W.Frag} {W : Wish} {cx : Cxt}
/-- readings by the evaluator -/
def tE (cx : Cxt) (K : PySem.W.Frag) (W : Wish) (m : E) : TE := fun σ H Q => ∃ G ρ, Good K G H σ ρ ∧ Ev K W G H σ ρ (ev cx m ρ) fun d G' H' _ => ∀ v, Rep K G' v d → Q v H'
def tP (cx : Cxt) (K : PySem.W.Frag) (W : Wish) (m : P) : TE := fun σ H Q => ∃ G ρ, Good K G H σ ρ ∧ Ev K W G H σ ρ (evP cx m ρ) fun d G' H' _ => Fresh K G' H' Q d
def tB (cx : Cxt) (K : PySem.W.Frag) (W : Wish) (m : E) : TT := fun σ H Q => ∃ G ρ, Good K G H σ ρ ∧ Ev K W G H σ ρ (ev cx m ρ) fun d _ H' _ => ∃ b, d = .bl b ∧ Q b H'
def tEs (cx : Cxt) (K : PySem.W.Frag) (W : Wish) (ms : List E) : TA := fun σ H Q => ∃ G ρ, Good K G H σ ρ ∧ Ev K W G H σ ρ (evs cx ms ρ) fun ds G' H' _ => ∀ vs, RepL K G' vs ds → Q vs H'
/-- an operand: a value, or a slot that is read in passing -/
def TView (K : PySem.W.Frag) (G : Hp) (σ : L2.St) : T → V → D → Prop
  | .b i, v, _ => σ[i]? = some (some v)
  | .e _, v, d => Rep K G v d
def tT (cx : Cxt) (K : PySem.W.Frag) (W : Wish) (t : T) : TE := fun σ H Q => ∃ G ρ, Good K G H σ ρ ∧ Ev K W G H σ ρ (evT cx t ρ) fun d G' H' _ => ∀ v, TView K G' σ t v d → Q v H'
inductive TViewL (K : PySem.W.Frag) (G : Hp) (σ : L2.St) : List T → List V → List D → Prop
  | nil : TViewL K G σ [] [] []
  | cons {t : T} {v : V} {d : D} {ts : List T} {vs : List V} {ds : List D} : TView K G σ t v d → TViewL K G σ ts vs ds → TViewL K G σ (t :: ts) (v :: vs) (d :: ds)
def tTs (cx : Cxt) (K : PySem.W.Frag) (W : Wish) (ts : List T) : TA := fun σ H Q => ∃ G ρ, Good K G H σ ρ ∧ Ev K W G H σ ρ (evTs cx ts ρ) fun ds G' H' _ => ∀ vs, TViewL K G' σ ts vs ds → Q vs H'
theorem TView.view {G G' H' : Hp} {σ : L2.St} {ρ' : Env} {t : T} {v : V} {d d' : D} (h : TView K G σ t v d) (s : Sub G G') (g : Good K G' H' σ ρ') (e : t.res d ρ' = some d') : View K G' H' v d' := by
  cases t with
  | b i =>
    obtain ⟨w, h1, h2⟩ := g.view (show ρ'.bo i = some d' from e)
    have h : σ[i]? = some (some v) := h
    rw [h] at h1
    cases h1
    exact h2
  | e m =>
    cases (show some d = some d' from e)
    exact .inl (Rep.mono s h)
theorem TView.mono {G G' : Hp} {σ : L2.St} {t : T} {v : V} {d : D} (h : TView K G σ t v d) (s : Sub G G') : TView K G' σ t v d := by
  cases t with
  | b i => exact h
  | e m => exact Rep.mono s h
theorem TViewL.mono {G G' : Hp} {σ : L2.St} (s : Sub G G') : ∀ {ts : List T} {vs : List V} {ds : List D}, TViewL K G σ ts vs ds → TViewL K G' σ ts vs ds
  | _, _, _, .nil => .nil
  | _, _, _, .cons a b => .cons (a.mono s) (TViewL.mono s b)
theorem TViewL.view {G H : Hp} {σ : L2.St} {ρ : Env} (g : Good K G H σ ρ) : ∀ {ts : List T} {vs : List V} {ds es : List D}, TViewL K G σ ts vs ds → resL ts ds ρ = some es → ViewL K G H vs es
  | _, _, _, _, .nil, e => by cases e; exact .nil
  | _, _, _, _, .cons a b, e => by
    rw [resL, Option.bind_eq_some_iff] at e
    obtain ⟨x, e1, e2⟩ := e
    rw [Option.map_eq_some_iff] at e2
    obtain ⟨y, e2, rfl⟩ := e2
    exact .cons (a.view (Sub.refl _) g e1) (TViewL.view g b e2)
end
theorem _root_.L2.PE.imp {X : Cx} {e : Expr} {t t' : TE} (h : PE X e t) (k : ∀ σ H Q, t' σ H Q → t σ H Q) : PE X e t' := ⟨fun pins s σ H Q I q => h.run pins s σ H Q I (k σ H Q q)⟩
theorem _root_.L2.PT.imp {X : Cx} {e : Expr} {t t' : TT} (h : PT X e t) (k : ∀ σ H Q, t' σ H Q → t σ H Q) : PT X e t' := ⟨fun pins s σ H Q I q => h.run pins s σ H Q I (k σ H Q q)⟩
theorem _root_.L2.PA.imp {X : Cx} {e : List Expr} {t t' : TA} (h : PA X e t) (k : ∀ σ H Q, t' σ H Q → t σ H Q) : PA X e t' := ⟨fun pos pins s σ H Q I q => h.run pos pins s σ H Q I (k σ H Q q)⟩
theorem _root_.L2.PS.imp {X : Cx} {e : Stmt} {t t' : TS} (h : PS X e t) (k : ∀ D σ H, t' D σ H → t D σ H) : PS X e t' := ⟨fun pins s σ H D I q => h.run pins s σ H D I (k D σ H q)⟩
theorem _root_.L2.PSs.imp {X : Cx} {e : List Stmt} {t t' : TS} (h : PSs X e t) (k : ∀ D σ H, t' D σ H → t D σ H) : PSs X e t' := ⟨fun pins s σ H D I q => h.run pins s σ H D I (k D σ H q)⟩
end MP

namespace MP
open PySem PySem.Spec PyProof.Rows L2

section
variable {X : Cx} {cx : Cxt} {W : Wish}

/-! ### the forms that a text's expression has not -/
def notStar : Expr → Bool
  | .Starred .. => false
  | _ => true
def notSet : Expr → Bool
  | .Set .. => false
  | _ => true
def notSlice : Expr → Bool
  | .Slice .. => false
  | _ => true
theorem starEach_cons {e : Expr} {es : List Expr} {env : PySem.Env} (h : notStar e = true) : starEach (e :: es) env = (false, eval e env) :: starEach es env := by
  cases e <;> first | rfl | cases h
def noStars : List Expr → Bool
  | [] => true
  | e :: es => notStar e && noStars es
theorem noStars_any {env : PySem.Env} {pos : Pos} : ∀ {es : List Expr}, noStars es = true → (backTo pos (starEach es env)).any (·.1) = false
  | [], _ => rfl
  | e :: es, h => by
    rw [noStars, Bool.and_eq_true] at h
    rw [starEach_cons h.1]
    show (false || (backTo pos (starEach es env)).any (·.1)) = false
    rw [noStars_any h.2]
    rfl
theorem mark_of {op : CmpOp} {e : Expr} (h : notSet e = true) : behindInMarks op e = false := by
  cases e <;> first | rfl | cases h
theorem folded_of {e : Expr} {env : PySem.Env} (h : notSet e = true) (x : Value) : foldedSetIterable e env x = pure x := by
  cases e <;> first | rfl | cases h
theorem plainIx_of {e : Expr} (h : notSlice e = true) : PlainIx e := fun o i => by
  cases e <;> first | rfl | cases h

/-! ### names, constants -/
theorem ce_var {i : Nat} {x : Str} {pos : Pos} (h : PE X (.Name x pos) (tVar i)) : PE X (.Name x pos) (tE cx X.K W (.var i)) := h.imp fun σ H Q ⟨G, ρ, g, e⟩ => by
  unfold ev at e
  cases q : ρ.fz i with
  | none => rw [q] at e; exact e.elim
  | some d =>
    rw [q] at e
    obtain ⟨v, h1, h2⟩ := g.fz q
    exact ⟨v, h1, e G H g .refl v h2⟩
theorem ct_bor {i : Nat} {x : Str} {pos : Pos} (h : PE X (.Name x pos) (tVar i)) : PE X (.Name x pos) (tT cx X.K W (.b i)) := h.imp fun σ H Q ⟨G, ρ, g, e⟩ => by
  unfold evT at e
  cases q : ρ.bo i with
  | none => rw [q] at e; exact e.elim
  | some d =>
    rw [q] at e
    obtain ⟨v, h1, h2⟩ := g.view q
    exact ⟨v, h1, e G H g .refl v h1⟩
theorem ct_e {m : E} {e : Expr} (h : PE X e (tE cx X.K W m)) : PE X e (tT cx X.K W (.e m)) := h.imp fun σ H Q ⟨G, ρ, g, e⟩ => by
  unfold evT at e
  exact ⟨G, ρ, g, e⟩
def conB : D → Const → Bool
  | .non, .none => true
  | .bl b, .bool c => b == c
  | .int i, .int j => i == j
  | .str s, .str t => s == t
  | _, _ => false
theorem ce_con {d : D} {c : Const} {k : Nat} {pos : Pos} (h : conB d c = true) : PE X (.Constant c k pos) (tE cx X.K W (.con d)) := by
  have go : ∀ {v : V}, PE X (.Constant c k pos) (tC v) → (∀ G, Rep X.K G v d) → PE X (.Constant c k pos) (tE cx X.K W (.con d)) := fun p r => p.imp fun σ H Q ⟨G, ρ, g, e⟩ => by
    unfold ev at e
    exact e G H g .refl _ (r G)
  unfold conB at h
  split at h
  · exact go pe_non fun _ => .non
  · cases eq_of_beq h; exact go pe_bl fun _ => .bl _
  · cases eq_of_beq h; exact go pe_int fun _ => .int _
  · cases eq_of_beq h; exact go pe_str fun _ => .str _
  · cases h
theorem ce_glo {x : Str} {d : D} {pos : Pos} {v : V} (hd : cx.gl x = some d) (p : PE X (.Name x pos) (tC v)) (r : ∀ G, Rep X.K G v d) : PE X (.Name x pos) (tE cx X.K W (.glo x)) := p.imp fun σ H Q ⟨G, ρ, g, e⟩ => by
  unfold ev at e
  rw [hd] at e
  exact e G H g .refl _ (r G)

/-! ### rows of expressions -/
theorem ca_nil : PA X [] (tEs cx X.K W []) := pa_nil.imp fun σ H Q ⟨G, ρ, g, e⟩ => by
  unfold evs at e
  exact e G H g .refl [] .nil
theorem ca_cons {e : Expr} {es : List Expr} {m : E} {ms : List E} (hs : notStar e = true) (h : PE X e (tE cx X.K W m)) (t : PA X es (tEs cx X.K W ms)) : PA X (e :: es) (tEs cx X.K W (m :: ms)) :=
  (pa_cons h t (starEach_cons hs)).imp fun σ H Q ⟨G, ρ, g, e⟩ => by
    unfold evs at e
    refine ⟨G, ρ, g, e.bind.mono fun d G1 H1 ρ1 _ g1 f1 e1 v r => ⟨G1, ρ1, g1, e1.bind.mono fun ds G2 H2 ρ2 _ g2 f2 e2 vs rs => ?_⟩⟩
    exact e2 G2 H2 g2 .refl (v :: vs) (.cons (r.mono f2.gg) rs)
theorem cts_nil : PA X [] (tTs cx X.K W []) := pa_nil.imp fun σ H Q ⟨G, ρ, g, e⟩ => by
  unfold evTs at e
  exact e G H g .refl [] .nil
theorem cts_cons {e : Expr} {es : List Expr} {m : T} {ms : List T} (hs : notStar e = true) (h : PE X e (tT cx X.K W m)) (t : PA X es (tTs cx X.K W ms)) : PA X (e :: es) (tTs cx X.K W (m :: ms)) :=
  (pa_cons h t (starEach_cons hs)).imp fun σ H Q ⟨G, ρ, g, e⟩ => by
    unfold evTs at e
    refine ⟨G, ρ, g, e.bind.mono fun d G1 H1 ρ1 _ g1 f1 e1 v r => ⟨G1, ρ1, g1, e1.bind.mono fun ds G2 H2 ρ2 _ g2 f2 e2 vs rs => ?_⟩⟩
    exact e2 G2 H2 g2 .refl (v :: vs) (.cons (r.mono f2.gg) rs)
theorem ce_tup {es : List Expr} {ms : List E} {k : Nat} {pos : Pos} (h : PA X es (tEs cx X.K W ms)) : PE X (.Tuple es k pos) (tE cx X.K W (.tup ms)) := (pe_tup h).imp fun σ H Q ⟨G, ρ, g, e⟩ => by
  unfold ev at e
  refine ⟨G, ρ, g, e.bind.mono fun ds G1 H1 ρ1 _ g1 f1 e1 vs rs => ?_⟩
  split at e1
  · rename_i hl
    refine ⟨by rw [rs.length, ← lim_eq]; exact hl, fun p hp => ?_⟩
    have x := Ext.laid g1.sub (.tup vs) hp
    exact e1 _ _ (g1.ext x) (.ext x) _ (.tup (SqT.of upd_same) (rs.mono x.gg))
  · exact e1.elim
theorem cp_lst {es : List Expr} {ms : List E} {pos : Pos} (h : PA X es (tEs cx X.K W ms)) : PE X (.List es pos) (tP cx X.K W (.lst ms)) := (pe_lst h).imp fun σ H Q ⟨G, ρ, g, e⟩ => by
  unfold evP at e
  refine ⟨G, ρ, g, e.bind.mono fun ds G1 H1 ρ1 _ g1 f1 e1 vs rs => ?_⟩
  split at e1
  · rename_i hl
    exact ⟨by rw [rs.length, ← lim_eq]; exact hl, fun p hp => (e1 G1 H1 g1 .refl).lst g1.sub rs hp⟩
  · exact e1.elim
/-- what is new may be frozen at once -/
theorem ce_fr {e : Expr} {p : P} (h : PE X e (tP cx X.K W p)) : PE X e (tE cx X.K W (.fr p)) := h.imp fun σ H Q ⟨G, ρ, g, e⟩ => by
  unfold ev at e
  refine ⟨G, ρ, g, ?_⟩
  cases q : evP cx p ρ with
  | fail => rw [q] at e; exact e
  | exc c ρ1 => rw [q] at e; exact e
  | ok d ρ1 =>
    rw [q] at e
    intro G1 H1 g1 f1
    exact After.fresh fun G2 H2 v x r => e G2 H2 (g1.ext x) (f1.trans (.ext x)) v r

/-! ### operators -/
theorem ce_neg {e : Expr} {m : E} {pos : Pos} (h : PE X e (tE cx X.K W m)) : PE X (.UnaryOp .USub e pos) (tE cx X.K W (.neg m)) := (pe_un un_neg h).imp fun σ H Q ⟨G, ρ, g, e⟩ => by
  unfold ev at e
  refine ⟨G, ρ, g, e.bind.mono fun d G1 H1 ρ1 _ g1 f1 e1 v r => ?_⟩
  split at e1
  · cases r
    exact ⟨_, rfl, e1 G1 H1 g1 .refl _ (.int _)⟩
  · exact e1.elim
theorem ce_bin {op : Bop} {a b : T} {ea eb : Expr} {pos : Pos} (ha : PE X ea (tT cx X.K W a)) (hb : PE X eb (tT cx X.K W b)) : PE X (.BinOp ea (bopP op) eb pos) (tE cx X.K W (.bin op a b)) :=
  (pe_op (op_binM op) ha hb).imp fun σ H Q ⟨G, ρ, g, e⟩ => by
    unfold ev at e
    refine ⟨G, ρ, g, e.bind.mono fun x G1 H1 ρ1 _ g1 f1 e1 v tv => ⟨G1, ρ1, g1, e1.bind.mono fun y G2 H2 ρ2 _ g2 f2 e2 w tw => ?_⟩⟩
    split at e2
    · rename_i d e' h1 h2
      cases q : binD op d e' with
      | none => rw [q] at e2; exact e2.elim
      | some r =>
        rw [q] at e2
        exact ⟨G2, d, e', r, g2.sub, tv.view f2.gg g2 h1, tw.view (Sub.refl _) g2 h2, q, fun G3 H3 v x rp => e2 G3 H3 (g2.ext x) (.ext x) v rp⟩
    · exact e2.elim
theorem ce_cmp (hu : X.A.units + 65 < cLine) {op : Cop} {a b : T} {ea eb : Expr} {pos : Pos} (hs : notSet eb = true) (ha : PE X ea (tT cx X.K W a)) (hb : PE X eb (tT cx X.K W b)) : PE X (.Compare ea [copP op] [eb] pos) (tE cx X.K W (.cmp op a b)) :=
  (pe_cmpR (op_cmpM hu op) ha hb (mark_of hs)).imp fun σ H Q ⟨G, ρ, g, e⟩ => by
    unfold ev at e
    refine ⟨G, ρ, g, e.bind.mono fun x G1 H1 ρ1 _ g1 f1 e1 v tv => ⟨G1, ρ1, g1, e1.bind.mono fun y G2 H2 ρ2 _ g2 f2 e2 w tw => ?_⟩⟩
    split at e2
    · rename_i d e' h1 h2
      cases q : cmpD op d e' with
      | none => rw [q] at e2; exact e2.elim
      | some r =>
        rw [q] at e2
        exact ⟨G2, d, e', r, g2.sub, tv.view f2.gg g2 h1, tw.view (Sub.refl _) g2 h2, q, e2 G2 H2 g2 .refl _ (.bl _)⟩
    · exact e2.elim
theorem cb_cmp (hu : X.A.units + 65 < cLine) {op : Cop} {a b : T} {ea eb : Expr} {pos : Pos} (hs : notSet eb = true) (ha : PE X ea (tT cx X.K W a)) (hb : PE X eb (tT cx X.K W b)) : PT X (.Compare ea [copP op] [eb] pos) (MP.tB cx X.K W (.cmp op a b)) :=
  (pt_cmpR (op_cmpM hu op) ha hb (mark_of hs)).imp fun σ H Q ⟨G, ρ, g, e⟩ => by
    unfold ev at e
    refine ⟨G, ρ, g, e.bind.mono fun x G1 H1 ρ1 _ g1 f1 e1 v tv => ⟨G1, ρ1, g1, e1.bind.mono fun y G2 H2 ρ2 _ g2 f2 e2 w tw => ?_⟩⟩
    split at e2
    · rename_i d e' h1 h2
      cases q : cmpD op d e' with
      | none => rw [q] at e2; exact e2.elim
      | some r =>
        rw [q] at e2
        obtain ⟨b, hb, q2⟩ := e2 G2 H2 g2 .refl
        cases hb
        exact ⟨G2, d, e', r, g2.sub, tv.view f2.gg g2 h1, tw.view (Sub.refl _) g2 h2, q, r, rfl, q2⟩
    · exact e2.elim
theorem lastMarks2 {o o' : CmpOp} {b c : Expr} (h : notSet c = true) : lastMarks [o, o'] [b, c] = false := mark_of h
theorem ce_chain (hu : X.A.units + 65 < cLine) {op op' : Cop} {a b c : T} {ea eb ec : Expr} {pos : Pos} (hs : notSet ec = true) (ha : PE X ea (tT cx X.K W a)) (hb : PE X eb (tT cx X.K W b)) (hc : PE X ec (tT cx X.K W c)) :
    PE X (.Compare ea [copP op, copP op'] [eb, ec] pos) (tE cx X.K W (.chain op op' a b c)) :=
  (pe_chain (op_cmpM hu op) (op_cmpM hu op') ha hb hc (lastMarks2 hs)).imp fun σ H Q ⟨G, ρ, g, e⟩ => by
    unfold ev at e
    refine ⟨G, ρ, g, e.bind.mono fun x G1 H1 ρ1 _ g1 f1 e1 v tv => ⟨G1, ρ1, g1, e1.bind.mono fun y G2 H2 ρ2 _ g2 f2 e2 w tw => ?_⟩⟩
    split at e2
    · rename_i d e' h1 h2
      cases q : cmpD op d e' with
      | none => rw [q] at e2; exact e2.elim
      | some r =>
        rw [q] at e2
        refine ⟨G2, d, e', r, g2.sub, tv.view f2.gg g2 h1, tw.view (Sub.refl _) g2 h2, q, r, rfl, ?_⟩
        cases r with
        | false =>
          exact iteF (e2 G2 H2 g2 .refl _ (.bl _))
        | true =>
          refine iteT ?_
          have e2 : Ev X.K W G2 H2 σ ρ2 ((evT cx c ρ2).bind _) _ := e2
          refine ⟨G2, ρ2, g2, e2.bind.mono fun z G3 H3 ρ3 _ g3 f3 e3 u tu => ?_⟩
          split at e3
          · rename_i e4 f4 h3 h4
            cases q2 : cmpD op' e4 f4 with
            | none => rw [q2] at e3; exact e3.elim
            | some r2 =>
              rw [q2] at e3
              exact ⟨G3, e4, f4, r2, g3.sub, tw.view f3.gg g3 h3, tu.view (Sub.refl _) g3 h4, q2, e3 G3 H3 g3 .refl _ (.bl _)⟩
          · exact e3.elim
    · exact e2.elim
theorem cb_chain (hu : X.A.units + 65 < cLine) {op op' : Cop} {a b c : T} {ea eb ec : Expr} {pos : Pos} (hs : notSet ec = true) (ha : PE X ea (tT cx X.K W a)) (hb : PE X eb (tT cx X.K W b)) (hc : PE X ec (tT cx X.K W c)) :
    PT X (.Compare ea [copP op, copP op'] [eb, ec] pos) (MP.tB cx X.K W (.chain op op' a b c)) :=
  (pt_chain (op_cmpM hu op) (op_cmpM hu op') ha hb hc (lastMarks2 hs)).imp fun σ H Q ⟨G, ρ, g, e⟩ => by
    unfold ev at e
    refine ⟨G, ρ, g, e.bind.mono fun x G1 H1 ρ1 _ g1 f1 e1 v tv => ⟨G1, ρ1, g1, e1.bind.mono fun y G2 H2 ρ2 _ g2 f2 e2 w tw => ?_⟩⟩
    split at e2
    · rename_i d e' h1 h2
      cases q : cmpD op d e' with
      | none => rw [q] at e2; exact e2.elim
      | some r =>
        rw [q] at e2
        refine ⟨G2, d, e', r, g2.sub, tv.view f2.gg g2 h1, tw.view (Sub.refl _) g2 h2, q, r, rfl, ?_⟩
        cases r with
        | false =>
          obtain ⟨b, hb, q2⟩ := e2 G2 H2 g2 .refl
          cases hb
          exact iteF ⟨_, rfl, q2⟩
        | true =>
          refine iteT ?_
          have e2 : Ev X.K W G2 H2 σ ρ2 ((evT cx c ρ2).bind _) _ := e2
          refine ⟨G2, ρ2, g2, e2.bind.mono fun z G3 H3 ρ3 _ g3 f3 e3 u tu => ?_⟩
          split at e3
          · rename_i e4 f4 h3 h4
            cases q2 : cmpD op' e4 f4 with
            | none => rw [q2] at e3; exact e3.elim
            | some r2 =>
              rw [q2] at e3
              obtain ⟨b, hb, q3⟩ := e3 G3 H3 g3 .refl
              cases hb
              exact ⟨G3, e4, f4, r2, g3.sub, tw.view f3.gg g3 h3, tu.view (Sub.refl _) g3 h4, q2, _, rfl, q3⟩
          · exact e3.elim
    · exact e2.elim

/-! ### and, or, not, if .. else, is None -/
theorem ce_nt {e : Expr} {m : E} {pos : Pos} (h : PE X e (tE cx X.K W m)) : PE X (.UnaryOp .Not e pos) (tE cx X.K W (.nt m)) := (pe_not h).imp fun σ H Q ⟨G, ρ, g, e⟩ => by
  unfold ev at e
  refine ⟨G, ρ, g, e.bind.mono fun d G1 H1 ρ1 _ g1 f1 e1 v r => ?_⟩
  split at e1
  · cases r
    exact ⟨_, rfl, e1 G1 H1 g1 .refl _ (.bl _)⟩
  · exact e1.elim
theorem cb_nt {e : Expr} {m : E} {pos : Pos} (h : PT X e (MP.tB cx X.K W m)) : PT X (.UnaryOp .Not e pos) (MP.tB cx X.K W (.nt m)) := (pt_not h).imp fun σ H Q ⟨G, ρ, g, e⟩ => by
  unfold ev at e
  refine ⟨G, ρ, g, e.bind.mono fun d G1 H1 ρ1 _ g1 f1 e1 => ?_⟩
  split at e1
  · obtain ⟨b, hb, q⟩ := e1 G1 H1 g1 .refl
    cases hb
    exact ⟨_, rfl, q⟩
  · exact e1.elim
theorem ce_and {a b : E} {ea e' : Expr} {es : List Expr} {pos : Pos} (ha : PE X ea (tE cx X.K W a)) (hb : PE X (.BoolOp .And (e' :: es) pos) (tE cx X.K W b)) : PE X (.BoolOp .And (ea :: e' :: es) pos) (tE cx X.K W (.and_ a b)) :=
  (pe_and ha hb).imp fun σ H Q ⟨G, ρ, g, e⟩ => by
    unfold ev at e
    refine ⟨G, ρ, g, e.bind.mono fun d G1 H1 ρ1 _ g1 f1 e1 v r => ?_⟩
    split at e1
    · cases r
      exact ⟨true, rfl, iteT ⟨G1, ρ1, g1, e1⟩⟩
    · cases r
      exact ⟨false, rfl, iteF (e1 G1 H1 g1 .refl _ (.bl _))⟩
    · exact e1.elim
theorem ce_or {a b : E} {ea e' : Expr} {es : List Expr} {pos : Pos} (ha : PE X ea (tE cx X.K W a)) (hb : PE X (.BoolOp .Or (e' :: es) pos) (tE cx X.K W b)) : PE X (.BoolOp .Or (ea :: e' :: es) pos) (tE cx X.K W (.or_ a b)) :=
  (pe_or ha hb).imp fun σ H Q ⟨G, ρ, g, e⟩ => by
    unfold ev at e
    refine ⟨G, ρ, g, e.bind.mono fun d G1 H1 ρ1 _ g1 f1 e1 v r => ?_⟩
    split at e1
    · cases r
      exact ⟨true, rfl, iteT (e1 G1 H1 g1 .refl _ (.bl _))⟩
    · cases r
      exact ⟨false, rfl, iteF ⟨G1, ρ1, g1, e1⟩⟩
    · exact e1.elim
theorem _root_.L2.PW.imp {e : Expr} {t t' : TT} (h : PW X e t) (k : ∀ σ H Q, t' σ H Q → t σ H Q) : PW X e t' := ⟨fun wh pins s σ H Q I q => h.run wh pins s σ H Q I (k σ H Q q)⟩
theorem cb_and {a b : E} {ea e' : Expr} {es : List Expr} {pos : Pos} (ha : PT X ea (MP.tB cx X.K W a)) (hb : PW X (.BoolOp .And (e' :: es) pos) (MP.tB cx X.K W b)) : PW X (.BoolOp .And (ea :: e' :: es) pos) (MP.tB cx X.K W (.and_ a b)) :=
  PW.imp (pw_and ha hb) fun σ H Q ⟨G, ρ, g, e⟩ => by
    unfold ev at e
    refine ⟨G, ρ, g, e.bind.mono fun d G1 H1 ρ1 _ g1 f1 e1 => ?_⟩
    split at e1
    · exact ⟨true, rfl, iteT ⟨G1, ρ1, g1, e1⟩⟩
    · obtain ⟨b, hb, q⟩ := e1 G1 H1 g1 .refl
      cases hb
      exact ⟨false, rfl, iteF q⟩
    · exact e1.elim
theorem cb_or {a b : E} {ea e' : Expr} {es : List Expr} {pos : Pos} (ha : PT X ea (MP.tB cx X.K W a)) (hb : PW X (.BoolOp .Or (e' :: es) pos) (MP.tB cx X.K W b)) : PW X (.BoolOp .Or (ea :: e' :: es) pos) (MP.tB cx X.K W (.or_ a b)) :=
  PW.imp (pw_or ha hb) fun σ H Q ⟨G, ρ, g, e⟩ => by
    unfold ev at e
    refine ⟨G, ρ, g, e.bind.mono fun d G1 H1 ρ1 _ g1 f1 e1 => ?_⟩
    split at e1
    · obtain ⟨b, hb, q⟩ := e1 G1 H1 g1 .refl
      cases hb
      exact ⟨true, rfl, iteT q⟩
    · exact ⟨false, rfl, iteF ⟨G1, ρ1, g1, e1⟩⟩
    · exact e1.elim
theorem ce_ite {c a b : E} {ec ea eb : Expr} {pos : Pos} (hc : PT X ec (MP.tB cx X.K W c)) (ha : PE X ea (tE cx X.K W a)) (hb : PE X eb (tE cx X.K W b)) : PE X (.IfExp ec ea eb pos) (tE cx X.K W (.ite c a b)) :=
  (pe_ifExp hc ha hb).imp fun σ H Q ⟨G, ρ, g, e⟩ => by
    unfold ev at e
    refine ⟨G, ρ, g, e.bind.mono fun d G1 H1 ρ1 _ g1 f1 e1 => ?_⟩
    split at e1
    · exact ⟨true, rfl, iteT ⟨G1, ρ1, g1, e1⟩⟩
    · exact ⟨false, rfl, iteF ⟨G1, ρ1, g1, e1⟩⟩
    · exact e1.elim
theorem rep_non {K : PySem.W.Frag} {G : Hp} {v : V} {d : D} (r : Rep K G v d) : (v = .non ↔ d = .non) := by
  cases r <;> simp
theorem ce_isN {m : E} {e : Expr} {k : Nat} {p pos : Pos} (h : PE X e (tE cx X.K W m)) : PE X (.Compare e [.Is] [.Constant .none k p] pos) (tE cx X.K W (.isN false m)) := (pe_cmp (pc_isN h) rfl).imp fun σ H Q ⟨G, ρ, g, e⟩ => by
  unfold ev at e
  refine ⟨G, ρ, g, e.bind.mono fun d G1 H1 ρ1 _ g1 f1 e1 v r => ?_⟩
  have z := rep_non r
  split at e1
  · show Q (V.bl (decide (v = V.non))) H1
    rw [show decide (v = V.non) = true from decide_eq_true (z.mpr rfl)]
    exact e1 G1 H1 g1 .refl _ (.bl _)
  · rename_i hn
    show Q (V.bl (decide (v = V.non))) H1
    rw [show decide (v = V.non) = false from decide_eq_false fun q => hn (z.mp q)]
    exact e1 G1 H1 g1 .refl _ (.bl _)
theorem ce_notN {m : E} {e : Expr} {k : Nat} {p pos : Pos} (h : PE X e (tE cx X.K W m)) : PE X (.Compare e [.IsNot] [.Constant .none k p] pos) (tE cx X.K W (.isN true m)) := (pe_cmp (pc_notN h) rfl).imp fun σ H Q ⟨G, ρ, g, e⟩ => by
  unfold ev at e
  refine ⟨G, ρ, g, e.bind.mono fun d G1 H1 ρ1 _ g1 f1 e1 v r => ?_⟩
  have z := rep_non r
  split at e1
  · show Q (V.bl (!decide (v = V.non))) H1
    rw [show decide (v = V.non) = true from decide_eq_true (z.mpr rfl)]
    exact e1 G1 H1 g1 .refl _ (.bl _)
  · rename_i hn
    show Q (V.bl (!decide (v = V.non))) H1
    rw [show decide (v = V.non) = false from decide_eq_false fun q => hn (z.mp q)]
    exact e1 G1 H1 g1 .refl _ (.bl _)
theorem cb_isN {m : E} {e : Expr} {k : Nat} {p pos : Pos} (h : PE X e (tE cx X.K W m)) : PT X (.Compare e [.Is] [.Constant .none k p] pos) (MP.tB cx X.K W (.isN false m)) := (pt_cmp (pc_isN h) rfl).imp fun σ H Q ⟨G, ρ, g, e⟩ => by
  unfold ev at e
  refine ⟨G, ρ, g, e.bind.mono fun d G1 H1 ρ1 _ g1 f1 e1 v r => ?_⟩
  have z := rep_non r
  split at e1
  · obtain ⟨b, hb, q⟩ := e1 G1 H1 g1 .refl
    cases hb
    exact ⟨true, by rw [show decide (v = V.non) = true from decide_eq_true (z.mpr rfl)], q⟩
  · rename_i hn
    obtain ⟨b, hb, q⟩ := e1 G1 H1 g1 .refl
    cases hb
    exact ⟨false, by rw [show decide (v = V.non) = false from decide_eq_false fun q => hn (z.mp q)], q⟩
theorem cb_notN {m : E} {e : Expr} {k : Nat} {p pos : Pos} (h : PE X e (tE cx X.K W m)) : PT X (.Compare e [.IsNot] [.Constant .none k p] pos) (MP.tB cx X.K W (.isN true m)) := (pt_cmp (pc_notN h) rfl).imp fun σ H Q ⟨G, ρ, g, e⟩ => by
  unfold ev at e
  refine ⟨G, ρ, g, e.bind.mono fun d G1 H1 ρ1 _ g1 f1 e1 v r => ?_⟩
  have z := rep_non r
  split at e1
  · obtain ⟨b, hb, q⟩ := e1 G1 H1 g1 .refl
    cases hb
    exact ⟨false, by rw [show decide (v = V.non) = true from decide_eq_true (z.mpr rfl)]; rfl, q⟩
  · rename_i hn
    obtain ⟨b, hb, q⟩ := e1 G1 H1 g1 .refl
    cases hb
    exact ⟨true, by rw [show decide (v = V.non) = false from decide_eq_false fun q => hn (z.mp q)]; rfl, q⟩
/-- a value that is True or False, as a test -/
theorem cb_val {m : E} {e : Expr} (h : PE X e (tE cx X.K W m)) (he : ∀ whole, isTrue e X.env whole = (do let v ← whole; standAt e.pos; holding [v] (truthy v))) : PT X e (MP.tB cx X.K W m) := (pt_val h he).imp fun σ H Q ⟨G, ρ, g, e⟩ =>
  ⟨G, ρ, g, e.mono fun d G1 H1 ρ1 _ g1 f1 e1 v r => by
    obtain ⟨b, rfl, q⟩ := e1
    cases r
    exact ⟨b, rfl, q⟩⟩

/-! ### places, cuts -/
theorem ce_ix {a b : T} {ea eb : Expr} {pos : Pos} (hs : notSlice eb = true) (ha : PE X ea (tT cx X.K W a)) (hb : PE X eb (tT cx X.K W b)) : PE X (.Subscript ea eb pos) (tE cx X.K W (.ix a b)) :=
  (pe_ix ix_M ha hb (plainIx_of hs)).imp fun σ H Q ⟨G, ρ, g, e⟩ => by
    unfold ev at e
    refine ⟨G, ρ, g, e.bind.mono fun x G1 H1 ρ1 _ g1 f1 e1 v tv => ⟨G1, ρ1, g1, e1.bind.mono fun y G2 H2 ρ2 _ g2 f2 e2 w tw => ?_⟩⟩
    split at e2
    · rename_i d e' h1 h2
      cases q : ixD d e' with
      | none => rw [q] at e2; exact e2.elim
      | some r =>
        rw [q] at e2
        exact ⟨G2, d, e', r, g2.sub, tv.view f2.gg g2 h1, tw.view (Sub.refl _) g2 h2, q, fun G3 H3 v x rp => e2 G3 H3 (g2.ext x) (.ext x) v rp⟩
    · exact e2.elim
def tO (cx : Cxt) (K : PySem.W.Frag) (W : Wish) (m : Option E) : TO := fun σ H Q => ∃ G ρ, Good K G H σ ρ ∧ Ev K W G H σ ρ (evO cx m ρ) fun i G' H' _ => Q i H'
theorem _root_.L2.PO.imp {e : Option Expr} {t t' : TO} (h : PO X e t) (k : ∀ σ H Q, t' σ H Q → t σ H Q) : PO X e t' := ⟨fun pins s σ H Q I q => h.run pins s σ H Q I (k σ H Q q)⟩
theorem co_none : PO X none (tO cx X.K W none) := PO.imp po_none fun σ H Q ⟨G, ρ, g, e⟩ => by
  unfold evO at e
  exact e G H g .refl
theorem co_some {e : Expr} {m : E} (h : PE X e (tE cx X.K W m)) : PO X (some e) (tO cx X.K W (some m)) := PO.imp (po_some h) fun σ H Q ⟨G, ρ, g, e⟩ => by
  unfold evO at e
  refine ⟨G, ρ, g, e.bind.mono fun d G1 H1 ρ1 _ g1 f1 e1 v r => ?_⟩
  split at e1
  · cases r
    exact ⟨_, rfl, e1 G1 H1 g1 .refl⟩
  · exact e1.elim
theorem ce_sl {a : T} {lo hi : Option E} {ea : Expr} {el eh : Option Expr} {p2 pos : Pos} (ha : PE X ea (tT cx X.K W a)) (hl : PO X el (tO cx X.K W lo)) (hh : PO X eh (tO cx X.K W hi)) : PE X (.Subscript ea (.Slice el eh none p2) pos) (tE cx X.K W (.sl a lo hi)) :=
  (pe_slice sl_M ha hl hh).imp fun σ H Q ⟨G, ρ, g, e⟩ => by
    unfold ev at e
    refine ⟨G, ρ, g, e.bind.mono fun x G1 H1 ρ1 _ g1 f1 e1 v tv => ⟨G1, ρ1, g1, e1.bind.mono fun i G2 H2 ρ2 _ g2 f2 e2 => ⟨G2, ρ2, g2, e2.bind.mono fun j G3 H3 ρ3 _ g3 f3 e3 => ?_⟩⟩⟩
    split at e3
    · rename_i d h1
      cases q : slD d i j with
      | none => rw [q] at e3; exact e3.elim
      | some r =>
        rw [q] at e3
        exact ⟨G3, d, r, g3.sub, tv.view (f2.gg.trans f3.gg) g3 h1, q, fun G4 H4 v x rp => e3 G4 H4 (g3.ext x) (.ext x) v rp⟩
    · exact e3.elim

/-! ### calls of built-ins -/
theorem ce_callB {id : String} {f : List D → Option D} {es : List Expr} {e : Expr} {x : Str} {p pos : Pos} {ts : List T} {m : E} (hm : ∀ ρ, ev cx m ρ = (evTs cx ts ρ).bind fun xs ρ => match resL ts xs ρ with | some ds => .of (f ds) ρ | _ => .fail)
    (h : PE X (.Call (.Name x p) (e :: es) [] pos) (tCB (rn X.K f) (tTs cx X.K W ts))) : PE X (.Call (.Name x p) (e :: es) [] pos) (tE cx X.K W m) := h.imp fun σ H Q ⟨G, ρ, g, e⟩ => by
  rw [hm] at e
  refine ⟨G, ρ, g, e.bind.mono fun xs G1 H1 ρ1 _ g1 f1 e1 vs tv => ?_⟩
  split at e1
  · rename_i ds h1
    cases q : f ds with
    | none => rw [q] at e1; exact e1.elim
    | some r =>
      rw [q] at e1
      exact ⟨G1, ds, r, g1.sub, tv.view g1 h1, q, fun G3 H3 v x rp => e1 G3 H3 (g1.ext x) (.ext x) v rp⟩
  · exact e1.elim
end
end MP

namespace L2
open PySem PySem.Spec PyProof.Rows

theorem compTurnM (elt : Expr) (gens : List Comprehension) (scope : Scope) (pos : Pos) (d : Nat) (it acc : Value) (env : Env) {t0 i0 t1 i1 : Expr} {f0 f1 : List Expr} (hg : gens[d]? = some ⟨t0, i0, f0, 0⟩) (hn : gens[d + 1]? = some ⟨t1, i1, f1, 0⟩) :
    compTurn (.ListComp elt gens scope pos) d it acc env = (do
      standAt i0.pos
      match ← pyNext it with
      | none => pure (.done .next)
      | some v =>
        letOwnedTupleGo t0 it v
        assign t0 env v
        let mut ok := true
        for c in f0 do
          if ok then ok ← isTrue c env (eval c env)
        if ok then
          let x ← eval i1 env
          standAt i1.pos
          let x ← foldedSetIterable i1 env x
          let _ ← runOwn (.compStart (.ListComp elt gens scope pos) (d + 1) (← holding [x] (pyIter x)) acc env) env
        again (.compLoop (.ListComp elt gens scope pos) d it acc env)) := by
  unfold compTurn
  simp only [hg, hn]
  rfl
theorem compTurnL (elt : Expr) (gens : List Comprehension) (scope : Scope) (pos : Pos) (d : Nat) (it acc : Value) (env : Env) {t0 i0 : Expr} {f0 : List Expr} (hg : gens[d]? = some ⟨t0, i0, f0, 0⟩) (hn : gens[d + 1]? = none) :
    compTurn (.ListComp elt gens scope pos) d it acc env = (do
      standAt i0.pos
      match ← pyNext it with
      | none => pure (.done .next)
      | some v =>
        letOwnedTupleGo t0 it v
        assign t0 env v
        let mut ok := true
        for c in f0 do
          if ok then ok ← isTrue c env (eval c env)
        if ok then
          (do let _ ← call (.builtin "list.append") [acc, ← eval elt env])
        again (.compLoop (.ListComp elt gens scope pos) d it acc env)) := by
  unfold compTurn
  simp only [hg, hn]
  rfl
section
variable {prog : Program} {w : World} {A : Around} {R : Result → Shared → Prop} {s : Shared} {elt t0 i0 t1 i1 : Expr} {gens : List Comprehension} {d : Nat} {f0 f1 : List Expr} {scope : Scope} {pos : Pos} {it acc : Value} {env : Env}
abbrev FX : Value → Shared → Prop := fun _ _ => False
abbrev testsOf (ifs : List Expr) (env : Env) : Sem Bool := forIn ifs true fun c r => if r = true then do let ok ← isTrue c env (eval c env); pure (ForInStep.yield ok) else pure (ForInStep.yield r)
theorem noF {α : Type} {M : Model} {t : Sem α} {Q : α → Shared → Prop} {E : Value → Shared → Prop} (h : wpAny M A t Q FX s) : wpAny M A t Q E s := wpAny_mono h (fun _ _ q => q) fun _ _ z => z.elim
theorem loopM (hg : gens[d]? = some ⟨t0, i0, f0, 0⟩) (hn : gens[d + 1]? = some ⟨t1, i1, f1, 0⟩) (hs : ∀ x, foldedSetIterable i1 env x = pure x) (I : Nat → Shared → Prop)
    (turn : ∀ n s, I n s → wpAny (model prog w) A (pyNext it) (fun r s₁ => match r with
      | none => R (.ok .next) s₁
      | some v => wpAny (model prog w) A (letOwnedTupleGo t0 it v) (fun _ s₁' => wpAny (model prog w) A (assign t0 env v) (fun _ s₂ =>
          wpAny (model prog w) A (testsOf f0 env) (fun ok s₃ =>
            if ok = true then wpAny (model prog w) A (eval i1 env) (fun x s₄ => wpAny (model prog w) A (pyIter x) (fun it1 s₅ =>
              codeAny (model prog w) A (.compStart (.ListComp elt gens scope pos) (d + 1) it1 acc env) (fun r s' => match r with
                | .ok _ => ∃ m, m < n ∧ I m s'
                | .error _ => False) s₅) FX s₄) FX s₃
            else ∃ m, m < n ∧ I m s₃) FX s₂) FX s₁') FX s₁) FX s)
    (n : Nat) (h : I n s) : codeAny (model prog w) A (.compLoop (.ListComp elt gens scope pos) d it acc env) R s := by
  refine codeAny_loop rfl I (fun n s hI => ?_) n h
  show wpAny _ A ((compTurn (.ListComp elt gens scope pos) d it acc env).onRaise (fun x => do noteFrame x env; theTreesLotGoes x)) _ _ s
  refine wpAny_noted (noF ?_)
  rw [compTurnM _ _ _ _ _ _ _ _ hg hn]
  refine wpAny_bind (wpAny_standAt (wpAny_bind (thnF (turn n s hI) fun r s₁ h₁ => ?_)))
  cases r with
  | none => exact wpAny_pure h₁
  | some v =>
    refine wpAny_bind (thnF h₁ fun _ s₁' h₁' => ?_)
    refine wpAny_bind (thnF h₁' fun _ s₂ h₂ => wpAny_bind (thnF h₂ fun ok s₃ h₃ => ?_))
    cases ok with
    | false => exact wpAny_pure ⟨rfl, h₃⟩
    | true =>
      refine wpAny_bind (thnF h₃ fun x s₄ h₄ => ?_)
      refine wpAny_bind (wpAny_standAt (wpAny_bind (wpAny_of_eq (hs x) (wpAny_bind (wpAny_holding (thnF h₄ fun it1 s₅ h₅ => ?_))))))
      refine wpAny_bind (wpAny_runOwn ?_)
      rw [Around.mark_none]
      refine codeAny_mono h₅ fun r s' hr => ?_
      cases r with
      | ok f =>
        first
          | exact wpAny_pure ⟨rfl, hr⟩
          | exact wpAny_bind (wpAny_pure (wpAny_pure ⟨rfl, hr⟩))
      | error e => exact hr.elim
theorem loopL (hg : gens[d]? = some ⟨t0, i0, f0, 0⟩) (hn : gens[d + 1]? = none) (I : Nat → Shared → Prop)
    (turn : ∀ n s, I n s → wpAny (model prog w) A (pyNext it) (fun r s₁ => match r with
      | none => R (.ok .next) s₁
      | some v => wpAny (model prog w) A (letOwnedTupleGo t0 it v) (fun _ s₁' => wpAny (model prog w) A (assign t0 env v) (fun _ s₂ =>
          wpAny (model prog w) A (testsOf f0 env) (fun ok s₃ =>
            if ok = true then wpAny (model prog w) A (eval elt env) (fun x s₄ =>
              wpAny (model prog w) A (call (.builtin "list.append") [acc, x]) (fun _ s₅ => ∃ m, m < n ∧ I m s₅) FX s₄) FX s₃
            else ∃ m, m < n ∧ I m s₃) FX s₂) FX s₁') FX s₁) FX s)
    (n : Nat) (h : I n s) : codeAny (model prog w) A (.compLoop (.ListComp elt gens scope pos) d it acc env) R s := by
  refine codeAny_loop rfl I (fun n s hI => ?_) n h
  show wpAny _ A ((compTurn (.ListComp elt gens scope pos) d it acc env).onRaise (fun x => do noteFrame x env; theTreesLotGoes x)) _ _ s
  refine wpAny_noted (noF ?_)
  rw [compTurnL _ _ _ _ _ _ _ _ hg hn]
  refine wpAny_bind (wpAny_standAt (wpAny_bind (thnF (turn n s hI) fun r s₁ h₁ => ?_)))
  cases r with
  | none => exact wpAny_pure h₁
  | some v =>
    refine wpAny_bind (thnF h₁ fun _ s₁' h₁' => ?_)
    refine wpAny_bind (thnF h₁' fun _ s₂ h₂ => wpAny_bind (thnF h₂ fun ok s₃ h₃ => ?_))
    cases ok with
    | false => exact wpAny_pure ⟨rfl, h₃⟩
    | true =>
      exact wpAny_bind (wpAny_bind (thnF h₃ fun x s₄ h₄ => wpAny_bind (thnF h₄ fun _ s₅ h₅ => wpAny_pure (wpAny_pure ⟨rfl, h₅⟩))))
theorem startG (hg : gens[d]? = some ⟨t0, i0, f0, 0⟩) (h0 : codeAny (model prog w) A (.compLoop (.ListComp elt gens scope pos) d it acc env) R s)
    (h : wpAny (model prog w) A (pyIter it) (fun it' s' => codeAny (model prog w) A (.compLoop (.ListComp elt gens scope pos) d it' acc env) R s') FX s) :
    codeAny (model prog w) A (.compStart (.ListComp elt gens scope pos) d it acc env) R s := by
  refine codeAny_of_tree ?_
  show wpAny _ _ ((compStart (.ListComp elt gens scope pos) d it acc env).onRaise (fun x => do noteFrame x env; standAt theWindowsPlace)) _ _ s
  refine wpAny_notedAt (noF ?_)
  unfold compStart
  have hc : clausesOf (.ListComp elt gens scope pos) = gens := rfl
  rw [hc, hg]
  show wpAny _ _ (ask >>= _) _ _ s
  refine wpAny_bind (wpAny_askSetting (wpAny_ite ?_))
  split
  · first
      | exact wpAny_bind (wpAny_pure (wpAny_pure (And.intro rfl h0)))
      | exact wpAny_pure (And.intro rfl h0)
  · first
      | exact wpAny_bind (wpAny_rule (wpAny_bind (wpAny_standAt (wpAny_bind (thnF h (fun it' s' h' => wpAny_pure (And.intro rfl h')))))))
      | (refine wpAny_bind (wpAny_rule ?_); show wpAny _ _ (standAt i0.pos >>= _) _ _ s; exact wpAny_bind (wpAny_standAt (wpAny_bind (thnF h (fun it' s' h' => wpAny_pure (And.intro rfl h'))))))
end

/-! ### a comprehension of any number of clauses, by transformers -/
structure Cla where
  wi : TI
  g : TG
  tt : TT
def tTurns (c : Cla) (body : (St → Hp → Prop) → St → Hp → Prop) (J : It) (Nx : St → Hp → Prop) (σ : St) (H1 : Hp) : Prop := ∃ W : Nat → Nat → St → Hp → Prop, (∃ m, W 0 m σ H1) ∧ ∀ i m σ H, W i m σ H →
  (J.stop i H ∧ Nx σ H) ∨ (J.go i H ∧ ∃ N : St → Hp → Prop, (∀ σ' H', N σ' H' → ∃ m', m' < m ∧ W (i + 1) m' σ' H') ∧ ∀ x H', J.yld i H x H' → c.g x σ H' fun σ2 H2 => c.tt σ2 H2 fun b H3 => if b = true then body N σ2 H3 else N σ2 H3)
def tTail (te : TE) (D : Addr) : List Cla → (St → Hp → Prop) → St → Hp → Prop
  | [], Nx, σ, H => te σ H fun y H1 => ∃ acc, H1 D = some (.lst acc) ∧ acc.length < sizeLine ∧ Nx σ (upd H1 D (.lst (acc ++ [y])))
  | c :: cs, Nx, σ, H => c.wi σ H fun J H1 => tTurns c (tTail te D cs) J Nx σ H1
def tLcN (c : Cla) (cs : List Cla) (te : TE) (vs : List Nat) : TE := fun σ H Q => c.wi σ H fun J H1 => ∀ D, H1 D = none → tTurns c (tTail te D cs) J (fun _ H' => Q (.ref D) H') (wipe σ vs) (upd H1 D (.lst []))
inductive ClaOk (B : Cx) : List Comprehension → List Cla → Prop
  | nil : ClaOk B [] []
  | cons {tg iter : Expr} {ifs : List Expr} {gs : List Comprehension} {c : Cla} {cs : List Cla} : PI B tg iter c.wi → PG B tg c.g → PTs B ifs c.tt → (∀ env x, foldedSetIterable iter env x = pure x) → ClaOk B gs cs → ClaOk B (⟨tg, iter, ifs, 0⟩ :: gs) (c :: cs)
/-- the loop of a clause whose iterator has come -/
theorem claLoop {B : Cx} (hx : B.xe = FX) (hc : B.calm = true) {elt : Expr} {te : TE} (he : PE B elt te) {gens : List Comprehension} {scope : Scope} {pos : Pos} {D : Addr} :
    ∀ (gs : List Comprehension) (cs : List Cla), ClaOk B gs cs → ∀ (d : Nat) (tg iter : Expr) (ifs : List Expr) (c : Cla), gens[d]? = some ⟨tg, iter, ifs, 0⟩ → (∀ j, gens[d + 1 + j]? = gs[j]?) → PG B tg c.g → PTs B ifs c.tt →
    ∀ (pins : List (Addr × Obj)) (σ : St) (H : Hp) (s : Shared) (Nx : St → Hp → Prop) (it : Addr) (fp : List Addr) (tn : Nat → Heap → Prop) (J : It), Inv B pins σ H s → Turn B.prog B.w B.K tg J fp it tn → tn 0 s.heap → (∀ b ∈ fp, FpOk B pins H b) →
      tTurns c (tTail te D cs) J Nx σ H → ∀ (R : Result → Shared → Prop), (∀ s' σ' H', Inv B pins σ' H' s' → Nx σ' H' → R (.ok .next) s') →
      codeAny (model B.prog B.w) B.A (.compLoop (.ListComp elt gens scope pos) d (.ref it) (.ref D) B.env) R s := by
  intro gs
  induction gs with
  | nil =>
    intro cs hcs d tg iter ifs c hd hgs hg ht pins σ H s Nx it fp tn J I T st f h R hR
    cases hcs
    obtain ⟨W, ⟨m0, w0⟩, turn⟩ := h
    have stat : ∀ {H' : Hp}, (∀ b ∈ fp, H' b = none) → ∀ b ∈ fp, FpOk B pins H' b := fun hn b hb => ⟨hn b hb, (f b hb).2⟩
    refine loopL hd (hgs 0) (fun n s' => ∃ i σ' H', Inv B pins σ' H' s' ∧ tn i s'.heap ∧ (∀ b ∈ fp, H' b = none) ∧ W i n σ' H') ?_ m0 ⟨0, σ, H, I, st, fun b hb => (f b hb).1, w0⟩
    rintro n s1 ⟨i, σ1, H1, I1, st1, n1, w1⟩
    rcases turn i n σ1 H1 w1 with ⟨stop, q⟩ | ⟨go, N, hN, step⟩
    · refine thnF (T.done B rfl rfl rfl hc i pins s1 σ1 H1 FX I1 (stat n1) st1 stop) fun r s2 ⟨hr, I2⟩ => ?_
      subst hr
      exact hR s2 σ1 H1 I2 q
    · refine thnF (T.item B rfl rfl rfl hc i pins s1 σ1 H1 FX I1 (stat n1) st1 go) fun r s2 ⟨u, hr, h2⟩ => ?_
      subst hr
      refine thnF h2 fun _ s3 ⟨x, H3, I3, r3, y3, st3, n3⟩ => ?_
      have I3' := I3.pinned (stat n3) (T.obj _ _ st3)
      have pg := hg.run _ s3 σ1 H3 x u _ I3' r3 (step x H3 y3)
      rw [hx] at pg
      refine thnF pg fun _ s4 ⟨σ4, H4, I4, q4⟩ => ?_
      have pt := ht.run _ s4 σ4 H4 _ I4 q4
      rw [hx] at pt
      refine thnF pt fun b s5 ⟨H5, I5, q5⟩ => ?_
      have fin : ∀ {s' : Shared} {σ' : St} {H' : Hp}, Inv B (pins ++ pinsAt fp s3.heap) σ' H' s' → N σ' H' → ∃ m, m < n ∧ ∃ i σ' H', Inv B pins σ' H' s' ∧ tn i s'.heap ∧ (∀ b ∈ fp, H' b = none) ∧ W i m σ' H' := fun {s' σ' H'} I' nx => by
        obtain ⟨m', hm, w'⟩ := hN σ' H' nx
        have pin' : ∀ b ∈ fp, ∀ o, s3.heap.get? b = some o → s'.heap.get? b = some o ∧ H' b = none := fun b hb o e =>
          let z := I'.pin (b, o) (List.mem_append_right _ (List.mem_append_right _ (mem_pinsAt hb e)))
          ⟨z.1, z.2.1⟩
        refine ⟨m', hm, i + 1, σ', H', I'.unpinned, T.keep _ _ _ st3 fun b hb o e => (pin' b hb o e).1, fun b hb => ?_, w'⟩
        obtain ⟨o, e, _⟩ := T.obj _ _ st3 b hb
        exact (pin' b hb o e).2
      cases b with
      | false =>
        simp only [Bool.false_eq_true, if_false] at q5 ⊢
        exact fin I5 q5
      | true =>
        simp only [if_true] at q5 ⊢
        have pe := he.run _ s5 σ4 H5 _ I5 q5
        rw [hx] at pe
        refine thnF pe fun z s6 ⟨yv, H6, I6, r6, acc, hD6, hz6, nx⟩ => ?_
        exact app_ok I6 hD6 hz6 r6 fun s7 I7 => fin I7 nx
  | cons g gs ih =>
    intro cs hcs d tg iter ifs c hd hgs hg ht pins σ H s Nx it fp tn J I T st f h R hR
    cases hcs with
    | @cons tg1 iter1 ifs1 _ c1 cs1 pi1 pg1 pt1 hs1 hcs1 =>
    obtain ⟨W, ⟨m0, w0⟩, turn⟩ := h
    have stat : ∀ {H' : Hp}, (∀ b ∈ fp, H' b = none) → ∀ b ∈ fp, FpOk B pins H' b := fun hn b hb => ⟨hn b hb, (f b hb).2⟩
    have hd1 : gens[d + 1]? = some ⟨tg1, iter1, ifs1, 0⟩ := hgs 0
    refine loopM hd hd1 (hs1 B.env) (fun n s' => ∃ i σ' H', Inv B pins σ' H' s' ∧ tn i s'.heap ∧ (∀ b ∈ fp, H' b = none) ∧ W i n σ' H') ?_ m0 ⟨0, σ, H, I, st, fun b hb => (f b hb).1, w0⟩
    rintro n s1 ⟨i, σ1, H1, I1, st1, n1, w1⟩
    rcases turn i n σ1 H1 w1 with ⟨stop, q⟩ | ⟨go, N, hN, step⟩
    · refine thnF (T.done B rfl rfl rfl hc i pins s1 σ1 H1 FX I1 (stat n1) st1 stop) fun r s2 ⟨hr, I2⟩ => ?_
      subst hr
      exact hR s2 σ1 H1 I2 q
    · refine thnF (T.item B rfl rfl rfl hc i pins s1 σ1 H1 FX I1 (stat n1) st1 go) fun r s2 ⟨u, hr, h2⟩ => ?_
      subst hr
      refine thnF h2 fun _ s3 ⟨x, H3, I3, r3, y3, st3, n3⟩ => ?_
      have I3' := I3.pinned (stat n3) (T.obj _ _ st3)
      have pg := hg.run _ s3 σ1 H3 x u _ I3' r3 (step x H3 y3)
      rw [hx] at pg
      refine thnF pg fun _ s4 ⟨σ4, H4, I4, q4⟩ => ?_
      have pt := ht.run _ s4 σ4 H4 _ I4 q4
      rw [hx] at pt
      refine thnF pt fun b s5 ⟨H5, I5, q5⟩ => ?_
      have fin : ∀ {s' : Shared} {σ' : St} {H' : Hp}, Inv B (pins ++ pinsAt fp s3.heap) σ' H' s' → N σ' H' → ∃ m, m < n ∧ ∃ i σ' H', Inv B pins σ' H' s' ∧ tn i s'.heap ∧ (∀ b ∈ fp, H' b = none) ∧ W i m σ' H' := fun {s' σ' H'} I' nx => by
        obtain ⟨m', hm, w'⟩ := hN σ' H' nx
        have pin' : ∀ b ∈ fp, ∀ o, s3.heap.get? b = some o → s'.heap.get? b = some o ∧ H' b = none := fun b hb o e =>
          let z := I'.pin (b, o) (List.mem_append_right _ (List.mem_append_right _ (mem_pinsAt hb e)))
          ⟨z.1, z.2.1⟩
        refine ⟨m', hm, i + 1, σ', H', I'.unpinned, T.keep _ _ _ st3 fun b hb o e => (pin' b hb o e).1, fun b hb => ?_, w'⟩
        obtain ⟨o, e, _⟩ := T.obj _ _ st3 b hb
        exact (pin' b hb o e).2
      cases b with
      | false =>
        simp only [Bool.false_eq_true, if_false] at q5 ⊢
        exact fin I5 q5
      | true =>
        simp only [if_true] at q5 ⊢
        have p1 := pi1.run _ s5 σ4 H5 _ I5 q5
        rw [hx] at p1
        refine thnF p1 fun xv s6 h6 => thnF h6 fun itv s7 h7 => ?_
        obtain ⟨it1, fp1, tn1, J1, H7, e1, I7, T1, st7, f7, q7⟩ := h7
        subst e1
        have lp := ih cs1 hcs1 (d + 1) tg1 iter1 ifs1 c1 hd1 (fun j => by rw [Nat.add_assoc (d + 1) 1 j, Nat.add_comm 1 j]; exact hgs (j + 1)) pg1 pt1 (pins ++ pinsAt fp s3.heap) σ4 H7 s7 N it1 fp1 tn1 J1 I7 T1 st7 f7 q7
          (fun r s' => match r with
              | .ok _ => ∃ m, m < n ∧ ∃ i σ' H', Inv B pins σ' H' s' ∧ tn i s'.heap ∧ (∀ b ∈ fp, H' b = none) ∧ W i m σ' H'
              | .error _ => False) fun s' σ' H' I' nx => fin I' nx
        exact startG hd1 lp (T1.self B.A 0 _ _ _ st7 lp)
section
variable {X : Cx}
theorem lcN_core {pins : List (Addr × Obj)} {s : Shared} {σ : St} {H : Hp} {Q : VK} {elt tg iter : Expr} {ifs : List Expr} {gs : List Comprehension} {cs : List Cla} {c : Cla} {scope : Scope} {own : List (Str × Nat)} {pos pos' : Pos} {te : TE} {use : Option (Value → Sem Unit)} {Qf : Value → Shared → Prop}
    (hc : X.calm = true) (hN : X.N.Nodup) (I : Inv X pins σ H s) (hi : PI X tg iter c.wi) (ok : BlkOk X.N X.env.scope scope own) (hs : ∀ x, foldedSetIterable iter X.env x = pure x)
    (hb : ∀ (s : Shared) (H : Hp) (C : Addr) (cl : List (Str × Addr)) (fp : List Addr), PG (X.blk s H scope (compEnvC scope cl C X.env) fp) tg c.g ∧ PTs (X.blk s H scope (compEnvC scope cl C X.env) fp) ifs c.tt ∧ PE (X.blk s H scope (compEnvC scope cl C X.env) fp) elt te ∧ ClaOk (X.blk s H scope (compEnvC scope cl C X.env) fp) gs cs)
    (h : tLcN c cs te (own.map (·.2)) σ H Q)
    (hRR : ∀ D C s' m H', Inv X pins σ H' s' → Q (.ref D) H' → s'.heap.Ns C m → FpOk X pins H' C → compPost (model X.prog X.w) X.A X.xe use Qf (.ref D) C (.ok .next) s') :
    wpAny (model X.prog X.w) X.A (comprehension (.ListComp elt (⟨tg, iter, ifs, 0⟩ :: gs) scope pos) scope X.env pos' (newList []) false (eval iter X.env) use) Qf X.xe s := by
  have hfree : ∀ y ∈ scope.names, y.2 = .free → ∃ c, X.env.cells.lookup y.1 = some c := fun y hy e => by
    rcases ok.free y hy e with k | k
    · exact I.ok.has _ (.inl k)
    · exact I.ok.has _ (.inr k)
  refine wpAny_comprehension_free (use := use) rfl hs (closure_ok hfree) ok.kind (fun y hy e => by rw [ok.uniq y hy, e])
    (thn (hi.run pins s σ H _ I h) fun xv s1 hx => thn hx fun itv s2 h2 => ?_)
  obtain ⟨it, fp, tn, J, H2, e, I2, T, st2, f2, q⟩ := h2
  subst e
  refine wpAny_newObj_type (newEnv_comp ?_) (by show 0 ≤ sizeLine; decide)
  generalize hD : s2.heap.objs.size = D
  have hDn : H2 D = none := I2.hok.fresh (Nat.le_of_eq hD)
  have q := q D hDn
  generalize hs3 : ({ s2 with heap := s2.heap.push { cls := .type "list", data := .seq ([] : List Value).toArray } } : Shared) = s3
  have I3 : Inv X pins σ (upd H2 D (.lst [])) s3 := by
    rw [← hs3]
    refine I2.laid (t' := s2.toks) (fun b o e => Heap.get?_push_of_some _ e) (Nat.le_of_eq hD) ⟨Nat.zero_le _, [], 0, .nil, ?_⟩
    rw [← hD]
    exact Heap.get?_push_size _ rfl
  have h3 : s3.heap = s2.heap.push { cls := .type "list", data := .seq ([] : List Value).toArray } := by rw [← hs3]
  have sz : ∀ b ∈ fp, b < s2.heap.objs.size := fun b hb => by
    obtain ⟨o, e, _⟩ := T.obj _ _ st2 b hb
    exact Heap.lt_size e
  have f3 : ∀ b ∈ fp, FpOk X pins (upd H2 D (.lst [])) b ∧ b < s3.heap.objs.size := fun b hb => by
    have hlt := sz b hb
    refine ⟨⟨?_, (f2 b hb).2⟩, by rw [h3, Heap.size_push]; exact Nat.lt_succ_of_lt hlt⟩
    rw [upd_ne (by rw [← hD]; exact Nat.ne_of_lt hlt)]
    exact (f2 b hb).1
  have st3 : tn 0 s3.heap := T.keep _ _ _ st2 fun b _ o e => by rw [h3]; exact Heap.get?_push_of_some _ e
  have I4 := block_start I3 ok hN f3
  obtain ⟨pg, pt, pe, pc⟩ := hb s3 (upd H2 D (.lst [])) s3.heap.objs.size (cellsFrom (s3.heap.objs.size + 1) scope.names (cloFrom X.env.cells scope.names [])) fp
  show codeAny _ _ (.compStart (.ListComp elt (⟨tg, iter, ifs, 0⟩ :: gs) scope pos) 0 (.ref it) (.ref D) (compEnvC scope (cellsFrom (s3.heap.objs.size + 1) scope.names (cloFrom X.env.cells scope.names [])) s3.heap.objs.size X.env)) (compPost (model X.prog X.w) X.A X.xe use Qf (.ref D) s3.heap.objs.size) { s3 with heap := pushCells (s3.heap.push { cls := .type "dict", data := .dict #[] }) scope.names }
  have nfp : ∀ b ∈ fp, (upd H2 D (.lst [])) b = none := fun b hb => (f3 b hb).1.1
  generalize hce : compEnvC scope (cellsFrom (s3.heap.objs.size + 1) scope.names (cloFrom X.env.cells scope.names [])) s3.heap.objs.size X.env = ce at I4 pg pt pe pc ⊢
  have cL : ce.locals = s3.heap.objs.size := by subst hce; rfl
  generalize hH3 : upd H2 D (.lst []) = H3 at I3 I4 pg pt pe pc q nfp f3
  generalize hs4 : ({ s3 with heap := pushCells (s3.heap.push { cls := .type "dict", data := .dict #[] }) scope.names } : Shared) = s4 at I4 ⊢
  have st4 : tn 0 s4.heap := T.keep _ _ _ st3 fun b _ o e => by rw [← hs4]; exact pushCells_keeps _ _ _ _ (Heap.get?_push_of_some _ e)
  have stat : ∀ b ∈ fp, FpOk (X.blk s3 H3 scope ce fp) [] H3 b := fun b hb =>
    ⟨nfp b hb, (I4.ok.exf b hb).1, I4.ok.exfs b hb, .inl hb, fun x c e => (I4.ok.exf b hb).2 x c e, fun p hp => absurd (show p ∈ ([] : List (Addr × Obj)) ++ [] from hp) (by simp)⟩
  have loop : codeAny (model X.prog X.w) X.A (.compLoop (.ListComp elt (⟨tg, iter, ifs, 0⟩ :: gs) scope pos) 0 (.ref it) (.ref D) ce) (compPost (model X.prog X.w) X.A X.xe use Qf (.ref D) s3.heap.objs.size) s4 := by
    refine claLoop (B := X.blk s3 H3 scope ce fp) rfl hc pe gs cs pc 0 tg iter ifs c rfl (fun j => by rw [Nat.zero_add, Nat.add_comm]; rfl) pg pt [] (wipe σ (own.map (·.2))) H3 s4 _ it fp tn J I4 T st4 stat q _ fun s6 σ6 H6 I6 q6 => ?_
    have I7 : Inv X pins σ H6 s6 := I3.call' (ch := fp) I6.os I6.base I6.hok I6.bare fun b hb => ⟨(f3 b hb).1.2.2.2.1, (f3 b hb).1.2.1, (f3 b hb).1.2.2.2.2.1, (f3 b hb).1.2.2.2.2.2⟩
    have nC : H6 s3.heap.objs.size = none := by
      have z : H6 ce.locals = none := I6.free
      rw [cL] at z
      exact z
    obtain ⟨m, hn, _⟩ := I6.loc
    have hn : s6.heap.Ns ce.locals m := hn
    rw [cL] at hn
    exact hRR D s3.heap.objs.size s6 m H6 I7 q6 hn (I3.fpOk (Nat.le_refl _) nC)
  exact codeAny_compStart_list loop (T.self X.A 0 _ _ _ st4 loop)
variable {elt tg iter : Expr} {ifs : List Expr} {gs : List Comprehension} {cs : List Cla} {c : Cla} {scope : Scope} {own : List (Str × Nat)} {pos spos py : Pos} {te : TE}
theorem pe_lcN (hc : X.calm = true) (hN : X.N.Nodup) (hi : PI X tg iter c.wi) (ok : BlkOk X.N X.env.scope scope own) (hs : ∀ x, foldedSetIterable iter X.env x = pure x)
    (hb : ∀ (s : Shared) (H : Hp) (C : Addr) (cl : List (Str × Addr)) (fp : List Addr), PG (X.blk s H scope (compEnvC scope cl C X.env) fp) tg c.g ∧ PTs (X.blk s H scope (compEnvC scope cl C X.env) fp) ifs c.tt ∧ PE (X.blk s H scope (compEnvC scope cl C X.env) fp) elt te ∧ ClaOk (X.blk s H scope (compEnvC scope cl C X.env) fp) gs cs) :
    PE X (.ListComp elt (⟨tg, iter, ifs, 0⟩ :: gs) scope pos) (tLcN c cs te (own.map (·.2))) := by
  refine ⟨fun pins s σ H Q I h => ?_⟩
  rw [eval_ListComp]
  refine lcN_core hc hN I hi ok hs hb h fun D C s' m H' I' q hn f => ⟨m, hn, fun h'' sb => ?_⟩
  obtain ⟨f0, f1, f2, f3, f4, f5⟩ := f
  exact ⟨.ref D, H', I'.turned (t' := s'.toks) (fun b o hb e => (sb.2 b hb).trans e) f0 f1 f3 f4 f5, rfl, q⟩
theorem ps_setLcN {i : Nat} {y : Str} (hc : X.calm = true) (hN : X.N.Nodup) (hy : X.N[i]? = some y) (hyl : X.env.scope.names.lookup y = some .local)
    (hsw : swapsWith (.ListComp elt (⟨tg, iter, ifs, 0⟩ :: gs) scope pos) (some (.Name y py)) spos.line X.env = pure true) (hi : PI X tg iter c.wi) (ok : BlkOk X.N X.env.scope scope own) (hs : ∀ x, foldedSetIterable iter X.env x = pure x)
    (hb : ∀ (s : Shared) (H : Hp) (C : Addr) (cl : List (Str × Addr)) (fp : List Addr), PG (X.blk s H scope (compEnvC scope cl C X.env) fp) tg c.g ∧ PTs (X.blk s H scope (compEnvC scope cl C X.env) fp) ifs c.tt ∧ PE (X.blk s H scope (compEnvC scope cl C X.env) fp) elt te ∧ ClaOk (X.blk s H scope (compEnvC scope cl C X.env) fp) gs cs) :
    PS X (.Assign [.Name y py] (.ListComp elt (⟨tg, iter, ifs, 0⟩ :: gs) scope pos) spos) (tAsg (tLcN c cs te (own.map (·.2))) (gName i)) := by
  refine ⟨fun pins s σ H D I h => ?_⟩
  rw [exec_Assign_Name_used _ _ _ _ hsw]
  refine wpAny_bind (wpAny_standAt (wpAny_bind ?_))
  show wpAny _ X.A (do let _ ← comprehension (.ListComp elt (⟨tg, iter, ifs, 0⟩ :: gs) scope pos) scope X.env (firstIterPos (⟨tg, iter, ifs, 0⟩ :: gs) pos) (newList []) false (eval iter X.env) (some (assign (.Name y py) X.env))) _ _ s
  have h : tLcN c cs te (own.map (·.2)) σ H (fun x H1 => gName i x σ H1 D.nx) := h
  refine wpAny_bind (thn (lcN_core (Qf := fun _ s' => SP X pins D .next s') hc hN I hi ok hs hb h fun L C s' m H' I' q hn f => ?_) fun _ s' hq => wpAny_pure (wpAny_pure hq))
  show wpAny _ _ (assign (.Name y py) X.env (.ref L)) _ _ _
  refine wpAny_assign_Name (store_ok2 (v := V.ref L) I' hN hy (.inl hyl) rfl (fun s2 I2 ⟨a, sb, ha⟩ => ?_) (.inr hyl))
  obtain ⟨f0, f1, f2, f3, f4, f5⟩ := f
  have haC : C ≠ a := by
    rcases ha with z | z
    · rw [z]; exact f1
    · exact fun e => f4 y a z e.symm
  refine ⟨m, hn.sameBut sb haC, fun h3 sb3 => ?_⟩
  exact ⟨_, H', I2.turned (t' := s2.toks) (fun b o hb e => (sb3.2 b hb).trans e) f0 f1 f3 f4 f5, q⟩
end
end L2

namespace MP
open PySem PySem.Spec PyProof.Rows L2

abbrev WF : Wish := fun _ _ _ => False
section
variable {K : PySem.W.Frag} {G H G' H' : Hp} {σ σ' : L2.St} {ρ ρ' : Env} {a b : Addr} {d : D}
/-! ### alike frames -/
def holds (ρ : Env) (i : Nat) (d : D) : Prop := ρ[i]? = some (.ow d) ∨ ρ[i]? = some (.lk d)
structure Alike (ρ ρ' : Env) : Prop where
  len : ρ'.length = ρ.length
  fr : ∀ (i : Nat) (d : D), ρ'[i]? = some (.fr d) → ρ[i]? = some (.fr d)
  ow : ∀ (i : Nat) (d : D), holds ρ' i d → holds ρ i d
theorem Good.alike (g : Good K G H σ ρ) (x : Alike ρ ρ') : Good K G H σ ρ' :=
  ⟨g.len.trans x.len.symm, g.sub, fun i d h => g.fr i d (x.fr i d h), fun i d h => g.ow i d (x.ow i d h), fun i j a d e h1 h2 e1 e2 => g.sep i j a d e (x.ow i d h1) (x.ow j e h2) e1 e2⟩
theorem lock_at {i j : Nat} : (lock ρ i)[j]? = ρ[j]? ∨ (j = i ∧ ∃ d, ρ[i]? = some (.ow d) ∧ (lock ρ i)[j]? = some (.lk d)) := by
  unfold lock
  split
  · rename_i d h
    by_cases q : i = j
    · subst q
      refine .inr ⟨rfl, d, h, ?_⟩
      rw [List.getElem?_set_self]
      exact (List.getElem?_eq_some_iff.mp h).1
    · exact .inl (List.getElem?_set_ne q)
  · exact .inl rfl
theorem lock_len {i : Nat} : (lock ρ i).length = ρ.length := by
  unfold lock
  split
  · rw [List.length_set]
  · rfl
theorem Alike.refl : Alike ρ ρ := ⟨rfl, fun _ _ h => h, fun _ _ h => h⟩
theorem alike_lock (i : Nat) : Alike ρ (lock ρ i) := by
  refine ⟨lock_len, fun j d h => ?_, fun j d h => ?_⟩
  · rcases lock_at (ρ := ρ) (i := i) (j := j) with q | ⟨rfl, e, h1, h2⟩
    · rw [q] at h; exact h
    · rw [h2] at h; cases h
  · rcases lock_at (ρ := ρ) (i := i) (j := j) with q | ⟨rfl, e, h1, h2⟩
    · unfold holds at h ⊢
      rw [q] at h; exact h
    · unfold holds at h ⊢
      rw [h2] at h
      rcases h with h | h <;> cases h
      exact .inl h1
theorem unlock_at {ρ0 : Env} {i j : Nat} : (unlock ρ0 i ρ)[j]? = ρ[j]? ∨ (j = i ∧ ∃ d d0, ρ0[i]? = some (.ow d0) ∧ ρ[i]? = some (.lk d) ∧ (unlock ρ0 i ρ)[j]? = some (.ow d)) := by
  unfold unlock
  split
  · rename_i d0 d h0 h
    by_cases q : i = j
    · subst q
      refine .inr ⟨rfl, d, d0, h0, h, ?_⟩
      rw [List.getElem?_set_self]
      exact (List.getElem?_eq_some_iff.mp h).1
    · exact .inl (List.getElem?_set_ne q)
  · exact .inl rfl
theorem unlock_len {ρ0 : Env} {i : Nat} : (unlock ρ0 i ρ).length = ρ.length := by
  unfold unlock
  split
  · rw [List.length_set]
  · rfl
theorem alike_unlock (ρ0 : Env) (i : Nat) : Alike ρ (unlock ρ0 i ρ) := by
  refine ⟨unlock_len, fun j d h => ?_, fun j d h => ?_⟩
  · rcases unlock_at (ρ := ρ) (ρ0 := ρ0) (i := i) (j := j) with q | ⟨rfl, e, d0, h0, h1, h2⟩
    · rw [q] at h; exact h
    · rw [h2] at h; cases h
  · rcases unlock_at (ρ := ρ) (ρ0 := ρ0) (i := i) (j := j) with q | ⟨rfl, e, d0, h0, h1, h2⟩
    · unfold holds at h ⊢
      rw [q] at h; exact h
    · unfold holds at h ⊢
      rw [h2] at h
      rcases h with h | h <;> cases h
      exact .inr h1
def itSlot : It → Option Nat
  | .t (.b i) => some i
  | .en (.b i) => some i
  | _ => none
theorem lockT_eq (it : It) : lockT it ρ = match itSlot it with | some i => lock ρ i | none => ρ := by
  unfold lockT itSlot
  split <;> simp_all
theorem unlockT_eq (it : It) (ρ0 : Env) : unlockT it ρ0 ρ = match itSlot it with | some i => unlock ρ0 i ρ | none => ρ := by
  unfold unlockT itSlot
  split <;> simp_all
theorem alike_lockT (it : It) : Alike ρ (lockT it ρ) := by
  rw [lockT_eq]
  split
  · exact alike_lock _
  · exact .refl
theorem alike_unlockT (it : It) (ρ0 : Env) : Alike ρ (unlockT it ρ0 ρ) := by
  rw [unlockT_eq]
  split
  · exact alike_unlock _ _
  · exact .refl

/-! ### frames with one object D of the block's own -/
structure FrD (Z : Addr) (G H : Hp) (σ : L2.St) (ρ : Env) (G' H' : Hp) (σ' : L2.St) (ρ' : Env) : Prop where
  gg : Sub G G'
  keep : ∀ a o, H a = some o → a ≠ Z → ¬ OwnAt σ ρ a → H' a = some o
  dom : ∀ a, H a ≠ none → H' a ≠ none
  new : ∀ a, G' a ≠ none → G a ≠ none ∨ H a = none ∨ OwnAt σ ρ a
  own : ∀ a, OwnAt σ' ρ' a → OwnAt σ ρ a ∨ H a = none
  lk : ∀ (i : Nat) (d : D), ρ'[i]? = some (.lk d) → (∃ d', ρ[i]? = some (.lk d')) ∧ σ'[i]? = σ[i]?
theorem Fr.toD (f : Fr G H σ ρ G' H' σ' ρ') (Z : Addr) : FrD Z G H σ ρ G' H' σ' ρ' := ⟨f.gg, fun a o h _ n => f.keep a o h n, f.dom, f.new, f.own, f.lk⟩
theorem FrD.trans {Z : Addr} {G1 H1 G2 H2 : Hp} {σ1 σ2 : L2.St} {ρ1 ρ2 : Env} (x : FrD Z G H σ ρ G1 H1 σ1 ρ1) (y : FrD Z G1 H1 σ1 ρ1 G2 H2 σ2 ρ2) : FrD Z G H σ ρ G2 H2 σ2 ρ2 := by
  have none1 : ∀ a, H1 a = none → H a = none := fun a h => Classical.byContradiction fun n => x.dom a n h
  refine ⟨x.gg.trans y.gg, fun a o h z n => ?_, fun a h => y.dom a (x.dom a h), fun a h => ?_, fun a h => ?_, fun i d h => ?_⟩
  · refine y.keep a o (x.keep a o h z n) z fun q => ?_
    rcases x.own a q with z | z
    · exact n z
    · rw [h] at z; cases z
  · rcases y.new a h with z | z | z
    · exact x.new a z
    · exact .inr (.inl (none1 a z))
    · rcases x.own a z with z | z
      · exact .inr (.inr z)
      · exact .inr (.inl z)
  · rcases y.own a h with z | z
    · exact x.own a z
    · exact .inr (none1 a z)
  · obtain ⟨⟨d', h1⟩, e1⟩ := y.lk i d h
    obtain ⟨h2, e2⟩ := x.lk i d' h1
    exact ⟨h2, e1.trans e2⟩
/-- D holds the list so far, and nobody else knows of it -/
structure DOk (Z : Addr) (G H : Hp) (σ : L2.St) (ρ : Env) (vs : List V) : Prop where
  at_ : H Z = some (.lst vs)
  fz : G Z = none
  slot : ∀ (i : Nat) (d : D), holds ρ i d → σ[i]? ≠ some (some (.ref Z))
theorem DOk.noOwn {Z : Addr} {vs : List V} (k : DOk Z G H σ ρ vs) : ¬ OwnAt σ ρ Z := fun ⟨i, d, h1, h2⟩ => k.slot i d (.inl h1) h2
theorem DOk.fr {Z : Addr} {vs : List V} (k : DOk Z G H σ ρ vs) (f : Fr G H σ ρ G' H' σ' ρ') : DOk Z G' H' σ' ρ' vs := by
  refine ⟨f.keep _ _ k.at_ k.noOwn, ?_, fun i d h e => ?_⟩
  · cases q : G' Z with
    | none => rfl
    | some u =>
      rcases f.new Z (by rw [q]; simp) with z | z | z
      · exact absurd k.fz z
      · rw [k.at_] at z; cases z
      · exact absurd z k.noOwn
  · rcases h with h | h
    · rcases f.own Z ⟨i, d, h, e⟩ with z | z
      · exact k.noOwn z
      · rw [k.at_] at z; cases z
    · obtain ⟨⟨d', h1⟩, e1⟩ := f.lk i d h
      rw [e1] at e
      exact k.slot i d' (.inr h1) e
theorem DOk.alike {Z : Addr} {vs : List V} (k : DOk Z G H σ ρ vs) (x : Alike ρ ρ') : DOk Z G H σ ρ' vs := ⟨k.at_, k.fz, fun i d h => k.slot i d (x.ow i d h)⟩
theorem DOk.put {Z : Addr} {vs ws : List V} (k : DOk Z G H σ ρ vs) : DOk Z G (upd H Z (.lst ws)) σ ρ ws := ⟨upd_same, k.fz, k.slot⟩
theorem Own.put {Z : Addr} {o : HO} (w : Own K G H a d) (n : a ≠ Z) : Own K G (upd H Z o) a d := by
  cases w with
  | lst h r => exact .lst (by rw [upd_ne n]; exact h) r
theorem Good.put {Z : Addr} {vs : List V} {o : HO} (g : Good K G H σ ρ) (k : DOk Z G H σ ρ vs) : Good K G (upd H Z o) σ ρ := by
  refine ⟨g.len, fun a u e => ?_, g.fr, fun i d h => ?_, g.sep⟩
  · have n : a ≠ Z := fun q => by rw [q, k.fz] at e; cases e
    rw [upd_ne n]
    exact g.sub a u e
  · obtain ⟨a, h1, h2, h3⟩ := g.ow i d h
    exact ⟨a, h1, h2, h3.put fun q => k.slot i d h (by rw [h1, q])⟩
theorem FrD.put {Z : Addr} {o : HO} (h : H Z ≠ none) : FrD Z G H σ ρ G (upd H Z o) σ ρ := by
  refine ⟨Sub.refl _, fun a u e n _ => by rw [upd_ne n]; exact e, fun a n => ?_, fun a h => .inl h, fun a h => .inl h, fun i d h => ⟨⟨d, h⟩, rfl⟩⟩
  by_cases q : a = Z
  · subst q; rw [upd_same]; simp
  · rw [upd_ne q]; exact n

/-! ### locks taken and given back -/
theorem OwnAt.lockT {it : It} (h : OwnAt σ (lockT it ρ) a) : OwnAt σ ρ a := by
  obtain ⟨i, d, h1, h2⟩ := h
  rw [lockT_eq] at h1
  split at h1
  · rename_i j _
    rcases lock_at (ρ := ρ) (i := j) (j := i) with q | ⟨rfl, e, _, q⟩
    · rw [q] at h1; exact ⟨i, d, h1, h2⟩
    · rw [q] at h1; cases h1
  · exact ⟨i, d, h1, h2⟩
theorem unlock_own {it : It} {ρ0 : Env} (f : ∀ (i : Nat) (d : D), ρ'[i]? = some (.lk d) → (∃ d', (MP.lockT it ρ)[i]? = some (.lk d')) ∧ σ'[i]? = σ[i]?) (h : OwnAt σ' (unlockT it ρ ρ') a) : OwnAt σ' ρ' a ∨ OwnAt σ ρ a := by
  obtain ⟨i, d, h1, h2⟩ := h
  rw [unlockT_eq] at h1
  split at h1
  · rename_i j _
    rcases unlock_at (ρ := ρ') (ρ0 := ρ) (i := j) (j := i) with q | ⟨rfl, e, d0, q0, q1, q2⟩
    · rw [q] at h1; exact .inl ⟨i, d, h1, h2⟩
    · obtain ⟨_, e1⟩ := f i e q1
      rw [e1] at h2
      exact .inr ⟨i, d0, q0, h2⟩
  · exact .inl ⟨i, d, h1, h2⟩
theorem unlock_lk {it : It} (f : ∀ (i : Nat) (d : D), ρ'[i]? = some (.lk d) → (∃ d', (MP.lockT it ρ)[i]? = some (.lk d')) ∧ σ'[i]? = σ[i]?) {i : Nat} (h : (unlockT it ρ ρ')[i]? = some (.lk d)) : (∃ d', ρ[i]? = some (.lk d')) ∧ σ'[i]? = σ[i]? := by
  rw [unlockT_eq] at h
  rw [lockT_eq] at f
  cases qs : itSlot it with
  | none =>
    rw [qs] at h f
    exact f i d h
  | some j =>
    rw [qs] at h f
    replace h : (unlock ρ j ρ')[i]? = some (.lk d) := h
    replace f : ∀ (i : Nat) (d : D), ρ'[i]? = some (.lk d) → (∃ d', (lock ρ j)[i]? = some (.lk d')) ∧ σ'[i]? = σ[i]? := f
    rcases unlock_at (ρ := ρ') (ρ0 := ρ) (i := j) (j := i) with q | ⟨rfl, e, d0, q0, q1, q2⟩
    · rw [q] at h
      obtain ⟨⟨d', h1⟩, e1⟩ := f i d h
      refine ⟨?_, e1⟩
      rcases lock_at (ρ := ρ) (i := j) (j := i) with z | ⟨rfl, d0, z0, z1⟩
      · rw [z] at h1; exact ⟨d', h1⟩
      · -- then unlock would have turned it
        exfalso
        have : (unlock ρ i ρ')[i]? = some (.ow d) := by
          unfold unlock
          rw [z0, h]
          show (ρ'.set i (.ow d))[i]? = _
          rw [List.getElem?_set_self]
          exact (List.getElem?_eq_some_iff.mp h).1
        rw [this] at q
        rw [h] at q
        cases q
    · rw [q2] at h; cases h
theorem Fr.unlock {it : It} (f : Fr G H σ (MP.lockT it ρ) G' H' σ' ρ') : Fr G H σ ρ G' H' σ' (unlockT it ρ ρ') := by
  refine ⟨f.gg, fun a o h n => f.keep a o h fun q => n q.lockT, f.dom, fun a h => ?_, fun a h => ?_, fun i d h => unlock_lk f.lk h⟩
  · rcases f.new a h with z | z | z
    · exact .inl z
    · exact .inr (.inl z)
    · exact .inr (.inr z.lockT)
  · rcases unlock_own (ρ0 := ρ) f.lk h with z | z
    · rcases f.own a z with z | z
      · exact .inl z.lockT
      · exact .inr z
    · exact .inl z
theorem FrD.unlock {Z : Addr} {it : It} (f : FrD Z G H σ (MP.lockT it ρ) G' H' σ' ρ') : FrD Z G H σ ρ G' H' σ' (unlockT it ρ ρ') := by
  refine ⟨f.gg, fun a o h z n => f.keep a o h z fun q => n q.lockT, f.dom, fun a h => ?_, fun a h => ?_, fun i d h => unlock_lk f.lk h⟩
  · rcases f.new a h with z | z | z
    · exact .inl z
    · exact .inr (.inl z)
    · exact .inr (.inr z.lockT)
  · rcases unlock_own (ρ0 := ρ) f.lk h with z | z
    · rcases f.own a z with z | z
      · exact .inl z.lockT
      · exact .inr z
    · exact .inl z

/-! ### what is walked -/
def Keep (S : Addr → Prop) (H H' : Hp) : Prop := ∀ a o, S a → H a = some o → H' a = some o
structure Walk (K : PySem.W.Frag) (G H : Hp) (S : Addr → Prop) (J : L2.It) (ds : List D) : Prop where
  go : ∀ (i : Nat) (d : D), ds[i]? = some d → ∀ G' H', Sub G G' → Sub G' H' → Keep S H H' → J.go i H' ∧ ∀ x H'', J.yld i H' x H'' → ∃ G'', Ext G' H' G'' H'' ∧ Rep K G'' x d
  stop : ∀ G' H', Sub G G' → Sub G' H' → Keep S H H' → J.stop ds.length H'
def LkAt (σ : L2.St) (ρ : Env) (a : Addr) : Prop := ∃ (i : Nat) (d : D), ρ[i]? = some (.lk d) ∧ σ[i]? = some (some (.ref a))
/-- of what a for walks -/
def tI (cx : Cxt) (K : PySem.W.Frag) (W : Wish) (it : It) : TI := fun σ H R => ∃ G ρ, Good K G H σ ρ ∧ Ev K W G H σ ρ (evIt cx it ρ) fun ds G' H' ρ' => ∀ J S, (∀ a, S a → LkAt σ (lockT it ρ') a) → Walk K G' H' S J ds → R J H'
theorem LkAt.there (g : Good K G H σ ρ) (h : LkAt σ ρ a) : H a ≠ none := by
  obtain ⟨i, d, h1, h2⟩ := h
  obtain ⟨b, e1, _, o⟩ := g.ow i d (.inr h1)
  rw [h2] at e1; cases e1
  obtain ⟨u, hu⟩ := o.there
  rw [hu]; simp
theorem LkAt.noOwn (g : Good K G H σ ρ) (h : LkAt σ ρ a) : ¬ OwnAt σ ρ a := fun ⟨j, e, h3, h4⟩ => by
  obtain ⟨i, d, h1, h2⟩ := h
  have := g.sep i j a d e (.inr h1) (.inl h3) h2 h4
  subst this
  rw [h1] at h3; cases h3
theorem LkAt.noZ {Z : Addr} {vs : List V} (k : DOk Z G H σ ρ vs) (h : LkAt σ ρ a) : a ≠ Z := fun q => by
  obtain ⟨i, d, h1, h2⟩ := h
  exact k.slot i d (.inr h1) (by rw [h2, q])
end

/-! ### targets -/
mutual
def Tg.vars : Tg → List Nat
  | .nm i => [i]
  | .tp ts => Tg.varsL ts
def Tg.varsL : List Tg → List Nat
  | [] => []
  | t :: ts => t.vars ++ Tg.varsL ts
end
structure OutS (own : List Nat) (σ σ' : L2.St) : Prop where
  len : σ'.length = σ.length
  at_ : ∀ i, i ∉ own → σ'[i]? = σ[i]?
theorem OutS.refl {own : List Nat} {σ : L2.St} : OutS own σ σ := ⟨rfl, fun _ _ => rfl⟩
theorem OutS.trans {own : List Nat} {σ σ1 σ2 : L2.St} (x : OutS own σ σ1) (y : OutS own σ1 σ2) : OutS own σ σ2 := ⟨y.len.trans x.len, fun i h => (y.at_ i h).trans (x.at_ i h)⟩
theorem OutS.mono {v own : List Nat} {σ σ1 : L2.St} (x : OutS v σ σ1) (h : ∀ i ∈ v, i ∈ own) : OutS own σ σ1 := ⟨x.len, fun i n => x.at_ i fun q => n (h i q)⟩
def tG (K : PySem.W.Frag) (tg : Tg) : TG := fun v σ H Q => ∃ G ρ d ρ', Good K G H σ ρ ∧ Rep K G v d ∧ tg.asg d ρ = some ρ' ∧ ∀ σ', Good K G H σ' ρ' → Fr G H σ ρ G H σ' ρ' → OutS tg.vars σ σ' → Q σ' H
def tGs (K : PySem.W.Frag) (tgs : List Tg) : TGs := fun vs σ H Q => ∃ G ρ ds ρ', Good K G H σ ρ ∧ RepL K G vs ds ∧ Tg.asgs tgs ds ρ = some ρ' ∧ ∀ σ', Good K G H σ' ρ' → Fr G H σ ρ G H σ' ρ' → OutS (Tg.varsL tgs) σ σ' → Q σ' H
section
variable {K : PySem.W.Frag} {G H : Hp} {σ : L2.St} {ρ : Env}
/-- a slot is set -/
theorem Good.setFr (g : Good K G H σ ρ) {i : Nat} {v : V} {d : D} (r : Rep K G v d) : Good K G H (σ.set i (some v)) (ρ.set i (.fr d)) := by
  refine ⟨by rw [List.length_set, List.length_set]; exact g.len, g.sub, fun j e h => ?_, fun j e h => ?_, fun j l a e f h1 h2 e1 e2 => ?_⟩
  · rw [List.getElem?_set] at h
    by_cases q : i = j
    · subst q
      by_cases ql : i < ρ.length
      · rw [if_pos rfl, if_pos ql] at h
        cases h
        exact ⟨v, by rw [List.getElem?_set_self (by rw [g.len]; exact ql)], r⟩
      · rw [if_pos rfl, if_neg ql] at h; cases h
    · rw [if_neg q] at h
      rw [List.getElem?_set_ne q]
      exact g.fr j e h
  · by_cases q : i = j
    · subst q
      rw [List.getElem?_set] at h
      by_cases ql : i < ρ.length
      · rw [if_pos rfl, if_pos ql] at h; rcases h with h | h <;> cases h
      · rw [if_pos rfl, if_neg ql] at h; rcases h with h | h <;> cases h
    · rw [List.getElem?_set_ne q] at h
      rw [List.getElem?_set_ne q]
      exact g.ow j e h
  · have nj : i ≠ j := fun q => by
      subst q
      rw [List.getElem?_set] at h1
      by_cases ql : i < ρ.length
      · rw [if_pos rfl, if_pos ql] at h1; rcases h1 with h | h <;> cases h
      · rw [if_pos rfl, if_neg ql] at h1; rcases h1 with h | h <;> cases h
    have nl : i ≠ l := fun q => by
      subst q
      rw [List.getElem?_set] at h2
      by_cases ql : i < ρ.length
      · rw [if_pos rfl, if_pos ql] at h2; rcases h2 with h | h <;> cases h
      · rw [if_pos rfl, if_neg ql] at h2; rcases h2 with h | h <;> cases h
    rw [List.getElem?_set_ne nj] at h1 e1
    rw [List.getElem?_set_ne nl] at h2 e2
    exact g.sep j l a e f h1 h2 e1 e2
theorem fr_set {i : Nat} {x : Option V} {d : D} : Fr G H σ ρ G H (σ.set i x) (ρ.set i (.fr d)) := by
  refine ⟨Sub.refl _, fun _ _ h _ => h, fun _ h => h, fun _ h => .inl h, fun a ⟨j, e, h1, h2⟩ => ?_, fun j e h => ?_⟩
  · by_cases q : i = j
    · subst q
      rw [List.getElem?_set] at h1
      by_cases ql : i < ρ.length
      · rw [if_pos rfl, if_pos ql] at h1; cases h1
      · rw [if_pos rfl, if_neg ql] at h1; cases h1
    · rw [List.getElem?_set_ne q] at h1 h2
      exact .inl ⟨j, e, h1, h2⟩
  · by_cases q : i = j
    · subst q
      rw [List.getElem?_set] at h
      by_cases ql : i < ρ.length
      · rw [if_pos rfl, if_pos ql] at h; cases h
      · rw [if_pos rfl, if_neg ql] at h; cases h
    · rw [List.getElem?_set_ne q] at h
      exact ⟨⟨e, h⟩, List.getElem?_set_ne q⟩
theorem cg_name {X : Cx} {i : Nat} {x : Str} {pos : Pos} (h : PG X (.Name x pos) (gName i)) : PG X (.Name x pos) (tG X.K (.nm i)) := ⟨fun pins s σ H v u Q I r ⟨G, ρ, d, ρ', g, rp, e, k⟩ => by
  refine h.run pins s σ H v u Q I r ?_
  rw [Tg.asg] at e
  split at e
  · cases e
    refine k _ (g.setFr rp) fr_set ⟨List.length_set, fun j n => ?_⟩
    exact List.getElem?_set_ne fun q => n (by rw [q]; simp [Tg.vars])
  · cases e⟩
theorem cgs_nil {X : Cx} : PGs X [] (tGs X.K []) := ⟨fun pins s σ H vs us Q I r ⟨G, ρ, ds, ρ', g, rp, e, k⟩ => by
  cases ds with
  | nil =>
    cases rp
    cases (show some ρ = some ρ' from e)
    exact pgs_nil.run pins s σ H [] us Q I r ⟨rfl, k σ g .refl .refl⟩
  | cons d ds => cases e⟩
theorem cgs_cons {X : Cx} {e : Expr} {es : List Expr} {t : Tg} {ts : List Tg} (h1 : PG X e (tG X.K t)) (h2 : PGs X es (tGs X.K ts))
    (hs : (assignEach (e :: es) X.env).map (·.2) = assign e X.env :: (assignEach es X.env).map (·.2)) : PGs X (e :: es) (tGs X.K (t :: ts)) := ⟨fun pins s σ H vs us Q I r ⟨G, ρ, ds, ρ', g, rp, e, k⟩ => by
  cases ds with
  | nil => cases e
  | cons d ds =>
    cases rp with
    | cons r1 rs =>
      have e : ((t.asg d ρ).bind fun ρ1 => Tg.asgs ts ds ρ1) = some ρ' := e
      rw [Option.bind_eq_some_iff] at e
      obtain ⟨ρ1, e1, e2⟩ := e
      refine (pgs_cons h1 h2 hs).run pins s σ H _ us Q I r ⟨_, _, rfl, G, ρ, d, ρ1, g, r1, e1, fun σ1 g1 f1 o1 => ⟨G, ρ1, ds, ρ', g1, rs, e2, fun σ2 g2 f2 o2 => ?_⟩⟩
      refine k σ2 g2 (f1.trans f2) ?_
      exact (o1.mono fun i h => by rw [Tg.varsL]; exact List.mem_append_left _ h).trans (o2.mono fun i h => by rw [Tg.varsL]; exact List.mem_append_right _ h)⟩
theorem asgs_len : ∀ {ts : List Tg} {ds : List D} {ρ ρ' : Env}, Tg.asgs ts ds ρ = some ρ' → ds.length = ts.length
  | [], [], _, _, _ => rfl
  | [], _ :: _, _, _, h => by cases h
  | _ :: _, [], _, _, h => by cases h
  | t :: ts, d :: ds, ρ, ρ', h => by
    have h : ((t.asg d ρ).bind fun ρ1 => Tg.asgs ts ds ρ1) = some ρ' := h
    rw [Option.bind_eq_some_iff] at h
    obtain ⟨ρ1, _, e2⟩ := h
    simp [asgs_len e2]
theorem cg_tup {X : Cx} {es : List Expr} {kk : Nat} {pos : Pos} {ts : List Tg} {n : Nat} (hc : X.calm = true) (h : PGs X es (tGs X.K ts)) (hn : (assignEach es X.env).length = n) (hst : (assignEach es X.env).findIdx? (·.1) = none)
    (hl : ts.length = n) : PG X (.Tuple es kk pos) (tG X.K (.tp ts)) := ⟨fun pins s σ H v u Q I r ⟨G, ρ, d, ρ', g, rp, e, k⟩ => by
  refine (pg_tup hc h hn hst).run pins s σ H v u Q I r ?_
  cases d with
  | tup ds =>
    cases rp with
    | @tup a vs _ hq rs =>
      have e : Tg.asgs ts ds ρ = some ρ' := e
      refine ⟨a, vs, rfl, g.sub.sqT hq, ?_, G, ρ, ds, ρ', g, rs, e, fun σ' g' f' o' => k σ' g' f' o'⟩
      rw [rs.length, ← hl]
      exact asgs_len e
  | _ => cases e⟩
end
end MP

namespace MP
open PySem PySem.Spec PyProof.Rows L2

def tIfs (cx : Cxt) (K : PySem.W.Frag) (W : Wish) (ifs : List E) : TT := fun σ H Q => ∃ G ρ, Good K G H σ ρ ∧ Ev K W G H σ ρ (evIfs cx ifs ρ) fun b _ H' _ => Q b H'
def turnF (cx : Cxt) (tg : Tg) (ifs : List E) (rest : List D → Env → R (List D)) : D → List D → Env → R (List D) := fun x acc ρ => match tg.asg x ρ with
  | some ρ => (evIfs cx ifs ρ).bind fun b ρ => if b then rest acc ρ else .ok acc ρ
  | none => .fail
def claM (cx : Cxt) (K : PySem.W.Frag) : Cl → Cla
  | .mk tg it ifs => ⟨tI cx K WF it, tG K tg, tIfs cx K WF ifs⟩
theorem bind_ok {α β : Type} {r : R α} {f : α → Env → R β} {b : β} {ρ' : Env} (h : r.bind f = .ok b ρ') : ∃ a ρ1, r = .ok a ρ1 ∧ f a ρ1 = .ok b ρ' := by
  cases r with
  | fail => cases h
  | exc c ρ => cases h
  | ok a ρ1 => exact ⟨a, ρ1, rfl, h⟩
/-- what a part of a block is to reach -/
def Pst (Z : Addr) (own : List Nat) (K : PySem.W.Frag) (G H : Hp) (σ : L2.St) (ρ : Env) (r : R (List D)) (Nx : L2.St → Hp → Prop) : Prop :=
  ∃ acc' ρ', r = .ok acc' ρ' ∧ ∀ G' H' σ' vacc', Good K G' H' σ' ρ' → FrD Z G H σ ρ G' H' σ' ρ' → DOk Z G' H' σ' ρ' vacc' → RepL K G' vacc' acc' → OutS own σ σ' → Nx σ' H'
section
variable {cx : Cxt} {K : PySem.W.Frag} {Z : Addr} {own : List Nat}
theorem DOk.ext {G H G' H' : Hp} {σ : L2.St} {ρ : Env} {vs : List V} (k : DOk Z G H σ ρ vs) (x : Ext G H G' H') : DOk Z G' H' σ ρ vs := k.fr (Fr.ext x)
theorem turns_M {tg : Tg} {ifs : List E} {wi : TI} {rest : List D → Env → R (List D)} {body : (L2.St → Hp → Prop) → L2.St → Hp → Prop}
    (hbody : ∀ G H σ ρ vacc acc Nx, Good K G H σ ρ → DOk Z G H σ ρ vacc → RepL K G vacc acc → Pst Z own K G H σ ρ (rest acc ρ) Nx → body Nx σ H) (hv : ∀ i ∈ tg.vars, i ∈ own)
    {G1 H1 : Hp} {σ1 : L2.St} {ρ1 : Env} {J : L2.It} {S : Addr → Prop} {ds : List D} {vacc0 : List V} {acc0 : List D} {Nx : L2.St → Hp → Prop} (wk : Walk K G1 H1 S J ds) (hS : ∀ a, S a → a ≠ Z ∧ ¬ OwnAt σ1 ρ1 a)
    (g1 : Good K G1 H1 σ1 ρ1) (k1 : DOk Z G1 H1 σ1 ρ1 vacc0) (r1 : RepL K G1 vacc0 acc0) (h : Pst Z own K G1 H1 σ1 ρ1 (turns (turnF cx tg ifs rest) ds acc0 ρ1) Nx) :
    tTurns ⟨wi, tG K tg, tIfs cx K WF ifs⟩ body J Nx σ1 H1 := by
  obtain ⟨accE, ρE, hr, hN⟩ := h
  refine ⟨fun i m σ H => m = ds.length - i ∧ i ≤ ds.length ∧ ∃ G ρ acc vacc, Good K G H σ ρ ∧ FrD Z G1 H1 σ1 ρ1 G H σ ρ ∧ DOk Z G H σ ρ vacc ∧ RepL K G vacc acc ∧ OutS own σ1 σ ∧ turns (turnF cx tg ifs rest) (ds.drop i) acc ρ = .ok accE ρE,
    ⟨ds.length, by simp, Nat.zero_le _, G1, ρ1, acc0, vacc0, g1, ⟨Sub.refl _, fun _ _ h _ _ => h, fun _ h => h, fun _ h => .inl h, fun _ h => .inl h, fun _ d h => ⟨⟨d, h⟩, rfl⟩⟩, k1, r1, .refl, by simpa using hr⟩, ?_⟩
  rintro i m σ H ⟨rfl, hi, G, ρ, acc, vacc, g, f, k, r, o, e⟩
  have kp : Keep S H1 H := fun a u sa hu => f.keep a u hu (hS a sa).1 (hS a sa).2
  by_cases hlt : i < ds.length
  · have hd : ds[i]? = some ds[i] := List.getElem?_eq_getElem hlt
    generalize ds[i] = d at hd
    have hdr : ds.drop i = d :: ds.drop (i + 1) := by
      rw [List.drop_eq_getElem_cons hlt]
      congr 1
      rw [List.getElem?_eq_getElem hlt] at hd
      exact Option.some.inj hd
    rw [hdr] at e
    have e : ((turnF cx tg ifs rest d acc ρ).bind fun acc' ρ' => turns (turnF cx tg ifs rest) (ds.drop (i + 1)) acc' ρ') = .ok accE ρE := e
    obtain ⟨acc2, ρ2, e1, e2⟩ := bind_ok e
    obtain ⟨q1, q2⟩ := wk.go i d hd G H f.gg g.sub kp
    refine .inr ⟨q1, fun σ' H' => i + 1 ≤ ds.length ∧ ∃ G ρ acc vacc, Good K G H' σ' ρ ∧ FrD Z G1 H1 σ1 ρ1 G H' σ' ρ ∧ DOk Z G H' σ' ρ vacc ∧ RepL K G vacc acc ∧ OutS own σ1 σ' ∧ turns (turnF cx tg ifs rest) (ds.drop (i + 1)) acc ρ = .ok accE ρE,
      fun σ' H' w => ⟨ds.length - (i + 1), by omega, rfl, w⟩, fun x H2 y => ?_⟩
    obtain ⟨G2, x2, rx⟩ := q2 x H2 y
    unfold turnF at e1
    cases ea : tg.asg d ρ with
    | none => rw [ea] at e1; cases e1
    | some ρ3 =>
      rw [ea] at e1
      have e1 : ((evIfs cx ifs ρ3).bind fun b ρ => if b then rest acc ρ else .ok acc ρ) = .ok acc2 ρ2 := e1
      obtain ⟨b, ρ4, e3, e4⟩ := bind_ok e1
      refine ⟨G2, ρ, d, ρ3, g.ext x2, rx, ea, fun σ3 g3 f3 o3 => ⟨G2, ρ3, g3, ?_⟩⟩
      rw [e3]
      intro G4 H4 g4 f4
      have fr : FrD Z G1 H1 σ1 ρ1 G4 H4 σ3 ρ4 := f.trans ((((Fr.ext x2).trans f3).trans f4).toD Z)
      have k4 : DOk Z G4 H4 σ3 ρ4 vacc := ((k.ext x2).fr f3).fr f4
      have r4 : RepL K G4 vacc acc := (r.mono x2.gg).mono (f3.gg.trans f4.gg)
      have o4 : OutS own σ1 σ3 := o.trans (o3.mono hv)
      cases b with
      | false =>
        rw [if_neg Bool.false_ne_true] at e4
        cases e4
        refine iteF ?_
        exact ⟨hlt, G4, _, _, vacc, g4, fr, k4, r4, o4, e2⟩
      | true =>
        rw [if_pos rfl] at e4
        refine iteT ?_
        refine hbody G4 H4 σ3 ρ4 vacc acc _ g4 k4 r4 ⟨acc2, ρ2, e4, fun G5 H5 σ5 vacc5 g5 f5 k5 r5 o5 => ?_⟩
        exact ⟨hlt, G5, ρ2, acc2, vacc5, g5, fr.trans f5, k5, r5, o4.trans o5, e2⟩
  · have ei : i = ds.length := by omega
    subst ei
    refine .inl ⟨wk.stop G H f.gg g.sub kp, ?_⟩
    rw [List.drop_length] at e
    cases (show R.ok acc ρ = R.ok accE ρE from e)
    exact hN G H σ vacc g f k r o
def clTg : Cl → Tg
  | .mk tg _ _ => tg
theorem tail_M {elt : E} : ∀ (cls : List Cl), (∀ c ∈ cls, ∀ i ∈ (clTg c).vars, i ∈ own) → ∀ G H σ ρ vacc acc Nx, Good K G H σ ρ → DOk Z G H σ ρ vacc → RepL K G vacc acc → Pst Z own K G H σ ρ (evCls cx (emit (ev cx elt)) cls acc ρ) Nx →
    tTail (tE cx K WF elt) Z (cls.map (claM cx K)) Nx σ H
  | [], _, G, H, σ, ρ, vacc, acc, Nx, g, k, r, ⟨acc', ρ', e, hN⟩ => by
    rw [evCls] at e
    have e : ((ev cx elt ρ).bind fun d ρ => if acc.length < lim then .ok (acc ++ [d]) ρ else .fail) = .ok acc' ρ' := e
    obtain ⟨d, ρ1, e1, e2⟩ := bind_ok e
    by_cases hl : acc.length < lim
    · rw [if_pos hl] at e2
      cases e2
      refine ⟨G, ρ, g, ?_⟩
      rw [e1]
      intro G1 H1 g1 f1 v rv
      have k1 := k.fr f1
      refine ⟨vacc, k1.at_, by rw [r.length, ← lim_eq]; exact hl, ?_⟩
      refine hN G1 _ σ (vacc ++ [v]) (g1.put k1) ((f1.toD Z).trans (FrD.put (by rw [k1.at_]; simp))) k1.put ((r.mono f1.gg).append (.cons rv .nil)) .refl
    · rw [if_neg hl] at e2; cases e2
  | .mk tg it ifs :: cls, hv, G, H, σ, ρ, vacc, acc, Nx, g, k, r, ⟨acc', ρ', e, hN⟩ => by
    rw [evCls] at e
    obtain ⟨xs, ρ1, e1, e2⟩ := bind_ok e
    refine ⟨G, ρ, g, ?_⟩
    rw [e1]
    intro G1 H1 g1 f1 J S hS wk
    have k1 := k.fr f1
    have g2 := g1.alike (alike_lockT it)
    have k2 := k1.alike (alike_lockT it)
    refine turns_M (rest := fun acc ρ => evCls cx (emit (ev cx elt)) cls acc ρ) (tail_M cls fun c hc => hv c (List.mem_cons_of_mem _ hc)) (hv _ List.mem_cons_self) wk (fun a sa => ⟨(hS a sa).noZ k2, (hS a sa).noOwn g2⟩) g2 k2 (r.mono f1.gg) ?_
    change R.mapEnv (unlockT it ρ1) (turns (turnF cx tg ifs fun acc ρ => evCls cx (emit (ev cx elt)) cls acc ρ) xs acc (lockT it ρ1)) = .ok acc' ρ' at e2
    cases q : turns (turnF cx tg ifs fun acc ρ => evCls cx (emit (ev cx elt)) cls acc ρ) xs acc (lockT it ρ1) with
    | fail => rw [q] at e2; cases e2
    | exc c ρ => rw [q] at e2; cases e2
    | ok acc2 ρ2 =>
      rw [q] at e2
      cases e2
      refine ⟨_, ρ2, q, fun G3 H3 σ3 vacc3 g3 f3 k3 r3 o3 => ?_⟩
      refine hN G3 H3 σ3 vacc3 (g3.alike (alike_unlockT it ρ1)) ((f1.toD Z).trans f3.unlock) (k3.alike (alike_unlockT it ρ1)) r3 o3

/-! ### the block's own names -/
theorem wipe_atM {ρ : Env} {i : Nat} : ∀ {vs : List Nat}, (MP.wipe ρ vs)[i]? = ρ[i]? ∧ i ∉ vs ∨ i ∈ vs ∧ ((MP.wipe ρ vs)[i]? = some .un ∨ (MP.wipe ρ vs)[i]? = none)
  | [] => .inl ⟨rfl, by simp⟩
  | v :: vs => by
    have h := wipe_atM (ρ := ρ) (i := i) (vs := vs)
    unfold MP.wipe
    rw [List.getElem?_set]
    by_cases q : v = i
    · subst q
      rw [if_pos rfl]
      refine .inr ⟨List.mem_cons_self, ?_⟩
      split
      · exact .inl rfl
      · exact .inr rfl
    · rw [if_neg q]
      rcases h with ⟨h1, h2⟩ | ⟨h1, h2⟩
      · exact .inl ⟨h1, fun z => (List.mem_cons.mp z).elim (fun z => q z.symm) h2⟩
      · exact .inr ⟨List.mem_cons_of_mem _ h1, h2⟩
theorem wipe_lenM {ρ : Env} : ∀ {vs : List Nat}, (MP.wipe ρ vs).length = ρ.length
  | [] => rfl
  | v :: vs => by unfold MP.wipe; rw [List.length_set, wipe_lenM]
theorem back_at {ρ0 ρ : Env} {i : Nat} : ∀ {vs : List Nat}, (MP.back ρ0 ρ vs)[i]? = ρ[i]? ∧ i ∉ vs ∨ i ∈ vs ∧ ((MP.back ρ0 ρ vs)[i]? = some (back1 ρ0 i) ∨ (MP.back ρ0 ρ vs)[i]? = none)
  | [] => .inl ⟨rfl, by simp⟩
  | v :: vs => by
    have h := back_at (ρ0 := ρ0) (ρ := ρ) (i := i) (vs := vs)
    unfold MP.back
    rw [List.getElem?_set]
    by_cases q : v = i
    · subst q
      rw [if_pos rfl]
      refine .inr ⟨List.mem_cons_self, ?_⟩
      split
      · exact .inl rfl
      · exact .inr rfl
    · rw [if_neg q]
      rcases h with ⟨h1, h2⟩ | ⟨h1, h2⟩
      · exact .inl ⟨h1, fun z => (List.mem_cons.mp z).elim (fun z => q z.symm) h2⟩
      · exact .inr ⟨List.mem_cons_of_mem _ h1, h2⟩
theorem back_len {ρ0 ρ : Env} : ∀ {vs : List Nat}, (MP.back ρ0 ρ vs).length = ρ.length
  | [] => rfl
  | v :: vs => by unfold MP.back; rw [List.length_set, back_len]
section
variable {G H G' H' : Hp} {σ σ' : L2.St} {ρ ρ' : Env}
theorem alike_wipe {vs : List Nat} : Alike ρ (MP.wipe ρ vs) := by
  refine ⟨wipe_lenM, fun i d h => ?_, fun i d h => ?_⟩
  · rcases wipe_atM (ρ := ρ) (i := i) (vs := vs) with ⟨q, _⟩ | ⟨_, q | q⟩
    · rw [q] at h; exact h
    · rw [q] at h; cases h
    · rw [q] at h; cases h
  · unfold holds at h ⊢
    rcases wipe_atM (ρ := ρ) (i := i) (vs := vs) with ⟨q, _⟩ | ⟨_, q | q⟩
    · rw [q] at h; exact h
    · rw [q] at h; rcases h with h | h <;> cases h
    · rw [q] at h; rcases h with h | h <;> cases h
theorem wipe_no {i : Nat} {vs : List Nat} {x : Sl} (h : (MP.wipe ρ vs)[i]? = some x) (hx : x ≠ .un) : ρ[i]? = some x ∧ i ∉ vs := by
  rcases wipe_atM (ρ := ρ) (i := i) (vs := vs) with ⟨q, n⟩ | ⟨_, q | q⟩
  · rw [q] at h; exact ⟨h, n⟩
  · rw [q] at h; cases h; exact absurd rfl hx
  · rw [q] at h; cases h
theorem Good.wipe (g : Good K G H σ ρ) (vs : List Nat) : Good K G H (L2.wipe σ vs) (MP.wipe ρ vs) := by
  have x := g.alike (alike_wipe (ρ := ρ) (vs := vs))
  have at_ : ∀ (i : Nat), i ∉ vs → (L2.wipe σ vs)[i]? = σ[i]? := fun i n => wipe_out n
  have nv : ∀ (i : Nat) (d : D), holds (MP.wipe ρ vs) i d → i ∉ vs := fun i d h => by
    rcases h with h | h
    · exact (wipe_no h (by simp)).2
    · exact (wipe_no h (by simp)).2
  refine ⟨by rw [L2.wipe_length, wipe_lenM]; exact g.len, g.sub, fun i d h => ?_, fun i d h => ?_, fun i j a d e h1 h2 e1 e2 => ?_⟩
  · obtain ⟨h1, h2⟩ := wipe_no h (by simp)
    rw [at_ i h2]
    exact g.fr i d h1
  · rw [at_ i (nv i d h)]
    exact x.ow i d h
  · rw [at_ i (nv i d h1)] at e1
    rw [at_ j (nv j e h2)] at e2
    exact x.sep i j a d e h1 h2 e1 e2
theorem own_wipe {vs : List Nat} {a : Addr} (h : OwnAt (L2.wipe σ vs) (MP.wipe ρ vs) a) : OwnAt σ ρ a := by
  obtain ⟨i, d, h1, h2⟩ := h
  obtain ⟨e1, n⟩ := wipe_no h1 (by simp)
  rw [wipe_out n] at h2
  exact ⟨i, d, e1, h2⟩
theorem back_no {ρ0 : Env} {i : Nat} {vs : List Nat} {x : Sl} (h : (MP.back ρ0 ρ vs)[i]? = some x) : (ρ[i]? = some x ∧ i ∉ vs) ∨ (i ∈ vs ∧ x = back1 ρ0 i) := by
  rcases back_at (ρ := ρ) (ρ0 := ρ0) (i := i) (vs := vs) with ⟨q, n⟩ | ⟨m, q | q⟩
  · rw [q] at h; exact .inl ⟨h, n⟩
  · rw [q] at h; cases h; exact .inr ⟨m, rfl⟩
  · rw [q] at h; cases h
theorem back1_ow {ρ0 : Env} {i : Nat} {d : D} : back1 ρ0 i ≠ .ow d ∧ back1 ρ0 i ≠ .lk d := by
  unfold back1
  split <;> simp
theorem back1_fr {ρ0 : Env} {i : Nat} {d : D} (h : back1 ρ0 i = .fr d) : ρ0[i]? = some (.fr d) := by
  unfold back1 at h
  split at h
  · rename_i q
    cases h
    exact q
  · cases h
theorem Good.back {vs : List Nat} (g : Good K G H σ ρ) (g' : Good K G' H' σ' ρ') (s : Sub G G') (o : OutS vs (L2.wipe σ vs) σ') : Good K G' H' σ (MP.back ρ ρ' vs) := by
  have at_ : ∀ (i : Nat), i ∉ vs → σ'[i]? = σ[i]? := fun i n => (o.at_ i n).trans (wipe_out n)
  have nb : ∀ (i : Nat) (d : D), holds (MP.back ρ ρ' vs) i d → holds ρ' i d ∧ i ∉ vs := fun i d h => by
    rcases h with h | h
    · rcases back_no h with ⟨h1, n⟩ | ⟨_, q⟩
      · exact ⟨.inl h1, n⟩
      · exact absurd q.symm back1_ow.1
    · rcases back_no h with ⟨h1, n⟩ | ⟨_, q⟩
      · exact ⟨.inr h1, n⟩
      · exact absurd q.symm back1_ow.2
  have hl : σ.length = σ'.length := by rw [o.len, L2.wipe_length]
  refine ⟨by rw [back_len]; exact hl.trans g'.len, g'.sub, fun i d h => ?_, fun i d h => ?_, fun i j a d e h1 h2 e1 e2 => ?_⟩
  · rcases back_no h with ⟨h1, n⟩ | ⟨m, q⟩
    · rw [← at_ i n]; exact g'.fr i d h1
    · obtain ⟨v, e1, r⟩ := g.fr i d (back1_fr q.symm)
      exact ⟨v, e1, r.mono s⟩
  · obtain ⟨h1, n⟩ := nb i d h
    rw [← at_ i n]
    exact g'.ow i d h1
  · obtain ⟨q1, n1⟩ := nb i d h1
    obtain ⟨q2, n2⟩ := nb j e h2
    rw [← at_ i n1] at e1
    rw [← at_ j n2] at e2
    exact g'.sep i j a d e q1 q2 e1 e2
theorem Fr.back {vs : List Nat} {Z : Addr} {H0 : Hp} (hZ : H0 Z = none) (f : FrD Z G (upd H0 Z (.lst [])) (L2.wipe σ vs) (MP.wipe ρ vs) G' H' σ' ρ') (hd : DOk Z G' H' σ' ρ' w) (o : OutS vs (L2.wipe σ vs) σ') :
    Fr G H0 σ ρ G' (fun x => if x = Z then none else H' x) σ (MP.back ρ ρ' vs) := by
  have ne : ∀ {a u}, H0 a = some u → a ≠ Z := fun h q => by rw [q, hZ] at h; cases h
  have at_ : ∀ (i : Nat), i ∉ vs → σ'[i]? = σ[i]? := fun i n => (o.at_ i n).trans (wipe_out n)
  refine ⟨f.gg, fun a u h n => ?_, fun a h => ?_, fun a h => ?_, fun a ⟨i, d, h1, h2⟩ => ?_, fun i d h => ?_⟩
  · have na := ne h
    show (if a = Z then none else H' a) = some u
    rw [if_neg na]
    exact f.keep a u (by rw [upd_ne na]; exact h) na fun q => n (own_wipe q)
  · have na : a ≠ Z := fun q => h (by rw [q]; exact hZ)
    show (if a = Z then none else H' a) ≠ none
    rw [if_neg na]
    exact f.dom a (by rw [upd_ne na]; exact h)
  · rcases f.new a h with z | z | z
    · exact .inl z
    · refine .inr (.inl ?_)
      by_cases q : a = Z
      · rw [q]; exact hZ
      · rw [upd_ne q] at z; exact z
    · exact .inr (.inr (own_wipe z))
  · rcases back_no h1 with ⟨q1, n⟩ | ⟨_, q⟩
    · rcases f.own a ⟨i, d, q1, by rw [at_ i n]; exact h2⟩ with z | z
      · exact .inl (own_wipe z)
      · refine .inr ?_
        by_cases q : a = Z
        · rw [q]; exact hZ
        · rw [upd_ne q] at z; exact z
    · exact absurd q.symm back1_ow.1
  · rcases back_no h with ⟨q1, n⟩ | ⟨_, q⟩
    · obtain ⟨⟨d', z⟩, _⟩ := f.lk i d q1
      exact ⟨⟨d', (wipe_no z (by simp)).1⟩, rfl⟩
    · exact absurd q.symm back1_ow.2
theorem Good.cutZ {Z : Addr} {w : List V} (g : Good K G H σ ρ) (hf : G Z = none) (hs : ∀ (i : Nat) (d : D), holds ρ i d → σ[i]? ≠ some (some (.ref Z))) : Good K G (fun x => if x = Z then none else H x) σ ρ := by
  refine ⟨g.len, fun a u e => ?_, g.fr, fun i d h => ?_, g.sep⟩
  · have n : a ≠ Z := fun q => by rw [q, hf] at e; cases e
    show (if a = Z then none else H a) = some u
    rw [if_neg n]
    exact g.sub a u e
  · obtain ⟨a, h1, h2, h3⟩ := g.ow i d h
    refine ⟨a, h1, h2, ?_⟩
    have n : a ≠ Z := fun q => hs i d h (by rw [h1, q])
    cases h3 with
    | lst e r => exact .lst (by show (if a = Z then none else H a) = _; rw [if_neg n]; exact e) r
end
theorem Walk.upd {G H : Hp} {S : Addr → Prop} {J : L2.It} {ds : List D} {o : HO} (w : Walk K G H S J ds) (h : H Z = none) : Walk K G (upd H Z o) S J ds := by
  have kp : ∀ {H'}, Keep S (L2.upd H Z o) H' → Keep S H H' := fun k a u sa e => k a u sa (by rw [upd_ne (fun q => by rw [q, h] at e; cases e)]; exact e)
  exact ⟨fun i d e G' H' s1 s2 k => w.go i d e G' H' s1 s2 (kp k), fun G' H' s1 s2 k => w.stop G' H' s1 s2 (kp k)⟩
/-- a comprehension's transformers from its evaluation -/
theorem comp_M {W : Wish} {elt : E} {tg : Tg} {it : It} {ifs : List E} {cls : List Cl} {own : List Nat} (hv : ∀ i ∈ tg.vars, i ∈ own) (hvs : ∀ c ∈ cls, ∀ i ∈ (clTg c).vars, i ∈ own) {σ : L2.St} {H : Hp} {Q : VK}
    (h : tP cx K W (.comp elt tg it ifs cls own) σ H Q) : tLcN ⟨tI cx K W it, tG K tg, tIfs cx K WF ifs⟩ (cls.map (claM cx K)) (tE cx K WF elt) own σ H Q := by
  obtain ⟨G, ρ, g, e⟩ := h
  rw [evP] at e
  refine ⟨G, ρ, g, e.bind.mono fun xs G1 H1 ρ1 _ g1 f1 e1 J S hS wk Z hZ => ?_⟩
  change Ev K W G1 H1 σ ρ1 ((R.mapEnv (fun ρ' => unlockT it ρ1 (MP.back (lockT it ρ1) ρ' own)) (turns (turnF cx tg ifs fun acc ρ => evCls cx (emit (ev cx elt)) cls acc ρ) xs [] (MP.wipe (lockT it ρ1) own)).noX).bind fun acc ρ => .ok (.lst acc) ρ) (fun d G' H' _ => Fresh K G' H' Q d) at e1
  have g2 := g1.alike (alike_lockT it)
  have fz : G1 Z = none := none_of_sub g1.sub hZ
  have g3 := g2.wipe own
  have noZ : ∀ (i : Nat) (d : D), holds (lockT it ρ1) i d → σ[i]? ≠ some (some (.ref Z)) := fun i d h q => by
    obtain ⟨a, h1, _, o⟩ := g2.ow i d h
    rw [h1] at q
    cases q
    obtain ⟨u, hu⟩ := o.there
    rw [hZ] at hu; cases hu
  have k3 : DOk Z G1 (upd H1 Z (.lst [])) (L2.wipe σ own) (MP.wipe (lockT it ρ1) own) [] := by
    refine ⟨upd_same, fz, fun i d h q => ?_⟩
    have q2 := (L2.wipe_some q).1
    exact noZ i d ((alike_wipe (vs := own)).ow i d h) q2
  have g4 : Good K G1 (upd H1 Z (.lst [])) (L2.wipe σ own) (MP.wipe (lockT it ρ1) own) := by
    refine ⟨g3.len, fun a u e => ?_, g3.fr, fun i d h => ?_, g3.sep⟩
    · rw [upd_ne (fun q => by rw [q, fz] at e; cases e)]; exact g1.sub a u e
    · obtain ⟨a, h1, h2, h3⟩ := g3.ow i d h
      exact ⟨a, h1, h2, h3.put fun q => k3.slot i d h (by rw [h1, q])⟩
  have hS2 : ∀ a, S a → a ≠ Z ∧ ¬ OwnAt (L2.wipe σ own) (MP.wipe (lockT it ρ1) own) a := fun a sa => by
    refine ⟨fun q => ?_, fun q => (hS a sa).noOwn g2 (own_wipe q)⟩
    have := (hS a sa).there g2
    rw [q] at this
    exact this hZ
  refine turns_M (rest := fun acc ρ => evCls cx (emit (ev cx elt)) cls acc ρ) (tail_M cls hvs) hv (wk.upd hZ) hS2 g4 k3 .nil ?_
  cases qt : turns (turnF cx tg ifs fun acc ρ => evCls cx (emit (ev cx elt)) cls acc ρ) xs [] (MP.wipe (lockT it ρ1) own) with
  | fail => rw [qt] at e1; exact e1.elim
  | exc c ρ => rw [qt] at e1; exact e1.elim
  | ok acc' ρ' =>
    rw [qt] at e1
    have e1 : Ev K W G1 H1 σ ρ1 (.ok (.lst acc') (unlockT it ρ1 (MP.back (lockT it ρ1) ρ' own))) (fun d G' H' _ => Fresh K G' H' Q d) := e1
    refine ⟨acc', ρ', rfl, fun G' H' σ' vacc' g' f' k' r' o' => ?_⟩
    have gb := Good.back g2 g' f'.gg o'
    have nz : ∀ (i : Nat) (d : D), holds (MP.back (lockT it ρ1) ρ' own) i d → σ[i]? ≠ some (some (.ref Z)) := fun i d h => by
      have z : holds ρ' i d ∧ i ∉ own := by
        rcases h with h | h
        · rcases back_no h with ⟨h1, n⟩ | ⟨_, q⟩
          · exact ⟨.inl h1, n⟩
          · exact absurd q.symm back1_ow.1
        · rcases back_no h with ⟨h1, n⟩ | ⟨_, q⟩
          · exact ⟨.inr h1, n⟩
          · exact absurd q.symm back1_ow.2
      have := k'.slot i d z.1
      rw [o'.at_ i z.2, wipe_out z.2] at this
      exact this
    have gc := (gb.cutZ (w := vacc') k'.fz nz).alike (alike_unlockT it ρ1)
    have fc : Fr G1 H1 σ ρ1 G' (fun x => if x = Z then none else H' x) σ (unlockT it ρ1 (MP.back (lockT it ρ1) ρ' own)) := Fr.unlock (Fr.back (w := vacc') hZ f' k' o')
    have fin : Fresh K G' (fun x => if x = Z then none else H' x) Q (.lst acc') := e1 G' _ gc fc
    refine fin G' H' Z ⟨Sub.refl _, g'.sub, fun a u e => ?_, fun a h => .inl h⟩ (by show (if Z = Z then none else H' Z) = none; rw [if_pos rfl]) k'.fz (.lst k'.at_ r')
    by_cases q : a = Z
    · rw [if_pos q] at e; cases e
    · rw [if_neg q] at e; exact e
end
end MP

namespace MP
open PySem PySem.Spec PyProof.Rows L2

/-! ### sorting -/
section
variable {α : Type} {le : α → α → Bool}
theorem insB_perm (x : α) : ∀ l : List α, (insB le x l).Perm (x :: l)
  | [] => .refl _
  | y :: r => by
    unfold insB
    split
    · exact .refl _
    · exact ((insB_perm x r).cons y).trans (.swap _ _ _)
theorem sortB_perm : ∀ l : List α, (sortB le l).Perm l
  | [] => .refl _
  | x :: r => (insB_perm x _).trans ((sortB_perm r).cons x)
theorem insB_pw (tot : ∀ x y, le x y = false → le y x = true) (tr : ∀ x y z, le x y = true → le y z = true → le x z = true) (x : α) : ∀ {l : List α}, l.Pairwise (fun a b => le a b = true) → (insB le x l).Pairwise (fun a b => le a b = true)
  | [], _ => by simp [insB]
  | y :: r, h => by
    unfold insB
    obtain ⟨h1, h2⟩ := List.pairwise_cons.mp h
    split
    · rename_i q
      refine List.pairwise_cons.mpr ⟨fun z hz => ?_, h⟩
      rcases List.mem_cons.mp hz with rfl | hz
      · exact q
      · exact tr _ _ _ q (h1 z hz)
    · rename_i q
      refine List.pairwise_cons.mpr ⟨fun z hz => ?_, insB_pw tot tr x h2⟩
      rcases List.mem_cons.mp ((insB_perm x r).mem_iff.mp hz) with rfl | hz
      · exact tot _ _ (by simpa using q)
      · exact h1 z hz
theorem sortB_pw (tot : ∀ x y, le x y = false → le y x = true) (tr : ∀ x y z, le x y = true → le y z = true → le x z = true) : ∀ l : List α, (sortB le l).Pairwise (fun a b => le a b = true)
  | [] => .nil
  | x :: r => insB_pw tot tr x (sortB_pw tot tr r)
end
theorem leI_tot (x y : Int) (h : leI x y = false) : leI y x = true := by unfold leI at *; simp at *; omega
theorem leI_tr (x y z : Int) (h : leI x y = true) (h' : leI y z = true) : leI x z = true := by unfold leI at *; simp at *; omega
theorem leP_iff {x y : Int × Int} : leP x y = true ↔ x.1 < y.1 ∨ (x.1 = y.1 ∧ x.2 ≤ y.2) := by unfold leP; simp
theorem leP_no {x y : Int × Int} : leP x y = false ↔ ¬ (x.1 < y.1 ∨ (x.1 = y.1 ∧ x.2 ≤ y.2)) := by rw [← leP_iff]; simp
theorem leP_tot (x y : Int × Int) (h : leP x y = false) : leP y x = true := by
  rw [leP_no] at h; rw [leP_iff]; omega
theorem leP_tr (x y z : Int × Int) (h : leP x y = true) (h' : leP y z = true) : leP x z = true := by
  rw [leP_iff] at *; omega
theorem leP_anti (x y : Int × Int) (h : leP x y = true) (h' : leP y x = true) : x = y := by
  rw [leP_iff] at *
  exact Prod.ext (by omega) (by omega)
section
variable {K : PySem.W.Frag} {G H : Hp}
theorem repL_ints : ∀ ns : List Int, RepL K G (ns.map V.int) (ns.map D.int)
  | [] => .nil
  | n :: r => .cons (.int n) (repL_ints r)
theorem pairsD_eq : ∀ {ds : List D} {ps : List (Int × Int)}, pairsD ds = some ps → ds = ps.map pD
  | [], ps, h => by cases h; rfl
  | d :: r, ps, h => by
    unfold pairsD at h
    split at h
    · rename_i e; cases e
    · rename_i a b r' e
      cases e
      rw [Option.map_eq_some_iff] at h
      obtain ⟨ps', h1, rfl⟩ := h
      rw [pairsD_eq h1]
      rfl
    · cases h
theorem intsD_eq : ∀ {ds : List D} {ns : List Int}, intsD ds = some ns → ds = ns.map D.int
  | [], ps, h => by cases h; rfl
  | d :: r, ps, h => by
    unfold intsD at h
    split at h
    · rename_i e; cases e
    · rename_i a r' e
      cases e
      rw [Option.map_eq_some_iff] at h
      obtain ⟨ps', h1, rfl⟩ := h
      rw [intsD_eq h1]
      rfl
    · cases h
theorem rep_pD {v : V} {p : Int × Int} (r : Rep K G v (pD p)) : ∃ a, v = .ref a ∧ SqT K G a [.int p.1, .int p.2] := by
  obtain ⟨i, j⟩ := p
  cases r with
  | tup h rs =>
    cases rs with
    | cons r1 rs =>
      cases rs with
      | cons r2 rs =>
        cases rs
        cases r1; cases r2
        exact ⟨_, rfl, h⟩
/-- f(x), the answer a list of one's own -/
def rnF (K : PySem.W.Frag) (f : D → Option (List D)) : List V → Hp → VK → Prop := fun xs H Q => ∃ G x d r, xs = [x] ∧ Sub G H ∧ View K G H x d ∧ f d = some r ∧ Fresh K G H Q (.lst r)
end
section
variable {X : Cx}
open Classical in
theorem cr_sortM : CallR X (.builtin "sorted") (rnF X.K sortC) := by
  intro pins s σ H xs us Q I r h
  obtain ⟨G, x, d, z, rfl, sb, vx, hf, q⟩ := h
  unfold sortC at hf
  split at hf
  · rename_i ds
    obtain ⟨a, vs, rfl, h1, r1⟩ := vx.lst sb
    split at hf
    · rename_i ns e1
      cases hf
      obtain rfl := r1.ints e1
      refine cr_sortedI pins s σ H _ us Q I r ⟨a, ns, rfl, SqL.of h1, fun ns' p hp hw hn => ?_⟩
      have e2 : ns' = sortB leI ns := by
        refine List.Perm.eq_of_pairwise (le := fun a b : Int => a ≤ b) (fun a b _ _ h1 h2 => Int.le_antisymm h1 h2) hw ?_ (hp.trans (sortB_perm ns).symm)
        refine (sortB_pw leI_tot leI_tr ns).imp fun {a b} h => ?_
        unfold leI at h
        simpa using h
      subst e2
      exact q.lst sb (repL_ints _) hn
    · rw [Option.map_eq_some_iff] at hf
      obtain ⟨ps, e1, rfl⟩ := hf
      obtain rfl := pairsD_eq e1
      obtain ⟨u, rfl, ru⟩ := vals1 r
      obtain rfl : u = Value.ref a := ru
      obtain ⟨its, rv, hl, hz⟩ := I.list (SqL.of h1)
      have each : ∀ v ∈ vs, ∃ p, Rep X.K G v (pD p) := fun v hv => by
        obtain ⟨i, hi⟩ := List.getElem?_of_mem hv
        obtain ⟨d, h2, h3⟩ := r1.getV hi
        rw [List.getElem?_map, Option.map_eq_some_iff] at h2
        obtain ⟨p, _, rfl⟩ := h2
        exact ⟨p, h3⟩
      have uniq : ∀ {v : V} {p q : Int × Int}, Rep X.K G v (pD p) → Rep X.K G v (pD q) → p = q := fun {v p q} hp hq => by
        obtain ⟨a, e, h2⟩ := rep_pD hp
        obtain ⟨b, e', h3⟩ := rep_pD hq
        rw [e] at e'
        cases e'
        have := I.tuple_inj (sb.sqT h2) (sb.sqT h3)
        simp at this
        exact Prod.ext this.1 this.2
      let kv : V → Int × Int := fun v => if h : ∃ p, Rep X.K G v (pD p) then choose h else (0, 0)
      have kvs : ∀ v ∈ vs, Rep X.K G v (pD (kv v)) := fun v hv => by
        have h := each v hv
        show Rep X.K G v (pD (if h : ∃ p, Rep X.K G v (pD p) then choose h else (0, 0)))
        rw [dif_pos h]
        exact choose_spec h
      have keys : ∀ {ws : List V} {qs : List (Int × Int)}, RepL X.K G ws (qs.map pD) → (∀ v ∈ ws, v ∈ vs) → ws.map kv = qs := by
        intro ws
        induction ws with
        | nil => intro qs h _; cases qs with
          | nil => rfl
          | cons => cases h
        | cons w ws ih => intro qs h m; cases qs with
          | nil => cases h
          | cons p qs =>
            cases h with
            | cons h1 h2 =>
              rw [List.map_cons, ih h2 fun v hv => m v (List.mem_cons_of_mem _ hv), uniq (kvs w (m w List.mem_cons_self)) h1]
      obtain ⟨e1', e2⟩ := refs_back rv fun v m => by
        obtain ⟨p, hp⟩ := each v m
        obtain ⟨b, e, _⟩ := rep_pD hp
        exact ⟨b, e⟩
      refine SrtO.sorted_pairsO (k := fun u => kv (backV u)) hl.isList (by rw [← rv.length]; exact hz) (fun v hv => ?_) fun h' d out h1' h2 kp hd hn => ?_
      · obtain ⟨t, rfl⟩ := e2 v hv
        have hm : V.ref t ∈ vs := by rw [e1']; exact List.mem_map.mpr ⟨_, hv, rfl⟩
        obtain ⟨b, e, ht⟩ := rep_pD (kvs _ hm)
        cases e
        obtain ⟨its2, r2, ⟨o, ho, hc, n, hd⟩, _⟩ := I.tuple (sb.sqT ht)
        obtain ⟨u1, u2, rfl, ri, rj⟩ := vals2 r2
        obtain ⟨t1, rfl⟩ := ri
        obtain ⟨t2, rfl⟩ := rj
        exact ⟨t, o, t1, t2, n, rfl, ho, hc, hd⟩
      · have h3 : ∀ u ∈ out, ∃ a, u = Value.ref a := fun u hu => e2 u (h2.perm.mem_iff.mp hu)
        obtain ⟨n, hn⟩ := hn
        have pm : (out.map backV).Perm vs := by rw [e1']; exact h2.perm.map backV
        have hk : (out.map backV).map kv = sortB leP ps := by
          have e3 : vs.map kv = ps := keys r1 fun v h => h
          refine List.Perm.eq_of_pairwise (le := fun a b : Int × Int => leP a b = true) (fun a b _ _ h1 h2 => leP_anti a b h1 h2) ?_ (sortB_pw leP_tot leP_tr ps) ?_
          · rw [List.map_map, List.pairwise_map]
            refine List.Pairwise.imp (fun {u v} huv => ?_) h1'
            have huv := SrtO.lexB_no.mp huv
            rw [leP_iff]
            simp only [Function.comp] at huv ⊢
            omega
          · refine (pm.map kv).trans ?_
            rw [e3]
            exact (sortB_perm ps).symm
        have rr : RepL X.K G (out.map backV) ((sortB leP ps).map pD) := by
          rw [← hk]
          generalize hw : out.map backV = ws at pm
          have hm : ∀ v ∈ ws, Rep X.K G v (pD (kv v)) := fun v hv => kvs v (pm.mem_iff.mp hv)
          clear hw pm hk
          induction ws with
          | nil => exact .nil
          | cons w ws ih => exact .cons (hm w List.mem_cons_self) (ih fun v hv => hm v (List.mem_cons_of_mem _ hv))
        refine ⟨.ref d, upd H d (.lst (out.map backV)), I.laid (t' := s.toks) kp hd ⟨?_, out, n, vals_back h3, hn⟩, rfl, q.lst sb rr (I.hok.fresh hd)⟩
        rw [pm.length_eq]
        rw [rv.length, ← rv.length]
        exact hz
  · cases hf
theorem cr_listM : CallR X (.type "list") (rnF X.K listC) := by
  intro pins s σ H xs us Q I r h
  obtain ⟨G, x, d, z, rfl, sb, vx, hf, q⟩ := h
  unfold listC at hf
  split at hf <;> cases hf
  · obtain ⟨a, vs, rfl, h1, h2, r1⟩ := vx.tup sb
    exact call_list_of pins s σ H _ us Q I r ⟨a, vs, rfl, .inr h2, fun l hl => q.lst sb r1 hl⟩
  · obtain ⟨a, vs, rfl, h1, r1⟩ := vx.lst sb
    exact call_list_of pins s σ H _ us Q I r ⟨a, vs, rfl, .inl (SqL.of h1), fun l hl => q.lst sb r1 hl⟩
def catL : D → D → Option D
  | .lst xs, .lst ys => if xs.length + ys.length ≤ lim then some (.lst (xs ++ ys)) else none
  | _, _ => none
def repL : D → D → Option D
  | .lst xs, .int k => if smallI k && decide (xs.length * k.toNat ≤ lim) then some (.lst (List.replicate k.toNat xs).flatten) else none
  | _, _ => none
theorem op_catF : OpR X (binaryOp .Add) (r2F X.K catL) := by
  intro pins s σ H x y v u Q I rx ry h
  obtain ⟨G, d, e, r, sb, vx, vy, hf, q⟩ := h
  unfold catL at hf
  split at hf <;> try (first | cases hf | contradiction)
  obtain ⟨a, vs, rfl, h1, r1⟩ := vx.lst sb
  obtain ⟨b, ws, rfl, h2, r2⟩ := vy.lst sb
  split at hf <;> cases hf
  rename_i hl
  exact op_cat pins s σ H _ _ v u Q I rx ry ⟨a, b, vs, ws, rfl, rfl, h1, h2, by rw [r1.length, r2.length, ← lim_eq]; exact hl, fun p hp => q.lst sb (r1.append r2) hp⟩
theorem op_repF : OpR X (binaryOp .Mult) (r2F X.K repL) := by
  intro pins s σ H x y v u Q I rx ry h
  obtain ⟨G, d, e, r, sb, vx, vy, hf, q⟩ := h
  unfold repL at hf
  split at hf
  · split at hf <;> cases hf
    rename_i hm
    obtain ⟨a, vs, rfl, h1, r1⟩ := vx.lst sb
    obtain rfl := vy.int
    rw [Bool.and_eq_true] at hm
    obtain ⟨m1, m2⟩ := hm
    unfold smallI at m1
    rw [Bool.and_eq_true] at m1
    have a1 := of_decide_eq_true m1.1
    have a2 := of_decide_eq_true m1.2
    have a3 := of_decide_eq_true m2
    exact op_rep pins s σ H _ _ v u Q I rx ry ⟨a, _, vs, rfl, rfl, h1, by omega, by omega, by rw [r1.length, ← lim_eq]; exact a3, fun p hp => q.lst sb (r1.rep _) hp⟩
  · cases hf
/-- isinstance -/
def tyN : Ty → String
  | .int => "int" | .bool => "bool" | .str => "str" | .tup => "tuple" | .lst => "list" | .dict => "dict"
def rIs (K : PySem.W.Frag) (t : Ty) : List V → Hp → VK → Prop := fun xs H Q => ∃ G x d b, xs = [x, .ty (tyN t)] ∧ Sub G H ∧ View K G H x d ∧ isiD d t = some b ∧ Q (.bl b) H
theorem kitT {K : PySem.W.Frag} {a : String} {t : Ty} {b : Bool} (h : kitB a (tyN t) = some b) : PySem.W.kitOne K (.type a) (.type (tyN t)) = some b := kit_ty h
theorem ty_tup {K : PySem.W.Frag} {H : Hp} {a : Addr} {xs : List V} (h : SqT K H a xs) : TyX K H (.ref a) (.type "tuple") := by
  rcases h with h | ⟨o, its, n, h1, h2, _⟩
  · rcases h with h | ⟨o, h⟩
    · exact .base (.tup h)
    · exact .fTuple h
  · exact .kTuple h1 h2
theorem cr_isM {t : Ty} : CallR X (.builtin "isinstance") (rIs X.K t) := by
  intro pins s σ H xs us Q I r h
  obtain ⟨G, x, d, b, rfl, sb, vx, hf, q⟩ := h
  have go : ∀ {x : V} {a : String} {b : Bool}, Vals [x, .ty (tyN t)] us → TyX X.K H x (.type a) → kitB a (tyN t) = some b → Q (.bl b) H → wpAny (model X.prog X.w) X.A (call (.builtin "isinstance") us) (EP X pins σ Q) X.xe s := fun r ty e q =>
    call_isi pins s σ H _ us Q I r ⟨_, _, _, _, _, rfl, .ty _, ty, kitT e, q⟩
  unfold isiD at hf
  split at hf
  · cases hf
    obtain rfl := vx.non
    exact go r (.base .non) (by cases t <;> decide +kernel) q
  · cases hf
    obtain rfl := vx.bl
    exact go r (.base (.bl _)) (by cases t <;> decide +kernel) q
  · cases hf
    obtain rfl := vx.int
    exact go r (.base (.int _)) (by cases t <;> decide +kernel) q
  · cases hf
    obtain rfl := vx.str
    exact go r (.base (.str _)) (by cases t <;> decide +kernel) q
  · cases hf
    obtain ⟨a, vs, rfl, h1, h2, r1⟩ := vx.tup sb
    exact go r (ty_tup h2) (by cases t <;> decide +kernel) q
  · cases hf
    obtain ⟨a, vs, rfl, h1, r1⟩ := vx.lst sb
    exact go r (.base (.lst h1)) (by cases t <;> decide +kernel) q
  · rcases vx with h | ⟨_, _, _, o⟩
    · cases h
    · cases o
  · cases hf
end
end MP

namespace MP
open PySem PySem.Spec PyProof.Rows L2

/-! ### what is known of a def's frame by its text -/
structure Cg where
  N : List Str
  nm : List (Str × NameKind)
  fn : Str → Bool
  bi : List Str
  fns : List (Str × Nat)
  gls : List Str
def spF (K : PySem.W.Frag) (cv : Str → Value) (cf : Str → List D → Out) (f : Str) (n : Nat) : Sp := fun vs H Q E => ∃ G ds, Sub G H ∧ RepL K G vs ds ∧ vs.length = n ∧ match cf f ds with
  | .fail => False
  | .exc c => ∀ G' H', Ext G H G' H' → E (cv c) none H'
  | .ok d => After K G H Q d
def wxM (cv : Str → Value) (W : Wish) : WX := fun cls d σ H => ∃ c, cls = cv c ∧ d = none ∧ W c σ H
structure FnM (X : Cx) (cv : Str → Value) (cx : Cxt) (f : Str) (n : Nat) : Prop where
  ex : ∃ a fd ps k, FnOk X.prog X.w X.K X.mg X.base (L2.CX X.prog X.w) k a fd ps (spF X.K cv cx.cf f n) ∧ Room k X.A ∧ X.mg f = some (.ref a) ∧ PySem.W.keepIn X.K (.ref a) = true ∧ Binds X.K fd ps []
structure OkM (C : Cg) (cv : Str → Value) (X : Cx) (cx : Cxt) (W : Wish) : Prop where
  N : X.N = C.N
  nd : X.N.Nodup
  nm : X.env.scope.names = C.nm
  kd : X.env.scope.kind = .function
  fn : ∀ x, C.fn x = true → X.fn x = true
  calm : X.calm = true
  hu : X.A.units + 65 < cLine
  bi : ∀ x ∈ C.bi, X.mg x = none
  fns : ∀ f n, (f, n) ∈ C.fns → FnM X cv cx f n
  gls : ∀ x ∈ C.gls, ∃ d v u, cx.gl x = some d ∧ X.mg x = some u ∧ RelV v u ∧ ∀ G, Rep X.K G v d
  ex : ∀ σ, PassesAt (L2.CX X.prog X.w) X σ (WE (wxM cv W) σ)
def noDbg (x : Str) : Bool := !(x == ("__debug__" : Str)) && !(x == ("__classdict__" : Str)) && !decide (x = "__name__")
def visB (C : Cg) (x : Str) : Bool := match C.nm.lookup x with
  | some .local => true | some .cell => true | some .free => true | _ => false
def locB (C : Cg) (x : Str) : Bool := match C.nm.lookup x with
  | some .local => true | some .cell => true | _ => false
def stoB (C : Cg) (x : Str) : Bool := C.fn x || decide (C.nm.lookup x = some .local)
def glB (C : Cg) (x : Str) : Bool := decide (C.nm.lookup x = some .globalImplicit)
def varB (C : Cg) (i : Nat) (x : Str) : Bool := visB C x && (decide (C.N[i]? = some x) && noDbg x)
def tgB (C : Cg) (i : Nat) (x : Str) : Bool := locB C x && (decide (C.N[i]? = some x) && stoB C x)
def freeB (C : Cg) (x : Str) : Bool := glB C x && (C.bi.contains x && noDbg x)
def Cg.sc (C : Cg) : Scope := ⟨.function, C.nm, false, false, []⟩
def Cg.blk (C : Cg) (scope : Scope) : Cg := { C with nm := scope.names.map fun (n, k) => if (k == NameKind.free && ScopeKind.function == ScopeKind.function && C.nm.lookup n == some NameKind.cell) then (n, .cell) else (n, k), fn := fun x => scope.names.lookup x == some .cell }
section
variable {C : Cg} {cv : Str → Value} {X : Cx} {cx : Cxt} {W : Wish}
theorem noDbg1 {x : Str} (h : noDbg x = true) : (x == ("__debug__" : Str)) = false ∧ (x == ("__classdict__" : Str)) = false ∧ x ≠ "__name__" := by
  unfold noDbg at h
  simp only [Bool.and_eq_true, Bool.not_eq_true', decide_eq_false_iff_not] at h
  exact ⟨h.1.1, h.1.2, h.2⟩
theorem OkM.var (ok : OkM C cv X cx W) {i : Nat} {x : Str} {pos : Pos} (h : varB C i x = true) : PE X (.Name x pos) (tVar i) := by
  unfold varB visB at h
  rw [Bool.and_eq_true, Bool.and_eq_true] at h
  obtain ⟨h1, h2, h3⟩ := h
  obtain ⟨d1, d2, _⟩ := noDbg1 h3
  refine pe_var (by rw [ok.N]; exact of_decide_eq_true h2) ?_ d1 d2
  unfold Vis
  rw [ok.nm]
  split at h1
  · exact .inl (by assumption)
  · exact .inr (.inl (by assumption))
  · exact .inr (.inr (by assumption))
  · cases h1
theorem OkM.gl (ok : OkM C cv X cx W) {x : Str} (h : glB C x = true) : Gl X x := by
  unfold Gl Env.kindOf
  rw [ok.nm]
  exact of_decide_eq_true h
theorem OkM.free (ok : OkM C cv X cx W) {x : Str} (h : freeB C x = true) : Gl X x ∧ X.mg x = none ∧ x ≠ "__name__" ∧ (x == ("__debug__" : Str)) = false := by
  unfold freeB at h
  rw [Bool.and_eq_true, Bool.and_eq_true] at h
  obtain ⟨h1, h2, h3⟩ := h
  obtain ⟨d1, d2, d3⟩ := noDbg1 h3
  exact ⟨ok.gl h1, ok.bi x (by simpa using h2), d3, d1⟩
theorem OkM.tg (ok : OkM C cv X cx W) {i : Nat} {x : Str} {pos : Pos} (h : tgB C i x = true) : PG X (.Name x pos) (gName i) := by
  unfold tgB locB stoB at h
  rw [Bool.and_eq_true, Bool.and_eq_true, Bool.or_eq_true] at h
  obtain ⟨h1, h2, h3⟩ := h
  refine pg_name ok.nd (by rw [ok.N]; exact of_decide_eq_true h2) ?_ ?_
  · unfold L2.Loc
    rw [ok.nm]
    split at h1
    · exact .inl (by assumption)
    · exact .inr (by assumption)
    · cases h1
  · rcases h3 with h3 | h3
    · exact .inl (ok.fn x h3)
    · exact .inr (by rw [ok.nm]; exact of_decide_eq_true h3)
theorem OkM.blk (ok : OkM C cv X cx W) {s : Shared} {H : Hp} {scope : Scope} {cl : List (Str × Addr)} {L : Addr} {fp : List Addr} (hk : scope.kind = .function) : OkM (C.blk scope) cv (X.blk s H scope (compEnvC scope cl L X.env) fp) cx WF := by
  refine ⟨ok.N, ok.nd, ?_, hk, fun x h => h, ok.calm, ok.hu, ok.bi, fun f n h => ?_, ok.gls, fun σ pins H s e s' I c => ?_⟩
  · show (relabel scope X.env).names = _
    unfold relabel Cg.blk
    simp only [ok.kd, Env.kindOf, ok.nm]
  · obtain ⟨a, fd, ps, k, h1, h2, h3, h4, h5⟩ := (ok.fns f n h).ex
    exact ⟨⟨a, fd, ps, k, h1, h2, h3, h4, h5⟩⟩
  · obtain ⟨a, B, H', cls, d, _, _, _, _, _, _, _, w⟩ := c
    obtain ⟨c, _, _, f⟩ := w
    exact f.elim
end

/-! ### syntax by syntax -/
def plainT : Expr → Bool
  | .UnaryOp .Not _ _ => false
  | .BoolOp .. => false
  | .IfExp .. => false
  | .Compare .. => false
  | _ => true
theorem plainT_ok {e : Expr} {env : PySem.Env} (h : plainT e = true) (whole : Sem Value) : isTrue e env whole = (do let v ← whole; standAt e.pos; holding [v] (truthy v)) := by
  cases e with
  | UnaryOp op _ _ => cases op <;> first | rfl | cases h
  | BoolOp => cases h
  | IfExp => cases h
  | Compare => cases h
  | _ => rfl
def biN : Bi → String
  | .len => "len" | .int => "int" | .str => "str" | .tuple => "tuple" | .all => "all" | .any => "any" | .sum => "sum" | .max1 => "max" | .min1 => "min" | .max2 => "max" | .min2 => "min" | .abs => "abs"
def biK (f : Bi) : Nat := match f with | .max2 => 2 | .min2 => 2 | .str => 0 | _ => 1
def noStarsA : List Expr → Bool := noStars
def subset (a b : List Nat) : Bool := a.all fun i => b.contains i
mutual
def chkTg (C : Cg) : Tg → Expr → Bool
  | .nm i, e => match e with
    | .Name x _ => tgB C i x
    | _ => false
  | .tp ts, e => match e with
    | .Tuple es _ _ => noStars es && chkTgs C ts es
    | _ => false
def chkTgs (C : Cg) : List Tg → List Expr → Bool
  | [], es => match es with
    | [] => true
    | _ => false
  | t :: ts, es => match es with
    | e :: es => chkTg C t e && chkTgs C ts es
    | [] => false
end
def ownOf (N : List Str) (own : List Nat) : List (Str × Nat) := own.filterMap fun i => (N[i]?).map fun x => (x, i)
mutual
def chkE : Nat → Cg → E → Expr → Bool
  | 0, _, _, _ => false
  | n + 1, C, m, e => match m with
    | .var i => match e with
      | .Name x _ => varB C i x
      | _ => false
    | .con d => match e with
      | .Constant c _ _ => conB d c
      | _ => false
    | .glo x => match e with
      | .Name y _ => decide (x = y) && (glB C x && (C.gls.contains x && noDbg x))
      | _ => false
    | .tup ms => match e with
      | .Tuple es _ _ => chkEs n C ms es
      | _ => false
    | .neg m => match e with
      | .UnaryOp .USub e _ => chkE n C m e
      | _ => false
    | .bin op a b => match e with
      | .BinOp ea o eb _ => decide (o = bopP op) && (chkT n C a ea && chkT n C b eb)
      | _ => false
    | .cmp op a b => match e with
      | .Compare ea [o] [eb] _ => decide (o = copP op) && (notSet eb && (chkT n C a ea && chkT n C b eb))
      | _ => false
    | .chain op op' a b c => match e with
      | .Compare ea [o, o'] [eb, ec] _ => decide (o = copP op) && (decide (o' = copP op') && (notSet ec && (chkT n C a ea && (chkT n C b eb && chkT n C c ec))))
      | _ => false
    | .nt m => match e with
      | .UnaryOp .Not e _ => chkE n C m e
      | _ => false
    | .and_ a b => match e with
      | .BoolOp .And (ea :: [eb]) _ => chkE n C a ea && chkE n C b eb
      | .BoolOp .And (ea :: eb :: es) pos => chkE n C a ea && chkE n C b (.BoolOp .And (eb :: es) pos)
      | _ => false
    | .or_ a b => match e with
      | .BoolOp .Or (ea :: [eb]) _ => chkE n C a ea && chkE n C b eb
      | .BoolOp .Or (ea :: eb :: es) pos => chkE n C a ea && chkE n C b (.BoolOp .Or (eb :: es) pos)
      | _ => false
    | .ite c a b => match e with
      | .IfExp ec ea eb _ => chkB n C c ec && (chkE n C a ea && chkE n C b eb)
      | _ => false
    | .isN neg m => match e with
      | .Compare e [o] [.Constant .none _ _] _ => decide (o = (if neg then CmpOp.IsNot else CmpOp.Is)) && chkE n C m e
      | _ => false
    | .ix a b => match e with
      | .Subscript ea eb _ => notSlice eb && (chkT n C a ea && chkT n C b eb)
      | _ => false
    | .sl a lo hi => match e with
      | .Subscript ea (.Slice el eh none _) _ => chkT n C a ea && (chkO n C lo el && chkO n C hi eh)
      | _ => false
    | .rev a => match e with
      | .Subscript ea (.Slice none none (some (.UnaryOp .USub (.Constant (.int 1) _ _) _)) _) _ => chkT n C a ea
      | _ => false
    | .call f ms => match e with
      | .Call (.Name x _) (e :: es) [] _ => decide (x = f) && (glB C f && (noDbg f && (noStars (e :: es) && (C.fns.contains (f, ms.length) && chkEs n C ms (e :: es)))))
      | _ => false
    | .bi f ts => match e with
      | .Call (.Name x _) (e :: es) [] _ => decide (x = Str.ofString (biN f)) && (freeB C x && (noStars (e :: es) && (decide ((e :: es).length = biK f) && chkTs n C ts (e :: es))))
      | _ => false
    | .mt _ _ _ => false
    | .isi a t => match e with
      | .Call (.Name x _) [ea, .Name y _] [] _ => decide (x = "isinstance") && (decide (y = Str.ofString (tyN t)) && (freeB C x && (freeB C y && (notStar ea && chkT n C a ea))))
      | _ => false
    | .tupR it => match e with
      | .Call (.Name x _) [.Call (.Name y _) es [] _] [] _ => decide (x = "tuple") && (decide (y = "range") && (freeB C x && (freeB C y && (noStars es && chkR n C it es))))
      | _ => false
    | .pop i k => match e with
      | .Call (.Attribute (.Name x _) a apos) es [] cpos => decide (a = "pop") && (varB C i x && ((apos.endLine == cpos.line) && (match k, es with
          | none, [] => true
          | some m, [e] => notStar e && chkE n C m e
          | _, _ => false)))
      | _ => false
    | .fr p => chkP n C p e
def chkB : Nat → Cg → E → Expr → Bool
  | 0, _, _, _ => false
  | n + 1, C, m, e => match e with
    | .UnaryOp .Not e' _ => match m with
      | .nt m => chkB n C m e'
      | _ => false
    | .BoolOp .And (ea :: [eb]) _ => match m with
      | .and_ a b => chkB n C a ea && chkB n C b eb
      | _ => false
    | .BoolOp .And (ea :: eb :: es) pos => match m with
      | .and_ a b => chkB n C a ea && chkB n C b (.BoolOp .And (eb :: es) pos)
      | _ => false
    | .BoolOp .Or (ea :: [eb]) _ => match m with
      | .or_ a b => chkB n C a ea && chkB n C b eb
      | _ => false
    | .BoolOp .Or (ea :: eb :: es) pos => match m with
      | .or_ a b => chkB n C a ea && chkB n C b (.BoolOp .Or (eb :: es) pos)
      | _ => false
    | .Compare ea [o] [eb] _ => match m with
      | .cmp op a b => decide (o = copP op) && (notSet eb && (chkT n C a ea && chkT n C b eb))
      | .isN neg m => match eb with
        | .Constant .none _ _ => decide (o = (if neg then CmpOp.IsNot else CmpOp.Is)) && chkE n C m ea
        | _ => false
      | _ => false
    | .Compare ea [o, o'] [eb, ec] _ => match m with
      | .chain op op' a b c => decide (o = copP op) && (decide (o' = copP op') && (notSet ec && (chkT n C a ea && (chkT n C b eb && chkT n C c ec))))
      | _ => false
    | e => plainT e && chkE n C m e
def chkT : Nat → Cg → T → Expr → Bool
  | 0, _, _, _ => false
  | n + 1, C, t, e => match t with
    | .b i => match e with
      | .Name x _ => varB C i x
      | _ => false
    | .e m => chkE n C m e
def chkEs : Nat → Cg → List E → List Expr → Bool
  | 0, _, _, _ => false
  | n + 1, C, ms, es => match ms with
    | [] => match es with
      | [] => true
      | _ => false
    | m :: ms => match es with
      | e :: es => notStar e && (chkE n C m e && chkEs n C ms es)
      | [] => false
def chkTs : Nat → Cg → List T → List Expr → Bool
  | 0, _, _, _ => false
  | n + 1, C, ms, es => match ms with
    | [] => match es with
      | [] => true
      | _ => false
    | m :: ms => match es with
      | e :: es => notStar e && (chkT n C m e && chkTs n C ms es)
      | [] => false
def chkO : Nat → Cg → Option E → Option Expr → Bool
  | 0, _, _, _ => false
  | n + 1, C, m, e => match m with
    | none => match e with
      | none => true
      | _ => false
    | some m => match e with
      | some e => chkE n C m e
      | none => false
def chkR : Nat → Cg → It → List Expr → Bool
  | 0, _, _, _ => false
  | n + 1, C, it, es => match it with
    | .r1 m => match es with
      | [e] => chkE n C m e
      | _ => false
    | .r2 a b => match es with
      | [ea, eb] => chkE n C a ea && chkE n C b eb
      | _ => false
    | _ => false
def chkIt : Nat → Cg → It → Expr → Expr → Bool
  | 0, _, _, _, _ => false
  | n + 1, C, it, e, tg => match it with
    | .r1 m => match e with
      | .Call (.Name x _) [e] [] _ => decide (x = "range") && (freeB C x && (notStar e && chkE n C m e))
      | _ => false
    | .r2 a b => match e with
      | .Call (.Name x _) [ea, eb] [] _ => decide (x = "range") && (freeB C x && (notStar ea && (notStar eb && (chkE n C a ea && chkE n C b eb))))
      | _ => false
    | .t t => notSet e && chkT n C t e
    | .en _ => false
def chkIfs : Nat → Cg → List E → List Expr → Bool
  | 0, _, _, _ => false
  | n + 1, C, ms, es => match ms with
    | [] => match es with
      | [] => true
      | _ => false
    | m :: ms => match es with
      | [e] => chkB n C m e && ms.isEmpty
      | _ => false
def chkCls : Nat → Cg → List Nat → List Cl → List Comprehension → Bool
  | 0, _, _, _, _ => false
  | n + 1, C, own, cls, gs => match cls with
    | [] => match gs with
      | [] => true
      | _ => false
    | .mk tg it ifs :: cls => match gs with
      | ⟨et, ei, es, 0⟩ :: gs => subset tg.vars own && (chkTg C tg et && (notSet ei && (chkIt n C it ei et && (chkIfs n C ifs es && chkCls n C own cls gs))))
      | _ => false
def chkP : Nat → Cg → P → Expr → Bool
  | 0, _, _, _ => false
  | n + 1, C, p, e => match p with
    | .lst ms => match e with
      | .List es _ => chkEs n C ms es
      | _ => false
    | .comp elt tg it ifs cls own => match e with
      | .ListComp ee (⟨et, ei, es, 0⟩ :: gs) scope _ => blkC C.N C.sc scope (ownOf C.N own) && (decide ((ownOf C.N own).map (·.2) = own) && (notSet ei && (chkIt n C it ei et && (subset tg.vars own && (chkTg (C.blk scope) tg et && (chkIfs n (C.blk scope) ifs es && (chkE n (C.blk scope) elt ee && chkCls n (C.blk scope) own cls gs)))))))
      | _ => false
    | .list t => match e with
      | .Call (.Name x _) [e] [] _ => decide (x = "list") && (freeB C x && (notStar e && chkT n C t e))
      | _ => false
    | .listR it => match e with
      | .Call (.Name x _) [.Call (.Name y _) es [] _] [] _ => decide (x = "list") && (decide (y = "range") && (freeB C x && (freeB C y && (noStars es && chkR n C it es))))
      | _ => false
    | .rep a b => match e with
      | .BinOp ea .Mult eb _ => chkT n C a ea && chkT n C b eb
      | _ => false
    | .cat a b => match e with
      | .BinOp ea .Add eb _ => chkT n C a ea && chkT n C b eb
      | _ => false
    | .sorted t => match e with
      | .Call (.Name x _) [e] [] _ => decide (x = "sorted") && (freeB C x && (notStar e && chkT n C t e))
      | _ => false
    | .set _ => false
    | .dict _ _ => false
end
end MP

namespace MP
open PySem PySem.Spec PyProof.Rows L2
theorem _root_.L2.PI.imp {X : Cx} {tg e : Expr} {t t' : TI} (h : PI X tg e t) (k : ∀ σ H R, t' σ H R → t σ H R) : PI X tg e t' := ⟨fun pins s σ H R I q => h.run pins s σ H R I (k σ H R q)⟩
theorem _root_.L2.PTs.imp {X : Cx} {es : List Expr} {t t' : TT} (h : PTs X es t) (k : ∀ σ H R, t' σ H R → t σ H R) : PTs X es t' := ⟨fun pins s σ H R I q => h.run pins s σ H R I (k σ H R q)⟩
section
variable {C : Cg} {cv : Str → Value} {X : Cx} {cx : Cxt} {W : Wish}

theorem starsA {e : Expr} {es : List Expr} (h : noStars (e :: es) = true) : notStar e = true ∧ noStars es = true := by
  rw [noStars, Bool.and_eq_true] at h
  exact h
/-! ### what a for walks -/
theorem walk_rng {K : PySem.W.Frag} {G H : Hp} {lo hi : Int} : Walk K G H (fun _ => False) (Itr lo (hi - lo).toNat) (rng lo hi) := by
  refine ⟨fun i d e G' H' s1 s2 _ => ?_, fun G' H' s1 s2 _ => ?_⟩
  · unfold rng at e
    rw [List.getElem?_map, Option.map_eq_some_iff] at e
    obtain ⟨j, h1, rfl⟩ := e
    obtain ⟨lt, h2⟩ := List.getElem?_eq_some_iff.mp h1
    rw [List.length_range] at lt
    rw [List.getElem_range] at h2
    subst h2
    refine ⟨lt, fun x H'' y => ?_⟩
    obtain ⟨y1, y2⟩ := y
    subst y1 y2
    exact ⟨G', .refl s2, .int _⟩
  · show (hi - lo).toNat ≤ (rng lo hi).length
    unfold rng
    rw [List.length_map, List.length_range]
    exact Nat.le_refl _
theorem walk_lst {K : PySem.W.Frag} {G H : Hp} {S : Addr → Prop} {a : Addr} {vs : List V} {ds : List D} (r : RepL K G vs ds) (h : ∀ G' H', Sub G G' → Sub G' H' → Keep S H H' → SqL K H' a vs) : Walk K G H S (Itl K a) ds := by
  refine ⟨fun i d e G' H' s1 s2 k => ?_, fun G' H' s1 s2 k => ?_⟩
  · obtain ⟨v, h1, h2⟩ := r.get e
    have q := h G' H' s1 s2 k
    refine ⟨⟨vs, v, q, h1⟩, fun x H'' y => ?_⟩
    obtain ⟨y1, y2⟩ := y
    subst y1
    have := y2 vs q
    rw [h1] at this
    cases this
    exact ⟨G', .refl s2, h2.mono s1⟩
  · exact ⟨vs, h G' H' s1 s2 k, by rw [r.length]; exact Nat.le_refl _⟩
theorem walk_tup {K : PySem.W.Frag} {G H : Hp} {S : Addr → Prop} {a : Addr} {vs : List V} {ds : List D} (r : RepL K G vs ds) (h : SqT K G a vs) : Walk K G H S (Itt K a) ds := by
  refine ⟨fun i d e G' H' s1 s2 k => ?_, fun G' H' s1 s2 k => ?_⟩
  · obtain ⟨v, h1, h2⟩ := r.get e
    have q := (s1.trans s2).sqT h
    refine ⟨⟨vs, v, q, h1⟩, fun x H'' y => ?_⟩
    obtain ⟨y1, y2⟩ := y
    subst y1
    have := y2 vs q
    rw [h1] at this
    cases this
    exact ⟨G', .refl s2, h2.mono s1⟩
  · exact ⟨vs, (s1.trans s2).sqT h, by rw [r.length]; exact Nat.le_refl _⟩
theorem smallI_lt {i : Int} (h : smallI i = true) : -(2 ^ 62) ≤ i ∧ i < 2 ^ 62 := by
  unfold smallI at h
  rw [Bool.and_eq_true] at h
  exact ⟨of_decide_eq_true h.1, of_decide_eq_true h.2⟩
theorem ti_r1 {tg e : Expr} {m : E} {p pos : Pos} (hg : Gl X "range") (hm : X.mg "range" = none) (hs : notStar e = true) (h : PE X e (tE cx X.K W m)) : PI X tg (.Call (.Name "range" p) [e] [] pos) (tI cx X.K W (.r1 m)) :=
  (pi_range1 hg hm (pa_cons h pa_nil (starEach_cons hs)) (starEach_cons hs)).imp fun σ H R ⟨G, ρ, g, e⟩ => by
    rw [evIt] at e
    refine ⟨G, ρ, g, e.bind.mono fun d G1 H1 ρ1 _ g1 f1 e1 v rv => ?_⟩
    split at e1
    · split at e1
      · rename_i i _ hi
        cases rv
        obtain ⟨a, b⟩ := smallI_lt hi
        refine ⟨i, rfl, a, b, ?_⟩
        have := walk_rng (K := X.K) (G := G1) (H := H1) (lo := 0) (hi := i)
        rw [Int.sub_zero] at this
        exact e1 G1 H1 g1 .refl _ _ (fun _ z => z.elim) this
      · exact e1.elim
    · exact e1.elim
theorem ti_r2 {tg ea eb : Expr} {a b : E} {p pos : Pos} (hg : Gl X "range") (hm : X.mg "range" = none) (hs : notStar ea = true) (hs2 : notStar eb = true) (ha : PE X ea (tE cx X.K W a)) (hb : PE X eb (tE cx X.K W b)) : PI X tg (.Call (.Name "range" p) [ea, eb] [] pos) (tI cx X.K W (.r2 a b)) :=
  (pi_range2 hg hm (pa_cons ha (pa_cons hb pa_nil (starEach_cons hs2)) (starEach_cons hs)) (by rw [starEach_cons hs, starEach_cons hs2]; rfl) (starEach_cons hs2)).imp fun σ H R ⟨G, ρ, g, e⟩ => by
    rw [evIt] at e
    refine ⟨G, ρ, g, e.bind.mono fun x G1 H1 ρ1 _ g1 f1 e1 v rv => ⟨G1, ρ1, g1, e1.bind.mono fun y G2 H2 ρ2 _ g2 f2 e2 w rw' => ?_⟩⟩
    split at e2
    · split at e2
      · rename_i i j _ _ hi
        rw [Bool.and_eq_true] at hi
        cases rv; cases rw'
        obtain ⟨a, b⟩ := smallI_lt hi.1
        obtain ⟨c, d⟩ := smallI_lt hi.2
        exact ⟨i, j, rfl, ⟨a, b, c, d⟩, e2 G2 H2 g2 .refl _ _ (fun _ z => z.elim) walk_rng⟩
      · exact e2.elim
    · exact e2.elim
/-- a list or a tuple -/
def iSeq (K : PySem.W.Frag) (tl : TE) : TI := fun σ H R => tl σ H fun x H1 => ∃ a, x = .ref a ∧ (((∃ xs, SqL K H1 a xs) ∧ R (Itl K a) H1) ∨ ((∃ xs, SqT K H1 a xs) ∧ R (Itt K a) H1))
theorem pi_seqM {tg l : Expr} {tl : TE} (hl : PE X l tl) : PI X tg l (iSeq X.K tl) := ⟨fun pins s σ H R I h => thn (hl.run pins s σ H _ I h) fun v s1 ⟨x, H1, I1, r1, q1⟩ => by
  obtain ⟨a, rfl, q⟩ := q1
  cases r1
  have hf : ∀ b ∈ [s1.heap.objs.size], FpOk X pins H1 b := fun b hb => by
    obtain rfl : b = s1.heap.objs.size := by simpa using hb
    exact I1.fpOk (Nat.le_refl _) (I1.hok.fresh (Nat.le_refl _))
  rcases q with ⟨⟨xs, hq⟩, q⟩ | ⟨⟨xs, hq⟩, q⟩
  · obtain ⟨its, rv, p, hz⟩ := I1.list hq
    exact wpAny_pyIter_list p.isList ⟨s1.heap.objs.size, [s1.heap.objs.size], _, Itl X.K a, H1, rfl, I1.kept (t' := s1.toks) fun b o e => Heap.get?_push_of_some _ e, turn_list a _, ⟨_, Heap.get?_push_size _ rfl, rfl, rfl⟩, hf, q⟩
  · obtain ⟨its, rv, p, hz⟩ := I1.tuple hq
    exact wpAny_pyIter_tuple (show s1.heap.IsTuple a its.toArray from p) ⟨s1.heap.objs.size, [s1.heap.objs.size], _, Itt X.K a, H1, rfl, I1.kept (t' := s1.toks) fun b o e => Heap.get?_push_of_some _ e, turn_tuple a _, ⟨_, Heap.get?_push_size _ rfl, rfl, rfl⟩, hf, q⟩⟩
/-- what may be walked, from a view in a frame that locks it -/
theorem walk_view {K : PySem.W.Frag} {G H : Hp} {σ : L2.St} {ρ : Env} {it : It} {t : T} {v : V} {x d : D} {ds : List D} {R : L2.It → Hp → Prop} (g : Good K G H σ ρ) (hit : ∀ i, t = .b i → itSlot it = some i) (tv : TView K G σ t v x) (e : t.res x ρ = some d) (hd : itemsD d = some ds)
    (q : ∀ J S, (∀ a, S a → LkAt σ (lockT it ρ) a) → Walk K G H S J ds → R J H) : ∃ a, v = .ref a ∧ (((∃ xs, SqL K H a xs) ∧ R (Itl K a) H) ∨ ((∃ xs, SqT K H a xs) ∧ R (Itt K a) H)) := by
  have vw := tv.view (Sub.refl _) g e
  have frz : ∀ {v : V}, Rep K G v d → ∃ a, v = .ref a ∧ (((∃ xs, SqL K H a xs) ∧ R (Itl K a) H) ∨ ((∃ xs, SqT K H a xs) ∧ R (Itt K a) H)) := fun {v} r => by
    cases r with
    | tup h r =>
      cases hd
      exact ⟨_, rfl, .inr ⟨⟨_, g.sub.sqT h⟩, q _ (fun _ => False) (fun _ z => z.elim) (walk_tup r h)⟩⟩
    | lst h r =>
      cases hd
      exact ⟨_, rfl, .inl ⟨⟨_, SqL.of (g.sub _ _ h)⟩, q _ (fun _ => False) (fun _ z => z.elim) (walk_lst r fun G' H' s1 s2 _ => SqL.of (s2 _ _ (s1 _ _ h)))⟩⟩
    | _ => cases hd
  rcases vw with r | ⟨a, rfl, hn, o⟩
  · exact frz r
  · cases o with
    | lst h r =>
      cases hd
      cases t with
      | e m =>
        cases (show some x = some _ from e)
        exact frz tv
      | b i =>
        have hs : σ[i]? = some (some (.ref a)) := tv
        have hb : ρ.bo i = some (.lst ds) := e
        have lk : LkAt σ (lockT it ρ) a := by
          rw [lockT_eq, hit i rfl]
          show LkAt σ (lock ρ i) a
          unfold Env.bo at hb
          split at hb <;> cases hb
          · rename_i h1
            obtain ⟨v, h2, h3⟩ := g.fr i _ h1
            rw [hs] at h2; cases h2
            cases h3 with
            | lst h4 _ => rw [hn] at h4; cases h4
          · rename_i h1
            refine ⟨i, .lst ds, ?_, hs⟩
            unfold lock
            rw [h1]
            exact List.getElem?_set_self (List.getElem?_eq_some_iff.mp h1).1
          · rename_i h1
            refine ⟨i, .lst ds, ?_, hs⟩
            unfold lock
            rw [h1]
            exact h1
        exact ⟨a, rfl, .inl ⟨⟨_, SqL.of h⟩, q _ (fun b => b = a) (fun b hb => by rw [hb]; exact lk) (walk_lst r fun G' H' s1 s2 k => SqL.of (k a _ rfl h))⟩⟩
theorem ti_t {tg e : Expr} {t : T} (h : PE X e (tT cx X.K W t)) : PI X tg e (tI cx X.K W (.t t)) := (pi_seqM h).imp fun σ H R ⟨G, ρ, g, e⟩ => by
  rw [evIt] at e
  refine ⟨G, ρ, g, e.bind.mono fun x G1 H1 ρ1 _ g1 f1 e1 v tv => ?_⟩
  cases qd : t.res x ρ1 with
  | none => rw [qd] at e1; exact e1.elim
  | some d =>
    rw [qd] at e1
    cases qi : itemsD d with
    | none => simp only [Option.bind_some, qi] at e1; exact e1.elim
    | some ds =>
      simp only [Option.bind_some, qi] at e1
      exact walk_view g1 (fun i h => by rw [h]; rfl) tv qd qi (e1 G1 H1 g1 .refl)
/-- a clause's tests -/
theorem ts_nil : PTs X [] (tIfs cx X.K W []) := pts_nil.imp fun σ H Q ⟨G, ρ, g, e⟩ => by
  rw [evIfs] at e
  exact e G H g .refl
theorem ts_one {c : Expr} {m : E} (h : PT X c (MP.tB cx X.K W m)) : PTs X [c] (tIfs cx X.K W [m]) := (pts_one h).imp fun σ H Q ⟨G, ρ, g, e⟩ => by
  rw [evIfs] at e
  refine ⟨G, ρ, g, e.bind.mono fun d G1 H1 ρ1 _ g1 f1 e1 => ?_⟩
  split at e1
  · rw [evIfs] at e1
    exact ⟨true, rfl, e1 G1 H1 g1 .refl⟩
  · exact ⟨false, rfl, e1 G1 H1 g1 .refl⟩
  · exact e1.elim

/-! ### calls -/
theorem evs_len : ∀ {ms : List E} {ρ ρ' : Env} {ds : List D}, evs cx ms ρ = .ok ds ρ' → ds.length = ms.length
  | [], ρ, ρ', ds, h => by
    rw [evs] at h
    cases h; rfl
  | m :: ms, ρ, ρ', ds, h => by
    rw [evs] at h
    obtain ⟨d, ρ1, h1, h2⟩ := bind_ok h
    obtain ⟨ds1, ρ2, h3, h4⟩ := bind_ok h2
    cases h4
    rw [List.length_cons, List.length_cons, evs_len h3]
theorem ce_callM (ok : OkM C cv X cx W) {f : Str} {p pos : Pos} {e : Expr} {es : List Expr} {ms : List E} (hg : glB C f = true) (hd : noDbg f = true) (hs : noStars (e :: es) = true) (hf : (f, ms.length) ∈ C.fns) (h : PA X (e :: es) (tEs cx X.K W ms)) :
    PE X (.Call (.Name f p) (e :: es) [] pos) (tE cx X.K W (.call f ms)) := by
  obtain ⟨a, fd, ps, k, F, room, gm, kp, bd⟩ := (ok.fns _ _ hf).ex
  obtain ⟨s1, s2⟩ := starsA hs
  refine (pe_callSD (dvs := []) F room (ok.gl hg) gm kp bd .nil ok.ex h (noDbg1 hd).1 (starEach_cons s1) (noStars_any s2)).imp fun σ H Q ⟨G, ρ, g, e⟩ => ?_
  rw [ev] at e
  refine ⟨G, ρ, g, e.bind.mono fun ds G1 H1 ρ1 hev g1 f1 e1 vs rs => ?_⟩
  show spF X.K cv cx.cf f ms.length (vs ++ []) H1 Q (WE (wxM cv W) σ)
  rw [List.append_nil]
  refine ⟨G1, ds, g1.sub, rs, by rw [rs.length, evs_len hev], ?_⟩
  cases q : cx.cf f ds with
  | fail => rw [q] at e1; exact e1.elim
  | exc c =>
    rw [q] at e1
    intro G2 H2 x
    exact ⟨c, rfl, rfl, e1 G2 H2 (g1.ext x) (.ext x)⟩
  | ok d =>
    rw [q] at e1
    intro G2 H2 v x rv
    exact e1 G2 H2 (g1.ext x) (.ext x) v rv
theorem evTs_len : ∀ {ts : List T} {ρ ρ' : Env} {xs : List D}, evTs cx ts ρ = .ok xs ρ' → xs.length = ts.length
  | [], ρ, ρ', ds, h => by
    rw [evTs] at h
    cases h; rfl
  | m :: ms, ρ, ρ', ds, h => by
    rw [evTs] at h
    obtain ⟨d, ρ1, h1, h2⟩ := bind_ok h
    obtain ⟨ds1, ρ2, h3, h4⟩ := bind_ok h2
    cases h4
    rw [List.length_cons, List.length_cons, evTs_len h3]
theorem resL_len : ∀ {ts : List T} {xs ds : List D} {ρ : Env}, resL ts xs ρ = some ds → ds.length = ts.length
  | [], [], ds, ρ, h => by cases h; rfl
  | [], _ :: _, _, _, h => by cases h
  | _ :: _, [], _, _, h => by cases h
  | t :: ts, x :: xs, ds, ρ, h => by
    rw [resL, Option.bind_eq_some_iff] at h
    obtain ⟨y, h1, h2⟩ := h
    rw [Option.map_eq_some_iff] at h2
    obtain ⟨z, h3, rfl⟩ := h2
    rw [List.length_cons, List.length_cons, resL_len h3]
theorem rn_imp {K : PySem.W.Frag} {f f' : List D → Option D} {n : Nat} (hf : ∀ ds, ds.length = n → f ds = f' ds) {vs : List V} {H : Hp} {Q : VK} {G : Hp} {ds : List D} {r : D} (s : Sub G H) (vw : ViewL K G H vs ds) (hl : ds.length = n) (e : f ds = some r) (q : After K G H Q r) : rn K f' vs H Q :=
  ⟨G, ds, r, s, vw, by rw [← hf ds hl]; exact e, q⟩
theorem biD_r1 {f : Bi} {g : D → Option D} (h : ∀ d, biD f [d] = g d) : ∀ ds : List D, ds.length = 1 → biD f ds = r1 g ds
  | [d], _ => h d
theorem biD_r2 {f : Bi} {g : D → D → Option D} (h : ∀ d e, biD f [d, e] = g d e) : ∀ ds : List D, ds.length = 2 → biD f ds = r2l g ds
  | [d, e], _ => h d e
theorem ce_biM {f : Bi} {ts : List T} {e : Expr} {es : List Expr} {g : List D → Option D} {x : Str} {p pos : Pos} {n : Nat} (hn : ts.length = n) (hg : ∀ ds, ds.length = n → biD f ds = g ds) (h : PE X (.Call (.Name x p) (e :: es) [] pos) (tCB (rn X.K g) (tTs cx X.K W ts))) :
    PE X (.Call (.Name x p) (e :: es) [] pos) (tE cx X.K W (.bi f ts)) := h.imp fun σ H Q ⟨G, ρ, gd, e⟩ => by
  rw [ev] at e
  refine ⟨G, ρ, gd, e.bind.mono fun xs G1 H1 ρ1 hev g1 f1 e1 vs tv => ?_⟩
  split at e1
  · rename_i ds h1
    cases q : biD f ds with
    | none => rw [q] at e1; exact e1.elim
    | some r =>
      rw [q] at e1
      refine rn_imp hg g1.sub (tv.view g1 h1) (by rw [resL_len h1, hn]) q fun G3 H3 v x rp => e1 G3 H3 (g1.ext x) (.ext x) v rp
  · exact e1.elim
theorem ce_biAll (ok : OkM C cv X cx W) {f : Bi} {ts : List T} {e : Expr} {es : List Expr} {x : Str} {p pos : Pos} (hx : x = Str.ofString (biN f)) (hf : freeB C x = true) (hs : noStars (e :: es) = true) (hl : ts.length = biK f) (h : PA X (e :: es) (tTs cx X.K W ts)) :
    PE X (.Call (.Name x p) (e :: es) [] pos) (tE cx X.K W (.bi f ts)) := by
  obtain ⟨gl, gm, d1, d2⟩ := ok.free hf
  obtain ⟨s1, s2⟩ := starsA hs
  have hb : ∀ {id : String} {g : List D → Option D} {n : Nat}, ts.length = n → (∀ ds, ds.length = n → biD f ds = g ds) → CallR X (.builtin id) (rn X.K g) → bootBuiltins x = some (.builtin id) → PE X (.Call (.Name x p) (e :: es) [] pos) (tE cx X.K W (.bi f ts)) := fun hn hg c b =>
    ce_biM hn hg (pe_callB c gl gm b h d1 d2 (starEach_cons s1) (noStars_any s2))
  have hT : ∀ {T : String} {g : List D → Option D} {n : Nat}, ts.length = n → (∀ ds, ds.length = n → biD f ds = g ds) → CallR X (.type T) (rn X.K g) → bootBuiltins x = some (.type T) → PE X (.Call (.Name x p) (e :: es) [] pos) (tE cx X.K W (.bi f ts)) := fun hn hg c b =>
    ce_biM hn hg (pe_callTy c gl gm b h d1 d2 (starEach_cons s1) (noStars_any s2))
  subst hx
  cases f with
  | len => exact hb hl (biD_r1 fun _ => rfl) ca_len (by decide +kernel)
  | int => exact hT hl (biD_r1 fun _ => rfl) ca_int (by decide +kernel)
  | str =>
    have : ts = [] := List.length_eq_zero_iff.mp hl
    subst this
    exact ce_biM (g := fun _ => none) (n := 0) rfl (fun ds h => by rw [List.length_eq_zero_iff.mp h]; rfl) (pe_callTy (T := "str") (fun _ _ _ _ _ _ _ _ _ ⟨_, _, _, _, _, z, _⟩ => by cases z) gl gm (by decide +kernel) h d1 d2 (starEach_cons s1) (noStars_any s2))
  | tuple => exact hT hl (biD_r1 fun _ => rfl) ca_tuple (by decide +kernel)
  | all => exact hb hl (biD_r1 fun _ => rfl) (ca_all ok.calm) (by decide +kernel)
  | any => exact hb hl (biD_r1 fun _ => rfl) (ca_any ok.calm) (by decide +kernel)
  | sum => exact hb hl (biD_r1 fun _ => rfl) (ca_sum ok.calm) (by decide +kernel)
  | max1 => exact hb hl (biD_r1 fun _ => rfl) (ca_max1 ok.calm) (by decide +kernel)
  | min1 => exact hb hl (biD_r1 fun _ => rfl) (ca_min1 ok.calm) (by decide +kernel)
  | max2 => exact hb hl (biD_r2 fun _ _ => rfl) (ca_max2 ok.calm) (by decide +kernel)
  | min2 => exact hb hl (biD_r2 fun _ _ => rfl) (ca_min2 ok.calm) (by decide +kernel)
  | abs => exact hb hl (biD_r1 fun _ => rfl) ca_abs (by decide +kernel)
theorem ce_isiM (ok : OkM C cv X cx W) {a : T} {t : Ty} {ea : Expr} {p q pos : Pos} (hx : freeB C "isinstance" = true) (hy : freeB C (Str.ofString (tyN t)) = true) (hs : notStar ea = true) (h : PE X ea (tT cx X.K W a)) :
    PE X (.Call (.Name "isinstance" p) [ea, .Name (Str.ofString (tyN t)) q] [] pos) (tE cx X.K W (.isi a t)) := by
  obtain ⟨gl, gm, d1, d2⟩ := ok.free hx
  obtain ⟨gl2, gm2, e1, e2⟩ := ok.free hy
  have bt : bootBuiltins (Str.ofString (tyN t)) = some (.type (tyN t)) := by cases t <;> decide +kernel
  have ty : PE X (.Name (Str.ofString (tyN t)) q) (tC (.ty (tyN t))) := pe_bltn gl2 gm2 bt rfl e1 e2
  refine (pe_callB (cr_isM (t := t)) gl gm boot_isinstance (pa_cons h (pa_cons ty pa_nil rfl) (starEach_cons hs)) d1 d2 (starEach_cons hs) rfl).imp fun σ H Q ⟨G, ρ, g, e⟩ => ?_
  rw [ev] at e
  refine ⟨G, ρ, g, e.bind.mono fun x G1 H1 ρ1 _ g1 f1 e1 v tv => ?_⟩
  split at e1
  · rename_i d h1
    cases q : isiD d t with
    | none => rw [q] at e1; exact e1.elim
    | some b =>
      rw [q] at e1
      exact ⟨G1, v, d, b, rfl, g1.sub, tv.view (Sub.refl _) g1 h1, q, e1 G1 H1 g1 .refl _ (.bl b)⟩
  · exact e1.elim
end
end MP

namespace MP
open PySem PySem.Spec PyProof.Rows L2
section
variable {C : Cg} {cv : Str → Value} {X : Cx} {cx : Cxt} {W : Wish}

/-! ### a list of the frame's own is changed -/
theorem own_of {ρ : Env} {i : Nat} {d : D} (h : ρ.own i = some d) : ρ[i]? = some (.ow d) := by
  unfold Env.own at h
  split at h
  · rename_i q
    cases h; exact q
  · cases h
theorem Good.chg {K : PySem.W.Frag} {G H : Hp} {σ : L2.St} {ρ : Env} {i : Nat} {d : D} {a : Addr} {vs : List V} {ds : List D} (g : Good K G H σ ρ) (h : ρ[i]? = some (.ow d)) (hs : σ[i]? = some (some (.ref a))) (r : RepL K G vs ds) :
    Good K G (upd H a (.lst vs)) σ (ρ.set i (.ow (.lst ds))) ∧ Fr G H σ ρ G (upd H a (.lst vs)) σ (ρ.set i (.ow (.lst ds))) := by
  have hl : i < ρ.length := (List.getElem?_eq_some_iff.mp h).1
  have at_ : ∀ {j : Nat} {x : Sl}, (ρ.set i (.ow (.lst ds)))[j]? = some x → (j = i ∧ x = .ow (.lst ds)) ∨ (j ≠ i ∧ ρ[j]? = some x) := fun {j x} e => by
    rw [List.getElem?_set] at e
    by_cases q : i = j
    · subst q
      rw [if_pos rfl, if_pos hl] at e
      cases e
      exact .inl ⟨rfl, rfl⟩
    · rw [if_neg q] at e
      exact .inr ⟨fun z => q z.symm, e⟩
  obtain ⟨b, e1, hn, o⟩ := g.ow i d (.inl h)
  rw [hs] at e1; cases e1
  have oth : ∀ {j : Nat} {e : D} {b : Addr}, j ≠ i → holds ρ j e → σ[j]? = some (some (.ref b)) → b ≠ a := fun {j e b} n hj hb q => by
    subst q
    exact n (g.sep j i b e d hj (.inl h) hb hs)
  refine ⟨⟨by rw [List.length_set]; exact g.len, fun b u e => ?_, fun j e q => ?_, fun j e q => ?_, fun j l b e f q1 q2 h1 h2 => ?_⟩, ⟨Sub.refl _, fun b u e n => ?_, fun b n => ?_, fun b n => .inl n, fun b ⟨j, e, q, hb⟩ => ?_, fun j e q => ?_⟩⟩
  · rw [upd_ne fun q => by rw [q, hn] at e; cases e]
    exact g.sub b u e
  · rcases at_ q with ⟨_, q⟩ | ⟨_, q⟩
    · cases q
    · exact g.fr j e q
  · by_cases ji : j = i
    · subst ji
      rcases q with q | q
      · rcases at_ q with ⟨_, q⟩ | ⟨q, _⟩
        · cases q
          exact ⟨a, hs, hn, .lst upd_same r⟩
        · exact absurd rfl q
      · rcases at_ q with ⟨_, q⟩ | ⟨q, _⟩
        · cases q
        · exact absurd rfl q
    · have hj : holds ρ j e := by
        rcases q with q | q
        · rcases at_ q with ⟨z, _⟩ | ⟨_, q⟩
          · exact absurd z ji
          · exact .inl q
        · rcases at_ q with ⟨z, _⟩ | ⟨_, q⟩
          · exact absurd z ji
          · exact .inr q
      obtain ⟨b, h1, h2, h3⟩ := g.ow j e hj
      exact ⟨b, h1, h2, h3.put (oth ji hj h1)⟩
  · have hh : ∀ {j : Nat} {e : D}, ((ρ.set i (.ow (.lst ds)))[j]? = some (.ow e) ∨ (ρ.set i (.ow (.lst ds)))[j]? = some (.lk e)) → ∃ e', holds ρ j e' := fun {j e} q => by
      rcases q with q | q
      · rcases at_ q with ⟨z, _⟩ | ⟨_, q⟩
        · exact ⟨d, .inl (by rw [z]; exact h)⟩
        · exact ⟨e, .inl q⟩
      · rcases at_ q with ⟨z, _⟩ | ⟨_, q⟩
        · exact ⟨d, .inl (by rw [z]; exact h)⟩
        · exact ⟨e, .inr q⟩
    obtain ⟨e', z1⟩ := hh q1
    obtain ⟨f', z2⟩ := hh q2
    exact g.sep j l b e' f' z1 z2 h1 h2
  · rw [upd_ne fun q => n (by rw [q]; exact ⟨i, d, h, hs⟩)]
    exact e
  · by_cases q : b = a
    · subst q; rw [upd_same]; simp
    · rw [upd_ne q]; exact n
  · rcases at_ q with ⟨z, _⟩ | ⟨_, q⟩
    · subst z
      exact .inl ⟨j, d, h, hb⟩
    · exact .inl ⟨j, e, q, hb⟩
  · rcases at_ q with ⟨_, q⟩ | ⟨_, q⟩
    · cases q
    · exact ⟨⟨e, q⟩, rfl⟩
theorem Good.ownAt {K : PySem.W.Frag} {G H : Hp} {σ : L2.St} {ρ : Env} {i : Nat} {ds : List D} (g : Good K G H σ ρ) (h : ρ.own i = some (.lst ds)) : ∃ a vs, ρ[i]? = some (.ow (.lst ds)) ∧ σ[i]? = some (some (.ref a)) ∧ H a = some (.lst vs) ∧ RepL K G vs ds := by
  have h := own_of h
  obtain ⟨a, e1, hn, o⟩ := g.ow i _ (.inl h)
  cases o with
  | lst e r => exact ⟨a, _, h, e1, e, r⟩
theorem ixN_seq {n : Nat} {k : Int} {j : Nat} (h : ixN n k = some j) : seqIndex? k n = some j ∧ -(n : Int) ≤ k ∧ k < n := by
  unfold ixN at h
  split at h
  · split at h <;> cases h
    rename_i a b
    have e : (if k < 0 then k + (n : Int) else k) = k := if_neg (by omega)
    refine ⟨?_, by omega, b⟩
    unfold seqIndex?
    simp only [e]
    simp [a, b]
  · split at h <;> cases h
    rename_i a b
    have e : (if k < 0 then k + (n : Int) else k) = k + n := if_pos (by omega)
    refine ⟨?_, b, by omega⟩
    unfold seqIndex?
    simp only [e]
    have c1 : 0 ≤ k + (n : Int) := by omega
    have c2 : k < 0 := by omega
    have c3 : k + (n : Int) < n := by omega
    simp [c1, c3]
theorem Good.ownRef {K : PySem.W.Frag} {G H : Hp} {σ : L2.St} {ρ : Env} {i : Nat} (g : Good K G H σ ρ) (h : (ρ.own i).isSome = true) : ∃ a vs, σ[i]? = some (some (.ref a)) ∧ H a = some (.lst vs) := by
  rw [Option.isSome_iff_exists] at h
  obtain ⟨d, h⟩ := h
  obtain ⟨a, e1, hn, o⟩ := g.ow i _ (.inl (own_of h))
  cases o with
  | lst e r => exact ⟨a, _, e1, e⟩
theorem ce_pop0 (ok : OkM C cv X cx W) {i : Nat} {x : Str} {p apos cpos : Pos} (hv : varB C i x = true) (hl : (apos.endLine == cpos.line) = true) : PE X (.Call (.Attribute (.Name x p) "pop" apos) [] [] cpos) (tE cx X.K W (.pop i none)) :=
  (pe_bm0 PySem.F.plainAttrs_list PySem.F.slot_list_pop PySem.F.type_list_pop mt_pop (ok.var hv) rfl hl).imp fun σ H Q ⟨G, ρ, g, e⟩ => by
    rw [ev] at e
    split at e
    · rw [evO] at e
      have e : Ev X.K W G H σ ρ (popR i none ρ) _ := e
      unfold popR at e
      split at e
      · rename_i ds ho
        have e : Ev X.K W G H σ ρ (match ds.getLast? with
          | some x => .ok x (ρ.set i (.ow (.lst ds.dropLast)))
          | none => .fail) _ := e
        split at e
        · rename_i y hy
          obtain ⟨a, vs, h1, h2, h3, r⟩ := g.ownAt ho
          rw [List.getLast?_eq_getElem?] at hy
          obtain ⟨v, h4, h5⟩ := r.get hy
          obtain ⟨g1, f1⟩ := g.chg h1 h2 r.dropLast
          exact ⟨.ref a, h2, .inl ⟨rfl, vs, SqL.of h3⟩, a, vs, v, rfl, rfl, h3, by rw [r.length]; exact h4, e G _ g1 f1 v h5⟩
        · exact e.elim
      · exact e.elim
    · exact e.elim
theorem ce_pop1 (ok : OkM C cv X cx W) {i : Nat} {x : Str} {p apos cpos : Pos} {k : E} {ek : Expr} (hv : varB C i x = true) (hl : (apos.endLine == cpos.line) = true) (hs : notStar ek = true) (h : PE X ek (tE cx X.K W k)) : PE X (.Call (.Attribute (.Name x p) "pop" apos) [ek] [] cpos) (tE cx X.K W (.pop i (some k))) :=
  (pe_bm PySem.F.plainAttrs_list PySem.F.slot_list_pop PySem.F.type_list_pop mt_popAt (ok.var hv) (pa_cons h pa_nil (starEach_cons hs)) rfl (by rw [starEach_cons hs]; rfl) hl (starEach_cons hs) rfl).imp fun σ H Q ⟨G, ρ, g, e⟩ => by
    rw [ev] at e
    split at e
    · rename_i hsome
      obtain ⟨a, vs0, hs0, hH0⟩ := g.ownRef hsome
      rw [evO] at e
      refine ⟨.ref a, hs0, .inl ⟨rfl, vs0, SqL.of hH0⟩, G, ρ, g, e.bind.bind.mono fun d G1 H1 ρ1 _ g1 f1 e1 v rv => ?_⟩
      split at e1
      · rename_i kk _
        cases rv
        have e1 : Ev X.K W G1 H1 σ ρ1 (popR i (some kk) ρ1) _ := e1 G1 H1 g1 .refl
        unfold popR at e1
        split at e1
        · rename_i ds ho
          have e1 : Ev X.K W G1 H1 σ ρ1 (if ds.length ≤ lim then match ixN ds.length kk with
            | some j => match ds[j]? with
              | some x => .ok x (ρ1.set i (.ow (.lst (ds.eraseIdx j))))
              | none => .fail
            | none => .fail
            else .fail) _ := e1
          split at e1
          · rename_i hlim
            split at e1
            · rename_i j hj
              split at e1
              · rename_i y hy
                obtain ⟨a', vs, h1, h2, h3, r⟩ := g1.ownAt ho
                rw [hs0] at h2
                cases h2
                obtain ⟨w, h4, h5⟩ := r.get hy
                obtain ⟨g2, f2⟩ := g1.chg h1 hs0 (r.eraseIdx j)
                obtain ⟨q1, q2, q3⟩ := ixN_seq hj
                have lm : lim = 16777216 := rfl
                exact ⟨a, vs, kk, j, w, rfl, rfl, h3, by omega, by omega, by rw [r.length]; exact q1, h4, e1 G1 _ g2 f2 w h5⟩
              · exact e1.elim
            · exact e1.elim
          · exact e1.elim
        · exact e1.elim
      · exact e1.elim
    · exact e.elim
theorem ce_revM {a : T} {ea : Expr} {k : Nat} {p1 p2 p3 pos : Pos} (h : PE X ea (tT cx X.K W a)) : PE X (.Subscript ea (.Slice none none (some (.UnaryOp .USub (.Constant (.int 1) k p1) p2)) p3) pos) (tE cx X.K W (.rev a)) := (pe_revL h).imp fun σ H Q ⟨G, ρ, g, e⟩ => by
  rw [ev] at e
  refine ⟨G, ρ, g, e.bind.mono fun x G1 H1 ρ1 _ g1 f1 e1 v tv => ?_⟩
  split at e1
  · rename_i d h1
    cases q : revD d with
    | none => rw [q] at e1; exact e1.elim
    | some r =>
      rw [q] at e1
      have vw := tv.view (Sub.refl _) g1 h1
      unfold revD at q
      split at q <;> cases q
      obtain ⟨b, vs, rfl, h2, r2⟩ := vw.lst g1.sub
      refine ⟨b, vs, rfl, SqL.of h2, fun p hp => ?_⟩
      have af : After X.K G1 H1 Q (.lst _) := fun G3 H3 v x rp => e1 G3 H3 (g1.ext x) (.ext x) v rp
      exact af.lst g1.sub r2.reverse hp
  · exact e1.elim
/-! ### ranges -/
def tRgM (cx : Cxt) (K : PySem.W.Frag) (W : Wish) (it : It) : L2.St → Hp → (Int → Int → Hp → Prop) → Prop := fun σ H Q => ∃ G ρ, Good K G H σ ρ ∧ Ev K W G H σ ρ (evIt cx it ρ) fun xs _ H' _ => ∀ a b, xs = rng a b → smallI a = true → smallI b = true → Q a b H'
theorem prg_r1 {e : Expr} {m : E} {p pos : Pos} (hg : Gl X "range") (hm : X.mg "range" = none) (hs : notStar e = true) (h : PE X e (tE cx X.K W m)) : PRg X (.Call (.Name "range" p) [e] [] pos) (tRgM cx X.K W (.r1 m)) := fun pins s σ H Q I ⟨G, ρ, g, e⟩ => by
  refine prg_1 hg hm h (starEach_cons hs) pins s σ H Q I ⟨G, ρ, g, ?_⟩
  rw [evIt] at e
  refine e.bind.mono fun d G1 H1 ρ1 _ g1 f1 e1 v rv => ?_
  split at e1
  · split at e1
    · rename_i i _ hi
      cases rv
      exact ⟨i, rfl, e1 G1 H1 g1 .refl 0 i rfl (by decide) hi⟩
    · exact e1.elim
  · exact e1.elim
theorem prg_r2 {ea eb : Expr} {a b : E} {p pos : Pos} (hg : Gl X "range") (hm : X.mg "range" = none) (hs : notStar ea = true) (hs2 : notStar eb = true) (ha : PE X ea (tE cx X.K W a)) (hb : PE X eb (tE cx X.K W b)) : PRg X (.Call (.Name "range" p) [ea, eb] [] pos) (tRgM cx X.K W (.r2 a b)) := fun pins s σ H Q I ⟨G, ρ, g, e⟩ => by
  refine prg_2 hg hm ha hb (starEach_cons hs) (starEach_cons hs2) (by rw [starEach_cons hs2]; rfl) pins s σ H Q I ⟨G, ρ, g, ?_⟩
  rw [evIt] at e
  refine e.bind.mono fun x G1 H1 ρ1 _ g1 f1 e1 v rv => ⟨G1, ρ1, g1, e1.bind.mono fun y G2 H2 ρ2 _ g2 f2 e2 w rw' => ?_⟩
  split at e2
  · split at e2
    · rename_i i j _ _ hi
      rw [Bool.and_eq_true] at hi
      cases rv; cases rw'
      exact ⟨i, j, rfl, rfl, e2 G2 H2 g2 .refl i j rfl hi.1 hi.2⟩
    · exact e2.elim
  · exact e2.elim
theorem rgV_rep {K : PySem.W.Frag} {G : Hp} (a b : Int) : RepL K G (rgV a b) (rng a b) := by
  unfold rgV rng
  generalize List.range (b - a).toNat = l
  induction l with
  | nil => exact .nil
  | cons x l ih => exact .cons (.int _) ih
theorem it_rng {it : It} (hr : itSlot it = none ∧ (∀ t, it ≠ .t t) ∧ ∀ t, it ≠ .en t) {ρ ρ' : Env} {xs : List D} (h : evIt cx it ρ = .ok xs ρ') : ∃ a b, xs = rng a b ∧ smallI a = true ∧ smallI b = true := by
  cases it with
  | r1 m =>
    rw [evIt] at h
    obtain ⟨d, ρ1, h1, h2⟩ := bind_ok h
    split at h2
    · split at h2
      · rename_i hi
        cases h2
        exact ⟨0, _, rfl, by decide, hi⟩
      · cases h2
    · cases h2
  | r2 a b =>
    rw [evIt] at h
    obtain ⟨d, ρ1, h1, h2⟩ := bind_ok h
    obtain ⟨d2, ρ2, h3, h4⟩ := bind_ok h2
    split at h4
    · split at h4
      · rename_i hi
        cases h4
        rw [Bool.and_eq_true] at hi
        exact ⟨_, _, rfl, hi.1, hi.2⟩
      · cases h4
    · cases h4
  | t t => exact absurd rfl (hr.2.1 t)
  | en t => exact absurd rfl (hr.2.2 t)
theorem rng_len {a b : Int} : (rng a b).length = (b - a).toNat := by unfold rng; rw [List.length_map, List.length_range]
theorem rgOk_of {a b : Int} (ha : smallI a = true) (hb : smallI b = true) (h : (rng a b).length ≤ lim) : RgOk a b := by
  obtain ⟨a1, a2⟩ := smallI_lt ha
  obtain ⟨b1, b2⟩ := smallI_lt hb
  rw [rng_len] at h
  exact ⟨a1, a2, b1, b2, h⟩
theorem ce_tupRM (ok : OkM C cv X cx W) {it : It} {e : Expr} {p pos : Pos} (hf : freeB C "tuple" = true) (hs : notStar e = true) (h : PRg X e (tRgM cx X.K W it)) : PE X (.Call (.Name "tuple" p) [e] [] pos) (tE cx X.K W (.tupR it)) := by
  obtain ⟨gl, gm, d1, d2⟩ := ok.free hf
  refine (pe_tupRg ok.calm gl gm h (starEach_cons hs)).imp fun σ H Q ⟨G, ρ, g, e⟩ => ?_
  rw [ev] at e
  refine ⟨G, ρ, g, e.bind.mono fun xs G1 H1 ρ1 _ g1 f1 e1 a b ex ha hb => ?_⟩
  subst ex
  split at e1
  · rename_i hl
    refine ⟨rgOk_of ha hb hl, fun q hq => ?_⟩
    have af : After X.K G1 H1 Q (.tup _) := fun G3 H3 v x rp => e1 G3 H3 (g1.ext x) (.ext x) v rp
    exact af.tup g1.sub (rgV_rep a b) hq
  · exact e1.elim
theorem cp_listRM (ok : OkM C cv X cx W) {it : It} {e : Expr} {p pos : Pos} (hf : freeB C "list" = true) (hs : notStar e = true) (h : PRg X e (tRgM cx X.K W it)) : PE X (.Call (.Name "list" p) [e] [] pos) (tP cx X.K W (.listR it)) := by
  obtain ⟨gl, gm, d1, d2⟩ := ok.free hf
  refine (pe_listRg ok.calm gl gm h (starEach_cons hs)).imp fun σ H Q ⟨G, ρ, g, e⟩ => ?_
  rw [evP] at e
  refine ⟨G, ρ, g, e.bind.mono fun xs G1 H1 ρ1 _ g1 f1 e1 a b ex ha hb => ?_⟩
  subst ex
  split at e1
  · rename_i hl
    refine ⟨rgOk_of ha hb hl, fun q hq => ?_⟩
    have fr : Fresh X.K G1 H1 Q (.lst _) := e1 G1 H1 g1 .refl
    exact fr.lst g1.sub (rgV_rep a b) hq
  · exact e1.elim
/-! ### producers -/
theorem cp_cF {f : D → Option (List D)} {t : T} {e : Expr} {x : Str} {p pos : Pos} {m : P} (hm : ∀ ρ, evP cx m ρ = (evT cx t ρ).bind fun x ρ => match t.res x ρ with
    | some d => .of ((f d).map .lst) ρ
    | none => .fail) (h : PE X (.Call (.Name x p) [e] [] pos) (tCB (rnF X.K f) (tCons (tT cx X.K W t) tNil))) : PE X (.Call (.Name x p) [e] [] pos) (tP cx X.K W m) := h.imp fun σ H Q ⟨G, ρ, g, e⟩ => by
  rw [hm] at e
  refine ⟨G, ρ, g, e.bind.mono fun y G1 H1 ρ1 _ g1 f1 e1 v tv => ?_⟩
  split at e1
  · rename_i d h1
    cases q : f d with
    | none => rw [q] at e1; exact e1.elim
    | some r =>
      rw [q] at e1
      exact ⟨G1, v, d, r, rfl, g1.sub, tv.view (Sub.refl _) g1 h1, q, e1 G1 H1 g1 .refl⟩
  · exact e1.elim
theorem cp_sortedM (ok : OkM C cv X cx W) {t : T} {e : Expr} {p pos : Pos} (hf : freeB C "sorted" = true) (hs : notStar e = true) (h : PE X e (tT cx X.K W t)) : PE X (.Call (.Name "sorted" p) [e] [] pos) (tP cx X.K W (.sorted t)) := by
  obtain ⟨gl, gm, d1, d2⟩ := ok.free hf
  exact cp_cF (fun ρ => by first | (rw [evP]; rfl) | rw [evP]) (pe_callB cr_sortM gl gm (by decide +kernel) (pa_cons h pa_nil (starEach_cons hs)) d1 d2 (starEach_cons hs) rfl)
theorem cp_listM (ok : OkM C cv X cx W) {t : T} {e : Expr} {p pos : Pos} (hf : freeB C "list" = true) (hs : notStar e = true) (h : PE X e (tT cx X.K W t)) : PE X (.Call (.Name "list" p) [e] [] pos) (tP cx X.K W (.list t)) := by
  obtain ⟨gl, gm, d1, d2⟩ := ok.free hf
  exact cp_cF (fun ρ => by first | (rw [evP]; rfl) | rw [evP]) (pe_callTy cr_listM gl gm (by decide +kernel) (pa_cons h pa_nil (starEach_cons hs)) d1 d2 (starEach_cons hs) rfl)
theorem cp_catM {a b : T} {ea eb : Expr} {pos : Pos} (ha : PE X ea (tT cx X.K W a)) (hb : PE X eb (tT cx X.K W b)) : PE X (.BinOp ea .Add eb pos) (tP cx X.K W (.cat a b)) := (pe_op op_catF ha hb).imp fun σ H Q ⟨G, ρ, g, e⟩ => by
  rw [evP] at e
  refine ⟨G, ρ, g, e.bind.mono fun x G1 H1 ρ1 _ g1 f1 e1 v tv => ⟨G1, ρ1, g1, e1.bind.mono fun y G2 H2 ρ2 _ g2 f2 e2 w tw => ?_⟩⟩
  split at e2
  · rename_i xs ys h1 h2
    cases q : catL (.lst xs) (.lst ys) with
    | none =>
      rw [show binD .add (.lst xs) (.lst ys) = catL (.lst xs) (.lst ys) from rfl, q] at e2
      exact e2.elim
    | some r =>
      rw [show binD .add (.lst xs) (.lst ys) = catL (.lst xs) (.lst ys) from rfl, q] at e2
      exact ⟨G2, _, _, r, g2.sub, tv.view f2.gg g2 h1, tw.view (Sub.refl _) g2 h2, q, e2 G2 H2 g2 .refl⟩
  · exact e2.elim
theorem cp_repM {a b : T} {ea eb : Expr} {pos : Pos} (ha : PE X ea (tT cx X.K W a)) (hb : PE X eb (tT cx X.K W b)) : PE X (.BinOp ea .Mult eb pos) (tP cx X.K W (.rep a b)) := (pe_op op_repF ha hb).imp fun σ H Q ⟨G, ρ, g, e⟩ => by
  rw [evP] at e
  refine ⟨G, ρ, g, e.bind.mono fun x G1 H1 ρ1 _ g1 f1 e1 v tv => ⟨G1, ρ1, g1, e1.bind.mono fun y G2 H2 ρ2 _ g2 f2 e2 w tw => ?_⟩⟩
  split at e2
  · rename_i xs k h1 h2
    cases q : repL (.lst xs) (.int k) with
    | none =>
      rw [show binD .mul (.lst xs) (.int k) = repL (.lst xs) (.int k) from rfl, q] at e2
      exact e2.elim
    | some r =>
      rw [show binD .mul (.lst xs) (.int k) = repL (.lst xs) (.int k) from rfl, q] at e2
      exact ⟨G2, _, _, r, g2.sub, tv.view f2.gg g2 h1, tw.view (Sub.refl _) g2 h2, q, e2 G2 H2 g2 .refl⟩
  · exact e2.elim
end
end MP

namespace MP
open PySem PySem.Spec PyProof.Rows L2
theorem assignEach_cons {e : Expr} {es : List Expr} {env : PySem.Env} (h : notStar e = true) : assignEach (e :: es) env = (false, assign e env) :: assignEach es env := by
  cases e <;> first | rfl | cases h
theorem assignEach_len {env : PySem.Env} : ∀ {es : List Expr}, noStars es = true → (assignEach es env).length = es.length ∧ (assignEach es env).findIdx? (·.1) = none
  | [], _ => ⟨rfl, rfl⟩
  | e :: es, h => by
    obtain ⟨h1, h2⟩ := starsA h
    obtain ⟨a, b⟩ := assignEach_len (env := env) h2
    rw [assignEach_cons h1]
    refine ⟨by simp [a], ?_⟩
    rw [List.findIdx?_cons]
    simp only [Bool.false_eq_true, if_false]
    rw [b]
    rfl
section
variable {C : Cg} {cv : Str → Value} {X : Cx} {cx : Cxt} {W : Wish}
mutual
theorem sndTg (ok : OkM C cv X cx W) : ∀ (t : Tg) (e : Expr), chkTg C t e = true → PG X e (tG X.K t)
  | .nm i, e, h => by
    unfold chkTg at h
    split at h
    · exact cg_name (ok.tg h)
    · cases h
  | .tp ts, e, h => by
    unfold chkTg at h
    split at h
    · rename_i es _ _
      rw [Bool.and_eq_true] at h
      obtain ⟨p, q, r⟩ := sndTgs ok ts es h.1 h.2
      obtain ⟨a, b⟩ := assignEach_len (env := X.env) h.1
      exact cg_tup ok.calm p a b q
    · cases h
theorem sndTgs (ok : OkM C cv X cx W) : ∀ (ts : List Tg) (es : List Expr), noStars es = true → chkTgs C ts es = true → PGs X es (tGs X.K ts) ∧ ts.length = es.length ∧ True
  | [], es, hs, h => by
    unfold chkTgs at h
    split at h
    · exact ⟨cgs_nil, rfl, trivial⟩
    · cases h
  | t :: ts, es, hs, h => by
    unfold chkTgs at h
    split at h
    · rename_i e es
      rw [Bool.and_eq_true] at h
      obtain ⟨h1, h2⟩ := starsA hs
      obtain ⟨p, q, _⟩ := sndTgs ok ts es h2 h.2
      exact ⟨cgs_cons (sndTg ok t e h.1) p (by rw [assignEach_cons h1]; rfl), by rw [List.length_cons, List.length_cons, q], trivial⟩
    · cases h
end
theorem subset_of {a b : List Nat} (h : subset a b = true) : ∀ i ∈ a, i ∈ b := fun i hi => by
  unfold subset at h
  have := List.all_eq_true.mp h i hi
  simpa using this
theorem pt_ofBool {op : BoolOp} {e : Expr} {m : E} {pos : Pos} (h : PT X e (MP.tB cx X.K W m)) : PW X (.BoolOp op [e] pos) (MP.tB cx X.K W m) := by
  cases op
  · exact pw_and1 h
  · exact pw_or1 h
structure Snd (n : Nat) : Prop where
  e : ∀ {C cv X cx W m e}, OkM C cv X cx W → chkE n C m e = true → PE X e (tE cx X.K W m)
  b : ∀ {C cv X cx W m e}, OkM C cv X cx W → chkB n C m e = true → PT X e (MP.tB cx X.K W m)
  t : ∀ {C cv X cx W m e}, OkM C cv X cx W → chkT n C m e = true → PE X e (tT cx X.K W m)
  es : ∀ {C cv X cx W m e}, OkM C cv X cx W → chkEs n C m e = true → PA X e (tEs cx X.K W m)
  ts : ∀ {C cv X cx W m e}, OkM C cv X cx W → chkTs n C m e = true → PA X e (tTs cx X.K W m) ∧ m.length = e.length
  o : ∀ {C cv X cx W m e}, OkM C cv X cx W → chkO n C m e = true → PO X e (tO cx X.K W m)
  r : ∀ {C cv X cx W it es p pos}, OkM C cv X cx W → freeB C "range" = true → noStars es = true → chkR n C it es = true → PRg X (.Call (.Name "range" p) es [] pos) (tRgM cx X.K W it)
  it : ∀ {C cv X cx W it e tg}, OkM C cv X cx W → chkIt n C it e tg = true → PI X tg e (tI cx X.K W it)
  ifs : ∀ {C cv X cx W ms es}, OkM C cv X cx W → chkIfs n C ms es = true → PTs X es (tIfs cx X.K W ms)
  cls : ∀ {C cv X cx own cls gs}, OkM C cv X cx WF → chkCls n C own cls gs = true → ClaOk X gs (cls.map (claM cx X.K)) ∧ ∀ c ∈ cls, ∀ i ∈ (clTg c).vars, i ∈ own
  p : ∀ {C cv X cx W m e}, OkM C cv X cx W → chkP n C m e = true → PE X e (tP cx X.K W m)
/-- what a comprehension's text tells -/
structure LcP (C : Cg) (X : Cx) (cx : Cxt) (W : Wish) (elt : E) (tg : Tg) (it : It) (ifs : List E) (cls : List Cl) (own : List Nat) (ee et ei : Expr) (es : List Expr) (gs : List Comprehension) (scope : Scope) : Prop where
  ix : PI X et ei (tI cx X.K W it)
  blk : BlkOk X.N X.env.scope scope (ownOf C.N own)
  ow : (ownOf C.N own).map (·.2) = own
  ns : notSet ei = true
  vs : ∀ i ∈ tg.vars, i ∈ own
  vss : ∀ c ∈ cls, ∀ i ∈ (clTg c).vars, i ∈ own
  in_ : ∀ (s : Shared) (H : Hp) (L : Addr) (cl : List (Str × Addr)) (fp : List Addr), PG (X.blk s H scope (compEnvC scope cl L X.env) fp) et (tG X.K tg) ∧ PTs (X.blk s H scope (compEnvC scope cl L X.env) fp) es (tIfs cx X.K WF ifs) ∧ PE (X.blk s H scope (compEnvC scope cl L X.env) fp) ee (tE cx X.K WF elt) ∧ ClaOk (X.blk s H scope (compEnvC scope cl L X.env) fp) gs (cls.map (claM cx X.K))
theorem LcP.pe {elt : E} {tg : Tg} {it : It} {ifs : List E} {cls : List Cl} {own : List Nat} {ee et ei : Expr} {es : List Expr} {gs : List Comprehension} {scope : Scope} {pos : Pos} (ok : OkM C cv X cx W) (l : LcP C X cx W elt tg it ifs cls own ee et ei es gs scope) :
    PE X (.ListComp ee (⟨et, ei, es, 0⟩ :: gs) scope pos) (tP cx X.K W (.comp elt tg it ifs cls own)) :=
  (pe_lcN (c := ⟨tI cx X.K W it, tG X.K tg, tIfs cx X.K WF ifs⟩) ok.calm ok.nd l.ix l.blk (folded_of l.ns) l.in_).imp fun σ H Q h => by
    rw [l.ow]
    exact comp_M l.vs l.vss h
theorem snd_lc {n : Nat} (S : Snd n) {elt : E} {tg : Tg} {it : It} {ifs : List E} {cls : List Cl} {own : List Nat} {ee et ei : Expr} {es : List Expr} {gs : List Comprehension} {scope : Scope} (ok : OkM C cv X cx W)
    (h : (blkC C.N C.sc scope (ownOf C.N own) && (decide ((ownOf C.N own).map (·.2) = own) && (notSet ei && (chkIt n C it ei et && (subset tg.vars own && (chkTg (C.blk scope) tg et && (chkIfs n (C.blk scope) ifs es && (chkE n (C.blk scope) elt ee && chkCls n (C.blk scope) own cls gs)))))))) = true) :
    LcP C X cx W elt tg it ifs cls own ee et ei es gs scope := by
  simp only [Bool.and_eq_true] at h
  obtain ⟨h1, h2, h3, h4, h5, h6, h7, h8, h9⟩ := h
  have b := blkOk_by h1
  have bk : BlkOk X.N X.env.scope scope (ownOf C.N own) := by
    refine ⟨b.kind, b.uniq, by rw [ok.N]; exact b.ix, fun y hy e => ?_, by rw [ok.N]; exact b.own⟩
    rw [ok.nm]
    exact b.free y hy e
  refine ⟨S.it ok h4, bk, of_decide_eq_true h2, h3, subset_of h5, ?_, fun s H L cl fp => ?_⟩
  · -- any block will do
    intro c hc
    have : ∀ {n : Nat} {C : Cg} {cls : List Cl} {gs : List Comprehension}, chkCls n C own cls gs = true → ∀ c ∈ cls, ∀ i ∈ (clTg c).vars, i ∈ own := by
      intro n
      induction n with
      | zero => intro C cls gs h; unfold chkCls at h; cases h
      | succ n ih =>
        intro C cls gs h c hc
        unfold chkCls at h
        cases cls with
        | nil => cases hc
        | cons c1 cls =>
          cases c1 with
          | mk tg it ifs =>
            dsimp only at h
            split at h
            · simp only [Bool.and_eq_true] at h
              rcases List.mem_cons.mp hc with rfl | hc
              · exact subset_of h.1
              · exact ih h.2.2.2.2.2 c hc
            · cases h
    exact this h9 c hc
  · have okB : OkM (C.blk scope) cv (X.blk s H scope (compEnvC scope cl L X.env) fp) cx WF := ok.blk b.kind
    exact ⟨sndTg okB tg et h6, S.ifs okB h7, S.e okB h8, (S.cls okB h9).1⟩
theorem copIs {o : CmpOp} {neg : Bool} (h : o = (if neg then CmpOp.IsNot else CmpOp.Is)) : (neg = true ∧ o = .IsNot) ∨ (neg = false ∧ o = .Is) := by
  cases neg
  · exact .inr ⟨rfl, h⟩
  · exact .inl ⟨rfl, h⟩
theorem snd : ∀ n, Snd n
  | 0 => by
    refine ⟨?_, ?_, ?_, ?_, ?_, ?_, ?_, ?_, ?_, ?_, ?_⟩
    all_goals intros
    all_goals first
      | (rename_i h; unfold chkE at h; cases h)
      | (rename_i h; unfold chkB at h; cases h)
      | (rename_i h; unfold chkT at h; cases h)
      | (rename_i h; unfold chkEs at h; cases h)
      | (rename_i h; unfold chkTs at h; cases h)
      | (rename_i h; unfold chkO at h; cases h)
      | (rename_i h; unfold chkR at h; cases h)
      | (rename_i h; unfold chkIt at h; cases h)
      | (rename_i h; unfold chkIfs at h; cases h)
      | (rename_i h; unfold chkCls at h; cases h)
      | (rename_i h; unfold chkP at h; cases h)
  | n + 1 => by
    have S := snd n
    refine ⟨?_, ?_, ?_, ?_, ?_, ?_, ?_, ?_, ?_, ?_, ?_⟩
    · intro C cv X cx W m e ok h
      unfold chkE at h
      cases m with
      | var i =>
        dsimp only at h
        split at h
        · exact ce_var (ok.var h)
        · cases h
      | con d =>
        dsimp only at h
        split at h
        · exact ce_con h
        · cases h
      | glo x =>
        dsimp only at h
        split at h
        · simp only [Bool.and_eq_true, decide_eq_true_eq] at h
          obtain ⟨rfl, h2, h3, h4⟩ := h
          obtain ⟨d, v, u, q1, q2, q3, q4⟩ := ok.gls _ (by simpa using h3)
          exact ce_glo q1 (pe_glob (ok.gl h2) q2 q3 (noDbg1 h4).1) q4
        · cases h
      | tup ms =>
        dsimp only at h
        split at h
        · exact ce_tup (S.es ok h)
        · cases h
      | neg m =>
        dsimp only at h
        split at h
        · exact ce_neg (S.e ok h)
        · cases h
      | bin op a b =>
        dsimp only at h
        split at h
        · simp only [Bool.and_eq_true, decide_eq_true_eq] at h
          obtain ⟨rfl, h1, h2⟩ := h
          exact ce_bin (S.t ok h1) (S.t ok h2)
        · cases h
      | cmp op a b =>
        dsimp only at h
        split at h
        · simp only [Bool.and_eq_true, decide_eq_true_eq] at h
          obtain ⟨rfl, h0, h1, h2⟩ := h
          exact ce_cmp ok.hu h0 (S.t ok h1) (S.t ok h2)
        · cases h
      | chain op op' a b c =>
        dsimp only at h
        split at h
        · simp only [Bool.and_eq_true, decide_eq_true_eq] at h
          obtain ⟨rfl, rfl, h0, h1, h2, h3⟩ := h
          exact ce_chain ok.hu h0 (S.t ok h1) (S.t ok h2) (S.t ok h3)
        · cases h
      | nt m =>
        dsimp only at h
        split at h
        · exact ce_nt (S.e ok h)
        · cases h
      | and_ a b =>
        dsimp only at h
        split at h
        · simp only [Bool.and_eq_true] at h
          exact ce_and (S.e ok h.1) (pe_one (S.e ok h.2))
        · simp only [Bool.and_eq_true] at h
          exact ce_and (S.e ok h.1) (S.e ok h.2)
        · cases h
      | or_ a b =>
        dsimp only at h
        split at h
        · simp only [Bool.and_eq_true] at h
          exact ce_or (S.e ok h.1) (pe_one (S.e ok h.2))
        · simp only [Bool.and_eq_true] at h
          exact ce_or (S.e ok h.1) (S.e ok h.2)
        · cases h
      | ite c a b =>
        dsimp only at h
        split at h
        · simp only [Bool.and_eq_true] at h
          exact ce_ite (S.b ok h.1) (S.e ok h.2.1) (S.e ok h.2.2)
        · cases h
      | isN neg m =>
        dsimp only at h
        split at h
        · simp only [Bool.and_eq_true, decide_eq_true_eq] at h
          rcases copIs h.1 with ⟨rfl, rfl⟩ | ⟨rfl, rfl⟩
          · exact ce_notN (S.e ok h.2)
          · exact ce_isN (S.e ok h.2)
        · cases h
      | ix a b =>
        dsimp only at h
        split at h
        · simp only [Bool.and_eq_true] at h
          exact ce_ix h.1 (S.t ok h.2.1) (S.t ok h.2.2)
        · cases h
      | sl a lo hi =>
        dsimp only at h
        split at h
        · simp only [Bool.and_eq_true] at h
          exact ce_sl (S.t ok h.1) (S.o ok h.2.1) (S.o ok h.2.2)
        · cases h
      | rev a =>
        dsimp only at h
        split at h
        · exact ce_revM (S.t ok h)
        · cases h
      | call f ms =>
        dsimp only at h
        split at h
        · simp only [Bool.and_eq_true, decide_eq_true_eq] at h
          obtain ⟨rfl, h1, h2, h3, h4, h5⟩ := h
          exact ce_callM ok h1 h2 h3 (by simpa using h4) (S.es ok h5)
        · cases h
      | bi f ts =>
        dsimp only at h
        split at h
        · simp only [Bool.and_eq_true, decide_eq_true_eq] at h
          obtain ⟨h1, h2, h3, h4, h5⟩ := h
          obtain ⟨q1, q2⟩ := S.ts ok h5
          exact ce_biAll ok h1 h2 h3 (by rw [q2]; exact h4) q1
        · cases h
      | mt m o ts => cases h
      | isi a t =>
        dsimp only at h
        split at h
        · simp only [Bool.and_eq_true, decide_eq_true_eq] at h
          obtain ⟨rfl, rfl, h1, h2, h3, h4⟩ := h
          exact ce_isiM ok h1 h2 h3 (S.t ok h4)
        · cases h
      | tupR it =>
        dsimp only at h
        split at h
        · simp only [Bool.and_eq_true, decide_eq_true_eq] at h
          obtain ⟨rfl, rfl, h1, h2, h3, h4⟩ := h
          exact ce_tupRM ok h1 rfl (S.r ok h2 h3 h4)
        · cases h
      | pop i k =>
        dsimp only at h
        split at h
        · simp only [Bool.and_eq_true, decide_eq_true_eq] at h
          obtain ⟨rfl, h1, h2, h3⟩ := h
          split at h3
          · exact ce_pop0 ok h1 h2
          · simp only [Bool.and_eq_true] at h3
            exact ce_pop1 ok h1 h2 h3.1 (S.e ok h3.2)
          · cases h3
        · cases h
      | fr p => exact ce_fr (S.p ok h)
    · intro C cv X cx W m e ok h
      unfold chkB at h
      split at h
      · split at h
        · exact cb_nt (S.b ok h)
        · cases h
      · split at h
        · simp only [Bool.and_eq_true] at h
          exact (cb_and (S.b ok h.1) (pt_ofBool (S.b ok h.2))).pt
        · cases h
      · split at h
        · simp only [Bool.and_eq_true] at h
          exact (cb_and (S.b ok h.1) ⟨fun _ => (S.b ok h.2).run⟩).pt
        · cases h
      · split at h
        · simp only [Bool.and_eq_true] at h
          exact (cb_or (S.b ok h.1) (pt_ofBool (S.b ok h.2))).pt
        · cases h
      · split at h
        · simp only [Bool.and_eq_true] at h
          exact (cb_or (S.b ok h.1) ⟨fun _ => (S.b ok h.2).run⟩).pt
        · cases h
      · split at h
        · simp only [Bool.and_eq_true, decide_eq_true_eq] at h
          obtain ⟨rfl, h0, h1, h2⟩ := h
          exact cb_cmp ok.hu h0 (S.t ok h1) (S.t ok h2)
        · split at h
          · simp only [Bool.and_eq_true, decide_eq_true_eq] at h
            rcases copIs h.1 with ⟨rfl, rfl⟩ | ⟨rfl, rfl⟩
            · exact cb_notN (S.e ok h.2)
            · exact cb_isN (S.e ok h.2)
          · cases h
        · cases h
      · split at h
        · simp only [Bool.and_eq_true, decide_eq_true_eq] at h
          obtain ⟨rfl, rfl, h0, h1, h2, h3⟩ := h
          exact cb_chain ok.hu h0 (S.t ok h1) (S.t ok h2) (S.t ok h3)
        · cases h
      · simp only [Bool.and_eq_true] at h
        exact cb_val (S.e ok h.2) (plainT_ok h.1)
    · intro C cv X cx W m e ok h
      unfold chkT at h
      cases m with
      | b i =>
        dsimp only at h
        split at h
        · exact ct_bor (ok.var h)
        · cases h
      | e m => exact ct_e (S.e ok h)
    · intro C cv X cx W m e ok h
      unfold chkEs at h
      cases m with
      | nil =>
        dsimp only at h
        split at h
        · exact ca_nil
        · cases h
      | cons m ms =>
        dsimp only at h
        split at h
        · simp only [Bool.and_eq_true] at h
          exact ca_cons h.1 (S.e ok h.2.1) (S.es ok h.2.2)
        · cases h
    · intro C cv X cx W m e ok h
      unfold chkTs at h
      cases m with
      | nil =>
        dsimp only at h
        split at h
        · exact ⟨cts_nil, rfl⟩
        · cases h
      | cons m ms =>
        dsimp only at h
        split at h
        · simp only [Bool.and_eq_true] at h
          obtain ⟨q1, q2⟩ := S.ts ok h.2.2
          exact ⟨cts_cons h.1 (S.t ok h.2.1) q1, by simp [q2]⟩
        · cases h
    · intro C cv X cx W m e ok h
      unfold chkO at h
      cases m with
      | none =>
        dsimp only at h
        split at h
        · exact co_none
        · cases h
      | some m =>
        dsimp only at h
        split at h
        · exact co_some (S.e ok h)
        · cases h
    · intro C cv X cx W it es p pos ok hf hs h
      obtain ⟨gl, gm, _, _⟩ := ok.free hf
      unfold chkR at h
      split at h
      · split at h
        · exact prg_r1 gl gm (starsA hs).1 (S.e ok h)
        · cases h
      · split at h
        · simp only [Bool.and_eq_true] at h
          exact prg_r2 gl gm (starsA hs).1 (starsA (starsA hs).2).1 (S.e ok h.1) (S.e ok h.2)
        · cases h
      · cases h
    · intro C cv X cx W it e tg ok h
      unfold chkIt at h
      cases it with
      | r1 m =>
        dsimp only at h
        split at h
        · simp only [Bool.and_eq_true, decide_eq_true_eq] at h
          obtain ⟨rfl, h1, h2, h3⟩ := h
          obtain ⟨gl, gm, _, _⟩ := ok.free h1
          exact ti_r1 gl gm h2 (S.e ok h3)
        · cases h
      | r2 a b =>
        dsimp only at h
        split at h
        · simp only [Bool.and_eq_true, decide_eq_true_eq] at h
          obtain ⟨rfl, h1, h2, h3, h4, h5⟩ := h
          obtain ⟨gl, gm, _, _⟩ := ok.free h1
          exact ti_r2 gl gm h2 h3 (S.e ok h4) (S.e ok h5)
        · cases h
      | t t =>
        simp only [Bool.and_eq_true] at h
        exact ti_t (S.t ok h.2)
      | en t => cases h
    · intro C cv X cx W ms es ok h
      unfold chkIfs at h
      cases ms with
      | nil =>
        dsimp only at h
        split at h
        · exact ts_nil
        · cases h
      | cons m ms =>
        dsimp only at h
        split at h
        · simp only [Bool.and_eq_true] at h
          obtain ⟨h1, h2⟩ := h
          cases ms with
          | nil => exact ts_one (S.b ok h1)
          | cons => cases h2
        · cases h
    · intro C cv X cx own cls gs ok h
      unfold chkCls at h
      cases cls with
      | nil =>
        dsimp only at h
        split at h
        · exact ⟨.nil, fun c hc => by cases hc⟩
        · cases h
      | cons c cls =>
        cases c with
        | mk tg it ifs =>
          dsimp only at h
          split at h
          · simp only [Bool.and_eq_true] at h
            obtain ⟨h1, h2, h3, h4, h5, h6⟩ := h
            obtain ⟨q1, q2⟩ := S.cls ok h6
            refine ⟨.cons (c := claM cx X.K (.mk tg it ifs)) (S.it ok h4) (sndTg ok tg _ h2) (S.ifs ok h5) (fun env x => folded_of h3 x) q1, fun c hc => ?_⟩
            rcases List.mem_cons.mp hc with rfl | hc
            · exact subset_of h1
            · exact q2 c hc
          · cases h
    · intro C cv X cx W m e ok h
      unfold chkP at h
      cases m with
      | lst ms =>
        dsimp only at h
        split at h
        · exact cp_lst (S.es ok h)
        · cases h
      | comp elt tg it ifs cls own =>
        dsimp only at h
        split at h
        · exact (snd_lc S ok h).pe ok
        · cases h
      | list t =>
        dsimp only at h
        split at h
        · simp only [Bool.and_eq_true, decide_eq_true_eq] at h
          obtain ⟨rfl, h1, h2, h3⟩ := h
          exact cp_listM ok h1 h2 (S.t ok h3)
        · cases h
      | listR it =>
        dsimp only at h
        split at h
        · simp only [Bool.and_eq_true, decide_eq_true_eq] at h
          obtain ⟨rfl, rfl, h1, h2, h3, h4⟩ := h
          exact cp_listRM ok h1 rfl (S.r ok h2 h3 h4)
        · cases h
      | rep a b =>
        dsimp only at h
        split at h
        · simp only [Bool.and_eq_true] at h
          exact cp_repM (S.t ok h.1) (S.t ok h.2)
        · cases h
      | cat a b =>
        dsimp only at h
        split at h
        · simp only [Bool.and_eq_true] at h
          exact cp_catM (S.t ok h.1) (S.t ok h.2)
        · cases h
      | sorted t =>
        dsimp only at h
        split at h
        · simp only [Bool.and_eq_true, decide_eq_true_eq] at h
          obtain ⟨rfl, h1, h2, h3⟩ := h
          exact cp_sortedM ok h1 h2 (S.t ok h3)
        · cases h
      | set t => cases h
      | dict a b => cases h
end
end MP

namespace MP
open PySem PySem.Spec PyProof.Rows L2
/-! ### statements: what their evaluation is to reach -/
def SEv (K : PySem.W.Frag) (W : Wish) (G H : Hp) (σ : L2.St) (ρ : Env) (r : SR) (D : Ends) : Prop := match r with
  | .fail => False
  | .exc c ρ' => ∀ G' H' σ', Good K G' H' σ' ρ' → Fr G H σ ρ G' H' σ' ρ' → W c σ' H'
  | .nx ρ' => ∀ G' H' σ', Good K G' H' σ' ρ' → Fr G H σ ρ G' H' σ' ρ' → D.nx σ' H'
  | .ret d ρ' => ∀ G' H' σ' v, Good K G' H' σ' ρ' → Fr G H σ ρ G' H' σ' ρ' → Rep K G' v d → D.rt v H'
  | .brk ρ' => ∀ G' H' σ', Good K G' H' σ' ρ' → Fr G H σ ρ G' H' σ' ρ' → D.bk σ' H'
  | .ct ρ' => ∀ G' H' σ', Good K G' H' σ' ρ' → Fr G H σ ρ G' H' σ' ρ' → D.ct σ' H'
section
variable {K : PySem.W.Frag} {W : Wish} {G H G1 H1 : Hp} {σ σ1 : L2.St} {ρ ρ1 : Env} {D : Ends} {r : SR}
theorem SEv.from (h : SEv K W G H σ ρ r D) (f : Fr G H σ ρ G1 H1 σ1 ρ1) : SEv K W G1 H1 σ1 ρ1 r D := by
  cases r with
  | fail => exact h
  | exc c ρ' => exact fun G' H' σ' g f' => h G' H' σ' g (f.trans f')
  | nx ρ' => exact fun G' H' σ' g f' => h G' H' σ' g (f.trans f')
  | ret d ρ' => exact fun G' H' σ' v g f' => h G' H' σ' v g (f.trans f')
  | brk ρ' => exact fun G' H' σ' g f' => h G' H' σ' g (f.trans f')
  | ct ρ' => exact fun G' H' σ' g f' => h G' H' σ' g (f.trans f')
theorem SEv.ofR {α : Type} {q : R α} {f : α → Env → SR} (h : SEv K W G H σ ρ (SR.ofR q f) D) : Ev K W G H σ ρ q fun a G1 H1 ρ1 => SEv K W G1 H1 σ ρ1 (f a ρ1) D := by
  cases q with
  | fail => exact h
  | exc c ρ' => exact fun G' H' g f' => h G' H' σ g f'
  | ok a ρ' =>
    have h : SEv K W G H σ ρ (f a ρ') D := h
    exact fun G1 H1 g f1 => h.from f1
theorem SEv.ofO {α : Type} {o : Option α} {f : α → SR} (h : SEv K W G H σ ρ (SR.ofO o f) D) : ∃ a, o = some a ∧ SEv K W G H σ ρ (f a) D := by
  cases o with
  | none => exact h.elim
  | some a => exact ⟨a, rfl, h⟩
end
def tS (cx : Cxt) (K : PySem.W.Frag) (W : Wish) (m : S) : TS := fun D σ H => ∃ G ρ, Good K G H σ ρ ∧ SEv K W G H σ ρ (exS cx m ρ) D
def tSs (cx : Cxt) (K : PySem.W.Frag) (W : Wish) (ms : List S) : TS := fun D σ H => ∃ G ρ, Good K G H σ ρ ∧ SEv K W G H σ ρ (exSs cx ms ρ) D
section
variable {C : Cg} {cv : Str → Value} {X : Cx} {cx : Cxt} {W : Wish}
theorem cs_nil : PSs X [] (tSs cx X.K W []) := pss_nil.imp fun D σ H ⟨G, ρ, g, e⟩ => by
  rw [exSs] at e
  exact e G H σ g .refl
theorem cs_cons {m : S} {ms : List S} {st : Stmt} {sts : List Stmt} (h : PS X st (tS cx X.K W m)) (t : PSs X sts (tSs cx X.K W ms)) : PSs X (st :: sts) (tSs cx X.K W (m :: ms)) := (pss_cons h t).imp fun D σ H ⟨G, ρ, g, e⟩ => by
  rw [exSs] at e
  refine ⟨G, ρ, g, ?_⟩
  cases q : exS cx m ρ with
  | fail => rw [q] at e; exact e
  | exc c ρ' => rw [q] at e; exact e
  | nx ρ' =>
    rw [q] at e
    have e : SEv X.K W G H σ ρ (exSs cx ms ρ') D := e
    exact fun G1 H1 σ1 g1 f1 => ⟨G1, ρ', g1, e.from f1⟩
  | ret d ρ' => rw [q] at e; exact e
  | brk ρ' => rw [q] at e; exact e
  | ct ρ' => rw [q] at e; exact e
/-- an own object is frozen: no row of the text stands for it -/
theorem cs_frz {i : Nat} {ms : List S} {sts : List Stmt} (t : PSs X sts (tSs cx X.K W ms)) : PSs X sts (tSs cx X.K W (.frz i :: ms)) := t.imp fun En σ H ⟨G, ρ, g, e⟩ => by
  rw [exSs, exS] at e
  cases q : ρ.own i with
  | none => rw [q] at e; exact e.elim
  | some d =>
    rw [q] at e
    have e : SEv X.K W G H σ ρ (exSs cx ms (ρ.set i (.fr d))) En := e
    have ho := own_of q
    have hl : i < ρ.length := (List.getElem?_eq_some_iff.mp ho).1
    obtain ⟨a, hs, hn, o⟩ := g.ow i d (.inl ho)
    cases o with
    | @lst vs ds hH r =>
    have at_ : ∀ {j : Nat} {x : Sl}, (ρ.set i (.fr (.lst ds)))[j]? = some x → (j = i ∧ x = .fr (.lst ds)) ∨ (j ≠ i ∧ ρ[j]? = some x) := fun {j x} e => by
      rw [List.getElem?_set] at e
      by_cases q : i = j
      · subst q
        rw [if_pos rfl, if_pos hl] at e
        cases e
        exact .inl ⟨rfl, rfl⟩
      · rw [if_neg q] at e
        exact .inr ⟨fun z => q z.symm, e⟩
    have hh : ∀ {j : Nat} {e : D}, holds (ρ.set i (.fr (.lst ds))) j e → holds ρ j e ∧ j ≠ i := fun {j e} h => by
      rcases h with h | h
      · rcases at_ h with ⟨_, q⟩ | ⟨n, q⟩
        · cases q
        · exact ⟨.inl q, n⟩
      · rcases at_ h with ⟨_, q⟩ | ⟨n, q⟩
        · cases q
        · exact ⟨.inr q, n⟩
    have gg : Sub G (upd G a (.lst vs)) := sub_upd hn
    refine ⟨upd G a (.lst vs), ρ.set i (.fr (.lst ds)), ⟨by rw [List.length_set]; exact g.len, fun b u e => ?_, fun j e q => ?_, fun j e q => ?_, fun j l b e f q1 q2 h1 h2 => ?_⟩, e.from ⟨gg, fun _ _ h _ => h, fun _ h => h, fun b h => ?_, fun b ⟨j, e, q, hb⟩ => ?_, fun j e q => ?_⟩⟩
    · by_cases q : b = a
      · subst q; rw [upd_same] at e; rw [← e]; exact hH
      · rw [upd_ne q] at e; exact g.sub b u e
    · rcases at_ q with ⟨z, qe⟩ | ⟨_, qe⟩
      · subst z
        cases qe
        exact ⟨.ref a, hs, .lst upd_same (r.mono gg)⟩
      · obtain ⟨v, h1, h2⟩ := g.fr j e qe
        exact ⟨v, h1, h2.mono gg⟩
    · obtain ⟨hj, n⟩ := hh q
      obtain ⟨b, h1, h2, h3⟩ := g.ow j e hj
      refine ⟨b, h1, ?_, h3.ext gg fun u h => h⟩
      rw [upd_ne fun z => by rw [z] at h1; exact n (g.sep j i a e _ hj (.inl ho) h1 hs)]
      exact h2
    · exact g.sep j l b e f (hh q1).1 (hh q2).1 h1 h2
    · by_cases q : b = a
      · subst q; exact .inr (.inr ⟨i, _, ho, hs⟩)
      · rw [upd_ne q] at h; exact .inl h
    · exact .inl ⟨j, e, by
        rcases (hh (.inl q)).1 with z | z
        · exact z
        · rcases at_ q with ⟨_, q⟩ | ⟨_, q⟩
          · cases q
          · exact q, hb⟩
    · rcases at_ q with ⟨_, q⟩ | ⟨_, q⟩
      · cases q
      · exact ⟨⟨e, q⟩, rfl⟩
/-! ### small statements -/
def notComp : Expr → Bool
  | .ListComp .. => false | .SetComp .. => false | .DictComp .. => false | _ => true
theorem swaps_no {e : Expr} {t : Option Expr} {l : Nat} {env : PySem.Env} (h : notComp e = true) : swapsWith e t l env = pure false := by
  cases e <;> first | rfl | cases h
def notTup : Expr → Bool
  | .Tuple .. => false | .List .. => false | _ => true
theorem stores_no {t e : Expr} {env : PySem.Env} (h : notTup t = true ∨ notTup e = true) : swappedStores [t] e env = pure none := by
  rcases h with h | h
  · cases t <;> first | rfl | cases h
  · cases t <;> first | rfl | (cases e <;> first | rfl | cases h)
/-- name = [..] in one go -/
def swB (C : Cg) (x : Str) (px : Pos) (scope : Scope) (pe : Pos) : Bool := decide (C.nm.lookup x = some .local) && (px.line == pe.line && !(scope.names.any fun (n, k) => n == x && (k == .local || k == .cell)))
theorem swaps_lc (ok : OkM C cv X cx W) {elt : Expr} {gs : List Comprehension} {scope : Scope} {pos px : Pos} {x : Str} {l : Nat} : swapsWith (.ListComp elt gs scope pos) (some (.Name x px)) l X.env = pure (swB C x px scope pos) := by
  have hb : X.env.blockKind = .function := by unfold Env.blockKind; rw [ok.kd]; rfl
  unfold swapsWith swB
  simp only [hb, Env.kindOf, ok.nm, Expr.pos]
  show (pure (ScopeKind.function == .function && C.nm.lookup x == some .local && px.line == pos.line && !(scope.names.any fun (n, k) => n == x && (k == .local || k == .cell))) : Sem Bool) = _
  congr 1
  have : (C.nm.lookup x == some NameKind.local) = decide (C.nm.lookup x = some .local) := by
    cases hq : decide (C.nm.lookup x = some .local) with
    | true => rw [of_decide_eq_true hq]; rfl
    | false => exact beq_eq_false_iff_ne.mpr (of_decide_eq_false hq)
  rw [this, Bool.and_assoc, Bool.and_assoc]
  rfl
theorem cs_set {tg : Tg} {m : E} {et e : Expr} {pos : Pos} (hn : swapsWith e (some et) pos.line X.env = pure false) (ht : notTup et = true ∨ notTup e = true) (hs : notStar et = true) (he : PE X e (tE cx X.K W m)) (hg : PG X et (tG X.K tg)) : PS X (.Assign [et] e pos) (tS cx X.K W (.set tg m)) :=
  (ps_asg he hg hn (stores_no ht) (by rw [assignEach_cons hs]; rfl)).imp fun D σ H ⟨G, ρ, g, e⟩ => by
    rw [exS] at e
    refine ⟨G, ρ, g, e.ofR.mono fun d G1 H1 ρ1 _ g1 f1 e1 v rv => ?_⟩
    obtain ⟨ρ2, ea, e2⟩ := e1.ofO
    exact ⟨G1, ρ1, d, ρ2, g1, rv, ea, fun σ' g' f' _ => e2 G1 H1 σ' g' f'⟩
theorem Good.setOw {K : PySem.W.Frag} {G H G' H' : Hp} {σ : L2.St} {ρ : Env} {i : Nat} {d : D} {a : Addr} (g : Good K G H σ ρ) (x : Ext G H G' H') (hn : H a = none) (hg : G' a = none) (o : Own K G' H' a d) :
    Good K G' H' (σ.set i (some (.ref a))) (ρ.set i (.ow d)) ∧ Fr G H σ ρ G' H' (σ.set i (some (.ref a))) (ρ.set i (.ow d)) := by
  have gx := g.ext x
  have at_ : ∀ {j : Nat} {y : Sl}, (ρ.set i (.ow d))[j]? = some y → (j = i ∧ y = .ow d ∧ i < ρ.length) ∨ (j ≠ i ∧ ρ[j]? = some y) := fun {j y} e => by
    rw [List.getElem?_set] at e
    by_cases q : i = j
    · subst q
      by_cases ql : i < ρ.length
      · rw [if_pos rfl, if_pos ql] at e
        cases e
        exact .inl ⟨rfl, rfl, ql⟩
      · rw [if_pos rfl, if_neg ql] at e; cases e
    · rw [if_neg q] at e
      exact .inr ⟨fun z => q z.symm, e⟩
  have hh : ∀ {j : Nat} {e : D}, holds (ρ.set i (.ow d)) j e → (j = i ∧ e = d ∧ i < ρ.length) ∨ (j ≠ i ∧ holds ρ j e) := fun {j e} h => by
    rcases h with h | h
    · rcases at_ h with ⟨z, q, l⟩ | ⟨n, q⟩
      · cases q; exact .inl ⟨z, rfl, l⟩
      · exact .inr ⟨n, .inl q⟩
    · rcases at_ h with ⟨_, q, _⟩ | ⟨n, q⟩
      · cases q
      · exact .inr ⟨n, .inr q⟩
  have old : ∀ {j : Nat} {e : D}, holds ρ j e → σ[j]? ≠ some (some (.ref a)) := fun {j e} h q => by
    obtain ⟨b, e1, _, o⟩ := g.ow j e h
    rw [q] at e1; cases e1
    obtain ⟨u, hu⟩ := o.there
    rw [hn] at hu; cases hu
  have sl : ∀ {j : Nat}, j ≠ i → (σ.set i (some (.ref a)))[j]? = σ[j]? := fun n => List.getElem?_set_ne fun z => n z.symm
  refine ⟨⟨by rw [List.length_set, List.length_set]; exact g.len, x.gh, fun j e q => ?_, fun j e q => ?_, fun j l b e f q1 q2 h1 h2 => ?_⟩, ⟨x.gg, fun b u h _ => x.hh b u h, fun b h z => h (none_of_sub x.hh z), fun b h => (x.new b h).elim .inl fun z => .inr (.inl z), fun b ⟨j, e, q, hb⟩ => ?_, fun j e q => ?_⟩⟩
  · rcases at_ q with ⟨_, q, _⟩ | ⟨n, q⟩
    · cases q
    · rw [sl n]; exact gx.fr j e q
  · rcases hh q with ⟨z, qe, l⟩ | ⟨n, qe⟩
    · subst z qe
      exact ⟨a, List.getElem?_set_self (by rw [g.len]; exact l), hg, o⟩
    · rw [sl n]; exact gx.ow j e qe
  · rcases hh q1 with ⟨z1, _, l1⟩ | ⟨n1, p1⟩
    · rcases hh q2 with ⟨z2, _, _⟩ | ⟨n2, p2⟩
      · rw [z1, z2]
      · subst z1
        rw [List.getElem?_set_self (by rw [g.len]; exact l1)] at h1
        cases h1
        rw [sl n2] at h2
        exact absurd h2 (old p2)
    · rcases hh q2 with ⟨z2, _, l2⟩ | ⟨n2, p2⟩
      · subst z2
        rw [List.getElem?_set_self (by rw [g.len]; exact l2)] at h2
        cases h2
        rw [sl n1] at h1
        exact absurd h1 (old p1)
      · rw [sl n1] at h1
        rw [sl n2] at h2
        exact g.sep j l b e f p1 p2 h1 h2
  · rcases at_ q with ⟨z, _, l⟩ | ⟨n, q⟩
    · subst z
      rw [List.getElem?_set_self (by rw [g.len]; exact l)] at hb
      cases hb
      exact .inr hn
    · rw [sl n] at hb
      exact .inl ⟨j, e, q, hb⟩
  · rcases at_ q with ⟨_, q, _⟩ | ⟨n, q⟩
    · cases q
    · exact ⟨⟨e, q⟩, sl n⟩
/-- a producer's object goes into a slot -/
theorem own_reach {p : P} {i : Nat} {σ : L2.St} {H : Hp} {D : Ends} (h : ∃ G ρ, Good X.K G H σ ρ ∧ SEv X.K W G H σ ρ (exS cx (.own i p) ρ) D) : tP cx X.K W p σ H fun x H1 => gName i x σ H1 D.nx := by
  obtain ⟨G, ρ, g, e⟩ := h
  rw [exS] at e
  refine ⟨G, ρ, g, e.ofR.mono fun d G1 H1 ρ1 _ g1 f1 e1 => ?_⟩
  obtain ⟨ρ2, ea, e2⟩ := e1.ofO
  unfold setSl at ea
  split at ea <;> cases ea
  intro G2 H2 a x hn hg o
  obtain ⟨g3, f3⟩ := g1.setOw (i := i) x hn hg o
  exact e2 G2 H2 _ g3 f3
theorem cs_own {i : Nat} {p : P} {x : Str} {e : Expr} {px pos : Pos} (ok : OkM C cv X cx W) (ht : tgB C i x = true) (hsw : swapsWith e (some (.Name x px)) pos.line X.env = pure false) (he : PE X e (tP cx X.K W p)) : PS X (.Assign [.Name x px] e pos) (tS cx X.K W (.own i p)) :=
  (ps_asg he (ok.tg ht) hsw (stores_no (.inl rfl)) rfl).imp fun D σ H h => own_reach h
/-- name = [.. for ..], stored within the block -/
theorem cs_setLc {i : Nat} {x : Str} {px pos spos : Pos} {elt : E} {tg : Tg} {it : It} {ifs : List E} {cls : List Cl} {own : List Nat} {ee et ei : Expr} {es : List Expr} {gs : List Comprehension} {scope : Scope} {TM : TE} (ok : OkM C cv X cx W) (l : LcP C X cx W elt tg it ifs cls own ee et ei es gs scope)
    (hi : C.N[i]? = some x) (hsw : swB C x px scope pos = true) {t : TS} (k : ∀ D σ H, t D σ H → tP cx X.K W (.comp elt tg it ifs cls own) σ H fun x H1 => gName i x σ H1 D.nx) :
    PS X (.Assign [.Name x px] (.ListComp ee (⟨et, ei, es, 0⟩ :: gs) scope pos) spos) t := by
  have hl : X.env.scope.names.lookup x = some .local := by
    unfold swB at hsw
    rw [Bool.and_eq_true] at hsw
    rw [ok.nm]
    exact of_decide_eq_true hsw.1
  refine (ps_setLcN (c := ⟨tI cx X.K W it, tG X.K tg, tIfs cx X.K WF ifs⟩) ok.calm ok.nd (by rw [ok.N]; exact hi) hl (by rw [swaps_lc ok, hsw]) l.ix l.blk (folded_of l.ns) l.in_).imp fun D σ H h => ?_
  show tLcN _ _ _ _ σ H _
  rw [l.ow]
  exact comp_M l.vs l.vss (k D σ H h)
theorem set_reach {p : P} {i : Nat} {σ : L2.St} {H : Hp} {D : Ends} (h : ∃ G ρ, Good X.K G H σ ρ ∧ SEv X.K W G H σ ρ (exS cx (.set (.nm i) (.fr p)) ρ) D) : tP cx X.K W p σ H fun x H1 => gName i x σ H1 D.nx := by
  obtain ⟨G, ρ, g, e⟩ := h
  rw [exS, ev] at e
  refine ⟨G, ρ, g, e.ofR.mono fun d G1 H1 ρ1 _ g1 f1 e1 => ?_⟩
  obtain ⟨ρ2, ea, e2⟩ := e1.ofO
  rw [Tg.asg] at ea
  split at ea <;> cases ea
  have af : After X.K G1 H1 (fun x H1 => gName i x σ H1 D.nx) d := fun G3 H3 v x rp => e2 G3 H3 _ ((g1.ext x).setFr rp) ((Fr.ext x).trans fr_set)
  exact af.fresh
end
end MP

namespace MP
open PySem PySem.Spec PyProof.Rows L2
section
variable {C : Cg} {cv : Str → Value} {X : Cx} {cx : Cxt} {W : Wish}
theorem cs_app (ok : OkM C cv X cx W) {i : Nat} {x : Str} {p apos cpos pos : Pos} {m : E} {e : Expr} (hv : varB C i x = true) (hl : (apos.endLine == cpos.line) = true) (hs : notStar e = true) (h : PE X e (tE cx X.K W m)) : PS X (.Expr (.Call (.Attribute (.Name x p) "append" apos) [e] [] cpos) pos) (tS cx X.K W (.app i m)) :=
  (ps_expr (pe_bm PySem.F.plainAttrs_list PySem.F.slot_list_append PySem.F.type_list_append mt_append (ok.var hv) (pa_cons h pa_nil (starEach_cons hs)) rfl (by rw [starEach_cons hs]; rfl) hl (starEach_cons hs) rfl) rfl).imp fun En σ H ⟨G, ρ, g, e⟩ => by
    rw [exS] at e
    split at e
    · rename_i hsome
      obtain ⟨a, vs0, hs0, hH0⟩ := g.ownRef hsome
      refine ⟨.ref a, hs0, .inl ⟨rfl, vs0, SqL.of hH0⟩, G, ρ, g, e.ofR.mono fun d G1 H1 ρ1 _ g1 f1 e1 v rv => ?_⟩
      unfold appR at e1
      split at e1
      · rename_i ds ho
        split at e1
        · rename_i hlim
          obtain ⟨a', vs, h1, h2, h3, r⟩ := g1.ownAt ho
          rw [hs0] at h2
          cases h2
          obtain ⟨g2, f2⟩ := g1.chg h1 hs0 (r.append (.cons rv .nil))
          exact ⟨a, vs, v, rfl, rfl, h3, by rw [r.length, ← lim_eq]; exact hlim, e1 G1 _ σ g2 f2⟩
        · exact e1.elim
      · exact e1.elim
    · exact e.elim
theorem cs_ext (ok : OkM C cv X cx W) {i : Nat} {x : Str} {p apos cpos pos : Pos} {m : T} {e : Expr} (hv : varB C i x = true) (hl : (apos.endLine == cpos.line) = true) (hs : notStar e = true) (h : PE X e (tT cx X.K W m)) : PS X (.Expr (.Call (.Attribute (.Name x p) "extend" apos) [e] [] cpos) pos) (tS cx X.K W (.ext i m)) :=
  (ps_expr (pe_bm PySem.F.plainAttrs_list PySem.F.slot_list_extend PySem.F.type_list_extend mt_extend (ok.var hv) (pa_cons h pa_nil (starEach_cons hs)) rfl (by rw [starEach_cons hs]; rfl) hl (starEach_cons hs) rfl) rfl).imp fun En σ H ⟨G, ρ, g, e⟩ => by
    rw [exS] at e
    split at e
    · rename_i hsome
      obtain ⟨a, vs0, hs0, hH0⟩ := g.ownRef hsome
      refine ⟨.ref a, hs0, .inl ⟨rfl, vs0, SqL.of hH0⟩, G, ρ, g, e.ofR.mono fun d G1 H1 ρ1 _ g1 f1 e1 v tv => ?_⟩
      obtain ⟨y, ey, e2⟩ := e1.ofO
      have vw := tv.view (Sub.refl _) g1 ey
      unfold extR at e2
      split at e2
      · rename_i ds ho
        split at e2
        · rename_i es
          split at e2
          · rename_i hlim
            obtain ⟨a', vs, h1, h2, h3, r⟩ := g1.ownAt ho
            rw [hs0] at h2
            cases h2
            obtain ⟨b, ws, rfl, h4, r4⟩ := vw.lst g1.sub
            obtain ⟨g2, f2⟩ := g1.chg h1 hs0 (r.append r4)
            exact ⟨a, b, vs, ws, rfl, rfl, h3, h4, by rw [r.length, r4.length, ← lim_eq]; exact hlim, e2 G1 _ σ g2 f2⟩
          · exact e2.elim
        · exact e2.elim
      · exact e2.elim
    · exact e.elim
theorem cs_expr {m : E} {e : Expr} {pos : Pos} (hn : notComp e = true) (h : PE X e (tE cx X.K W m)) : PS X (.Expr e pos) (tS cx X.K W (.expr m)) := (ps_expr h (swaps_no hn)).imp fun En σ H ⟨G, ρ, g, e⟩ => by
  rw [exS] at e
  exact ⟨G, ρ, g, e.ofR.mono fun d G1 H1 ρ1 _ g1 f1 e1 v rv => e1 G1 H1 σ g1 .refl⟩
theorem cs_ret {m : E} {e : Expr} {pos : Pos} (h : PE X e (tE cx X.K W m)) : PS X (.Return (some e) pos) (tS cx X.K W (.ret m)) := (ps_ret h).imp fun En σ H ⟨G, ρ, g, e⟩ => by
  rw [exS] at e
  exact ⟨G, ρ, g, e.ofR.mono fun d G1 H1 ρ1 _ g1 f1 e1 v rv => e1 G1 H1 σ v g1 .refl rv⟩
theorem cs_retN {pos : Pos} : PS X (.Return none pos) (tS cx X.K W .retN) := ps_retN.imp fun En σ H ⟨G, ρ, g, e⟩ => by
  rw [exS] at e
  exact e G H σ .non g .refl .non
theorem cs_brk {pos : Pos} : PS X (.Break pos) (tS cx X.K W .brk) := ps_break.imp fun En σ H ⟨G, ρ, g, e⟩ => by
  rw [exS] at e
  exact e G H σ g .refl
theorem cs_ct {pos : Pos} : PS X (.Continue pos) (tS cx X.K W .ct) := ps_continue.imp fun En σ H ⟨G, ρ, g, e⟩ => by
  rw [exS] at e
  exact e G H σ g .refl
theorem cs_pass {pos : Pos} : PS X (.Pass pos) (tS cx X.K W .pass) := ps_pass.imp fun En σ H ⟨G, ρ, g, e⟩ => by
  rw [exS] at e
  exact e G H σ g .refl
theorem cs_iff {c : E} {a b : List S} {ec : Expr} {sa sb : List Stmt} {pos : Pos} (hc : PT X ec (MP.tB cx X.K W c)) (ha : PSs X sa (tSs cx X.K W a)) (hb : PSs X sb (tSs cx X.K W b)) : PS X (.If ec sa sb pos) (tS cx X.K W (.iff c a b)) := (ps_if hc ha hb).imp fun En σ H ⟨G, ρ, g, e⟩ => by
  rw [exS] at e
  refine ⟨G, ρ, g, e.ofR.mono fun d G1 H1 ρ1 _ g1 f1 e1 => ?_⟩
  split at e1
  · exact ⟨true, rfl, iteT ⟨G1, ρ1, g1, e1⟩⟩
  · exact ⟨false, rfl, iteF ⟨G1, ρ1, g1, e1⟩⟩
  · exact e1.elim
theorem cs_whl {c : E} {b : List S} {ec : Expr} {sb : List Stmt} {pos : Pos} (hp : PassesOwn (model X.prog X.w) X.A X.env X.xe) (hc : PT X ec (MP.tB cx X.K W c)) (hb : PSs X sb (tSs cx X.K W b)) : PS X (.While ec sb [] pos) (tS cx X.K W (.whl c b)) := (ps_while hp hc hb).imp fun En σ H ⟨G, ρ, g, e⟩ => by
  rw [exS] at e
  refine ⟨fun m σ' H' => ∃ G' ρ', Good X.K G' H' σ' ρ' ∧ SEv X.K W G' H' σ' ρ' (whileL (ev cx c) (exSs cx b) m ρ') En, ⟨turnsMost, G, ρ, g, e⟩, ?_⟩
  rintro m σ1 H1 ⟨G1, ρ1, g1, e1⟩
  cases m with
  | zero => exact e1.elim
  | succ n =>
    rw [whileL] at e1
    refine ⟨G1, ρ1, g1, ?_⟩
    cases qc : ev cx c ρ1 with
    | fail => rw [qc] at e1; exact e1
    | exc x ρ2 => rw [qc] at e1; exact fun G' H' g' f' => e1 G' H' σ1 g' f'
    | ok d ρ2 =>
      rw [qc] at e1
      intro G2 H2 g2 f2
      cases d with
      | bl v =>
        refine ⟨v, rfl, ?_⟩
        cases v with
        | false => exact iteF (e1 G2 H2 σ1 g2 f2)
        | true =>
          refine iteT ⟨fun σ' H' => ∃ G' ρ', Good X.K G' H' σ' ρ' ∧ SEv X.K W G' H' σ' ρ' (whileL (ev cx c) (exSs cx b) n ρ') En, fun σ' H' w => ⟨n, Nat.lt_succ_self n, w⟩, G2, ρ2, g2, ?_⟩
          have e2 : SEv X.K W G1 H1 σ1 ρ1 (match exSs cx b ρ2 with
            | .nx ρ => whileL (ev cx c) (exSs cx b) n ρ
            | .ct ρ => whileL (ev cx c) (exSs cx b) n ρ
            | .brk ρ => .nx ρ
            | r => r) En := e1
          have e2 := e2.from f2
          cases qb : exSs cx b ρ2 with
          | fail => rw [qb] at e2; exact e2
          | exc x ρ3 => rw [qb] at e2; exact e2
          | nx ρ3 => rw [qb] at e2; exact fun G3 H3 σ3 g3 f3 => ⟨G3, ρ3, g3, SEv.from (r := whileL (ev cx c) (exSs cx b) n ρ3) e2 f3⟩
          | ret d ρ3 => rw [qb] at e2; exact e2
          | brk ρ3 => rw [qb] at e2; exact e2
          | ct ρ3 => rw [qb] at e2; exact fun G3 H3 σ3 g3 f3 => ⟨G3, ρ3, g3, SEv.from (r := whileL (ev cx c) (exSs cx b) n ρ3) e2 f3⟩
      | _ => exact e1.elim
theorem SEv.unlock {K : PySem.W.Frag} {G H : Hp} {σ : L2.St} {ρ : Env} {it : It} {r : SR} {En : Ends} (h : SEv K W G H σ ρ (SR.mapEnv (unlockT it ρ) r) En) : SEv K W G H σ (lockT it ρ) r En := by
  cases r with
  | fail => exact h
  | exc c ρ' => exact fun G' H' σ' g f => h G' H' σ' (g.alike (alike_unlockT it ρ)) f.unlock
  | nx ρ' => exact fun G' H' σ' g f => h G' H' σ' (g.alike (alike_unlockT it ρ)) f.unlock
  | ret d ρ' => exact fun G' H' σ' v g f => h G' H' σ' v (g.alike (alike_unlockT it ρ)) f.unlock
  | brk ρ' => exact fun G' H' σ' g f => h G' H' σ' (g.alike (alike_unlockT it ρ)) f.unlock
  | ct ρ' => exact fun G' H' σ' g f => h G' H' σ' (g.alike (alike_unlockT it ρ)) f.unlock
theorem cs_for {tg : Tg} {it : It} {b : List S} {et ei : Expr} {sb : List Stmt} {pos : Pos} (hp : PassesOwn (model X.prog X.w) X.A X.env X.xe) (hc : X.calm = true) (hi : PI X et ei (tI cx X.K W it)) (hg : PG X et (tG X.K tg)) (hb : PSs X sb (tSs cx X.K W b)) (hs : notSet ei = true) :
    PS X (.For et ei sb [] pos) (tS cx X.K W (.for_ tg it b)) := (ps_for hp hc hi hg hb (folded_of hs)).imp fun En σ H ⟨G, ρ, g, e⟩ => by
  rw [exS] at e
  refine ⟨G, ρ, g, e.ofR.mono fun ds G1 H1 ρ1 _ g1 f1 e1 J S hS wk => ?_⟩
  have e1 := SEv.unlock e1
  have gl := g1.alike (alike_lockT it)
  refine ⟨fun i m σ' H' => m = ds.length - i ∧ i ≤ ds.length ∧ ∃ G' ρ', Good X.K G' H' σ' ρ' ∧ Fr G1 H1 σ (lockT it ρ1) G' H' σ' ρ' ∧ SEv X.K W G' H' σ' ρ' (forL (fun x ρ => .ofO (tg.asg x ρ) fun ρ => exSs cx b ρ) (ds.drop i) ρ') En, ⟨ds.length, by simp, Nat.zero_le _, G1, _, gl, .refl, by simpa using e1⟩, ?_⟩
  rintro i m σ2 H2 ⟨rfl, hi, G2, ρ2, g2, f2, e2⟩
  have kp : Keep S H1 H2 := fun a u sa hu => f2.keep a u hu ((hS a sa).noOwn gl)
  by_cases hlt : i < ds.length
  · have hd : ds[i]? = some ds[i] := List.getElem?_eq_getElem hlt
    generalize ds[i] = d at hd
    have hdr : ds.drop i = d :: ds.drop (i + 1) := by
      rw [List.drop_eq_getElem_cons hlt]
      congr 1
      rw [List.getElem?_eq_getElem hlt] at hd
      exact Option.some.inj hd
    rw [hdr, forL] at e2
    obtain ⟨q1, q2⟩ := wk.go i d hd G2 H2 f2.gg g2.sub kp
    refine .inr ⟨q1, fun σ' H' => i + 1 ≤ ds.length ∧ ∃ G' ρ', Good X.K G' H' σ' ρ' ∧ Fr G1 H1 σ (lockT it ρ1) G' H' σ' ρ' ∧ SEv X.K W G' H' σ' ρ' (forL (fun x ρ => .ofO (tg.asg x ρ) fun ρ => exSs cx b ρ) (ds.drop (i + 1)) ρ') En, fun σ' H' w => ⟨ds.length - (i + 1), by omega, rfl, w⟩, fun x H3 y => ?_⟩
    obtain ⟨G3, x3, rx⟩ := q2 x H3 y
    cases ea : tg.asg d ρ2 with
    | none => rw [ea] at e2; exact e2.elim
    | some ρ3 =>
      rw [ea] at e2
      refine ⟨G3, ρ2, d, ρ3, g2.ext x3, rx, ea, fun σ4 g4 f4 o4 => ⟨G3, ρ3, g4, ?_⟩⟩
      have fr : Fr G2 H2 σ2 ρ2 G3 H3 σ4 ρ3 := (Fr.ext x3).trans f4
      have fr0 := f2.trans fr
      have e3 : SEv X.K W G2 H2 σ2 ρ2 (match exSs cx b ρ3 with
        | .nx ρ => forL (fun x ρ => .ofO (tg.asg x ρ) fun ρ => exSs cx b ρ) (ds.drop (i + 1)) ρ
        | .ct ρ => forL (fun x ρ => .ofO (tg.asg x ρ) fun ρ => exSs cx b ρ) (ds.drop (i + 1)) ρ
        | .brk ρ => .nx ρ
        | r => r) En := e2
      have e3 := e3.from fr
      cases qb : exSs cx b ρ3 with
      | fail => rw [qb] at e3; exact e3
      | exc x ρ5 => rw [qb] at e3; exact e3
      | nx ρ5 => rw [qb] at e3; exact fun G5 H5 σ5 g5 f5 => ⟨hlt, G5, ρ5, g5, fr0.trans f5, SEv.from (r := forL (fun x ρ => .ofO (tg.asg x ρ) fun ρ => exSs cx b ρ) (ds.drop (i + 1)) ρ5) e3 f5⟩
      | ret d ρ5 => rw [qb] at e3; exact e3
      | brk ρ5 => rw [qb] at e3; exact e3
      | ct ρ5 => rw [qb] at e3; exact fun G5 H5 σ5 g5 f5 => ⟨hlt, G5, ρ5, g5, fr0.trans f5, SEv.from (r := forL (fun x ρ => .ofO (tg.asg x ρ) fun ρ => exSs cx b ρ) (ds.drop (i + 1)) ρ5) e3 f5⟩
  · have ei : i = ds.length := by omega
    subst ei
    refine .inl ⟨wk.stop G2 H2 f2.gg g2.sub kp, ?_⟩
    rw [List.drop_length, forL] at e2
    exact e2 G2 H2 σ2 g2 .refl
end

/-! ### a text against its tree -/
mutual
def chkS : Nat → Cg → S → Stmt → Bool
  | 0, _, _, _ => false
  | n + 1, C, m, st => match m with
    | .set tg e => match st with
      | .Assign [et] ee spos => match ee with
        | .ListComp ee' (⟨et', ei, es, 0⟩ :: gs) scope pos => match tg, et, e with
          | .nm i, .Name x px, .fr (.comp elt tg' it ifs cls own) => if swB C x px scope pos then decide (C.N[i]? = some x) && chkP n C (.comp elt tg' it ifs cls own) (.ListComp ee' (⟨et', ei, es, 0⟩ :: gs) scope pos) else tgB C i x && chkP n C (.comp elt tg' it ifs cls own) (.ListComp ee' (⟨et', ei, es, 0⟩ :: gs) scope pos)
          | _, _, _ => false
        | ee => notComp ee && ((notTup et || notTup ee) && (notStar et && (chkE n C e ee && chkTg C tg et)))
      | _ => false
    | .own i p => match st with
      | .Assign [.Name x px] ee _ => match ee with
        | .ListComp ee' (⟨et', ei, es, 0⟩ :: gs) scope pos => match p with
          | .comp elt tg' it ifs cls own => if swB C x px scope pos then decide (C.N[i]? = some x) && chkP n C (.comp elt tg' it ifs cls own) (.ListComp ee' (⟨et', ei, es, 0⟩ :: gs) scope pos) else tgB C i x && chkP n C (.comp elt tg' it ifs cls own) (.ListComp ee' (⟨et', ei, es, 0⟩ :: gs) scope pos)
          | _ => false
        | ee => notComp ee && (tgB C i x && chkP n C p ee)
      | _ => false
    | .app i e => match st with
      | .Expr (.Call (.Attribute (.Name x _) a apos) [ee] [] cpos) _ => decide (a = "append") && (varB C i x && ((apos.endLine == cpos.line) && (notStar ee && chkE n C e ee)))
      | _ => false
    | .ext i t => match st with
      | .Expr (.Call (.Attribute (.Name x _) a apos) [ee] [] cpos) _ => decide (a = "extend") && (varB C i x && ((apos.endLine == cpos.line) && (notStar ee && chkT n C t ee)))
      | _ => false
    | .expr e => match st with
      | .Expr ee _ => notComp ee && chkE n C e ee
      | _ => false
    | .iff c a b => match st with
      | .If ec sa sb _ => chkB n C c ec && (chkSs n C a sa && chkSs n C b sb)
      | _ => false
    | .whl c b => match st with
      | .While ec sb [] _ => chkB n C c ec && chkSs n C b sb
      | _ => false
    | .for_ tg it b => match st with
      | .For et ei sb [] _ => chkIt n C it ei et && (chkTg C tg et && (notSet ei && chkSs n C b sb))
      | _ => false
    | .ret e => match st with
      | .Return (some ee) _ => chkE n C e ee
      | _ => false
    | .retN => match st with
      | .Return none _ => true
      | _ => false
    | .brk => match st with
      | .Break _ => true
      | _ => false
    | .ct => match st with
      | .Continue _ => true
      | _ => false
    | .pass => match st with
      | .Pass _ => true
      | _ => false
    | _ => false
def chkSs : Nat → Cg → List S → List Stmt → Bool
  | 0, _, _, _ => false
  | n + 1, C, ms, sts => match ms with
    | [] => match sts with
      | [] => true
      | _ => false
    | m :: ms => match m with
      | .frz _ => chkSs n C ms sts
      | m => match sts with
        | st :: sts => chkS n C m st && chkSs n C ms sts
        | [] => false
end
section
variable {C : Cg} {cv : Str → Value} {X : Cx} {cx : Cxt} {W : Wish}
theorem lc_of {n : Nat} {elt : E} {tg : Tg} {it : It} {ifs : List E} {cls : List Cl} {own : List Nat} {ee et ei : Expr} {es : List Expr} {gs : List Comprehension} {scope : Scope} {pos : Pos} (ok : OkM C cv X cx W) (h : chkP n C (.comp elt tg it ifs cls own) (.ListComp ee (⟨et, ei, es, 0⟩ :: gs) scope pos) = true) : LcP C X cx W elt tg it ifs cls own ee et ei es gs scope := by
  cases n with
  | zero => unfold chkP at h; cases h
  | succ n =>
    unfold chkP at h
    exact snd_lc (snd n) ok h
theorem sndS : ∀ n, (∀ {C cv X cx W m st}, OkM C cv X cx W → PassesOwn (model X.prog X.w) X.A X.env X.xe → chkS n C m st = true → PS X st (tS cx X.K W m)) ∧
    (∀ {C cv X cx W ms sts}, OkM C cv X cx W → PassesOwn (model X.prog X.w) X.A X.env X.xe → chkSs n C ms sts = true → PSs X sts (tSs cx X.K W ms))
  | 0 => by
    constructor
    · intro C cv X cx W m st ok hp h
      unfold chkS at h; cases h
    · intro C cv X cx W m st ok hp h
      unfold chkSs at h; cases h
  | n + 1 => by
    obtain ⟨S1, S2⟩ := sndS n
    have E := snd n
    constructor
    · intro C cv X cx W m st ok hp h
      unfold chkS at h
      cases m with
      | set tg e =>
        dsimp only at h
        split at h
        · split at h
          · split at h
            · split at h
              · rename_i hsw
                simp only [Bool.and_eq_true, decide_eq_true_eq] at h
                exact cs_setLc (TM := fun _ _ _ => True) ok (lc_of ok h.2) h.1 hsw fun D σ H q => set_reach q
              · rename_i hsw
                simp only [Bool.and_eq_true] at h
                exact cs_set (by rw [swaps_lc ok, Bool.eq_false_iff.mpr hsw]) (.inl rfl) rfl (ce_fr (E.p ok h.2)) (cg_name (ok.tg h.1))
            · cases h
          · simp only [Bool.and_eq_true, Bool.or_eq_true] at h
            obtain ⟨h1, h2, h3, h4, h5⟩ := h
            exact cs_set (swaps_no h1) h2 h3 (E.e ok h4) (sndTg ok _ _ h5)
        · cases h
      | own i p =>
        dsimp only at h
        split at h
        · split at h
          · split at h
            · split at h
              · rename_i hsw
                simp only [Bool.and_eq_true, decide_eq_true_eq] at h
                exact cs_setLc (TM := fun _ _ _ => True) ok (lc_of ok h.2) h.1 hsw fun D σ H q => own_reach q
              · rename_i hsw
                simp only [Bool.and_eq_true] at h
                exact cs_own ok h.1 (by rw [swaps_lc ok, Bool.eq_false_iff.mpr hsw]) (E.p ok h.2)
            · cases h
          · simp only [Bool.and_eq_true] at h
            exact cs_own ok h.2.1 (swaps_no h.1) (E.p ok h.2.2)
        · cases h
      | app i e =>
        dsimp only at h
        split at h
        · simp only [Bool.and_eq_true, decide_eq_true_eq] at h
          obtain ⟨rfl, h1, h2, h3, h4⟩ := h
          exact cs_app ok h1 h2 h3 (E.e ok h4)
        · cases h
      | ext i t =>
        dsimp only at h
        split at h
        · simp only [Bool.and_eq_true, decide_eq_true_eq] at h
          obtain ⟨rfl, h1, h2, h3, h4⟩ := h
          exact cs_ext ok h1 h2 h3 (E.t ok h4)
        · cases h
      | expr e =>
        dsimp only at h
        split at h
        · simp only [Bool.and_eq_true] at h
          exact cs_expr h.1 (E.e ok h.2)
        · cases h
      | iff c a b =>
        dsimp only at h
        split at h
        · simp only [Bool.and_eq_true] at h
          exact cs_iff (E.b ok h.1) (S2 ok hp h.2.1) (S2 ok hp h.2.2)
        · cases h
      | whl c b =>
        dsimp only at h
        split at h
        · simp only [Bool.and_eq_true] at h
          exact cs_whl hp (E.b ok h.1) (S2 ok hp h.2)
        · cases h
      | for_ tg it b =>
        dsimp only at h
        split at h
        · simp only [Bool.and_eq_true] at h
          exact cs_for hp ok.calm (E.it ok h.1) (sndTg ok _ _ h.2.1) (S2 ok hp h.2.2.2) h.2.2.1
        · cases h
      | ret e =>
        dsimp only at h
        split at h
        · exact cs_ret (E.e ok h)
        · cases h
      | retN =>
        dsimp only at h
        split at h
        · exact cs_retN
        · cases h
      | brk =>
        dsimp only at h
        split at h
        · exact cs_brk
        · cases h
      | ct =>
        dsimp only at h
        split at h
        · exact cs_ct
        · cases h
      | pass =>
        dsimp only at h
        split at h
        · exact cs_pass
        · cases h
      | _ => cases h
    · intro C cv X cx W ms sts ok hp h
      unfold chkSs at h
      cases ms with
      | nil =>
        dsimp only at h
        split at h
        · exact cs_nil
        · cases h
      | cons m ms =>
        dsimp only at h
        split at h
        · exact cs_frz (S2 ok hp h)
        · split at h
          · simp only [Bool.and_eq_true] at h
            exact cs_cons (S1 ok hp h.1) (S2 ok hp h.2)
          · cases h
end
end MP

namespace MP
open PySem PySem.Spec PyProof.Rows L2
/-- a look at a def's names -/
def scM (N Pn : List Str) (sc : Scope) : Bool :=
  decide (sc.kind = .function) && (!sc.isCoroutine && (!sc.isGenerator && (decide N.Nodup && (decide (N.take Pn.length = Pn) && (Pn.all (fun x => decide (sc.names.lookup x = some .local) || decide (sc.names.lookup x = some .cell)) && sc.names.all (fun y => !decide (y.2 = .free)))))))
theorem fnScopeM {N Pn : List Str} {sc : Scope} (h : scM N Pn sc = true) : FnScope N Pn sc := by
  unfold scM at h
  simp only [Bool.and_eq_true, Bool.not_eq_true', decide_eq_true_eq, List.all_eq_true, Bool.or_eq_true, decide_eq_false_iff_not] at h
  obtain ⟨h1, h2, h3, h4, h5, h6, h7⟩ := h
  exact ⟨h1, h2, h3, h4, h5, h6, h7⟩
/-- a def: its tree and its row of the text -/
structure Dt where
  fn : Fn
  st : Stmt
def Dt.ps (d : Dt) : List Str := d.fn.names.take d.fn.nargs
def Dt.cg (d : Dt) (bi : List Str) (fns : List (Str × Nat)) (gls : List Str) : Cg := ⟨d.fn.names, (defScope d.st).names, fun _ => true, bi, fns, gls⟩
def Dt.chk (n : Nat) (bi : List Str) (fns : List (Str × Nat)) (gls : List Str) (d : Dt) : Bool :=
  scM d.fn.names d.ps (defScope d.st) && (decide (d.fn.nargs ≤ d.fn.names.length) && chkSs n (d.cg bi fns gls) d.fn.body (defBody d.st))
abbrev FnD (K : PySem.W.Frag) (d : Dt) (f : Addr) (fd : FuncData) : Prop := FunD K d.fn.name d.fn.name (defArgs d.st) (defBody d.st) (defScope d.st) [] [] f fd
def BindsD (d : Dt) : Prop := ∀ (kV doc pm : Value) (an : Option Addr) (cdv ct : Value) (us : List Value), us.length = d.ps.length → bindArgs (PySem.W.fnOf d.fn.name d.fn.name (defArgs d.st) (defBody d.st) (defScope d.st) .none kV doc pm an cdv ct) ⟨us, []⟩ = pure (d.ps.zip us)
structure World1 (K : PySem.W.Frag) (mg : Str → Option Value) (pr : Pr) (dts : List Dt) (bi : List Str) (fns : List (Str × Nat)) (gls : List Str) : Prop where
  defs : ∀ d ∈ dts, ∃ f fd, FnD K d f fd ∧ mg d.fn.name = some (.ref f)
  binds : ∀ d ∈ dts, BindsD d
  at_ : ∀ d ∈ dts, pr.fn d.fn.name = some d.fn
  fns : ∀ f n, (f, n) ∈ fns → ∃ d ∈ dts, d.fn.name = f ∧ d.fn.nargs = n
  bi : ∀ x ∈ bi, mg x = none
  gls : ∀ x ∈ gls, ∃ d v u, pr.gl x = some d ∧ mg x = some u ∧ RelV v u ∧ ∀ G, Rep K G v d
section
variable {P : Program} {w : World} {K : PySem.W.Frag} {mg : Str → Option Value} {base : Heap} {pr : Pr} {dts : List Dt} {bi : List Str} {fns : List (Str × Nat)} {gls : List Str} {cv : Str → Value}
theorem start_good {G H : Hp} {vs : List V} {ds : List D} {N : List Str} {n : Nat} (s : Sub G H) (r : RepL K G vs ds) (hn : ds.length = n) (hN : n ≤ N.length) : Good K G H (L2.start N vs) (ds.map .fr ++ List.replicate (N.length - n) .un) := by
  have hv := r.length
  have nh : ∀ (i : Nat) (x : Sl), (ds.map Sl.fr ++ List.replicate (N.length - n) Sl.un)[i]? = some x → (∃ d, x = .fr d ∧ ds[i]? = some d) ∨ x = .un := fun i x h => by
    by_cases q : i < (ds.map Sl.fr).length
    · rw [List.getElem?_append_left q, List.getElem?_map, Option.map_eq_some_iff] at h
      obtain ⟨d, h1, h2⟩ := h
      exact .inl ⟨d, h2.symm, h1⟩
    · rw [List.getElem?_append_right (by omega), List.getElem?_replicate] at h
      split at h
      · exact .inr (Option.some.inj h).symm
      · cases h
  refine ⟨?_, s, fun i d h => ?_, fun i d h => ?_, fun i j a d e h => ?_⟩
  · unfold L2.start
    simp only [List.length_append, List.length_map, List.length_replicate]
    omega
  · rcases nh i _ h with ⟨e, q, h1⟩ | q
    · cases q
      obtain ⟨v, h2, h3⟩ := r.get h1
      refine ⟨v, ?_, h3⟩
      unfold L2.start
      have hi : i < vs.length := (List.getElem?_eq_some_iff.mp h2).1
      rw [List.getElem?_append_left (by simpa using hi), List.getElem?_map, h2]
      rfl
    · cases q
  · rcases h with h | h
    · rcases nh i _ h with ⟨e, q, _⟩ | q <;> cases q
    · rcases nh i _ h with ⟨e, q, _⟩ | q <;> cases q
  · rcases h with h | h
    · rcases nh i _ h with ⟨e, q, _⟩ | q <;> cases q
    · rcases nh i _ h with ⟨e, q, _⟩ | q <;> cases q
theorem start_ext {G H G' H' : Hp} {σ : L2.St} {ρ' : Env} {vs : List V} {ds : List D} {N : List Str} {n : Nat} (g : Good K G' H' σ ρ') (f : Fr G H (L2.start N vs) (ds.map .fr ++ List.replicate (N.length - n) .un) G' H' σ ρ') : Ext G H G' H' := by
  have no : ∀ a, ¬ OwnAt (L2.start N vs) (ds.map Sl.fr ++ List.replicate (N.length - n) Sl.un) a := fun a ⟨i, d, h, _⟩ => by
    by_cases q : i < (ds.map Sl.fr).length
    · rw [List.getElem?_append_left q, List.getElem?_map, Option.map_eq_some_iff] at h
      obtain ⟨d, _, h2⟩ := h
      cases h2
    · rw [List.getElem?_append_right (by omega), List.getElem?_replicate] at h
      split at h <;> cases h
  refine ⟨f.gg, g.sub, fun a u h => f.keep a u h (no a), fun a h => ?_⟩
  rcases f.new a h with z | z | z
  · exact .inl z
  · exact .inr z
  · exact absurd z (no a)
theorem fnM (Y : World1 K mg pr dts bi fns gls) {n : Nat} (hc : (dts.all fun d => d.chk n bi fns gls) = true) : ∀ (k : Nat), ∀ d ∈ dts, ∀ f fd, FnD K d f fd → FnOk P w K mg base (L2.CX P w) k f fd d.ps (spF K cv (pr.cf k) d.fn.name d.fn.nargs)
  | 0 => fun d hd f fd F => ⟨fun vs H Q E ⟨G, ds, _, _, _, h⟩ => h.elim, fun A outer s H args us vs Q E _ _ _ _ ⟨G, ds, _, _, _, h⟩ => h.elim⟩
  | k + 1 => fun d hd f fd F => by
    have ck := List.all_eq_true.mp hc d hd
    unfold Dt.chk at ck
    simp only [Bool.and_eq_true, decide_eq_true_eq] at ck
    obtain ⟨c1, c2, c3⟩ := ck
    have S := fnScopeM c1
    have pl : d.ps.length = d.fn.nargs := by unfold Dt.ps; rw [List.length_take]; omega
    refine FunD.ok (N := d.fn.names) F S (fun vs H Q E ⟨G, ds, _, _, h, _⟩ => by rw [pl]; exact h) (fun cdv A outer s H vs Q E hr ⟨G, ds, sb, rs, hl, h⟩ => ?_)
    refine ⟨tSs ⟨pr.cf k, pr.gl⟩ K (fun c _ H' => E (cv c) none H') d.fn.body, ?_, ?_⟩
    · refine (sndS n).2 (C := d.cg bi fns gls) (cv := cv) ?_ (passes_of rfl) c3
      refine ⟨rfl, S.nd, rfl, S.kind, fun _ _ => rfl, rfl, ?_, Y.bi, fun f' n' hf => ?_, Y.gls, fun σ => ?_⟩
      · have := hr.un
        show (A.deeper _).units + 65 < cLine
        omega
      · obtain ⟨d', hd', rfl, rfl⟩ := Y.fns f' n' hf
        obtain ⟨f2, fd2, F2, g2⟩ := Y.defs d' hd'
        exact ⟨⟨f2, fd2, d'.ps, k, fnM Y hc k d' hd' f2 fd2 F2, hr, g2, F2.kp, FunD.bindsN F2 (Y.binds d' hd')⟩⟩
      · refine passAt (Takes.imp (takes_of rfl rfl rfl rfl) fun cls dd σ H' q => ?_) σ
        obtain ⟨c, rfl, rfl, q⟩ := q
        exact q
    · have hd2 : ds.length = d.fn.nargs := by rw [← rs.length]; exact hl
      refine ⟨G, _, start_good sb rs hd2 c2, ?_⟩
      rw [Pr.cf, Y.at_ d hd] at h
      have h : match (d.fn.run ⟨pr.cf k, pr.gl⟩ ds) with
        | .fail => False
        | .exc c => ∀ G' H', Ext G H G' H' → E (cv c) none H'
        | .ok r => After K G H Q r := h
      unfold Fn.run at h
      rw [if_pos hd2] at h
      cases q : exSs ⟨pr.cf k, pr.gl⟩ d.fn.body (ds.map .fr ++ List.replicate (d.fn.names.length - d.fn.nargs) .un) with
      | fail => rw [q] at h; exact h
      | exc c ρ' => rw [q] at h; exact fun G' H' σ' g' f' => h G' H' (start_ext g' f')
      | nx ρ' => rw [q] at h; exact fun G' H' σ' g' f' => h G' H' .non (start_ext g' f') .non
      | ret r ρ' => rw [q] at h; exact fun G' H' σ' v g' f' rv => h G' H' v (start_ext g' f') rv
      | brk ρ' => rw [q] at h; exact h.elim
      | ct ρ' => rw [q] at h; exact h.elim
/-- the law's answer -/
theorem law_sp {k : Nat} {a : Addr} {ns : List Int} {H : Hp} (hS : SqL K H a (ns.map V.int)) (h : pr.cf k "law" [.scr (ns.map .int)] = .ok (.bl true)) : spF K cv (pr.cf k) "law" 1 [.ref a] H (fun v _ => v = .bl true) fun _ _ _ => False := by
  refine ⟨H, [.scr (ns.map .int)], Sub.refl _, .cons (.scr hS (repL_ints ns)) .nil, rfl, ?_⟩
  rw [h]
  intro G' H' v x r
  cases r
  rfl
theorem calmFn {P : Program} {w : World} {K : PySem.W.Frag} {mg : Str → Option Value} {base : Heap} {k : Nat} {f : Addr} {fd : FuncData} {ps : List Str} {sp : Sp} (F : FnOk P w K mg base (L2.CX P w) k f fd ps sp) : FnOk P w K mg base CX0 k f fd ps (fun vs H Q _ => sp vs H Q fun _ _ _ => False) := by
  refine ⟨fun vs H Q E h => F.len _ _ _ _ h, fun A outer s H args us vs Q E hr e hb r h => codeAny_mono (F.run A outer s H args us vs Q (fun _ _ _ => False) hr e hb r h) fun r s' q => ?_⟩
  cases r with
  | error x =>
    obtain ⟨a, B, H', cls, d, _, _, _, _, _, _, _, z⟩ := (show L2.CX P w outer H s (fun _ _ _ => False) x s' from q)
    exact z.elim
  | ok fl => cases fl <;> exact q
end
end MP

namespace K40
open MP PySem
def f_items_of_c1 : P := .comp (.var 2) (.nm 1) (.t (.e (.ix (.e (.var 0)) (.e (.con (.int 1)))))) [] [(.mk (.nm 2) (.t (.e (.call "items_of" [(.var 1)]))) [])] [1, 2]
def f_items_of : Fn := ⟨"items_of", ["tree", "part", "item"], 1, [(.iff (.cmp .eq (.e (.ix (.e (.var 0)) (.e (.con (.int 0))))) (.e (.con (.str "item"))))
[(.ret (.fr (.lst [(.ix (.e (.var 0)) (.e (.con (.int 1))))])))]
[]),
(.ret (.fr f_items_of_c1))]⟩
def f_pairs_of_c1 : P := .comp (.var 4) (.nm 3) (.t (.e (.ix (.e (.var 0)) (.e (.con (.int 1)))))) [] [(.mk (.nm 4) (.t (.e (.call "pairs_of" [(.var 3)]))) [])] [3, 4]
def f_pairs_of_c2 : P := .comp (.call "items_of" [(.var 3)]) (.nm 3) (.t (.e (.ix (.e (.var 0)) (.e (.con (.int 1)))))) [] [] [3]
def f_pairs_of_c3 : P := .comp (.tup [(.var 7), (.var 8)]) (.nm 5) (.r1 (.bi .len [(.e (.var 2))])) [] [(.mk (.nm 6) (.r1 (.var 5)) []), (.mk (.nm 7) (.t (.e (.ix (.e (.var 2)) (.e (.var 6))))) []), (.mk (.nm 8) (.t (.e (.ix (.e (.var 2)) (.e (.var 5))))) [])] [5, 6, 7, 8]
def f_pairs_of : Fn := ⟨"pairs_of", ["tree", "found", "parts", "part", "pair", "j", "i", "a", "b"], 1, [(.iff (.cmp .eq (.e (.ix (.e (.var 0)) (.e (.con (.int 0))))) (.e (.con (.str "item"))))
[(.ret (.fr (.lst [])))]
[]),
(.own 1 f_pairs_of_c1),
(.iff (.cmp .eq (.e (.ix (.e (.var 0)) (.e (.con (.int 0))))) (.e (.con (.str "stacked"))))
[(.set (.nm 2) (.fr f_pairs_of_c2)),
(.ext 1 (.e (.fr f_pairs_of_c3)))]
[]),
(.frz 1),
(.ret (.var 1))]⟩
def f_joined : Fn := ⟨"joined", ["tree"], 1, [(.ret (.tup [(.bi .len [(.e (.call "items_of" [(.var 0)]))]), (.bi .tuple [(.e (.fr (.sorted (.e (.call "pairs_of" [(.var 0)])))))])]))]⟩
def f_law_cell : Fn := ⟨"_law_cell", ["script", "k"], 2, [(.iff (.cmp .lt (.e (.var 1)) (.e (.bi .len [(.e (.var 0))])))
[(.ret (.ix (.e (.var 0)) (.e (.var 1))))]
[]),
(.ret (.con (.int 0)))]⟩
def f_law_draws_b1 : List S := [(.iff (.and_ (.cmp .ge (.e (.var 0)) (.e (.bin .pow (.e (.con (.int 10))) (.e (.con (.int 18)))))) (.cmp .gt (.e (.var 3)) (.e (.con (.int 0)))))
[(.app 2 (.bin .mod (.e (.bi .int [(.e (.var 3))])) (.e (.con (.int 4096))))),
(.set (.nm 3) (.bin .fdiv (.e (.var 3)) (.e (.con (.int 4096)))))]
[(.set (.nm 5) (.bin .mod (.e (.bi .int [(.e (.bin .add (.e (.bin .mul (.e (.var 0)) (.e (.con (.int 48271))))) (.e (.bin .mul (.e (.bin .add (.e (.var 4)) (.e (.con (.int 1))))) (.e (.con (.int 69621)))))))])) (.e (.con (.int 2147483647))))),
(.set (.nm 5) (.bin .mod (.e (.bi .int [(.e (.bin .add (.e (.bin .add (.e (.bin .mul (.e (.var 5)) (.e (.var 5)))) (.e (.bin .mul (.e (.var 5)) (.e (.con (.int 16807))))))) (.e (.bin .mul (.e (.var 4)) (.e (.con (.int 7919)))))))])) (.e (.con (.int 2147483629))))),
(.set (.nm 5) (.bin .mod (.e (.bi .int [(.e (.bin .add (.e (.bin .add (.e (.bin .mul (.e (.var 5)) (.e (.var 5)))) (.e (.var 0)))) (.e (.bin .mul (.e (.con (.int 13))) (.e (.var 4))))))])) (.e (.con (.int 2147483587))))),
(.app 2 (.bin .mod (.e (.bin .fdiv (.e (.var 5)) (.e (.con (.int 7))))) (.e (.con (.int 4096)))))])]
def f_law_draws : Fn := ⟨"_law_draws", ["cell", "amount", "rows", "left", "k", "mixed"], 2, [(.own 2 (.lst [])),
(.set (.nm 3) (.var 0)),
(.for_ (.nm 4) (.r1 (.var 1)) f_law_draws_b1),
(.frz 2),
(.ret (.var 2))]⟩
def f_law_kind : Fn := ⟨"_law_kind", ["x"], 1, [(.iff (.isi (.e (.var 0)) .bool)
[(.ret (.con (.int 1)))]
[]),
(.iff (.isi (.e (.var 0)) .int)
[(.ret (.con (.int 2)))]
[]),
(.iff (.isi (.e (.var 0)) .str)
[(.ret (.con (.int 3)))]
[]),
(.iff (.isi (.e (.var 0)) .tup)
[(.ret (.con (.int 4)))]
[]),
(.iff (.isi (.e (.var 0)) .lst)
[(.ret (.con (.int 5)))]
[]),
(.iff (.isi (.e (.var 0)) .dict)
[(.ret (.con (.int 6)))]
[]),
(.ret (.con (.int 0)))]⟩
def f_law_equal_c1 : P := .comp (.var 3) (.nm 3) (.r1 (.bi .len [(.e (.var 1))])) [(.nt (.call "_law_equal" [(.ix (.e (.var 0)) (.e (.var 3))), (.ix (.e (.var 1)) (.e (.var 3)))]))] [] [3]
def f_law_equal_c2 : P := .comp (.var 4) (.nm 4) (.t (.e (.var 1))) [(.and_ (.cmp .eq (.e (.var 4)) (.e (.var 2))) (.call "_law_equal" [(.var 2), (.var 4)]))] [] [4]
def f_law_equal_b1 : List S := [(.iff (.or_ (.cmp .nin (.e (.var 2)) (.e (.var 1))) (.nt (.call "_law_equal" [(.ix (.e (.var 0)) (.e (.var 2))), (.ix (.e (.var 1)) (.e (.var 2)))])))
[(.ret (.con (.bl false)))]
[]),
(.iff (.cmp .eq (.e (.bi .len [(.e (.fr f_law_equal_c2))])) (.e (.con (.int 0))))
[(.ret (.con (.bl false)))]
[])]
def f_law_equal : Fn := ⟨"_law_equal", ["x", "due", "key", "k", "other"], 2, [(.iff (.cmp .ne (.e (.call "_law_kind" [(.var 0)])) (.e (.call "_law_kind" [(.var 1)])))
[(.ret (.con (.bl false)))]
[]),
(.iff (.or_ (.isi (.e (.var 1)) .tup) (.isi (.e (.var 1)) .lst))
[(.iff (.cmp .ne (.e (.bi .len [(.e (.var 0))])) (.e (.bi .len [(.e (.var 1))])))
[(.ret (.con (.bl false)))]
[]),
(.ret (.cmp .eq (.e (.bi .len [(.e (.fr f_law_equal_c1))])) (.e (.con (.int 0)))))]
[]),
(.iff (.isi (.e (.var 1)) .dict)
[(.iff (.cmp .ne (.e (.bi .len [(.e (.var 0))])) (.e (.bi .len [(.e (.var 1))])))
[(.ret (.con (.bl false)))]
[]),
(.for_ (.nm 2) (.t (.e (.var 0))) f_law_equal_b1),
(.ret (.con (.bl true)))]
[]),
(.ret (.cmp .eq (.e (.var 0)) (.e (.var 1))))]⟩
def f_law_names_b1 : List S := [(.set (.nm 4) (.bin .add (.e (.var 4)) (.e (.tup [(.pop 3 (.some (.bin .mod (.e (.bi .int [(.e (.ix (.e (.var 0)) (.e (.bin .mod (.e (.bin .add (.e (.var 1)) (.e (.var 5)))) (.e (.bi .len [(.e (.var 0))]))))))])) (.e (.bi .len [(.b 3)])))))]))))]
def f_law_names : Fn := ⟨"_law_names", ["draws", "at", "n", "left", "found", "k"], 3, [(.own 3 (.listR (.r1 (.var 2)))),
(.set (.nm 4) (.tup [])),
(.for_ (.nm 5) (.r1 (.var 2)) f_law_names_b1),
(.ret (.var 4))]⟩
def f_law_some_tree_c1 : P := .comp (.tup [(.con (.str "item")), (.var 5)]) (.nm 5) (.t (.e (.var 2))) [] [] [5]
def f_law_some_tree_b1 : List S := [(.iff (.cmp .eq (.e (.ix (.e (.var 11)) (.e (.con (.int 0))))) (.e (.var 8)))
[(.own 10 (.cat (.b 10) (.e (.fr (.list (.e (.ix (.e (.var 11)) (.e (.con (.int 1))))))))))]
[(.app 10 (.var 11))])]
def f_law_some_tree_b2 : List S := [(.iff (.cmp .gt (.e (.bi .len [(.e (.var 3))])) (.e (.con (.int 1))))
[(.set (.nm 6) (.bin .mod (.e (.bi .int [(.e (.ix (.e (.var 0)) (.e (.bin .add (.e (.con (.int 12))) (.e (.var 4))))))])) (.e (.bin .sub (.e (.bi .len [(.e (.var 3))])) (.e (.con (.int 1))))))),
(.set (.nm 7) (.bin .add (.e (.con (.int 2))) (.e (.bin .mod (.e (.bin .fdiv (.e (.bi .int [(.e (.ix (.e (.var 0)) (.e (.bin .add (.e (.con (.int 12))) (.e (.var 4))))))])) (.e (.con (.int 8))))) (.e (.con (.int 3))))))),
(.set (.nm 8) (.ix (.e (.fr (.lst [(.con (.str "beside")), (.con (.str "stacked"))]))) (.e (.bin .mod (.e (.bi .int [(.e (.ix (.e (.var 0)) (.e (.bin .add (.e (.con (.int 21))) (.e (.var 4))))))])) (.e (.con (.int 2))))))),
(.set (.nm 9) (.sl (.e (.var 3)) (.some (.var 6)) (.some (.bin .add (.e (.var 6)) (.e (.var 7)))))),
(.own 10 (.lst [])),
(.for_ (.nm 11) (.t (.e (.var 9))) f_law_some_tree_b1),
(.set (.nm 3) (.bin .add (.e (.bin .add (.e (.sl (.e (.var 3)) .none (.some (.var 6)))) (.e (.fr (.lst [(.tup [(.var 8), (.bi .tuple [(.b 10)])])]))))) (.e (.sl (.e (.var 3)) (.some (.bin .add (.e (.var 6)) (.e (.var 7)))) .none))))]
[])]
def f_law_some_tree_b3 : List S := [(.set (.nm 3) (.bin .add (.e (.fr (.lst [(.tup [(.con (.str "beside")), (.tup [(.ix (.e (.var 3)) (.e (.con (.int 0)))), (.ix (.e (.var 3)) (.e (.con (.int 1))))])])]))) (.e (.sl (.e (.var 3)) (.some (.con (.int 2))) .none))))]
def f_law_some_tree : Fn := ⟨"_law_some_tree", ["draws", "n", "names", "parts", "turn", "name", "at", "size", "word", "lot", "flat", "part"], 2, [(.set (.nm 2) (.call "_law_names" [(.var 0), (.con (.int 3)), (.var 1)])),
(.set (.nm 3) (.fr f_law_some_tree_c1)),
(.for_ (.nm 4) (.r1 (.con (.int 8))) f_law_some_tree_b2),
(.whl (.cmp .gt (.e (.bi .len [(.e (.var 3))])) (.e (.con (.int 1)))) f_law_some_tree_b3),
(.ret (.ix (.e (.var 3)) (.e (.con (.int 0)))))]⟩
def f_law_tree_items_b1 : List S := [(.set (.nm 1) (.bin .add (.e (.var 1)) (.e (.call "_law_tree_items" [(.var 2)]))))]
def f_law_tree_items : Fn := ⟨"_law_tree_items", ["tree", "found", "part"], 1, [(.iff (.cmp .eq (.e (.ix (.e (.var 0)) (.e (.con (.int 0))))) (.e (.con (.str "item"))))
[(.ret (.fr (.lst [(.ix (.e (.var 0)) (.e (.con (.int 1))))])))]
[]),
(.set (.nm 1) (.fr (.lst []))),
(.for_ (.nm 2) (.t (.e (.ix (.e (.var 0)) (.e (.con (.int 1)))))) f_law_tree_items_b1),
(.ret (.var 1))]⟩
def f_law_joined_c1 : P := .comp (.tup [(.var 6), (.var 7)]) (.nm 7) (.t (.e (.call "_law_tree_items" [(.ix (.e (.ix (.e (.var 3)) (.e (.con (.int 1))))) (.e (.var 4)))]))) [] [] [7]
def f_law_joined_b1 : List S := [(.set (.nm 2) (.bin .add (.e (.var 2)) (.e (.fr f_law_joined_c1))))]
def f_law_joined_b2 : List S := [(.for_ (.nm 6) (.t (.e (.call "_law_tree_items" [(.ix (.e (.ix (.e (.var 3)) (.e (.con (.int 1))))) (.e (.var 5)))]))) f_law_joined_b1)]
def f_law_joined_b3 : List S := [(.app 1 (.ix (.e (.ix (.e (.var 3)) (.e (.con (.int 1))))) (.e (.var 4)))),
(.iff (.cmp .eq (.e (.ix (.e (.var 3)) (.e (.con (.int 0))))) (.e (.con (.str "stacked"))))
[(.for_ (.nm 5) (.r1 (.var 4)) f_law_joined_b2)]
[])]
def f_law_joined_b4 : List S := [(.set (.nm 3) (.pop 1 .none)),
(.iff (.cmp .ne (.e (.ix (.e (.var 3)) (.e (.con (.int 0))))) (.e (.con (.str "item"))))
[(.for_ (.nm 4) (.r1 (.bi .len [(.e (.ix (.e (.var 3)) (.e (.con (.int 1)))))])) f_law_joined_b3)]
[])]
def f_law_joined : Fn := ⟨"_law_joined", ["tree", "waiting", "pairs", "here", "k", "j", "a", "b"], 1, [(.own 1 (.lst [(.var 0)])),
(.set (.nm 2) (.fr (.lst []))),
(.whl (.cmp .gt (.e (.bi .len [(.b 1)])) (.e (.con (.int 0)))) f_law_joined_b4),
(.ret (.tup [(.bi .len [(.e (.call "_law_tree_items" [(.var 0)]))]), (.bi .tuple [(.e (.fr (.sorted (.e (.var 2)))))])]))]⟩
def f_law_b1 : List S := [(.set (.nm 2) (.call "_law_draws" [(.call "_law_cell" [(.var 0), (.var 1)]), (.con (.int 40))])),
(.set (.nm 3) (.call "_law_some_tree" [(.var 2), (.bin .add (.e (.con (.int 1))) (.e (.bin .mod (.e (.ix (.e (.var 2)) (.e (.con (.int 0))))) (.e (.con (.int 8))))))])),
(.iff (.nt (.call "_law_equal" [(.call "joined" [(.var 3)]), (.call "_law_joined" [(.var 3)])]))
[(.ret (.con (.bl false)))]
[])]
def f_law : Fn := ⟨"law", ["script", "turn", "draws", "tree"], 1, [(.for_ (.nm 1) (.r1 (.con (.int 3))) f_law_b1),
(.ret (.call "_law_equal" [(.call "joined" [(.tup [(.con (.str "item")), (.con (.int 0))])]), (.tup [(.con (.int 1)), (.tup [])])]))]⟩
def pr : Pr := ⟨[f_items_of, f_pairs_of, f_joined, f_law_cell, f_law_draws, f_law_kind, f_law_equal, f_law_names, f_law_some_tree, f_law_tree_items, f_law_joined, f_law], []⟩
end K40
namespace MP
theorem cf_eq {p : Pr} {x : PySem.Str} {f : Fn} (h : p.fn x = some f) (n : Nat) (ds : List D) : p.cf (n + 1) x ds = f.run ⟨p.cf n, p.gl⟩ ds := by
  rw [Pr.cf, h]
theorem seq_nx {cx : Cxt} {s : S} {ss : List S} {ρ ρ' : Env} {r : SR} (h : exS cx s ρ = .nx ρ') (t : exSs cx ss ρ' = r) : exSs cx (s :: ss) ρ = r := by
  rw [exSs, h]; exact t
theorem seq_one {cx : Cxt} {s : S} {ρ : Env} {r : SR} (h : exS cx s ρ = r) : exSs cx [s] ρ = r := by
  rw [exSs, h]
  cases r <;> rfl
theorem iff_T {cx : Cxt} {c : E} {a b : List S} {ρ : Env} {r : SR} (h : ev cx c ρ = .ok (.bl true) ρ) (t : exSs cx a ρ = r) : exS cx (.iff c a b) ρ = r := by
  rw [exS, h]; exact t
theorem iff_F {cx : Cxt} {c : E} {a b : List S} {ρ : Env} {r : SR} (h : ev cx c ρ = .ok (.bl false) ρ) (t : exSs cx b ρ = r) : exS cx (.iff c a b) ρ = r := by
  rw [exS, h]; exact t
theorem set_nm {cx : Cxt} {i : Nat} {e : E} {ρ : Env} {d : D} (h : ev cx e ρ = .ok d ρ) (hi : i < ρ.length) : exS cx (.set (.nm i) e) ρ = .nx (ρ.set i (.fr d)) := by
  rw [exS, h]
  show SR.ofO ((Tg.nm i).asg d ρ) .nx = _
  rw [Tg.asg, if_pos hi]
  rfl
theorem turns_app {F : D → List D → Env → R (List D)} {g : D → List D} (Inv : Env → Prop) : ∀ (xs : List D) (acc : List D) (ρ : Env), (∀ x ∈ xs, ∀ (acc : List D) (ρ : Env), Inv ρ → acc.length + (g x).length ≤ lim → ∃ ρ', Inv ρ' ∧ F x acc ρ = .ok (acc ++ g x) ρ') → Inv ρ → acc.length + (xs.flatMap g).length ≤ lim →
    ∃ ρ', Inv ρ' ∧ turns F xs acc ρ = .ok (acc ++ xs.flatMap g) ρ'
  | [], acc, ρ, _, i, _ => ⟨ρ, i, by simp [turns]⟩
  | x :: xs, acc, ρ, h, i, hl => by
    rw [List.flatMap_cons, List.length_append] at hl
    obtain ⟨ρ1, i1, e1⟩ := h x List.mem_cons_self acc ρ i (by omega)
    obtain ⟨ρ2, i2, e2⟩ := turns_app Inv xs (acc ++ g x) ρ1 (fun y hy => h y (List.mem_cons_of_mem _ hy)) i1 (by rw [List.length_append]; omega)
    refine ⟨ρ2, i2, ?_⟩
    rw [turns, e1]
    show turns F xs (acc ++ g x) ρ1 = _
    rw [e2, List.flatMap_cons, List.append_assoc]
theorem mulOk_r (x y : Int) (h : -(2 ^ 64) < y ∧ y < 2 ^ 64) : mulOk x y = true := by
  unfold mulOk
  simp only [Bool.or_eq_true, Bool.and_eq_true, decide_eq_true_eq]
  exact .inr h
theorem mulOk_l (x y : Int) (h : -(2 ^ 64) < x ∧ x < 2 ^ 64) : mulOk x y = true := by
  unfold mulOk
  simp only [Bool.or_eq_true, Bool.and_eq_true, decide_eq_true_eq]
  exact .inl h
theorem mulOk_emod (x y m : Int) (h : 0 < m ∧ m < 2 ^ 62) : mulOk (x % m) y = true := by
  have h1 := Int.emod_nonneg x (b := m) (by omega)
  have h2 := Int.emod_lt_of_pos x h.1
  exact mulOk_l _ _ (by omega)
theorem forL_inv {f : D → Env → SR} (Inv : Nat → Env → Prop) : ∀ (xs : List D) (i : Nat) (ρ : Env), (∀ (j : Nat) (x : D) (ρ : Env), xs[j]? = some x → Inv (i + j) ρ → ∃ ρ', Inv (i + j + 1) ρ' ∧ f x ρ = .nx ρ') → Inv i ρ → ∃ ρ', Inv (i + xs.length) ρ' ∧ forL f xs ρ = .nx ρ'
  | [], i, ρ, _, h => ⟨ρ, h, by rw [forL]⟩
  | x :: xs, i, ρ, h, hi => by
    obtain ⟨ρ1, h1, e1⟩ := h 0 x ρ rfl hi
    obtain ⟨ρ2, h2, e2⟩ := forL_inv Inv xs (i + 1) ρ1 (fun j y ρ hj hI => by
      have := h (j + 1) y ρ hj (by rw [show i + (j + 1) = i + 1 + j by omega]; exact hI)
      rw [show i + (j + 1) + 1 = i + 1 + j + 1 by omega] at this
      exact this) h1
    refine ⟨ρ2, by rw [List.length_cons, show i + (xs.length + 1) = i + 1 + xs.length by omega]; exact h2, ?_⟩
    rw [forL, e1]
    exact e2
theorem rng_len' {a b : Int} : (rng a b).length = (b - a).toNat := by unfold rng; rw [List.length_map, List.length_range]
theorem rng_get {a b : Int} {j : Nat} {x : D} (h : (rng a b)[j]? = some x) : x = .int (a + j) ∧ j < (b - a).toNat := by
  unfold rng at h
  rw [List.getElem?_map, Option.map_eq_some_iff] at h
  obtain ⟨k, h1, rfl⟩ := h
  obtain ⟨h2, h3⟩ := List.getElem?_eq_some_iff.mp h1
  rw [List.length_range] at h2
  rw [List.getElem_range] at h3
  subst h3
  exact ⟨rfl, h2⟩
def TF (cx : Cxt) (tg : Tg) (ifs : List E) (rest : List D → Env → R (List D)) : D → List D → Env → R (List D) := fun x acc ρ => match tg.asg x ρ with
  | some ρ => (evIfs cx ifs ρ).bind fun b ρ => if b then rest acc ρ else .ok acc ρ
  | none => .fail
theorem comp_ok {cx : Cxt} {elt : E} {tg : Tg} {it : It} {ifs : List E} {cls : List Cl} {own : List Nat} {ρ ρ1 ρ2 : Env} {xs acc : List D} (h1 : evIt cx it ρ = .ok xs ρ1) (h2 : turns (TF cx tg ifs fun acc ρ => evCls cx (emit (ev cx elt)) cls acc ρ) xs [] (MP.wipe (lockT it ρ1) own) = .ok acc ρ2) :
    evP cx (.comp elt tg it ifs cls own) ρ = .ok (.lst acc) (unlockT it ρ1 (MP.back (lockT it ρ1) ρ2 own)) := by
  rw [evP, h1]
  show (R.mapEnv (fun ρ' => unlockT it ρ1 (MP.back (lockT it ρ1) ρ' own)) (turns (TF cx tg ifs fun acc ρ => evCls cx (emit (ev cx elt)) cls acc ρ) xs [] (MP.wipe (lockT it ρ1) own)).noX).bind (fun acc ρ => R.ok (D.lst acc) ρ) = _
  rw [h2]
  rfl
theorem cls_ok {cx : Cxt} {em : List D → Env → R (List D)} {tg : Tg} {it : It} {ifs : List E} {cls : List Cl} {ρ ρ1 ρ2 : Env} {xs acc acc' : List D} (h1 : evIt cx it ρ = .ok xs ρ1) (h2 : turns (TF cx tg ifs fun acc ρ => evCls cx em cls acc ρ) xs acc (lockT it ρ1) = .ok acc' ρ2) :
    evCls cx em (.mk tg it ifs :: cls) acc ρ = .ok acc' (unlockT it ρ1 ρ2) := by
  rw [evCls, h1]
  show R.mapEnv (unlockT it ρ1) (turns (TF cx tg ifs fun acc ρ => evCls cx em cls acc ρ) xs acc (lockT it ρ1)) = _
  rw [h2]
  rfl
theorem TF_ok {cx : Cxt} {tg : Tg} {rest : List D → Env → R (List D)} {x : D} {acc : List D} {ρ ρ1 : Env} {r : R (List D)} (h : tg.asg x ρ = some ρ1) (h2 : rest acc ρ1 = r) : TF cx tg [] rest x acc ρ = r := by
  unfold TF
  rw [h]
  show (evIfs cx [] ρ1).bind _ = _
  rw [evIfs]
  exact h2
theorem emit_ok {cx : Cxt} {e : E} {acc : List D} {ρ : Env} {d : D} (h : ev cx e ρ = .ok d ρ) (hl : acc.length < lim) : evCls cx (emit (ev cx e)) [] acc ρ = .ok (acc ++ [d]) ρ := by
  rw [evCls]
  unfold emit
  rw [h]
  show (if acc.length < lim then R.ok (acc ++ [d]) ρ else .fail) = _
  rw [if_pos hl]
theorem smallI_nat (n : Nat) (h : n ≤ 16777216) : smallI (n : Int) = true := by
  have h1 : (0 : Int) ≤ n := Int.natCast_nonneg n
  have h2 : (n : Int) ≤ 16777216 := Int.ofNat_le.mpr h
  generalize (n : Int) = z at h1 h2
  unfold smallI
  rw [Bool.and_eq_true, decide_eq_true_eq, decide_eq_true_eq]
  omega
theorem evIt_r1 {cx : Cxt} {m : E} {ρ : Env} {z : Int} (h : ev cx m ρ = .ok (.int z) ρ) (hs : smallI z = true) : evIt cx (.r1 m) ρ = .ok (rng 0 z) ρ := by
  rw [evIt, h]
  show (if smallI z then R.ok (rng 0 z) ρ else .fail) = _
  rw [if_pos hs]
theorem evIt_r2 {cx : Cxt} {m m' : E} {ρ : Env} {y z : Int} (h : ev cx m ρ = .ok (.int y) ρ) (h' : ev cx m' ρ = .ok (.int z) ρ) (hs : smallI y = true) (hs' : smallI z = true) : evIt cx (.r2 m m') ρ = .ok (rng y z) ρ := by
  rw [evIt, h]
  show (ev cx m' ρ).bind _ = _
  rw [h']
  show (if smallI y && smallI z then R.ok (rng y z) ρ else .fail) = _
  rw [if_pos (by rw [hs, hs']; rfl)]
theorem ext_ok {cx : Cxt} {i : Nat} {t : T} {ρ : Env} {x : D} {xs ys : List D} (h1 : evT cx t ρ = .ok x ρ) (h2 : t.res x ρ = some (.lst ys)) (h3 : ρ.own i = some (.lst xs)) (hl : xs.length + ys.length ≤ lim) : exS cx (.ext i t) ρ = .nx (ρ.set i (.ow (.lst (xs ++ ys)))) := by
  rw [exS, h3]
  show SR.ofR (evT cx t ρ) _ = _
  rw [h1]
  show SR.ofO (t.res x ρ) _ = _
  rw [h2]
  show extR i (.lst ys) ρ = _
  unfold extR
  rw [h3]
  show (if xs.length + ys.length ≤ lim then SR.nx (ρ.set i (.ow (.lst (xs ++ ys)))) else .fail) = _
  rw [if_pos hl]
theorem app_okL {cx : Cxt} {i : Nat} {e : E} {ρ : Env} {d : D} {xs : List D} (h1 : ev cx e ρ = .ok d ρ) (h3 : ρ.own i = some (.lst xs)) (hl : xs.length < lim) : exS cx (.app i e) ρ = .nx (ρ.set i (.ow (.lst (xs ++ [d])))) := by
  rw [exS, h3]
  show SR.ofR (ev cx e ρ) _ = _
  rw [h1]
  show appR i d ρ = _
  unfold appR
  rw [h3]
  show (if xs.length < lim then SR.nx (ρ.set i (.ow (.lst (xs ++ [d])))) else .fail) = _
  rw [if_pos hl]
theorem cat_lst {xs ys : List D} (h : xs.length + ys.length ≤ lim) : binD .add (.lst xs) (.lst ys) = some (.lst (xs ++ ys)) := by
  show (if xs.length + ys.length ≤ lim then some (D.lst (xs ++ ys)) else none) = _
  rw [if_pos h]
theorem run_ret {cx : Cxt} {f : Fn} {ds : List D} {d : D} {ρ' : Env} (hl : ds.length = f.nargs) (h : exSs cx f.body (ds.map .fr ++ List.replicate (f.names.length - f.nargs) .un) = .ret d ρ') : f.run cx ds = .ok d := by
  unfold Fn.run
  rw [if_pos hl, h]
theorem ev_bin {cx : Cxt} {op : Bop} {a b : E} {ρ ρ1 ρ2 : Env} {x y z : D} (h1 : ev cx a ρ = .ok x ρ1) (h2 : ev cx b ρ1 = .ok y ρ2) (h : binD op x y = some z) : ev cx (.bin op (.e a) (.e b)) ρ = .ok z ρ2 := by
  rw [ev, evT, h1]
  show (evT cx (.e b) ρ1).bind _ = _
  rw [evT, h2]
  show R.of (binD op x y) ρ2 = _
  rw [h]
  rfl
theorem ev_ix {cx : Cxt} {a b : E} {ρ ρ1 ρ2 : Env} {x y z : D} (h1 : ev cx a ρ = .ok x ρ1) (h2 : ev cx b ρ1 = .ok y ρ2) (h : ixD x y = some z) : ev cx (.ix (.e a) (.e b)) ρ = .ok z ρ2 := by
  rw [ev, evT, h1]
  show (evT cx (.e b) ρ1).bind _ = _
  rw [evT, h2]
  show R.of (ixD x y) ρ2 = _
  rw [h]
  rfl
theorem ev_var {cx : Cxt} {i : Nat} {ρ : Env} {d : D} (h : ρ.fz i = some d) : ev cx (.var i) ρ = .ok d ρ := by
  rw [ev, h]; rfl
theorem atI_nat {α : Type} {xs : List α} {k : Nat} {x : α} (h : xs[k]? = some x) : atI xs (k : Int) = some x := by
  have hk := (List.getElem?_eq_some_iff.mp h).1
  unfold atI ixN
  rw [if_pos (Int.natCast_nonneg k), if_pos (Int.ofNat_lt.mpr hk)]
  exact h
theorem ev_call1 {cx : Cxt} {f : PySem.Str} {a : E} {ρ ρ1 : Env} {x d : D} (h1 : ev cx a ρ = .ok x ρ1) (h : cx.cf f [x] = .ok d) : ev cx (.call f [a]) ρ = .ok d ρ1 := by
  simp [ev, evs, h1, R.bind, h]
theorem evIt_e {cx : Cxt} {a : E} {ρ ρ1 : Env} {x : D} {xs : List D} (h1 : ev cx a ρ = .ok x ρ1) (h : itemsD x = some xs) : evIt cx (.t (.e a)) ρ = .ok xs ρ1 := by
  rw [evIt, evT, h1]
  show R.of (itemsD x) ρ1 = _
  rw [h]
  rfl
theorem for_ok {cx : Cxt} {tg : Tg} {it : It} {b : List S} {ρ ρ1 ρ2 : Env} {xs : List D} (h1 : evIt cx it ρ = .ok xs ρ1) (h2 : forL (fun x ρ => SR.ofO (tg.asg x ρ) fun ρ => exSs cx b ρ) xs (lockT it ρ1) = .nx ρ2) : exS cx (.for_ tg it b) ρ = .nx (unlockT it ρ1 ρ2) := by
  rw [exS, h1]
  show SR.mapEnv (unlockT it ρ1) (forL (fun x ρ => SR.ofO (tg.asg x ρ) fun ρ => exSs cx b ρ) xs (lockT it ρ1)) = _
  rw [h2]
  rfl
theorem len_gt {cx : Cxt} {i c : Nat} {ρ : Env} {xs : List D} (hb : ρ.bo i = some (.lst xs)) (h : c < xs.length) : ev cx (.cmp .gt (.e (.bi .len [.b i])) (.e (.con (.int c)))) ρ = .ok (.bl true) ρ := by
  have e : ev cx (.bi .len [.b i]) ρ = .ok (.int xs.length) ρ := by
    simp [ev, evT, evTs, R.bind, R.of, T.res, resL, hb, biD, lenD]
  have h' : (c : Int) < xs.length := Int.ofNat_lt.mpr h
  rw [ev, evT, e]
  show R.of ((cmpD .gt (.int xs.length) (.int c)).map D.bl) ρ = _
  show R.ok (D.bl (decide ((c : Int) < xs.length))) ρ = _
  rw [decide_eq_true h']
theorem whl_T {cx : Cxt} {c : E} {b : List S} {n : Nat} {ρ ρ1 : Env} {r : SR} (h : ev cx c ρ = .ok (.bl true) ρ) (hb : exSs cx b ρ = .nx ρ1) (t : whileL (ev cx c) (exSs cx b) n ρ1 = r) : whileL (ev cx c) (exSs cx b) (n + 1) ρ = r := by
  simp only [whileL, h, hb]
  exact t
theorem set_nm' {cx : Cxt} {i : Nat} {e : E} {ρ ρ1 : Env} {d : D} (h : ev cx e ρ = .ok d ρ1) (hi : i < ρ1.length) : exS cx (.set (.nm i) e) ρ = .nx (ρ1.set i (.fr d)) := by
  rw [exS, h]
  show SR.ofO ((Tg.nm i).asg d ρ1) .nx = _
  rw [Tg.asg, if_pos hi]
  rfl
theorem pop_some {cx : Cxt} {i j : Nat} {e : E} {ρ : Env} {z : Int} {xs : List D} {x : D} (h : ev cx e ρ = .ok (.int z) ρ) (ho : ρ.own i = some (.lst xs)) (hl : xs.length ≤ lim) (hi : ixN xs.length z = some j) (hx : xs[j]? = some x) : ev cx (.pop i (some e)) ρ = .ok x (ρ.set i (.ow (.lst (xs.eraseIdx j)))) := by
  rw [ev, ho]
  simp [evO, h, R.bind, popR, ho, hl, hi, hx]
theorem ev_bi1 {cx : Cxt} {f : Bi} {a : E} {ρ ρ1 : Env} {x y : D} (h : ev cx a ρ = .ok x ρ1) (hb : biD f [x] = some y) : ev cx (.bi f [.e a]) ρ = .ok y ρ1 := by
  have e : evTs cx [.e a] ρ = .ok [x] ρ1 := by simp [evTs, evT, h, R.bind]
  rw [ev, e]
  simp [R.bind, resL, T.res, hb, R.of]
theorem ev_tup1 {cx : Cxt} {a : E} {ρ ρ1 : Env} {x : D} (h : ev cx a ρ = .ok x ρ1) : ev cx (.tup [a]) ρ = .ok (.tup [x]) ρ1 := by
  simp [ev, evs, h, R.bind, lim]
theorem erase_map {α β : Type} (f : α → β) : ∀ (l : List α) (i : Nat), (l.map f).eraseIdx i = (l.eraseIdx i).map f
  | [], _ => rfl
  | _ :: _, 0 => rfl
  | x :: l, i + 1 => by simp [List.eraseIdx, erase_map f l i]
theorem cat_own {cx : Cxt} {i : Nat} {e : E} {ρ : Env} {xs ys : List D} (hb : ρ.bo i = some (.lst xs)) (he : ev cx e ρ = .ok (.lst ys) ρ) (hl : xs.length + ys.length ≤ lim) (hi : i < ρ.length) : exS cx (.own i (.cat (.b i) (.e e))) ρ = .nx (ρ.set i (.ow (.lst (xs ++ ys)))) := by
  rw [exS, evP]
  simp [evT, hb, he, R.bind, T.res, cat_lst hl, R.of, SR.ofR, SR.ofO, setSl, hi]
theorem cutIx_nn {n d : Nat} {a : Int} (h : 0 ≤ a) : cutIx n d (some a) = min a.toNat n := by
  unfold cutIx
  show (if a < 0 then (a + n).toNat else min a.toNat n) = _
  rw [if_neg (by omega)]
theorem cut_lo {α : Type} (xs : List α) {a : Int} (h : 0 ≤ a) : cut xs none (some a) = xs.take (min a.toNat xs.length) := by
  unfold cut
  rw [cutIx_nn h]
  show (xs.drop 0).take (min a.toNat xs.length - 0) = _
  rw [List.drop_zero, Nat.sub_zero]
theorem cut_mid {α : Type} (xs : List α) {a b : Int} (h : 0 ≤ a) (h' : 0 ≤ b) : cut xs (some a) (some b) = (xs.drop (min a.toNat xs.length)).take (min b.toNat xs.length - min a.toNat xs.length) := by
  unfold cut
  rw [cutIx_nn h, cutIx_nn h']
theorem cut_hi {α : Type} (xs : List α) {b : Int} (h : 0 ≤ b) : cut xs (some b) none = xs.drop (min b.toNat xs.length) := by
  unfold cut
  rw [cutIx_nn h]
  show (xs.drop (min b.toNat xs.length)).take (xs.length - min b.toNat xs.length) = _
  rw [← List.length_drop, List.take_length]
theorem ev_sl {cx : Cxt} {a : E} {lo hi : Option E} {ρ : Env} {x y : D} {i j : Option Int} (h1 : ev cx a ρ = .ok x ρ) (h2 : evO cx lo ρ = .ok i ρ) (h3 : evO cx hi ρ = .ok j ρ) (h : slD x i j = some y) : ev cx (.sl (.e a) lo hi) ρ = .ok y ρ := by
  rw [ev, evT, h1]
  show ((evO cx lo ρ).bind _) = _
  rw [h2]
  show ((evO cx hi ρ).bind _) = _
  rw [h3]
  show R.of (slD x i j) ρ = _
  rw [h]
  rfl
theorem evO_int {cx : Cxt} {a : E} {ρ : Env} {z : Int} (h : ev cx a ρ = .ok (.int z) ρ) : evO cx (some a) ρ = .ok (some z) ρ := by
  rw [evO, h]; rfl
theorem ev_con {cx : Cxt} {d : D} {ρ : Env} : ev cx (.con d) ρ = .ok d ρ := by rw [ev]
theorem cmp_gt {cx : Cxt} {a : E} {ρ : Env} {y c : Int} (h : ev cx a ρ = .ok (.int y) ρ) (hc : c < y) : ev cx (.cmp .gt (.e a) (.e (.con (.int c)))) ρ = .ok (.bl true) ρ := by
  rw [ev, evT, h]
  show R.ok (D.bl (decide (c < y))) ρ = _
  rw [decide_eq_true hc]
theorem cmp_ngt {cx : Cxt} {a : E} {ρ : Env} {y c : Int} (h : ev cx a ρ = .ok (.int y) ρ) (hc : ¬ c < y) : ev cx (.cmp .gt (.e a) (.e (.con (.int c)))) ρ = .ok (.bl false) ρ := by
  rw [ev, evT, h]
  show R.ok (D.bl (decide (c < y))) ρ = _
  rw [decide_eq_false hc]
theorem ev_binS {cx : Cxt} {op : Bop} {a b : E} {ρ : Env} {x y z : D} (h1 : ev cx a ρ = .ok x ρ) (h2 : ev cx b ρ = .ok y ρ) (h : binD op x y = some z) : ev cx (.bin op (.e a) (.e b)) ρ = .ok z ρ := ev_bin h1 h2 h
theorem ev_tup2 {cx : Cxt} {a b : E} {ρ : Env} {x y : D} (h1 : ev cx a ρ = .ok x ρ) (h2 : ev cx b ρ = .ok y ρ) : ev cx (.tup [a, b]) ρ = .ok (.tup [x, y]) ρ := by simp [ev, evs, h1, h2, R.bind, lim]
theorem ev_frl {cx : Cxt} {a : E} {ρ : Env} {x : D} (h : ev cx a ρ = .ok x ρ) : ev cx (.fr (.lst [a])) ρ = .ok (.lst [x]) ρ := by simp [ev, evP, evs, h, R.bind, lim]
theorem ev_call3 {cx : Cxt} {f : PySem.Str} {a b c : E} {ρ : Env} {x y z d : D} (h1 : ev cx a ρ = .ok x ρ) (h2 : ev cx b ρ = .ok y ρ) (h3 : ev cx c ρ = .ok z ρ) (h : cx.cf f [x, y, z] = .ok d) : ev cx (.call f [a, b, c]) ρ = .ok d ρ := by
  simp [ev, evs, h1, h2, h3, R.bind, h]
theorem ev_call2 {cx : Cxt} {f : PySem.Str} {a b : E} {ρ : Env} {x y d : D} (h1 : ev cx a ρ = .ok x ρ) (h2 : ev cx b ρ = .ok y ρ) (h : cx.cf f [x, y] = .ok d) : ev cx (.call f [a, b]) ρ = .ok d ρ := by
  simp [ev, evs, h1, h2, R.bind, h]
theorem eq_int (z : Int) : eqD (.int z) (.int z) = some true := by simp [eqD, okD, ok, eqv]
theorem cmp_ne_same {cx : Cxt} {a b : E} {ρ : Env} {z : Int} (h1 : ev cx a ρ = .ok (.int z) ρ) (h2 : ev cx b ρ = .ok (.int z) ρ) : ev cx (.cmp .ne (.e a) (.e b)) ρ = .ok (.bl false) ρ := by
  rw [ev, evT, h1]
  show (evT cx (.e b) ρ).bind _ = _
  rw [evT, h2]
  show R.of (((eqD (.int z) (.int z)).map (!·)).map D.bl) ρ = _
  rw [eq_int]
  rfl
theorem cmp_eq_same {cx : Cxt} {a b : E} {ρ : Env} {z : Int} (h1 : ev cx a ρ = .ok (.int z) ρ) (h2 : ev cx b ρ = .ok (.int z) ρ) : ev cx (.cmp .eq (.e a) (.e b)) ρ = .ok (.bl true) ρ := by
  rw [ev, evT, h1]
  show (evT cx (.e b) ρ).bind _ = _
  rw [evT, h2]
  show R.of ((eqD (.int z) (.int z)).map D.bl) ρ = _
  rw [eq_int]
  rfl
theorem TF_no {cx : Cxt} {tg : Tg} {c : E} {rest : List D → Env → R (List D)} {x : D} {acc : List D} {ρ ρ1 : Env} (h : tg.asg x ρ = some ρ1) (h2 : ev cx c ρ1 = .ok (.bl false) ρ1) : TF cx tg [c] rest x acc ρ = .ok acc ρ1 := by
  unfold TF
  rw [h]
  show (evIfs cx [c] ρ1).bind _ = _
  rw [evIfs, h2]
  rfl
theorem ev_not {cx : Cxt} {a : E} {ρ : Env} (h : ev cx a ρ = .ok (.bl true) ρ) : ev cx (.nt a) ρ = .ok (.bl false) ρ := by
  rw [ev, h]; rfl
theorem flatMap_nil {g : D → List D} : ∀ {xs : List D}, (∀ x ∈ xs, g x = []) → xs.flatMap g = []
  | [], _ => rfl
  | x :: xs, h => by rw [List.flatMap_cons, h x List.mem_cons_self, flatMap_nil fun y hy => h y (List.mem_cons_of_mem _ hy)]; rfl
theorem seq_nx' {cx : Cxt} {s : S} {ss : List S} {ρ ρ' : Env} {d : D} (h : exS cx s ρ = .ret d ρ') : exSs cx (s :: ss) ρ = .ret d ρ' := by
  rw [exSs, h]
theorem flatMap_one (xs : List D) : xs.flatMap (fun y => [y]) = xs := by
  induction xs with
  | nil => rfl
  | cons x xs ih => rw [List.flatMap_cons, ih]; rfl
end MP
namespace K40
open MP PySem
theorem c_cell (n : Nat) (ds : List D) : pr.cf (n+1) "_law_cell" ds = f_law_cell.run ⟨pr.cf n, pr.gl⟩ ds := cf_eq rfl n ds
theorem cell (n : Nat) (ns : List Int) (k : Nat) : pr.cf (n+1) "_law_cell" [.scr (ns.map .int), .int k] = .ok (.int (if h : k < ns.length then ns[k] else 0)) := by
  rw [c_cell]
  simp [f_law_cell, Fn.run, exSs, exS, exH, SR.ofR, SR.ofO, ev, evs, evT, evTs, evO, evP, evIt, evIfs, evCls, evS, R.bind, R.of, R.mapEnv, R.noX, SR.mapEnv, MP.Env.fz, MP.Env.bo, MP.Env.own, T.res, resL, biD, lenD, cmpD, cltD, cleD, cgtD, cgeD, ixD, slD, revD, isiD, binD, addD, subD, mulD, modD, fdivD, powD, intC, tupC, atI, ixN, lockT, unlockT, lock, unlock, MP.wipe, MP.back, back1, Tg.asg, Tg.asgs, setSl, appR, extR, popR, itemsD, listC, emit, smallI, lim]
  by_cases h : k < ns.length
  · simp [h]
  · simp [h]
theorem c_draws (n : Nat) (ds : List D) : pr.cf (n+1) "_law_draws" ds = f_law_draws.run ⟨pr.cf n, pr.gl⟩ ds := cf_eq rfl n ds
def DrawsOk (ds : List Int) : Prop := ∀ d ∈ ds, 0 ≤ d ∧ d < 4096
def mixA (c j : Int) : Int := (c * 48271 + (j + 1) * 69621) % 2147483647
def mixB (c j : Int) : Int := (mixA c j * mixA c j + mixA c j * 16807 + j * 7919) % 2147483629
def mixC (c j : Int) : Int := (mixB c j * mixB c j + c + 13 * j) % 2147483587
theorem mulOk_A (c j y : Int) : mulOk (mixA c j) y = true := mulOk_emod _ _ _ (by decide)
theorem mulOk_B (c j y : Int) : mulOk (mixB c j) y = true := mulOk_emod _ _ _ (by decide)
theorem draws_step (cx : Cxt) (c : Int) (ds : List Int) (left : Int) (a b : Sl) (j : Int) (h : ds.length < 16777216) : ∃ (d left' : Int) (a' b' : Sl), 0 ≤ d ∧ d < 4096 ∧
    exSs cx f_law_draws_b1 [.fr (.int c), .fr (.int 40), .ow (.lst (ds.map .int)), .fr (.int left), .fr (.int j), b] = .nx [.fr (.int c), .fr (.int 40), .ow (.lst ((ds ++ [d]).map .int)), .fr (.int left'), a', b'] := by
  by_cases h0 : 1000000000000000000 ≤ c ∧ 0 < left
  · obtain ⟨h1, h2⟩ := h0
    refine ⟨left % 4096, left / 4096, .fr (.int j), b, Int.emod_nonneg _ (by decide), Int.emod_lt_of_pos _ (by decide), ?_⟩
    refine seq_one (iff_T (by simp [Fn.run, exSs, exS, exH, SR.ofR, SR.ofO, ev, evs, evT, evTs, evO, evP, evIt, evIfs, evCls, evS, R.bind, R.of, R.mapEnv, R.noX, SR.mapEnv, MP.Env.fz, MP.Env.bo, MP.Env.own, T.res, resL, biD, lenD, cmpD, cltD, cleD, cgtD, cgeD, ixD, slD, revD, isiD, binD, addD, subD, mulD, modD, fdivD, powD, intC, tupC, atI, ixN, lockT, unlockT, lock, unlock, MP.wipe, MP.back, back1, Tg.asg, Tg.asgs, setSl, appR, extR, popR, itemsD, listC, emit, smallI, lim, h1, h2]) ?_)
    refine seq_nx (ρ' := [.fr (.int c), .fr (.int 40), .ow (.lst ((ds ++ [left % 4096]).map .int)), .fr (.int left), .fr (.int j), b]) (by simp [Fn.run, exSs, exS, exH, SR.ofR, SR.ofO, ev, evs, evT, evTs, evO, evP, evIt, evIfs, evCls, evS, R.bind, R.of, R.mapEnv, R.noX, SR.mapEnv, MP.Env.fz, MP.Env.bo, MP.Env.own, T.res, resL, biD, lenD, cmpD, cltD, cleD, cgtD, cgeD, ixD, slD, revD, isiD, binD, addD, subD, mulD, modD, fdivD, powD, intC, tupC, atI, ixN, lockT, unlockT, lock, unlock, MP.wipe, MP.back, back1, Tg.asg, Tg.asgs, setSl, appR, extR, popR, itemsD, listC, emit, smallI, lim, h]) ?_
    exact seq_one (by simp [Fn.run, exSs, exS, exH, SR.ofR, SR.ofO, ev, evs, evT, evTs, evO, evP, evIt, evIfs, evCls, evS, R.bind, R.of, R.mapEnv, R.noX, SR.mapEnv, MP.Env.fz, MP.Env.bo, MP.Env.own, T.res, resL, biD, lenD, cmpD, cltD, cleD, cgtD, cgeD, ixD, slD, revD, isiD, binD, addD, subD, mulD, modD, fdivD, powD, intC, tupC, atI, ixN, lockT, unlockT, lock, unlock, MP.wipe, MP.back, back1, Tg.asg, Tg.asgs, setSl, appR, extR, popR, itemsD, listC, emit, smallI, lim])
  · refine ⟨mixC c j / 7 % 4096, left, .fr (.int j), .fr (.int (mixC c j)), Int.emod_nonneg _ (by decide), Int.emod_lt_of_pos _ (by decide), ?_⟩
    refine seq_one (iff_F ?_ ?_)
    · by_cases h1 : 1000000000000000000 ≤ c
      · have h2 : ¬ 0 < left := fun q => h0 ⟨h1, q⟩
        simp [Fn.run, exSs, exS, exH, SR.ofR, SR.ofO, ev, evs, evT, evTs, evO, evP, evIt, evIfs, evCls, evS, R.bind, R.of, R.mapEnv, R.noX, SR.mapEnv, MP.Env.fz, MP.Env.bo, MP.Env.own, T.res, resL, biD, lenD, cmpD, cltD, cleD, cgtD, cgeD, ixD, slD, revD, isiD, binD, addD, subD, mulD, modD, fdivD, powD, intC, tupC, atI, ixN, lockT, unlockT, lock, unlock, MP.wipe, MP.back, back1, Tg.asg, Tg.asgs, setSl, appR, extR, popR, itemsD, listC, emit, smallI, lim, h1, h2]
      · simp [Fn.run, exSs, exS, exH, SR.ofR, SR.ofO, ev, evs, evT, evTs, evO, evP, evIt, evIfs, evCls, evS, R.bind, R.of, R.mapEnv, R.noX, SR.mapEnv, MP.Env.fz, MP.Env.bo, MP.Env.own, T.res, resL, biD, lenD, cmpD, cltD, cleD, cgtD, cgeD, ixD, slD, revD, isiD, binD, addD, subD, mulD, modD, fdivD, powD, intC, tupC, atI, ixN, lockT, unlockT, lock, unlock, MP.wipe, MP.back, back1, Tg.asg, Tg.asgs, setSl, appR, extR, popR, itemsD, listC, emit, smallI, lim, h1]
    · have m13 : mulOk 13 j = true := mulOk_l _ _ (by decide)
      refine seq_nx (set_nm (d := .int (mixA c j)) (by simp [Fn.run, exSs, exS, exH, SR.ofR, SR.ofO, ev, evs, evT, evTs, evO, evP, evIt, evIfs, evCls, evS, R.bind, R.of, R.mapEnv, R.noX, SR.mapEnv, MP.Env.fz, MP.Env.bo, MP.Env.own, T.res, resL, biD, lenD, cmpD, cltD, cleD, cgtD, cgeD, ixD, slD, revD, isiD, binD, addD, subD, mulD, modD, fdivD, powD, intC, tupC, atI, ixN, lockT, unlockT, lock, unlock, MP.wipe, MP.back, back1, Tg.asg, Tg.asgs, setSl, appR, extR, popR, itemsD, listC, emit, smallI, lim, mulOk_r, mixA]) (by simp)) ?_
      refine seq_nx (set_nm (d := .int (mixB c j)) (by simp [Fn.run, exSs, exS, exH, SR.ofR, SR.ofO, ev, evs, evT, evTs, evO, evP, evIt, evIfs, evCls, evS, R.bind, R.of, R.mapEnv, R.noX, SR.mapEnv, MP.Env.fz, MP.Env.bo, MP.Env.own, T.res, resL, biD, lenD, cmpD, cltD, cleD, cgtD, cgeD, ixD, slD, revD, isiD, binD, addD, subD, mulD, modD, fdivD, powD, intC, tupC, atI, ixN, lockT, unlockT, lock, unlock, MP.wipe, MP.back, back1, Tg.asg, Tg.asgs, setSl, appR, extR, popR, itemsD, listC, emit, smallI, lim, mulOk_A, mulOk_r, mixB]) (by simp)) ?_
      refine seq_nx (set_nm (d := .int (mixC c j)) (by simp [Fn.run, exSs, exS, exH, SR.ofR, SR.ofO, ev, evs, evT, evTs, evO, evP, evIt, evIfs, evCls, evS, R.bind, R.of, R.mapEnv, R.noX, SR.mapEnv, MP.Env.fz, MP.Env.bo, MP.Env.own, T.res, resL, biD, lenD, cmpD, cltD, cleD, cgtD, cgeD, ixD, slD, revD, isiD, binD, addD, subD, mulD, modD, fdivD, powD, intC, tupC, atI, ixN, lockT, unlockT, lock, unlock, MP.wipe, MP.back, back1, Tg.asg, Tg.asgs, setSl, appR, extR, popR, itemsD, listC, emit, smallI, lim, mulOk_B, m13, mixC]) (by simp)) ?_
      exact seq_one (by simp [Fn.run, exSs, exS, exH, SR.ofR, SR.ofO, ev, evs, evT, evTs, evO, evP, evIt, evIfs, evCls, evS, R.bind, R.of, R.mapEnv, R.noX, SR.mapEnv, MP.Env.fz, MP.Env.bo, MP.Env.own, T.res, resL, biD, lenD, cmpD, cltD, cleD, cgtD, cgeD, ixD, slD, revD, isiD, binD, addD, subD, mulD, modD, fdivD, powD, intC, tupC, atI, ixN, lockT, unlockT, lock, unlock, MP.wipe, MP.back, back1, Tg.asg, Tg.asgs, setSl, appR, extR, popR, itemsD, listC, emit, smallI, lim, h])
theorem draws (n : Nat) (c : Int) : ∃ ds : List Int, ds.length = 40 ∧ DrawsOk ds ∧ pr.cf (n+1) "_law_draws" [.int c, .int 40] = .ok (.lst (ds.map .int)) := by
  rw [c_draws]
  have lp := forL_inv (f := fun x ρ => SR.ofO ((Tg.nm 4).asg x ρ) fun ρ => exSs ⟨pr.cf n, pr.gl⟩ f_law_draws_b1 ρ)
    (fun i ρ => ∃ (ds : List Int) (left : Int) (a b : Sl), ds.length = i ∧ DrawsOk ds ∧ ρ = [.fr (.int c), .fr (.int 40), .ow (.lst (ds.map .int)), .fr (.int left), a, b]) (rng 0 40) 0 [.fr (.int c), .fr (.int 40), .ow (.lst []), .fr (.int c), .un, .un] ?_ ⟨[], c, .un, .un, rfl, fun _ h => by simp at h, rfl⟩
  · obtain ⟨ρ', ⟨ds, left, a, b, h1, h2, rfl⟩, e⟩ := lp
    rw [rng_len'] at h1
    refine ⟨ds, h1, h2, ?_⟩
    simp [f_law_draws, Fn.run, exSs, exS, exH, SR.ofR, SR.ofO, ev, evs, evT, evTs, evO, evP, evIt, evIfs, evCls, evS, R.bind, R.of, R.mapEnv, R.noX, SR.mapEnv, MP.Env.fz, MP.Env.bo, MP.Env.own, T.res, resL, biD, lenD, cmpD, cltD, cleD, cgtD, cgeD, ixD, slD, revD, isiD, binD, addD, subD, mulD, modD, fdivD, powD, intC, tupC, atI, ixN, lockT, unlockT, lock, unlock, MP.wipe, MP.back, back1, Tg.asg, Tg.asgs, setSl, appR, extR, popR, itemsD, listC, emit, smallI, lim] at e ⊢
    rw [e]
    simp
  · rintro j x ρ hx ⟨ds, left, a, b, h1, h2, rfl⟩
    obtain ⟨rfl, hj⟩ := rng_get hx
    have hl : ds.length < 16777216 := by omega
    obtain ⟨d, left', a', b', d1, d2, e⟩ := draws_step ⟨pr.cf n, pr.gl⟩ c ds left a b j hl
    refine ⟨_, ⟨ds ++ [d], left', a', b', by simp [h1], fun y hy => ?_, rfl⟩, ?_⟩
    · rcases List.mem_append.mp hy with hy | hy
      · exact h2 y hy
      · simp at hy; subst hy; exact ⟨d1, d2⟩
    · simp only [Tg.asg, SR.ofO, List.length_cons, List.length_nil, Nat.reduceAdd, Nat.reduceLT, if_true, List.set_cons_succ, List.set_cons_zero]
      rw [← e]
      simp

/-! ### trees -/
inductive Tr where
  | item (i : Int)
  | node (s : Bool) (ts : List Tr)
def word (s : Bool) : Str := if s then "stacked" else "beside"
mutual
def enc : Tr → D
  | .item i => .tup [.str "item", .int i]
  | .node s ts => .tup [.str (word s), .tup (encL ts)]
def encL : List Tr → List D
  | [] => []
  | t :: ts => enc t :: encL ts
end
mutual
def items : Tr → List Int
  | .item i => [i]
  | .node _ ts => itemsL ts
def itemsL : List Tr → List Int
  | [] => []
  | t :: ts => items t ++ itemsL ts
end
mutual
def size : Tr → Nat
  | .item _ => 1
  | .node _ ts => 1 + sizeL ts
def sizeL : List Tr → Nat
  | [] => 0
  | t :: ts => size t + sizeL ts
end
theorem size_pos (t : Tr) : 0 < size t := by cases t <;> simp [size] <;> omega
mutual
theorem items_size : ∀ t : Tr, (items t).length ≤ size t
  | .item i => by simp [items, size]
  | .node s ts => by have := itemsL_size ts; simp [items, size]; omega
theorem itemsL_size : ∀ ts : List Tr, (itemsL ts).length ≤ sizeL ts
  | [] => by simp [itemsL, sizeL]
  | t :: ts => by have := items_size t; have := itemsL_size ts; simp [itemsL, sizeL]; omega
end
theorem encL_map : ∀ ts : List Tr, encL ts = ts.map enc
  | [] => rfl
  | t :: ts => by rw [encL, encL_map ts]; rfl
theorem sizeL_mem : ∀ {ts : List Tr} {t : Tr}, t ∈ ts → size t ≤ sizeL ts
  | t' :: ts, t, h => by
    rw [sizeL]
    rcases List.mem_cons.mp h with rfl | h
    · omega
    · have := sizeL_mem h; omega
theorem len_sizeL : ∀ ts : List Tr, ts.length ≤ sizeL ts
  | [] => Nat.le_refl _
  | t :: ts => by have := len_sizeL ts; have := size_pos t; rw [sizeL, List.length_cons]; omega
theorem eq_item : eqD (.str "item") (.str "item") = some true := by decide +kernel
theorem eq_word (s : Bool) : eqD (.str (word s)) (.str "item") = some false := by cases s <;> decide +kernel
theorem eq_istk : eqD (.str "item") (.str "stacked") = some false := by decide +kernel
theorem eq_stk (s : Bool) : eqD (.str (word s)) (.str "stacked") = some s := by cases s <;> decide +kernel
def gI (n : Nat) (x : D) : List D := match pr.cf n "items_of" [x] with
  | .ok (.lst l) => l
  | _ => []
theorem c_items (n : Nat) (ds : List D) : pr.cf (n+1) "items_of" ds = f_items_of.run ⟨pr.cf n, pr.gl⟩ ds := cf_eq rfl n ds
theorem flat_enc {g : D → List D} {f : Tr → List Int} : ∀ {ts : List Tr}, (∀ t ∈ ts, g (enc t) = (f t).map .int) → (encL ts).flatMap g = (ts.flatMap f).map D.int
  | [], _ => rfl
  | t :: ts, h => by
    rw [encL, List.flatMap_cons, h t List.mem_cons_self, flat_enc fun u hu => h u (List.mem_cons_of_mem _ hu), List.flatMap_cons, List.map_append]
theorem itemsL_flat : ∀ ts : List Tr, itemsL ts = ts.flatMap items
  | [] => rfl
  | t :: ts => by rw [itemsL, itemsL_flat ts]; rfl
theorem items_ok : ∀ (n : Nat) (t : Tr), size t ≤ n → size t ≤ 1000 → pr.cf n "items_of" [enc t] = .ok (.lst ((items t).map .int))
  | 0, t, h, _ => by have := size_pos t; omega
  | n + 1, .item i, _, _ => by
    rw [c_items]
    simp [f_items_of, enc, items, eq_item, Fn.run, exSs, exS, exH, SR.ofR, SR.ofO, ev, evs, evT, evTs, evO, evP, evIt, evIfs, evCls, evS, R.bind, R.of, R.mapEnv, R.noX, SR.mapEnv, MP.Env.fz, MP.Env.bo, MP.Env.own, T.res, resL, biD, lenD, cmpD, cltD, cleD, cgtD, cgeD, ixD, slD, revD, isiD, binD, addD, subD, mulD, modD, fdivD, powD, intC, tupC, atI, ixN, lockT, unlockT, lock, unlock, MP.wipe, MP.back, back1, Tg.asg, Tg.asgs, setSl, appR, extR, popR, itemsD, listC, emit, smallI, lim]
  | n + 1, .node s ts, h, h1 => by
    rw [size] at h h1
    have ih := fun t (ht : t ∈ ts) => items_ok n t (by have := sizeL_mem ht; omega) (by have := sizeL_mem ht; omega)
    have il := itemsL_size ts
    rw [c_items, enc, items, encL_map]
    have cp : evP ⟨pr.cf n, pr.gl⟩ f_items_of_c1 [.fr (.tup [.str (word s), .tup (ts.map enc)]), .un, .un] = .ok (.lst ((itemsL ts).map .int)) [.fr (.tup [.str (word s), .tup (ts.map enc)]), .un, .un] := by
      have lp := turns_app (F := TF ⟨pr.cf n, pr.gl⟩ (.nm 1) [] fun acc ρ => evCls ⟨pr.cf n, pr.gl⟩ (emit (ev ⟨pr.cf n, pr.gl⟩ (.var 2))) [.mk (.nm 2) (.t (.e (.call "items_of" [.var 1]))) []] acc ρ) (g := gI n)
        (fun ρ => ∃ a b, ρ = [.fr (.tup [.str (word s), .tup (ts.map enc)]), a, b]) (ts.map enc) [] [.fr (.tup [.str (word s), .tup (ts.map enc)]), .un, .un] ?_ ⟨_, _, rfl⟩ ?_
      · obtain ⟨ρ', ⟨a, b, rfl⟩, e⟩ := lp
        refine (comp_ok (xs := ts.map enc) (ρ1 := [.fr (.tup [.str (word s), .tup (ts.map enc)]), .un, .un]) (by simp [Fn.run, exSs, exS, exH, SR.ofR, SR.ofO, ev, evs, evT, evTs, evO, evP, evIt, evIfs, evCls, evS, R.bind, R.of, R.mapEnv, R.noX, SR.mapEnv, MP.Env.fz, MP.Env.bo, MP.Env.own, T.res, resL, biD, lenD, cmpD, cltD, cleD, cgtD, cgeD, ixD, slD, revD, isiD, binD, addD, subD, mulD, modD, fdivD, powD, intC, tupC, atI, ixN, lockT, unlockT, lock, unlock, MP.wipe, MP.back, back1, Tg.asg, Tg.asgs, setSl, appR, extR, popR, itemsD, listC, emit, smallI, lim]) e).trans ?_
        rw [← encL_map, flat_enc (f := items) fun t ht => by unfold gI; rw [ih t ht], itemsL_flat]
        simp [Fn.run, exSs, exS, exH, SR.ofR, SR.ofO, ev, evs, evT, evTs, evO, evP, evIt, evIfs, evCls, evS, R.bind, R.of, R.mapEnv, R.noX, SR.mapEnv, MP.Env.fz, MP.Env.bo, MP.Env.own, T.res, resL, biD, lenD, cmpD, cltD, cleD, cgtD, cgeD, ixD, slD, revD, isiD, binD, addD, subD, mulD, modD, fdivD, powD, intC, tupC, atI, ixN, lockT, unlockT, lock, unlock, MP.wipe, MP.back, back1, Tg.asg, Tg.asgs, setSl, appR, extR, popR, itemsD, listC, emit, smallI, lim]
      · rintro x hx acc ρ ⟨a, b, rfl⟩ hl
        obtain ⟨t, ht, rfl⟩ := List.mem_map.mp hx
        have hg : gI n (enc t) = (items t).map .int := by unfold gI; rw [ih t ht]
        rw [hg] at hl ⊢
        obtain ⟨ρ', ⟨a', b', rfl⟩, e⟩ := turns_app (F := TF ⟨pr.cf n, pr.gl⟩ (.nm 2) [] fun acc ρ => evCls ⟨pr.cf n, pr.gl⟩ (emit (ev ⟨pr.cf n, pr.gl⟩ (.var 2))) [] acc ρ) (g := fun y => [y])
          (fun ρ => ∃ a b, ρ = [.fr (.tup [.str (word s), .tup (ts.map enc)]), a, b]) ((items t).map .int) acc [.fr (.tup [.str (word s), .tup (ts.map enc)]), .fr (enc t), b] (fun y _ acc ρ ⟨a, b, hρ⟩ hl => ⟨[.fr (.tup [.str (word s), .tup (ts.map enc)]), a, .fr y], ⟨_, _, rfl⟩, by
            subst hρ
            refine TF_ok (ρ1 := [.fr (.tup [.str (word s), .tup (ts.map enc)]), a, .fr y]) (by simp [Fn.run, exSs, exS, exH, SR.ofR, SR.ofO, ev, evs, evT, evTs, evO, evP, evIt, evIfs, evCls, evS, R.bind, R.of, R.mapEnv, R.noX, SR.mapEnv, MP.Env.fz, MP.Env.bo, MP.Env.own, T.res, resL, biD, lenD, cmpD, cltD, cleD, cgtD, cgeD, ixD, slD, revD, isiD, binD, addD, subD, mulD, modD, fdivD, powD, intC, tupC, atI, ixN, lockT, unlockT, lock, unlock, MP.wipe, MP.back, back1, Tg.asg, Tg.asgs, setSl, appR, extR, popR, itemsD, listC, emit, smallI, lim]) (emit_ok (by simp [Fn.run, exSs, exS, exH, SR.ofR, SR.ofO, ev, evs, evT, evTs, evO, evP, evIt, evIfs, evCls, evS, R.bind, R.of, R.mapEnv, R.noX, SR.mapEnv, MP.Env.fz, MP.Env.bo, MP.Env.own, T.res, resL, biD, lenD, cmpD, cltD, cleD, cgtD, cgeD, ixD, slD, revD, isiD, binD, addD, subD, mulD, modD, fdivD, powD, intC, tupC, atI, ixN, lockT, unlockT, lock, unlock, MP.wipe, MP.back, back1, Tg.asg, Tg.asgs, setSl, appR, extR, popR, itemsD, listC, emit, smallI, lim]) ?_)
            simp at hl; omega⟩) ⟨_, _, rfl⟩ (by rw [flatMap_one]; exact hl)
        rw [flatMap_one] at e
        exact ⟨_, ⟨_, _, rfl⟩, TF_ok (ρ1 := [.fr (.tup [.str (word s), .tup (ts.map enc)]), .fr (enc t), b]) (by simp [Fn.run, exSs, exS, exH, SR.ofR, SR.ofO, ev, evs, evT, evTs, evO, evP, evIt, evIfs, evCls, evS, R.bind, R.of, R.mapEnv, R.noX, SR.mapEnv, MP.Env.fz, MP.Env.bo, MP.Env.own, T.res, resL, biD, lenD, cmpD, cltD, cleD, cgtD, cgeD, ixD, slD, revD, isiD, binD, addD, subD, mulD, modD, fdivD, powD, intC, tupC, atI, ixN, lockT, unlockT, lock, unlock, MP.wipe, MP.back, back1, Tg.asg, Tg.asgs, setSl, appR, extR, popR, itemsD, listC, emit, smallI, lim]) (cls_ok (xs := (items t).map .int) (ρ1 := [.fr (.tup [.str (word s), .tup (ts.map enc)]), .fr (enc t), b]) (by simp [ih t ht, Fn.run, exSs, exS, exH, SR.ofR, SR.ofO, ev, evs, evT, evTs, evO, evP, evIt, evIfs, evCls, evS, R.bind, R.of, R.mapEnv, R.noX, SR.mapEnv, MP.Env.fz, MP.Env.bo, MP.Env.own, T.res, resL, biD, lenD, cmpD, cltD, cleD, cgtD, cgeD, ixD, slD, revD, isiD, binD, addD, subD, mulD, modD, fdivD, powD, intC, tupC, atI, ixN, lockT, unlockT, lock, unlock, MP.wipe, MP.back, back1, Tg.asg, Tg.asgs, setSl, appR, extR, popR, itemsD, listC, emit, smallI, lim]) e)⟩
      · rw [← encL_map, flat_enc (f := items) fun t ht => by unfold gI; rw [ih t ht], ← itemsL_flat]
        simp [lim]; omega
    simp [f_items_of, eq_word, cp, Fn.run, exSs, exS, exH, SR.ofR, SR.ofO, ev, evs, evT, evTs, evO, evP, evIt, evIfs, evCls, evS, R.bind, R.of, R.mapEnv, R.noX, SR.mapEnv, MP.Env.fz, MP.Env.bo, MP.Env.own, T.res, resL, biD, lenD, cmpD, cltD, cleD, cgtD, cgeD, ixD, slD, revD, isiD, binD, addD, subD, mulD, modD, fdivD, powD, intC, tupC, atI, ixN, lockT, unlockT, lock, unlock, MP.wipe, MP.back, back1, Tg.asg, Tg.asgs, setSl, appR, extR, popR, itemsD, listC, emit, smallI, lim]

/-! ### the law's own items -/
theorem c_ti (n : Nat) (ds : List D) : pr.cf (n+1) "_law_tree_items" ds = f_law_tree_items.run ⟨pr.cf n, pr.gl⟩ ds := cf_eq rfl n ds
theorem sizeL_take : ∀ (ts : List Tr) (i : Nat), sizeL (ts.take i) ≤ sizeL ts
  | [], i => by simp [sizeL]
  | t :: ts, 0 => by simp [sizeL]
  | t :: ts, i + 1 => by have := sizeL_take ts i; simp [sizeL]; omega
theorem itemsL_append : ∀ (a b : List Tr), itemsL (a ++ b) = itemsL a ++ itemsL b
  | [], b => rfl
  | t :: a, b => by rw [List.cons_append, itemsL, itemsL, itemsL_append a b, List.append_assoc]
theorem take_succ_get {α : Type} {xs : List α} {i : Nat} {x : α} (h : xs[i]? = some x) : xs.take (i + 1) = xs.take i ++ [x] := by
  rw [List.take_succ, h]; rfl
theorem ti_ok : ∀ (n : Nat) (t : Tr), size t ≤ n → size t ≤ 1000 → pr.cf n "_law_tree_items" [enc t] = .ok (.lst ((items t).map .int))
  | 0, t, h, _ => by have := size_pos t; omega
  | n + 1, .item i, _, _ => by
    rw [c_ti]
    simp [f_law_tree_items, enc, items, eq_item, Fn.run, exSs, exS, exH, SR.ofR, SR.ofO, ev, evs, evT, evTs, evO, evP, evIt, evIfs, evCls, evS, R.bind, R.of, R.mapEnv, R.noX, SR.mapEnv, MP.Env.fz, MP.Env.bo, MP.Env.own, T.res, resL, biD, lenD, cmpD, cltD, cleD, cgtD, cgeD, ixD, slD, revD, isiD, binD, addD, subD, mulD, modD, fdivD, powD, intC, tupC, atI, ixN, lockT, unlockT, lock, unlock, MP.wipe, MP.back, back1, Tg.asg, Tg.asgs, setSl, appR, extR, popR, itemsD, listC, emit, smallI, lim]
  | n + 1, .node s ts, h, h1 => by
    rw [size] at h h1
    have ih := fun t (ht : t ∈ ts) => ti_ok n t (by have := sizeL_mem ht; omega) (by have := sizeL_mem ht; omega)
    rw [c_ti, enc, items, encL_map]
    have lp := forL_inv (f := fun x ρ => SR.ofO ((Tg.nm 2).asg x ρ) fun ρ => exSs ⟨pr.cf n, pr.gl⟩ f_law_tree_items_b1 ρ)
      (fun i ρ => ∃ p, ρ = [.fr (.tup [.str (word s), .tup (ts.map enc)]), .fr (.lst ((itemsL (ts.take i)).map .int)), p]) (ts.map enc) 0 [.fr (.tup [.str (word s), .tup (ts.map enc)]), .fr (.lst []), .un] ?_ ⟨_, rfl⟩
    · obtain ⟨ρ', ⟨p, rfl⟩, e⟩ := lp
      rw [List.length_map, Nat.zero_add, List.take_length] at e
      simp [f_law_tree_items, eq_word, Fn.run, exSs, exS, exH, SR.ofR, SR.ofO, ev, evs, evT, evTs, evO, evP, evIt, evIfs, evCls, evS, R.bind, R.of, R.mapEnv, R.noX, SR.mapEnv, MP.Env.fz, MP.Env.bo, MP.Env.own, T.res, resL, biD, lenD, cmpD, cltD, cleD, cgtD, cgeD, ixD, slD, revD, isiD, binD, addD, subD, mulD, modD, fdivD, powD, intC, tupC, atI, ixN, lockT, unlockT, lock, unlock, MP.wipe, MP.back, back1, Tg.asg, Tg.asgs, setSl, appR, extR, popR, itemsD, listC, emit, smallI, lim] at e ⊢
      rw [e]
      simp
    · rintro j x ρ hx ⟨p, rfl⟩
      rw [List.getElem?_map, Option.map_eq_some_iff] at hx
      obtain ⟨t, ht, rfl⟩ := hx
      have hm := List.mem_of_getElem? ht
      refine ⟨_, ⟨.fr (enc t), rfl⟩, ?_⟩
      rw [Nat.zero_add, take_succ_get ht, itemsL_append]
      have hl : (itemsL (ts.take j)).length + (items t).length ≤ 16777216 := by
        have := itemsL_size (ts.take j)
        have := sizeL_take ts j
        have := items_size t
        have := sizeL_mem hm
        omega
      simp [f_law_tree_items_b1, ih t hm, hl, itemsL, Fn.run, exSs, exS, exH, SR.ofR, SR.ofO, ev, evs, evT, evTs, evO, evP, evIt, evIfs, evCls, evS, R.bind, R.of, R.mapEnv, R.noX, SR.mapEnv, MP.Env.fz, MP.Env.bo, MP.Env.own, T.res, resL, biD, lenD, cmpD, cltD, cleD, cgtD, cgeD, ixD, slD, revD, isiD, binD, addD, subD, mulD, modD, fdivD, powD, intC, tupC, atI, ixN, lockT, unlockT, lock, unlock, MP.wipe, MP.back, back1, Tg.asg, Tg.asgs, setSl, appR, extR, popR, itemsD, listC, emit, smallI, lim]
/-! ### pairs -/
def cross (ls : List (List Int)) : List (Int × Int) := (List.range ls.length).flatMap fun j => (List.range j).flatMap fun i => (ls.getD i []).flatMap fun a => (ls.getD j []).map fun b => (a, b)
mutual
def pairs : Tr → List (Int × Int)
  | .item _ => []
  | .node s ts => pairsL ts ++ if s then cross (ts.map items) else []
def pairsL : List Tr → List (Int × Int)
  | [] => []
  | t :: ts => pairs t ++ pairsL ts
end
theorem flat_le {α β : Type} {f : α → List β} {B : Nat} : ∀ {xs : List α}, (∀ x ∈ xs, (f x).length ≤ B) → (xs.flatMap f).length ≤ xs.length * B
  | [], _ => by simp
  | x :: xs, h => by
    have h1 := h x List.mem_cons_self
    have h2 := flat_le (xs := xs) fun y hy => h y (List.mem_cons_of_mem _ hy)
    rw [List.flatMap_cons, List.length_append, List.length_cons, Nat.succ_mul]
    omega
theorem cross_le {ls : List (List Int)} (h1 : ls.length ≤ 23) (h2 : ∀ l ∈ ls, l.length ≤ 23) : (cross ls).length ≤ 279841 := by
  have get : ∀ i, (ls.getD i []).length ≤ 23 := fun i => by
    rw [List.getD_eq_getElem?_getD]
    cases h : ls[i]? with
    | none => simp
    | some l => exact h2 l (List.mem_of_getElem? h)
  have a1 : ∀ j i, ((ls.getD i []).flatMap fun a => (ls.getD j []).map fun b => (a, b)).length ≤ 529 := fun j i => by
    refine Nat.le_trans (flat_le (B := 23) fun a _ => ?_) (by have := get i; omega)
    rw [List.length_map]; exact get j
  have a2 : ∀ j ∈ List.range ls.length, ((List.range j).flatMap fun i => (ls.getD i []).flatMap fun a => (ls.getD j []).map fun b => (a, b)).length ≤ 12167 := fun j hj => by
    refine Nat.le_trans (flat_le (B := 529) fun i _ => a1 j i) ?_
    rw [List.length_range]
    have := List.mem_range.mp hj
    omega
  unfold cross
  refine Nat.le_trans (flat_le (B := 12167) a2) ?_
  rw [List.length_range]
  omega
theorem itemsl_mem {ts : List Tr} (h : sizeL ts ≤ 23) : ∀ l ∈ ts.map items, l.length ≤ 23 := fun l hl => by
  obtain ⟨t, ht, rfl⟩ := List.mem_map.mp hl
  have := items_size t
  have := sizeL_mem ht
  omega
mutual
theorem pairs_le : ∀ t : Tr, size t ≤ 23 → (pairs t).length ≤ 279841 * size t
  | .item i, _ => by simp [pairs]
  | .node s ts, h => by
    rw [size] at h
    have a := pairsL_le ts (by omega)
    have b := cross_le (ls := ts.map items) (by rw [List.length_map]; have := len_sizeL ts; omega) (itemsl_mem (by omega))
    rw [pairs, size, List.length_append]
    have c : (if s = true then cross (ts.map items) else []).length ≤ 279841 := by
      cases s
      · simp
      · simpa using b
    omega
theorem pairsL_le : ∀ ts : List Tr, sizeL ts ≤ 23 → (pairsL ts).length ≤ 279841 * sizeL ts
  | [], _ => by simp [pairsL]
  | t :: ts, h => by
    rw [sizeL] at h
    have a := pairs_le t (by omega)
    have b := pairsL_le ts (by omega)
    rw [pairsL, sizeL, List.length_append]
    omega
end

theorem rng_flat {g : D → List D} (n : Nat) : (rng 0 (n : Int)).flatMap g = (List.range n).flatMap fun (i : Nat) => g (.int (i : Int)) := by
  unfold rng
  rw [List.flatMap_map]
  simp
def partsD (ls : List (List Int)) : D := .lst (ls.map fun l => .lst (l.map .int))
theorem parts_ix {ls : List (List Int)} {i : Nat} (h : i < ls.length) : ixD (partsD ls) (.int i) = some (.lst ((ls.getD i []).map .int)) := by
  unfold partsD ixD atI ixN
  simp only [List.length_map]
  rw [if_pos (by omega), if_pos (by omega)]
  simp [List.getD_eq_getElem?_getD, h]
theorem rng_mem {n : Nat} {x : D} (h : x ∈ rng 0 (n : Int)) : ∃ i : Nat, i < n ∧ x = .int i := by
  unfold rng at h
  obtain ⟨i, h1, rfl⟩ := List.mem_map.mp h
  have := List.mem_range.mp h1
  exact ⟨i, by omega, by simp⟩
abbrev em3 (cx : Cxt) : List D → MP.Env → R (List D) := emit (ev cx (.tup [.var 7, .var 8]))
abbrev CB : Cl := .mk (.nm 8) (.t (.e (.ix (.e (.var 2)) (.e (.var 5))))) []
abbrev CA : Cl := .mk (.nm 7) (.t (.e (.ix (.e (.var 2)) (.e (.var 6))))) []
abbrev CI : Cl := .mk (.nm 6) (.r1 (.var 5)) []
section
variable (cx : Cxt) (A0 A1 A3 A4 : Sl) (ls : List (List Int))
theorem clsB (j : Nat) (a : Int) (yi x : Sl) (acc : List D) (hj : j < ls.length) (hl : acc.length + (ls.getD j []).length ≤ lim) :
    ∃ x', evCls cx (em3 cx) [CB] acc [A0, A1, .fr (partsD ls), A3, A4, .fr (.int j), yi, .fr (.int a), x] = .ok (acc ++ (ls.getD j []).map fun b => pD (a, b)) [A0, A1, .fr (partsD ls), A3, A4, .fr (.int j), yi, .fr (.int a), x'] := by
  let g : D → List D := fun y => match y with | .int b => [pD (a, b)] | _ => []
  have eg : ∀ l : List Int, (l.map D.int).flatMap g = l.map fun b => pD (a, b) := fun l => by
    induction l with
    | nil => rfl
    | cons x l ih => rw [List.map_cons, List.flatMap_cons, ih]; rfl
  have lp := turns_app (F := TF cx (.nm 8) [] fun acc ρ => evCls cx (em3 cx) [] acc ρ) (g := g) (fun ρ => ∃ x, ρ = [A0, A1, .fr (partsD ls), A3, A4, .fr (.int j), yi, .fr (.int a), x]) ((ls.getD j []).map .int) acc [A0, A1, .fr (partsD ls), A3, A4, .fr (.int j), yi, .fr (.int a), x] ?_ ⟨_, rfl⟩ (by rw [eg, List.length_map]; exact hl)
  · obtain ⟨ρ', ⟨x', rfl⟩, e⟩ := lp
    rw [eg] at e
    refine ⟨x', (cls_ok (xs := (ls.getD j []).map .int) (ρ1 := [A0, A1, .fr (partsD ls), A3, A4, .fr (.int j), yi, .fr (.int a), x]) ?_ e).trans rfl⟩
    have := parts_ix hj
    simp [ev, evT, evIt, R.bind, R.of, MP.Env.fz, MP.T.res, this, itemsD]
  · rintro y hy acc ρ ⟨x, rfl⟩ hl
    obtain ⟨b, _, rfl⟩ := List.mem_map.mp hy
    refine ⟨_, ⟨.fr (.int b), rfl⟩, TF_ok (ρ1 := [A0, A1, .fr (partsD ls), A3, A4, .fr (.int j), yi, .fr (.int a), .fr (.int b)]) (by simp [Tg.asg]) (emit_ok (d := pD (a, b)) ?_ ?_)⟩
    · simp [ev, evs, R.bind, R.of, MP.Env.fz, lim, pD]
    · have : (g (.int b)).length = 1 := rfl
      omega
theorem clsA (j i : Nat) (ya yb : Sl) (acc : List D) (hj : j < ls.length) (hi : i < ls.length) (hl : acc.length + ((ls.getD i []).flatMap fun a => (ls.getD j []).map fun b => pD (a, b)).length ≤ lim) :
    ∃ ya' yb', evCls cx (em3 cx) [CA, CB] acc [A0, A1, .fr (partsD ls), A3, A4, .fr (.int j), .fr (.int i), ya, yb] = .ok (acc ++ (ls.getD i []).flatMap fun a => (ls.getD j []).map fun b => pD (a, b)) [A0, A1, .fr (partsD ls), A3, A4, .fr (.int j), .fr (.int i), ya', yb'] := by
  let g : D → List D := fun y => match y with | .int a => (ls.getD j []).map fun b => pD (a, b) | _ => []
  have eg : ∀ l : List Int, (l.map D.int).flatMap g = l.flatMap fun a => (ls.getD j []).map fun b => pD (a, b) := fun l => by
    induction l with
    | nil => rfl
    | cons x l ih => rw [List.map_cons, List.flatMap_cons, ih, List.flatMap_cons]
  have lp := turns_app (F := TF cx (.nm 7) [] fun acc ρ => evCls cx (em3 cx) [CB] acc ρ) (g := g) (fun ρ => ∃ ya yb, ρ = [A0, A1, .fr (partsD ls), A3, A4, .fr (.int j), .fr (.int i), ya, yb]) ((ls.getD i []).map .int) acc [A0, A1, .fr (partsD ls), A3, A4, .fr (.int j), .fr (.int i), ya, yb] ?_ ⟨_, _, rfl⟩ (by rw [eg]; exact hl)
  · obtain ⟨ρ', ⟨ya', yb', rfl⟩, e⟩ := lp
    rw [eg] at e
    refine ⟨ya', yb', (cls_ok (xs := (ls.getD i []).map .int) (ρ1 := [A0, A1, .fr (partsD ls), A3, A4, .fr (.int j), .fr (.int i), ya, yb]) ?_ e).trans rfl⟩
    have := parts_ix hi
    simp [ev, evT, evIt, R.bind, R.of, MP.Env.fz, MP.T.res, this, itemsD]
  · rintro y hy acc ρ ⟨ya, yb, rfl⟩ hl
    obtain ⟨a, _, rfl⟩ := List.mem_map.mp hy
    have hg : g (.int a) = (ls.getD j []).map fun b => pD (a, b) := rfl
    rw [hg] at hl ⊢
    rw [List.length_map] at hl
    obtain ⟨x', e⟩ := clsB cx A0 A1 A3 A4 ls j a (.fr (.int i)) yb acc hj hl
    exact ⟨_, ⟨_, _, rfl⟩, TF_ok (ρ1 := [A0, A1, .fr (partsD ls), A3, A4, .fr (.int j), .fr (.int i), .fr (.int a), yb]) (by simp [Tg.asg]) e⟩
theorem clsI (j : Nat) (yi ya yb : Sl) (acc : List D) (hj : j < ls.length) (hj2 : j ≤ 23) (hl : acc.length + ((List.range j).flatMap fun i => (ls.getD i []).flatMap fun a => (ls.getD j []).map fun b => pD (a, b)).length ≤ lim) :
    ∃ yi' ya' yb', evCls cx (em3 cx) [CI, CA, CB] acc [A0, A1, .fr (partsD ls), A3, A4, .fr (.int j), yi, ya, yb] = .ok (acc ++ (List.range j).flatMap fun i => (ls.getD i []).flatMap fun a => (ls.getD j []).map fun b => pD (a, b)) [A0, A1, .fr (partsD ls), A3, A4, .fr (.int j), yi', ya', yb'] := by
  let g : D → List D := fun y => match y with | .int i => (ls.getD i.toNat []).flatMap fun a => (ls.getD j []).map fun b => pD (a, b) | _ => []
  have eg : (rng 0 (j : Int)).flatMap g = (List.range j).flatMap fun i => (ls.getD i []).flatMap fun a => (ls.getD j []).map fun b => pD (a, b) := by
    rw [rng_flat]; rfl
  have lp := turns_app (F := TF cx (.nm 6) [] fun acc ρ => evCls cx (em3 cx) [CA, CB] acc ρ) (g := g) (fun ρ => ∃ yi ya yb, ρ = [A0, A1, .fr (partsD ls), A3, A4, .fr (.int j), yi, ya, yb]) (rng 0 (j : Int)) acc [A0, A1, .fr (partsD ls), A3, A4, .fr (.int j), yi, ya, yb] ?_ ⟨_, _, _, rfl⟩ (by rw [eg]; exact hl)
  · obtain ⟨ρ', ⟨yi', ya', yb', rfl⟩, e⟩ := lp
    rw [eg] at e
    refine ⟨yi', ya', yb', (cls_ok (xs := rng 0 (j : Int)) (ρ1 := [A0, A1, .fr (partsD ls), A3, A4, .fr (.int j), yi, ya, yb]) ?_ e).trans rfl⟩
    have hs : smallI (j : Int) = true := smallI_nat j (by omega)
    exact evIt_r1 (by simp [ev, R.of, MP.Env.fz]) hs
  · rintro y hy acc ρ ⟨yi, ya, yb, rfl⟩ hl
    obtain ⟨i, hi, rfl⟩ := rng_mem hy
    have hg : g (.int (i : Int)) = (ls.getD i []).flatMap fun a => (ls.getD j []).map fun b => pD (a, b) := rfl
    rw [hg] at hl ⊢
    obtain ⟨ya', yb', e⟩ := clsA cx A0 A1 A3 A4 ls j i ya yb acc hj (by omega) hl
    exact ⟨_, ⟨_, _, _, rfl⟩, TF_ok (ρ1 := [A0, A1, .fr (partsD ls), A3, A4, .fr (.int j), .fr (.int i), ya, yb]) (by simp [Tg.asg]) e⟩
theorem c3_ok (h1 : ls.length ≤ 23) (h2 : ∀ l ∈ ls, l.length ≤ 23) : evP cx f_pairs_of_c3 [A0, A1, .fr (partsD ls), A3, A4, .un, .un, .un, .un] = .ok (.lst ((cross ls).map pD)) [A0, A1, .fr (partsD ls), A3, A4, .un, .un, .un, .un] := by
  let g : D → List D := fun y => match y with | .int j => (List.range j.toNat).flatMap fun i => (ls.getD i []).flatMap fun a => (ls.getD j.toNat []).map fun b => pD (a, b) | _ => []
  have eg : (rng 0 (ls.length : Int)).flatMap g = (cross ls).map pD := by
    rw [rng_flat]
    unfold cross
    simp only [List.map_flatMap, List.map_map]
    rfl
  have lim3 := cross_le h1 h2
  have lp := turns_app (F := TF cx (.nm 5) [] fun acc ρ => evCls cx (em3 cx) [CI, CA, CB] acc ρ) (g := g) (fun ρ => ∃ yj yi ya yb, ρ = [A0, A1, .fr (partsD ls), A3, A4, yj, yi, ya, yb]) (rng 0 (ls.length : Int)) [] [A0, A1, .fr (partsD ls), A3, A4, .un, .un, .un, .un] ?_ ⟨_, _, _, _, rfl⟩ (by rw [eg, List.length_map]; simp [lim]; omega)
  · obtain ⟨ρ', ⟨yj, yi, ya, yb, rfl⟩, e⟩ := lp
    rw [eg] at e
    refine (comp_ok (xs := rng 0 (ls.length : Int)) (ρ1 := [A0, A1, .fr (partsD ls), A3, A4, .un, .un, .un, .un]) ?_ e).trans ?_
    · have hs : smallI (ls.length : Int) = true := smallI_nat _ (by omega)
      exact evIt_r1 (by simp [ev, evT, evTs, R.bind, R.of, MP.Env.fz, MP.T.res, resL, biD, lenD, partsD]) hs
    · simp [unlockT, lockT, MP.back, back1]
  · rintro y hy acc ρ ⟨yj, yi, ya, yb, rfl⟩ hl
    obtain ⟨j, hj, rfl⟩ := rng_mem hy
    have hg : g (.int (j : Int)) = (List.range j).flatMap fun i => (ls.getD i []).flatMap fun a => (ls.getD j []).map fun b => pD (a, b) := rfl
    rw [hg] at hl ⊢
    obtain ⟨yi', ya', yb', e⟩ := clsI cx A0 A1 A3 A4 ls j yi ya yb acc hj (by omega) hl
    exact ⟨_, ⟨_, _, _, _, rfl⟩, TF_ok (ρ1 := [A0, A1, .fr (partsD ls), A3, A4, .fr (.int j), yi, ya, yb]) (by simp [Tg.asg]) e⟩
end
theorem c_po (n : Nat) (ds : List D) : pr.cf (n+1) "pairs_of" ds = f_pairs_of.run ⟨pr.cf n, pr.gl⟩ ds := cf_eq rfl n ds
theorem flat_encP {g : D → List D} {f : Tr → List (Int × Int)} : ∀ {ts : List Tr}, (∀ t ∈ ts, g (enc t) = (f t).map pD) → (encL ts).flatMap g = (ts.flatMap f).map pD
  | [], _ => rfl
  | t :: ts, h => by
    rw [encL, List.flatMap_cons, h t List.mem_cons_self, flat_encP fun u hu => h u (List.mem_cons_of_mem _ hu), List.flatMap_cons, List.map_append]
theorem pairsL_flat : ∀ ts : List Tr, pairsL ts = ts.flatMap pairs
  | [] => rfl
  | t :: ts => by rw [pairsL, pairsL_flat ts]; rfl
def gP (n : Nat) (x : D) : List D := match pr.cf n "pairs_of" [x] with
  | .ok (.lst l) => l
  | _ => []
theorem p1_ok (n : Nat) (s : Bool) (ts : List Tr) (ih : ∀ t ∈ ts, pr.cf n "pairs_of" [enc t] = .ok (.lst ((pairs t).map pD))) (hl : (pairsL ts).length ≤ lim) :
    evP ⟨pr.cf n, pr.gl⟩ f_pairs_of_c1 [.fr (.tup [.str (word s), .tup (ts.map enc)]), .un, .un, .un, .un, .un, .un, .un, .un] = .ok (.lst ((pairsL ts).map pD)) [.fr (.tup [.str (word s), .tup (ts.map enc)]), .un, .un, .un, .un, .un, .un, .un, .un] := by
  have eg : (ts.map enc).flatMap (gP n) = (pairsL ts).map pD := by
    rw [← encL_map, flat_encP (f := pairs) fun t ht => by unfold gP; rw [ih t ht], pairsL_flat]
  have lp := turns_app (F := TF ⟨pr.cf n, pr.gl⟩ (.nm 3) [] fun acc ρ => evCls ⟨pr.cf n, pr.gl⟩ (emit (ev ⟨pr.cf n, pr.gl⟩ (.var 4))) [.mk (.nm 4) (.t (.e (.call "pairs_of" [.var 3]))) []] acc ρ) (g := gP n)
    (fun ρ => ∃ a b, ρ = [.fr (.tup [.str (word s), .tup (ts.map enc)]), .un, .un, a, b, .un, .un, .un, .un]) (ts.map enc) [] [.fr (.tup [.str (word s), .tup (ts.map enc)]), .un, .un, .un, .un, .un, .un, .un, .un] ?_ ⟨_, _, rfl⟩ (by rw [eg, List.length_map]; simpa using hl)
  · obtain ⟨ρ', ⟨a, b, rfl⟩, e⟩ := lp
    rw [eg] at e
    refine (comp_ok (xs := ts.map enc) (ρ1 := [.fr (.tup [.str (word s), .tup (ts.map enc)]), .un, .un, .un, .un, .un, .un, .un, .un]) (by simp [Fn.run, exSs, exS, exH, SR.ofR, SR.ofO, ev, evs, evT, evTs, evO, evP, evIt, evIfs, evCls, evS, R.bind, R.of, R.mapEnv, R.noX, SR.mapEnv, MP.Env.fz, MP.Env.bo, MP.Env.own, T.res, resL, biD, lenD, cmpD, cltD, cleD, cgtD, cgeD, ixD, slD, revD, isiD, binD, addD, subD, mulD, modD, fdivD, powD, intC, tupC, atI, ixN, lockT, unlockT, lock, unlock, MP.wipe, MP.back, back1, Tg.asg, Tg.asgs, setSl, appR, extR, popR, itemsD, listC, emit, smallI, lim]) e).trans ?_
    simp [Fn.run, exSs, exS, exH, SR.ofR, SR.ofO, ev, evs, evT, evTs, evO, evP, evIt, evIfs, evCls, evS, R.bind, R.of, R.mapEnv, R.noX, SR.mapEnv, MP.Env.fz, MP.Env.bo, MP.Env.own, T.res, resL, biD, lenD, cmpD, cltD, cleD, cgtD, cgeD, ixD, slD, revD, isiD, binD, addD, subD, mulD, modD, fdivD, powD, intC, tupC, atI, ixN, lockT, unlockT, lock, unlock, MP.wipe, MP.back, back1, Tg.asg, Tg.asgs, setSl, appR, extR, popR, itemsD, listC, emit, smallI, lim]
  · rintro x hx acc ρ ⟨a, b, rfl⟩ hl
    obtain ⟨t, ht, rfl⟩ := List.mem_map.mp hx
    have hg : gP n (enc t) = (pairs t).map pD := by unfold gP; rw [ih t ht]
    rw [hg] at hl ⊢
    have lp := turns_app (F := TF ⟨pr.cf n, pr.gl⟩ (.nm 4) [] fun acc ρ => evCls ⟨pr.cf n, pr.gl⟩ (emit (ev ⟨pr.cf n, pr.gl⟩ (.var 4))) [] acc ρ) (g := fun y => [y])
      (fun ρ => ∃ a b, ρ = [.fr (.tup [.str (word s), .tup (ts.map enc)]), .un, .un, a, b, .un, .un, .un, .un]) ((pairs t).map pD) acc [.fr (.tup [.str (word s), .tup (ts.map enc)]), .un, .un, .fr (enc t), b, .un, .un, .un, .un] (fun y _ acc ρ ⟨a, b, hρ⟩ hl => ⟨[.fr (.tup [.str (word s), .tup (ts.map enc)]), .un, .un, a, .fr y, .un, .un, .un, .un], ⟨_, _, rfl⟩, by
        subst hρ
        refine TF_ok (ρ1 := [.fr (.tup [.str (word s), .tup (ts.map enc)]), .un, .un, a, .fr y, .un, .un, .un, .un]) (by simp [Fn.run, exSs, exS, exH, SR.ofR, SR.ofO, ev, evs, evT, evTs, evO, evP, evIt, evIfs, evCls, evS, R.bind, R.of, R.mapEnv, R.noX, SR.mapEnv, MP.Env.fz, MP.Env.bo, MP.Env.own, T.res, resL, biD, lenD, cmpD, cltD, cleD, cgtD, cgeD, ixD, slD, revD, isiD, binD, addD, subD, mulD, modD, fdivD, powD, intC, tupC, atI, ixN, lockT, unlockT, lock, unlock, MP.wipe, MP.back, back1, Tg.asg, Tg.asgs, setSl, appR, extR, popR, itemsD, listC, emit, smallI, lim]) (emit_ok (by simp [Fn.run, exSs, exS, exH, SR.ofR, SR.ofO, ev, evs, evT, evTs, evO, evP, evIt, evIfs, evCls, evS, R.bind, R.of, R.mapEnv, R.noX, SR.mapEnv, MP.Env.fz, MP.Env.bo, MP.Env.own, T.res, resL, biD, lenD, cmpD, cltD, cleD, cgtD, cgeD, ixD, slD, revD, isiD, binD, addD, subD, mulD, modD, fdivD, powD, intC, tupC, atI, ixN, lockT, unlockT, lock, unlock, MP.wipe, MP.back, back1, Tg.asg, Tg.asgs, setSl, appR, extR, popR, itemsD, listC, emit, smallI, lim]) ?_)
        simp at hl; omega⟩) ⟨_, _, rfl⟩ (by rw [flatMap_one]; exact hl)
    obtain ⟨ρ', ⟨a', b', rfl⟩, e⟩ := lp
    rw [flatMap_one] at e
    exact ⟨_, ⟨_, _, rfl⟩, TF_ok (ρ1 := [.fr (.tup [.str (word s), .tup (ts.map enc)]), .un, .un, .fr (enc t), b, .un, .un, .un, .un]) (by simp [Fn.run, exSs, exS, exH, SR.ofR, SR.ofO, ev, evs, evT, evTs, evO, evP, evIt, evIfs, evCls, evS, R.bind, R.of, R.mapEnv, R.noX, SR.mapEnv, MP.Env.fz, MP.Env.bo, MP.Env.own, T.res, resL, biD, lenD, cmpD, cltD, cleD, cgtD, cgeD, ixD, slD, revD, isiD, binD, addD, subD, mulD, modD, fdivD, powD, intC, tupC, atI, ixN, lockT, unlockT, lock, unlock, MP.wipe, MP.back, back1, Tg.asg, Tg.asgs, setSl, appR, extR, popR, itemsD, listC, emit, smallI, lim]) (cls_ok (xs := (pairs t).map pD) (ρ1 := [.fr (.tup [.str (word s), .tup (ts.map enc)]), .un, .un, .fr (enc t), b, .un, .un, .un, .un]) (by simp [ih t ht, Fn.run, exSs, exS, exH, SR.ofR, SR.ofO, ev, evs, evT, evTs, evO, evP, evIt, evIfs, evCls, evS, R.bind, R.of, R.mapEnv, R.noX, SR.mapEnv, MP.Env.fz, MP.Env.bo, MP.Env.own, T.res, resL, biD, lenD, cmpD, cltD, cleD, cgtD, cgeD, ixD, slD, revD, isiD, binD, addD, subD, mulD, modD, fdivD, powD, intC, tupC, atI, ixN, lockT, unlockT, lock, unlock, MP.wipe, MP.back, back1, Tg.asg, Tg.asgs, setSl, appR, extR, popR, itemsD, listC, emit, smallI, lim]) e)⟩
theorem p2_ok (n : Nat) (s : Bool) (ts : List Tr) (A1 : Sl) (hA : ∀ d, A1 ≠ .lk d) (h : sizeL ts ≤ n) (h1 : sizeL ts ≤ 23) :
    evP ⟨pr.cf n, pr.gl⟩ f_pairs_of_c2 [.fr (.tup [.str (word s), .tup (ts.map enc)]), A1, .un, .un, .un, .un, .un, .un, .un] = .ok (partsD (ts.map items)) [.fr (.tup [.str (word s), .tup (ts.map enc)]), A1, .un, .un, .un, .un, .un, .un, .un] := by
  have it : ∀ t ∈ ts, pr.cf n "items_of" [enc t] = .ok (.lst ((items t).map .int)) := fun t ht => by
    have := sizeL_mem ht
    exact items_ok n t (by omega) (by omega)
  let g : D → List D := fun x => match pr.cf n "items_of" [x] with | .ok d => [d] | _ => []
  have eg : ∀ us : List Tr, (∀ t ∈ us, t ∈ ts) → (us.map enc).flatMap g = (us.map items).map fun l => D.lst (l.map .int) := fun us hu => by
    induction us with
    | nil => rfl
    | cons u us ih =>
      rw [List.map_cons, List.flatMap_cons, ih fun t ht => hu t (List.mem_cons_of_mem _ ht)]
      show (match pr.cf n "items_of" [enc u] with | .ok d => [d] | _ => []) ++ _ = _
      rw [it u (hu u List.mem_cons_self)]
      rfl
  have lp := turns_app (F := TF ⟨pr.cf n, pr.gl⟩ (.nm 3) [] fun acc ρ => evCls ⟨pr.cf n, pr.gl⟩ (emit (ev ⟨pr.cf n, pr.gl⟩ (.call "items_of" [.var 3]))) [] acc ρ) (g := g)
    (fun ρ => ∃ a, ρ = [.fr (.tup [.str (word s), .tup (ts.map enc)]), A1, .un, a, .un, .un, .un, .un, .un]) (ts.map enc) [] [.fr (.tup [.str (word s), .tup (ts.map enc)]), A1, .un, .un, .un, .un, .un, .un, .un] ?_ ⟨_, rfl⟩ (by rw [eg ts fun _ h => h]; have := len_sizeL ts; simp [lim]; omega)
  · obtain ⟨ρ', ⟨a, rfl⟩, e⟩ := lp
    rw [eg ts fun _ h => h] at e
    refine (comp_ok (xs := ts.map enc) (ρ1 := [.fr (.tup [.str (word s), .tup (ts.map enc)]), A1, .un, .un, .un, .un, .un, .un, .un]) (by simp [Fn.run, exSs, exS, exH, SR.ofR, SR.ofO, ev, evs, evT, evTs, evO, evP, evIt, evIfs, evCls, evS, R.bind, R.of, R.mapEnv, R.noX, SR.mapEnv, MP.Env.fz, MP.Env.bo, MP.Env.own, T.res, resL, biD, lenD, cmpD, cltD, cleD, cgtD, cgeD, ixD, slD, revD, isiD, binD, addD, subD, mulD, modD, fdivD, powD, intC, tupC, atI, ixN, lockT, unlockT, lock, unlock, MP.wipe, MP.back, back1, Tg.asg, Tg.asgs, setSl, appR, extR, popR, itemsD, listC, emit, smallI, lim]) e).trans ?_
    simp [Fn.run, exSs, exS, exH, SR.ofR, SR.ofO, ev, evs, evT, evTs, evO, evP, evIt, evIfs, evCls, evS, R.bind, R.of, R.mapEnv, R.noX, SR.mapEnv, MP.Env.fz, MP.Env.bo, MP.Env.own, T.res, resL, biD, lenD, cmpD, cltD, cleD, cgtD, cgeD, ixD, slD, revD, isiD, binD, addD, subD, mulD, modD, fdivD, powD, intC, tupC, atI, ixN, lockT, unlockT, lock, unlock, MP.wipe, MP.back, back1, Tg.asg, Tg.asgs, setSl, appR, extR, popR, itemsD, listC, emit, smallI, lim, partsD]
  · rintro x hx acc ρ ⟨a, rfl⟩ hl
    obtain ⟨t, ht, rfl⟩ := List.mem_map.mp hx
    have hg : g (enc t) = [D.lst ((items t).map .int)] := by
      show (match pr.cf n "items_of" [enc t] with | .ok d => [d] | _ => []) = _
      rw [it t ht]
    rw [hg] at hl ⊢
    refine ⟨_, ⟨.fr (enc t), rfl⟩, TF_ok (ρ1 := [.fr (.tup [.str (word s), .tup (ts.map enc)]), A1, .un, .fr (enc t), .un, .un, .un, .un, .un]) (by simp [Fn.run, exSs, exS, exH, SR.ofR, SR.ofO, ev, evs, evT, evTs, evO, evP, evIt, evIfs, evCls, evS, R.bind, R.of, R.mapEnv, R.noX, SR.mapEnv, MP.Env.fz, MP.Env.bo, MP.Env.own, T.res, resL, biD, lenD, cmpD, cltD, cleD, cgtD, cgeD, ixD, slD, revD, isiD, binD, addD, subD, mulD, modD, fdivD, powD, intC, tupC, atI, ixN, lockT, unlockT, lock, unlock, MP.wipe, MP.back, back1, Tg.asg, Tg.asgs, setSl, appR, extR, popR, itemsD, listC, emit, smallI, lim]) (emit_ok (by simp [it t ht, Fn.run, exSs, exS, exH, SR.ofR, SR.ofO, ev, evs, evT, evTs, evO, evP, evIt, evIfs, evCls, evS, R.bind, R.of, R.mapEnv, R.noX, SR.mapEnv, MP.Env.fz, MP.Env.bo, MP.Env.own, T.res, resL, biD, lenD, cmpD, cltD, cleD, cgtD, cgeD, ixD, slD, revD, isiD, binD, addD, subD, mulD, modD, fdivD, powD, intC, tupC, atI, ixN, lockT, unlockT, lock, unlock, MP.wipe, MP.back, back1, Tg.asg, Tg.asgs, setSl, appR, extR, popR, itemsD, listC, emit, smallI, lim]) ?_)⟩
    simp at hl; omega
theorem pairs_ok : ∀ (n : Nat) (t : Tr), size t ≤ n → size t ≤ 23 → pr.cf n "pairs_of" [enc t] = .ok (.lst ((pairs t).map pD))
  | 0, t, h, _ => by have := size_pos t; omega
  | n + 1, .item i, _, _ => by
    rw [c_po]
    simp [f_pairs_of, enc, pairs, eq_item, Fn.run, exSs, exS, exH, SR.ofR, SR.ofO, ev, evs, evT, evTs, evO, evP, evIt, evIfs, evCls, evS, R.bind, R.of, R.mapEnv, R.noX, SR.mapEnv, MP.Env.fz, MP.Env.bo, MP.Env.own, T.res, resL, biD, lenD, cmpD, cltD, cleD, cgtD, cgeD, ixD, slD, revD, isiD, binD, addD, subD, mulD, modD, fdivD, powD, intC, tupC, atI, ixN, lockT, unlockT, lock, unlock, MP.wipe, MP.back, back1, Tg.asg, Tg.asgs, setSl, appR, extR, popR, itemsD, listC, emit, smallI, lim]
  | n + 1, .node s ts, h, h1 => by
    rw [size] at h h1
    have ih := fun t (ht : t ∈ ts) => pairs_ok n t (by have := sizeL_mem ht; omega) (by have := sizeL_mem ht; omega)
    have pl := pairsL_le ts (by omega)
    have q1 := p1_ok n s ts ih (by unfold lim; omega)
    have cl := cross_le (ls := ts.map items) (by rw [List.length_map]; have := len_sizeL ts; omega) (itemsl_mem (by omega))
    have hlen : (pairsL ts).length + (cross (ts.map items)).length ≤ 16777216 := by omega
    rw [c_po, enc, pairs, encL_map]
    have q2 := p2_ok n s ts (.ow (.lst ((pairsL ts).map pD))) (by simp) (by omega) (by omega)
    have q3 := c3_ok ⟨pr.cf n, pr.gl⟩ (.fr (.tup [.str (word s), .tup (ts.map enc)])) (.ow (.lst ((pairsL ts).map pD))) .un .un (ts.map items) (by rw [List.length_map]; have := len_sizeL ts; omega) (itemsl_mem (by omega))
    cases s
    · simp [f_pairs_of, eq_word, eq_stk, q1, Fn.run, exSs, exS, exH, SR.ofR, SR.ofO, ev, evs, evT, evTs, evO, evP, evIt, evIfs, evCls, evS, R.bind, R.of, R.mapEnv, R.noX, SR.mapEnv, MP.Env.fz, MP.Env.bo, MP.Env.own, T.res, resL, biD, lenD, cmpD, cltD, cleD, cgtD, cgeD, ixD, slD, revD, isiD, binD, addD, subD, mulD, modD, fdivD, powD, intC, tupC, atI, ixN, lockT, unlockT, lock, unlock, MP.wipe, MP.back, back1, Tg.asg, Tg.asgs, setSl, appR, extR, popR, itemsD, listC, emit, smallI, lim]
    · refine run_ret rfl (ρ' := [.fr (.tup [.str (word true), .tup (ts.map enc)]), .fr (.lst ((pairsL ts).map pD ++ (cross (ts.map items)).map pD)), .fr (partsD (ts.map items)), .un, .un, .un, .un, .un, .un]) ?_
      show exSs _ [_, _, _, _, _] [.fr (.tup [.str (word true), .tup (ts.map enc)]), .un, .un, .un, .un, .un, .un, .un, .un] = _
      refine seq_nx (ρ' := [.fr (.tup [.str (word true), .tup (ts.map enc)]), .un, .un, .un, .un, .un, .un, .un, .un]) (by simp [eq_word, Fn.run, exSs, exS, exH, SR.ofR, SR.ofO, ev, evs, evT, evTs, evO, evP, evIt, evIfs, evCls, evS, R.bind, R.of, R.mapEnv, R.noX, SR.mapEnv, MP.Env.fz, MP.Env.bo, MP.Env.own, T.res, resL, biD, lenD, cmpD, cltD, cleD, cgtD, cgeD, ixD, slD, revD, isiD, binD, addD, subD, mulD, modD, fdivD, powD, intC, tupC, atI, ixN, lockT, unlockT, lock, unlock, MP.wipe, MP.back, back1, Tg.asg, Tg.asgs, setSl, appR, extR, popR, itemsD, listC, emit, smallI, lim]) ?_
      refine seq_nx (ρ' := [.fr (.tup [.str (word true), .tup (ts.map enc)]), .ow (.lst ((pairsL ts).map pD)), .un, .un, .un, .un, .un, .un, .un]) (by simp [q1, Fn.run, exSs, exS, exH, SR.ofR, SR.ofO, ev, evs, evT, evTs, evO, evP, evIt, evIfs, evCls, evS, R.bind, R.of, R.mapEnv, R.noX, SR.mapEnv, MP.Env.fz, MP.Env.bo, MP.Env.own, T.res, resL, biD, lenD, cmpD, cltD, cleD, cgtD, cgeD, ixD, slD, revD, isiD, binD, addD, subD, mulD, modD, fdivD, powD, intC, tupC, atI, ixN, lockT, unlockT, lock, unlock, MP.wipe, MP.back, back1, Tg.asg, Tg.asgs, setSl, appR, extR, popR, itemsD, listC, emit, smallI, lim]) ?_
      refine seq_nx (ρ' := [.fr (.tup [.str (word true), .tup (ts.map enc)]), .ow (.lst ((pairsL ts).map pD ++ (cross (ts.map items)).map pD)), .fr (partsD (ts.map items)), .un, .un, .un, .un, .un, .un]) (iff_T (by simp [eq_stk, Fn.run, exSs, exS, exH, SR.ofR, SR.ofO, ev, evs, evT, evTs, evO, evP, evIt, evIfs, evCls, evS, R.bind, R.of, R.mapEnv, R.noX, SR.mapEnv, MP.Env.fz, MP.Env.bo, MP.Env.own, T.res, resL, biD, lenD, cmpD, cltD, cleD, cgtD, cgeD, ixD, slD, revD, isiD, binD, addD, subD, mulD, modD, fdivD, powD, intC, tupC, atI, ixN, lockT, unlockT, lock, unlock, MP.wipe, MP.back, back1, Tg.asg, Tg.asgs, setSl, appR, extR, popR, itemsD, listC, emit, smallI, lim]) ?_) ?_
      · refine seq_nx (ρ' := [.fr (.tup [.str (word true), .tup (ts.map enc)]), .ow (.lst ((pairsL ts).map pD)), .fr (partsD (ts.map items)), .un, .un, .un, .un, .un, .un]) (by simp [q2, Fn.run, exSs, exS, exH, SR.ofR, SR.ofO, ev, evs, evT, evTs, evO, evP, evIt, evIfs, evCls, evS, R.bind, R.of, R.mapEnv, R.noX, SR.mapEnv, MP.Env.fz, MP.Env.bo, MP.Env.own, T.res, resL, biD, lenD, cmpD, cltD, cleD, cgtD, cgeD, ixD, slD, revD, isiD, binD, addD, subD, mulD, modD, fdivD, powD, intC, tupC, atI, ixN, lockT, unlockT, lock, unlock, MP.wipe, MP.back, back1, Tg.asg, Tg.asgs, setSl, appR, extR, popR, itemsD, listC, emit, smallI, lim]) ?_
        exact seq_one ((ext_ok (x := .lst ((cross (ts.map items)).map pD)) (by rw [evT, ev]; exact q3) rfl rfl (by rw [List.length_map, List.length_map]; exact hlen)).trans rfl)
      · simp [Fn.run, exSs, exS, exH, SR.ofR, SR.ofO, ev, evs, evT, evTs, evO, evP, evIt, evIfs, evCls, evS, R.bind, R.of, R.mapEnv, R.noX, SR.mapEnv, MP.Env.fz, MP.Env.bo, MP.Env.own, T.res, resL, biD, lenD, cmpD, cltD, cleD, cgtD, cgeD, ixD, slD, revD, isiD, binD, addD, subD, mulD, modD, fdivD, powD, intC, tupC, atI, ixN, lockT, unlockT, lock, unlock, MP.wipe, MP.back, back1, Tg.asg, Tg.asgs, setSl, appR, extR, popR, itemsD, listC, emit, smallI, lim]
/-! ### joined -/
theorem pairsD_map : ∀ ps : List (Int × Int), pairsD (ps.map pD) = some ps
  | [] => rfl
  | (a, b) :: ps => by
    show (pairsD (ps.map pD)).map ((a, b) :: ·) = _
    rw [pairsD_map ps]
    rfl
theorem sortC_pairs (ps : List (Int × Int)) : sortC (.lst (ps.map pD)) = some ((sortB leP ps).map pD) := by
  unfold sortC
  cases ps with
  | nil => rfl
  | cons p ps =>
    have : intsD ((p :: ps).map pD) = none := rfl
    show (match intsD ((p :: ps).map pD) with
      | some ns => some ((sortB leI ns).map D.int)
      | none => (pairsD ((p :: ps).map pD)).map fun ps => (sortB leP ps).map pD) = _
    rw [this, pairsD_map]
    rfl
def answer (t : Tr) : D := .tup [.int (items t).length, .tup ((sortB leP (pairs t)).map pD)]
theorem c_joined (n : Nat) (ds : List D) : pr.cf (n+1) "joined" ds = f_joined.run ⟨pr.cf n, pr.gl⟩ ds := cf_eq rfl n ds
theorem joined_ok (n : Nat) (t : Tr) (h : size t ≤ n) (h1 : size t ≤ 23) : pr.cf (n+1) "joined" [enc t] = .ok (answer t) := by
  rw [c_joined]
  simp [f_joined, items_ok n t h (by omega), pairs_ok n t h h1, sortC_pairs, answer, Fn.run, exSs, exS, exH, SR.ofR, SR.ofO, ev, evs, evT, evTs, evO, evP, evIt, evIfs, evCls, evS, R.bind, R.of, R.mapEnv, R.noX, SR.mapEnv, MP.Env.fz, MP.Env.bo, MP.Env.own, T.res, resL, biD, lenD, cmpD, cltD, cleD, cgtD, cgeD, ixD, slD, revD, isiD, binD, addD, subD, mulD, modD, fdivD, powD, intC, tupC, atI, ixN, lockT, unlockT, lock, unlock, MP.wipe, MP.back, back1, Tg.asg, Tg.asgs, setSl, appR, extR, popR, itemsD, listC, emit, smallI, lim]
theorem child {cx : Cxt} {ρ : MP.Env} {s : Bool} {ts : List Tr} {t : Tr} {v k : Nat} (h3 : ρ.fz 3 = some (.tup [.str (word s), .tup (ts.map enc)])) (hv : ρ.fz v = some (.int (k : Int))) (ht : ts[k]? = some t) :
    ev cx (.ix (.e (.ix (.e (.var 3)) (.e (.con (.int 1))))) (.e (.var v))) ρ = .ok (enc t) ρ := by
  refine ev_ix (ev_ix (ev_var h3) (by rw [ev]) rfl) (ev_var hv) ?_
  show atI (ts.map enc) (k : Int) = _
  exact atI_nat (by rw [List.getElem?_map, ht]; rfl)
section
variable (n : Nat) (A0 W A5 : Sl) (s : Bool) (ts : List Tr)
abbrev envJ (W : Sl) (ps : List (Int × Int)) (k j a : Sl) : MP.Env := [A0, W, .fr (.lst (ps.map pD)), .fr (.tup [.str (word s), .tup (ts.map enc)]), k, j, a, .un]
theorem j1_ok (ps : List (Int × Int)) (k : Nat) (J : Sl) (a : Int) {t : Tr} (ht : ts[k]? = some t) (hn : size t ≤ n) (h1 : size t ≤ 23) (hl : ps.length + 23 ≤ lim) :
    exSs ⟨pr.cf n, pr.gl⟩ f_law_joined_b1 (envJ A0 s ts W ps (.fr (.int k)) J (.fr (.int a))) = .nx (envJ A0 s ts W (ps ++ (items t).map fun b => (a, b)) (.fr (.int k)) J (.fr (.int a))) := by
  have il := items_size t
  let g : D → List D := fun y => match y with | .int b => [pD (a, b)] | _ => []
  have eg : ∀ l : List Int, (l.map D.int).flatMap g = (l.map fun b => (a, b)).map pD := fun l => by
    induction l with
    | nil => rfl
    | cons x l ih => rw [List.map_cons, List.flatMap_cons, ih]; rfl
  have cp : evP ⟨pr.cf n, pr.gl⟩ f_law_joined_c1 (envJ A0 s ts W ps (.fr (.int k)) J (.fr (.int a))) = .ok (.lst (((items t).map fun b => (a, b)).map pD)) (envJ A0 s ts W ps (.fr (.int k)) J (.fr (.int a))) := by
    have lp := turns_app (F := TF ⟨pr.cf n, pr.gl⟩ (.nm 7) [] fun acc ρ => evCls ⟨pr.cf n, pr.gl⟩ (emit (ev ⟨pr.cf n, pr.gl⟩ (.tup [.var 6, .var 7]))) [] acc ρ) (g := g)
      (fun ρ => ∃ b, ρ = [A0, W, .fr (.lst (ps.map pD)), .fr (.tup [.str (word s), .tup (ts.map enc)]), .fr (.int k), J, .fr (.int a), b]) ((items t).map .int) [] (envJ A0 s ts W ps (.fr (.int k)) J (.fr (.int a))) ?_ ⟨_, rfl⟩ (by rw [eg, List.length_map, List.length_map]; simp [lim] at hl ⊢; omega)
    · obtain ⟨ρ', ⟨b, rfl⟩, e⟩ := lp
      rw [eg] at e
      refine (comp_ok (xs := (items t).map .int) (ρ1 := envJ A0 s ts W ps (.fr (.int k)) J (.fr (.int a))) (evIt_e (ev_call1 (child rfl rfl ht) (ti_ok n t hn (by omega))) rfl) e).trans ?_
      simp [unlockT, lockT, MP.back, back1]
    · rintro y hy acc ρ ⟨b, rfl⟩ hl
      obtain ⟨c, _, rfl⟩ := List.mem_map.mp hy
      refine ⟨_, ⟨.fr (.int c), rfl⟩, TF_ok (ρ1 := [A0, W, .fr (.lst (ps.map pD)), .fr (.tup [.str (word s), .tup (ts.map enc)]), .fr (.int k), J, .fr (.int a), .fr (.int c)]) (by simp [Tg.asg]) (emit_ok (d := pD (a, c)) (by simp [ev, evs, R.bind, R.of, MP.Env.fz, lim, pD]) ?_)⟩
      have : (g (.int c)).length = 1 := rfl
      omega
  refine seq_one ((set_nm (d := .lst ((ps ++ (items t).map fun b => (a, b)).map pD)) (ev_bin (ev_var rfl) (by rw [ev]; exact cp) ?_) (by simp)).trans rfl)
  rw [List.map_append]
  exact cat_lst (by rw [List.length_map, List.length_map, List.length_map]; unfold lim at hl ⊢; omega)
theorem j2_ok (ps : List (Int × Int)) (k j : Nat) (a0 : Sl) {t u : Tr} (ht : ts[k]? = some t) (hu : ts[j]? = some u) (hn : sizeL ts ≤ n) (h1 : sizeL ts ≤ 23) (hl : ps.length + 1000 ≤ lim) :
    ∃ a1, exSs ⟨pr.cf n, pr.gl⟩ f_law_joined_b2 (envJ A0 s ts W ps (.fr (.int k)) (.fr (.int j)) a0) = .nx (envJ A0 s ts W (ps ++ (items u).flatMap fun a => (items t).map fun b => (a, b)) (.fr (.int k)) (.fr (.int j)) a1) := by
  have st := sizeL_mem (List.mem_of_getElem? ht)
  have su := sizeL_mem (List.mem_of_getElem? hu)
  have lp := forL_inv (f := fun x ρ => SR.ofO ((Tg.nm 6).asg x ρ) fun ρ => exSs ⟨pr.cf n, pr.gl⟩ f_law_joined_b1 ρ)
    (fun i ρ => ∃ a, ρ = envJ A0 s ts W (ps ++ ((items u).take i).flatMap fun a => (items t).map fun b => (a, b)) (.fr (.int k)) (.fr (.int j)) a) ((items u).map .int) 0 (envJ A0 s ts W ps (.fr (.int k)) (.fr (.int j)) a0) ?_ ⟨a0, by simp⟩
  · obtain ⟨ρ', ⟨a, rfl⟩, e⟩ := lp
    rw [List.length_map, Nat.zero_add, List.take_length] at e
    exact ⟨a, seq_one ((for_ok (xs := (items u).map .int) (ρ1 := envJ A0 s ts W ps (.fr (.int k)) (.fr (.int j)) a0) (evIt_e (ev_call1 (child rfl rfl hu) (ti_ok n u (by omega) (by omega))) rfl) e).trans rfl)⟩
  · rintro i x ρ hx ⟨a, rfl⟩
    rw [List.getElem?_map, Option.map_eq_some_iff] at hx
    obtain ⟨c, hc, rfl⟩ := hx
    rw [Nat.zero_add]
    refine ⟨_, ⟨.fr (.int c), rfl⟩, ?_⟩
    have b := j1_ok n A0 W s ts (ps ++ ((items u).take i).flatMap fun a => (items t).map fun b => (a, b)) k (.fr (.int j)) c ht (by omega) (by omega) (by
      have := flat_le (xs := (items u).take i) (f := fun a => (items t).map fun b => (a, b)) (B := 23) fun _ _ => by rw [List.length_map]; have := items_size t; omega
      have q : ((items u).take i).length ≤ 23 := by have := items_size u; rw [List.length_take]; omega
      rw [List.length_append]
      have := Nat.mul_le_mul_right 23 q
      omega)
    refine Eq.trans ?_ (b.trans ?_)
    · rfl
    · rw [take_succ_get hc, List.flatMap_append, ← List.append_assoc]
      simp
end
def row (ls : List (List Int)) (k i : Nat) : List (Int × Int) := (ls.getD i []).flatMap fun a => (ls.getD k []).map fun b => (a, b)
def rows (ls : List (List Int)) (k : Nat) : List (Int × Int) := (List.range k).flatMap (row ls k)
theorem cross_rows (ls : List (List Int)) : cross ls = (List.range ls.length).flatMap (rows ls) := rfl
theorem getD_items {ts : List Tr} {i : Nat} {t : Tr} (h : ts[i]? = some t) : (ts.map items).getD i [] = items t := by
  rw [List.getD_eq_getElem?_getD, List.getElem?_map, h]; rfl
theorem row_le {ls : List (List Int)} (h2 : ∀ l ∈ ls, l.length ≤ 23) (k i : Nat) : (row ls k i).length ≤ 529 := by
  have get : ∀ i, (ls.getD i []).length ≤ 23 := fun i => by
    rw [List.getD_eq_getElem?_getD]
    cases h : ls[i]? with
    | none => simp
    | some l => exact h2 l (List.mem_of_getElem? h)
  refine Nat.le_trans (flat_le (B := 23) fun a _ => ?_) (by have := get i; omega)
  rw [List.length_map]; exact get k
theorem rows_le {ls : List (List Int)} (h2 : ∀ l ∈ ls, l.length ≤ 23) (k : Nat) : (rows ls k).length ≤ k * 529 := by
  have := flat_le (xs := List.range k) (f := row ls k) (B := 529) fun i _ => row_le h2 k i
  rw [List.length_range] at this
  exact this
section
variable (n : Nat) (A0 : Sl) (s : Bool) (ts : List Tr)
theorem j3_ok (ws : List Tr) (ps : List (Int × Int)) (k : Nat) (J a0 : Sl) {t : Tr} (ht : ts[k]? = some t) (hn : sizeL ts ≤ n) (h1 : sizeL ts ≤ 23) (hw : ws.length ≤ 1000) (hl : ps.length + 20000 ≤ lim) :
    ∃ J' a', exSs ⟨pr.cf n, pr.gl⟩ f_law_joined_b3 (envJ A0 s ts (.ow (.lst (ws.map enc))) ps (.fr (.int k)) J a0) = .nx (envJ A0 s ts (.ow (.lst ((ws ++ [t]).map enc))) (ps ++ if s then rows (ts.map items) k else []) (.fr (.int k)) J' a') := by
  have hk := (List.getElem?_eq_some_iff.mp ht).1
  have hk2 : k ≤ 23 := by have := len_sizeL ts; omega
  have im := itemsl_mem (ts := ts) (by omega)
  have s1 : exS ⟨pr.cf n, pr.gl⟩ (.app 1 (.ix (.e (.ix (.e (.var 3)) (.e (.con (.int 1))))) (.e (.var 4)))) (envJ A0 s ts (.ow (.lst (ws.map enc))) ps (.fr (.int k)) J a0) = .nx (envJ A0 s ts (.ow (.lst ((ws ++ [t]).map enc))) ps (.fr (.int k)) J a0) := by
    refine (app_okL (child rfl rfl ht) rfl (by rw [List.length_map]; unfold lim; omega)).trans ?_
    rw [List.map_append]
    rfl
  have tst : ev ⟨pr.cf n, pr.gl⟩ (.cmp .eq (.e (.ix (.e (.var 3)) (.e (.con (.int 0))))) (.e (.con (.str "stacked")))) (envJ A0 s ts (.ow (.lst ((ws ++ [t]).map enc))) ps (.fr (.int k)) J a0) = .ok (.bl s) (envJ A0 s ts (.ow (.lst ((ws ++ [t]).map enc))) ps (.fr (.int k)) J a0) := by
    simp [envJ, eq_stk, Fn.run, exSs, exS, exH, SR.ofR, SR.ofO, ev, evs, evT, evTs, evO, evP, evIt, evIfs, evCls, evS, R.bind, R.of, R.mapEnv, R.noX, SR.mapEnv, MP.Env.fz, MP.Env.bo, MP.Env.own, T.res, resL, biD, lenD, cmpD, cltD, cleD, cgtD, cgeD, ixD, slD, revD, isiD, binD, addD, subD, mulD, modD, fdivD, powD, intC, tupC, atI, ixN, lockT, unlockT, lock, unlock, MP.wipe, MP.back, back1, Tg.asg, Tg.asgs, setSl, appR, extR, popR, itemsD, listC, emit, smallI, lim]
  cases s with
  | false =>
    refine ⟨J, a0, seq_nx s1 (seq_one (iff_F tst ?_))⟩
    rw [exSs]
    simp
  | true =>
    have lp := forL_inv (f := fun x ρ => SR.ofO ((Tg.nm 5).asg x ρ) fun ρ => exSs ⟨pr.cf n, pr.gl⟩ f_law_joined_b2 ρ)
      (fun i ρ => ∃ J a, ρ = envJ A0 true ts (.ow (.lst ((ws ++ [t]).map enc))) (ps ++ (List.range i).flatMap (row (ts.map items) k)) (.fr (.int k)) J a) (rng 0 (k : Int)) 0 (envJ A0 true ts (.ow (.lst ((ws ++ [t]).map enc))) ps (.fr (.int k)) J a0) ?_ ⟨J, a0, by simp⟩
    · obtain ⟨ρ', ⟨J', a', rfl⟩, e⟩ := lp
      have hlen : (rng 0 (k : Int)).length = k := by rw [rng_len']; simp
      rw [hlen, Nat.zero_add] at e
      refine ⟨J', a', seq_nx s1 (seq_one (iff_T tst (seq_one ((for_ok (evIt_r1 (ev_var rfl) (smallI_nat k (by omega))) e).trans rfl))))⟩
    · rintro i x ρ hx ⟨J, a, rfl⟩
      obtain ⟨rfl, hi⟩ := rng_get hx
      have hi : i < k := by simpa using hi
      have hu : ts[i]? = some ts[i] := List.getElem?_eq_getElem (by omega)
      generalize ts[i] = u at hu
      have rl := flat_le (xs := List.range i) (f := row (ts.map items) k) (B := 529) fun i _ => row_le im k i
      rw [List.length_range] at rl
      obtain ⟨a', e⟩ := j2_ok n A0 (.ow (.lst ((ws ++ [t]).map enc))) true ts (ps ++ (List.range i).flatMap (row (ts.map items) k)) k i a ht hu hn h1 (by rw [List.length_append]; omega)
      rw [Nat.zero_add, Int.zero_add]
      refine ⟨_, ⟨.fr (.int i), a', rfl⟩, Eq.trans ?_ (e.trans ?_)⟩
      · rfl
      · rw [List.range_succ, List.flatMap_append, ← List.append_assoc, List.flatMap_singleton]
        unfold row
        rw [getD_items ht, getD_items hu]
theorem j4_ok (ws : List Tr) (ps : List (Int × Int)) (H0 k0 J a0 : Sl) (hn : sizeL ts ≤ n) (h1 : sizeL ts ≤ 23) (hw : ws.length ≤ 500) (hl : ps.length + 300000 ≤ lim) :
    ∃ k' J' a', exSs ⟨pr.cf n, pr.gl⟩ f_law_joined_b4 [A0, .ow (.lst ((ws ++ [Tr.node s ts]).map enc)), .fr (.lst (ps.map pD)), H0, k0, J, a0, .un] = .nx (envJ A0 s ts (.ow (.lst ((ws ++ ts).map enc))) (ps ++ if s then cross (ts.map items) else []) k' J' a') := by
  have hts := len_sizeL ts
  have im := itemsl_mem (ts := ts) (by omega)
  have s1 : exS ⟨pr.cf n, pr.gl⟩ (.set (.nm 3) (.pop 1 .none)) [A0, .ow (.lst ((ws ++ [Tr.node s ts]).map enc)), .fr (.lst (ps.map pD)), H0, k0, J, a0, .un] = .nx (envJ A0 s ts (.ow (.lst (ws.map enc))) ps k0 J a0) := by
    simp [envJ, enc, encL_map, Fn.run, exSs, exS, exH, SR.ofR, SR.ofO, ev, evs, evT, evTs, evO, evP, evIt, evIfs, evCls, evS, R.bind, R.of, R.mapEnv, R.noX, SR.mapEnv, MP.Env.fz, MP.Env.bo, MP.Env.own, T.res, resL, biD, lenD, cmpD, cltD, cleD, cgtD, cgeD, ixD, slD, revD, isiD, binD, addD, subD, mulD, modD, fdivD, powD, intC, tupC, atI, ixN, lockT, unlockT, lock, unlock, MP.wipe, MP.back, back1, Tg.asg, Tg.asgs, setSl, appR, extR, popR, itemsD, listC, emit, smallI, lim]
  have tst : ev ⟨pr.cf n, pr.gl⟩ (.cmp .ne (.e (.ix (.e (.var 3)) (.e (.con (.int 0))))) (.e (.con (.str "item")))) (envJ A0 s ts (.ow (.lst (ws.map enc))) ps k0 J a0) = .ok (.bl true) (envJ A0 s ts (.ow (.lst (ws.map enc))) ps k0 J a0) := by
    simp [envJ, eq_word, Fn.run, exSs, exS, exH, SR.ofR, SR.ofO, ev, evs, evT, evTs, evO, evP, evIt, evIfs, evCls, evS, R.bind, R.of, R.mapEnv, R.noX, SR.mapEnv, MP.Env.fz, MP.Env.bo, MP.Env.own, T.res, resL, biD, lenD, cmpD, cltD, cleD, cgtD, cgeD, ixD, slD, revD, isiD, binD, addD, subD, mulD, modD, fdivD, powD, intC, tupC, atI, ixN, lockT, unlockT, lock, unlock, MP.wipe, MP.back, back1, Tg.asg, Tg.asgs, setSl, appR, extR, popR, itemsD, listC, emit, smallI, lim]
  have lp := forL_inv (f := fun x ρ => SR.ofO ((Tg.nm 4).asg x ρ) fun ρ => exSs ⟨pr.cf n, pr.gl⟩ f_law_joined_b3 ρ)
    (fun i ρ => ∃ k J a, ρ = envJ A0 s ts (.ow (.lst ((ws ++ ts.take i).map enc))) (ps ++ if s then (List.range i).flatMap (rows (ts.map items)) else []) k J a) (rng 0 (ts.length : Int)) 0 (envJ A0 s ts (.ow (.lst (ws.map enc))) ps k0 J a0) ?_ ⟨k0, J, a0, by simp⟩
  · obtain ⟨ρ', ⟨k', J', a', rfl⟩, e⟩ := lp
    have hlen : (rng 0 (ts.length : Int)).length = ts.length := by rw [rng_len']; simp
    rw [hlen, Nat.zero_add, List.take_length] at e
    refine ⟨k', J', a', seq_nx s1 (seq_one (iff_T tst (seq_one ((for_ok (evIt_r1 (z := (ts.length : Int)) ?_ (smallI_nat ts.length (by omega))) e).trans ?_))))⟩
    · simp [envJ, Fn.run, exSs, exS, exH, SR.ofR, SR.ofO, ev, evs, evT, evTs, evO, evP, evIt, evIfs, evCls, evS, R.bind, R.of, R.mapEnv, R.noX, SR.mapEnv, MP.Env.fz, MP.Env.bo, MP.Env.own, T.res, resL, biD, lenD, cmpD, cltD, cleD, cgtD, cgeD, ixD, slD, revD, isiD, binD, addD, subD, mulD, modD, fdivD, powD, intC, tupC, atI, ixN, lockT, unlockT, lock, unlock, MP.wipe, MP.back, back1, Tg.asg, Tg.asgs, setSl, appR, extR, popR, itemsD, listC, emit, smallI, lim]
    · rw [cross_rows, List.length_map]
      rfl
  · rintro i x ρ hx ⟨k, J, a, rfl⟩
    obtain ⟨rfl, hi⟩ := rng_get hx
    have hi : i < ts.length := by simpa using hi
    have ht : ts[i]? = some ts[i] := List.getElem?_eq_getElem hi
    generalize ts[i] = t at ht
    have rl := flat_le (xs := List.range i) (f := rows (ts.map items)) (B := 12167) fun j hj => by
      have := rows_le im j
      have := List.mem_range.mp hj
      omega
    rw [List.length_range] at rl
    obtain ⟨J', a', e⟩ := j3_ok n A0 s ts (ws ++ ts.take i) (ps ++ if s then (List.range i).flatMap (rows (ts.map items)) else []) i J a ht hn h1 (by rw [List.length_append, List.length_take]; omega) (by
      rw [List.length_append]
      cases s
      · simp; omega
      · simp only [if_true]; omega)
    rw [Nat.zero_add, Int.zero_add]
    refine ⟨_, ⟨.fr (.int i), J', a', rfl⟩, Eq.trans ?_ (e.trans ?_)⟩
    · rfl
    · rw [take_succ_get ht, List.append_assoc]
      cases s
      · simp
      · rw [List.range_succ, List.flatMap_append, List.flatMap_singleton]
        simp
theorem j4_item (ws : List Tr) (i : Int) (ps : List (Int × Int)) (H0 k0 J a0 : Sl) :
    exSs ⟨pr.cf n, pr.gl⟩ f_law_joined_b4 [A0, .ow (.lst ((ws ++ [Tr.item i]).map enc)), .fr (.lst (ps.map pD)), H0, k0, J, a0, .un] = .nx [A0, .ow (.lst (ws.map enc)), .fr (.lst (ps.map pD)), .fr (enc (Tr.item i)), k0, J, a0, .un] := by
  refine seq_nx (ρ' := [A0, .ow (.lst (ws.map enc)), .fr (.lst (ps.map pD)), .fr (enc (Tr.item i)), k0, J, a0, .un]) (by simp [Fn.run, exSs, exS, exH, SR.ofR, SR.ofO, ev, evs, evT, evTs, evO, evP, evIt, evIfs, evCls, evS, R.bind, R.of, R.mapEnv, R.noX, SR.mapEnv, MP.Env.fz, MP.Env.bo, MP.Env.own, T.res, resL, biD, lenD, cmpD, cltD, cleD, cgtD, cgeD, ixD, slD, revD, isiD, binD, addD, subD, mulD, modD, fdivD, powD, intC, tupC, atI, ixN, lockT, unlockT, lock, unlock, MP.wipe, MP.back, back1, Tg.asg, Tg.asgs, setSl, appR, extR, popR, itemsD, listC, emit, smallI, lim]) (seq_one (iff_F (by simp [enc, eq_item, Fn.run, exSs, exS, exH, SR.ofR, SR.ofO, ev, evs, evT, evTs, evO, evP, evIt, evIfs, evCls, evS, R.bind, R.of, R.mapEnv, R.noX, SR.mapEnv, MP.Env.fz, MP.Env.bo, MP.Env.own, T.res, resL, biD, lenD, cmpD, cltD, cleD, cgtD, cgeD, ixD, slD, revD, isiD, binD, addD, subD, mulD, modD, fdivD, powD, intC, tupC, atI, ixN, lockT, unlockT, lock, unlock, MP.wipe, MP.back, back1, Tg.asg, Tg.asgs, setSl, appR, extR, popR, itemsD, listC, emit, smallI, lim]) ?_))
  rw [exSs]
theorem sizeL_append : ∀ a b : List Tr, sizeL (a ++ b) = sizeL a + sizeL b
  | [], b => by simp [sizeL]
  | t :: a, b => by rw [List.cons_append, sizeL, sizeL, sizeL_append a b]; omega
theorem pairsL_append : ∀ a b : List Tr, pairsL (a ++ b) = pairsL a ++ pairsL b
  | [], b => rfl
  | t :: a, b => by rw [List.cons_append, pairsL, pairsL, pairsL_append a b, List.append_assoc]
/-- the stack is emptied -/
theorem whl_ok : ∀ (m : Nat) (ws : List Tr) (z : Nat) (ps : List (Int × Int)) (H0 k0 J a0 : Sl), sizeL ws = z → z ≤ m → z ≤ n → z ≤ 23 → ps.length + 300000 * z + 300000 ≤ 16777216 →
    ∃ (ps' : List (Int × Int)) (H' k' J' a' : Sl), ps'.Perm (ps ++ pairsL ws) ∧ whileL (ev ⟨pr.cf n, pr.gl⟩ (.cmp .gt (.e (.bi .len [(.b 1)])) (.e (.con (.int 0))))) (exSs ⟨pr.cf n, pr.gl⟩ f_law_joined_b4) (m + 1) [A0, .ow (.lst (ws.map enc)), .fr (.lst (ps.map pD)), H0, k0, J, a0, .un] = .nx [A0, .ow (.lst []), .fr (.lst (ps'.map pD)), H', k', J', a', .un] := by
  intro m
  induction m with
  | zero =>
    intro ws z ps H0 k0 J a0 hz hm _ _ _
    cases ws with
    | nil => exact ⟨ps, H0, k0, J, a0, by simp [pairsL], by simp [whileL, Fn.run, exSs, exS, exH, SR.ofR, SR.ofO, ev, evs, evT, evTs, evO, evP, evIt, evIfs, evCls, evS, R.bind, R.of, R.mapEnv, R.noX, SR.mapEnv, MP.Env.fz, MP.Env.bo, MP.Env.own, T.res, resL, biD, lenD, cmpD, cltD, cleD, cgtD, cgeD, ixD, slD, revD, isiD, binD, addD, subD, mulD, modD, fdivD, powD, intC, tupC, atI, ixN, lockT, unlockT, lock, unlock, MP.wipe, MP.back, back1, Tg.asg, Tg.asgs, setSl, appR, extR, popR, itemsD, listC, emit, smallI, lim]⟩
    | cons t ws => have := size_pos t; rw [sizeL] at hz; omega
  | succ m ih =>
    intro ws z ps H0 k0 J a0 hz hm hn h23 hl
    rcases List.eq_nil_or_concat ws with rfl | ⟨ws', t, rfl⟩
    · exact ⟨ps, H0, k0, J, a0, by simp [pairsL], by simp [whileL, Fn.run, exSs, exS, exH, SR.ofR, SR.ofO, ev, evs, evT, evTs, evO, evP, evIt, evIfs, evCls, evS, R.bind, R.of, R.mapEnv, R.noX, SR.mapEnv, MP.Env.fz, MP.Env.bo, MP.Env.own, T.res, resL, biD, lenD, cmpD, cltD, cleD, cgtD, cgeD, ixD, slD, revD, isiD, binD, addD, subD, mulD, modD, fdivD, powD, intC, tupC, atI, ixN, lockT, unlockT, lock, unlock, MP.wipe, MP.back, back1, Tg.asg, Tg.asgs, setSl, appR, extR, popR, itemsD, listC, emit, smallI, lim]⟩
    · rw [List.concat_eq_append] at hz ⊢
      rw [sizeL_append, sizeL, sizeL, Nat.add_zero] at hz
      have tst : ev ⟨pr.cf n, pr.gl⟩ (.cmp .gt (.e (.bi .len [(.b 1)])) (.e (.con (.int 0)))) [A0, .ow (.lst ((ws' ++ [t]).map enc)), .fr (.lst (ps.map pD)), H0, k0, J, a0, .un] = .ok (.bl true) [A0, .ow (.lst ((ws' ++ [t]).map enc)), .fr (.lst (ps.map pD)), H0, k0, J, a0, .un] := by
        exact len_gt (c := 0) rfl (by simp)
      have wl := len_sizeL ws'
      cases t with
      | item i =>
        have b := j4_item n A0 ws' i ps H0 k0 J a0
        rw [size] at hz
        obtain ⟨ps', H', k', J', a', p, e⟩ := ih ws' (sizeL ws') ps (.fr (enc (Tr.item i))) k0 J a0 rfl (by omega) (by omega) (by omega) (by omega)
        refine ⟨ps', H', k', J', a', ?_, ?_⟩
        · rw [pairsL_append]; simpa [pairsL, pairs] using p
        · exact whl_T tst b e
      | node s ts =>
        rw [size] at hz
        obtain ⟨k1, J1, a1, b⟩ := j4_ok n A0 s ts ws' ps H0 k0 J a0 (by omega) (by omega) (by omega) (by show _ ≤ 16777216; omega)
        have cl := cross_le (ls := ts.map items) (by rw [List.length_map]; have := len_sizeL ts; omega) (itemsl_mem (by omega))
        obtain ⟨ps', H', k', J', a', p, e⟩ := ih (ws' ++ ts) (sizeL ws' + sizeL ts) (ps ++ if s then cross (ts.map items) else []) _ k1 J1 a1 (sizeL_append _ _) (by omega) (by omega) (by omega) (by
          generalize hq : sizeL ws' + sizeL ts = q
          rw [List.length_append]
          cases s
          · simp; omega
          · simp only [if_true]; omega)
        refine ⟨ps', H', k', J', a', ?_, ?_⟩
        · refine p.trans ?_
          rw [pairsL_append, pairsL_append, pairsL, pairsL, pairs, List.append_nil, List.append_assoc]
          refine List.Perm.append_left ps ?_
          rw [← List.append_assoc (pairsL ws')]
          exact List.perm_append_comm
        · exact whl_T tst b e
end
theorem c_lj (n : Nat) (ds : List D) : pr.cf (n+1) "_law_joined" ds = f_law_joined.run ⟨pr.cf n, pr.gl⟩ ds := cf_eq rfl n ds
theorem sort_perm {ps qs : List (Int × Int)} (h : ps.Perm qs) : sortB leP ps = sortB leP qs :=
  List.Perm.eq_of_pairwise (le := fun a b : Int × Int => leP a b = true) (fun a b _ _ h1 h2 => leP_anti a b h1 h2) (sortB_pw leP_tot leP_tr ps) (sortB_pw leP_tot leP_tr qs) (((sortB_perm ps).trans h).trans (sortB_perm qs).symm)
theorem law_joined_ok (n : Nat) (t : Tr) (h : size t ≤ n) (h1 : size t ≤ 23) : pr.cf (n+1) "_law_joined" [enc t] = .ok (answer t) := by
  obtain ⟨ps, H', k', J', a', p, e⟩ := whl_ok n (.fr (enc t)) 999999 [t] (size t) [] .un .un .un .un (by simp [sizeL]) (by omega) h h1 (by simp; omega)
  have p : ps.Perm (pairs t) := by simpa [pairsL] using p
  rw [c_lj]
  refine run_ret rfl (ρ' := [.fr (enc t), .ow (.lst []), .fr (.lst (ps.map pD)), H', k', J', a', .un]) ?_
  show exSs _ [_, _, _, _] [.fr (enc t), .un, .un, .un, .un, .un, .un, .un] = _
  refine seq_nx (ρ' := [.fr (enc t), .ow (.lst [enc t]), .un, .un, .un, .un, .un, .un]) (by simp [Fn.run, exSs, exS, exH, SR.ofR, SR.ofO, ev, evs, evT, evTs, evO, evP, evIt, evIfs, evCls, evS, R.bind, R.of, R.mapEnv, R.noX, SR.mapEnv, MP.Env.fz, MP.Env.bo, MP.Env.own, T.res, resL, biD, lenD, cmpD, cltD, cleD, cgtD, cgeD, ixD, slD, revD, isiD, binD, addD, subD, mulD, modD, fdivD, powD, intC, tupC, atI, ixN, lockT, unlockT, lock, unlock, MP.wipe, MP.back, back1, Tg.asg, Tg.asgs, setSl, appR, extR, popR, itemsD, listC, emit, smallI, lim]) ?_
  refine seq_nx (ρ' := [.fr (enc t), .ow (.lst [enc t]), .fr (.lst []), .un, .un, .un, .un, .un]) (by simp [Fn.run, exSs, exS, exH, SR.ofR, SR.ofO, ev, evs, evT, evTs, evO, evP, evIt, evIfs, evCls, evS, R.bind, R.of, R.mapEnv, R.noX, SR.mapEnv, MP.Env.fz, MP.Env.bo, MP.Env.own, T.res, resL, biD, lenD, cmpD, cltD, cleD, cgtD, cgeD, ixD, slD, revD, isiD, binD, addD, subD, mulD, modD, fdivD, powD, intC, tupC, atI, ixN, lockT, unlockT, lock, unlock, MP.wipe, MP.back, back1, Tg.asg, Tg.asgs, setSl, appR, extR, popR, itemsD, listC, emit, smallI, lim]) ?_
  refine seq_nx (ρ' := [.fr (enc t), .ow (.lst []), .fr (.lst (ps.map pD)), H', k', J', a', .un]) ?_ ?_
  · rw [exS]
    exact e
  · refine seq_one ?_
    simp [ti_ok n t h (by omega), sortC_pairs, sort_perm p, answer, Fn.run, exSs, exS, exH, SR.ofR, SR.ofO, ev, evs, evT, evTs, evO, evP, evIt, evIfs, evCls, evS, R.bind, R.of, R.mapEnv, R.noX, SR.mapEnv, MP.Env.fz, MP.Env.bo, MP.Env.own, T.res, resL, biD, lenD, cmpD, cltD, cleD, cgtD, cgeD, ixD, slD, revD, isiD, binD, addD, subD, mulD, modD, fdivD, powD, intC, tupC, atI, ixN, lockT, unlockT, lock, unlock, MP.wipe, MP.back, back1, Tg.asg, Tg.asgs, setSl, appR, extR, popR, itemsD, listC, emit, smallI, lim]
/-! ### names -/
theorem c_names (n : Nat) (ds : List D) : pr.cf (n+1) "_law_names" ds = f_law_names.run ⟨pr.cf n, pr.gl⟩ ds := cf_eq rfl n ds
theorem draw_at {ds : List Int} (h : ds.length = 40) (z : Int) : ∃ d, atI (ds.map D.int) (z % 40) = some (.int d) := by
  have h1 := Int.emod_nonneg z (b := 40) (by decide)
  have h2 := Int.emod_lt_of_pos z (b := 40) (by decide)
  generalize z % 40 = y at h1 h2
  have hl : (ds.map D.int).length = 40 := by rw [List.length_map, h]
  unfold atI ixN
  rw [hl, if_pos h1, if_pos (show y < ((40 : Nat) : Int) by omega)]
  have : y.toNat < 40 := by omega
  refine ⟨ds[y.toNat]'(by omega), ?_⟩
  show (ds.map D.int)[y.toNat]? = _
  rw [List.getElem?_map, List.getElem?_eq_getElem (by omega)]
  rfl
def IdxE : E := .bin .mod (.e (.bi .int [(.e (.ix (.e (.var 0)) (.e (.bin .mod (.e (.bin .add (.e (.var 1)) (.e (.var 5)))) (.e (.bi .len [(.e (.var 0))]))))))])) (.e (.bi .len [(.b 3)]))
theorem idx_ok (cx : Cxt) {ds : List Int} (h : ds.length = 40) (A2 : Sl) (ls : List Int) (F : Sl) (k : Int) (hl : ls ≠ []) :
    ∃ z : Nat, z < ls.length ∧ ev cx IdxE [.fr (.lst (ds.map .int)), .fr (.int 3), A2, .ow (.lst (ls.map .int)), F, .fr (.int k)] = .ok (.int (z : Int)) [.fr (.lst (ds.map .int)), .fr (.int 3), A2, .ow (.lst (ls.map .int)), F, .fr (.int k)] := by
  obtain ⟨d, hd⟩ := draw_at h (3 + k)
  have hp : 0 < (ls.length : Int) := Int.natCast_pos.mpr (List.length_pos_iff.mpr hl)
  have h1 := Int.emod_nonneg d (b := (ls.length : Int)) (by omega)
  have h2 := Int.emod_lt_of_pos d hp
  refine ⟨(d % (ls.length : Int)).toNat, by omega, ?_⟩
  rw [Int.toNat_of_nonneg h1]
  generalize hq : (ls.length : Int) = q at hp h1 h2
  have e1 : ev cx (.ix (.e (.var 0)) (.e (.bin .mod (.e (.bin .add (.e (.var 1)) (.e (.var 5)))) (.e (.bi .len [(.e (.var 0))]))))) [.fr (.lst (ds.map .int)), .fr (.int 3), A2, .ow (.lst (ls.map .int)), F, .fr (.int k)] = .ok (.int d) [.fr (.lst (ds.map .int)), .fr (.int 3), A2, .ow (.lst (ls.map .int)), F, .fr (.int k)] := by
    refine ev_ix (y := .int ((3 + k) % 40)) (ev_var rfl) ?_ hd
    simp [h, Fn.run, exSs, exS, exH, SR.ofR, SR.ofO, ev, evs, evT, evTs, evO, evP, evIt, evIfs, evCls, evS, R.bind, R.of, R.mapEnv, R.noX, SR.mapEnv, MP.Env.fz, MP.Env.bo, MP.Env.own, T.res, resL, biD, lenD, cmpD, cltD, cleD, cgtD, cgeD, ixD, slD, revD, isiD, binD, addD, subD, mulD, modD, fdivD, powD, intC, tupC, atI, ixN, lockT, unlockT, lock, unlock, MP.wipe, MP.back, back1, Tg.asg, Tg.asgs, setSl, appR, extR, popR, itemsD, listC, emit, smallI, lim]
  have e2 : ev cx (.bi .len [(.b 3)]) [.fr (.lst (ds.map .int)), .fr (.int 3), A2, .ow (.lst (ls.map .int)), F, .fr (.int k)] = .ok (.int q) [.fr (.lst (ds.map .int)), .fr (.int 3), A2, .ow (.lst (ls.map .int)), F, .fr (.int k)] := by
    rw [← hq]
    simp [Fn.run, exSs, exS, exH, SR.ofR, SR.ofO, ev, evs, evT, evTs, evO, evP, evIt, evIfs, evCls, evS, R.bind, R.of, R.mapEnv, R.noX, SR.mapEnv, MP.Env.fz, MP.Env.bo, MP.Env.own, T.res, resL, biD, lenD, cmpD, cltD, cleD, cgtD, cgeD, ixD, slD, revD, isiD, binD, addD, subD, mulD, modD, fdivD, powD, intC, tupC, atI, ixN, lockT, unlockT, lock, unlock, MP.wipe, MP.back, back1, Tg.asg, Tg.asgs, setSl, appR, extR, popR, itemsD, listC, emit, smallI, lim]
  refine ev_bin (x := .int d) ?_ e2 ?_
  · exact ev_bi1 e1 rfl
  · show (if 0 < q then some (D.int (d % q)) else none) = _
    rw [if_pos hp]
theorem names_step (cx : Cxt) {ds : List Int} (h : ds.length = 40) (A2 : Sl) (ls fs : List Int) (k : Int) (hl : ls ≠ []) (h8 : ls.length ≤ 100) (h9 : fs.length ≤ 100) :
    ∃ (ls' fs' : List Int), ls'.length + 1 = ls.length ∧ fs'.length = fs.length + 1 ∧ exSs cx f_law_names_b1 [.fr (.lst (ds.map .int)), .fr (.int 3), A2, .ow (.lst (ls.map .int)), .fr (.tup (fs.map .int)), .fr (.int k)] = .nx [.fr (.lst (ds.map .int)), .fr (.int 3), A2, .ow (.lst (ls'.map .int)), .fr (.tup (fs'.map .int)), .fr (.int k)] := by
  obtain ⟨z, hz, e⟩ := idx_ok cx h A2 ls (.fr (.tup (fs.map .int))) k hl
  have ez : ls[z]? = some ls[z] := List.getElem?_eq_getElem hz
  generalize ls[z] = x at ez
  have ix : ixN (ls.map D.int).length (z : Int) = some z := by
    unfold ixN
    rw [if_pos (Int.natCast_nonneg z), if_pos (by rw [List.length_map]; exact Int.ofNat_lt.mpr hz)]
    rfl
  have pp : ev cx (.pop 3 (.some IdxE)) [.fr (.lst (ds.map .int)), .fr (.int 3), A2, .ow (.lst (ls.map .int)), .fr (.tup (fs.map .int)), .fr (.int k)] = .ok (.int x) [.fr (.lst (ds.map .int)), .fr (.int 3), A2, .ow (.lst ((ls.eraseIdx z).map .int)), .fr (.tup (fs.map .int)), .fr (.int k)] := by
    refine (pop_some e rfl (by rw [List.length_map]; unfold lim; omega) ix (by rw [List.getElem?_map, ez]; rfl)).trans ?_
    show R.ok (D.int x) [_, _, _, .ow (.lst ((ls.map D.int).eraseIdx z)), _, _] = _
    rw [erase_map]
  refine ⟨ls.eraseIdx z, fs ++ [x], ?_, by simp, seq_one ((set_nm' (d := .tup ((fs ++ [x]).map .int)) (ρ1 := [.fr (.lst (ds.map .int)), .fr (.int 3), A2, .ow (.lst ((ls.eraseIdx z).map .int)), .fr (.tup (fs.map .int)), .fr (.int k)]) ?_ (by show 4 < 6; decide)).trans rfl)⟩
  · rw [List.length_eraseIdx_of_lt hz]; omega
  · refine ev_bin (ev_var rfl) (y := .tup [.int x]) ?_ ?_
    · exact ev_tup1 pp
    · show (if (fs.map D.int).length + 1 ≤ lim then some (D.tup (fs.map D.int ++ [.int x])) else none) = _
      rw [if_pos (by rw [List.length_map]; unfold lim; omega), List.map_append]
      rfl
theorem names_ok (n : Nat) {ds : List Int} (h : ds.length = 40) (k : Nat) (hk : k ≤ 8) : ∃ ns : List Int, ns.length = k ∧ pr.cf (n+1) "_law_names" [.lst (ds.map .int), .int 3, .int (k : Int)] = .ok (.tup (ns.map .int)) := by
  rw [c_names]
  have hr : rng 0 (k : Int) = ((List.range k).map fun (i : Nat) => (i : Int)).map D.int := by
    unfold rng
    rw [List.map_map]
    simp
  have lp := forL_inv (f := fun x ρ => SR.ofO ((Tg.nm 5).asg x ρ) fun ρ => exSs ⟨pr.cf n, pr.gl⟩ f_law_names_b1 ρ)
    (fun i ρ => ∃ (ls fs : List Int) (K : Sl), i ≤ k ∧ ls.length + i = k ∧ fs.length = i ∧ ρ = [.fr (.lst (ds.map .int)), .fr (.int 3), .fr (.int (k : Int)), .ow (.lst (ls.map .int)), .fr (.tup (fs.map .int)), K]) (rng 0 (k : Int)) 0 [.fr (.lst (ds.map .int)), .fr (.int 3), .fr (.int (k : Int)), .ow (.lst (rng 0 (k : Int))), .fr (.tup []), .un] ?_ ⟨(List.range k).map fun (i : Nat) => (i : Int), [], .un, by omega, by simp, rfl, by rw [hr]; rfl⟩
  · obtain ⟨ρ', ⟨ls, fs, K, q0, q1, q2, rfl⟩, e⟩ := lp
    have hlen : (rng 0 (k : Int)).length = k := by rw [rng_len']; simp
    rw [hlen, Nat.zero_add] at q2
    refine ⟨fs, q2, run_ret rfl (ρ' := [.fr (.lst (ds.map .int)), .fr (.int 3), .fr (.int (k : Int)), .ow (.lst (ls.map .int)), .fr (.tup (fs.map .int)), K]) ?_⟩
    show exSs _ [_, _, _, _] [.fr (.lst (ds.map .int)), .fr (.int 3), .fr (.int (k : Int)), .un, .un, .un] = _
    have ei : ∀ (cx : Cxt) (ρ : MP.Env), ρ.fz 2 = some (.int (k : Int)) → evIt cx (.r1 (.var 2)) ρ = .ok (rng 0 (k : Int)) ρ := fun cx ρ h => evIt_r1 (ev_var h) (smallI_nat k (by omega))
    refine seq_nx (ρ' := [.fr (.lst (ds.map .int)), .fr (.int 3), .fr (.int (k : Int)), .ow (.lst (rng 0 (k : Int))), .un, .un]) ?_ ?_
    · rw [exS, evP, ei _ _ rfl]
      show SR.ofR (if (rng 0 (k : Int)).length ≤ lim then R.ok (D.lst (rng 0 (k : Int))) _ else .fail) _ = _
      rw [if_pos (by rw [hlen]; unfold lim; omega)]
      rfl
    · refine seq_nx (ρ' := [.fr (.lst (ds.map .int)), .fr (.int 3), .fr (.int (k : Int)), .ow (.lst (rng 0 (k : Int))), .fr (.tup []), .un]) (by simp [Fn.run, exSs, exS, exH, SR.ofR, SR.ofO, ev, evs, evT, evTs, evO, evP, evIt, evIfs, evCls, evS, R.bind, R.of, R.mapEnv, R.noX, SR.mapEnv, MP.Env.fz, MP.Env.bo, MP.Env.own, T.res, resL, biD, lenD, cmpD, cltD, cleD, cgtD, cgeD, ixD, slD, revD, isiD, binD, addD, subD, mulD, modD, fdivD, powD, intC, tupC, atI, ixN, lockT, unlockT, lock, unlock, MP.wipe, MP.back, back1, Tg.asg, Tg.asgs, setSl, appR, extR, popR, itemsD, listC, emit, smallI, lim]) ?_
      refine seq_nx ((for_ok (ei _ _ rfl) e).trans rfl) ?_
      exact seq_one (by rw [exS, ev_var (d := .tup (fs.map .int)) rfl]; rfl)
  · rintro j x ρ hx ⟨ls, fs, K, q0, q1, q2, rfl⟩
    obtain ⟨rfl, hj⟩ := rng_get hx
    have hj : j < k := by simpa using hj
    rw [Nat.zero_add] at q0 q1 q2
    obtain ⟨ls', fs', w1, w2, e⟩ := names_step ⟨pr.cf n, pr.gl⟩ h (.fr (.int (k : Int))) ls fs (0 + (j : Int)) (fun z => by rw [z] at q1; simp at q1; omega) (by omega) (by omega)
    exact ⟨_, ⟨ls', fs', .fr (.int (0 + (j : Int))), by omega, by omega, by omega, rfl⟩, e⟩
/-! ### some tree -/
def flatOf (s : Bool) : Tr → List Tr
  | .item i => [.item i]
  | .node s' us => if s' = s then us else [.node s' us]
theorem flatOf_size (s : Bool) (t : Tr) : sizeL (flatOf s t) ≤ size t := by
  cases t with
  | item i => simp [flatOf, sizeL, size]
  | node s' us =>
    simp only [flatOf]
    by_cases h : s' = s
    · rw [if_pos h, size]; omega
    · rw [if_neg h]; simp [sizeL, size]
theorem flats_size (s : Bool) : ∀ ts : List Tr, sizeL (ts.flatMap (flatOf s)) ≤ sizeL ts
  | [] => by simp [sizeL]
  | t :: ts => by
    have := flats_size s ts
    have := flatOf_size s t
    rw [List.flatMap_cons, sizeL_append, sizeL]
    omega
theorem eq_iw (s : Bool) : eqD (.str "item") (.str (word s)) = some false := by cases s <;> decide +kernel
theorem eq_ww (s s' : Bool) : eqD (.str (word s')) (.str (word s)) = some (decide (s' = s)) := by cases s <;> cases s' <;> decide +kernel
section
variable (cx : Cxt) (A0 A1 A2 A3 A4 A5 A6 A7 : Sl)
theorem f1_ok (s : Bool) (L : Sl) (fl : List Tr) (t : Tr) (h : fl.length + size t ≤ 1000) :
    exSs cx f_law_some_tree_b1 [A0, A1, A2, A3, A4, A5, A6, A7, .fr (.str (word s)), L, .ow (.lst (fl.map enc)), .fr (enc t)] = .nx [A0, A1, A2, A3, A4, A5, A6, A7, .fr (.str (word s)), L, .ow (.lst ((fl ++ flatOf s t).map enc)), .fr (enc t)] := by
  cases t with
  | item i =>
    refine seq_one (iff_F ?_ (seq_one ((app_okL (d := enc (.item i)) (ev_var rfl) rfl ?_).trans ?_)))
    · simp [enc, eq_iw, Fn.run, exSs, exS, exH, SR.ofR, SR.ofO, ev, evs, evT, evTs, evO, evP, evIt, evIfs, evCls, evS, R.bind, R.of, R.mapEnv, R.noX, SR.mapEnv, MP.Env.fz, MP.Env.bo, MP.Env.own, T.res, resL, biD, lenD, cmpD, cltD, cleD, cgtD, cgeD, ixD, slD, revD, isiD, binD, addD, subD, mulD, modD, fdivD, powD, intC, tupC, atI, ixN, lockT, unlockT, lock, unlock, MP.wipe, MP.back, back1, Tg.asg, Tg.asgs, setSl, appR, extR, popR, itemsD, listC, emit, smallI, lim]
    · rw [List.length_map]; unfold lim; omega
    · rw [List.map_append]; rfl
  | node s' us =>
    rw [size] at h
    have hu := len_sizeL us
    by_cases hs : s' = s
    · subst hs
      refine seq_one (iff_T ?_ (seq_one ((cat_own (ys := us.map enc) rfl ?_ ?_ (by show 10 < 12; decide)).trans ?_)))
      · simp [enc, eq_ww, Fn.run, exSs, exS, exH, SR.ofR, SR.ofO, ev, evs, evT, evTs, evO, evP, evIt, evIfs, evCls, evS, R.bind, R.of, R.mapEnv, R.noX, SR.mapEnv, MP.Env.fz, MP.Env.bo, MP.Env.own, T.res, resL, biD, lenD, cmpD, cltD, cleD, cgtD, cgeD, ixD, slD, revD, isiD, binD, addD, subD, mulD, modD, fdivD, powD, intC, tupC, atI, ixN, lockT, unlockT, lock, unlock, MP.wipe, MP.back, back1, Tg.asg, Tg.asgs, setSl, appR, extR, popR, itemsD, listC, emit, smallI, lim]
      · simp [enc, encL_map, Fn.run, exSs, exS, exH, SR.ofR, SR.ofO, ev, evs, evT, evTs, evO, evP, evIt, evIfs, evCls, evS, R.bind, R.of, R.mapEnv, R.noX, SR.mapEnv, MP.Env.fz, MP.Env.bo, MP.Env.own, T.res, resL, biD, lenD, cmpD, cltD, cleD, cgtD, cgeD, ixD, slD, revD, isiD, binD, addD, subD, mulD, modD, fdivD, powD, intC, tupC, atI, ixN, lockT, unlockT, lock, unlock, MP.wipe, MP.back, back1, Tg.asg, Tg.asgs, setSl, appR, extR, popR, itemsD, listC, emit, smallI, lim]
      · rw [List.length_map, List.length_map]; unfold lim; omega
      · rw [flatOf, if_pos rfl, List.map_append]; rfl
    · refine seq_one (iff_F ?_ (seq_one ((app_okL (d := enc (.node s' us)) (ev_var rfl) rfl ?_).trans ?_)))
      · simp [enc, eq_ww, hs, Fn.run, exSs, exS, exH, SR.ofR, SR.ofO, ev, evs, evT, evTs, evO, evP, evIt, evIfs, evCls, evS, R.bind, R.of, R.mapEnv, R.noX, SR.mapEnv, MP.Env.fz, MP.Env.bo, MP.Env.own, T.res, resL, biD, lenD, cmpD, cltD, cleD, cgtD, cgeD, ixD, slD, revD, isiD, binD, addD, subD, mulD, modD, fdivD, powD, intC, tupC, atI, ixN, lockT, unlockT, lock, unlock, MP.wipe, MP.back, back1, Tg.asg, Tg.asgs, setSl, appR, extR, popR, itemsD, listC, emit, smallI, lim]
      · rw [List.length_map]; unfold lim; omega
      · rw [flatOf, if_neg hs, List.map_append]; rfl
theorem f1_loop (s : Bool) (lot : List Tr) (p : Sl) (h : sizeL lot ≤ 500) :
    ∃ p', forL (fun x ρ => SR.ofO ((Tg.nm 11).asg x ρ) fun ρ => exSs cx f_law_some_tree_b1 ρ) (lot.map enc) [A0, A1, A2, A3, A4, A5, A6, A7, .fr (.str (word s)), .fr (.lst (lot.map enc)), .ow (.lst []), p] = .nx [A0, A1, A2, A3, A4, A5, A6, A7, .fr (.str (word s)), .fr (.lst (lot.map enc)), .ow (.lst ((lot.flatMap (flatOf s)).map enc)), p'] := by
  have lp := forL_inv (f := fun x ρ => SR.ofO ((Tg.nm 11).asg x ρ) fun ρ => exSs cx f_law_some_tree_b1 ρ)
    (fun i ρ => ∃ p, ρ = [A0, A1, A2, A3, A4, A5, A6, A7, .fr (.str (word s)), .fr (.lst (lot.map enc)), .ow (.lst (((lot.take i).flatMap (flatOf s)).map enc)), p]) (lot.map enc) 0 [A0, A1, A2, A3, A4, A5, A6, A7, .fr (.str (word s)), .fr (.lst (lot.map enc)), .ow (.lst []), p] ?_ ⟨p, by simp⟩
  · obtain ⟨ρ', ⟨p', rfl⟩, e⟩ := lp
    rw [List.length_map, Nat.zero_add, List.take_length] at e
    exact ⟨p', e⟩
  · rintro i x ρ hx ⟨p, rfl⟩
    rw [List.getElem?_map, Option.map_eq_some_iff] at hx
    obtain ⟨t, ht, rfl⟩ := hx
    have st := sizeL_mem (List.mem_of_getElem? ht)
    have fs := flats_size s (lot.take i)
    have tk := sizeL_take lot i
    have fl := len_sizeL ((lot.take i).flatMap (flatOf s))
    rw [Nat.zero_add]
    refine ⟨_, ⟨.fr (enc t), rfl⟩, Eq.trans ?_ ((f1_ok cx A0 A1 A2 A3 A4 A5 A6 A7 s (.fr (.lst (lot.map enc))) ((lot.take i).flatMap (flatOf s)) t (by omega)).trans ?_)⟩
    · rfl
    · rw [take_succ_get ht, List.flatMap_append, List.flatMap_singleton]
end
theorem split3 (ts : List Tr) {i j : Nat} (h : i ≤ j) : sizeL (ts.take i) + sizeL ((ts.drop i).take (j - i)) + sizeL (ts.drop j) = sizeL ts := by
  have e : ts = ts.take i ++ ((ts.drop i).take (j - i) ++ ts.drop j) := by
    have : ts.drop j = (ts.drop i).drop (j - i) := by rw [List.drop_drop]; congr 1; omega
    rw [this, List.take_append_drop, List.take_append_drop]
  have := congrArg sizeL e
  rw [sizeL_append, sizeL_append] at this
  omega
theorem cut_map {α β : Type} (f : α → β) (xs : List α) (lo hi : Option Int) : cut (xs.map f) lo hi = (cut xs lo hi).map f := by
  unfold cut
  rw [List.length_map, List.map_take, List.map_drop]
theorem len_cut {α : Type} (xs : List α) (lo hi : Option Int) : (cut xs lo hi).length ≤ xs.length := by
  unfold cut
  rw [List.length_take, List.length_drop]
  omega
/-- one turn -/
theorem f2_ok (cx : Cxt) (A1 A2 : Sl) {ds : List Int} (tI d1 d2 : Int) (h1 : atI (ds.map D.int) (12 + tI) = some (.int d1)) (h2 : atI (ds.map D.int) (21 + tI) = some (.int d2)) (ts : List Tr) (hs : sizeL ts ≤ 400) (h0 : ts ≠ []) (A5 A6 A7 A8 A9 A10 A11 : Sl) :
    ∃ (ts' : List Tr) (B6 B7 B8 B9 B10 B11 : Sl), ts' ≠ [] ∧ (sizeL ts' ≤ sizeL ts + 1 ∧ ts'.length ≤ ts.length) ∧ exSs cx f_law_some_tree_b2 [.fr (.lst (ds.map .int)), A1, A2, .fr (.lst (ts.map enc)), .fr (.int tI), A5, A6, A7, A8, A9, A10, A11] = .nx [.fr (.lst (ds.map .int)), A1, A2, .fr (.lst (ts'.map enc)), .fr (.int tI), A5, B6, B7, B8, B9, B10, B11] := by
  have e_len : ∀ {ρ : MP.Env}, ρ.fz 3 = some (.lst (ts.map enc)) → ev cx (.bi .len [(.e (.var 3))]) ρ = .ok (.int (ts.length : Int)) ρ := fun h => ev_bi1 (ev_var h) (by
    show some (D.int ((ts.map enc).length : Int)) = _
    rw [List.length_map])
  by_cases hl : 1 < ts.length
  · have hli : (1 : Int) < (ts.length : Int) := Int.ofNat_lt.mpr hl
    have a0 : 0 ≤ d1 % ((ts.length : Int) - 1) := Int.emod_nonneg _ (by omega)
    have a1 : d1 % ((ts.length : Int) - 1) < (ts.length : Int) - 1 := Int.emod_lt_of_pos _ (by omega)
    have z0 : 2 ≤ 2 + d1 / 8 % 3 := by have := Int.emod_nonneg (d1 / 8) (b := 3) (by decide); omega
    have b0 : d1 % ((ts.length : Int) - 1) ≤ d1 % ((ts.length : Int) - 1) + (2 + d1 / 8 % 3) := by omega
    obtain ⟨s, hw⟩ : ∃ s, atI [D.str "beside", D.str "stacked"] (d2 % 2) = some (.str (word s)) := by
      rcases Int.emod_two_eq d2 with q | q
      · exact ⟨false, by rw [q]; rfl⟩
      · exact ⟨true, by rw [q]; rfl⟩
    have md : modD (.int d1) (.int ((ts.length : Int) - 1)) = some (.int (d1 % ((ts.length : Int) - 1))) := by
      show (if 0 < (ts.length : Int) - 1 then some (D.int (d1 % ((ts.length : Int) - 1))) else none) = _
      rw [if_pos (by omega)]
    generalize hA : d1 % ((ts.length : Int) - 1) = a at a0 a1 b0 md
    generalize hZ : 2 + d1 / 8 % 3 = z at z0 b0
    have dr : ∀ {ρ : MP.Env} {c d : Int}, ρ.fz 0 = some (.lst (ds.map .int)) → ρ.fz 4 = some (.int tI) → atI (ds.map D.int) (c + tI) = some (.int d) → ev cx (.bi .int [(.e (.ix (.e (.var 0)) (.e (.bin .add (.e (.con (.int c))) (.e (.var 4))))))]) ρ = .ok (.int d) ρ := fun h0 h4 h => ev_bi1 (ev_ix (ev_var h0) (ev_bin ev_con (ev_var h4) rfl) h) rfl
    have sz1 : sizeL (cut ts (some a) (some (a + z))) ≤ sizeL ts := by
      rw [cut_mid ts a0 (by omega)]
      have := split3 ts (i := min a.toNat ts.length) (j := min (a + z).toNat ts.length) (by omega)
      omega
    obtain ⟨p', fl⟩ := f1_loop cx (.fr (.lst (ds.map .int))) A1 A2 (.fr (.lst (ts.map enc))) (.fr (.int tI)) A5 (.fr (.int a)) (.fr (.int z)) s (cut ts (some a) (some (a + z))) A11 (by omega)
    have fsz := flats_size s (cut ts (some a) (some (a + z)))
    have l1 := len_cut ts none (some a)
    have l2 := len_cut ts (some (a + z)) none
    have l3 := len_sizeL ts
    refine ⟨cut ts none (some a) ++ [Tr.node s ((cut ts (some a) (some (a + z))).flatMap (flatOf s))] ++ cut ts (some (a + z)) none, .fr (.int a), .fr (.int z), .fr (.str (word s)), .fr (.lst ((cut ts (some a) (some (a + z))).map enc)), .ow (.lst (((cut ts (some a) (some (a + z))).flatMap (flatOf s)).map enc)), p', by simp, ?_, ?_⟩
    · rw [sizeL_append, sizeL_append, sizeL, sizeL, size, cut_lo ts a0, cut_hi ts (by omega)]
      have := split3 ts (i := min a.toNat ts.length) (j := min (a + z).toNat ts.length) (by omega)
      rw [cut_mid ts a0 (by omega)] at fsz ⊢
      refine ⟨by omega, ?_⟩
      rw [List.length_append, List.length_append, List.length_take, List.length_drop, List.length_singleton]
      omega
    · refine seq_one (iff_T (cmp_gt (e_len rfl) hli) ?_)
      refine seq_nx (set_nm (d := .int a) (ev_bin (dr rfl rfl h1) (ev_bin (e_len rfl) ev_con rfl) md) (by show 6 < 12; decide)) ?_
      refine seq_nx (set_nm (d := .int z) (ev_bin ev_con (ev_bin (ev_bin (dr rfl rfl h1) ev_con (z := .int (d1 / 8)) rfl) ev_con (z := .int (d1 / 8 % 3)) rfl) (by rw [← hZ]; rfl)) (by show 7 < 12; decide)) ?_
      refine seq_nx (set_nm (d := .str (word s)) (ev_ix (x := .lst [.str "beside", .str "stacked"]) (by simp [Fn.run, exSs, exS, exH, SR.ofR, SR.ofO, ev, evs, evT, evTs, evO, evP, evIt, evIfs, evCls, evS, R.bind, R.of, R.mapEnv, R.noX, SR.mapEnv, MP.Env.fz, MP.Env.bo, MP.Env.own, T.res, resL, biD, lenD, cmpD, cltD, cleD, cgtD, cgeD, ixD, slD, revD, isiD, binD, addD, subD, mulD, modD, fdivD, powD, intC, tupC, atI, ixN, lockT, unlockT, lock, unlock, MP.wipe, MP.back, back1, Tg.asg, Tg.asgs, setSl, appR, extR, popR, itemsD, listC, emit, smallI, lim]) (ev_bin (dr rfl rfl h2) ev_con (z := .int (d2 % 2)) rfl) hw) (by show 8 < 12; decide)) ?_
      refine seq_nx (set_nm (d := .lst ((cut ts (some a) (some (a + z))).map enc)) (ev_sl (ev_var (d := .lst (ts.map enc)) rfl) (evO_int (ev_var (d := .int a) rfl)) (evO_int (ev_bin (ev_var (d := .int a) rfl) (ev_var (d := .int z) rfl) rfl)) (by show some (D.lst (cut (ts.map enc) (some a) (some (a + z)))) = _; rw [cut_map])) (by show 9 < 12; decide)) ?_
      refine seq_nx (ρ' := [.fr (.lst (ds.map .int)), A1, A2, .fr (.lst (ts.map enc)), .fr (.int tI), A5, .fr (.int a), .fr (.int z), .fr (.str (word s)), .fr (.lst ((cut ts (some a) (some (a + z))).map enc)), .ow (.lst []), A11]) (by simp [Fn.run, exSs, exS, exH, SR.ofR, SR.ofO, ev, evs, evT, evTs, evO, evP, evIt, evIfs, evCls, evS, R.bind, R.of, R.mapEnv, R.noX, SR.mapEnv, MP.Env.fz, MP.Env.bo, MP.Env.own, T.res, resL, biD, lenD, cmpD, cltD, cleD, cgtD, cgeD, ixD, slD, revD, isiD, binD, addD, subD, mulD, modD, fdivD, powD, intC, tupC, atI, ixN, lockT, unlockT, lock, unlock, MP.wipe, MP.back, back1, Tg.asg, Tg.asgs, setSl, appR, extR, popR, itemsD, listC, emit, smallI, lim]) ?_
      refine seq_nx ((for_ok (evIt_e (ev_var (d := .lst ((cut ts (some a) (some (a + z))).map enc)) rfl) rfl) fl).trans rfl) ?_
      refine seq_one ((set_nm (d := .lst ((cut ts none (some a) ++ [Tr.node s ((cut ts (some a) (some (a + z))).flatMap (flatOf s))] ++ cut ts (some (a + z)) none).map enc)) (ev_binS (y := .lst ((cut ts (some (a + z)) none).map enc)) (ev_binS (x := .lst ((cut ts none (some a)).map enc)) (y := .lst [enc (.node s ((cut ts (some a) (some (a + z))).flatMap (flatOf s)))]) ?_ ?_ (cat_lst ?_)) ?_ ?_) (by show 3 < 12; decide)).trans rfl)
      · exact ev_sl (ev_var (d := .lst (ts.map enc)) rfl) (by rw [evO]) (evO_int (ev_var (d := .int a) rfl)) (by show some (D.lst (cut (ts.map enc) none (some a))) = _; rw [cut_map])
      · simp [enc, encL_map, Fn.run, exSs, exS, exH, SR.ofR, SR.ofO, ev, evs, evT, evTs, evO, evP, evIt, evIfs, evCls, evS, R.bind, R.of, R.mapEnv, R.noX, SR.mapEnv, MP.Env.fz, MP.Env.bo, MP.Env.own, T.res, resL, biD, lenD, cmpD, cltD, cleD, cgtD, cgeD, ixD, slD, revD, isiD, binD, addD, subD, mulD, modD, fdivD, powD, intC, tupC, atI, ixN, lockT, unlockT, lock, unlock, MP.wipe, MP.back, back1, Tg.asg, Tg.asgs, setSl, appR, extR, popR, itemsD, listC, emit, smallI, lim]
      · rw [List.length_map]; unfold lim; simp only [List.length_cons, List.length_nil]; omega
      · exact ev_sl (ev_var (d := .lst (ts.map enc)) rfl) (evO_int (ev_bin (ev_var (d := .int a) rfl) (ev_var (d := .int z) rfl) rfl)) (by rw [evO]) (by show some (D.lst (cut (ts.map enc) (some (a + z)) none)) = _; rw [cut_map])
      · rw [cat_lst (by rw [List.length_append, List.length_map, List.length_map]; unfold lim; simp only [List.length_cons, List.length_nil]; omega), List.map_append, List.map_append]
        rfl
  · refine ⟨ts, A6, A7, A8, A9, A10, A11, h0, ⟨by omega, Nat.le_refl _⟩, seq_one (iff_F (cmp_ngt (e_len rfl) (fun q => hl (Int.ofNat_lt.mp q))) ?_)⟩
    rw [exSs]
theorem c_st (n : Nat) (ds : List D) : pr.cf (n+1) "_law_some_tree" ds = f_law_some_tree.run ⟨pr.cf n, pr.gl⟩ ds := cf_eq rfl n ds
theorem st_c1 (cx : Cxt) (A0 A1 : Sl) (ns : List Int) (h : ns.length ≤ 8) : evP cx f_law_some_tree_c1 [A0, A1, .fr (.tup (ns.map .int)), .un, .un, .un, .un, .un, .un, .un, .un, .un] = .ok (.lst ((ns.map Tr.item).map enc)) [A0, A1, .fr (.tup (ns.map .int)), .un, .un, .un, .un, .un, .un, .un, .un, .un] := by
  let g : D → List D := fun y => match y with | .int b => [enc (.item b)] | _ => []
  have eg : ∀ l : List Int, (l.map D.int).flatMap g = (l.map Tr.item).map enc := fun l => by
    induction l with
    | nil => rfl
    | cons x l ih => rw [List.map_cons, List.flatMap_cons, ih]; rfl
  have lp := turns_app (F := TF cx (.nm 5) [] fun acc ρ => evCls cx (emit (ev cx (.tup [.con (.str "item"), .var 5]))) [] acc ρ) (g := g)
    (fun ρ => ∃ b, ρ = [A0, A1, .fr (.tup (ns.map .int)), .un, .un, b, .un, .un, .un, .un, .un, .un]) (ns.map .int) [] [A0, A1, .fr (.tup (ns.map .int)), .un, .un, .un, .un, .un, .un, .un, .un, .un] ?_ ⟨_, rfl⟩ (by rw [eg, List.length_map, List.length_map]; simp [lim]; omega)
  · obtain ⟨ρ', ⟨b, rfl⟩, e⟩ := lp
    rw [eg] at e
    refine (comp_ok (xs := ns.map .int) (ρ1 := [A0, A1, .fr (.tup (ns.map .int)), .un, .un, .un, .un, .un, .un, .un, .un, .un]) (evIt_e (ev_var rfl) rfl) e).trans ?_
    simp [unlockT, lockT, MP.back, back1]
  · rintro y hy acc ρ ⟨b, rfl⟩ hl
    obtain ⟨c, _, rfl⟩ := List.mem_map.mp hy
    refine ⟨_, ⟨.fr (.int c), rfl⟩, TF_ok (ρ1 := [A0, A1, .fr (.tup (ns.map .int)), .un, .un, .fr (.int c), .un, .un, .un, .un, .un, .un]) (by simp [Tg.asg]) (emit_ok (d := enc (.item c)) (by simp [ev, evs, R.bind, R.of, MP.Env.fz, lim, enc]) ?_)⟩
    have : (g (.int c)).length = 1 := rfl
    omega
theorem items_sz : ∀ ns : List Int, sizeL (ns.map Tr.item) = ns.length
  | [] => rfl
  | n :: ns => by rw [List.map_cons, sizeL, items_sz ns, size, List.length_cons]; omega
/-- the last joinings -/
theorem f3_ok (cx : Cxt) : ∀ (m : Nat) (ts : List Tr), ts ≠ [] → ts.length ≤ m → ts.length ≤ 100 → ∀ (A0 A1 A2 A4 A5 A6 A7 A8 A9 A10 A11 : Sl),
    ∃ t, size t + 1 ≤ sizeL ts + ts.length ∧ whileL (ev cx (.cmp .gt (.e (.bi .len [(.e (.var 3))])) (.e (.con (.int 1))))) (exSs cx f_law_some_tree_b3) (m + 1) [A0, A1, A2, .fr (.lst (ts.map enc)), A4, A5, A6, A7, A8, A9, A10, A11] = .nx [A0, A1, A2, .fr (.lst [enc t]), A4, A5, A6, A7, A8, A9, A10, A11] := by
  intro m
  induction m with
  | zero => intro ts h0 hm; exact absurd (List.length_eq_zero_iff.mp (by omega)) h0
  | succ m ih =>
    intro ts h0 hm h8 A0 A1 A2 A4 A5 A6 A7 A8 A9 A10 A11
    have e_len : ∀ {ρ : MP.Env}, ρ.fz 3 = some (.lst (ts.map enc)) → ev cx (.bi .len [(.e (.var 3))]) ρ = .ok (.int (ts.length : Int)) ρ := fun h => ev_bi1 (ev_var h) (by
      show some (D.int ((ts.map enc).length : Int)) = _
      rw [List.length_map])
    cases ts with
    | nil => exact absurd rfl h0
    | cons t ts =>
    cases ts with
    | nil =>
      refine ⟨t, by simp [sizeL], ?_⟩
      have hc : ev cx (.cmp .gt (.e (.bi .len [(.e (.var 3))])) (.e (.con (.int 1)))) [A0, A1, A2, .fr (.lst ([t].map enc)), A4, A5, A6, A7, A8, A9, A10, A11] = .ok (.bl false) [A0, A1, A2, .fr (.lst ([t].map enc)), A4, A5, A6, A7, A8, A9, A10, A11] := cmp_ngt (e_len rfl) (by simp)
      simp only [whileL, hc]
      rfl
    | cons u r =>
      simp only [List.length_cons] at hm h8
      obtain ⟨v, hv, e⟩ := ih (.node false [t, u] :: r) (by simp) (by simp; omega) (by simp; omega) A0 A1 A2 A4 A5 A6 A7 A8 A9 A10 A11
      refine ⟨v, by simp [sizeL, size] at hv ⊢; omega, whl_T (cmp_gt (e_len rfl) (by simp; omega)) (seq_one ((set_nm (d := .lst ((Tr.node false [t, u] :: r).map enc)) (ev_binS (x := .lst [enc (.node false [t, u])]) (y := .lst (r.map enc)) ?_ (ev_sl (ev_var (d := .lst ((t :: u :: r).map enc)) rfl) (evO_int ev_con) (by rw [evO]) ?_) (cat_lst ?_)) (by show 3 < 12; decide)).trans rfl)) e⟩
      · exact ev_frl (ev_tup2 ev_con (ev_tup2 (ev_ix (ev_var (d := .lst ((t :: u :: r).map enc)) rfl) ev_con (atI_nat (k := 0) rfl)) (ev_ix (ev_var (d := .lst ((t :: u :: r).map enc)) rfl) ev_con (atI_nat (k := 1) rfl))))
      · show some (D.lst (cut ((t :: u :: r).map enc) (some 2) none)) = _
        rw [cut_hi _ (by decide)]
        simp
      · rw [List.length_map]; unfold lim; simp only [List.length_cons, List.length_nil]; omega
theorem draw_nat {ds : List Int} (h : ds.length = 40) (k : Nat) (hk : k < 40) : ∃ d, atI (ds.map D.int) (k : Int) = some (.int d) := by
  refine ⟨ds[k]'(by omega), atI_nat ?_⟩
  rw [List.getElem?_map, List.getElem?_eq_getElem (by omega)]
  rfl
theorem some_tree_ok (n : Nat) {ds : List Int} (h : ds.length = 40) (k : Nat) (hk : 1 ≤ k ∧ k ≤ 8) : ∃ t, size t ≤ 23 ∧ pr.cf (n+2) "_law_some_tree" [.lst (ds.map .int), .int (k : Int)] = .ok (enc t) := by
  rw [c_st]
  obtain ⟨ns, hn, e1⟩ := names_ok n h k hk.2
  generalize (k : Int) = kk at e1 ⊢
  have lp := forL_inv (f := fun x ρ => SR.ofO ((Tg.nm 4).asg x ρ) fun ρ => exSs ⟨pr.cf (n+1), pr.gl⟩ f_law_some_tree_b2 ρ)
    (fun i ρ => ∃ (ts : List Tr) (A4 A6 A7 A8 A9 A10 A11 : Sl), ts ≠ [] ∧ (sizeL ts ≤ k + i ∧ ts.length ≤ 8) ∧ i ≤ 8 ∧ ρ = [.fr (.lst (ds.map .int)), .fr (.int kk), .fr (.tup (ns.map .int)), .fr (.lst (ts.map enc)), A4, .un, A6, A7, A8, A9, A10, A11]) (rng 0 8) 0 [.fr (.lst (ds.map .int)), .fr (.int kk), .fr (.tup (ns.map .int)), .fr (.lst ((ns.map Tr.item).map enc)), .un, .un, .un, .un, .un, .un, .un, .un] ?_ ⟨ns.map Tr.item, .un, .un, .un, .un, .un, .un, .un, fun z => by simp at z; rw [z] at hn; simp at hn; omega, ⟨by rw [items_sz]; omega, by rw [List.length_map]; omega⟩, by omega, rfl⟩
  · obtain ⟨ρ', ⟨ts, A4, A6, A7, A8, A9, A10, A11, h0, hs, _, rfl⟩, e⟩ := lp
    have hlen : (rng 0 8).length = 8 := rfl
    rw [hlen, Nat.zero_add] at hs
    obtain ⟨t, st, e3⟩ := f3_ok ⟨pr.cf (n+1), pr.gl⟩ 999999 ts h0 (by omega) (by omega) (.fr (.lst (ds.map .int))) (.fr (.int kk)) (.fr (.tup (ns.map .int))) A4 .un A6 A7 A8 A9 A10 A11
    refine ⟨t, by omega, run_ret rfl (ρ' := [.fr (.lst (ds.map .int)), .fr (.int kk), .fr (.tup (ns.map .int)), .fr (.lst [enc t]), A4, .un, A6, A7, A8, A9, A10, A11]) ?_⟩
    show exSs _ [_, _, _, _, _] [.fr (.lst (ds.map .int)), .fr (.int kk), .un, .un, .un, .un, .un, .un, .un, .un, .un, .un] = _
    refine seq_nx (ρ' := [.fr (.lst (ds.map .int)), .fr (.int kk), .fr (.tup (ns.map .int)), .un, .un, .un, .un, .un, .un, .un, .un, .un]) ((set_nm (d := .tup (ns.map .int)) ?_ (by show 2 < 12; decide)).trans rfl) ?_
    · have c : ev ⟨pr.cf (n+1), pr.gl⟩ (.call "_law_names" [.var 0, .con (.int 3), .var 1]) [.fr (.lst (ds.map .int)), .fr (.int kk), .un, .un, .un, .un, .un, .un, .un, .un, .un, .un] = .ok (.tup (ns.map .int)) [.fr (.lst (ds.map .int)), .fr (.int kk), .un, .un, .un, .un, .un, .un, .un, .un, .un, .un] := by
        exact ev_call3 (x := .lst (ds.map .int)) (y := .int 3) (z := .int kk) (ev_var rfl) ev_con (ev_var rfl) e1
      exact c
    refine seq_nx (ρ' := [.fr (.lst (ds.map .int)), .fr (.int kk), .fr (.tup (ns.map .int)), .fr (.lst ((ns.map Tr.item).map enc)), .un, .un, .un, .un, .un, .un, .un, .un]) ((set_nm (d := .lst ((ns.map Tr.item).map enc)) (by rw [ev]; exact st_c1 _ _ _ ns (by omega)) (by show 3 < 12; decide)).trans rfl) ?_
    refine seq_nx ((for_ok (evIt_r1 (z := 8) ev_con (by decide)) e).trans rfl) ?_
    refine seq_nx (ρ' := [.fr (.lst (ds.map .int)), .fr (.int kk), .fr (.tup (ns.map .int)), .fr (.lst [enc t]), A4, .un, A6, A7, A8, A9, A10, A11]) (by rw [exS]; exact e3) ?_
    refine seq_one ?_
    have q : ixD (D.lst [enc t]) (.int 0) = some (enc t) := rfl
    rw [exS, ev_ix (ev_var (d := .lst [enc t]) rfl) ev_con q]
    rfl
  · rintro j x ρ hx ⟨ts, A4, A6, A7, A8, A9, A10, A11, h0, hs, h8, rfl⟩
    obtain ⟨rfl, hj⟩ := rng_get hx
    have hj : j < 8 := by simpa using hj
    obtain ⟨d1, q1⟩ := draw_nat h (12 + j) (by omega)
    obtain ⟨d2, q2⟩ := draw_nat h (21 + j) (by omega)
    have c1 : ((12 + j : Nat) : Int) = 12 + (0 + (j : Int)) := by omega
    have c2 : ((21 + j : Nat) : Int) = 21 + (0 + (j : Int)) := by omega
    rw [c1] at q1
    rw [c2] at q2
    obtain ⟨ts', B6, B7, B8, B9, B10, B11, w1, w2, e⟩ := f2_ok ⟨pr.cf (n+1), pr.gl⟩ (.fr (.int kk)) (.fr (.tup (ns.map .int))) (0 + (j : Int)) d1 d2 q1 q2 ts (by omega) h0 .un A6 A7 A8 A9 A10 A11
    exact ⟨_, ⟨ts', .fr (.int (0 + (j : Int))), B6, B7, B8, B9, B10, B11, w1, ⟨by omega, by omega⟩, by omega, rfl⟩, e⟩
/-! ### what is equal -/
theorem c_kind (n : Nat) (ds : List D) : pr.cf (n+1) "_law_kind" ds = f_law_kind.run ⟨pr.cf n, pr.gl⟩ ds := cf_eq rfl n ds
theorem kind_int (n : Nat) (i : Int) : pr.cf (n+1) "_law_kind" [.int i] = .ok (.int 2) := by
  rw [c_kind]
  simp [f_law_kind, Fn.run, exSs, exS, exH, SR.ofR, SR.ofO, ev, evs, evT, evTs, evO, evP, evIt, evIfs, evCls, evS, R.bind, R.of, R.mapEnv, R.noX, SR.mapEnv, MP.Env.fz, MP.Env.bo, MP.Env.own, T.res, resL, biD, lenD, cmpD, cltD, cleD, cgtD, cgeD, ixD, slD, revD, isiD, binD, addD, subD, mulD, modD, fdivD, powD, intC, tupC, atI, ixN, lockT, unlockT, lock, unlock, MP.wipe, MP.back, back1, Tg.asg, Tg.asgs, setSl, appR, extR, popR, itemsD, listC, emit, smallI, lim]
theorem kind_tup (n : Nat) (xs : List D) : pr.cf (n+1) "_law_kind" [.tup xs] = .ok (.int 4) := by
  rw [c_kind]
  simp [f_law_kind, Fn.run, exSs, exS, exH, SR.ofR, SR.ofO, ev, evs, evT, evTs, evO, evP, evIt, evIfs, evCls, evS, R.bind, R.of, R.mapEnv, R.noX, SR.mapEnv, MP.Env.fz, MP.Env.bo, MP.Env.own, T.res, resL, biD, lenD, cmpD, cltD, cleD, cgtD, cgeD, ixD, slD, revD, isiD, binD, addD, subD, mulD, modD, fdivD, powD, intC, tupC, atI, ixN, lockT, unlockT, lock, unlock, MP.wipe, MP.back, back1, Tg.asg, Tg.asgs, setSl, appR, extR, popR, itemsD, listC, emit, smallI, lim]
theorem c_eq (n : Nat) (ds : List D) : pr.cf (n+1) "_law_equal" ds = f_law_equal.run ⟨pr.cf n, pr.gl⟩ ds := cf_eq rfl n ds
theorem equal_int (n : Nat) (i : Int) : pr.cf (n+2) "_law_equal" [.int i, .int i] = .ok (.bl true) := by
  rw [c_eq]
  refine run_ret rfl (ρ' := [.fr (.int i), .fr (.int i), .un, .un, .un]) ?_
  show exSs _ [_, _, _, _] [.fr (.int i), .fr (.int i), .un, .un, .un] = _
  refine seq_nx (iff_F (cmp_ne_same (ev_call1 (ev_var rfl) (kind_int n i)) (ev_call1 (ev_var rfl) (kind_int n i))) (by rw [exSs])) ?_
  refine seq_nx (iff_F (by simp [Fn.run, exSs, exS, exH, SR.ofR, SR.ofO, ev, evs, evT, evTs, evO, evP, evIt, evIfs, evCls, evS, R.bind, R.of, R.mapEnv, R.noX, SR.mapEnv, MP.Env.fz, MP.Env.bo, MP.Env.own, T.res, resL, biD, lenD, cmpD, cltD, cleD, cgtD, cgeD, ixD, slD, revD, isiD, binD, addD, subD, mulD, modD, fdivD, powD, intC, tupC, atI, ixN, lockT, unlockT, lock, unlock, MP.wipe, MP.back, back1, Tg.asg, Tg.asgs, setSl, appR, extR, popR, itemsD, listC, emit, smallI, lim]) (by rw [exSs])) ?_
  refine seq_nx (iff_F (by simp [Fn.run, exSs, exS, exH, SR.ofR, SR.ofO, ev, evs, evT, evTs, evO, evP, evIt, evIfs, evCls, evS, R.bind, R.of, R.mapEnv, R.noX, SR.mapEnv, MP.Env.fz, MP.Env.bo, MP.Env.own, T.res, resL, biD, lenD, cmpD, cltD, cleD, cgtD, cgeD, ixD, slD, revD, isiD, binD, addD, subD, mulD, modD, fdivD, powD, intC, tupC, atI, ixN, lockT, unlockT, lock, unlock, MP.wipe, MP.back, back1, Tg.asg, Tg.asgs, setSl, appR, extR, popR, itemsD, listC, emit, smallI, lim]) (by rw [exSs])) ?_
  refine seq_one ?_
  rw [exS, cmp_eq_same (ev_var (d := .int i) rfl) (ev_var (d := .int i) rfl)]
  rfl
theorem equal_tup (n : Nat) (xs : List D) (hl : xs.length ≤ 16777216) (ih : ∀ x ∈ xs, pr.cf (n+1) "_law_equal" [x, x] = .ok (.bl true)) : pr.cf (n+2) "_law_equal" [.tup xs, .tup xs] = .ok (.bl true) := by
  rw [c_eq]
  refine run_ret rfl (ρ' := [.fr (.tup xs), .fr (.tup xs), .un, .un, .un]) ?_
  show exSs _ [_, _, _, _] [.fr (.tup xs), .fr (.tup xs), .un, .un, .un] = _
  refine seq_nx (iff_F (cmp_ne_same (ev_call1 (ev_var rfl) (kind_tup n xs)) (ev_call1 (ev_var rfl) (kind_tup n xs))) (by rw [exSs])) ?_
  have e_len : ∀ {i : Nat} {ρ : MP.Env}, ρ.fz i = some (.tup xs) → ev ⟨pr.cf (n+1), pr.gl⟩ (.bi .len [(.e (.var i))]) ρ = .ok (.int (xs.length : Int)) ρ := fun h => ev_bi1 (ev_var h) rfl
  have lp := turns_app (F := TF ⟨pr.cf (n+1), pr.gl⟩ (.nm 3) [(.nt (.call "_law_equal" [(.ix (.e (.var 0)) (.e (.var 3))), (.ix (.e (.var 1)) (.e (.var 3)))]))] fun acc ρ => evCls ⟨pr.cf (n+1), pr.gl⟩ (emit (ev ⟨pr.cf (n+1), pr.gl⟩ (.var 3))) [] acc ρ) (g := fun _ => [])
    (fun ρ => ∃ b, ρ = [.fr (.tup xs), .fr (.tup xs), .un, b, .un]) (rng 0 (xs.length : Int)) [] [.fr (.tup xs), .fr (.tup xs), .un, .un, .un] ?_ ⟨_, rfl⟩ (by rw [flatMap_nil fun _ _ => rfl]; simp)
  · obtain ⟨ρ', ⟨b, rfl⟩, e⟩ := lp
    rw [flatMap_nil fun _ _ => rfl] at e
    have cp : evP ⟨pr.cf (n+1), pr.gl⟩ f_law_equal_c1 [.fr (.tup xs), .fr (.tup xs), .un, .un, .un] = .ok (.lst []) [.fr (.tup xs), .fr (.tup xs), .un, .un, .un] :=
      (comp_ok (evIt_r1 (e_len rfl) (smallI_nat _ hl)) e).trans (by simp [unlockT, lockT, MP.back, back1])
    refine seq_nx' (iff_T (by simp [Fn.run, exSs, exS, exH, SR.ofR, SR.ofO, ev, evs, evT, evTs, evO, evP, evIt, evIfs, evCls, evS, R.bind, R.of, R.mapEnv, R.noX, SR.mapEnv, MP.Env.fz, MP.Env.bo, MP.Env.own, T.res, resL, biD, lenD, cmpD, cltD, cleD, cgtD, cgeD, ixD, slD, revD, isiD, binD, addD, subD, mulD, modD, fdivD, powD, intC, tupC, atI, ixN, lockT, unlockT, lock, unlock, MP.wipe, MP.back, back1, Tg.asg, Tg.asgs, setSl, appR, extR, popR, itemsD, listC, emit, smallI, lim]) ?_)
    refine seq_nx (iff_F (cmp_ne_same (e_len rfl) (e_len rfl)) (by rw [exSs])) ?_
    refine seq_one ?_
    rw [exS, cmp_eq_same (z := 0) (ev_bi1 (x := .lst []) (by rw [ev]; exact cp) rfl) ev_con]
    rfl
  · rintro y hy acc ρ ⟨b, rfl⟩ hl
    obtain ⟨i, hi, rfl⟩ := rng_mem hy
    have hx : xs[i]? = some xs[i] := List.getElem?_eq_getElem hi
    have hm : xs[i] ∈ xs := List.getElem_mem hi
    generalize xs[i] = x at hx hm
    rw [List.append_nil]
    exact ⟨_, ⟨.fr (.int (i : Int)), rfl⟩, TF_no (ρ1 := [.fr (.tup xs), .fr (.tup xs), .un, .fr (.int (i : Int)), .un]) (by simp [Tg.asg]) (ev_not (ev_call2 (ev_ix (ev_var rfl) (ev_var rfl) (atI_nat hx)) (ev_ix (ev_var rfl) (ev_var rfl) (atI_nat hx)) (ih x hm)))⟩
theorem eq_answer (n : Nat) (t : Tr) (h : size t ≤ 23) : pr.cf (n+5) "_law_equal" [answer t, answer t] = .ok (.bl true) := by
  have pl := pairs_le t h
  unfold answer
  refine equal_tup (n+3) _ (by simp) fun x hx => ?_
  simp only [List.mem_cons, List.not_mem_nil, or_false] at hx
  rcases hx with rfl | rfl
  · exact equal_int (n+2) _
  · refine equal_tup (n+2) _ (by rw [List.length_map, (sortB_perm (pairs t)).length_eq]; omega) fun x hx => ?_
    obtain ⟨p, _, rfl⟩ := List.mem_map.mp hx
    unfold pD
    refine equal_tup (n+1) _ (by simp) fun x hx => ?_
    simp only [List.mem_cons, List.not_mem_nil, or_false] at hx
    rcases hx with rfl | rfl
    · exact equal_int n _
    · exact equal_int n _
theorem law_step (ns : List Int) (k : Nat) (D0 T0 : Sl) : ∃ D1 T1, exSs ⟨pr.cf 99, pr.gl⟩ f_law_b1 [.fr (.scr (ns.map .int)), .fr (.int (k : Int)), D0, T0] = .nx [.fr (.scr (ns.map .int)), .fr (.int (k : Int)), D1, T1] := by
  obtain ⟨c, hc⟩ : ∃ c, pr.cf 99 "_law_cell" [.scr (ns.map .int), .int (k : Int)] = .ok (.int c) := ⟨_, cell 98 ns k⟩
  generalize (k : Int) = kk at hc ⊢
  obtain ⟨ds, h40, hok, hd⟩ := draws 98 c
  have h0 : ds[0]? = some ds[0] := List.getElem?_eq_getElem (by omega)
  generalize ds[0] = d0 at h0
  have hx0 : ixD (.lst (ds.map D.int)) (.int 0) = some (.int d0) := by
    have := atI_nat (xs := ds.map D.int) (k := 0) (x := .int d0) (by rw [List.getElem?_map, h0]; rfl)
    exact this
  have m0 := Int.emod_nonneg d0 (b := 8) (by decide)
  have m1 := Int.emod_lt_of_pos d0 (b := 8) (by decide)
  obtain ⟨t, ht, hst⟩ := some_tree_ok 97 h40 ((d0 % 8).toNat + 1) (by omega)
  have e8 : (((d0 % 8).toNat + 1 : Nat) : Int) = 1 + d0 % 8 := by omega
  rw [e8] at hst
  generalize hz : 1 + d0 % 8 = z at hst
  refine ⟨.fr (.lst (ds.map .int)), .fr (enc t), ?_⟩
  refine seq_nx (ρ' := [.fr (.scr (ns.map .int)), .fr (.int kk), .fr (.lst (ds.map .int)), T0]) ((set_nm (d := .lst (ds.map .int)) (ev_call2 (x := .int c) (y := .int 40) (ev_call2 (x := .scr (ns.map .int)) (y := .int kk) (ev_var rfl) (ev_var rfl) hc) ev_con hd) (by show 2 < 4; decide)).trans rfl) ?_
  refine seq_nx (ρ' := [.fr (.scr (ns.map .int)), .fr (.int kk), .fr (.lst (ds.map .int)), .fr (enc t)]) ((set_nm (d := enc t) (ev_call2 (x := .lst (ds.map .int)) (y := .int z) (ev_var rfl) (ev_binS ev_con (ev_binS (x := .int d0) (y := .int 8) (z := .int (d0 % 8)) (ev_ix (x := .lst (ds.map .int)) (y := .int 0) (ev_var rfl) ev_con hx0) ev_con rfl) (by rw [← hz]; rfl)) hst) (by show 3 < 4; decide)).trans rfl) ?_
  have a : pr.cf 99 "_law_equal" [answer t, answer t] = .ok (.bl true) := eq_answer 94 t ht
  have j1 : pr.cf 99 "joined" [enc t] = .ok (answer t) := joined_ok 98 t (by omega) ht
  have j2 : pr.cf 99 "_law_joined" [enc t] = .ok (answer t) := law_joined_ok 98 t (by omega) ht
  generalize answer t = w at a j1 j2
  refine seq_one (iff_F (ev_not (ev_call2 (x := w) (y := w) (ev_call1 (x := enc t) (ev_var rfl) j1) (ev_call1 (x := enc t) (ev_var rfl) j2) a)) (by rw [exSs]))
theorem c_law (n : Nat) (ds : List D) : pr.cf (n+1) "law" ds = f_law.run ⟨pr.cf n, pr.gl⟩ ds := cf_eq rfl n ds
theorem law_true (ns : List Int) (_ : ns.length ≤ 63) : pr.cf 100 "law" [.scr (ns.map .int)] = .ok (.bl true) := by
  rw [c_law]
  have lp := forL_inv (f := fun x ρ => SR.ofO ((Tg.nm 1).asg x ρ) fun ρ => exSs ⟨pr.cf 99, pr.gl⟩ f_law_b1 ρ)
    (fun _ ρ => ∃ A B C, ρ = [.fr (.scr (ns.map .int)), A, B, C]) (rng 0 3) 0 [.fr (.scr (ns.map .int)), .un, .un, .un] ?_ ⟨_, _, _, rfl⟩
  · obtain ⟨ρ', ⟨A, B, C, rfl⟩, e⟩ := lp
    refine run_ret rfl (ρ' := [.fr (.scr (ns.map .int)), A, B, C]) ?_
    show exSs _ [_, _] [.fr (.scr (ns.map .int)), .un, .un, .un] = _
    refine seq_nx ((for_ok (evIt_r1 (z := 3) ev_con (by decide)) e).trans rfl) ?_
    refine seq_nx' ?_
    have j := joined_ok 98 (.item 0) (by simp [size]) (by simp [size])
    have a := eq_answer 94 (.item 0) (by simp [size])
    have ea : answer (.item 0) = .tup [.int 1, .tup []] := by simp [answer, items, pairs, sortB]
    have ee : enc (.item 0) = .tup [.str "item", .int 0] := by simp [enc]
    rw [ee, ea] at j
    rw [ea] at a
    rw [exS, ev_call2 (x := .tup [.int 1, .tup []]) (y := .tup [.int 1, .tup []]) (ev_call1 (x := .tup [.str "item", .int 0]) (ev_tup2 ev_con ev_con) j) (ev_tup2 ev_con (y := .tup []) (by simp [ev, evs, R.bind, lim])) a]
    rfl
  · rintro i x ρ hx ⟨A, B, C, rfl⟩
    obtain ⟨rfl, hi⟩ := rng_get hx
    obtain ⟨D1, T1, e⟩ := law_step ns i B C
    rw [Int.zero_add]
    exact ⟨_, ⟨_, _, _, rfl⟩, e⟩
end K40

set_option maxHeartbeats 0
namespace K40h
open PySem PySem.Spec PyProof.Rows L2 MP
def top (i : Nat) : Stmt := PySem.Challenge.pw_orderwise_k40_trees_of_joins_joined.main.body.getD i (.Pass ⟨0, 0, 0, 0⟩)
def dOf (x : Str) (i : Nat) : He.DefD := ⟨(x, none), x, x, defArgs (top i), defBody (top i), defScope (top i), [], []⟩
def dfs : List (Str × Nat) := [("items_of", 1), ("pairs_of", 2), ("joined", 3), ("_law_cell", 5), ("_law_draws", 6), ("_law_kind", 7), ("_law_equal", 8), ("_law_names", 9), ("_law_some_tree", 10), ("_law_tree_items", 11), ("_law_joined", 12), ("law", 13)]
def fn : List He.DefD := dfs.map fun p => dOf p.1 p.2
def bis : List Str := ["len", "int", "str", "bool", "tuple", "list", "dict", "sorted", "range", "isinstance"]
def fa : List He.Fa := (dfs.map fun p => He.Fa.glo p.1) ++ bis.map He.Fa.free
abbrev Rr : PySem.W.OpenRow := PySem.W.OpenLaw.row PySem.Challenge.rw_orderwise_k40_trees_of_joins_joined
abbrev hk : PySem.W.Hook := He.hookD 4 fa fn
def ob (s : PySem.W.SharedT) : He.AlD := He.obsDG 4 fa fn (HandSHeadRun.getT s)
theorem ob_eq (s : PySem.W.SharedT) : ob s = hk.obs s.abs := He.obsDG_eq (HandSHeadRun.getT_eq s)
def loose : List Str := ["items_of", "pairs_of", "joined", "_law_cell", "_law_draws", "_law_kind", "_law_equal", "_law_names", "_law_some_tree", "_law_tree_items", "_law_joined"]
theorem run (w : World) : HandSHeadRun.RunEq Rr (PySem.W.view Rr.prog [13]) hk ob 2000 loose w := by
  intro os
  kernel_rfl
def d_items_of : Dt := ⟨K40.f_items_of, top 1⟩
def d_pairs_of : Dt := ⟨K40.f_pairs_of, top 2⟩
def d_joined : Dt := ⟨K40.f_joined, top 3⟩
def d_law_cell : Dt := ⟨K40.f_law_cell, top 5⟩
def d_law_draws : Dt := ⟨K40.f_law_draws, top 6⟩
def d_law_kind : Dt := ⟨K40.f_law_kind, top 7⟩
def d_law_equal : Dt := ⟨K40.f_law_equal, top 8⟩
def d_law_names : Dt := ⟨K40.f_law_names, top 9⟩
def d_law_some_tree : Dt := ⟨K40.f_law_some_tree, top 10⟩
def d_law_tree_items : Dt := ⟨K40.f_law_tree_items, top 11⟩
def d_law_joined : Dt := ⟨K40.f_law_joined, top 12⟩
def d_law : Dt := ⟨K40.f_law, top 13⟩
def dts : List Dt := [d_items_of, d_pairs_of, d_joined, d_law_cell, d_law_draws, d_law_kind, d_law_equal, d_law_names, d_law_some_tree, d_law_tree_items, d_law_joined, d_law]
def fns : List (Str × Nat) := dts.map fun d => (d.fn.name, d.fn.nargs)
theorem chk : (dts.all fun d => d.chk 60 bis fns []) = true := by decide +kernel
section
variable {K : PySem.W.Frag} {h : Heap} {mg : Str → Option Value} (X : K.In h) (G : h.Ns mainGlobals mg) (c : He.SaysD fa fn K)
include X G c in
theorem e_items_of : ∃ f fd, FnD K d_items_of f fd ∧ mg d_items_of.fn.name = some (.ref f) := by
  obtain ⟨fd, F⟩ := c.def_ 0 (d := dOf "items_of" 1) rfl
  exact ⟨_, fd, F, He.glo_ok X G (c.fact 0 (f := .glo "items_of") rfl)⟩
theorem b_items_of : BindsD d_items_of := fun _ _ _ _ _ _ us hl => match us, hl with | [_], _ => rfl
include X G c in
theorem e_pairs_of : ∃ f fd, FnD K d_pairs_of f fd ∧ mg d_pairs_of.fn.name = some (.ref f) := by
  obtain ⟨fd, F⟩ := c.def_ 1 (d := dOf "pairs_of" 2) rfl
  exact ⟨_, fd, F, He.glo_ok X G (c.fact 1 (f := .glo "pairs_of") rfl)⟩
theorem b_pairs_of : BindsD d_pairs_of := fun _ _ _ _ _ _ us hl => match us, hl with | [_], _ => rfl
include X G c in
theorem e_joined : ∃ f fd, FnD K d_joined f fd ∧ mg d_joined.fn.name = some (.ref f) := by
  obtain ⟨fd, F⟩ := c.def_ 2 (d := dOf "joined" 3) rfl
  exact ⟨_, fd, F, He.glo_ok X G (c.fact 2 (f := .glo "joined") rfl)⟩
theorem b_joined : BindsD d_joined := fun _ _ _ _ _ _ us hl => match us, hl with | [_], _ => rfl
include X G c in
theorem e_law_cell : ∃ f fd, FnD K d_law_cell f fd ∧ mg d_law_cell.fn.name = some (.ref f) := by
  obtain ⟨fd, F⟩ := c.def_ 3 (d := dOf "_law_cell" 5) rfl
  exact ⟨_, fd, F, He.glo_ok X G (c.fact 3 (f := .glo "_law_cell") rfl)⟩
theorem b_law_cell : BindsD d_law_cell := fun _ _ _ _ _ _ us hl => match us, hl with | [_, _], _ => rfl
include X G c in
theorem e_law_draws : ∃ f fd, FnD K d_law_draws f fd ∧ mg d_law_draws.fn.name = some (.ref f) := by
  obtain ⟨fd, F⟩ := c.def_ 4 (d := dOf "_law_draws" 6) rfl
  exact ⟨_, fd, F, He.glo_ok X G (c.fact 4 (f := .glo "_law_draws") rfl)⟩
theorem b_law_draws : BindsD d_law_draws := fun _ _ _ _ _ _ us hl => match us, hl with | [_, _], _ => rfl
include X G c in
theorem e_law_kind : ∃ f fd, FnD K d_law_kind f fd ∧ mg d_law_kind.fn.name = some (.ref f) := by
  obtain ⟨fd, F⟩ := c.def_ 5 (d := dOf "_law_kind" 7) rfl
  exact ⟨_, fd, F, He.glo_ok X G (c.fact 5 (f := .glo "_law_kind") rfl)⟩
theorem b_law_kind : BindsD d_law_kind := fun _ _ _ _ _ _ us hl => match us, hl with | [_], _ => rfl
include X G c in
theorem e_law_equal : ∃ f fd, FnD K d_law_equal f fd ∧ mg d_law_equal.fn.name = some (.ref f) := by
  obtain ⟨fd, F⟩ := c.def_ 6 (d := dOf "_law_equal" 8) rfl
  exact ⟨_, fd, F, He.glo_ok X G (c.fact 6 (f := .glo "_law_equal") rfl)⟩
theorem b_law_equal : BindsD d_law_equal := fun _ _ _ _ _ _ us hl => match us, hl with | [_, _], _ => rfl
include X G c in
theorem e_law_names : ∃ f fd, FnD K d_law_names f fd ∧ mg d_law_names.fn.name = some (.ref f) := by
  obtain ⟨fd, F⟩ := c.def_ 7 (d := dOf "_law_names" 9) rfl
  exact ⟨_, fd, F, He.glo_ok X G (c.fact 7 (f := .glo "_law_names") rfl)⟩
theorem b_law_names : BindsD d_law_names := fun _ _ _ _ _ _ us hl => match us, hl with | [_, _, _], _ => rfl
include X G c in
theorem e_law_some_tree : ∃ f fd, FnD K d_law_some_tree f fd ∧ mg d_law_some_tree.fn.name = some (.ref f) := by
  obtain ⟨fd, F⟩ := c.def_ 8 (d := dOf "_law_some_tree" 10) rfl
  exact ⟨_, fd, F, He.glo_ok X G (c.fact 8 (f := .glo "_law_some_tree") rfl)⟩
theorem b_law_some_tree : BindsD d_law_some_tree := fun _ _ _ _ _ _ us hl => match us, hl with | [_, _], _ => rfl
include X G c in
theorem e_law_tree_items : ∃ f fd, FnD K d_law_tree_items f fd ∧ mg d_law_tree_items.fn.name = some (.ref f) := by
  obtain ⟨fd, F⟩ := c.def_ 9 (d := dOf "_law_tree_items" 11) rfl
  exact ⟨_, fd, F, He.glo_ok X G (c.fact 9 (f := .glo "_law_tree_items") rfl)⟩
theorem b_law_tree_items : BindsD d_law_tree_items := fun _ _ _ _ _ _ us hl => match us, hl with | [_], _ => rfl
include X G c in
theorem e_law_joined : ∃ f fd, FnD K d_law_joined f fd ∧ mg d_law_joined.fn.name = some (.ref f) := by
  obtain ⟨fd, F⟩ := c.def_ 10 (d := dOf "_law_joined" 12) rfl
  exact ⟨_, fd, F, He.glo_ok X G (c.fact 10 (f := .glo "_law_joined") rfl)⟩
theorem b_law_joined : BindsD d_law_joined := fun _ _ _ _ _ _ us hl => match us, hl with | [_], _ => rfl
include X G c in
theorem e_law : ∃ f fd, FnD K d_law f fd ∧ mg d_law.fn.name = some (.ref f) := by
  obtain ⟨fd, F⟩ := c.def_ 11 (d := dOf "law" 13) rfl
  exact ⟨_, fd, F, He.glo_ok X G (c.fact 11 (f := .glo "law") rfl)⟩
theorem b_law : BindsD d_law := fun _ _ _ _ _ _ us hl => match us, hl with | [_], _ => rfl
include X G c in
theorem w1 : World1 K mg K40.pr dts bis fns [] := by
  refine ⟨?_, ?_, ?_, fun f n h => ?_, ?_, fun _ h => (List.not_mem_nil h).elim⟩
  · exact List.forall_mem_cons.mpr ⟨e_items_of X G c, List.forall_mem_cons.mpr ⟨e_pairs_of X G c, List.forall_mem_cons.mpr ⟨e_joined X G c, List.forall_mem_cons.mpr ⟨e_law_cell X G c, List.forall_mem_cons.mpr ⟨e_law_draws X G c, List.forall_mem_cons.mpr ⟨e_law_kind X G c, List.forall_mem_cons.mpr ⟨e_law_equal X G c, List.forall_mem_cons.mpr ⟨e_law_names X G c, List.forall_mem_cons.mpr ⟨e_law_some_tree X G c, List.forall_mem_cons.mpr ⟨e_law_tree_items X G c, List.forall_mem_cons.mpr ⟨e_law_joined X G c, List.forall_mem_cons.mpr ⟨e_law X G c, fun _ h => (List.not_mem_nil h).elim⟩⟩⟩⟩⟩⟩⟩⟩⟩⟩⟩⟩
  · exact List.forall_mem_cons.mpr ⟨b_items_of, List.forall_mem_cons.mpr ⟨b_pairs_of, List.forall_mem_cons.mpr ⟨b_joined, List.forall_mem_cons.mpr ⟨b_law_cell, List.forall_mem_cons.mpr ⟨b_law_draws, List.forall_mem_cons.mpr ⟨b_law_kind, List.forall_mem_cons.mpr ⟨b_law_equal, List.forall_mem_cons.mpr ⟨b_law_names, List.forall_mem_cons.mpr ⟨b_law_some_tree, List.forall_mem_cons.mpr ⟨b_law_tree_items, List.forall_mem_cons.mpr ⟨b_law_joined, List.forall_mem_cons.mpr ⟨b_law, fun _ h => (List.not_mem_nil h).elim⟩⟩⟩⟩⟩⟩⟩⟩⟩⟩⟩⟩
  · exact List.forall_mem_cons.mpr ⟨rfl, List.forall_mem_cons.mpr ⟨rfl, List.forall_mem_cons.mpr ⟨rfl, List.forall_mem_cons.mpr ⟨rfl, List.forall_mem_cons.mpr ⟨rfl, List.forall_mem_cons.mpr ⟨rfl, List.forall_mem_cons.mpr ⟨rfl, List.forall_mem_cons.mpr ⟨rfl, List.forall_mem_cons.mpr ⟨rfl, List.forall_mem_cons.mpr ⟨rfl, List.forall_mem_cons.mpr ⟨rfl, List.forall_mem_cons.mpr ⟨rfl, fun _ h => (List.not_mem_nil h).elim⟩⟩⟩⟩⟩⟩⟩⟩⟩⟩⟩⟩
  · obtain ⟨d, hd, e⟩ := List.mem_map.mp h
    cases e
    exact ⟨d, hd, rfl, rfl⟩
  · exact List.forall_mem_cons.mpr ⟨He.free_ok X G (c.fact 12 (f := .free "len") rfl), List.forall_mem_cons.mpr ⟨He.free_ok X G (c.fact 13 (f := .free "int") rfl), List.forall_mem_cons.mpr ⟨He.free_ok X G (c.fact 14 (f := .free "str") rfl), List.forall_mem_cons.mpr ⟨He.free_ok X G (c.fact 15 (f := .free "bool") rfl), List.forall_mem_cons.mpr ⟨He.free_ok X G (c.fact 16 (f := .free "tuple") rfl), List.forall_mem_cons.mpr ⟨He.free_ok X G (c.fact 17 (f := .free "list") rfl), List.forall_mem_cons.mpr ⟨He.free_ok X G (c.fact 18 (f := .free "dict") rfl), List.forall_mem_cons.mpr ⟨He.free_ok X G (c.fact 19 (f := .free "sorted") rfl), List.forall_mem_cons.mpr ⟨He.free_ok X G (c.fact 20 (f := .free "range") rfl), List.forall_mem_cons.mpr ⟨He.free_ok X G (c.fact 21 (f := .free "isinstance") rfl), fun _ h => (List.not_mem_nil h).elim⟩⟩⟩⟩⟩⟩⟩⟩⟩⟩
end
theorem facts {P : Program} {w : World} {K : PySem.W.Frag} {h : Heap} {mg : Str → Option Value} {f : Addr} (X : K.In h) (G : h.Ns mainGlobals mg) (hfa : mg ("law" : Str) = some (.ref f)) (c : He.SaysD fa fn K) :
    ∃ fd : FuncData, (∀ (s : Shared) (v : Value), BindsTo s fd ⟨[v], []⟩ [("script", v)]) ∧ ∀ base : Heap, K.In base → base.Ns mainGlobals mg → FnOk P w K mg base CX0 100 f fd ["script"] (fun vs H Q _ => spF K (fun _ => .none) (K40.pr.cf 100) "law" 1 vs H Q fun _ _ _ => False) := by
  have Y := w1 X G c
  obtain ⟨f', fd, F, g⟩ := Y.defs d_law (by unfold dts; simp)
  have e : Value.ref f = .ref f' := Option.some.inj (hfa.symm.trans g)
  cases e
  have b := FunD.bindsA (ps := ["script"]) F fun _ _ _ _ _ _ us hl => match us, hl with | [_], _ => rfl
  exact ⟨fd, fun s v => b s [v] rfl, fun base _ _ => calmFn (fnM Y chk 100 d_law (by unfold dts; simp) f fd F)⟩
end K40h
open PySem PySem.W PySem.Calls PyProof.Rows
theorem PySem.Challenge.cw_orderwise_k40_trees_of_joins_joined_holds : PySem.Challenge.rw_orderwise_k40_trees_of_joins_joined.Holds := by
  w_on; o_law
  refine HandSHeadRun.head_any (r := OpenLaw.row PySem.Challenge.rw_orderwise_k40_trees_of_joins_joined) (q := view (OpenLaw.row PySem.Challenge.rw_orderwise_k40_trees_of_joins_joined).prog [13]) (H := K40h.hk) (ob := K40h.ob) (M := 2000) (loose := K40h.loose) (d := HandSHeadRun.topDef (OpenLaw.row PySem.Challenge.rw_orderwise_k40_trees_of_joins_joined).prog 13) (kwd := []) K40h.ob_eq
    (by kernel_rfl) (fun s => by kernel_rfl) K40h.run (by kernel_rfl) (by kernel_rfl) (by kernel_rfl) (by rfl) (by first | assumption | decide +kernel) (by decide +kernel) ⟨rfl, rfl, rfl, rfl, rfl, by decide +kernel⟩ ?hw ?hc
  case hw => w_witness2
  case hc =>
    refine L2.walk_ofE (l := PySem.Challenge.rw_orderwise_k40_trees_of_joins_joined) (n := 63) (k := 100) (x := "script") (CX := L2.CX0) rfl (by decide) (by kernel_rfl) ⟨rfl, by decide, by decide⟩ ?F (fun _ _ _ _ z => z)
    intro w mg fa h Y G hmg0
    obtain ⟨K, KX, c⟩ := Y
    have hmg : mg ("law" : PySem.Str) = some (.ref fa) := by
      have e : (HandSHeadRun.topDef (OpenLaw.row PySem.Challenge.rw_orderwise_k40_trees_of_joins_joined).prog 13).name = ("law" : PySem.Str) := by kernel_rfl
      rw [← e]
      exact hmg0
    obtain ⟨fd, hb, hF⟩ := K40h.facts (P := (PySem.Challenge.rw_orderwise_k40_trees_of_joins_joined).prog) (w := w) KX G hmg c
    exact ⟨K, fd, fun vs H Q _ => MP.spF K (fun _ => .none) (K40.pr.cf 100) "law" 1 vs H Q fun _ _ _ => False, KX, hb, fun H a ns hl _ hS => MP.law_sp hS (K40.law_true ns hl), hF⟩
